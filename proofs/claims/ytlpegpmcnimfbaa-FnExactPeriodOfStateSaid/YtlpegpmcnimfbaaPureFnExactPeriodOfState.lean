/- For all arguments the program and the reference return the same from PeriodOfState: the plain statement over numbers and lists, and its proof. -/
import Derived.Test.YtlpegpmcnimfbaaPFnExactPeriodOfStatex1
import Derived.Test.YtlpegpmcnimfbaaPFnExactPeriodOfStatex2
import Derived.Test.YtlpegpmcnimfbaaPFnExactPeriodOfStatex3
import Derived.Test.YtlpegpmcnimfbaaPFnExactPeriodOfStatex4
import Derived.Test.YtlpegpmcnimfbaaPFnExactPeriodOfStatex5
import Derived.Test.YtlpegpmcnimfbaaPFnExactPeriodOfStatex6
import Derived.Test.YtlpegpmcnimfbaaPFnExactPeriodOfStatex7
namespace Go.Proofs.Ytlpegpmcnimfbaa.Pure
open Go.RowKit Go.Proofs.Ytlpegpmcnimfbaa.PFnExactPeriodOfState Go.Proofs.YtlpegpmcnimfbaaW.PrintWords Go.Proofs.YtlpegpmcnimfbaaW.PrintLast Go.Proofs.YtlpegpmcnimfbaaW.PrintMore
set_option linter.unusedVariables false
set_option linter.unusedSimpArgs false
set_option maxRecDepth 100000
theorem w64 {x : Int} (h0 : -9223372036854775808 ≤ x) (h1 : x ≤ 9223372036854775807) : wrap64 x = x := by
  unfold wrap64
  omega

theorem mul_fits {x y A B : Int} (hx : x.natAbs ≤ A.natAbs) (hy : y.natAbs ≤ B.natAbs) : (x * y).natAbs ≤ (A * B).natAbs := by
  rw [Int.natAbs_mul, Int.natAbs_mul]
  exact Nat.mul_le_mul hx hy

/-- A product of numbers of at most nine digits. -/
theorem mul9 {x y : Int} (hx : x.natAbs ≤ 1000000000) (hy : y.natAbs ≤ 1000000000) : (x * y).natAbs ≤ 1000000000000000000 := by
  rw [Int.natAbs_mul]
  exact Nat.le_trans (Nat.mul_le_mul hx hy) (by decide)

theorem wf_range {a : Int} (h : (Lit.int .i64 a).wf = true) : -9223372036854775808 ≤ a ∧ a ≤ 9223372036854775807 := by
  simp [Lit.wf, IntKind.min, IntKind.max, IntKind.signed, IntKind.bits] at h
  omega

theorem rd_get {xs : List Int} {j : Nat} (h : j < xs.length) : rd xs (j : Int) = xs[j] := by
  unfold rd
  rw [Int.toNat_natCast, List.getD_eq_getElem?_getD, List.getElem?_eq_getElem h]
  rfl

theorem rd1_get {xs : List (List Int)} {j : Nat} (h : j < xs.length) : rd_L1 xs (j : Int) = xs[j] := by
  unfold rd_L1
  rw [Int.toNat_natCast, List.getD_eq_getElem?_getD, List.getElem?_eq_getElem h]
  rfl

theorem szSS_l0 (rows : List (List Int)) (hl : rows.length ≤ 9223372036854775807) (hr : ∀ r ∈ rows, r.length ≤ 9223372036854775807) : ∀ (m j : Nat) (left : Int), j + m = rows.length → 0 ≤ left → left ≤ 1048576 →
    ∃ r, (∃ K, ∀ k, K ≤ k → laws_szIntSS.l0 k rows left j = some r) ∧ (0 ≤ r → ∀ i (h : i < rows.length), j ≤ i → (rows[i].length : Int) ≤ left) := by
  intro m
  induction m with
  | zero =>
    intro j left hj h0 h1
    refine ⟨left, ⟨1, fun k hk => ?_⟩, fun _ i h hi => by omega⟩
    obtain ⟨k, rfl⟩ : ∃ m, k = m + 1 := ⟨k - 1, by omega⟩
    simp only [laws_szIntSS.l0]
    rw [if_neg (by omega)]
  | succ m ih =>
    intro j left hj h0 h1
    have hlt : j < rows.length := by omega
    have hrr := hr _ (List.getElem_mem hlt)
    by_cases hc : left - (rows[j].length : Int) < 0
    · refine ⟨-1, ⟨1, fun k hk => ?_⟩, fun h => by omega⟩
      obtain ⟨k, rfl⟩ : ∃ m, k = m + 1 := ⟨k - 1, by omega⟩
      simp only [laws_szIntSS.l0, laws_szIntS.f]
      rw [if_pos (by omega), if_pos (by omega), rd1_get hlt, w64 (x := left - (rows[j].length : Int)) (by omega) (by omega), if_pos hc]
      rfl
    · obtain ⟨r, ⟨K, E⟩, h⟩ := ih (j + 1) (left - (rows[j].length : Int)) (by omega) (by omega) (by omega)
      refine ⟨r, ⟨K + 1, fun k hk => ?_⟩, fun h2 i hi hji => ?_⟩
      · obtain ⟨k, rfl⟩ : ∃ m, k = m + 1 := ⟨k - 1, by omega⟩
        simp only [laws_szIntSS.l0, laws_szIntS.f]
        rw [if_pos (by omega), if_pos (by omega), rd1_get hlt, w64 (x := left - (rows[j].length : Int)) (by omega) (by omega), if_neg hc]
        simp only [Option.bind_some]
        rw [if_neg hc, w64 (x := (j : Int) + 1) (by omega) (by omega)]
        exact E k (by omega)
      · by_cases hij : i = j
        · subst hij; omega
        · have := h h2 i hi (by omega)
          omega

theorem szStates_ev (o : Int) (rows : List (List Int)) (hl : rows.length ≤ 9223372036854775807) (hr : ∀ r ∈ rows, r.length ≤ 9223372036854775807) :
    ∃ r, (∃ K, ∀ k, K ≤ k → laws_szStates.f k o rows 1048576 = some r) ∧ (0 ≤ r → rows.length ≤ 1048576 ∧ ∀ x ∈ rows, x.length ≤ 1048576) := by
  by_cases hc : 1048576 - (rows.length : Int) < 0
  · refine ⟨-1, ⟨0, fun k _ => ?_⟩, fun h => by omega⟩
    simp only [laws_szStates.f, laws_szIntSS.f]
    rw [w64 (x := 1048576 - (rows.length : Int)) (by omega) (by omega), if_pos hc]
    rfl
  · obtain ⟨r, ⟨K, E⟩, h⟩ := szSS_l0 rows hl hr rows.length 0 (1048576 - (rows.length : Int)) (by omega) (by omega) (by omega)
    by_cases hr0 : r < 0
    · refine ⟨-1, ⟨K, fun k hk => ?_⟩, fun h => by omega⟩
      simp only [laws_szStates.f, laws_szIntSS.f]
      rw [w64 (x := 1048576 - (rows.length : Int)) (by omega) (by omega), if_neg hc, show laws_szIntSS.l0 k rows (1048576 - (rows.length : Int)) 0 = some r from E k hk]
      simp only [Option.bind_some]
      rw [if_pos hr0]
    · refine ⟨r, ⟨K, fun k hk => ?_⟩, fun h0 => ⟨by omega, fun x hx => ?_⟩⟩
      · simp only [laws_szStates.f, laws_szIntSS.f]
        rw [w64 (x := 1048576 - (rows.length : Int)) (by omega) (by omega), if_neg hc, show laws_szIntSS.l0 k rows (1048576 - (rows.length : Int)) 0 = some r from E k hk]
        simp only [Option.bind_some]
        rw [if_neg hr0]
      · obtain ⟨i, hi, rfl⟩ := List.getElem_of_mem hx
        have := h h0 i hi (by omega)
        omega

theorem toIntS_l0 (xs : List Int) (hx : xs.length ≤ 1048576) : ∀ (m j k : Nat) (ys : List Int), m < k → j + m = xs.length → ys.length = xs.length → ys.take j = xs.take j →
    laws_toIntS.l0 k xs ys j = some xs := by
  intro m
  induction m with
  | zero =>
    intro j k ys hk hj hy ht
    obtain ⟨k, rfl⟩ : ∃ m, k = m + 1 := ⟨k - 1, by omega⟩
    simp only [laws_toIntS.l0]
    rw [if_neg (by omega)]
    rw [List.take_of_length_le (by omega), List.take_of_length_le (by omega)] at ht
    rw [ht]
  | succ m ih =>
    intro j k ys hk hj hy ht
    obtain ⟨k, rfl⟩ : ∃ m, k = m + 1 := ⟨k - 1, by omega⟩
    have hlt : j < xs.length := by omega
    simp only [laws_toIntS.l0]
    rw [if_pos (by omega), if_pos (by omega), if_pos (by omega), rd_get hlt, w64 (x := (j : Int) + 1) (by omega) (by omega), show (j : Int) + 1 = ((j + 1 : Nat) : Int) from by omega, Int.toNat_natCast]
    refine ih (j + 1) k _ (by omega) (by omega) (by rw [List.length_set]; exact hy) ?_
    rw [List.take_add_one, List.take_add_one, List.take_set_of_le (by omega), ht, List.getElem?_set_self (by omega), List.getElem?_eq_getElem hlt]

theorem toIntS_is (xs : List Int) (hx : xs.length ≤ 1048576) (k : Nat) (hk : xs.length < k) : laws_toIntS.f k xs = some xs := by
  unfold laws_toIntS.f
  rw [if_pos (by omega), if_pos (by omega)]
  exact toIntS_l0 xs hx xs.length 0 k _ hk (by omega) (by simp) rfl

theorem toIntSS_l0 (xs : List (List Int)) (hx : xs.length ≤ 1048576) (hr : ∀ r ∈ xs, r.length ≤ 1048576) : ∀ (m j k : Nat) (ys : List (List Int)), m + 1048578 < k → j + m = xs.length → ys.length = xs.length → ys.take j = xs.take j →
    laws_toIntSS.l0 k xs ys j = some xs := by
  intro m
  induction m with
  | zero =>
    intro j k ys hk hj hy ht
    obtain ⟨k, rfl⟩ : ∃ m, k = m + 1 := ⟨k - 1, by omega⟩
    simp only [laws_toIntSS.l0]
    rw [if_neg (by omega)]
    rw [List.take_of_length_le (by omega), List.take_of_length_le (by omega)] at ht
    rw [ht]
  | succ m ih =>
    intro j k ys hk hj hy ht
    obtain ⟨k, rfl⟩ : ∃ m, k = m + 1 := ⟨k - 1, by omega⟩
    have hlt : j < xs.length := by omega
    have hrr := hr _ (List.getElem_mem hlt)
    simp only [laws_toIntSS.l0]
    rw [if_pos (by omega), if_pos (by omega), rd1_get hlt, toIntS_is _ hrr k (by omega)]
    simp only [Option.bind_some]
    rw [if_pos (by omega), w64 (x := (j : Int) + 1) (by omega) (by omega), show (j : Int) + 1 = ((j + 1 : Nat) : Int) from by omega, Int.toNat_natCast]
    refine ih (j + 1) k _ (by omega) (by omega) (by rw [List.length_set]; exact hy) ?_
    rw [List.take_add_one, List.take_add_one, List.take_set_of_le (by omega), ht, List.getElem?_set_self (by omega), List.getElem?_eq_getElem hlt]

theorem toStates_is (o : Int) (xs : List (List Int)) (hx : xs.length ≤ 1048576) (hr : ∀ r ∈ xs, r.length ≤ 1048576) (k : Nat) (hk : 3000000 ≤ k) : laws_toStates.f k o xs = some (o, xs) := by
  unfold laws_toStates.f laws_toIntSS.f
  rw [if_pos (by omega), if_pos (by omega)]
  rw [show laws_toIntSS.l0 k xs (List.replicate ((xs.length : Int) : Int).toNat []) 0 = some xs from toIntSS_l0 xs hx hr xs.length 0 k _ (by omega) (by omega) (by simp) rfl]
  rfl

theorem eqIntS_l0 (xs : List Int) (hx : xs.length ≤ 1048576) : ∀ (m j k : Nat), m < k → j + m = xs.length → laws_eqIntS.l0 k xs xs j = some true := by
  intro m
  induction m with
  | zero =>
    intro j k hk hj
    obtain ⟨k, rfl⟩ : ∃ m, k = m + 1 := ⟨k - 1, by omega⟩
    simp only [laws_eqIntS.l0]
    rw [if_neg (by omega)]
  | succ m ih =>
    intro j k hk hj
    obtain ⟨k, rfl⟩ : ∃ m, k = m + 1 := ⟨k - 1, by omega⟩
    simp only [laws_eqIntS.l0, ↓reduceIte]
    rw [if_pos (by omega), if_pos (by omega), if_pos (by omega), w64 (x := (j : Int) + 1) (by omega) (by omega), show (j : Int) + 1 = ((j + 1 : Nat) : Int) from by omega]
    exact ih (j + 1) k (by omega) (by omega)

theorem eqIntS_is (xs : List Int) (hx : xs.length ≤ 1048576) (k : Nat) (hk : xs.length < k) : laws_eqIntS.f k xs xs = some true := by
  simp only [laws_eqIntS.f, ↓reduceIte]
  exact eqIntS_l0 xs hx xs.length 0 k hk (by omega)

theorem eqIntSS_l0 (xs : List (List Int)) (hx : xs.length ≤ 1048576) (hr : ∀ r ∈ xs, r.length ≤ 1048576) : ∀ (m j k : Nat), m + 1048578 < k → j + m = xs.length → laws_eqIntSS.l0 k xs xs j = some true := by
  intro m
  induction m with
  | zero =>
    intro j k hk hj
    obtain ⟨k, rfl⟩ : ∃ m, k = m + 1 := ⟨k - 1, by omega⟩
    simp only [laws_eqIntSS.l0]
    rw [if_neg (by omega)]
  | succ m ih =>
    intro j k hk hj
    obtain ⟨k, rfl⟩ : ∃ m, k = m + 1 := ⟨k - 1, by omega⟩
    have hlt : j < xs.length := by omega
    have hrr := hr _ (List.getElem_mem hlt)
    simp only [laws_eqIntSS.l0]
    rw [if_pos (by omega), if_pos (by omega), if_pos (by omega), rd1_get hlt, eqIntS_is _ hrr k (by omega)]
    simp only [Option.bind_some, ↓reduceIte]
    rw [w64 (x := (j : Int) + 1) (by omega) (by omega), show (j : Int) + 1 = ((j + 1 : Nat) : Int) from by omega]
    exact ih (j + 1) k (by omega) (by omega)

theorem eqIntSS_is (xs : List (List Int)) (hx : xs.length ≤ 1048576) (hr : ∀ r ∈ xs, r.length ≤ 1048576) (k : Nat) (hk : 3000000 ≤ k) : laws_eqIntSS.f k xs xs = some true := by
  simp only [laws_eqIntSS.f, ↓reduceIte]
  exact eqIntSS_l0 xs hx hr xs.length 0 k (by omega) (by omega)

theorem eqStates_is (o : Int) (xs : List (List Int)) (hx : xs.length ≤ 1048576) (hr : ∀ r ∈ xs, r.length ≤ 1048576) (k : Nat) (hk : 3000000 ≤ k) : laws_eqStates.f k o xs o xs = some true := by
  simp only [laws_eqStates.f, ↓reduceIte, eqIntSS_is xs hx hr k hk, Option.bind_some]

/-- A row of chances: n numbers from 0 on, o in all. -/
def GoodRow (n : Nat) (o : Int) (row : List Int) : Prop := row.length = n ∧ (∀ x ∈ row, 0 ≤ x) ∧ row.sum = o
/-- Valid states. -/
def Good (o : Int) (rows : List (List Int)) : Prop := 1 ≤ o ∧ o ≤ 10 ∧ 1 ≤ rows.length ∧ rows.length ≤ 5 ∧ ∀ row ∈ rows, GoodRow rows.length o row

theorem sum_nonneg : ∀ (l : List Int), (∀ x ∈ l, 0 ≤ x) → 0 ≤ l.sum
  | [], _ => by simp
  | x :: l, h => by
    have h1 := h x (by simp)
    have h2 := sum_nonneg l (fun y hy => h y (by simp [hy]))
    simp only [List.sum_cons]
    omega

theorem le_sum : ∀ (l : List Int), (∀ x ∈ l, 0 ≤ x) → ∀ x ∈ l, x ≤ l.sum
  | [], _, x, hx => by simp at hx
  | y :: l, h, x, hx => by
    have h1 := h y (by simp)
    have h2 := sum_nonneg l (fun z hz => h z (by simp [hz]))
    simp only [List.sum_cons]
    rcases List.mem_cons.1 hx with rfl | hx
    · omega
    · have := le_sum l (fun z hz => h z (by simp [hz])) x hx
      omega

theorem in_true {n a b : Int} (h : a ≤ n ∧ n ≤ b) : (if n ≥ a then some (decide (n ≤ b)) else some false) = some true := by
  rw [if_pos h.1, decide_eq_true h.2]
theorem in_false {n a b : Int} (h : ¬ (a ≤ n ∧ n ≤ b)) : (if n ≥ a then some (decide (n ≤ b)) else some false) = some false := by
  by_cases h1 : n ≥ a
  · rw [if_pos h1, decide_eq_false (by omega)]
  · rw [if_neg h1]

theorem l1All_l0 (a b : Int) (xs : List Int) (hx : xs.length ≤ 1048576) : ∀ (m j : Nat), j + m = xs.length →
    ∃ t : Bool, (t = true ↔ ∀ x ∈ xs.drop j, a ≤ x ∧ x ≤ b) ∧ ∀ k, m < k → spec_l1All.l0 k a b xs (xs.length : Int) j = some t := by
  intro m
  induction m with
  | zero =>
    intro j hj
    refine ⟨true, ?_, fun k hk => ?_⟩
    · rw [List.drop_of_length_le (by omega)]; simp
    · obtain ⟨k, rfl⟩ : ∃ m, k = m + 1 := ⟨k - 1, by omega⟩
      simp only [spec_l1All.l0]
      rw [if_neg (by omega)]
  | succ m ih =>
    intro j hj
    have hlt : j < xs.length := by omega
    by_cases h : a ≤ xs[j] ∧ xs[j] ≤ b
    · obtain ⟨t, ht, E⟩ := ih (j + 1) (by omega)
      refine ⟨t, ?_, fun k hk => ?_⟩
      · rw [List.drop_eq_getElem_cons hlt, ht]
        simp only [List.mem_cons, forall_eq_or_imp]
        exact ⟨fun h2 => ⟨h, h2⟩, fun h2 => h2.2⟩
      · obtain ⟨k, rfl⟩ : ∃ m, k = m + 1 := ⟨k - 1, by omega⟩
        simp only [spec_l1All.l0, spec_l1In.f]
        rw [if_pos (by omega), if_pos (by omega), if_pos (by omega), rd_get hlt, in_true h]
        simp only [Option.bind_some, ↓reduceIte]
        rw [w64 (x := (j : Int) + 1) (by omega) (by omega)]
        exact E k (by omega)
    · refine ⟨false, ?_, fun k hk => ?_⟩
      · rw [List.drop_eq_getElem_cons hlt]
        simp only [Bool.false_eq_true, false_iff]
        exact fun h2 => h (h2 _ List.mem_cons_self)
      · obtain ⟨k, rfl⟩ : ∃ m, k = m + 1 := ⟨k - 1, by omega⟩
        simp only [spec_l1All.l0, spec_l1In.f]
        rw [if_pos (by omega), if_pos (by omega), if_pos (by omega), rd_get hlt, in_false h]
        simp

theorem saGood_l1 (o : Int) (rows : List (List Int)) (jj : Int) (xs : List Int) (hx : xs.length ≤ 5) (ha : ∀ x ∈ xs, 0 ≤ x ∧ x ≤ 10) : ∀ (m j : Nat) (acc : Int), j + m = xs.length → 0 ≤ acc → acc ≤ 10 * j → ∀ k, m < k →
    spec_saGood.l1 k acc rows (rows.length : Int) jj xs (xs.length : Int) j o rows = if acc + (xs.drop j).sum = o then spec_saGood.l0 (k - m - 1) rows (rows.length : Int) (wrap64 (jj + 1)) o rows else some false := by
  intro m
  induction m with
  | zero =>
    intro j acc hj h0 h1 k hk
    obtain ⟨k, rfl⟩ : ∃ m, k = m + 1 := ⟨k - 1, by omega⟩
    simp only [spec_saGood.l1]
    rw [if_neg (by omega), List.drop_of_length_le (by omega)]
    simp
  | succ m ih =>
    intro j acc hj h0 h1 k hk
    obtain ⟨k, rfl⟩ : ∃ m, k = m + 1 := ⟨k - 1, by omega⟩
    have hlt : j < xs.length := by omega
    have hxj := ha _ (List.getElem_mem hlt)
    simp only [spec_saGood.l1]
    rw [if_pos (by omega), if_pos (by omega), if_pos (by omega), rd_get hlt, w64 (x := acc + xs[j]) (by omega) (by omega), w64 (x := (j : Int) + 1) (by omega) (by omega), show (j : Int) + 1 = ((j + 1 : Nat) : Int) from by omega]
    rw [ih (j + 1) (acc + xs[j]) (by omega) (by omega) (by omega) k (by omega), List.drop_eq_getElem_cons hlt, List.sum_cons, Int.add_assoc]
    rw [show k + 1 - (m + 1) - 1 = k - m - 1 from by omega]

theorem saGood_l0 (o : Int) (o1 : o ≤ 10) (rows : List (List Int)) (hn : rows.length ≤ 5) (hl : ∀ r ∈ rows, r.length ≤ 1048576) : ∀ (m j : Nat), j + m = rows.length →
    ∃ t : Bool, (t = true ↔ ∀ row ∈ rows.drop j, GoodRow rows.length o row) ∧ ∃ K, ∀ k, K ≤ k → spec_saGood.l0 k rows (rows.length : Int) j o rows = some t := by
  intro m
  induction m with
  | zero =>
    intro j hj
    refine ⟨true, ?_, 1, fun k hk => ?_⟩
    · rw [List.drop_of_length_le (by omega)]; simp
    · obtain ⟨k, rfl⟩ : ∃ m, k = m + 1 := ⟨k - 1, by omega⟩
      simp only [spec_saGood.l0]
      rw [if_neg (by omega)]
  | succ m ih =>
    intro j hj
    have hlt : j < rows.length := by omega
    have hll := hl _ (List.getElem_mem hlt)
    obtain ⟨t1, ht1, E1⟩ := l1All_l0 0 o rows[j] hll rows[j].length 0 (by omega)
    rw [List.drop_zero] at ht1
    have bad : ¬ GoodRow rows.length o rows[j] → (∃ K, ∀ k, K ≤ k → spec_saGood.l0 k rows (rows.length : Int) j o rows = some false) → ∃ t : Bool, (t = true ↔ ∀ row ∈ rows.drop j, GoodRow rows.length o row) ∧ ∃ K, ∀ k, K ≤ k → spec_saGood.l0 k rows (rows.length : Int) j o rows = some t := by
      intro hb hE
      refine ⟨false, ?_, hE⟩
      rw [List.drop_eq_getElem_cons hlt]
      simp only [Bool.false_eq_true, false_iff]
      exact fun h2 => hb (h2 _ List.mem_cons_self)
    by_cases c1 : rows[j].length = rows.length
    · cases t1 with
      | false =>
        refine bad (fun hg => ?_) ⟨1048580, fun k hk => ?_⟩
        · have := ht1.2 (fun x hx => ⟨hg.2.1 x hx, by have := le_sum _ hg.2.1 x hx; have := hg.2.2; omega⟩)
          simp at this
        · obtain ⟨k, rfl⟩ : ∃ m, k = m + 2 := ⟨k - 2, by omega⟩
          rw [spec_saGood.l0]
          rw [if_pos (by omega), if_pos (by omega), if_pos (by omega), rd1_get hlt, if_pos (by omega)]
          unfold spec_l1All.f
          rw [show spec_l1All.l0 (k + 1) 0 o rows[j] (rows[j].length : Int) 0 = some false from E1 _ (by omega)]
          simp only [Option.bind_some]
          rw [spec_saGood.j2]
          simp
      | true =>
        have hall := ht1.1 rfl
        have hs := saGood_l1 o rows j rows[j] (by omega) (fun x hx => ⟨(hall x hx).1, by have := (hall x hx).2; omega⟩) rows[j].length 0 0 (by omega) (by omega) (by omega)
        rw [List.drop_zero, Int.zero_add] at hs
        by_cases c2 : rows[j].sum = o
        · obtain ⟨t, ht, K, E⟩ := ih (j + 1) (by omega)
          refine ⟨t, ?_, K + 1048590, fun k hk => ?_⟩
          · rw [List.drop_eq_getElem_cons hlt, ht]
            simp only [List.mem_cons, forall_eq_or_imp]
            exact ⟨fun h2 => ⟨⟨c1, fun x hx => (hall x hx).1, c2⟩, h2⟩, fun h2 => h2.2⟩
          · obtain ⟨k, rfl⟩ : ∃ m, k = m + 2 := ⟨k - 2, by omega⟩
            rw [spec_saGood.l0]
            rw [if_pos (by omega), if_pos (by omega), if_pos (by omega), rd1_get hlt, if_pos (by omega)]
            unfold spec_l1All.f
            rw [show spec_l1All.l0 (k + 1) 0 o rows[j] (rows[j].length : Int) 0 = some true from E1 _ (by omega)]
            simp only [Option.bind_some, Bool.not_true]
            rw [spec_saGood.j2]
            simp only [Bool.false_eq_true, ↓reduceIte]
            have h3 := hs k (by omega)
            rw [if_pos c2, w64 (x := (j : Int) + 1) (by omega) (by omega)] at h3
            exact h3.trans (E _ (by omega))
        · refine bad (fun hg => c2 hg.2.2) ⟨1048590, fun k hk => ?_⟩
          obtain ⟨k, rfl⟩ : ∃ m, k = m + 2 := ⟨k - 2, by omega⟩
          rw [spec_saGood.l0]
          rw [if_pos (by omega), if_pos (by omega), if_pos (by omega), rd1_get hlt, if_pos (by omega)]
          unfold spec_l1All.f
          rw [show spec_l1All.l0 (k + 1) 0 o rows[j] (rows[j].length : Int) 0 = some true from E1 _ (by omega)]
          simp only [Option.bind_some, Bool.not_true]
          rw [spec_saGood.j2]
          simp only [Bool.false_eq_true, ↓reduceIte]
          have h3 := hs k (by omega)
          rw [if_neg c2] at h3
          exact h3
    · refine bad (fun hg => c1 hg.1) ⟨10, fun k hk => ?_⟩
      obtain ⟨k, rfl⟩ : ∃ m, k = m + 2 := ⟨k - 2, by omega⟩
      rw [spec_saGood.l0]
      rw [if_pos (by omega), if_pos (by omega), if_pos (by omega), rd1_get hlt, if_neg (by omega), spec_saGood.j2]
      simp

theorem saGood_ev (o : Int) (rows : List (List Int)) (hn : rows.length ≤ 1048576) (hl : ∀ r ∈ rows, r.length ≤ 1048576) :
    ∃ t : Bool, (t = true ↔ Good o rows) ∧ ∃ K, ∀ k, K ≤ k → spec_saGood.f k o rows = some t := by
  by_cases c1 : 1 ≤ o ∧ o ≤ 10
  · by_cases c2 : 1 ≤ (rows.length : Int) ∧ (rows.length : Int) ≤ 5
    · obtain ⟨t, ht, K, E⟩ := saGood_l0 o c1.2 rows (by omega) hl rows.length 0 (by omega)
      rw [List.drop_zero] at ht
      refine ⟨t, ht.trans ⟨fun h => ⟨c1.1, c1.2, by omega, by omega, h⟩, fun h => h.2.2.2.2⟩, K + 1, fun k hk => ?_⟩
      obtain ⟨k, rfl⟩ : ∃ m, k = m + 1 := ⟨k - 1, by omega⟩
      simp only [spec_saGood.f, spec_saGood.j0, spec_l1In.f, in_true c1, in_true c2, Option.bind_some, ↓reduceIte, Bool.not_true, Bool.false_eq_true]
      exact E k (by omega)
    · refine ⟨false, ⟨fun h => by simp at h, fun h => absurd ⟨by have := h.2.2.1; omega, by have := h.2.2.2.1; omega⟩ c2⟩, 1, fun k hk => ?_⟩
      obtain ⟨k, rfl⟩ : ∃ m, k = m + 1 := ⟨k - 1, by omega⟩
      simp only [spec_saGood.f, spec_saGood.j0, spec_l1In.f, in_true c1, in_false c2, Option.bind_some, ↓reduceIte, Bool.not_false]
  · refine ⟨false, ⟨fun h => by simp at h, fun h => absurd ⟨h.1, h.2.1⟩ c1⟩, 1, fun k hk => ?_⟩
    obtain ⟨k, rfl⟩ : ∃ m, k = m + 1 := ⟨k - 1, by omega⟩
    simp only [spec_saGood.f, spec_saGood.j0, spec_l1In.f, in_false c1, Option.bind_some, ↓reduceIte, Bool.false_eq_true]

theorem saAsked_ev (o : Int) (rows : List (List Int)) (a b : Int) (h1 : rows.length ≤ 1048576) (h2 : ∀ r ∈ rows, r.length ≤ 1048576) :
    ∃ t : Bool, (t = true ↔ Good o rows ∧ (0 ≤ a ∧ a < rows.length) ∧ 0 ≤ b ∧ b < rows.length) ∧ ∃ K, ∀ k, K ≤ k → spec_saAsked.f k o rows a b = some t := by
  obtain ⟨t, ht, K, E⟩ := saGood_ev o rows h1 h2
  have e1 : wrap64 ((rows.length : Int) - 1) = (rows.length : Int) - 1 := w64 (by omega) (by omega)
  cases t with
  | false =>
    refine ⟨false, ⟨fun h => by simp at h, fun h => by have := ht.2 h.1; simp at this⟩, K, fun k hk => ?_⟩
    simp [spec_saAsked.f, E k hk]
  | true =>
    have hg := ht.1 rfl
    by_cases c1 : 0 ≤ a ∧ a ≤ (rows.length : Int) - 1
    · by_cases c2 : 0 ≤ b ∧ b ≤ (rows.length : Int) - 1
      · refine ⟨true, ⟨fun _ => ⟨hg, ⟨c1.1, by omega⟩, c2.1, by omega⟩, fun _ => rfl⟩, K, fun k hk => ?_⟩
        simp only [spec_saAsked.f, spec_l1In.f, E k hk, Option.bind_some, ↓reduceIte, e1, in_true c1, in_true c2]
      · refine ⟨false, ⟨fun h => by simp at h, fun h => absurd ⟨h.2.2.1, by omega⟩ c2⟩, K, fun k hk => ?_⟩
        simp only [spec_saAsked.f, spec_l1In.f, E k hk, Option.bind_some, ↓reduceIte, e1, in_true c1, in_false c2]
    · refine ⟨false, ⟨fun h => by simp at h, fun h => absurd ⟨h.2.1.1, by omega⟩ c1⟩, K, fun k hk => ?_⟩
      simp only [spec_saAsked.f, spec_l1In.f, E k hk, Option.bind_some, ↓reduceIte, e1, in_false c1, Bool.false_eq_true]

theorem areStates_l1 (o : Int) (rows : List (List Int)) (jj : Int) (xs : List Int) (hx : xs.length ≤ 1048576) : ∀ (m j : Nat) (left : Int), j + m = xs.length → 0 ≤ left → left ≤ 10 →
    ∃ t : Bool, (t = true ↔ xs.length = rows.length ∧ (∀ x ∈ xs.drop j, 0 ≤ x) ∧ (xs.drop j).sum = left) ∧ ∀ k, m < k →
    impl_AreStates.l1 k (rows.length : Int) xs left rows (rows.length : Int) jj xs (xs.length : Int) j o rows = if t = true then impl_AreStates.l0 (k - m - 1) (rows.length : Int) rows (rows.length : Int) (wrap64 (jj + 1)) o rows else some false := by
  intro m
  induction m with
  | zero =>
    intro j left hj h0 h1
    refine ⟨decide (xs.length = rows.length ∧ left = 0), ?_, fun k hk => ?_⟩
    · rw [List.drop_of_length_le (by omega), decide_eq_true_eq]
      simp
      omega
    · obtain ⟨k, rfl⟩ : ∃ m, k = m + 1 := ⟨k - 1, by omega⟩
      simp only [impl_AreStates.l1]
      rw [if_neg (by omega)]
      by_cases c1 : xs.length = rows.length
      · rw [if_pos (by omega)]
        by_cases c2 : left = 0
        · rw [if_pos c2, decide_eq_true ⟨c1, c2⟩]; rfl
        · rw [if_neg c2, decide_eq_false (fun h => c2 h.2)]; rfl
      · rw [if_neg (by omega), decide_eq_false (fun h => c1 h.1)]; rfl
  | succ m ih =>
    intro j left hj h0 h1
    have hlt : j < xs.length := by omega
    by_cases h : 0 ≤ xs[j] ∧ xs[j] ≤ left
    · obtain ⟨t, ht, E⟩ := ih (j + 1) (left - xs[j]) (by omega) (by omega) (by omega)
      refine ⟨t, ?_, fun k hk => ?_⟩
      · rw [List.drop_eq_getElem_cons hlt, ht, List.sum_cons]
        simp only [List.mem_cons, forall_eq_or_imp]
        exact ⟨fun h2 => ⟨h2.1, ⟨h.1, h2.2.1⟩, by omega⟩, fun h2 => ⟨h2.1, h2.2.1.2, by omega⟩⟩
      · obtain ⟨k, rfl⟩ : ∃ m, k = m + 1 := ⟨k - 1, by omega⟩
        simp only [impl_AreStates.l1, impl_within.f]
        rw [if_pos (by omega), if_pos (by omega), if_pos (by omega), rd_get hlt, in_true h]
        simp only [Option.bind_some, ↓reduceIte]
        rw [w64 (x := (j : Int) + 1) (by omega) (by omega), w64 (x := left - xs[j]) (by omega) (by omega), show (j : Int) + 1 = ((j + 1 : Nat) : Int) from by omega, E k (by omega),
          show k + 1 - (m + 1) - 1 = k - m - 1 from by omega]
    · refine ⟨false, ?_, fun k hk => ?_⟩
      · rw [List.drop_eq_getElem_cons hlt, List.sum_cons]
        simp only [Bool.false_eq_true, false_iff]
        intro h2
        have h3 := h2.2.1 _ List.mem_cons_self
        have h4 := sum_nonneg (xs.drop (j + 1)) (fun x hx => h2.2.1 _ (List.mem_cons_of_mem _ hx))
        omega
      · obtain ⟨k, rfl⟩ : ∃ m, k = m + 1 := ⟨k - 1, by omega⟩
        simp only [impl_AreStates.l1, impl_within.f]
        rw [if_pos (by omega), if_pos (by omega), if_pos (by omega), rd_get hlt, in_false h]
        simp

theorem areStates_l0 (o : Int) (o0 : 1 ≤ o) (o1 : o ≤ 10) (rows : List (List Int)) (hn : rows.length ≤ 5) (hl : ∀ r ∈ rows, r.length ≤ 1048576) : ∀ (m j : Nat), j + m = rows.length →
    ∃ t : Bool, (t = true ↔ ∀ row ∈ rows.drop j, GoodRow rows.length o row) ∧ ∃ K, ∀ k, K ≤ k → impl_AreStates.l0 k (rows.length : Int) rows (rows.length : Int) j o rows = some t := by
  intro m
  induction m with
  | zero =>
    intro j hj
    refine ⟨true, ?_, 1, fun k hk => ?_⟩
    · rw [List.drop_of_length_le (by omega)]; simp
    · obtain ⟨k, rfl⟩ : ∃ m, k = m + 1 := ⟨k - 1, by omega⟩
      simp only [impl_AreStates.l0]
      rw [if_neg (by omega)]
  | succ m ih =>
    intro j hj
    have hlt : j < rows.length := by omega
    have hll := hl _ (List.getElem_mem hlt)
    obtain ⟨t1, ht1, E1⟩ := areStates_l1 o rows j rows[j] hll rows[j].length 0 o (by omega) (by omega) o1
    rw [List.drop_zero] at ht1
    cases t1 with
    | false =>
      refine ⟨false, ?_, 1048590, fun k hk => ?_⟩
      · rw [List.drop_eq_getElem_cons hlt]
        simp only [Bool.false_eq_true, false_iff]
        exact fun h2 => by
          have := ht1.2 (h2 _ List.mem_cons_self)
          simp at this
      · obtain ⟨k, rfl⟩ : ∃ m, k = m + 1 := ⟨k - 1, by omega⟩
        rw [impl_AreStates.l0]
        rw [if_pos (by omega), if_pos (by omega), if_pos (by omega), rd1_get hlt]
        have := E1 k (by omega)
        simp only [Bool.false_eq_true, ↓reduceIte] at this
        exact this
    | true =>
      obtain ⟨t, ht, K, E⟩ := ih (j + 1) (by omega)
      refine ⟨t, ?_, K + 1048590, fun k hk => ?_⟩
      · rw [List.drop_eq_getElem_cons hlt, ht]
        simp only [List.mem_cons, forall_eq_or_imp]
        exact ⟨fun h2 => ⟨ht1.1 rfl, h2⟩, fun h2 => h2.2⟩
      · obtain ⟨k, rfl⟩ : ∃ m, k = m + 1 := ⟨k - 1, by omega⟩
        rw [impl_AreStates.l0]
        rw [if_pos (by omega), if_pos (by omega), if_pos (by omega), rd1_get hlt]
        have := E1 k (by omega)
        simp only [↓reduceIte] at this
        rw [w64 (x := (j : Int) + 1) (by omega) (by omega)] at this
        exact this.trans (E _ (by omega))

theorem areStates_ev (o : Int) (rows : List (List Int)) (hn : rows.length ≤ 1048576) (hl : ∀ r ∈ rows, r.length ≤ 1048576) :
    ∃ t : Bool, (t = true ↔ Good o rows) ∧ ∃ K, ∀ k, K ≤ k → impl_AreStates.f k o rows = some t := by
  by_cases c1 : 1 ≤ o ∧ o ≤ 10
  · by_cases c2 : 1 ≤ (rows.length : Int) ∧ (rows.length : Int) ≤ 5
    · obtain ⟨t, ht, K, E⟩ := areStates_l0 o c1.1 c1.2 rows (by omega) hl rows.length 0 (by omega)
      rw [List.drop_zero] at ht
      refine ⟨t, ht.trans ⟨fun h => ⟨c1.1, c1.2, by omega, by omega, h⟩, fun h => h.2.2.2.2⟩, K + 1, fun k hk => ?_⟩
      obtain ⟨k, rfl⟩ : ∃ m, k = m + 1 := ⟨k - 1, by omega⟩
      simp only [impl_AreStates.f, impl_AreStates.j0, impl_within.f, in_true c1, in_true c2, Option.bind_some, ↓reduceIte, Bool.not_true, Bool.false_eq_true]
      exact E k (by omega)
    · refine ⟨false, ⟨fun h => by simp at h, fun h => absurd ⟨by have := h.2.2.1; omega, by have := h.2.2.2.1; omega⟩ c2⟩, 1, fun k hk => ?_⟩
      obtain ⟨k, rfl⟩ : ∃ m, k = m + 1 := ⟨k - 1, by omega⟩
      simp only [impl_AreStates.f, impl_AreStates.j0, impl_within.f, in_true c1, in_false c2, Option.bind_some, ↓reduceIte, Bool.not_false]
  · refine ⟨false, ⟨fun h => by simp at h, fun h => absurd ⟨h.1, h.2.1⟩ c1⟩, 1, fun k hk => ?_⟩
    obtain ⟨k, rfl⟩ : ∃ m, k = m + 1 := ⟨k - 1, by omega⟩
    simp only [impl_AreStates.f, impl_AreStates.j0, impl_within.f, in_false c1, Option.bind_some, ↓reduceIte, Bool.false_eq_true]

theorem areWith_bad {n : Nat} (hn : n ≤ 1048576) (i : Int) : impl_areWith.bad n i = false ↔ 0 ≤ i ∧ i < n := by
  unfold impl_areWith.bad
  rw [w64 (by omega) (by omega)]
  by_cases h : i ≥ 0
  · rw [if_pos h]
    simp
    omega
  · rw [if_neg h]
    simp
    omega

theorem areWith_ev (o : Int) (rows : List (List Int)) (l : List Int) (h1 : rows.length ≤ 1048576) (h2 : ∀ r ∈ rows, r.length ≤ 1048576) (hl : l.length ≤ 1048576) :
    ∃ t : Bool, (t = true ↔ Good o rows ∧ ∀ a ∈ l, 0 ≤ a ∧ a < rows.length) ∧ ∃ K, ∀ k, K ≤ k → impl_areWith.f k o rows l = some t := by
  obtain ⟨t, ht, K, E⟩ := areStates_ev o rows h1 h2
  cases t with
  | false =>
    refine ⟨false, ⟨fun h => by simp at h, fun h => by have := ht.2 h.1; simp at this⟩, K, fun k hk => ?_⟩
    simp [impl_areWith.f, E k hk]
  | true =>
    have hg := ht.1 rfl
    refine ⟨!(l.any (impl_areWith.bad rows.length)), ?_, K, fun k hk => ?_⟩
    · simp only [Bool.not_eq_true', List.any_eq_false, Bool.not_eq_true]
      constructor
      · exact fun h => ⟨hg, fun a ha => (areWith_bad h1 a).1 (h a ha)⟩
      · exact fun h a ha => (areWith_bad h1 a).2 (h.2 a ha)
    · simp only [impl_areWith.f, E k hk, Option.bind_some, ↓reduceIte]
      rw [if_pos (by omega)]

/-- Two states asked. -/
theorem asked2_ev (o : Int) (rows : List (List Int)) (a b : Int) (h1 : rows.length ≤ 1048576) (h2 : ∀ r ∈ rows, r.length ≤ 1048576) :
    ∃ t : Bool, (t = true ↔ Good o rows ∧ (0 ≤ a ∧ a < rows.length) ∧ 0 ≤ b ∧ b < rows.length) ∧ ∃ K, ∀ k, K ≤ k → impl_areWith.f k o rows [a, b] = some t := by
  obtain ⟨t, ht, K, E⟩ := areWith_ev o rows [a, b] h1 h2 (by simp)
  refine ⟨t, ht.trans ?_, K, E⟩
  simp

theorem asked1_ev (o : Int) (rows : List (List Int)) (a : Int) (h1 : rows.length ≤ 1048576) (h2 : ∀ r ∈ rows, r.length ≤ 1048576) :
    ∃ t : Bool, (t = true ↔ Good o rows ∧ (0 ≤ a ∧ a < rows.length) ∧ 0 ≤ a ∧ a < rows.length) ∧ ∃ K, ∀ k, K ≤ k → impl_areWith.f k o rows [a] = some t := by
  obtain ⟨t, ht, K, E⟩ := areWith_ev o rows [a] h1 h2 (by simp)
  refine ⟨t, ht.trans ?_, K, E⟩
  simp

/-- A step that may be. -/
def Edge (rows : List (List Int)) (i k : Nat) : Prop := 0 < (rows.getD i []).getD k 0
/-- Reached from s by steps from what isn't closed. -/
inductive RC (rows : List (List Int)) (cl : Int) (s : Nat) : Nat → Prop
  | base : RC rows cl s s
  | step (i k : Nat) : RC rows cl s i → (i : Int) ≠ cl → k < rows.length → Edge rows i k → RC rows cl s k

/-- What a queue of states says. -/
structure Qu (rows : List (List Int)) (cl : Int) (s : Nat) (q : List Nat) : Prop where
  nd : q.Nodup
  lt : ∀ v ∈ q, v < rows.length
  rc : ∀ v ∈ q, RC rows cl s v
  mem : s ∈ q

theorem Qu.len {rows : List (List Int)} {cl : Int} {s : Nat} {q : List Nat} (h : Qu rows cl s q) : q.length ≤ rows.length := by
  have h1 := List.Nodup.length_le_of_subset h.nd (l₂ := List.range rows.length) (fun v hv => List.mem_range.2 (h.lt v hv))
  simpa using h1

/-- The first i of the queue have been gone through. -/
def Through (rows : List (List Int)) (cl : Int) (q : List Nat) (i : Nat) : Prop := ∀ a, a < i → ∀ v, q[a]? = some v → (v : Int) ≠ cl → ∀ k, k < rows.length → Edge rows v k → k ∈ q

theorem Through.more {rows : List (List Int)} {cl : Int} {q q' : List Nat} {i : Nat} (h : Through rows cl q i) (hi : i ≤ q.length) (hp : q <+: q') : Through rows cl q' i := by
  intro a ha v hv hc k hk he
  obtain ⟨t, rfl⟩ := hp
  rw [List.getElem?_append_left (by omega)] at hv
  exact List.mem_append_left _ (h a ha v hv hc k hk he)

/-- The queue that has been gone through holds all that is reached. -/
theorem Qu.all {rows : List (List Int)} {cl : Int} {s : Nat} {q : List Nat} (h : Qu rows cl s q) (ht : Through rows cl q q.length) (v : Nat) : RC rows cl s v ↔ v ∈ q := by
  constructor
  · intro hr
    induction hr with
    | base => exact h.mem
    | step i k _ hc hk he ih =>
      obtain ⟨a, ha, hv⟩ := List.getElem_of_mem ih
      exact ht a ha i (by rw [List.getElem?_eq_getElem ha, hv]) hc k hk he
  · exact h.rc v

theorem rd_nats {q : List Nat} {i : Nat} (h : i < q.length) : rd (q.map (fun v : Nat => (v : Int))) (i : Int) = (q[i] : Int) := by
  rw [rd_get (by simpa using h)]
  simp

theorem rdOf_get {xs : List Bool} {j : Nat} (h : j < xs.length) : rdOf false xs (j : Int) = xs[j] := by
  unfold rdOf
  rw [Int.toNat_natCast, List.getD_eq_getElem?_getD, List.getElem?_eq_getElem h]
  rfl

theorem edge_get {rows : List (List Int)} {i k : Nat} (hi : i < rows.length) (hk : k < rows[i].length) : Edge rows i k ↔ 0 < rows[i][k] := by
  unfold Edge
  simp [List.getD_eq_getElem?_getD, hi, hk]

/-- A walk of so many steps. -/
inductive Wk (rows : List (List Int)) (s : Nat) : Nat → Nat → Prop
  | base : Wk rows s s 0
  | step (i k d : Nat) : Wk rows s i d → k < rows.length → Edge rows i k → Wk rows s k (d + 1)

/-- How far a state is. -/
def fa (far : List Int) (v : Nat) : Int := far.getD v (-1)


theorem fa_set {far : List Int} {j : Nat} {x : Int} (h : j < far.length) (k : Nat) : fa (far.set j x) k = if k = j then x else fa far k := by
  unfold fa
  rw [List.getD_eq_getElem?_getD, List.getD_eq_getElem?_getD, List.getElem?_set]
  by_cases e : j = k
  · subst e; simp [h]
  · rw [if_neg e, if_neg (fun h => e h.symm)]

theorem rd_fa {far : List Int} {j : Nat} (h : j < far.length) : rd far (j : Int) = fa far j := by
  rw [rd_get h]
  unfold fa
  rw [List.getD_eq_getElem?_getD, List.getElem?_eq_getElem h]
  rfl

structure Far (rows : List (List Int)) (s : Nat) (far : List Int) (q : List Nat) (i : Nat) : Prop where
  len : far.length = rows.length
  mem : ∀ k, k < rows.length → (0 ≤ fa far k ↔ k ∈ q)
  low : ∀ k, -1 ≤ fa far k
  zero : fa far s = 0
  wk : ∀ v ∈ q, Wk rows s v (fa far v).toNat
  idx : ∀ (a v : Nat), q[a]? = some v → fa far v ≤ a
  mono : ∀ (a b u v : Nat), a ≤ b → q[a]? = some u → q[b]? = some v → fa far u ≤ fa far v
  near : ∀ (a : Nat), a < i → ∀ (u : Nat), q[a]? = some u → ∀ (k : Nat), k < rows.length → Edge rows u k → k ∈ q ∧ fa far k ≤ fa far u + 1

theorem saFar_l2 (o : Int) (rows : List (List Int)) (s : Nat) (hn : rows.length ≤ 5) (hsq : ∀ r ∈ rows, r.length = rows.length) (i c : Nat) (hc : c < rows.length) :
    ∀ (m j : Nat) (far : List Int) (q : List Nat), j + m = rows.length → Qu rows (-1) s q → Far rows s far q i → (∀ v ∈ q, fa far v ≤ fa far c + 1) → i < q.length → q[i]? = some c → (∀ k, k < j → Edge rows c k → k ∈ q) →
    ∃ far' q', Qu rows (-1) s q' ∧ Far rows s far' q' i ∧ (∀ v ∈ q', fa far' v ≤ fa far' c + 1) ∧ q <+: q' ∧ (∀ k, k < rows.length → Edge rows c k → k ∈ q') ∧
      ∀ k, m < k → spec_saFar.l2 k far (q.map (fun v : Nat => (v : Int))) i (rows[c]) ((rows[c]).length : Int) j o rows = spec_saFar.l1 (k - m - 1) far' (q'.map (fun v : Nat => (v : Int))) (i + 1) o rows := by
  have hlen := hsq _ (List.getElem_mem hc)
  intro m
  induction m with
  | zero =>
    intro j far q hj hq hm ht hi hqi hd
    refine ⟨far, q, hq, hm, ht, List.prefix_refl _, fun k hk he => hd k (by omega) he, fun k hk => ?_⟩
    obtain ⟨k, rfl⟩ : ∃ m, k = m + 1 := ⟨k - 1, by omega⟩
    have := hq.len
    simp only [spec_saFar.l2]
    rw [if_neg (by omega), w64 (x := (i : Int) + 1) (by omega) (by omega)]
    rfl
  | succ m ih =>
    intro j far q hj hq hm ht hi hqi hd
    have hlt : j < (rows[c]).length := by omega
    have hlo : j < far.length := by have := hm.len; omega
    have hcf : c < far.length := by have := hm.len; omega
    have hql := hq.len
    have hin := edge_get hc hlt
    have hgc : q[i] = c := by rw [List.getElem?_eq_getElem hi] at hqi; exact Option.some.inj hqi
    by_cases c1 : 0 < rows[c][j]
    · by_cases c2 : fa far j < 0
      · have hjq : j ∉ q := fun h => by have := (hm.mem j (by omega)).2 h; omega
        have hcq : c ∈ q := List.mem_of_getElem? hqi
        have hcj : c ≠ j := fun e => hjq (e ▸ hcq)
        have hc0 : 0 ≤ fa far c := (hm.mem c hc).2 hcq
        have hci := hm.idx i c hqi
        have hq2 : Qu rows (-1) s (q ++ [j]) := by
          refine ⟨?_, ?_, ?_, List.mem_append_left _ hq.mem⟩
          · rw [List.nodup_append]
            refine ⟨hq.nd, by simp, ?_⟩
            intro a ha b hb
            rw [List.mem_singleton] at hb
            rintro rfl
            exact hjq (hb ▸ ha)
          · intro v hv
            rcases List.mem_append.1 hv with hv | hv
            · exact hq.lt v hv
            · rw [List.mem_singleton] at hv; omega
          · intro v hv
            rcases List.mem_append.1 hv with hv | hv
            · exact hq.rc v hv
            · rw [List.mem_singleton] at hv
              subst hv
              exact RC.step c v (hq.rc c hcq) (by omega) (by omega) (hin.2 c1)
        have hs := fun k => fa_set (far := far) (x := fa far c + 1) hlo k
        have hold : ∀ v, v ∈ q → fa (far.set j (fa far c + 1)) v = fa far v := fun v hv => by
          rw [hs, if_neg (by rintro rfl; exact hjq hv)]
        have hat : ∀ (a v : Nat), (q ++ [j])[a]? = some v → (q[a]? = some v ∧ v ∈ q) ∨ (a = q.length ∧ v = j) := by
          intro a v h
          by_cases ha : a < q.length
          · rw [List.getElem?_append_left ha] at h
            exact .inl ⟨h, List.mem_of_getElem? h⟩
          · rw [List.getElem?_append_right (by omega), List.getElem?_singleton] at h
            by_cases e : a - q.length = 0
            · rw [if_pos e] at h
              exact .inr ⟨by omega, (Option.some.inj h).symm⟩
            · rw [if_neg e] at h; cases h
        have hm2 : Far rows s (far.set j (fa far c + 1)) (q ++ [j]) i := by
          refine ⟨by rw [List.length_set]; exact hm.len, ?_, ?_, by rw [hold s hq.mem]; exact hm.zero, ?_, ?_, ?_, ?_⟩
          · intro k hk
            rw [hs]
            by_cases e : k = j
            · subst e; simp; omega
            · rw [if_neg e, hm.mem k hk]; simp [e]
          · intro k
            rw [hs]
            have := hm.low k
            by_cases e : k = j
            · rw [if_pos e]; omega
            · rw [if_neg e]; exact this
          · intro v hv
            rcases List.mem_append.1 hv with hv | hv
            · rw [hold v hv]; exact hm.wk v hv
            · rw [List.mem_singleton] at hv
              subst hv
              rw [hs, if_pos rfl, show (fa far c + 1).toNat = (fa far c).toNat + 1 from by omega]
              exact Wk.step c v _ (hm.wk c hcq) (by omega) (hin.2 c1)
          · intro a v h
            rcases hat a v h with ⟨h1, h2⟩ | ⟨h1, h2⟩
            · rw [hold v h2]; exact hm.idx a v h1
            · subst h2; rw [hs, if_pos rfl]; omega
          · intro a b u v hab hu hv
            rcases hat b v hv with ⟨h1, h2⟩ | ⟨h1, h2⟩
            · rcases hat a u hu with ⟨h3, h4⟩ | ⟨h3, h4⟩
              · rw [hold v h2, hold u h4]; exact hm.mono a b u v hab h3 h1
              · exfalso
                have := (List.getElem?_eq_some_iff.1 h1).1
                omega
            · subst h2
              rw [hs v, if_pos rfl]
              rcases hat a u hu with ⟨h3, h4⟩ | ⟨h3, h4⟩
              · rw [hold u h4]; exact ht u h4
              · subst h4; rw [hs, if_pos rfl]; exact Int.le_refl _
          · intro a ha u hu k hk he
            rcases hat a u hu with ⟨h1, h2⟩ | ⟨h1, h2⟩
            · obtain ⟨h3, h4⟩ := hm.near a ha u h1 k hk he
              rw [hold u h2, hold k h3]
              exact ⟨List.mem_append_left _ h3, h4⟩
            · omega
        have hql2 := hq2.len
        rw [List.length_append, List.length_singleton] at hql2
        have ht2 : ∀ v ∈ q ++ [j], fa (far.set j (fa far c + 1)) v ≤ fa (far.set j (fa far c + 1)) c + 1 := by
          intro v hv
          rw [hold c hcq]
          rcases List.mem_append.1 hv with hv | hv
          · rw [hold v hv]; exact ht v hv
          · rw [List.mem_singleton] at hv; subst hv; rw [hs, if_pos rfl]; exact Int.le_refl _
        obtain ⟨far', q', h1, h2, h3, h4, h5, E⟩ := ih (j + 1) (far.set j (fa far c + 1)) (q ++ [j]) (by omega) hq2 hm2 ht2 (by rw [List.length_append]; omega) (by rw [List.getElem?_append_left hi]; exact hqi)
          (fun k hk he => if h : k = j then by simp [h] else List.mem_append_left _ (hd k (by omega) he))
        refine ⟨far', q', h1, h2, h3, (List.prefix_append q [j]).trans h4, h5, fun k hk => ?_⟩
        obtain ⟨k, rfl⟩ : ∃ m, k = m + 1 := ⟨k - 1, by omega⟩
        simp only [spec_saFar.l2]
        rw [if_pos (by omega), if_pos (by omega), if_pos (by omega), rd_get hlt, if_pos (by omega), if_pos (by omega), rd_fa hlo, if_pos c2, if_pos (by omega), if_pos (by rw [List.length_map]; omega), rd_nats hi, hgc, if_pos (by omega), if_pos (by omega),
          if_pos (by rw [List.length_map]; omega), rd_fa hcf, w64 (x := fa far c + 1) (by omega) (by omega), w64 (x := (j : Int) + 1) (by omega) (by omega), Int.toNat_natCast]
        have := E k (by omega)
        rw [List.map_append, List.map_singleton] at this
        rw [show k + 1 - (m + 1) - 1 = k - m - 1 from by omega]
        exact this
      · have hjq : j ∈ q := (hm.mem j (by omega)).1 (by omega)
        obtain ⟨far', q', h1, h2, h3, h4, h5, E⟩ := ih (j + 1) far q (by omega) hq hm ht hi hqi (fun k hk he => if h : k = j then h ▸ hjq else hd k (by omega) he)
        refine ⟨far', q', h1, h2, h3, h4, h5, fun k hk => ?_⟩
        obtain ⟨k, rfl⟩ : ∃ m, k = m + 1 := ⟨k - 1, by omega⟩
        simp only [spec_saFar.l2]
        rw [if_pos (by omega), if_pos (by omega), if_pos (by omega), rd_get hlt, if_pos (by omega), if_pos (by omega), rd_fa hlo, if_neg c2, w64 (x := (j : Int) + 1) (by omega) (by omega)]
        have := E k (by omega)
        rw [show k + 1 - (m + 1) - 1 = k - m - 1 from by omega]
        exact this
    · obtain ⟨far', q', h1, h2, h3, h4, h5, E⟩ := ih (j + 1) far q (by omega) hq hm ht hi hqi (fun k hk he => if h : k = j then absurd (hin.1 (h ▸ he)) c1 else hd k (by omega) he)
      refine ⟨far', q', h1, h2, h3, h4, h5, fun k hk => ?_⟩
      obtain ⟨k, rfl⟩ : ∃ m, k = m + 1 := ⟨k - 1, by omega⟩
      simp only [spec_saFar.l2]
      rw [if_pos (by omega), if_pos (by omega), if_pos (by omega), rd_get hlt, if_neg (by omega), w64 (x := (j : Int) + 1) (by omega) (by omega)]
      have := E k (by omega)
      rw [show k + 1 - (m + 1) - 1 = k - m - 1 from by omega]
      exact this

theorem saFar_l1 (o : Int) (rows : List (List Int)) (s : Nat) (hn : rows.length ≤ 5) (hsq : ∀ r ∈ rows, r.length = rows.length) :
    ∀ (d i : Nat) (far : List Int) (q : List Nat), i + d = rows.length → i ≤ q.length → Qu rows (-1) s q → Far rows s far q i → Through rows (-1) q i → (∀ c, q[i]? = some c → ∀ v ∈ q, fa far v ≤ fa far c + 1) →
    ∃ far' q', Qu rows (-1) s q' ∧ Far rows s far' q' q'.length ∧ Through rows (-1) q' q'.length ∧ ∀ k, 10 * d + 1 ≤ k → spec_saFar.l1 k far (q.map (fun v : Nat => (v : Int))) i o rows = some far' := by
  have fin : ∀ (i : Nat) (far : List Int) (q : List Nat), q.length ≤ i → i ≤ q.length → Qu rows (-1) s q → Far rows s far q i → Through rows (-1) q i →
      ∃ far' q', Qu rows (-1) s q' ∧ Far rows s far' q' q'.length ∧ Through rows (-1) q' q'.length ∧ ∀ k, 1 ≤ k → spec_saFar.l1 k far (q.map (fun v : Nat => (v : Int))) i o rows = some far' := by
    intro i far q h1 h2 hq hm ht
    obtain rfl : i = q.length := by omega
    refine ⟨far, q, hq, hm, ht, fun k hk => ?_⟩
    obtain ⟨k, rfl⟩ : ∃ m, k = m + 1 := ⟨k - 1, by omega⟩
    simp only [spec_saFar.l1]
    rw [if_neg (by rw [List.length_map]; omega)]
  intro d
  induction d with
  | zero =>
    intro i far q hi hiq hq hm ht _
    have := hq.len
    obtain ⟨far', q', h1, h2, h3, E⟩ := fin i far q (by omega) hiq hq hm ht
    exact ⟨far', q', h1, h2, h3, fun k hk => E k (by omega)⟩
  | succ d ih =>
    intro i far q hi hiq hq hm ht htop
    have hql := hq.len
    by_cases c0 : i < q.length
    · have hqi : q[i]? = some q[i] := List.getElem?_eq_getElem c0
      have hc := hq.lt _ (List.getElem_mem c0)
      obtain ⟨far1, q1, hq1, hm1, ht1, hp, hall, E1⟩ := saFar_l2 o rows s hn hsq i q[i] hc rows.length 0 far q (by omega) hq hm (htop _ hqi) c0 hqi (fun k hk => absurd hk (Nat.not_lt_zero _))
      have hpl := hp.length_le
      have hqi1 : q1[i]? = some q[i] := by
        obtain ⟨t, rfl⟩ := hp
        rw [List.getElem?_append_left c0]; exact hqi
      have hm2 : Far rows s far1 q1 (i + 1) := by
        refine ⟨hm1.len, hm1.mem, hm1.low, hm1.zero, hm1.wk, hm1.idx, hm1.mono, ?_⟩
        intro a ha u hu k hk he
        by_cases e : a = i
        · subst e
          rw [hqi1] at hu
          injection hu with hu
          subst hu
          have := hall k hk he
          exact ⟨this, ht1 k this⟩
        · exact hm1.near a (by omega) u hu k hk he
      have hth : Through rows (-1) q1 (i + 1) := by
        intro a ha v hv hvc k hk he
        by_cases e : a = i
        · subst e
          rw [hqi1] at hv
          injection hv with hv
          exact hall k hk (hv ▸ he)
        · exact ht.more hiq hp a (by omega) v hv hvc k hk he
      obtain ⟨far', q', h1, h2, h3, E⟩ := ih (i + 1) far1 q1 (by omega) (by omega) hq1 hm2 hth (by
        intro c hc' v hv
        have h5 := ht1 v hv
        have h6 := hm1.mono i (i + 1) q[i] c (by omega) hqi1 hc'
        omega)
      refine ⟨far', q', h1, h2, h3, fun k hk => ?_⟩
      obtain ⟨k, rfl⟩ : ∃ m, k = m + 1 := ⟨k - 1, by omega⟩
      simp only [spec_saFar.l1]
      rw [if_pos (by rw [List.length_map]; omega), if_pos (by omega), rd_nats c0, if_pos (by omega), if_pos (by omega), rd1_get hc]
      exact (E1 k (by omega)).trans (E _ (by omega))
    · obtain ⟨far', q', h1, h2, h3, E⟩ := fin i far q (by omega) hiq hq hm ht
      exact ⟨far', q', h1, h2, h3, fun k hk => E k (by omega)⟩

/-- What saFar tells. -/
structure IsFar (rows : List (List Int)) (s : Nat) (far : List Int) : Prop where
  len : far.length = rows.length
  low : ∀ k, -1 ≤ fa far k
  high : ∀ k, k < rows.length → fa far k < rows.length
  mem : ∀ k, k < rows.length → (0 ≤ fa far k ↔ RC rows (-1) s k)
  wk : ∀ k, k < rows.length → 0 ≤ fa far k → Wk rows s k (fa far k).toNat
  near : ∀ u k, u < rows.length → k < rows.length → 0 ≤ fa far u → Edge rows u k → 0 ≤ fa far k ∧ fa far k ≤ fa far u + 1
  zero : fa far s = 0

theorem saFar_l0 (o : Int) (rows : List (List Int)) (s : Nat) (hn : rows.length ≤ 5) (hsq : ∀ r ∈ rows, r.length = rows.length) (hs : s < rows.length) :
    ∀ (m j : Nat) (far : List Int), j + m = rows.length → far.length = rows.length → (∀ k, k < j → fa far k = -1) →
    ∃ far', IsFar rows s far' ∧ ∀ k, m + 60 < k → spec_saFar.l0 k s far (rows.length : Int) j o rows = some far' := by
  intro m
  induction m with
  | zero =>
    intro j far hj hl hd
    have hq : Qu rows (-1) s [s] := ⟨by simp, by simp [hs], by simp [RC.base], by simp⟩
    have hset := fun k => fa_set (far := far) (j := s) (x := 0) (by omega) k
    have hout : ∀ k, rows.length ≤ k → fa far k = -1 := by
      intro k hk
      unfold fa
      rw [List.getD_eq_getElem?_getD, List.getElem?_eq_none (by omega)]
      rfl
    have hold : ∀ k, fa far k = -1 := fun k => if h : k < rows.length then hd k (by omega) else hout k (by omega)
    have hone : ∀ (a v : Nat), ([s] : List Nat)[a]? = some v → a = 0 ∧ v = s := by
      intro a v h
      rw [List.getElem?_singleton] at h
      by_cases e : a = 0
      · rw [if_pos e] at h; exact ⟨e, (Option.some.inj h).symm⟩
      · rw [if_neg e] at h; cases h
    have hm : Far rows s (far.set s 0) [s] 0 := by
      refine ⟨by rw [List.length_set]; exact hl, ?_, ?_, by rw [hset, if_pos rfl], ?_, ?_, ?_, ?_⟩
      · intro k hk
        rw [hset]
        by_cases e : k = s
        · simp [e]
        · rw [if_neg e, hold]; simp [e]
      · intro k
        rw [hset]
        by_cases e : k = s
        · rw [if_pos e]; omega
        · rw [if_neg e, hold]; omega
      · intro v hv
        rw [List.mem_singleton] at hv
        subst hv
        rw [hset, if_pos rfl]
        exact Wk.base
      · intro a v h
        obtain ⟨rfl, rfl⟩ := hone a v h
        rw [hset, if_pos rfl]; simp
      · intro a b u v _ hu hv
        obtain ⟨_, rfl⟩ := hone a u hu
        obtain ⟨_, rfl⟩ := hone b v hv
        exact Int.le_refl _
      · intro a ha; omega
    obtain ⟨far', q', h1, h2, h3, E⟩ := saFar_l1 o rows s hn hsq rows.length 0 (far.set s 0) [s] (by omega) (by simp) hq hm (fun a ha => absurd ha (Nat.not_lt_zero _)) (by
      intro c hc v hv
      obtain ⟨_, rfl⟩ := hone 0 c hc
      rw [List.mem_singleton] at hv
      subst hv
      omega)
    have hmem : ∀ k, k < rows.length → (0 ≤ fa far' k ↔ k ∈ q') := h2.mem
    have hq' := h1.len
    refine ⟨far', ⟨h2.len, h2.low, ?_, ?_, ?_, ?_, ?_⟩, fun k hk => ?_⟩
    · intro k hk
      by_cases c : 0 ≤ fa far' k
      · obtain ⟨a, ha, hv⟩ := List.getElem_of_mem ((hmem k hk).1 c)
        have := h2.idx a k (by rw [List.getElem?_eq_getElem ha, hv])
        omega
      · omega
    · intro k hk
      rw [hmem k hk, h1.all h3]
    · intro k hk h
      exact h2.wk k ((hmem k hk).1 h)
    · intro u k hu hk h he
      obtain ⟨a, ha, hv⟩ := List.getElem_of_mem ((hmem u hu).1 h)
      obtain ⟨h5, h6⟩ := h2.near a ha u (by rw [List.getElem?_eq_getElem ha, hv]) k hk he
      exact ⟨(hmem k hk).2 h5, h6⟩
    · exact h2.zero
    · obtain ⟨k, rfl⟩ : ∃ m, k = m + 1 := ⟨k - 1, by omega⟩
      simp only [spec_saFar.l0]
      rw [if_neg (by omega), if_pos (by omega), if_pos (by omega), Int.toNat_natCast]
      exact E k (by omega)
  | succ m ih =>
    intro j far hj hl hd
    obtain ⟨far', h1, E⟩ := ih (j + 1) (far.set j (-1)) (by omega) (by rw [List.length_set]; exact hl) (fun k hk => by
      rw [fa_set (by omega)]
      by_cases e : k = j
      · rw [if_pos e]
      · rw [if_neg e]; exact hd k (by omega))
    refine ⟨far', h1, fun k hk => ?_⟩
    obtain ⟨k, rfl⟩ : ∃ m, k = m + 1 := ⟨k - 1, by omega⟩
    simp only [spec_saFar.l0]
    rw [if_pos (by omega), if_pos (by omega), if_pos (by omega), w64 (x := (j : Int) + 1) (by omega) (by omega), Int.toNat_natCast]
    exact E k (by omega)

theorem saFar_ev (o : Int) (rows : List (List Int)) (s : Nat) (hn : rows.length ≤ 5) (hsq : ∀ r ∈ rows, r.length = rows.length) (hs : s < rows.length) :
    ∃ far, IsFar rows s far ∧ ∀ k, 80 ≤ k → spec_saFar.f k o rows s = some far := by
  obtain ⟨far, h1, E⟩ := saFar_l0 o rows s hn hsq hs rows.length 0 (List.replicate rows.length 0) (by omega) (by simp) (fun k hk => absurd hk (Nat.not_lt_zero _))
  refine ⟨far, h1, fun k hk => ?_⟩
  simp only [spec_saFar.f]
  rw [if_pos (by omega), if_pos (by omega), Int.toNat_natCast]
  simp only [Option.bind_some, List.length_replicate]
  exact E k (by omega)

/-- The numbers below n that are such, as Go's ints. -/
noncomputable def such (j m : Nat) (p : Nat → Prop) : List Int := ((List.range' j m).filter (fun i => @decide (p i) (Classical.propDecidable _))).map (fun v : Nat => (v : Int))

theorem such_zero (j : Nat) (p : Nat → Prop) : such j 0 p = [] := by simp [such]
theorem such_pos {j m : Nat} {p : Nat → Prop} (h : p j) : such j (m + 1) p = (j : Int) :: such (j + 1) m p := by
  unfold such
  rw [List.range'_succ, List.filter_cons_of_pos (by simpa using h), List.map_cons]
theorem such_neg {j m : Nat} {p : Nat → Prop} (h : ¬ p j) : such j (m + 1) p = such (j + 1) m p := by
  unfold such
  rw [List.range'_succ, List.filter_cons_of_neg (by simpa using h)]
theorem such_len (j m : Nat) (p : Nat → Prop) : (such j m p).length ≤ m := by
  unfold such
  rw [List.length_map]
  exact Nat.le_trans (List.length_filter_le _ _) (by simp)
theorem such_congr {j m : Nat} {p q : Nat → Prop} (h : ∀ i, j ≤ i → i < j + m → (p i ↔ q i)) : such j m p = such j m q := by
  unfold such
  congr 1
  apply List.filter_congr
  intro i hi
  rw [List.mem_range'_1] at hi
  simp [h i hi.1 hi.2]
theorem such_mem {j m : Nat} {p : Nat → Prop} {x : Int} : x ∈ such j m p ↔ ∃ i : Nat, x = i ∧ j ≤ i ∧ i < j + m ∧ p i := by
  unfold such
  simp only [List.mem_map, List.mem_filter, List.mem_range'_1, decide_eq_true_eq]
  constructor
  · rintro ⟨a, ⟨⟨h1, h2⟩, h3⟩, rfl⟩
    exact ⟨a, rfl, h1, h2, h3⟩
  · rintro ⟨a, rfl, h1, h2, h3⟩
    exact ⟨a, ⟨⟨h1, h2⟩, h3⟩, rfl⟩
theorem such_all {j m : Nat} {p : Nat → Prop} : (such j m p).length = m ↔ ∀ i, j ≤ i → i < j + m → p i := by
  unfold such
  rw [List.length_map]
  constructor
  · intro h i h1 h2
    have h3 := List.length_filter_eq_length_iff.1 (h.trans (by simp : m = (List.range' j m).length))
    have := h3 i (by rw [List.mem_range'_1]; exact ⟨h1, h2⟩)
    simpa using this
  · intro h
    rw [List.filter_eq_self.2 (fun i hi => by rw [List.mem_range'_1] at hi; simpa using h i hi.1 hi.2)]
    simp
/-- The first of such numbers. -/
theorem such_first {j m : Nat} {p : Nat → Prop} (h : ∃ i, j ≤ i ∧ i < j + m ∧ p i) : ∃ (f : Nat) (t : List Int), such j m p = (f : Int) :: t ∧ j ≤ f ∧ f < j + m ∧ p f ∧ ∀ i, j ≤ i → i < f → ¬ p i := by
  induction m generalizing j with
  | zero => obtain ⟨i, h1, h2, _⟩ := h; omega
  | succ m ih =>
    by_cases c : p j
    · exact ⟨j, _, such_pos c, Nat.le_refl _, by omega, c, fun i h1 h2 => by omega⟩
    · obtain ⟨i, h1, h2, h3⟩ := h
      have hij : j + 1 ≤ i := by
        by_cases e : i = j
        · exact absurd (e ▸ h3) c
        · omega
      obtain ⟨f, t, e, h4, h5, h6, h7⟩ := ih (j := j + 1) ⟨i, hij, by omega, h3⟩
      refine ⟨f, t, (such_neg c).trans e, by omega, by omega, h6, fun i h8 h9 => ?_⟩
      by_cases e : i = j
      · exact e ▸ c
      · exact h7 i (by omega) h9


/-- Of one class. -/
def Both (rows : List (List Int)) (s i : Nat) : Prop := RC rows (-1) s i ∧ RC rows (-1) i s

theorem saClass_l0 (o : Int) (rows : List (List Int)) (s : Nat) (hn : rows.length ≤ 5) (hsq : ∀ r ∈ rows, r.length = rows.length) (hs : s < rows.length) (far : List Int) (hf : IsFar rows s far) :
    ∀ (m j : Nat) (acc : List Int), j + m = rows.length → acc.length ≤ j → ∀ k, m + 80 < k →
    spec_saClass.l0 k s acc far (rows.length : Int) j o rows = some (acc ++ such j m (Both rows s)) := by
  intro m
  induction m with
  | zero =>
    intro j acc hj ha k hk
    obtain ⟨k, rfl⟩ : ∃ m, k = m + 1 := ⟨k - 1, by omega⟩
    simp only [spec_saClass.l0]
    rw [if_neg (by omega), such_zero, List.append_nil]
  | succ m ih =>
    intro j acc hj ha k hk
    obtain ⟨k, rfl⟩ : ∃ m, k = m + 1 := ⟨k - 1, by omega⟩
    have hlt : j < far.length := by have := hf.len; omega
    have hm := hf.mem j (by omega)
    obtain ⟨far2, hf2, E2⟩ := saFar_ev o rows j hn hsq (by omega)
    have hlt2 : s < far2.length := by have := hf2.len; omega
    have hm2 := hf2.mem s hs
    have h1 := fun acc' h => ih (j + 1) acc' (by omega) h k (by omega)
    simp only [spec_saClass.l0]
    rw [if_pos (by omega), if_pos (by omega), if_pos (by omega), rd_fa hlt, w64 (x := (j : Int) + 1) (by omega) (by omega), E2 k (by omega)]
    simp only [Option.bind_some]
    rw [rd_fa hlt2]
    by_cases c1 : 0 ≤ fa far j
    · by_cases c2 : 0 ≤ fa far2 s
      · rw [if_pos (by omega), if_pos (by omega), if_pos (by omega), if_pos (by omega), if_pos (by omega), such_pos ⟨hm.1 c1, hm2.1 c2⟩]
        have := h1 (acc ++ [(j : Int)]) (by simp; omega)
        rw [List.append_assoc, List.singleton_append] at this
        exact this
      · rw [if_pos (by omega), if_pos (by omega), if_pos (by omega), if_neg (by omega), such_neg (fun h => c2 (hm2.2 h.2))]
        exact h1 acc (by omega)
    · rw [if_neg (by omega), such_neg (fun h => c1 (hm.2 h.1))]
      exact h1 acc (by omega)

theorem saClass_ev (o : Int) (rows : List (List Int)) (s : Nat) (hn : rows.length ≤ 5) (hsq : ∀ r ∈ rows, r.length = rows.length) (hs : s < rows.length) (k : Nat) (hk : 90 ≤ k) :
    spec_saClass.f k o rows s = some (such 0 rows.length (Both rows s)) := by
  obtain ⟨far, hf, E⟩ := saFar_ev o rows s hn hsq hs
  unfold spec_saClass.f
  rw [E k (by omega)]
  simp only [Option.bind_some]
  rw [hf.len]
  have := saClass_l0 o rows s hn hsq hs far hf rows.length 0 [] (by omega) (by simp) k (by omega)
  rw [List.nil_append] at this
  exact this


theorem RC.trans {rows : List (List Int)} {cl : Int} {a b c : Nat} (h1 : RC rows cl a b) (h2 : RC rows cl b c) : RC rows cl a c := by
  induction h2 with
  | base => exact h1
  | step i k _ hc hk he ih => exact RC.step i k ih hc hk he


theorem members_l0 (out : List Bool) (hn : out.length ≤ 5) : ∀ (m j : Nat) (acc : List Int), j + m = out.length → acc.length ≤ j → ∀ k, m < k →
    impl_members.l0 k acc out (out.length : Int) j = some (acc ++ such j m (fun i => out.getD i false = true)) := by
  intro m
  induction m with
  | zero =>
    intro j acc hj ha k hk
    obtain ⟨k, rfl⟩ : ∃ m, k = m + 1 := ⟨k - 1, by omega⟩
    simp only [impl_members.l0]
    rw [if_neg (by omega), such_zero, List.append_nil]
  | succ m ih =>
    intro j acc hj ha k hk
    obtain ⟨k, rfl⟩ : ∃ m, k = m + 1 := ⟨k - 1, by omega⟩
    have hlt : j < out.length := by omega
    have hg : out.getD j false = out[j] := by rw [List.getD_eq_getElem?_getD, List.getElem?_eq_getElem hlt]; rfl
    simp only [impl_members.l0]
    rw [if_pos (by omega), if_pos (by omega), if_pos (by omega), rdOf_get hlt, w64 (x := (j : Int) + 1) (by omega) (by omega)]
    by_cases c : out[j] = true
    · rw [if_pos c, if_pos (by omega)]
      have := ih (j + 1) (acc ++ [(j : Int)]) (by omega) (by simp; omega) k (by omega)
      rw [such_pos (by rw [hg]; exact c)]
      rw [List.append_assoc, List.singleton_append] at this
      exact this
    · rw [if_neg c]
      have := ih (j + 1) acc (by omega) (by omega) k (by omega)
      rw [such_neg (by rw [hg]; exact c)]
      exact this

theorem members_ev (n : Nat) (out : List Bool) (p : Nat → Prop) (hn : n ≤ 5) (hl : out.length = n) (hp : ∀ k, (h : k < out.length) → (out[k] = true ↔ p k)) (k : Nat) (hk : 6 ≤ k) : impl_members.f k out = some (such 0 n p) := by
  unfold impl_members.f
  rw [show impl_members.l0 k ([] : List Int) out (out.length : Int) 0 = _ from members_l0 out (by omega) out.length 0 [] (by omega) (by simp) k (by omega), List.nil_append, hl]
  congr 1
  apply such_congr
  intro i _ h2
  have hlt : i < out.length := by omega
  rw [List.getD_eq_getElem?_getD, List.getElem?_eq_getElem hlt]
  exact hp i hlt


/-- (a, b) is n / d in lowest terms. -/
structure Low (a b n d : Int) : Prop where
  pos : 0 < b
  ne : d ≠ 0
  eq : a * d = n * b
  cop : Int.gcd a b = 1

theorem dvd_of_cop {a b d : Int} (hc : Int.gcd a b = 1) (h : b ∣ a * d) : b ∣ d := by
  rw [← Int.natAbs_dvd_natAbs] at h ⊢
  rw [Int.natAbs_mul] at h
  exact Nat.Coprime.dvd_of_dvd_mul_left (k := b.natAbs) (m := a.natAbs) (n := d.natAbs) (by
    rw [Nat.Coprime, Nat.gcd_comm]; exact hc) (by exact h)

theorem Low.fac {a b n d : Int} (h : Low a b n d) : ∃ g, g ≠ 0 ∧ n = a * g ∧ d = b * g := by
  have hb : b ∣ d := dvd_of_cop h.cop ⟨n, by rw [h.eq, Int.mul_comm]⟩
  obtain ⟨g, rfl⟩ := hb
  have hp := h.pos
  refine ⟨g, fun e => h.ne (by rw [e, Int.mul_zero]), ?_, rfl⟩
  have he := h.eq
  have : b * n = b * (a * g) := by rw [Int.mul_comm b n, ← he, Int.mul_left_comm]
  exact Int.eq_of_mul_eq_mul_left (by omega) this

theorem natAbs_le_of_mul {a g : Int} (hg : g ≠ 0) : a.natAbs ≤ (a * g).natAbs := by
  rw [Int.natAbs_mul]
  exact Nat.le_mul_of_pos_right _ (by omega)

theorem Low.num_le {a b n d : Int} (h : Low a b n d) : a.natAbs ≤ n.natAbs := by
  obtain ⟨g, hg, rfl, _⟩ := h.fac
  exact natAbs_le_of_mul hg

theorem Low.den_le {a b n d : Int} (h : Low a b n d) : b.natAbs ≤ d.natAbs := by
  obtain ⟨g, hg, _, rfl⟩ := h.fac
  exact natAbs_le_of_mul hg

theorem Low.unique {a b a' b' n d n' d' : Int} (h : Low a b n d) (h' : Low a' b' n' d') (e : n * d' = n' * d) : a = a' ∧ b = b' := by
  have hp := h.pos
  have hp' := h'.pos
  have hx : a * b' = a' * b := by
    have hd := h.ne
    have hd' := h'.ne
    have h1 := h.eq
    have h2 := h'.eq
    have : (d * d') * (a * b') = (d * d') * (a' * b) := by grind
    exact Int.eq_of_mul_eq_mul_left (Int.mul_ne_zero hd hd') this
  have h1 : b ∣ b' := dvd_of_cop h.cop ⟨a', by rw [hx, Int.mul_comm]⟩
  have h2 : b' ∣ b := dvd_of_cop h'.cop ⟨a, by rw [← hx, Int.mul_comm]⟩
  have hb : b = b' := Int.le_antisymm (Int.le_of_dvd hp' h1) (Int.le_of_dvd hp h2)
  subst hb
  exact ⟨Int.eq_of_mul_eq_mul_right (by omega) hx, rfl⟩

/-- Change of the told fraction. -/
theorem Low.turn {a b n d n' d' : Int} (h : Low a b n d) (hd : d' ≠ 0) (e : n * d' = n' * d) : Low a b n' d' := by
  refine ⟨h.pos, hd, ?_, h.cop⟩
  have h1 := h.eq
  have h0 := h.ne
  have : d * (a * d') = d * (n' * b) := by grind
  exact Int.eq_of_mul_eq_mul_left h0 this

/-- What a division by the greatest common divisor, with the denominator's sign, gives. -/
theorem low_div {n d g : Int} (hd : d ≠ 0) (hg : g.natAbs = Int.gcd n d) (hs : 0 < d * g) : Low (n.tdiv g) (d.tdiv g) n d := by
  have hg0 : g ≠ 0 := by rintro rfl; omega
  obtain ⟨x, rfl⟩ : g ∣ n := by rw [← Int.natAbs_dvd_natAbs, hg]; exact Nat.gcd_dvd_left _ _
  obtain ⟨y, rfl⟩ : g ∣ d := by rw [← Int.natAbs_dvd_natAbs, hg]; exact Nat.gcd_dvd_right _ _
  rw [Int.mul_tdiv_cancel_left _ hg0, Int.mul_tdiv_cancel_left _ hg0]
  refine ⟨?_, hd, by grind, ?_⟩
  · have h1 : 0 < y * (g * g) := by rw [show y * (g * g) = g * y * g from by grind]; exact hs
    have h2 : 0 < g * g := by
      rcases Int.lt_trichotomy g 0 with h | h | h
      · exact Int.mul_pos_of_neg_of_neg h h
      · exact absurd h hg0
      · exact Int.mul_pos h h
    rcases Int.lt_or_le 0 y with h | h
    · exact h
    · have := Int.mul_nonpos_of_nonpos_of_nonneg h (Int.le_of_lt h2)
      omega
  · rw [Int.gcd_mul_left] at hg
    have : g.natAbs ≠ 0 := by omega
    exact Nat.eq_of_mul_eq_mul_left (Nat.pos_of_ne_zero this) (by omega)

theorem Low.zero {a b d : Int} (h : Low a b 0 d) : a = 0 ∧ b = 1 := by
  have := h.num_le
  have ha : a = 0 := by omega
  subst ha
  have := h.cop
  have hp := h.pos
  simp at this
  omega

theorem Ev.some {α : Type} {g : Nat → Option α} {r : α} (h : ∀ k, g k = Option.some r) : Ev g r := ⟨0, fun k _ => h k⟩

theorem tmod_nn {a b : Int} (ha : 0 ≤ a) (hb : 0 < b) : 0 ≤ Int.tmod a b ∧ Int.tmod a b < b ∧ Int.tmod a b = a % b := by
  rw [Int.tmod_eq_emod_of_nonneg ha]
  exact ⟨Int.emod_nonneg _ (by omega), Int.emod_lt_of_pos _ hb, rfl⟩

theorem gcd_step {a b : Int} (ha : 0 ≤ a) (hb : 0 < b) : Int.gcd b (Int.tmod a b) = Int.gcd a b := by
  rw [(tmod_nn ha hb).2.2, Int.gcd_comm a b]
  have h : a = a % b + b * (a / b) := by rw [Int.emod_add_mul_ediv]
  conv => rhs; rw [h]
  rw [Int.gcd_add_mul_left_right]

theorem common_l0 : ∀ (k : Nat) (a b : Int), 0 ≤ a → 0 ≤ b → b < k → impl_common.l0 k a b = some ((Int.gcd a b : Nat) : Int) := by
  intro k
  induction k with
  | zero => intro a b ha hb hk; omega
  | succ k ih =>
    intro a b ha hb hk
    simp only [impl_common.l0]
    by_cases h : b = 0
    · subst h
      rw [if_pos rfl, Int.gcd_zero_right]
      congr 1
      omega
    · rw [if_neg h]
      have hb' : 0 < b := by omega
      have h3 := tmod_nn ha hb'
      rw [ih b (Int.tmod a b) hb h3.1 (by omega), gcd_step ha hb']

theorem mx_abs {a : Int} (h0 : -9223372036854775808 < a) (h1 : a ≤ 9223372036854775807) : mx a (wrap64 (-a)) = (a.natAbs : Int) := by
  rw [w64 (by omega) (by omega)]
  unfold mx
  split <;> omega

theorem common_ev {a b : Int} (ha : a.natAbs ≤ 9223372036854775807) (hb : b.natAbs ≤ 9223372036854775807) :
    Ev (fun k => impl_common.f k a b) ((Int.gcd a b : Nat) : Int) := by
  refine ⟨b.natAbs + 1, fun k hk => ?_⟩
  show impl_common.f k a b = _
  unfold impl_common.f
  rw [mx_abs (by omega) (by omega), mx_abs (by omega) (by omega), common_l0 k _ _ (by omega) (by omega) (by omega)]
  simp [Int.gcd]


theorem rdOf_gd (xs : List Bool) (j : Nat) : rdOf false xs (j : Int) = xs.getD j false := by
  unfold rdOf
  rw [Int.toNat_natCast]
theorem rd_gd (xs : List Int) (j : Nat) : rd xs (j : Int) = xs.getD j 0 := by
  unfold rd
  rw [Int.toNat_natCast]
theorem set_gd {xs : List Bool} {j : Nat} (h : j < xs.length) (b : Bool) (v : Nat) : (xs.set j b).getD v false = if v = j then b else xs.getD v false := by
  rw [List.getD_eq_getElem?_getD, List.getD_eq_getElem?_getD, List.getElem?_set]
  by_cases e : j = v
  · subst e; simp [h]
  · rw [if_neg e, if_neg (fun h => e h.symm)]

theorem per_l2 (o : Int) (rows : List (List Int)) (row : List Int) (hn : rows.length ≤ 5) (hrow : row.length = rows.length) (x1 x6 x8 x36 x37 : Int) (x35 : List Int) :
    ∀ (m j : Nat) (x9 : List Bool), j + m = rows.length → x9.length = rows.length →
      ∃ x9' : List Bool, x9'.length = rows.length ∧ (∀ v, v < rows.length → (x9'.getD v false = true ↔ x9.getD v false = true ∨ (j ≤ v ∧ 0 < row.getD v 0))) ∧
        ∀ k, impl_PeriodOfState.l2 (k + m + 1) x1 x6 x8 x9 x35 x36 x37 row (row.length : Int) (j : Int) o rows = impl_PeriodOfState.l1 k x1 x6 x8 x9' x35 x36 (wrap64 (x37 + 1)) o rows := by
  intro m
  induction m with
  | zero =>
    intro j x9 hj hl
    refine ⟨x9, hl, fun v hv => ⟨Or.inl, fun h => h.elim id (fun h => absurd h.1 (by omega))⟩, fun k => ?_⟩
    rw [Nat.add_zero]
    simp only [impl_PeriodOfState.l2]
    rw [if_neg (by omega)]
  | succ m ih =>
    intro j x9 hj hl
    have hw : wrap64 ((j : Int) + 1) = ((j + 1 : Nat) : Int) := by rw [w64 (by omega) (by omega)]; omega
    obtain ⟨x9', h1, h2, h3⟩ := ih (j + 1) (x9.set j (x9.getD j false || decide (0 < row.getD j 0))) (by omega) (by simp [hl])
    refine ⟨x9', h1, fun v hv => ?_, fun k => ?_⟩
    · rw [h2 v hv, set_gd (by omega)]
      by_cases e : v = j
      · subst e
        rw [if_pos rfl]
        simp only [Bool.or_eq_true, decide_eq_true_eq]
        constructor
        · rintro ((h | h) | h)
          · exact Or.inl h
          · exact Or.inr ⟨Nat.le_refl _, h⟩
          · omega
        · rintro (h | h)
          · exact Or.inl (Or.inl h)
          · exact Or.inl (Or.inr h.2)
      · rw [if_neg e]
        constructor
        · rintro (h | h)
          · exact Or.inl h
          · exact Or.inr ⟨by omega, h.2⟩
        · rintro (h | h)
          · exact Or.inl h
          · exact Or.inr ⟨by omega, h.2⟩
    · have h3k := h3 k
      rw [show k + (m + 1) + 1 = (k + m + 1) + 1 from by omega]
      generalize k + m + 1 = K at h3k ⊢
      simp only [impl_PeriodOfState.l2]
      rw [if_pos (by omega), if_pos (by omega), if_pos (by omega), if_pos (by omega), rdOf_gd, rd_gd, hw, Int.toNat_natCast]
      rw [← h3k]
      by_cases c : x9.getD j false = true
      · rw [if_pos c, c, Bool.true_or]
      · rw [if_neg c, (by simpa using c : x9.getD j false = false), Bool.false_or]

theorem per_l1 (o : Int) (rows : List (List Int)) (hn : rows.length ≤ 5) (hsq : ∀ r ∈ rows, r.length = rows.length) (s : Nat) (hs : s < rows.length) (x6 x8 : Int) (mem : List Int) (hm : mem.length ≤ 5) (hmm : ∀ x ∈ mem, ∃ c : Nat, x = c ∧ c < rows.length) :
    ∀ (m j : Nat) (x9 : List Bool), j + m = mem.length → x9.length = rows.length →
      ∃ x9' : List Bool, x9'.length = rows.length ∧ (∀ v, v < rows.length → (x9'.getD v false = true ↔ x9.getD v false = true ∨ ∃ c : Nat, (c : Int) ∈ mem.drop j ∧ Edge rows c v)) ∧
        ∀ k, impl_PeriodOfState.l1 (k + m * (rows.length + 2) + 1) s x6 x8 x9 mem (mem.length : Int) (j : Int) o rows =
          if x9'.getD s false = true then (impl_common.f k x8 x6).bind fun t => impl_PeriodOfState.l0 k s t x9' (wrap64 (x8 + 1)) o rows else impl_PeriodOfState.l0 k s x6 x9' (wrap64 (x8 + 1)) o rows := by
  intro m
  induction m with
  | zero =>
    intro j x9 hj hl
    refine ⟨x9, hl, fun v hv => ⟨Or.inl, fun h => h.elim id (fun ⟨c, h, _⟩ => ?_)⟩, fun k => ?_⟩
    · rw [List.drop_eq_nil_of_le (by omega)] at h
      cases h
    · rw [Nat.zero_mul, Nat.add_zero]
      simp only [impl_PeriodOfState.l1]
      rw [if_neg (by omega), if_pos (by omega), if_pos (by omega), rdOf_gd]
  | succ m ih =>
    intro j x9 hj hl
    have hlt : j < mem.length := by omega
    obtain ⟨c, hc, hcl⟩ := hmm mem[j] (List.getElem_mem _)
    have hw : wrap64 ((j : Int) + 1) = ((j + 1 : Nat) : Int) := by rw [w64 (by omega) (by omega)]; omega
    have hr : rd_L1 rows (c : Int) = rows[c] := by
      unfold rd_L1
      rw [Int.toNat_natCast, List.getD_eq_getElem?_getD, List.getElem?_eq_getElem hcl]
      rfl
    have hrl : rows[c].length = rows.length := hsq _ (List.getElem_mem _)
    obtain ⟨y, hy1, hy2, hy3⟩ := per_l2 o rows rows[c] hn hrl s x6 x8 (mem.length : Int) j mem rows.length 0 x9 (by omega) hl
    obtain ⟨z, hz1, hz2, hz3⟩ := ih (j + 1) y (by omega) hy1
    refine ⟨z, hz1, fun v hv => ?_, fun k => ?_⟩
    · rw [hz2 v hv, hy2 v hv, List.drop_eq_getElem_cons hlt]
      have he : Edge rows c v ↔ 0 < rows[c].getD v 0 := by
        unfold Edge
        rw [List.getD_eq_getElem?_getD (l := rows), List.getElem?_eq_getElem hcl]
        rfl
      constructor
      · rintro ((h | h) | ⟨d, h1, h2⟩)
        · exact Or.inl h
        · exact Or.inr ⟨c, by rw [hc]; exact List.mem_cons_self, he.2 h.2⟩
        · exact Or.inr ⟨d, List.mem_cons_of_mem _ h1, h2⟩
      · rintro (h | ⟨d, h1, h2⟩)
        · exact Or.inl (Or.inl h)
        · rcases List.mem_cons.1 h1 with h1 | h1
          · rw [hc] at h1
            have : d = c := by omega
            subst this
            exact Or.inl (Or.inr ⟨Nat.zero_le _, he.1 h2⟩)
          · exact Or.inr ⟨d, h1, h2⟩
    · rw [show k + (m + 1) * (rows.length + 2) + 1 = ((k + m * (rows.length + 2) + 1) + rows.length + 1) + 1 from by rw [Nat.succ_mul]; omega]
      simp only [impl_PeriodOfState.l1]
      rw [if_pos (by omega), if_pos (by omega), if_pos (by omega), rd_get hlt, hc, if_pos (by omega), if_pos (by omega), hr]
      rw [show ((0 : Nat) : Int) = 0 from rfl] at hy3
      rw [hy3, hw]
      exact hz3 k

/-- The common divisor of all lengths of walks that come back. -/
noncomputable def perR (rows : List (List Int)) (s : Nat) : Nat → Nat → Int → Int
  | 0, _, p => p
  | m + 1, t, p => if @decide (Wk rows s s t) (Classical.propDecidable _) = true then perR rows s m (t + 1) ((Int.gcd t p : Nat) : Int) else perR rows s m (t + 1) p

theorem perR_pos {rows : List (List Int)} {s m t : Nat} {p : Int} (h : Wk rows s s t) : perR rows s (m + 1) t p = perR rows s m (t + 1) ((Int.gcd t p : Nat) : Int) := by
  simp only [perR]; rw [if_pos (by simpa using h)]
theorem perR_neg {rows : List (List Int)} {s m t : Nat} {p : Int} (h : ¬ Wk rows s s t) : perR rows s (m + 1) t p = perR rows s m (t + 1) p := by
  simp only [perR]; rw [if_neg (by simpa using h)]

theorem perR_dvd {rows : List (List Int)} {s : Nat} (d : Int) : ∀ (m t : Nat) (p : Int), d ∣ perR rows s m t p ↔ d ∣ p ∧ ∀ i : Nat, t ≤ i → i < t + m → Wk rows s s i → d ∣ (i : Int) := by
  intro m
  induction m with
  | zero => intro t p; exact ⟨fun h => ⟨h, fun i h1 h2 _ => by omega⟩, fun h => h.1⟩
  | succ m ih =>
    intro t p
    by_cases c : Wk rows s s t
    · rw [perR_pos c, ih, Int.dvd_coe_gcd_iff]
      constructor
      · rintro ⟨⟨h1, h2⟩, h3⟩
        refine ⟨h2, fun i h4 h5 h6 => ?_⟩
        by_cases e : i = t
        · rw [e]; exact h1
        · exact h3 i (by omega) (by omega) h6
      · rintro ⟨h1, h2⟩
        exact ⟨⟨h2 t (Nat.le_refl _) (by omega) c, h1⟩, fun i h4 h5 h6 => h2 i (by omega) (by omega) h6⟩
    · rw [perR_neg c, ih]
      constructor
      · rintro ⟨h1, h3⟩
        refine ⟨h1, fun i h4 h5 h6 => ?_⟩
        by_cases e : i = t
        · rw [e] at h6; exact absurd h6 c
        · exact h3 i (by omega) (by omega) h6
      · rintro ⟨h1, h2⟩
        exact ⟨h1, fun i h4 h5 h6 => h2 i (by omega) (by omega) h6⟩

theorem perR_nn {rows : List (List Int)} {s : Nat} : ∀ (m t : Nat) (p : Int), 0 ≤ p → 0 ≤ perR rows s m t p := by
  intro m
  induction m with
  | zero => intro t p h; exact h
  | succ m ih =>
    intro t p h
    by_cases c : Wk rows s s t
    · rw [perR_pos c]; exact ih _ _ (by omega)
    · rw [perR_neg c]; exact ih _ _ h

theorem Wk.lt {rows : List (List Int)} {s v t : Nat} (hs : s < rows.length) (h : Wk rows s v t) : v < rows.length := by
  cases h with
  | base => exact hs
  | step _ _ _ _ h _ => exact h

theorem per_l0 (o : Int) (rows : List (List Int)) (hn : rows.length ≤ 5) (hsq : ∀ r ∈ rows, r.length = rows.length) (s : Nat) (hs : s < rows.length) :
    ∀ (m t : Nat) (p : Int) (now : List Bool), t + m = 31 → 1 ≤ t → 0 ≤ p → p ≤ 30 → now.length = rows.length → (∀ v, v < rows.length → (now.getD v false = true ↔ Wk rows s v (t - 1))) →
      ∀ k, m * 60 + 60 ≤ k → impl_PeriodOfState.l0 k s p now t o rows = some (perR rows s m t p, decide (perR rows s m t p > 0)) := by
  intro m
  induction m with
  | zero =>
    intro t p now ht ht1 hp hp' hl hnow k hk
    obtain ⟨k, rfl⟩ : ∃ q, k = q + 1 := ⟨k - 1, by omega⟩
    simp only [impl_PeriodOfState.l0, perR]
    rw [if_neg (by omega)]
    rfl
  | succ m ih =>
    intro t p now ht ht1 hp hp' hl hnow k hk
    obtain ⟨k, rfl⟩ : ∃ q, k = q + 1 := ⟨k - 1, by omega⟩
    have hmem := members_ev rows.length now (fun v => Wk rows s v (t - 1)) hn hl (fun v hv => by
      rw [← hnow v (by omega), List.getD_eq_getElem?_getD, List.getElem?_eq_getElem hv]; rfl) k (by omega)
    have hsl := such_len 0 rows.length (fun v => Wk rows s v (t - 1))
    obtain ⟨x9, h1, h2, h3⟩ := per_l1 o rows hn hsq s hs p t (such 0 rows.length (fun v => Wk rows s v (t - 1))) (by omega)
      (fun x hx => by obtain ⟨i, e, _, h, _⟩ := such_mem.1 hx; exact ⟨i, e, by omega⟩)
      (such 0 rows.length (fun v => Wk rows s v (t - 1))).length 0 (List.replicate rows.length false) (by omega) (by simp)
    have h4 : ∀ v, v < rows.length → (x9.getD v false = true ↔ Wk rows s v t) := by
      intro v hv
      rw [h2 v hv]
      have hf : (List.replicate rows.length false).getD v false = false := by
        rw [List.getD_eq_getElem?_getD, List.getElem?_replicate]
        split <;> rfl
      rw [hf]
      constructor
      · rintro (h | ⟨c, hc, he⟩)
        · cases h
        · rw [List.drop_zero] at hc
          obtain ⟨i, e, _, h, hw⟩ := such_mem.1 hc
          have : c = i := by omega
          subst this
          have := Wk.step c v (t - 1) hw hv he
          rw [show t - 1 + 1 = t from by omega] at this
          exact this
      · intro h
        obtain ⟨t, rfl⟩ : ∃ q, t = q + 1 := ⟨t - 1, by omega⟩
        cases h with
        | step i _ _ hw _ he =>
          refine Or.inr ⟨i, ?_, he⟩
          rw [List.drop_zero]
          exact such_mem.2 ⟨i, rfl, Nat.zero_le _, by have := Wk.lt hs hw; omega, hw⟩
    have hw : wrap64 ((t : Int) + 1) = ((t + 1 : Nat) : Int) := by rw [w64 (by omega) (by omega)]; omega
    obtain ⟨q, hq⟩ : ∃ q, k = q + (such 0 rows.length (fun v => Wk rows s v (t - 1))).length * (rows.length + 2) + 1 := by
      refine ⟨k - 1 - (such 0 rows.length (fun v => Wk rows s v (t - 1))).length * (rows.length + 2), ?_⟩
      have : (such 0 rows.length (fun v => Wk rows s v (t - 1))).length * (rows.length + 2) ≤ 5 * 7 := Nat.mul_le_mul (by omega) (by omega)
      omega
    have hq' : m * 60 + 60 ≤ q := by
      have : (such 0 rows.length (fun v => Wk rows s v (t - 1))).length * (rows.length + 2) ≤ 5 * 7 := Nat.mul_le_mul (by omega) (by omega)
      omega
    simp only [impl_PeriodOfState.l0]
    rw [if_pos (by omega), if_pos (by omega), Int.toNat_natCast, if_pos (by omega), hmem, Option.bind_some]
    rw [show ((0 : Nat) : Int) = 0 from rfl] at h3
    conv => lhs; rw [hq]
    rw [h3 q, hw]
    have hgo := fun p' h h' => ih (t + 1) p' x9 (by omega) (by omega) h h' h1 (fun v hv => h4 v hv) q (by omega)
    by_cases c : Wk rows s s t
    · rw [if_pos ((h4 s hs).2 c), perR_pos c]
      obtain ⟨K, hK⟩ := common_ev (a := (t : Int)) (b := p) (by omega) (by omega)
      have hg : Int.gcd (t : Int) p ≤ t := by
        have := Nat.le_of_dvd (by omega : 0 < (t : Int).natAbs) (Nat.gcd_dvd_left (t : Int).natAbs p.natAbs)
        exact Nat.le_trans this (by omega)
      have hcm : impl_common.f q t p = some ((Int.gcd t p : Nat) : Int) := by
        unfold impl_common.f
        rw [mx_abs (by omega) (by omega), mx_abs (by omega) (by omega), common_l0 q _ _ (by omega) (by omega) (by omega)]
        simp [Int.gcd]
      rw [hcm, Option.bind_some]
      exact hgo _ (by omega) (by omega)
    · rw [if_neg (fun h => c ((h4 s hs).1 h)), perR_neg c]
      exact hgo _ hp hp'

theorem saCommon_l0 : ∀ (k : Nat) (a b : Int), 0 ≤ a → 0 ≤ b → b < k → spec_saCommon.l0 k a b = some ((Int.gcd a b : Nat) : Int) := by
  intro k
  induction k with
  | zero => intro a b ha hb hk; omega
  | succ k ih =>
    intro a b ha hb hk
    simp only [spec_saCommon.l0]
    by_cases h : b = 0
    · subst h
      rw [if_neg (by omega), Int.gcd_zero_right]
      congr 1
      omega
    · rw [if_pos (by omega), if_neg h]
      have hb' : 0 < b := by omega
      have h3 := tmod_nn ha hb'
      rw [ih b (Int.tmod a b) hb h3.1 (by omega), gcd_step ha hb']

theorem l1Abs_is {z : Int} (h0 : -1000 ≤ z) (h1 : z ≤ 1000) : spec_l1Abs.f z = some (z.natAbs : Int) := by
  simp only [spec_l1Abs.f, spec_l1Most.f, w64 (x := -z) (by omega) (by omega)]
  by_cases c : z > -z
  · rw [if_pos c, Option.bind_some]; congr 1; omega
  · rw [if_neg c, Option.bind_some]; congr 1; omega

noncomputable def perC (rows : List (List Int)) (far : List Int) (c : Nat) : List Int → Int → Int
  | [], x => x
  | y :: t, x => perC rows far c t (if @decide (Edge rows c y.toNat) (Classical.propDecidable _) = true then ((Int.gcd x ((fa far c + 1 - fa far y.toNat).natAbs : Int) : Nat) : Int) else x)

noncomputable def perD (rows : List (List Int)) (far : List Int) (cls : List Int) : List Int → Int → Int
  | [], x => x
  | c :: t, x => perD rows far cls t (perC rows far c.toNat cls x)

theorem perC_nn {rows : List (List Int)} {far : List Int} {c : Nat} : ∀ (l : List Int) (x : Int), 0 ≤ x → 0 ≤ perC rows far c l x := by
  intro l
  induction l with
  | nil => intro x h; exact h
  | cons y t ih =>
    intro x h
    simp only [perC]
    apply ih
    split
    · omega
    · exact h

theorem perD_nn {rows : List (List Int)} {far cls : List Int} : ∀ (l : List Int) (x : Int), 0 ≤ x → 0 ≤ perD rows far cls l x := by
  intro l
  induction l with
  | nil => intro x h; exact h
  | cons y t ih =>
    intro x h
    simp only [perD]
    exact ih _ (perC_nn _ _ h)

theorem perC_dvd {rows : List (List Int)} {far : List Int} {c : Nat} (d : Int) : ∀ (l : List Int) (x : Int), d ∣ perC rows far c l x ↔ d ∣ x ∧ ∀ y ∈ l, Edge rows c y.toNat → d ∣ fa far c + 1 - fa far y.toNat := by
  intro l
  induction l with
  | nil => intro x; simp [perC]
  | cons y t ih =>
    intro x
    simp only [perC]
    rw [ih]
    by_cases e : Edge rows c y.toNat
    · rw [if_pos (by simpa using e), Int.dvd_coe_gcd_iff, Int.dvd_natAbs]
      constructor
      · rintro ⟨⟨h1, h2⟩, h3⟩
        refine ⟨h1, fun z hz he => ?_⟩
        rcases List.mem_cons.1 hz with rfl | hz
        · exact h2
        · exact h3 z hz he
      · rintro ⟨h1, h2⟩
        exact ⟨⟨h1, h2 y List.mem_cons_self e⟩, fun z hz he => h2 z (List.mem_cons_of_mem _ hz) he⟩
    · rw [if_neg (by simpa using e)]
      constructor
      · rintro ⟨h1, h3⟩
        refine ⟨h1, fun z hz he => ?_⟩
        rcases List.mem_cons.1 hz with rfl | hz
        · exact absurd he e
        · exact h3 z hz he
      · rintro ⟨h1, h2⟩
        exact ⟨h1, fun z hz he => h2 z (List.mem_cons_of_mem _ hz) he⟩

theorem perD_dvd {rows : List (List Int)} {far cls : List Int} (d : Int) : ∀ (l : List Int) (x : Int), d ∣ perD rows far cls l x ↔ d ∣ x ∧ ∀ c ∈ l, ∀ y ∈ cls, Edge rows c.toNat y.toNat → d ∣ fa far c.toNat + 1 - fa far y.toNat := by
  intro l
  induction l with
  | nil => intro x; simp [perD]
  | cons c t ih =>
    intro x
    simp only [perD]
    rw [ih, perC_dvd]
    constructor
    · rintro ⟨⟨h1, h2⟩, h3⟩
      refine ⟨h1, fun z hz => ?_⟩
      rcases List.mem_cons.1 hz with rfl | hz
      · exact h2
      · exact h3 z hz
    · rintro ⟨h1, h2⟩
      exact ⟨⟨h1, h2 c List.mem_cons_self⟩, fun z hz => h2 z (List.mem_cons_of_mem _ hz)⟩

theorem specPer_l1 (o : Int) (rows : List (List Int)) (hn : rows.length ≤ 5) (hsq : ∀ r ∈ rows, r.length = rows.length) (far : List Int) (hfl : far.length = rows.length) (hlo : ∀ k, -1 ≤ fa far k) (hhi : ∀ k, k < rows.length → fa far k < rows.length)
    (cls : List Int) (hm : cls.length ≤ 5) (hmm : ∀ x ∈ cls, ∃ c : Nat, x = c ∧ c < rows.length) (c : Nat) (hc : c < rows.length) (x25 x26 : Int) (x24 : List Int) :
    ∀ (m j : Nat) (x : Int), j + m = cls.length → 0 ≤ x → ∀ k, 20 ≤ k →
      spec_PeriodOfState.l1 (k + m + 1) x far cls c x24 x25 x26 cls (cls.length : Int) (j : Int) o rows = spec_PeriodOfState.l0 k (perC rows far c (cls.drop j) x) far cls x24 x25 (wrap64 (x26 + 1)) o rows := by
  intro m
  induction m with
  | zero =>
    intro j x hj hx k hk
    rw [Nat.add_zero, List.drop_eq_nil_of_le (by omega)]
    simp only [spec_PeriodOfState.l1, perC]
    rw [if_neg (by omega)]
  | succ m ih =>
    intro j x hj hx k hk
    have hlt : j < cls.length := by omega
    obtain ⟨v, hv, hvl⟩ := hmm cls[j] (List.getElem_mem _)
    have hw : wrap64 ((j : Int) + 1) = ((j + 1 : Nat) : Int) := by rw [w64 (by omega) (by omega)]; omega
    have hr : rd_L1 rows (c : Int) = rows[c] := by
      unfold rd_L1
      rw [Int.toNat_natCast, List.getD_eq_getElem?_getD, List.getElem?_eq_getElem hc]
      rfl
    have hrl : rows[c].length = rows.length := hsq _ (List.getElem_mem _)
    have hgo := fun x' h => ih (j + 1) x' (by omega) h k hk
    have a1 := hlo c
    have a2 := hlo v
    have a3 := hhi c hc
    have a4 := hhi v hvl
    have e1 : (j : Int) < (cls.length : Int) := by omega
    have e2 : (0 : Int) ≤ (j : Int) := Int.natCast_nonneg _
    have e3 : (0 : Int) ≤ (c : Int) := Int.natCast_nonneg _
    have e4 : (c : Int) < (rows.length : Int) := by omega
    have e5 : (0 : Int) ≤ (v : Int) := Int.natCast_nonneg _
    have e6 : (v : Int) < ((rows[c]).length : Int) := by omega
    have e7 : (c : Int) < (far.length : Int) := by omega
    have e8 : (v : Int) < (far.length : Int) := by omega
    have e9 : v < rows[c].length := by omega
    have b1 : wrap64 (fa far c + 1) = fa far c + 1 := w64 (by omega) (by omega)
    have b2 : wrap64 (fa far c + 1 - fa far v) = fa far c + 1 - fa far v := w64 (by omega) (by omega)
    have b3 : spec_l1Abs.f (fa far c + 1 - fa far v) = some ((fa far c + 1 - fa far v).natAbs : Int) := l1Abs_is (by omega) (by omega)
    have b4 : ((fa far c + 1 - fa far v).natAbs : Int) ≤ 15 := by omega
    rw [List.drop_eq_getElem_cons hlt, show k + (m + 1) + 1 = (k + m + 1) + 1 from by omega]
    have hq : 20 ≤ k + m + 1 := by omega
    have b5 : spec_saCommon.f (k + m + 1) x ((fa far c + 1 - fa far v).natAbs : Int) = some ((Int.gcd x ((fa far c + 1 - fa far v).natAbs : Int) : Nat) : Int) := saCommon_l0 (k + m + 1) x _ hx (by omega) (by omega)
    simp only [perC, hv, Int.toNat_natCast]
    generalize k + m + 1 = K at hgo hq b5 ⊢
    simp only [spec_PeriodOfState.l1]
    rw [if_pos e1, if_pos e2, if_pos e1, if_pos e3, if_pos e4, rd_get hlt, hv, if_pos e5, hr, if_pos e6, rd_get e9, hw]
    by_cases e : Edge rows c v
    · have e' : rows[c][v] > 0 := (edge_get hc (by omega)).1 e
      rw [if_pos e', if_pos e7, if_pos e8, if_pos (by simpa using e), rd_fa (by omega : c < far.length), rd_fa (by omega : v < far.length), b1, b2, b3, Option.bind_some, b5, Option.bind_some]
      exact hgo _ (by omega)
    · have e' : ¬ rows[c][v] > 0 := fun h => e ((edge_get hc (by omega)).2 h)
      rw [if_neg e', if_neg (by simpa using e)]
      exact hgo _ hx

theorem specPer_l0 (o : Int) (rows : List (List Int)) (hn : rows.length ≤ 5) (hsq : ∀ r ∈ rows, r.length = rows.length) (far : List Int) (hfl : far.length = rows.length) (hlo : ∀ k, -1 ≤ fa far k) (hhi : ∀ k, k < rows.length → fa far k < rows.length)
    (cls : List Int) (hm : cls.length ≤ 5) (hmm : ∀ x ∈ cls, ∃ c : Nat, x = c ∧ c < rows.length) :
    ∀ (m j : Nat) (x : Int), j + m = cls.length → 0 ≤ x → ∀ k, 40 + m * 10 ≤ k →
      spec_PeriodOfState.l0 k x far cls cls (cls.length : Int) (j : Int) o rows = if perD rows far cls (cls.drop j) x = 0 then some (0, false) else some (perD rows far cls (cls.drop j) x, true) := by
  intro m
  induction m with
  | zero =>
    intro j x hj hx k hk
    obtain ⟨k, rfl⟩ : ∃ q, k = q + 1 := ⟨k - 1, by omega⟩
    rw [List.drop_eq_nil_of_le (by omega)]
    simp only [spec_PeriodOfState.l0, perD]
    rw [if_neg (by omega)]
    rfl
  | succ m ih =>
    intro j x hj hx k hk
    obtain ⟨k, rfl⟩ : ∃ q, k = (q + cls.length + 1) + 1 := ⟨k - cls.length - 2, by omega⟩
    have hlt : j < cls.length := by omega
    obtain ⟨v, hv, hvl⟩ := hmm cls[j] (List.getElem_mem _)
    have hw : wrap64 ((j : Int) + 1) = ((j + 1 : Nat) : Int) := by rw [w64 (by omega) (by omega)]; omega
    have h1 := specPer_l1 o rows hn hsq far hfl hlo hhi cls hm hmm v hvl (cls.length : Int) (j : Int) cls cls.length 0 x (by omega) hx k (by omega)
    rw [List.drop_eq_getElem_cons hlt]
    simp only [perD, hv, Int.toNat_natCast]
    generalize hK : k + cls.length + 1 = K at h1 ⊢
    simp only [spec_PeriodOfState.l0]
    rw [if_pos (by omega), if_pos (by omega), if_pos (by omega), rd_get hlt, hv]
    rw [show ((0 : Nat) : Int) = 0 from rfl, List.drop_zero] at h1
    rw [h1, hw]
    exact ih (j + 1) _ (by omega) (perC_nn _ _ hx) k (by omega)

theorem Wk.trans {rows : List (List Int)} {a b c t u : Nat} (h1 : Wk rows a b t) (h2 : Wk rows b c u) : Wk rows a c (t + u) := by
  induction h2 with
  | base => exact h1
  | step i k d _ hk he ih => exact Wk.step i k (t + d) ih hk he

theorem dvd_ext {a b : Int} (ha : 0 ≤ a) (hb : 0 ≤ b) (h : ∀ d : Int, d ∣ a ↔ d ∣ b) : a = b :=
  Int.dvd_antisymm ha hb ((h a).1 (Int.dvd_refl a)) ((h b).2 (Int.dvd_refl b))

theorem period_same (o : Int) (rows : List (List Int)) (hn : rows.length ≤ 5) (hsq : ∀ r ∈ rows, r.length = rows.length) (s : Nat) (hs : s < rows.length) (far : List Int) (hf : IsFar rows s far) :
    perR rows s 30 1 0 = perD rows far (such 0 rows.length (Both rows s)) (such 0 rows.length (Both rows s)) 0 := by
  refine dvd_ext (perR_nn _ _ _ (by omega)) (perD_nn _ _ (by omega)) fun d => ?_
  rw [perR_dvd, perD_dvd]
  constructor
  · rintro ⟨_, h⟩
    refine ⟨Int.dvd_zero _, fun c hc y hy he => ?_⟩
    obtain ⟨c, rfl, _, hcl, bc⟩ := such_mem.1 hc
    obtain ⟨y, rfl, _, hyl, by'⟩ := such_mem.1 hy
    rw [Int.toNat_natCast, Int.toNat_natCast] at he ⊢
    have fc := (hf.mem c (by omega)).2 bc.1
    have fy := (hf.mem y (by omega)).2 by'.1
    have wc := hf.wk c (by omega) fc
    have wy := hf.wk y (by omega) fy
    obtain ⟨fary, hfy, _⟩ := saFar_ev o rows y hn hsq (by omega)
    have fs := (hfy.mem s hs).2 by'.2
    have wb := hfy.wk s hs fs
    have i1 := hf.high c (by omega)
    have i2 := hf.high y (by omega)
    have i3 := hfy.high s hs
    have w1 := (Wk.step c y _ wc (by omega) he).trans wb
    have w2 := wy.trans wb
    have d1 := h _ (by omega) (by omega) w1
    have d2 : d ∣ (((fa far y).toNat + (fa fary s).toNat : Nat) : Int) := by
      by_cases z : (fa far y).toNat + (fa fary s).toNat = 0
      · rw [z]; exact Int.dvd_zero _
      · exact h _ (by omega) (by omega) w2
    have d3 := Int.dvd_sub d1 d2
    rw [show (((fa far c).toNat + 1 + (fa fary s).toNat : Nat) : Int) - (((fa far y).toNat + (fa fary s).toNat : Nat) : Int) = fa far c + 1 - fa far y from by omega] at d3
    exact d3
  · rintro ⟨_, h⟩
    refine ⟨Int.dvd_zero _, fun i _ _ hw => ?_⟩
    have key : ∀ v t, Wk rows s v t → RC rows (-1) s v ∧ (RC rows (-1) v s → d ∣ (t : Int) - fa far v) := by
      intro v t hv
      induction hv with
      | base => exact ⟨RC.base, fun _ => by rw [hf.zero]; exact Int.dvd_zero _⟩
      | step i k e hi hk he ih =>
        have r1 : RC rows (-1) i k := RC.step i k RC.base (by omega) hk he
        refine ⟨ih.1.trans r1, fun hks => ?_⟩
        have r2 : RC rows (-1) i s := r1.trans hks
        have d1 := ih.2 r2
        have hil := Wk.lt hs hi
        have d2 := h i (such_mem.2 ⟨i, rfl, Nat.zero_le _, by omega, ih.1, r2⟩) k (such_mem.2 ⟨k, rfl, Nat.zero_le _, by omega, ih.1.trans r1, hks⟩) (by rw [Int.toNat_natCast, Int.toNat_natCast]; exact he)
        rw [Int.toNat_natCast, Int.toNat_natCast] at d2
        have d3 := Int.dvd_add d1 d2
        rw [show (e : Int) - fa far i + (fa far i + 1 - fa far k) = ((e + 1 : Nat) : Int) - fa far k from by omega] at d3
        exact d3
    have := (key s i hw).2 RC.base
    rw [hf.zero, Int.sub_zero] at this
    exact this

theorem periodOfState_same (o : Int) (rows : List (List Int)) (a : Int) (h1 : rows.length ≤ 1048576) (h2 : ∀ r ∈ rows, r.length ≤ 1048576) :
    ∃ (t : Int) (u : Bool), ∃ K, ∀ k, K ≤ k → spec_PeriodOfState.f k o rows a = some (t, u) ∧ impl_PeriodOfState.f k o rows a = some (t, u) := by
  obtain ⟨t1, ht1, K2, E2⟩ := saAsked_ev o rows a a h1 h2
  obtain ⟨t2, ht2, K3, E3⟩ := asked1_ev o rows a h1 h2
  have ht : t1 = t2 := by rw [Bool.eq_iff_iff, ht1, ht2]
  subst ht
  cases t1 with
  | false =>
    refine ⟨0, false, K2 + K3, fun k hk => ⟨?_, ?_⟩⟩
    · simp [spec_PeriodOfState.f, E2 k (by omega)]
    · simp [impl_PeriodOfState.f, E3 k (by omega)]
  | true =>
    obtain ⟨⟨g1, g2, g3, g4, g5⟩, ga, _⟩ := ht1.1 rfl
    have hsq : ∀ r ∈ rows, r.length = rows.length := fun r hr => (g5 r hr).1
    obtain ⟨f, rfl⟩ := Int.eq_ofNat_of_zero_le ga.1
    have hfl : f < rows.length := by omega
    obtain ⟨far, hf, E4⟩ := saFar_ev o rows f g4 hsq hfl
    have hps := period_same o rows g4 hsq f hfl far hf
    have hnn := perR_nn (rows := rows) (s := f) 30 1 0 (by omega)
    have hsl := such_len 0 rows.length (Both rows f)
    refine ⟨perR rows f 30 1 0, decide (perR rows f 30 1 0 > 0), K2 + K3 + 4000, fun k hk => ⟨?_, ?_⟩⟩
    · simp only [spec_PeriodOfState.f, E2 k (by omega), Option.bind_some, ↓reduceIte, E4 k (by omega), saClass_ev o rows f g4 hsq hfl k (by omega)]
      have := specPer_l0 o rows g4 hsq far hf.len hf.low hf.high (such 0 rows.length (Both rows f)) (by omega) (fun x hx => by obtain ⟨i, e, _, h, _⟩ := such_mem.1 hx; exact ⟨i, e, by omega⟩) (such 0 rows.length (Both rows f)).length 0 0 (by omega) (by omega) k (by omega)
      rw [List.drop_zero, ← hps] at this
      refine this.trans ?_
      by_cases c : perR rows f 30 1 0 = 0
      · rw [if_pos c, c]; rfl
      · rw [if_neg c, decide_eq_true (by omega)]
    · simp only [impl_PeriodOfState.f, E3 k (by omega), Option.bind_some, ↓reduceIte]
      rw [if_pos (by omega), if_pos (by omega), if_pos (by omega), if_pos (by simp; omega), Int.toNat_natCast, Int.toNat_natCast]
      exact per_l0 o rows g4 hsq f hfl 30 1 0 _ (by omega) (by omega) (by omega) (by omega) (by simp) (fun v hv => by
        rw [set_gd (by simp; omega)]
        have hf' : (List.replicate rows.length false).getD v false = false := by
          rw [List.getD_eq_getElem?_getD, List.getElem?_replicate]
          split <;> rfl
        by_cases e : v = f
        · subst e; rw [if_pos rfl]; exact ⟨fun _ => Wk.base, fun _ => rfl⟩
        · rw [if_neg e, hf']
          constructor
          · intro h; cases h
          · intro h; cases h; exact absurd rfl e) k (by omega)

theorem FnExactPeriodOfState (o : Int) (rows : List (List Int)) (a : Int) (wo : (Lit.int .i64 o).wf = true) (wr : ∀ r ∈ rows, ∀ x ∈ r, (Lit.int .i64 x).wf = true) (hl : rows.length ≤ maxLen) (hr : ∀ r ∈ rows, r.length ≤ maxLen) (wa : (Lit.int .i64 a).wf = true) : ∃ k, laws_FnExactPeriodOfState.f k o rows a = some true := by
  obtain ⟨r, ⟨K1, E1⟩, h⟩ := szStates_ev o rows (by unfold maxLen at hl; omega) (fun r h => by have := hr r h; unfold maxLen at this; omega)
  by_cases h0 : r < 0
  · refine ⟨K1, ?_⟩
    simp only [laws_FnExactPeriodOfState.f, E1 K1 (by omega), Option.bind_some]
    rw [if_pos h0]
  · obtain ⟨h1, h2⟩ := h (by omega)
    obtain ⟨t, u, K6, q⟩ := periodOfState_same o rows a h1 h2
    obtain ⟨k, hk1, hk2, hk3⟩ : ∃ k, K1 ≤ k ∧ K6 ≤ k ∧ 5000000 ≤ k := ⟨K1 + K6 + 5000000, by omega, by omega, by omega⟩
    refine ⟨k + 1, ?_⟩
    simp only [laws_FnExactPeriodOfState.f, E1 (k + 1) (by omega), toStates_is o rows h1 h2 (k + 1) (by omega), (q (k + 1) (by omega)).1, (q (k + 1) (by omega)).2, Option.bind_some]
    rw [if_neg h0]
    simp only [↓reduceIte, bne_self_eq_false, laws_FnExactPeriodOfState.j0, Bool.false_eq_true, toStates_is o rows h1 h2 k (by omega), eqStates_is o rows h1 h2 k (by omega), Option.bind_some]

end Go.Proofs.Ytlpegpmcnimfbaa.Pure
