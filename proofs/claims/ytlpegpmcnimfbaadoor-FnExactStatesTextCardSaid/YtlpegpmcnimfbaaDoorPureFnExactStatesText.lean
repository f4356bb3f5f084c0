/- For all arguments the program and the reference return the same from StatesText: the plain statement over numbers and lists, and its proof. -/
import Derived.Test.YtlpegpmcnimfbaaDoorPFnExactStatesTextx1
import Derived.Test.YtlpegpmcnimfbaaDoorPFnExactStatesTextx2
import Derived.Test.YtlpegpmcnimfbaaDoorPFnExactStatesTextx3
import Derived.Test.YtlpegpmcnimfbaaDoorPFnExactStatesTextx4
import Derived.Test.YtlpegpmcnimfbaaDoorPFnExactStatesTextx5
namespace Go.Proofs.YtlpegpmcnimfbaaDoor.Pure
open Go.RowKit Go.Proofs.YtlpegpmcnimfbaaDoor.PFnExactStatesText Go.Proofs.YtlpegpmcnimfbaaDoorW.PrintWords Go.Proofs.YtlpegpmcnimfbaaDoorW.PrintLast Go.Proofs.YtlpegpmcnimfbaaDoorW.PrintMore
set_option linter.unusedVariables false
set_option linter.unusedSimpArgs false
set_option maxRecDepth 100000
theorem w64 {x : Int} (h0 : -9223372036854775808 ≤ x) (h1 : x ≤ 9223372036854775807) : wrap64 x = x := by
  unfold wrap64
  omega

theorem mul_fits {x y A B : Int} (hx : x.natAbs ≤ A.natAbs) (hy : y.natAbs ≤ B.natAbs) : (x * y).natAbs ≤ (A * B).natAbs := by
  rw [Int.natAbs_mul, Int.natAbs_mul]
  exact Nat.mul_le_mul hx hy

/-- A product of numbers of at most nine digits. -/
theorem mul9 {x y : Int} (hx : x.natAbs ≤ 1000000000) (hy : y.natAbs ≤ 1000000000) : (x * y).natAbs ≤ 1000000000000000000 := by
  rw [Int.natAbs_mul]
  exact Nat.le_trans (Nat.mul_le_mul hx hy) (by decide)

theorem wf_range {a : Int} (h : (Lit.int .i64 a).wf = true) : -9223372036854775808 ≤ a ∧ a ≤ 9223372036854775807 := by
  simp [Lit.wf, IntKind.min, IntKind.max, IntKind.signed, IntKind.bits] at h
  omega

theorem rd_get {xs : List Int} {j : Nat} (h : j < xs.length) : rd xs (j : Int) = xs[j] := by
  unfold rd
  rw [Int.toNat_natCast, List.getD_eq_getElem?_getD, List.getElem?_eq_getElem h]
  rfl

theorem rd1_get {xs : List (List Int)} {j : Nat} (h : j < xs.length) : rd_L1 xs (j : Int) = xs[j] := by
  unfold rd_L1
  rw [Int.toNat_natCast, List.getD_eq_getElem?_getD, List.getElem?_eq_getElem h]
  rfl

theorem szSS_l0 (rows : List (List Int)) (hl : rows.length ≤ 9223372036854775807) (hr : ∀ r ∈ rows, r.length ≤ 9223372036854775807) : ∀ (m j : Nat) (left : Int), j + m = rows.length → 0 ≤ left → left ≤ 1048576 →
    ∃ r, (∃ K, ∀ k, K ≤ k → laws_szIntSS.l0 k rows left j = some r) ∧ (0 ≤ r → ∀ i (h : i < rows.length), j ≤ i → (rows[i].length : Int) ≤ left) := by
  intro m
  induction m with
  | zero =>
    intro j left hj h0 h1
    refine ⟨left, ⟨1, fun k hk => ?_⟩, fun _ i h hi => by omega⟩
    obtain ⟨k, rfl⟩ : ∃ m, k = m + 1 := ⟨k - 1, by omega⟩
    simp only [laws_szIntSS.l0]
    rw [if_neg (by omega)]
  | succ m ih =>
    intro j left hj h0 h1
    have hlt : j < rows.length := by omega
    have hrr := hr _ (List.getElem_mem hlt)
    by_cases hc : left - (rows[j].length : Int) < 0
    · refine ⟨-1, ⟨1, fun k hk => ?_⟩, fun h => by omega⟩
      obtain ⟨k, rfl⟩ : ∃ m, k = m + 1 := ⟨k - 1, by omega⟩
      simp only [laws_szIntSS.l0, laws_szIntS.f]
      rw [if_pos (by omega), if_pos (by omega), rd1_get hlt, w64 (x := left - (rows[j].length : Int)) (by omega) (by omega), if_pos hc]
      rfl
    · obtain ⟨r, ⟨K, E⟩, h⟩ := ih (j + 1) (left - (rows[j].length : Int)) (by omega) (by omega) (by omega)
      refine ⟨r, ⟨K + 1, fun k hk => ?_⟩, fun h2 i hi hji => ?_⟩
      · obtain ⟨k, rfl⟩ : ∃ m, k = m + 1 := ⟨k - 1, by omega⟩
        simp only [laws_szIntSS.l0, laws_szIntS.f]
        rw [if_pos (by omega), if_pos (by omega), rd1_get hlt, w64 (x := left - (rows[j].length : Int)) (by omega) (by omega), if_neg hc]
        simp only [Option.bind_some]
        rw [if_neg hc, w64 (x := (j : Int) + 1) (by omega) (by omega)]
        exact E k (by omega)
      · by_cases hij : i = j
        · subst hij; omega
        · have := h h2 i hi (by omega)
          omega

theorem szStates_ev (o : Int) (rows : List (List Int)) (hl : rows.length ≤ 9223372036854775807) (hr : ∀ r ∈ rows, r.length ≤ 9223372036854775807) :
    ∃ r, (∃ K, ∀ k, K ≤ k → laws_szStates.f k o rows 1048576 = some r) ∧ (0 ≤ r → rows.length ≤ 1048576 ∧ ∀ x ∈ rows, x.length ≤ 1048576) := by
  by_cases hc : 1048576 - (rows.length : Int) < 0
  · refine ⟨-1, ⟨0, fun k _ => ?_⟩, fun h => by omega⟩
    simp only [laws_szStates.f, laws_szIntSS.f]
    rw [w64 (x := 1048576 - (rows.length : Int)) (by omega) (by omega), if_pos hc]
    rfl
  · obtain ⟨r, ⟨K, E⟩, h⟩ := szSS_l0 rows hl hr rows.length 0 (1048576 - (rows.length : Int)) (by omega) (by omega) (by omega)
    by_cases hr0 : r < 0
    · refine ⟨-1, ⟨K, fun k hk => ?_⟩, fun h => by omega⟩
      simp only [laws_szStates.f, laws_szIntSS.f]
      rw [w64 (x := 1048576 - (rows.length : Int)) (by omega) (by omega), if_neg hc, show laws_szIntSS.l0 k rows (1048576 - (rows.length : Int)) 0 = some r from E k hk]
      simp only [Option.bind_some]
      rw [if_pos hr0]
    · refine ⟨r, ⟨K, fun k hk => ?_⟩, fun h0 => ⟨by omega, fun x hx => ?_⟩⟩
      · simp only [laws_szStates.f, laws_szIntSS.f]
        rw [w64 (x := 1048576 - (rows.length : Int)) (by omega) (by omega), if_neg hc, show laws_szIntSS.l0 k rows (1048576 - (rows.length : Int)) 0 = some r from E k hk]
        simp only [Option.bind_some]
        rw [if_neg hr0]
      · obtain ⟨i, hi, rfl⟩ := List.getElem_of_mem hx
        have := h h0 i hi (by omega)
        omega

theorem toIntS_l0 (xs : List Int) (hx : xs.length ≤ 1048576) : ∀ (m j k : Nat) (ys : List Int), m < k → j + m = xs.length → ys.length = xs.length → ys.take j = xs.take j →
    laws_toIntS.l0 k xs ys j = some xs := by
  intro m
  induction m with
  | zero =>
    intro j k ys hk hj hy ht
    obtain ⟨k, rfl⟩ : ∃ m, k = m + 1 := ⟨k - 1, by omega⟩
    simp only [laws_toIntS.l0]
    rw [if_neg (by omega)]
    rw [List.take_of_length_le (by omega), List.take_of_length_le (by omega)] at ht
    rw [ht]
  | succ m ih =>
    intro j k ys hk hj hy ht
    obtain ⟨k, rfl⟩ : ∃ m, k = m + 1 := ⟨k - 1, by omega⟩
    have hlt : j < xs.length := by omega
    simp only [laws_toIntS.l0]
    rw [if_pos (by omega), if_pos (by omega), if_pos (by omega), rd_get hlt, w64 (x := (j : Int) + 1) (by omega) (by omega), show (j : Int) + 1 = ((j + 1 : Nat) : Int) from by omega, Int.toNat_natCast]
    refine ih (j + 1) k _ (by omega) (by omega) (by rw [List.length_set]; exact hy) ?_
    rw [List.take_add_one, List.take_add_one, List.take_set_of_le (by omega), ht, List.getElem?_set_self (by omega), List.getElem?_eq_getElem hlt]

theorem toIntS_is (xs : List Int) (hx : xs.length ≤ 1048576) (k : Nat) (hk : xs.length < k) : laws_toIntS.f k xs = some xs := by
  unfold laws_toIntS.f
  rw [if_pos (by omega), if_pos (by omega)]
  exact toIntS_l0 xs hx xs.length 0 k _ hk (by omega) (by simp) rfl

theorem toIntSS_l0 (xs : List (List Int)) (hx : xs.length ≤ 1048576) (hr : ∀ r ∈ xs, r.length ≤ 1048576) : ∀ (m j k : Nat) (ys : List (List Int)), m + 1048578 < k → j + m = xs.length → ys.length = xs.length → ys.take j = xs.take j →
    laws_toIntSS.l0 k xs ys j = some xs := by
  intro m
  induction m with
  | zero =>
    intro j k ys hk hj hy ht
    obtain ⟨k, rfl⟩ : ∃ m, k = m + 1 := ⟨k - 1, by omega⟩
    simp only [laws_toIntSS.l0]
    rw [if_neg (by omega)]
    rw [List.take_of_length_le (by omega), List.take_of_length_le (by omega)] at ht
    rw [ht]
  | succ m ih =>
    intro j k ys hk hj hy ht
    obtain ⟨k, rfl⟩ : ∃ m, k = m + 1 := ⟨k - 1, by omega⟩
    have hlt : j < xs.length := by omega
    have hrr := hr _ (List.getElem_mem hlt)
    simp only [laws_toIntSS.l0]
    rw [if_pos (by omega), if_pos (by omega), rd1_get hlt, toIntS_is _ hrr k (by omega)]
    simp only [Option.bind_some]
    rw [if_pos (by omega), w64 (x := (j : Int) + 1) (by omega) (by omega), show (j : Int) + 1 = ((j + 1 : Nat) : Int) from by omega, Int.toNat_natCast]
    refine ih (j + 1) k _ (by omega) (by omega) (by rw [List.length_set]; exact hy) ?_
    rw [List.take_add_one, List.take_add_one, List.take_set_of_le (by omega), ht, List.getElem?_set_self (by omega), List.getElem?_eq_getElem hlt]

theorem toStates_is (o : Int) (xs : List (List Int)) (hx : xs.length ≤ 1048576) (hr : ∀ r ∈ xs, r.length ≤ 1048576) (k : Nat) (hk : 3000000 ≤ k) : laws_toStates.f k o xs = some (o, xs) := by
  unfold laws_toStates.f laws_toIntSS.f
  rw [if_pos (by omega), if_pos (by omega)]
  rw [show laws_toIntSS.l0 k xs (List.replicate ((xs.length : Int) : Int).toNat []) 0 = some xs from toIntSS_l0 xs hx hr xs.length 0 k _ (by omega) (by omega) (by simp) rfl]
  rfl

theorem eqIntS_l0 (xs : List Int) (hx : xs.length ≤ 1048576) : ∀ (m j k : Nat), m < k → j + m = xs.length → laws_eqIntS.l0 k xs xs j = some true := by
  intro m
  induction m with
  | zero =>
    intro j k hk hj
    obtain ⟨k, rfl⟩ : ∃ m, k = m + 1 := ⟨k - 1, by omega⟩
    simp only [laws_eqIntS.l0]
    rw [if_neg (by omega)]
  | succ m ih =>
    intro j k hk hj
    obtain ⟨k, rfl⟩ : ∃ m, k = m + 1 := ⟨k - 1, by omega⟩
    simp only [laws_eqIntS.l0, ↓reduceIte]
    rw [if_pos (by omega), if_pos (by omega), if_pos (by omega), w64 (x := (j : Int) + 1) (by omega) (by omega), show (j : Int) + 1 = ((j + 1 : Nat) : Int) from by omega]
    exact ih (j + 1) k (by omega) (by omega)

theorem eqIntS_is (xs : List Int) (hx : xs.length ≤ 1048576) (k : Nat) (hk : xs.length < k) : laws_eqIntS.f k xs xs = some true := by
  simp only [laws_eqIntS.f, ↓reduceIte]
  exact eqIntS_l0 xs hx xs.length 0 k hk (by omega)

theorem eqIntSS_l0 (xs : List (List Int)) (hx : xs.length ≤ 1048576) (hr : ∀ r ∈ xs, r.length ≤ 1048576) : ∀ (m j k : Nat), m + 1048578 < k → j + m = xs.length → laws_eqIntSS.l0 k xs xs j = some true := by
  intro m
  induction m with
  | zero =>
    intro j k hk hj
    obtain ⟨k, rfl⟩ : ∃ m, k = m + 1 := ⟨k - 1, by omega⟩
    simp only [laws_eqIntSS.l0]
    rw [if_neg (by omega)]
  | succ m ih =>
    intro j k hk hj
    obtain ⟨k, rfl⟩ : ∃ m, k = m + 1 := ⟨k - 1, by omega⟩
    have hlt : j < xs.length := by omega
    have hrr := hr _ (List.getElem_mem hlt)
    simp only [laws_eqIntSS.l0]
    rw [if_pos (by omega), if_pos (by omega), if_pos (by omega), rd1_get hlt, eqIntS_is _ hrr k (by omega)]
    simp only [Option.bind_some, ↓reduceIte]
    rw [w64 (x := (j : Int) + 1) (by omega) (by omega), show (j : Int) + 1 = ((j + 1 : Nat) : Int) from by omega]
    exact ih (j + 1) k (by omega) (by omega)

theorem eqIntSS_is (xs : List (List Int)) (hx : xs.length ≤ 1048576) (hr : ∀ r ∈ xs, r.length ≤ 1048576) (k : Nat) (hk : 3000000 ≤ k) : laws_eqIntSS.f k xs xs = some true := by
  simp only [laws_eqIntSS.f, ↓reduceIte]
  exact eqIntSS_l0 xs hx hr xs.length 0 k (by omega) (by omega)

theorem eqStates_is (o : Int) (xs : List (List Int)) (hx : xs.length ≤ 1048576) (hr : ∀ r ∈ xs, r.length ≤ 1048576) (k : Nat) (hk : 3000000 ≤ k) : laws_eqStates.f k o xs o xs = some true := by
  simp only [laws_eqStates.f, ↓reduceIte, eqIntSS_is xs hx hr k hk, Option.bind_some]

/-- A row of chances: n numbers from 0 on, o in all. -/
def GoodRow (n : Nat) (o : Int) (row : List Int) : Prop := row.length = n ∧ (∀ x ∈ row, 0 ≤ x) ∧ row.sum = o
/-- Valid states. -/
def Good (o : Int) (rows : List (List Int)) : Prop := 1 ≤ o ∧ o ≤ 10 ∧ 1 ≤ rows.length ∧ rows.length ≤ 5 ∧ ∀ row ∈ rows, GoodRow rows.length o row

theorem sum_nonneg : ∀ (l : List Int), (∀ x ∈ l, 0 ≤ x) → 0 ≤ l.sum
  | [], _ => by simp
  | x :: l, h => by
    have h1 := h x (by simp)
    have h2 := sum_nonneg l (fun y hy => h y (by simp [hy]))
    simp only [List.sum_cons]
    omega

theorem le_sum : ∀ (l : List Int), (∀ x ∈ l, 0 ≤ x) → ∀ x ∈ l, x ≤ l.sum
  | [], _, x, hx => by simp at hx
  | y :: l, h, x, hx => by
    have h1 := h y (by simp)
    have h2 := sum_nonneg l (fun z hz => h z (by simp [hz]))
    simp only [List.sum_cons]
    rcases List.mem_cons.1 hx with rfl | hx
    · omega
    · have := le_sum l (fun z hz => h z (by simp [hz])) x hx
      omega

theorem in_true {n a b : Int} (h : a ≤ n ∧ n ≤ b) : (if n ≥ a then some (decide (n ≤ b)) else some false) = some true := by
  rw [if_pos h.1, decide_eq_true h.2]
theorem in_false {n a b : Int} (h : ¬ (a ≤ n ∧ n ≤ b)) : (if n ≥ a then some (decide (n ≤ b)) else some false) = some false := by
  by_cases h1 : n ≥ a
  · rw [if_pos h1, decide_eq_false (by omega)]
  · rw [if_neg h1]

theorem l1All_l0 (a b : Int) (xs : List Int) (hx : xs.length ≤ 1048576) : ∀ (m j : Nat), j + m = xs.length →
    ∃ t : Bool, (t = true ↔ ∀ x ∈ xs.drop j, a ≤ x ∧ x ≤ b) ∧ ∀ k, m < k → spec_l1All.l0 k a b xs (xs.length : Int) j = some t := by
  intro m
  induction m with
  | zero =>
    intro j hj
    refine ⟨true, ?_, fun k hk => ?_⟩
    · rw [List.drop_of_length_le (by omega)]; simp
    · obtain ⟨k, rfl⟩ : ∃ m, k = m + 1 := ⟨k - 1, by omega⟩
      simp only [spec_l1All.l0]
      rw [if_neg (by omega)]
  | succ m ih =>
    intro j hj
    have hlt : j < xs.length := by omega
    by_cases h : a ≤ xs[j] ∧ xs[j] ≤ b
    · obtain ⟨t, ht, E⟩ := ih (j + 1) (by omega)
      refine ⟨t, ?_, fun k hk => ?_⟩
      · rw [List.drop_eq_getElem_cons hlt, ht]
        simp only [List.mem_cons, forall_eq_or_imp]
        exact ⟨fun h2 => ⟨h, h2⟩, fun h2 => h2.2⟩
      · obtain ⟨k, rfl⟩ : ∃ m, k = m + 1 := ⟨k - 1, by omega⟩
        simp only [spec_l1All.l0, spec_l1In.f]
        rw [if_pos (by omega), if_pos (by omega), if_pos (by omega), rd_get hlt, in_true h]
        simp only [Option.bind_some, ↓reduceIte]
        rw [w64 (x := (j : Int) + 1) (by omega) (by omega)]
        exact E k (by omega)
    · refine ⟨false, ?_, fun k hk => ?_⟩
      · rw [List.drop_eq_getElem_cons hlt]
        simp only [Bool.false_eq_true, false_iff]
        exact fun h2 => h (h2 _ List.mem_cons_self)
      · obtain ⟨k, rfl⟩ : ∃ m, k = m + 1 := ⟨k - 1, by omega⟩
        simp only [spec_l1All.l0, spec_l1In.f]
        rw [if_pos (by omega), if_pos (by omega), if_pos (by omega), rd_get hlt, in_false h]
        simp

theorem saGood_l1 (o : Int) (rows : List (List Int)) (jj : Int) (xs : List Int) (hx : xs.length ≤ 5) (ha : ∀ x ∈ xs, 0 ≤ x ∧ x ≤ 10) : ∀ (m j : Nat) (acc : Int), j + m = xs.length → 0 ≤ acc → acc ≤ 10 * j → ∀ k, m < k →
    spec_saGood.l1 k acc rows (rows.length : Int) jj xs (xs.length : Int) j o rows = if acc + (xs.drop j).sum = o then spec_saGood.l0 (k - m - 1) rows (rows.length : Int) (wrap64 (jj + 1)) o rows else some false := by
  intro m
  induction m with
  | zero =>
    intro j acc hj h0 h1 k hk
    obtain ⟨k, rfl⟩ : ∃ m, k = m + 1 := ⟨k - 1, by omega⟩
    simp only [spec_saGood.l1]
    rw [if_neg (by omega), List.drop_of_length_le (by omega)]
    simp
  | succ m ih =>
    intro j acc hj h0 h1 k hk
    obtain ⟨k, rfl⟩ : ∃ m, k = m + 1 := ⟨k - 1, by omega⟩
    have hlt : j < xs.length := by omega
    have hxj := ha _ (List.getElem_mem hlt)
    simp only [spec_saGood.l1]
    rw [if_pos (by omega), if_pos (by omega), if_pos (by omega), rd_get hlt, w64 (x := acc + xs[j]) (by omega) (by omega), w64 (x := (j : Int) + 1) (by omega) (by omega), show (j : Int) + 1 = ((j + 1 : Nat) : Int) from by omega]
    rw [ih (j + 1) (acc + xs[j]) (by omega) (by omega) (by omega) k (by omega), List.drop_eq_getElem_cons hlt, List.sum_cons, Int.add_assoc]
    rw [show k + 1 - (m + 1) - 1 = k - m - 1 from by omega]

theorem saGood_l0 (o : Int) (o1 : o ≤ 10) (rows : List (List Int)) (hn : rows.length ≤ 5) (hl : ∀ r ∈ rows, r.length ≤ 1048576) : ∀ (m j : Nat), j + m = rows.length →
    ∃ t : Bool, (t = true ↔ ∀ row ∈ rows.drop j, GoodRow rows.length o row) ∧ ∃ K, ∀ k, K ≤ k → spec_saGood.l0 k rows (rows.length : Int) j o rows = some t := by
  intro m
  induction m with
  | zero =>
    intro j hj
    refine ⟨true, ?_, 1, fun k hk => ?_⟩
    · rw [List.drop_of_length_le (by omega)]; simp
    · obtain ⟨k, rfl⟩ : ∃ m, k = m + 1 := ⟨k - 1, by omega⟩
      simp only [spec_saGood.l0]
      rw [if_neg (by omega)]
  | succ m ih =>
    intro j hj
    have hlt : j < rows.length := by omega
    have hll := hl _ (List.getElem_mem hlt)
    obtain ⟨t1, ht1, E1⟩ := l1All_l0 0 o rows[j] hll rows[j].length 0 (by omega)
    rw [List.drop_zero] at ht1
    have bad : ¬ GoodRow rows.length o rows[j] → (∃ K, ∀ k, K ≤ k → spec_saGood.l0 k rows (rows.length : Int) j o rows = some false) → ∃ t : Bool, (t = true ↔ ∀ row ∈ rows.drop j, GoodRow rows.length o row) ∧ ∃ K, ∀ k, K ≤ k → spec_saGood.l0 k rows (rows.length : Int) j o rows = some t := by
      intro hb hE
      refine ⟨false, ?_, hE⟩
      rw [List.drop_eq_getElem_cons hlt]
      simp only [Bool.false_eq_true, false_iff]
      exact fun h2 => hb (h2 _ List.mem_cons_self)
    by_cases c1 : rows[j].length = rows.length
    · cases t1 with
      | false =>
        refine bad (fun hg => ?_) ⟨1048580, fun k hk => ?_⟩
        · have := ht1.2 (fun x hx => ⟨hg.2.1 x hx, by have := le_sum _ hg.2.1 x hx; have := hg.2.2; omega⟩)
          simp at this
        · obtain ⟨k, rfl⟩ : ∃ m, k = m + 2 := ⟨k - 2, by omega⟩
          rw [spec_saGood.l0]
          rw [if_pos (by omega), if_pos (by omega), if_pos (by omega), rd1_get hlt, if_pos (by omega)]
          unfold spec_l1All.f
          rw [show spec_l1All.l0 (k + 1) 0 o rows[j] (rows[j].length : Int) 0 = some false from E1 _ (by omega)]
          simp only [Option.bind_some]
          rw [spec_saGood.j2]
          simp
      | true =>
        have hall := ht1.1 rfl
        have hs := saGood_l1 o rows j rows[j] (by omega) (fun x hx => ⟨(hall x hx).1, by have := (hall x hx).2; omega⟩) rows[j].length 0 0 (by omega) (by omega) (by omega)
        rw [List.drop_zero, Int.zero_add] at hs
        by_cases c2 : rows[j].sum = o
        · obtain ⟨t, ht, K, E⟩ := ih (j + 1) (by omega)
          refine ⟨t, ?_, K + 1048590, fun k hk => ?_⟩
          · rw [List.drop_eq_getElem_cons hlt, ht]
            simp only [List.mem_cons, forall_eq_or_imp]
            exact ⟨fun h2 => ⟨⟨c1, fun x hx => (hall x hx).1, c2⟩, h2⟩, fun h2 => h2.2⟩
          · obtain ⟨k, rfl⟩ : ∃ m, k = m + 2 := ⟨k - 2, by omega⟩
            rw [spec_saGood.l0]
            rw [if_pos (by omega), if_pos (by omega), if_pos (by omega), rd1_get hlt, if_pos (by omega)]
            unfold spec_l1All.f
            rw [show spec_l1All.l0 (k + 1) 0 o rows[j] (rows[j].length : Int) 0 = some true from E1 _ (by omega)]
            simp only [Option.bind_some, Bool.not_true]
            rw [spec_saGood.j2]
            simp only [Bool.false_eq_true, ↓reduceIte]
            have h3 := hs k (by omega)
            rw [if_pos c2, w64 (x := (j : Int) + 1) (by omega) (by omega)] at h3
            exact h3.trans (E _ (by omega))
        · refine bad (fun hg => c2 hg.2.2) ⟨1048590, fun k hk => ?_⟩
          obtain ⟨k, rfl⟩ : ∃ m, k = m + 2 := ⟨k - 2, by omega⟩
          rw [spec_saGood.l0]
          rw [if_pos (by omega), if_pos (by omega), if_pos (by omega), rd1_get hlt, if_pos (by omega)]
          unfold spec_l1All.f
          rw [show spec_l1All.l0 (k + 1) 0 o rows[j] (rows[j].length : Int) 0 = some true from E1 _ (by omega)]
          simp only [Option.bind_some, Bool.not_true]
          rw [spec_saGood.j2]
          simp only [Bool.false_eq_true, ↓reduceIte]
          have h3 := hs k (by omega)
          rw [if_neg c2] at h3
          exact h3
    · refine bad (fun hg => c1 hg.1) ⟨10, fun k hk => ?_⟩
      obtain ⟨k, rfl⟩ : ∃ m, k = m + 2 := ⟨k - 2, by omega⟩
      rw [spec_saGood.l0]
      rw [if_pos (by omega), if_pos (by omega), if_pos (by omega), rd1_get hlt, if_neg (by omega), spec_saGood.j2]
      simp

theorem saGood_ev (o : Int) (rows : List (List Int)) (hn : rows.length ≤ 1048576) (hl : ∀ r ∈ rows, r.length ≤ 1048576) :
    ∃ t : Bool, (t = true ↔ Good o rows) ∧ ∃ K, ∀ k, K ≤ k → spec_saGood.f k o rows = some t := by
  by_cases c1 : 1 ≤ o ∧ o ≤ 10
  · by_cases c2 : 1 ≤ (rows.length : Int) ∧ (rows.length : Int) ≤ 5
    · obtain ⟨t, ht, K, E⟩ := saGood_l0 o c1.2 rows (by omega) hl rows.length 0 (by omega)
      rw [List.drop_zero] at ht
      refine ⟨t, ht.trans ⟨fun h => ⟨c1.1, c1.2, by omega, by omega, h⟩, fun h => h.2.2.2.2⟩, K + 1, fun k hk => ?_⟩
      obtain ⟨k, rfl⟩ : ∃ m, k = m + 1 := ⟨k - 1, by omega⟩
      simp only [spec_saGood.f, spec_saGood.j0, spec_l1In.f, in_true c1, in_true c2, Option.bind_some, ↓reduceIte, Bool.not_true, Bool.false_eq_true]
      exact E k (by omega)
    · refine ⟨false, ⟨fun h => by simp at h, fun h => absurd ⟨by have := h.2.2.1; omega, by have := h.2.2.2.1; omega⟩ c2⟩, 1, fun k hk => ?_⟩
      obtain ⟨k, rfl⟩ : ∃ m, k = m + 1 := ⟨k - 1, by omega⟩
      simp only [spec_saGood.f, spec_saGood.j0, spec_l1In.f, in_true c1, in_false c2, Option.bind_some, ↓reduceIte, Bool.not_false]
  · refine ⟨false, ⟨fun h => by simp at h, fun h => absurd ⟨h.1, h.2.1⟩ c1⟩, 1, fun k hk => ?_⟩
    obtain ⟨k, rfl⟩ : ∃ m, k = m + 1 := ⟨k - 1, by omega⟩
    simp only [spec_saGood.f, spec_saGood.j0, spec_l1In.f, in_false c1, Option.bind_some, ↓reduceIte, Bool.false_eq_true]

theorem areStates_l1 (o : Int) (rows : List (List Int)) (jj : Int) (xs : List Int) (hx : xs.length ≤ 1048576) : ∀ (m j : Nat) (left : Int), j + m = xs.length → 0 ≤ left → left ≤ 10 →
    ∃ t : Bool, (t = true ↔ xs.length = rows.length ∧ (∀ x ∈ xs.drop j, 0 ≤ x) ∧ (xs.drop j).sum = left) ∧ ∀ k, m < k →
    impl_AreStates.l1 k (rows.length : Int) xs left rows (rows.length : Int) jj xs (xs.length : Int) j o rows = if t = true then impl_AreStates.l0 (k - m - 1) (rows.length : Int) rows (rows.length : Int) (wrap64 (jj + 1)) o rows else some false := by
  intro m
  induction m with
  | zero =>
    intro j left hj h0 h1
    refine ⟨decide (xs.length = rows.length ∧ left = 0), ?_, fun k hk => ?_⟩
    · rw [List.drop_of_length_le (by omega), decide_eq_true_eq]
      simp
      omega
    · obtain ⟨k, rfl⟩ : ∃ m, k = m + 1 := ⟨k - 1, by omega⟩
      simp only [impl_AreStates.l1]
      rw [if_neg (by omega)]
      by_cases c1 : xs.length = rows.length
      · rw [if_pos (by omega)]
        by_cases c2 : left = 0
        · rw [if_pos c2, decide_eq_true ⟨c1, c2⟩]; rfl
        · rw [if_neg c2, decide_eq_false (fun h => c2 h.2)]; rfl
      · rw [if_neg (by omega), decide_eq_false (fun h => c1 h.1)]; rfl
  | succ m ih =>
    intro j left hj h0 h1
    have hlt : j < xs.length := by omega
    by_cases h : 0 ≤ xs[j] ∧ xs[j] ≤ left
    · obtain ⟨t, ht, E⟩ := ih (j + 1) (left - xs[j]) (by omega) (by omega) (by omega)
      refine ⟨t, ?_, fun k hk => ?_⟩
      · rw [List.drop_eq_getElem_cons hlt, ht, List.sum_cons]
        simp only [List.mem_cons, forall_eq_or_imp]
        exact ⟨fun h2 => ⟨h2.1, ⟨h.1, h2.2.1⟩, by omega⟩, fun h2 => ⟨h2.1, h2.2.1.2, by omega⟩⟩
      · obtain ⟨k, rfl⟩ : ∃ m, k = m + 1 := ⟨k - 1, by omega⟩
        simp only [impl_AreStates.l1, impl_within.f]
        rw [if_pos (by omega), if_pos (by omega), if_pos (by omega), rd_get hlt, in_true h]
        simp only [Option.bind_some, ↓reduceIte]
        rw [w64 (x := (j : Int) + 1) (by omega) (by omega), w64 (x := left - xs[j]) (by omega) (by omega), show (j : Int) + 1 = ((j + 1 : Nat) : Int) from by omega, E k (by omega),
          show k + 1 - (m + 1) - 1 = k - m - 1 from by omega]
    · refine ⟨false, ?_, fun k hk => ?_⟩
      · rw [List.drop_eq_getElem_cons hlt, List.sum_cons]
        simp only [Bool.false_eq_true, false_iff]
        intro h2
        have h3 := h2.2.1 _ List.mem_cons_self
        have h4 := sum_nonneg (xs.drop (j + 1)) (fun x hx => h2.2.1 _ (List.mem_cons_of_mem _ hx))
        omega
      · obtain ⟨k, rfl⟩ : ∃ m, k = m + 1 := ⟨k - 1, by omega⟩
        simp only [impl_AreStates.l1, impl_within.f]
        rw [if_pos (by omega), if_pos (by omega), if_pos (by omega), rd_get hlt, in_false h]
        simp

theorem areStates_l0 (o : Int) (o0 : 1 ≤ o) (o1 : o ≤ 10) (rows : List (List Int)) (hn : rows.length ≤ 5) (hl : ∀ r ∈ rows, r.length ≤ 1048576) : ∀ (m j : Nat), j + m = rows.length →
    ∃ t : Bool, (t = true ↔ ∀ row ∈ rows.drop j, GoodRow rows.length o row) ∧ ∃ K, ∀ k, K ≤ k → impl_AreStates.l0 k (rows.length : Int) rows (rows.length : Int) j o rows = some t := by
  intro m
  induction m with
  | zero =>
    intro j hj
    refine ⟨true, ?_, 1, fun k hk => ?_⟩
    · rw [List.drop_of_length_le (by omega)]; simp
    · obtain ⟨k, rfl⟩ : ∃ m, k = m + 1 := ⟨k - 1, by omega⟩
      simp only [impl_AreStates.l0]
      rw [if_neg (by omega)]
  | succ m ih =>
    intro j hj
    have hlt : j < rows.length := by omega
    have hll := hl _ (List.getElem_mem hlt)
    obtain ⟨t1, ht1, E1⟩ := areStates_l1 o rows j rows[j] hll rows[j].length 0 o (by omega) (by omega) o1
    rw [List.drop_zero] at ht1
    cases t1 with
    | false =>
      refine ⟨false, ?_, 1048590, fun k hk => ?_⟩
      · rw [List.drop_eq_getElem_cons hlt]
        simp only [Bool.false_eq_true, false_iff]
        exact fun h2 => by
          have := ht1.2 (h2 _ List.mem_cons_self)
          simp at this
      · obtain ⟨k, rfl⟩ : ∃ m, k = m + 1 := ⟨k - 1, by omega⟩
        rw [impl_AreStates.l0]
        rw [if_pos (by omega), if_pos (by omega), if_pos (by omega), rd1_get hlt]
        have := E1 k (by omega)
        simp only [Bool.false_eq_true, ↓reduceIte] at this
        exact this
    | true =>
      obtain ⟨t, ht, K, E⟩ := ih (j + 1) (by omega)
      refine ⟨t, ?_, K + 1048590, fun k hk => ?_⟩
      · rw [List.drop_eq_getElem_cons hlt, ht]
        simp only [List.mem_cons, forall_eq_or_imp]
        exact ⟨fun h2 => ⟨ht1.1 rfl, h2⟩, fun h2 => h2.2⟩
      · obtain ⟨k, rfl⟩ : ∃ m, k = m + 1 := ⟨k - 1, by omega⟩
        rw [impl_AreStates.l0]
        rw [if_pos (by omega), if_pos (by omega), if_pos (by omega), rd1_get hlt]
        have := E1 k (by omega)
        simp only [↓reduceIte] at this
        rw [w64 (x := (j : Int) + 1) (by omega) (by omega)] at this
        exact this.trans (E _ (by omega))

theorem areStates_ev (o : Int) (rows : List (List Int)) (hn : rows.length ≤ 1048576) (hl : ∀ r ∈ rows, r.length ≤ 1048576) :
    ∃ t : Bool, (t = true ↔ Good o rows) ∧ ∃ K, ∀ k, K ≤ k → impl_AreStates.f k o rows = some t := by
  by_cases c1 : 1 ≤ o ∧ o ≤ 10
  · by_cases c2 : 1 ≤ (rows.length : Int) ∧ (rows.length : Int) ≤ 5
    · obtain ⟨t, ht, K, E⟩ := areStates_l0 o c1.1 c1.2 rows (by omega) hl rows.length 0 (by omega)
      rw [List.drop_zero] at ht
      refine ⟨t, ht.trans ⟨fun h => ⟨c1.1, c1.2, by omega, by omega, h⟩, fun h => h.2.2.2.2⟩, K + 1, fun k hk => ?_⟩
      obtain ⟨k, rfl⟩ : ∃ m, k = m + 1 := ⟨k - 1, by omega⟩
      simp only [impl_AreStates.f, impl_AreStates.j0, impl_within.f, in_true c1, in_true c2, Option.bind_some, ↓reduceIte, Bool.not_true, Bool.false_eq_true]
      exact E k (by omega)
    · refine ⟨false, ⟨fun h => by simp at h, fun h => absurd ⟨by have := h.2.2.1; omega, by have := h.2.2.2.1; omega⟩ c2⟩, 1, fun k hk => ?_⟩
      obtain ⟨k, rfl⟩ : ∃ m, k = m + 1 := ⟨k - 1, by omega⟩
      simp only [impl_AreStates.f, impl_AreStates.j0, impl_within.f, in_true c1, in_false c2, Option.bind_some, ↓reduceIte, Bool.not_false]
  · refine ⟨false, ⟨fun h => by simp at h, fun h => absurd ⟨h.1, h.2.1⟩ c1⟩, 1, fun k hk => ?_⟩
    obtain ⟨k, rfl⟩ : ∃ m, k = m + 1 := ⟨k - 1, by omega⟩
    simp only [impl_AreStates.f, impl_AreStates.j0, impl_within.f, in_false c1, Option.bind_some, ↓reduceIte, Bool.false_eq_true]

theorem le_up {α : Type} {g : Nat → Option α} (hm : ∀ k, LeO (g k) (g (k + 1))) {n : Nat} {r : α} (h : g n = some r) : ∀ k, n ≤ k → g k = some r := by
  intro k hk
  induction k with
  | zero => rw [show n = 0 from by omega] at h; exact h
  | succ k ih =>
    by_cases c : n ≤ k
    · exact hm k r (ih c)
    · rw [show n = k + 1 from by omega] at h; exact h


theorem num_facts : ∀ n : Fin 11, spec_l1Num.f 3 (n.val : Int) = some ⟨(Go.Lib.decDigits n.val).toArray⟩ ∧ (Go.Lib.decDigits n.val).length ≤ 2 := by decide +kernel

/-- The digits of a number. -/
def ntL (y : Int) : List UInt8 := Go.Lib.decDigits y.toNat
def nt (y : Int) : ByteArray := ⟨(ntL y).toArray⟩

theorem nt_tl (y : Int) : (nt y).data.toList = ntL y := rfl
theorem ntL_len {y : Int} (h0 : 0 ≤ y) (h1 : y ≤ 10) : (ntL y).length ≤ 2 := (num_facts ⟨y.toNat, by omega⟩).2
theorem nt_size {y : Int} (h0 : 0 ≤ y) (h1 : y ≤ 10) : (nt y).size ≤ 2 := by
  have := ntL_len h0 h1
  show (ntL y).toArray.size ≤ 2
  simpa using this
theorem l1Num_is {y : Int} (h0 : 0 ≤ y) (h1 : y ≤ 10) (k : Nat) (hk : 3 ≤ k) : spec_l1Num.f k y = some (nt y) := by
  have h := (num_facts ⟨y.toNat, by omega⟩).1
  have e : ((⟨y.toNat, by omega⟩ : Fin 11).val : Int) = y := by show ((y.toNat : Nat) : Int) = y; omega
  rw [e] at h
  exact le_up (g := fun k => spec_l1Num.f k y) (fun k => spec_l1Num.mono y k) h k hk
theorem itoa_is {y : Int} (h0 : 0 ≤ y) (h1 : y ≤ 10) : strconv_Itoa_27.f y = some (nt y) := by
  unfold strconv_Itoa_27.f
  rw [if_pos h0, if_pos (by omega)]
  rfl

theorem tl_app (a b : ByteArray) : (a ++ b).data.toList = a.data.toList ++ b.data.toList := by
  rw [ByteArray.data_append, Array.toList_append]
theorem tl_size (a : ByteArray) : a.size = a.data.toList.length := by
  show a.data.size = _
  rw [Array.length_toList]
theorem tl_ext {a b : ByteArray} (h : a.data.toList = b.data.toList) : a = b := by
  cases a; cases b
  simp only at h
  rw [Array.toList_inj] at h
  rw [h]

theorem jt_cons (x : List UInt8) (r : List (List UInt8)) : Go.Lib.joinTail [44] (x :: r) = 44 :: (x ++ Go.Lib.joinTail [44] r) := by simp [Go.Lib.joinTail]

theorem saText_l1 (rows : List (List Int)) (i : Int) (row : List Int) (hlen : row.length ≤ 5) (hr : ∀ y ∈ row, 0 ≤ y ∧ y ≤ 10) :
    ∀ (m j : Nat) (acc : ByteArray), j + m = row.length → 1 ≤ j → acc.size + 3 * m ≤ 1000 → ∃ acc' : ByteArray, acc'.size ≤ acc.size + 3 * m ∧ acc'.data.toList = acc.data.toList ++ Go.Lib.joinTail [44] ((row.drop j).map ntL) ∧
      ∀ k, 5 ≤ k → spec_saText.l1 (k + m + 1) acc rows (rows.length : Int) i row (row.length : Int) (j : Int) = spec_saText.l0 k acc' rows (rows.length : Int) (wrap64 (i + 1)) := by
  intro m
  induction m with
  | zero =>
    intro j acc hj h1 hs
    refine ⟨acc, by omega, ?_, fun k hk => ?_⟩
    · rw [List.drop_eq_nil_of_le (by omega)]
      simp [Go.Lib.joinTail]
    · rw [Nat.add_zero]
      simp only [spec_saText.l1]
      rw [if_neg (by omega)]
  | succ m ih =>
    intro j acc hj h1 hs
    have hlt : j < row.length := by omega
    have hy := hr row[j] (List.getElem_mem _)
    have hsz := nt_size hy.1 hy.2
    have hw : wrap64 ((j : Int) + 1) = ((j + 1 : Nat) : Int) := by rw [w64 (by omega) (by omega)]; omega
    have hsa : ((acc ++ (⟨#[44]⟩ : ByteArray)) ++ nt row[j]).size = acc.size + 1 + (nt row[j]).size := by
      rw [ByteArray.size_append, ByteArray.size_append]; rfl
    obtain ⟨acc', g1, g2, g3⟩ := ih (j + 1) ((acc ++ (⟨#[44]⟩ : ByteArray)) ++ nt row[j]) (by omega) (by omega) (by omega)
    refine ⟨acc', by omega, ?_, fun k hk => ?_⟩
    · rw [g2, tl_app, tl_app, nt_tl, List.drop_eq_getElem_cons hlt, List.map_cons, jt_cons, List.append_assoc, List.append_assoc]
      rfl
    · have hg := g3 k hk
      have hq : 5 ≤ k + m + 1 := by omega
      rw [show k + (m + 1) + 1 = (k + m + 1) + 1 from by omega]
      have c1 : (j : Int) < (row.length : Int) := by omega
      have c2 : (0 : Int) ≤ (j : Int) := Int.natCast_nonneg _
      have c3 : ¬ (j : Int) = 0 := by omega
      have c4 : acc.size + 1 ≤ 9223372036854775807 := by omega
      have c5 : acc.size + 1 + (nt row[j]).size ≤ 9223372036854775807 := by omega
      have c6 := l1Num_is hy.1 hy.2 (k + m + 1) (by omega)
      generalize k + m + 1 = K at hg hq c6 ⊢
      simp only [spec_saText.l1]
      rw [if_pos c1, if_pos c2, if_pos c1, if_neg c3, if_pos c4, rd_get hlt, c6, Option.bind_some, if_pos c5, hw]
      exact hg

/-- A row as text: a sign, the first number, and behind a sign each further one. -/
def rowL : List Int → List UInt8
  | [] => []
  | y :: t => 59 :: (ntL y ++ Go.Lib.joinTail [44] (t.map ntL))

theorem saText_row (rows : List (List Int)) (i : Int) (row : List Int) (hlen : row.length ≤ 5) (h0 : 1 ≤ row.length) (hr : ∀ y ∈ row, 0 ≤ y ∧ y ≤ 10) (acc : ByteArray) (hs : acc.size + 15 ≤ 1000) :
    ∃ acc' : ByteArray, acc'.size ≤ acc.size + 15 ∧ acc'.data.toList = acc.data.toList ++ rowL row ∧
      ∀ k, 5 ≤ k → spec_saText.l1 (k + row.length + 1) acc rows (rows.length : Int) i row (row.length : Int) 0 = spec_saText.l0 k acc' rows (rows.length : Int) (wrap64 (i + 1)) := by
  match row, hlen, h0, hr with
  | y :: t, hlen, _, hr =>
    have hy := hr y List.mem_cons_self
    have hsz := nt_size hy.1 hy.2
    have hlt : (y :: t).length = t.length + 1 := List.length_cons
    have hsa : ((acc ++ (⟨#[59]⟩ : ByteArray)) ++ nt y).size = acc.size + 1 + (nt y).size := by
      rw [ByteArray.size_append, ByteArray.size_append]; rfl
    obtain ⟨acc', g1, g2, g3⟩ := saText_l1 rows i (y :: t) hlen hr t.length 1 ((acc ++ (⟨#[59]⟩ : ByteArray)) ++ nt y) (by omega) (by omega) (by omega)
    refine ⟨acc', by omega, ?_, fun k hk => ?_⟩
    · rw [g2, tl_app, tl_app, nt_tl]
      simp [rowL]
    · have hg := g3 k hk
      rw [hlt, show k + (t.length + 1) + 1 = (k + t.length + 1) + 1 from by omega]
      rw [hlt] at hg
      have c1 : (0 : Int) < ((t.length + 1 : Nat) : Int) := by omega
      have c4 : acc.size + 1 ≤ 9223372036854775807 := by omega
      have c5 : acc.size + 1 + (nt y).size ≤ 9223372036854775807 := by omega
      have c6 := l1Num_is hy.1 hy.2 (k + t.length + 1) (by omega)
      have c7 : rd (y :: t) 0 = y := rfl
      have hw : wrap64 ((0 : Int) + 1) = ((1 : Nat) : Int) := by rw [w64 (by omega) (by omega)]; omega
      generalize k + t.length + 1 = K at hg c6 ⊢
      simp only [spec_saText.l1]
      rw [if_pos c1, if_pos (by omega), if_pos (by rw [hlt]; exact c1), if_pos trivial, if_pos c4, c7, c6, Option.bind_some, if_pos c5, hw]
      exact hg

theorem saText_l0 (rows : List (List Int)) (hn : rows.length ≤ 5) (h5 : ∀ r ∈ rows, r.length ≤ 5 ∧ 1 ≤ r.length ∧ ∀ y ∈ r, 0 ≤ y ∧ y ≤ 10) :
    ∀ (m j : Nat) (acc : ByteArray), j + m = rows.length → acc.size + 15 * m ≤ 900 → ∃ acc' : ByteArray, acc'.data.toList = acc.data.toList ++ (rows.drop j).flatMap rowL ∧
      ∀ k, 20 + 10 * m ≤ k → spec_saText.l0 k acc rows (rows.length : Int) (j : Int) = some acc' := by
  intro m
  induction m with
  | zero =>
    intro j acc hj hs
    refine ⟨acc, ?_, fun k hk => ?_⟩
    · rw [List.drop_eq_nil_of_le (by omega)]
      simp
    · obtain ⟨k, rfl⟩ : ∃ q, k = q + 1 := ⟨k - 1, by omega⟩
      simp only [spec_saText.l0]
      rw [if_neg (by omega)]
  | succ m ih =>
    intro j acc hj hs
    have hlt : j < rows.length := by omega
    obtain ⟨a1, a2, a3⟩ := h5 rows[j] (List.getElem_mem _)
    obtain ⟨acc1, g1, g2, g3⟩ := saText_row rows (j : Int) rows[j] a1 a2 a3 acc (by omega)
    obtain ⟨acc2, f2, f3⟩ := ih (j + 1) acc1 (by omega) (by omega)
    have hw : wrap64 ((j : Int) + 1) = ((j + 1 : Nat) : Int) := by rw [w64 (by omega) (by omega)]; omega
    refine ⟨acc2, ?_, fun k hk => ?_⟩
    · rw [f2, g2, List.drop_eq_getElem_cons hlt, List.flatMap_cons, List.append_assoc]
    · obtain ⟨k, rfl⟩ : ∃ q, k = (q + rows[j].length + 1) + 1 := ⟨k - rows[j].length - 2, by omega⟩
      have hg := g3 k (by omega)
      have hr : rd_L1 rows (j : Int) = rows[j] := by
        unfold rd_L1
        rw [Int.toNat_natCast, List.getD_eq_getElem?_getD, List.getElem?_eq_getElem hlt]
        rfl
      have c1 : (j : Int) < (rows.length : Int) := by omega
      have c2 : (0 : Int) ≤ (j : Int) := Int.natCast_nonneg _
      generalize k + rows[j].length + 1 = K at hg ⊢
      simp only [spec_saText.l0]
      rw [if_pos c1, if_pos c2, if_pos c1, hr, hg, hw]
      exact f3 k (by omega)

theorem joined_l0 (row : List Int) (hlen : row.length ≤ 5) (hr : ∀ y ∈ row, 0 ≤ y ∧ y ≤ 10) (sign : ByteArray) :
    ∀ (m j : Nat) (x5 : List ByteArray), j + m = row.length → x5.length = row.length → (∀ i, i < j → x5[i]? = (row[i]?).map nt) →
      ∀ k, m + 1 ≤ k → impl_joined.l0 k sign x5 row (row.length : Int) (j : Int) = strings_Join.f (row.map nt) sign := by
  intro m
  induction m with
  | zero =>
    intro j x5 hj hl hx k hk
    obtain ⟨k, rfl⟩ : ∃ q, k = q + 1 := ⟨k - 1, by omega⟩
    have e : x5 = row.map nt := by
      apply List.ext_getElem?
      intro i
      by_cases c : i < j
      · rw [hx i c, List.getElem?_map]
      · rw [List.getElem?_eq_none (by omega), List.getElem?_eq_none (by rw [List.length_map]; omega)]
    simp only [impl_joined.l0]
    rw [if_neg (by omega), e]
    cases strings_Join.f (row.map nt) sign <;> rfl
  | succ m ih =>
    intro j x5 hj hl hx k hk
    obtain ⟨k, rfl⟩ : ∃ q, k = q + 1 := ⟨k - 1, by omega⟩
    have hlt : j < row.length := by omega
    have hy := hr row[j] (List.getElem_mem _)
    have hw : wrap64 ((j : Int) + 1) = ((j + 1 : Nat) : Int) := by rw [w64 (by omega) (by omega)]; omega
    simp only [impl_joined.l0]
    rw [if_pos (by omega), if_pos (by omega), if_pos (by omega), rd_get hlt, itoa_is hy.1 hy.2, Option.bind_some, if_pos (by omega), Int.toNat_natCast, hw]
    refine ih (j + 1) _ (by omega) (by simp [hl]) (fun i hi => ?_) k (by omega)
    rw [List.getElem?_set]
    by_cases c : j = i
    · subst c
      rw [if_pos rfl, if_pos (by omega), List.getElem?_eq_getElem hlt]
      rfl
    · rw [if_neg c]
      exact hx i (by omega)

theorem rowL_join (row : List Int) (h0 : 1 ≤ row.length) : rowL row = 59 :: Go.Lib.join (row.map ntL) [44] := by
  match row, h0 with
  | y :: t, _ => rw [List.map_cons, Go.Lib.join_cons]; rfl

theorem rowL_len (row : List Int) (hr : ∀ y ∈ row, 0 ≤ y ∧ y ≤ 10) : (rowL row).length ≤ 3 * row.length := by
  have ht : ∀ t : List Int, (∀ y ∈ t, 0 ≤ y ∧ y ≤ 10) → (Go.Lib.joinTail [44] (t.map ntL)).length ≤ 3 * t.length := by
    intro t
    induction t with
    | nil => intro _; simp [Go.Lib.joinTail]
    | cons z t ih =>
      intro h
      have h1 := ih (fun y hy => h y (List.mem_cons_of_mem _ hy))
      have h2 := ntL_len (h z List.mem_cons_self).1 (h z List.mem_cons_self).2
      simp only [Go.Lib.joinTail, List.map_cons, List.flatten_cons, List.length_append, List.length_cons, List.length_nil] at h1 ⊢
      omega
  match row, hr with
  | [], _ => simp [rowL]
  | y :: t, hr =>
    have h1 := ht t (fun z hz => hr z (List.mem_cons_of_mem _ hz))
    have h2 := ntL_len (hr y List.mem_cons_self).1 (hr y List.mem_cons_self).2
    simp only [rowL, List.length_cons, List.length_append]
    omega

theorem joined_is (row : List Int) (hlen : row.length ≤ 5) (h0 : 1 ≤ row.length) (hr : ∀ y ∈ row, 0 ≤ y ∧ y ≤ 10) :
    ∃ t : ByteArray, t.size ≤ 15 ∧ 59 :: t.data.toList = rowL row ∧ ∀ k, 10 ≤ k → impl_joined.f k row ⟨#[44]⟩ = some t := by
  have hl := rowL_len row hr
  have hj := rowL_join row h0
  have hm : (row.map nt).map (·.data.toList) = row.map ntL := by
    rw [List.map_map]; rfl
  have hjl : (Go.Lib.join (row.map ntL) [44]).length ≤ 15 := by
    rw [hj, List.length_cons] at hl
    omega
  refine ⟨⟨(Go.Lib.join (row.map ntL) [44]).toArray⟩, ?_, ?_, fun k hk => ?_⟩
  · show (Go.Lib.join (row.map ntL) [44]).toArray.size ≤ 15
    simpa using hjl
  · rw [hj]
  · unfold impl_joined.f
    rw [if_pos (by omega), if_pos (by omega), Int.toNat_natCast]
    have h1 := joined_l0 row hlen hr ⟨#[44]⟩ row.length 0 (List.replicate row.length ⟨#[]⟩) (by omega) (by simp) (fun i hi => absurd hi (Nat.not_lt_zero _)) k (by omega)
    refine h1.trans ?_
    unfold strings_Join.f
    have hsep : (⟨#[44]⟩ : ByteArray).data.toList = [44] := rfl
    rw [hm, hsep, if_pos (by rw [List.length_map]; omega), if_pos (by omega)]

theorem implText_l0 (rows : List (List Int)) (hn : rows.length ≤ 5) (h5 : ∀ r ∈ rows, r.length ≤ 5 ∧ 1 ≤ r.length ∧ ∀ y ∈ r, 0 ≤ y ∧ y ≤ 10) :
    ∀ (m j : Nat) (acc : ByteArray), j + m = rows.length → acc.size + 16 * m ≤ 900 → ∃ acc' : ByteArray, acc'.data.toList = acc.data.toList ++ (rows.drop j).flatMap rowL ∧
      ∀ k, 20 + m ≤ k → impl_StatesText.l0 k acc rows (rows.length : Int) (j : Int) = some (acc', true) := by
  intro m
  induction m with
  | zero =>
    intro j acc hj hs
    refine ⟨acc, ?_, fun k hk => ?_⟩
    · rw [List.drop_eq_nil_of_le (by omega)]
      simp
    · obtain ⟨k, rfl⟩ : ∃ q, k = q + 1 := ⟨k - 1, by omega⟩
      simp only [impl_StatesText.l0]
      rw [if_neg (by omega)]
  | succ m ih =>
    intro j acc hj hs
    have hlt : j < rows.length := by omega
    obtain ⟨a1, a2, a3⟩ := h5 rows[j] (List.getElem_mem _)
    obtain ⟨t, t1, t2, t3⟩ := joined_is rows[j] a1 a2 a3
    have hsa : (acc ++ ((⟨#[59]⟩ : ByteArray) ++ t)).size = acc.size + (1 + t.size) := by
      rw [ByteArray.size_append, ByteArray.size_append]; rfl
    obtain ⟨acc2, f2, f3⟩ := ih (j + 1) (acc ++ ((⟨#[59]⟩ : ByteArray) ++ t)) (by omega) (by omega)
    have hw : wrap64 ((j : Int) + 1) = ((j + 1 : Nat) : Int) := by rw [w64 (by omega) (by omega)]; omega
    refine ⟨acc2, ?_, fun k hk => ?_⟩
    · rw [f2, tl_app, tl_app, List.drop_eq_getElem_cons hlt, List.flatMap_cons, List.append_assoc, ← t2]
      rfl
    · obtain ⟨k, rfl⟩ : ∃ q, k = q + 1 := ⟨k - 1, by omega⟩
      have hr : rd_L1 rows (j : Int) = rows[j] := by
        unfold rd_L1
        rw [Int.toNat_natCast, List.getD_eq_getElem?_getD, List.getElem?_eq_getElem hlt]
        rfl
      simp only [impl_StatesText.l0]
      rw [if_pos (by omega), if_pos (by omega), if_pos (by omega), hr, t3 k (by omega), Option.bind_some, if_pos (by omega), if_pos (by omega), hw]
      exact f3 k (by omega)

theorem statesText_same (o : Int) (rows : List (List Int)) (h1 : rows.length ≤ 1048576) (h2 : ∀ r ∈ rows, r.length ≤ 1048576) :
    ∃ (t : ByteArray) (u : Bool), ∃ K, ∀ k, K ≤ k → spec_StatesText.f k o rows = some (t, u) ∧ impl_StatesText.f k o rows = some (t, u) := by
  obtain ⟨t1, ht1, K2, E2⟩ := saGood_ev o rows h1 h2
  obtain ⟨t2, ht2, K3, E3⟩ := areStates_ev o rows h1 h2
  have ht : t1 = t2 := by rw [Bool.eq_iff_iff, ht1, ht2]
  subst ht
  cases t1 with
  | false =>
    refine ⟨⟨#[]⟩, false, K2 + K3, fun k hk => ⟨?_, ?_⟩⟩
    · simp [spec_StatesText.f, E2 k (by omega)]
    · simp [impl_StatesText.f, E3 k (by omega)]
  | true =>
    obtain ⟨g1, g2, g3, g4, g5⟩ := ht1.1 rfl
    have h5 : ∀ r ∈ rows, r.length ≤ 5 ∧ 1 ≤ r.length ∧ ∀ y ∈ r, 0 ≤ y ∧ y ≤ 10 := fun r hr => by
      obtain ⟨e1, e2, e3⟩ := g5 r hr
      refine ⟨by omega, by omega, fun y hy => ?_⟩
      have h6 := e2 y hy
      have h7 := le_sum r e2 y hy
      omega
    have ho := nt_size (y := o) (by omega) (by omega)
    obtain ⟨a, a1, a2⟩ := saText_l0 rows g4 h5 rows.length 0 (nt o) (by omega) (by omega)
    obtain ⟨b, b1, b2⟩ := implText_l0 rows g4 h5 rows.length 0 (nt o) (by omega) (by omega)
    have e : a = b := tl_ext (a1.trans b1.symm)
    subst e
    refine ⟨a, true, K2 + K3 + 200, fun k hk => ⟨?_, ?_⟩⟩
    · simp only [spec_StatesText.f, E2 k (by omega), Option.bind_some, ↓reduceIte, spec_saText.f, l1Num_is (y := o) (by omega) (by omega) k (by omega)]
      rw [show spec_saText.l0 k (nt o) rows (rows.length : Int) 0 = some a from a2 k (by omega), Option.bind_some]
    · simp only [impl_StatesText.f, E3 k (by omega), Option.bind_some, ↓reduceIte, itoa_is (y := o) (by omega) (by omega)]
      exact b2 k (by omega)

theorem FnExactStatesText (o : Int) (rows : List (List Int)) (wo : (Lit.int .i64 o).wf = true) (wr : ∀ r ∈ rows, ∀ x ∈ r, (Lit.int .i64 x).wf = true) (hl : rows.length ≤ maxLen) (hr : ∀ r ∈ rows, r.length ≤ maxLen) : ∃ k, laws_FnExactStatesText.f k o rows = some true := by
  obtain ⟨r, ⟨K1, E1⟩, h⟩ := szStates_ev o rows (by unfold maxLen at hl; omega) (fun r h => by have := hr r h; unfold maxLen at this; omega)
  by_cases h0 : r < 0
  · refine ⟨K1, ?_⟩
    simp only [laws_FnExactStatesText.f, E1 K1 (by omega), Option.bind_some]
    rw [if_pos h0]
  · obtain ⟨h1, h2⟩ := h (by omega)
    obtain ⟨t, u, K6, q⟩ := statesText_same o rows h1 h2
    obtain ⟨k, hk1, hk2, hk3⟩ : ∃ k, K1 ≤ k ∧ K6 ≤ k ∧ 5000000 ≤ k := ⟨K1 + K6 + 5000000, by omega, by omega, by omega⟩
    refine ⟨k + 1, ?_⟩
    simp only [laws_FnExactStatesText.f, E1 (k + 1) (by omega), toStates_is o rows h1 h2 (k + 1) (by omega), (q (k + 1) (by omega)).1, (q (k + 1) (by omega)).2, Option.bind_some]
    rw [if_neg h0]
    simp only [↓reduceIte, bne_self_eq_false, laws_FnExactStatesText.j0, Bool.false_eq_true, toStates_is o rows h1 h2 k (by omega), eqStates_is o rows h1 h2 k (by omega), Option.bind_some]

end Go.Proofs.YtlpegpmcnimfbaaDoor.Pure
