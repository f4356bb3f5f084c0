/- For all arguments the program and the reference return the same from RenameStates: the plain statement over numbers and lists, and its proof. -/
import Derived.Test.YtlpegpmcnimfbaaPFnExactRenameStatesx1
import Derived.Test.YtlpegpmcnimfbaaPFnExactRenameStatesx2
import Derived.Test.YtlpegpmcnimfbaaPFnExactRenameStatesx3
import Derived.Test.YtlpegpmcnimfbaaPFnExactRenameStatesx4
import Derived.Test.YtlpegpmcnimfbaaPFnExactRenameStatesx5
import Derived.Test.YtlpegpmcnimfbaaPFnExactRenameStatesx6
import Derived.Test.YtlpegpmcnimfbaaPFnExactRenameStatesx7
namespace Go.Proofs.Ytlpegpmcnimfbaa.Pure
open Go.RowKit Go.Proofs.Ytlpegpmcnimfbaa.PFnExactRenameStates Go.Proofs.YtlpegpmcnimfbaaW.PrintWords Go.Proofs.YtlpegpmcnimfbaaW.PrintLast Go.Proofs.YtlpegpmcnimfbaaW.PrintMore
set_option linter.unusedVariables false
set_option linter.unusedSimpArgs false
set_option maxRecDepth 100000
theorem w64 {x : Int} (h0 : -9223372036854775808 ≤ x) (h1 : x ≤ 9223372036854775807) : wrap64 x = x := by
  unfold wrap64
  omega

theorem mul_fits {x y A B : Int} (hx : x.natAbs ≤ A.natAbs) (hy : y.natAbs ≤ B.natAbs) : (x * y).natAbs ≤ (A * B).natAbs := by
  rw [Int.natAbs_mul, Int.natAbs_mul]
  exact Nat.mul_le_mul hx hy

/-- A product of numbers of at most nine digits. -/
theorem mul9 {x y : Int} (hx : x.natAbs ≤ 1000000000) (hy : y.natAbs ≤ 1000000000) : (x * y).natAbs ≤ 1000000000000000000 := by
  rw [Int.natAbs_mul]
  exact Nat.le_trans (Nat.mul_le_mul hx hy) (by decide)

theorem wf_range {a : Int} (h : (Lit.int .i64 a).wf = true) : -9223372036854775808 ≤ a ∧ a ≤ 9223372036854775807 := by
  simp [Lit.wf, IntKind.min, IntKind.max, IntKind.signed, IntKind.bits] at h
  omega

theorem rd_get {xs : List Int} {j : Nat} (h : j < xs.length) : rd xs (j : Int) = xs[j] := by
  unfold rd
  rw [Int.toNat_natCast, List.getD_eq_getElem?_getD, List.getElem?_eq_getElem h]
  rfl

theorem rd1_get {xs : List (List Int)} {j : Nat} (h : j < xs.length) : rd_L1 xs (j : Int) = xs[j] := by
  unfold rd_L1
  rw [Int.toNat_natCast, List.getD_eq_getElem?_getD, List.getElem?_eq_getElem h]
  rfl

/-- A row of chances: n numbers from 0 on, o in all. -/
def GoodRow (n : Nat) (o : Int) (row : List Int) : Prop := row.length = n ∧ (∀ x ∈ row, 0 ≤ x) ∧ row.sum = o
/-- Valid states. -/
def Good (o : Int) (rows : List (List Int)) : Prop := 1 ≤ o ∧ o ≤ 10 ∧ 1 ≤ rows.length ∧ rows.length ≤ 5 ∧ ∀ row ∈ rows, GoodRow rows.length o row

theorem sum_nonneg : ∀ (l : List Int), (∀ x ∈ l, 0 ≤ x) → 0 ≤ l.sum
  | [], _ => by simp
  | x :: l, h => by
    have h1 := h x (by simp)
    have h2 := sum_nonneg l (fun y hy => h y (by simp [hy]))
    simp only [List.sum_cons]
    omega

theorem le_sum : ∀ (l : List Int), (∀ x ∈ l, 0 ≤ x) → ∀ x ∈ l, x ≤ l.sum
  | [], _, x, hx => by simp at hx
  | y :: l, h, x, hx => by
    have h1 := h y (by simp)
    have h2 := sum_nonneg l (fun z hz => h z (by simp [hz]))
    simp only [List.sum_cons]
    rcases List.mem_cons.1 hx with rfl | hx
    · omega
    · have := le_sum l (fun z hz => h z (by simp [hz])) x hx
      omega

theorem in_true {n a b : Int} (h : a ≤ n ∧ n ≤ b) : (if n ≥ a then some (decide (n ≤ b)) else some false) = some true := by
  rw [if_pos h.1, decide_eq_true h.2]
theorem in_false {n a b : Int} (h : ¬ (a ≤ n ∧ n ≤ b)) : (if n ≥ a then some (decide (n ≤ b)) else some false) = some false := by
  by_cases h1 : n ≥ a
  · rw [if_pos h1, decide_eq_false (by omega)]
  · rw [if_neg h1]

theorem l1All_l0 (a b : Int) (xs : List Int) (hx : xs.length ≤ 1048576) : ∀ (m j : Nat), j + m = xs.length →
    ∃ t : Bool, (t = true ↔ ∀ x ∈ xs.drop j, a ≤ x ∧ x ≤ b) ∧ ∀ k, m < k → spec_l1All.l0 k a b xs (xs.length : Int) j = some t := by
  intro m
  induction m with
  | zero =>
    intro j hj
    refine ⟨true, ?_, fun k hk => ?_⟩
    · rw [List.drop_of_length_le (by omega)]; simp
    · obtain ⟨k, rfl⟩ : ∃ m, k = m + 1 := ⟨k - 1, by omega⟩
      simp only [spec_l1All.l0]
      rw [if_neg (by omega)]
  | succ m ih =>
    intro j hj
    have hlt : j < xs.length := by omega
    by_cases h : a ≤ xs[j] ∧ xs[j] ≤ b
    · obtain ⟨t, ht, E⟩ := ih (j + 1) (by omega)
      refine ⟨t, ?_, fun k hk => ?_⟩
      · rw [List.drop_eq_getElem_cons hlt, ht]
        simp only [List.mem_cons, forall_eq_or_imp]
        exact ⟨fun h2 => ⟨h, h2⟩, fun h2 => h2.2⟩
      · obtain ⟨k, rfl⟩ : ∃ m, k = m + 1 := ⟨k - 1, by omega⟩
        simp only [spec_l1All.l0, spec_l1In.f]
        rw [if_pos (by omega), if_pos (by omega), if_pos (by omega), rd_get hlt, in_true h]
        simp only [Option.bind_some, ↓reduceIte]
        rw [w64 (x := (j : Int) + 1) (by omega) (by omega)]
        exact E k (by omega)
    · refine ⟨false, ?_, fun k hk => ?_⟩
      · rw [List.drop_eq_getElem_cons hlt]
        simp only [Bool.false_eq_true, false_iff]
        exact fun h2 => h (h2 _ List.mem_cons_self)
      · obtain ⟨k, rfl⟩ : ∃ m, k = m + 1 := ⟨k - 1, by omega⟩
        simp only [spec_l1All.l0, spec_l1In.f]
        rw [if_pos (by omega), if_pos (by omega), if_pos (by omega), rd_get hlt, in_false h]
        simp

theorem saGood_l1 (o : Int) (rows : List (List Int)) (jj : Int) (xs : List Int) (hx : xs.length ≤ 5) (ha : ∀ x ∈ xs, 0 ≤ x ∧ x ≤ 10) : ∀ (m j : Nat) (acc : Int), j + m = xs.length → 0 ≤ acc → acc ≤ 10 * j → ∀ k, m < k →
    spec_saGood.l1 k acc rows (rows.length : Int) jj xs (xs.length : Int) j o rows = if acc + (xs.drop j).sum = o then spec_saGood.l0 (k - m - 1) rows (rows.length : Int) (wrap64 (jj + 1)) o rows else some false := by
  intro m
  induction m with
  | zero =>
    intro j acc hj h0 h1 k hk
    obtain ⟨k, rfl⟩ : ∃ m, k = m + 1 := ⟨k - 1, by omega⟩
    simp only [spec_saGood.l1]
    rw [if_neg (by omega), List.drop_of_length_le (by omega)]
    simp
  | succ m ih =>
    intro j acc hj h0 h1 k hk
    obtain ⟨k, rfl⟩ : ∃ m, k = m + 1 := ⟨k - 1, by omega⟩
    have hlt : j < xs.length := by omega
    have hxj := ha _ (List.getElem_mem hlt)
    simp only [spec_saGood.l1]
    rw [if_pos (by omega), if_pos (by omega), if_pos (by omega), rd_get hlt, w64 (x := acc + xs[j]) (by omega) (by omega), w64 (x := (j : Int) + 1) (by omega) (by omega), show (j : Int) + 1 = ((j + 1 : Nat) : Int) from by omega]
    rw [ih (j + 1) (acc + xs[j]) (by omega) (by omega) (by omega) k (by omega), List.drop_eq_getElem_cons hlt, List.sum_cons, Int.add_assoc]
    rw [show k + 1 - (m + 1) - 1 = k - m - 1 from by omega]

theorem saGood_l0 (o : Int) (o1 : o ≤ 10) (rows : List (List Int)) (hn : rows.length ≤ 5) (hl : ∀ r ∈ rows, r.length ≤ 1048576) : ∀ (m j : Nat), j + m = rows.length →
    ∃ t : Bool, (t = true ↔ ∀ row ∈ rows.drop j, GoodRow rows.length o row) ∧ ∃ K, ∀ k, K ≤ k → spec_saGood.l0 k rows (rows.length : Int) j o rows = some t := by
  intro m
  induction m with
  | zero =>
    intro j hj
    refine ⟨true, ?_, 1, fun k hk => ?_⟩
    · rw [List.drop_of_length_le (by omega)]; simp
    · obtain ⟨k, rfl⟩ : ∃ m, k = m + 1 := ⟨k - 1, by omega⟩
      simp only [spec_saGood.l0]
      rw [if_neg (by omega)]
  | succ m ih =>
    intro j hj
    have hlt : j < rows.length := by omega
    have hll := hl _ (List.getElem_mem hlt)
    obtain ⟨t1, ht1, E1⟩ := l1All_l0 0 o rows[j] hll rows[j].length 0 (by omega)
    rw [List.drop_zero] at ht1
    have bad : ¬ GoodRow rows.length o rows[j] → (∃ K, ∀ k, K ≤ k → spec_saGood.l0 k rows (rows.length : Int) j o rows = some false) → ∃ t : Bool, (t = true ↔ ∀ row ∈ rows.drop j, GoodRow rows.length o row) ∧ ∃ K, ∀ k, K ≤ k → spec_saGood.l0 k rows (rows.length : Int) j o rows = some t := by
      intro hb hE
      refine ⟨false, ?_, hE⟩
      rw [List.drop_eq_getElem_cons hlt]
      simp only [Bool.false_eq_true, false_iff]
      exact fun h2 => hb (h2 _ List.mem_cons_self)
    by_cases c1 : rows[j].length = rows.length
    · cases t1 with
      | false =>
        refine bad (fun hg => ?_) ⟨1048580, fun k hk => ?_⟩
        · have := ht1.2 (fun x hx => ⟨hg.2.1 x hx, by have := le_sum _ hg.2.1 x hx; have := hg.2.2; omega⟩)
          simp at this
        · obtain ⟨k, rfl⟩ : ∃ m, k = m + 2 := ⟨k - 2, by omega⟩
          rw [spec_saGood.l0]
          rw [if_pos (by omega), if_pos (by omega), if_pos (by omega), rd1_get hlt, if_pos (by omega)]
          unfold spec_l1All.f
          rw [show spec_l1All.l0 (k + 1) 0 o rows[j] (rows[j].length : Int) 0 = some false from E1 _ (by omega)]
          simp only [Option.bind_some]
          rw [spec_saGood.j2]
          simp
      | true =>
        have hall := ht1.1 rfl
        have hs := saGood_l1 o rows j rows[j] (by omega) (fun x hx => ⟨(hall x hx).1, by have := (hall x hx).2; omega⟩) rows[j].length 0 0 (by omega) (by omega) (by omega)
        rw [List.drop_zero, Int.zero_add] at hs
        by_cases c2 : rows[j].sum = o
        · obtain ⟨t, ht, K, E⟩ := ih (j + 1) (by omega)
          refine ⟨t, ?_, K + 1048590, fun k hk => ?_⟩
          · rw [List.drop_eq_getElem_cons hlt, ht]
            simp only [List.mem_cons, forall_eq_or_imp]
            exact ⟨fun h2 => ⟨⟨c1, fun x hx => (hall x hx).1, c2⟩, h2⟩, fun h2 => h2.2⟩
          · obtain ⟨k, rfl⟩ : ∃ m, k = m + 2 := ⟨k - 2, by omega⟩
            rw [spec_saGood.l0]
            rw [if_pos (by omega), if_pos (by omega), if_pos (by omega), rd1_get hlt, if_pos (by omega)]
            unfold spec_l1All.f
            rw [show spec_l1All.l0 (k + 1) 0 o rows[j] (rows[j].length : Int) 0 = some true from E1 _ (by omega)]
            simp only [Option.bind_some, Bool.not_true]
            rw [spec_saGood.j2]
            simp only [Bool.false_eq_true, ↓reduceIte]
            have h3 := hs k (by omega)
            rw [if_pos c2, w64 (x := (j : Int) + 1) (by omega) (by omega)] at h3
            exact h3.trans (E _ (by omega))
        · refine bad (fun hg => c2 hg.2.2) ⟨1048590, fun k hk => ?_⟩
          obtain ⟨k, rfl⟩ : ∃ m, k = m + 2 := ⟨k - 2, by omega⟩
          rw [spec_saGood.l0]
          rw [if_pos (by omega), if_pos (by omega), if_pos (by omega), rd1_get hlt, if_pos (by omega)]
          unfold spec_l1All.f
          rw [show spec_l1All.l0 (k + 1) 0 o rows[j] (rows[j].length : Int) 0 = some true from E1 _ (by omega)]
          simp only [Option.bind_some, Bool.not_true]
          rw [spec_saGood.j2]
          simp only [Bool.false_eq_true, ↓reduceIte]
          have h3 := hs k (by omega)
          rw [if_neg c2] at h3
          exact h3
    · refine bad (fun hg => c1 hg.1) ⟨10, fun k hk => ?_⟩
      obtain ⟨k, rfl⟩ : ∃ m, k = m + 2 := ⟨k - 2, by omega⟩
      rw [spec_saGood.l0]
      rw [if_pos (by omega), if_pos (by omega), if_pos (by omega), rd1_get hlt, if_neg (by omega), spec_saGood.j2]
      simp

theorem saGood_ev (o : Int) (rows : List (List Int)) (hn : rows.length ≤ 1048576) (hl : ∀ r ∈ rows, r.length ≤ 1048576) :
    ∃ t : Bool, (t = true ↔ Good o rows) ∧ ∃ K, ∀ k, K ≤ k → spec_saGood.f k o rows = some t := by
  by_cases c1 : 1 ≤ o ∧ o ≤ 10
  · by_cases c2 : 1 ≤ (rows.length : Int) ∧ (rows.length : Int) ≤ 5
    · obtain ⟨t, ht, K, E⟩ := saGood_l0 o c1.2 rows (by omega) hl rows.length 0 (by omega)
      rw [List.drop_zero] at ht
      refine ⟨t, ht.trans ⟨fun h => ⟨c1.1, c1.2, by omega, by omega, h⟩, fun h => h.2.2.2.2⟩, K + 1, fun k hk => ?_⟩
      obtain ⟨k, rfl⟩ : ∃ m, k = m + 1 := ⟨k - 1, by omega⟩
      simp only [spec_saGood.f, spec_saGood.j0, spec_l1In.f, in_true c1, in_true c2, Option.bind_some, ↓reduceIte, Bool.not_true, Bool.false_eq_true]
      exact E k (by omega)
    · refine ⟨false, ⟨fun h => by simp at h, fun h => absurd ⟨by have := h.2.2.1; omega, by have := h.2.2.2.1; omega⟩ c2⟩, 1, fun k hk => ?_⟩
      obtain ⟨k, rfl⟩ : ∃ m, k = m + 1 := ⟨k - 1, by omega⟩
      simp only [spec_saGood.f, spec_saGood.j0, spec_l1In.f, in_true c1, in_false c2, Option.bind_some, ↓reduceIte, Bool.not_false]
  · refine ⟨false, ⟨fun h => by simp at h, fun h => absurd ⟨h.1, h.2.1⟩ c1⟩, 1, fun k hk => ?_⟩
    obtain ⟨k, rfl⟩ : ∃ m, k = m + 1 := ⟨k - 1, by omega⟩
    simp only [spec_saGood.f, spec_saGood.j0, spec_l1In.f, in_false c1, Option.bind_some, ↓reduceIte, Bool.false_eq_true]

theorem l1Has_l0 (a : Int) (xs : List Int) (hx : xs.length ≤ 1048576) : ∀ (m j : Nat), j + m = xs.length →
    ∃ t : Bool, (t = true ↔ a ∈ xs.drop j) ∧ ∀ k, m < k → spec_l1Has.l0 k a xs (xs.length : Int) j = some t := by
  intro m
  induction m with
  | zero =>
    intro j hj
    refine ⟨false, ?_, fun k hk => ?_⟩
    · rw [List.drop_of_length_le (by omega)]; simp
    · obtain ⟨k, rfl⟩ : ∃ m, k = m + 1 := ⟨k - 1, by omega⟩
      simp only [spec_l1Has.l0]
      rw [if_neg (by omega)]
  | succ m ih =>
    intro j hj
    have hlt : j < xs.length := by omega
    by_cases h : xs[j] = a
    · refine ⟨true, ?_, fun k hk => ?_⟩
      · rw [List.drop_eq_getElem_cons hlt, h]; simp
      · obtain ⟨k, rfl⟩ : ∃ m, k = m + 1 := ⟨k - 1, by omega⟩
        simp only [spec_l1Has.l0]
        rw [if_pos (by omega), if_pos (by omega), if_pos (by omega), rd_get hlt, if_pos h]
    · obtain ⟨t, ht, E⟩ := ih (j + 1) (by omega)
      refine ⟨t, ?_, fun k hk => ?_⟩
      · rw [List.drop_eq_getElem_cons hlt, ht]
        simp only [List.mem_cons]
        exact ⟨Or.inr, fun h2 => h2.resolve_left (fun e => h e.symm)⟩
      · obtain ⟨k, rfl⟩ : ∃ m, k = m + 1 := ⟨k - 1, by omega⟩
        simp only [spec_l1Has.l0]
        rw [if_pos (by omega), if_pos (by omega), if_pos (by omega), rd_get hlt, if_neg h, w64 (x := (j : Int) + 1) (by omega) (by omega)]
        exact E k (by omega)

theorem index_l0 (a : Int) (xs : List Int) (hx : xs.length ≤ 1048576) : ∀ (m j : Nat), j + m = xs.length →
    ∃ t : Int, (t ≥ 0 ↔ a ∈ xs.drop j) ∧ ∀ k, m < k → slices_Index_int_int.l0 k xs a (xs.length : Int) j = some t := by
  intro m
  induction m with
  | zero =>
    intro j hj
    refine ⟨-1, ?_, fun k hk => ?_⟩
    · rw [List.drop_of_length_le (by omega)]; simp
    · obtain ⟨k, rfl⟩ : ∃ m, k = m + 1 := ⟨k - 1, by omega⟩
      simp only [slices_Index_int_int.l0]
      rw [if_neg (by omega)]
  | succ m ih =>
    intro j hj
    have hlt : j < xs.length := by omega
    by_cases h : a = xs[j]
    · refine ⟨(j : Int), ⟨fun _ => by rw [List.drop_eq_getElem_cons hlt, h]; exact List.mem_cons_self, fun _ => by omega⟩, fun k hk => ?_⟩
      · obtain ⟨k, rfl⟩ : ∃ m, k = m + 1 := ⟨k - 1, by omega⟩
        simp only [slices_Index_int_int.l0]
        rw [if_pos (by omega), if_pos (by omega), if_pos (by omega), rd_get hlt, if_pos h]
    · obtain ⟨t, ht, E⟩ := ih (j + 1) (by omega)
      refine ⟨t, ?_, fun k hk => ?_⟩
      · rw [List.drop_eq_getElem_cons hlt, ht]
        simp only [List.mem_cons]
        exact ⟨Or.inr, fun h2 => h2.resolve_left h⟩
      · obtain ⟨k, rfl⟩ : ∃ m, k = m + 1 := ⟨k - 1, by omega⟩
        simp only [slices_Index_int_int.l0]
        rw [if_pos (by omega), if_pos (by omega), if_pos (by omega), rd_get hlt, if_neg h, w64 (x := (j : Int) + 1) (by omega) (by omega)]
        exact E k (by omega)

theorem l1Has_is (xs : List Int) (a : Int) (hx : xs.length ≤ 1048576) (k : Nat) (hk : xs.length < k) : spec_l1Has.f k xs a = some (decide (a ∈ xs)) := by
  obtain ⟨t, ht, E⟩ := l1Has_l0 a xs hx xs.length 0 (by omega)
  rw [List.drop_zero] at ht
  have : decide (a ∈ xs) = t := by rw [Bool.eq_iff_iff, ht]; simp
  rw [this]
  exact E k hk

theorem contains_is (xs : List Int) (a : Int) (hx : xs.length ≤ 1048576) (k : Nat) (hk : xs.length < k) : slices_Contains_int_int.f k xs a = some (decide (a ∈ xs)) := by
  obtain ⟨t, ht, E⟩ := index_l0 a xs hx xs.length 0 (by omega)
  rw [List.drop_zero] at ht
  have h2 : slices_Index_int_int.f k xs a = some t := E k hk
  simp only [slices_Contains_int_int.f, h2, Option.bind_some]
  congr 1
  rw [Bool.eq_iff_iff, decide_eq_true_iff, decide_eq_true_iff]
  exact ht

theorem areStates_l1 (o : Int) (rows : List (List Int)) (jj : Int) (xs : List Int) (hx : xs.length ≤ 1048576) : ∀ (m j : Nat) (left : Int), j + m = xs.length → 0 ≤ left → left ≤ 10 →
    ∃ t : Bool, (t = true ↔ xs.length = rows.length ∧ (∀ x ∈ xs.drop j, 0 ≤ x) ∧ (xs.drop j).sum = left) ∧ ∀ k, m < k →
    impl_AreStates.l1 k (rows.length : Int) xs left rows (rows.length : Int) jj xs (xs.length : Int) j o rows = if t = true then impl_AreStates.l0 (k - m - 1) (rows.length : Int) rows (rows.length : Int) (wrap64 (jj + 1)) o rows else some false := by
  intro m
  induction m with
  | zero =>
    intro j left hj h0 h1
    refine ⟨decide (xs.length = rows.length ∧ left = 0), ?_, fun k hk => ?_⟩
    · rw [List.drop_of_length_le (by omega), decide_eq_true_eq]
      simp
      omega
    · obtain ⟨k, rfl⟩ : ∃ m, k = m + 1 := ⟨k - 1, by omega⟩
      simp only [impl_AreStates.l1]
      rw [if_neg (by omega)]
      by_cases c1 : xs.length = rows.length
      · rw [if_pos (by omega)]
        by_cases c2 : left = 0
        · rw [if_pos c2, decide_eq_true ⟨c1, c2⟩]; rfl
        · rw [if_neg c2, decide_eq_false (fun h => c2 h.2)]; rfl
      · rw [if_neg (by omega), decide_eq_false (fun h => c1 h.1)]; rfl
  | succ m ih =>
    intro j left hj h0 h1
    have hlt : j < xs.length := by omega
    by_cases h : 0 ≤ xs[j] ∧ xs[j] ≤ left
    · obtain ⟨t, ht, E⟩ := ih (j + 1) (left - xs[j]) (by omega) (by omega) (by omega)
      refine ⟨t, ?_, fun k hk => ?_⟩
      · rw [List.drop_eq_getElem_cons hlt, ht, List.sum_cons]
        simp only [List.mem_cons, forall_eq_or_imp]
        exact ⟨fun h2 => ⟨h2.1, ⟨h.1, h2.2.1⟩, by omega⟩, fun h2 => ⟨h2.1, h2.2.1.2, by omega⟩⟩
      · obtain ⟨k, rfl⟩ : ∃ m, k = m + 1 := ⟨k - 1, by omega⟩
        simp only [impl_AreStates.l1, impl_within.f]
        rw [if_pos (by omega), if_pos (by omega), if_pos (by omega), rd_get hlt, in_true h]
        simp only [Option.bind_some, ↓reduceIte]
        rw [w64 (x := (j : Int) + 1) (by omega) (by omega), w64 (x := left - xs[j]) (by omega) (by omega), show (j : Int) + 1 = ((j + 1 : Nat) : Int) from by omega, E k (by omega),
          show k + 1 - (m + 1) - 1 = k - m - 1 from by omega]
    · refine ⟨false, ?_, fun k hk => ?_⟩
      · rw [List.drop_eq_getElem_cons hlt, List.sum_cons]
        simp only [Bool.false_eq_true, false_iff]
        intro h2
        have h3 := h2.2.1 _ List.mem_cons_self
        have h4 := sum_nonneg (xs.drop (j + 1)) (fun x hx => h2.2.1 _ (List.mem_cons_of_mem _ hx))
        omega
      · obtain ⟨k, rfl⟩ : ∃ m, k = m + 1 := ⟨k - 1, by omega⟩
        simp only [impl_AreStates.l1, impl_within.f]
        rw [if_pos (by omega), if_pos (by omega), if_pos (by omega), rd_get hlt, in_false h]
        simp

theorem areStates_l0 (o : Int) (o0 : 1 ≤ o) (o1 : o ≤ 10) (rows : List (List Int)) (hn : rows.length ≤ 5) (hl : ∀ r ∈ rows, r.length ≤ 1048576) : ∀ (m j : Nat), j + m = rows.length →
    ∃ t : Bool, (t = true ↔ ∀ row ∈ rows.drop j, GoodRow rows.length o row) ∧ ∃ K, ∀ k, K ≤ k → impl_AreStates.l0 k (rows.length : Int) rows (rows.length : Int) j o rows = some t := by
  intro m
  induction m with
  | zero =>
    intro j hj
    refine ⟨true, ?_, 1, fun k hk => ?_⟩
    · rw [List.drop_of_length_le (by omega)]; simp
    · obtain ⟨k, rfl⟩ : ∃ m, k = m + 1 := ⟨k - 1, by omega⟩
      simp only [impl_AreStates.l0]
      rw [if_neg (by omega)]
  | succ m ih =>
    intro j hj
    have hlt : j < rows.length := by omega
    have hll := hl _ (List.getElem_mem hlt)
    obtain ⟨t1, ht1, E1⟩ := areStates_l1 o rows j rows[j] hll rows[j].length 0 o (by omega) (by omega) o1
    rw [List.drop_zero] at ht1
    cases t1 with
    | false =>
      refine ⟨false, ?_, 1048590, fun k hk => ?_⟩
      · rw [List.drop_eq_getElem_cons hlt]
        simp only [Bool.false_eq_true, false_iff]
        exact fun h2 => by
          have := ht1.2 (h2 _ List.mem_cons_self)
          simp at this
      · obtain ⟨k, rfl⟩ : ∃ m, k = m + 1 := ⟨k - 1, by omega⟩
        rw [impl_AreStates.l0]
        rw [if_pos (by omega), if_pos (by omega), if_pos (by omega), rd1_get hlt]
        have := E1 k (by omega)
        simp only [Bool.false_eq_true, ↓reduceIte] at this
        exact this
    | true =>
      obtain ⟨t, ht, K, E⟩ := ih (j + 1) (by omega)
      refine ⟨t, ?_, K + 1048590, fun k hk => ?_⟩
      · rw [List.drop_eq_getElem_cons hlt, ht]
        simp only [List.mem_cons, forall_eq_or_imp]
        exact ⟨fun h2 => ⟨ht1.1 rfl, h2⟩, fun h2 => h2.2⟩
      · obtain ⟨k, rfl⟩ : ∃ m, k = m + 1 := ⟨k - 1, by omega⟩
        rw [impl_AreStates.l0]
        rw [if_pos (by omega), if_pos (by omega), if_pos (by omega), rd1_get hlt]
        have := E1 k (by omega)
        simp only [↓reduceIte] at this
        rw [w64 (x := (j : Int) + 1) (by omega) (by omega)] at this
        exact this.trans (E _ (by omega))

theorem areStates_ev (o : Int) (rows : List (List Int)) (hn : rows.length ≤ 1048576) (hl : ∀ r ∈ rows, r.length ≤ 1048576) :
    ∃ t : Bool, (t = true ↔ Good o rows) ∧ ∃ K, ∀ k, K ≤ k → impl_AreStates.f k o rows = some t := by
  by_cases c1 : 1 ≤ o ∧ o ≤ 10
  · by_cases c2 : 1 ≤ (rows.length : Int) ∧ (rows.length : Int) ≤ 5
    · obtain ⟨t, ht, K, E⟩ := areStates_l0 o c1.1 c1.2 rows (by omega) hl rows.length 0 (by omega)
      rw [List.drop_zero] at ht
      refine ⟨t, ht.trans ⟨fun h => ⟨c1.1, c1.2, by omega, by omega, h⟩, fun h => h.2.2.2.2⟩, K + 1, fun k hk => ?_⟩
      obtain ⟨k, rfl⟩ : ∃ m, k = m + 1 := ⟨k - 1, by omega⟩
      simp only [impl_AreStates.f, impl_AreStates.j0, impl_within.f, in_true c1, in_true c2, Option.bind_some, ↓reduceIte, Bool.not_true, Bool.false_eq_true]
      exact E k (by omega)
    · refine ⟨false, ⟨fun h => by simp at h, fun h => absurd ⟨by have := h.2.2.1; omega, by have := h.2.2.2.1; omega⟩ c2⟩, 1, fun k hk => ?_⟩
      obtain ⟨k, rfl⟩ : ∃ m, k = m + 1 := ⟨k - 1, by omega⟩
      simp only [impl_AreStates.f, impl_AreStates.j0, impl_within.f, in_true c1, in_false c2, Option.bind_some, ↓reduceIte, Bool.not_false]
  · refine ⟨false, ⟨fun h => by simp at h, fun h => absurd ⟨h.1, h.2.1⟩ c1⟩, 1, fun k hk => ?_⟩
    obtain ⟨k, rfl⟩ : ∃ m, k = m + 1 := ⟨k - 1, by omega⟩
    simp only [impl_AreStates.f, impl_AreStates.j0, impl_within.f, in_false c1, Option.bind_some, ↓reduceIte, Bool.false_eq_true]

theorem areWith_bad {n : Nat} (hn : n ≤ 1048576) (i : Int) : impl_areWith.bad n i = false ↔ 0 ≤ i ∧ i < n := by
  unfold impl_areWith.bad
  rw [w64 (by omega) (by omega)]
  by_cases h : i ≥ 0
  · rw [if_pos h]
    simp
    omega
  · rw [if_neg h]
    simp
    omega

theorem areWith_ev (o : Int) (rows : List (List Int)) (l : List Int) (h1 : rows.length ≤ 1048576) (h2 : ∀ r ∈ rows, r.length ≤ 1048576) (hl : l.length ≤ 1048576) :
    ∃ t : Bool, (t = true ↔ Good o rows ∧ ∀ a ∈ l, 0 ≤ a ∧ a < rows.length) ∧ ∃ K, ∀ k, K ≤ k → impl_areWith.f k o rows l = some t := by
  obtain ⟨t, ht, K, E⟩ := areStates_ev o rows h1 h2
  cases t with
  | false =>
    refine ⟨false, ⟨fun h => by simp at h, fun h => by have := ht.2 h.1; simp at this⟩, K, fun k hk => ?_⟩
    simp [impl_areWith.f, E k hk]
  | true =>
    have hg := ht.1 rfl
    refine ⟨!(l.any (impl_areWith.bad rows.length)), ?_, K, fun k hk => ?_⟩
    · simp only [Bool.not_eq_true', List.any_eq_false, Bool.not_eq_true]
      constructor
      · exact fun h => ⟨hg, fun a ha => (areWith_bad h1 a).1 (h a ha)⟩
      · exact fun h a ha => (areWith_bad h1 a).2 (h.2 a ha)
    · simp only [impl_areWith.f, E k hk, Option.bind_some, ↓reduceIte]
      rw [if_pos (by omega)]

/-- Two states asked. -/
theorem asked2_ev (o : Int) (rows : List (List Int)) (a b : Int) (h1 : rows.length ≤ 1048576) (h2 : ∀ r ∈ rows, r.length ≤ 1048576) :
    ∃ t : Bool, (t = true ↔ Good o rows ∧ (0 ≤ a ∧ a < rows.length) ∧ 0 ≤ b ∧ b < rows.length) ∧ ∃ K, ∀ k, K ≤ k → impl_areWith.f k o rows [a, b] = some t := by
  obtain ⟨t, ht, K, E⟩ := areWith_ev o rows [a, b] h1 h2 (by simp)
  refine ⟨t, ht.trans ?_, K, E⟩
  simp

theorem asked1_ev (o : Int) (rows : List (List Int)) (a : Int) (h1 : rows.length ≤ 1048576) (h2 : ∀ r ∈ rows, r.length ≤ 1048576) :
    ∃ t : Bool, (t = true ↔ Good o rows ∧ (0 ≤ a ∧ a < rows.length) ∧ 0 ≤ a ∧ a < rows.length) ∧ ∃ K, ∀ k, K ≤ k → impl_areWith.f k o rows [a] = some t := by
  obtain ⟨t, ht, K, E⟩ := areWith_ev o rows [a] h1 h2 (by simp)
  refine ⟨t, ht.trans ?_, K, E⟩
  simp

/-- A square table. -/
def Sq (n : Nat) (rows : List (List Int)) : Prop := rows.length = n ∧ ∀ r ∈ rows, r.length = n
theorem Sq.row {n : Nat} {rows : List (List Int)} (h : Sq n rows) {p : Int} (h0 : 0 ≤ p) (h1 : p < n) : (rd_L1 rows p).length = n := by
  obtain ⟨p, rfl⟩ := Int.eq_ofNat_of_zero_le h0
  have hp : p < rows.length := by rw [h.1]; omega
  rw [rd1_get hp]
  exact h.2 _ (List.getElem_mem _)
theorem Sq.put {n : Nat} {rows : List (List Int)} (h : Sq n rows) (p : Nat) (r : List Int) (hr : r.length = n) : Sq n (rows.set p r) := by
  refine ⟨by rw [List.length_set]; exact h.1, fun x hx => ?_⟩
  rcases List.mem_or_eq_of_mem_set hx with hx | hx
  · exact h.2 x hx
  · rw [hx]; exact hr
theorem Sq.zeros (n : Nat) : Sq n (List.replicate n (List.replicate n 0)) := by
  refine ⟨List.length_replicate, fun r hr => ?_⟩
  rw [List.eq_of_mem_replicate hr]
  exact List.length_replicate

theorem in_names {names : List Int} {n : Nat} (hl : names.length = n) (hr : ∀ a ∈ names, 0 ≤ a ∧ a < (n : Int)) {j : Nat} (hj : j < n) : 0 ≤ rd names (j : Int) ∧ rd names (j : Int) < (n : Int) := by
  rw [rd_get (by rw [hl]; exact hj)]
  exact hr _ (List.getElem_mem _)

/-- One row gone through. -/
theorem ren_inner (o : Int) (rows : List (List Int)) (names : List Int) (n : Nat) (hn : n ≤ 5) (hl : names.length = n) (hr : ∀ a ∈ names, 0 ≤ a ∧ a < (n : Int)) (i : Nat) (hi : i < n) (row : List Int) (hrow : row.length = n) :
    ∀ (m j : Nat) (out : List (List Int)), j + m = n → Sq n out →
      ∃ out', Sq n out' ∧ (∀ k, spec_RenameStates.l2 (k + m + 1) names rows (n : Int) (i : Int) row (n : Int) (j : Int) o out = spec_RenameStates.l1 k names rows (n : Int) ((i + 1 : Nat) : Int) o out') ∧
        (∀ k, impl_RenameStates.l3 (k + m + 1) names (i : Int) rows (n : Int) (i : Int) row (n : Int) (j : Int) o out = impl_RenameStates.l2 k names rows (n : Int) ((i + 1 : Nat) : Int) o out') := by
  have hwi : wrap64 ((i : Int) + 1) = ((i + 1 : Nat) : Int) := by rw [w64 (by omega) (by omega)]; omega
  obtain ⟨p0, p1⟩ := in_names hl hr hi
  have hln : (names.length : Int) = (n : Int) := by rw [hl]
  have hrn : (row.length : Int) = (n : Int) := by rw [hrow]
  have hii : (i : Int) < (n : Int) := Int.ofNat_lt.2 hi
  intro m
  induction m with
  | zero =>
    intro j out hj hs
    refine ⟨out, hs, fun k => ?_, fun k => ?_⟩
    · simp only [Nat.add_zero, spec_RenameStates.l2]
      rw [if_neg (by omega), hwi]
    · simp only [Nat.add_zero, impl_RenameStates.l3]
      rw [if_neg (by omega), hwi]
  | succ m ih =>
    intro j out hj hs
    have hjn : j < n := by omega
    have hwj : wrap64 ((j : Int) + 1) = ((j + 1 : Nat) : Int) := by rw [w64 (by omega) (by omega)]; omega
    obtain ⟨q0, q1⟩ := in_names hl hr hjn
    have hon : (out.length : Int) = (n : Int) := by rw [hs.1]
    have hlen := hs.row p0 p1
    have hln2 : ((rd_L1 out (rd names (i : Int))).length : Int) = (n : Int) := by rw [hlen]
    obtain ⟨out', s1, s2, s3⟩ := ih (j + 1) (out.set (rd names (i : Int)).toNat ((rd_L1 out (rd names (i : Int))).set (rd names (j : Int)).toNat (rd row (j : Int)))) (by omega) (hs.put _ _ (by rw [List.length_set]; exact hlen))
    have hjj : (j : Int) < (n : Int) := Int.ofNat_lt.2 hjn
    have hj0 : (0 : Int) ≤ (j : Int) := Int.natCast_nonneg _
    have hi0 : (0 : Int) ≤ (i : Int) := Int.natCast_nonneg _
    refine ⟨out', s1, fun k => ?_, fun k => ?_⟩
    · rw [show k + (m + 1) + 1 = (k + m + 1) + 1 from by omega]
      have hg := s2 k
      generalize k + m + 1 = K at hg ⊢
      simp only [spec_RenameStates.l2]
      rw [if_pos hjj, if_pos hj0, hrn, if_pos hjj, hln, if_pos hjj, if_pos p0, hon, if_pos p1, if_pos q0, hln2, if_pos q1, hwj]
      exact hg
    · rw [show k + (m + 1) + 1 = (k + m + 1) + 1 from by omega]
      have hg := s3 k
      generalize k + m + 1 = K at hg ⊢
      simp only [impl_RenameStates.l3]
      rw [if_pos hjj, if_pos hj0, hrn, if_pos hjj, if_pos hi0, hln, if_pos hii, if_pos p0, hon, if_pos p1, if_pos hjj, if_pos q0, hln2, if_pos q1, hwj]
      exact hg

/-- All rows gone through. -/
theorem ren_outer (o : Int) (rows : List (List Int)) (names : List Int) (n : Nat) (hn : n ≤ 5) (hl : names.length = n) (hr : ∀ a ∈ names, 0 ≤ a ∧ a < (n : Int)) (hrows : Sq n rows) :
    ∀ (m i : Nat) (out : List (List Int)), i + m = n → Sq n out →
      ∃ out', Sq n out' ∧ ∀ k, 10 * m < k → spec_RenameStates.l1 k names rows (n : Int) (i : Int) o out = some (o, out', true) ∧ impl_RenameStates.l2 k names rows (n : Int) (i : Int) o out = some (o, out', true) := by
  have hln : (names.length : Int) = (n : Int) := by rw [hl]
  have hrl : (rows.length : Int) = (n : Int) := by rw [hrows.1]
  intro m
  induction m with
  | zero =>
    intro i out hi hs
    refine ⟨out, hs, fun k hk => ?_⟩
    obtain ⟨k, rfl⟩ : ∃ m, k = m + 1 := ⟨k - 1, by omega⟩
    simp only [spec_RenameStates.l1, impl_RenameStates.l2]
    rw [if_neg (by omega), if_neg (by omega)]
    exact ⟨rfl, rfl⟩
  | succ m ih =>
    intro i out hi hs
    have hin : i < n := by omega
    have hir : i < rows.length := by rw [hrows.1]; exact hin
    have hrow : rows[i].length = n := hrows.2 _ (List.getElem_mem _)
    obtain ⟨out1, g1, g2, g3⟩ := ren_inner o rows names n hn hl hr i hin rows[i] hrow n 0 out (by omega) hs
    obtain ⟨out', f1, f2⟩ := ih (i + 1) out1 (by omega) g1
    obtain ⟨p0, p1⟩ := in_names hl hr hin
    have hon : (out.length : Int) = (n : Int) := by rw [hs.1]
    have hii : (i : Int) < (n : Int) := Int.ofNat_lt.2 hin
    have hi0 : (0 : Int) ≤ (i : Int) := Int.natCast_nonneg _
    have hrn : (rows[i].length : Int) = (n : Int) := by rw [hrow]
    refine ⟨out', f1, fun k hk => ?_⟩
    obtain ⟨k, rfl⟩ : ∃ r, k = (r + n + 1) + 1 := ⟨k - n - 2, by omega⟩
    have hg2 := g2 k
    have hg3 := g3 k
    obtain ⟨e1, e2⟩ := f2 k (by omega)
    generalize k + n + 1 = K at hg2 hg3 ⊢
    constructor
    · simp only [spec_RenameStates.l1]
      rw [if_pos hii, if_pos hi0, hrl, if_pos hii, hln, if_pos hii, if_pos p0, hon, if_pos p1, rd1_get hir, hrn]
      exact hg2.trans e1
    · simp only [impl_RenameStates.l2]
      rw [if_pos hii, if_pos hi0, hrl, if_pos hii, rd1_get hir, hrn]
      exact hg3.trans e2

/-- All names from j on. -/
def Have (names : List Int) (j n : Nat) : Prop := ∀ i : Nat, j ≤ i → i < n → (i : Int) ∈ names
open Classical in
/-- The table laid, in the reference: each name asked for. -/
theorem ren_s0 (o : Int) (rows : List (List Int)) (names : List Int) (n : Nat) (hn : n ≤ 5) (hl : names.length = n) (hrl : rows.length = n) :
    ∀ (m j : Nat), j + m = n → ∀ k,
      spec_RenameStates.l0 (k + m + 30) names (n : Int) (j : Int) o rows o (List.replicate j (List.replicate n 0)) =
        if Have names j n then spec_RenameStates.l1 (k + 29) names rows (n : Int) 0 o (List.replicate n (List.replicate n 0)) else some (0, [], false) := by
  intro m
  induction m with
  | zero =>
    intro j hj k
    obtain rfl : j = n := by omega
    have e4 : Have names j j := fun i h1 h2 => absurd h2 (by omega)
    rw [if_pos e4, Nat.add_zero]
    show spec_RenameStates.l0 ((k + 29) + 1) _ _ _ _ _ _ _ = _
    simp only [spec_RenameStates.l0]
    rw [if_neg (by omega), hrl]
  | succ m ih =>
    intro j hj k
    have hjj : (j : Int) < (n : Int) := by omega
    have hwj : wrap64 ((j : Int) + 1) = ((j + 1 : Nat) : Int) := by rw [w64 (by omega) (by omega)]; omega
    have hH := l1Has_is names (j : Int) (by omega) (k + m + 30) (by omega)
    have hg := ih (j + 1) (by omega) k
    have c1 : (0 : Int) ≤ (n : Int) := Int.natCast_nonneg _
    have c2 : n ≤ 35184372088832 := by omega
    have c3 : (List.replicate j (List.replicate n (0 : Int))).length < 5864062014805 := by rw [List.length_replicate]; omega
    rw [show k + (m + 1) + 30 = (k + m + 30) + 1 from by omega]
    generalize k + m + 30 = K at hg hH ⊢
    simp only [spec_RenameStates.l0]
    rw [if_pos hjj, hH, Option.bind_some]
    by_cases e : (j : Int) ∈ names
    · rw [decide_eq_true e, if_pos rfl, hrl, if_pos c1, Int.toNat_natCast, if_pos c2, if_pos c3, hwj, show List.replicate j (List.replicate n (0 : Int)) ++ [List.replicate n 0] = List.replicate (j + 1) (List.replicate n 0) from (List.replicate_succ' ..).symm, hg]
      by_cases e2 : Have names (j + 1) n
      · have e4 : Have names j n := fun i h1 h2 => by
          by_cases e3 : i = j
          · rw [e3]; exact e
          · exact e2 i (by omega) h2
        rw [if_pos e2, if_pos e4]
      · rw [if_neg e2, if_neg (fun h => e2 (fun i h1 h2 => h i (by omega) h2))]
    · rw [decide_eq_false e, if_neg (by decide), if_neg (fun h => e (h j (Nat.le_refl _) (by omega)))]

open Classical in
theorem ren_i0 (o : Int) (rows : List (List Int)) (names : List Int) (n : Nat) (hn : n ≤ 5) (hl : names.length = n) (hrl : rows.length = n) :
    ∀ (m j : Nat), j + m = n → ∀ k,
      impl_RenameStates.l0 (k + m + 30) names (n : Int) (j : Int) o rows =
        if Have names j n then impl_RenameStates.l1 (k + 29) names (n : Int) 0 o rows o [] else some (0, [], false) := by
  intro m
  induction m with
  | zero =>
    intro j hj k
    obtain rfl : j = n := by omega
    have e4 : Have names j j := fun i h1 h2 => absurd h2 (by omega)
    rw [if_pos e4, Nat.add_zero]
    show impl_RenameStates.l0 ((k + 29) + 1) _ _ _ _ _ = _
    simp only [impl_RenameStates.l0]
    rw [if_neg (by omega), hl]
  | succ m ih =>
    intro j hj k
    have hjj : (j : Int) < (n : Int) := by omega
    have hwj : wrap64 ((j : Int) + 1) = ((j + 1 : Nat) : Int) := by rw [w64 (by omega) (by omega)]; omega
    have hH := contains_is names (j : Int) (by omega) (k + m + 30) (by omega)
    have hg := ih (j + 1) (by omega) k
    rw [show k + (m + 1) + 30 = (k + m + 30) + 1 from by omega]
    generalize k + m + 30 = K at hg hH ⊢
    simp only [impl_RenameStates.l0]
    rw [if_pos hjj, hH, Option.bind_some]
    by_cases e : (j : Int) ∈ names
    · rw [decide_eq_true e, if_pos rfl, hwj, hg]
      by_cases e2 : Have names (j + 1) n
      · have e4 : Have names j n := fun i h1 h2 => by
          by_cases e3 : i = j
          · rw [e3]; exact e
          · exact e2 i (by omega) h2
        rw [if_pos e2, if_pos e4]
      · rw [if_neg e2, if_neg (fun h => e2 (fun i h1 h2 => h i (by omega) h2))]
    · rw [decide_eq_false e, if_neg (by decide), if_neg (fun h => e (h j (Nat.le_refl _) (by omega)))]

theorem ren_i1 (o : Int) (rows : List (List Int)) (names : List Int) (n : Nat) (hn : n ≤ 5) (hl : names.length = n) (hrl : rows.length = n) :
    ∀ (m j : Nat), j + m = n → ∀ k,
      impl_RenameStates.l1 (k + m + 1) names (n : Int) (j : Int) o rows o (List.replicate j (List.replicate n 0)) = impl_RenameStates.l2 k names rows (n : Int) 0 o (List.replicate n (List.replicate n 0)) := by
  intro m
  induction m with
  | zero =>
    intro j hj k
    obtain rfl : j = n := by omega
    rw [Nat.add_zero]
    simp only [impl_RenameStates.l1]
    rw [if_neg (by omega), hrl]
  | succ m ih =>
    intro j hj k
    have hjj : (j : Int) < (n : Int) := by omega
    have hwj : wrap64 ((j : Int) + 1) = ((j + 1 : Nat) : Int) := by rw [w64 (by omega) (by omega)]; omega
    have hg := ih (j + 1) (by omega) k
    have c1 : (0 : Int) ≤ (n : Int) := Int.natCast_nonneg _
    have c2 : n ≤ 35184372088832 := by omega
    have c3 : (List.replicate j (List.replicate n (0 : Int))).length < 5864062014805 := by rw [List.length_replicate]; omega
    rw [show k + (m + 1) + 1 = (k + m + 1) + 1 from by omega]
    generalize k + m + 1 = K at hg ⊢
    simp only [impl_RenameStates.l1]
    rw [if_pos hjj, hl, if_pos c1, Int.toNat_natCast, if_pos c2, if_pos c3, hwj, show List.replicate j (List.replicate n (0 : Int)) ++ [List.replicate n 0] = List.replicate (j + 1) (List.replicate n 0) from (List.replicate_succ' ..).symm]
    exact hg

theorem szSS_l0 (rows : List (List Int)) (hl : rows.length ≤ 9223372036854775807) (hr : ∀ r ∈ rows, r.length ≤ 9223372036854775807) : ∀ (m j : Nat) (left : Int), j + m = rows.length → 0 ≤ left → left ≤ 1048576 →
    ∃ r, (∃ K, ∀ k, K ≤ k → laws_szIntSS.l0 k rows left j = some r) ∧ (0 ≤ r → ∀ i (h : i < rows.length), j ≤ i → (rows[i].length : Int) ≤ left) := by
  intro m
  induction m with
  | zero =>
    intro j left hj h0 h1
    refine ⟨left, ⟨1, fun k hk => ?_⟩, fun _ i h hi => by omega⟩
    obtain ⟨k, rfl⟩ : ∃ m, k = m + 1 := ⟨k - 1, by omega⟩
    simp only [laws_szIntSS.l0]
    rw [if_neg (by omega)]
  | succ m ih =>
    intro j left hj h0 h1
    have hlt : j < rows.length := by omega
    have hrr := hr _ (List.getElem_mem hlt)
    by_cases hc : left - (rows[j].length : Int) < 0
    · refine ⟨-1, ⟨1, fun k hk => ?_⟩, fun h => by omega⟩
      obtain ⟨k, rfl⟩ : ∃ m, k = m + 1 := ⟨k - 1, by omega⟩
      simp only [laws_szIntSS.l0, laws_szIntS.f]
      rw [if_pos (by omega), if_pos (by omega), rd1_get hlt, w64 (x := left - (rows[j].length : Int)) (by omega) (by omega), if_pos hc]
      rfl
    · obtain ⟨r, ⟨K, E⟩, h⟩ := ih (j + 1) (left - (rows[j].length : Int)) (by omega) (by omega) (by omega)
      refine ⟨r, ⟨K + 1, fun k hk => ?_⟩, fun h2 i hi hji => ?_⟩
      · obtain ⟨k, rfl⟩ : ∃ m, k = m + 1 := ⟨k - 1, by omega⟩
        simp only [laws_szIntSS.l0, laws_szIntS.f]
        rw [if_pos (by omega), if_pos (by omega), rd1_get hlt, w64 (x := left - (rows[j].length : Int)) (by omega) (by omega), if_neg hc]
        simp only [Option.bind_some]
        rw [if_neg hc, w64 (x := (j : Int) + 1) (by omega) (by omega)]
        exact E k (by omega)
      · by_cases hij : i = j
        · subst hij; omega
        · have := h h2 i hi (by omega)
          omega

theorem szStates_ev (o : Int) (rows : List (List Int)) (hl : rows.length ≤ 9223372036854775807) (hr : ∀ r ∈ rows, r.length ≤ 9223372036854775807) :
    ∃ r, (∃ K, ∀ k, K ≤ k → laws_szStates.f k o rows 1048576 = some r) ∧ (0 ≤ r → rows.length ≤ 1048576 ∧ ∀ x ∈ rows, x.length ≤ 1048576) := by
  by_cases hc : 1048576 - (rows.length : Int) < 0
  · refine ⟨-1, ⟨0, fun k _ => ?_⟩, fun h => by omega⟩
    simp only [laws_szStates.f, laws_szIntSS.f]
    rw [w64 (x := 1048576 - (rows.length : Int)) (by omega) (by omega), if_pos hc]
    rfl
  · obtain ⟨r, ⟨K, E⟩, h⟩ := szSS_l0 rows hl hr rows.length 0 (1048576 - (rows.length : Int)) (by omega) (by omega) (by omega)
    by_cases hr0 : r < 0
    · refine ⟨-1, ⟨K, fun k hk => ?_⟩, fun h => by omega⟩
      simp only [laws_szStates.f, laws_szIntSS.f]
      rw [w64 (x := 1048576 - (rows.length : Int)) (by omega) (by omega), if_neg hc, show laws_szIntSS.l0 k rows (1048576 - (rows.length : Int)) 0 = some r from E k hk]
      simp only [Option.bind_some]
      rw [if_pos hr0]
    · refine ⟨r, ⟨K, fun k hk => ?_⟩, fun h0 => ⟨by omega, fun x hx => ?_⟩⟩
      · simp only [laws_szStates.f, laws_szIntSS.f]
        rw [w64 (x := 1048576 - (rows.length : Int)) (by omega) (by omega), if_neg hc, show laws_szIntSS.l0 k rows (1048576 - (rows.length : Int)) 0 = some r from E k hk]
        simp only [Option.bind_some]
        rw [if_neg hr0]
      · obtain ⟨i, hi, rfl⟩ := List.getElem_of_mem hx
        have := h h0 i hi (by omega)
        omega

theorem toIntS_l0 (xs : List Int) (hx : xs.length ≤ 1048576) : ∀ (m j k : Nat) (ys : List Int), m < k → j + m = xs.length → ys.length = xs.length → ys.take j = xs.take j →
    laws_toIntS.l0 k xs ys j = some xs := by
  intro m
  induction m with
  | zero =>
    intro j k ys hk hj hy ht
    obtain ⟨k, rfl⟩ : ∃ m, k = m + 1 := ⟨k - 1, by omega⟩
    simp only [laws_toIntS.l0]
    rw [if_neg (by omega)]
    rw [List.take_of_length_le (by omega), List.take_of_length_le (by omega)] at ht
    rw [ht]
  | succ m ih =>
    intro j k ys hk hj hy ht
    obtain ⟨k, rfl⟩ : ∃ m, k = m + 1 := ⟨k - 1, by omega⟩
    have hlt : j < xs.length := by omega
    simp only [laws_toIntS.l0]
    rw [if_pos (by omega), if_pos (by omega), if_pos (by omega), rd_get hlt, w64 (x := (j : Int) + 1) (by omega) (by omega), show (j : Int) + 1 = ((j + 1 : Nat) : Int) from by omega, Int.toNat_natCast]
    refine ih (j + 1) k _ (by omega) (by omega) (by rw [List.length_set]; exact hy) ?_
    rw [List.take_add_one, List.take_add_one, List.take_set_of_le (by omega), ht, List.getElem?_set_self (by omega), List.getElem?_eq_getElem hlt]

theorem toIntS_is (xs : List Int) (hx : xs.length ≤ 1048576) (k : Nat) (hk : xs.length < k) : laws_toIntS.f k xs = some xs := by
  unfold laws_toIntS.f
  rw [if_pos (by omega), if_pos (by omega)]
  exact toIntS_l0 xs hx xs.length 0 k _ hk (by omega) (by simp) rfl

theorem toIntSS_l0 (xs : List (List Int)) (hx : xs.length ≤ 1048576) (hr : ∀ r ∈ xs, r.length ≤ 1048576) : ∀ (m j k : Nat) (ys : List (List Int)), m + 1048578 < k → j + m = xs.length → ys.length = xs.length → ys.take j = xs.take j →
    laws_toIntSS.l0 k xs ys j = some xs := by
  intro m
  induction m with
  | zero =>
    intro j k ys hk hj hy ht
    obtain ⟨k, rfl⟩ : ∃ m, k = m + 1 := ⟨k - 1, by omega⟩
    simp only [laws_toIntSS.l0]
    rw [if_neg (by omega)]
    rw [List.take_of_length_le (by omega), List.take_of_length_le (by omega)] at ht
    rw [ht]
  | succ m ih =>
    intro j k ys hk hj hy ht
    obtain ⟨k, rfl⟩ : ∃ m, k = m + 1 := ⟨k - 1, by omega⟩
    have hlt : j < xs.length := by omega
    have hrr := hr _ (List.getElem_mem hlt)
    simp only [laws_toIntSS.l0]
    rw [if_pos (by omega), if_pos (by omega), rd1_get hlt, toIntS_is _ hrr k (by omega)]
    simp only [Option.bind_some]
    rw [if_pos (by omega), w64 (x := (j : Int) + 1) (by omega) (by omega), show (j : Int) + 1 = ((j + 1 : Nat) : Int) from by omega, Int.toNat_natCast]
    refine ih (j + 1) k _ (by omega) (by omega) (by rw [List.length_set]; exact hy) ?_
    rw [List.take_add_one, List.take_add_one, List.take_set_of_le (by omega), ht, List.getElem?_set_self (by omega), List.getElem?_eq_getElem hlt]

theorem toStates_is (o : Int) (xs : List (List Int)) (hx : xs.length ≤ 1048576) (hr : ∀ r ∈ xs, r.length ≤ 1048576) (k : Nat) (hk : 3000000 ≤ k) : laws_toStates.f k o xs = some (o, xs) := by
  unfold laws_toStates.f laws_toIntSS.f
  rw [if_pos (by omega), if_pos (by omega)]
  rw [show laws_toIntSS.l0 k xs (List.replicate ((xs.length : Int) : Int).toNat []) 0 = some xs from toIntSS_l0 xs hx hr xs.length 0 k _ (by omega) (by omega) (by simp) rfl]
  rfl

theorem eqIntS_l0 (xs : List Int) (hx : xs.length ≤ 1048576) : ∀ (m j k : Nat), m < k → j + m = xs.length → laws_eqIntS.l0 k xs xs j = some true := by
  intro m
  induction m with
  | zero =>
    intro j k hk hj
    obtain ⟨k, rfl⟩ : ∃ m, k = m + 1 := ⟨k - 1, by omega⟩
    simp only [laws_eqIntS.l0]
    rw [if_neg (by omega)]
  | succ m ih =>
    intro j k hk hj
    obtain ⟨k, rfl⟩ : ∃ m, k = m + 1 := ⟨k - 1, by omega⟩
    simp only [laws_eqIntS.l0, ↓reduceIte]
    rw [if_pos (by omega), if_pos (by omega), if_pos (by omega), w64 (x := (j : Int) + 1) (by omega) (by omega), show (j : Int) + 1 = ((j + 1 : Nat) : Int) from by omega]
    exact ih (j + 1) k (by omega) (by omega)

theorem eqIntS_is (xs : List Int) (hx : xs.length ≤ 1048576) (k : Nat) (hk : xs.length < k) : laws_eqIntS.f k xs xs = some true := by
  simp only [laws_eqIntS.f, ↓reduceIte]
  exact eqIntS_l0 xs hx xs.length 0 k hk (by omega)

theorem eqIntSS_l0 (xs : List (List Int)) (hx : xs.length ≤ 1048576) (hr : ∀ r ∈ xs, r.length ≤ 1048576) : ∀ (m j k : Nat), m + 1048578 < k → j + m = xs.length → laws_eqIntSS.l0 k xs xs j = some true := by
  intro m
  induction m with
  | zero =>
    intro j k hk hj
    obtain ⟨k, rfl⟩ : ∃ m, k = m + 1 := ⟨k - 1, by omega⟩
    simp only [laws_eqIntSS.l0]
    rw [if_neg (by omega)]
  | succ m ih =>
    intro j k hk hj
    obtain ⟨k, rfl⟩ : ∃ m, k = m + 1 := ⟨k - 1, by omega⟩
    have hlt : j < xs.length := by omega
    have hrr := hr _ (List.getElem_mem hlt)
    simp only [laws_eqIntSS.l0]
    rw [if_pos (by omega), if_pos (by omega), if_pos (by omega), rd1_get hlt, eqIntS_is _ hrr k (by omega)]
    simp only [Option.bind_some, ↓reduceIte]
    rw [w64 (x := (j : Int) + 1) (by omega) (by omega), show (j : Int) + 1 = ((j + 1 : Nat) : Int) from by omega]
    exact ih (j + 1) k (by omega) (by omega)

theorem eqIntSS_is (xs : List (List Int)) (hx : xs.length ≤ 1048576) (hr : ∀ r ∈ xs, r.length ≤ 1048576) (k : Nat) (hk : 3000000 ≤ k) : laws_eqIntSS.f k xs xs = some true := by
  simp only [laws_eqIntSS.f, ↓reduceIte]
  exact eqIntSS_l0 xs hx hr xs.length 0 k (by omega) (by omega)

theorem eqStates_is (o : Int) (xs : List (List Int)) (hx : xs.length ≤ 1048576) (hr : ∀ r ∈ xs, r.length ≤ 1048576) (k : Nat) (hk : 3000000 ≤ k) : laws_eqStates.f k o xs o xs = some true := by
  simp only [laws_eqStates.f, ↓reduceIte, eqIntSS_is xs hx hr k hk, Option.bind_some]

/-- The numbers from m on. -/
def upFrom (m : Int) : Nat → List Int
  | 0 => []
  | n + 1 => m :: upFrom (m + 1) n
theorem upFrom_len (m : Int) : ∀ n, (upFrom m n).length = n
  | 0 => rfl
  | n + 1 => by rw [upFrom, List.length_cons, upFrom_len]
theorem upFrom_get : ∀ (n : Nat) (m : Int) (j : Nat) (h : j < (upFrom m n).length), (upFrom m n)[j] = m + j
  | 0, _, _, h => by simp [upFrom] at h
  | n + 1, m, 0, _ => by simp [upFrom]
  | n + 1, m, j + 1, h => by
    simp only [upFrom, List.getElem_cons_succ]
    rw [upFrom_get n (m + 1) j]
    omega

theorem markIntS_l0 (xs : List Int) (m : Int) (h0 : 0 ≤ m) (h1 : m ≤ 10000000000000) (hx : xs.length ≤ 1048576) : ∀ (d j : Nat) (ys : List Int), j + d = xs.length → ys.length = xs.length → ys.take j = (upFrom m xs.length).take j → ∀ k, d < k →
    laws_markIntS.l0 k ys (m + j) j = some (m + xs.length, upFrom m xs.length) := by
  intro d
  induction d with
  | zero =>
    intro j ys hj hy ht k hk
    obtain ⟨k, rfl⟩ : ∃ m, k = m + 1 := ⟨k - 1, by omega⟩
    have hu := upFrom_len m xs.length
    simp only [laws_markIntS.l0]
    rw [if_neg (by omega)]
    rw [List.take_of_length_le (by omega), List.take_of_length_le (by omega)] at ht
    rw [ht, show j = xs.length from by omega]
  | succ d ih =>
    intro j ys hj hy ht k hk
    obtain ⟨k, rfl⟩ : ∃ m, k = m + 1 := ⟨k - 1, by omega⟩
    have hu := upFrom_len m xs.length
    have hlu : j < (upFrom m xs.length).length := by omega
    simp only [laws_markIntS.l0]
    rw [if_pos (by omega), if_pos (by omega), Int.toNat_natCast, w64 (x := m + j + 1) (by omega) (by omega), w64 (x := (j : Int) + 1) (by omega) (by omega)]
    have := ih (j + 1) (ys.set j (m + j)) (by omega) (by rw [List.length_set]; exact hy) (by
      rw [List.take_add_one, List.take_add_one, List.take_set_of_le (by omega), ht, List.getElem?_set_self (by omega), List.getElem?_eq_getElem hlu, upFrom_get]) k (by omega)
    rw [show m + j + 1 = m + ((j + 1 : Nat) : Int) from by omega]
    exact this

theorem markIntS_is (xs : List Int) (m : Int) (h0 : 0 ≤ m) (h1 : m ≤ 10000000000000) (hx : xs.length ≤ 1048576) (k : Nat) (hk : 1048580 ≤ k) : laws_markIntS.f k xs m = some (m + xs.length, upFrom m xs.length) := by
  have := markIntS_l0 xs m h0 h1 hx xs.length 0 xs (by omega) rfl (by simp) k (by omega)
  rw [show m + ((0 : Nat) : Int) = m from by omega] at this
  exact this

theorem heldIntS_l0 (n : Nat) (m : Int) (h0 : 0 ≤ m) (h1 : m ≤ 10000000000000) (hx : n ≤ 1048576) : ∀ (d j : Nat), j + d = n → ∀ k, d < k →
    laws_heldIntS.l0 k (upFrom m n) (m + j) j = some (m + n) := by
  have hu := upFrom_len m n
  intro d
  induction d with
  | zero =>
    intro j hj k hk
    obtain ⟨k, rfl⟩ : ∃ m, k = m + 1 := ⟨k - 1, by omega⟩
    simp only [laws_heldIntS.l0]
    rw [if_neg (by omega), show j = n from by omega]
  | succ d ih =>
    intro j hj k hk
    obtain ⟨k, rfl⟩ : ∃ m, k = m + 1 := ⟨k - 1, by omega⟩
    have hlu : j < (upFrom m n).length := by omega
    simp only [laws_heldIntS.l0]
    rw [if_pos (by omega), if_pos (by omega), rd_get hlu, upFrom_get, if_pos rfl, w64 (x := m + j + 1) (by omega) (by omega), w64 (x := (j : Int) + 1) (by omega) (by omega)]
    have := ih (j + 1) (by omega) k (by omega)
    rw [show m + j + 1 = m + ((j + 1 : Nat) : Int) from by omega]
    exact this

theorem heldIntS_is (n : Nat) (m : Int) (h0 : 0 ≤ m) (h1 : m ≤ 10000000000000) (hx : n ≤ 1048576) (k : Nat) (hk : 1048580 ≤ k) : laws_heldIntS.f k (upFrom m n) m = some (m + n) := by
  have := heldIntS_l0 n m h0 h1 hx n 0 (by omega) k (by omega)
  rw [show m + ((0 : Nat) : Int) = m from by omega] at this
  exact this

/-- The rows, marked from m on. -/
def markRows : Int → List (List Int) → List (List Int)
  | _, [] => []
  | m, r :: rs => upFrom m r.length :: markRows (m + r.length) rs
def markEnd : Int → List (List Int) → Int
  | m, [] => m
  | m, r :: rs => markEnd (m + r.length) rs

theorem markEnd_le : ∀ (rs : List (List Int)) (m : Int), (∀ r ∈ rs, r.length ≤ 1048576) → m ≤ markEnd m rs ∧ markEnd m rs ≤ m + 1048576 * rs.length
  | [], m, _ => by simp [markEnd]
  | r :: rs, m, h => by
    have h1 := h r (by simp)
    have h2 := markEnd_le rs (m + r.length) (fun x hx => h x (by simp [hx]))
    simp only [markEnd, List.length_cons]
    omega

theorem markIntSS_l0 (rows : List (List Int)) (hl : rows.length ≤ 1048576) (hr : ∀ r ∈ rows, r.length ≤ 1048576) : ∀ (d j : Nat) (pre : List (List Int)) (m : Int), j + d = rows.length → pre.length = j → 0 ≤ m → m ≤ 1 + 1048576 * j → ∀ k, d + 1048580 < k →
    laws_markIntSS.l0 k (pre ++ rows.drop j) m j = some (markEnd m (rows.drop j), pre ++ markRows m (rows.drop j)) := by
  intro d
  induction d with
  | zero =>
    intro j pre m hj hp h0 h1 k hk
    obtain ⟨k, rfl⟩ : ∃ m, k = m + 1 := ⟨k - 1, by omega⟩
    rw [List.drop_of_length_le (by omega), List.append_nil]
    simp only [laws_markIntSS.l0]
    rw [if_neg (by omega)]
    simp [markEnd, markRows]
  | succ d ih =>
    intro j pre m hj hp h0 h1 k hk
    obtain ⟨k, rfl⟩ : ∃ m, k = m + 1 := ⟨k - 1, by omega⟩
    have hlt : j < rows.length := by omega
    have hll : j < (pre ++ rows.drop j).length := by simp; omega
    have hrr := hr _ (List.getElem_mem hlt)
    have hg : (pre ++ rows.drop j)[j] = rows[j] := by
      rw [List.getElem_append_right (by omega)]
      simp [hp]
    have hs : (pre ++ rows.drop j).set j (upFrom m rows[j].length) = (pre ++ [upFrom m rows[j].length]) ++ rows.drop (j + 1) := by
      rw [List.set_append_right _ _ (by omega), hp, Nat.sub_self, List.drop_eq_getElem_cons hlt, List.set_cons_zero, List.append_assoc, List.singleton_append]
    simp only [laws_markIntSS.l0]
    rw [if_pos (by omega), if_pos (by omega), rd1_get hll, hg, markIntS_is rows[j] m h0 (by omega) hrr k (by omega)]
    simp only [Option.bind_some, Int.toNat_natCast]
    rw [hs, w64 (x := (j : Int) + 1) (by omega) (by omega)]
    have := ih (j + 1) (pre ++ [upFrom m rows[j].length]) (m + rows[j].length) (by omega) (by simp [hp]) (by omega) (by omega) k (by omega)
    rw [List.drop_eq_getElem_cons hlt, markEnd, markRows]
    simp only [List.append_assoc, List.singleton_append] at this ⊢
    exact this

theorem markIntSS_is (rows : List (List Int)) (hl : rows.length ≤ 1048576) (hr : ∀ r ∈ rows, r.length ≤ 1048576) (k : Nat) (hk : 3000000 ≤ k) :
    laws_markIntSS.f k rows 1 = some (markEnd 1 rows, markRows 1 rows) := by
  have := markIntSS_l0 rows hl hr rows.length 0 [] 1 (by omega) rfl (by omega) (by omega) k (by omega)
  rw [List.drop_zero, List.nil_append, List.nil_append] at this
  exact this

theorem markStates_is (o : Int) (rows : List (List Int)) (hl : rows.length ≤ 1048576) (hr : ∀ r ∈ rows, r.length ≤ 1048576) (k : Nat) (hk : 3000000 ≤ k) :
    laws_markStates.f k o rows 1 = some (markEnd 1 rows, markRows 1 rows) := markIntSS_is rows hl hr k hk
theorem markEnd_pos (rows : List (List Int)) (hr : ∀ r ∈ rows, r.length ≤ 1048576) : ¬ markEnd 1 rows < 0 := by
  have := (markEnd_le rows 1 hr).1
  omega

theorem markRows_len : ∀ (rs : List (List Int)) (m : Int), (markRows m rs).length = rs.length
  | [], _ => rfl
  | r :: rs, m => by rw [markRows, List.length_cons, markRows_len, List.length_cons]

theorem heldIntSS_l0 (all : List (List Int)) : ∀ (rs : List (List Int)) (j : Nat) (m : Int), all.drop j = markRows m rs → j + rs.length = all.length → all.length ≤ 1048576 → (∀ r ∈ rs, r.length ≤ 1048576) → 0 ≤ m → m ≤ 1 + 1048576 * j → ∀ k, rs.length + 1048590 < k →
    laws_heldIntSS.l0 k all m j = some (markEnd m rs)
  | [], j, m, ha, hj, hl, hr, h0, h1, k, hk => by
    obtain ⟨k, rfl⟩ : ∃ m, k = m + 1 := ⟨k - 1, by omega⟩
    simp only [List.length_nil] at hj
    simp only [laws_heldIntSS.l0]
    rw [if_neg (by omega)]
    rfl
  | r :: rs, j, m, ha, hj, hl, hr, h0, h1, k, hk => by
    obtain ⟨k, rfl⟩ : ∃ m, k = m + 1 := ⟨k - 1, by omega⟩
    simp only [List.length_cons] at hj hk
    have hlt : j < all.length := by omega
    have hrr := hr r (by simp)
    rw [List.drop_eq_getElem_cons hlt, markRows] at ha
    injection ha with ha1 ha2
    have h2 := heldIntS_is r.length m h0 (by omega) hrr k (by omega)
    simp only [laws_heldIntSS.l0]
    rw [if_pos (by omega), if_pos (by omega), rd1_get hlt, ha1, h2]
    simp only [Option.bind_some]
    rw [if_neg (by omega), w64 (x := (j : Int) + 1) (by omega) (by omega)]
    have := heldIntSS_l0 all rs (j + 1) (m + r.length) ha2 (by omega) hl (fun x hx => hr x (by simp [hx])) (by omega) (by omega) k (by omega)
    rw [markEnd]
    exact this

theorem heldIntSS_is (rows : List (List Int)) (hl : rows.length ≤ 1048576) (hr : ∀ r ∈ rows, r.length ≤ 1048576) (k : Nat) (hk : 3000000 ≤ k) :
    laws_heldIntSS.f k (markRows 1 rows) 1 = some (markEnd 1 rows) :=
  heldIntSS_l0 (markRows 1 rows) rows 0 1 rfl (by rw [markRows_len]; omega) (by rw [markRows_len]; exact hl) hr (by omega) (by omega) k (by omega)

theorem renameStates_same (o : Int) (rows : List (List Int)) (names : List Int) (h1 : rows.length ≤ 1048576) (h2 : ∀ r ∈ rows, r.length ≤ 1048576) (h3 : names.length ≤ 1048576) :
    ∃ (x : Int) (t : List (List Int)) (u : Bool), t.length ≤ 1048576 ∧ (∀ r ∈ t, r.length ≤ 1048576) ∧ ∃ K, ∀ k, K ≤ k → spec_RenameStates.f k o rows names = some (x, t, u) ∧ impl_RenameStates.f k o rows names = some (x, t, u) := by
  obtain ⟨t1, ht1, K1, E1⟩ := saGood_ev o rows h1 h2
  obtain ⟨t2, ht2, K2, E2⟩ := areWith_ev o rows names h1 h2 h3
  have hfalse : ∀ (K : Nat), (∀ k, K ≤ k → spec_RenameStates.f k o rows names = some (0, [], false) ∧ impl_RenameStates.f k o rows names = some (0, [], false)) → ∃ (x : Int) (t : List (List Int)) (u : Bool), t.length ≤ 1048576 ∧ (∀ r ∈ t, r.length ≤ 1048576) ∧ ∃ K, ∀ k, K ≤ k → spec_RenameStates.f k o rows names = some (x, t, u) ∧ impl_RenameStates.f k o rows names = some (x, t, u) :=
    fun K h => ⟨0, [], false, by simp, by simp, K, h⟩
  cases t1 with
  | false =>
    have e2 : t2 = false := by
      cases t2 with
      | false => rfl
      | true => exact absurd (ht1.2 (ht2.1 rfl).1) (by decide)
    subst e2
    refine hfalse (K1 + K2 + 1) (fun k hk => ?_)
    obtain ⟨k, rfl⟩ : ∃ r, k = r + 1 := ⟨k - 1, by omega⟩
    simp [spec_RenameStates.f, impl_RenameStates.f, E1 (k + 1) (by omega), E2 (k + 1) (by omega), spec_RenameStates.j0, impl_RenameStates.j0]
  | true =>
    obtain ⟨o1, o2, n1, n2, hg⟩ := ht1.1 rfl
    have hgood := ht1.1 rfl
    obtain ⟨t3, ht3, E3⟩ := l1All_l0 0 (wrap64 ((rows.length : Int) - 1)) names h3 names.length 0 (by omega)
    rw [List.drop_zero, w64 (by omega) (by omega)] at ht3
    have e23 : t2 = t3 := by
      rw [Bool.eq_iff_iff, ht2, ht3]
      constructor
      · intro h x hx
        have := h.2 x hx
        omega
      · intro h
        refine ⟨hgood, fun x hx => ?_⟩
        have := h x hx
        omega
    subst e23
    by_cases cl : names.length = rows.length
    · have cl' : (names.length : Int) = (rows.length : Int) := by rw [cl]
      have cln : ((names.length : Int) != (rows.length : Int)) = false := by rw [cl']; simp
      cases t2 with
      | false =>
        refine hfalse (K1 + K2 + names.length + 2) (fun k hk => ?_)
        obtain ⟨k, rfl⟩ : ∃ r, k = r + 1 := ⟨k - 1, by omega⟩
        have e3 : spec_l1All.f (k + 1) names 0 (wrap64 ((rows.length : Int) - 1)) = some false := E3 (k + 1) (by omega)
        simp only [spec_RenameStates.f, impl_RenameStates.f, E1 (k + 1) (by omega), E2 (k + 1) (by omega), e3, Option.bind_some, ↓reduceIte, Bool.not_false, if_pos cl', Bool.false_eq_true, spec_RenameStates.j0, impl_RenameStates.j0]
        exact ⟨trivial, trivial⟩
      | true =>
        have hr := (ht2.1 rfl).2
        have hsq : Sq rows.length rows := ⟨rfl, fun r hr => (hg r hr).1⟩
        have hrl : (names.length : Int) = (rows.length : Int) := cl'
        have hs0 := ren_s0 o rows names rows.length n2 cl rfl rows.length 0 (by omega)
        have hi0 := ren_i0 o rows names rows.length n2 cl rfl rows.length 0 (by omega)
        have hi1 := ren_i1 o rows names rows.length n2 cl rfl rows.length 0 (by omega)
        obtain ⟨out, hout, hev⟩ := ren_outer o rows names rows.length n2 cl hr hsq rows.length 0 _ (by omega) (Sq.zeros rows.length)
        have hspec : ∀ k, K1 + K2 + names.length + 100 ≤ k → spec_RenameStates.f (k + rows.length + 31) o rows names = spec_RenameStates.l0 (k + rows.length + 30) names (rows.length : Int) 0 o rows o [] := by
          intro k hk
          have e3 : spec_l1All.f (k + rows.length + 31) names 0 (wrap64 ((rows.length : Int) - 1)) = some true := E3 _ (by omega)
          simp only [spec_RenameStates.f, E1 (k + rows.length + 31) (by omega), e3, Option.bind_some, ↓reduceIte, Bool.not_true, if_pos cl', Bool.false_eq_true, spec_RenameStates.j0]
        have himpl : ∀ k, K1 + K2 + names.length + 100 ≤ k → impl_RenameStates.f (k + rows.length + 31) o rows names = impl_RenameStates.l0 (k + rows.length + 30) names (rows.length : Int) 0 o rows := by
          intro k hk
          simp only [impl_RenameStates.f, E2 (k + rows.length + 31) (by omega), Option.bind_some, ↓reduceIte, cln, Bool.false_eq_true, impl_RenameStates.j0]
          rw [hrl]
        by_cases ch : Have names 0 rows.length
        · refine ⟨o, out, true, by rw [hout.1]; exact h1, fun r hr => by rw [hout.2 r hr]; exact h1, K1 + K2 + names.length + rows.length + 1000, fun k hk => ?_⟩
          obtain ⟨k, rfl⟩ : ∃ r, k = r + rows.length + 31 := ⟨k - rows.length - 31, by omega⟩
          rw [hspec k (by omega), himpl k (by omega)]
          have a1 := hs0 k
          have a2 := hi0 k
          rw [if_pos ch] at a1 a2
          obtain ⟨j, hj⟩ : ∃ j, k + 29 = j + rows.length + 1 := ⟨k + 29 - rows.length - 1, by omega⟩
          have a3 := hi1 j
          rw [← hj] at a3
          exact ⟨a1.trans (hev (k + 29) (by omega)).1, a2.trans (a3.trans (hev j (by omega)).2)⟩
        · refine hfalse (K1 + K2 + names.length + rows.length + 1000) (fun k hk => ?_)
          obtain ⟨k, rfl⟩ : ∃ r, k = r + rows.length + 31 := ⟨k - rows.length - 31, by omega⟩
          rw [hspec k (by omega), himpl k (by omega)]
          have a1 := hs0 k
          have a2 := hi0 k
          rw [if_neg ch] at a1 a2
          exact ⟨a1, a2⟩
    · have cl' : ¬ (names.length : Int) = (rows.length : Int) := by omega
      have cln : ((names.length : Int) != (rows.length : Int)) = true := bne_iff_ne.2 cl'
      refine hfalse (K1 + K2 + 1) (fun k hk => ?_)
      obtain ⟨k, rfl⟩ : ∃ r, k = r + 1 := ⟨k - 1, by omega⟩
      have hs : spec_RenameStates.f (k + 1) o rows names = some (0, [], false) := by
        simp only [spec_RenameStates.f, E1 (k + 1) (by omega), Option.bind_some, ↓reduceIte, if_neg cl', spec_RenameStates.j0]
      refine ⟨hs, ?_⟩
      cases t2 <;> simp only [impl_RenameStates.f, E2 (k + 1) (by omega), Option.bind_some, ↓reduceIte, cln, Bool.false_eq_true, impl_RenameStates.j0]

theorem FnExactRenameStates (o : Int) (rows : List (List Int)) (names : List Int) (wo : (Lit.int .i64 o).wf = true) (wr : ∀ r ∈ rows, ∀ x ∈ r, (Lit.int .i64 x).wf = true) (hl : rows.length ≤ maxLen) (hr : ∀ r ∈ rows, r.length ≤ maxLen) (wn : ∀ x ∈ names, (Lit.int .i64 x).wf = true) (hn : names.length ≤ maxLen) : ∃ k, laws_FnExactRenameStates.f k o rows names = some true := by
  by_cases h3 : (names.length : Int) > 1048576
  · refine ⟨0, ?_⟩
    simp only [laws_FnExactRenameStates.f]
    rw [if_pos h3]
  have h3n : names.length ≤ 1048576 := by omega
  obtain ⟨r, ⟨K1, E1⟩, h⟩ := szStates_ev o rows (by unfold maxLen at hl; omega) (fun r h => by have := hr r h; unfold maxLen at this; omega)
  by_cases h0 : r < 0
  · refine ⟨K1, ?_⟩
    simp only [laws_FnExactRenameStates.f, E1 K1 (by omega), Option.bind_some]
    rw [if_neg h3, if_pos h0]
  · obtain ⟨h1, h2⟩ := h (by omega)
    obtain ⟨x, t, u, ht, ht2, K6, q⟩ := renameStates_same o rows names h1 h2 h3n
    obtain ⟨k, hk1, hk2, hk3⟩ : ∃ k, K1 ≤ k ∧ K6 ≤ k ∧ 5000000 ≤ k := ⟨K1 + K6 + 5000000, by omega, by omega, by omega⟩
    obtain ⟨q1, q2⟩ := q k hk2
    have hp := (markEnd_le rows 1 h2)
    have hb := markEnd_pos t ht2
    have hm := markIntS_is names (markEnd 1 rows) (by omega) (by omega) h3n k (by omega)
    have hmn : ¬ markEnd 1 rows + (names.length : Int) < 0 := by omega
    have e0 := E1 k (by omega)
    have e1 := toStates_is o rows h1 h2 k (by omega)
    have e2 := toIntS_is names h3n k (by omega)
    have e3 := eqStates_is x t ht ht2 k (by omega)
    have e4 := eqStates_is o rows h1 h2 k (by omega)
    have e5 := eqIntS_is names h3n k (by omega)
    have e6 := markStates_is o rows h1 h2 k (by omega)
    have e7 := markStates_is x t ht ht2 k (by omega)
    have e8 := heldIntSS_is t ht ht2 k (by omega)
    refine ⟨k, ?_⟩
    have e9 : laws_heldStates.f k x (markRows 1 t) 1 = some (markEnd 1 t) := by
      simp only [laws_heldStates.f, e8, Option.bind_some]
      rw [if_neg hb]
    simp only [laws_FnExactRenameStates.f, e0, Option.bind_some]
    rw [if_neg h3, if_neg h0]
    simp only [e1, e2, q1, q2, e3, Option.bind_some, if_true, bne_self_eq_false, Bool.false_eq_true, if_false]
    simp only [e4, e5, Option.bind_some, if_true]
    simp only [e6, hm, Option.bind_some]
    rw [if_neg hmn]
    simp only [e7, e9, Option.bind_some]
    rw [if_neg hb]
    simp only [if_true]
    rw [if_neg hb]

end Go.Proofs.Ytlpegpmcnimfbaa.Pure
