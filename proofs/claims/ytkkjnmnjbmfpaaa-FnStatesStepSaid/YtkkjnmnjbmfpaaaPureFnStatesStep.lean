/- For all arguments the program and the reference return the same from sStep: the plain statement over numbers and lists, and its proof. -/
import Derived.Test.YtkkjnmnjbmfpaaaPFnStatesStepx1
import Derived.Test.YtkkjnmnjbmfpaaaPFnStatesStepx2
import Derived.Test.YtkkjnmnjbmfpaaaPFnStatesStepx3
import Derived.Test.YtkkjnmnjbmfpaaaPFnStatesStepx4
import Derived.Test.YtkkjnmnjbmfpaaaPFnStatesStepx5
import Derived.Test.YtkkjnmnjbmfpaaaPFnStatesStepx6
import Derived.Test.YtkkjnmnjbmfpaaaPFnStatesStepx7
import Derived.Test.YtkkjnmnjbmfpaaaPFnStatesStepx8
import Derived.Test.YtkkjnmnjbmfpaaaPFnStatesStepx9
import Derived.Test.YtkkjnmnjbmfpaaaPFnStatesStepx10
import Derived.Test.YtkkjnmnjbmfpaaaPFnStatesStepx11
import Derived.Test.YtkkjnmnjbmfpaaaPFnStatesStepx12
import Derived.Test.YtkkjnmnjbmfpaaaPFnStatesStepx13
import Derived.Test.YtkkjnmnjbmfpaaaPFnStatesStepx14
import Derived.Test.YtkkjnmnjbmfpaaaPFnStatesStepx15
import Derived.Test.YtkkjnmnjbmfpaaaPFnStatesStepx16
import Derived.Test.YtkkjnmnjbmfpaaaPFnStatesStepx17
import Derived.Test.YtkkjnmnjbmfpaaaPFnStatesStepx18
import Derived.Test.YtkkjnmnjbmfpaaaPFnStatesStepx19
namespace Go.Proofs.Ytkkjnmnjbmfpaaa.Pure
open Go.RowKit Go.Proofs.Ytkkjnmnjbmfpaaa.PFnStatesStep Go.Proofs.YtkkjnmnjbmfpaaaW.PrintWords Go.Proofs.YtkkjnmnjbmfpaaaW.PrintLast Go.Proofs.YtkkjnmnjbmfpaaaW.PrintMore
set_option linter.unusedVariables false
set_option linter.unusedSimpArgs false
set_option maxRecDepth 100000
theorem iP_ {c : Prop} [Decidable c] {α : Sort _} {a b : α} (h : c := by omega) : (if c then a else b) = a := if_pos h
theorem iN_ {c : Prop} [Decidable c] {α : Sort _} {a b : α} (h : ¬ c := by omega) : (if c then a else b) = b := if_neg h
theorem w64 {x : Int} (h0 : -9223372036854775808 ≤ x) (h1 : x ≤ 9223372036854775807) : wrap64 x = x := by
 unfold wrap64
 omega
theorem rd_get {xs : List Int} {j : Nat} (h : j < xs.length) : rd xs (j : Int) = xs[j] := by
 unfold rd
 rw [Int.toNat_natCast, List.getD_eq_getElem?_getD, List.getElem?_eq_getElem h]
 rfl
theorem rd1_get {xs : List (List Int)} {j : Nat} (h : j < xs.length) : rd_L2 xs (j : Int) = xs[j] := by
 unfold rd_L2
 rw [Int.toNat_natCast, List.getD_eq_getElem?_getD, List.getElem?_eq_getElem h]
 rfl
def GoodRow (n : Nat) (o : Int) (row : List Int) : Prop := row.length = n ∧ (∀ x ∈ row, 0 ≤ x) ∧ row.sum = o
def Good (o : Int) (rows : List (List Int)) : Prop := 1 ≤ o ∧ o ≤ 10 ∧ 1 ≤ rows.length ∧ rows.length ≤ 5 ∧ ∀ row ∈ rows, GoodRow rows.length o row
theorem sum_nonneg : ∀ (l : List Int), (∀ x ∈ l, 0 ≤ x) → 0 ≤ l.sum
 | [], _ => by simp
 | x :: l, h => by
  have h1 := h x (by simp)
  have h2 := sum_nonneg l (fun y hy => h y (by simp [hy]))
  simp only [List.sum_cons]
  omega
theorem le_sum : ∀ (l : List Int), (∀ x ∈ l, 0 ≤ x) → ∀ x ∈ l, x ≤ l.sum
 | [], _, x, hx => by simp at hx
 | y :: l, h, x, hx => by
  have h1 := h y (by simp)
  have h2 := sum_nonneg l (fun z hz => h z (by simp [hz]))
  simp only [List.sum_cons]
  rcases List.mem_cons.1 hx with rfl | hx
  · omega
  · have := le_sum l (fun z hz => h z (by simp [hz])) x hx
    omega
theorem in_true {n a b : Int} (h : a ≤ n ∧ n ≤ b) : (if n ≥ a then some (decide (n ≤ b)) else some false) = some true := by
 rw [if_pos h.1, decide_eq_true h.2]
theorem in_false {n a b : Int} (h : ¬ (a ≤ n ∧ n ≤ b)) : (if n ≥ a then some (decide (n ≤ b)) else some false) = some false := by
 by_cases h1 : n ≥ a
 · rw [if_pos h1, decide_eq_false (by omega)]
 · rw [if_neg h1]
theorem l1All_l0 (a b : Int) (xs : List Int) (hx : xs.length ≤ 1048576) : ∀ (m j : Nat), j + m = xs.length →
 ∃ t : Bool, (t = true ↔ ∀ x ∈ xs.drop j, a ≤ x ∧ x ≤ b) ∧ ∀ k, m < k → spec_l1All.l0 k a b xs (xs.length : Int) j = some t := by
 intro m
 induction m with
 | zero =>
  intro j hj
  refine ⟨true, ?_, fun k hk => ?_⟩
  · rw [List.drop_of_length_le (by omega)]; simp
  · obtain ⟨k, rfl⟩ : ∃ m, k = m + 1 := ⟨k - 1, by omega⟩
    simp only [spec_l1All.l0]
    rw [iN_]
 | succ m ih =>
  intro j hj
  have hlt : j < xs.length := by omega
  by_cases h : a ≤ xs[j] ∧ xs[j] ≤ b
  · obtain ⟨t, ht, E⟩ := ih (j + 1) (by omega)
    refine ⟨t, ?_, fun k hk => ?_⟩
    · rw [List.drop_eq_getElem_cons hlt, ht]
      simp only [List.mem_cons, forall_eq_or_imp]
      exact ⟨fun h2 => ⟨h, h2⟩, fun h2 => h2.2⟩
    · obtain ⟨k, rfl⟩ : ∃ m, k = m + 1 := ⟨k - 1, by omega⟩
      simp only [spec_l1All.l0, spec_l1In.f]
      rw [iP_, iP_, iP_, rd_get hlt, in_true h]
      simp only [Option.bind_some, ↓reduceIte]
      rw [w64 (x := (j : Int) + 1) (by omega) (by omega)]
      exact E k (by omega)
  · refine ⟨false, ?_, fun k hk => ?_⟩
    · rw [List.drop_eq_getElem_cons hlt]
      simp only [Bool.false_eq_true, false_iff]
      exact fun h2 => h (h2 _ List.mem_cons_self)
    · obtain ⟨k, rfl⟩ : ∃ m, k = m + 1 := ⟨k - 1, by omega⟩
      simp only [spec_l1All.l0, spec_l1In.f]
      rw [iP_, iP_, iP_, rd_get hlt, in_false h]
      simp
theorem saGood_l1 (o : Int) (rows : List (List Int)) (jj : Int) (xs : List Int) (hx : xs.length ≤ 5) (ha : ∀ x ∈ xs, 0 ≤ x ∧ x ≤ 10) : ∀ (m j : Nat) (acc : Int), j + m = xs.length → 0 ≤ acc → acc ≤ 10 * j → ∀ k, m < k →
 spec_saGood.l1 k acc rows (rows.length : Int) jj xs (xs.length : Int) j o rows = if acc + (xs.drop j).sum = o then spec_saGood.l0 (k - m - 1) rows (rows.length : Int) (wrap64 (jj + 1)) o rows else some false := by
 intro m
 induction m with
 | zero =>
  intro j acc hj h0 h1 k hk
  obtain ⟨k, rfl⟩ : ∃ m, k = m + 1 := ⟨k - 1, by omega⟩
  simp only [spec_saGood.l1]
  rw [iN_, List.drop_of_length_le (by omega)]
  simp
 | succ m ih =>
  intro j acc hj h0 h1 k hk
  obtain ⟨k, rfl⟩ : ∃ m, k = m + 1 := ⟨k - 1, by omega⟩
  have hlt : j < xs.length := by omega
  have hxj := ha _ (List.getElem_mem hlt)
  simp only [spec_saGood.l1]
  rw [iP_, iP_, iP_, rd_get hlt, w64 (x := acc + xs[j]) (by omega) (by omega), w64 (x := (j : Int) + 1) (by omega) (by omega), show (j : Int) + 1 = ((j + 1 : Nat) : Int) from by omega]
  rw [ih (j + 1) (acc + xs[j]) (by omega) (by omega) (by omega) k (by omega), List.drop_eq_getElem_cons hlt, List.sum_cons, Int.add_assoc]
  rw [show k + 1 - (m + 1) - 1 = k - m - 1 from by omega]
theorem saGood_l0 (o : Int) (o1 : o ≤ 10) (rows : List (List Int)) (hn : rows.length ≤ 5) (hl : ∀ r ∈ rows, r.length ≤ 1048576) : ∀ (m j : Nat), j + m = rows.length →
 ∃ t : Bool, (t = true ↔ ∀ row ∈ rows.drop j, GoodRow rows.length o row) ∧ ∃ K, ∀ k, K ≤ k → spec_saGood.l0 k rows (rows.length : Int) j o rows = some t := by
 intro m
 induction m with
 | zero =>
  intro j hj
  refine ⟨true, ?_, 1, fun k hk => ?_⟩
  · rw [List.drop_of_length_le (by omega)]; simp
  · obtain ⟨k, rfl⟩ : ∃ m, k = m + 1 := ⟨k - 1, by omega⟩
    simp only [spec_saGood.l0]
    rw [iN_]
 | succ m ih =>
  intro j hj
  have hlt : j < rows.length := by omega
  have hll := hl _ (List.getElem_mem hlt)
  obtain ⟨t1, ht1, E1⟩ := l1All_l0 0 o rows[j] hll rows[j].length 0 (by omega)
  rw [List.drop_zero] at ht1
  have bad : ¬ GoodRow rows.length o rows[j] → (∃ K, ∀ k, K ≤ k → spec_saGood.l0 k rows (rows.length : Int) j o rows = some false) → ∃ t : Bool, (t = true ↔ ∀ row ∈ rows.drop j, GoodRow rows.length o row) ∧ ∃ K, ∀ k, K ≤ k → spec_saGood.l0 k rows (rows.length : Int) j o rows = some t := by
   intro hb hE
   refine ⟨false, ?_, hE⟩
   rw [List.drop_eq_getElem_cons hlt]
   simp only [Bool.false_eq_true, false_iff]
   exact fun h2 => hb (h2 _ List.mem_cons_self)
  by_cases c1 : rows[j].length = rows.length
  · cases t1 with
    | false =>
     refine bad (fun hg => ?_) ⟨1048580, fun k hk => ?_⟩
     · have := ht1.2 (fun x hx => ⟨hg.2.1 x hx, by have := le_sum _ hg.2.1 x hx; have := hg.2.2; omega⟩)
       simp at this
     · obtain ⟨k, rfl⟩ : ∃ m, k = m + 2 := ⟨k - 2, by omega⟩
       rw [spec_saGood.l0]
       rw [iP_, iP_, iP_, rd1_get hlt, iP_]
       unfold spec_l1All.f
       rw [show spec_l1All.l0 (k + 1) 0 o rows[j] (rows[j].length : Int) 0 = some false from E1 _ (by omega)]
       simp only [Option.bind_some]
       rw [spec_saGood.j2]
       simp
    | true =>
     have hall := ht1.1 rfl
     have hs := saGood_l1 o rows j rows[j] (by omega) (fun x hx => ⟨(hall x hx).1, by have := (hall x hx).2; omega⟩) rows[j].length 0 0 (by omega) (by omega) (by omega)
     rw [List.drop_zero, Int.zero_add] at hs
     by_cases c2 : rows[j].sum = o
     · obtain ⟨t, ht, K, E⟩ := ih (j + 1) (by omega)
       refine ⟨t, ?_, K + 1048590, fun k hk => ?_⟩
       · rw [List.drop_eq_getElem_cons hlt, ht]
         simp only [List.mem_cons, forall_eq_or_imp]
         exact ⟨fun h2 => ⟨⟨c1, fun x hx => (hall x hx).1, c2⟩, h2⟩, fun h2 => h2.2⟩
       · obtain ⟨k, rfl⟩ : ∃ m, k = m + 2 := ⟨k - 2, by omega⟩
         rw [spec_saGood.l0]
         rw [iP_, iP_, iP_, rd1_get hlt, iP_]
         unfold spec_l1All.f
         rw [show spec_l1All.l0 (k + 1) 0 o rows[j] (rows[j].length : Int) 0 = some true from E1 _ (by omega)]
         simp only [Option.bind_some, Bool.not_true]
         rw [spec_saGood.j2]
         simp only [Bool.false_eq_true, ↓reduceIte]
         have h3 := hs k (by omega)
         rw [if_pos c2, w64 (x := (j : Int) + 1) (by omega) (by omega)] at h3
         exact h3.trans (E _ (by omega))
     · refine bad (fun hg => c2 hg.2.2) ⟨1048590, fun k hk => ?_⟩
       obtain ⟨k, rfl⟩ : ∃ m, k = m + 2 := ⟨k - 2, by omega⟩
       rw [spec_saGood.l0]
       rw [iP_, iP_, iP_, rd1_get hlt, iP_]
       unfold spec_l1All.f
       rw [show spec_l1All.l0 (k + 1) 0 o rows[j] (rows[j].length : Int) 0 = some true from E1 _ (by omega)]
       simp only [Option.bind_some, Bool.not_true]
       rw [spec_saGood.j2]
       simp only [Bool.false_eq_true, ↓reduceIte]
       have h3 := hs k (by omega)
       rw [if_neg c2] at h3
       exact h3
  · refine bad (fun hg => c1 hg.1) ⟨10, fun k hk => ?_⟩
    obtain ⟨k, rfl⟩ : ∃ m, k = m + 2 := ⟨k - 2, by omega⟩
    rw [spec_saGood.l0]
    rw [iP_, iP_, iP_, rd1_get hlt, iN_, spec_saGood.j2]
    simp
theorem saGood_ev (o : Int) (rows : List (List Int)) (hn : rows.length ≤ 1048576) (hl : ∀ r ∈ rows, r.length ≤ 1048576) :
 ∃ t : Bool, (t = true ↔ Good o rows) ∧ ∃ K, ∀ k, K ≤ k → spec_saGood.f k o rows = some t := by
 by_cases c1 : 1 ≤ o ∧ o ≤ 10
 · by_cases c2 : 1 ≤ (rows.length : Int) ∧ (rows.length : Int) ≤ 5
   · obtain ⟨t, ht, K, E⟩ := saGood_l0 o c1.2 rows (by omega) hl rows.length 0 (by omega)
     rw [List.drop_zero] at ht
     refine ⟨t, ht.trans ⟨fun h => ⟨c1.1, c1.2, by omega, by omega, h⟩, fun h => h.2.2.2.2⟩, K + 1, fun k hk => ?_⟩
     obtain ⟨k, rfl⟩ : ∃ m, k = m + 1 := ⟨k - 1, by omega⟩
     simp only [spec_saGood.f, spec_saGood.j0, spec_l1In.f, in_true c1, in_true c2, Option.bind_some, ↓reduceIte, Bool.not_true, Bool.false_eq_true]
     exact E k (by omega)
   · refine ⟨false, ⟨fun h => by simp at h, fun h => absurd ⟨by have := h.2.2.1; omega, by have := h.2.2.2.1; omega⟩ c2⟩, 1, fun k hk => ?_⟩
     obtain ⟨k, rfl⟩ : ∃ m, k = m + 1 := ⟨k - 1, by omega⟩
     simp only [spec_saGood.f, spec_saGood.j0, spec_l1In.f, in_true c1, in_false c2, Option.bind_some, ↓reduceIte, Bool.not_false]
 · refine ⟨false, ⟨fun h => by simp at h, fun h => absurd ⟨h.1, h.2.1⟩ c1⟩, 1, fun k hk => ?_⟩
   obtain ⟨k, rfl⟩ : ∃ m, k = m + 1 := ⟨k - 1, by omega⟩
   simp only [spec_saGood.f, spec_saGood.j0, spec_l1In.f, in_false c1, Option.bind_some, ↓reduceIte, Bool.false_eq_true]
theorem saAsked_ev (o : Int) (rows : List (List Int)) (a b : Int) (h1 : rows.length ≤ 1048576) (h2 : ∀ r ∈ rows, r.length ≤ 1048576) :
 ∃ t : Bool, (t = true ↔ Good o rows ∧ (0 ≤ a ∧ a < rows.length) ∧ 0 ≤ b ∧ b < rows.length) ∧ ∃ K, ∀ k, K ≤ k → spec_saAsked.f k o rows a b = some t := by
 obtain ⟨t, ht, K, E⟩ := saGood_ev o rows h1 h2
 have e1 : wrap64 ((rows.length : Int) - 1) = (rows.length : Int) - 1 := w64 (by omega) (by omega)
 cases t with
 | false =>
  refine ⟨false, ⟨fun h => by simp at h, fun h => by have := ht.2 h.1; simp at this⟩, K, fun k hk => ?_⟩
  simp [spec_saAsked.f, E k hk]
 | true =>
  have hg := ht.1 rfl
  by_cases c1 : 0 ≤ a ∧ a ≤ (rows.length : Int) - 1
  · by_cases c2 : 0 ≤ b ∧ b ≤ (rows.length : Int) - 1
    · refine ⟨true, ⟨fun _ => ⟨hg, ⟨c1.1, by omega⟩, c2.1, by omega⟩, fun _ => rfl⟩, K, fun k hk => ?_⟩
      simp only [spec_saAsked.f, spec_l1In.f, E k hk, Option.bind_some, ↓reduceIte, e1, in_true c1, in_true c2]
    · refine ⟨false, ⟨fun h => by simp at h, fun h => absurd ⟨h.2.2.1, by omega⟩ c2⟩, K, fun k hk => ?_⟩
      simp only [spec_saAsked.f, spec_l1In.f, E k hk, Option.bind_some, ↓reduceIte, e1, in_true c1, in_false c2]
  · refine ⟨false, ⟨fun h => by simp at h, fun h => absurd ⟨h.2.1.1, by omega⟩ c1⟩, K, fun k hk => ?_⟩
    simp only [spec_saAsked.f, spec_l1In.f, E k hk, Option.bind_some, ↓reduceIte, e1, in_false c1, Bool.false_eq_true]
theorem areStates_l1 (o : Int) (rows : List (List Int)) (jj : Int) (xs : List Int) (hx : xs.length ≤ 1048576) : ∀ (m j : Nat) (left : Int), j + m = xs.length → 0 ≤ left → left ≤ 10 →
 ∃ t : Bool, (t = true ↔ xs.length = rows.length ∧ (∀ x ∈ xs.drop j, 0 ≤ x) ∧ (xs.drop j).sum = left) ∧ ∀ k, m < k →
 impl_AreStates.l1 k (rows.length : Int) xs left rows (rows.length : Int) jj xs (xs.length : Int) j o rows = if t = true then impl_AreStates.l0 (k - m - 1) (rows.length : Int) rows (rows.length : Int) (wrap64 (jj + 1)) o rows else some false := by
 intro m
 induction m with
 | zero =>
  intro j left hj h0 h1
  refine ⟨decide (xs.length = rows.length ∧ left = 0), ?_, fun k hk => ?_⟩
  · rw [List.drop_of_length_le (by omega), decide_eq_true_eq]
    simp
    omega
  · obtain ⟨k, rfl⟩ : ∃ m, k = m + 1 := ⟨k - 1, by omega⟩
    simp only [impl_AreStates.l1]
    rw [iN_]
    by_cases c1 : xs.length = rows.length
    · rw [iP_]
      by_cases c2 : left = 0
      · rw [if_pos c2, decide_eq_true ⟨c1, c2⟩]; rfl
      · rw [if_neg c2, decide_eq_false (fun h => c2 h.2)]; rfl
    · rw [iN_, decide_eq_false (fun h => c1 h.1)]; rfl
 | succ m ih =>
  intro j left hj h0 h1
  have hlt : j < xs.length := by omega
  by_cases h : 0 ≤ xs[j] ∧ xs[j] ≤ left
  · obtain ⟨t, ht, E⟩ := ih (j + 1) (left - xs[j]) (by omega) (by omega) (by omega)
    refine ⟨t, ?_, fun k hk => ?_⟩
    · rw [List.drop_eq_getElem_cons hlt, ht, List.sum_cons]
      simp only [List.mem_cons, forall_eq_or_imp]
      exact ⟨fun h2 => ⟨h2.1, ⟨h.1, h2.2.1⟩, by omega⟩, fun h2 => ⟨h2.1, h2.2.1.2, by omega⟩⟩
    · obtain ⟨k, rfl⟩ : ∃ m, k = m + 1 := ⟨k - 1, by omega⟩
      simp only [impl_AreStates.l1, impl_within.f]
      rw [iP_, iP_, iP_, rd_get hlt, in_true h]
      simp only [Option.bind_some, ↓reduceIte]
      rw [w64 (x := (j : Int) + 1) (by omega) (by omega), w64 (x := left - xs[j]) (by omega) (by omega), show (j : Int) + 1 = ((j + 1 : Nat) : Int) from by omega, E k (by omega),
       show k + 1 - (m + 1) - 1 = k - m - 1 from by omega]
  · refine ⟨false, ?_, fun k hk => ?_⟩
    · rw [List.drop_eq_getElem_cons hlt, List.sum_cons]
      simp only [Bool.false_eq_true, false_iff]
      intro h2
      have h3 := h2.2.1 _ List.mem_cons_self
      have h4 := sum_nonneg (xs.drop (j + 1)) (fun x hx => h2.2.1 _ (List.mem_cons_of_mem _ hx))
      omega
    · obtain ⟨k, rfl⟩ : ∃ m, k = m + 1 := ⟨k - 1, by omega⟩
      simp only [impl_AreStates.l1, impl_within.f]
      rw [iP_, iP_, iP_, rd_get hlt, in_false h]
      simp
theorem areStates_l0 (o : Int) (o0 : 1 ≤ o) (o1 : o ≤ 10) (rows : List (List Int)) (hn : rows.length ≤ 5) (hl : ∀ r ∈ rows, r.length ≤ 1048576) : ∀ (m j : Nat), j + m = rows.length →
 ∃ t : Bool, (t = true ↔ ∀ row ∈ rows.drop j, GoodRow rows.length o row) ∧ ∃ K, ∀ k, K ≤ k → impl_AreStates.l0 k (rows.length : Int) rows (rows.length : Int) j o rows = some t := by
 intro m
 induction m with
 | zero =>
  intro j hj
  refine ⟨true, ?_, 1, fun k hk => ?_⟩
  · rw [List.drop_of_length_le (by omega)]; simp
  · obtain ⟨k, rfl⟩ : ∃ m, k = m + 1 := ⟨k - 1, by omega⟩
    simp only [impl_AreStates.l0]
    rw [iN_]
 | succ m ih =>
  intro j hj
  have hlt : j < rows.length := by omega
  have hll := hl _ (List.getElem_mem hlt)
  obtain ⟨t1, ht1, E1⟩ := areStates_l1 o rows j rows[j] hll rows[j].length 0 o (by omega) (by omega) o1
  rw [List.drop_zero] at ht1
  cases t1 with
  | false =>
   refine ⟨false, ?_, 1048590, fun k hk => ?_⟩
   · rw [List.drop_eq_getElem_cons hlt]
     simp only [Bool.false_eq_true, false_iff]
     exact fun h2 => by
      have := ht1.2 (h2 _ List.mem_cons_self)
      simp at this
   · obtain ⟨k, rfl⟩ : ∃ m, k = m + 1 := ⟨k - 1, by omega⟩
     rw [impl_AreStates.l0]
     rw [iP_, iP_, iP_, rd1_get hlt]
     have := E1 k (by omega)
     simp only [Bool.false_eq_true, ↓reduceIte] at this
     exact this
  | true =>
   obtain ⟨t, ht, K, E⟩ := ih (j + 1) (by omega)
   refine ⟨t, ?_, K + 1048590, fun k hk => ?_⟩
   · rw [List.drop_eq_getElem_cons hlt, ht]
     simp only [List.mem_cons, forall_eq_or_imp]
     exact ⟨fun h2 => ⟨ht1.1 rfl, h2⟩, fun h2 => h2.2⟩
   · obtain ⟨k, rfl⟩ : ∃ m, k = m + 1 := ⟨k - 1, by omega⟩
     rw [impl_AreStates.l0]
     rw [iP_, iP_, iP_, rd1_get hlt]
     have := E1 k (by omega)
     simp only [↓reduceIte] at this
     rw [w64 (x := (j : Int) + 1) (by omega) (by omega)] at this
     exact this.trans (E _ (by omega))
theorem areStates_ev (o : Int) (rows : List (List Int)) (hn : rows.length ≤ 1048576) (hl : ∀ r ∈ rows, r.length ≤ 1048576) :
 ∃ t : Bool, (t = true ↔ Good o rows) ∧ ∃ K, ∀ k, K ≤ k → impl_AreStates.f k o rows = some t := by
 by_cases c1 : 1 ≤ o ∧ o ≤ 10
 · by_cases c2 : 1 ≤ (rows.length : Int) ∧ (rows.length : Int) ≤ 5
   · obtain ⟨t, ht, K, E⟩ := areStates_l0 o c1.1 c1.2 rows (by omega) hl rows.length 0 (by omega)
     rw [List.drop_zero] at ht
     refine ⟨t, ht.trans ⟨fun h => ⟨c1.1, c1.2, by omega, by omega, h⟩, fun h => h.2.2.2.2⟩, K + 1, fun k hk => ?_⟩
     obtain ⟨k, rfl⟩ : ∃ m, k = m + 1 := ⟨k - 1, by omega⟩
     simp only [impl_AreStates.f, impl_AreStates.j0, impl_within.f, in_true c1, in_true c2, Option.bind_some, ↓reduceIte, Bool.not_true, Bool.false_eq_true]
     exact E k (by omega)
   · refine ⟨false, ⟨fun h => by simp at h, fun h => absurd ⟨by have := h.2.2.1; omega, by have := h.2.2.2.1; omega⟩ c2⟩, 1, fun k hk => ?_⟩
     obtain ⟨k, rfl⟩ : ∃ m, k = m + 1 := ⟨k - 1, by omega⟩
     simp only [impl_AreStates.f, impl_AreStates.j0, impl_within.f, in_true c1, in_false c2, Option.bind_some, ↓reduceIte, Bool.not_false]
 · refine ⟨false, ⟨fun h => by simp at h, fun h => absurd ⟨h.1, h.2.1⟩ c1⟩, 1, fun k hk => ?_⟩
   obtain ⟨k, rfl⟩ : ∃ m, k = m + 1 := ⟨k - 1, by omega⟩
   simp only [impl_AreStates.f, impl_AreStates.j0, impl_within.f, in_false c1, Option.bind_some, ↓reduceIte, Bool.false_eq_true]
theorem areWith_bad {n : Nat} (hn : n ≤ 1048576) (i : Int) : impl_areWith.bad n i = false ↔ 0 ≤ i ∧ i < n := by
 unfold impl_areWith.bad
 rw [w64 (by omega) (by omega)]
 by_cases h : i ≥ 0
 · rw [if_pos h]
   simp
   omega
 · rw [if_neg h]
   simp
   omega
theorem areWith_ev (o : Int) (rows : List (List Int)) (l : List Int) (h1 : rows.length ≤ 1048576) (h2 : ∀ r ∈ rows, r.length ≤ 1048576) (hl : l.length ≤ 1048576) :
 ∃ t : Bool, (t = true ↔ Good o rows ∧ ∀ a ∈ l, 0 ≤ a ∧ a < rows.length) ∧ ∃ K, ∀ k, K ≤ k → impl_areWith.f k o rows l = some t := by
 obtain ⟨t, ht, K, E⟩ := areStates_ev o rows h1 h2
 cases t with
 | false =>
  refine ⟨false, ⟨fun h => by simp at h, fun h => by have := ht.2 h.1; simp at this⟩, K, fun k hk => ?_⟩
  simp [impl_areWith.f, E k hk]
 | true =>
  have hg := ht.1 rfl
  refine ⟨!(l.any (impl_areWith.bad rows.length)), ?_, K, fun k hk => ?_⟩
  · simp only [Bool.not_eq_true', List.any_eq_false, Bool.not_eq_true]
    constructor
    · exact fun h => ⟨hg, fun a ha => (areWith_bad h1 a).1 (h a ha)⟩
    · exact fun h a ha => (areWith_bad h1 a).2 (h.2 a ha)
  · simp only [impl_areWith.f, E k hk, Option.bind_some, ↓reduceIte]
    rw [iP_]
theorem asked2_ev (o : Int) (rows : List (List Int)) (a b : Int) (h1 : rows.length ≤ 1048576) (h2 : ∀ r ∈ rows, r.length ≤ 1048576) :
 ∃ t : Bool, (t = true ↔ Good o rows ∧ (0 ≤ a ∧ a < rows.length) ∧ 0 ≤ b ∧ b < rows.length) ∧ ∃ K, ∀ k, K ≤ k → impl_areWith.f k o rows [a, b] = some t := by
 obtain ⟨t, ht, K, E⟩ := areWith_ev o rows [a, b] h1 h2 (by simp)
 refine ⟨t, ht.trans ?_, K, E⟩
 simp
theorem asked1_ev (o : Int) (rows : List (List Int)) (a : Int) (h1 : rows.length ≤ 1048576) (h2 : ∀ r ∈ rows, r.length ≤ 1048576) :
 ∃ t : Bool, (t = true ↔ Good o rows ∧ (0 ≤ a ∧ a < rows.length) ∧ 0 ≤ a ∧ a < rows.length) ∧ ∃ K, ∀ k, K ≤ k → impl_areWith.f k o rows [a] = some t := by
 obtain ⟨t, ht, K, E⟩ := areWith_ev o rows [a] h1 h2 (by simp)
 refine ⟨t, ht.trans ?_, K, E⟩
 simp
def addw (out : List Int) (n : Int) (row : List Int) : List Int := List.zipWith (fun x m => wrap64 (x + wrap64 (n * m))) out row
def runs : List Int → List (List Int) → List Int → List Int
 | out, r :: rs, n :: ns => runs (addw out n r) rs ns
 | out, _, _ => out
def stepw (rows : List (List Int)) (v : List Int) : List Int := runs (List.replicate v.length 0) rows v
def stepsw (rows : List (List Int)) : Nat → List Int → List Int
 | 0, v => v
 | m + 1, v => stepsw rows m (stepw rows v)
theorem addw_len {out row : List Int} {n : Int} (h : out.length = row.length) : (addw out n row).length = out.length := by
 unfold addw
 rw [List.length_zipWith, h, Nat.min_self]
theorem addw_get {out row : List Int} {n : Int} {j : Nat} (h1 : j < out.length) (h2 : j < row.length) (h3 : j < (addw out n row).length) : (addw out n row)[j] = wrap64 (out[j] + wrap64 (n * row[j])) := by
 simp [addw]
theorem half_get {tgt out : List Int} {j : Nat} (h : tgt.length = out.length) (hj : j < out.length) : rd (tgt.take j ++ out.drop j) (j : Int) = out[j] := by
 have hl : j < (tgt.take j ++ out.drop j).length := by simp; omega
 rw [rd_get hl, List.getElem_append_right (by simp; omega)]
 simp [List.length_take]
 congr 1
 omega
theorem half_set {tgt out : List Int} {j : Nat} (h : tgt.length = out.length) (hj : j < out.length) : (tgt.take j ++ out.drop j).set j (tgt[j]'(by omega)) = tgt.take (j + 1) ++ out.drop (j + 1) := by
 apply List.ext_getElem
 · simp; omega
 · intro i h1 h2
   rw [List.getElem_set]
   by_cases e : j = i
   · subst e
     rw [if_pos rfl, List.getElem_append_left (by simp; omega), List.getElem_take]
   · rw [if_neg e]
     by_cases c : i < j
     · rw [List.getElem_append_left (by simp; omega), List.getElem_append_left (by simp; omega), List.getElem_take, List.getElem_take]
     · rw [List.getElem_append_right (by simp; omega), List.getElem_append_right (by simp; omega), List.getElem_drop, List.getElem_drop]
       congr 1
       simp
       omega
theorem runs_len : ∀ (rs : List (List Int)) (ns out : List Int), (∀ r ∈ rs, r.length = out.length) → (runs out rs ns).length = out.length
 | [], _, _, _ => by simp [runs]
 | _ :: _, [], _, _ => by simp [runs]
 | r :: rs, n :: ns, out, h => by
  have h1 := addw_len (n := n) (h r (by simp)).symm
  rw [runs, runs_len rs ns _ (fun x hx => by rw [h1]; exact h x (by simp [hx])), h1]
theorem stepw_len {rows : List (List Int)} {v : List Int} (h : ∀ r ∈ rows, r.length = v.length) : (stepw rows v).length = v.length := by
 unfold stepw
 rw [runs_len _ _ _ (by simpa using h), List.length_replicate]
theorem stepsw_len {rows : List (List Int)} : ∀ (m : Nat) {v : List Int}, (∀ r ∈ rows, r.length = v.length) → (stepsw rows m v).length = v.length
 | 0, _, _ => rfl
 | m + 1, v, h => by
  rw [stepsw, stepsw_len m (by rw [stepw_len h]; exact h), stepw_len h]
theorem stepsw_succ {rows : List (List Int)} : ∀ (m : Nat) (v : List Int), stepsw rows (m + 1) v = stepw rows (stepsw rows m v)
 | 0, v => rfl
 | m + 1, v => by
  rw [stepsw, stepsw_succ m, ← stepsw]
theorem runs_drop {out v : List Int} {rows : List (List Int)} {i : Nat} (h1 : i < rows.length) (h2 : i < v.length) : runs out (rows.drop i) (v.drop i) = runs (addw out v[i] rows[i]) (rows.drop (i + 1)) (v.drop (i + 1)) := by
 rw [List.drop_eq_getElem_cons h1, List.drop_eq_getElem_cons h2, runs]
theorem runs_end {out v : List Int} {rows : List (List Int)} {i : Nat} (h1 : rows.length ≤ i) : runs out (rows.drop i) (v.drop i) = out := by
 rw [List.drop_of_length_le h1]
 simp [runs]
theorem step_l1 (o : Int) (rows : List (List Int)) (v : List Int) (hv : v.length ≤ 5) (n : Int) (row out : List Int) (hr : row.length = out.length) (ho : out.length ≤ 5) (i : Int) :
 ∀ (m j : Nat), j + m = out.length → ∀ k, m < k → impl_States_step.l1 k ((addw out n row).take j ++ out.drop j) n v (v.length : Int) i row (row.length : Int) j o rows = impl_States_step.l0 (k - m - 1) (addw out n row) v (v.length : Int) (wrap64 (i + 1)) o rows := by
 have hlen := addw_len (n := n) hr.symm
 intro m
 induction m with
 | zero =>
  intro j hj k hk
  obtain ⟨k, rfl⟩ : ∃ m, k = m + 1 := ⟨k - 1, by omega⟩
  simp only [impl_States_step.l1]
  rw [iN_, List.drop_of_length_le (by omega), List.append_nil, List.take_of_length_le (by omega)]
  rfl
 | succ m ih =>
  intro j hj k hk
  obtain ⟨k, rfl⟩ : ∃ m, k = m + 1 := ⟨k - 1, by omega⟩
  have hlt : j < out.length := by omega
  have hlr : j < row.length := by omega
  have hll : ((addw out n row).take j ++ out.drop j).length = out.length := by simp; omega
  have e := half_set hlen hlt
  rw [addw_get hlt hlr] at e
  simp only [impl_States_step.l1]
  rw [iP_, iP_, iP_, if_pos (by rw [hll]; omega), half_get hlen hlt, rd_get hlr, Int.toNat_natCast, e, w64 (x := (j : Int) + 1) (by omega) (by omega)]
  have := ih (j + 1) (by omega) k (by omega)
  rw [show k + 1 - (m + 1) - 1 = k - m - 1 from by omega]
  exact this
theorem step_l0 (o : Int) (rows : List (List Int)) (v : List Int) (hv : v.length ≤ 5) (hn : rows.length = v.length) (hsq : ∀ r ∈ rows, r.length = v.length) :
 ∀ (m i : Nat) (out : List Int), i + m = v.length → out.length = v.length → ∀ k, 10 * m < k → impl_States_step.l0 k out v (v.length : Int) i o rows = some (runs out (rows.drop i) (v.drop i)) := by
 intro m
 induction m with
 | zero =>
  intro i out hi ho k hk
  obtain ⟨k, rfl⟩ : ∃ m, k = m + 1 := ⟨k - 1, by omega⟩
  simp only [impl_States_step.l0]
  rw [iN_, runs_end (by omega)]
 | succ m ih =>
  intro i out hi ho k hk
  obtain ⟨k, rfl⟩ : ∃ m, k = m + 1 := ⟨k - 1, by omega⟩
  have hlt : i < v.length := by omega
  have hlr : i < rows.length := by omega
  have hr := hsq _ (List.getElem_mem hlr)
  have h1 := step_l1 o rows v hv v[i] rows[i] out (by omega) (by omega) i out.length 0 (by omega) k (by omega)
  rw [List.take_zero, List.nil_append, List.drop_zero, w64 (x := (i : Int) + 1) (by omega) (by omega)] at h1
  simp only [impl_States_step.l0]
  rw [iP_, iP_, iP_, iP_, rd_get hlt, rd1_get hlr, runs_drop hlr hlt]
  exact h1.trans (ih (i + 1) _ (by omega) (by rw [addw_len (by omega)]; exact ho) _ (by omega))
theorem step_ev (o : Int) (rows : List (List Int)) (v : List Int) (hv : v.length ≤ 5) (hn : rows.length = v.length) (hsq : ∀ r ∈ rows, r.length = v.length) (k : Nat) (hk : 60 ≤ k) :
 impl_States_step.f k o rows v = some (stepw rows v) := by
 unfold impl_States_step.f stepw
 rw [iP_, iP_, Int.toNat_natCast]
 have := step_l0 o rows v hv hn hsq v.length 0 (List.replicate v.length 0) (by omega) (by simp) k (by omega)
 exact this
def unit (n s : Nat) : List Int := (List.replicate n 0).set s 1
theorem unit_len (n s : Nat) : (unit n s).length = n := by simp [unit]
theorem only_ev (o : Int) (rows : List (List Int)) (s : Nat) (hs : s < rows.length) (hn : rows.length ≤ 5) : impl_States_only.f o rows s = some (unit rows.length s) := by
 unfold impl_States_only.f
 rw [iP_, iP_, Int.toNat_natCast]
 simp only [Option.bind_some, List.length_replicate]
 rw [iP_, iP_]
 rfl
def sgn (x : Int) : Int := if x > 0 then 1 else if x < 0 then -1 else 0
def waysOf (b : Bool) (row : List Int) : List Int := if b then row.map sgn else row
theorem waysOf_len (b : Bool) (row : List Int) : (waysOf b row).length = row.length := by
 unfold waysOf; split <;> simp
theorem saAfter_l2 (o : Int) (rows : List (List Int)) (b : Bool) (st : Int) (v : List Int) (hv : v.length ≤ 5) (n : Int) (row out : List Int) (hr : row.length = out.length) (ho : out.length ≤ 5) (i : Int) :
 ∀ (m j : Nat), j + m = out.length → ∀ k, m < k → spec_saAfter.l2 k st b ((addw out n (waysOf b row)).take j ++ out.drop j) n v (v.length : Int) i row (row.length : Int) j o rows = spec_saAfter.l1 (k - m - 1) st b (addw out n (waysOf b row)) v (v.length : Int) (wrap64 (i + 1)) o rows := by
 have hlen := addw_len (n := n) (row := waysOf b row) (out := out) (by rw [waysOf_len]; omega)
 intro m
 induction m with
 | zero =>
  intro j hj k hk
  obtain ⟨k, rfl⟩ : ∃ m, k = m + 1 := ⟨k - 1, by omega⟩
  simp only [spec_saAfter.l2]
  rw [iN_, List.drop_of_length_le (by omega), List.append_nil, List.take_of_length_le (by omega)]
  rfl
 | succ m ih =>
  intro j hj k hk
  obtain ⟨k, rfl⟩ : ∃ m, k = m + 1 := ⟨k - 1, by omega⟩
  have hlt : j < out.length := by omega
  have hlr : j < row.length := by omega
  have hlw : j < (waysOf b row).length := by rw [waysOf_len]; omega
  have hll : ((addw out n (waysOf b row)).take j ++ out.drop j).length = out.length := by simp; omega
  have e := half_set hlen hlt
  rw [addw_get hlt hlw] at e
  have h1 := ih (j + 1) (by omega) k (by omega)
  simp only [spec_saAfter.l2]
  rw [iP_, iP_, iP_, half_get hlen hlt, rd_get hlr, Int.toNat_natCast, w64 (x := (j : Int) + 1) (by omega) (by omega), show k + 1 - (m + 1) - 1 = k - m - 1 from by omega]
  cases b with
  | true =>
   have hs : spec_l1Sign.f row[j] = some ((waysOf true row)[j]) := by
    simp only [waysOf, ↓reduceIte, List.getElem_map, sgn, spec_l1Sign.f]
    split
    · rfl
    · split <;> rfl
   simp only [↓reduceIte, hs, Option.bind_some]
   rw [if_pos (by rw [hll]; omega), e]
   exact h1
  | false =>
   have e := e
   simp only [show waysOf false row = row from rfl] at e h1 hll ⊢
   simp only [Bool.false_eq_true, ↓reduceIte]
   rw [if_pos (by rw [hll]; omega), e]
   exact h1
theorem saAfter_l1 (o : Int) (rows : List (List Int)) (b : Bool) (st : Int) (v : List Int) (hv : v.length ≤ 5) (hn : rows.length = v.length) (hsq : ∀ r ∈ rows, r.length = v.length) :
 ∀ (m i : Nat) (out : List Int), i + m = v.length → out.length = v.length → ∀ k, 10 * m < k → ∃ k', k ≤ k' + 10 * m + 1 ∧ spec_saAfter.l1 k st b out v (v.length : Int) i o rows = spec_saAfter.l0 k' (wrap64 (st - 1)) b (runs out ((rows.map (waysOf b)).drop i) (v.drop i)) o rows := by
 intro m
 induction m with
 | zero =>
  intro i out hi ho k hk
  obtain ⟨k, rfl⟩ : ∃ m, k = m + 1 := ⟨k - 1, by omega⟩
  refine ⟨k, by omega, ?_⟩
  simp only [spec_saAfter.l1]
  rw [iN_, runs_end (by simp; omega)]
 | succ m ih =>
  intro i out hi ho k hk
  obtain ⟨k, rfl⟩ : ∃ m, k = m + 1 := ⟨k - 1, by omega⟩
  have hlt : i < v.length := by omega
  have hlr : i < rows.length := by omega
  have hr := hsq _ (List.getElem_mem hlr)
  have h1 := saAfter_l2 o rows b st v hv v[i] rows[i] out (by omega) (by omega) i out.length 0 (by omega) k (by omega)
  rw [List.take_zero, List.nil_append, List.drop_zero, w64 (x := (i : Int) + 1) (by omega) (by omega)] at h1
  obtain ⟨k', hk', h2⟩ := ih (i + 1) (addw out v[i] (waysOf b rows[i])) (by omega) (by rw [addw_len (by rw [waysOf_len]; omega)]; exact ho) (k - out.length - 1) (by omega)
  refine ⟨k', by omega, ?_⟩
  simp only [spec_saAfter.l1]
  rw [iP_, iP_, iP_, iP_, rd_get hlt, rd1_get hlr, runs_drop (by simp; omega) hlt, List.getElem_map]
  exact h1.trans h2
theorem saAfter_l0 (o : Int) (rows : List (List Int)) (b : Bool) (hsq : ∀ r ∈ rows, r.length = rows.length) (hn : rows.length ≤ 5) :
 ∀ (m : Nat) (v : List Int), m ≤ 8 → v.length = rows.length → ∀ k, 60 * m < k → spec_saAfter.l0 k m b v o rows = some (stepsw (rows.map (waysOf b)) m v) := by
 intro m
 induction m with
 | zero =>
  intro v hm hv k hk
  obtain ⟨k, rfl⟩ : ∃ m, k = m + 1 := ⟨k - 1, by omega⟩
  simp only [spec_saAfter.l0]
  rw [iN_]
  rfl
 | succ m ih =>
  intro v hm hv k hk
  obtain ⟨k, rfl⟩ : ∃ m, k = m + 1 := ⟨k - 1, by omega⟩
  obtain ⟨k', hk', h1⟩ := saAfter_l1 o rows b ((m + 1 : Nat) : Int) v (by omega) (by omega) (by rw [hv]; exact hsq) v.length 0 (List.replicate rows.length 0) (by omega) (by simp; omega) k (by omega)
  rw [List.drop_zero, List.drop_zero, w64 (by omega) (by omega), show ((m + 1 : Nat) : Int) - 1 = (m : Int) from by omega] at h1
  simp only [spec_saAfter.l0]
  rw [iP_, iP_, iP_, Int.toNat_natCast, stepsw]
  refine h1.trans ?_
  rw [← hv]
  exact ih (stepw (rows.map (waysOf b)) v) (by omega) (by rw [stepw_len (by intro r hr; obtain ⟨r', h', rfl⟩ := List.mem_map.1 hr; rw [waysOf_len, hsq r' h', hv])]; exact hv) k' (by omega)
theorem saAfter_ev (o : Int) (rows : List (List Int)) (s m : Nat) (b : Bool) (hsq : ∀ r ∈ rows, r.length = rows.length) (hn : rows.length ≤ 5) (hs : s < rows.length) (hm : m ≤ 8) (k : Nat) (hk : 500 ≤ k) :
 spec_saAfter.f k o rows s m b = some (stepsw (rows.map (waysOf b)) m (unit rows.length s)) := by
 unfold spec_saAfter.f
 rw [iP_, iP_, Int.toNat_natCast]
 simp only [Option.bind_some, List.length_replicate]
 rw [iP_, iP_]
 exact saAfter_l0 o rows b hsq hn m (unit rows.length s) hm (unit_len _ _) k (by omega)
def Edge (rows : List (List Int)) (i k : Nat) : Prop := 0 < (rows.getD i []).getD k 0
inductive RC (rows : List (List Int)) (cl : Int) (s : Nat) : Nat → Prop
 | base : RC rows cl s s
 | step (i k : Nat) : RC rows cl s i → (i : Int) ≠ cl → k < rows.length → Edge rows i k → RC rows cl s k
structure Qu (rows : List (List Int)) (cl : Int) (s : Nat) (q : List Nat) : Prop where
 nd : q.Nodup
 lt : ∀ v ∈ q, v < rows.length
 rc : ∀ v ∈ q, RC rows cl s v
 mem : s ∈ q
theorem Qu.len {rows : List (List Int)} {cl : Int} {s : Nat} {q : List Nat} (h : Qu rows cl s q) : q.length ≤ rows.length := by
 have h1 := List.Nodup.length_le_of_subset h.nd (l₂ := List.range rows.length) (fun v hv => List.mem_range.2 (h.lt v hv))
 simpa using h1
def Through (rows : List (List Int)) (cl : Int) (q : List Nat) (i : Nat) : Prop := ∀ a, a < i → ∀ v, q[a]? = some v → (v : Int) ≠ cl → ∀ k, k < rows.length → Edge rows v k → k ∈ q
theorem Through.more {rows : List (List Int)} {cl : Int} {q q' : List Nat} {i : Nat} (h : Through rows cl q i) (hi : i ≤ q.length) (hp : q <+: q') : Through rows cl q' i := by
 intro a ha v hv hc k hk he
 obtain ⟨t, rfl⟩ := hp
 rw [List.getElem?_append_left (by omega)] at hv
 exact List.mem_append_left _ (h a ha v hv hc k hk he)
theorem Qu.all {rows : List (List Int)} {cl : Int} {s : Nat} {q : List Nat} (h : Qu rows cl s q) (ht : Through rows cl q q.length) (v : Nat) : RC rows cl s v ↔ v ∈ q := by
 constructor
 · intro hr
   induction hr with
   | base => exact h.mem
   | step i k _ hc hk he ih =>
    obtain ⟨a, ha, hv⟩ := List.getElem_of_mem ih
    exact ht a ha i (by rw [List.getElem?_eq_getElem ha, hv]) hc k hk he
 · exact h.rc v
theorem rd_nats {q : List Nat} {i : Nat} (h : i < q.length) : rd (q.map (fun v : Nat => (v : Int))) (i : Int) = (q[i] : Int) := by
 rw [rd_get (by simpa using h)]
 simp
theorem rdOf_get {xs : List Bool} {j : Nat} (h : j < xs.length) : rdOf false xs (j : Int) = xs[j] := by
 unfold rdOf
 rw [Int.toNat_natCast, List.getD_eq_getElem?_getD, List.getElem?_eq_getElem h]
 rfl
theorem edge_get {rows : List (List Int)} {i k : Nat} (hi : i < rows.length) (hk : k < rows[i].length) : Edge rows i k ↔ 0 < rows[i][k] := by
 unfold Edge
 simp [List.getD_eq_getElem?_getD, hi, hk]
def Marks (n : Nat) (out : List Bool) (q : List Nat) : Prop := out.length = n ∧ ∀ k, (h : k < out.length) → (out[k] = true ↔ k ∈ q)
theorem reached_l1 (o : Int) (rows : List (List Int)) (cl : Int) (s : Nat) (hn : rows.length ≤ 5) (hsq : ∀ r ∈ rows, r.length = rows.length) (i c : Nat) (hc : c < rows.length) (hcc : (c : Int) ≠ cl) :
 ∀ (m j : Nat) (out : List Bool) (q : List Nat), j + m = rows.length → Qu rows cl s q → Marks rows.length out q → i < q.length → q[i]? = some c → (∀ k, k < j → Edge rows c k → k ∈ q) →
 ∃ out' q', Qu rows cl s q' ∧ Marks rows.length out' q' ∧ q <+: q' ∧ (∀ k, k < rows.length → Edge rows c k → k ∈ q') ∧
  ∀ k, m < k → impl_States_reached.l1 k cl out (q.map (fun v : Nat => (v : Int))) i (rows[c]) ((rows[c]).length : Int) j o rows = impl_States_reached.l0 (k - m - 1) cl out' (q'.map (fun v : Nat => (v : Int))) (i + 1) o rows := by
 have hlen := hsq _ (List.getElem_mem hc)
 intro m
 induction m with
 | zero =>
  intro j out q hj hq hm hi hqi hd
  refine ⟨out, q, hq, hm, List.prefix_refl _, fun k hk he => hd k (by omega) he, fun k hk => ?_⟩
  obtain ⟨k, rfl⟩ : ∃ m, k = m + 1 := ⟨k - 1, by omega⟩
  have := hq.len
  simp only [impl_States_reached.l1]
  rw [iN_, w64 (x := (i : Int) + 1) (by omega) (by omega)]
  rfl
 | succ m ih =>
  intro j out q hj hq hm hi hqi hd
  have hlt : j < (rows[c]).length := by omega
  have hlo : j < out.length := by have := hm.1; omega
  have hql := hq.len
  have hin := edge_get hc hlt
  by_cases c1 : 0 < rows[c][j]
  · by_cases c2 : out[j] = true
    · have hjq : j ∈ q := (hm.2 j hlo).1 c2
      obtain ⟨out', q', h1, h2, h3, h4, E⟩ := ih (j + 1) out q (by omega) hq hm hi hqi (fun k hk he => if h : k = j then h ▸ hjq else hd k (by omega) he)
      refine ⟨out', q', h1, h2, h3, h4, fun k hk => ?_⟩
      obtain ⟨k, rfl⟩ : ∃ m, k = m + 1 := ⟨k - 1, by omega⟩
      simp only [impl_States_reached.l1]
      rw [iP_, iP_, iP_, rd_get hlt, iP_, iP_, rdOf_get hlo, if_pos c2, w64 (x := (j : Int) + 1) (by omega) (by omega)]
      have := E k (by omega)
      rw [show k + 1 - (m + 1) - 1 = k - m - 1 from by omega]
      exact this
    · have hjq : j ∉ q := fun h => c2 ((hm.2 j hlo).2 h)
      have hq2 : Qu rows cl s (q ++ [j]) := by
       refine ⟨?_, ?_, ?_, List.mem_append_left _ hq.mem⟩
       · rw [List.nodup_append]
         refine ⟨hq.nd, by simp, ?_⟩
         intro a ha b hb
         rw [List.mem_singleton] at hb
         rintro rfl
         exact hjq (hb ▸ ha)
       · intro v hv
         rcases List.mem_append.1 hv with hv | hv
         · exact hq.lt v hv
         · rw [List.mem_singleton] at hv; omega
       · intro v hv
         rcases List.mem_append.1 hv with hv | hv
         · exact hq.rc v hv
         · rw [List.mem_singleton] at hv
           subst hv
           exact RC.step c v (hq.rc c (List.mem_of_getElem? hqi)) hcc (by omega) (hin.2 c1)
      have hm2 : Marks rows.length (out.set j true) (q ++ [j]) := by
       refine ⟨by rw [List.length_set]; exact hm.1, fun k hk => ?_⟩
       rw [List.length_set] at hk
       rw [List.getElem_set]
       by_cases e : j = k
       · subst e; simp
       · rw [if_neg e, hm.2 k hk]
         simp only [List.mem_append, List.mem_singleton]
         constructor
         · exact .inl
         · rintro (h | h)
           · exact h
           · exact absurd h.symm e
      have hql2 := hq2.len
      rw [List.length_append, List.length_singleton] at hql2
      obtain ⟨out', q', h1, h2, h3, h4, E⟩ := ih (j + 1) (out.set j true) (q ++ [j]) (by omega) hq2 hm2 (by rw [List.length_append]; omega) (by rw [List.getElem?_append_left hi]; exact hqi)
       (fun k hk he => if h : k = j then by simp [h] else List.mem_append_left _ (hd k (by omega) he))
      refine ⟨out', q', h1, h2, (List.prefix_append q [j]).trans h3, h4, fun k hk => ?_⟩
      obtain ⟨k, rfl⟩ : ∃ m, k = m + 1 := ⟨k - 1, by omega⟩
      simp only [impl_States_reached.l1]
      rw [iP_, iP_, iP_, rd_get hlt, iP_, iP_, rdOf_get hlo, if_neg c2, if_pos (by rw [List.length_map]; omega), w64 (x := (j : Int) + 1) (by omega) (by omega), Int.toNat_natCast]
      have := E k (by omega)
      rw [List.map_append, List.map_singleton] at this
      rw [show k + 1 - (m + 1) - 1 = k - m - 1 from by omega]
      exact this
  · obtain ⟨out', q', h1, h2, h3, h4, E⟩ := ih (j + 1) out q (by omega) hq hm hi hqi (fun k hk he => if h : k = j then absurd (hin.1 (h ▸ he)) c1 else hd k (by omega) he)
    refine ⟨out', q', h1, h2, h3, h4, fun k hk => ?_⟩
    obtain ⟨k, rfl⟩ : ∃ m, k = m + 1 := ⟨k - 1, by omega⟩
    simp only [impl_States_reached.l1]
    rw [iP_, iP_, iP_, rd_get hlt, iN_, w64 (x := (j : Int) + 1) (by omega) (by omega)]
    have := E k (by omega)
    rw [show k + 1 - (m + 1) - 1 = k - m - 1 from by omega]
    exact this
theorem reached_l0 (o : Int) (rows : List (List Int)) (cl : Int) (s : Nat) (hn : rows.length ≤ 5) (hsq : ∀ r ∈ rows, r.length = rows.length) :
 ∀ (d i : Nat) (out : List Bool) (q : List Nat), i + d = rows.length → i ≤ q.length → Qu rows cl s q → Marks rows.length out q → Through rows cl q i →
 ∃ out', out'.length = rows.length ∧ (∀ k, (h : k < out'.length) → (out'[k] = true ↔ RC rows cl s k)) ∧ ∀ k, 10 * d + 1 ≤ k → impl_States_reached.l0 k cl out (q.map (fun v : Nat => (v : Int))) i o rows = some out' := by
 have fin : ∀ (i : Nat) (out : List Bool) (q : List Nat), q.length ≤ i → i ≤ q.length → Qu rows cl s q → Marks rows.length out q → Through rows cl q i →
  ∃ out', out'.length = rows.length ∧ (∀ k, (h : k < out'.length) → (out'[k] = true ↔ RC rows cl s k)) ∧ ∀ k, 1 ≤ k → impl_States_reached.l0 k cl out (q.map (fun v : Nat => (v : Int))) i o rows = some out' := by
  intro i out q h1 h2 hq hm ht
  obtain rfl : i = q.length := by omega
  refine ⟨out, hm.1, fun k hk => (hm.2 k hk).trans (hq.all ht k).symm, fun k hk => ?_⟩
  obtain ⟨k, rfl⟩ : ∃ m, k = m + 1 := ⟨k - 1, by omega⟩
  simp only [impl_States_reached.l0]
  rw [if_neg (by rw [List.length_map]; omega)]
 intro d
 induction d with
 | zero =>
  intro i out q hi hiq hq hm ht
  have := hq.len
  obtain ⟨out', h1, h2, E⟩ := fin i out q (by omega) hiq hq hm ht
  exact ⟨out', h1, h2, fun k hk => E k (by omega)⟩
 | succ d ih =>
  intro i out q hi hiq hq hm ht
  have hql := hq.len
  by_cases c0 : i < q.length
  · have hqi : q[i]? = some q[i] := List.getElem?_eq_getElem c0
    have hc := hq.lt _ (List.getElem_mem c0)
    by_cases c1 : (q[i] : Int) = cl
    · obtain ⟨out', h1, h2, E⟩ := ih (i + 1) out q (by omega) (by omega) hq hm (by
       intro a ha v hv hvc k hk he
       by_cases e : a = i
       · subst e; rw [hqi] at hv; injection hv with hv; exact absurd (hv ▸ c1) hvc
       · exact ht a (by omega) v hv hvc k hk he)
      refine ⟨out', h1, h2, fun k hk => ?_⟩
      obtain ⟨k, rfl⟩ : ∃ m, k = m + 1 := ⟨k - 1, by omega⟩
      simp only [impl_States_reached.l0]
      rw [if_pos (by rw [List.length_map]; omega), iP_, rd_nats c0, if_pos c1, w64 (x := (i : Int) + 1) (by omega) (by omega)]
      exact E k (by omega)
    · obtain ⟨out1, q1, hq1, hm1, hp, hall, E1⟩ := reached_l1 o rows cl s hn hsq i q[i] hc c1 rows.length 0 out q (by omega) hq hm c0 hqi (fun k hk => absurd hk (Nat.not_lt_zero _))
      have hpl := hp.length_le
      obtain ⟨out', h1, h2, E⟩ := ih (i + 1) out1 q1 (by omega) (by omega) hq1 hm1 (by
       intro a ha v hv hvc k hk he
       by_cases e : a = i
       · subst e
         obtain ⟨t, rfl⟩ := hp
         rw [List.getElem?_append_left c0, hqi] at hv
         injection hv with hv
         exact hall k hk (hv ▸ he)
       · exact ht.more hiq hp a (by omega) v hv hvc k hk he)
      refine ⟨out', h1, h2, fun k hk => ?_⟩
      obtain ⟨k, rfl⟩ : ∃ m, k = m + 1 := ⟨k - 1, by omega⟩
      simp only [impl_States_reached.l0]
      rw [if_pos (by rw [List.length_map]; omega), iP_, rd_nats c0, if_neg c1, iP_, iP_, rd1_get hc]
      exact (E1 k (by omega)).trans (E _ (by omega))
  · obtain ⟨out', h1, h2, E⟩ := fin i out q (by omega) hiq hq hm ht
    exact ⟨out', h1, h2, fun k hk => E k (by omega)⟩
theorem reached_ev (o : Int) (rows : List (List Int)) (cl : Int) (s : Nat) (hn : rows.length ≤ 5) (hsq : ∀ r ∈ rows, r.length = rows.length) (hs : s < rows.length) :
 ∃ out, out.length = rows.length ∧ (∀ k, (h : k < out.length) → (out[k] = true ↔ RC rows cl s k)) ∧ ∀ k, 60 ≤ k → impl_States_reached.f k o rows s cl = some out := by
 have hq : Qu rows cl s [s] := ⟨by simp, by simp [hs], by simp [RC.base], by simp⟩
 have hm : Marks rows.length ((List.replicate rows.length false).set s true) [s] := by
  refine ⟨by simp, fun k hk => ?_⟩
  rw [List.getElem_set]
  by_cases e : s = k
  · simp [e]
  · rw [if_neg e]; simp; omega
 obtain ⟨out, h1, h2, E⟩ := reached_l0 o rows cl s hn hsq rows.length 0 _ [s] (by omega) (by simp) hq hm (fun a ha => absurd ha (Nat.not_lt_zero _))
 refine ⟨out, h1, h2, fun k hk => ?_⟩
 simp only [impl_States_reached.f]
 rw [iP_, iP_, Int.toNat_natCast]
 simp only [Option.bind_some, List.length_replicate]
 rw [iP_, iP_, Int.toNat_natCast]
 exact E k (by omega)
noncomputable def such (j m : Nat) (p : Nat → Prop) : List Int := ((List.range' j m).filter (fun i => @decide (p i) (Classical.propDecidable _))).map (fun v : Nat => (v : Int))
theorem such_zero (j : Nat) (p : Nat → Prop) : such j 0 p = [] := by simp [such]
theorem such_pos {j m : Nat} {p : Nat → Prop} (h : p j) : such j (m + 1) p = (j : Int) :: such (j + 1) m p := by
 unfold such
 rw [List.range'_succ, List.filter_cons_of_pos (by simpa using h), List.map_cons]
theorem such_neg {j m : Nat} {p : Nat → Prop} (h : ¬ p j) : such j (m + 1) p = such (j + 1) m p := by
 unfold such
 rw [List.range'_succ, List.filter_cons_of_neg (by simpa using h)]
theorem such_len (j m : Nat) (p : Nat → Prop) : (such j m p).length ≤ m := by
 unfold such
 rw [List.length_map]
 exact Nat.le_trans (List.length_filter_le _ _) (by simp)
theorem such_congr {j m : Nat} {p q : Nat → Prop} (h : ∀ i, j ≤ i → i < j + m → (p i ↔ q i)) : such j m p = such j m q := by
 unfold such
 congr 1
 apply List.filter_congr
 intro i hi
 rw [List.mem_range'_1] at hi
 simp [h i hi.1 hi.2]
theorem such_mem {j m : Nat} {p : Nat → Prop} {x : Int} : x ∈ such j m p ↔ ∃ i : Nat, x = i ∧ j ≤ i ∧ i < j + m ∧ p i := by
 unfold such
 simp only [List.mem_map, List.mem_filter, List.mem_range'_1, decide_eq_true_eq]
 constructor
 · rintro ⟨a, ⟨⟨h1, h2⟩, h3⟩, rfl⟩
   exact ⟨a, rfl, h1, h2, h3⟩
 · rintro ⟨a, rfl, h1, h2, h3⟩
   exact ⟨a, ⟨⟨h1, h2⟩, h3⟩, rfl⟩
theorem such_all {j m : Nat} {p : Nat → Prop} : (such j m p).length = m ↔ ∀ i, j ≤ i → i < j + m → p i := by
 unfold such
 rw [List.length_map]
 constructor
 · intro h i h1 h2
   have h3 := List.length_filter_eq_length_iff.1 (h.trans (by simp : m = (List.range' j m).length))
   have := h3 i (by rw [List.mem_range'_1]; exact ⟨h1, h2⟩)
   simpa using this
 · intro h
   rw [List.filter_eq_self.2 (fun i hi => by rw [List.mem_range'_1] at hi; simpa using h i hi.1 hi.2)]
   simp
theorem such_first {j m : Nat} {p : Nat → Prop} (h : ∃ i, j ≤ i ∧ i < j + m ∧ p i) : ∃ (f : Nat) (t : List Int), such j m p = (f : Int) :: t ∧ j ≤ f ∧ f < j + m ∧ p f ∧ ∀ i, j ≤ i → i < f → ¬ p i := by
 induction m generalizing j with
 | zero => obtain ⟨i, h1, h2, _⟩ := h; omega
 | succ m ih =>
  by_cases c : p j
  · exact ⟨j, _, such_pos c, Nat.le_refl _, by omega, c, fun i h1 h2 => by omega⟩
  · obtain ⟨i, h1, h2, h3⟩ := h
    have hij : j + 1 ≤ i := by
     by_cases e : i = j
     · exact absurd (e ▸ h3) c
     · omega
    obtain ⟨f, t, e, h4, h5, h6, h7⟩ := ih (j := j + 1) ⟨i, hij, by omega, h3⟩
    refine ⟨f, t, (such_neg c).trans e, by omega, by omega, h6, fun i h8 h9 => ?_⟩
    by_cases e : i = j
    · exact e ▸ c
    · exact h7 i (by omega) h9
theorem members_l0 (out : List Bool) (hn : out.length ≤ 5) : ∀ (m j : Nat) (acc : List Int), j + m = out.length → acc.length ≤ j → ∀ k, m < k →
 impl_members.l0 k acc out (out.length : Int) j = some (acc ++ such j m (fun i => out.getD i false = true)) := by
 intro m
 induction m with
 | zero =>
  intro j acc hj ha k hk
  obtain ⟨k, rfl⟩ : ∃ m, k = m + 1 := ⟨k - 1, by omega⟩
  simp only [impl_members.l0]
  rw [iN_, such_zero, List.append_nil]
 | succ m ih =>
  intro j acc hj ha k hk
  obtain ⟨k, rfl⟩ : ∃ m, k = m + 1 := ⟨k - 1, by omega⟩
  have hlt : j < out.length := by omega
  have hg : out.getD j false = out[j] := by rw [List.getD_eq_getElem?_getD, List.getElem?_eq_getElem hlt]; rfl
  simp only [impl_members.l0]
  rw [iP_, iP_, iP_, rdOf_get hlt, w64 (x := (j : Int) + 1) (by omega) (by omega)]
  by_cases c : out[j] = true
  · rw [if_pos c, iP_]
    have := ih (j + 1) (acc ++ [(j : Int)]) (by omega) (by simp; omega) k (by omega)
    rw [such_pos (by rw [hg]; exact c)]
    rw [List.append_assoc, List.singleton_append] at this
    exact this
  · rw [if_neg c]
    have := ih (j + 1) acc (by omega) (by omega) k (by omega)
    rw [such_neg (by rw [hg]; exact c)]
    exact this
theorem members_ev (n : Nat) (out : List Bool) (p : Nat → Prop) (hn : n ≤ 5) (hl : out.length = n) (hp : ∀ k, (h : k < out.length) → (out[k] = true ↔ p k)) (k : Nat) (hk : 6 ≤ k) : impl_members.f k out = some (such 0 n p) := by
 unfold impl_members.f
 rw [show impl_members.l0 k ([] : List Int) out (out.length : Int) 0 = _ from members_l0 out (by omega) out.length 0 [] (by omega) (by simp) k (by omega), List.nil_append, hl]
 congr 1
 apply such_congr
 intro i _ h2
 have hlt : i < out.length := by omega
 rw [List.getD_eq_getElem?_getD, List.getElem?_eq_getElem hlt]
 exact hp i hlt
inductive Wk (rows : List (List Int)) (s : Nat) : Nat → Nat → Prop
 | base : Wk rows s s 0
 | step (i k d : Nat) : Wk rows s i d → k < rows.length → Edge rows i k → Wk rows s k (d + 1)
def fa (far : List Int) (v : Nat) : Int := far.getD v (-1)
theorem fa_set {far : List Int} {j : Nat} {x : Int} (h : j < far.length) (k : Nat) : fa (far.set j x) k = if k = j then x else fa far k := by
 unfold fa
 rw [List.getD_eq_getElem?_getD, List.getD_eq_getElem?_getD, List.getElem?_set]
 by_cases e : j = k
 · subst e; simp [h]
 · rw [if_neg e, if_neg (fun h => e h.symm)]
theorem rd_fa {far : List Int} {j : Nat} (h : j < far.length) : rd far (j : Int) = fa far j := by
 rw [rd_get h]
 unfold fa
 rw [List.getD_eq_getElem?_getD, List.getElem?_eq_getElem h]
 rfl
structure Far (rows : List (List Int)) (s : Nat) (far : List Int) (q : List Nat) (i : Nat) : Prop where
 len : far.length = rows.length
 mem : ∀ k, k < rows.length → (0 ≤ fa far k ↔ k ∈ q)
 low : ∀ k, -1 ≤ fa far k
 zero : fa far s = 0
 wk : ∀ v ∈ q, Wk rows s v (fa far v).toNat
 idx : ∀ (a v : Nat), q[a]? = some v → fa far v ≤ a
 mono : ∀ (a b u v : Nat), a ≤ b → q[a]? = some u → q[b]? = some v → fa far u ≤ fa far v
 near : ∀ (a : Nat), a < i → ∀ (u : Nat), q[a]? = some u → ∀ (k : Nat), k < rows.length → Edge rows u k → k ∈ q ∧ fa far k ≤ fa far u + 1
theorem saFar_l2 (o : Int) (rows : List (List Int)) (s : Nat) (hn : rows.length ≤ 5) (hsq : ∀ r ∈ rows, r.length = rows.length) (i c : Nat) (hc : c < rows.length) :
 ∀ (m j : Nat) (far : List Int) (q : List Nat), j + m = rows.length → Qu rows (-1) s q → Far rows s far q i → (∀ v ∈ q, fa far v ≤ fa far c + 1) → i < q.length → q[i]? = some c → (∀ k, k < j → Edge rows c k → k ∈ q) →
 ∃ far' q', Qu rows (-1) s q' ∧ Far rows s far' q' i ∧ (∀ v ∈ q', fa far' v ≤ fa far' c + 1) ∧ q <+: q' ∧ (∀ k, k < rows.length → Edge rows c k → k ∈ q') ∧
  ∀ k, m < k → spec_saFar.l2 k far (q.map (fun v : Nat => (v : Int))) i (rows[c]) ((rows[c]).length : Int) j o rows = spec_saFar.l1 (k - m - 1) far' (q'.map (fun v : Nat => (v : Int))) (i + 1) o rows := by
 have hlen := hsq _ (List.getElem_mem hc)
 intro m
 induction m with
 | zero =>
  intro j far q hj hq hm ht hi hqi hd
  refine ⟨far, q, hq, hm, ht, List.prefix_refl _, fun k hk he => hd k (by omega) he, fun k hk => ?_⟩
  obtain ⟨k, rfl⟩ : ∃ m, k = m + 1 := ⟨k - 1, by omega⟩
  have := hq.len
  simp only [spec_saFar.l2]
  rw [iN_, w64 (x := (i : Int) + 1) (by omega) (by omega)]
  rfl
 | succ m ih =>
  intro j far q hj hq hm ht hi hqi hd
  have hlt : j < (rows[c]).length := by omega
  have hlo : j < far.length := by have := hm.len; omega
  have hcf : c < far.length := by have := hm.len; omega
  have hql := hq.len
  have hin := edge_get hc hlt
  have hgc : q[i] = c := by rw [List.getElem?_eq_getElem hi] at hqi; exact Option.some.inj hqi
  by_cases c1 : 0 < rows[c][j]
  · by_cases c2 : fa far j < 0
    · have hjq : j ∉ q := fun h => by have := (hm.mem j (by omega)).2 h; omega
      have hcq : c ∈ q := List.mem_of_getElem? hqi
      have hcj : c ≠ j := fun e => hjq (e ▸ hcq)
      have hc0 : 0 ≤ fa far c := (hm.mem c hc).2 hcq
      have hci := hm.idx i c hqi
      have hq2 : Qu rows (-1) s (q ++ [j]) := by
       refine ⟨?_, ?_, ?_, List.mem_append_left _ hq.mem⟩
       · rw [List.nodup_append]
         refine ⟨hq.nd, by simp, ?_⟩
         intro a ha b hb
         rw [List.mem_singleton] at hb
         rintro rfl
         exact hjq (hb ▸ ha)
       · intro v hv
         rcases List.mem_append.1 hv with hv | hv
         · exact hq.lt v hv
         · rw [List.mem_singleton] at hv; omega
       · intro v hv
         rcases List.mem_append.1 hv with hv | hv
         · exact hq.rc v hv
         · rw [List.mem_singleton] at hv
           subst hv
           exact RC.step c v (hq.rc c hcq) (by omega) (by omega) (hin.2 c1)
      have hs := fun k => fa_set (far := far) (x := fa far c + 1) hlo k
      have hold : ∀ v, v ∈ q → fa (far.set j (fa far c + 1)) v = fa far v := fun v hv => by
       rw [hs, if_neg (by rintro rfl; exact hjq hv)]
      have hat : ∀ (a v : Nat), (q ++ [j])[a]? = some v → (q[a]? = some v ∧ v ∈ q) ∨ (a = q.length ∧ v = j) := by
       intro a v h
       by_cases ha : a < q.length
       · rw [List.getElem?_append_left ha] at h
         exact .inl ⟨h, List.mem_of_getElem? h⟩
       · rw [List.getElem?_append_right (by omega), List.getElem?_singleton] at h
         by_cases e : a - q.length = 0
         · rw [if_pos e] at h
           exact .inr ⟨by omega, (Option.some.inj h).symm⟩
         · rw [if_neg e] at h; cases h
      have hm2 : Far rows s (far.set j (fa far c + 1)) (q ++ [j]) i := by
       refine ⟨by rw [List.length_set]; exact hm.len, ?_, ?_, by rw [hold s hq.mem]; exact hm.zero, ?_, ?_, ?_, ?_⟩
       · intro k hk
         rw [hs]
         by_cases e : k = j
         · subst e; simp; omega
         · rw [if_neg e, hm.mem k hk]; simp [e]
       · intro k
         rw [hs]
         have := hm.low k
         by_cases e : k = j
         · rw [if_pos e]; omega
         · rw [if_neg e]; exact this
       · intro v hv
         rcases List.mem_append.1 hv with hv | hv
         · rw [hold v hv]; exact hm.wk v hv
         · rw [List.mem_singleton] at hv
           subst hv
           rw [hs, if_pos rfl, show (fa far c + 1).toNat = (fa far c).toNat + 1 from by omega]
           exact Wk.step c v _ (hm.wk c hcq) (by omega) (hin.2 c1)
       · intro a v h
         rcases hat a v h with ⟨h1, h2⟩ | ⟨h1, h2⟩
         · rw [hold v h2]; exact hm.idx a v h1
         · subst h2; rw [hs, if_pos rfl]; omega
       · intro a b u v hab hu hv
         rcases hat b v hv with ⟨h1, h2⟩ | ⟨h1, h2⟩
         · rcases hat a u hu with ⟨h3, h4⟩ | ⟨h3, h4⟩
           · rw [hold v h2, hold u h4]; exact hm.mono a b u v hab h3 h1
           · exfalso
             have := (List.getElem?_eq_some_iff.1 h1).1
             omega
         · subst h2
           rw [hs v, if_pos rfl]
           rcases hat a u hu with ⟨h3, h4⟩ | ⟨h3, h4⟩
           · rw [hold u h4]; exact ht u h4
           · subst h4; rw [hs, if_pos rfl]; exact Int.le_refl _
       · intro a ha u hu k hk he
         rcases hat a u hu with ⟨h1, h2⟩ | ⟨h1, h2⟩
         · obtain ⟨h3, h4⟩ := hm.near a ha u h1 k hk he
           rw [hold u h2, hold k h3]
           exact ⟨List.mem_append_left _ h3, h4⟩
         · omega
      have hql2 := hq2.len
      rw [List.length_append, List.length_singleton] at hql2
      have ht2 : ∀ v ∈ q ++ [j], fa (far.set j (fa far c + 1)) v ≤ fa (far.set j (fa far c + 1)) c + 1 := by
       intro v hv
       rw [hold c hcq]
       rcases List.mem_append.1 hv with hv | hv
       · rw [hold v hv]; exact ht v hv
       · rw [List.mem_singleton] at hv; subst hv; rw [hs, if_pos rfl]; exact Int.le_refl _
      obtain ⟨far', q', h1, h2, h3, h4, h5, E⟩ := ih (j + 1) (far.set j (fa far c + 1)) (q ++ [j]) (by omega) hq2 hm2 ht2 (by rw [List.length_append]; omega) (by rw [List.getElem?_append_left hi]; exact hqi)
       (fun k hk he => if h : k = j then by simp [h] else List.mem_append_left _ (hd k (by omega) he))
      refine ⟨far', q', h1, h2, h3, (List.prefix_append q [j]).trans h4, h5, fun k hk => ?_⟩
      obtain ⟨k, rfl⟩ : ∃ m, k = m + 1 := ⟨k - 1, by omega⟩
      simp only [spec_saFar.l2]
      rw [iP_, iP_, iP_, rd_get hlt, iP_, iP_, rd_fa hlo, if_pos c2, iP_, if_pos (by rw [List.length_map]; omega), rd_nats hi, hgc, iP_, iP_,
       if_pos (by rw [List.length_map]; omega), rd_fa hcf, w64 (x := fa far c + 1) (by omega) (by omega), w64 (x := (j : Int) + 1) (by omega) (by omega), Int.toNat_natCast]
      have := E k (by omega)
      rw [List.map_append, List.map_singleton] at this
      rw [show k + 1 - (m + 1) - 1 = k - m - 1 from by omega]
      exact this
    · have hjq : j ∈ q := (hm.mem j (by omega)).1 (by omega)
      obtain ⟨far', q', h1, h2, h3, h4, h5, E⟩ := ih (j + 1) far q (by omega) hq hm ht hi hqi (fun k hk he => if h : k = j then h ▸ hjq else hd k (by omega) he)
      refine ⟨far', q', h1, h2, h3, h4, h5, fun k hk => ?_⟩
      obtain ⟨k, rfl⟩ : ∃ m, k = m + 1 := ⟨k - 1, by omega⟩
      simp only [spec_saFar.l2]
      rw [iP_, iP_, iP_, rd_get hlt, iP_, iP_, rd_fa hlo, if_neg c2, w64 (x := (j : Int) + 1) (by omega) (by omega)]
      have := E k (by omega)
      rw [show k + 1 - (m + 1) - 1 = k - m - 1 from by omega]
      exact this
  · obtain ⟨far', q', h1, h2, h3, h4, h5, E⟩ := ih (j + 1) far q (by omega) hq hm ht hi hqi (fun k hk he => if h : k = j then absurd (hin.1 (h ▸ he)) c1 else hd k (by omega) he)
    refine ⟨far', q', h1, h2, h3, h4, h5, fun k hk => ?_⟩
    obtain ⟨k, rfl⟩ : ∃ m, k = m + 1 := ⟨k - 1, by omega⟩
    simp only [spec_saFar.l2]
    rw [iP_, iP_, iP_, rd_get hlt, iN_, w64 (x := (j : Int) + 1) (by omega) (by omega)]
    have := E k (by omega)
    rw [show k + 1 - (m + 1) - 1 = k - m - 1 from by omega]
    exact this
theorem saFar_l1 (o : Int) (rows : List (List Int)) (s : Nat) (hn : rows.length ≤ 5) (hsq : ∀ r ∈ rows, r.length = rows.length) :
 ∀ (d i : Nat) (far : List Int) (q : List Nat), i + d = rows.length → i ≤ q.length → Qu rows (-1) s q → Far rows s far q i → Through rows (-1) q i → (∀ c, q[i]? = some c → ∀ v ∈ q, fa far v ≤ fa far c + 1) →
 ∃ far' q', Qu rows (-1) s q' ∧ Far rows s far' q' q'.length ∧ Through rows (-1) q' q'.length ∧ ∀ k, 10 * d + 1 ≤ k → spec_saFar.l1 k far (q.map (fun v : Nat => (v : Int))) i o rows = some far' := by
 have fin : ∀ (i : Nat) (far : List Int) (q : List Nat), q.length ≤ i → i ≤ q.length → Qu rows (-1) s q → Far rows s far q i → Through rows (-1) q i →
  ∃ far' q', Qu rows (-1) s q' ∧ Far rows s far' q' q'.length ∧ Through rows (-1) q' q'.length ∧ ∀ k, 1 ≤ k → spec_saFar.l1 k far (q.map (fun v : Nat => (v : Int))) i o rows = some far' := by
  intro i far q h1 h2 hq hm ht
  obtain rfl : i = q.length := by omega
  refine ⟨far, q, hq, hm, ht, fun k hk => ?_⟩
  obtain ⟨k, rfl⟩ : ∃ m, k = m + 1 := ⟨k - 1, by omega⟩
  simp only [spec_saFar.l1]
  rw [if_neg (by rw [List.length_map]; omega)]
 intro d
 induction d with
 | zero =>
  intro i far q hi hiq hq hm ht _
  have := hq.len
  obtain ⟨far', q', h1, h2, h3, E⟩ := fin i far q (by omega) hiq hq hm ht
  exact ⟨far', q', h1, h2, h3, fun k hk => E k (by omega)⟩
 | succ d ih =>
  intro i far q hi hiq hq hm ht htop
  have hql := hq.len
  by_cases c0 : i < q.length
  · have hqi : q[i]? = some q[i] := List.getElem?_eq_getElem c0
    have hc := hq.lt _ (List.getElem_mem c0)
    obtain ⟨far1, q1, hq1, hm1, ht1, hp, hall, E1⟩ := saFar_l2 o rows s hn hsq i q[i] hc rows.length 0 far q (by omega) hq hm (htop _ hqi) c0 hqi (fun k hk => absurd hk (Nat.not_lt_zero _))
    have hpl := hp.length_le
    have hqi1 : q1[i]? = some q[i] := by
     obtain ⟨t, rfl⟩ := hp
     rw [List.getElem?_append_left c0]; exact hqi
    have hm2 : Far rows s far1 q1 (i + 1) := by
     refine ⟨hm1.len, hm1.mem, hm1.low, hm1.zero, hm1.wk, hm1.idx, hm1.mono, ?_⟩
     intro a ha u hu k hk he
     by_cases e : a = i
     · subst e
       rw [hqi1] at hu
       injection hu with hu
       subst hu
       have := hall k hk he
       exact ⟨this, ht1 k this⟩
     · exact hm1.near a (by omega) u hu k hk he
    have hth : Through rows (-1) q1 (i + 1) := by
     intro a ha v hv hvc k hk he
     by_cases e : a = i
     · subst e
       rw [hqi1] at hv
       injection hv with hv
       exact hall k hk (hv ▸ he)
     · exact ht.more hiq hp a (by omega) v hv hvc k hk he
    obtain ⟨far', q', h1, h2, h3, E⟩ := ih (i + 1) far1 q1 (by omega) (by omega) hq1 hm2 hth (by
     intro c hc' v hv
     have h5 := ht1 v hv
     have h6 := hm1.mono i (i + 1) q[i] c (by omega) hqi1 hc'
     omega)
    refine ⟨far', q', h1, h2, h3, fun k hk => ?_⟩
    obtain ⟨k, rfl⟩ : ∃ m, k = m + 1 := ⟨k - 1, by omega⟩
    simp only [spec_saFar.l1]
    rw [if_pos (by rw [List.length_map]; omega), iP_, rd_nats c0, iP_, iP_, rd1_get hc]
    exact (E1 k (by omega)).trans (E _ (by omega))
  · obtain ⟨far', q', h1, h2, h3, E⟩ := fin i far q (by omega) hiq hq hm ht
    exact ⟨far', q', h1, h2, h3, fun k hk => E k (by omega)⟩
structure IsFar (rows : List (List Int)) (s : Nat) (far : List Int) : Prop where
 len : far.length = rows.length
 low : ∀ k, -1 ≤ fa far k
 high : ∀ k, k < rows.length → fa far k < rows.length
 mem : ∀ k, k < rows.length → (0 ≤ fa far k ↔ RC rows (-1) s k)
 wk : ∀ k, k < rows.length → 0 ≤ fa far k → Wk rows s k (fa far k).toNat
 near : ∀ u k, u < rows.length → k < rows.length → 0 ≤ fa far u → Edge rows u k → 0 ≤ fa far k ∧ fa far k ≤ fa far u + 1
 zero : fa far s = 0
theorem saFar_l0 (o : Int) (rows : List (List Int)) (s : Nat) (hn : rows.length ≤ 5) (hsq : ∀ r ∈ rows, r.length = rows.length) (hs : s < rows.length) :
 ∀ (m j : Nat) (far : List Int), j + m = rows.length → far.length = rows.length → (∀ k, k < j → fa far k = -1) →
 ∃ far', IsFar rows s far' ∧ ∀ k, m + 60 < k → spec_saFar.l0 k s far (rows.length : Int) j o rows = some far' := by
 intro m
 induction m with
 | zero =>
  intro j far hj hl hd
  have hq : Qu rows (-1) s [s] := ⟨by simp, by simp [hs], by simp [RC.base], by simp⟩
  have hset := fun k => fa_set (far := far) (j := s) (x := 0) (by omega) k
  have hout : ∀ k, rows.length ≤ k → fa far k = -1 := by
   intro k hk
   unfold fa
   rw [List.getD_eq_getElem?_getD, List.getElem?_eq_none (by omega)]
   rfl
  have hold : ∀ k, fa far k = -1 := fun k => if h : k < rows.length then hd k (by omega) else hout k (by omega)
  have hone : ∀ (a v : Nat), ([s] : List Nat)[a]? = some v → a = 0 ∧ v = s := by
   intro a v h
   rw [List.getElem?_singleton] at h
   by_cases e : a = 0
   · rw [if_pos e] at h; exact ⟨e, (Option.some.inj h).symm⟩
   · rw [if_neg e] at h; cases h
  have hm : Far rows s (far.set s 0) [s] 0 := by
   refine ⟨by rw [List.length_set]; exact hl, ?_, ?_, by rw [hset, if_pos rfl], ?_, ?_, ?_, ?_⟩
   · intro k hk
     rw [hset]
     by_cases e : k = s
     · simp [e]
     · rw [if_neg e, hold]; simp [e]
   · intro k
     rw [hset]
     by_cases e : k = s
     · rw [if_pos e]; omega
     · rw [if_neg e, hold]; omega
   · intro v hv
     rw [List.mem_singleton] at hv
     subst hv
     rw [hset, if_pos rfl]
     exact Wk.base
   · intro a v h
     obtain ⟨rfl, rfl⟩ := hone a v h
     rw [hset, if_pos rfl]; simp
   · intro a b u v _ hu hv
     obtain ⟨_, rfl⟩ := hone a u hu
     obtain ⟨_, rfl⟩ := hone b v hv
     exact Int.le_refl _
   · intro a ha; omega
  obtain ⟨far', q', h1, h2, h3, E⟩ := saFar_l1 o rows s hn hsq rows.length 0 (far.set s 0) [s] (by omega) (by simp) hq hm (fun a ha => absurd ha (Nat.not_lt_zero _)) (by
   intro c hc v hv
   obtain ⟨_, rfl⟩ := hone 0 c hc
   rw [List.mem_singleton] at hv
   subst hv
   omega)
  have hmem : ∀ k, k < rows.length → (0 ≤ fa far' k ↔ k ∈ q') := h2.mem
  have hq' := h1.len
  refine ⟨far', ⟨h2.len, h2.low, ?_, ?_, ?_, ?_, ?_⟩, fun k hk => ?_⟩
  · intro k hk
    by_cases c : 0 ≤ fa far' k
    · obtain ⟨a, ha, hv⟩ := List.getElem_of_mem ((hmem k hk).1 c)
      have := h2.idx a k (by rw [List.getElem?_eq_getElem ha, hv])
      omega
    · omega
  · intro k hk
    rw [hmem k hk, h1.all h3]
  · intro k hk h
    exact h2.wk k ((hmem k hk).1 h)
  · intro u k hu hk h he
    obtain ⟨a, ha, hv⟩ := List.getElem_of_mem ((hmem u hu).1 h)
    obtain ⟨h5, h6⟩ := h2.near a ha u (by rw [List.getElem?_eq_getElem ha, hv]) k hk he
    exact ⟨(hmem k hk).2 h5, h6⟩
  · exact h2.zero
  · obtain ⟨k, rfl⟩ : ∃ m, k = m + 1 := ⟨k - 1, by omega⟩
    simp only [spec_saFar.l0]
    rw [iN_, iP_, iP_, Int.toNat_natCast]
    exact E k (by omega)
 | succ m ih =>
  intro j far hj hl hd
  obtain ⟨far', h1, E⟩ := ih (j + 1) (far.set j (-1)) (by omega) (by rw [List.length_set]; exact hl) (fun k hk => by
   rw [fa_set (by omega)]
   by_cases e : k = j
   · rw [if_pos e]
   · rw [if_neg e]; exact hd k (by omega))
  refine ⟨far', h1, fun k hk => ?_⟩
  obtain ⟨k, rfl⟩ : ∃ m, k = m + 1 := ⟨k - 1, by omega⟩
  simp only [spec_saFar.l0]
  rw [iP_, iP_, iP_, w64 (x := (j : Int) + 1) (by omega) (by omega), Int.toNat_natCast]
  exact E k (by omega)
theorem saFar_ev (o : Int) (rows : List (List Int)) (s : Nat) (hn : rows.length ≤ 5) (hsq : ∀ r ∈ rows, r.length = rows.length) (hs : s < rows.length) :
 ∃ far, IsFar rows s far ∧ ∀ k, 80 ≤ k → spec_saFar.f k o rows s = some far := by
 obtain ⟨far, h1, E⟩ := saFar_l0 o rows s hn hsq hs rows.length 0 (List.replicate rows.length 0) (by omega) (by simp) (fun k hk => absurd hk (Nat.not_lt_zero _))
 refine ⟨far, h1, fun k hk => ?_⟩
 simp only [spec_saFar.f]
 rw [iP_, iP_, Int.toNat_natCast]
 simp only [Option.bind_some, List.length_replicate]
 exact E k (by omega)
def Both (rows : List (List Int)) (s i : Nat) : Prop := RC rows (-1) s i ∧ RC rows (-1) i s
theorem saClass_l0 (o : Int) (rows : List (List Int)) (s : Nat) (hn : rows.length ≤ 5) (hsq : ∀ r ∈ rows, r.length = rows.length) (hs : s < rows.length) (far : List Int) (hf : IsFar rows s far) :
 ∀ (m j : Nat) (acc : List Int), j + m = rows.length → acc.length ≤ j → ∀ k, m + 80 < k →
 spec_saClass.l0 k s acc far (rows.length : Int) j o rows = some (acc ++ such j m (Both rows s)) := by
 intro m
 induction m with
 | zero =>
  intro j acc hj ha k hk
  obtain ⟨k, rfl⟩ : ∃ m, k = m + 1 := ⟨k - 1, by omega⟩
  simp only [spec_saClass.l0]
  rw [iN_, such_zero, List.append_nil]
 | succ m ih =>
  intro j acc hj ha k hk
  obtain ⟨k, rfl⟩ : ∃ m, k = m + 1 := ⟨k - 1, by omega⟩
  have hlt : j < far.length := by have := hf.len; omega
  have hm := hf.mem j (by omega)
  obtain ⟨far2, hf2, E2⟩ := saFar_ev o rows j hn hsq (by omega)
  have hlt2 : s < far2.length := by have := hf2.len; omega
  have hm2 := hf2.mem s hs
  have h1 := fun acc' h => ih (j + 1) acc' (by omega) h k (by omega)
  simp only [spec_saClass.l0]
  rw [iP_, iP_, iP_, rd_fa hlt, w64 (x := (j : Int) + 1) (by omega) (by omega), E2 k (by omega)]
  simp only [Option.bind_some]
  rw [rd_fa hlt2]
  by_cases c1 : 0 ≤ fa far j
  · by_cases c2 : 0 ≤ fa far2 s
    · rw [iP_, iP_, iP_, iP_, iP_, such_pos ⟨hm.1 c1, hm2.1 c2⟩]
      have := h1 (acc ++ [(j : Int)]) (by simp; omega)
      rw [List.append_assoc, List.singleton_append] at this
      exact this
    · rw [iP_, iP_, iP_, iN_, such_neg (fun h => c2 (hm2.2 h.2))]
      exact h1 acc (by omega)
  · rw [iN_, such_neg (fun h => c1 (hm.2 h.1))]
    exact h1 acc (by omega)
theorem saClass_ev (o : Int) (rows : List (List Int)) (s : Nat) (hn : rows.length ≤ 5) (hsq : ∀ r ∈ rows, r.length = rows.length) (hs : s < rows.length) (k : Nat) (hk : 90 ≤ k) :
 spec_saClass.f k o rows s = some (such 0 rows.length (Both rows s)) := by
 obtain ⟨far, hf, E⟩ := saFar_ev o rows s hn hsq hs
 unfold spec_saClass.f
 rw [E k (by omega)]
 simp only [Option.bind_some]
 rw [hf.len]
 have := saClass_l0 o rows s hn hsq hs far hf rows.length 0 [] (by omega) (by simp) k (by omega)
 rw [List.nil_append] at this
 exact this
theorem class_l0 (o : Int) (rows : List (List Int)) (s : Nat) (hn : rows.length ≤ 5) (hsq : ∀ r ∈ rows, r.length = rows.length) (hs : s < rows.length) (out : List Bool) (hl : out.length = rows.length) (hp : ∀ k, (h : k < out.length) → (out[k] = true ↔ RC rows (-1) s k)) (mem : List Int) (hmem : mem.length ≤ 5) :
 ∀ (m j : Nat) (pre acc : List Int), j + m = rows.length → acc.length ≤ j → mem = pre ++ such j m (fun i => RC rows (-1) s i) → ∀ k, m + 80 < k →
 impl_States_class.l0 k s out acc mem (mem.length : Int) pre.length o rows = some (acc ++ such j m (Both rows s), ((acc ++ such j m (Both rows s)).length : Int) == ((such 0 rows.length (fun i => RC rows (-1) s i)).length : Int)) := by
 intro m
 induction m with
 | zero =>
  intro j pre acc hj ha hpre k hk
  obtain ⟨k, rfl⟩ : ∃ m, k = m + 1 := ⟨k - 1, by omega⟩
  rw [such_zero, List.append_nil] at hpre
  subst hpre
  simp only [impl_States_class.l0]
  rw [iN_, such_zero, List.append_nil, members_ev rows.length out _ hn hl hp k (by omega)]
  rfl
 | succ m ih =>
  intro j pre acc hj ha hpre k hk
  by_cases c1 : RC rows (-1) s j
  · rw [such_pos c1] at hpre
    obtain ⟨k, rfl⟩ : ∃ m, k = m + 1 := ⟨k - 1, by omega⟩
    have hlt : pre.length < mem.length := by rw [hpre]; simp
    have hget : mem[pre.length] = (j : Int) := by
     have : mem[pre.length]? = some (j : Int) := by rw [hpre]; simp
     rw [List.getElem?_eq_getElem hlt] at this
     exact Option.some.inj this
    obtain ⟨out2, hl2, hp2, E2⟩ := reached_ev o rows (-1) j hn hsq (by omega)
    have hlt2 : s < out2.length := by omega
    have h1 := fun acc' h => ih (j + 1) (pre ++ [(j : Int)]) acc' (by omega) h (by rw [hpre, List.append_assoc, List.singleton_append]) k (by omega)
    rw [List.length_append, List.length_singleton] at h1
    simp only [impl_States_class.l0]
    rw [iP_, iP_, iP_, rd_get hlt, hget, E2 k (by omega)]
    simp only [Option.bind_some]
    rw [iP_, iP_, rdOf_get hlt2, w64 (x := (pre.length : Int) + 1) (by omega) (by omega)]
    by_cases c2 : out2[s] = true
    · rw [if_pos c2, iP_, such_pos ⟨c1, (hp2 s hlt2).1 c2⟩]
      have := h1 (acc ++ [(j : Int)]) (by simp; omega)
      rw [List.append_assoc, List.singleton_append] at this
      exact this
    · rw [if_neg c2, such_neg (fun h => c2 ((hp2 s hlt2).2 h.2))]
      exact h1 acc (by omega)
  · rw [such_neg c1] at hpre
    have h1 := ih (j + 1) pre acc (by omega) (by omega) hpre k (by omega)
    rw [such_neg (fun h => c1 h.1)]
    exact h1
theorem class_ev (o : Int) (rows : List (List Int)) (s : Nat) (hn : rows.length ≤ 5) (hsq : ∀ r ∈ rows, r.length = rows.length) (hs : s < rows.length) (k : Nat) (hk : 90 ≤ k) :
 impl_States_class.f k o rows s = some (such 0 rows.length (Both rows s), ((such 0 rows.length (Both rows s)).length : Int) == ((such 0 rows.length (fun i => RC rows (-1) s i)).length : Int)) := by
 obtain ⟨out, hl, hp, E⟩ := reached_ev o rows (-1) s hn hsq hs
 unfold impl_States_class.f
 rw [E k (by omega)]
 simp only [Option.bind_some]
 rw [members_ev rows.length out _ hn hl hp k (by omega)]
 simp only [Option.bind_some]
 have := class_l0 o rows s hn hsq hs out hl hp (such 0 rows.length (fun i => RC rows (-1) s i)) (Nat.le_trans (such_len _ _ _) hn) rows.length 0 [] [] (by omega) (by simp) (by simp) k (by omega)
 rw [List.nil_append] at this
 exact this
theorem RC.trans {rows : List (List Int)} {cl : Int} {a b c : Nat} (h1 : RC rows cl a b) (h2 : RC rows cl b c) : RC rows cl a c := by
 induction h2 with
 | base => exact h1
 | step i k _ hc hk he ih => exact RC.step i k ih hc hk he
theorem Both.symm {rows : List (List Int)} {a b : Nat} (h : Both rows a b) : Both rows b a := ⟨h.2, h.1⟩
theorem Both.trans {rows : List (List Int)} {a b c : Nat} (h1 : Both rows a b) (h2 : Both rows b c) : Both rows a c := ⟨h1.1.trans h2.1, h2.2.trans h1.2⟩
theorem Both.refl (rows : List (List Int)) (a : Nat) : Both rows a a := ⟨RC.base, RC.base⟩
def Fst (rows : List (List Int)) (i : Nat) : Prop := ∀ j, j < i → ¬ Both rows i j
theorem class_first (rows : List (List Int)) (i : Nat) (hi : i < rows.length) : 0 < (such 0 rows.length (Both rows i)).length ∧ (rd (such 0 rows.length (Both rows i)) 0 = i ↔ Fst rows i) := by
 obtain ⟨f, t, e, h1, h2, h3, h4⟩ := such_first (j := 0) (m := rows.length) (p := Both rows i) ⟨i, by omega, by omega, Both.refl _ _⟩
 rw [e]
 refine ⟨by simp, ?_⟩
 have : rd ((f : Int) :: t) 0 = f := by simp [rd]
 rw [this]
 constructor
 · intro hfi j hj
   have : f = i := by omega
   subst this
   exact h4 j (by omega) hj
 · intro hF
   by_cases c : f < i
   · exact absurd h3 (hF f c)
   · by_cases c2 : i < f
     · exact absurd (Both.refl rows i) (h4 i (by omega) c2)
     · omega
noncomputable def classList (rows : List (List Int)) (j m : Nat) : List (List Int) := ((List.range' j m).filter (fun i => @decide (Fst rows i) (Classical.propDecidable _))).map (fun i => such 0 rows.length (Both rows i))
theorem classList_pos {rows : List (List Int)} {j m : Nat} (h : Fst rows j) : classList rows j (m + 1) = such 0 rows.length (Both rows j) :: classList rows (j + 1) m := by
 unfold classList
 rw [List.range'_succ, List.filter_cons_of_pos (by simpa using h), List.map_cons]
theorem classList_neg {rows : List (List Int)} {j m : Nat} (h : ¬ Fst rows j) : classList rows j (m + 1) = classList rows (j + 1) m := by
 unfold classList
 rw [List.range'_succ, List.filter_cons_of_neg (by simpa using h)]
theorem classes_l0 (o : Int) (rows : List (List Int)) (hn : rows.length ≤ 5) (hsq : ∀ r ∈ rows, r.length = rows.length) :
 ∀ (m j : Nat) (acc : List (List Int)), j + m = rows.length → acc.length ≤ j → ∀ k, m + 90 < k →
 impl_States_classes.l0 k acc (rows.length : Int) j o rows = some (acc ++ classList rows j m) := by
 intro m
 induction m with
 | zero =>
  intro j acc hj ha k hk
  obtain ⟨k, rfl⟩ : ∃ m, k = m + 1 := ⟨k - 1, by omega⟩
  simp only [impl_States_classes.l0]
  rw [iN_]
  simp [classList]
 | succ m ih =>
  intro j acc hj ha k hk
  obtain ⟨k, rfl⟩ : ∃ m, k = m + 1 := ⟨k - 1, by omega⟩
  have h1 := fun acc' h => ih (j + 1) acc' (by omega) h k (by omega)
  obtain ⟨h2, h3⟩ := class_first rows j (by omega)
  simp only [impl_States_classes.l0]
  rw [iP_, class_ev o rows j hn hsq (by omega) k (by omega)]
  simp only [Option.bind_some]
  rw [iP_, w64 (x := (j : Int) + 1) (by omega) (by omega)]
  by_cases c : Fst rows j
  · rw [if_pos (h3.2 c), iP_, classList_pos c]
    have := h1 (acc ++ [such 0 rows.length (Both rows j)]) (by simp; omega)
    rw [List.append_assoc, List.singleton_append] at this
    exact this
  · rw [if_neg (fun h => c (h3.1 h)), classList_neg c]
    exact h1 acc (by omega)
theorem classes_ev (o : Int) (rows : List (List Int)) (hn : rows.length ≤ 5) (hsq : ∀ r ∈ rows, r.length = rows.length) (k : Nat) (hk : 100 ≤ k) :
 impl_States_classes.f k o rows = some (classList rows 0 rows.length) := by
 unfold impl_States_classes.f
 have := classes_l0 o rows hn hsq rows.length 0 [] (by omega) (by simp) k (by omega)
 rw [List.nil_append] at this
 exact this
theorem one_class (rows : List (List Int)) (hn : 1 ≤ rows.length) : (classList rows 0 rows.length).length = 1 ↔ (such 0 rows.length (Both rows 0)).length = rows.length := by
 have hF : Fst rows 0 := fun j hj => by omega
 have hl : (classList rows 0 rows.length).length = (such 0 rows.length (Fst rows)).length := by simp [classList, such]
 rw [hl, such_all]
 obtain ⟨n, hn1⟩ : ∃ n, rows.length = n + 1 := ⟨rows.length - 1, by omega⟩
 rw [hn1, such_pos hF]
 simp only [List.length_cons, Nat.add_eq_right, List.length_eq_zero_iff]
 constructor
 · intro h
   have h0 : ∀ i, 1 ≤ i → i < n + 1 → ¬ Fst rows i := by
    intro i h1 h2 h3
    have : (i : Int) ∈ such (0 + 1) n (Fst rows) := such_mem.2 ⟨i, rfl, by omega, by omega, h3⟩
    rw [h] at this
    cases this
   intro i
   induction i using Nat.strongRecOn with
   | _ i ih =>
    intro h1 h2
    by_cases e : i = 0
    · subst e; exact Both.refl _ _
    · have h3 := h0 i (by omega) (by omega)
      unfold Fst at h3
      simp only [Classical.not_forall] at h3
      obtain ⟨j, hj, h4⟩ := h3
      have h5 : Both rows i j := Classical.not_not.1 h4
      exact (ih j hj (by omega) (by omega)).trans h5.symm
 · intro h
   rw [List.eq_nil_iff_forall_not_mem]
   intro x hx
   obtain ⟨i, _, h1, h2, h3⟩ := such_mem.1 hx
   exact h3 0 (by omega) (h i (by omega) (by omega)).symm
theorem countWays_l1 (o : Int) (rows : List (List Int)) (a b st : Int) (row : List Int) (hr : row.length ≤ 5) (h0 : ∀ x ∈ row, 0 ≤ x) (i : Int) (acc : List (List Int)) (ha : acc.length ≤ 5) (n : Int) :
 ∀ (m j : Nat), j + m = row.length → ∀ k, m < k → impl_CountWays.l1 k a b st (((row.map sgn).take j) ++ (List.replicate row.length 0).drop j) rows n i row (row.length : Int) j o acc = impl_CountWays.l0 (k - m - 1) a b st rows n (wrap64 (i + 1)) o (acc ++ [row.map sgn]) := by
 intro m
 induction m with
 | zero =>
  intro j hj k hk
  obtain ⟨k, rfl⟩ : ∃ m, k = m + 1 := ⟨k - 1, by omega⟩
  simp only [impl_CountWays.l1]
  rw [iN_, iP_, List.drop_of_length_le (by simp; omega), List.append_nil, List.take_of_length_le (by simp; omega)]
  rfl
 | succ m ih =>
  intro j hj k hk
  obtain ⟨k, rfl⟩ : ∃ m, k = m + 1 := ⟨k - 1, by omega⟩
  have hlt : j < row.length := by omega
  have hlen : (row.map sgn).length = (List.replicate row.length (0 : Int)).length := by simp
  have hll : ((row.map sgn).take j ++ (List.replicate row.length (0 : Int)).drop j).length = row.length := by simp; omega
  have e := half_set hlen (j := j) (by simp; omega)
  have hx := h0 _ (List.getElem_mem hlt)
  have hs : mn row[j] 1 = (row.map sgn)[j]'(by simp; omega) := by
   rw [List.getElem_map]
   unfold mn sgn
   split <;> split <;> (try split) <;> omega
  have h1 := ih (j + 1) (by omega) k (by omega)
  simp only [impl_CountWays.l1]
  rw [iP_, iP_, iP_, if_pos (by rw [hll]; omega), rd_get hlt, Int.toNat_natCast, hs, e, w64 (x := (j : Int) + 1) (by omega) (by omega), show k + 1 - (m + 1) - 1 = k - m - 1 from by omega]
  exact h1
theorem countWays_l0 (o : Int) (rows : List (List Int)) (a b st : Int) (hn : rows.length ≤ 5) (hr : ∀ r ∈ rows, r.length ≤ 5) (h0 : ∀ r ∈ rows, ∀ x ∈ r, 0 ≤ x) :
 ∀ (m i : Nat), i + m = rows.length → ∀ k, 10 * m < k → ∃ k', k ≤ k' + 10 * m + 1 ∧ impl_CountWays.l0 k a b st rows (rows.length : Int) i o ((rows.take i).map (fun r => r.map sgn)) = (impl_States_only.f o (rows.map (fun r => r.map sgn)) a).bind fun t => impl_CountWays.l2 k' b t st 0 o (rows.map (fun r => r.map sgn)) := by
 intro m
 induction m with
 | zero =>
  intro i hi k hk
  obtain ⟨k, rfl⟩ : ∃ m, k = m + 1 := ⟨k - 1, by omega⟩
  refine ⟨k, by omega, ?_⟩
  simp only [impl_CountWays.l0]
  rw [iN_, List.take_of_length_le (by omega)]
 | succ m ih =>
  intro i hi k hk
  obtain ⟨k, rfl⟩ : ∃ m, k = m + 1 := ⟨k - 1, by omega⟩
  have hlt : i < rows.length := by omega
  have hrr := hr _ (List.getElem_mem hlt)
  have h1 := countWays_l1 o rows a b st rows[i] hrr (h0 _ (List.getElem_mem hlt)) i ((rows.take i).map (fun r => r.map sgn)) (by simp; omega) (rows.length : Int) rows[i].length 0 (by omega) k (by omega)
  rw [List.take_zero, List.nil_append, List.drop_zero, w64 (x := (i : Int) + 1) (by omega) (by omega)] at h1
  obtain ⟨k', hk', h2⟩ := ih (i + 1) (by omega) (k - rows[i].length - 1) (by omega)
  refine ⟨k', by omega, ?_⟩
  rw [List.take_add_one, List.getElem?_eq_getElem hlt, Option.toList_some, List.map_append, List.map_singleton] at h2
  simp only [impl_CountWays.l0]
  rw [iP_, iP_, iP_, rd1_get hlt, iP_, iP_, Int.toNat_natCast]
  exact h1.trans h2
theorem countWays_l2 (o : Int) (rows : List (List Int)) (b : Int) (hsq : ∀ r ∈ rows, r.length = rows.length) (hn : rows.length ≤ 5) (hb : 0 ≤ b) (hb1 : b < rows.length) (st : Nat) (hst : st ≤ 8) :
 ∀ (m i : Nat) (v : List Int), i + m = st → v.length = rows.length → ∀ k, m + 60 < k → impl_CountWays.l2 k b v st i o rows = some (rd (stepsw rows m v) b, true) := by
 intro m
 induction m with
 | zero =>
  intro i v hi hv k hk
  obtain ⟨k, rfl⟩ : ∃ m, k = m + 1 := ⟨k - 1, by omega⟩
  simp only [impl_CountWays.l2]
  rw [iN_, if_pos hb, iP_]
  rfl
 | succ m ih =>
  intro i v hi hv k hk
  obtain ⟨k, rfl⟩ : ∃ m, k = m + 1 := ⟨k - 1, by omega⟩
  simp only [impl_CountWays.l2]
  rw [iP_, step_ev o rows v (by omega) (by omega) (by rw [hv]; exact hsq) k (by omega)]
  simp only [Option.bind_some]
  rw [w64 (x := (i : Int) + 1) (by omega) (by omega)]
  exact ih (i + 1) _ (by omega) (by rw [stepw_len (by rw [hv]; exact hsq)]; exact hv) k (by omega)
structure Low (a b n d : Int) : Prop where
 pos : 0 < b
 ne : d ≠ 0
 eq : a * d = n * b
 cop : Int.gcd a b = 1
theorem dvd_of_cop {a b d : Int} (hc : Int.gcd a b = 1) (h : b ∣ a * d) : b ∣ d := by
 rw [← Int.natAbs_dvd_natAbs] at h ⊢
 rw [Int.natAbs_mul] at h
 exact Nat.Coprime.dvd_of_dvd_mul_left (k := b.natAbs) (m := a.natAbs) (n := d.natAbs) (by
  rw [Nat.Coprime, Nat.gcd_comm]; exact hc) (by exact h)
theorem Low.fac {a b n d : Int} (h : Low a b n d) : ∃ g, g ≠ 0 ∧ n = a * g ∧ d = b * g := by
 have hb : b ∣ d := dvd_of_cop h.cop ⟨n, by rw [h.eq, Int.mul_comm]⟩
 obtain ⟨g, rfl⟩ := hb
 have hp := h.pos
 refine ⟨g, fun e => h.ne (by rw [e, Int.mul_zero]), ?_, rfl⟩
 have he := h.eq
 have : b * n = b * (a * g) := by rw [Int.mul_comm b n, ← he, Int.mul_left_comm]
 exact Int.eq_of_mul_eq_mul_left (by omega) this
theorem natAbs_le_of_mul {a g : Int} (hg : g ≠ 0) : a.natAbs ≤ (a * g).natAbs := by
 rw [Int.natAbs_mul]
 exact Nat.le_mul_of_pos_right _ (by omega)
theorem Low.num_le {a b n d : Int} (h : Low a b n d) : a.natAbs ≤ n.natAbs := by
 obtain ⟨g, hg, rfl, _⟩ := h.fac
 exact natAbs_le_of_mul hg
theorem Low.zero {a b d : Int} (h : Low a b 0 d) : a = 0 ∧ b = 1 := by
 have := h.num_le
 have ha : a = 0 := by omega
 subst ha
 have := h.cop
 have hp := h.pos
 simp at this
 omega
theorem Ev.some {α : Type} {g : Nat → Option α} {r : α} (h : ∀ k, g k = Option.some r) : Ev g r := ⟨0, fun k _ => h k⟩
theorem tmod_nn {a b : Int} (ha : 0 ≤ a) (hb : 0 < b) : 0 ≤ Int.tmod a b ∧ Int.tmod a b < b ∧ Int.tmod a b = a % b := by
 rw [Int.tmod_eq_emod_of_nonneg ha]
 exact ⟨Int.emod_nonneg _ (by omega), Int.emod_lt_of_pos _ hb, rfl⟩
theorem gcd_step {a b : Int} (ha : 0 ≤ a) (hb : 0 < b) : Int.gcd b (Int.tmod a b) = Int.gcd a b := by
 rw [(tmod_nn ha hb).2.2, Int.gcd_comm a b]
 have h : a = a % b + b * (a / b) := by rw [Int.emod_add_mul_ediv]
 conv => rhs; rw [h]
 rw [Int.gcd_add_mul_left_right]
theorem common_l0 : ∀ (k : Nat) (a b : Int), 0 ≤ a → 0 ≤ b → b < k → impl_common.l0 k a b = some ((Int.gcd a b : Nat) : Int) := by
 intro k
 induction k with
 | zero => intro a b ha hb hk; omega
 | succ k ih =>
  intro a b ha hb hk
  simp only [impl_common.l0]
  by_cases h : b = 0
  · subst h
    rw [if_pos rfl, Int.gcd_zero_right]
    congr 1
    omega
  · rw [if_neg h]
    have hb' : 0 < b := by omega
    have h3 := tmod_nn ha hb'
    rw [ih b (Int.tmod a b) hb h3.1 (by omega), gcd_step ha hb']
theorem mx_abs {a : Int} (h0 : -9223372036854775808 < a) (h1 : a ≤ 9223372036854775807) : mx a (wrap64 (-a)) = (a.natAbs : Int) := by
 rw [w64 (by omega) (by omega)]
 unfold mx
 split <;> omega
theorem common_ev {a b : Int} (ha : a.natAbs ≤ 9223372036854775807) (hb : b.natAbs ≤ 9223372036854775807) :
 Ev (fun k => impl_common.f k a b) ((Int.gcd a b : Nat) : Int) := by
 refine ⟨b.natAbs + 1, fun k hk => ?_⟩
 show impl_common.f k a b = _
 unfold impl_common.f
 rw [mx_abs (by omega) (by omega), mx_abs (by omega) (by omega), common_l0 k _ _ (by omega) (by omega) (by omega)]
 simp [Int.gcd]
theorem rdOf_gd (xs : List Bool) (j : Nat) : rdOf false xs (j : Int) = xs.getD j false := by
 unfold rdOf
 rw [Int.toNat_natCast]
theorem rd_gd (xs : List Int) (j : Nat) : rd xs (j : Int) = xs.getD j 0 := by
 unfold rd
 rw [Int.toNat_natCast]
theorem set_gd {xs : List Bool} {j : Nat} (h : j < xs.length) (b : Bool) (v : Nat) : (xs.set j b).getD v false = if v = j then b else xs.getD v false := by
 rw [List.getD_eq_getElem?_getD, List.getD_eq_getElem?_getD, List.getElem?_set]
 by_cases e : j = v
 · subst e; simp [h]
 · rw [if_neg e, if_neg (fun h => e h.symm)]
theorem per_l2 (o : Int) (rows : List (List Int)) (row : List Int) (hn : rows.length ≤ 5) (hrow : row.length = rows.length) (x1 x6 x8 x36 x37 : Int) (x35 : List Int) :
 ∀ (m j : Nat) (x9 : List Bool), j + m = rows.length → x9.length = rows.length →
  ∃ x9' : List Bool, x9'.length = rows.length ∧ (∀ v, v < rows.length → (x9'.getD v false = true ↔ x9.getD v false = true ∨ (j ≤ v ∧ 0 < row.getD v 0))) ∧
   ∀ k, impl_PeriodOfState.l2 (k + m + 1) x1 x6 x8 x9 x35 x36 x37 row (row.length : Int) (j : Int) o rows = impl_PeriodOfState.l1 k x1 x6 x8 x9' x35 x36 (wrap64 (x37 + 1)) o rows := by
 intro m
 induction m with
 | zero =>
  intro j x9 hj hl
  refine ⟨x9, hl, fun v hv => ⟨Or.inl, fun h => h.elim id (fun h => absurd h.1 (by omega))⟩, fun k => ?_⟩
  rw [Nat.add_zero]
  simp only [impl_PeriodOfState.l2]
  rw [iN_]
 | succ m ih =>
  intro j x9 hj hl
  have hw : wrap64 ((j : Int) + 1) = ((j + 1 : Nat) : Int) := by rw [w64 (by omega) (by omega)]; omega
  obtain ⟨x9', h1, h2, h3⟩ := ih (j + 1) (x9.set j (x9.getD j false || decide (0 < row.getD j 0))) (by omega) (by simp [hl])
  refine ⟨x9', h1, fun v hv => ?_, fun k => ?_⟩
  · rw [h2 v hv, set_gd (by omega)]
    by_cases e : v = j
    · subst e
      rw [if_pos rfl]
      simp only [Bool.or_eq_true, decide_eq_true_eq]
      constructor
      · rintro ((h | h) | h)
        · exact Or.inl h
        · exact Or.inr ⟨Nat.le_refl _, h⟩
        · omega
      · rintro (h | h)
        · exact Or.inl (Or.inl h)
        · exact Or.inl (Or.inr h.2)
    · rw [if_neg e]
      constructor
      · rintro (h | h)
        · exact Or.inl h
        · exact Or.inr ⟨by omega, h.2⟩
      · rintro (h | h)
        · exact Or.inl h
        · exact Or.inr ⟨by omega, h.2⟩
  · have h3k := h3 k
    rw [show k + (m + 1) + 1 = (k + m + 1) + 1 from by omega]
    generalize k + m + 1 = K at h3k ⊢
    simp only [impl_PeriodOfState.l2]
    rw [iP_, iP_, iP_, iP_, rdOf_gd, rd_gd, hw, Int.toNat_natCast]
    rw [← h3k]
    by_cases c : x9.getD j false = true
    · rw [if_pos c, c, Bool.true_or]
    · rw [if_neg c, (by simpa using c : x9.getD j false = false), Bool.false_or]
theorem per_l1 (o : Int) (rows : List (List Int)) (hn : rows.length ≤ 5) (hsq : ∀ r ∈ rows, r.length = rows.length) (s : Nat) (hs : s < rows.length) (x6 x8 : Int) (mem : List Int) (hm : mem.length ≤ 5) (hmm : ∀ x ∈ mem, ∃ c : Nat, x = c ∧ c < rows.length) :
 ∀ (m j : Nat) (x9 : List Bool), j + m = mem.length → x9.length = rows.length →
  ∃ x9' : List Bool, x9'.length = rows.length ∧ (∀ v, v < rows.length → (x9'.getD v false = true ↔ x9.getD v false = true ∨ ∃ c : Nat, (c : Int) ∈ mem.drop j ∧ Edge rows c v)) ∧
   ∀ k, impl_PeriodOfState.l1 (k + m * (rows.length + 2) + 1) s x6 x8 x9 mem (mem.length : Int) (j : Int) o rows =
    if x9'.getD s false = true then (impl_common.f k x8 x6).bind fun t => impl_PeriodOfState.l0 k s t x9' (wrap64 (x8 + 1)) o rows else impl_PeriodOfState.l0 k s x6 x9' (wrap64 (x8 + 1)) o rows := by
 intro m
 induction m with
 | zero =>
  intro j x9 hj hl
  refine ⟨x9, hl, fun v hv => ⟨Or.inl, fun h => h.elim id (fun ⟨c, h, _⟩ => ?_)⟩, fun k => ?_⟩
  · rw [List.drop_eq_nil_of_le (by omega)] at h
    cases h
  · rw [Nat.zero_mul, Nat.add_zero]
    simp only [impl_PeriodOfState.l1]
    rw [iN_, iP_, iP_, rdOf_gd]
 | succ m ih =>
  intro j x9 hj hl
  have hlt : j < mem.length := by omega
  obtain ⟨c, hc, hcl⟩ := hmm mem[j] (List.getElem_mem _)
  have hw : wrap64 ((j : Int) + 1) = ((j + 1 : Nat) : Int) := by rw [w64 (by omega) (by omega)]; omega
  have hr : rd_L2 rows (c : Int) = rows[c] := by
   unfold rd_L2
   rw [Int.toNat_natCast, List.getD_eq_getElem?_getD, List.getElem?_eq_getElem hcl]
   rfl
  have hrl : rows[c].length = rows.length := hsq _ (List.getElem_mem _)
  obtain ⟨y, hy1, hy2, hy3⟩ := per_l2 o rows rows[c] hn hrl s x6 x8 (mem.length : Int) j mem rows.length 0 x9 (by omega) hl
  obtain ⟨z, hz1, hz2, hz3⟩ := ih (j + 1) y (by omega) hy1
  refine ⟨z, hz1, fun v hv => ?_, fun k => ?_⟩
  · rw [hz2 v hv, hy2 v hv, List.drop_eq_getElem_cons hlt]
    have he : Edge rows c v ↔ 0 < rows[c].getD v 0 := by
     unfold Edge
     rw [List.getD_eq_getElem?_getD (l := rows), List.getElem?_eq_getElem hcl]
     rfl
    constructor
    · rintro ((h | h) | ⟨d, h1, h2⟩)
      · exact Or.inl h
      · exact Or.inr ⟨c, by rw [hc]; exact List.mem_cons_self, he.2 h.2⟩
      · exact Or.inr ⟨d, List.mem_cons_of_mem _ h1, h2⟩
    · rintro (h | ⟨d, h1, h2⟩)
      · exact Or.inl (Or.inl h)
      · rcases List.mem_cons.1 h1 with h1 | h1
        · rw [hc] at h1
          have : d = c := by omega
          subst this
          exact Or.inl (Or.inr ⟨Nat.zero_le _, he.1 h2⟩)
        · exact Or.inr ⟨d, h1, h2⟩
  · rw [show k + (m + 1) * (rows.length + 2) + 1 = ((k + m * (rows.length + 2) + 1) + rows.length + 1) + 1 from by rw [Nat.succ_mul]; omega]
    simp only [impl_PeriodOfState.l1]
    rw [iP_, iP_, iP_, rd_get hlt, hc, iP_, iP_, hr]
    rw [show ((0 : Nat) : Int) = 0 from rfl] at hy3
    rw [hy3, hw]
    exact hz3 k
noncomputable def perR (rows : List (List Int)) (s : Nat) : Nat → Nat → Int → Int
 | 0, _, p => p
 | m + 1, t, p => if @decide (Wk rows s s t) (Classical.propDecidable _) = true then perR rows s m (t + 1) ((Int.gcd t p : Nat) : Int) else perR rows s m (t + 1) p
theorem perR_pos {rows : List (List Int)} {s m t : Nat} {p : Int} (h : Wk rows s s t) : perR rows s (m + 1) t p = perR rows s m (t + 1) ((Int.gcd t p : Nat) : Int) := by
 simp only [perR]; rw [if_pos (by simpa using h)]
theorem perR_neg {rows : List (List Int)} {s m t : Nat} {p : Int} (h : ¬ Wk rows s s t) : perR rows s (m + 1) t p = perR rows s m (t + 1) p := by
 simp only [perR]; rw [if_neg (by simpa using h)]
theorem perR_dvd {rows : List (List Int)} {s : Nat} (d : Int) : ∀ (m t : Nat) (p : Int), d ∣ perR rows s m t p ↔ d ∣ p ∧ ∀ i : Nat, t ≤ i → i < t + m → Wk rows s s i → d ∣ (i : Int) := by
 intro m
 induction m with
 | zero => intro t p; exact ⟨fun h => ⟨h, fun i h1 h2 _ => by omega⟩, fun h => h.1⟩
 | succ m ih =>
  intro t p
  by_cases c : Wk rows s s t
  · rw [perR_pos c, ih, Int.dvd_coe_gcd_iff]
    constructor
    · rintro ⟨⟨h1, h2⟩, h3⟩
      refine ⟨h2, fun i h4 h5 h6 => ?_⟩
      by_cases e : i = t
      · rw [e]; exact h1
      · exact h3 i (by omega) (by omega) h6
    · rintro ⟨h1, h2⟩
      exact ⟨⟨h2 t (Nat.le_refl _) (by omega) c, h1⟩, fun i h4 h5 h6 => h2 i (by omega) (by omega) h6⟩
  · rw [perR_neg c, ih]
    constructor
    · rintro ⟨h1, h3⟩
      refine ⟨h1, fun i h4 h5 h6 => ?_⟩
      by_cases e : i = t
      · rw [e] at h6; exact absurd h6 c
      · exact h3 i (by omega) (by omega) h6
    · rintro ⟨h1, h2⟩
      exact ⟨h1, fun i h4 h5 h6 => h2 i (by omega) (by omega) h6⟩
theorem perR_nn {rows : List (List Int)} {s : Nat} : ∀ (m t : Nat) (p : Int), 0 ≤ p → 0 ≤ perR rows s m t p := by
 intro m
 induction m with
 | zero => intro t p h; exact h
 | succ m ih =>
  intro t p h
  by_cases c : Wk rows s s t
  · rw [perR_pos c]; exact ih _ _ (by omega)
  · rw [perR_neg c]; exact ih _ _ h
theorem Wk.lt {rows : List (List Int)} {s v t : Nat} (hs : s < rows.length) (h : Wk rows s v t) : v < rows.length := by
 cases h with
 | base => exact hs
 | step _ _ _ _ h _ => exact h
theorem per_l0 (o : Int) (rows : List (List Int)) (hn : rows.length ≤ 5) (hsq : ∀ r ∈ rows, r.length = rows.length) (s : Nat) (hs : s < rows.length) :
 ∀ (m t : Nat) (p : Int) (now : List Bool), t + m = 31 → 1 ≤ t → 0 ≤ p → p ≤ 30 → now.length = rows.length → (∀ v, v < rows.length → (now.getD v false = true ↔ Wk rows s v (t - 1))) →
  ∀ k, m * 60 + 60 ≤ k → impl_PeriodOfState.l0 k s p now t o rows = some (perR rows s m t p, decide (perR rows s m t p > 0)) := by
 intro m
 induction m with
 | zero =>
  intro t p now ht ht1 hp hp' hl hnow k hk
  obtain ⟨k, rfl⟩ : ∃ q, k = q + 1 := ⟨k - 1, by omega⟩
  simp only [impl_PeriodOfState.l0, perR]
  rw [iN_]
  rfl
 | succ m ih =>
  intro t p now ht ht1 hp hp' hl hnow k hk
  obtain ⟨k, rfl⟩ : ∃ q, k = q + 1 := ⟨k - 1, by omega⟩
  have hmem := members_ev rows.length now (fun v => Wk rows s v (t - 1)) hn hl (fun v hv => by
   rw [← hnow v (by omega), List.getD_eq_getElem?_getD, List.getElem?_eq_getElem hv]; rfl) k (by omega)
  have hsl := such_len 0 rows.length (fun v => Wk rows s v (t - 1))
  obtain ⟨x9, h1, h2, h3⟩ := per_l1 o rows hn hsq s hs p t (such 0 rows.length (fun v => Wk rows s v (t - 1))) (by omega)
   (fun x hx => by obtain ⟨i, e, _, h, _⟩ := such_mem.1 hx; exact ⟨i, e, by omega⟩)
   (such 0 rows.length (fun v => Wk rows s v (t - 1))).length 0 (List.replicate rows.length false) (by omega) (by simp)
  have h4 : ∀ v, v < rows.length → (x9.getD v false = true ↔ Wk rows s v t) := by
   intro v hv
   rw [h2 v hv]
   have hf : (List.replicate rows.length false).getD v false = false := by
    rw [List.getD_eq_getElem?_getD, List.getElem?_replicate]
    split <;> rfl
   rw [hf]
   constructor
   · rintro (h | ⟨c, hc, he⟩)
     · cases h
     · rw [List.drop_zero] at hc
       obtain ⟨i, e, _, h, hw⟩ := such_mem.1 hc
       have : c = i := by omega
       subst this
       have := Wk.step c v (t - 1) hw hv he
       rw [show t - 1 + 1 = t from by omega] at this
       exact this
   · intro h
     obtain ⟨t, rfl⟩ : ∃ q, t = q + 1 := ⟨t - 1, by omega⟩
     cases h with
     | step i _ _ hw _ he =>
      refine Or.inr ⟨i, ?_, he⟩
      rw [List.drop_zero]
      exact such_mem.2 ⟨i, rfl, Nat.zero_le _, by have := Wk.lt hs hw; omega, hw⟩
  have hw : wrap64 ((t : Int) + 1) = ((t + 1 : Nat) : Int) := by rw [w64 (by omega) (by omega)]; omega
  obtain ⟨q, hq⟩ : ∃ q, k = q + (such 0 rows.length (fun v => Wk rows s v (t - 1))).length * (rows.length + 2) + 1 := by
   refine ⟨k - 1 - (such 0 rows.length (fun v => Wk rows s v (t - 1))).length * (rows.length + 2), ?_⟩
   have : (such 0 rows.length (fun v => Wk rows s v (t - 1))).length * (rows.length + 2) ≤ 5 * 7 := Nat.mul_le_mul (by omega) (by omega)
   omega
  have hq' : m * 60 + 60 ≤ q := by
   have : (such 0 rows.length (fun v => Wk rows s v (t - 1))).length * (rows.length + 2) ≤ 5 * 7 := Nat.mul_le_mul (by omega) (by omega)
   omega
  simp only [impl_PeriodOfState.l0]
  rw [iP_, iP_, Int.toNat_natCast, iP_, hmem, Option.bind_some]
  rw [show ((0 : Nat) : Int) = 0 from rfl] at h3
  conv => lhs; rw [hq]
  rw [h3 q, hw]
  have hgo := fun p' h h' => ih (t + 1) p' x9 (by omega) (by omega) h h' h1 (fun v hv => h4 v hv) q (by omega)
  by_cases c : Wk rows s s t
  · rw [if_pos ((h4 s hs).2 c), perR_pos c]
    obtain ⟨K, hK⟩ := common_ev (a := (t : Int)) (b := p) (by omega) (by omega)
    have hg : Int.gcd (t : Int) p ≤ t := by
     have := Nat.le_of_dvd (by omega : 0 < (t : Int).natAbs) (Nat.gcd_dvd_left (t : Int).natAbs p.natAbs)
     exact Nat.le_trans this (by omega)
    have hcm : impl_common.f q t p = some ((Int.gcd t p : Nat) : Int) := by
     unfold impl_common.f
     rw [mx_abs (by omega) (by omega), mx_abs (by omega) (by omega), common_l0 q _ _ (by omega) (by omega) (by omega)]
     simp [Int.gcd]
    rw [hcm, Option.bind_some]
    exact hgo _ (by omega) (by omega)
  · rw [if_neg (fun h => c ((h4 s hs).1 h)), perR_neg c]
    exact hgo _ hp hp'
def pww (o : Int) : Nat → Int → Int
 | 0, x => x
 | m + 1, x => pww o m (wrap64 (x * o))
theorem statesAfter_spec (o : Int) (rows : List (List Int)) (a : Int) (st : Nat) (hst : st ≤ 8) : ∀ (m j : Nat) (x : Int), j + m = st → ∀ k, m < k →
 spec_StatesAfter.l0 k a st x j o rows = (spec_saAfter.f (k - m - 1) o rows a st false).bind fun t => some (t, pww o m x, true) := by
 intro m
 induction m with
 | zero =>
  intro j x hj k hk
  obtain ⟨k, rfl⟩ : ∃ m, k = m + 1 := ⟨k - 1, by omega⟩
  simp only [spec_StatesAfter.l0]
  rw [iN_]
  rfl
 | succ m ih =>
  intro j x hj k hk
  obtain ⟨k, rfl⟩ : ∃ m, k = m + 1 := ⟨k - 1, by omega⟩
  simp only [spec_StatesAfter.l0]
  rw [iP_, w64 (x := (j : Int) + 1) (by omega) (by omega), show k + 1 - (m + 1) - 1 = k - m - 1 from by omega]
  exact ih (j + 1) _ (by omega) k (by omega)
theorem statesAfter_impl (o : Int) (rows : List (List Int)) (hsq : ∀ r ∈ rows, r.length = rows.length) (hn : rows.length ≤ 5) (st : Nat) (hst : st ≤ 8) : ∀ (m j : Nat) (x : Int) (v : List Int), j + m = st → v.length = rows.length → ∀ k, m + 60 < k →
 impl_StatesAfter.l0 k v x st j o rows = some (stepsw rows m v, pww o m x, true) := by
 intro m
 induction m with
 | zero =>
  intro j x v hj hv k hk
  obtain ⟨k, rfl⟩ : ∃ m, k = m + 1 := ⟨k - 1, by omega⟩
  simp only [impl_StatesAfter.l0]
  rw [iN_]
  rfl
 | succ m ih =>
  intro j x v hj hv k hk
  obtain ⟨k, rfl⟩ : ∃ m, k = m + 1 := ⟨k - 1, by omega⟩
  simp only [impl_StatesAfter.l0]
  rw [iP_, step_ev o rows v (by omega) (by omega) (by rw [hv]; exact hsq) k (by omega)]
  simp only [Option.bind_some]
  rw [w64 (x := (j : Int) + 1) (by omega) (by omega)]
  exact ih (j + 1) _ _ (by omega) (by rw [stepw_len (by rw [hv]; exact hsq)]; exact hv) k (by omega)
theorem reached_l0s (far : List Int) (hn : far.length ≤ 5) : ∀ (m j : Nat) (acc : List Int), j + m = far.length → acc.length ≤ j → ∀ k, m < k →
 spec_ReachedStates.l0 k acc far (far.length : Int) j = some (acc ++ such j m (fun i => 0 ≤ fa far i), true) := by
 intro m
 induction m with
 | zero =>
  intro j acc hj ha k hk
  obtain ⟨k, rfl⟩ : ∃ m, k = m + 1 := ⟨k - 1, by omega⟩
  simp only [spec_ReachedStates.l0]
  rw [iN_, such_zero, List.append_nil]
 | succ m ih =>
  intro j acc hj ha k hk
  obtain ⟨k, rfl⟩ : ∃ m, k = m + 1 := ⟨k - 1, by omega⟩
  have hlt : j < far.length := by omega
  have h1 := fun acc' h => ih (j + 1) acc' (by omega) h k (by omega)
  simp only [spec_ReachedStates.l0]
  rw [iP_, iP_, iP_, rd_fa hlt, w64 (x := (j : Int) + 1) (by omega) (by omega)]
  by_cases c1 : 0 ≤ fa far j
  · rw [iP_, iP_, such_pos c1]
    have := h1 (acc ++ [(j : Int)]) (by simp; omega)
    rw [List.append_assoc, List.singleton_append] at this
    exact this
  · rw [iN_, such_neg c1]
    exact h1 acc (by omega)
theorem stateClasses_l0 (o : Int) (rows : List (List Int)) (hn : rows.length ≤ 5) (hsq : ∀ r ∈ rows, r.length = rows.length) :
 ∀ (m j : Nat) (acc : List (List Int)), j + m = rows.length → acc.length ≤ j → ∀ k, m + 90 < k →
 spec_StateClasses.l0 k acc (rows.length : Int) j o rows = some (acc ++ classList rows j m, true) := by
 intro m
 induction m with
 | zero =>
  intro j acc hj ha k hk
  obtain ⟨k, rfl⟩ : ∃ m, k = m + 1 := ⟨k - 1, by omega⟩
  simp only [spec_StateClasses.l0]
  rw [iN_]
  simp [classList]
 | succ m ih =>
  intro j acc hj ha k hk
  obtain ⟨k, rfl⟩ : ∃ m, k = m + 1 := ⟨k - 1, by omega⟩
  have h1 := fun acc' h => ih (j + 1) acc' (by omega) h k (by omega)
  obtain ⟨h2, h3⟩ := class_first rows j (by omega)
  simp only [spec_StateClasses.l0]
  rw [iP_, saClass_ev o rows j hn hsq (by omega) k (by omega)]
  simp only [Option.bind_some]
  rw [iP_, w64 (x := (j : Int) + 1) (by omega) (by omega)]
  by_cases c : Fst rows j
  · rw [if_pos (h3.2 c), iP_, classList_pos c]
    have := h1 (acc ++ [such 0 rows.length (Both rows j)]) (by simp; omega)
    rw [List.append_assoc, List.singleton_append] at this
    exact this
  · rw [if_neg (fun h => c (h3.1 h)), classList_neg c]
    exact h1 acc (by omega)
theorem classList_size (rows : List (List Int)) (j m : Nat) : (classList rows j m).length ≤ m ∧ ∀ r ∈ classList rows j m, r.length ≤ rows.length := by
 unfold classList
 constructor
 · rw [List.length_map]
   exact Nat.le_trans (List.length_filter_le _ _) (by simp)
 · intro r hr
   obtain ⟨i, _, rfl⟩ := List.mem_map.1 hr
   exact such_len _ _ _
def Lasts (rows : List (List Int)) (i : Nat) : Prop := (such 0 rows.length (Both rows i)).length = (such 0 rows.length (fun j => RC rows (-1) i j)).length
theorem lasting_l1 (o : Int) (rows : List (List Int)) (hn : rows.length ≤ 5) (acc : List Int) (s : Int) (n i : Int) (far : List Int) (hf : far.length ≤ 5) : ∀ (m j : Nat) (c : Int), j + m = far.length → 0 ≤ c → c ≤ j → ∀ k, m < k →
 spec_LastingStates.l1 k acc s c n i far (far.length : Int) j o rows = spec_LastingStates.l1 (k - m) acc s (c + (such j m (fun x => 0 ≤ fa far x)).length) n i far (far.length : Int) (far.length : Int) o rows := by
 intro m
 induction m with
 | zero =>
  intro j c hj h0 h1 k hk
  rw [such_zero, show (far.length : Int) = (j : Int) from by omega]
  simp
 | succ m ih =>
  intro j c hj h0 h1 k hk
  obtain ⟨k, rfl⟩ : ∃ m, k = m + 1 := ⟨k - 1, by omega⟩
  have hlt : j < far.length := by omega
  rw [spec_LastingStates.l1]
  rw [iP_, iP_, iP_, rd_fa hlt, w64 (x := (j : Int) + 1) (by omega) (by omega), show k + 1 - (m + 1) = k - m from by omega]
  by_cases c1 : 0 ≤ fa far j
  · rw [iP_, such_pos c1, w64 (x := c + 1) (by omega) (by omega), List.length_cons]
    have := ih (j + 1) (c + 1) (by omega) (by omega) (by omega) k (by omega)
    rw [show c + ((such (j + 1) m (fun x => 0 ≤ fa far x)).length + 1 : Nat) = c + 1 + ((such (j + 1) m (fun x => 0 ≤ fa far x)).length : Int) from by omega]
    exact this
  · rw [iN_, such_neg c1]
    exact ih (j + 1) c (by omega) (by omega) (by omega) k (by omega)
theorem lasting_spec (o : Int) (rows : List (List Int)) (hn : rows.length ≤ 5) (hsq : ∀ r ∈ rows, r.length = rows.length) : ∀ (m j : Nat) (acc : List Int), j + m = rows.length → acc.length ≤ j → ∀ k, 10 * m + 200 < k →
 spec_LastingStates.l0 k acc (rows.length : Int) j o rows = some (acc ++ such j m (Lasts rows), true) := by
 intro m
 induction m with
 | zero =>
  intro j acc hj ha k hk
  obtain ⟨k, rfl⟩ : ∃ m, k = m + 1 := ⟨k - 1, by omega⟩
  simp only [spec_LastingStates.l0]
  rw [iN_, such_zero, List.append_nil]
 | succ m ih =>
  intro j acc hj ha k hk
  obtain ⟨k, rfl⟩ : ∃ m, k = m + 1 := ⟨k - 1, by omega⟩
  have hlt : j < rows.length := by omega
  obtain ⟨far, hf, E⟩ := saFar_ev o rows j hn hsq hlt
  have hfl := hf.len
  have h1 := fun acc' h => ih (j + 1) acc' (by omega) h (k - far.length - 1) (by omega)
  have h2 := lasting_l1 o rows hn acc j rows.length j far (by omega) far.length 0 0 (by omega) (by omega) (by omega) k (by omega)
  have h3 : such 0 far.length (fun x => 0 ≤ fa far x) = such 0 rows.length (fun x => RC rows (-1) j x) := by
   rw [hfl]
   exact such_congr (fun i _ h => hf.mem i (by omega))
  rw [h3, Int.zero_add] at h2
  rw [spec_LastingStates.l0]
  rw [iP_, E k (by omega)]
  simp only [Option.bind_some]
  refine h2.trans ?_
  obtain ⟨q, hq⟩ : ∃ q, k - far.length = q + 1 := ⟨k - far.length - 1, by omega⟩
  rw [hq, spec_LastingStates.l1]
  rw [iN_, saClass_ev o rows j hn hsq hlt q (by omega)]
  simp only [Option.bind_some]
  rw [w64 (x := (j : Int) + 1) (by omega) (by omega)]
  have hq2 : q = k - far.length - 1 := by omega
  subst hq2
  by_cases c : Lasts rows j
  · rw [if_pos (by unfold Lasts at c; omega), iP_, such_pos c]
    have := h1 (acc ++ [(j : Int)]) (by simp; omega)
    rw [List.append_assoc, List.singleton_append] at this
    exact this
  · rw [if_neg (by unfold Lasts at c; omega), such_neg c]
    exact h1 acc (by omega)
theorem lasting_impl (o : Int) (rows : List (List Int)) (hn : rows.length ≤ 5) (hsq : ∀ r ∈ rows, r.length = rows.length) : ∀ (m j : Nat) (acc : List Int), j + m = rows.length → acc.length ≤ j → ∀ k, m + 100 < k →
 impl_LastingStates.l0 k acc (rows.length : Int) j o rows = some (acc ++ such j m (Lasts rows), true) := by
 intro m
 induction m with
 | zero =>
  intro j acc hj ha k hk
  obtain ⟨k, rfl⟩ : ∃ m, k = m + 1 := ⟨k - 1, by omega⟩
  simp only [impl_LastingStates.l0]
  rw [iN_, such_zero, List.append_nil]
 | succ m ih =>
  intro j acc hj ha k hk
  obtain ⟨k, rfl⟩ : ∃ m, k = m + 1 := ⟨k - 1, by omega⟩
  have hlt : j < rows.length := by omega
  have h1 := fun acc' h => ih (j + 1) acc' (by omega) h k (by omega)
  simp only [impl_LastingStates.l0]
  rw [iP_, class_ev o rows j hn hsq hlt k (by omega)]
  simp only [Option.bind_some]
  rw [w64 (x := (j : Int) + 1) (by omega) (by omega)]
  by_cases c : Lasts rows j
  · rw [if_pos (by rw [beq_iff_eq]; unfold Lasts at c; omega), iP_, such_pos c]
    have := h1 (acc ++ [(j : Int)]) (by simp; omega)
    rw [List.append_assoc, List.singleton_append] at this
    exact this
  · rw [if_neg (by rw [beq_iff_eq]; unfold Lasts at c; omega), such_neg c]
    exact h1 acc (by omega)
def IsEnd (o : Int) (rows : List (List Int)) (i : Nat) : Prop := (rows.getD i []).getD i 0 = o
theorem rd_diag {rows : List (List Int)} {i : Nat} (h : i < rows.length) (h2 : i < rows[i].length) : rd (rd_L2 rows (i : Int)) (i : Int) = (rows.getD i []).getD i 0 := by
 rw [rd1_get h, rd_get h2]
 simp [List.getD_eq_getElem?_getD, h, h2]
theorem endStates_spec (o : Int) (rows : List (List Int)) (hn : rows.length ≤ 5) (hsq : ∀ r ∈ rows, r.length = rows.length) : ∀ (m j : Nat) (acc : List Int), j + m = rows.length → acc.length ≤ j → ∀ k, m < k →
 spec_EndStates.l0 k acc (rows.length : Int) j o rows = some (acc ++ such j m (IsEnd o rows), true) := by
 intro m
 induction m with
 | zero =>
  intro j acc hj ha k hk
  obtain ⟨k, rfl⟩ : ∃ m, k = m + 1 := ⟨k - 1, by omega⟩
  simp only [spec_EndStates.l0]
  rw [iN_, such_zero, List.append_nil]
 | succ m ih =>
  intro j acc hj ha k hk
  obtain ⟨k, rfl⟩ : ∃ m, k = m + 1 := ⟨k - 1, by omega⟩
  have hlt : j < rows.length := by omega
  have hr := hsq _ (List.getElem_mem hlt)
  have h1 := fun acc' h => ih (j + 1) acc' (by omega) h k (by omega)
  simp only [spec_EndStates.l0, spec_saEnd.f]
  rw [iP_, iP_, iP_, rd_diag hlt (by omega), rd1_get hlt, iP_, w64 (x := (j : Int) + 1) (by omega) (by omega)]
  simp only [Option.bind_some]
  by_cases c1 : IsEnd o rows j
  · rw [if_pos (by rw [beq_iff_eq]; exact c1), iP_, such_pos c1]
    have := h1 (acc ++ [(j : Int)]) (by simp; omega)
    rw [List.append_assoc, List.singleton_append] at this
    exact this
  · rw [if_neg (by rw [beq_iff_eq]; exact c1), such_neg c1]
    exact h1 acc (by omega)
theorem endStates_impl (o : Int) (rows : List (List Int)) (hn : rows.length ≤ 5) (hsq : ∀ r ∈ rows, r.length = rows.length) : ∀ (m j : Nat) (acc : List Int), j + m = rows.length → acc.length ≤ j → ∀ k, m < k →
 impl_EndStates.l0 k acc rows (rows.length : Int) j o rows = some (acc ++ such j m (IsEnd o rows), true) := by
 intro m
 induction m with
 | zero =>
  intro j acc hj ha k hk
  obtain ⟨k, rfl⟩ : ∃ m, k = m + 1 := ⟨k - 1, by omega⟩
  simp only [impl_EndStates.l0]
  rw [iN_, such_zero, List.append_nil]
 | succ m ih =>
  intro j acc hj ha k hk
  obtain ⟨k, rfl⟩ : ∃ m, k = m + 1 := ⟨k - 1, by omega⟩
  have hlt : j < rows.length := by omega
  have hr := hsq _ (List.getElem_mem hlt)
  have h1 := fun acc' h => ih (j + 1) acc' (by omega) h k (by omega)
  simp only [impl_EndStates.l0]
  rw [iP_, iP_, iP_, rd_diag hlt (by omega), rd1_get hlt, iP_, w64 (x := (j : Int) + 1) (by omega) (by omega)]
  by_cases c1 : IsEnd o rows j
  · rw [if_pos (show (rows.getD j []).getD j 0 = o from c1), iP_, such_pos c1]
    have := h1 (acc ++ [(j : Int)]) (by simp; omega)
    rw [List.append_assoc, List.singleton_append] at this
    exact this
  · rw [if_neg (show ¬ (rows.getD j []).getD j 0 = o from c1), such_neg c1]
    exact h1 acc (by omega)
theorem saCommon_l0 : ∀ (k : Nat) (a b : Int), 0 ≤ a → 0 ≤ b → b < k → spec_saCommon.l0 k a b = some ((Int.gcd a b : Nat) : Int) := by
 intro k
 induction k with
 | zero => intro a b ha hb hk; omega
 | succ k ih =>
  intro a b ha hb hk
  simp only [spec_saCommon.l0]
  by_cases h : b = 0
  · subst h
    rw [iN_, Int.gcd_zero_right]
    congr 1
    omega
  · rw [iP_, if_neg h]
    have hb' : 0 < b := by omega
    have h3 := tmod_nn ha hb'
    rw [ih b (Int.tmod a b) hb h3.1 (by omega), gcd_step ha hb']
theorem l1Abs_is {z : Int} (h0 : -1000 ≤ z) (h1 : z ≤ 1000) : spec_l1Abs.f z = some (z.natAbs : Int) := by
 simp only [spec_l1Abs.f, spec_l1Most.f, w64 (x := -z) (by omega) (by omega)]
 by_cases c : z > -z
 · rw [if_pos c, Option.bind_some]; congr 1; omega
 · rw [if_neg c, Option.bind_some]; congr 1; omega
noncomputable def perC (rows : List (List Int)) (far : List Int) (c : Nat) : List Int → Int → Int
 | [], x => x
 | y :: t, x => perC rows far c t (if @decide (Edge rows c y.toNat) (Classical.propDecidable _) = true then ((Int.gcd x ((fa far c + 1 - fa far y.toNat).natAbs : Int) : Nat) : Int) else x)
noncomputable def perD (rows : List (List Int)) (far : List Int) (cls : List Int) : List Int → Int → Int
 | [], x => x
 | c :: t, x => perD rows far cls t (perC rows far c.toNat cls x)
theorem perC_nn {rows : List (List Int)} {far : List Int} {c : Nat} : ∀ (l : List Int) (x : Int), 0 ≤ x → 0 ≤ perC rows far c l x := by
 intro l
 induction l with
 | nil => intro x h; exact h
 | cons y t ih =>
  intro x h
  simp only [perC]
  apply ih
  split
  · omega
  · exact h
theorem perD_nn {rows : List (List Int)} {far cls : List Int} : ∀ (l : List Int) (x : Int), 0 ≤ x → 0 ≤ perD rows far cls l x := by
 intro l
 induction l with
 | nil => intro x h; exact h
 | cons y t ih =>
  intro x h
  simp only [perD]
  exact ih _ (perC_nn _ _ h)
theorem perC_dvd {rows : List (List Int)} {far : List Int} {c : Nat} (d : Int) : ∀ (l : List Int) (x : Int), d ∣ perC rows far c l x ↔ d ∣ x ∧ ∀ y ∈ l, Edge rows c y.toNat → d ∣ fa far c + 1 - fa far y.toNat := by
 intro l
 induction l with
 | nil => intro x; simp [perC]
 | cons y t ih =>
  intro x
  simp only [perC]
  rw [ih]
  by_cases e : Edge rows c y.toNat
  · rw [if_pos (by simpa using e), Int.dvd_coe_gcd_iff, Int.dvd_natAbs]
    constructor
    · rintro ⟨⟨h1, h2⟩, h3⟩
      refine ⟨h1, fun z hz he => ?_⟩
      rcases List.mem_cons.1 hz with rfl | hz
      · exact h2
      · exact h3 z hz he
    · rintro ⟨h1, h2⟩
      exact ⟨⟨h1, h2 y List.mem_cons_self e⟩, fun z hz he => h2 z (List.mem_cons_of_mem _ hz) he⟩
  · rw [if_neg (by simpa using e)]
    constructor
    · rintro ⟨h1, h3⟩
      refine ⟨h1, fun z hz he => ?_⟩
      rcases List.mem_cons.1 hz with rfl | hz
      · exact absurd he e
      · exact h3 z hz he
    · rintro ⟨h1, h2⟩
      exact ⟨h1, fun z hz he => h2 z (List.mem_cons_of_mem _ hz) he⟩
theorem perD_dvd {rows : List (List Int)} {far cls : List Int} (d : Int) : ∀ (l : List Int) (x : Int), d ∣ perD rows far cls l x ↔ d ∣ x ∧ ∀ c ∈ l, ∀ y ∈ cls, Edge rows c.toNat y.toNat → d ∣ fa far c.toNat + 1 - fa far y.toNat := by
 intro l
 induction l with
 | nil => intro x; simp [perD]
 | cons c t ih =>
  intro x
  simp only [perD]
  rw [ih, perC_dvd]
  constructor
  · rintro ⟨⟨h1, h2⟩, h3⟩
    refine ⟨h1, fun z hz => ?_⟩
    rcases List.mem_cons.1 hz with rfl | hz
    · exact h2
    · exact h3 z hz
  · rintro ⟨h1, h2⟩
    exact ⟨⟨h1, h2 c List.mem_cons_self⟩, fun z hz => h2 z (List.mem_cons_of_mem _ hz)⟩
theorem specPer_l1 (o : Int) (rows : List (List Int)) (hn : rows.length ≤ 5) (hsq : ∀ r ∈ rows, r.length = rows.length) (far : List Int) (hfl : far.length = rows.length) (hlo : ∀ k, -1 ≤ fa far k) (hhi : ∀ k, k < rows.length → fa far k < rows.length)
 (cls : List Int) (hm : cls.length ≤ 5) (hmm : ∀ x ∈ cls, ∃ c : Nat, x = c ∧ c < rows.length) (c : Nat) (hc : c < rows.length) (x25 x26 : Int) (x24 : List Int) :
 ∀ (m j : Nat) (x : Int), j + m = cls.length → 0 ≤ x → ∀ k, 20 ≤ k →
  spec_PeriodOfState.l1 (k + m + 1) x far cls c x24 x25 x26 cls (cls.length : Int) (j : Int) o rows = spec_PeriodOfState.l0 k (perC rows far c (cls.drop j) x) far cls x24 x25 (wrap64 (x26 + 1)) o rows := by
 intro m
 induction m with
 | zero =>
  intro j x hj hx k hk
  rw [Nat.add_zero, List.drop_eq_nil_of_le (by omega)]
  simp only [spec_PeriodOfState.l1, perC]
  rw [iN_]
 | succ m ih =>
  intro j x hj hx k hk
  have hlt : j < cls.length := by omega
  obtain ⟨v, hv, hvl⟩ := hmm cls[j] (List.getElem_mem _)
  have hw : wrap64 ((j : Int) + 1) = ((j + 1 : Nat) : Int) := by rw [w64 (by omega) (by omega)]; omega
  have hr : rd_L2 rows (c : Int) = rows[c] := by
   unfold rd_L2
   rw [Int.toNat_natCast, List.getD_eq_getElem?_getD, List.getElem?_eq_getElem hc]
   rfl
  have hrl : rows[c].length = rows.length := hsq _ (List.getElem_mem _)
  have hgo := fun x' h => ih (j + 1) x' (by omega) h k hk
  have a1 := hlo c
  have a2 := hlo v
  have a3 := hhi c hc
  have a4 := hhi v hvl
  have e1 : (j : Int) < (cls.length : Int) := by omega
  have e2 : (0 : Int) ≤ (j : Int) := Int.natCast_nonneg _
  have e3 : (0 : Int) ≤ (c : Int) := Int.natCast_nonneg _
  have e4 : (c : Int) < (rows.length : Int) := by omega
  have e5 : (0 : Int) ≤ (v : Int) := Int.natCast_nonneg _
  have e6 : (v : Int) < ((rows[c]).length : Int) := by omega
  have e7 : (c : Int) < (far.length : Int) := by omega
  have e8 : (v : Int) < (far.length : Int) := by omega
  have e9 : v < rows[c].length := by omega
  have b1 : wrap64 (fa far c + 1) = fa far c + 1 := w64 (by omega) (by omega)
  have b2 : wrap64 (fa far c + 1 - fa far v) = fa far c + 1 - fa far v := w64 (by omega) (by omega)
  have b3 : spec_l1Abs.f (fa far c + 1 - fa far v) = some ((fa far c + 1 - fa far v).natAbs : Int) := l1Abs_is (by omega) (by omega)
  have b4 : ((fa far c + 1 - fa far v).natAbs : Int) ≤ 15 := by omega
  rw [List.drop_eq_getElem_cons hlt, show k + (m + 1) + 1 = (k + m + 1) + 1 from by omega]
  have hq : 20 ≤ k + m + 1 := by omega
  have b5 : spec_saCommon.f (k + m + 1) x ((fa far c + 1 - fa far v).natAbs : Int) = some ((Int.gcd x ((fa far c + 1 - fa far v).natAbs : Int) : Nat) : Int) := saCommon_l0 (k + m + 1) x _ hx (by omega) (by omega)
  simp only [perC, hv, Int.toNat_natCast]
  generalize k + m + 1 = K at hgo hq b5 ⊢
  simp only [spec_PeriodOfState.l1]
  rw [if_pos e1, if_pos e2, if_pos e1, if_pos e3, if_pos e4, rd_get hlt, hv, if_pos e5, hr, if_pos e6, rd_get e9, hw]
  by_cases e : Edge rows c v
  · have e' : rows[c][v] > 0 := (edge_get hc (by omega)).1 e
    rw [if_pos e', if_pos e7, if_pos e8, if_pos (by simpa using e), rd_fa (by omega : c < far.length), rd_fa (by omega : v < far.length), b1, b2, b3, Option.bind_some, b5, Option.bind_some]
    exact hgo _ (by omega)
  · have e' : ¬ rows[c][v] > 0 := fun h => e ((edge_get hc (by omega)).2 h)
    rw [if_neg e', if_neg (by simpa using e)]
    exact hgo _ hx
theorem specPer_l0 (o : Int) (rows : List (List Int)) (hn : rows.length ≤ 5) (hsq : ∀ r ∈ rows, r.length = rows.length) (far : List Int) (hfl : far.length = rows.length) (hlo : ∀ k, -1 ≤ fa far k) (hhi : ∀ k, k < rows.length → fa far k < rows.length)
 (cls : List Int) (hm : cls.length ≤ 5) (hmm : ∀ x ∈ cls, ∃ c : Nat, x = c ∧ c < rows.length) :
 ∀ (m j : Nat) (x : Int), j + m = cls.length → 0 ≤ x → ∀ k, 40 + m * 10 ≤ k →
  spec_PeriodOfState.l0 k x far cls cls (cls.length : Int) (j : Int) o rows = if perD rows far cls (cls.drop j) x = 0 then some (0, false) else some (perD rows far cls (cls.drop j) x, true) := by
 intro m
 induction m with
 | zero =>
  intro j x hj hx k hk
  obtain ⟨k, rfl⟩ : ∃ q, k = q + 1 := ⟨k - 1, by omega⟩
  rw [List.drop_eq_nil_of_le (by omega)]
  simp only [spec_PeriodOfState.l0, perD]
  rw [iN_]
  rfl
 | succ m ih =>
  intro j x hj hx k hk
  obtain ⟨k, rfl⟩ : ∃ q, k = (q + cls.length + 1) + 1 := ⟨k - cls.length - 2, by omega⟩
  have hlt : j < cls.length := by omega
  obtain ⟨v, hv, hvl⟩ := hmm cls[j] (List.getElem_mem _)
  have hw : wrap64 ((j : Int) + 1) = ((j + 1 : Nat) : Int) := by rw [w64 (by omega) (by omega)]; omega
  have h1 := specPer_l1 o rows hn hsq far hfl hlo hhi cls hm hmm v hvl (cls.length : Int) (j : Int) cls cls.length 0 x (by omega) hx k (by omega)
  rw [List.drop_eq_getElem_cons hlt]
  simp only [perD, hv, Int.toNat_natCast]
  generalize hK : k + cls.length + 1 = K at h1 ⊢
  simp only [spec_PeriodOfState.l0]
  rw [iP_, iP_, iP_, rd_get hlt, hv]
  rw [show ((0 : Nat) : Int) = 0 from rfl, List.drop_zero] at h1
  rw [h1, hw]
  exact ih (j + 1) _ (by omega) (perC_nn _ _ hx) k (by omega)
theorem Wk.trans {rows : List (List Int)} {a b c t u : Nat} (h1 : Wk rows a b t) (h2 : Wk rows b c u) : Wk rows a c (t + u) := by
 induction h2 with
 | base => exact h1
 | step i k d _ hk he ih => exact Wk.step i k (t + d) ih hk he
theorem dvd_ext {a b : Int} (ha : 0 ≤ a) (hb : 0 ≤ b) (h : ∀ d : Int, d ∣ a ↔ d ∣ b) : a = b :=
 Int.dvd_antisymm ha hb ((h a).1 (Int.dvd_refl a)) ((h b).2 (Int.dvd_refl b))
theorem period_same (o : Int) (rows : List (List Int)) (hn : rows.length ≤ 5) (hsq : ∀ r ∈ rows, r.length = rows.length) (s : Nat) (hs : s < rows.length) (far : List Int) (hf : IsFar rows s far) :
 perR rows s 30 1 0 = perD rows far (such 0 rows.length (Both rows s)) (such 0 rows.length (Both rows s)) 0 := by
 refine dvd_ext (perR_nn _ _ _ (by omega)) (perD_nn _ _ (by omega)) fun d => ?_
 rw [perR_dvd, perD_dvd]
 constructor
 · rintro ⟨_, h⟩
   refine ⟨Int.dvd_zero _, fun c hc y hy he => ?_⟩
   obtain ⟨c, rfl, _, hcl, bc⟩ := such_mem.1 hc
   obtain ⟨y, rfl, _, hyl, by'⟩ := such_mem.1 hy
   rw [Int.toNat_natCast, Int.toNat_natCast] at he ⊢
   have fc := (hf.mem c (by omega)).2 bc.1
   have fy := (hf.mem y (by omega)).2 by'.1
   have wc := hf.wk c (by omega) fc
   have wy := hf.wk y (by omega) fy
   obtain ⟨fary, hfy, _⟩ := saFar_ev o rows y hn hsq (by omega)
   have fs := (hfy.mem s hs).2 by'.2
   have wb := hfy.wk s hs fs
   have i1 := hf.high c (by omega)
   have i2 := hf.high y (by omega)
   have i3 := hfy.high s hs
   have w1 := (Wk.step c y _ wc (by omega) he).trans wb
   have w2 := wy.trans wb
   have d1 := h _ (by omega) (by omega) w1
   have d2 : d ∣ (((fa far y).toNat + (fa fary s).toNat : Nat) : Int) := by
    by_cases z : (fa far y).toNat + (fa fary s).toNat = 0
    · rw [z]; exact Int.dvd_zero _
    · exact h _ (by omega) (by omega) w2
   have d3 := Int.dvd_sub d1 d2
   rw [show (((fa far c).toNat + 1 + (fa fary s).toNat : Nat) : Int) - (((fa far y).toNat + (fa fary s).toNat : Nat) : Int) = fa far c + 1 - fa far y from by omega] at d3
   exact d3
 · rintro ⟨_, h⟩
   refine ⟨Int.dvd_zero _, fun i _ _ hw => ?_⟩
   have key : ∀ v t, Wk rows s v t → RC rows (-1) s v ∧ (RC rows (-1) v s → d ∣ (t : Int) - fa far v) := by
    intro v t hv
    induction hv with
    | base => exact ⟨RC.base, fun _ => by rw [hf.zero]; exact Int.dvd_zero _⟩
    | step i k e hi hk he ih =>
     have r1 : RC rows (-1) i k := RC.step i k RC.base (by omega) hk he
     refine ⟨ih.1.trans r1, fun hks => ?_⟩
     have r2 : RC rows (-1) i s := r1.trans hks
     have d1 := ih.2 r2
     have hil := Wk.lt hs hi
     have d2 := h i (such_mem.2 ⟨i, rfl, Nat.zero_le _, by omega, ih.1, r2⟩) k (such_mem.2 ⟨k, rfl, Nat.zero_le _, by omega, ih.1.trans r1, hks⟩) (by rw [Int.toNat_natCast, Int.toNat_natCast]; exact he)
     rw [Int.toNat_natCast, Int.toNat_natCast] at d2
     have d3 := Int.dvd_add d1 d2
     rw [show (e : Int) - fa far i + (fa far i + 1 - fa far k) = ((e + 1 : Nat) : Int) - fa far k from by omega] at d3
     exact d3
   have := (key s i hw).2 RC.base
   rw [hf.zero, Int.sub_zero] at this
   exact this
theorem reached_char (o : Int) (rows : List (List Int)) (a : Int) (h1 : rows.length ≤ 1048576) (h2 : ∀ r ∈ rows, r.length ≤ 1048576) :
 ∃ (t : List Int) (u : Bool), (u = true → ∃ f : Nat, a = f ∧ f < rows.length ∧ t = such 0 rows.length (fun i => RC rows (-1) f i)) ∧ (u = true ↔ Good o rows ∧ 0 ≤ a ∧ a < rows.length) ∧ (u = false → t = []) ∧ ∃ K, ∀ k, K ≤ k → spec_ReachedStates.f k o rows a = some (t, u) ∧ impl_ReachedStates.f k o rows a = some (t, u) := by
 obtain ⟨t1, ht1, K2, E2⟩ := saAsked_ev o rows a a h1 h2
 obtain ⟨t2, ht2, K3, E3⟩ := asked1_ev o rows a h1 h2
 have ht : t1 = t2 := by rw [Bool.eq_iff_iff, ht1, ht2]
 subst ht
 cases t1 with
 | false =>
  refine ⟨[], false, fun h => by simp at h, ⟨fun h => by simp at h, fun h => by have := ht1.2 ⟨h.1, h.2, h.2⟩; simp at this⟩, fun _ => rfl, K2 + K3, fun k hk => ⟨?_, ?_⟩⟩
  · simp [spec_ReachedStates.f, E2 k (by omega)]
  · simp [impl_ReachedStates.f, E3 k (by omega)]
 | true =>
  have hall := ht1.1 rfl
  obtain ⟨⟨g1, g2, g3, g4, g5⟩, ga, _⟩ := ht1.1 rfl
  have hsq : ∀ r ∈ rows, r.length = rows.length := fun r hr => (g5 r hr).1
  obtain ⟨f, rfl⟩ := Int.eq_ofNat_of_zero_le ga.1
  obtain ⟨far, hf, E4⟩ := saFar_ev o rows f g4 hsq (by omega)
  obtain ⟨out, hl, hp, E5⟩ := reached_ev o rows (-1) f g4 hsq (by omega)
  refine ⟨such 0 rows.length (fun i => RC rows (-1) f i), true, fun _ => ⟨f, rfl, by omega, rfl⟩, ⟨fun _ => ⟨hall.1, ga⟩, fun _ => rfl⟩, fun h => by simp at h, K2 + K3 + 200, fun k hk => ⟨?_, ?_⟩⟩
  · simp only [spec_ReachedStates.f, E2 k (by omega), Option.bind_some, ↓reduceIte, E4 k (by omega)]
    have hfl := hf.len
    have := reached_l0s far (by omega) far.length 0 [] (by omega) (by simp) k (by omega)
    rw [List.nil_append] at this
    refine this.trans ?_
    rw [hf.len]
    congr 2
    exact such_congr (fun i _ h => hf.mem i (by omega))
  · simp only [impl_ReachedStates.f, E3 k (by omega), Option.bind_some, ↓reduceIte, E5 k (by omega), members_ev rows.length out _ g4 hl hp k (by omega)]
theorem classes_char (o : Int) (rows : List (List Int)) (h1 : rows.length ≤ 1048576) (h2 : ∀ r ∈ rows, r.length ≤ 1048576) :
 ∃ (t : List (List Int)) (u : Bool), (u = true → t = classList rows 0 rows.length) ∧ (u = true ↔ Good o rows) ∧ (u = false → t = []) ∧ ∃ K, ∀ k, K ≤ k → spec_StateClasses.f k o rows = some (t, u) ∧ impl_StateClasses.f k o rows = some (t, u) := by
 obtain ⟨t1, ht1, K2, E2⟩ := saGood_ev o rows h1 h2
 obtain ⟨t2, ht2, K3, E3⟩ := areStates_ev o rows h1 h2
 have ht : t1 = t2 := by rw [Bool.eq_iff_iff, ht1, ht2]
 subst ht
 cases t1 with
 | false =>
  refine ⟨[], false, fun h => by simp at h, ⟨fun h => by simp at h, fun h => by have := ht1.2 h; simp at this⟩, fun _ => rfl, K2 + K3, fun k hk => ⟨?_, ?_⟩⟩
  · simp [spec_StateClasses.f, E2 k (by omega)]
  · simp [impl_StateClasses.f, E3 k (by omega)]
 | true =>
  have hall := ht1.1 rfl
  obtain ⟨g1, g2, g3, g4, g5⟩ := ht1.1 rfl
  have hsq : ∀ r ∈ rows, r.length = rows.length := fun r hr => (g5 r hr).1
  refine ⟨classList rows 0 rows.length, true, fun _ => rfl, ⟨fun _ => hall, fun _ => rfl⟩, fun h => by simp at h, K2 + K3 + 400, fun k hk => ⟨?_, ?_⟩⟩
  · simp only [spec_StateClasses.f, E2 k (by omega), Option.bind_some, ↓reduceIte]
    have := stateClasses_l0 o rows g4 hsq rows.length 0 [] (by omega) (by simp) k (by omega)
    rw [List.nil_append] at this
    exact this
  · simp only [impl_StateClasses.f, E3 k (by omega), Option.bind_some, ↓reduceIte, classes_ev o rows g4 hsq k (by omega)]
theorem oneClass_char (o : Int) (rows : List (List Int)) (h1 : rows.length ≤ 1048576) (h2 : ∀ r ∈ rows, r.length ≤ 1048576) :
 ∃ (t u : Bool), (u = true → (t = true ↔ (classList rows 0 rows.length).length = 1)) ∧ (u = true ↔ Good o rows) ∧ (u = false → t = false) ∧ ∃ K, ∀ k, K ≤ k → spec_IsOneClass.f k o rows = some (t, u) ∧ impl_IsOneClass.f k o rows = some (t, u) := by
 obtain ⟨t1, ht1, K2, E2⟩ := saGood_ev o rows h1 h2
 obtain ⟨t2, ht2, K3, E3⟩ := areStates_ev o rows h1 h2
 have ht : t1 = t2 := by rw [Bool.eq_iff_iff, ht1, ht2]
 subst ht
 cases t1 with
 | false =>
  refine ⟨false, false, fun h => by simp at h, ⟨fun h => by simp at h, fun h => by have := ht1.2 h; simp at this⟩, fun _ => rfl, K2 + K3, fun k hk => ⟨?_, ?_⟩⟩
  · simp [spec_IsOneClass.f, E2 k (by omega)]
  · simp [impl_IsOneClass.f, E3 k (by omega)]
 | true =>
  have hall := ht1.1 rfl
  obtain ⟨g1, g2, g3, g4, g5⟩ := ht1.1 rfl
  have hsq : ∀ r ∈ rows, r.length = rows.length := fun r hr => (g5 r hr).1
  refine ⟨(((classList rows 0 rows.length).length : Int) == 1), true, fun _ => by rw [beq_iff_eq]; omega, ⟨fun _ => hall, fun _ => rfl⟩, fun h => by simp at h, K2 + K3 + 400, fun k hk => ⟨?_, ?_⟩⟩
  · simp only [spec_IsOneClass.f, E2 k (by omega), Option.bind_some, ↓reduceIte, spec_saOne.f]
    rw [show spec_saClass.f k o rows 0 = _ from saClass_ev o rows 0 g4 hsq (by omega) k (by omega)]
    simp only [Option.bind_some, Option.some.injEq, Prod.mk.injEq, and_true]
    rw [Bool.eq_iff_iff, beq_iff_eq, beq_iff_eq]
    have := one_class rows g3
    omega
  · simp only [impl_IsOneClass.f, E3 k (by omega), Option.bind_some, ↓reduceIte, classes_ev o rows g4 hsq k (by omega)]
theorem lasting_char (o : Int) (rows : List (List Int)) (h1 : rows.length ≤ 1048576) (h2 : ∀ r ∈ rows, r.length ≤ 1048576) :
 ∃ (t : List Int) (u : Bool), (u = true → t = such 0 rows.length (Lasts rows)) ∧ (u = true ↔ Good o rows) ∧ (u = false → t = []) ∧ ∃ K, ∀ k, K ≤ k → spec_LastingStates.f k o rows = some (t, u) ∧ impl_LastingStates.f k o rows = some (t, u) := by
 obtain ⟨t1, ht1, K2, E2⟩ := saGood_ev o rows h1 h2
 obtain ⟨t2, ht2, K3, E3⟩ := areStates_ev o rows h1 h2
 have ht : t1 = t2 := by rw [Bool.eq_iff_iff, ht1, ht2]
 subst ht
 cases t1 with
 | false =>
  refine ⟨[], false, fun h => by simp at h, ⟨fun h => by simp at h, fun h => by have := ht1.2 h; simp at this⟩, fun _ => rfl, K2 + K3, fun k hk => ⟨?_, ?_⟩⟩
  · simp [spec_LastingStates.f, E2 k (by omega)]
  · simp [impl_LastingStates.f, E3 k (by omega)]
 | true =>
  have hall := ht1.1 rfl
  obtain ⟨g1, g2, g3, g4, g5⟩ := ht1.1 rfl
  have hsq : ∀ r ∈ rows, r.length = rows.length := fun r hr => (g5 r hr).1
  refine ⟨such 0 rows.length (Lasts rows), true, fun _ => rfl, ⟨fun _ => hall, fun _ => rfl⟩, fun h => by simp at h, K2 + K3 + 400, fun k hk => ⟨?_, ?_⟩⟩
  · simp only [spec_LastingStates.f, E2 k (by omega), Option.bind_some, ↓reduceIte]
    have := lasting_spec o rows g4 hsq rows.length 0 [] (by omega) (by simp) k (by omega)
    rw [List.nil_append] at this
    exact this
  · simp only [impl_LastingStates.f, E3 k (by omega), Option.bind_some, ↓reduceIte]
    have := lasting_impl o rows g4 hsq rows.length 0 [] (by omega) (by simp) k (by omega)
    rw [List.nil_append] at this
    exact this
theorem ends_char (o : Int) (rows : List (List Int)) (h1 : rows.length ≤ 1048576) (h2 : ∀ r ∈ rows, r.length ≤ 1048576) :
 ∃ (t : List Int) (u : Bool), (u = true → t = such 0 rows.length (IsEnd o rows)) ∧ (u = true ↔ Good o rows) ∧ (u = false → t = []) ∧ ∃ K, ∀ k, K ≤ k → spec_EndStates.f k o rows = some (t, u) ∧ impl_EndStates.f k o rows = some (t, u) := by
 obtain ⟨t1, ht1, K2, E2⟩ := saGood_ev o rows h1 h2
 obtain ⟨t2, ht2, K3, E3⟩ := areStates_ev o rows h1 h2
 have ht : t1 = t2 := by rw [Bool.eq_iff_iff, ht1, ht2]
 subst ht
 cases t1 with
 | false =>
  refine ⟨[], false, fun h => by simp at h, ⟨fun h => by simp at h, fun h => by have := ht1.2 h; simp at this⟩, fun _ => rfl, K2 + K3, fun k hk => ⟨?_, ?_⟩⟩
  · simp [spec_EndStates.f, E2 k (by omega)]
  · simp [impl_EndStates.f, E3 k (by omega)]
 | true =>
  have hall := ht1.1 rfl
  obtain ⟨g1, g2, g3, g4, g5⟩ := ht1.1 rfl
  have hsq : ∀ r ∈ rows, r.length = rows.length := fun r hr => (g5 r hr).1
  refine ⟨such 0 rows.length (IsEnd o rows), true, fun _ => rfl, ⟨fun _ => hall, fun _ => rfl⟩, fun h => by simp at h, K2 + K3 + 20, fun k hk => ⟨?_, ?_⟩⟩
  · simp only [spec_EndStates.f, E2 k (by omega), Option.bind_some, ↓reduceIte]
    have := endStates_spec o rows g4 hsq rows.length 0 [] (by omega) (by simp) k (by omega)
    rw [List.nil_append] at this
    exact this
  · simp only [impl_EndStates.f, E3 k (by omega), Option.bind_some, ↓reduceIte]
    have := endStates_impl o rows g4 hsq rows.length 0 [] (by omega) (by simp) k (by omega)
    rw [List.nil_append] at this
    exact this
theorem period_char (o : Int) (rows : List (List Int)) (a : Int) (h1 : rows.length ≤ 1048576) (h2 : ∀ r ∈ rows, r.length ≤ 1048576) :
 ∃ (t : Int) (u : Bool), (Good o rows ∧ 0 ≤ a ∧ a < rows.length → t = perR rows a.toNat 30 1 0 ∧ (u = true ↔ 0 < t)) ∧ (u = true → Good o rows ∧ 0 ≤ a ∧ a < rows.length) ∧ ∃ K, ∀ k, K ≤ k → spec_PeriodOfState.f k o rows a = some (t, u) ∧ impl_PeriodOfState.f k o rows a = some (t, u) := by
 obtain ⟨t1, ht1, K2, E2⟩ := saAsked_ev o rows a a h1 h2
 obtain ⟨t2, ht2, K3, E3⟩ := asked1_ev o rows a h1 h2
 have ht : t1 = t2 := by rw [Bool.eq_iff_iff, ht1, ht2]
 subst ht
 cases t1 with
 | false =>
  refine ⟨0, false, fun h => by have := ht1.2 ⟨h.1, h.2, h.2⟩; simp at this, fun h => by simp at h, K2 + K3, fun k hk => ⟨?_, ?_⟩⟩
  · simp [spec_PeriodOfState.f, E2 k (by omega)]
  · simp [impl_PeriodOfState.f, E3 k (by omega)]
 | true =>
  have hall := ht1.1 rfl
  obtain ⟨⟨g1, g2, g3, g4, g5⟩, ga, _⟩ := ht1.1 rfl
  have hsq : ∀ r ∈ rows, r.length = rows.length := fun r hr => (g5 r hr).1
  obtain ⟨f, rfl⟩ := Int.eq_ofNat_of_zero_le ga.1
  have hfl : f < rows.length := by omega
  obtain ⟨far, hf, E4⟩ := saFar_ev o rows f g4 hsq hfl
  have hps := period_same o rows g4 hsq f hfl far hf
  have hnn := perR_nn (rows := rows) (s := f) 30 1 0 (by omega)
  have hsl := such_len 0 rows.length (Both rows f)
  refine ⟨perR rows f 30 1 0, decide (perR rows f 30 1 0 > 0), fun _ => ⟨by rw [Int.toNat_natCast], decide_eq_true_iff⟩, fun _ => ⟨hall.1, ga⟩, K2 + K3 + 4000, fun k hk => ⟨?_, ?_⟩⟩
  · simp only [spec_PeriodOfState.f, E2 k (by omega), Option.bind_some, ↓reduceIte, E4 k (by omega), saClass_ev o rows f g4 hsq hfl k (by omega)]
    have := specPer_l0 o rows g4 hsq far hf.len hf.low hf.high (such 0 rows.length (Both rows f)) (by omega) (fun x hx => by obtain ⟨i, e, _, h, _⟩ := such_mem.1 hx; exact ⟨i, e, by omega⟩) (such 0 rows.length (Both rows f)).length 0 0 (by omega) (by omega) k (by omega)
    rw [List.drop_zero, ← hps] at this
    refine this.trans ?_
    by_cases c : perR rows f 30 1 0 = 0
    · rw [if_pos c, c]; rfl
    · rw [if_neg c, decide_eq_true (by omega)]
  · simp only [impl_PeriodOfState.f, E3 k (by omega), Option.bind_some, ↓reduceIte]
    rw [iP_, iP_, iP_, if_pos (by simp; omega), Int.toNat_natCast, Int.toNat_natCast]
    exact per_l0 o rows g4 hsq f hfl 30 1 0 _ (by omega) (by omega) (by omega) (by omega) (by simp) (fun v hv => by
     rw [set_gd (by simp; omega)]
     have hf' : (List.replicate rows.length false).getD v false = false := by
      rw [List.getD_eq_getElem?_getD, List.getElem?_replicate]
      split <;> rfl
     by_cases e : v = f
     · subst e; rw [if_pos rfl]; exact ⟨fun _ => Wk.base, fun _ => rfl⟩
     · rw [if_neg e, hf']
       constructor
       · intro h; cases h
       · intro h; cases h; exact absurd rfl e) k (by omega)
theorem after_char (o : Int) (rows : List (List Int)) (a s : Int) (h1 : rows.length ≤ 1048576) (h2 : ∀ r ∈ rows, r.length ≤ 1048576) :
 ∃ (t : List Int) (x : Int) (u : Bool), (u = true → ∃ f m : Nat, a = f ∧ s = m ∧ f < rows.length ∧ m ≤ 8 ∧ t = stepsw rows m (unit rows.length f) ∧ x = pww o m 1) ∧ (u = true ↔ Good o rows ∧ (0 ≤ a ∧ a < rows.length) ∧ 0 ≤ s ∧ s ≤ 8) ∧ (u = false → t = [] ∧ x = 0) ∧ ∃ K, ∀ k, K ≤ k → spec_StatesAfter.f k o rows a s = some (t, x, u) ∧ impl_StatesAfter.f k o rows a s = some (t, x, u) := by
 obtain ⟨t1, ht1, K2, E2⟩ := saAsked_ev o rows a a h1 h2
 obtain ⟨t2, ht2, K3, E3⟩ := asked1_ev o rows a h1 h2
 have ht : t1 = t2 := by rw [Bool.eq_iff_iff, ht1, ht2]
 subst ht
 cases t1 with
 | false =>
  refine ⟨[], 0, false, fun h => by simp at h, ⟨fun h => by simp at h, fun h => by have := ht1.2 ⟨h.1, h.2.1, h.2.1⟩; simp at this⟩, fun _ => ⟨rfl, rfl⟩, K2 + K3 + 2, fun k hk => ⟨?_, ?_⟩⟩
  · obtain ⟨k, rfl⟩ : ∃ m, k = m + 1 := ⟨k - 1, by omega⟩
    simp [spec_StatesAfter.f, spec_StatesAfter.j0, E2 (k + 1) (by omega)]
  · obtain ⟨k, rfl⟩ : ∃ m, k = m + 1 := ⟨k - 1, by omega⟩
    simp [impl_StatesAfter.f, impl_StatesAfter.j0, E3 (k + 1) (by omega)]
 | true =>
  have hall := ht1.1 rfl
  obtain ⟨⟨g1, g2, g3, g4, g5⟩, ga, _⟩ := ht1.1 rfl
  have hsq : ∀ r ∈ rows, r.length = rows.length := fun r hr => (g5 r hr).1
  by_cases c : 0 ≤ s ∧ s ≤ 8
  · obtain ⟨m, rfl⟩ := Int.eq_ofNat_of_zero_le c.1
    obtain ⟨f, rfl⟩ := Int.eq_ofNat_of_zero_le ga.1
    have hm : m ≤ 8 := by omega
    have hw : rows.map (waysOf false) = rows := by
     rw [show (waysOf false) = (fun r => r) from rfl, List.map_id']
    refine ⟨stepsw rows m (unit rows.length f), pww o m 1, true, fun _ => ⟨f, m, rfl, rfl, by omega, hm, rfl, rfl⟩, ⟨fun _ => ⟨hall.1, ga, c⟩, fun _ => rfl⟩, fun h => by simp at h, K2 + K3 + 700, fun k hk => ⟨?_, ?_⟩⟩
    · obtain ⟨k, rfl⟩ : ∃ m, k = m + 1 := ⟨k - 1, by omega⟩
      simp only [spec_StatesAfter.f, spec_StatesAfter.j0, E2 (k + 1) (by omega), Option.bind_some, ↓reduceIte, spec_l1In.f, in_true c, Bool.not_true, Bool.false_eq_true]
      have h3 := statesAfter_spec o rows f m hm m 0 1 (by omega) k (by omega)
      refine h3.trans ?_
      rw [saAfter_ev o rows f m false hsq g4 (by omega) hm (k - m - 1) (by omega), hw]
      rfl
    · obtain ⟨k, rfl⟩ : ∃ m, k = m + 1 := ⟨k - 1, by omega⟩
      simp only [impl_StatesAfter.f, impl_StatesAfter.j0, E3 (k + 1) (by omega), Option.bind_some, ↓reduceIte, impl_within.f, in_true c, Bool.not_true, Bool.false_eq_true, only_ev o rows f (by omega) g4]
      exact statesAfter_impl o rows hsq g4 m hm m 0 1 (unit rows.length f) (by omega) (unit_len _ _) k (by omega)
  · refine ⟨[], 0, false, fun h => by simp at h, ⟨fun h => by simp at h, fun h => absurd h.2.2 c⟩, fun _ => ⟨rfl, rfl⟩, K2 + K3 + 2, fun k hk => ⟨?_, ?_⟩⟩
    · obtain ⟨k, rfl⟩ : ∃ m, k = m + 1 := ⟨k - 1, by omega⟩
      simp only [spec_StatesAfter.f, spec_StatesAfter.j0, E2 (k + 1) (by omega), Option.bind_some, ↓reduceIte, spec_l1In.f, in_false c, Bool.not_false]
    · obtain ⟨k, rfl⟩ : ∃ m, k = m + 1 := ⟨k - 1, by omega⟩
      simp only [impl_StatesAfter.f, impl_StatesAfter.j0, E3 (k + 1) (by omega), Option.bind_some, ↓reduceIte, impl_within.f, in_false c, Bool.not_false]
theorem ways_char (o : Int) (rows : List (List Int)) (a b s : Int) (h1 : rows.length ≤ 1048576) (h2 : ∀ r ∈ rows, r.length ≤ 1048576) :
 ∃ (t : Int) (u : Bool), (u = true → ∃ f m : Nat, a = f ∧ s = m ∧ f < rows.length ∧ m ≤ 8 ∧ t = rd (stepsw (rows.map (fun r => r.map sgn)) m (unit rows.length f)) b) ∧ (u = true ↔ Good o rows ∧ ((0 ≤ a ∧ a < rows.length) ∧ 0 ≤ b ∧ b < rows.length) ∧ 0 ≤ s ∧ s ≤ 8) ∧ (u = false → t = 0) ∧ ∃ K, ∀ k, K ≤ k → spec_CountWays.f k o rows a b s = some (t, u) ∧ impl_CountWays.f k o rows a b s = some (t, u) := by
 obtain ⟨t1, ht1, K2, E2⟩ := saAsked_ev o rows a b h1 h2
 obtain ⟨t2, ht2, K3, E3⟩ := asked2_ev o rows a b h1 h2
 have ht : t1 = t2 := by rw [Bool.eq_iff_iff, ht1, ht2]
 subst ht
 cases t1 with
 | false =>
  refine ⟨0, false, fun h => by simp at h, ⟨fun h => by simp at h, fun h => by have := ht1.2 ⟨h.1, h.2.1⟩; simp at this⟩, fun _ => rfl, K2 + K3 + 2, fun k hk => ⟨?_, ?_⟩⟩
  · simp [spec_CountWays.f, E2 k (by omega)]
  · obtain ⟨k, rfl⟩ : ∃ m, k = m + 1 := ⟨k - 1, by omega⟩
    simp [impl_CountWays.f, impl_CountWays.j0, E3 (k + 1) (by omega)]
 | true =>
  have hall := ht1.1 rfl
  obtain ⟨⟨g1, g2, g3, g4, g5⟩, ga, gb⟩ := ht1.1 rfl
  have hsq : ∀ r ∈ rows, r.length = rows.length := fun r hr => (g5 r hr).1
  by_cases c : 0 ≤ s ∧ s ≤ 8
  · obtain ⟨m, rfl⟩ := Int.eq_ofNat_of_zero_le c.1
    obtain ⟨f, rfl⟩ := Int.eq_ofNat_of_zero_le ga.1
    have hw : rows.map (waysOf true) = rows.map (fun r => r.map sgn) := rfl
    have hln : (stepsw (rows.map (fun r => r.map sgn)) m (unit rows.length f)).length = rows.length := by
     rw [stepsw_len m (by intro r hr; obtain ⟨r', h', rfl⟩ := List.mem_map.1 hr; rw [List.length_map, hsq r' h', unit_len]), unit_len]
    refine ⟨rd (stepsw (rows.map (fun r => r.map sgn)) m (unit rows.length f)) b, true, fun _ => ⟨f, m, rfl, rfl, by omega, by omega, rfl⟩, ⟨fun _ => ⟨hall.1, hall.2, c⟩, fun _ => rfl⟩, fun h => by simp at h, K2 + K3 + 700, fun k hk => ⟨?_, ?_⟩⟩
    · simp only [spec_CountWays.f, E2 k (by omega), Option.bind_some, ↓reduceIte, spec_l1In.f, in_true c, saAfter_ev o rows f m true hsq g4 (by omega) (by omega) k (by omega), hw]
      rw [if_pos gb.1, if_pos (by rw [hln]; exact gb.2)]
    · obtain ⟨k, rfl⟩ : ∃ m, k = m + 1 := ⟨k - 1, by omega⟩
      obtain ⟨k', hk', h3⟩ := countWays_l0 o rows f b m g4 (fun r hr => by rw [hsq r hr]; exact g4) (fun r hr => (g5 r hr).2.1) rows.length 0 (by omega) k (by omega)
      rw [List.take_zero, List.map_nil] at h3
      simp only [impl_CountWays.f, E3 (k + 1) (by omega), Option.bind_some, ↓reduceIte, impl_within.f, in_true c, Bool.not_true, impl_CountWays.j0, Bool.false_eq_true]
      refine h3.trans ?_
      have ho := only_ev o (rows.map (fun r => r.map sgn)) f (by rw [List.length_map]; omega) (by rw [List.length_map]; omega)
      rw [ho, List.length_map]
      simp only [Option.bind_some]
      exact countWays_l2 o (rows.map (fun r => r.map sgn)) b (by intro r hr; obtain ⟨r', h', rfl⟩ := List.mem_map.1 hr; rw [List.length_map, List.length_map, hsq r' h']) (by rw [List.length_map]; omega) gb.1 (by rw [List.length_map]; exact gb.2) m (by omega) m 0 (unit rows.length f) (by omega) (by rw [unit_len, List.length_map]) k' (by omega)
  · refine ⟨0, false, fun h => by simp at h, ⟨fun h => by simp at h, fun h => absurd h.2.2 c⟩, fun _ => rfl, K2 + K3 + 2, fun k hk => ⟨?_, ?_⟩⟩
    · simp only [spec_CountWays.f, E2 k (by omega), Option.bind_some, ↓reduceIte, spec_l1In.f, in_false c, Bool.false_eq_true]
    · obtain ⟨k, rfl⟩ : ∃ m, k = m + 1 := ⟨k - 1, by omega⟩
      simp only [impl_CountWays.f, impl_CountWays.j0, E3 (k + 1) (by omega), Option.bind_some, ↓reduceIte, impl_within.f, in_false c, Bool.not_false]
theorem l1Has_l0 (a : Int) (xs : List Int) (hx : xs.length ≤ 1048576) : ∀ (m j : Nat), j + m = xs.length →
 ∃ t : Bool, (t = true ↔ a ∈ xs.drop j) ∧ ∀ k, m < k → spec_l1Has.l0 k a xs (xs.length : Int) j = some t := by
 intro m
 induction m with
 | zero =>
  intro j hj
  refine ⟨false, ?_, fun k hk => ?_⟩
  · rw [List.drop_of_length_le (by omega)]; simp
  · obtain ⟨k, rfl⟩ : ∃ m, k = m + 1 := ⟨k - 1, by omega⟩
    simp only [spec_l1Has.l0]
    rw [iN_]
 | succ m ih =>
  intro j hj
  have hlt : j < xs.length := by omega
  by_cases h : xs[j] = a
  · refine ⟨true, ?_, fun k hk => ?_⟩
    · rw [List.drop_eq_getElem_cons hlt, h]; simp
    · obtain ⟨k, rfl⟩ : ∃ m, k = m + 1 := ⟨k - 1, by omega⟩
      simp only [spec_l1Has.l0]
      rw [iP_, iP_, iP_, rd_get hlt, if_pos h]
  · obtain ⟨t, ht, E⟩ := ih (j + 1) (by omega)
    refine ⟨t, ?_, fun k hk => ?_⟩
    · rw [List.drop_eq_getElem_cons hlt, ht]
      simp only [List.mem_cons]
      exact ⟨Or.inr, fun h2 => h2.resolve_left (fun e => h e.symm)⟩
    · obtain ⟨k, rfl⟩ : ∃ m, k = m + 1 := ⟨k - 1, by omega⟩
      simp only [spec_l1Has.l0]
      rw [iP_, iP_, iP_, rd_get hlt, if_neg h, w64 (x := (j : Int) + 1) (by omega) (by omega)]
      exact E k (by omega)
theorem index_l0 (a : Int) (xs : List Int) (hx : xs.length ≤ 1048576) : ∀ (m j : Nat), j + m = xs.length →
 ∃ t : Int, (t ≥ 0 ↔ a ∈ xs.drop j) ∧ ∀ k, m < k → slices_Index_int_int.l0 k xs a (xs.length : Int) j = some t := by
 intro m
 induction m with
 | zero =>
  intro j hj
  refine ⟨-1, ?_, fun k hk => ?_⟩
  · rw [List.drop_of_length_le (by omega)]; simp
  · obtain ⟨k, rfl⟩ : ∃ m, k = m + 1 := ⟨k - 1, by omega⟩
    simp only [slices_Index_int_int.l0]
    rw [iN_]
 | succ m ih =>
  intro j hj
  have hlt : j < xs.length := by omega
  by_cases h : a = xs[j]
  · refine ⟨(j : Int), ⟨fun _ => by rw [List.drop_eq_getElem_cons hlt, h]; exact List.mem_cons_self, fun _ => by omega⟩, fun k hk => ?_⟩
    · obtain ⟨k, rfl⟩ : ∃ m, k = m + 1 := ⟨k - 1, by omega⟩
      simp only [slices_Index_int_int.l0]
      rw [iP_, iP_, iP_, rd_get hlt, if_pos h]
  · obtain ⟨t, ht, E⟩ := ih (j + 1) (by omega)
    refine ⟨t, ?_, fun k hk => ?_⟩
    · rw [List.drop_eq_getElem_cons hlt, ht]
      simp only [List.mem_cons]
      exact ⟨Or.inr, fun h2 => h2.resolve_left h⟩
    · obtain ⟨k, rfl⟩ : ∃ m, k = m + 1 := ⟨k - 1, by omega⟩
      simp only [slices_Index_int_int.l0]
      rw [iP_, iP_, iP_, rd_get hlt, if_neg h, w64 (x := (j : Int) + 1) (by omega) (by omega)]
      exact E k (by omega)
theorem l1Has_is (xs : List Int) (a : Int) (hx : xs.length ≤ 1048576) (k : Nat) (hk : xs.length < k) : spec_l1Has.f k xs a = some (decide (a ∈ xs)) := by
 obtain ⟨t, ht, E⟩ := l1Has_l0 a xs hx xs.length 0 (by omega)
 rw [List.drop_zero] at ht
 have : decide (a ∈ xs) = t := by rw [Bool.eq_iff_iff, ht]; simp
 rw [this]
 exact E k hk
theorem contains_is (xs : List Int) (a : Int) (hx : xs.length ≤ 1048576) (k : Nat) (hk : xs.length < k) : slices_Contains_int_int.f k xs a = some (decide (a ∈ xs)) := by
 obtain ⟨t, ht, E⟩ := index_l0 a xs hx xs.length 0 (by omega)
 rw [List.drop_zero] at ht
 have h2 : slices_Index_int_int.f k xs a = some t := E k hk
 simp only [slices_Contains_int_int.f, h2, Option.bind_some]
 congr 1
 rw [Bool.eq_iff_iff, decide_eq_true_iff, decide_eq_true_iff]
 exact ht
def Sq (n : Nat) (rows : List (List Int)) : Prop := rows.length = n ∧ ∀ r ∈ rows, r.length = n
theorem Sq.row {n : Nat} {rows : List (List Int)} (h : Sq n rows) {p : Int} (h0 : 0 ≤ p) (h1 : p < n) : (rd_L2 rows p).length = n := by
 obtain ⟨p, rfl⟩ := Int.eq_ofNat_of_zero_le h0
 have hp : p < rows.length := by rw [h.1]; omega
 rw [rd1_get hp]
 exact h.2 _ (List.getElem_mem _)
theorem Sq.put {n : Nat} {rows : List (List Int)} (h : Sq n rows) (p : Nat) (r : List Int) (hr : r.length = n) : Sq n (rows.set p r) := by
 refine ⟨by rw [List.length_set]; exact h.1, fun x hx => ?_⟩
 rcases List.mem_or_eq_of_mem_set hx with hx | hx
 · exact h.2 x hx
 · rw [hx]; exact hr
theorem Sq.zeros (n : Nat) : Sq n (List.replicate n (List.replicate n 0)) := by
 refine ⟨List.length_replicate, fun r hr => ?_⟩
 rw [List.eq_of_mem_replicate hr]
 exact List.length_replicate
theorem in_names {names : List Int} {n : Nat} (hl : names.length = n) (hr : ∀ a ∈ names, 0 ≤ a ∧ a < (n : Int)) {j : Nat} (hj : j < n) : 0 ≤ rd names (j : Int) ∧ rd names (j : Int) < (n : Int) := by
 rw [rd_get (by rw [hl]; exact hj)]
 exact hr _ (List.getElem_mem _)
def Have (names : List Int) (j n : Nat) : Prop := ∀ i : Nat, j ≤ i → i < n → (i : Int) ∈ names
open Classical in
theorem ren_s0 (o : Int) (rows : List (List Int)) (names : List Int) (n : Nat) (hn : n ≤ 5) (hl : names.length = n) (hrl : rows.length = n) :
 ∀ (m j : Nat), j + m = n → ∀ k,
  spec_RenameStates.l0 (k + m + 30) names (n : Int) (j : Int) o rows o (List.replicate j (List.replicate n 0)) =
   if Have names j n then spec_RenameStates.l1 (k + 29) names rows (n : Int) 0 o (List.replicate n (List.replicate n 0)) else some (0, [], false) := by
 intro m
 induction m with
 | zero =>
  intro j hj k
  obtain rfl : j = n := by omega
  have e4 : Have names j j := fun i h1 h2 => absurd h2 (by omega)
  rw [if_pos e4, Nat.add_zero]
  show spec_RenameStates.l0 ((k + 29) + 1) _ _ _ _ _ _ _ = _
  simp only [spec_RenameStates.l0]
  rw [iN_, hrl]
 | succ m ih =>
  intro j hj k
  have hjj : (j : Int) < (n : Int) := by omega
  have hwj : wrap64 ((j : Int) + 1) = ((j + 1 : Nat) : Int) := by rw [w64 (by omega) (by omega)]; omega
  have hH := l1Has_is names (j : Int) (by omega) (k + m + 30) (by omega)
  have hg := ih (j + 1) (by omega) k
  have c1 : (0 : Int) ≤ (n : Int) := Int.natCast_nonneg _
  have c2 : n ≤ 35184372088832 := by omega
  have c3 : (List.replicate j (List.replicate n (0 : Int))).length < 5864062014805 := by rw [List.length_replicate]; omega
  rw [show k + (m + 1) + 30 = (k + m + 30) + 1 from by omega]
  generalize k + m + 30 = K at hg hH ⊢
  simp only [spec_RenameStates.l0]
  rw [if_pos hjj, hH, Option.bind_some]
  by_cases e : (j : Int) ∈ names
  · rw [decide_eq_true e, if_pos rfl, hrl, if_pos c1, Int.toNat_natCast, if_pos c2, if_pos c3, hwj, show List.replicate j (List.replicate n (0 : Int)) ++ [List.replicate n 0] = List.replicate (j + 1) (List.replicate n 0) from (List.replicate_succ' ..).symm, hg]
    by_cases e2 : Have names (j + 1) n
    · have e4 : Have names j n := fun i h1 h2 => by
       by_cases e3 : i = j
       · rw [e3]; exact e
       · exact e2 i (by omega) h2
      rw [if_pos e2, if_pos e4]
    · rw [if_neg e2, if_neg (fun h => e2 (fun i h1 h2 => h i (by omega) h2))]
  · rw [decide_eq_false e, if_neg (by decide), if_neg (fun h => e (h j (Nat.le_refl _) (by omega)))]
open Classical in
theorem ren_i0 (o : Int) (rows : List (List Int)) (names : List Int) (n : Nat) (hn : n ≤ 5) (hl : names.length = n) (hrl : rows.length = n) :
 ∀ (m j : Nat), j + m = n → ∀ k,
  impl_RenameStates.l0 (k + m + 30) names (n : Int) (j : Int) o rows =
   if Have names j n then impl_RenameStates.l1 (k + 29) names (n : Int) 0 o rows o [] else some (0, [], false) := by
 intro m
 induction m with
 | zero =>
  intro j hj k
  obtain rfl : j = n := by omega
  have e4 : Have names j j := fun i h1 h2 => absurd h2 (by omega)
  rw [if_pos e4, Nat.add_zero]
  show impl_RenameStates.l0 ((k + 29) + 1) _ _ _ _ _ = _
  simp only [impl_RenameStates.l0]
  rw [iN_, hl]
 | succ m ih =>
  intro j hj k
  have hjj : (j : Int) < (n : Int) := by omega
  have hwj : wrap64 ((j : Int) + 1) = ((j + 1 : Nat) : Int) := by rw [w64 (by omega) (by omega)]; omega
  have hH := contains_is names (j : Int) (by omega) (k + m + 30) (by omega)
  have hg := ih (j + 1) (by omega) k
  rw [show k + (m + 1) + 30 = (k + m + 30) + 1 from by omega]
  generalize k + m + 30 = K at hg hH ⊢
  simp only [impl_RenameStates.l0]
  rw [if_pos hjj, hH, Option.bind_some]
  by_cases e : (j : Int) ∈ names
  · rw [decide_eq_true e, if_pos rfl, hwj, hg]
    by_cases e2 : Have names (j + 1) n
    · have e4 : Have names j n := fun i h1 h2 => by
       by_cases e3 : i = j
       · rw [e3]; exact e
       · exact e2 i (by omega) h2
      rw [if_pos e2, if_pos e4]
    · rw [if_neg e2, if_neg (fun h => e2 (fun i h1 h2 => h i (by omega) h2))]
  · rw [decide_eq_false e, if_neg (by decide), if_neg (fun h => e (h j (Nat.le_refl _) (by omega)))]
theorem ren_i1 (o : Int) (rows : List (List Int)) (names : List Int) (n : Nat) (hn : n ≤ 5) (hl : names.length = n) (hrl : rows.length = n) :
 ∀ (m j : Nat), j + m = n → ∀ k,
  impl_RenameStates.l1 (k + m + 1) names (n : Int) (j : Int) o rows o (List.replicate j (List.replicate n 0)) = impl_RenameStates.l2 k names rows (n : Int) 0 o (List.replicate n (List.replicate n 0)) := by
 intro m
 induction m with
 | zero =>
  intro j hj k
  obtain rfl : j = n := by omega
  rw [Nat.add_zero]
  simp only [impl_RenameStates.l1]
  rw [iN_, hrl]
 | succ m ih =>
  intro j hj k
  have hjj : (j : Int) < (n : Int) := by omega
  have hwj : wrap64 ((j : Int) + 1) = ((j + 1 : Nat) : Int) := by rw [w64 (by omega) (by omega)]; omega
  have hg := ih (j + 1) (by omega) k
  have c1 : (0 : Int) ≤ (n : Int) := Int.natCast_nonneg _
  have c2 : n ≤ 35184372088832 := by omega
  have c3 : (List.replicate j (List.replicate n (0 : Int))).length < 5864062014805 := by rw [List.length_replicate]; omega
  rw [show k + (m + 1) + 1 = (k + m + 1) + 1 from by omega]
  generalize k + m + 1 = K at hg ⊢
  simp only [impl_RenameStates.l1]
  rw [if_pos hjj, hl, if_pos c1, Int.toNat_natCast, if_pos c2, if_pos c3, hwj, show List.replicate j (List.replicate n (0 : Int)) ++ [List.replicate n 0] = List.replicate (j + 1) (List.replicate n 0) from (List.replicate_succ' ..).symm]
  exact hg
def Tb (rows : List (List Int)) (a b : Nat) : Int := (rows.getD a []).getD b 0
theorem Tb_set {rows : List (List Int)} {p : Nat} (hp : p < rows.length) (r : List Int) (a b : Nat) : Tb (rows.set p r) a b = if a = p then r.getD b 0 else Tb rows a b := by
 unfold Tb
 rw [List.getD_eq_getElem?_getD (l := rows.set p r), List.getElem?_set]
 by_cases e : p = a
 · subst e
   simp [hp]
 · rw [if_neg e, if_neg (fun h => e h.symm), List.getD_eq_getElem?_getD (l := rows)]
theorem gd_setI {xs : List Int} {j : Nat} (h : j < xs.length) (x : Int) (v : Nat) : (xs.set j x).getD v 0 = if v = j then x else xs.getD v 0 := by
 rw [List.getD_eq_getElem?_getD, List.getD_eq_getElem?_getD, List.getElem?_set]
 by_cases e : j = v
 · subst e; simp [h]
 · rw [if_neg e, if_neg (fun h => e h.symm)]
def Nm (names : List Int) (i : Nat) : Nat := (rd names (i : Int)).toNat
theorem ren_inner2 (o : Int) (rows : List (List Int)) (names : List Int) (n : Nat) (hn : n ≤ 5) (hl : names.length = n) (hr : ∀ a ∈ names, 0 ≤ a ∧ a < (n : Int)) (hinj : ∀ i j, i < n → j < n → Nm names i = Nm names j → i = j) (i : Nat) (hi : i < n) (row : List Int) (hrow : row.length = n) :
 ∀ (m j : Nat) (out : List (List Int)), j + m = n → Sq n out →
  ∃ out', Sq n out' ∧ (∀ k, j ≤ k → k < n → Tb out' (Nm names i) (Nm names k) = row.getD k 0) ∧ (∀ a b, (a ≠ Nm names i ∨ ∀ k, j ≤ k → k < n → b ≠ Nm names k) → Tb out' a b = Tb out a b) ∧ (∀ k, spec_RenameStates.l2 (k + m + 1) names rows (n : Int) (i : Int) row (n : Int) (j : Int) o out = spec_RenameStates.l1 k names rows (n : Int) ((i + 1 : Nat) : Int) o out') ∧
   (∀ k, impl_RenameStates.l3 (k + m + 1) names (i : Int) rows (n : Int) (i : Int) row (n : Int) (j : Int) o out = impl_RenameStates.l2 k names rows (n : Int) ((i + 1 : Nat) : Int) o out') := by
 have hwi : wrap64 ((i : Int) + 1) = ((i + 1 : Nat) : Int) := by rw [w64 (by omega) (by omega)]; omega
 obtain ⟨p0, p1⟩ := in_names hl hr hi
 have hln : (names.length : Int) = (n : Int) := by rw [hl]
 have hrn : (row.length : Int) = (n : Int) := by rw [hrow]
 have hii : (i : Int) < (n : Int) := Int.ofNat_lt.2 hi
 intro m
 induction m with
 | zero =>
  intro j out hj hs
  refine ⟨out, hs, fun k h1 h2 => by omega, fun _ _ _ => rfl, fun k => ?_, fun k => ?_⟩
  · simp only [Nat.add_zero, spec_RenameStates.l2]
    rw [iN_, hwi]
  · simp only [Nat.add_zero, impl_RenameStates.l3]
    rw [iN_, hwi]
 | succ m ih =>
  intro j out hj hs
  have hjn : j < n := by omega
  have hwj : wrap64 ((j : Int) + 1) = ((j + 1 : Nat) : Int) := by rw [w64 (by omega) (by omega)]; omega
  obtain ⟨q0, q1⟩ := in_names hl hr hjn
  have hon : (out.length : Int) = (n : Int) := by rw [hs.1]
  have hlen := hs.row p0 p1
  have hln2 : ((rd_L2 out (rd names (i : Int))).length : Int) = (n : Int) := by rw [hlen]
  have hpl : Nm names i < out.length := by rw [hs.1]; unfold Nm; omega
  have hql : Nm names j < (rd_L2 out (rd names (i : Int))).length := by rw [hlen]; unfold Nm; omega
  have hrow1 : rd_L2 out (rd names (i : Int)) = out.getD (Nm names i) [] := rfl
  have hput : ∀ a b, Tb (out.set (Nm names i) ((rd_L2 out (rd names (i : Int))).set (Nm names j) (rd row (j : Int)))) a b = if a = Nm names i ∧ b = Nm names j then row.getD j 0 else Tb out a b := fun a b => by
   rw [Tb_set hpl]
   by_cases ea : a = Nm names i
   · subst ea
     rw [if_pos rfl, gd_setI hql]
     by_cases eb : b = Nm names j
     · subst eb
       rw [if_pos rfl, if_pos ⟨rfl, rfl⟩]
       unfold rd
       rw [Int.toNat_natCast]
     · rw [if_neg eb, if_neg (fun h => eb h.2), hrow1]
       rfl
   · rw [if_neg ea, if_neg (fun h => ea h.1)]
  obtain ⟨out', s1, sa, sb, s2, s3⟩ := ih (j + 1) (out.set (Nm names i) ((rd_L2 out (rd names (i : Int))).set (Nm names j) (rd row (j : Int)))) (by omega) (hs.put _ _ (by rw [List.length_set]; exact hlen))
  have hjj : (j : Int) < (n : Int) := Int.ofNat_lt.2 hjn
  have hj0 : (0 : Int) ≤ (j : Int) := Int.natCast_nonneg _
  have hi0 : (0 : Int) ≤ (i : Int) := Int.natCast_nonneg _
  refine ⟨out', s1, fun k h1 h2 => ?_, fun a b h => ?_, fun k => ?_, fun k => ?_⟩
  · by_cases e : k = j
    · subst e
      rw [sb _ _ (Or.inr (fun k' h3 h4 e2 => absurd h3 (by rw [← hinj k k' h2 h4 e2]; exact Nat.not_succ_le_self k))), hput, if_pos ⟨rfl, rfl⟩]
    · exact sa k (Nat.lt_of_le_of_ne h1 (fun h => e h.symm)) h2
  · rw [sb a b (h.imp id (fun h k h1 h2 => h k (Nat.le_of_succ_le h1) h2)), hput, if_neg (fun h2 => h.elim (fun h3 => h3 h2.1) (fun h3 => h3 j (Nat.le_refl _) hjn h2.2))]
  · rw [show k + (m + 1) + 1 = (k + m + 1) + 1 from by omega]
    have hg := s2 k
    generalize k + m + 1 = K at hg ⊢
    simp only [spec_RenameStates.l2]
    rw [if_pos hjj, if_pos hj0, hrn, if_pos hjj, hln, if_pos hjj, if_pos p0, hon, if_pos p1, if_pos q0, hln2, if_pos q1, hwj]
    exact hg
  · rw [show k + (m + 1) + 1 = (k + m + 1) + 1 from by omega]
    have hg := s3 k
    generalize k + m + 1 = K at hg ⊢
    simp only [impl_RenameStates.l3]
    rw [if_pos hjj, if_pos hj0, hrn, if_pos hjj, if_pos hi0, hln, if_pos hii, if_pos p0, hon, if_pos p1, if_pos hjj, if_pos q0, hln2, if_pos q1, hwj]
    exact hg
theorem ren_outer2 (o : Int) (rows : List (List Int)) (names : List Int) (n : Nat) (hn : n ≤ 5) (hl : names.length = n) (hr : ∀ a ∈ names, 0 ≤ a ∧ a < (n : Int)) (hinj : ∀ i j, i < n → j < n → Nm names i = Nm names j → i = j) (hrows : Sq n rows) :
 ∀ (m i : Nat) (out : List (List Int)), i + m = n → Sq n out →
  ∃ out', Sq n out' ∧ (∀ i', i ≤ i' → i' < n → ∀ k, k < n → Tb out' (Nm names i') (Nm names k) = Tb rows i' k) ∧ (∀ a b, (∀ i', i ≤ i' → i' < n → a ≠ Nm names i') → Tb out' a b = Tb out a b) ∧ ∀ k, 10 * m < k → spec_RenameStates.l1 k names rows (n : Int) (i : Int) o out = some (o, out', true) ∧ impl_RenameStates.l2 k names rows (n : Int) (i : Int) o out = some (o, out', true) := by
 have hln : (names.length : Int) = (n : Int) := by rw [hl]
 have hrl : (rows.length : Int) = (n : Int) := by rw [hrows.1]
 intro m
 induction m with
 | zero =>
  intro i out hi hs
  refine ⟨out, hs, fun i' h1 h2 => by omega, fun _ _ _ => rfl, fun k hk => ?_⟩
  obtain ⟨k, rfl⟩ : ∃ m, k = m + 1 := ⟨k - 1, by omega⟩
  simp only [spec_RenameStates.l1, impl_RenameStates.l2]
  rw [iN_, iN_]
  exact ⟨rfl, rfl⟩
 | succ m ih =>
  intro i out hi hs
  have hin : i < n := by omega
  have hir : i < rows.length := by rw [hrows.1]; exact hin
  have hrow : rows[i].length = n := hrows.2 _ (List.getElem_mem _)
  have hrt : ∀ k, rows[i].getD k 0 = Tb rows i k := fun k => by
   unfold Tb
   rw [List.getD_eq_getElem?_getD (l := rows), List.getElem?_eq_getElem hir]
   rfl
  obtain ⟨out1, g1, ga, gb, g2, g3⟩ := ren_inner2 o rows names n hn hl hr hinj i hin rows[i] hrow n 0 out (by omega) hs
  obtain ⟨out', f1, fa1, fb1, f2⟩ := ih (i + 1) out1 (by omega) g1
  obtain ⟨p0, p1⟩ := in_names hl hr hin
  have hon : (out.length : Int) = (n : Int) := by rw [hs.1]
  have hii : (i : Int) < (n : Int) := Int.ofNat_lt.2 hin
  have hi0 : (0 : Int) ≤ (i : Int) := Int.natCast_nonneg _
  have hrn : (rows[i].length : Int) = (n : Int) := by rw [hrow]
  refine ⟨out', f1, fun i' h1 h2 k hk => ?_, fun a b h => ?_, fun k hk => ?_⟩
  · by_cases e : i' = i
    · subst e
      rw [fb1 _ _ (fun i2 h3 h4 e2 => absurd h3 (by rw [← hinj i' i2 h2 h4 e2]; exact Nat.not_succ_le_self i')), ga k (Nat.zero_le _) hk, hrt]
    · exact fa1 i' (Nat.lt_of_le_of_ne h1 (fun h => e h.symm)) h2 k hk
  · rw [fb1 a b (fun i2 h3 h4 => h i2 (Nat.le_of_succ_le h3) h4), gb a b (Or.inl (h i (Nat.le_refl _) hin))]
  obtain ⟨k, rfl⟩ : ∃ r, k = (r + n + 1) + 1 := ⟨k - n - 2, by omega⟩
  have hg2 := g2 k
  have hg3 := g3 k
  obtain ⟨e1, e2⟩ := f2 k (by omega)
  generalize k + n + 1 = K at hg2 hg3 ⊢
  constructor
  · simp only [spec_RenameStates.l1]
    rw [if_pos hii, if_pos hi0, hrl, if_pos hii, hln, if_pos hii, if_pos p0, hon, if_pos p1, rd1_get hir, hrn]
    exact hg2.trans e1
  · simp only [impl_RenameStates.l2]
    rw [if_pos hii, if_pos hi0, hrl, if_pos hii, rd1_get hir, hrn]
    exact hg3.trans e2
def Rises (l : List Int) : Prop := List.Pairwise (· < ·) l
theorem such_rises (j m : Nat) (p : Nat → Prop) : Rises (such j m p) := by
 unfold such Rises
 rw [List.pairwise_map]
 have h : List.Pairwise (· < ·) (List.range' j m) := List.pairwise_lt_range'
 exact (h.filter _).imp (fun h => Int.ofNat_lt.2 h)
theorem such_nodup (j m : Nat) (p : Nat → Prop) : (such j m p).Nodup := (such_rises j m p).imp (fun h => Int.ne_of_lt h)
theorem RC.lt {rows : List (List Int)} {s i : Nat} (hs : s < rows.length) (h : RC rows (-1) s i) : i < rows.length := by
 induction h with
 | base => exact hs
 | step i k _ _ hk _ _ => exact hk
theorem both_same {rows : List (List Int)} {i x : Nat} (h : Both rows i x) : such 0 rows.length (Both rows i) = such 0 rows.length (Both rows x) :=
 such_congr (fun j _ _ => ⟨fun h2 => h.symm.trans h2, fun h2 => h.trans h2⟩)
theorem such_eq_of_len {n : Nat} {p q : Nat → Prop} (h : ∀ i, i < n → p i → q i) (hl : (such 0 n q).length ≤ (such 0 n p).length) : ∀ i, i < n → q i → p i := by
 intro i hi hq
 by_cases hp : p i
 · exact hp
 · exfalso
   have h1 := List.Nodup.length_le_of_subset (l₁ := (i : Int) :: such 0 n p) (l₂ := such 0 n q) (List.nodup_cons.2 ⟨fun hm => by
    obtain ⟨k, e, _, _, h3⟩ := such_mem.1 hm
    have : i = k := by omega
    exact hp (this ▸ h3), such_nodup 0 n p⟩) (fun x hx => by
    rcases List.mem_cons.1 hx with rfl | hx
    · exact such_mem.2 ⟨i, rfl, Nat.zero_le _, by omega, hq⟩
    · obtain ⟨k, rfl, h1, h2, h3⟩ := such_mem.1 hx
      exact such_mem.2 ⟨k, rfl, h1, h2, h k (by omega) h3⟩)
   rw [List.length_cons] at h1
   omega
theorem lasts_iff {rows : List (List Int)} {x : Nat} : Lasts rows x ↔ ∀ y, y < rows.length → RC rows (-1) x y → RC rows (-1) y x := by
 unfold Lasts
 constructor
 · intro h y hy hr
   exact (such_eq_of_len (p := Both rows x) (q := fun j => RC rows (-1) x j) (fun i _ h => h.1) (Nat.le_of_eq h.symm) y hy hr).2
 · intro h
   congr 1
   exact such_congr (fun j _ hj => ⟨fun h2 => h2.1, fun h2 => ⟨h2, h j (by omega) h2⟩⟩)
theorem lasts_some {rows : List (List Int)} (hn : 1 ≤ rows.length) : ∃ x, x < rows.length ∧ Lasts rows x := by
 suffices H : ∀ (m x : Nat), x < rows.length → (such 0 rows.length (fun j => RC rows (-1) x j)).length ≤ m → ∃ x, x < rows.length ∧ Lasts rows x from H _ 0 (by omega) (Nat.le_refl _)
 intro m
 induction m with
 | zero =>
  intro x hx h
  have : (x : Int) ∈ such 0 rows.length (fun j => RC rows (-1) x j) := such_mem.2 ⟨x, rfl, Nat.zero_le _, by omega, RC.base⟩
  have := List.length_pos_of_mem this
  omega
 | succ m ih =>
  intro x hx h
  by_cases hl : Lasts rows x
  · exact ⟨x, hx, hl⟩
  · rw [lasts_iff] at hl
    obtain ⟨y, hy⟩ := Classical.not_forall.1 hl
    obtain ⟨hy1, hy2⟩ := Classical.not_imp.1 hy
    obtain ⟨hy3, hy4⟩ := Classical.not_imp.1 hy2
    refine ih y hy1 ?_
    by_cases hle : (such 0 rows.length (fun j => RC rows (-1) y j)).length ≤ m
    · exact hle
    · exfalso
      have := such_eq_of_len (n := rows.length) (p := fun j => RC rows (-1) y j) (q := fun j => RC rows (-1) x j) (fun i _ h2 => hy3.trans h2) (by omega) x hx RC.base
      exact hy4 this
theorem end_row {o : Int} {rows : List (List Int)} (hg : Good o rows) {x : Nat} (hx : x < rows.length) (he : IsEnd o rows x) : ∀ k, k < rows.length → Edge rows x k → k = x := by
 obtain ⟨o1, o2, n1, n2, hr⟩ := hg
 obtain ⟨h1, h2, h3⟩ := hr rows[x] (List.getElem_mem _)
 have hrow : rows.getD x [] = rows[x] := by rw [List.getD_eq_getElem?_getD, List.getElem?_eq_getElem hx]; rfl
 intro k hk hE
 unfold IsEnd at he
 unfold Edge at hE
 rw [hrow] at he hE
 by_cases e : k = x
 · exact e
 · exfalso
   have key : ∀ (l : List Int), (∀ y ∈ l, 0 ≤ y) → ∀ a b : Nat, a ≠ b → l.getD a 0 + l.getD b 0 ≤ l.sum := by
    intro l
    induction l with
    | nil => intro _ a b _; simp
    | cons y t ih =>
     intro hl a b hab
     have hy := hl y List.mem_cons_self
     have ht := sum_nonneg t (fun z hz => hl z (List.mem_cons_of_mem _ hz))
     have hle : ∀ c : Nat, t.getD c 0 ≤ t.sum := fun c => by
      by_cases hc : c < t.length
      · have e1 : t.getD c 0 = t[c] := by rw [List.getD_eq_getElem?_getD, List.getElem?_eq_getElem hc]; rfl
        rw [e1]
        exact le_sum t (fun z hz => hl z (List.mem_cons_of_mem _ hz)) _ (List.getElem_mem _)
      · have e1 : t.getD c 0 = 0 := by rw [List.getD_eq_getElem?_getD, List.getElem?_eq_none (by omega)]; rfl
        omega
     rw [List.sum_cons]
     match a, b, hab with
     | 0, 0, h => exact absurd rfl h
     | 0, b + 1, _ =>
      have := hle b
      simp only [List.getD_cons_zero, List.getD_cons_succ]
      omega
     | a + 1, 0, _ =>
      have := hle a
      simp only [List.getD_cons_zero, List.getD_cons_succ]
      omega
     | a + 1, b + 1, h =>
      have := ih (fun z hz => hl z (List.mem_cons_of_mem _ hz)) a b (by omega)
      simp only [List.getD_cons_succ]
      omega
   have := key rows[x] h2 x k (fun h => e h.symm)
   omega
theorem end_reach {o : Int} {rows : List (List Int)} (hg : Good o rows) {x : Nat} (hx : x < rows.length) (he : IsEnd o rows x) {y : Nat} (h : RC rows (-1) x y) : y = x := by
 induction h with
 | base => rfl
 | step i k _ _ hk hE ih =>
  subst ih
  exact end_row hg hx he k hk hE
theorem end_lasts {o : Int} {rows : List (List Int)} (hg : Good o rows) {x : Nat} (hx : x < rows.length) (he : IsEnd o rows x) : Lasts rows x :=
 lasts_iff.2 (fun y _ h => by rw [end_reach hg hx he h]; exact RC.base)
theorem classes_flat (rows : List (List Int)) : ((classList rows 0 rows.length).map List.length).sum = rows.length := by
 rw [← List.length_flatten]
 have hmem : ∀ x : Int, x ∈ (classList rows 0 rows.length).flatten ↔ ∃ i : Nat, x = i ∧ i < rows.length := by
  intro x
  rw [List.mem_flatten]
  constructor
  · rintro ⟨c, hc, hx⟩
    unfold classList at hc
    obtain ⟨i, _, rfl⟩ := List.mem_map.1 hc
    obtain ⟨k, rfl, _, h2, _⟩ := such_mem.1 hx
    exact ⟨k, rfl, by omega⟩
  · rintro ⟨i, rfl, hi⟩
    obtain ⟨f, t, e, h1, h2, h3, h4⟩ := such_first (j := 0) (m := rows.length) (p := Both rows i) ⟨i, by omega, by omega, Both.refl _ _⟩
    have hF : Fst rows f := fun j hj hb => h4 j (Nat.zero_le _) hj (h3.trans hb)
    refine ⟨such 0 rows.length (Both rows f), ?_, such_mem.2 ⟨i, rfl, Nat.zero_le _, by omega, h3.symm⟩⟩
    unfold classList
    exact List.mem_map.2 ⟨f, List.mem_filter.2 ⟨List.mem_range'_1.2 ⟨Nat.zero_le _, by omega⟩, by simpa using hF⟩, rfl⟩
 have hnd : ((classList rows 0 rows.length).flatten).Nodup := by
  unfold List.Nodup
  rw [List.pairwise_flatten]
  constructor
  · intro c hc
    unfold classList at hc
    obtain ⟨i, _, rfl⟩ := List.mem_map.1 hc
    exact such_nodup _ _ _
  · unfold classList
    rw [List.pairwise_map]
    have hp : List.Pairwise (· < ·) (List.range' 0 rows.length) := List.pairwise_lt_range'
    have hp2 := hp.filter (fun i => @decide (Fst rows i) (Classical.propDecidable _))
    refine List.Pairwise.imp_of_mem ?_ hp2
    intro a b ha hb hab
    have hFb : Fst rows b := by have := (List.mem_filter.1 hb).2; simpa using this
    intro x hx y hx2 exy
    obtain ⟨k, rfl, _, _, h3⟩ := such_mem.1 hx
    obtain ⟨k2, e, _, _, h4⟩ := such_mem.1 hx2
    rw [← exy] at e
    have : k = k2 := by omega
    subst this
    exact hFb a hab (h4.trans h3.symm)
 have hr : ((List.range rows.length).map (fun v : Nat => (v : Int))).Nodup := by
  have : List.Pairwise (fun a b : Nat => a ≠ b) (List.range rows.length) := List.nodup_range
  unfold List.Nodup
  rw [List.pairwise_map]
  exact this.imp (fun h e => h (Int.ofNat_inj.1 e))
 have l1 := List.Nodup.length_le_of_subset hnd (l₂ := (List.range rows.length).map (fun v : Nat => (v : Int))) (fun x hx => by
  obtain ⟨i, rfl, hi⟩ := (hmem x).1 hx
  exact List.mem_map.2 ⟨i, List.mem_range.2 hi, rfl⟩)
 have l2 := List.Nodup.length_le_of_subset hr (l₂ := (classList rows 0 rows.length).flatten) (fun x hx => by
  obtain ⟨i, hi, rfl⟩ := List.mem_map.1 hx
  exact (hmem _).2 ⟨i, rfl, List.mem_range.1 hi⟩)
 rw [List.length_map, List.length_range] at l1 l2
 omega
theorem nm_lt {names : List Int} {n : Nat} (hl : names.length = n) (hr : ∀ a ∈ names, 0 ≤ a ∧ a < (n : Int)) {i : Nat} (hi : i < n) : Nm names i < n := by
 obtain ⟨h0, h1⟩ := in_names hl hr hi
 unfold Nm
 omega
theorem nm_onto {names : List Int} {n : Nat} (hl : names.length = n) (hh : Have names 0 n) {v : Nat} (hv : v < n) : ∃ k, k < n ∧ Nm names k = v := by
 obtain ⟨k, hk, e⟩ := List.getElem_of_mem (hh v (Nat.zero_le _) hv)
 refine ⟨k, by omega, ?_⟩
 unfold Nm
 rw [rd_get hk, e, Int.toNat_natCast]
theorem nm_inj {names : List Int} {n : Nat} (hl : names.length = n) (hh : Have names 0 n) : ∀ i j, i < n → j < n → Nm names i = Nm names j → i = j := by
 have key : ∀ i j, i < j → j < n → Nm names i = Nm names j → False := by
  intro i j hij hj e
  have h1 := List.Nodup.length_le_of_subset (l₁ := List.range n) (l₂ := ((List.range n).erase j).map (Nm names)) List.nodup_range (fun v hv => by
   obtain ⟨k, hk, ek⟩ := nm_onto hl hh (List.mem_range.1 hv)
   by_cases c : k = j
   · exact List.mem_map.2 ⟨i, (List.mem_erase_of_ne (by omega)).2 (List.mem_range.2 (by omega)), by rw [e, ← c]; exact ek⟩
   · exact List.mem_map.2 ⟨k, (List.mem_erase_of_ne c).2 (List.mem_range.2 hk), ek⟩)
  rw [List.length_map, List.length_erase_of_mem (List.mem_range.2 hj), List.length_range] at h1
  omega
 intro i j hi hj e
 rcases Nat.lt_trichotomy i j with h | h | h
 · exact absurd e (fun e => key i j h hj e)
 · exact h
 · exact absurd e (fun e => key j i h hi e.symm)
theorem perm_sum {l1 l2 : List Int} (h : l1.Perm l2) : l1.sum = l2.sum := by
 induction h with
 | nil => rfl
 | cons x _ ih => rw [List.sum_cons, List.sum_cons, ih]
 | swap x y l => simp only [List.sum_cons]; omega
 | trans _ _ h1 h2 => exact h1.trans h2
theorem Tb_get {rows : List (List Int)} {a b : Nat} (ha : a < rows.length) (hb : b < rows[a].length) : Tb rows a b = rows[a][b] := by
 unfold Tb
 rw [List.getD_eq_getElem?_getD (l := rows), List.getElem?_eq_getElem ha, Option.getD_some, List.getD_eq_getElem?_getD, List.getElem?_eq_getElem hb, Option.getD_some]
structure Ren (names : List Int) (n : Nat) (rows other : List (List Int)) : Prop where
 sq : Sq n rows
 sq' : Sq n other
 lt : ∀ i, i < n → Nm names i < n
 onto : ∀ v, v < n → ∃ k, k < n ∧ Nm names k = v
 inj : ∀ i j, i < n → j < n → Nm names i = Nm names j → i = j
 tb : ∀ i, i < n → ∀ k, k < n → Tb other (Nm names i) (Nm names k) = Tb rows i k
section
variable {names : List Int} {n : Nat} {rows other : List (List Int)}
theorem Ren.edge (h : Ren names n rows other) {i k : Nat} (hi : i < n) (hk : k < n) : Edge other (Nm names i) (Nm names k) ↔ Edge rows i k := by
 have := h.tb i hi k hk
 unfold Tb at this
 unfold Edge
 rw [this]
theorem Ren.rc (h : Ren names n rows other) {i j : Nat} (hi : i < n) (hr : RC rows (-1) i j) : j < n ∧ RC other (-1) (Nm names i) (Nm names j) := by
 induction hr with
 | base => exact ⟨hi, RC.base⟩
 | step u v _ hc hv he ih =>
  obtain ⟨h1, h2⟩ := ih
  have hv' : v < n := by rw [← h.sq.1]; exact hv
  exact ⟨hv', RC.step _ _ h2 (by omega) (by rw [h.sq'.1]; exact h.lt v hv') ((h.edge h1 hv').2 he)⟩
theorem Ren.cr (h : Ren names n rows other) {i b : Nat} (hi : i < n) (hr : RC other (-1) (Nm names i) b) : ∃ j, j < n ∧ b = Nm names j ∧ RC rows (-1) i j := by
 induction hr with
 | base => exact ⟨i, hi, rfl, RC.base⟩
 | step u v _ hc hv he ih =>
  obtain ⟨j, h1, h2, h3⟩ := ih
  obtain ⟨k, hk, e⟩ := h.onto v (by rw [← h.sq'.1]; exact hv)
  refine ⟨k, hk, e.symm, RC.step j k h3 (by omega) (by rw [h.sq.1]; exact hk) ?_⟩
  rw [h2, ← e] at he
  exact (h.edge h1 hk).1 he
theorem one_all {rows : List (List Int)} (hn : 1 ≤ rows.length) : (classList rows 0 rows.length).length = 1 ↔ ∀ i j, i < rows.length → j < rows.length → RC rows (-1) i j := by
 rw [one_class rows hn, such_all]
 constructor
 · intro h i j hi hj
   exact (h i (Nat.zero_le _) (by omega)).2.trans (h j (Nat.zero_le _) (by omega)).1
 · intro h i _ hi
   exact ⟨h 0 i (by omega) (by omega), h i 0 (by omega) (by omega)⟩
theorem Ren.one (h : Ren names n rows other) (hn : 1 ≤ n) : (classList rows 0 rows.length).length = 1 ↔ (classList other 0 other.length).length = 1 := by
 rw [one_all (by rw [h.sq.1]; exact hn), one_all (by rw [h.sq'.1]; exact hn), h.sq.1, h.sq'.1]
 constructor
 · intro hall a b ha hb
   obtain ⟨i, hi, rfl⟩ := h.onto a ha
   obtain ⟨j, hj, rfl⟩ := h.onto b hb
   exact (h.rc hi (hall i j hi hj)).2
 · intro hall i j hi hj
   obtain ⟨k, hk, e, hr⟩ := h.cr hi (hall _ _ (h.lt i hi) (h.lt j hj))
   rw [h.inj j k hj hk e]
   exact hr
theorem Ren.good (h : Ren names n rows other) {o : Int} (hg : Good o rows) : Good o other := by
 obtain ⟨o1, o2, n1, n2, hr⟩ := hg
 have hl := h.sq.1
 have hl' := h.sq'.1
 refine ⟨o1, o2, by omega, by omega, fun r hrm => ?_⟩
 obtain ⟨a, ha, rfl⟩ := List.getElem_of_mem hrm
 obtain ⟨i, hi, ea⟩ := h.onto a (by omega)
 have hir : i < rows.length := by omega
 obtain ⟨g1, g2, g3⟩ := hr rows[i] (List.getElem_mem _)
 have hra : other[a].length = n := h.sq'.2 _ (List.getElem_mem _)
 have hri : rows[i].length = n := h.sq.2 _ (List.getElem_mem _)
 have hval : ∀ k (hk : k < n), other[a][Nm names k]'(by rw [hra]; exact h.lt k hk) = rows[i][k]'(by omega) := by
  intro k hk
  have e := h.tb i hi k hk
  rw [ea, Tb_get ha (by rw [hra]; exact h.lt k hk), Tb_get hir (by omega)] at e
  exact e
 refine ⟨by omega, fun x hx => ?_, ?_⟩
 · obtain ⟨b, hb, rfl⟩ := List.getElem_of_mem hx
   obtain ⟨k, hk, eb⟩ := h.onto b (by omega)
   subst eb
   rw [hval k hk]
   exact g2 _ (List.getElem_mem _)
 · have hp : ((List.range n).map (Nm names)).Perm (List.range n) := by
    rw [List.perm_ext_iff_of_nodup]
    · intro v
      constructor
      · intro hv
        obtain ⟨k, hk, rfl⟩ := List.mem_map.1 hv
        exact List.mem_range.2 (h.lt k (List.mem_range.1 hk))
      · intro hv
        obtain ⟨k, hk, e⟩ := h.onto v (List.mem_range.1 hv)
        exact List.mem_map.2 ⟨k, List.mem_range.2 hk, e⟩
    · unfold List.Nodup
      rw [List.pairwise_map]
      have hnd : List.Pairwise (fun a b : Nat => a ≠ b) (List.range n) := List.nodup_range
      exact hnd.imp_of_mem (fun ha hb hab e => hab (h.inj _ _ (List.mem_range.1 ha) (List.mem_range.1 hb) e))
    · exact List.nodup_range
   have e1 : other[a] = (List.range n).map (fun b => other[a].getD b 0) := by
    apply List.ext_getElem
    · simp [hra]
    · intro b hb1 hb2
      simp [List.getElem_map, List.getD_eq_getElem?_getD, List.getElem?_eq_getElem hb1]
   have e2 : rows[i] = ((List.range n).map (Nm names)).map (fun b => other[a].getD b 0) := by
    apply List.ext_getElem
    · simp [hri]
    · intro k hk1 hk2
      have hk : k < n := by omega
      have := hval k hk
      rw [List.getElem_map, List.getElem_map, List.getElem_range, List.getD_eq_getElem?_getD, List.getElem?_eq_getElem (by rw [hra]; exact h.lt k hk)]
      exact this.symm
   have e3 := perm_sum (hp.map (fun b => other[a].getD b 0))
   rw [← e2, ← e1, g3] at e3
   exact e3.symm
end
theorem rename_char (o : Int) (rows : List (List Int)) (names : List Int) (h1 : rows.length ≤ 1048576) (h2 : ∀ r ∈ rows, r.length ≤ 1048576) (h3 : names.length ≤ 1048576) :
 ∃ (x : Int) (t : List (List Int)) (u : Bool), (u = true → Good o rows ∧ names.length = rows.length ∧ x = o ∧ Ren names rows.length rows t ∧ ∀ a ∈ names, 0 ≤ a ∧ a < (rows.length : Int)) ∧ (u = false → t = []) ∧ t.length ≤ 1048576 ∧ (∀ r ∈ t, r.length ≤ 1048576) ∧ ∃ K, ∀ k, K ≤ k → spec_RenameStates.f k o rows names = some (x, t, u) ∧ impl_RenameStates.f k o rows names = some (x, t, u) := by
 obtain ⟨t1, ht1, K1, E1⟩ := saGood_ev o rows h1 h2
 obtain ⟨t2, ht2, K2, E2⟩ := areWith_ev o rows names h1 h2 h3
 have hfalse : ∀ (K : Nat), (∀ k, K ≤ k → spec_RenameStates.f k o rows names = some (0, [], false) ∧ impl_RenameStates.f k o rows names = some (0, [], false)) → ∃ (x : Int) (t : List (List Int)) (u : Bool), (u = true → Good o rows ∧ names.length = rows.length ∧ x = o ∧ Ren names rows.length rows t ∧ ∀ a ∈ names, 0 ≤ a ∧ a < (rows.length : Int)) ∧ (u = false → t = []) ∧ t.length ≤ 1048576 ∧ (∀ r ∈ t, r.length ≤ 1048576) ∧ ∃ K, ∀ k, K ≤ k → spec_RenameStates.f k o rows names = some (x, t, u) ∧ impl_RenameStates.f k o rows names = some (x, t, u) :=
  fun K h => ⟨0, [], false, fun h_ => by simp at h_, fun _ => rfl, by simp, by simp, K, h⟩
 cases t1 with
 | false =>
  have e2 : t2 = false := by
   cases t2 with
   | false => rfl
   | true => exact absurd (ht1.2 (ht2.1 rfl).1) (by decide)
  subst e2
  refine hfalse (K1 + K2 + 1) (fun k hk => ?_)
  obtain ⟨k, rfl⟩ : ∃ r, k = r + 1 := ⟨k - 1, by omega⟩
  simp [spec_RenameStates.f, impl_RenameStates.f, E1 (k + 1) (by omega), E2 (k + 1) (by omega), spec_RenameStates.j0, impl_RenameStates.j0]
 | true =>
  obtain ⟨o1, o2, n1, n2, hg⟩ := ht1.1 rfl
  have hgood := ht1.1 rfl
  obtain ⟨t3, ht3, E3⟩ := l1All_l0 0 (wrap64 ((rows.length : Int) - 1)) names h3 names.length 0 (by omega)
  rw [List.drop_zero, w64 (by omega) (by omega)] at ht3
  have e23 : t2 = t3 := by
   rw [Bool.eq_iff_iff, ht2, ht3]
   constructor
   · intro h x hx
     have := h.2 x hx
     omega
   · intro h
     refine ⟨hgood, fun x hx => ?_⟩
     have := h x hx
     omega
  subst e23
  by_cases cl : names.length = rows.length
  · have cl' : (names.length : Int) = (rows.length : Int) := by rw [cl]
    have cln : ((names.length : Int) != (rows.length : Int)) = false := by rw [cl']; simp
    cases t2 with
    | false =>
     refine hfalse (K1 + K2 + names.length + 2) (fun k hk => ?_)
     obtain ⟨k, rfl⟩ : ∃ r, k = r + 1 := ⟨k - 1, by omega⟩
     have e3 : spec_l1All.f (k + 1) names 0 (wrap64 ((rows.length : Int) - 1)) = some false := E3 (k + 1) (by omega)
     simp only [spec_RenameStates.f, impl_RenameStates.f, E1 (k + 1) (by omega), E2 (k + 1) (by omega), e3, Option.bind_some, ↓reduceIte, Bool.not_false, if_pos cl', Bool.false_eq_true, spec_RenameStates.j0, impl_RenameStates.j0]
     exact ⟨trivial, trivial⟩
    | true =>
     have hr := (ht2.1 rfl).2
     have hsq : Sq rows.length rows := ⟨rfl, fun r hr => (hg r hr).1⟩
     have hrl : (names.length : Int) = (rows.length : Int) := cl'
     have hs0 := ren_s0 o rows names rows.length n2 cl rfl rows.length 0 (by omega)
     have hi0 := ren_i0 o rows names rows.length n2 cl rfl rows.length 0 (by omega)
     have hi1 := ren_i1 o rows names rows.length n2 cl rfl rows.length 0 (by omega)
     have hspec : ∀ k, K1 + K2 + names.length + 100 ≤ k → spec_RenameStates.f (k + rows.length + 31) o rows names = spec_RenameStates.l0 (k + rows.length + 30) names (rows.length : Int) 0 o rows o [] := by
      intro k hk
      have e3 : spec_l1All.f (k + rows.length + 31) names 0 (wrap64 ((rows.length : Int) - 1)) = some true := E3 _ (by omega)
      simp only [spec_RenameStates.f, E1 (k + rows.length + 31) (by omega), e3, Option.bind_some, ↓reduceIte, Bool.not_true, if_pos cl', Bool.false_eq_true, spec_RenameStates.j0]
     have himpl : ∀ k, K1 + K2 + names.length + 100 ≤ k → impl_RenameStates.f (k + rows.length + 31) o rows names = impl_RenameStates.l0 (k + rows.length + 30) names (rows.length : Int) 0 o rows := by
      intro k hk
      simp only [impl_RenameStates.f, E2 (k + rows.length + 31) (by omega), Option.bind_some, ↓reduceIte, cln, Bool.false_eq_true, impl_RenameStates.j0]
      rw [hrl]
     by_cases ch : Have names 0 rows.length
     · obtain ⟨out, hout, htb, _, hev⟩ := ren_outer2 o rows names rows.length n2 cl hr (nm_inj cl ch) hsq rows.length 0 _ (by omega) (Sq.zeros rows.length)
       refine ⟨o, out, true, fun _ => ⟨hgood, cl, rfl, ⟨hsq, hout, fun i hi => nm_lt cl hr hi, fun v hv => nm_onto cl ch hv, nm_inj cl ch, fun i hi k hk => htb i (Nat.zero_le _) hi k hk⟩, hr⟩, fun h_ => by simp at h_, by rw [hout.1]; exact h1, fun r hr => by rw [hout.2 r hr]; exact h1, K1 + K2 + names.length + rows.length + 1000, fun k hk => ?_⟩
       obtain ⟨k, rfl⟩ : ∃ r, k = r + rows.length + 31 := ⟨k - rows.length - 31, by omega⟩
       rw [hspec k (by omega), himpl k (by omega)]
       have a1 := hs0 k
       have a2 := hi0 k
       rw [if_pos ch] at a1 a2
       obtain ⟨j, hj⟩ : ∃ j, k + 29 = j + rows.length + 1 := ⟨k + 29 - rows.length - 1, by omega⟩
       have a3 := hi1 j
       rw [← hj] at a3
       exact ⟨a1.trans (hev (k + 29) (by omega)).1, a2.trans (a3.trans (hev j (by omega)).2)⟩
     · refine hfalse (K1 + K2 + names.length + rows.length + 1000) (fun k hk => ?_)
       obtain ⟨k, rfl⟩ : ∃ r, k = r + rows.length + 31 := ⟨k - rows.length - 31, by omega⟩
       rw [hspec k (by omega), himpl k (by omega)]
       have a1 := hs0 k
       have a2 := hi0 k
       rw [if_neg ch] at a1 a2
       exact ⟨a1, a2⟩
  · have cl' : ¬ (names.length : Int) = (rows.length : Int) := by omega
    have cln : ((names.length : Int) != (rows.length : Int)) = true := bne_iff_ne.2 cl'
    refine hfalse (K1 + K2 + 1) (fun k hk => ?_)
    obtain ⟨k, rfl⟩ : ∃ r, k = r + 1 := ⟨k - 1, by omega⟩
    have hs : spec_RenameStates.f (k + 1) o rows names = some (0, [], false) := by
     simp only [spec_RenameStates.f, E1 (k + 1) (by omega), Option.bind_some, ↓reduceIte, if_neg cl', spec_RenameStates.j0]
    refine ⟨hs, ?_⟩
    cases t2 <;> simp only [impl_RenameStates.f, E2 (k + 1) (by omega), Option.bind_some, ↓reduceIte, cln, Bool.false_eq_true, impl_RenameStates.j0]
theorem addw_facts (n : Int) (hn : 0 ≤ n) : ∀ (out row : List Int), out.length = row.length → (∀ x ∈ out, 0 ≤ x) → (∀ x ∈ row, 0 ≤ x) → out.sum + n * row.sum ≤ 1000000000000 →
 (∀ x ∈ addw out n row, 0 ≤ x) ∧ (addw out n row).sum = out.sum + n * row.sum ∧ ∀ j : Nat, (0 < (addw out n row).getD j 0 ↔ 0 < out.getD j 0 ∨ (0 < n ∧ 0 < row.getD j 0))
 | [], [], _, _, _, _ => by
  refine ⟨fun x hx => by simp [addw] at hx, by simp [addw], fun j => by simp [addw]⟩
 | [], _ :: _, h, _, _, _ => by simp at h
 | _ :: _, [], h, _, _, _ => by simp at h
 | x :: out, m :: row, h, ho, hr, hb => by
  have hx := ho x List.mem_cons_self
  have hm := hr m List.mem_cons_self
  have so := sum_nonneg out (fun y hy => ho y (List.mem_cons_of_mem _ hy))
  have sr := sum_nonneg row (fun y hy => hr y (List.mem_cons_of_mem _ hy))
  have p1 := Int.mul_nonneg hn hm
  have p2 := Int.mul_nonneg hn sr
  rw [List.sum_cons, List.sum_cons, Int.mul_add] at hb
  obtain ⟨i1, i2, i3⟩ := addw_facts n hn out row (by simpa using h) (fun y hy => ho y (List.mem_cons_of_mem _ hy)) (fun y hy => hr y (List.mem_cons_of_mem _ hy)) (by omega)
  have e : addw (x :: out) n (m :: row) = (x + n * m) :: addw out n row := by
   show wrap64 (x + wrap64 (n * m)) :: addw out n row = _
   rw [w64 (x := n * m) (by omega) (by omega), w64 (by omega) (by omega)]
  rw [e]
  refine ⟨fun y hy => ?_, ?_, fun j => ?_⟩
  · rcases List.mem_cons.1 hy with rfl | hy
    · omega
    · exact i1 y hy
  · rw [List.sum_cons, List.sum_cons, List.sum_cons, i2, Int.mul_add]
    omega
  · cases j with
    | succ j => simpa using i3 j
    | zero =>
     simp only [List.getD_cons_zero]
     constructor
     · intro h0
       by_cases hx0 : 0 < x
       · exact Or.inl hx0
       · right
         by_cases hn0 : 0 < n
         · refine ⟨hn0, ?_⟩
           by_cases hm0 : 0 < m
           · exact hm0
           · have : m = 0 := by omega
             rw [this, Int.mul_zero] at h0
             omega
         · have : n = 0 := by omega
           rw [this, Int.zero_mul] at h0
           omega
     · rintro (h0 | ⟨h0, h1⟩)
       · omega
       · have := Int.mul_pos h0 h1
         omega
theorem runs_facts : ∀ (rs : List (List Int)) (ns out : List Int), rs.length = ns.length → (∀ r ∈ rs, r.length = out.length ∧ (∀ x ∈ r, 0 ≤ x) ∧ r.sum ≤ 10) → (∀ x ∈ ns, 0 ≤ x) → (∀ x ∈ out, 0 ≤ x) → out.sum + 10 * ns.sum ≤ 1000000000000 →
 (∀ x ∈ runs out rs ns, 0 ≤ x) ∧ (runs out rs ns).sum ≤ out.sum + 10 * ns.sum ∧ (∀ o : Int, (∀ r ∈ rs, r.sum = o) → (runs out rs ns).sum = out.sum + ns.sum * o) ∧ ∀ j : Nat, (0 < (runs out rs ns).getD j 0 ↔ 0 < out.getD j 0 ∨ ∃ i : Nat, 0 < ns.getD i 0 ∧ 0 < (rs.getD i []).getD j 0)
 | [], [], out, _, _, _, ho, _ => by
  refine ⟨by simpa [runs] using ho, by simp [runs], fun o _ => by simp [runs], fun j => by simp [runs]⟩
 | [], _ :: _, _, h, _, _, _, _ => by simp at h
 | _ :: _, [], _, h, _, _, _, _ => by simp at h
 | r :: rs, n :: ns, out, h, hr, hn, ho, hb => by
  obtain ⟨r1, r2, r3⟩ := hr r List.mem_cons_self
  have hn0 := hn n List.mem_cons_self
  have sn := sum_nonneg ns (fun y hy => hn y (List.mem_cons_of_mem _ hy))
  have sr := sum_nonneg r r2
  have p1 : n * r.sum ≤ n * 10 := Int.mul_le_mul_of_nonneg_left r3 hn0
  rw [List.sum_cons] at hb
  obtain ⟨a1, a2, a3⟩ := addw_facts n hn0 out r r1.symm ho r2 (by omega)
  have hl := addw_len (n := n) r1.symm
  obtain ⟨b1, b2, b3, b4⟩ := runs_facts rs ns (addw out n r) (by simpa using h) (fun x hx => by rw [hl]; exact hr x (List.mem_cons_of_mem _ hx)) (fun y hy => hn y (List.mem_cons_of_mem _ hy)) a1 (by omega)
  refine ⟨b1, ?_, fun o ho2 => ?_, fun j => ?_⟩
  · rw [runs, List.sum_cons]
    omega
  · have e1 := b3 o (fun x hx => ho2 x (List.mem_cons_of_mem _ hx))
    have e2 := ho2 r List.mem_cons_self
    rw [runs, List.sum_cons, e1, a2, e2, Int.add_mul]
    omega
  · rw [runs, b4 j, a3 j]
    constructor
    · rintro ((h1 | h1) | ⟨i, h1, h2⟩)
      · exact Or.inl h1
      · exact Or.inr ⟨0, by simpa using h1.1, by simpa using h1.2⟩
      · exact Or.inr ⟨i + 1, by simpa using h1, by simpa using h2⟩
    · rintro (h1 | ⟨i, h1, h2⟩)
      · exact Or.inl (Or.inl h1)
      · cases i with
        | zero => exact Or.inl (Or.inr ⟨by simpa using h1, by simpa using h2⟩)
        | succ i => exact Or.inr ⟨i, by simpa using h1, by simpa using h2⟩
def Steppy (rows : List (List Int)) : Prop := ∀ r ∈ rows, r.length = rows.length ∧ (∀ x ∈ r, 0 ≤ x) ∧ r.sum ≤ 10
theorem stepw_facts {rows : List (List Int)} (h : Steppy rows) {v : List Int} (hv : v.length = rows.length) (h0 : ∀ x ∈ v, 0 ≤ x) (hb : 10 * v.sum ≤ 1000000000000) :
 (stepw rows v).length = rows.length ∧ (∀ x ∈ stepw rows v, 0 ≤ x) ∧ (stepw rows v).sum ≤ 10 * v.sum ∧ (∀ o : Int, (∀ r ∈ rows, r.sum = o) → (stepw rows v).sum = v.sum * o) ∧ ∀ j : Nat, (0 < (stepw rows v).getD j 0 ↔ ∃ i : Nat, 0 < v.getD i 0 ∧ Edge rows i j) := by
 have hz : (List.replicate v.length (0 : Int)).sum = 0 := by simp
 have hg : ∀ j : Nat, (List.replicate v.length (0 : Int)).getD j 0 = 0 := fun j => by
  rw [List.getD_eq_getElem?_getD, List.getElem?_replicate]
  split <;> rfl
 obtain ⟨b1, b2, b3, b4⟩ := runs_facts rows v (List.replicate v.length 0) hv.symm (fun r hr => by rw [List.length_replicate, hv]; exact h r hr) h0 (fun x hx => by rw [List.eq_of_mem_replicate hx]; exact Int.le_refl 0) (by omega)
 refine ⟨by rw [stepw_len (fun r hr => by rw [hv]; exact (h r hr).1)]; exact hv, b1, by unfold stepw; omega, fun o ho => by unfold stepw; rw [b3 o ho, hz, Int.zero_add], fun j => ?_⟩
 unfold stepw
 rw [b4 j, hg]
 constructor
 · rintro (h1 | h1)
   · exact absurd h1 (by decide)
   · exact h1
 · exact Or.inr
theorem edge_lt {rows : List (List Int)} (hsq : ∀ r ∈ rows, r.length = rows.length) {i j : Nat} (h : Edge rows i j) : i < rows.length ∧ j < rows.length := by
 unfold Edge at h
 by_cases hi : i < rows.length
 · refine ⟨hi, ?_⟩
   have e : rows.getD i [] = rows[i] := by rw [List.getD_eq_getElem?_getD, List.getElem?_eq_getElem hi]; rfl
   rw [e] at h
   by_cases hj : j < rows[i].length
   · rw [hsq _ (List.getElem_mem _)] at hj
     exact hj
   · rw [List.getD_eq_getElem?_getD, List.getElem?_eq_none (by omega)] at h
     exact absurd h (by simp)
 · have e : rows.getD i [] = [] := by rw [List.getD_eq_getElem?_getD, List.getElem?_eq_none (by omega)]; rfl
   rw [e] at h
   simp at h
theorem unit_facts {n f : Nat} (hf : f < n) : (unit n f).length = n ∧ (∀ x ∈ unit n f, 0 ≤ x) ∧ (unit n f).sum = 1 ∧ ∀ j : Nat, (0 < (unit n f).getD j 0 ↔ j = f) := by
 have hg : ∀ j : Nat, (unit n f).getD j 0 = if j = f then 1 else 0 := fun j => by
  unfold unit
  rw [List.getD_eq_getElem?_getD, List.getElem?_set]
  by_cases e : f = j
  · subst e
    simp [hf]
  · rw [if_neg e, if_neg (fun h => e h.symm), List.getElem?_replicate]
    split <;> rfl
 have hs : ∀ (n f : Nat), f < n → ((List.replicate n (0 : Int)).set f 1).sum = 1 := by
  intro n
  induction n with
  | zero => intro f h; omega
  | succ n ih =>
   intro f h
   cases f with
   | zero => simp [List.replicate_succ]
   | succ f =>
    rw [List.replicate_succ, List.set_cons_succ, List.sum_cons, ih f (by omega)]
    rfl
 refine ⟨by simp [unit], fun x hx => ?_, hs n f hf, fun j => ?_⟩
 · unfold unit at hx
   rcases List.mem_or_eq_of_mem_set hx with hx | hx
   · rw [List.eq_of_mem_replicate hx]; exact Int.le_refl 0
   · rw [hx]; decide
 · rw [hg]
   by_cases e : j = f
   · simp [e]
   · simp [e]
theorem stepsw_facts {rows : List (List Int)} (h : Steppy rows) {f : Nat} (hf : f < rows.length) : ∀ m : Nat, m ≤ 8 →
 (stepsw rows m (unit rows.length f)).length = rows.length ∧ (∀ x ∈ stepsw rows m (unit rows.length f), 0 ≤ x) ∧ (stepsw rows m (unit rows.length f)).sum ≤ 10 ^ m ∧ ∀ j : Nat, (0 < (stepsw rows m (unit rows.length f)).getD j 0 ↔ Wk rows f j m) := by
 intro m
 induction m with
 | zero =>
  intro _
  obtain ⟨u1, u2, u3, u4⟩ := unit_facts hf
  refine ⟨u1, u2, by rw [show stepsw rows 0 (unit rows.length f) = unit rows.length f from rfl, u3]; decide, fun j => ?_⟩
  rw [show stepsw rows 0 (unit rows.length f) = unit rows.length f from rfl, u4]
  constructor
  · rintro rfl; exact Wk.base
  · intro hw; cases hw; rfl
 | succ m ih =>
  intro hm
  obtain ⟨i1, i2, i3, i4⟩ := ih (by omega)
  have hp : (10 : Int) ^ m ≤ 10 ^ 7 := by
   have : m ≤ 7 := by omega
   match m, this with
   | 0, _ => decide
   | 1, _ => decide
   | 2, _ => decide
   | 3, _ => decide
   | 4, _ => decide
   | 5, _ => decide
   | 6, _ => decide
   | 7, _ => decide
  have hp2 : (10 : Int) ^ 7 = 10000000 := by decide
  rw [stepsw_succ]
  obtain ⟨s1, s2, s3, _, s5⟩ := stepw_facts h i1 i2 (by omega)
  refine ⟨s1, s2, ?_, fun j => ?_⟩
  · rw [Int.pow_succ]
    omega
  · rw [s5]
    constructor
    · rintro ⟨i, h1, h2⟩
      exact Wk.step i j m ((i4 i).1 h1) (edge_lt (fun r hr => (h r hr).1) h2).2 h2
    · intro hw
      cases hw with
      | step i _ _ hi hk he => exact ⟨i, (i4 i).2 hi, he⟩
theorem stepsw_sum {rows : List (List Int)} (h : Steppy rows) {o : Int} (o0 : 1 ≤ o) (o1 : o ≤ 10) (hs : ∀ r ∈ rows, r.sum = o) : ∀ (m : Nat) (v : List Int), v.length = rows.length → (∀ x ∈ v, 0 ≤ x) → 1 ≤ v.sum → v.sum * 10 ^ m ≤ 100000000 →
 (stepsw rows m v).sum = pww o m v.sum ∧ 1 ≤ (stepsw rows m v).sum := by
 intro m
 induction m with
 | zero => intro v _ _ h1 _; exact ⟨rfl, h1⟩
 | succ m ih =>
  intro v hv h0 h1 hb
  have hpos : (1 : Int) ≤ 10 ^ m := by
   have : (0 : Int) < 10 ^ m := Int.pow_pos (by decide)
   omega
  rw [Int.pow_succ, Int.mul_comm (10 ^ m) 10, ← Int.mul_assoc] at hb
  have hle : v.sum * 10 * 1 ≤ v.sum * 10 * 10 ^ m := Int.mul_le_mul_of_nonneg_left hpos (by omega)
  obtain ⟨s1, s2, s3, s4, _⟩ := stepw_facts h hv h0 (by omega)
  have e := s4 o hs
  have hso : v.sum * o ≤ v.sum * 10 := Int.mul_le_mul_of_nonneg_left o1 (by omega)
  have hso1 : v.sum * 1 ≤ v.sum * o := Int.mul_le_mul_of_nonneg_left o0 (by omega)
  have hle2 : v.sum * o * 10 ^ m ≤ v.sum * 10 * 10 ^ m := Int.mul_le_mul_of_nonneg_right hso (by omega)
  obtain ⟨t1, t2⟩ := ih (stepw rows v) s1 s2 (by rw [e]; omega) (by rw [e]; omega)
  rw [stepsw, pww, w64 (by omega) (by omega), ← e]
  exact ⟨t1, t2⟩
theorem edge_sgn {rows : List (List Int)} {i j : Nat} : Edge (rows.map (fun r => r.map sgn)) i j ↔ Edge rows i j := by
 unfold Edge
 have h1 : (rows.map (fun r => r.map sgn)).getD i [] = (rows.getD i []).map sgn := by
  rw [List.getD_eq_getElem?_getD, List.getD_eq_getElem?_getD, List.getElem?_map]
  cases rows[i]? <;> rfl
 rw [h1]
 generalize rows.getD i [] = r
 have h2 : (r.map sgn).getD j 0 = sgn (r.getD j 0) := by
  rw [List.getD_eq_getElem?_getD, List.getD_eq_getElem?_getD, List.getElem?_map]
  cases r[j]? <;> rfl
 rw [h2]
 unfold sgn
 split
 · omega
 · split <;> omega
theorem wk_sgn {rows : List (List Int)} {f j m : Nat} : Wk (rows.map (fun r => r.map sgn)) f j m ↔ Wk rows f j m := by
 constructor
 · intro h
   induction h with
   | base => exact Wk.base
   | step i k t _ hk he ih => exact Wk.step i k t ih (by simpa using hk) (edge_sgn.1 he)
 · intro h
   induction h with
   | base => exact Wk.base
   | step i k t _ hk he ih => exact Wk.step i k t ih (by simpa using hk) (edge_sgn.2 he)
theorem good_steppy {o : Int} {rows : List (List Int)} (hg : Good o rows) : Steppy rows := by
 obtain ⟨o1, o2, n1, n2, hr⟩ := hg
 intro r hrm
 obtain ⟨h1, h2, h3⟩ := hr r hrm
 exact ⟨h1, h2, by omega⟩
theorem sgn_steppy {o : Int} {rows : List (List Int)} (hg : Good o rows) : Steppy (rows.map (fun r => r.map sgn)) := by
 obtain ⟨o1, o2, n1, n2, hr⟩ := hg
 intro r hrm
 obtain ⟨r', hr', rfl⟩ := List.mem_map.1 hrm
 obtain ⟨h1, h2, h3⟩ := hr r' hr'
 have hs : ∀ (l : List Int), (∀ x ∈ l, 0 ≤ x) → (∀ x ∈ l.map sgn, 0 ≤ x) ∧ (l.map sgn).sum ≤ l.length := by
  intro l
  induction l with
  | nil => intro _; exact ⟨fun x hx => by simp at hx, by simp⟩
  | cons y t ih =>
   intro h
   obtain ⟨g1, g2⟩ := ih (fun z hz => h z (List.mem_cons_of_mem _ hz))
   have hy := h y List.mem_cons_self
   have hsy : 0 ≤ sgn y ∧ sgn y ≤ 1 := by unfold sgn; split <;> (try split) <;> omega
   refine ⟨fun x hx => ?_, ?_⟩
   · rw [List.map_cons] at hx
     rcases List.mem_cons.1 hx with rfl | hx
     · exact hsy.1
     · exact g1 x hx
   · rw [List.map_cons, List.sum_cons, List.length_cons]
     omega
 obtain ⟨g1, g2⟩ := hs r' h2
 exact ⟨by simp [h1], g1, by omega⟩
theorem wk_rc {rows : List (List Int)} {f j m : Nat} (hf : f < rows.length) (h : Wk rows f j m) : RC rows (-1) f j ∧ j < rows.length := by
 induction h with
 | base => exact ⟨RC.base, hf⟩
 | step i k t _ hk he ih => exact ⟨RC.step i k ih.1 (by omega) hk he, hk⟩
def Byt (code : List Int) : Prop := code.length ≤ 1048576 ∧ ∀ x ∈ code, 0 ≤ x ∧ x ≤ 255
theorem bits255 (x : Int) (h0 : 0 ≤ x) (h1 : x < 2 ^ 64) : 0 ≤ Go.bits .and .u64 x 255 ∧ Go.bits .and .u64 x 255 ≤ 255 := by
 have h := bits_mask .u64 64 (by decide) (fun n a b => by simp [IntKind.wrap, IntKind.bits, IntKind.signed]; omega) 8 (by decide) x h0 h1
 rw [show ((2 : Int) ^ 8 - 1) = 255 from rfl] at h
 rw [h]
 omega
theorem u64_range (x : Int) : 0 ≤ IntKind.u64.wrap x ∧ IntKind.u64.wrap x < 2 ^ 64 := by
 simp [IntKind.wrap, IntKind.bits, IntKind.signed]
 omega
theorem seed255 (y : Int) : 0 ≤ wrap64 (Go.bits .and .u64 (IntKind.u64.wrap y / 1099511627776) 255) ∧ wrap64 (Go.bits .and .u64 (IntKind.u64.wrap y / 1099511627776) 255) ≤ 255 := by
 have h := u64_range y
 have h2 := bits255 (IntKind.u64.wrap y / 1099511627776) (by omega) (by omega)
 rw [w64 (by omega) (by omega)]
 exact h2
theorem rd_mem {l : List Int} {i : Nat} (h : i < l.length) : rd l (i : Int) ∈ l := by
 rw [rd_get h]
 exact List.getElem_mem h
theorem next_ev {code : List Int} (hc : Byt code) (p : Nat) (sd : Int) (hp : p ≤ 100000000) :
 ∃ (b sd' : Int), 0 ≤ b ∧ b ≤ 255 ∧ spec_l1Cur_next.f code p sd = some (b, ((p + 1 : Nat) : Int), sd') := by
 have hw : wrap64 ((p : Int) + 1) = ((p + 1 : Nat) : Int) := by rw [w64 (by omega) (by omega)]; rfl
 unfold spec_l1Cur_next.f
 rw [hw]
 by_cases h : (p : Int) < (code.length : Int)
 · rw [if_pos h, iP_, iP_]
   have hb := hc.2 _ (rd_mem (l := code) (i := p) (by omega))
   refine ⟨_, _, ?_, ?_, rfl⟩
   · rw [w64 (by omega) (by omega)]; exact hb.1
   · rw [w64 (by omega) (by omega)]; exact hb.2
 · rw [if_neg h]
   by_cases h2 : (((p + 1 : Nat) : Int)) ≤ (code.length : Int)
   · rw [if_pos h2]
     exact ⟨0, _, by decide, by decide, rfl⟩
   · rw [if_neg h2]
     exact ⟨_, _, (seed255 _).1, (seed255 _).2, rfl⟩
theorem pick_ev {code : List Int} (hc : Byt code) (p : Nat) (sd n : Int) (hp : p ≤ 90000000) (hn : n ≤ 200) :
 ∃ (b : Int) (p' : Nat) (sd' : Int), 0 ≤ b ∧ (b < n ∨ b = 0) ∧ p' ≤ p + 1 ∧ spec_l1Cur_pick.f code p sd n = some (b, (p' : Int), sd') := by
 unfold spec_l1Cur_pick.f
 by_cases h : n ≤ 1
 · rw [if_pos h]
   exact ⟨0, p, sd, by decide, Or.inr rfl, by omega, rfl⟩
 · obtain ⟨b, sd', h0, h1, e⟩ := next_ev hc p sd (by omega)
   rw [if_neg h, e]
   simp only [Option.bind_some]
   rw [iN_, iN_]
   have := Int.tmod_eq_emod_of_nonneg (b := n) h0
   refine ⟨Int.tmod b n, p + 1, sd', ?_, ?_, by omega, rfl⟩
   · rw [this]; exact Int.emod_nonneg _ (by omega)
   · rw [this]; exact Or.inl (Int.emod_lt_of_pos _ (by omega))
theorem one_ev {code : List Int} (hc : Byt code) (p : Nat) (sd n : Int) (hp : p ≤ 90000000) (hn : n ≤ 200) :
 ∃ (b : Bool) (p' : Nat) (sd' : Int), p' ≤ p + 1 ∧ spec_l1Cur_one.f code p sd n = some (b, (p' : Int), sd') := by
 obtain ⟨b, p', sd', _, _, h, e⟩ := pick_ev hc p sd n hp hn
 refine ⟨b == 0, p', sd', h, ?_⟩
 rw [spec_l1Cur_one.f, e]
 rfl
theorem among_ev {code : List Int} (hc : Byt code) (p : Nat) (sd : Int) (l : List Int) (hp : p ≤ 90000000) (hl : 1 ≤ l.length) (hn : l.length ≤ 200) :
 ∃ (x : Int) (p' : Nat) (sd' : Int), p' ≤ p + 1 ∧ spec_l1Cur_among.f code p sd l = some (x, (p' : Int), sd') := by
 obtain ⟨b, p', sd', h0, h1, h, e⟩ := pick_ev hc p sd (l.length : Int) hp (by omega)
 refine ⟨rd l b, p', sd', h, ?_⟩
 rw [spec_l1Cur_among.f, e]
 simp only [Option.bind_some]
 rw [if_pos h0, iP_]
theorem wsucc (i : Nat) (h : i ≤ 10000000) : wrap64 ((i : Int) + 1) = ((i + 1 : Nat) : Int) := by rw [w64 (by omega) (by omega)]; rfl
theorem wpred (i : Nat) (h : i ≤ 10000000) : wrap64 (1 + (i : Int)) = ((1 + i : Nat) : Int) := by rw [w64 (by omega) (by omega)]; rfl
theorem sure_l1 {code : List Int} (hc : Byt code) (n j o : Nat) (hn : 1 ≤ n) (hn4 : n ≤ 4) (hj : j < n) (acc : List (List Int)) (ha : acc.length ≤ 10) :
 ∀ (m i : Nat) (row : List Int) (p : Nat) (sd : Int), i + m = o → row.length = n → p + m ≤ 80000000 → o ≤ 4 →
  ∃ (row' : List Int) (p' : Nat) (sd' : Int), row'.length = n ∧ p' ≤ p + m + 1 ∧ ∀ k, spec_l1Cur_sureStates.l1 (k + m + 1) n j row i code p sd o acc = spec_l1Cur_sureStates.l0 k n ((j + 1 : Nat) : Int) code p' sd' o (acc ++ [row']) := by
 intro m
 induction m with
 | zero =>
  intro i row p sd hi hr hp ho
  obtain ⟨b, p', sd', h, e⟩ := one_ev hc p sd 6 (by omega) (by decide)
  cases b with
  | true =>
   refine ⟨(List.replicate n 0).set j (o : Int), p', sd', by simp, by omega, fun k => ?_⟩
   show spec_l1Cur_sureStates.l1 (k + 1) _ _ _ _ _ _ _ _ _ = _
   simp only [spec_l1Cur_sureStates.l1]
   rw [iN_, e]
   simp only [Option.bind_some, if_true, wsucc j (by omega)]
   rw [iP_, iP_, iP_, if_pos (by simp; omega), iP_, Int.toNat_natCast, Int.toNat_natCast]
  | false =>
   refine ⟨row, p', sd', hr, by omega, fun k => ?_⟩
   show spec_l1Cur_sureStates.l1 (k + 1) _ _ _ _ _ _ _ _ _ = _
   simp only [spec_l1Cur_sureStates.l1]
   rw [iN_, e]
   simp only [Option.bind_some, Bool.false_eq_true, if_false, wsucc j (by omega)]
   rw [iP_]
 | succ m ih =>
  intro i row p sd hi hr hp ho
  obtain ⟨b, p1, sd1, b0, b1, h1, e⟩ := pick_ev hc p sd (n : Int) (by omega) (by omega)
  obtain ⟨row', p', sd', hl, hp', e2⟩ := ih (i + 1) (row.set b.toNat (wrap64 ((rd row b) + 1))) p1 sd1 (by omega) (by rw [List.length_set]; exact hr) (by omega) ho
  refine ⟨row', p', sd', hl, by omega, fun k => ?_⟩
  show spec_l1Cur_sureStates.l1 ((k + m + 1) + 1) _ _ _ _ _ _ _ _ _ = _
  simp only [spec_l1Cur_sureStates.l1]
  rw [iP_, e]
  simp only [Option.bind_some, wsucc i (by omega)]
  rw [if_pos b0, iP_]
  exact e2 k
theorem sure_l0 {code : List Int} (hc : Byt code) (n o : Nat) (hn : 1 ≤ n) (hn4 : n ≤ 4) (ho : o ≤ 4) :
 ∀ (m j : Nat) (acc : List (List Int)) (p : Nat) (sd : Int), j + m = n → acc.length = j → (∀ r ∈ acc, r.length = n) → p + 10 * m ≤ 80000000 →
  ∃ (rows : List (List Int)) (p' : Nat) (sd' : Int), rows.length = n ∧ (∀ r ∈ rows, r.length = n) ∧ p' ≤ p + 5 * m ∧ ∀ k, 10 * m < k → spec_l1Cur_sureStates.l0 k n j code p sd o acc = some ((o : Int), rows, (p' : Int), sd') := by
 intro m
 induction m with
 | zero =>
  intro j acc p sd hj ha hr hp
  refine ⟨acc, p, sd, by omega, hr, by omega, fun k hk => ?_⟩
  obtain ⟨k, rfl⟩ : ∃ q, k = q + 1 := ⟨k - 1, by omega⟩
  simp only [spec_l1Cur_sureStates.l0]
  rw [iN_]
 | succ m ih =>
  intro j acc p sd hj ha hr hp
  obtain ⟨row', p1, sd1, hl, hp1, e⟩ := sure_l1 hc n j o hn hn4 (by omega) acc (by omega) o 0 (List.replicate n 0) p sd (by omega) (by simp) (by omega) ho
  obtain ⟨rows, p', sd', h1, h2, h3, e2⟩ := ih (j + 1) (acc ++ [row']) p1 sd1 (by omega) (by simp; omega) (by
   intro r h
   rcases List.mem_append.1 h with h | h
   · exact hr r h
   · rw [List.mem_singleton.1 h]; exact hl) (by omega)
  refine ⟨rows, p', sd', h1, h2, by omega, fun k hk => ?_⟩
  obtain ⟨k, rfl⟩ : ∃ q, k = q + o + 2 := ⟨k - o - 2, by omega⟩
  show spec_l1Cur_sureStates.l0 ((k + o + 1) + 1) _ _ _ _ _ _ _ = _
  simp only [spec_l1Cur_sureStates.l0]
  rw [iP_, iP_, iP_, Int.toNat_natCast]
  exact (e k).trans (e2 k (by omega))
theorem sure_ev {code : List Int} (hc : Byt code) (p : Nat) (sd : Int) (hp : p ≤ 1000) :
 ∃ (o : Int) (rows : List (List Int)) (p' : Nat) (sd' : Int), 1 ≤ rows.length ∧ rows.length ≤ 4 ∧ (∀ r ∈ rows, r.length = rows.length) ∧ p' ≤ p + 30 ∧ ∀ k, 50 < k → spec_l1Cur_sureStates.f k code p sd = some (o, rows, (p' : Int), sd') := by
 obtain ⟨a, p1, sd1, a0, a1, h1, e1⟩ := pick_ev hc p sd 4 (by omega) (by decide)
 obtain ⟨b, p2, sd2, b0, b1, h2, e2⟩ := pick_ev hc p1 sd1 4 (by omega) (by decide)
 obtain ⟨a, rfl⟩ := Int.eq_ofNat_of_zero_le a0
 obtain ⟨b, rfl⟩ := Int.eq_ofNat_of_zero_le b0
 obtain ⟨rows, p', sd', h3, h4, h5, e3⟩ := sure_l0 hc (1 + b) (1 + a) (by omega) (by omega) (by omega) (1 + b) 0 [] p2 sd2 (by omega) rfl (by simp) (by omega)
 refine ⟨((1 + a : Nat) : Int), rows, p', sd', by omega, by omega, by rw [h3]; exact h4, by omega, fun k hk => ?_⟩
 rw [spec_l1Cur_sureStates.f, e1]
 simp only [Option.bind_some, e2, wpred a (by omega), wpred b (by omega)]
 exact e3 k (by omega)
theorem states_ev {code : List Int} (hc : Byt code) (p : Nat) (sd : Int) (hp : p ≤ 1000) :
 ∃ (o : Int) (rows : List (List Int)) (p' : Nat) (sd' : Int), rows.length ≤ 6 ∧ (∀ r ∈ rows, r.length ≤ 6) ∧ p' ≤ p + 50 ∧ ∀ k, 50 < k → spec_l1Cur_states.f k code p sd = some (o, rows, (p' : Int), sd') := by
 obtain ⟨o, rows, p1, sd1, l1, l2, l3, h1, e1⟩ := sure_ev hc p sd hp
 obtain ⟨a, p2, sd2, a0, a1, h2, e2⟩ := pick_ev hc p1 sd1 18 (by omega) (by decide)
 have hr : ∀ r ∈ rows, r.length ≤ 6 := fun r h => by rw [l3 r h]; omega
 unfold spec_l1Cur_states.f
 by_cases c0 : a = 0
 · obtain ⟨x, p3, sd3, h3, e3⟩ := among_ev hc p2 sd2 [(-1), 0, 1, 10, 11, 4611686018427387904] (by omega) (by decide) (by decide)
   refine ⟨x, rows, p3, sd3, by omega, hr, by omega, fun k hk => ?_⟩
   rw [e1 k hk]
   simp only [Option.bind_some, e2]
   rw [if_pos c0, e3]
   rfl
 · by_cases c1 : a = 1
   · obtain ⟨x, p3, sd3, h3, e3⟩ := among_ev hc p2 sd2 [(-1), 0, 1, 10, 4611686018427387904] (by omega) (by decide) (by decide)
     have h0 : rd_L2 rows 0 ∈ rows := by
      have := rd1_get (xs := rows) (j := 0) (by omega)
      rw [show ((0 : Nat) : Int) = 0 from rfl] at this
      rw [this]
      exact List.getElem_mem _
     refine ⟨o, rows.set 0 ((rd_L2 rows 0).set 0 x), p3, sd3, by rw [List.length_set]; omega, ?_, by omega, fun k hk => ?_⟩
     · intro r h
       rcases List.mem_or_eq_of_mem_set h with h | h
       · exact hr r h
       · rw [h, List.length_set]; exact hr _ h0
     · rw [e1 k hk]
       simp only [Option.bind_some, e2]
       rw [if_neg c0, if_pos c1, iP_, e3]
       simp only [Option.bind_some]
       rw [if_pos (by rw [l3 _ h0]; omega)]
       rfl
   · by_cases c2 : a = 2
     · refine ⟨o, rows ++ [[1]], p2, sd2, by simp; omega, ?_, by omega, fun k hk => ?_⟩
       · intro r h
         rcases List.mem_append.1 h with h | h
         · exact hr r h
         · rw [List.mem_singleton.1 h]; decide
       · rw [e1 k hk]
         simp only [Option.bind_some, e2]
         rw [if_neg c0, if_neg c1, if_pos c2, iP_]
     · by_cases c3 : a = 3
       · refine ⟨o, [], p2, sd2, by simp, by simp, by omega, fun k hk => ?_⟩
         rw [e1 k hk]
         simp only [Option.bind_some, e2]
         rw [if_neg c0, if_neg c1, if_neg c2, if_pos c3]
       · by_cases c4 : a = 4
         · refine ⟨10, [[1, 2, 3, 4, 0], [0, 9, 1, 0, 0], [5, 0, 0, 5, 0], [0, 0, 0, 3, 7], [2, 2, 2, 2, 2]], p2, sd2, ?_, ?_, by omega, fun k hk => ?_⟩
           rotate_left 2
           · rw [e1 k hk]
             simp only [Option.bind_some, e2]
             rw [if_neg c0, if_neg c1, if_neg c2, if_neg c3, if_pos c4]
           · decide
           · decide
         · refine ⟨o, rows, p2, sd2, by omega, hr, by omega, fun k hk => ?_⟩
           rw [e1 k hk]
           simp only [Option.bind_some, e2]
           rw [if_neg c0, if_neg c1, if_neg c2, if_neg c3, if_neg c4]
theorem stated_ev {code : List Int} (hc : Byt code) (p : Nat) (sd : Int) (hp : p ≤ 1000) :
 ∃ (o : Int) (rows : List (List Int)) (a b : Int) (p' : Nat) (sd' : Int), rows.length ≤ 6 ∧ (∀ r ∈ rows, r.length ≤ 6) ∧ p' ≤ p + 60 ∧ ∀ k, 50 < k → spec_l1Cur_stated.f k code p sd = some (o, rows, a, b, (p' : Int), sd') := by
 obtain ⟨o, rows, p1, sd1, l1, l2, h1, e1⟩ := states_ev hc p sd hp
 have hm : ∃ n : Int, n ≤ 200 ∧ spec_l1Most.f 1 (rows.length : Int) = some n := by
  unfold spec_l1Most.f
  by_cases c : (1 : Int) > (rows.length : Int)
  · rw [if_pos c]; exact ⟨1, by decide, rfl⟩
  · rw [if_neg c]; exact ⟨_, by omega, rfl⟩
 obtain ⟨n, hn, e0⟩ := hm
 obtain ⟨x2, p2, sd2, _, _, h2, e2⟩ := pick_ev hc p1 sd1 n (by omega) hn
 obtain ⟨x3, p3, sd3, _, _, h3, e3⟩ := pick_ev hc p2 sd2 16 (by omega) (by decide)
 obtain ⟨x4, p4, sd4, _, _, h4, e4⟩ := pick_ev hc p3 sd3 n (by omega) hn
 obtain ⟨x5, p5, sd5, _, _, h5, e5⟩ := pick_ev hc p4 sd4 16 (by omega) (by decide)
 refine ⟨o, rows, wrap64 (x2 - (wrap64 (Int.tdiv x3 15))), wrap64 (x4 + (wrap64 (Int.tdiv x5 15))), p5, sd5, l1, l2, by omega, fun k hk => ?_⟩
 rw [spec_l1Cur_stated.f, e1 k hk]
 simp only [Option.bind_some, e0, e2, e3, e4, e5]
theorem drawAfter_ev {code : List Int} (hc : Byt code) : ∃ (o : Int) (rows : List (List Int)) (a s : Int), rows.length ≤ 6 ∧ (∀ r ∈ rows, r.length ≤ 6) ∧ ∀ k, 50 < k → spec_DrawStatesAfter.f k code = some (o, rows, a, s) := by
 obtain ⟨o, rows, a, b, p1, sd1, l1, l2, h1, e1⟩ := stated_ev hc 0 0 (by decide)
 obtain ⟨x2, p2, sd2, _, _, h2, e2⟩ := pick_ev hc p1 sd1 10 (by omega) (by decide)
 obtain ⟨x3, p3, sd3, _, _, h3, e3⟩ := pick_ev hc p2 sd2 9 (by omega) (by decide)
 refine ⟨o, rows, a, wrap64 (x2 - (wrap64 (Int.tdiv x3 8))), l1, l2, fun k hk => ?_⟩
 have e1' : spec_l1Cur_stated.f k code 0 0 = _ := e1 k hk
 rw [spec_DrawStatesAfter.f, e1']
 simp only [Option.bind_some, e2, e3]
theorem drawWays_ev {code : List Int} (hc : Byt code) : ∃ (o : Int) (rows : List (List Int)) (a b s : Int), rows.length ≤ 6 ∧ (∀ r ∈ rows, r.length ≤ 6) ∧ ∀ k, 50 < k → spec_DrawCountWays.f k code = some (o, rows, a, b, s) := by
 obtain ⟨o, rows, a, b, p1, sd1, l1, l2, h1, e1⟩ := stated_ev hc 0 0 (by decide)
 obtain ⟨x2, p2, sd2, _, _, h2, e2⟩ := pick_ev hc p1 sd1 10 (by omega) (by decide)
 obtain ⟨x3, p3, sd3, _, _, h3, e3⟩ := pick_ev hc p2 sd2 9 (by omega) (by decide)
 refine ⟨o, rows, a, b, wrap64 (x2 - (wrap64 (Int.tdiv x3 8))), l1, l2, fun k hk => ?_⟩
 have e1' : spec_l1Cur_stated.f k code 0 0 = _ := e1 k hk
 rw [spec_DrawCountWays.f, e1']
 simp only [Option.bind_some, e2, e3]
theorem drawRen_l0 {code : List Int} (hc : Byt code) (o : Int) (rows : List (List Int)) (n : Nat) (hn : n ≤ 6) :
 ∀ (m i : Nat) (names : List Int) (p : Nat) (sd : Int), i + m = n → names.length = i → p + m ≤ 10000 →
  ∃ names' : List Int, names'.length ≤ 7 ∧ ∀ k, m < k → spec_DrawRenameStates.l0 k names n i code p sd o rows = some (o, rows, names') := by
 intro m
 induction m with
 | zero =>
  intro i names p sd hi hl hp
  obtain ⟨b, p1, sd1, h1, e1⟩ := one_ev hc p sd 10 (by omega) (by decide)
  cases b with
  | true =>
   obtain ⟨x, p2, sd2, h2, e2⟩ := among_ev hc p1 sd1 [(-1), 0, 1, 5] (by omega) (by decide) (by decide)
   refine ⟨names ++ [x], by simp; omega, fun k hk => ?_⟩
   obtain ⟨k, rfl⟩ : ∃ q, k = q + 1 := ⟨k - 1, by omega⟩
   simp only [spec_DrawRenameStates.l0]
   rw [iN_, e1]
   simp only [Option.bind_some, if_true, e2]
   rw [iP_]
  | false =>
   refine ⟨names, by omega, fun k hk => ?_⟩
   obtain ⟨k, rfl⟩ : ∃ q, k = q + 1 := ⟨k - 1, by omega⟩
   simp only [spec_DrawRenameStates.l0]
   rw [iN_, e1]
   simp only [Option.bind_some, Bool.false_eq_true, if_false]
 | succ m ih =>
  intro i names p sd hi hl hp
  obtain ⟨b, p1, sd1, b0, b1, h1, e1⟩ := pick_ev hc p sd ((names.length + 1 : Nat) : Int) (by omega) (by omega)
  obtain ⟨b, rfl⟩ := Int.eq_ofNat_of_zero_le b0
  have hbl : b ≤ names.length := by omega
  obtain ⟨names', hl', e2⟩ := ih (i + 1) ((names.take b ++ [(i : Int)]) ++ names.drop b) p1 sd1 (by omega) (by simp; omega) (by omega)
  refine ⟨names', hl', fun k hk => ?_⟩
  obtain ⟨k, rfl⟩ : ∃ q, k = q + 1 := ⟨k - 1, by omega⟩
  simp only [spec_DrawRenameStates.l0]
  rw [iP_, wsucc names.length (by omega), e1]
  simp only [Option.bind_some, Int.toNat_natCast]
  have ho : spec_l1Own.f (names.take b) = some (names.take b) := by
   unfold spec_l1Own.f
   simp only [Option.bind_some, List.nil_append]
   rw [if_pos (by simp; omega)]
  rw [iP_, iP_, ho]
  simp only [Option.bind_some]
  rw [if_pos (by simp; omega), if_pos (by simp; omega), wsucc i (by omega)]
  exact e2 k (by omega)
theorem drawRen_ev {code : List Int} (hc : Byt code) : ∃ (o : Int) (rows : List (List Int)) (names : List Int), rows.length ≤ 6 ∧ (∀ r ∈ rows, r.length ≤ 6) ∧ names.length ≤ 7 ∧ ∀ k, 50 < k → spec_DrawRenameStates.f k code = some (o, rows, names) := by
 obtain ⟨o, rows, p1, sd1, l1, l2, h1, e1⟩ := states_ev hc 0 0 (by decide)
 obtain ⟨names, hl, e2⟩ := drawRen_l0 hc o rows rows.length l1 rows.length 0 [] p1 sd1 (by omega) rfl (by omega)
 refine ⟨o, rows, names, l1, l2, hl, fun k hk => ?_⟩
 have e1' : spec_l1Cur_states.f k code 0 0 = _ := e1 k hk
 rw [spec_DrawRenameStates.f, e1']
 simp only [Option.bind_some]
 exact e2 k (by omega)
theorem uSame_l0 (l : List Int) (hl : l.length ≤ 1000000) : ∀ (m i : Nat), i + m = l.length → ∀ k, m < k → laws_uSame.l0 k l l (l.length : Int) i = some true := by
 intro m
 induction m with
 | zero =>
  intro i hi k hk
  obtain ⟨k, rfl⟩ : ∃ q, k = q + 1 := ⟨k - 1, by omega⟩
  simp only [laws_uSame.l0]
  rw [iN_]
 | succ m ih =>
  intro i hi k hk
  obtain ⟨k, rfl⟩ : ∃ q, k = q + 1 := ⟨k - 1, by omega⟩
  simp only [laws_uSame.l0]
  rw [iP_, iP_, iP_, iP_, if_pos trivial, wsucc i (by omega)]
  exact ih (i + 1) (by omega) k (by omega)
theorem uSame_ev (l : List Int) (hl : l.length ≤ 1000000) (k : Nat) (hk : 1000000 < k) : laws_uSame.f k l l = some true := by
 unfold laws_uSame.f
 rw [if_pos rfl]
 exact uSame_l0 l hl l.length 0 (by omega) k (by omega)
theorem uRows_l0 (l : List (List Int)) (hl : l.length ≤ 1000000) (hr : ∀ r ∈ l, r.length ≤ 1000000) : ∀ (m i : Nat), i + m = l.length → ∀ k, 1000000 + m < k → laws_uRows.l0 k l l (l.length : Int) i = some true := by
 intro m
 induction m with
 | zero =>
  intro i hi k hk
  obtain ⟨k, rfl⟩ : ∃ q, k = q + 1 := ⟨k - 1, by omega⟩
  simp only [laws_uRows.l0]
  rw [iN_]
 | succ m ih =>
  intro i hi k hk
  obtain ⟨k, rfl⟩ : ∃ q, k = q + 1 := ⟨k - 1, by omega⟩
  simp only [laws_uRows.l0]
  have hm : rd_L2 l (i : Int) ∈ l := by rw [rd1_get (by omega)]; exact List.getElem_mem _
  rw [iP_, iP_, iP_, iP_, uSame_ev _ (hr _ hm) k (by omega)]
  simp only [Option.bind_some, if_true]
  rw [wsucc i (by omega)]
  exact ih (i + 1) (by omega) k (by omega)
theorem uRows_ev (l : List (List Int)) (hl : l.length ≤ 1000000) (hr : ∀ r ∈ l, r.length ≤ 1000000) (k : Nat) (hk : 2000000 < k) : laws_uRows.f k l l = some true := by
 unfold laws_uRows.f
 rw [if_pos rfl]
 exact uRows_l0 l hl hr l.length 0 (by omega) k (by omega)
theorem uStates_ev (o : Int) (l : List (List Int)) (hl : l.length ≤ 1000000) (hr : ∀ r ∈ l, r.length ≤ 1000000) (k : Nat) (hk : 2000000 < k) : laws_uStates.f k o l o l = some true := by
 unfold laws_uStates.f
 rw [if_pos rfl, uRows_ev l hl hr k hk]
 rfl
theorem uHas_l0 (x : Int) (l : List Int) (hl : l.length ≤ 1000000) : ∀ (m i : Nat), i + m = l.length → ∀ k, m < k → laws_uHas.l0 k x l (l.length : Int) i = some (decide (x ∈ l.drop i)) := by
 intro m
 induction m with
 | zero =>
  intro i hi k hk
  obtain ⟨k, rfl⟩ : ∃ q, k = q + 1 := ⟨k - 1, by omega⟩
  simp only [laws_uHas.l0]
  rw [iN_, List.drop_eq_nil_of_le (by omega)]
  rfl
 | succ m ih =>
  intro i hi k hk
  obtain ⟨k, rfl⟩ : ∃ q, k = q + 1 := ⟨k - 1, by omega⟩
  have hlt : i < l.length := by omega
  simp only [laws_uHas.l0]
  rw [iP_, iP_, iP_, rd_get hlt, wsucc i (by omega), List.drop_eq_getElem_cons hlt]
  by_cases c : l[i] = x
  · rw [if_pos c, c]
    simp
  · rw [if_neg c, ih (i + 1) (by omega) k (by omega)]
    congr 1
    rw [Bool.eq_iff_iff, decide_eq_true_iff, decide_eq_true_iff, List.mem_cons]
    exact ⟨Or.inr, fun h => h.resolve_left (fun e => c e.symm)⟩
theorem uHas_ev (l : List Int) (x : Int) (hl : l.length ≤ 1000000) (k : Nat) (hk : 1000000 < k) : laws_uHas.f k l x = some (decide (x ∈ l)) := by
 unfold laws_uHas.f
 exact uHas_l0 x l hl l.length 0 (by omega) k (by omega)
theorem uRises_l0 (l : List Int) (h : List.Pairwise (· < ·) l) (hl : l.length ≤ 1000000) : ∀ (m i : Nat), i + m = l.length → 1 ≤ i → ∀ k, m < k → laws_uRises.l0 k l i = some true := by
 intro m
 induction m with
 | zero =>
  intro i hi h1 k hk
  obtain ⟨k, rfl⟩ : ∃ q, k = q + 1 := ⟨k - 1, by omega⟩
  simp only [laws_uRises.l0]
  rw [iN_]
 | succ m ih =>
  intro i hi h1 k hk
  obtain ⟨k, rfl⟩ : ∃ q, k = q + 1 := ⟨k - 1, by omega⟩
  obtain ⟨i, rfl⟩ : ∃ q, i = q + 1 := ⟨i - 1, by omega⟩
  have hlt : i + 1 < l.length := by omega
  have hp := List.pairwise_iff_getElem.1 h i (i + 1) (by omega) hlt (by omega)
  have hw : wrap64 (((i + 1 : Nat) : Int) - 1) = (i : Int) := by rw [w64 (by omega) (by omega)]; omega
  simp only [laws_uRises.l0]
  rw [iP_, hw, if_pos (by clear hw; omega), if_pos (by clear hw; omega), if_pos (by clear hw; omega), rd_get hlt, rd_get (show i < l.length from Nat.lt_of_succ_lt hlt), if_neg (Int.not_le.2 hp), wsucc (i + 1) (by clear hw; omega)]
  exact ih (i + 2) (by clear hw; omega) (by clear hw; omega) k (by clear hw; omega)
theorem uRises_ev (l : List Int) (h : List.Pairwise (· < ·) l) (hl : l.length ≤ 1000000) (k : Nat) (hk : 1000000 < k) : laws_uRises.f k l = some true := by
 unfold laws_uRises.f
 cases l with
 | nil =>
  obtain ⟨k, rfl⟩ : ∃ q, k = q + 1 := ⟨k - 1, by omega⟩
  simp only [laws_uRises.l0]
  rfl
 | cons x t => exact uRises_l0 (x :: t) h hl t.length 1 (by simp; omega) (by omega) k (by simp at hl; omega)
theorem sum_nn : ∀ (l : List Int), (∀ x ∈ l, 0 ≤ x) → 0 ≤ l.sum
 | [], _ => by simp
 | x :: t, h => by
  rw [List.sum_cons]
  have h1 := h x (List.mem_cons_self ..)
  have h2 := sum_nn t (fun y hy => h y (List.mem_cons_of_mem _ hy))
  omega
theorem uSum_l0 (l : List Int) (h : ∀ x ∈ l, 0 ≤ x) (hs : l.sum ≤ 1000000000000) (hl : l.length ≤ 1000000) : ∀ (m i : Nat) (a : Int), i + m = l.length → 0 ≤ a → a + (l.drop i).sum = l.sum → ∀ k, m < k → laws_uSum.l0 k a l (l.length : Int) i = some l.sum := by
 intro m
 induction m with
 | zero =>
  intro i a hi ha hd k hk
  obtain ⟨k, rfl⟩ : ∃ q, k = q + 1 := ⟨k - 1, by omega⟩
  rw [List.drop_eq_nil_of_le (by omega)] at hd
  simp only [laws_uSum.l0]
  rw [iN_, ← hd]
  simp
 | succ m ih =>
  intro i a hi ha hd k hk
  obtain ⟨k, rfl⟩ : ∃ q, k = q + 1 := ⟨k - 1, by omega⟩
  have hlt : i < l.length := by omega
  rw [List.drop_eq_getElem_cons hlt, List.sum_cons] at hd
  have h0 : 0 ≤ l[i] := h _ (List.getElem_mem _)
  have h1 : 0 ≤ (l.drop (i + 1)).sum := sum_nn _ (fun x hx => h x (List.mem_of_mem_drop hx))
  simp only [laws_uSum.l0]
  rw [iP_, iP_, iP_, rd_get hlt, wsucc i (by omega), w64 (by omega) (by omega)]
  exact ih (i + 1) (a + l[i]) (by omega) (by omega) (by omega) k (by omega)
theorem uSum_ev (l : List Int) (h : ∀ x ∈ l, 0 ≤ x) (hs : l.sum ≤ 1000000000000) (hl : l.length ≤ 1000000) (k : Nat) (hk : 1000000 < k) : laws_uSum.f k l = some l.sum := by
 unfold laws_uSum.f
 exact uSum_l0 l h hs hl l.length 0 0 (by omega) (by omega) (by rw [List.drop_zero]; omega) k (by omega)
theorem gdr {l : List Int} {i : Nat} : rd l (i : Int) = l.getD i 0 := by
 unfold rd
 rw [Int.toNat_natCast]
noncomputable def firsts (rows : List (List Int)) : List Nat := (List.range' 0 rows.length).filter (fun i => @decide (Fst rows i) (Classical.propDecidable _))
theorem classes_map (rows : List (List Int)) : classList rows 0 rows.length = (firsts rows).map (fun i => such 0 rows.length (Both rows i)) := rfl
theorem firsts_up (rows : List (List Int)) : List.Pairwise (· < ·) (firsts rows) := (List.pairwise_lt_range' (s := 0) (n := rows.length)).filter _
theorem firsts_mem {rows : List (List Int)} {i : Nat} : i ∈ firsts rows ↔ i < rows.length ∧ Fst rows i := by
 unfold firsts
 simp only [List.mem_filter, List.mem_range'_1, decide_eq_true_eq]
 exact ⟨fun h => ⟨by omega, h.2⟩, fun h => ⟨by omega, h.2⟩⟩
theorem class_at {rows : List (List Int)} {i : Nat} (h : i < (classList rows 0 rows.length).length) : ∃ f, f < rows.length ∧ (firsts rows)[i]? = some f ∧ (classList rows 0 rows.length)[i] = such 0 rows.length (Both rows f) ∧ 0 < (such 0 rows.length (Both rows f)).length ∧ rd (such 0 rows.length (Both rows f)) 0 = f := by
 have hl : i < (firsts rows).length := by
  rw [classes_map, List.length_map] at h
  exact h
 obtain ⟨h1, h2⟩ := firsts_mem.1 (List.getElem_mem hl)
 obtain ⟨h3, h4⟩ := class_first rows _ h1
 refine ⟨(firsts rows)[i], h1, List.getElem?_eq_getElem hl, ?_, h3, h4.2 h2⟩
 simp only [classes_map, List.getElem_map]
theorem class_up {rows : List (List Int)} {i : Nat} (h : i + 1 < (classList rows 0 rows.length).length) : rd (classList rows 0 rows.length)[i] 0 < rd (classList rows 0 rows.length)[i + 1] 0 := by
 obtain ⟨f, _, e1, e2, _, e3⟩ := class_at (show i < (classList rows 0 rows.length).length from Nat.lt_of_succ_lt h)
 obtain ⟨g, _, e4, e5, _, e6⟩ := class_at h
 rw [e2, e5, e3, e6]
 have hl : i + 1 < (firsts rows).length := by
  rw [classes_map, List.length_map] at h
  exact h
 have := List.pairwise_iff_getElem.1 (firsts_up rows) i (i + 1) (by omega) hl (by omega)
 rw [List.getElem?_eq_getElem hl] at e4
 rw [List.getElem?_eq_getElem (Nat.lt_of_succ_lt hl)] at e1
 injection e1 with e1
 injection e4 with e4
 omega
theorem fs_l5 {names : List Int} {n : Nat} {rows other : List (List Int)} (h : Ren names n rows other) (hn : n ≤ 6) (hl : names.length = n) (hr : ∀ a ∈ names, 0 ≤ a ∧ a < (n : Int)) (o x : Int) (i : Nat) (hi : i < n) :
 ∀ (m j : Nat), j + m = n → ∀ k, laws_FnStatesStep.l5 (k + m + 1) names i n i n j o rows x other = laws_FnStatesStep.l4 k names n ((i + 1 : Nat) : Int) o rows x other := by
 have hln : (names.length : Int) = (n : Int) := by rw [hl]
 have hrl : (rows.length : Int) = (n : Int) := by rw [h.sq.1]
 have hol : (other.length : Int) = (n : Int) := by rw [h.sq'.1]
 have hii : (i : Int) < (n : Int) := by omega
 have hi0 : (0 : Int) ≤ (i : Int) := by omega
 obtain ⟨p0, p1⟩ := in_names hl hr hi
 have ho2 : ((rd_L2 other (rd names (i : Int))).length : Int) = (n : Int) := by rw [h.sq'.row p0 p1]
 have hr2 : ((rd_L2 rows (i : Int)).length : Int) = (n : Int) := by rw [h.sq.row hi0 hii]
 intro m
 induction m with
 | zero =>
  intro j hj k
  show laws_FnStatesStep.l5 (k + 1) _ _ _ _ _ _ _ _ _ _ = _
  simp only [laws_FnStatesStep.l5]
  rw [iN_, wsucc i (by omega)]
 | succ m ih =>
  intro j hj k
  have hjn : j < n := by omega
  have hjj : (j : Int) < (n : Int) := by omega
  have hj0 : (0 : Int) ≤ (j : Int) := by omega
  obtain ⟨q0, q1⟩ := in_names hl hr hjn
  have htb : rd (rd_L2 other (rd names (i : Int))) (rd names (j : Int)) = rd (rd_L2 rows (i : Int)) (j : Int) := by
   have := h.tb i hi j hjn
   unfold Tb Nm at this
   unfold rd_L2
   rw [gdr]
   rw [Int.toNat_natCast]
   exact this
  show laws_FnStatesStep.l5 ((k + m + 1) + 1) _ _ _ _ _ _ _ _ _ _ = _
  have e9 := ih (j + 1) (by omega) k
  generalize k + m + 1 = q at e9 ⊢
  simp only [laws_FnStatesStep.l5]
  rw [if_pos hjj, if_pos hi0, hln, if_pos hii, if_pos p0, hol, if_pos p1, if_pos hj0, if_pos hjj, if_pos q0, ho2, if_pos q1, hrl, if_pos hii, hr2, if_pos hjj, if_pos htb, wsucc j (by omega)]
  exact e9
theorem fs_l4 {names : List Int} {n : Nat} {rows other : List (List Int)} (h : Ren names n rows other) (hn : n ≤ 6) (hl : names.length = n) (hr : ∀ a ∈ names, 0 ≤ a ∧ a < (n : Int)) (o x : Int) (b : Bool) (K : Nat)
 (hb : ∀ k, K ≤ k → impl_IsOneClass.f k o rows = some (b, true) ∧ impl_IsOneClass.f k x other = some (b, true)) :
 ∀ (m i : Nat), i + m = n → ∀ k, K + 10 * m < k → laws_FnStatesStep.l4 k names n i o rows x other = some true := by
 intro m
 induction m with
 | zero =>
  intro i hi k hk
  obtain ⟨k, rfl⟩ : ∃ q, k = q + 1 := ⟨k - 1, by omega⟩
  simp only [laws_FnStatesStep.l4]
  rw [iN_, (hb k (by omega)).1]
  simp only [Option.bind_some]
  rw [(hb k (by omega)).2]
  simp
 | succ m ih =>
  intro i hi k hk
  have hin : i < n := by omega
  obtain ⟨k, rfl⟩ : ∃ q, k = q + n + 2 := ⟨k - n - 2, by omega⟩
  show laws_FnStatesStep.l4 ((k + n + 1) + 1) _ _ _ _ _ _ _ = _
  simp only [laws_FnStatesStep.l4]
  rw [iP_, h.sq.1]
  exact (fs_l5 h hn hl hr o x i hin n 0 (by omega) k).trans (ih (i + 1) (by omega) k (by omega))
theorem fs_j7 {code : List Int} (hc : Byt code) : ∃ K, ∀ k, K ≤ k → laws_FnStatesStep.j7 k code false = some true := by
 obtain ⟨o, rows, names, l1, l2, l3, e1⟩ := drawRen_ev hc
 obtain ⟨x, t, u, hu, hf, t1, t2, K2, e2⟩ := rename_char o rows names (by omega) (fun r hr => by have := l2 r hr; omega) (by omega)
 obtain ⟨o3, rows3, a3, b3, s3, m1, m2, e3⟩ := drawWays_ev hc
 obtain ⟨cnt, v, _, _, _, K4, e4⟩ := ways_char o3 rows3 a3 b3 s3 (by omega) (fun r hr => by have := m2 r hr; omega)
 obtain ⟨b5, u5, h5, g5, _, K5, e5⟩ := oneClass_char o rows (by omega) (fun r hr => by have := l2 r hr; omega)
 obtain ⟨b6, u6, h6, g6, _, K6, e6⟩ := oneClass_char x t t1 t2
 have htl : t.length ≤ 1000000 ∧ ∀ r ∈ t, r.length ≤ 1000000 := by
  cases u with
  | true =>
   obtain ⟨_, _, _, hren, _⟩ := hu rfl
   exact ⟨by have := hren.sq'.1; omega, fun r hr => by have := hren.sq'.2 r hr; omega⟩
  | false => rw [hf rfl]; simp
 refine ⟨K2 + K4 + K5 + K6 + 3000000, fun k hk => ?_⟩
 obtain ⟨k, rfl⟩ : ∃ q, k = q + 1 := ⟨k - 1, by omega⟩
 simp only [laws_FnStatesStep.j7, Bool.false_eq_true, if_false, e1 k (by omega), (e2 k (by omega)).1, (e2 k (by omega)).2, e3 k (by omega), (e4 k (by omega)).1, (e4 k (by omega)).2, Option.bind_some, bne_self_eq_false, uStates_ev x t htl.1 htl.2 k (by omega), if_true]
 cases u with
 | false => simp
 | true =>
  obtain ⟨hg, hnl, rfl, hren, hnr⟩ := hu rfl
  have hg' := hren.good hg
  have e7 : u5 = true := g5.2 hg
  have e8 : u6 = true := g6.2 hg'
  subst e7
  subst e8
  have hbb : b5 = b6 := by
   rw [Bool.eq_iff_iff, h5 rfl, h6 rfl]
   exact hren.one hg.2.2.1
  subst hbb
  simp only [if_true]
  exact fs_l4 hren (by omega) hnl hnr x x b5 (K5 + K6) (fun k hk => ⟨(e5 k (by omega)).2, (e6 k (by omega)).2⟩) rows.length 0 (by omega) k (by omega)
theorem unif {P : Nat → Nat → Prop} : ∀ n : Nat, (∀ y, y < n → ∃ K, ∀ k, K ≤ k → P y k) → ∃ K, ∀ y, y < n → ∀ k, K ≤ k → P y k
 | 0, _ => ⟨0, fun y hy => by omega⟩
 | n + 1, h => by
  obtain ⟨K1, e1⟩ := unif n (fun y hy => h y (by omega))
  obtain ⟨K2, e2⟩ := h n (by omega)
  refine ⟨K1 + K2, fun y hy k hk => ?_⟩
  by_cases c : y = n
  · subst c; exact e2 k (by omega)
  · exact e1 y (by omega) k (by omega)
theorem good_len {o : Int} {rows : List (List Int)} (hg : Good o rows) : rows.length ≤ 1048576 ∧ ∀ r ∈ rows, r.length ≤ 1048576 := by
 obtain ⟨_, _, _, h4, h5⟩ := hg
 exact ⟨by omega, fun r hr => by have := (h5 r hr).1; omega⟩
theorem per_dvd {rows : List (List Int)} {f i : Nat} (h1 : 1 ≤ i) (h2 : i ≤ 30) (h : Wk rows f f i) : perR rows f 30 1 0 ∣ (i : Int) :=
 ((perR_dvd (perR rows f 30 1 0) 30 1 0).1 (Int.dvd_refl _)).2 i h1 (by omega) h
theorem end_per {o : Int} {rows : List (List Int)} (hg : Good o rows) {x : Nat} (hx : x < rows.length) (he : IsEnd o rows x) : perR rows x 30 1 0 = 1 := by
 have h1 : Wk rows x x 1 := Wk.step x x 0 Wk.base hx (by
  unfold Edge
  unfold IsEnd at he
  rw [he]
  have := hg.1
  omega)
 have h2 := per_dvd (Nat.le_refl 1) (by decide) h1
 have h3 := perR_nn (rows := rows) (s := x) 30 1 0 (by decide)
 exact Int.eq_one_of_dvd_one h3 h2
theorem per_all {o : Int} {rows : List (List Int)} (hg : Good o rows) : ∃ K, ∀ y, y < rows.length → ∀ k, K ≤ k → IsEnd o rows y → impl_PeriodOfState.f k o rows (y : Int) = some (1, true) := by
 refine unif rows.length (fun y hy => ?_)
 obtain ⟨t, u, h1, h2, K, e⟩ := period_char o rows (y : Int) (good_len hg).1 (good_len hg).2
 refine ⟨K, fun k hk he => ?_⟩
 obtain ⟨h3, h4⟩ := h1 ⟨hg, by omega, by omega⟩
 rw [Int.toNat_natCast, end_per hg hy he] at h3
 subst h3
 have h5 : u = true := h4.2 (by decide)
 subst h5
 exact (e k hk).2
theorem reach_all {o : Int} {rows : List (List Int)} (hg : Good o rows) : ∃ K, ∀ y, y < rows.length → ∀ k, K ≤ k → impl_ReachedStates.f k o rows (y : Int) = some (such 0 rows.length (fun i => RC rows (-1) y i), true) := by
 refine unif rows.length (fun y hy => ?_)
 obtain ⟨t, u, h1, h2, _, K, e⟩ := reached_char o rows (y : Int) (good_len hg).1 (good_len hg).2
 have hu : u = true := h2.2 ⟨hg, by omega, by omega⟩
 subst hu
 obtain ⟨f, hf, _, ht⟩ := h1 rfl
 have hf' : f = y := by omega
 subst hf'
 exact ⟨K, fun k hk => by rw [← ht]; exact (e k hk).2⟩
theorem ways_all {o : Int} {rows : List (List Int)} (hg : Good o rows) {f m : Nat} (hf : f < rows.length) (hm : m ≤ 8) : ∃ K, ∀ y, y < rows.length → ∀ k, K ≤ k → impl_CountWays.f k o rows (f : Int) (y : Int) (m : Int) = some (rd (stepsw (rows.map (fun r => r.map sgn)) m (unit rows.length f)) (y : Int), true) := by
 refine unif rows.length (fun y hy => ?_)
 obtain ⟨t, u, h1, h2, _, K, e⟩ := ways_char o rows (f : Int) (y : Int) (m : Int) (good_len hg).1 (good_len hg).2
 have hu : u = true := h2.2 ⟨hg, ⟨⟨by omega, by omega⟩, by omega, by omega⟩, by omega, by omega⟩
 subst hu
 obtain ⟨f', m', hf', hm', _, _, ht⟩ := h1 rfl
 have e1 : f' = f := by omega
 have e2 : m' = m := by omega
 subst e1
 subst e2
 exact ⟨K, fun k hk => by rw [← ht]; exact (e k hk).2⟩
theorem fs_j6 {code : List Int} (hc : Byt code) : ∃ K, ∀ k, K ≤ k → ∀ (a s : Int) (nums : List Int) (ok : Bool) (per : Int) (el : Bool), (el = true → 1 ≤ per ∧ (ok = true → Int.tmod s per = 0 ∨ (0 ≤ a ∧ a < (nums.length : Int) ∧ rd nums a = 0))) →
 laws_FnStatesStep.j6 k code a s nums ok per el = some true := by
 obtain ⟨K, e⟩ := fs_j7 hc
 refine ⟨K + 1, fun k hk a s nums ok per el h => ?_⟩
 obtain ⟨k, rfl⟩ : ∃ q, k = q + 1 := ⟨k - 1, by omega⟩
 have e7 := e k (by omega)
 simp only [laws_FnStatesStep.j6]
 cases el with
 | false => rw [if_neg (by decide)]; exact e7
 | true =>
  obtain ⟨h1, h2⟩ := h rfl
  rw [if_pos rfl, iN_]
  cases ok with
  | false => rw [if_neg (by decide)]; exact e7
  | true =>
   rw [if_pos rfl, iN_]
   by_cases c : Int.tmod s per = 0
   · rw [if_pos c]; exact e7
   · obtain ⟨h3, h4, h5⟩ := (h2 rfl).resolve_left c
     rw [if_neg c, if_pos h3, if_pos h4, if_pos h5]
     exact e7
theorem fs_l3 {o : Int} {rows : List (List Int)} (hg : Good o rows) {code : List Int} {a s : Int} {nums : List Int} {ok : Bool} {per : Int} {el : Bool} {K6 : Nat} (h6 : ∀ k, K6 ≤ k → laws_FnStatesStep.j6 k code a s nums ok per el = some true) :
 ∃ K, ∀ (m i : Nat), i + m = (such 0 rows.length (IsEnd o rows)).length → ∀ k, K + m < k → laws_FnStatesStep.l3 k code a s nums ok (such 0 rows.length (Lasts rows)) per el (such 0 rows.length (IsEnd o rows)) ((such 0 rows.length (IsEnd o rows)).length : Int) i o rows = some true := by
 obtain ⟨K2, e2⟩ := per_all hg
 refine ⟨K6 + K2 + 1000001, fun m => ?_⟩
 have hel := such_len 0 rows.length (IsEnd o rows)
 have hll := such_len 0 rows.length (Lasts rows)
 have hn5 : rows.length ≤ 5 := hg.2.2.2.1
 induction m with
 | zero =>
  intro i hi k hk
  obtain ⟨k, rfl⟩ : ∃ q, k = q + 1 := ⟨k - 1, by omega⟩
  simp only [laws_FnStatesStep.l3]
  rw [iN_]
  exact h6 k (by omega)
 | succ m ih =>
  intro i hi k hk
  obtain ⟨k, rfl⟩ : ∃ q, k = q + 1 := ⟨k - 1, by omega⟩
  have hlt : i < (such 0 rows.length (IsEnd o rows)).length := by omega
  have hmem := List.getElem_mem hlt
  obtain ⟨x, hx, _, hxn, hxe⟩ := such_mem.1 hmem
  rw [Nat.zero_add] at hxn
  have hrd : rd (such 0 rows.length (IsEnd o rows)) (i : Int) = (x : Int) := by rw [rd_get hlt, hx]
  have hlast : ((x : Int) ∈ such 0 rows.length (Lasts rows)) := such_mem.2 ⟨x, rfl, Nat.zero_le _, by omega, end_lasts hg hxn hxe⟩
  have hrow : rd_L2 rows (x : Int) = rows[x] := rd1_get hxn
  have hrl : rows[x].length = rows.length := (hg.2.2.2.2 _ (List.getElem_mem hxn)).1
  have hend : rd (rd_L2 rows (x : Int)) (x : Int) = o := by
   rw [gdr]
   unfold rd_L2
   rw [Int.toNat_natCast]
   exact hxe
  have e9 := ih (i + 1) (by omega) k (by omega)
  have hx0 : (0 : Int) ≤ (x : Int) := by omega
  have hx1 : (x : Int) < (rows.length : Int) := by omega
  have hx2 : (x : Int) < ((rd_L2 rows (x : Int)).length : Int) := by rw [hrow, hrl]; exact hx1
  simp only [laws_FnStatesStep.l3]
  rw [iP_, iP_, iP_, hrd, e2 x hxn k (by omega) hxe, uHas_ev _ _ (by omega) k (by omega), decide_eq_true hlast]
  simp only [Option.bind_some, if_true]
  rw [if_pos hx0, if_pos hx1, if_pos hx2, if_pos hend, wsucc i (by omega)]
  exact e9
theorem fs_l2 {o : Int} {rows : List (List Int)} (hg : Good o rows) : ∃ K, ∀ (code : List Int) (a s : Int) (nums : List Int) (ok : Bool) (cls : List (List Int)) (single : Bool) (ends : List Int) (per : Int) (el : Bool) (seen : Int) (cls2 : List (List Int)) (L idx : Int) (f : Nat), f < rows.length → Fst rows f →
 ∀ (m i : Nat), i + m = (such 0 rows.length (Both rows f)).length → ∀ k, K ≤ k → laws_FnStatesStep.l2 (k + m + 1) code a s nums ok cls single (such 0 rows.length (Lasts rows)) ends per el seen (such 0 rows.length (Both rows f)) cls2 L idx (such 0 rows.length (Both rows f)) ((such 0 rows.length (Both rows f)).length : Int) i o rows =
  laws_FnStatesStep.l1 k code a s nums ok cls single (such 0 rows.length (Lasts rows)) ends per el seen cls2 L (wrap64 (idx + 1)) o rows := by
 obtain ⟨K2, e2⟩ := reach_all hg
 refine ⟨K2 + 1000001, fun code a s nums ok cls single ends per el seen cls2 L idx f hf hfst m => ?_⟩
 have hcl := such_len 0 rows.length (Both rows f)
 have hll := such_len 0 rows.length (Lasts rows)
 have hn5 : rows.length ≤ 5 := hg.2.2.2.1
 obtain ⟨hc0, hc1⟩ := class_first rows f hf
 have hc2 := hc1.2 hfst
 induction m with
 | zero =>
  intro i hi k hk
  show laws_FnStatesStep.l2 (k + 1) _ _ _ _ _ _ _ _ _ _ _ _ _ _ _ _ _ _ _ _ _ = _
  simp only [laws_FnStatesStep.l2]
  rw [iN_]
 | succ m ih =>
  intro i hi k hk
  have e9 := ih (i + 1) (by omega) k hk
  show laws_FnStatesStep.l2 ((k + m + 1) + 1) _ _ _ _ _ _ _ _ _ _ _ _ _ _ _ _ _ _ _ _ _ = _
  obtain ⟨q, hq⟩ : ∃ q, q = k + m + 1 := ⟨_, rfl⟩
  rw [← hq] at e9 ⊢
  have hqk : K2 + 1000001 ≤ q := by omega
  have hlt : i < (such 0 rows.length (Both rows f)).length := by omega
  have hmem := List.getElem_mem hlt
  obtain ⟨y, hy, _, hyn, hyb⟩ := such_mem.1 hmem
  rw [Nat.zero_add] at hyn
  have hrd : rd (such 0 rows.length (Both rows f)) (i : Int) = (y : Int) := by rw [rd_get hlt, hy]
  have hol := such_len 0 rows.length (fun j => RC rows (-1) y j)
  have hhas : ((f : Int) ∈ such 0 rows.length (fun j => RC rows (-1) y j)) := such_mem.2 ⟨f, rfl, Nat.zero_le _, by omega, hyb.2⟩
  have hsame := both_same hyb
  have hl : decide ((y : Int) ∈ such 0 rows.length (Lasts rows)) = (((such 0 rows.length (fun j => RC rows (-1) y j)).length : Int) == ((such 0 rows.length (Both rows f)).length : Int)) := by
   rw [Bool.eq_iff_iff, decide_eq_true_iff, beq_iff_eq, hsame]
   constructor
   · intro h
     obtain ⟨z, hz, _, _, h2⟩ := such_mem.1 h
     have : z = y := by omega
     subst this
     unfold Lasts at h2
     omega
   · intro h
     refine such_mem.2 ⟨y, rfl, Nat.zero_le _, by omega, ?_⟩
     unfold Lasts
     omega
  have h0 : (0 : Int) ≤ (i : Int) := by omega
  have h1 : (i : Int) < ((such 0 rows.length (Both rows f)).length : Int) := by omega
  have h2 : (0 : Int) < ((such 0 rows.length (Both rows f)).length : Int) := by omega
  simp only [laws_FnStatesStep.l2]
  rw [if_pos h1, if_pos h0, if_pos h1, hrd, e2 y hyn q (by omega)]
  simp only [Option.bind_some, if_true]
  rw [if_pos h2, hc2, uHas_ev _ _ (by omega) q (by omega), decide_eq_true hhas]
  simp only [Option.bind_some, if_true]
  rw [uHas_ev _ _ (by omega) q (by omega), hl]
  simp only [Option.bind_some, bne_self_eq_false, Bool.false_eq_true, if_false]
  rw [wsucc i (by omega)]
  exact e9
theorem sum_take (l : List (List Int)) (i : Nat) (h : i < l.length) : ((l.take (i + 1)).map List.length).sum = ((l.take i).map List.length).sum + l[i].length := by
 rw [List.take_succ_eq_append_getElem h, List.map_append, List.sum_append]
 simp
theorem sum_take_le (l : List (List Int)) (i : Nat) : ((l.take i).map List.length).sum ≤ (l.map List.length).sum := by
 have : (l.map List.length).sum = ((l.take i ++ l.drop i).map List.length).sum := by rw [List.take_append_drop]
 rw [this, List.map_append, List.sum_append]
 omega
theorem fs_l1 {o : Int} {rows : List (List Int)} (hg : Good o rows) {code : List Int} {a s : Int} {nums : List Int} {ok : Bool} {per : Int} {el single : Bool} {K6 : Nat} (h6 : ∀ k, K6 ≤ k → laws_FnStatesStep.j6 k code a s nums ok per el = some true) (hs : single = true ↔ (classList rows 0 rows.length).length = 1) :
 ∃ K, ∀ (m i : Nat), i + m = (classList rows 0 rows.length).length → ∀ k, K + 10 * m < k → laws_FnStatesStep.l1 k code a s nums ok (classList rows 0 rows.length) single (such 0 rows.length (Lasts rows)) (such 0 rows.length (IsEnd o rows)) per el ((((classList rows 0 rows.length).take i).map List.length).sum : Nat) (classList rows 0 rows.length) ((classList rows 0 rows.length).length : Int) i o rows = some true := by
 obtain ⟨K2, e2⟩ := fs_l2 hg
 obtain ⟨K3, e3⟩ := fs_l3 hg h6
 refine ⟨K2 + K3 + 1000010, fun m => ?_⟩
 have hel := such_len 0 rows.length (IsEnd o rows)
 have hll := such_len 0 rows.length (Lasts rows)
 have hn5 : rows.length ≤ 5 := hg.2.2.2.1
 have hcs := (classList_size rows 0 rows.length).1
 have hflat := classes_flat rows
 induction m with
 | zero =>
  intro i hi k hk
  obtain ⟨k, rfl⟩ : ∃ q, k = q + 1 := ⟨k - 1, by omega⟩
  obtain ⟨x, hx, hxl⟩ := lasts_some (rows := rows) hg.2.2.1
  have hl1 : 0 < (such 0 rows.length (Lasts rows)).length := List.length_pos_of_mem (such_mem.2 ⟨x, rfl, Nat.zero_le _, by omega, hxl⟩)
  have hsb : (single != (((classList rows 0 rows.length).length : Int) == 1)) = false := by
   rw [bne_eq_false_iff_eq, Bool.eq_iff_iff, hs, beq_iff_eq]
   omega
  have e9 := e3 _ 0 (by rw [Nat.zero_add]) k (by omega)
  have hi' : i = (classList rows 0 rows.length).length := by omega
  rw [hi', List.take_length, hflat]
  simp only [laws_FnStatesStep.l1]
  rw [iN_, if_pos trivial, hsb, if_neg (by decide), iN_, uRises_ev _ (such_rises _ _ _) (by omega) k (by omega)]
  simp only [Option.bind_some, if_true]
  rw [uRises_ev _ (such_rises _ _ _) (by omega) k (by omega)]
  simp only [Option.bind_some, if_true]
  exact e9
 | succ m ih =>
  intro i hi k hk
  have hlt : i < (classList rows 0 rows.length).length := by omega
  obtain ⟨f, hf, hff, hcf, hc0, hc1⟩ := class_at hlt
  have hfst := (firsts_mem.1 (List.mem_of_getElem? hff)).2
  have hcl := such_len 0 rows.length (Both rows f)
  have hrd : rd_L2 (classList rows 0 rows.length) (i : Int) = such 0 rows.length (Both rows f) := by rw [rd1_get hlt, hcf]
  have hst := sum_take (classList rows 0 rows.length) i hlt
  have hsl := sum_take_le (classList rows 0 rows.length) (i + 1)
  have hseen : wrap64 (((((classList rows 0 rows.length).take i).map List.length).sum : Nat) + ((such 0 rows.length (Both rows f)).length : Int)) = (((((classList rows 0 rows.length).take (i + 1)).map List.length).sum : Nat) : Int) := by
   rw [hst, hcf, w64 (by omega) (by omega)]
   omega
  obtain ⟨k, rfl⟩ : ∃ q, k = q + (such 0 rows.length (Both rows f)).length + 2 := ⟨k - (such 0 rows.length (Both rows f)).length - 2, by omega⟩
  have e8 := e2 code a s nums ok (classList rows 0 rows.length) single (such 0 rows.length (IsEnd o rows)) per el (((((classList rows 0 rows.length).take (i + 1)).map List.length).sum : Nat) : Int) (classList rows 0 rows.length) ((classList rows 0 rows.length).length : Int) i f hf hfst (such 0 rows.length (Both rows f)).length 0 (by omega) k (by omega)
  rw [wsucc i (by omega)] at e8
  have e9 := e8.trans (ih (i + 1) (by omega) k (by omega))
  show laws_FnStatesStep.l1 ((k + (such 0 rows.length (Both rows f)).length + 1) + 1) _ _ _ _ _ _ _ _ _ _ _ _ _ _ _ _ _ = _
  obtain ⟨q, hq⟩ : ∃ q, q = k + (such 0 rows.length (Both rows f)).length + 1 := ⟨_, rfl⟩
  rw [← hq] at e9 ⊢
  have hqk : 1000001 ≤ q := by omega
  have h0 : (0 : Int) ≤ (i : Int) := by omega
  have h1 : (i : Int) < ((classList rows 0 rows.length).length : Int) := by omega
  have hc2 : ¬ ((such 0 rows.length (Both rows f)).length : Int) < 1 := by omega
  have hc3 : (0 : Int) < ((such 0 rows.length (Both rows f)).length : Int) := by omega
  have hcr : laws_uRises.f q (such 0 rows.length (Both rows f)) = some true := uRises_ev _ (such_rises _ _ _) (by omega) q (by omega)
  simp only [laws_FnStatesStep.l1]
  rw [if_pos h1, if_pos h0, if_pos h1, hrd, if_neg hc2, hcr]
  simp only [Option.bind_some, if_true]
  rw [hseen]
  by_cases c : (i : Int) > 0
  · obtain ⟨i, rfl⟩ : ∃ p, i = p + 1 := ⟨i - 1, by omega⟩
    have hup := class_up hlt
    obtain ⟨g, hg2, _, hcg, hg0, hg1⟩ := class_at (show i < (classList rows 0 rows.length).length from Nat.lt_of_succ_lt hlt)
    have hw : wrap64 (((i + 1 : Nat) : Int) - 1) = (i : Int) := by rw [w64 (by omega) (by omega)]; omega
    have hrg : rd_L2 (classList rows 0 rows.length) (i : Int) = such 0 rows.length (Both rows g) := by rw [rd1_get (Nat.lt_of_succ_lt hlt), hcg]
    rw [hcg, hcf, hg1, hc1] at hup
    have hgl : (0 : Int) < ((such 0 rows.length (Both rows g)).length : Int) := Int.ofNat_lt.2 hg0
    have hi0 : (0 : Int) ≤ (i : Int) := Int.natCast_nonneg i
    have hi1 : (i : Int) < ((classList rows 0 rows.length).length : Int) := Int.ofNat_lt.2 (Nat.lt_of_succ_lt hlt)
    rw [if_pos c, hw, if_pos hi0, if_pos hi1, hrg, if_pos hgl, if_pos hc3, hg1, hc1, if_neg (Int.not_le.2 hup)]
    exact e9
  · rw [if_neg c]
    exact e9
theorem fs_j2 {o : Int} {rows : List (List Int)} {code : List Int} {a s : Int} {nums : List Int} {ok : Bool} {cls : List (List Int)} {three single : Bool} {lasting ends : List Int} {per : Int} {el : Bool} {K6 : Nat} (h6 : ∀ k, K6 ≤ k → laws_FnStatesStep.j6 k code a s nums ok per el = some true)
 (h : three = true → Good o rows ∧ cls = classList rows 0 rows.length ∧ (single = true ↔ (classList rows 0 rows.length).length = 1) ∧ lasting = such 0 rows.length (Lasts rows) ∧ ends = such 0 rows.length (IsEnd o rows)) :
 ∃ K, ∀ k, K ≤ k → laws_FnStatesStep.j2 k code a s nums ok cls three single lasting ends per el o rows = some true := by
 cases three with
 | false =>
  refine ⟨K6 + 1, fun k hk => ?_⟩
  obtain ⟨k, rfl⟩ : ∃ q, k = q + 1 := ⟨k - 1, by omega⟩
  simp only [laws_FnStatesStep.j2]
  rw [if_neg (by decide)]
  exact h6 k (by omega)
 | true =>
  obtain ⟨hg, rfl, hs, rfl, rfl⟩ := h rfl
  obtain ⟨K, e⟩ := fs_l1 hg h6 hs
  refine ⟨K + 10 * (classList rows 0 rows.length).length + 2, fun k hk => ?_⟩
  obtain ⟨k, rfl⟩ : ∃ q, k = q + 1 := ⟨k - 1, by omega⟩
  simp only [laws_FnStatesStep.j2]
  rw [if_pos trivial]
  have := e (classList rows 0 rows.length).length 0 (by omega) k (by omega)
  rw [List.take_zero] at this
  exact this
theorem fs_l0 {o : Int} {rows : List (List Int)} (hg : Good o rows) {f m : Nat} (hf : f < rows.length) (hm : m ≤ 8) {code : List Int} {cls : List (List Int)} {three single : Bool} {lasting ends : List Int} {per : Int} {el : Bool} {K2 : Nat}
 (h2 : ∀ k, K2 ≤ k → laws_FnStatesStep.j2 k code f m (stepsw rows m (unit rows.length f)) true cls three single lasting ends per el o rows = some true) :
 ∃ K, ∀ (d i : Nat), i + d = rows.length → ∀ k, K + d < k → laws_FnStatesStep.l0 k code f m (stepsw rows m (unit rows.length f)) true (such 0 rows.length (fun j => RC rows (-1) f j)) cls three single lasting ends per el (stepsw rows m (unit rows.length f)) (rows.length : Int) i o rows = some true := by
 obtain ⟨K3, e3⟩ := ways_all hg hf hm
 refine ⟨K2 + K3 + 1000001, fun d => ?_⟩
 obtain ⟨s1, s2, s3, s4⟩ := stepsw_facts (good_steppy hg) hf m hm
 have t4 := (stepsw_facts (sgn_steppy hg) (f := f) (by rw [List.length_map]; exact hf) m hm).2.2.2
 rw [List.length_map] at t4
 have hn5 : rows.length ≤ 5 := hg.2.2.2.1
 have hrl := such_len 0 rows.length (fun j => RC rows (-1) f j)
 induction d with
 | zero =>
  intro i hi k hk
  obtain ⟨k, rfl⟩ : ∃ q, k = q + 1 := ⟨k - 1, by omega⟩
  simp only [laws_FnStatesStep.l0]
  rw [iN_]
  exact h2 k (by omega)
 | succ d ih =>
  intro i hi k hk
  obtain ⟨k, rfl⟩ : ∃ q, k = q + 1 := ⟨k - 1, by omega⟩
  have e9 := ih (i + 1) (by omega) k (by omega)
  have hin : i < rows.length := by omega
  have hnn : ¬ rd (stepsw rows m (unit rows.length f)) (i : Int) < 0 := by
   have := s2 _ (rd_mem (l := stepsw rows m (unit rows.length f)) (i := i) (by omega))
   omega
  have hp := s4 i
  have hq := t4 i
  rw [wk_sgn] at hq
  rw [← gdr] at hp hq
  have hdec : ((decide (rd (stepsw (rows.map (fun r => r.map sgn)) m (unit rows.length f)) (i : Int) > 0)) != (decide (rd (stepsw rows m (unit rows.length f)) (i : Int) > 0))) = false := by
   rw [bne_eq_false_iff_eq, Bool.eq_iff_iff, decide_eq_true_iff, decide_eq_true_iff]
   exact hq.trans hp.symm
  have h0 : (0 : Int) ≤ (i : Int) := by omega
  have h1 : (i : Int) < (rows.length : Int) := by omega
  have h1' : (i : Int) < ((stepsw rows m (unit rows.length f)).length : Int) := by omega
  simp only [laws_FnStatesStep.l0]
  rw [if_pos h1, if_pos h0, if_pos h1', e3 i hin k (by omega)]
  simp only [Option.bind_some]
  rw [if_neg hnn, if_pos trivial, hdec, if_neg (by decide), wsucc i (by omega)]
  by_cases c : rd (stepsw rows m (unit rows.length f)) (i : Int) > 0
  · have hmem : ((i : Int) ∈ such 0 rows.length (fun j => RC rows (-1) f j)) := such_mem.2 ⟨i, rfl, Nat.zero_le _, by omega, (wk_rc hf (hp.1 c)).1⟩
    rw [if_pos c, uHas_ev _ _ (by omega) k (by omega), decide_eq_true hmem]
    simp only [Option.bind_some, if_true]
    exact e9
  · rw [if_neg c]
    exact e9
theorem fs_j0 {o : Int} {rows : List (List Int)} {code : List Int} {a s : Int} {nums : List Int} {den : Int} {ok : Bool} {reached : List Int} {cls : List (List Int)} {three single : Bool} {lasting ends : List Int} {per : Int} {el : Bool} {K2 : Nat}
 (h2 : ∀ k, K2 ≤ k → laws_FnStatesStep.j2 k code a s nums ok cls three single lasting ends per el o rows = some true)
 (h : ok = true → Good o rows ∧ ∃ f m : Nat, a = f ∧ s = m ∧ f < rows.length ∧ m ≤ 8 ∧ nums = stepsw rows m (unit rows.length f) ∧ den = pww o m 1 ∧ reached = such 0 rows.length (fun j => RC rows (-1) f j)) :
 ∃ K, ∀ k, K ≤ k → laws_FnStatesStep.j0 k code a s nums den ok reached cls three single lasting ends per el false o rows = some true := by
 cases ok with
 | false =>
  refine ⟨K2 + 1, fun k hk => ?_⟩
  obtain ⟨k, rfl⟩ : ∃ q, k = q + 1 := ⟨k - 1, by omega⟩
  simp only [laws_FnStatesStep.j0]
  rw [if_neg (by decide), if_neg (by decide)]
  exact h2 k (by omega)
 | true =>
  obtain ⟨hg, f, m, rfl, rfl, hf, hm, rfl, rfl, rfl⟩ := h rfl
  obtain ⟨K, e⟩ := fs_l0 hg hf hm h2
  obtain ⟨s1, s2, s3, s4⟩ := stepsw_facts (good_steppy hg) hf m hm
  obtain ⟨u1, u2, u3, u4⟩ := unit_facts hf
  have hp10 : 10 ^ m ≤ 10 ^ 8 := Nat.pow_le_pow_right (by decide) hm
  have hp10' : ((10 : Int) ^ m) ≤ 100000000 := by
   have : ((10 ^ m : Nat) : Int) ≤ ((10 ^ 8 : Nat) : Int) := Int.ofNat_le.2 hp10
   rw [Int.natCast_pow] at this
   exact this
  have hsum := stepsw_sum (good_steppy hg) hg.1 hg.2.1 (fun r hr => (hg.2.2.2.2 r hr).2.2) m (unit rows.length f) u1 u2 (by rw [u3]; decide) (by rw [u3]; omega)
  rw [u3] at hsum
  have hn5 : rows.length ≤ 5 := hg.2.2.2.1
  refine ⟨K + rows.length + 1000010, fun k hk => ?_⟩
  obtain ⟨k, rfl⟩ : ∃ q, k = q + 1 := ⟨k - 1, by omega⟩
  have e9 := e rows.length 0 (by omega) k (by omega)
  simp only [laws_FnStatesStep.j0]
  rw [if_neg (by decide), if_pos trivial, s1, if_pos rfl, uSum_ev _ s2 (by omega) (by omega) k (by omega)]
  simp only [Option.bind_some]
  rw [if_pos hsum.1, iN_]
  exact e9
theorem step_period {o : Int} {rows : List (List Int)} (hg : Good o rows) {f m : Nat} (hf : f < rows.length) (hm : m ≤ 8) (hp : 0 < perR rows f 30 1 0) : Int.tmod (m : Int) (perR rows f 30 1 0) = 0 ∨ (0 ≤ (f : Int) ∧ (f : Int) < ((stepsw rows m (unit rows.length f)).length : Int) ∧ rd (stepsw rows m (unit rows.length f)) (f : Int) = 0) := by
 obtain ⟨s1, s2, s3, s4⟩ := stepsw_facts (good_steppy hg) hf m hm
 have h4 := s4 f
 rw [← gdr] at h4
 have h0 := s2 _ (rd_mem (l := stepsw rows m (unit rows.length f)) (i := f) (by omega))
 by_cases c : Wk rows f f m
 · refine Or.inl ?_
   by_cases m0 : m = 0
   · subst m0; simp
   · exact Int.tmod_eq_zero_of_dvd (per_dvd (by omega) (by omega) c)
 · refine Or.inr ⟨by omega, by omega, ?_⟩
   have : ¬ 0 < rd (stepsw rows m (unit rows.length f)) (f : Int) := fun h => c (h4.1 h)
   omega
theorem FnStatesStep (l0 : List Int) (l1 : List Int) (_h1 : l0.length ≤ maxLen) (_h2 : l0.length * 1 ≤ 140737488351232) (hw0 : ∀ x ∈ l0, (Lit.int .u8 x).wf = true) (_h3 : l1.length ≤ maxLen) (_h4 : l1.length * 1 ≤ 140737488351232) (hw1 : ∀ x ∈ l1, (Lit.int .u8 x).wf = true) : ∃ k, laws_FnStatesStep.f k l0 l1 = some true := by
 by_cases hb1 : (l0.length : Int) > 1048576
 · refine ⟨0, ?_⟩
   simp only [laws_FnStatesStep.f, laws_big.f, if_pos hb1, Option.bind_some, ↓reduceIte]
 by_cases hb2 : (l1.length : Int) > (wrap64 (1048576 - (l0.length : Int)))
 · refine ⟨0, ?_⟩
   simp only [laws_FnStatesStep.f, laws_big.f, if_neg hb1, decide_eq_true hb2, Option.bind_some, ↓reduceIte]
 have hu8 : ∀ x : Int, (Lit.int .u8 x).wf = true → 0 ≤ x ∧ x ≤ 255 := by
  intro x h
  simp [Lit.wf, IntKind.min, IntKind.max, IntKind.signed, IntKind.bits] at h
  omega
 have hl1 : l1.length ≤ 1048576 := by
  have hb2' := hb2
  rw [w64 (by omega) (by omega)] at hb2'
  omega
 have hc0 : Byt l0 := ⟨by omega, fun x hx => hu8 x (hw0 x hx)⟩
 have hc1 : Byt l1 := ⟨hl1, fun x hx => hu8 x (hw1 x hx)⟩
 have hbig : laws_big.f l0 l1 = some false := by
  simp only [laws_big.f, if_neg hb1, decide_eq_false hb2]
 clear hb1 hb2
 obtain ⟨o, rows, a, s, n1, n2, eD⟩ := drawAfter_ev hc0
 have g1 : rows.length ≤ 1048576 := by omega
 have g2 : ∀ r ∈ rows, r.length ≤ 1048576 := fun r hr => by have := n2 r hr; omega
 obtain ⟨nums, den, uA, hA, iA, fA, KA, eA⟩ := after_char o rows a s g1 g2
 obtain ⟨reached, uR, hR, iR, fR, KR, eR⟩ := reached_char o rows a g1 g2
 obtain ⟨cls, uC, hC, iC, fC, KC, eC⟩ := classes_char o rows g1 g2
 obtain ⟨single, u1, h1, i1, f1, K1, e1⟩ := oneClass_char o rows g1 g2
 obtain ⟨lasting, uL, hL, iL, fL, KL, eL⟩ := lasting_char o rows g1 g2
 obtain ⟨ends, uE, hE, iE, fE, KE, eE⟩ := ends_char o rows g1 g2
 obtain ⟨per, uP, hP, iP, KP, eP⟩ := period_char o rows a g1 g2
 obtain ⟨t1, it1, Kt, et⟩ := areStates_ev o rows g1 g2
 obtain ⟨t2, it2, Ks, es⟩ := saGood_ev o rows g1 g2
 have e_2 : t2 = t1 := by rw [Bool.eq_iff_iff, it1, it2]
 have e_C : uC = t1 := by rw [Bool.eq_iff_iff, it1, iC]
 have e_1 : u1 = t1 := by rw [Bool.eq_iff_iff, it1, i1]
 have e_L : uL = t1 := by rw [Bool.eq_iff_iff, it1, iL]
 have e_E : uE = t1 := by rw [Bool.eq_iff_iff, it1, iE]
 subst e_2 e_C e_1 e_L e_E
 obtain ⟨K6, e6⟩ := fs_j6 hc1
 have h6 : uP = true → 1 ≤ per ∧ (uA = true → Int.tmod s per = 0 ∨ (0 ≤ a ∧ a < (nums.length : Int) ∧ rd nums a = 0)) := by
  intro h
  have hg := iP h
  obtain ⟨p1, p2⟩ := hP hg
  have p3 := p2.1 h
  refine ⟨by omega, fun hu => ?_⟩
  obtain ⟨f, m, rfl, rfl, q1, q2, rfl, _⟩ := hA hu
  rw [Int.toNat_natCast] at p1
  subst p1
  exact step_period hg.1 q1 q2 p3
 obtain ⟨K2, e2⟩ := fs_j2 (o := o) (rows := rows) (code := l1) (a := a) (s := s) (nums := nums) (ok := uA) (cls := cls) (three := uE) (single := single) (lasting := lasting) (ends := ends) (per := per) (el := uP) (fun k hk => e6 k hk a s nums uA per uP h6)
  (fun h => ⟨i1.1 h, hC h, h1 h, hL h, hE h⟩)
 obtain ⟨K0, e0⟩ := fs_j0 (o := o) (rows := rows) (code := l1) (a := a) (s := s) (nums := nums) (den := den) (ok := uA) (reached := reached) (cls := cls) (three := uE) (single := single) (lasting := lasting) (ends := ends) (per := per) (el := uP) e2
  (fun h => by
   have hg := (iA.1 h).1
   obtain ⟨f, m, rfl, rfl, q1, q2, q3, q4⟩ := hA h
   obtain ⟨f', hf', _, hr⟩ := hR (iR.2 ⟨hg, (iA.1 h).2.1⟩)
   have : f' = f := by omega
   subst this
   exact ⟨hg, f', m, rfl, rfl, q1, q2, q3, q4, hr⟩)
 have z1 : nums.length ≤ 1000000 := by
  cases uA with
  | false => rw [(fA rfl).1]; simp
  | true =>
   have hg := (iA.1 rfl).1
   obtain ⟨f, m, rfl, rfl, q1, q2, rfl, _⟩ := hA rfl
   rw [(stepsw_facts (good_steppy hg) q1 m q2).1]
   omega
 have z2 : reached.length ≤ 1000000 := by
  cases uR with
  | false => rw [fR rfl]; simp
  | true =>
   obtain ⟨f', hf', _, rfl⟩ := hR rfl
   have := such_len 0 rows.length (fun i => RC rows (-1) f' i)
   omega
 have z3 : cls.length ≤ 1000000 ∧ ∀ r ∈ cls, r.length ≤ 1000000 := by
  cases uE with
  | false => rw [fC rfl]; simp
  | true =>
   rw [hC rfl]
   obtain ⟨q1, q2⟩ := classList_size rows 0 rows.length
   exact ⟨by omega, fun r hr => by have := q2 r hr; omega⟩
 have z4 : lasting.length ≤ 1000000 := by
  cases uE with
  | false => rw [fL rfl]; simp
  | true =>
   rw [hL rfl]
   have := such_len 0 rows.length (Lasts rows)
   omega
 have z5 : ends.length ≤ 1000000 := by
  cases uE with
  | false => rw [fE rfl]; simp
  | true =>
   rw [hE rfl]
   have := such_len 0 rows.length (IsEnd o rows)
   omega
 obtain ⟨k, hk, kA, kR, kC, k1, kL, kE, kP, kt, ks, k0⟩ : ∃ k, 3000000 ≤ k ∧ KA ≤ k ∧ KR ≤ k ∧ KC ≤ k ∧ K1 ≤ k ∧ KL ≤ k ∧ KE ≤ k ∧ KP ≤ k ∧ Kt ≤ k ∧ Ks ≤ k ∧ K0 ≤ k :=
  ⟨3000000 + KA + KR + KC + K1 + KL + KE + KP + Kt + Ks + K0, by omega, by omega, by omega, by omega, by omega, by omega, by omega, by omega, by omega, by omega, by omega⟩
 refine ⟨k, ?_⟩
 have x0 := e0 k k0
 have xs : spec_AreStates.f k o rows = some uE := by
  simp only [spec_AreStates.f, es k ks, Option.bind_some]
 have w1 := uSame_ev nums z1 k (by omega)
 have w2 := uSame_ev reached z2 k (by omega)
 have w3 := uRows_ev cls z3.1 z3.2 k (by omega)
 have w4 := uSame_ev lasting z4 k (by omega)
 have w5 := uSame_ev ends z5 k (by omega)
 simp only [laws_FnStatesStep.f, hbig, Option.bind_some, Bool.false_eq_true, ↓reduceIte, eD k (by omega), (eA k kA).1, (eA k kA).2, (eR k kR).1, (eR k kR).2, (eC k kC).1, (eC k kC).2, (e1 k k1).1, (e1 k k1).2, (eL k kL).1, (eL k kL).2, (eE k kE).1, (eE k kE).2, (eP k kP).1, (eP k kP).2, bne_self_eq_false, w1, w2, w3, w4, w5, et k kt, xs, x0]
 have y1 : uA = true → uR = true := fun h => iR.2 ⟨(iA.1 h).1, (iA.1 h).2.1⟩
 have y2 : uR = true → uE = true := fun h => i1.2 (iR.1 h).1
 have y3 : uP = true → uR = true := fun h => iR.2 (iP h)
 cases uA <;> cases uR <;> cases uE <;> cases uP <;> simp at y1 y2 y3 ⊢
end Go.Proofs.Ytkkjnmnjbmfpaaa.Pure
