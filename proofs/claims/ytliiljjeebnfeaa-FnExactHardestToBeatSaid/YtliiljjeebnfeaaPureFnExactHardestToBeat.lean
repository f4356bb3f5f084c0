/- For all arguments the program and the reference return the same from HardestToBeat: the plain statement over numbers and lists, and its proof. -/
import Derived.Test.YtliiljjeebnfeaaPFnExactHardestToBeatx1
import Derived.Test.YtliiljjeebnfeaaPFnExactHardestToBeatx2
import Derived.Test.YtliiljjeebnfeaaPFnExactHardestToBeatx3
import Derived.Test.YtliiljjeebnfeaaPFnExactHardestToBeatx4
import Derived.Test.YtliiljjeebnfeaaPFnExactHardestToBeatx5
import Derived.Test.YtliiljjeebnfeaaPFnExactHardestToBeatx6
import Derived.Test.YtliiljjeebnfeaaHbAll
namespace Go.Proofs.Ytliiljjeebnfeaa.Pure
open Go.RowKit Go.Proofs.Ytliiljjeebnfeaa.PFnExactHardestToBeat Go.Proofs.YtliiljjeebnfeaaW.PrintWords Go.Proofs.YtliiljjeebnfeaaW.PrintLast Go.Proofs.YtliiljjeebnfeaaW.PrintMore
set_option linter.unusedVariables false
set_option linter.unusedSimpArgs false
set_option maxRecDepth 100000
theorem w64 {x : Int} (h0 : -9223372036854775808 ≤ x) (h1 : x ≤ 9223372036854775807) : wrap64 x = x := by
  unfold wrap64
  omega

theorem mul_fits {x y A B : Int} (hx : x.natAbs ≤ A.natAbs) (hy : y.natAbs ≤ B.natAbs) : (x * y).natAbs ≤ (A * B).natAbs := by
  rw [Int.natAbs_mul, Int.natAbs_mul]
  exact Nat.mul_le_mul hx hy

/-- A product of numbers of at most nine digits. -/
theorem mul9 {x y : Int} (hx : x.natAbs ≤ 1000000000) (hy : y.natAbs ≤ 1000000000) : (x * y).natAbs ≤ 1000000000000000000 := by
  rw [Int.natAbs_mul]
  exact Nat.le_trans (Nat.mul_le_mul hx hy) (by decide)

theorem wf_range {a : Int} (h : (Lit.int .i64 a).wf = true) : -9223372036854775808 ≤ a ∧ a ≤ 9223372036854775807 := by
  simp [Lit.wf, IntKind.min, IntKind.max, IntKind.signed, IntKind.bits] at h
  omega

/-- Is a coin: as both tell it. -/
theorem ptCoin_is (h o : Int) (b : o ≤ 9223372036854775807) (b' : -9223372036854775808 ≤ o) : spec_ptCoin.f h o = some (decide (2 ≤ o ∧ o ≤ 10 ∧ 1 ≤ h ∧ h ≤ o - 1)) := by
  unfold spec_ptCoin.f spec_l1In.f
  by_cases h1 : o ≥ 2
  · rw [if_pos h1, w64 (by omega) (by omega)]
    simp only [Option.bind_some, decide_eq_true_eq]
    by_cases h2 : o ≤ 10
    · rw [if_pos h2]
      by_cases h3 : h ≥ 1
      · rw [if_pos h3]
        exact congrArg some (decide_eq_decide.2 (by omega))
      · rw [if_neg h3]
        exact congrArg some (decide_eq_false (by omega)).symm
    · rw [if_neg h2]
      exact congrArg some (decide_eq_false (by omega)).symm
  · rw [if_neg h1]
    exact congrArg some (decide_eq_false (by omega)).symm

theorem isCoin_is (h o : Int) (b : o ≤ 9223372036854775807) (b' : -9223372036854775808 ≤ o) : impl_IsCoin.f h o = some (decide (2 ≤ o ∧ o ≤ 10 ∧ 1 ≤ h ∧ h ≤ o - 1)) := by
  rw [← ptCoin_is h o b b']
  unfold impl_IsCoin.f impl_within.f spec_ptCoin.f spec_l1In.f
  rfl

theorem in_true {n a b : Int} (h : a ≤ n ∧ n ≤ b) : (if n ≥ a then some (decide (n ≤ b)) else some false) = some true := by
  rw [if_pos h.1, decide_eq_true h.2]
theorem in_false {n a b : Int} (h : ¬ (a ≤ n ∧ n ≤ b)) : (if n ≥ a then some (decide (n ≤ b)) else some false) = some false := by
  by_cases h1 : n ≥ a
  · rw [if_pos h1, decide_eq_false (by omega)]
  · rw [if_neg h1]

/-- Each text with one sign more. -/
def dbl (a b : ByteArray) (l : List ByteArray) : List ByteArray := l.flatMap fun s => [s ++ a, s ++ b]
/-- All texts of n signs, in order. -/
def txt (a b : ByteArray) : Nat → List ByteArray
  | 0 => [⟨#[]⟩]
  | n + 1 => dbl a b (txt a b n)

theorem dbl_length (a b : ByteArray) (l : List ByteArray) : (dbl a b l).length = 2 * l.length := by
  induction l with
  | nil => rfl
  | cons x l ih => simp [dbl] at *; omega

theorem txt_length (a b : ByteArray) : ∀ n, (txt a b n).length = 2 ^ n
  | 0 => rfl
  | n + 1 => by rw [txt, dbl_length, txt_length a b n, Nat.pow_succ, Nat.mul_comm]

theorem txt_mem {a b : ByteArray} {P : Nat → ByteArray → Prop} (h0 : P 0 ⟨#[]⟩) (ha : ∀ n s, P n s → P (n + 1) (s ++ a)) (hb : ∀ n s, P n s → P (n + 1) (s ++ b)) : ∀ n, ∀ s ∈ txt a b n, P n s
  | 0, s, h => by
    simp [txt] at h
    subst h
    exact h0
  | n + 1, s, h => by
    simp only [txt, dbl, List.mem_flatMap] at h
    obtain ⟨t, ht, hs⟩ := h
    have := txt_mem h0 ha hb n t ht
    simp at hs
    rcases hs with rfl | rfl
    · exact ha _ _ this
    · exact hb _ _ this

theorem txt_size {a b : ByteArray} (ha : a.size = 1) (hb : b.size = 1) (n : Nat) : ∀ s ∈ txt a b n, s.size = n :=
  txt_mem (P := fun n s => s.size = n) rfl (fun n s h => by rw [ByteArray.size_append]; omega) (fun n s h => by rw [ByteArray.size_append]; omega) n

theorem rdOf_get {xs : List ByteArray} {j : Nat} (h : j < xs.length) : rdOf ByteArray.empty xs (j : Int) = xs[j] := by
  unfold rdOf
  rw [Int.toNat_natCast, List.getD_eq_getElem?_getD, List.getElem?_eq_getElem h]
  rfl

theorem dbl_drop {a b : ByteArray} {xs : List ByteArray} {j : Nat} (h : j < xs.length) : dbl a b (xs.drop j) = [xs[j] ++ a, xs[j] ++ b] ++ dbl a b (xs.drop (j + 1)) := by
  rw [List.drop_eq_getElem_cons h]
  rfl

-- imports: HbAll
theorem hard_out {h o l : Int} (b : o ≤ 9223372036854775807) (b' : -9223372036854775808 ≤ o) (c : ¬ (2 ≤ o ∧ o ≤ 4 ∧ 1 ≤ h ∧ h ≤ o - 1 ∧ 2 ≤ l ∧ l ≤ 5)) : laws_FnExactHardestToBeat.f 2 h o l = some true := by
  have g1 := ptCoin_is h o b b'
  have g2 := isCoin_is h o b b'
  by_cases c1 : 2 ≤ o ∧ o ≤ 10 ∧ 1 ≤ h ∧ h ≤ o - 1
  · rw [decide_eq_true c1] at g1 g2
    by_cases c2 : o ≤ 4
    · have c3 : ¬ (2 ≤ l ∧ l ≤ 5) := fun h3 => c ⟨c1.1, c2, c1.2.2.1, c1.2.2.2, h3.1, h3.2⟩
      simp only [laws_FnExactHardestToBeat.f, laws_toCoin.f, spec_HardestToBeat.f, impl_HardestToBeat.f, spec_raCoin.f, impl_isRaceCoin.f, g1, g2, Option.bind_some, ↓reduceIte, decide_eq_true c2, spec_l1In.f, impl_within.f, in_false c3, Bool.not_false, spec_HardestToBeat.j0, impl_HardestToBeat.j0]
      simp
    · simp only [laws_FnExactHardestToBeat.f, laws_toCoin.f, spec_HardestToBeat.f, impl_HardestToBeat.f, spec_raCoin.f, impl_isRaceCoin.f, g1, g2, Option.bind_some, ↓reduceIte, decide_eq_false c2, Bool.false_eq_true, spec_HardestToBeat.j0, impl_HardestToBeat.j0]
      simp
  · rw [decide_eq_false c1] at g1 g2
    simp only [laws_FnExactHardestToBeat.f, laws_toCoin.f, spec_HardestToBeat.f, impl_HardestToBeat.f, spec_raCoin.f, impl_isRaceCoin.f, g1, g2, Option.bind_some, ↓reduceIte, Bool.false_eq_true, spec_HardestToBeat.j0, impl_HardestToBeat.j0]
    simp

theorem le_up {α : Type} {g : Nat → Option α} (hm : ∀ k, LeO (g k) (g (k + 1))) {n : Nat} {r : α} (h : g n = some r) : ∀ k, n ≤ k → g k = some r := by
  intro k hk
  induction k with
  | zero => rw [show n = 0 from by omega] at h; exact h
  | succ k ih =>
    by_cases c : n ≤ k
    · exact hm k r (ih c)
    · rw [show n = k + 1 from by omega] at h; exact h

theorem hb_up {h o : Int} {a : ByteArray} (c : hbChk h o a = true) : ∃ b x y b', ∀ k, 100 ≤ k → spec_raBest.f k h o a = some (b, x, y) ∧ impl_Coin_answer.f k h o a = some (b', x, y) := by
  unfold hbChk at c
  split at c
  · rename_i b x y b' x' y' e1 e2
    simp only [Bool.and_eq_true, decide_eq_true_eq] at c
    obtain ⟨rfl, rfl⟩ := c
    exact ⟨b, x, y, b', fun k hk => ⟨le_up (fun k => spec_raBest.mono h o a k) e1 k hk, le_up (fun k => impl_Coin_answer.mono h o a k) e2 k hk⟩⟩
  · cases c

theorem hb_loops {h o : Int} {T : List ByteArray} (hT : ∀ a ∈ T, hbChk h o a = true) (hl : T.length < 1000000) :
    ∀ (m i n : Nat) (best : ByteArray) (num den : Int), i + m = T.length → 100 + m + 1 ≤ n →
      ∃ r : ByteArray × Int × Int, spec_HardestToBeat.l0 n best num den T (T.length : Int) (i : Int) h o = some (r.1, r.2.1, r.2.2, true) ∧
        impl_HardestToBeat.l0 n best T (T.length : Int) (i : Int) h o num den = some (r.1, r.2.1, r.2.2, true) := by
  intro m
  induction m with
  | zero =>
    intro i n best num den hi hn
    obtain ⟨n, rfl⟩ : ∃ q, n = q + 1 := ⟨n - 1, by omega⟩
    refine ⟨(best, num, den), ?_, ?_⟩
    · simp only [spec_HardestToBeat.l0]
      rw [if_neg (by omega)]
    · simp only [impl_HardestToBeat.l0]
      rw [if_neg (by omega)]
  | succ m ih =>
    intro i n best num den hi hn
    obtain ⟨n, rfl⟩ : ∃ q, n = q + 1 := ⟨n - 1, by omega⟩
    have hlt : i < T.length := by omega
    have hm : rdOf ByteArray.empty T (i : Int) ∈ T := by
      rw [rdOf_get hlt]
      exact List.getElem_mem _
    obtain ⟨b, x, y, b', hf⟩ := hb_up (hT _ hm)
    obtain ⟨f1, f2⟩ := hf n (by omega)
    have hw : wrap64 ((i : Int) + 1) = ((i + 1 : Nat) : Int) := by rw [w64 (by omega) (by omega)]; omega
    simp only [spec_HardestToBeat.l0, impl_HardestToBeat.l0]
    rw [if_pos (by omega), if_pos (by omega), if_pos (by omega), if_pos (by omega), if_pos (by omega), if_pos (by omega), f1, f2]
    simp only [Option.bind_some, impl_frac_isMore.f, hw]
    by_cases c : wrap64 (x * den) < wrap64 (num * y)
    · rw [if_pos c, if_pos (decide_eq_true c)]
      exact ih (i + 1) n _ _ _ (by omega) (by omega)
    · rw [if_neg c, if_neg (by simpa using c)]
      exact ih (i + 1) n _ _ _ (by omega) (by omega)

theorem hard_in {h o l : Int} {T : List ByteArray} (b : o ≤ 9223372036854775807) (b' : -9223372036854775808 ≤ o) (c1 : 2 ≤ o ∧ o ≤ 10 ∧ 1 ≤ h ∧ h ≤ o - 1) (c2 : o ≤ 4) (c3 : 2 ≤ l ∧ l ≤ 5)
    (ht : spec_raTexts.f 100 l = some T) (ht' : impl_texts.f 100 ⟨#[104]⟩ ⟨#[116]⟩ l = some T) (hT : ∀ a ∈ T, hbChk h o a = true) (hl : T.length < 1000) (n : Nat) (hn : 1999 ≤ n) : laws_FnExactHardestToBeat.f (n + 1) h o l = some true := by
  have g1 := ptCoin_is h o b b'
  have g2 := isCoin_is h o b b'
  rw [decide_eq_true c1] at g1 g2
  have t1 : spec_raTexts.f n l = some T := le_up (fun k => spec_raTexts.mono l k) ht n (by omega)
  have t2 : impl_texts.f n ⟨#[104]⟩ ⟨#[116]⟩ l = some T := le_up (fun k => impl_texts.mono _ _ l k) ht' n (by omega)
  obtain ⟨r, r1, r2⟩ := hb_loops hT (by omega) T.length 0 n ⟨#[]⟩ 2 1 (by omega) (by omega)
  have q1 : spec_HardestToBeat.f (n + 1) h o l = some (r.1, r.2.1, r.2.2, true) := by
    simp only [spec_HardestToBeat.f, spec_raCoin.f, g1, Option.bind_some, ↓reduceIte, decide_eq_true c2, spec_l1In.f, in_true c3, Bool.not_true, spec_HardestToBeat.j0, Bool.false_eq_true, t1]
    exact r1
  have q2 : impl_HardestToBeat.f (n + 1) h o l = some (r.1, r.2.1, r.2.2, true) := by
    simp only [impl_HardestToBeat.f, impl_isRaceCoin.f, g2, Option.bind_some, ↓reduceIte, decide_eq_true c2, impl_within.f, in_true c3, Bool.not_true, impl_HardestToBeat.j0, Bool.false_eq_true, t2, impl_whole.f]
    exact r2
  simp only [laws_FnExactHardestToBeat.f, laws_toCoin.f, Option.bind_some, q1, q2]
  simp

set_option maxRecDepth 1000000 in
theorem hbTx2 : spec_raTexts.f 100 2 = some hbT2 := by kernel_rfl
set_option maxRecDepth 1000000 in
theorem hbTi2 : impl_texts.f 100 ⟨#[104]⟩ ⟨#[116]⟩ 2 = some hbT2 := by kernel_rfl
set_option maxRecDepth 1000000 in
theorem hbTx3 : spec_raTexts.f 100 3 = some hbT3 := by kernel_rfl
set_option maxRecDepth 1000000 in
theorem hbTi3 : impl_texts.f 100 ⟨#[104]⟩ ⟨#[116]⟩ 3 = some hbT3 := by kernel_rfl
set_option maxRecDepth 1000000 in
theorem hbTx4 : spec_raTexts.f 100 4 = some hbT4 := by kernel_rfl
set_option maxRecDepth 1000000 in
theorem hbTi4 : impl_texts.f 100 ⟨#[104]⟩ ⟨#[116]⟩ 4 = some hbT4 := by kernel_rfl
set_option maxRecDepth 1000000 in
theorem hbTx5 : spec_raTexts.f 100 5 = some hbT5 := by kernel_rfl
set_option maxRecDepth 1000000 in
theorem hbTi5 : impl_texts.f 100 ⟨#[104]⟩ ⟨#[116]⟩ 5 = some hbT5 := by kernel_rfl

theorem FnExactHardestToBeat (h o l : Int) (wh : (Lit.int .i64 h).wf = true) (wo : (Lit.int .i64 o).wf = true) (wl : (Lit.int .i64 l).wf = true) : ∃ k, laws_FnExactHardestToBeat.f k h o l = some true := by
  obtain ⟨b', b⟩ := wf_range wo
  by_cases c : 2 ≤ o ∧ o ≤ 4 ∧ 1 ≤ h ∧ h ≤ o - 1 ∧ 2 ≤ l ∧ l ≤ 5
  · refine ⟨1999 + 1, ?_⟩
    have hl : l = 2 ∨ l = 3 ∨ l = 4 ∨ l = 5 := by omega
    have ho : (h = 1 ∧ o = 2) ∨ (h = 1 ∧ o = 3) ∨ (h = 2 ∧ o = 3) ∨ (h = 1 ∧ o = 4) ∨ (h = 2 ∧ o = 4) ∨ (h = 3 ∧ o = 4) := by omega
    rcases ho with ⟨rfl, rfl⟩ | ⟨rfl, rfl⟩ | ⟨rfl, rfl⟩ | ⟨rfl, rfl⟩ | ⟨rfl, rfl⟩ | ⟨rfl, rfl⟩
    · rcases hl with rfl | rfl | rfl | rfl
      · exact hard_in b b' (by decide) (by decide) (by decide) hbTx2 hbTi2 hbAll_1_2_2 (by decide) 1999 (by omega)
      · exact hard_in b b' (by decide) (by decide) (by decide) hbTx3 hbTi3 hbAll_1_2_3 (by decide) 1999 (by omega)
      · exact hard_in b b' (by decide) (by decide) (by decide) hbTx4 hbTi4 hbAll_1_2_4 (by decide) 1999 (by omega)
      · exact hard_in b b' (by decide) (by decide) (by decide) hbTx5 hbTi5 hbAll_1_2_5 (by decide) 1999 (by omega)
    · rcases hl with rfl | rfl | rfl | rfl
      · exact hard_in b b' (by decide) (by decide) (by decide) hbTx2 hbTi2 hbAll_1_3_2 (by decide) 1999 (by omega)
      · exact hard_in b b' (by decide) (by decide) (by decide) hbTx3 hbTi3 hbAll_1_3_3 (by decide) 1999 (by omega)
      · exact hard_in b b' (by decide) (by decide) (by decide) hbTx4 hbTi4 hbAll_1_3_4 (by decide) 1999 (by omega)
      · exact hard_in b b' (by decide) (by decide) (by decide) hbTx5 hbTi5 hbAll_1_3_5 (by decide) 1999 (by omega)
    · rcases hl with rfl | rfl | rfl | rfl
      · exact hard_in b b' (by decide) (by decide) (by decide) hbTx2 hbTi2 hbAll_2_3_2 (by decide) 1999 (by omega)
      · exact hard_in b b' (by decide) (by decide) (by decide) hbTx3 hbTi3 hbAll_2_3_3 (by decide) 1999 (by omega)
      · exact hard_in b b' (by decide) (by decide) (by decide) hbTx4 hbTi4 hbAll_2_3_4 (by decide) 1999 (by omega)
      · exact hard_in b b' (by decide) (by decide) (by decide) hbTx5 hbTi5 hbAll_2_3_5 (by decide) 1999 (by omega)
    · rcases hl with rfl | rfl | rfl | rfl
      · exact hard_in b b' (by decide) (by decide) (by decide) hbTx2 hbTi2 hbAll_1_4_2 (by decide) 1999 (by omega)
      · exact hard_in b b' (by decide) (by decide) (by decide) hbTx3 hbTi3 hbAll_1_4_3 (by decide) 1999 (by omega)
      · exact hard_in b b' (by decide) (by decide) (by decide) hbTx4 hbTi4 hbAll_1_4_4 (by decide) 1999 (by omega)
      · exact hard_in b b' (by decide) (by decide) (by decide) hbTx5 hbTi5 hbAll_1_4_5 (by decide) 1999 (by omega)
    · rcases hl with rfl | rfl | rfl | rfl
      · exact hard_in b b' (by decide) (by decide) (by decide) hbTx2 hbTi2 hbAll_2_4_2 (by decide) 1999 (by omega)
      · exact hard_in b b' (by decide) (by decide) (by decide) hbTx3 hbTi3 hbAll_2_4_3 (by decide) 1999 (by omega)
      · exact hard_in b b' (by decide) (by decide) (by decide) hbTx4 hbTi4 hbAll_2_4_4 (by decide) 1999 (by omega)
      · exact hard_in b b' (by decide) (by decide) (by decide) hbTx5 hbTi5 hbAll_2_4_5 (by decide) 1999 (by omega)
    · rcases hl with rfl | rfl | rfl | rfl
      · exact hard_in b b' (by decide) (by decide) (by decide) hbTx2 hbTi2 hbAll_3_4_2 (by decide) 1999 (by omega)
      · exact hard_in b b' (by decide) (by decide) (by decide) hbTx3 hbTi3 hbAll_3_4_3 (by decide) 1999 (by omega)
      · exact hard_in b b' (by decide) (by decide) (by decide) hbTx4 hbTi4 hbAll_3_4_4 (by decide) 1999 (by omega)
      · exact hard_in b b' (by decide) (by decide) (by decide) hbTx5 hbTi5 hbAll_3_4_5 (by decide) 1999 (by omega)
  · exact ⟨2, hard_out b b' c⟩

end Go.Proofs.Ytliiljjeebnfeaa.Pure
