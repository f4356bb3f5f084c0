/- For all arguments the program and the reference return the same from ChainText: the plain statement over numbers and lists, and its proof. -/
import Derived.Test.YtnfcfhieocgomaaDoorPFnExactChainTextx1
import Derived.Test.YtnfcfhieocgomaaDoorPFnExactChainTextx2
namespace Go.Proofs.YtnfcfhieocgomaaDoor.Pure
open Go.RowKit Go.Proofs.YtnfcfhieocgomaaDoor.PFnExactChainText Go.Proofs.YtnfcfhieocgomaaDoorW.PrintWords Go.Proofs.YtnfcfhieocgomaaDoorW.PrintLast Go.Proofs.YtnfcfhieocgomaaDoorW.PrintMore
set_option linter.unusedVariables false
set_option linter.unusedSimpArgs false
set_option maxRecDepth 100000
theorem w64 {x : Int} (h0 : -9223372036854775808 ≤ x) (h1 : x ≤ 9223372036854775807) : wrap64 x = x := by
  unfold wrap64
  omega

theorem mul_fits {x y A B : Int} (hx : x.natAbs ≤ A.natAbs) (hy : y.natAbs ≤ B.natAbs) : (x * y).natAbs ≤ (A * B).natAbs := by
  rw [Int.natAbs_mul, Int.natAbs_mul]
  exact Nat.mul_le_mul hx hy

/-- A product of numbers of at most nine digits. -/
theorem mul9 {x y : Int} (hx : x.natAbs ≤ 1000000000) (hy : y.natAbs ≤ 1000000000) : (x * y).natAbs ≤ 1000000000000000000 := by
  rw [Int.natAbs_mul]
  exact Nat.le_trans (Nat.mul_le_mul hx hy) (by decide)

theorem wf_range {a : Int} (h : (Lit.int .i64 a).wf = true) : -9223372036854775808 ≤ a ∧ a ≤ 9223372036854775807 := by
  simp [Lit.wf, IntKind.min, IntKind.max, IntKind.signed, IntKind.bits] at h
  omega

/-- Is a chain: as both tell it. -/
theorem cnGood_is (w d o : Int) : spec_cnGood.f w d o = some (decide (1 ≤ o ∧ o ≤ 10 ∧ 0 ≤ w ∧ w ≤ o ∧ 0 ≤ d ∧ d ≤ o)) := by
  unfold spec_cnGood.f spec_l1In.f
  by_cases h1 : 1 ≤ o ∧ o ≤ 10 ∧ 0 ≤ w ∧ w ≤ o ∧ 0 ≤ d ∧ d ≤ o
  · rw [decide_eq_true h1]
    obtain ⟨h1, h2, h3, h4, h5, h6⟩ := h1
    simp [*]
  · rw [decide_eq_false h1]
    grind

theorem isChain_is (w d o : Int) : impl_IsChain.f w d o = some (decide (1 ≤ o ∧ o ≤ 10 ∧ 0 ≤ w ∧ w ≤ o ∧ 0 ≤ d ∧ d ≤ o)) := by
  unfold impl_IsChain.f impl_within.f
  by_cases h1 : 1 ≤ o ∧ o ≤ 10 ∧ 0 ≤ w ∧ w ≤ o ∧ 0 ≤ d ∧ d ≤ o
  · rw [decide_eq_true h1]
    obtain ⟨h1, h2, h3, h4, h5, h6⟩ := h1
    simp [*]
  · rw [decide_eq_false h1]
    grind

theorem chainText_all : ∀ o : Fin 11, ∀ h : Fin 11, ∀ d : Fin 11, (1 ≤ o.val ∧ h.val ≤ o.val ∧ d.val ≤ o.val) → laws_FnExactChainText.f 10 (h.val : Int) (d.val : Int) (o.val : Int) = some true := by decide +kernel

theorem FnExactChainText (w d o : Int) (ww : (Lit.int .i64 w).wf = true) (wd : (Lit.int .i64 d).wf = true) (wo : (Lit.int .i64 o).wf = true) : ∃ k, laws_FnExactChainText.f k w d o = some true := by
  by_cases c : 1 ≤ o ∧ o ≤ 10 ∧ 0 ≤ w ∧ w ≤ o ∧ 0 ≤ d ∧ d ≤ o
  · obtain ⟨n, rfl⟩ := Int.eq_ofNat_of_zero_le (show 0 ≤ o by omega)
    obtain ⟨m, rfl⟩ := Int.eq_ofNat_of_zero_le (show 0 ≤ w by omega)
    obtain ⟨j, rfl⟩ := Int.eq_ofNat_of_zero_le (show 0 ≤ d by omega)
    exact ⟨10, chainText_all ⟨n, by omega⟩ ⟨m, by omega⟩ ⟨j, by omega⟩ ⟨by show 1 ≤ n; omega, by show m ≤ n; omega, by show j ≤ n; omega⟩⟩
  · have g1 := cnGood_is w d o
    have g2 := isChain_is w d o
    rw [decide_eq_false c] at g1 g2
    refine ⟨0, ?_⟩
    simp only [laws_FnExactChainText.f, laws_toChain.f, spec_ChainText.f, impl_ChainText.f, g1, g2, Option.bind_some, Bool.false_eq_true, ↓reduceIte]
    simp

end Go.Proofs.YtnfcfhieocgomaaDoor.Pure
