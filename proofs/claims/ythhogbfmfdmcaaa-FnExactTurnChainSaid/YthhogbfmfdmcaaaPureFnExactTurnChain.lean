/- For all arguments the program and the reference return the same from TurnChain: the plain statement over numbers and lists, and its proof. -/
import Derived.Test.YthhogbfmfdmcaaaPFnExactTurnChainx1
namespace Go.Proofs.Ythhogbfmfdmcaaa.Pure
open Go.RowKit Go.Proofs.Ythhogbfmfdmcaaa.PFnExactTurnChain Go.Proofs.YthhogbfmfdmcaaaW.PrintWords Go.Proofs.YthhogbfmfdmcaaaW.PrintLast Go.Proofs.YthhogbfmfdmcaaaW.PrintMore
set_option linter.unusedVariables false
set_option linter.unusedSimpArgs false
set_option maxRecDepth 100000
theorem w64 {x : Int} (h0 : -9223372036854775808 ≤ x) (h1 : x ≤ 9223372036854775807) : wrap64 x = x := by
  unfold wrap64
  omega

theorem mul_fits {x y A B : Int} (hx : x.natAbs ≤ A.natAbs) (hy : y.natAbs ≤ B.natAbs) : (x * y).natAbs ≤ (A * B).natAbs := by
  rw [Int.natAbs_mul, Int.natAbs_mul]
  exact Nat.mul_le_mul hx hy

/-- A product of numbers of at most nine digits. -/
theorem mul9 {x y : Int} (hx : x.natAbs ≤ 1000000000) (hy : y.natAbs ≤ 1000000000) : (x * y).natAbs ≤ 1000000000000000000 := by
  rw [Int.natAbs_mul]
  exact Nat.le_trans (Nat.mul_le_mul hx hy) (by decide)

theorem wf_range {a : Int} (h : (Lit.int .i64 a).wf = true) : -9223372036854775808 ≤ a ∧ a ≤ 9223372036854775807 := by
  simp [Lit.wf, IntKind.min, IntKind.max, IntKind.signed, IntKind.bits] at h
  omega

/-- Is a chain: as both tell it. -/
theorem cnGood_is (w d o : Int) : spec_cnGood.f w d o = some (decide (1 ≤ o ∧ o ≤ 10 ∧ 0 ≤ w ∧ w ≤ o ∧ 0 ≤ d ∧ d ≤ o)) := by
  unfold spec_cnGood.f spec_l1In.f
  by_cases h1 : 1 ≤ o ∧ o ≤ 10 ∧ 0 ≤ w ∧ w ≤ o ∧ 0 ≤ d ∧ d ≤ o
  · rw [decide_eq_true h1]
    obtain ⟨h1, h2, h3, h4, h5, h6⟩ := h1
    simp [*]
  · rw [decide_eq_false h1]
    grind

theorem isChain_is (w d o : Int) : impl_IsChain.f w d o = some (decide (1 ≤ o ∧ o ≤ 10 ∧ 0 ≤ w ∧ w ≤ o ∧ 0 ≤ d ∧ d ≤ o)) := by
  unfold impl_IsChain.f impl_within.f
  by_cases h1 : 1 ≤ o ∧ o ≤ 10 ∧ 0 ≤ w ∧ w ≤ o ∧ 0 ≤ d ∧ d ≤ o
  · rw [decide_eq_true h1]
    obtain ⟨h1, h2, h3, h4, h5, h6⟩ := h1
    simp [*]
  · rw [decide_eq_false h1]
    grind

theorem FnExactTurnChain (w d o : Int) (ww : (Lit.int .i64 w).wf = true) (wd : (Lit.int .i64 d).wf = true) (wo : (Lit.int .i64 o).wf = true) : laws_FnExactTurnChain.f w d o = some true := by
  simp only [laws_FnExactTurnChain.f, laws_toChain.f, laws_eqChain.f, spec_TurnChain.f, impl_TurnChain.f, cnGood_is, isChain_is, Option.bind_some]
  by_cases h1 : 1 ≤ o ∧ o ≤ 10 ∧ 0 ≤ w ∧ w ≤ o ∧ 0 ≤ d ∧ d ≤ o
  · rw [decide_eq_true h1]
    simp
  · rw [decide_eq_false h1]
    simp

end Go.Proofs.Ythhogbfmfdmcaaa.Pure
