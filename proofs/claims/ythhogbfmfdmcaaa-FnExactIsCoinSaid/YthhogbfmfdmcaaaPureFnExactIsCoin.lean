/- For all arguments the program and the reference return the same from IsCoin: the plain statement over numbers and lists, and its proof. -/
import Derived.Test.YthhogbfmfdmcaaaPFnExactIsCoinx1
namespace Go.Proofs.Ythhogbfmfdmcaaa.Pure
open Go.RowKit Go.Proofs.Ythhogbfmfdmcaaa.PFnExactIsCoin Go.Proofs.YthhogbfmfdmcaaaW.PrintWords Go.Proofs.YthhogbfmfdmcaaaW.PrintLast Go.Proofs.YthhogbfmfdmcaaaW.PrintMore
set_option linter.unusedVariables false
set_option linter.unusedSimpArgs false
set_option maxRecDepth 100000
theorem w64 {x : Int} (h0 : -9223372036854775808 ≤ x) (h1 : x ≤ 9223372036854775807) : wrap64 x = x := by
  unfold wrap64
  omega

theorem mul_fits {x y A B : Int} (hx : x.natAbs ≤ A.natAbs) (hy : y.natAbs ≤ B.natAbs) : (x * y).natAbs ≤ (A * B).natAbs := by
  rw [Int.natAbs_mul, Int.natAbs_mul]
  exact Nat.mul_le_mul hx hy

/-- A product of numbers of at most nine digits. -/
theorem mul9 {x y : Int} (hx : x.natAbs ≤ 1000000000) (hy : y.natAbs ≤ 1000000000) : (x * y).natAbs ≤ 1000000000000000000 := by
  rw [Int.natAbs_mul]
  exact Nat.le_trans (Nat.mul_le_mul hx hy) (by decide)

theorem wf_range {a : Int} (h : (Lit.int .i64 a).wf = true) : -9223372036854775808 ≤ a ∧ a ≤ 9223372036854775807 := by
  simp [Lit.wf, IntKind.min, IntKind.max, IntKind.signed, IntKind.bits] at h
  omega

/-- Is a coin: as both tell it. -/
theorem ptCoin_is (h o : Int) (b : o ≤ 9223372036854775807) (b' : -9223372036854775808 ≤ o) : spec_ptCoin.f h o = some (decide (2 ≤ o ∧ o ≤ 10 ∧ 1 ≤ h ∧ h ≤ o - 1)) := by
  unfold spec_ptCoin.f spec_l1In.f
  by_cases h1 : o ≥ 2
  · rw [if_pos h1, w64 (by omega) (by omega)]
    simp only [Option.bind_some, decide_eq_true_eq]
    by_cases h2 : o ≤ 10
    · rw [if_pos h2]
      by_cases h3 : h ≥ 1
      · rw [if_pos h3]
        exact congrArg some (decide_eq_decide.2 (by omega))
      · rw [if_neg h3]
        exact congrArg some (decide_eq_false (by omega)).symm
    · rw [if_neg h2]
      exact congrArg some (decide_eq_false (by omega)).symm
  · rw [if_neg h1]
    exact congrArg some (decide_eq_false (by omega)).symm

theorem isCoin_is (h o : Int) (b : o ≤ 9223372036854775807) (b' : -9223372036854775808 ≤ o) : impl_IsCoin.f h o = some (decide (2 ≤ o ∧ o ≤ 10 ∧ 1 ≤ h ∧ h ≤ o - 1)) := by
  rw [← ptCoin_is h o b b']
  unfold impl_IsCoin.f impl_within.f spec_ptCoin.f spec_l1In.f
  rfl

theorem FnExactIsCoin (h o : Int) (wh : (Lit.int .i64 h).wf = true) (wo : (Lit.int .i64 o).wf = true) : laws_FnExactIsCoin.f h o = some true := by
  have bo := wf_range wo
  have c1 := ptCoin_is h o bo.2 bo.1
  have c2 := isCoin_is h o bo.2 bo.1
  simp only [laws_FnExactIsCoin.f, laws_toCoin.f, spec_IsCoin.f, c1, c2, Option.bind_some]
  simp

end Go.Proofs.Ythhogbfmfdmcaaa.Pure
