/- For all arguments the program and the reference return the same from MeanKeeping: the plain statement over numbers and lists, and its proof. -/
import Derived.Test.YtnfcfhieocgomaaPFnExactMeanKeepingx1
import Derived.Test.YtnfcfhieocgomaaPFnExactMeanKeepingx2
import Derived.Test.YtnfcfhieocgomaaPFnExactMeanKeepingx3
import Derived.Test.YtnfcfhieocgomaaPFnExactMeanKeepingx4
namespace Go.Proofs.Ytnfcfhieocgomaa.Pure
open Go.RowKit Go.Proofs.Ytnfcfhieocgomaa.PFnExactMeanKeeping Go.Proofs.YtnfcfhieocgomaaW.PrintWords Go.Proofs.YtnfcfhieocgomaaW.PrintLast Go.Proofs.YtnfcfhieocgomaaW.PrintMore
set_option linter.unusedVariables false
set_option linter.unusedSimpArgs false
set_option maxRecDepth 100000
theorem w64 {x : Int} (h0 : -9223372036854775808 ≤ x) (h1 : x ≤ 9223372036854775807) : wrap64 x = x := by
  unfold wrap64
  omega

theorem mul_fits {x y A B : Int} (hx : x.natAbs ≤ A.natAbs) (hy : y.natAbs ≤ B.natAbs) : (x * y).natAbs ≤ (A * B).natAbs := by
  rw [Int.natAbs_mul, Int.natAbs_mul]
  exact Nat.mul_le_mul hx hy

/-- A product of numbers of at most nine digits. -/
theorem mul9 {x y : Int} (hx : x.natAbs ≤ 1000000000) (hy : y.natAbs ≤ 1000000000) : (x * y).natAbs ≤ 1000000000000000000 := by
  rw [Int.natAbs_mul]
  exact Nat.le_trans (Nat.mul_le_mul hx hy) (by decide)

theorem wf_range {a : Int} (h : (Lit.int .i64 a).wf = true) : -9223372036854775808 ≤ a ∧ a ≤ 9223372036854775807 := by
  simp [Lit.wf, IntKind.min, IntKind.max, IntKind.signed, IntKind.bits] at h
  omega

theorem meanKeeping_all : ∀ i : Fin 12, laws_FnExactMeanKeeping.f 100 ((i.val : Int) + 1) = some true := by decide +kernel

theorem FnExactMeanKeeping : laws_FnExactMeanKeeping.Pure := by
  intro n wn
  by_cases h : 1 ≤ n ∧ n ≤ 12
  · refine ⟨100, ?_⟩
    have := meanKeeping_all ⟨(n - 1).toNat, by omega⟩
    rw [show (((n - 1).toNat : Nat) : Int) + 1 = n from by omega] at this
    exact this
  · refine ⟨0, ?_⟩
    have hw : (if n ≥ 1 then some (decide (n ≤ 12)) else some false) = some false := by
      by_cases h : n ≥ 1
      · rw [if_pos h, decide_eq_false (by omega)]
      · rw [if_neg h]
    simp only [laws_FnExactMeanKeeping.f, spec_MeanKeeping.f, impl_MeanKeeping.f, spec_frSides.f, impl_isSides.f, impl_within.f, spec_l1In.f, hw, Option.bind_some]
    simp

end Go.Proofs.Ytnfcfhieocgomaa.Pure
