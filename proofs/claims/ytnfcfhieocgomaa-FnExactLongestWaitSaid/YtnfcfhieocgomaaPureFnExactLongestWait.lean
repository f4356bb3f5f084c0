/- For all arguments the program and the reference return the same from LongestWait: the plain statement over numbers and lists, and its proof. -/
import Derived.Test.YtnfcfhieocgomaaPFnExactLongestWaitx1
import Derived.Test.YtnfcfhieocgomaaPFnExactLongestWaitx2
import Derived.Test.YtnfcfhieocgomaaPFnExactLongestWaitx3
import Derived.Test.YtnfcfhieocgomaaPFnExactLongestWaitx4
import Derived.Test.YtnfcfhieocgomaaPFnExactLongestWaitx5
import Derived.Test.YtnfcfhieocgomaaPFnExactLongestWaitx6
namespace Go.Proofs.Ytnfcfhieocgomaa.Pure
open Go.RowKit Go.Proofs.Ytnfcfhieocgomaa.PFnExactLongestWait Go.Proofs.YtnfcfhieocgomaaW.PrintWords Go.Proofs.YtnfcfhieocgomaaW.PrintLast Go.Proofs.YtnfcfhieocgomaaW.PrintMore
set_option linter.unusedVariables false
set_option linter.unusedSimpArgs false
set_option maxRecDepth 100000
theorem w64 {x : Int} (h0 : -9223372036854775808 ≤ x) (h1 : x ≤ 9223372036854775807) : wrap64 x = x := by
  unfold wrap64
  omega

theorem mul_fits {x y A B : Int} (hx : x.natAbs ≤ A.natAbs) (hy : y.natAbs ≤ B.natAbs) : (x * y).natAbs ≤ (A * B).natAbs := by
  rw [Int.natAbs_mul, Int.natAbs_mul]
  exact Nat.mul_le_mul hx hy

/-- A product of numbers of at most nine digits. -/
theorem mul9 {x y : Int} (hx : x.natAbs ≤ 1000000000) (hy : y.natAbs ≤ 1000000000) : (x * y).natAbs ≤ 1000000000000000000 := by
  rw [Int.natAbs_mul]
  exact Nat.le_trans (Nat.mul_le_mul hx hy) (by decide)

theorem wf_range {a : Int} (h : (Lit.int .i64 a).wf = true) : -9223372036854775808 ≤ a ∧ a ≤ 9223372036854775807 := by
  simp [Lit.wf, IntKind.min, IntKind.max, IntKind.signed, IntKind.bits] at h
  omega

theorem in_true {n a b : Int} (h : a ≤ n ∧ n ≤ b) : (if n ≥ a then some (decide (n ≤ b)) else some false) = some true := by
  rw [if_pos h.1, decide_eq_true h.2]
theorem in_false {n a b : Int} (h : ¬ (a ≤ n ∧ n ≤ b)) : (if n ≥ a then some (decide (n ≤ b)) else some false) = some false := by
  by_cases h1 : n ≥ a
  · rw [if_pos h1, decide_eq_false (by omega)]
  · rw [if_neg h1]

theorem longestWait_1 : ∀ i : Fin 6, laws_FnExactLongestWait.f 600 ((i.val : Int) + 1) = some true := by decide +kernel
theorem longestWait_7 : laws_FnExactLongestWait.f 600 7 = some true := by decide +kernel
theorem longestWait_8 : laws_FnExactLongestWait.f 600 8 = some true := by decide +kernel

theorem FnExactLongestWait : laws_FnExactLongestWait.Pure := by
  intro n wn
  by_cases h : 1 ≤ n ∧ n ≤ 8
  · refine ⟨600, ?_⟩
    by_cases h7 : n = 7
    · subst h7; exact longestWait_7
    · by_cases h8 : n = 8
      · subst h8; exact longestWait_8
      · have := longestWait_1 ⟨(n - 1).toNat, by omega⟩
        rw [show (((n - 1).toNat : Nat) : Int) + 1 = n from by omega] at this
        exact this
  · have i1 := in_false h
    have q1 : ∀ k, spec_LongestWait.f k n = some ([], 0, false) := by
      intro k
      simp only [spec_LongestWait.f, spec_l1In.f, i1, Option.bind_some]
      simp
    have q2 : ∀ k, impl_LongestWait.f k n = some ([], 0, false) := by
      intro k
      simp only [impl_LongestWait.f, impl_waits.f, impl_within.f, i1, Option.bind_some]
      simp
    refine ⟨6, ?_⟩
    simp [laws_FnExactLongestWait.f, laws_FnExactLongestWait.j0, laws_FnExactLongestWait.j1, laws_eqStringS.f, laws_eqStringS.l0, laws_markStringS.f, laws_markStringS.l0, laws_heldStringS.f, laws_heldStringS.l0, q1, q2]

end Go.Proofs.Ytnfcfhieocgomaa.Pure
