/- For all arguments the program and the reference return the same from CountNecklaces: the plain statement over numbers and lists, and its proof. -/
import Derived.Test.YthhogbfmfdmcaaaPFnExactCountNecklacesx1
namespace Go.Proofs.Ythhogbfmfdmcaaa.Pure
open Go.RowKit Go.Proofs.Ythhogbfmfdmcaaa.PFnExactCountNecklaces Go.Proofs.YthhogbfmfdmcaaaW.PrintWords Go.Proofs.YthhogbfmfdmcaaaW.PrintLast Go.Proofs.YthhogbfmfdmcaaaW.PrintMore
set_option linter.unusedVariables false
set_option linter.unusedSimpArgs false
set_option maxRecDepth 100000
theorem w64 {x : Int} (h0 : -9223372036854775808 ≤ x) (h1 : x ≤ 9223372036854775807) : wrap64 x = x := by
  unfold wrap64
  omega

theorem mul_fits {x y A B : Int} (hx : x.natAbs ≤ A.natAbs) (hy : y.natAbs ≤ B.natAbs) : (x * y).natAbs ≤ (A * B).natAbs := by
  rw [Int.natAbs_mul, Int.natAbs_mul]
  exact Nat.mul_le_mul hx hy

/-- A product of numbers of at most nine digits. -/
theorem mul9 {x y : Int} (hx : x.natAbs ≤ 1000000000) (hy : y.natAbs ≤ 1000000000) : (x * y).natAbs ≤ 1000000000000000000 := by
  rw [Int.natAbs_mul]
  exact Nat.le_trans (Nat.mul_le_mul hx hy) (by decide)

theorem wf_range {a : Int} (h : (Lit.int .i64 a).wf = true) : -9223372036854775808 ≤ a ∧ a ≤ 9223372036854775807 := by
  simp [Lit.wf, IntKind.min, IntKind.max, IntKind.signed, IntKind.bits] at h
  omega

theorem long_out {m n : Int} (h : ¬ (1 ≤ m ∧ m ≤ 26 ∧ 1 ≤ n ∧ n ≤ 8)) : spec_woLong.f m n = some false ∧ impl_areLong.f m n = some false := by
  unfold spec_woLong.f impl_areLong.f spec_woAlphabet.f spec_l1In.f impl_within.f
  constructor
  · grind
  · grind

theorem long_in {m n : Int} (h : 1 ≤ m ∧ m ≤ 26 ∧ 1 ≤ n ∧ n ≤ 8) : spec_woLong.f m n = some true ∧ impl_areLong.f m n = some true := by
  unfold spec_woLong.f impl_areLong.f spec_woAlphabet.f spec_l1In.f impl_within.f
  constructor
  · grind
  · grind

theorem countNecklaces_all : ∀ i : Fin 26, ∀ j : Fin 8, laws_FnExactCountNecklaces.f 60 ((i.val : Int) + 1) ((j.val : Int) + 1) = some true := by decide +kernel

theorem FnExactCountNecklaces : laws_FnExactCountNecklaces.Pure := by
  intro m n wm wn
  by_cases h : 1 ≤ m ∧ m ≤ 26 ∧ 1 ≤ n ∧ n ≤ 8
  · refine ⟨60, ?_⟩
    have := countNecklaces_all ⟨(m - 1).toNat, by omega⟩ ⟨(n - 1).toNat, by omega⟩
    rw [show (((m - 1).toNat : Nat) : Int) + 1 = m from by omega, show (((n - 1).toNat : Nat) : Int) + 1 = n from by omega] at this
    exact this
  · refine ⟨0, ?_⟩
    simp only [laws_FnExactCountNecklaces.f, spec_CountNecklaces.f, impl_CountNecklaces.f, (long_out h).1, (long_out h).2, Option.bind_some]
    simp

end Go.Proofs.Ythhogbfmfdmcaaa.Pure
