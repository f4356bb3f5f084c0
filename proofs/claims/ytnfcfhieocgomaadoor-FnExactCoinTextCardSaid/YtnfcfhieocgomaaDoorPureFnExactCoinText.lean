/- For all arguments the program and the reference return the same from CoinText: the plain statement over numbers and lists, and its proof. -/
import Derived.Test.YtnfcfhieocgomaaDoorPFnExactCoinTextx1
import Derived.Test.YtnfcfhieocgomaaDoorPFnExactCoinTextx2
namespace Go.Proofs.YtnfcfhieocgomaaDoor.Pure
open Go.RowKit Go.Proofs.YtnfcfhieocgomaaDoor.PFnExactCoinText Go.Proofs.YtnfcfhieocgomaaDoorW.PrintWords Go.Proofs.YtnfcfhieocgomaaDoorW.PrintLast Go.Proofs.YtnfcfhieocgomaaDoorW.PrintMore
set_option linter.unusedVariables false
set_option linter.unusedSimpArgs false
set_option maxRecDepth 100000
theorem w64 {x : Int} (h0 : -9223372036854775808 ≤ x) (h1 : x ≤ 9223372036854775807) : wrap64 x = x := by
  unfold wrap64
  omega

theorem mul_fits {x y A B : Int} (hx : x.natAbs ≤ A.natAbs) (hy : y.natAbs ≤ B.natAbs) : (x * y).natAbs ≤ (A * B).natAbs := by
  rw [Int.natAbs_mul, Int.natAbs_mul]
  exact Nat.mul_le_mul hx hy

/-- A product of numbers of at most nine digits. -/
theorem mul9 {x y : Int} (hx : x.natAbs ≤ 1000000000) (hy : y.natAbs ≤ 1000000000) : (x * y).natAbs ≤ 1000000000000000000 := by
  rw [Int.natAbs_mul]
  exact Nat.le_trans (Nat.mul_le_mul hx hy) (by decide)

theorem wf_range {a : Int} (h : (Lit.int .i64 a).wf = true) : -9223372036854775808 ≤ a ∧ a ≤ 9223372036854775807 := by
  simp [Lit.wf, IntKind.min, IntKind.max, IntKind.signed, IntKind.bits] at h
  omega

/-- Is a coin: as both tell it. -/
theorem ptCoin_is (h o : Int) (b : o ≤ 9223372036854775807) (b' : -9223372036854775808 ≤ o) : spec_ptCoin.f h o = some (decide (2 ≤ o ∧ o ≤ 10 ∧ 1 ≤ h ∧ h ≤ o - 1)) := by
  unfold spec_ptCoin.f spec_l1In.f
  by_cases h1 : o ≥ 2
  · rw [if_pos h1, w64 (by omega) (by omega)]
    simp only [Option.bind_some, decide_eq_true_eq]
    by_cases h2 : o ≤ 10
    · rw [if_pos h2]
      by_cases h3 : h ≥ 1
      · rw [if_pos h3]
        exact congrArg some (decide_eq_decide.2 (by omega))
      · rw [if_neg h3]
        exact congrArg some (decide_eq_false (by omega)).symm
    · rw [if_neg h2]
      exact congrArg some (decide_eq_false (by omega)).symm
  · rw [if_neg h1]
    exact congrArg some (decide_eq_false (by omega)).symm

theorem isCoin_is (h o : Int) (b : o ≤ 9223372036854775807) (b' : -9223372036854775808 ≤ o) : impl_IsCoin.f h o = some (decide (2 ≤ o ∧ o ≤ 10 ∧ 1 ≤ h ∧ h ≤ o - 1)) := by
  rw [← ptCoin_is h o b b']
  unfold impl_IsCoin.f impl_within.f spec_ptCoin.f spec_l1In.f
  rfl

theorem coinText_all : ∀ o : Fin 11, ∀ h : Fin 11, (2 ≤ o.val ∧ 1 ≤ h.val ∧ h.val < o.val) → laws_FnExactCoinText.f 10 (h.val : Int) (o.val : Int) = some true := by decide +kernel

theorem FnExactCoinText (h o : Int) (wh : (Lit.int .i64 h).wf = true) (wo : (Lit.int .i64 o).wf = true) : ∃ k, laws_FnExactCoinText.f k h o = some true := by
  obtain ⟨b', b⟩ := wf_range wo
  by_cases c : 2 ≤ o ∧ o ≤ 10 ∧ 1 ≤ h ∧ h ≤ o - 1
  · obtain ⟨n, rfl⟩ := Int.eq_ofNat_of_zero_le (show 0 ≤ o by omega)
    obtain ⟨m, rfl⟩ := Int.eq_ofNat_of_zero_le (show 0 ≤ h by omega)
    exact ⟨10, coinText_all ⟨n, by omega⟩ ⟨m, by omega⟩ ⟨by show 2 ≤ n; omega, by show 1 ≤ m; omega, by show m < n; omega⟩⟩
  · have g1 := ptCoin_is h o b b'
    have g2 := isCoin_is h o b b'
    rw [decide_eq_false c] at g1 g2
    refine ⟨0, ?_⟩
    simp only [laws_FnExactCoinText.f, laws_toCoin.f, spec_CoinText.f, impl_CoinText.f, g1, g2, Option.bind_some, Bool.false_eq_true, ↓reduceIte]
    simp

end Go.Proofs.YtnfcfhieocgomaaDoor.Pure
