/- For all arguments the program and the reference return the same from SharesOfStates: the row, out of the printed walk and the plain statement Pure.FnExactSharesOfStates. -/
import Derived.Test.YtlpegpmcnimfbaaRows
import Derived.Test.YtlpegpmcnimfbaaPFnExactSharesOfStatesx12
import Derived.Test.YtlpegpmcnimfbaaPureFnExactSharesOfStates
import Derived.Test.YtlpegpmcnimfbaaOpn
import Derived.WalkKit
import Derived.ProofKit
import Derived.OpenShut
import Derived.ShutString
import Derived.ChangeOld
import Derived.Below
import Derived.SizedLaws
import Derived.Lib.SmallJoins
namespace Go.Proofs.Ytlpegpmcnimfbaa.fnExactSharesOfStates
open Go.ChangeShapes Go.WideShapes Go.ChangeAt Go.RowKit
open Go.ChangeMaps (open_string shut_string)
set_option linter.unusedVariables false
set_option linter.unusedSimpArgs false
theorem own : ownKnob Try.prog.godebug = none := by kernel_rfl
theorem laidOut : laidOutB Try.prog = true := by kernel_rfl
set_option maxRecDepth 100000 in
theorem lifted (os : Os) (started : os.Started) (H : Type) (enc : TypeId × Value → H) :
 ReturnsInHanded {} Try.checked os 6 .any (Rows.fnExactSharesOfStatesSpec.pre6 enc Try.prog Try.f6 Rows.fnExactSharesOfStatesRow.domain false) (Rows.fnExactSharesOfStatesSpec.post enc Try.prog Try.f6 false true false false) := by
 refine returnsInHanded_of_change_sized (C := Try.checked) own started (by kernel_rfl) Try.func6
  (ChangeSpec.witness6 (enc := enc) (C := Try.checked) false ⟨#[], #[.agg #[.int .i64 0, .slice none 0 0]], []⟩ 8 (by kernel_rfl) (by kernel_rfl) (by kernel_rfl) (by kernel_rfl)) ?_
 intro W base args ds gs before hval0 hW hcnd hsz0 _
 have hsz : (DataW.weightsEach Try.prog (Try.f6.params.toList ++ Rows.fnExactSharesOfStatesSpec.plain.varTypes Try.prog) (ds ++ gs)).all (· ≤ reachBytes) = true := hsz0
 have hval : ∀ (j : Nat) t v, Try.f6.params[j]? = some t → args[j]? = some v → Value.okWide Try.prog W .any base t v := hval0
 have hW' := hW
 obtain ⟨p, q, hA0, hV, rfl, hfz, hnd⟩ := hW
 have hA : DataW.TrodAll enc Try.prog W 0 (fun _ => true) true Try.f6.params.toList args.toList ds p := hA0
 rw [Try.params6] at hA hval hsz
 obtain ⟨v0, vs0, d0, ds0, p0, q0, hargs, rfl, rfl, h0, r0⟩ := trodAll_cons hA
 obtain ⟨rfl, rfl, rfl⟩ := trodAll_nil r0
 obtain rfl : args = #[v0] := by cases args; simp_all
 obtain ⟨rfl, rfl⟩ := trodVars_none hV
 have k0 := h0
 have lt0 : ∀ x ∈ p0, x.block < W.heap.size := by obtain ⟨m, hm⟩ := k0; exact DataW.trod_lt m _ _ _ hm
 obtain ⟨c0_0, c0_1, y0_0, y0_1, n0, rfl, rfl, rfl, g0_0, g0_1⟩ := Go.Joins.open_agg2 Try.underlying24 (by kernel_rfl) (by kernel_rfl) (hval 0 24 v0 rfl rfl) h0
 obtain ⟨a0_0, e0_0, z0_0, w0_0⟩ := DataW.trod_int Try.underlying3 g0_0
 simp only [List.cons.injEq, and_true] at e0_0
 subst e0_0
 subst z0_0
 obtain ⟨A0_1, c0_1z, l0_1, e0_1, hC0, hc0, hm0, hr0, hw0⟩ := Opn.open_rows Try.underlying22 Try.underlying26 Try.underlying3 (by kernel_rfl) (by kernel_rfl) g0_1
 subst e0_1
 clear hA0 hval0 hsz0 hsz
 obtain ⟨k, hp⟩ := Pure.FnExactSharesOfStates a0_0 l0_1 w0_0 hw0 hm0 hr0
 refine (PFnExactSharesOfStates.laws_FnExactSharesOfStates.calls k a0_0 A0_1 c0_1z l0_1 true W hC0 hc0 hp).mono fun e W' hend => ?_
 obtain ⟨he, bel⟩ := hend
 subst he
 exact ⟨_, rfl, _, _, _, [], _, [], hW', trodAll_mk1 (shut_bool Try.underlying4 _), (trodAll_cons_mk (Below.trod laidOut (by kernel_rfl) (of_decide_eq_true (by kernel_rfl)) k0 bel lt0) trodAll_mk0), rfl, bel.frame _, fun h => by cases h⟩
theorem over : Rows.fnExactSharesOfStatesRow.holds Try.pinned (OpenSpec.ofChange Rows.fnExactSharesOfStatesSpec) :=
 OpenClaim.holds_of_wide 6 Try.f6 rfl rfl rfl rfl rfl rfl rfl ⟨rfl, rfl, rfl, rfl, rfl⟩ rfl rfl rfl rfl rfl (by kernel_rfl) Try.func6 (by kernel_rfl)
  (of_decide_eq_true (by kernel_rfl)) (by unfold Func.isWrapper; first | (rw [if_pos (by decide +kernel)]; kernel_rfl) | (rw [if_neg (by decide +kernel)]; exact ⟨rfl, rfl⟩))
  (fun os started H enc _ => lifted os started H enc)
theorem proved : Rows.FnExactSharesOfStatesSaid := over
#print axioms proved
end Go.Proofs.Ytlpegpmcnimfbaa.fnExactSharesOfStates
namespace Go.Proofs.Ytlpegpmcnimfbaa
theorem fnExactSharesOfStates_holds : Rows.FnExactSharesOfStatesSaid := fnExactSharesOfStates.proved
end Go.Proofs.Ytlpegpmcnimfbaa
