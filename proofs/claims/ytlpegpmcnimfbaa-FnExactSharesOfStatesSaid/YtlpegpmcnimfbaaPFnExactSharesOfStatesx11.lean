-- written by a program of this session (the kit's print with turns of the session's own)
import Derived.Test.YtlpegpmcnimfbaaPFnExactSharesOfStatesx0
import Derived.Test.YtlpegpmcnimfbaaPFnExactSharesOfStatesx7
import Derived.Test.YtlpegpmcnimfbaaPFnExactSharesOfStatesx8
import Derived.Test.YtlpegpmcnimfbaaPFnExactSharesOfStatesx9
import Derived.Test.YtlpegpmcnimfbaaPFnExactSharesOfStatesx10
namespace Go.Proofs.Ytlpegpmcnimfbaa.PFnExactSharesOfStates
open Go.RowKit Go.Proofs.YtlpegpmcnimfbaaW.PrintWords Go.Proofs.YtlpegpmcnimfbaaW.PrintLast Go.Proofs.YtlpegpmcnimfbaaW.PrintMore
attribute [local go_sem] Instr.field asAgg part max2_int min2_int max_two min_two max_three min_three max_four min_four
set_option linter.unusedVariables false
set_option linter.unusedSimpArgs false
mutual
def impl_SharesOfStates.j0 : Nat → Bool → Int → List (List Int) → Option (List Int × Int × Bool)
 | 0, _, _, _ => none
 | k + 1, x25, x296000, x296001 => if x25 = true then (some (([] : List Int), 0, false)) else (impl_SharesOfStates.l0 k (x296001.length : Int) ([] : List (List (S67))) (x296001.length : Int) 0 x296000 x296001)
def impl_SharesOfStates.l0 : Nat → Int → List (List (S67)) → Int → Int → Int → List (List Int) → Option (List Int × Int × Bool)
 | 0, _, _, _, _, _, _ => none
 | k + 1, x5, x6, x29, x30, x296000, x296001 => if x30 < x29 then (if 0 ≤ (wrap64 (x5 + 1)) then (if (wrap64 (x5 + 1) : Int).toNat ≤ 17592186044416 then (impl_SharesOfStates.l1 k x5 x6 x30 (List.replicate (wrap64 (x5 + 1) : Int).toNat z67) x29 x30 x5 0 x296000 x296001) else (none)) else (none)) else (if 0 ≤ (wrap64 (x5 - 1)) then (if (wrap64 (x5 - 1)) < (x6.length : Int) then ((impl_whole.f 1).bind fun bt327 => (if 0 ≤ x5 then (if x5 < ((rd_L4 x6 (wrap64 (x5 - 1))).length : Int) then ((impl_solved.f k (x6.set ((wrap64 (x5 - 1)) : Int).toNat ((rd_L4 x6 (wrap64 (x5 - 1))).set (x5 : Int).toNat (⟨bt327.1, bt327.2⟩ : S67)))).bind fun t332 => (impl_SharesOfStates.l2 k t332 1 t332 (t332.length : Int) 0)) else (none)) else (none))) else (none)) else (none))
def impl_SharesOfStates.l1 : Nat → Int → List (List (S67)) → Int → List (S67) → Int → Int → Int → Int → Int → List (List Int) → Option (List Int × Int × Bool)
 | 0, _, _, _, _, _, _, _, _, _, _ => none
 | k + 1, x5, x6, x7, x8, x29, x30, x36, x37, x296000, x296001 => if x37 < x36 then (if 0 ≤ x37 then (if x37 < (x296001.length : Int) then (if 0 ≤ x7 then (if x7 < ((rd_L1 x296001 x37).length : Int) then ((impl_lowest.f k (rd (rd_L1 x296001 x37) x7) x296000).bind fun bt311 => (if x37 < (x8.length : Int) then ((some (x8.set (x37 : Int).toNat (⟨bt311.1, bt311.2⟩ : S67) : List (S67))).bind fun y313 => (if x37 = x7 then ((impl_whole.f 1).bind fun bt315 => ((impl_frac_minus.f k ((rd_T67 y313 x37).f0) ((rd_T67 y313 x37).f1) bt315.1 bt315.2).bind fun bt317 => ((some (y313.set (x37 : Int).toNat (⟨bt317.1, bt317.2⟩ : S67) : List (S67))).bind fun y319 => (if x7 = (wrap64 (x5 - 1)) then ((impl_whole.f 1).bind fun bt320 => (impl_SharesOfStates.l1 k x5 x6 x7 (y319.set (x37 : Int).toNat (⟨bt320.1, bt320.2⟩ : S67)) x29 x30 x36 (wrap64 (x37 + 1)) x296000 x296001)) else (impl_SharesOfStates.l1 k x5 x6 x7 y319 x29 x30 x36 (wrap64 (x37 + 1)) x296000 x296001))))) else (if x7 = (wrap64 (x5 - 1)) then ((impl_whole.f 1).bind fun bt323 => (impl_SharesOfStates.l1 k x5 x6 x7 (y313.set (x37 : Int).toNat (⟨bt323.1, bt323.2⟩ : S67)) x29 x30 x36 (wrap64 (x37 + 1)) x296000 x296001)) else (impl_SharesOfStates.l1 k x5 x6 x7 y313 x29 x30 x36 (wrap64 (x37 + 1)) x296000 x296001)))) else (none))) else (none)) else (none)) else (none)) else (none)) else ((impl_whole.f 0).bind fun bt303 => (if 0 ≤ x5 then (if x5 < (x8.length : Int) then (if x6.length < 5864062014805 then (impl_SharesOfStates.l0 k x5 (x6 ++ [(x8.set (x5 : Int).toNat (⟨bt303.1, bt303.2⟩ : S67))]) x29 (wrap64 (x30 + 1)) x296000 x296001) else (none)) else (none)) else (none)))
def impl_SharesOfStates.l2 : Nat → List (S67) → Int → List (S67) → Int → Int → Option (List Int × Int × Bool)
 | 0, _, _, _, _, _ => none
 | k + 1, x10, x11, x94, x95, x96 => if x96 < x95 then (if 0 ≤ x96 then (if x96 < (x94.length : Int) then ((impl_common.f k x11 ((rd_T67 x94 x96).f1)).bind fun t337 => (if t337 = 0 then (none) else (impl_SharesOfStates.l2 k x10 (wrap64 ((wrap64 (Int.tdiv x11 t337)) * ((rd_T67 x94 x96).f1))) x94 x95 (wrap64 (x96 + 1))))) else (none)) else (none)) else (impl_SharesOfStates.l3 k x11 ([] : List Int) x10 (x10.length : Int) 0)
def impl_SharesOfStates.l3 : Nat → Int → List Int → List (S67) → Int → Int → Option (List Int × Int × Bool)
 | 0, _, _, _, _, _ => none
 | k + 1, x11, x14, x110, x111, x112 => if x112 < x111 then (if 0 ≤ x112 then (if x112 < (x110.length : Int) then (if ((rd_T67 x110 x112).f1) = 0 then (none) else (if x14.length < 17592186044416 then (impl_SharesOfStates.l3 k x11 (x14 ++ [wrap64 (((rd_T67 x110 x112).f0) * (wrap64 (Int.tdiv x11 ((rd_T67 x110 x112).f1))))]) x110 x111 (wrap64 (x112 + 1))) else (none))) else (none)) else (none)) else (some (x14, x11, true))
end
def impl_SharesOfStates.f (k : Nat) (a0_0 : Int) (l0_1 : List (List Int)) : Option (List Int × Int × Bool) := (impl_AreStates.f k a0_0 l0_1).bind fun t296 => (if t296 = true then ((impl_States_classes.f k a0_0 l0_1).bind fun t297 => (impl_SharesOfStates.j0 k ((t297.length : Int) != 1) a0_0 l0_1)) else (impl_SharesOfStates.j0 k true a0_0 l0_1))
def impl_SharesOfStates.T12 : Bool × List (List Nat × List Nat) := (true, [([], []), ([], []), ([], []), ([2], [2]), ([], []), ([3, 4], [3, 4]), ([5], [5]), ([], []), ([6, 7], [6, 7]), ([8], [8]), ([], []), ([10], [10]), ([9, 11], [9, 11]), ([0, 1, 0, 1, 2, 3, 4, 5, 6, 7, 8, 9, 10, 11, 12], [0, 1]), ([13, 12, 12, 0, 1, 2, 3, 4, 5, 6, 7, 8, 9, 10, 11, 12], [12, 13])])
def impl_SharesOfStates.B12 : List Nat := [0, 0, 0, 4, 0, 28, 60, 0, 252, 508, 0, 1024, 4092, 8191, 16383]
theorem impl_SharesOfStates.tab12 : rtab .any (opsOf Try.f26 12) = impl_SharesOfStates.T12 := by kernel_rfl
theorem impl_SharesOfStates.bits12 : waitsOk impl_SharesOfStates.T12.2 impl_SharesOfStates.B12 = true := by kernel_rfl
def impl_SharesOfStates.T14 : Bool × List (List Nat × List Nat) := (true, [([], []), ([], []), ([], []), ([], []), ([2, 3], [2, 3]), ([4], [4]), ([], []), ([5, 6, 6], [5, 6]), ([0, 1, 0, 1, 2, 3, 4, 5, 6, 7], [0, 1]), ([8, 7, 7, 0, 1, 2, 3, 4, 5, 6, 7], [7, 8])])
def impl_SharesOfStates.B14 : List Nat := [0, 0, 0, 0, 12, 28, 0, 124, 255, 511]
theorem impl_SharesOfStates.tab14 : rtab .any (opsOf Try.f26 14) = impl_SharesOfStates.T14 := by kernel_rfl
theorem impl_SharesOfStates.bits14 : waitsOk impl_SharesOfStates.T14.2 impl_SharesOfStates.B14 = true := by kernel_rfl
def impl_SharesOfStates.T21 : Bool × List (List Nat × List Nat) := (true, [([], []), ([], []), ([1], [1]), ([0, 2], [0, 2]), ([3], [3]), ([], []), ([], []), ([4, 5, 0, 1, 2, 3, 4, 5, 6], [4, 5]), ([7, 6, 6, 0, 1, 2, 3, 4, 5, 6], [6, 7])])
def impl_SharesOfStates.B21 : List Nat := [0, 0, 2, 7, 15, 0, 0, 127, 255]
theorem impl_SharesOfStates.tab21 : rtab .any (opsOf Try.f26 21) = impl_SharesOfStates.T21 := by kernel_rfl
theorem impl_SharesOfStates.bits21 : waitsOk impl_SharesOfStates.T21.2 impl_SharesOfStates.B21 = true := by kernel_rfl
def impl_SharesOfStates.T27 : Bool × List (List Nat × List Nat) := (true, [([], []), ([], []), ([], []), ([2], [2]), ([1, 3], [1, 3]), ([0, 4], [0, 4]), ([], []), ([6], [6]), ([5, 7], [5, 7]), ([8, 4, 0, 1, 2, 3, 4, 5, 6, 7, 8], [0, 1, 8])])
def impl_SharesOfStates.B27 : List Nat := [0, 0, 0, 4, 14, 31, 0, 64, 255, 511]
theorem impl_SharesOfStates.tab27 : rtab .any (opsOf Try.f26 27) = impl_SharesOfStates.T27 := by kernel_rfl
theorem impl_SharesOfStates.bits27 : waitsOk impl_SharesOfStates.T27.2 impl_SharesOfStates.B27 = true := by kernel_rfl
def impl_SharesOfStates.T33 : Bool × List (List Nat × List Nat) := (true, [([], []), ([], []), ([1], [1]), ([], []), ([], []), ([4], [4]), ([3, 5], [3, 5]), ([2, 6], [2, 6]), ([7], [7]), ([0, 8], [0, 8]), ([9, 9, 0, 1, 2, 3, 4, 5, 6, 7, 8, 9], [0, 9])])
def impl_SharesOfStates.B33 : List Nat := [0, 0, 2, 0, 0, 16, 56, 126, 254, 511, 1023]
theorem impl_SharesOfStates.tab33 : rtab .any (opsOf Try.f26 33) = impl_SharesOfStates.T33 := by kernel_rfl
theorem impl_SharesOfStates.bits33 : waitsOk impl_SharesOfStates.T33.2 impl_SharesOfStates.B33 = true := by kernel_rfl
set_option maxHeartbeats 8000000 in
set_option maxRecDepth 100000 in
theorem impl_SharesOfStates.calls (k : Nat) (a0_0 : Int) (A0_1 : Option Addr) (c0_1 : Nat) (l0_1 : List (List Int)) (r1 : List Int) (r2 : Int) (r3 : Bool) (w : World) (hr0_1 : Kd.C (Kd.slice 3 (Kd.int .i64)) w A0_1 l0_1.length l0_1) (hc0_1 : l0_1.length ≤ c0_1) (h : impl_SharesOfStates.f k a0_0 l0_1 = some (r1, r2, r3)) :
 Calls Try.prog 26 #[.agg #[.int .i64 a0_0, .slice A0_1 l0_1.length c0_1]] w fun e w' => ∃ v0_ : Value, e = .returned (.tuple #[v0_, .int .i64 r2, .bool r3]) ∧ Kd.R (Kd.int .i64) 3 w' w.heap.size (fun _ => True) v0_ r1 ∧ Below w.heap.size w w' := by
 have hu29 := Try.underlying29
 have hu67 := Try.underlying67
 have HR0_1 := Aside0.mk hr0_1
 have HC0_1 := Aside0.mk hc0_1
 clear hr0_1 hc0_1
 have HB := Aside0.mk (Below.refl w.heap.size w)
 have H : ((impl_AreStates.f k a0_0 l0_1).bind fun t296 => (if t296 = true then ((impl_States_classes.f k a0_0 l0_1).bind fun t297 => (impl_SharesOfStates.j0 k ((t297.length : Int) != 1) a0_0 l0_1)) else (impl_SharesOfStates.j0 k true a0_0 l0_1))) = some (r1, r2, r3) := h
 clear h
 have HC2 := Aside0.mk H
 clear H
 go_enter Try.func26, Try.ntmps26
 go_upto_region 1 with (first | ((with_reducible refine gate_dst (N := 1) rfl ?_); (try (refine gate_guard (by rfl) ?_; dsimp only)); refine box_event ?hg (N := 1) ?hd (cs := #[.int .i64 a0_0, .slice A0_1 l0_1.length c0_1]) (t := 29) ?hr ?_; (case hd => rfl); (case hg => rfl); (case hr => first | (go_simp; done) | (go_simp; rfl)); intro gb295 hg w3 hbox hb; have n0_ := Aside0.mk (below_step (by repeat (first | (with_reducible first | exact HB.out | apply below_alloc | apply pw_below_drewN | apply below_drew1) | exact HB.out)) hb); have n1_ := Aside0.mk (hbox); have n2_ := Aside0.mk ((by rw [hg]; exact (below_size (by repeat (first | (with_reducible first | exact HB.out | apply below_alloc | apply pw_below_drewN | apply below_drew1) | exact HB.out))) : w.heap.size ≤ gb295)); have n3_ := Aside0.mk ((by rw [hg]; exact (below_size (by repeat (first | (with_reducible first | exact HB.out | apply below_alloc | apply pw_below_drewN | apply below_drew1) | exact HB.out))) : w.heap.size ≤ gb295)); clear HB; have HB := n0_; have BK295 := n1_; have GW295 := n2_; have GE295 := n3_; clear n0_ n1_ n2_ n3_; clear hb hbox hg))
 (try simp only [Act.put, List.setIfInBounds_toArray, List.set_cons_zero, List.set_cons_succ])
 go_cut [25] (fun v25 wc => ∃ (kq : Nat) (x25_1 : Bool), v25 = .bool x25_1 ∧ Aside0 (impl_SharesOfStates.j0 kq x25_1 a0_0 l0_1 = some (r1, r2, r3)) ∧ Aside0 (kq ≤ k) ∧ Aside0 (wc.heap[gb295]? = some (.cells #[.int .i64 a0_0, (.slice A0_1 l0_1.length c0_1)] 29 (0, 0))) ∧ Aside0 (Below w.heap.size w wc))
 case first =>
  have H := HC2.out
  clear HC2
  replace H := Option.bind_eq_some_iff.mp H
  obtain ⟨t296, A40, H⟩ := H
  replace H : (if t296 = true then ((impl_States_classes.f k a0_0 l0_1).bind fun t297 => (impl_SharesOfStates.j0 k ((t297.length : Int) != 1) a0_0 l0_1)) else (impl_SharesOfStates.j0 k true a0_0 l0_1)) = some (r1, r2, r3) := H
  have A4 := Aside0.mk A40
  clear A40
  by_cases c5 : t296 = true
  · subst c5
    have H1 : ((impl_States_classes.f k a0_0 l0_1).bind fun t297 => (impl_SharesOfStates.j0 k ((t297.length : Int) != 1) a0_0 l0_1)) = some (r1, r2, r3) := by first | (rw [if_pos rfl] at H; exact H) | (simpa using H)
    clear H
    have H := H1
    clear H1
    replace H := Option.bind_eq_some_iff.mp H
    obtain ⟨t297, A60, H⟩ := H
    replace H : (impl_SharesOfStates.j0 k ((t297.length : Int) != 1) a0_0 l0_1) = some (r1, r2, r3) := H
    have A6 := Aside0.mk A60
    clear A60
    have H' := Aside0.mk H
    clear H
    have hcz7_0 : w3.cell? ⟨gb295, 0, none⟩ = some (.int .i64 a0_0) := (blk_cell BK295.out 0).trans rfl
    have hcz7_1 : w3.cell? ⟨gb295, 1, none⟩ = some (.slice A0_1 l0_1.length c0_1) := (blk_cell BK295.out 1).trans rfl
    have hfz7_0 := blk_frozen BK295.out 0
    have hfz7_1 := blk_frozen BK295.out 1
    go_wp2_with (first | ((with_reducible refine gate_callee (f := 54) rfl ?_); refine goesL_ (some 18) rfl rfl Try.func54 (by kernel_rfl) rfl #[.agg #[.int .i64 a0_0, .slice A0_1 l0_1.length c0_1]] rfl (by (try simp only [List.map_toArray, List.map_cons, List.map_nil]); first | done | rfl | (simp only [List.length_drop, List.length_take]; rfl)) ?_; (with_reducible refine (impl_AreStates.calls k a0_0 _ _ l0_1 true _ ?side1 ?side2 A4.out).mono ?_); (case side1 => repeat (first | exact (Kd.C_below HR0_1.out HB.out) | (with_reducible refine Kd.C_alloc ?_ _) | (with_reducible refine Kd.C_drewN ?_ _) | (with_reducible refine Kd.C_drew ?_))); (case side2 => exact HC0_1.out); rintro e w8 ⟨rfl, hb⟩; refine ⟨_, rfl, ?_⟩; have n0_ := Aside0.mk (blk_below (g := gb295) (o := .cells #[.int .i64 a0_0, .slice A0_1 l0_1.length c0_1] 29 (0, 0)) (by (with_reducible repeat (first | refine blk_drewN ?_ _ | refine blk_drew ?_ | refine blk_alloc ?_ _)); exact BK295.out) hb); have n1_ := Aside0.mk (below_step (by repeat (first | (with_reducible first | exact HB.out | apply below_alloc | apply pw_below_drewN | apply below_drew1 | refine below_set ?_ GE295.out) | exact HB.out)) hb); clear BK295; clear HB; have BK295 := n0_; have HB := n1_; clear n0_ n1_; (try clear hb); (try clear hb2); (try clear hk); (try clear hi); have hcz9_0 : w8.cell? ⟨gb295, 0, none⟩ = some (.int .i64 a0_0) := (blk_cell BK295.out 0).trans rfl; have hcz9_1 : w8.cell? ⟨gb295, 1, none⟩ = some (.slice A0_1 l0_1.length c0_1) := (blk_cell BK295.out 1).trans rfl; have hfz9_0 := blk_frozen BK295.out 0; have hfz9_1 := blk_frozen BK295.out 1) | (go_at_call 55; (with_reducible refine (impl_States_classes.calls k a0_0 _ _ l0_1 t297 _ ?side1 ?side2 A6.out).mono ?_); (case side1 => repeat (first | exact (Kd.C_below HR0_1.out HB.out) | (with_reducible refine Kd.C_alloc ?_ _) | (with_reducible refine Kd.C_drewN ?_ _) | (with_reducible refine Kd.C_drew ?_))); (case side2 => exact HC0_1.out); rintro e w10 ⟨v298, rfl, ho0, hb⟩; have n0_ := Aside0.mk (Kd.S_lower ho0 (below_size (by repeat (first | (with_reducible first | exact HB.out | apply below_alloc | apply pw_below_drewN | apply below_drew1 | refine below_set ?_ GE295.out) | exact HB.out)))); have n1_ := Aside0.mk (blk_below (g := gb295) (o := .cells #[.int .i64 a0_0, .slice A0_1 l0_1.length c0_1] 29 (0, 0)) (by (with_reducible repeat (first | refine blk_drewN ?_ _ | refine blk_drew ?_ | refine blk_alloc ?_ _)); exact BK295.out) hb); have n2_ := Aside0.mk (below_step (by repeat (first | (with_reducible first | exact HB.out | apply below_alloc | apply pw_below_drewN | apply below_drew1 | refine below_set ?_ GE295.out) | exact HB.out)) hb); clear BK295; clear HB; have HO299 := n0_; have BK295 := n1_; have HB := n2_; clear n0_ n1_ n2_; (try clear hb); (try clear hb2); (try clear hk); (try clear hi); (try clear ho0); obtain ⟨Ao11, co11, eo11⟩ := Kd.S_slice HO299.out; subst eo11))
    go_meet
    case rel => exact ⟨_, (((t297.length : Int) != 1)), (by first | rfl | (simp; done) | (simp [*]; done)), H', ⟨by first | omega | exact Nat.le_refl _⟩, ⟨by (with_reducible repeat (first | refine blk_drewN ?_ _ | refine blk_drew ?_ | refine blk_alloc ?_ _)); exact BK295.out⟩, ⟨by repeat (first | (with_reducible first | exact HB.out | apply below_alloc | apply pw_below_drewN | apply below_drew1 | refine below_set ?_ GE295.out) | exact HB.out)⟩⟩
  · replace c5 := Bool.eq_false_iff.mpr c5
    subst c5
    have H1 : (impl_SharesOfStates.j0 k true a0_0 l0_1) = some (r1, r2, r3) := by first | (rw [if_neg (show ¬ (false = true) by decide)] at H; exact H) | (simpa using H)
    clear H
    have H := H1
    clear H1
    have H' := Aside0.mk H
    clear H
    have hcz12_0 : w3.cell? ⟨gb295, 0, none⟩ = some (.int .i64 a0_0) := (blk_cell BK295.out 0).trans rfl
    have hcz12_1 : w3.cell? ⟨gb295, 1, none⟩ = some (.slice A0_1 l0_1.length c0_1) := (blk_cell BK295.out 1).trans rfl
    have hfz12_0 := blk_frozen BK295.out 0
    have hfz12_1 := blk_frozen BK295.out 1
    go_wp2_with (first | ((with_reducible refine gate_callee (f := 54) rfl ?_); refine goesL_ (some 18) rfl rfl Try.func54 (by kernel_rfl) rfl #[.agg #[.int .i64 a0_0, .slice A0_1 l0_1.length c0_1]] rfl (by (try simp only [List.map_toArray, List.map_cons, List.map_nil]); first | done | rfl | (simp only [List.length_drop, List.length_take]; rfl)) ?_; (with_reducible refine (impl_AreStates.calls k a0_0 _ _ l0_1 false _ ?side1 ?side2 A4.out).mono ?_); (case side1 => repeat (first | exact (Kd.C_below HR0_1.out HB.out) | (with_reducible refine Kd.C_alloc ?_ _) | (with_reducible refine Kd.C_drewN ?_ _) | (with_reducible refine Kd.C_drew ?_))); (case side2 => exact HC0_1.out); rintro e w13 ⟨rfl, hb⟩; refine ⟨_, rfl, ?_⟩; have n0_ := Aside0.mk (blk_below (g := gb295) (o := .cells #[.int .i64 a0_0, .slice A0_1 l0_1.length c0_1] 29 (0, 0)) (by (with_reducible repeat (first | refine blk_drewN ?_ _ | refine blk_drew ?_ | refine blk_alloc ?_ _)); exact BK295.out) hb); have n1_ := Aside0.mk (below_step (by repeat (first | (with_reducible first | exact HB.out | apply below_alloc | apply pw_below_drewN | apply below_drew1 | refine below_set ?_ GE295.out) | exact HB.out)) hb); clear BK295; clear HB; have BK295 := n0_; have HB := n1_; clear n0_ n1_; (try clear hb); (try clear hb2); (try clear hk); (try clear hi)))
    go_meet
    case rel => exact ⟨_, (true), (by first | rfl | (simp; done) | (simp [*]; done)), H', ⟨by first | omega | exact Nat.le_refl _⟩, ⟨by (with_reducible repeat (first | refine blk_drewN ?_ _ | refine blk_drew ?_ | refine blk_alloc ?_ _)); exact BK295.out⟩, ⟨by repeat (first | (with_reducible first | exact HB.out | apply below_alloc | apply pw_below_drewN | apply below_drew1 | refine below_set ?_ GE295.out) | exact HB.out)⟩⟩
 case rest =>
  clear HC2
  try clear c2
  try clear p2
  try clear c5
  try clear hcz12_0
  try clear hcz12_1
  try clear hcz7_0
  try clear hcz7_1
  try clear hcz9_0
  try clear hcz9_1
  try clear hfz12_0
  try clear hfz12_1
  try clear hfz7_0
  try clear hfz7_1
  try clear hfz9_0
  try clear hfz9_1
  obtain ⟨kq, x25_1, rfl, HA, HJ1, BK295, HB⟩ := hcut
  cases kq with
  | zero => exact absurd HA.out (by simp [impl_SharesOfStates.j0])
  | succ kj1 =>
   have H := HA.out
   clear HA
   simp only [impl_SharesOfStates.j0] at H
   by_cases c14 : x25_1 = true
   · subst c14
     have H1 : (some (([] : List Int), 0, false)) = some (r1, r2, r3) := by first | (rw [if_pos rfl] at H; exact H) | (simpa using H)
     clear H
     have H := H1
     clear H1
     simp only [Option.some.injEq, Prod.mk.injEq] at H
     obtain ⟨rfl, rfl, rfl⟩ := H
     go_wp2
     go_ret3
     exact ⟨_, by first | rfl | (simp [errW_none, errW_some] <;> rfl) | (simp [*, errW_none, errW_some] <;> rfl), by first | exact Kd.R_nil _ _ _ _ _ | exact Kd.N_nil _ _ _ _ _ | exact Kd.V_nil _ _ _ _ _ | exact Kd.Q_nil _ _ _ _ _ | exact Kd.S_nil _ _ _ _ _, by repeat (first | (with_reducible first | exact HB.out | apply below_alloc | apply pw_below_drewN | apply below_drew1 | refine below_set ?_ GE295.out) | exact HB.out)⟩
   · replace c14 := Bool.eq_false_iff.mpr c14
     subst c14
     have H1 : (impl_SharesOfStates.l0 kj1 (l0_1.length : Int) ([] : List (List (S67))) (l0_1.length : Int) 0 a0_0 l0_1) = some (r1, r2, r3) := by first | (rw [if_neg (show ¬ (false = true) by decide)] at H; exact H) | (simpa using H)
     clear H
     have H := H1
     clear H1
     have H' := Aside0.mk H
     clear H
     have hcz15_0 : wc.cell? ⟨gb295, 0, none⟩ = some (.int .i64 a0_0) := (blk_cell BK295.out 0).trans rfl
     have hcz15_1 : wc.cell? ⟨gb295, 1, none⟩ = some (.slice A0_1 l0_1.length c0_1) := (blk_cell BK295.out 1).trans rfl
     have hfz15_0 := blk_frozen BK295.out 0
     have hfz15_1 := blk_frozen BK295.out 1
     go_wp2
     go_loopg [6, 30] kj1 (fun kq v6 v30 w' => ∃ (x6_2 : List (List (S67))) (x30_2 : Int), v30 = .int .i64 x30_2 ∧ Aside0 (impl_SharesOfStates.l0 kq (l0_1.length : Int) x6_2 (l0_1.length : Int) x30_2 a0_0 l0_1 = some (r1, r2, r3)) ∧ Aside0 (kq ≤ kj1) ∧ Aside0 (Kd.S (Kd.slice 67 k67) 65 w' w.heap.size (fun _ => True) v6 x6_2) ∧ Aside0 (w'.heap[gb295]? = some (.cells #[.int .i64 a0_0, (.slice A0_1 l0_1.length c0_1)] 29 (0, 0))) ∧ Aside0 (Below w.heap.size w w'))
     case atStart => exact ⟨(([] : List (List (S67)))), (0), (by first | rfl | (simp; done) | (simp [*]; done)), H', ⟨Nat.le_refl _⟩, ⟨by first | exact Kd.S_nil _ _ _ _ _ | exact Kd.N_nil _ _ _ _ _ | exact Kd.V_nil _ _ _ _ _ | exact Kd.Q_nil _ _ _ _ _ | exact Kd.R_nil _ _ _ _ _⟩, ⟨by (with_reducible repeat (first | refine blk_drewN ?_ _ | refine blk_drew ?_ | refine blk_alloc ?_ _)); exact BK295.out⟩, ⟨by repeat (first | (with_reducible first | exact HB.out | apply below_alloc | apply pw_below_drewN | apply below_drew1 | refine below_set ?_ GE295.out) | exact HB.out)⟩⟩
     case round =>
      clear H'
      try clear c1
      try clear c2
      try clear p2
      try clear c5
      try clear c14
      try clear hcz12_0
      try clear hcz12_1
      try clear hcz15_0
      try clear hcz15_1
      try clear hcz7_0
      try clear hcz7_1
      try clear hcz9_0
      try clear hcz9_1
      try clear hfz12_0
      try clear hfz12_1
      try clear hfz15_0
      try clear hfz15_1
      try clear hfz7_0
      try clear hfz7_1
      try clear hfz9_0
      try clear hfz9_1
      try clear p2
      obtain ⟨x6_2, x30_2, rfl, HA, HK2, HO_6, BK295, HB⟩ := hrel
      cases gk with
      | zero => exact absurd HA.out (by simp [impl_SharesOfStates.l0])
      | succ k2 =>
       have H := HA.out
       clear HA
       simp only [impl_SharesOfStates.l0] at H
       by_cases c16 : x30_2 < (l0_1.length : Int)
       · rw [if_pos c16] at H
         have c16b0 : decide (x30_2 < (l0_1.length : Int)) = true := decide_eq_true c16
         clear c16
         obtain ⟨ji17, hji17⟩ : ∃ j_ : Int, (wrap64 ((l0_1.length : Int) + 1)) = j_ := ⟨_, rfl⟩
         replace H : (if 0 ≤ (ji17) then (if (ji17 : Int).toNat ≤ 17592186044416 then (impl_SharesOfStates.l1 k2 (l0_1.length : Int) x6_2 x30_2 (List.replicate (ji17 : Int).toNat z67) (l0_1.length : Int) x30_2 (l0_1.length : Int) 0 a0_0 l0_1) else (none)) else (none)) = some (r1, r2, r3) := by first | (rw [hji17] at H; exact H) | (simp only [hji17] at H ⊢; exact H)
         have hji17w : (IntKind.i64.wrap ((l0_1.length : Int) + 1)) = ji17 := (i64_w _).trans hji17
         by_cases c18 : 0 ≤ (ji17)
         · rw [if_pos c18] at H
           have c18b0 := eq_true c18
           have c18b1 : decide (0 ≤ (ji17)) = true := decide_eq_true c18
           clear c18
           by_cases c19 : (ji17 : Int).toNat ≤ 17592186044416
           · rw [if_pos c19] at H
             have c19b0 := eq_true c19
             have c19b1 : decide ((ji17 : Int).toNat ≤ 17592186044416) = true := decide_eq_true c19
             clear c19
             obtain ⟨y300, hy300⟩ : ∃ y_ : List (S67), y_ = (List.replicate (ji17 : Int).toNat z67) := ⟨_, rfl⟩
             replace H : (impl_SharesOfStates.l1 k2 (l0_1.length : Int) x6_2 x30_2 y300 (l0_1.length : Int) x30_2 (l0_1.length : Int) 0 a0_0 l0_1) = some (r1, r2, r3) := by first | (rw [hy300]; with_reducible exact H) | (have H2_ := (Option.bind_some _ _).symm.trans H; rw [hy300]; with_reducible exact H2_) | (have H2_ := (Option.bind_some _ _).symm.trans H; with_reducible exact H2_) | with_reducible exact H | (rw [hy300]; exact H) | exact H
             have Ny300 := Aside0.mk hy300
             clear hy300
             have H' := Aside0.mk H
             clear H
             go_wp2_with (first | ((with_reducible refine gate_dst (N := 35) rfl ?_); (try (refine gate_guard (by rfl) ?_; dsimp only)); refine Kd.R_make k67 _ 67 rfl (N := 35) rfl 65 _ _ rfl ji17 rfl rfl Try.underlying65 (.agg #[(.int .i64 0), (.int .i64 0)]) 16 info67 rfl (by decide) (by omega) z67 (ok := fun _ => True) (okp := fun _ => True) (k67_mkM _ _ _ z67 ) (fun _ hk => hk) trivial (dT_) (Nat.le_trans (Nat.mul_le_mul_right _ (dT_ : ji17.toNat ≤ 17592186044416)) (by omega)) (Below.refl _ _) (Nat.le_refl _) ?_; intro v301 w20 ho21 hb hg_ hnew_; clear hg_ hnew_; (first | rw [← Ny300.out] at ho21 | (simp only [Int.reduceToNat] at ho21; rw [← Ny300.out] at ho21)); have n0_ := Aside0.mk (Kd.S_elder' (by (with_reducible repeat (first | apply Kd.S_alloc | apply Kd.S_drewN | apply Kd.S_drew)); exact HO_6.out) (Kd.R_base ho21) hb); have n1_ := Aside0.mk (Kd.R_lower ho21 (below_size (by repeat (first | (with_reducible first | exact HB.out | apply below_alloc | apply pw_below_drewN | apply below_drew1 | refine below_set ?_ GE295.out) | exact HB.out)))); have n2_ := Aside0.mk (blk_below (g := gb295) (o := .cells #[.int .i64 a0_0, .slice A0_1 l0_1.length c0_1] 29 (0, 0)) (by (with_reducible repeat (first | refine blk_drewN ?_ _ | refine blk_drew ?_ | refine blk_alloc ?_ _)); exact BK295.out) hb); have n3_ := Aside0.mk (below_step (by repeat (first | (with_reducible first | exact HB.out | apply below_alloc | apply pw_below_drewN | apply below_drew1 | refine below_set ?_ GE295.out) | exact HB.out)) hb); clear HO_6; clear BK295; clear HB; have HO_6 := n0_; have HO302 := n1_; have BK295 := n2_; have HB := n3_; clear n0_ n1_ n2_ n3_; clear hb ho21))
             go_loopg [37] k2 (fun kq v37 w' => ∃ (x8_3 : List (S67)) (x37_3 : Int), v37 = .int .i64 x37_3 ∧ Aside0 (impl_SharesOfStates.l1 kq (l0_1.length : Int) x6_2 x30_2 x8_3 (l0_1.length : Int) x30_2 (l0_1.length : Int) x37_3 a0_0 l0_1 = some (r1, r2, r3)) ∧ Aside0 (kq ≤ k2) ∧ Aside0 (Kd.S (Kd.slice 67 k67) 65 w' w.heap.size (fun k_ => some k_ ≠ (v301 : Value).ownBlock) u6 x6_2) ∧ Aside0 (Kd.R k67 67 w' w.heap.size (fun _ => True) v301 x8_3) ∧ Aside0 (w'.heap[gb295]? = some (.cells #[.int .i64 a0_0, (.slice A0_1 l0_1.length c0_1)] 29 (0, 0))) ∧ Aside0 (Below w.heap.size w w'))
             case atStart => exact ⟨(y300), (0), (by first | rfl | (simp; done) | (simp [*]; done)), H', ⟨Nat.le_refl _⟩, ⟨by (with_reducible repeat (first | apply Kd.S_alloc | apply Kd.S_drewN | apply Kd.S_drew)); exact Kd.S_mono HO_6.out (fun _ hk => hk.2)⟩, ⟨by (with_reducible repeat (first | apply Kd.R_alloc | apply Kd.R_drewN | apply Kd.R_drew)); exact HO302.out⟩, ⟨by (with_reducible repeat (first | refine blk_drewN ?_ _ | refine blk_drew ?_ | refine blk_alloc ?_ _)); exact BK295.out⟩, ⟨by repeat (first | (with_reducible first | exact HB.out | apply below_alloc | apply pw_below_drewN | apply below_drew1 | refine below_set ?_ GE295.out) | exact HB.out)⟩⟩
             case round =>
              clear H'
              try clear c1
              try clear c2
              try clear p2
              try clear c5
              try clear p6
              try clear c14
              try clear c16
              try clear c16b0
              try clear c18
              try clear c18b0
              try clear c18b1
              try clear c19
              try clear c19b0
              try clear c19b1
              try clear hcz12_0
              try clear hcz12_1
              try clear hcz15_0
              try clear hcz15_1
              try clear hcz7_0
              try clear hcz7_1
              try clear hcz9_0
              try clear hcz9_1
              try clear hfz12_0
              try clear hfz12_1
              try clear hfz15_0
              try clear hfz15_1
              try clear hfz7_0
              try clear hfz7_1
              try clear hfz9_0
              try clear hfz9_1
              try clear p2
              obtain ⟨x8_3, x37_3, rfl, HA, HK3, HO_6, HO_8, BK295, HB⟩ := hrel
              cases gk with
              | zero => exact absurd HA.out (by simp [impl_SharesOfStates.l1])
              | succ k3 =>
               have H := HA.out
               clear HA
               simp only [impl_SharesOfStates.l1] at H
               by_cases c22 : x37_3 < (l0_1.length : Int)
               · rw [if_pos c22] at H
                 have c22b0 : decide (x37_3 < (l0_1.length : Int)) = true := decide_eq_true c22
                 clear c22
                 by_cases c23 : 0 ≤ x37_3
                 · rw [if_pos c23] at H
                   have c23b0 : decide (0 ≤ x37_3) = true := decide_eq_true c23
                   clear c23
                   by_cases c24 : x37_3 < (l0_1.length : Int)
                   · rw [if_pos c24] at H
                     have c24b0 : decide (x37_3 < (l0_1.length : Int)) = true := decide_eq_true c24
                     clear c24
                     by_cases c25 : 0 ≤ x30_2
                     · rw [if_pos c25] at H
                       have c25b0 : decide (0 ≤ x30_2) = true := decide_eq_true c25
                       clear c25
                       by_cases c26 : x30_2 < ((rd_L1 l0_1 x37_3).length : Int)
                       · rw [if_pos c26] at H
                         have c26b0 : decide (x30_2 < ((rd_L1 l0_1 x37_3).length : Int)) = true := decide_eq_true c26
                         clear c26
                         replace H := Option.bind_eq_some_iff.mp H
                         obtain ⟨⟨t311, t312⟩, A270, H⟩ := H
                         replace H : (if x37_3 < (x8_3.length : Int) then ((some (x8_3.set (x37_3 : Int).toNat (⟨t311, t312⟩ : S67) : List (S67))).bind fun y313 => (if x37_3 = x30_2 then ((impl_whole.f 1).bind fun bt315 => ((impl_frac_minus.f k3 ((rd_T67 y313 x37_3).f0) ((rd_T67 y313 x37_3).f1) bt315.1 bt315.2).bind fun bt317 => ((some (y313.set (x37_3 : Int).toNat (⟨bt317.1, bt317.2⟩ : S67) : List (S67))).bind fun y319 => (if x30_2 = (wrap64 ((l0_1.length : Int) - 1)) then ((impl_whole.f 1).bind fun bt320 => (impl_SharesOfStates.l1 k3 (l0_1.length : Int) x6_2 x30_2 (y319.set (x37_3 : Int).toNat (⟨bt320.1, bt320.2⟩ : S67)) (l0_1.length : Int) x30_2 (l0_1.length : Int) (wrap64 (x37_3 + 1)) a0_0 l0_1)) else (impl_SharesOfStates.l1 k3 (l0_1.length : Int) x6_2 x30_2 y319 (l0_1.length : Int) x30_2 (l0_1.length : Int) (wrap64 (x37_3 + 1)) a0_0 l0_1))))) else (if x30_2 = (wrap64 ((l0_1.length : Int) - 1)) then ((impl_whole.f 1).bind fun bt323 => (impl_SharesOfStates.l1 k3 (l0_1.length : Int) x6_2 x30_2 (y313.set (x37_3 : Int).toNat (⟨bt323.1, bt323.2⟩ : S67)) (l0_1.length : Int) x30_2 (l0_1.length : Int) (wrap64 (x37_3 + 1)) a0_0 l0_1)) else (impl_SharesOfStates.l1 k3 (l0_1.length : Int) x6_2 x30_2 y313 (l0_1.length : Int) x30_2 (l0_1.length : Int) (wrap64 (x37_3 + 1)) a0_0 l0_1)))) else (none)) = some (r1, r2, r3) := H
                         have A27 := Aside0.mk A270
                         clear A270
                         by_cases c28 : x37_3 < (x8_3.length : Int)
                         · rw [if_pos c28] at H
                           have c28b0 : decide (x37_3 < (x8_3.length : Int)) = true := decide_eq_true c28
                           clear c28
                           obtain ⟨y313, hy313⟩ : ∃ y_ : List (S67), y_ = (x8_3.set (x37_3 : Int).toNat (⟨t311, t312⟩ : S67)) := ⟨_, rfl⟩
                           replace H : (if x37_3 = x30_2 then ((impl_whole.f 1).bind fun bt315 => ((impl_frac_minus.f k3 ((rd_T67 y313 x37_3).f0) ((rd_T67 y313 x37_3).f1) bt315.1 bt315.2).bind fun bt317 => ((some (y313.set (x37_3 : Int).toNat (⟨bt317.1, bt317.2⟩ : S67) : List (S67))).bind fun y319 => (if x30_2 = (wrap64 ((l0_1.length : Int) - 1)) then ((impl_whole.f 1).bind fun bt320 => (impl_SharesOfStates.l1 k3 (l0_1.length : Int) x6_2 x30_2 (y319.set (x37_3 : Int).toNat (⟨bt320.1, bt320.2⟩ : S67)) (l0_1.length : Int) x30_2 (l0_1.length : Int) (wrap64 (x37_3 + 1)) a0_0 l0_1)) else (impl_SharesOfStates.l1 k3 (l0_1.length : Int) x6_2 x30_2 y319 (l0_1.length : Int) x30_2 (l0_1.length : Int) (wrap64 (x37_3 + 1)) a0_0 l0_1))))) else (if x30_2 = (wrap64 ((l0_1.length : Int) - 1)) then ((impl_whole.f 1).bind fun bt323 => (impl_SharesOfStates.l1 k3 (l0_1.length : Int) x6_2 x30_2 (y313.set (x37_3 : Int).toNat (⟨bt323.1, bt323.2⟩ : S67)) (l0_1.length : Int) x30_2 (l0_1.length : Int) (wrap64 (x37_3 + 1)) a0_0 l0_1)) else (impl_SharesOfStates.l1 k3 (l0_1.length : Int) x6_2 x30_2 y313 (l0_1.length : Int) x30_2 (l0_1.length : Int) (wrap64 (x37_3 + 1)) a0_0 l0_1))) = some (r1, r2, r3) := by first | (rw [hy313]; with_reducible exact H) | (have H2_ := (Option.bind_some _ _).symm.trans H; rw [hy313]; with_reducible exact H2_) | (have H2_ := (Option.bind_some _ _).symm.trans H; with_reducible exact H2_) | with_reducible exact H | (rw [hy313]; exact H) | exact H
                           have Ny313 := Aside0.mk hy313
                           clear hy313
                           by_cases c30 : x37_3 = x30_2
                           · rw [if_pos c30] at H
                             have c30b0 : (x37_3 == x30_2) = true := beq_iff_eq.mpr c30
                             have c30b1 : (x37_3 != x30_2) = false := bne_eq_false_iff_eq.mpr c30
                             clear c30
                             replace H := Option.bind_eq_some_iff.mp H
                             obtain ⟨⟨t315, t316⟩, A310, H⟩ := H
                             replace H : ((impl_frac_minus.f k3 ((rd_T67 y313 x37_3).f0) ((rd_T67 y313 x37_3).f1) t315 t316).bind fun bt317 => ((some (y313.set (x37_3 : Int).toNat (⟨bt317.1, bt317.2⟩ : S67) : List (S67))).bind fun y319 => (if x30_2 = (wrap64 ((l0_1.length : Int) - 1)) then ((impl_whole.f 1).bind fun bt320 => (impl_SharesOfStates.l1 k3 (l0_1.length : Int) x6_2 x30_2 (y319.set (x37_3 : Int).toNat (⟨bt320.1, bt320.2⟩ : S67)) (l0_1.length : Int) x30_2 (l0_1.length : Int) (wrap64 (x37_3 + 1)) a0_0 l0_1)) else (impl_SharesOfStates.l1 k3 (l0_1.length : Int) x6_2 x30_2 y319 (l0_1.length : Int) x30_2 (l0_1.length : Int) (wrap64 (x37_3 + 1)) a0_0 l0_1)))) = some (r1, r2, r3) := H
                             have A31 := Aside0.mk A310
                             clear A310
                             replace H := Option.bind_eq_some_iff.mp H
                             obtain ⟨⟨t317, t318⟩, A320, H⟩ := H
                             replace H : ((some (y313.set (x37_3 : Int).toNat (⟨t317, t318⟩ : S67) : List (S67))).bind fun y319 => (if x30_2 = (wrap64 ((l0_1.length : Int) - 1)) then ((impl_whole.f 1).bind fun bt320 => (impl_SharesOfStates.l1 k3 (l0_1.length : Int) x6_2 x30_2 (y319.set (x37_3 : Int).toNat (⟨bt320.1, bt320.2⟩ : S67)) (l0_1.length : Int) x30_2 (l0_1.length : Int) (wrap64 (x37_3 + 1)) a0_0 l0_1)) else (impl_SharesOfStates.l1 k3 (l0_1.length : Int) x6_2 x30_2 y319 (l0_1.length : Int) x30_2 (l0_1.length : Int) (wrap64 (x37_3 + 1)) a0_0 l0_1))) = some (r1, r2, r3) := H
                             have A32 := Aside0.mk A320
                             clear A320
                             obtain ⟨y319, hy319⟩ : ∃ y_ : List (S67), y_ = (y313.set (x37_3 : Int).toNat (⟨t317, t318⟩ : S67)) := ⟨_, rfl⟩
                             replace H : (if x30_2 = (wrap64 ((l0_1.length : Int) - 1)) then ((impl_whole.f 1).bind fun bt320 => (impl_SharesOfStates.l1 k3 (l0_1.length : Int) x6_2 x30_2 (y319.set (x37_3 : Int).toNat (⟨bt320.1, bt320.2⟩ : S67)) (l0_1.length : Int) x30_2 (l0_1.length : Int) (wrap64 (x37_3 + 1)) a0_0 l0_1)) else (impl_SharesOfStates.l1 k3 (l0_1.length : Int) x6_2 x30_2 y319 (l0_1.length : Int) x30_2 (l0_1.length : Int) (wrap64 (x37_3 + 1)) a0_0 l0_1)) = some (r1, r2, r3) := by first | (rw [hy319]; with_reducible exact H) | (have H2_ := (Option.bind_some _ _).symm.trans H; rw [hy319]; with_reducible exact H2_) | (have H2_ := (Option.bind_some _ _).symm.trans H; with_reducible exact H2_) | with_reducible exact H | (rw [hy319]; exact H) | exact H
                             have Ny319 := Aside0.mk hy319
                             clear hy319
                             by_cases c34 : x30_2 = (wrap64 ((l0_1.length : Int) - 1))
                             · rw [if_pos c34] at H
                               have c34b0 : (x30_2 == (wrap64 ((l0_1.length : Int) - 1))) = true := beq_iff_eq.mpr c34
                               have c34b1 : (x30_2 != (wrap64 ((l0_1.length : Int) - 1))) = false := bne_eq_false_iff_eq.mpr c34
                               clear c34
                               replace H := Option.bind_eq_some_iff.mp H
                               obtain ⟨⟨t320, t321⟩, A350, H⟩ := H
                               replace H : (impl_SharesOfStates.l1 k3 (l0_1.length : Int) x6_2 x30_2 (y319.set (x37_3 : Int).toNat (⟨t320, t321⟩ : S67)) (l0_1.length : Int) x30_2 (l0_1.length : Int) (wrap64 (x37_3 + 1)) a0_0 l0_1) = some (r1, r2, r3) := H
                               have A35 := Aside0.mk A350
                               clear A350
                               obtain ⟨y322, hy322⟩ : ∃ y_ : List (S67), y_ = (y319.set (x37_3 : Int).toNat (⟨t320, t321⟩ : S67)) := ⟨_, rfl⟩
                               replace H : (impl_SharesOfStates.l1 k3 (l0_1.length : Int) x6_2 x30_2 y322 (l0_1.length : Int) x30_2 (l0_1.length : Int) (wrap64 (x37_3 + 1)) a0_0 l0_1) = some (r1, r2, r3) := by first | (rw [hy322]; with_reducible exact H) | (have H2_ := (Option.bind_some _ _).symm.trans H; rw [hy322]; with_reducible exact H2_) | (have H2_ := (Option.bind_some _ _).symm.trans H; with_reducible exact H2_) | with_reducible exact H | (rw [hy322]; exact H) | exact H
                               have Ny322 := Aside0.mk hy322
                               clear hy322
                               have H' := Aside0.mk H
                               clear H
                               try go_wp2
                               have n0_ := Aside0.mk (Kd.S_drew HO_6.out)
                               have n1_ := Aside0.mk (Kd.R_drew HO_8.out)
                               have n2_ := Aside0.mk (blk_drew BK295.out)
                               have n3_ := Aside0.mk (below_drew1 HB.out)
                               clear HO_6
                               clear HO_8
                               clear BK295
                               clear HB
                               have HO_6 := n0_
                               have HO_8 := n1_
                               have BK295 := n2_
                               have HB := n3_
                               clear n0_ n1_ n2_ n3_
                               have p309 : 0 ≤ (x37_3 : Int) := dT_
                               have q309 : x37_3 < (l0_1.length : Int) := dT_
                               obtain ⟨ad309, A309_0, c309_0, e309, hx309_0, hl309_0, hi309_0⟩ := at_L1 HR0_1.out x37_3 p309 q309
                               have hw309_0 := hx309_0
                               cases e309
                               replace hx309_0 := (HB.out.cell (World.block_lt_of_cell? w _ hx309_0)).trans hx309_0
                               have HR309_0 := Aside0.mk hi309_0
                               have HC309_0 := Aside0.mk hl309_0
                               clear hi309_0 hl309_0
                               replace p309 := eq_true p309
                               replace q309 := eq_true q309
                               have p310 : 0 ≤ (x30_2 : Int) := dT_
                               have q310 : x30_2 < ((rd_L1 l0_1 x37_3).length : Int) := dT_
                               obtain ⟨ad310, e310, hx310_0⟩ := Kd.at_int HR309_0.out x30_2 p310 q310
                               have hw310_0 := hx310_0
                               cases e310
                               replace hx310_0 := (HB.out.cell (World.block_lt_of_cell? w _ hx310_0)).trans hx310_0
                               replace p310 := eq_true p310
                               replace q310 := eq_true q310
                               refine start_ (n := 15) (S := fun w' => w'.cell? ⟨gb295, 0, none⟩ = some (.int .i64 a0_0) ∧ w'.cell? ⟨gb295, 1, none⟩ = some (.slice (some ad309) l0_1.length c0_1) ∧ w'.cell? (ad309.add (x37_3).toNat) = some (.slice (some ad310) (rd_L1 l0_1 x37_3).length c309_0) ∧ w'.cell? (ad310.add (x30_2).toNat) = some (.int .i64 (rd (rd_L1 l0_1 x37_3) x30_2))) (ds := [14]) #[false, false, false, false, false, false, false, false, false, false, false, false, false, false, false] (by kernel_rfl) rfl rfl ⟨(blk_cell BK295.out 0).trans rfl, (blk_cell BK295.out 1).trans rfl, ((HB.out.cell (World.block_lt_of_cell? w _ hw309_0)).trans hw309_0), ((HB.out.cell (World.block_lt_of_cell? w _ hw310_0)).trans hw310_0)⟩ (fun hHeld => ?_); refine with_tabW impl_SharesOfStates.tab12 impl_SharesOfStates.bits12 (fun HT_ HW_ => ?_)
                               generalize wr.drew = w37 at HO_6 HO_8 BK295 HB HR309_0 hx309_0 hx310_0 hHeld ⊢
                               refine pure_ (i := 0) (N := some 40) (v := ?_) (a' := ?_) #[true, false, false, false, false, false, false, false, false, false, false, false, false, false, false] rfl rfl (any_of HT_.out (by kernel_rfl)) (fun _ _ _ h => h) (Or.inl ⟨by rfl, ?_⟩) ?_ ?_
                               rotate_left
                               · intro w'
                                 go_simp
                                 with_reducible rfl
                               rotate_left
                               · simp only [Act.put, List.setIfInBounds_toArray, List.set_cons_zero, List.set_cons_succ, i64_w, i32_w]
                                 rfl
                               refine pure_ (i := 1) (N := some 41) (v := ?_) (a' := ?_) #[true, true, false, false, false, false, false, false, false, false, false, false, false, false, false] rfl rfl (any_of HT_.out (by kernel_rfl)) (fun _ _ _ h => h) (Or.inl ⟨by rfl, ?_⟩) ?_ ?_
                               rotate_left
                               · intro w'
                                 go_simp
                                 with_reducible rfl
                               rotate_left
                               · simp only [Act.put, List.setIfInBounds_toArray, List.set_cons_zero, List.set_cons_succ, i64_w, i32_w]
                                 rfl
                               refine pure_ (i := 2) (N := some 42) (v := ?_) (a' := ?_) #[true, true, true, false, false, false, false, false, false, false, false, false, false, false, false] rfl rfl (any_of HT_.out (by kernel_rfl)) (fun _ _ _ h => h) (Or.inl ⟨by rfl, ?_⟩) ?_ ?_
                               rotate_left
                               · intro w'
                                 go_simp
                                 with_reducible rfl
                               rotate_left
                               · simp only [Act.put, List.setIfInBounds_toArray, List.set_cons_zero, List.set_cons_succ, i64_w, i32_w]
                                 rfl
                               refine pure_ (i := 4) (N := some 44) (v := ?_) (a' := ?_) #[true, true, true, false, true, false, false, false, false, false, false, false, false, false, false] rfl rfl (any_of HT_.out (by kernel_rfl)) (fun _ _ _ h => h) (Or.inl ⟨by rfl, ?_⟩) ?_ ?_
                               rotate_left
                               · intro w'
                                 go_simp
                                 with_reducible rfl
                               rotate_left
                               · simp only [Act.put, List.setIfInBounds_toArray, List.set_cons_zero, List.set_cons_succ, i64_w, i32_w]
                                 rfl
                               refine pure_ (i := 7) (N := some 47) (v := ?_) (a' := ?_) #[true, true, true, false, true, false, false, true, false, false, false, false, false, false, false] rfl rfl (any_of HT_.out (by kernel_rfl)) (fun _ _ _ h => h) (Or.inl ⟨by rfl, ?_⟩) ?_ ?_
                               rotate_left
                               · intro w'
                                 go_simp
                                 with_reducible rfl
                               rotate_left
                               · simp only [Act.put, List.setIfInBounds_toArray, List.set_cons_zero, List.set_cons_succ, i64_w, i32_w]
                                 rfl
                               refine pure_ (i := 10) (N := some 50) (v := ?_) (a' := ?_) #[true, true, true, false, true, false, false, true, false, false, true, false, false, false, false] rfl rfl (any_of HT_.out (by kernel_rfl)) (fun _ _ _ h => h) (Or.inl ⟨by rfl, ?_⟩) ?_ ?_
                               rotate_left
                               · intro w'
                                 go_simp
                                 with_reducible rfl
                               rotate_left
                               · simp only [Act.put, List.setIfInBounds_toArray, List.set_cons_zero, List.set_cons_succ, i64_w, i32_w]
                                 rfl
                               refine take_ (i := 3) (N := some 43) (v := ?_) (a' := ?_) #[true, true, true, true, true, false, false, true, false, false, true, false, false, false, false] rfl rfl (take_ofW HT_.out HW_.out (by kernel_rfl)) (fun _ _ _ h => h) (Or.inl ⟨by rfl, ?_⟩) hHeld ?_ ?_
                               rotate_left
                               · rintro w' ⟨s0, s1, s2, s3⟩
                                 go_simp
                                 with_reducible rfl
                               rotate_left
                               · simp only [Act.put, List.setIfInBounds_toArray, List.set_cons_zero, List.set_cons_succ, i64_w, i32_w]
                                 rfl
                               refine pure_ (i := 5) (N := some 45) (v := ?_) (a' := ?_) #[true, true, true, true, true, true, false, true, false, false, true, false, false, false, false] rfl rfl (any_of HT_.out (by kernel_rfl)) (fun _ _ _ h => h) (Or.inl ⟨by rfl, ?_⟩) ?_ ?_
                               rotate_left
                               · intro w'
                                 go_simp
                                 with_reducible rfl
                               rotate_left
                               · simp only [Act.put, List.setIfInBounds_toArray, List.set_cons_zero, List.set_cons_succ, i64_w, i32_w]
                                 rfl
                               refine take_ (i := 6) (N := some 46) (v := ?_) (a' := ?_) #[true, true, true, true, true, true, true, true, false, false, true, false, false, false, false] rfl rfl (take_ofW HT_.out HW_.out (by kernel_rfl)) (fun _ _ _ h => h) (Or.inl ⟨by rfl, ?_⟩) hHeld ?_ ?_
                               rotate_left
                               · rintro w' ⟨s0, s1, s2, s3⟩
                                 go_simp
                                 with_reducible rfl
                               rotate_left
                               · simp only [Act.put, List.setIfInBounds_toArray, List.set_cons_zero, List.set_cons_succ, i64_w, i32_w]
                                 rfl
                               refine pure_ (i := 8) (N := some 48) (v := ?_) (a' := ?_) #[true, true, true, true, true, true, true, true, true, false, true, false, false, false, false] rfl rfl (any_of HT_.out (by kernel_rfl)) (fun _ _ _ h => h) (Or.inl ⟨by rfl, ?_⟩) ?_ ?_
                               rotate_left
                               · intro w'
                                 go_simp
                                 with_reducible rfl
                               rotate_left
                               · simp only [Act.put, List.setIfInBounds_toArray, List.set_cons_zero, List.set_cons_succ, i64_w, i32_w]
                                 rfl
                               refine take_ (i := 9) (N := some 49) (v := ?_) (a' := ?_) #[true, true, true, true, true, true, true, true, true, true, true, false, false, false, false] rfl rfl (take_ofW HT_.out HW_.out (by kernel_rfl)) (fun _ _ _ h => h) (Or.inl ⟨by rfl, ?_⟩) hHeld ?_ ?_
                               rotate_left
                               · rintro w' ⟨s0, s1, s2, s3⟩
                                 go_simp
                                 with_reducible rfl
                               rotate_left
                               · simp only [Act.put, List.setIfInBounds_toArray, List.set_cons_zero, List.set_cons_succ, i64_w, i32_w]
                                 rfl
                               refine take_ (i := 11) (N := some 51) (v := ?_) (a' := ?_) #[true, true, true, true, true, true, true, true, true, true, true, true, false, false, false] rfl rfl (take_ofW HT_.out HW_.out (by kernel_rfl)) (fun _ _ _ h => h) (Or.inl ⟨by rfl, ?_⟩) hHeld ?_ ?_
                               rotate_left
                               · rintro w' ⟨s0, s1, s2, s3⟩
                                 go_simp
                                 with_reducible rfl
                               rotate_left
                               · simp only [Act.put, List.setIfInBounds_toArray, List.set_cons_zero, List.set_cons_succ, i64_w, i32_w]
                                 rfl
                               refine one_ (i := 12) (N := some 52) #[true, true, true, true, true, true, true, true, true, true, true, true, true, false, false] rfl rfl (one_of HT_.out (by kernel_rfl)) (by decide) (fun K hK => ?_)
                               refine goes_ Try.func56 (by kernel_rfl) rfl #[.int .i64 (rd (rd_L1 l0_1 x37_3) x30_2), .int .i64 a0_0] (by rfl) rfl rfl (by (try simp only [List.map_toArray, List.map_cons, List.map_nil]); first | done | rfl | (simp only [List.length_drop, List.length_take]; rfl)) ?_
                               with_reducible refine (impl_lowest.calls k3 (rd (rd_L1 l0_1 x37_3) x30_2) a0_0 t311 t312 _ A27.out).mono ?_
                               rintro e w38 ⟨rfl, hb⟩
                               refine ⟨_, rfl, ?_⟩
                               have n0_ := Aside0.mk (Kd.S_below (by (with_reducible repeat (first | apply Kd.S_alloc | apply Kd.S_drewN | apply Kd.S_drew)); exact HO_6.out) hb)
                               have n1_ := Aside0.mk (Kd.R_below (by (with_reducible repeat (first | apply Kd.R_alloc | apply Kd.R_drewN | apply Kd.R_drew)); exact HO_8.out) hb)
                               have n2_ := Aside0.mk (blk_below (g := gb295) (o := .cells #[.int .i64 a0_0, .slice (some ad309) l0_1.length c0_1] 29 (0, 0)) (by (with_reducible repeat (first | refine blk_drewN ?_ _ | refine blk_drew ?_ | refine blk_alloc ?_ _)); exact BK295.out) hb)
                               have n3_ := Aside0.mk (below_step (by repeat (first | (with_reducible first | exact HB.out | apply below_alloc | apply pw_below_drewN | apply below_drew1 | refine below_set ?_ GE295.out) | exact HB.out)) hb)
                               clear HO_6
                               clear HO_8
                               clear BK295
                               clear HB
                               have HO_6 := n0_
                               have HO_8 := n1_
                               have BK295 := n2_
                               have HB := n3_
                               clear n0_ n1_ n2_ n3_
                               (try clear hb)
                               (try clear hb2)
                               (try clear hk)
                               (try clear hi)
                               have p29 : 0 ≤ (x37_3 : Int) := dT_
                               have q29 : (x37_3 : Int) < ((x8_3.length : Int) : Int) := dT_
                               obtain ⟨go29, co29, eo29, gb29, gl29, cl29, HG29⟩ := Kd.R_form HO_8.out (by omega)
                               (first | cases eo29 | (injection eo29 with ea_ en_ ec_; (first | subst ea_ | (injection ea_ with ea_; subst ea_)); subst ec_; clear en_))
                               have GB29 := Aside0.mk gb29
                               have GG29 := Aside0.mk HG29
                               clear gb29 gl29 HG29
                               obtain ⟨ce29, hcl29, hM29, hcc29, hfr29⟩ := Kd.R_elem HO_8.out z67 (x37_3 : Int) p29 q29
                               obtain rfl := k67_openM hM29
                               have hx29_0 : World.cell? _ ⟨go29, (x37_3 : Int).toNat * 2, none⟩ = some (.int .i64 ((rd_T67 x8_3 x37_3).f0)) := hcc29 0 _ rfl
                               have hx29_1 : World.cell? _ ⟨go29, (x37_3 : Int).toNat * 2 + 1, none⟩ = some (.int .i64 ((rd_T67 x8_3 x37_3).f1)) := hcc29 1 _ rfl
                               have hf29_0 : World.frozen? _ ⟨go29, (x37_3 : Int).toNat * 2, none⟩ = false := hfr29 0
                               have hf29_1 : World.frozen? _ ⟨go29, (x37_3 : Int).toNat * 2 + 1, none⟩ = false := hfr29 1
                               (try clear hcl29 hcc29 hfr29 ); (try clear hM29)
                               replace p29 := eq_true p29
                               replace q29 := eq_true q29
                               obtain ⟨ce39, hcl39, hM39, hcc39, hfr39⟩ := Kd.R_elem HO_8.out z67 (x37_3 : Int) (dT_) (by have h_ : (x37_3 : Int) < ((x8_3.length : Int) : Int) := dT_; first | exact h_ | (have e_ := (Kd.R_reads' HO_8.out).1; omega) | simpa using h_)
                               obtain rfl := k67_openM hM39
                               have HP39 := (Kd.R_seg HO_8.out (x37_3 : Int) (dT_) (by have h_ : (x37_3 : Int) < ((x8_3.length : Int) : Int) := dT_; first | exact h_ | (have e_ := (Kd.R_reads' HO_8.out).1; omega) | simpa using h_) (seg := [.int .i64 t311, .int .i64 t312]) (j := 0) hcl39 hcc39 (show 2 ≤ 2 from by decide) (x' := (⟨t311, t312⟩ : S67)) (k67_mkM _ _ _ (⟨t311, t312⟩ : S67) ) (fun _ hk => hk)).1
                               rw [← Ny313.out] at HP39
                               have HQ39 := Aside0.mk HP39
                               (try clear hcl39 hcc39 hfr39 HP39); (try clear hM39)
                               refine hK.out _ _ ⟨(blk_cell BK295.out 0).trans rfl, (blk_cell BK295.out 1).trans rfl, ((HB.out.cell (World.block_lt_of_cell? w _ hw309_0)).trans hw309_0), ((HB.out.cell (World.block_lt_of_cell? w _ hw310_0)).trans hw310_0)⟩ (fun hHeld => ?_)
                               clear hK K
                               refine norm_ (a' := ?_) ?_ ?_
                               rotate_left
                               · show Act.put _ (some 52) _ = _
                                 simp only [Act.put, List.setIfInBounds_toArray, List.set_cons_zero, List.set_cons_succ, i64_w, i32_w]
                                 rfl
                               refine pure_ (i := 13) (N := some 53) (v := ?_) (a' := ?_) #[true, true, true, true, true, true, true, true, true, true, true, true, true, true, false] rfl rfl (any_of HT_.out (by kernel_rfl)) (fun _ _ _ h => h) (Or.inl ⟨by rfl, ?_⟩) ?_ ?_
                               rotate_left
                               · intro w'
                                 go_simp
                                 with_reducible rfl
                               rotate_left
                               · simp only [Act.put, List.setIfInBounds_toArray, List.set_cons_zero, List.set_cons_succ, i64_w, i32_w]
                                 rfl
                               refine last_ (i := 14) (N := none) #[true, true, true, true, true, true, true, true, true, true, true, true, true, true, true] rfl rfl (one_of HT_.out (by kernel_rfl)) (by decide) (fun K hK => ?_)
                               refine skip_ (w1 := ?_) (by rfl) rfl ?_ ?_
                               rotate_left
                               · go_simp
                                 rfl
                               refine hK.out _ _ ?_
                               clear hK K
                               refine done_ (done_of HT_.out (by kernel_rfl)) ?_
                               try go_wp2
                               have n0_ : Aside0 (Kd.S (Kd.slice 67 k67) 65 ((w38.setCell ⟨go29, (x37_3 : Int).toNat * 2, none⟩ (.int .i64 t311)).setCell ⟨go29, (x37_3 : Int).toNat * 2 + 1, none⟩ (.int .i64 t312)) w.heap.size (fun k_ => some k_ ≠ (.slice (some ⟨go29, 0, none⟩) x8_3.length co29 : Value).ownBlock) u6 x6_2) := ⟨by (with_reducible repeat (first | apply Kd.S_alloc | apply Kd.S_drewN | apply Kd.S_drew)); exact Kd.S_mono (Kd.S_far (p := ⟨go29, (x37_3 : Int).toNat * 2 + 1, none⟩) (Kd.S_far (p := ⟨go29, (x37_3 : Int).toNat * 2, none⟩) (Kd.S_mono HO_6.out (fun k_ hk => (⟨hk, fun e_ => hk (by rw [e_]; rfl)⟩ : _ ∧ k_ ≠ go29))) (fun _ hk => hk.2) (.int .i64 t311)) (fun _ hk => hk.2) (.int .i64 t312)) (fun _ hk => hk.1)⟩
                               have n1_ : Aside0 (Kd.R k67 67 ((w38.setCell ⟨go29, (x37_3 : Int).toNat * 2, none⟩ (.int .i64 t311)).setCell ⟨go29, (x37_3 : Int).toNat * 2 + 1, none⟩ (.int .i64 t312)) w.heap.size (fun _ => True) (.slice (some ⟨go29, 0, none⟩) x8_3.length co29) y313) := ⟨by (with_reducible repeat (first | apply Kd.R_alloc | apply Kd.R_drewN | apply Kd.R_drew)); exact HQ39.out⟩
                               have n2_ : Aside0 (((w38.setCell ⟨go29, (x37_3 : Int).toNat * 2, none⟩ (.int .i64 t311)).setCell ⟨go29, (x37_3 : Int).toNat * 2 + 1, none⟩ (.int .i64 t312)).heap[gb295]? = some (.cells #[.int .i64 a0_0, .slice (some ad309) l0_1.length c0_1] 29 (0, 0))) := ⟨by (with_reducible repeat (first | refine blk_drewN ?_ _ | refine blk_drew ?_ | refine blk_alloc ?_ _)); refine blk_far ?_ (by have h_ := Kd.R_ne HO_8.out BK295.out (by decide); intro e_; exact h_ (by rw [e_]; rfl)) _; (with_reducible repeat (first | refine blk_drewN ?_ _ | refine blk_drew ?_ | refine blk_alloc ?_ _)); refine blk_far ?_ (by have h_ := Kd.R_ne HO_8.out BK295.out (by decide); intro e_; exact h_ (by rw [e_]; rfl)) _; (with_reducible repeat (first | refine blk_drewN ?_ _ | refine blk_drew ?_ | refine blk_alloc ?_ _)); exact BK295.out⟩
                               have n3_ : Aside0 (Below w.heap.size w ((w38.setCell ⟨go29, (x37_3 : Int).toNat * 2, none⟩ (.int .i64 t311)).setCell ⟨go29, (x37_3 : Int).toNat * 2 + 1, none⟩ (.int .i64 t312))) := ⟨by repeat (first | (with_reducible first | exact HB.out | apply below_alloc | apply pw_below_drewN | apply below_drew1 | refine below_set ?_ GB29.out | refine below_set ?_ GB29.out | refine below_set ?_ GE295.out) | exact HB.out)⟩
                               (try clear HO_6)
                               (try clear HO_8)
                               (try clear BK295)
                               (try clear HB)
                               generalize ((w38.setCell ⟨go29, (x37_3 : Int).toNat * 2, none⟩ (.int .i64 t311)).setCell ⟨go29, (x37_3 : Int).toNat * 2 + 1, none⟩ (.int .i64 t312)) = w40 at n0_ n1_ n2_ n3_ ⊢
                               have HO_6 := n0_
                               have HO_8 := n1_
                               have BK295 := n2_
                               have HB := n3_
                               clear n0_ n1_ n2_ n3_
                               have n0_ := Aside0.mk (Kd.S_drew HO_6.out)
                               have n1_ := Aside0.mk (Kd.R_drew HO_8.out)
                               have n2_ := Aside0.mk (blk_drew BK295.out)
                               have n3_ := Aside0.mk (below_drew1 HB.out)
                               clear HO_6
                               clear HO_8
                               clear BK295
                               clear HB
                               have HO_6 := n0_
                               have HO_8 := n1_
                               have BK295 := n2_
                               have HB := n3_
                               clear n0_ n1_ n2_ n3_
                               have p314 : 0 ≤ (x37_3 : Int) := dT_
                               have q314 : x37_3 < (y313.length : Int) := (by have h_ : (x37_3 : Int) < ((x8_3.length : Int) : Int) := dT_; first | (have e_ := (Kd.R_reads' HO_8.out).1; omega) | simpa only [Ny313.out, List.length_set] using h_)
                               have ql314 : ((x37_3 : Int) < ((x8_3.length : Int) : Int)) = True := eq_true (dT_)
                               obtain ⟨ad314, e314, hx314_0, hx314_1⟩ := at_T67 (Kd.R_reads' HO_8.out).2.2 x37_3 p314 q314
                               obtain rfl : (⟨go29, 0, none⟩ : Addr) = ad314 := (by injection e314)
                               (first | simp only [add_plain] at hx314_0 | simp only [add_at] at hx314_0 | simp only [Addr.add, Nat.zero_add] at hx314_0 | skip)
                               (first | simp only [add_plain] at hx314_1 | simp only [add_at] at hx314_1 | simp only [Addr.add, Nat.zero_add] at hx314_1 | skip)
                               replace p314 := eq_true p314
                               replace q314 := eq_true q314
                               refine start_ (n := 10) (S := fun w' => w'.cell? ⟨go29, (x37_3).toNat * 2, none⟩ = some (.int .i64 ((rd_T67 y313 x37_3).f0)) ∧ w'.cell? ⟨go29, (x37_3).toNat * 2 + 1, none⟩ = some (.int .i64 ((rd_T67 y313 x37_3).f1))) (ds := [9]) #[false, false, false, false, false, false, false, false, false, false] (by kernel_rfl) rfl rfl ⟨hx314_0, hx314_1⟩ (fun hHeld => ?_); refine with_tabW impl_SharesOfStates.tab14 impl_SharesOfStates.bits14 (fun HT_ HW_ => ?_)
                               generalize w40.drew = w41 at HO_6 HO_8 BK295 HB HQ39 hx314_0 hx314_1 hHeld ⊢
                               refine pure_ (i := 0) (N := some 57) (v := ?_) (a' := ?_) #[true, false, false, false, false, false, false, false, false, false] rfl rfl (any_of HT_.out (by kernel_rfl)) (fun _ _ _ h => h) (Or.inl ⟨by rfl, ?_⟩) ?_ ?_
                               rotate_left
                               · intro w'
                                 go_simp
                                 with_reducible rfl
                               rotate_left
                               · simp only [Act.put, List.setIfInBounds_toArray, List.set_cons_zero, List.set_cons_succ, i64_w, i32_w]
                                 rfl
                               refine pure_ (i := 1) (N := some 58) (v := ?_) (a' := ?_) #[true, true, false, false, false, false, false, false, false, false] rfl rfl (any_of HT_.out (by kernel_rfl)) (fun _ _ _ h => h) (Or.inl ⟨by rfl, ?_⟩) ?_ ?_
                               rotate_left
                               · intro w'
                                 go_simp
                                 with_reducible rfl
                               rotate_left
                               · simp only [Act.put, List.setIfInBounds_toArray, List.set_cons_zero, List.set_cons_succ, i64_w, i32_w]
                                 rfl
                               refine pure_ (i := 2) (N := some 59) (v := ?_) (a' := ?_) #[true, true, true, false, false, false, false, false, false, false] rfl rfl (any_of HT_.out (by kernel_rfl)) (fun _ _ _ h => h) (Or.inl ⟨by rfl, ?_⟩) ?_ ?_
                               rotate_left
                               · intro w'
                                 go_simp
                                 with_reducible rfl
                               rotate_left
                               · simp only [Act.put, List.setIfInBounds_toArray, List.set_cons_zero, List.set_cons_succ, i64_w, i32_w]
                                 rfl
                               refine pure_ (i := 3) (N := some 60) (v := ?_) (a' := ?_) #[true, true, true, true, false, false, false, false, false, false] rfl rfl (any_of HT_.out (by kernel_rfl)) (fun _ _ _ h => h) (Or.inl ⟨by rfl, ?_⟩) ?_ ?_
                               rotate_left
                               · intro w'
                                 go_simp
                                 with_reducible rfl
                               rotate_left
                               · simp only [Act.put, List.setIfInBounds_toArray, List.set_cons_zero, List.set_cons_succ, i64_w, i32_w]
                                 rfl
                               refine pure_ (i := 4) (N := some 61) (v := ?_) (a' := ?_) #[true, true, true, true, true, false, false, false, false, false] rfl rfl (any_of HT_.out (by kernel_rfl)) (fun _ _ _ h => h) (Or.inl ⟨by rfl, ?_⟩) ?_ ?_
                               rotate_left
                               · intro w'
                                 go_simp
                                 with_reducible rfl
                               rotate_left
                               · simp only [Act.put, List.setIfInBounds_toArray, List.set_cons_zero, List.set_cons_succ, i64_w, i32_w]
                                 rfl
                               refine take_ (i := 5) (N := some 62) (v := ?_) (a' := ?_) #[true, true, true, true, true, true, false, false, false, false] rfl rfl (take_ofW HT_.out HW_.out (by kernel_rfl)) (fun _ _ _ h => h) (Or.inl ⟨by rfl, ?_⟩) hHeld ?_ ?_
                               rotate_left
                               · rintro w' ⟨s0, s1⟩
                                 go_simp
                                 with_reducible rfl
                               rotate_left
                               · simp only [Act.put, List.setIfInBounds_toArray, List.set_cons_zero, List.set_cons_succ, i64_w, i32_w]
                                 rfl
                               refine one_ (i := 6) (N := some 63) #[true, true, true, true, true, true, true, false, false, false] rfl rfl (one_of HT_.out (by kernel_rfl)) (by decide) (fun K hK => ?_)
                               refine goes_ Try.func58 (by kernel_rfl) rfl #[.int .i64 1] (by rfl) rfl rfl (by (try simp only [List.map_toArray, List.map_cons, List.map_nil]); first | done | rfl | (simp only [List.length_drop, List.length_take]; rfl)) ?_
                               with_reducible refine (impl_whole.calls 1 t315 t316 _ A31.out).mono ?_
                               rintro e w42 ⟨rfl, hb⟩
                               have HS0_ := (hb.cell (World.block_lt_of_cell? _ _ (hHeld.1))).trans (hHeld.1)
                               have HS1_ := (hb.cell (World.block_lt_of_cell? _ _ (hHeld.2))).trans (hHeld.2)
                               refine ⟨_, rfl, ?_⟩
                               have n0_ := Aside0.mk (Kd.S_below (by (with_reducible repeat (first | apply Kd.S_alloc | apply Kd.S_drewN | apply Kd.S_drew)); exact HO_6.out) hb)
                               have n1_ := Aside0.mk (Kd.R_below (by (with_reducible repeat (first | apply Kd.R_alloc | apply Kd.R_drewN | apply Kd.R_drew)); exact HO_8.out) hb)
                               have n2_ := Aside0.mk (blk_below (g := gb295) (o := .cells #[.int .i64 a0_0, .slice (some ad309) l0_1.length c0_1] 29 (0, 0)) (by (with_reducible repeat (first | refine blk_drewN ?_ _ | refine blk_drew ?_ | refine blk_alloc ?_ _)); exact BK295.out) hb)
                               have n3_ := Aside0.mk (below_step (by repeat (first | (with_reducible first | exact HB.out | apply below_alloc | apply pw_below_drewN | apply below_drew1 | refine below_set ?_ GE295.out) | exact HB.out)) hb)
                               clear HO_6
                               clear HO_8
                               clear BK295
                               clear HB
                               have HO_6 := n0_
                               have HO_8 := n1_
                               have BK295 := n2_
                               have HB := n3_
                               clear n0_ n1_ n2_ n3_
                               (try clear hb)
                               (try clear hb2)
                               (try clear hk)
                               (try clear hi)
                               refine hK.out _ _ ⟨HS0_, HS1_⟩ (fun hHeld => ?_)
                               clear hK K
                               refine norm_ (a' := ?_) ?_ ?_
                               rotate_left
                               · show Act.put _ (some 63) _ = _
                                 simp only [Act.put, List.setIfInBounds_toArray, List.set_cons_zero, List.set_cons_succ, i64_w, i32_w]
                                 rfl
                               refine one_ (i := 7) (N := some 64) #[true, true, true, true, true, true, true, true, false, false] rfl rfl (one_of HT_.out (by kernel_rfl)) (by decide) (fun K hK => ?_)
                               refine goes_ Try.func57 (by kernel_rfl) rfl #[.agg #[.int .i64 ((rd_T67 y313 x37_3).f0), .int .i64 ((rd_T67 y313 x37_3).f1)], .agg #[.int .i64 t315, .int .i64 t316]] (by rfl) rfl rfl (by (try simp only [List.map_toArray, List.map_cons, List.map_nil]); first | done | rfl | (simp only [List.length_drop, List.length_take]; rfl)) ?_
                               with_reducible refine (impl_frac_minus.calls k3 ((rd_T67 y313 x37_3).f0) ((rd_T67 y313 x37_3).f1) t315 t316 t317 t318 _ A32.out).mono ?_
                               rintro e w43 ⟨rfl, hb⟩
                               have HS0_ := (hb.cell (World.block_lt_of_cell? _ _ (hHeld.1))).trans (hHeld.1)
                               have HS1_ := (hb.cell (World.block_lt_of_cell? _ _ (hHeld.2))).trans (hHeld.2)
                               refine ⟨_, rfl, ?_⟩
                               have n0_ := Aside0.mk (Kd.S_below (by (with_reducible repeat (first | apply Kd.S_alloc | apply Kd.S_drewN | apply Kd.S_drew)); exact HO_6.out) hb)
                               have n1_ := Aside0.mk (Kd.R_below (by (with_reducible repeat (first | apply Kd.R_alloc | apply Kd.R_drewN | apply Kd.R_drew)); exact HO_8.out) hb)
                               have n2_ := Aside0.mk (blk_below (g := gb295) (o := .cells #[.int .i64 a0_0, .slice (some ad309) l0_1.length c0_1] 29 (0, 0)) (by (with_reducible repeat (first | refine blk_drewN ?_ _ | refine blk_drew ?_ | refine blk_alloc ?_ _)); exact BK295.out) hb)
                               have n3_ := Aside0.mk (below_step (by repeat (first | (with_reducible first | exact HB.out | apply below_alloc | apply pw_below_drewN | apply below_drew1 | refine below_set ?_ GE295.out) | exact HB.out)) hb)
                               clear HO_6
                               clear HO_8
                               clear BK295
                               clear HB
                               have HO_6 := n0_
                               have HO_8 := n1_
                               have BK295 := n2_
                               have HB := n3_
                               clear n0_ n1_ n2_ n3_
                               (try clear hb)
                               (try clear hb2)
                               (try clear hk)
                               (try clear hi)
                               have p33 : 0 ≤ (x37_3 : Int) := dT_
                               have q33 : (x37_3 : Int) < ((x8_3.length : Int) : Int) := dT_
                               obtain ⟨ce33, hcl33, hM33, hcc33, hfr33⟩ := Kd.R_elem HO_8.out z67 (x37_3 : Int) p33 q33
                               obtain rfl := k67_openM hM33
                               have hx33_0 : World.cell? _ ⟨go29, (x37_3 : Int).toNat * 2, none⟩ = some (.int .i64 ((rd_T67 y313 x37_3).f0)) := hcc33 0 _ rfl
                               have hx33_1 : World.cell? _ ⟨go29, (x37_3 : Int).toNat * 2 + 1, none⟩ = some (.int .i64 ((rd_T67 y313 x37_3).f1)) := hcc33 1 _ rfl
                               have hf33_0 : World.frozen? _ ⟨go29, (x37_3 : Int).toNat * 2, none⟩ = false := hfr33 0
                               have hf33_1 : World.frozen? _ ⟨go29, (x37_3 : Int).toNat * 2 + 1, none⟩ = false := hfr33 1
                               (try clear hcl33 hcc33 hfr33 ); (try clear hM33)
                               replace p33 := eq_true p33
                               replace q33 := eq_true q33
                               obtain ⟨ce44, hcl44, hM44, hcc44, hfr44⟩ := Kd.R_elem HO_8.out z67 (x37_3 : Int) (dT_) (by have h_ : (x37_3 : Int) < ((x8_3.length : Int) : Int) := dT_; first | exact h_ | (have e_ := (Kd.R_reads' HO_8.out).1; omega) | simpa using h_)
                               obtain rfl := k67_openM hM44
                               have HP44 := (Kd.R_seg HO_8.out (x37_3 : Int) (dT_) (by have h_ : (x37_3 : Int) < ((x8_3.length : Int) : Int) := dT_; first | exact h_ | (have e_ := (Kd.R_reads' HO_8.out).1; omega) | simpa using h_) (seg := [.int .i64 t317, .int .i64 t318]) (j := 0) hcl44 hcc44 (show 2 ≤ 2 from by decide) (x' := (⟨t317, t318⟩ : S67)) (k67_mkM _ _ _ (⟨t317, t318⟩ : S67) ) (fun _ hk => hk)).1
                               rw [← Ny319.out] at HP44
                               have HQ44 := Aside0.mk HP44
                               (try clear hcl44 hcc44 hfr44 HP44); (try clear hM44)
                               refine hK.out _ _ ⟨HS0_, HS1_⟩ (fun hHeld => ?_)
                               clear hK K
                               refine norm_ (a' := ?_) ?_ ?_
                               rotate_left
                               · show Act.put _ (some 64) _ = _
                                 simp only [Act.put, List.setIfInBounds_toArray, List.set_cons_zero, List.set_cons_succ, i64_w, i32_w]
                                 rfl
                               refine pure_ (i := 8) (N := some 65) (v := ?_) (a' := ?_) #[true, true, true, true, true, true, true, true, true, false] rfl rfl (any_of HT_.out (by kernel_rfl)) (fun _ _ _ h => h) (Or.inl ⟨by rfl, ?_⟩) ?_ ?_
                               rotate_left
                               · intro w'
                                 go_simp
                                 with_reducible rfl
                               rotate_left
                               · simp only [Act.put, List.setIfInBounds_toArray, List.set_cons_zero, List.set_cons_succ, i64_w, i32_w]
                                 rfl
                               refine last_ (i := 9) (N := none) #[true, true, true, true, true, true, true, true, true, true] rfl rfl (one_of HT_.out (by kernel_rfl)) (by decide) (fun K hK => ?_)
                               refine skip_ (w1 := ?_) (by rfl) rfl ?_ ?_
                               rotate_left
                               · go_simp
                                 rfl
                               refine hK.out _ _ ?_
                               clear hK K
                               refine done_ (done_of HT_.out (by kernel_rfl)) ?_
                               try go_wp2_with (first | ((with_reducible refine gate_callee (f := 58) rfl ?_); refine goesL_ (some 72) rfl rfl Try.func58 (by kernel_rfl) rfl #[.int .i64 1] rfl (by (try simp only [List.map_toArray, List.map_cons, List.map_nil]); first | done | rfl | (simp only [List.length_drop, List.length_take]; rfl)) ?_; (with_reducible refine (impl_whole.calls 1 t320 t321 _ A35.out).mono ?_); rintro e w45 ⟨rfl, hb⟩; refine ⟨_, rfl, ?_⟩; have n0_ := Aside0.mk (Kd.S_below (by (with_reducible repeat (first | apply Kd.S_alloc | apply Kd.S_drewN | apply Kd.S_drew)); exact (Kd.S_mono (Kd.S_far (p := ⟨go29, (x37_3 : Int).toNat * 2 + 1, none⟩) (Kd.S_far (p := ⟨go29, (x37_3 : Int).toNat * 2, none⟩) (Kd.S_mono HO_6.out (fun k_ hk => (⟨hk, fun e_ => hk (by rw [e_]; rfl)⟩ : _ ∧ k_ ≠ go29))) (fun _ hk => hk.2) (.int .i64 t317)) (fun _ hk => hk.2) (.int .i64 t318)) (fun _ h_ => h_.1))) hb); have n1_ := Aside0.mk (Kd.R_below (by (with_reducible repeat (first | apply Kd.R_alloc | apply Kd.R_drewN | apply Kd.R_drew)); exact HQ44.out) hb); have n2_ := Aside0.mk (blk_below (g := gb295) (o := .cells #[.int .i64 a0_0, .slice (some ad309) l0_1.length c0_1] 29 (0, 0)) (by (with_reducible repeat (first | refine blk_drewN ?_ _ | refine blk_drew ?_ | refine blk_alloc ?_ _)); refine blk_far ?_ (by have h_ := Kd.R_ne HO_8.out BK295.out (by decide); intro e_; exact h_ (by rw [e_]; rfl)) _; (with_reducible repeat (first | refine blk_drewN ?_ _ | refine blk_drew ?_ | refine blk_alloc ?_ _)); refine blk_far ?_ (by have h_ := Kd.R_ne HO_8.out BK295.out (by decide); intro e_; exact h_ (by rw [e_]; rfl)) _; (with_reducible repeat (first | refine blk_drewN ?_ _ | refine blk_drew ?_ | refine blk_alloc ?_ _)); exact BK295.out) hb); have n3_ := Aside0.mk (below_step (by repeat (first | (with_reducible first | exact HB.out | apply below_alloc | apply pw_below_drewN | apply below_drew1 | refine below_set ?_ GB29.out | refine below_set ?_ GB29.out | refine below_set ?_ GE295.out) | exact HB.out)) hb); clear HO_6; clear HO_8; clear BK295; clear HB; have HO_6 := n0_; have HO_8 := n1_; have BK295 := n2_; have HB := n3_; clear n0_ n1_ n2_ n3_; (try clear hb); (try clear hb2); (try clear hk); (try clear hi); have p36 : 0 ≤ (x37_3 : Int) := dT_; have q36 : (x37_3 : Int) < ((x8_3.length : Int) : Int) := dT_; obtain ⟨ce36, hcl36, hM36, hcc36, hfr36⟩ := Kd.R_elem HO_8.out z67 (x37_3 : Int) p36 q36; obtain rfl := k67_openM hM36; have hx36_0 : w45.cell? ⟨go29, (x37_3 : Int).toNat * 2, none⟩ = some (.int .i64 ((rd_T67 y319 x37_3).f0)) := hcc36 0 _ rfl; have hx36_1 : w45.cell? ⟨go29, (x37_3 : Int).toNat * 2 + 1, none⟩ = some (.int .i64 ((rd_T67 y319 x37_3).f1)) := hcc36 1 _ rfl; have hf36_0 : w45.frozen? ⟨go29, (x37_3 : Int).toNat * 2, none⟩ = false := hfr36 0; have hf36_1 : w45.frozen? ⟨go29, (x37_3 : Int).toNat * 2 + 1, none⟩ = false := hfr36 1; (try clear hcl36 hcc36 hfr36 ); (try clear hM36); replace p36 := eq_true p36; replace q36 := eq_true q36; have HX46 := Aside0.mk (show Kd.R k67 67 w45 w.heap.size (fun _ => True) (.slice (some ⟨go29, 0, none⟩) x8_3.length co29) y319 from (by (with_reducible repeat (first | apply Kd.R_alloc | apply Kd.R_drewN | apply Kd.R_drew)); exact HO_8.out)); obtain ⟨ce46, hcl46, hM46, hcc46, hfr46⟩ := Kd.R_elem HX46.out z67 (x37_3 : Int) (dT_) (by have h_ : (x37_3 : Int) < ((x8_3.length : Int) : Int) := dT_; first | exact h_ | (have e_ := (Kd.R_reads' HO_8.out).1; omega) | simpa using h_); obtain rfl := k67_openM hM46; have HP46 := Kd.R_seg HX46.out (x37_3 : Int) (dT_) (by have h_ : (x37_3 : Int) < ((x8_3.length : Int) : Int) := dT_; first | exact h_ | (have e_ := (Kd.R_reads' HO_8.out).1; omega) | simpa using h_) (seg := [.int .i64 t320, .int .i64 t321]) (j := 0) hcl46 hcc46 (show 2 ≤ 2 from by decide) (x' := (⟨t320, t321⟩ : S67)) (k67_mkM _ _ _ (⟨t320, t321⟩ : S67) ) (fun _ hk => hk); have hx46_0 := hcc46 0 _ rfl; (try simp only [show (k67).sz = 2 from rfl, Nat.mul_one, Nat.add_zero] at hx46_0); have hf46_0 := hfr46 0; (try simp only [show (k67).sz = 2 from rfl, Nat.mul_one, Nat.add_zero] at hf46_0); have hx46_1 := hcc46 1 _ rfl; (try simp only [show (k67).sz = 2 from rfl, Nat.mul_one, Nat.add_zero] at hx46_1); have hf46_1 := hfr46 1; (try simp only [show (k67).sz = 2 from rfl, Nat.mul_one, Nat.add_zero] at hf46_1); (try clear hcl46 hcc46 hfr46 ); (try clear hM46)) | ((with_reducible refine gate_store (t := 67) (p := 73) rfl ?_); refine store_event (t := 67) (p := 73) (v := ?vo_w47) (w1 := ((w45.setCell ⟨go29, (x37_3 : Int).toNat * 2, none⟩ (.int .i64 t320)).setCell ⟨go29, (x37_3 : Int).toNat * 2 + 1, none⟩ (.int .i64 t321))) ?hg ?ho ?hn ?hr ?_; (case ho => rfl); (case hg => rfl); (case hn => rfl); (case hr => first | (go_simp; done) | (go_simp; rfl)); intro w47 hw; have hg : w45.grownBy w47 (some go29) := (by rw [hw]; exact HP46.2); have hp_ : Kd.R k67 67 w47 w.heap.size (fun _ => True) (.slice (some ⟨go29, 0, none⟩) x8_3.length co29) y322 := (by rw [hw, Ny322.out]; exact HP46.1); clear HP46; have n0_ := Aside0.mk (Kd.S_after (v := (.slice (some ⟨go29, 0, none⟩) x8_3.length co29)) (v1 := (.slice (some ⟨go29, 0, none⟩) x8_3.length co29)) (ok := (fun _ => True)) (by (with_reducible repeat (first | apply Kd.S_alloc | apply Kd.S_drewN | apply Kd.S_drew)); exact Kd.S_mono HO_6.out (fun _ hk => ⟨trivial, hk⟩)) hg (.inl rfl)); have n1_ := Aside0.mk (hp_); have n2_ := Aside0.mk (blk_grown (g := gb295) (o := .cells #[.int .i64 a0_0, .slice (some ad309) l0_1.length c0_1] 29 (0, 0)) (by (with_reducible repeat (first | refine blk_drewN ?_ _ | refine blk_drew ?_ | refine blk_alloc ?_ _)); exact BK295.out) hg (Kd.R_ne HO_8.out BK295.out (by decide))); have n3_ := Aside0.mk ((by rw [hw]; exact below_set (below_set (HB.out) GB29.out) GB29.out : Below w.heap.size w w47)); clear HO_6; clear HO_8; clear BK295; clear HB; have HO_6 := n0_; have HO_8 := n1_; have BK295 := n2_; have HB := n3_; clear n0_ n1_ n2_ n3_; clear hg hw hp_))
                               (first | go_roundg k3 | (try subst hji17; go_roundg k3))
                               case measure => have := HJ1.out; have := HK2.out; have := HK3.out; omega
                               case rel => exact ⟨(y322), (wrap64 (x37_3 + 1)), (by first | rfl | (simp; done) | (simp [*]; done)), H', ⟨by have := HJ1.out; have := HK2.out; have := HK3.out; omega⟩, ⟨by (with_reducible repeat (first | apply Kd.S_alloc | apply Kd.S_drewN | apply Kd.S_drew)); exact Kd.S_mono HO_6.out (fun _ hk => hk.2)⟩, ⟨by (with_reducible repeat (first | apply Kd.R_alloc | apply Kd.R_drewN | apply Kd.R_drew)); exact HO_8.out⟩, ⟨by (with_reducible repeat (first | refine blk_drewN ?_ _ | refine blk_drew ?_ | refine blk_alloc ?_ _)); exact BK295.out⟩, ⟨by repeat (first | (with_reducible first | exact HB.out | apply below_alloc | apply pw_below_drewN | apply below_drew1 | refine below_set ?_ GE295.out) | exact HB.out)⟩⟩
                             · rw [if_neg c34] at H
                               have c34b0 : (x30_2 == (wrap64 ((l0_1.length : Int) - 1))) = false := beq_eq_false_iff_ne.mpr c34
                               have c34b1 : (x30_2 != (wrap64 ((l0_1.length : Int) - 1))) = true := bne_iff_ne.mpr c34
                               have H' := Aside0.mk H
                               clear H
                               try go_wp2
                               have n0_ := Aside0.mk (Kd.S_drew HO_6.out)
                               have n1_ := Aside0.mk (Kd.R_drew HO_8.out)
                               have n2_ := Aside0.mk (blk_drew BK295.out)
                               have n3_ := Aside0.mk (below_drew1 HB.out)
                               clear HO_6
                               clear HO_8
                               clear BK295
                               clear HB
                               have HO_6 := n0_
                               have HO_8 := n1_
                               have BK295 := n2_
                               have HB := n3_
                               clear n0_ n1_ n2_ n3_
                               have p309 : 0 ≤ (x37_3 : Int) := dT_
                               have q309 : x37_3 < (l0_1.length : Int) := dT_
                               obtain ⟨ad309, A309_0, c309_0, e309, hx309_0, hl309_0, hi309_0⟩ := at_L1 HR0_1.out x37_3 p309 q309
                               have hw309_0 := hx309_0
                               cases e309
                               replace hx309_0 := (HB.out.cell (World.block_lt_of_cell? w _ hx309_0)).trans hx309_0
                               have HR309_0 := Aside0.mk hi309_0
                               have HC309_0 := Aside0.mk hl309_0
                               clear hi309_0 hl309_0
                               replace p309 := eq_true p309
                               replace q309 := eq_true q309
                               have p310 : 0 ≤ (x30_2 : Int) := dT_
                               have q310 : x30_2 < ((rd_L1 l0_1 x37_3).length : Int) := dT_
                               obtain ⟨ad310, e310, hx310_0⟩ := Kd.at_int HR309_0.out x30_2 p310 q310
                               have hw310_0 := hx310_0
                               cases e310
                               replace hx310_0 := (HB.out.cell (World.block_lt_of_cell? w _ hx310_0)).trans hx310_0
                               replace p310 := eq_true p310
                               replace q310 := eq_true q310
                               refine start_ (n := 15) (S := fun w' => w'.cell? ⟨gb295, 0, none⟩ = some (.int .i64 a0_0) ∧ w'.cell? ⟨gb295, 1, none⟩ = some (.slice (some ad309) l0_1.length c0_1) ∧ w'.cell? (ad309.add (x37_3).toNat) = some (.slice (some ad310) (rd_L1 l0_1 x37_3).length c309_0) ∧ w'.cell? (ad310.add (x30_2).toNat) = some (.int .i64 (rd (rd_L1 l0_1 x37_3) x30_2))) (ds := [14]) #[false, false, false, false, false, false, false, false, false, false, false, false, false, false, false] (by kernel_rfl) rfl rfl ⟨(blk_cell BK295.out 0).trans rfl, (blk_cell BK295.out 1).trans rfl, ((HB.out.cell (World.block_lt_of_cell? w _ hw309_0)).trans hw309_0), ((HB.out.cell (World.block_lt_of_cell? w _ hw310_0)).trans hw310_0)⟩ (fun hHeld => ?_); refine with_tabW impl_SharesOfStates.tab12 impl_SharesOfStates.bits12 (fun HT_ HW_ => ?_)
                               generalize wr.drew = w48 at HO_6 HO_8 BK295 HB HR309_0 hx309_0 hx310_0 hHeld ⊢
                               refine pure_ (i := 0) (N := some 40) (v := ?_) (a' := ?_) #[true, false, false, false, false, false, false, false, false, false, false, false, false, false, false] rfl rfl (any_of HT_.out (by kernel_rfl)) (fun _ _ _ h => h) (Or.inl ⟨by rfl, ?_⟩) ?_ ?_
                               rotate_left
                               · intro w'
                                 go_simp
                                 with_reducible rfl
                               rotate_left
                               · simp only [Act.put, List.setIfInBounds_toArray, List.set_cons_zero, List.set_cons_succ, i64_w, i32_w]
                                 rfl
                               refine pure_ (i := 1) (N := some 41) (v := ?_) (a' := ?_) #[true, true, false, false, false, false, false, false, false, false, false, false, false, false, false] rfl rfl (any_of HT_.out (by kernel_rfl)) (fun _ _ _ h => h) (Or.inl ⟨by rfl, ?_⟩) ?_ ?_
                               rotate_left
                               · intro w'
                                 go_simp
                                 with_reducible rfl
                               rotate_left
                               · simp only [Act.put, List.setIfInBounds_toArray, List.set_cons_zero, List.set_cons_succ, i64_w, i32_w]
                                 rfl
                               refine pure_ (i := 2) (N := some 42) (v := ?_) (a' := ?_) #[true, true, true, false, false, false, false, false, false, false, false, false, false, false, false] rfl rfl (any_of HT_.out (by kernel_rfl)) (fun _ _ _ h => h) (Or.inl ⟨by rfl, ?_⟩) ?_ ?_
                               rotate_left
                               · intro w'
                                 go_simp
                                 with_reducible rfl
                               rotate_left
                               · simp only [Act.put, List.setIfInBounds_toArray, List.set_cons_zero, List.set_cons_succ, i64_w, i32_w]
                                 rfl
                               refine pure_ (i := 4) (N := some 44) (v := ?_) (a' := ?_) #[true, true, true, false, true, false, false, false, false, false, false, false, false, false, false] rfl rfl (any_of HT_.out (by kernel_rfl)) (fun _ _ _ h => h) (Or.inl ⟨by rfl, ?_⟩) ?_ ?_
                               rotate_left
                               · intro w'
                                 go_simp
                                 with_reducible rfl
                               rotate_left
                               · simp only [Act.put, List.setIfInBounds_toArray, List.set_cons_zero, List.set_cons_succ, i64_w, i32_w]
                                 rfl
                               refine pure_ (i := 7) (N := some 47) (v := ?_) (a' := ?_) #[true, true, true, false, true, false, false, true, false, false, false, false, false, false, false] rfl rfl (any_of HT_.out (by kernel_rfl)) (fun _ _ _ h => h) (Or.inl ⟨by rfl, ?_⟩) ?_ ?_
                               rotate_left
                               · intro w'
                                 go_simp
                                 with_reducible rfl
                               rotate_left
                               · simp only [Act.put, List.setIfInBounds_toArray, List.set_cons_zero, List.set_cons_succ, i64_w, i32_w]
                                 rfl
                               refine pure_ (i := 10) (N := some 50) (v := ?_) (a' := ?_) #[true, true, true, false, true, false, false, true, false, false, true, false, false, false, false] rfl rfl (any_of HT_.out (by kernel_rfl)) (fun _ _ _ h => h) (Or.inl ⟨by rfl, ?_⟩) ?_ ?_
                               rotate_left
                               · intro w'
                                 go_simp
                                 with_reducible rfl
                               rotate_left
                               · simp only [Act.put, List.setIfInBounds_toArray, List.set_cons_zero, List.set_cons_succ, i64_w, i32_w]
                                 rfl
                               refine take_ (i := 3) (N := some 43) (v := ?_) (a' := ?_) #[true, true, true, true, true, false, false, true, false, false, true, false, false, false, false] rfl rfl (take_ofW HT_.out HW_.out (by kernel_rfl)) (fun _ _ _ h => h) (Or.inl ⟨by rfl, ?_⟩) hHeld ?_ ?_
                               rotate_left
                               · rintro w' ⟨s0, s1, s2, s3⟩
                                 go_simp
                                 with_reducible rfl
                               rotate_left
                               · simp only [Act.put, List.setIfInBounds_toArray, List.set_cons_zero, List.set_cons_succ, i64_w, i32_w]
                                 rfl
                               refine pure_ (i := 5) (N := some 45) (v := ?_) (a' := ?_) #[true, true, true, true, true, true, false, true, false, false, true, false, false, false, false] rfl rfl (any_of HT_.out (by kernel_rfl)) (fun _ _ _ h => h) (Or.inl ⟨by rfl, ?_⟩) ?_ ?_
                               rotate_left
                               · intro w'
                                 go_simp
                                 with_reducible rfl
                               rotate_left
                               · simp only [Act.put, List.setIfInBounds_toArray, List.set_cons_zero, List.set_cons_succ, i64_w, i32_w]
                                 rfl
                               refine take_ (i := 6) (N := some 46) (v := ?_) (a' := ?_) #[true, true, true, true, true, true, true, true, false, false, true, false, false, false, false] rfl rfl (take_ofW HT_.out HW_.out (by kernel_rfl)) (fun _ _ _ h => h) (Or.inl ⟨by rfl, ?_⟩) hHeld ?_ ?_
                               rotate_left
                               · rintro w' ⟨s0, s1, s2, s3⟩
                                 go_simp
                                 with_reducible rfl
                               rotate_left
                               · simp only [Act.put, List.setIfInBounds_toArray, List.set_cons_zero, List.set_cons_succ, i64_w, i32_w]
                                 rfl
                               refine pure_ (i := 8) (N := some 48) (v := ?_) (a' := ?_) #[true, true, true, true, true, true, true, true, true, false, true, false, false, false, false] rfl rfl (any_of HT_.out (by kernel_rfl)) (fun _ _ _ h => h) (Or.inl ⟨by rfl, ?_⟩) ?_ ?_
                               rotate_left
                               · intro w'
                                 go_simp
                                 with_reducible rfl
                               rotate_left
                               · simp only [Act.put, List.setIfInBounds_toArray, List.set_cons_zero, List.set_cons_succ, i64_w, i32_w]
                                 rfl
                               refine take_ (i := 9) (N := some 49) (v := ?_) (a' := ?_) #[true, true, true, true, true, true, true, true, true, true, true, false, false, false, false] rfl rfl (take_ofW HT_.out HW_.out (by kernel_rfl)) (fun _ _ _ h => h) (Or.inl ⟨by rfl, ?_⟩) hHeld ?_ ?_
                               rotate_left
                               · rintro w' ⟨s0, s1, s2, s3⟩
                                 go_simp
                                 with_reducible rfl
                               rotate_left
                               · simp only [Act.put, List.setIfInBounds_toArray, List.set_cons_zero, List.set_cons_succ, i64_w, i32_w]
                                 rfl
                               refine take_ (i := 11) (N := some 51) (v := ?_) (a' := ?_) #[true, true, true, true, true, true, true, true, true, true, true, true, false, false, false] rfl rfl (take_ofW HT_.out HW_.out (by kernel_rfl)) (fun _ _ _ h => h) (Or.inl ⟨by rfl, ?_⟩) hHeld ?_ ?_
                               rotate_left
                               · rintro w' ⟨s0, s1, s2, s3⟩
                                 go_simp
                                 with_reducible rfl
                               rotate_left
                               · simp only [Act.put, List.setIfInBounds_toArray, List.set_cons_zero, List.set_cons_succ, i64_w, i32_w]
                                 rfl
                               refine one_ (i := 12) (N := some 52) #[true, true, true, true, true, true, true, true, true, true, true, true, true, false, false] rfl rfl (one_of HT_.out (by kernel_rfl)) (by decide) (fun K hK => ?_)
                               refine goes_ Try.func56 (by kernel_rfl) rfl #[.int .i64 (rd (rd_L1 l0_1 x37_3) x30_2), .int .i64 a0_0] (by rfl) rfl rfl (by (try simp only [List.map_toArray, List.map_cons, List.map_nil]); first | done | rfl | (simp only [List.length_drop, List.length_take]; rfl)) ?_
                               with_reducible refine (impl_lowest.calls k3 (rd (rd_L1 l0_1 x37_3) x30_2) a0_0 t311 t312 _ A27.out).mono ?_
                               rintro e w49 ⟨rfl, hb⟩
                               refine ⟨_, rfl, ?_⟩
                               have n0_ := Aside0.mk (Kd.S_below (by (with_reducible repeat (first | apply Kd.S_alloc | apply Kd.S_drewN | apply Kd.S_drew)); exact HO_6.out) hb)
                               have n1_ := Aside0.mk (Kd.R_below (by (with_reducible repeat (first | apply Kd.R_alloc | apply Kd.R_drewN | apply Kd.R_drew)); exact HO_8.out) hb)
                               have n2_ := Aside0.mk (blk_below (g := gb295) (o := .cells #[.int .i64 a0_0, .slice (some ad309) l0_1.length c0_1] 29 (0, 0)) (by (with_reducible repeat (first | refine blk_drewN ?_ _ | refine blk_drew ?_ | refine blk_alloc ?_ _)); exact BK295.out) hb)
                               have n3_ := Aside0.mk (below_step (by repeat (first | (with_reducible first | exact HB.out | apply below_alloc | apply pw_below_drewN | apply below_drew1 | refine below_set ?_ GE295.out) | exact HB.out)) hb)
                               clear HO_6
                               clear HO_8
                               clear BK295
                               clear HB
                               have HO_6 := n0_
                               have HO_8 := n1_
                               have BK295 := n2_
                               have HB := n3_
                               clear n0_ n1_ n2_ n3_
                               (try clear hb)
                               (try clear hb2)
                               (try clear hk)
                               (try clear hi)
                               have p29 : 0 ≤ (x37_3 : Int) := dT_
                               have q29 : (x37_3 : Int) < ((x8_3.length : Int) : Int) := dT_
                               obtain ⟨go29, co29, eo29, gb29, gl29, cl29, HG29⟩ := Kd.R_form HO_8.out (by omega)
                               (first | cases eo29 | (injection eo29 with ea_ en_ ec_; (first | subst ea_ | (injection ea_ with ea_; subst ea_)); subst ec_; clear en_))
                               have GB29 := Aside0.mk gb29
                               have GG29 := Aside0.mk HG29
                               clear gb29 gl29 HG29
                               obtain ⟨ce29, hcl29, hM29, hcc29, hfr29⟩ := Kd.R_elem HO_8.out z67 (x37_3 : Int) p29 q29
                               obtain rfl := k67_openM hM29
                               have hx29_0 : World.cell? _ ⟨go29, (x37_3 : Int).toNat * 2, none⟩ = some (.int .i64 ((rd_T67 x8_3 x37_3).f0)) := hcc29 0 _ rfl
                               have hx29_1 : World.cell? _ ⟨go29, (x37_3 : Int).toNat * 2 + 1, none⟩ = some (.int .i64 ((rd_T67 x8_3 x37_3).f1)) := hcc29 1 _ rfl
                               have hf29_0 : World.frozen? _ ⟨go29, (x37_3 : Int).toNat * 2, none⟩ = false := hfr29 0
                               have hf29_1 : World.frozen? _ ⟨go29, (x37_3 : Int).toNat * 2 + 1, none⟩ = false := hfr29 1
                               (try clear hcl29 hcc29 hfr29 ); (try clear hM29)
                               replace p29 := eq_true p29
                               replace q29 := eq_true q29
                               obtain ⟨ce50, hcl50, hM50, hcc50, hfr50⟩ := Kd.R_elem HO_8.out z67 (x37_3 : Int) (dT_) (by have h_ : (x37_3 : Int) < ((x8_3.length : Int) : Int) := dT_; first | exact h_ | (have e_ := (Kd.R_reads' HO_8.out).1; omega) | simpa using h_)
                               obtain rfl := k67_openM hM50
                               have HP50 := (Kd.R_seg HO_8.out (x37_3 : Int) (dT_) (by have h_ : (x37_3 : Int) < ((x8_3.length : Int) : Int) := dT_; first | exact h_ | (have e_ := (Kd.R_reads' HO_8.out).1; omega) | simpa using h_) (seg := [.int .i64 t311, .int .i64 t312]) (j := 0) hcl50 hcc50 (show 2 ≤ 2 from by decide) (x' := (⟨t311, t312⟩ : S67)) (k67_mkM _ _ _ (⟨t311, t312⟩ : S67) ) (fun _ hk => hk)).1
                               rw [← Ny313.out] at HP50
                               have HQ50 := Aside0.mk HP50
                               (try clear hcl50 hcc50 hfr50 HP50); (try clear hM50)
                               refine hK.out _ _ ⟨(blk_cell BK295.out 0).trans rfl, (blk_cell BK295.out 1).trans rfl, ((HB.out.cell (World.block_lt_of_cell? w _ hw309_0)).trans hw309_0), ((HB.out.cell (World.block_lt_of_cell? w _ hw310_0)).trans hw310_0)⟩ (fun hHeld => ?_)
                               clear hK K
                               refine norm_ (a' := ?_) ?_ ?_
                               rotate_left
                               · show Act.put _ (some 52) _ = _
                                 simp only [Act.put, List.setIfInBounds_toArray, List.set_cons_zero, List.set_cons_succ, i64_w, i32_w]
                                 rfl
                               refine pure_ (i := 13) (N := some 53) (v := ?_) (a' := ?_) #[true, true, true, true, true, true, true, true, true, true, true, true, true, true, false] rfl rfl (any_of HT_.out (by kernel_rfl)) (fun _ _ _ h => h) (Or.inl ⟨by rfl, ?_⟩) ?_ ?_
                               rotate_left
                               · intro w'
                                 go_simp
                                 with_reducible rfl
                               rotate_left
                               · simp only [Act.put, List.setIfInBounds_toArray, List.set_cons_zero, List.set_cons_succ, i64_w, i32_w]
                                 rfl
                               refine last_ (i := 14) (N := none) #[true, true, true, true, true, true, true, true, true, true, true, true, true, true, true] rfl rfl (one_of HT_.out (by kernel_rfl)) (by decide) (fun K hK => ?_)
                               refine skip_ (w1 := ?_) (by rfl) rfl ?_ ?_
                               rotate_left
                               · go_simp
                                 rfl
                               refine hK.out _ _ ?_
                               clear hK K
                               refine done_ (done_of HT_.out (by kernel_rfl)) ?_
                               try go_wp2
                               have n0_ : Aside0 (Kd.S (Kd.slice 67 k67) 65 ((w49.setCell ⟨go29, (x37_3 : Int).toNat * 2, none⟩ (.int .i64 t311)).setCell ⟨go29, (x37_3 : Int).toNat * 2 + 1, none⟩ (.int .i64 t312)) w.heap.size (fun k_ => some k_ ≠ (.slice (some ⟨go29, 0, none⟩) x8_3.length co29 : Value).ownBlock) u6 x6_2) := ⟨by (with_reducible repeat (first | apply Kd.S_alloc | apply Kd.S_drewN | apply Kd.S_drew)); exact Kd.S_mono (Kd.S_far (p := ⟨go29, (x37_3 : Int).toNat * 2 + 1, none⟩) (Kd.S_far (p := ⟨go29, (x37_3 : Int).toNat * 2, none⟩) (Kd.S_mono HO_6.out (fun k_ hk => (⟨hk, fun e_ => hk (by rw [e_]; rfl)⟩ : _ ∧ k_ ≠ go29))) (fun _ hk => hk.2) (.int .i64 t311)) (fun _ hk => hk.2) (.int .i64 t312)) (fun _ hk => hk.1)⟩
                               have n1_ : Aside0 (Kd.R k67 67 ((w49.setCell ⟨go29, (x37_3 : Int).toNat * 2, none⟩ (.int .i64 t311)).setCell ⟨go29, (x37_3 : Int).toNat * 2 + 1, none⟩ (.int .i64 t312)) w.heap.size (fun _ => True) (.slice (some ⟨go29, 0, none⟩) x8_3.length co29) y313) := ⟨by (with_reducible repeat (first | apply Kd.R_alloc | apply Kd.R_drewN | apply Kd.R_drew)); exact HQ50.out⟩
                               have n2_ : Aside0 (((w49.setCell ⟨go29, (x37_3 : Int).toNat * 2, none⟩ (.int .i64 t311)).setCell ⟨go29, (x37_3 : Int).toNat * 2 + 1, none⟩ (.int .i64 t312)).heap[gb295]? = some (.cells #[.int .i64 a0_0, .slice (some ad309) l0_1.length c0_1] 29 (0, 0))) := ⟨by (with_reducible repeat (first | refine blk_drewN ?_ _ | refine blk_drew ?_ | refine blk_alloc ?_ _)); refine blk_far ?_ (by have h_ := Kd.R_ne HO_8.out BK295.out (by decide); intro e_; exact h_ (by rw [e_]; rfl)) _; (with_reducible repeat (first | refine blk_drewN ?_ _ | refine blk_drew ?_ | refine blk_alloc ?_ _)); refine blk_far ?_ (by have h_ := Kd.R_ne HO_8.out BK295.out (by decide); intro e_; exact h_ (by rw [e_]; rfl)) _; (with_reducible repeat (first | refine blk_drewN ?_ _ | refine blk_drew ?_ | refine blk_alloc ?_ _)); exact BK295.out⟩
                               have n3_ : Aside0 (Below w.heap.size w ((w49.setCell ⟨go29, (x37_3 : Int).toNat * 2, none⟩ (.int .i64 t311)).setCell ⟨go29, (x37_3 : Int).toNat * 2 + 1, none⟩ (.int .i64 t312))) := ⟨by repeat (first | (with_reducible first | exact HB.out | apply below_alloc | apply pw_below_drewN | apply below_drew1 | refine below_set ?_ GB29.out | refine below_set ?_ GB29.out | refine below_set ?_ GE295.out) | exact HB.out)⟩
                               (try clear HO_6)
                               (try clear HO_8)
                               (try clear BK295)
                               (try clear HB)
                               generalize ((w49.setCell ⟨go29, (x37_3 : Int).toNat * 2, none⟩ (.int .i64 t311)).setCell ⟨go29, (x37_3 : Int).toNat * 2 + 1, none⟩ (.int .i64 t312)) = w51 at n0_ n1_ n2_ n3_ ⊢
                               have HO_6 := n0_
                               have HO_8 := n1_
                               have BK295 := n2_
                               have HB := n3_
                               clear n0_ n1_ n2_ n3_
                               have n0_ := Aside0.mk (Kd.S_drew HO_6.out)
                               have n1_ := Aside0.mk (Kd.R_drew HO_8.out)
                               have n2_ := Aside0.mk (blk_drew BK295.out)
                               have n3_ := Aside0.mk (below_drew1 HB.out)
                               clear HO_6
                               clear HO_8
                               clear BK295
                               clear HB
                               have HO_6 := n0_
                               have HO_8 := n1_
                               have BK295 := n2_
                               have HB := n3_
                               clear n0_ n1_ n2_ n3_
                               have p314 : 0 ≤ (x37_3 : Int) := dT_
                               have q314 : x37_3 < (y313.length : Int) := (by have h_ : (x37_3 : Int) < ((x8_3.length : Int) : Int) := dT_; first | (have e_ := (Kd.R_reads' HO_8.out).1; omega) | simpa only [Ny313.out, List.length_set] using h_)
                               have ql314 : ((x37_3 : Int) < ((x8_3.length : Int) : Int)) = True := eq_true (dT_)
                               obtain ⟨ad314, e314, hx314_0, hx314_1⟩ := at_T67 (Kd.R_reads' HO_8.out).2.2 x37_3 p314 q314
                               obtain rfl : (⟨go29, 0, none⟩ : Addr) = ad314 := (by injection e314)
                               (first | simp only [add_plain] at hx314_0 | simp only [add_at] at hx314_0 | simp only [Addr.add, Nat.zero_add] at hx314_0 | skip)
                               (first | simp only [add_plain] at hx314_1 | simp only [add_at] at hx314_1 | simp only [Addr.add, Nat.zero_add] at hx314_1 | skip)
                               replace p314 := eq_true p314
                               replace q314 := eq_true q314
                               refine start_ (n := 10) (S := fun w' => w'.cell? ⟨go29, (x37_3).toNat * 2, none⟩ = some (.int .i64 ((rd_T67 y313 x37_3).f0)) ∧ w'.cell? ⟨go29, (x37_3).toNat * 2 + 1, none⟩ = some (.int .i64 ((rd_T67 y313 x37_3).f1))) (ds := [9]) #[false, false, false, false, false, false, false, false, false, false] (by kernel_rfl) rfl rfl ⟨hx314_0, hx314_1⟩ (fun hHeld => ?_); refine with_tabW impl_SharesOfStates.tab14 impl_SharesOfStates.bits14 (fun HT_ HW_ => ?_)
                               generalize w51.drew = w52 at HO_6 HO_8 BK295 HB HQ50 hx314_0 hx314_1 hHeld ⊢
                               refine pure_ (i := 0) (N := some 57) (v := ?_) (a' := ?_) #[true, false, false, false, false, false, false, false, false, false] rfl rfl (any_of HT_.out (by kernel_rfl)) (fun _ _ _ h => h) (Or.inl ⟨by rfl, ?_⟩) ?_ ?_
                               rotate_left
                               · intro w'
                                 go_simp
                                 with_reducible rfl
                               rotate_left
                               · simp only [Act.put, List.setIfInBounds_toArray, List.set_cons_zero, List.set_cons_succ, i64_w, i32_w]
                                 rfl
                               refine pure_ (i := 1) (N := some 58) (v := ?_) (a' := ?_) #[true, true, false, false, false, false, false, false, false, false] rfl rfl (any_of HT_.out (by kernel_rfl)) (fun _ _ _ h => h) (Or.inl ⟨by rfl, ?_⟩) ?_ ?_
                               rotate_left
                               · intro w'
                                 go_simp
                                 with_reducible rfl
                               rotate_left
                               · simp only [Act.put, List.setIfInBounds_toArray, List.set_cons_zero, List.set_cons_succ, i64_w, i32_w]
                                 rfl
                               refine pure_ (i := 2) (N := some 59) (v := ?_) (a' := ?_) #[true, true, true, false, false, false, false, false, false, false] rfl rfl (any_of HT_.out (by kernel_rfl)) (fun _ _ _ h => h) (Or.inl ⟨by rfl, ?_⟩) ?_ ?_
                               rotate_left
                               · intro w'
                                 go_simp
                                 with_reducible rfl
                               rotate_left
                               · simp only [Act.put, List.setIfInBounds_toArray, List.set_cons_zero, List.set_cons_succ, i64_w, i32_w]
                                 rfl
                               refine pure_ (i := 3) (N := some 60) (v := ?_) (a' := ?_) #[true, true, true, true, false, false, false, false, false, false] rfl rfl (any_of HT_.out (by kernel_rfl)) (fun _ _ _ h => h) (Or.inl ⟨by rfl, ?_⟩) ?_ ?_
                               rotate_left
                               · intro w'
                                 go_simp
                                 with_reducible rfl
                               rotate_left
                               · simp only [Act.put, List.setIfInBounds_toArray, List.set_cons_zero, List.set_cons_succ, i64_w, i32_w]
                                 rfl
                               refine pure_ (i := 4) (N := some 61) (v := ?_) (a' := ?_) #[true, true, true, true, true, false, false, false, false, false] rfl rfl (any_of HT_.out (by kernel_rfl)) (fun _ _ _ h => h) (Or.inl ⟨by rfl, ?_⟩) ?_ ?_
                               rotate_left
                               · intro w'
                                 go_simp
                                 with_reducible rfl
                               rotate_left
                               · simp only [Act.put, List.setIfInBounds_toArray, List.set_cons_zero, List.set_cons_succ, i64_w, i32_w]
                                 rfl
                               refine take_ (i := 5) (N := some 62) (v := ?_) (a' := ?_) #[true, true, true, true, true, true, false, false, false, false] rfl rfl (take_ofW HT_.out HW_.out (by kernel_rfl)) (fun _ _ _ h => h) (Or.inl ⟨by rfl, ?_⟩) hHeld ?_ ?_
                               rotate_left
                               · rintro w' ⟨s0, s1⟩
                                 go_simp
                                 with_reducible rfl
                               rotate_left
                               · simp only [Act.put, List.setIfInBounds_toArray, List.set_cons_zero, List.set_cons_succ, i64_w, i32_w]
                                 rfl
                               refine one_ (i := 6) (N := some 63) #[true, true, true, true, true, true, true, false, false, false] rfl rfl (one_of HT_.out (by kernel_rfl)) (by decide) (fun K hK => ?_)
                               refine goes_ Try.func58 (by kernel_rfl) rfl #[.int .i64 1] (by rfl) rfl rfl (by (try simp only [List.map_toArray, List.map_cons, List.map_nil]); first | done | rfl | (simp only [List.length_drop, List.length_take]; rfl)) ?_
                               with_reducible refine (impl_whole.calls 1 t315 t316 _ A31.out).mono ?_
                               rintro e w53 ⟨rfl, hb⟩
                               have HS0_ := (hb.cell (World.block_lt_of_cell? _ _ (hHeld.1))).trans (hHeld.1)
                               have HS1_ := (hb.cell (World.block_lt_of_cell? _ _ (hHeld.2))).trans (hHeld.2)
                               refine ⟨_, rfl, ?_⟩
                               have n0_ := Aside0.mk (Kd.S_below (by (with_reducible repeat (first | apply Kd.S_alloc | apply Kd.S_drewN | apply Kd.S_drew)); exact HO_6.out) hb)
                               have n1_ := Aside0.mk (Kd.R_below (by (with_reducible repeat (first | apply Kd.R_alloc | apply Kd.R_drewN | apply Kd.R_drew)); exact HO_8.out) hb)
                               have n2_ := Aside0.mk (blk_below (g := gb295) (o := .cells #[.int .i64 a0_0, .slice (some ad309) l0_1.length c0_1] 29 (0, 0)) (by (with_reducible repeat (first | refine blk_drewN ?_ _ | refine blk_drew ?_ | refine blk_alloc ?_ _)); exact BK295.out) hb)
                               have n3_ := Aside0.mk (below_step (by repeat (first | (with_reducible first | exact HB.out | apply below_alloc | apply pw_below_drewN | apply below_drew1 | refine below_set ?_ GE295.out) | exact HB.out)) hb)
                               clear HO_6
                               clear HO_8
                               clear BK295
                               clear HB
                               have HO_6 := n0_
                               have HO_8 := n1_
                               have BK295 := n2_
                               have HB := n3_
                               clear n0_ n1_ n2_ n3_
                               (try clear hb)
                               (try clear hb2)
                               (try clear hk)
                               (try clear hi)
                               refine hK.out _ _ ⟨HS0_, HS1_⟩ (fun hHeld => ?_)
                               clear hK K
                               refine norm_ (a' := ?_) ?_ ?_
                               rotate_left
                               · show Act.put _ (some 63) _ = _
                                 simp only [Act.put, List.setIfInBounds_toArray, List.set_cons_zero, List.set_cons_succ, i64_w, i32_w]
                                 rfl
                               refine one_ (i := 7) (N := some 64) #[true, true, true, true, true, true, true, true, false, false] rfl rfl (one_of HT_.out (by kernel_rfl)) (by decide) (fun K hK => ?_)
                               refine goes_ Try.func57 (by kernel_rfl) rfl #[.agg #[.int .i64 ((rd_T67 y313 x37_3).f0), .int .i64 ((rd_T67 y313 x37_3).f1)], .agg #[.int .i64 t315, .int .i64 t316]] (by rfl) rfl rfl (by (try simp only [List.map_toArray, List.map_cons, List.map_nil]); first | done | rfl | (simp only [List.length_drop, List.length_take]; rfl)) ?_
                               with_reducible refine (impl_frac_minus.calls k3 ((rd_T67 y313 x37_3).f0) ((rd_T67 y313 x37_3).f1) t315 t316 t317 t318 _ A32.out).mono ?_
                               rintro e w54 ⟨rfl, hb⟩
                               have HS0_ := (hb.cell (World.block_lt_of_cell? _ _ (hHeld.1))).trans (hHeld.1)
                               have HS1_ := (hb.cell (World.block_lt_of_cell? _ _ (hHeld.2))).trans (hHeld.2)
                               refine ⟨_, rfl, ?_⟩
                               have n0_ := Aside0.mk (Kd.S_below (by (with_reducible repeat (first | apply Kd.S_alloc | apply Kd.S_drewN | apply Kd.S_drew)); exact HO_6.out) hb)
                               have n1_ := Aside0.mk (Kd.R_below (by (with_reducible repeat (first | apply Kd.R_alloc | apply Kd.R_drewN | apply Kd.R_drew)); exact HO_8.out) hb)
                               have n2_ := Aside0.mk (blk_below (g := gb295) (o := .cells #[.int .i64 a0_0, .slice (some ad309) l0_1.length c0_1] 29 (0, 0)) (by (with_reducible repeat (first | refine blk_drewN ?_ _ | refine blk_drew ?_ | refine blk_alloc ?_ _)); exact BK295.out) hb)
                               have n3_ := Aside0.mk (below_step (by repeat (first | (with_reducible first | exact HB.out | apply below_alloc | apply pw_below_drewN | apply below_drew1 | refine below_set ?_ GE295.out) | exact HB.out)) hb)
                               clear HO_6
                               clear HO_8
                               clear BK295
                               clear HB
                               have HO_6 := n0_
                               have HO_8 := n1_
                               have BK295 := n2_
                               have HB := n3_
                               clear n0_ n1_ n2_ n3_
                               (try clear hb)
                               (try clear hb2)
                               (try clear hk)
                               (try clear hi)
                               have p33 : 0 ≤ (x37_3 : Int) := dT_
                               have q33 : (x37_3 : Int) < ((x8_3.length : Int) : Int) := dT_
                               obtain ⟨ce33, hcl33, hM33, hcc33, hfr33⟩ := Kd.R_elem HO_8.out z67 (x37_3 : Int) p33 q33
                               obtain rfl := k67_openM hM33
                               have hx33_0 : World.cell? _ ⟨go29, (x37_3 : Int).toNat * 2, none⟩ = some (.int .i64 ((rd_T67 y313 x37_3).f0)) := hcc33 0 _ rfl
                               have hx33_1 : World.cell? _ ⟨go29, (x37_3 : Int).toNat * 2 + 1, none⟩ = some (.int .i64 ((rd_T67 y313 x37_3).f1)) := hcc33 1 _ rfl
                               have hf33_0 : World.frozen? _ ⟨go29, (x37_3 : Int).toNat * 2, none⟩ = false := hfr33 0
                               have hf33_1 : World.frozen? _ ⟨go29, (x37_3 : Int).toNat * 2 + 1, none⟩ = false := hfr33 1
                               (try clear hcl33 hcc33 hfr33 ); (try clear hM33)
                               replace p33 := eq_true p33
                               replace q33 := eq_true q33
                               obtain ⟨ce55, hcl55, hM55, hcc55, hfr55⟩ := Kd.R_elem HO_8.out z67 (x37_3 : Int) (dT_) (by have h_ : (x37_3 : Int) < ((x8_3.length : Int) : Int) := dT_; first | exact h_ | (have e_ := (Kd.R_reads' HO_8.out).1; omega) | simpa using h_)
                               obtain rfl := k67_openM hM55
                               have HP55 := (Kd.R_seg HO_8.out (x37_3 : Int) (dT_) (by have h_ : (x37_3 : Int) < ((x8_3.length : Int) : Int) := dT_; first | exact h_ | (have e_ := (Kd.R_reads' HO_8.out).1; omega) | simpa using h_) (seg := [.int .i64 t317, .int .i64 t318]) (j := 0) hcl55 hcc55 (show 2 ≤ 2 from by decide) (x' := (⟨t317, t318⟩ : S67)) (k67_mkM _ _ _ (⟨t317, t318⟩ : S67) ) (fun _ hk => hk)).1
                               rw [← Ny319.out] at HP55
                               have HQ55 := Aside0.mk HP55
                               (try clear hcl55 hcc55 hfr55 HP55); (try clear hM55)
                               refine hK.out _ _ ⟨HS0_, HS1_⟩ (fun hHeld => ?_)
                               clear hK K
                               refine norm_ (a' := ?_) ?_ ?_
                               rotate_left
                               · show Act.put _ (some 64) _ = _
                                 simp only [Act.put, List.setIfInBounds_toArray, List.set_cons_zero, List.set_cons_succ, i64_w, i32_w]
                                 rfl
                               refine pure_ (i := 8) (N := some 65) (v := ?_) (a' := ?_) #[true, true, true, true, true, true, true, true, true, false] rfl rfl (any_of HT_.out (by kernel_rfl)) (fun _ _ _ h => h) (Or.inl ⟨by rfl, ?_⟩) ?_ ?_
                               rotate_left
                               · intro w'
                                 go_simp
                                 with_reducible rfl
                               rotate_left
                               · simp only [Act.put, List.setIfInBounds_toArray, List.set_cons_zero, List.set_cons_succ, i64_w, i32_w]
                                 rfl
                               refine last_ (i := 9) (N := none) #[true, true, true, true, true, true, true, true, true, true] rfl rfl (one_of HT_.out (by kernel_rfl)) (by decide) (fun K hK => ?_)
                               refine skip_ (w1 := ?_) (by rfl) rfl ?_ ?_
                               rotate_left
                               · go_simp
                                 rfl
                               refine hK.out _ _ ?_
                               clear hK K
                               refine done_ (done_of HT_.out (by kernel_rfl)) ?_
                               try go_wp2
                               (first | go_roundg k3 | (try subst hji17; go_roundg k3))
                               case measure => have := HJ1.out; have := HK2.out; have := HK3.out; omega
                               case rel => exact ⟨(y319), (wrap64 (x37_3 + 1)), (by first | rfl | (simp; done) | (simp [*]; done)), H', ⟨by have := HJ1.out; have := HK2.out; have := HK3.out; omega⟩, ⟨by (with_reducible repeat (first | apply Kd.S_alloc | apply Kd.S_drewN | apply Kd.S_drew)); exact Kd.S_mono (Kd.S_far (p := ⟨go29, (x37_3 : Int).toNat * 2 + 1, none⟩) (Kd.S_far (p := ⟨go29, (x37_3 : Int).toNat * 2, none⟩) (Kd.S_mono HO_6.out (fun k_ hk => (⟨hk, fun e_ => hk (by rw [e_]; rfl)⟩ : _ ∧ k_ ≠ go29))) (fun _ hk => hk.2) (.int .i64 t317)) (fun _ hk => hk.2) (.int .i64 t318)) (fun _ hk => hk.1)⟩, ⟨by (with_reducible repeat (first | apply Kd.R_alloc | apply Kd.R_drewN | apply Kd.R_drew)); exact HQ55.out⟩, ⟨by (with_reducible repeat (first | refine blk_drewN ?_ _ | refine blk_drew ?_ | refine blk_alloc ?_ _)); refine blk_far ?_ (by have h_ := Kd.R_ne HO_8.out BK295.out (by decide); intro e_; exact h_ (by rw [e_]; rfl)) _; (with_reducible repeat (first | refine blk_drewN ?_ _ | refine blk_drew ?_ | refine blk_alloc ?_ _)); refine blk_far ?_ (by have h_ := Kd.R_ne HO_8.out BK295.out (by decide); intro e_; exact h_ (by rw [e_]; rfl)) _; (with_reducible repeat (first | refine blk_drewN ?_ _ | refine blk_drew ?_ | refine blk_alloc ?_ _)); exact BK295.out⟩, ⟨by repeat (first | (with_reducible first | exact HB.out | apply below_alloc | apply pw_below_drewN | apply below_drew1 | refine below_set ?_ GB29.out | refine below_set ?_ GB29.out | refine below_set ?_ GE295.out) | exact HB.out)⟩⟩
                           · rw [if_neg c30] at H
                             have c30b0 : (x37_3 == x30_2) = false := beq_eq_false_iff_ne.mpr c30
                             have c30b1 : (x37_3 != x30_2) = true := bne_iff_ne.mpr c30
                             by_cases c56 : x30_2 = (wrap64 ((l0_1.length : Int) - 1))
                             · rw [if_pos c56] at H
                               have c56b0 : (x30_2 == (wrap64 ((l0_1.length : Int) - 1))) = true := beq_iff_eq.mpr c56
                               have c56b1 : (x30_2 != (wrap64 ((l0_1.length : Int) - 1))) = false := bne_eq_false_iff_eq.mpr c56
                               clear c56
                               replace H := Option.bind_eq_some_iff.mp H
                               obtain ⟨⟨t323, t324⟩, A570, H⟩ := H
                               replace H : (impl_SharesOfStates.l1 k3 (l0_1.length : Int) x6_2 x30_2 (y313.set (x37_3 : Int).toNat (⟨t323, t324⟩ : S67)) (l0_1.length : Int) x30_2 (l0_1.length : Int) (wrap64 (x37_3 + 1)) a0_0 l0_1) = some (r1, r2, r3) := H
                               have A57 := Aside0.mk A570
                               clear A570
                               obtain ⟨y325, hy325⟩ : ∃ y_ : List (S67), y_ = (y313.set (x37_3 : Int).toNat (⟨t323, t324⟩ : S67)) := ⟨_, rfl⟩
                               replace H : (impl_SharesOfStates.l1 k3 (l0_1.length : Int) x6_2 x30_2 y325 (l0_1.length : Int) x30_2 (l0_1.length : Int) (wrap64 (x37_3 + 1)) a0_0 l0_1) = some (r1, r2, r3) := by first | (rw [hy325]; with_reducible exact H) | (have H2_ := (Option.bind_some _ _).symm.trans H; rw [hy325]; with_reducible exact H2_) | (have H2_ := (Option.bind_some _ _).symm.trans H; with_reducible exact H2_) | with_reducible exact H | (rw [hy325]; exact H) | exact H
                               have Ny325 := Aside0.mk hy325
                               clear hy325
                               have H' := Aside0.mk H
                               clear H
                               try go_wp2
                               have n0_ := Aside0.mk (Kd.S_drew HO_6.out)
                               have n1_ := Aside0.mk (Kd.R_drew HO_8.out)
                               have n2_ := Aside0.mk (blk_drew BK295.out)
                               have n3_ := Aside0.mk (below_drew1 HB.out)
                               clear HO_6
                               clear HO_8
                               clear BK295
                               clear HB
                               have HO_6 := n0_
                               have HO_8 := n1_
                               have BK295 := n2_
                               have HB := n3_
                               clear n0_ n1_ n2_ n3_
                               have p309 : 0 ≤ (x37_3 : Int) := dT_
                               have q309 : x37_3 < (l0_1.length : Int) := dT_
                               obtain ⟨ad309, A309_0, c309_0, e309, hx309_0, hl309_0, hi309_0⟩ := at_L1 HR0_1.out x37_3 p309 q309
                               have hw309_0 := hx309_0
                               cases e309
                               replace hx309_0 := (HB.out.cell (World.block_lt_of_cell? w _ hx309_0)).trans hx309_0
                               have HR309_0 := Aside0.mk hi309_0
                               have HC309_0 := Aside0.mk hl309_0
                               clear hi309_0 hl309_0
                               replace p309 := eq_true p309
                               replace q309 := eq_true q309
                               have p310 : 0 ≤ (x30_2 : Int) := dT_
                               have q310 : x30_2 < ((rd_L1 l0_1 x37_3).length : Int) := dT_
                               obtain ⟨ad310, e310, hx310_0⟩ := Kd.at_int HR309_0.out x30_2 p310 q310
                               have hw310_0 := hx310_0
                               cases e310
                               replace hx310_0 := (HB.out.cell (World.block_lt_of_cell? w _ hx310_0)).trans hx310_0
                               replace p310 := eq_true p310
                               replace q310 := eq_true q310
                               refine start_ (n := 15) (S := fun w' => w'.cell? ⟨gb295, 0, none⟩ = some (.int .i64 a0_0) ∧ w'.cell? ⟨gb295, 1, none⟩ = some (.slice (some ad309) l0_1.length c0_1) ∧ w'.cell? (ad309.add (x37_3).toNat) = some (.slice (some ad310) (rd_L1 l0_1 x37_3).length c309_0) ∧ w'.cell? (ad310.add (x30_2).toNat) = some (.int .i64 (rd (rd_L1 l0_1 x37_3) x30_2))) (ds := [14]) #[false, false, false, false, false, false, false, false, false, false, false, false, false, false, false] (by kernel_rfl) rfl rfl ⟨(blk_cell BK295.out 0).trans rfl, (blk_cell BK295.out 1).trans rfl, ((HB.out.cell (World.block_lt_of_cell? w _ hw309_0)).trans hw309_0), ((HB.out.cell (World.block_lt_of_cell? w _ hw310_0)).trans hw310_0)⟩ (fun hHeld => ?_); refine with_tabW impl_SharesOfStates.tab12 impl_SharesOfStates.bits12 (fun HT_ HW_ => ?_)
                               generalize wr.drew = w59 at HO_6 HO_8 BK295 HB HR309_0 hx309_0 hx310_0 hHeld ⊢
                               refine pure_ (i := 0) (N := some 40) (v := ?_) (a' := ?_) #[true, false, false, false, false, false, false, false, false, false, false, false, false, false, false] rfl rfl (any_of HT_.out (by kernel_rfl)) (fun _ _ _ h => h) (Or.inl ⟨by rfl, ?_⟩) ?_ ?_
                               rotate_left
                               · intro w'
                                 go_simp
                                 with_reducible rfl
                               rotate_left
                               · simp only [Act.put, List.setIfInBounds_toArray, List.set_cons_zero, List.set_cons_succ, i64_w, i32_w]
                                 rfl
                               refine pure_ (i := 1) (N := some 41) (v := ?_) (a' := ?_) #[true, true, false, false, false, false, false, false, false, false, false, false, false, false, false] rfl rfl (any_of HT_.out (by kernel_rfl)) (fun _ _ _ h => h) (Or.inl ⟨by rfl, ?_⟩) ?_ ?_
                               rotate_left
                               · intro w'
                                 go_simp
                                 with_reducible rfl
                               rotate_left
                               · simp only [Act.put, List.setIfInBounds_toArray, List.set_cons_zero, List.set_cons_succ, i64_w, i32_w]
                                 rfl
                               refine pure_ (i := 2) (N := some 42) (v := ?_) (a' := ?_) #[true, true, true, false, false, false, false, false, false, false, false, false, false, false, false] rfl rfl (any_of HT_.out (by kernel_rfl)) (fun _ _ _ h => h) (Or.inl ⟨by rfl, ?_⟩) ?_ ?_
                               rotate_left
                               · intro w'
                                 go_simp
                                 with_reducible rfl
                               rotate_left
                               · simp only [Act.put, List.setIfInBounds_toArray, List.set_cons_zero, List.set_cons_succ, i64_w, i32_w]
                                 rfl
                               refine pure_ (i := 4) (N := some 44) (v := ?_) (a' := ?_) #[true, true, true, false, true, false, false, false, false, false, false, false, false, false, false] rfl rfl (any_of HT_.out (by kernel_rfl)) (fun _ _ _ h => h) (Or.inl ⟨by rfl, ?_⟩) ?_ ?_
                               rotate_left
                               · intro w'
                                 go_simp
                                 with_reducible rfl
                               rotate_left
                               · simp only [Act.put, List.setIfInBounds_toArray, List.set_cons_zero, List.set_cons_succ, i64_w, i32_w]
                                 rfl
                               refine pure_ (i := 7) (N := some 47) (v := ?_) (a' := ?_) #[true, true, true, false, true, false, false, true, false, false, false, false, false, false, false] rfl rfl (any_of HT_.out (by kernel_rfl)) (fun _ _ _ h => h) (Or.inl ⟨by rfl, ?_⟩) ?_ ?_
                               rotate_left
                               · intro w'
                                 go_simp
                                 with_reducible rfl
                               rotate_left
                               · simp only [Act.put, List.setIfInBounds_toArray, List.set_cons_zero, List.set_cons_succ, i64_w, i32_w]
                                 rfl
                               refine pure_ (i := 10) (N := some 50) (v := ?_) (a' := ?_) #[true, true, true, false, true, false, false, true, false, false, true, false, false, false, false] rfl rfl (any_of HT_.out (by kernel_rfl)) (fun _ _ _ h => h) (Or.inl ⟨by rfl, ?_⟩) ?_ ?_
                               rotate_left
                               · intro w'
                                 go_simp
                                 with_reducible rfl
                               rotate_left
                               · simp only [Act.put, List.setIfInBounds_toArray, List.set_cons_zero, List.set_cons_succ, i64_w, i32_w]
                                 rfl
                               refine take_ (i := 3) (N := some 43) (v := ?_) (a' := ?_) #[true, true, true, true, true, false, false, true, false, false, true, false, false, false, false] rfl rfl (take_ofW HT_.out HW_.out (by kernel_rfl)) (fun _ _ _ h => h) (Or.inl ⟨by rfl, ?_⟩) hHeld ?_ ?_
                               rotate_left
                               · rintro w' ⟨s0, s1, s2, s3⟩
                                 go_simp
                                 with_reducible rfl
                               rotate_left
                               · simp only [Act.put, List.setIfInBounds_toArray, List.set_cons_zero, List.set_cons_succ, i64_w, i32_w]
                                 rfl
                               refine pure_ (i := 5) (N := some 45) (v := ?_) (a' := ?_) #[true, true, true, true, true, true, false, true, false, false, true, false, false, false, false] rfl rfl (any_of HT_.out (by kernel_rfl)) (fun _ _ _ h => h) (Or.inl ⟨by rfl, ?_⟩) ?_ ?_
                               rotate_left
                               · intro w'
                                 go_simp
                                 with_reducible rfl
                               rotate_left
                               · simp only [Act.put, List.setIfInBounds_toArray, List.set_cons_zero, List.set_cons_succ, i64_w, i32_w]
                                 rfl
                               refine take_ (i := 6) (N := some 46) (v := ?_) (a' := ?_) #[true, true, true, true, true, true, true, true, false, false, true, false, false, false, false] rfl rfl (take_ofW HT_.out HW_.out (by kernel_rfl)) (fun _ _ _ h => h) (Or.inl ⟨by rfl, ?_⟩) hHeld ?_ ?_
                               rotate_left
                               · rintro w' ⟨s0, s1, s2, s3⟩
                                 go_simp
                                 with_reducible rfl
                               rotate_left
                               · simp only [Act.put, List.setIfInBounds_toArray, List.set_cons_zero, List.set_cons_succ, i64_w, i32_w]
                                 rfl
                               refine pure_ (i := 8) (N := some 48) (v := ?_) (a' := ?_) #[true, true, true, true, true, true, true, true, true, false, true, false, false, false, false] rfl rfl (any_of HT_.out (by kernel_rfl)) (fun _ _ _ h => h) (Or.inl ⟨by rfl, ?_⟩) ?_ ?_
                               rotate_left
                               · intro w'
                                 go_simp
                                 with_reducible rfl
                               rotate_left
                               · simp only [Act.put, List.setIfInBounds_toArray, List.set_cons_zero, List.set_cons_succ, i64_w, i32_w]
                                 rfl
                               refine take_ (i := 9) (N := some 49) (v := ?_) (a' := ?_) #[true, true, true, true, true, true, true, true, true, true, true, false, false, false, false] rfl rfl (take_ofW HT_.out HW_.out (by kernel_rfl)) (fun _ _ _ h => h) (Or.inl ⟨by rfl, ?_⟩) hHeld ?_ ?_
                               rotate_left
                               · rintro w' ⟨s0, s1, s2, s3⟩
                                 go_simp
                                 with_reducible rfl
                               rotate_left
                               · simp only [Act.put, List.setIfInBounds_toArray, List.set_cons_zero, List.set_cons_succ, i64_w, i32_w]
                                 rfl
                               refine take_ (i := 11) (N := some 51) (v := ?_) (a' := ?_) #[true, true, true, true, true, true, true, true, true, true, true, true, false, false, false] rfl rfl (take_ofW HT_.out HW_.out (by kernel_rfl)) (fun _ _ _ h => h) (Or.inl ⟨by rfl, ?_⟩) hHeld ?_ ?_
                               rotate_left
                               · rintro w' ⟨s0, s1, s2, s3⟩
                                 go_simp
                                 with_reducible rfl
                               rotate_left
                               · simp only [Act.put, List.setIfInBounds_toArray, List.set_cons_zero, List.set_cons_succ, i64_w, i32_w]
                                 rfl
                               refine one_ (i := 12) (N := some 52) #[true, true, true, true, true, true, true, true, true, true, true, true, true, false, false] rfl rfl (one_of HT_.out (by kernel_rfl)) (by decide) (fun K hK => ?_)
                               refine goes_ Try.func56 (by kernel_rfl) rfl #[.int .i64 (rd (rd_L1 l0_1 x37_3) x30_2), .int .i64 a0_0] (by rfl) rfl rfl (by (try simp only [List.map_toArray, List.map_cons, List.map_nil]); first | done | rfl | (simp only [List.length_drop, List.length_take]; rfl)) ?_
                               with_reducible refine (impl_lowest.calls k3 (rd (rd_L1 l0_1 x37_3) x30_2) a0_0 t311 t312 _ A27.out).mono ?_
                               rintro e w60 ⟨rfl, hb⟩
                               refine ⟨_, rfl, ?_⟩
                               have n0_ := Aside0.mk (Kd.S_below (by (with_reducible repeat (first | apply Kd.S_alloc | apply Kd.S_drewN | apply Kd.S_drew)); exact HO_6.out) hb)
                               have n1_ := Aside0.mk (Kd.R_below (by (with_reducible repeat (first | apply Kd.R_alloc | apply Kd.R_drewN | apply Kd.R_drew)); exact HO_8.out) hb)
                               have n2_ := Aside0.mk (blk_below (g := gb295) (o := .cells #[.int .i64 a0_0, .slice (some ad309) l0_1.length c0_1] 29 (0, 0)) (by (with_reducible repeat (first | refine blk_drewN ?_ _ | refine blk_drew ?_ | refine blk_alloc ?_ _)); exact BK295.out) hb)
                               have n3_ := Aside0.mk (below_step (by repeat (first | (with_reducible first | exact HB.out | apply below_alloc | apply pw_below_drewN | apply below_drew1 | refine below_set ?_ GE295.out) | exact HB.out)) hb)
                               clear HO_6
                               clear HO_8
                               clear BK295
                               clear HB
                               have HO_6 := n0_
                               have HO_8 := n1_
                               have BK295 := n2_
                               have HB := n3_
                               clear n0_ n1_ n2_ n3_
                               (try clear hb)
                               (try clear hb2)
                               (try clear hk)
                               (try clear hi)
                               have p29 : 0 ≤ (x37_3 : Int) := dT_
                               have q29 : (x37_3 : Int) < ((x8_3.length : Int) : Int) := dT_
                               obtain ⟨go29, co29, eo29, gb29, gl29, cl29, HG29⟩ := Kd.R_form HO_8.out (by omega)
                               (first | cases eo29 | (injection eo29 with ea_ en_ ec_; (first | subst ea_ | (injection ea_ with ea_; subst ea_)); subst ec_; clear en_))
                               have GB29 := Aside0.mk gb29
                               have GG29 := Aside0.mk HG29
                               clear gb29 gl29 HG29
                               obtain ⟨ce29, hcl29, hM29, hcc29, hfr29⟩ := Kd.R_elem HO_8.out z67 (x37_3 : Int) p29 q29
                               obtain rfl := k67_openM hM29
                               have hx29_0 : World.cell? _ ⟨go29, (x37_3 : Int).toNat * 2, none⟩ = some (.int .i64 ((rd_T67 x8_3 x37_3).f0)) := hcc29 0 _ rfl
                               have hx29_1 : World.cell? _ ⟨go29, (x37_3 : Int).toNat * 2 + 1, none⟩ = some (.int .i64 ((rd_T67 x8_3 x37_3).f1)) := hcc29 1 _ rfl
                               have hf29_0 : World.frozen? _ ⟨go29, (x37_3 : Int).toNat * 2, none⟩ = false := hfr29 0
                               have hf29_1 : World.frozen? _ ⟨go29, (x37_3 : Int).toNat * 2 + 1, none⟩ = false := hfr29 1
                               (try clear hcl29 hcc29 hfr29 ); (try clear hM29)
                               replace p29 := eq_true p29
                               replace q29 := eq_true q29
                               obtain ⟨ce61, hcl61, hM61, hcc61, hfr61⟩ := Kd.R_elem HO_8.out z67 (x37_3 : Int) (dT_) (by have h_ : (x37_3 : Int) < ((x8_3.length : Int) : Int) := dT_; first | exact h_ | (have e_ := (Kd.R_reads' HO_8.out).1; omega) | simpa using h_)
                               obtain rfl := k67_openM hM61
                               have HP61 := (Kd.R_seg HO_8.out (x37_3 : Int) (dT_) (by have h_ : (x37_3 : Int) < ((x8_3.length : Int) : Int) := dT_; first | exact h_ | (have e_ := (Kd.R_reads' HO_8.out).1; omega) | simpa using h_) (seg := [.int .i64 t311, .int .i64 t312]) (j := 0) hcl61 hcc61 (show 2 ≤ 2 from by decide) (x' := (⟨t311, t312⟩ : S67)) (k67_mkM _ _ _ (⟨t311, t312⟩ : S67) ) (fun _ hk => hk)).1
                               rw [← Ny313.out] at HP61
                               have HQ61 := Aside0.mk HP61
                               (try clear hcl61 hcc61 hfr61 HP61); (try clear hM61)
                               refine hK.out _ _ ⟨(blk_cell BK295.out 0).trans rfl, (blk_cell BK295.out 1).trans rfl, ((HB.out.cell (World.block_lt_of_cell? w _ hw309_0)).trans hw309_0), ((HB.out.cell (World.block_lt_of_cell? w _ hw310_0)).trans hw310_0)⟩ (fun hHeld => ?_)
                               clear hK K
                               refine norm_ (a' := ?_) ?_ ?_
                               rotate_left
                               · show Act.put _ (some 52) _ = _
                                 simp only [Act.put, List.setIfInBounds_toArray, List.set_cons_zero, List.set_cons_succ, i64_w, i32_w]
                                 rfl
                               refine pure_ (i := 13) (N := some 53) (v := ?_) (a' := ?_) #[true, true, true, true, true, true, true, true, true, true, true, true, true, true, false] rfl rfl (any_of HT_.out (by kernel_rfl)) (fun _ _ _ h => h) (Or.inl ⟨by rfl, ?_⟩) ?_ ?_
                               rotate_left
                               · intro w'
                                 go_simp
                                 with_reducible rfl
                               rotate_left
                               · simp only [Act.put, List.setIfInBounds_toArray, List.set_cons_zero, List.set_cons_succ, i64_w, i32_w]
                                 rfl
                               refine last_ (i := 14) (N := none) #[true, true, true, true, true, true, true, true, true, true, true, true, true, true, true] rfl rfl (one_of HT_.out (by kernel_rfl)) (by decide) (fun K hK => ?_)
                               refine skip_ (w1 := ?_) (by rfl) rfl ?_ ?_
                               rotate_left
                               · go_simp
                                 rfl
                               refine hK.out _ _ ?_
                               clear hK K
                               refine done_ (done_of HT_.out (by kernel_rfl)) ?_
                               try go_wp2_with (first | ((with_reducible refine gate_callee (f := 58) rfl ?_); refine goesL_ (some 72) rfl rfl Try.func58 (by kernel_rfl) rfl #[.int .i64 1] rfl (by (try simp only [List.map_toArray, List.map_cons, List.map_nil]); first | done | rfl | (simp only [List.length_drop, List.length_take]; rfl)) ?_; (with_reducible refine (impl_whole.calls 1 t323 t324 _ A57.out).mono ?_); rintro e w62 ⟨rfl, hb⟩; refine ⟨_, rfl, ?_⟩; have n0_ := Aside0.mk (Kd.S_below (by (with_reducible repeat (first | apply Kd.S_alloc | apply Kd.S_drewN | apply Kd.S_drew)); exact (Kd.S_mono (Kd.S_far (p := ⟨go29, (x37_3 : Int).toNat * 2 + 1, none⟩) (Kd.S_far (p := ⟨go29, (x37_3 : Int).toNat * 2, none⟩) (Kd.S_mono HO_6.out (fun k_ hk => (⟨hk, fun e_ => hk (by rw [e_]; rfl)⟩ : _ ∧ k_ ≠ go29))) (fun _ hk => hk.2) (.int .i64 t311)) (fun _ hk => hk.2) (.int .i64 t312)) (fun _ h_ => h_.1))) hb); have n1_ := Aside0.mk (Kd.R_below (by (with_reducible repeat (first | apply Kd.R_alloc | apply Kd.R_drewN | apply Kd.R_drew)); exact HQ61.out) hb); have n2_ := Aside0.mk (blk_below (g := gb295) (o := .cells #[.int .i64 a0_0, .slice (some ad309) l0_1.length c0_1] 29 (0, 0)) (by (with_reducible repeat (first | refine blk_drewN ?_ _ | refine blk_drew ?_ | refine blk_alloc ?_ _)); refine blk_far ?_ (by have h_ := Kd.R_ne HO_8.out BK295.out (by decide); intro e_; exact h_ (by rw [e_]; rfl)) _; (with_reducible repeat (first | refine blk_drewN ?_ _ | refine blk_drew ?_ | refine blk_alloc ?_ _)); refine blk_far ?_ (by have h_ := Kd.R_ne HO_8.out BK295.out (by decide); intro e_; exact h_ (by rw [e_]; rfl)) _; (with_reducible repeat (first | refine blk_drewN ?_ _ | refine blk_drew ?_ | refine blk_alloc ?_ _)); exact BK295.out) hb); have n3_ := Aside0.mk (below_step (by repeat (first | (with_reducible first | exact HB.out | apply below_alloc | apply pw_below_drewN | apply below_drew1 | refine below_set ?_ GB29.out | refine below_set ?_ GB29.out | refine below_set ?_ GE295.out) | exact HB.out)) hb); clear HO_6; clear HO_8; clear BK295; clear HB; have HO_6 := n0_; have HO_8 := n1_; have BK295 := n2_; have HB := n3_; clear n0_ n1_ n2_ n3_; (try clear hb); (try clear hb2); (try clear hk); (try clear hi); have p58 : 0 ≤ (x37_3 : Int) := dT_; have q58 : (x37_3 : Int) < ((x8_3.length : Int) : Int) := dT_; obtain ⟨ce58, hcl58, hM58, hcc58, hfr58⟩ := Kd.R_elem HO_8.out z67 (x37_3 : Int) p58 q58; obtain rfl := k67_openM hM58; have hx58_0 : w62.cell? ⟨go29, (x37_3 : Int).toNat * 2, none⟩ = some (.int .i64 ((rd_T67 y313 x37_3).f0)) := hcc58 0 _ rfl; have hx58_1 : w62.cell? ⟨go29, (x37_3 : Int).toNat * 2 + 1, none⟩ = some (.int .i64 ((rd_T67 y313 x37_3).f1)) := hcc58 1 _ rfl; have hf58_0 : w62.frozen? ⟨go29, (x37_3 : Int).toNat * 2, none⟩ = false := hfr58 0; have hf58_1 : w62.frozen? ⟨go29, (x37_3 : Int).toNat * 2 + 1, none⟩ = false := hfr58 1; (try clear hcl58 hcc58 hfr58 ); (try clear hM58); replace p58 := eq_true p58; replace q58 := eq_true q58; have HX63 := Aside0.mk (show Kd.R k67 67 w62 w.heap.size (fun _ => True) (.slice (some ⟨go29, 0, none⟩) x8_3.length co29) y313 from (by (with_reducible repeat (first | apply Kd.R_alloc | apply Kd.R_drewN | apply Kd.R_drew)); exact HO_8.out)); obtain ⟨ce63, hcl63, hM63, hcc63, hfr63⟩ := Kd.R_elem HX63.out z67 (x37_3 : Int) (dT_) (by have h_ : (x37_3 : Int) < ((x8_3.length : Int) : Int) := dT_; first | exact h_ | (have e_ := (Kd.R_reads' HO_8.out).1; omega) | simpa using h_); obtain rfl := k67_openM hM63; have HP63 := Kd.R_seg HX63.out (x37_3 : Int) (dT_) (by have h_ : (x37_3 : Int) < ((x8_3.length : Int) : Int) := dT_; first | exact h_ | (have e_ := (Kd.R_reads' HO_8.out).1; omega) | simpa using h_) (seg := [.int .i64 t323, .int .i64 t324]) (j := 0) hcl63 hcc63 (show 2 ≤ 2 from by decide) (x' := (⟨t323, t324⟩ : S67)) (k67_mkM _ _ _ (⟨t323, t324⟩ : S67) ) (fun _ hk => hk); have hx63_0 := hcc63 0 _ rfl; (try simp only [show (k67).sz = 2 from rfl, Nat.mul_one, Nat.add_zero] at hx63_0); have hf63_0 := hfr63 0; (try simp only [show (k67).sz = 2 from rfl, Nat.mul_one, Nat.add_zero] at hf63_0); have hx63_1 := hcc63 1 _ rfl; (try simp only [show (k67).sz = 2 from rfl, Nat.mul_one, Nat.add_zero] at hx63_1); have hf63_1 := hfr63 1; (try simp only [show (k67).sz = 2 from rfl, Nat.mul_one, Nat.add_zero] at hf63_1); (try clear hcl63 hcc63 hfr63 ); (try clear hM63)) | ((with_reducible refine gate_store (t := 67) (p := 73) rfl ?_); refine store_event (t := 67) (p := 73) (v := ?vo_w64) (w1 := ((w62.setCell ⟨go29, (x37_3 : Int).toNat * 2, none⟩ (.int .i64 t323)).setCell ⟨go29, (x37_3 : Int).toNat * 2 + 1, none⟩ (.int .i64 t324))) ?hg ?ho ?hn ?hr ?_; (case ho => rfl); (case hg => rfl); (case hn => rfl); (case hr => first | (go_simp; done) | (go_simp; rfl)); intro w64 hw; have hg : w62.grownBy w64 (some go29) := (by rw [hw]; exact HP63.2); have hp_ : Kd.R k67 67 w64 w.heap.size (fun _ => True) (.slice (some ⟨go29, 0, none⟩) x8_3.length co29) y325 := (by rw [hw, Ny325.out]; exact HP63.1); clear HP63; have n0_ := Aside0.mk (Kd.S_after (v := (.slice (some ⟨go29, 0, none⟩) x8_3.length co29)) (v1 := (.slice (some ⟨go29, 0, none⟩) x8_3.length co29)) (ok := (fun _ => True)) (by (with_reducible repeat (first | apply Kd.S_alloc | apply Kd.S_drewN | apply Kd.S_drew)); exact Kd.S_mono HO_6.out (fun _ hk => ⟨trivial, hk⟩)) hg (.inl rfl)); have n1_ := Aside0.mk (hp_); have n2_ := Aside0.mk (blk_grown (g := gb295) (o := .cells #[.int .i64 a0_0, .slice (some ad309) l0_1.length c0_1] 29 (0, 0)) (by (with_reducible repeat (first | refine blk_drewN ?_ _ | refine blk_drew ?_ | refine blk_alloc ?_ _)); exact BK295.out) hg (Kd.R_ne HO_8.out BK295.out (by decide))); have n3_ := Aside0.mk ((by rw [hw]; exact below_set (below_set (HB.out) GB29.out) GB29.out : Below w.heap.size w w64)); clear HO_6; clear HO_8; clear BK295; clear HB; have HO_6 := n0_; have HO_8 := n1_; have BK295 := n2_; have HB := n3_; clear n0_ n1_ n2_ n3_; clear hg hw hp_))
                               (first | go_roundg k3 | (try subst hji17; go_roundg k3))
                               case measure => have := HJ1.out; have := HK2.out; have := HK3.out; omega
                               case rel => exact ⟨(y325), (wrap64 (x37_3 + 1)), (by first | rfl | (simp; done) | (simp [*]; done)), H', ⟨by have := HJ1.out; have := HK2.out; have := HK3.out; omega⟩, ⟨by (with_reducible repeat (first | apply Kd.S_alloc | apply Kd.S_drewN | apply Kd.S_drew)); exact Kd.S_mono HO_6.out (fun _ hk => hk.2)⟩, ⟨by (with_reducible repeat (first | apply Kd.R_alloc | apply Kd.R_drewN | apply Kd.R_drew)); exact HO_8.out⟩, ⟨by (with_reducible repeat (first | refine blk_drewN ?_ _ | refine blk_drew ?_ | refine blk_alloc ?_ _)); exact BK295.out⟩, ⟨by repeat (first | (with_reducible first | exact HB.out | apply below_alloc | apply pw_below_drewN | apply below_drew1 | refine below_set ?_ GE295.out) | exact HB.out)⟩⟩
                             · rw [if_neg c56] at H
                               have c56b0 : (x30_2 == (wrap64 ((l0_1.length : Int) - 1))) = false := beq_eq_false_iff_ne.mpr c56
                               have c56b1 : (x30_2 != (wrap64 ((l0_1.length : Int) - 1))) = true := bne_iff_ne.mpr c56
                               have H' := Aside0.mk H
                               clear H
                               try go_wp2
                               have n0_ := Aside0.mk (Kd.S_drew HO_6.out)
                               have n1_ := Aside0.mk (Kd.R_drew HO_8.out)
                               have n2_ := Aside0.mk (blk_drew BK295.out)
                               have n3_ := Aside0.mk (below_drew1 HB.out)
                               clear HO_6
                               clear HO_8
                               clear BK295
                               clear HB
                               have HO_6 := n0_
                               have HO_8 := n1_
                               have BK295 := n2_
                               have HB := n3_
                               clear n0_ n1_ n2_ n3_
                               have p309 : 0 ≤ (x37_3 : Int) := dT_
                               have q309 : x37_3 < (l0_1.length : Int) := dT_
                               obtain ⟨ad309, A309_0, c309_0, e309, hx309_0, hl309_0, hi309_0⟩ := at_L1 HR0_1.out x37_3 p309 q309
                               have hw309_0 := hx309_0
                               cases e309
                               replace hx309_0 := (HB.out.cell (World.block_lt_of_cell? w _ hx309_0)).trans hx309_0
                               have HR309_0 := Aside0.mk hi309_0
                               have HC309_0 := Aside0.mk hl309_0
                               clear hi309_0 hl309_0
                               replace p309 := eq_true p309
                               replace q309 := eq_true q309
                               have p310 : 0 ≤ (x30_2 : Int) := dT_
                               have q310 : x30_2 < ((rd_L1 l0_1 x37_3).length : Int) := dT_
                               obtain ⟨ad310, e310, hx310_0⟩ := Kd.at_int HR309_0.out x30_2 p310 q310
                               have hw310_0 := hx310_0
                               cases e310
                               replace hx310_0 := (HB.out.cell (World.block_lt_of_cell? w _ hx310_0)).trans hx310_0
                               replace p310 := eq_true p310
                               replace q310 := eq_true q310
                               refine start_ (n := 15) (S := fun w' => w'.cell? ⟨gb295, 0, none⟩ = some (.int .i64 a0_0) ∧ w'.cell? ⟨gb295, 1, none⟩ = some (.slice (some ad309) l0_1.length c0_1) ∧ w'.cell? (ad309.add (x37_3).toNat) = some (.slice (some ad310) (rd_L1 l0_1 x37_3).length c309_0) ∧ w'.cell? (ad310.add (x30_2).toNat) = some (.int .i64 (rd (rd_L1 l0_1 x37_3) x30_2))) (ds := [14]) #[false, false, false, false, false, false, false, false, false, false, false, false, false, false, false] (by kernel_rfl) rfl rfl ⟨(blk_cell BK295.out 0).trans rfl, (blk_cell BK295.out 1).trans rfl, ((HB.out.cell (World.block_lt_of_cell? w _ hw309_0)).trans hw309_0), ((HB.out.cell (World.block_lt_of_cell? w _ hw310_0)).trans hw310_0)⟩ (fun hHeld => ?_); refine with_tabW impl_SharesOfStates.tab12 impl_SharesOfStates.bits12 (fun HT_ HW_ => ?_)
                               generalize wr.drew = w65 at HO_6 HO_8 BK295 HB HR309_0 hx309_0 hx310_0 hHeld ⊢
                               refine pure_ (i := 0) (N := some 40) (v := ?_) (a' := ?_) #[true, false, false, false, false, false, false, false, false, false, false, false, false, false, false] rfl rfl (any_of HT_.out (by kernel_rfl)) (fun _ _ _ h => h) (Or.inl ⟨by rfl, ?_⟩) ?_ ?_
                               rotate_left
                               · intro w'
                                 go_simp
                                 with_reducible rfl
                               rotate_left
                               · simp only [Act.put, List.setIfInBounds_toArray, List.set_cons_zero, List.set_cons_succ, i64_w, i32_w]
                                 rfl
                               refine pure_ (i := 1) (N := some 41) (v := ?_) (a' := ?_) #[true, true, false, false, false, false, false, false, false, false, false, false, false, false, false] rfl rfl (any_of HT_.out (by kernel_rfl)) (fun _ _ _ h => h) (Or.inl ⟨by rfl, ?_⟩) ?_ ?_
                               rotate_left
                               · intro w'
                                 go_simp
                                 with_reducible rfl
                               rotate_left
                               · simp only [Act.put, List.setIfInBounds_toArray, List.set_cons_zero, List.set_cons_succ, i64_w, i32_w]
                                 rfl
                               refine pure_ (i := 2) (N := some 42) (v := ?_) (a' := ?_) #[true, true, true, false, false, false, false, false, false, false, false, false, false, false, false] rfl rfl (any_of HT_.out (by kernel_rfl)) (fun _ _ _ h => h) (Or.inl ⟨by rfl, ?_⟩) ?_ ?_
                               rotate_left
                               · intro w'
                                 go_simp
                                 with_reducible rfl
                               rotate_left
                               · simp only [Act.put, List.setIfInBounds_toArray, List.set_cons_zero, List.set_cons_succ, i64_w, i32_w]
                                 rfl
                               refine pure_ (i := 4) (N := some 44) (v := ?_) (a' := ?_) #[true, true, true, false, true, false, false, false, false, false, false, false, false, false, false] rfl rfl (any_of HT_.out (by kernel_rfl)) (fun _ _ _ h => h) (Or.inl ⟨by rfl, ?_⟩) ?_ ?_
                               rotate_left
                               · intro w'
                                 go_simp
                                 with_reducible rfl
                               rotate_left
                               · simp only [Act.put, List.setIfInBounds_toArray, List.set_cons_zero, List.set_cons_succ, i64_w, i32_w]
                                 rfl
                               refine pure_ (i := 7) (N := some 47) (v := ?_) (a' := ?_) #[true, true, true, false, true, false, false, true, false, false, false, false, false, false, false] rfl rfl (any_of HT_.out (by kernel_rfl)) (fun _ _ _ h => h) (Or.inl ⟨by rfl, ?_⟩) ?_ ?_
                               rotate_left
                               · intro w'
                                 go_simp
                                 with_reducible rfl
                               rotate_left
                               · simp only [Act.put, List.setIfInBounds_toArray, List.set_cons_zero, List.set_cons_succ, i64_w, i32_w]
                                 rfl
                               refine pure_ (i := 10) (N := some 50) (v := ?_) (a' := ?_) #[true, true, true, false, true, false, false, true, false, false, true, false, false, false, false] rfl rfl (any_of HT_.out (by kernel_rfl)) (fun _ _ _ h => h) (Or.inl ⟨by rfl, ?_⟩) ?_ ?_
                               rotate_left
                               · intro w'
                                 go_simp
                                 with_reducible rfl
                               rotate_left
                               · simp only [Act.put, List.setIfInBounds_toArray, List.set_cons_zero, List.set_cons_succ, i64_w, i32_w]
                                 rfl
                               refine take_ (i := 3) (N := some 43) (v := ?_) (a' := ?_) #[true, true, true, true, true, false, false, true, false, false, true, false, false, false, false] rfl rfl (take_ofW HT_.out HW_.out (by kernel_rfl)) (fun _ _ _ h => h) (Or.inl ⟨by rfl, ?_⟩) hHeld ?_ ?_
                               rotate_left
                               · rintro w' ⟨s0, s1, s2, s3⟩
                                 go_simp
                                 with_reducible rfl
                               rotate_left
                               · simp only [Act.put, List.setIfInBounds_toArray, List.set_cons_zero, List.set_cons_succ, i64_w, i32_w]
                                 rfl
                               refine pure_ (i := 5) (N := some 45) (v := ?_) (a' := ?_) #[true, true, true, true, true, true, false, true, false, false, true, false, false, false, false] rfl rfl (any_of HT_.out (by kernel_rfl)) (fun _ _ _ h => h) (Or.inl ⟨by rfl, ?_⟩) ?_ ?_
                               rotate_left
                               · intro w'
                                 go_simp
                                 with_reducible rfl
                               rotate_left
                               · simp only [Act.put, List.setIfInBounds_toArray, List.set_cons_zero, List.set_cons_succ, i64_w, i32_w]
                                 rfl
                               refine take_ (i := 6) (N := some 46) (v := ?_) (a' := ?_) #[true, true, true, true, true, true, true, true, false, false, true, false, false, false, false] rfl rfl (take_ofW HT_.out HW_.out (by kernel_rfl)) (fun _ _ _ h => h) (Or.inl ⟨by rfl, ?_⟩) hHeld ?_ ?_
                               rotate_left
                               · rintro w' ⟨s0, s1, s2, s3⟩
                                 go_simp
                                 with_reducible rfl
                               rotate_left
                               · simp only [Act.put, List.setIfInBounds_toArray, List.set_cons_zero, List.set_cons_succ, i64_w, i32_w]
                                 rfl
                               refine pure_ (i := 8) (N := some 48) (v := ?_) (a' := ?_) #[true, true, true, true, true, true, true, true, true, false, true, false, false, false, false] rfl rfl (any_of HT_.out (by kernel_rfl)) (fun _ _ _ h => h) (Or.inl ⟨by rfl, ?_⟩) ?_ ?_
                               rotate_left
                               · intro w'
                                 go_simp
                                 with_reducible rfl
                               rotate_left
                               · simp only [Act.put, List.setIfInBounds_toArray, List.set_cons_zero, List.set_cons_succ, i64_w, i32_w]
                                 rfl
                               refine take_ (i := 9) (N := some 49) (v := ?_) (a' := ?_) #[true, true, true, true, true, true, true, true, true, true, true, false, false, false, false] rfl rfl (take_ofW HT_.out HW_.out (by kernel_rfl)) (fun _ _ _ h => h) (Or.inl ⟨by rfl, ?_⟩) hHeld ?_ ?_
                               rotate_left
                               · rintro w' ⟨s0, s1, s2, s3⟩
                                 go_simp
                                 with_reducible rfl
                               rotate_left
                               · simp only [Act.put, List.setIfInBounds_toArray, List.set_cons_zero, List.set_cons_succ, i64_w, i32_w]
                                 rfl
                               refine take_ (i := 11) (N := some 51) (v := ?_) (a' := ?_) #[true, true, true, true, true, true, true, true, true, true, true, true, false, false, false] rfl rfl (take_ofW HT_.out HW_.out (by kernel_rfl)) (fun _ _ _ h => h) (Or.inl ⟨by rfl, ?_⟩) hHeld ?_ ?_
                               rotate_left
                               · rintro w' ⟨s0, s1, s2, s3⟩
                                 go_simp
                                 with_reducible rfl
                               rotate_left
                               · simp only [Act.put, List.setIfInBounds_toArray, List.set_cons_zero, List.set_cons_succ, i64_w, i32_w]
                                 rfl
                               refine one_ (i := 12) (N := some 52) #[true, true, true, true, true, true, true, true, true, true, true, true, true, false, false] rfl rfl (one_of HT_.out (by kernel_rfl)) (by decide) (fun K hK => ?_)
                               refine goes_ Try.func56 (by kernel_rfl) rfl #[.int .i64 (rd (rd_L1 l0_1 x37_3) x30_2), .int .i64 a0_0] (by rfl) rfl rfl (by (try simp only [List.map_toArray, List.map_cons, List.map_nil]); first | done | rfl | (simp only [List.length_drop, List.length_take]; rfl)) ?_
                               with_reducible refine (impl_lowest.calls k3 (rd (rd_L1 l0_1 x37_3) x30_2) a0_0 t311 t312 _ A27.out).mono ?_
                               rintro e w66 ⟨rfl, hb⟩
                               refine ⟨_, rfl, ?_⟩
                               have n0_ := Aside0.mk (Kd.S_below (by (with_reducible repeat (first | apply Kd.S_alloc | apply Kd.S_drewN | apply Kd.S_drew)); exact HO_6.out) hb)
                               have n1_ := Aside0.mk (Kd.R_below (by (with_reducible repeat (first | apply Kd.R_alloc | apply Kd.R_drewN | apply Kd.R_drew)); exact HO_8.out) hb)
                               have n2_ := Aside0.mk (blk_below (g := gb295) (o := .cells #[.int .i64 a0_0, .slice (some ad309) l0_1.length c0_1] 29 (0, 0)) (by (with_reducible repeat (first | refine blk_drewN ?_ _ | refine blk_drew ?_ | refine blk_alloc ?_ _)); exact BK295.out) hb)
                               have n3_ := Aside0.mk (below_step (by repeat (first | (with_reducible first | exact HB.out | apply below_alloc | apply pw_below_drewN | apply below_drew1 | refine below_set ?_ GE295.out) | exact HB.out)) hb)
                               clear HO_6
                               clear HO_8
                               clear BK295
                               clear HB
                               have HO_6 := n0_
                               have HO_8 := n1_
                               have BK295 := n2_
                               have HB := n3_
                               clear n0_ n1_ n2_ n3_
                               (try clear hb)
                               (try clear hb2)
                               (try clear hk)
                               (try clear hi)
                               have p29 : 0 ≤ (x37_3 : Int) := dT_
                               have q29 : (x37_3 : Int) < ((x8_3.length : Int) : Int) := dT_
                               obtain ⟨go29, co29, eo29, gb29, gl29, cl29, HG29⟩ := Kd.R_form HO_8.out (by omega)
                               (first | cases eo29 | (injection eo29 with ea_ en_ ec_; (first | subst ea_ | (injection ea_ with ea_; subst ea_)); subst ec_; clear en_))
                               have GB29 := Aside0.mk gb29
                               have GG29 := Aside0.mk HG29
                               clear gb29 gl29 HG29
                               obtain ⟨ce29, hcl29, hM29, hcc29, hfr29⟩ := Kd.R_elem HO_8.out z67 (x37_3 : Int) p29 q29
                               obtain rfl := k67_openM hM29
                               have hx29_0 : World.cell? _ ⟨go29, (x37_3 : Int).toNat * 2, none⟩ = some (.int .i64 ((rd_T67 x8_3 x37_3).f0)) := hcc29 0 _ rfl
                               have hx29_1 : World.cell? _ ⟨go29, (x37_3 : Int).toNat * 2 + 1, none⟩ = some (.int .i64 ((rd_T67 x8_3 x37_3).f1)) := hcc29 1 _ rfl
                               have hf29_0 : World.frozen? _ ⟨go29, (x37_3 : Int).toNat * 2, none⟩ = false := hfr29 0
                               have hf29_1 : World.frozen? _ ⟨go29, (x37_3 : Int).toNat * 2 + 1, none⟩ = false := hfr29 1
                               (try clear hcl29 hcc29 hfr29 ); (try clear hM29)
                               replace p29 := eq_true p29
                               replace q29 := eq_true q29
                               obtain ⟨ce67, hcl67, hM67, hcc67, hfr67⟩ := Kd.R_elem HO_8.out z67 (x37_3 : Int) (dT_) (by have h_ : (x37_3 : Int) < ((x8_3.length : Int) : Int) := dT_; first | exact h_ | (have e_ := (Kd.R_reads' HO_8.out).1; omega) | simpa using h_)
                               obtain rfl := k67_openM hM67
                               have HP67 := (Kd.R_seg HO_8.out (x37_3 : Int) (dT_) (by have h_ : (x37_3 : Int) < ((x8_3.length : Int) : Int) := dT_; first | exact h_ | (have e_ := (Kd.R_reads' HO_8.out).1; omega) | simpa using h_) (seg := [.int .i64 t311, .int .i64 t312]) (j := 0) hcl67 hcc67 (show 2 ≤ 2 from by decide) (x' := (⟨t311, t312⟩ : S67)) (k67_mkM _ _ _ (⟨t311, t312⟩ : S67) ) (fun _ hk => hk)).1
                               rw [← Ny313.out] at HP67
                               have HQ67 := Aside0.mk HP67
                               (try clear hcl67 hcc67 hfr67 HP67); (try clear hM67)
                               refine hK.out _ _ ⟨(blk_cell BK295.out 0).trans rfl, (blk_cell BK295.out 1).trans rfl, ((HB.out.cell (World.block_lt_of_cell? w _ hw309_0)).trans hw309_0), ((HB.out.cell (World.block_lt_of_cell? w _ hw310_0)).trans hw310_0)⟩ (fun hHeld => ?_)
                               clear hK K
                               refine norm_ (a' := ?_) ?_ ?_
                               rotate_left
                               · show Act.put _ (some 52) _ = _
                                 simp only [Act.put, List.setIfInBounds_toArray, List.set_cons_zero, List.set_cons_succ, i64_w, i32_w]
                                 rfl
                               refine pure_ (i := 13) (N := some 53) (v := ?_) (a' := ?_) #[true, true, true, true, true, true, true, true, true, true, true, true, true, true, false] rfl rfl (any_of HT_.out (by kernel_rfl)) (fun _ _ _ h => h) (Or.inl ⟨by rfl, ?_⟩) ?_ ?_
                               rotate_left
                               · intro w'
                                 go_simp
                                 with_reducible rfl
                               rotate_left
                               · simp only [Act.put, List.setIfInBounds_toArray, List.set_cons_zero, List.set_cons_succ, i64_w, i32_w]
                                 rfl
                               refine last_ (i := 14) (N := none) #[true, true, true, true, true, true, true, true, true, true, true, true, true, true, true] rfl rfl (one_of HT_.out (by kernel_rfl)) (by decide) (fun K hK => ?_)
                               refine skip_ (w1 := ?_) (by rfl) rfl ?_ ?_
                               rotate_left
                               · go_simp
                                 rfl
                               refine hK.out _ _ ?_
                               clear hK K
                               refine done_ (done_of HT_.out (by kernel_rfl)) ?_
                               try go_wp2
                               (first | go_roundg k3 | (try subst hji17; go_roundg k3))
                               case measure => have := HJ1.out; have := HK2.out; have := HK3.out; omega
                               case rel => exact ⟨(y313), (wrap64 (x37_3 + 1)), (by first | rfl | (simp; done) | (simp [*]; done)), H', ⟨by have := HJ1.out; have := HK2.out; have := HK3.out; omega⟩, ⟨by (with_reducible repeat (first | apply Kd.S_alloc | apply Kd.S_drewN | apply Kd.S_drew)); exact Kd.S_mono (Kd.S_far (p := ⟨go29, (x37_3 : Int).toNat * 2 + 1, none⟩) (Kd.S_far (p := ⟨go29, (x37_3 : Int).toNat * 2, none⟩) (Kd.S_mono HO_6.out (fun k_ hk => (⟨hk, fun e_ => hk (by rw [e_]; rfl)⟩ : _ ∧ k_ ≠ go29))) (fun _ hk => hk.2) (.int .i64 t311)) (fun _ hk => hk.2) (.int .i64 t312)) (fun _ hk => hk.1)⟩, ⟨by (with_reducible repeat (first | apply Kd.R_alloc | apply Kd.R_drewN | apply Kd.R_drew)); exact HQ67.out⟩, ⟨by (with_reducible repeat (first | refine blk_drewN ?_ _ | refine blk_drew ?_ | refine blk_alloc ?_ _)); refine blk_far ?_ (by have h_ := Kd.R_ne HO_8.out BK295.out (by decide); intro e_; exact h_ (by rw [e_]; rfl)) _; (with_reducible repeat (first | refine blk_drewN ?_ _ | refine blk_drew ?_ | refine blk_alloc ?_ _)); refine blk_far ?_ (by have h_ := Kd.R_ne HO_8.out BK295.out (by decide); intro e_; exact h_ (by rw [e_]; rfl)) _; (with_reducible repeat (first | refine blk_drewN ?_ _ | refine blk_drew ?_ | refine blk_alloc ?_ _)); exact BK295.out⟩, ⟨by repeat (first | (with_reducible first | exact HB.out | apply below_alloc | apply pw_below_drewN | apply below_drew1 | refine below_set ?_ GB29.out | refine below_set ?_ GB29.out | refine below_set ?_ GE295.out) | exact HB.out)⟩⟩
                         · rw [if_neg c28] at H
                           exact absurd H (by simp)
                       · rw [if_neg c26] at H
                         exact absurd H (by simp)
                     · rw [if_neg c25] at H
                       exact absurd H (by simp)
                   · rw [if_neg c24] at H
                     exact absurd H (by simp)
                 · rw [if_neg c23] at H
                   exact absurd H (by simp)
               · rw [if_neg c22] at H
                 have c22b0 : decide (x37_3 < (l0_1.length : Int)) = false := decide_eq_false c22
                 clear c22
                 replace H := Option.bind_eq_some_iff.mp H
                 obtain ⟨⟨t303, t304⟩, A680, H⟩ := H
                 replace H : (if 0 ≤ (l0_1.length : Int) then (if (l0_1.length : Int) < (x8_3.length : Int) then (if x6_2.length < 5864062014805 then (impl_SharesOfStates.l0 k3 (l0_1.length : Int) (x6_2 ++ [(x8_3.set ((l0_1.length : Int) : Int).toNat (⟨t303, t304⟩ : S67))]) (l0_1.length : Int) (wrap64 (x30_2 + 1)) a0_0 l0_1) else (none)) else (none)) else (none)) = some (r1, r2, r3) := H
                 have A68 := Aside0.mk A680
                 clear A680
                 by_cases c69 : 0 ≤ (l0_1.length : Int)
                 · rw [if_pos c69] at H
                   have c69b0 : decide (0 ≤ (l0_1.length : Int)) = true := decide_eq_true c69
                   have c69b1 : decide (0 ≤ l0_1.length) = true := decide_eq_true (by omega)
                   clear c69
                   by_cases c70 : (l0_1.length : Int) < (x8_3.length : Int)
                   · rw [if_pos c70] at H
                     have c70b0 : decide ((l0_1.length : Int) < (x8_3.length : Int)) = true := decide_eq_true c70
                     have c70b1 : decide (l0_1.length < x8_3.length) = true := decide_eq_true (Int.ofNat_lt.mp c70)
                     clear c70
                     obtain ⟨y305, hy305⟩ : ∃ y_ : List (S67), y_ = (x8_3.set ((l0_1.length : Int) : Int).toNat (⟨t303, t304⟩ : S67)) := ⟨_, rfl⟩
                     replace H : (if x6_2.length < 5864062014805 then (impl_SharesOfStates.l0 k3 (l0_1.length : Int) (x6_2 ++ [y305]) (l0_1.length : Int) (wrap64 (x30_2 + 1)) a0_0 l0_1) else (none)) = some (r1, r2, r3) := by first | (rw [hy305]; with_reducible exact H) | (have H2_ := (Option.bind_some _ _).symm.trans H; rw [hy305]; with_reducible exact H2_) | (have H2_ := (Option.bind_some _ _).symm.trans H; with_reducible exact H2_) | with_reducible exact H | (rw [hy305]; exact H) | exact H
                     have Ny305 := Aside0.mk hy305
                     clear hy305
                     by_cases c72 : x6_2.length < 5864062014805
                     · rw [if_pos c72] at H
                       have LMc72 := Aside0.mk c72
                       clear c72
                       obtain ⟨y306, hy306⟩ : ∃ y_ : List (List (S67)), y_ = (x6_2 ++ [y305]) := ⟨_, rfl⟩
                       replace H : (impl_SharesOfStates.l0 k3 (l0_1.length : Int) y306 (l0_1.length : Int) (wrap64 (x30_2 + 1)) a0_0 l0_1) = some (r1, r2, r3) := by first | (rw [hy306]; with_reducible exact H) | (have H2_ := (Option.bind_some _ _).symm.trans H; rw [hy306]; with_reducible exact H2_) | (have H2_ := (Option.bind_some _ _).symm.trans H; with_reducible exact H2_) | with_reducible exact H | (rw [hy306]; exact H) | exact H
                       have Ny306 := Aside0.mk hy306
                       clear hy306
                       have H' := Aside0.mk H
                       clear H
                       go_wp2_with (first | ((with_reducible refine gate_callee (f := 58) rfl ?_); refine goesL_ (some 77) rfl rfl Try.func58 (by kernel_rfl) rfl #[.int .i64 0] rfl (by (try simp only [List.map_toArray, List.map_cons, List.map_nil]); first | done | rfl | (simp only [List.length_drop, List.length_take]; rfl)) ?_; (with_reducible refine (impl_whole.calls 0 t303 t304 _ A68.out).mono ?_); rintro e w73 ⟨rfl, hb⟩; refine ⟨_, rfl, ?_⟩; have n0_ := Aside0.mk (Kd.S_below (by (with_reducible repeat (first | apply Kd.S_alloc | apply Kd.S_drewN | apply Kd.S_drew)); exact HO_6.out) hb); have n1_ := Aside0.mk (Kd.R_below (by (with_reducible repeat (first | apply Kd.R_alloc | apply Kd.R_drewN | apply Kd.R_drew)); exact HO_8.out) hb); have n2_ := Aside0.mk (blk_below (g := gb295) (o := .cells #[.int .i64 a0_0, .slice A0_1 l0_1.length c0_1] 29 (0, 0)) (by (with_reducible repeat (first | refine blk_drewN ?_ _ | refine blk_drew ?_ | refine blk_alloc ?_ _)); exact BK295.out) hb); have n3_ := Aside0.mk (below_step (by repeat (first | (with_reducible first | exact HB.out | apply below_alloc | apply pw_below_drewN | apply below_drew1 | refine below_set ?_ GE295.out) | exact HB.out)) hb); clear HO_6; clear HO_8; clear BK295; clear HB; have HO_6 := n0_; have HO_8 := n1_; have BK295 := n2_; have HB := n3_; clear n0_ n1_ n2_ n3_; (try clear hb); (try clear hb2); (try clear hk); (try clear hi); have p71 : 0 ≤ ((l0_1.length : Int) : Int) := dT_; have q71 : ((l0_1.length : Int) : Int) < ((x8_3.length : Int) : Int) := dT_; obtain ⟨go71, co71, eo71, gb71, gl71, cl71, HG71⟩ := Kd.R_form HO_8.out (by omega); (first | cases eo71 | (injection eo71 with ea_ en_ ec_; (first | subst ea_ | (injection ea_ with ea_; subst ea_)); subst ec_; clear en_)); have GB71 := Aside0.mk gb71; have GG71 := Aside0.mk HG71; clear gb71 gl71 HG71; obtain ⟨ce71, hcl71, hM71, hcc71, hfr71⟩ := Kd.R_elem HO_8.out z67 ((l0_1.length : Int) : Int) p71 q71; obtain rfl := k67_openM hM71; have hx71_0 : w73.cell? ⟨go71, l0_1.length * 2, none⟩ = some (.int .i64 ((rd_T67 x8_3 (l0_1.length : Int)).f0)) := hcc71 0 _ rfl; have hx71_1 : w73.cell? ⟨go71, l0_1.length * 2 + 1, none⟩ = some (.int .i64 ((rd_T67 x8_3 (l0_1.length : Int)).f1)) := hcc71 1 _ rfl; have hf71_0 : w73.frozen? ⟨go71, l0_1.length * 2, none⟩ = false := hfr71 0; have hf71_1 : w73.frozen? ⟨go71, l0_1.length * 2 + 1, none⟩ = false := hfr71 1; (try clear hcl71 hcc71 hfr71 ); (try clear hM71); replace p71 := eq_true p71; replace q71 := eq_true q71; have HX74 := Aside0.mk (show Kd.R k67 67 w73 w.heap.size (fun _ => True) (.slice (some ⟨go71, 0, none⟩) x8_3.length co71) x8_3 from (by (with_reducible repeat (first | apply Kd.R_alloc | apply Kd.R_drewN | apply Kd.R_drew)); exact HO_8.out)); obtain ⟨ce74, hcl74, hM74, hcc74, hfr74⟩ := Kd.R_elem HX74.out z67 ((l0_1.length : Int) : Int) (dT_) (by have h_ : ((l0_1.length : Int) : Int) < ((x8_3.length : Int) : Int) := dT_; first | exact h_ | (have e_ := (Kd.R_reads' HO_8.out).1; omega) | simpa using h_); obtain rfl := k67_openM hM74; have HP74 := Kd.R_seg HX74.out ((l0_1.length : Int) : Int) (dT_) (by have h_ : ((l0_1.length : Int) : Int) < ((x8_3.length : Int) : Int) := dT_; first | exact h_ | (have e_ := (Kd.R_reads' HO_8.out).1; omega) | simpa using h_) (seg := [.int .i64 t303, .int .i64 t304]) (j := 0) hcl74 hcc74 (show 2 ≤ 2 from by decide) (x' := (⟨t303, t304⟩ : S67)) (k67_mkM _ _ _ (⟨t303, t304⟩ : S67) ) (fun _ hk => hk); have hx74_0 := hcc74 0 _ rfl; (try simp only [show (k67).sz = 2 from rfl, Nat.mul_one, Nat.add_zero] at hx74_0); have hf74_0 := hfr74 0; (try simp only [show (k67).sz = 2 from rfl, Nat.mul_one, Nat.add_zero] at hf74_0); have hx74_1 := hcc74 1 _ rfl; (try simp only [show (k67).sz = 2 from rfl, Nat.mul_one, Nat.add_zero] at hx74_1); have hf74_1 := hfr74 1; (try simp only [show (k67).sz = 2 from rfl, Nat.mul_one, Nat.add_zero] at hf74_1); (try clear hcl74 hcc74 hfr74 ); (try clear hM74)) | ((with_reducible refine gate_store (t := 67) (p := 78) rfl ?_); refine store_event (t := 67) (p := 78) (v := ?vo_w75) (w1 := ((w73.setCell ⟨go71, l0_1.length * 2, none⟩ (.int .i64 t303)).setCell ⟨go71, l0_1.length * 2 + 1, none⟩ (.int .i64 t304))) ?hg ?ho ?hn ?hr ?_; (case ho => rfl); (case hg => rfl); (case hn => rfl); (case hr => first | (go_simp; done) | (go_simp; rfl)); intro w75 hw; have hg : w73.grownBy w75 (some go71) := (by rw [hw]; exact HP74.2); have hp_ : Kd.R k67 67 w75 w.heap.size (fun _ => True) (.slice (some ⟨go71, 0, none⟩) x8_3.length co71) y305 := (by rw [hw, Ny305.out]; exact HP74.1); clear HP74; have n0_ := Aside0.mk (Kd.S_after (v := (.slice (some ⟨go71, 0, none⟩) x8_3.length co71)) (v1 := (.slice (some ⟨go71, 0, none⟩) x8_3.length co71)) (ok := (fun _ => True)) (by (with_reducible repeat (first | apply Kd.S_alloc | apply Kd.S_drewN | apply Kd.S_drew)); exact Kd.S_mono HO_6.out (fun _ hk => ⟨trivial, hk⟩)) hg (.inl rfl)); have n1_ := Aside0.mk (hp_); have n2_ := Aside0.mk (blk_grown (g := gb295) (o := .cells #[.int .i64 a0_0, .slice A0_1 l0_1.length c0_1] 29 (0, 0)) (by (with_reducible repeat (first | refine blk_drewN ?_ _ | refine blk_drew ?_ | refine blk_alloc ?_ _)); exact BK295.out) hg (Kd.R_ne HO_8.out BK295.out (by decide))); have n3_ := Aside0.mk ((by rw [hw]; exact below_set (below_set (HB.out) GB71.out) GB71.out : Below w.heap.size w w75)); clear HO_6; clear HO_8; clear BK295; clear HB; have HO_6 := n0_; have HO_8 := n1_; have BK295 := n2_; have HB := n3_; clear n0_ n1_ n2_ n3_; clear hg hw hp_) | ((with_reducible refine gate_builtin (b := .append) (xs := #[.tmp 79, .tmp 81]) rfl ?_); (try (refine gate_guard (by rfl) ?_; dsimp only)); at_builtin; refine Kd.S_append (Kd.slice 67 k67) (w0 := w) w.heap.size rfl (.tmp 79) (.tmp 81) 64 65 (.slice none 0 0) 24 rfl Try.underlying64 info65 rfl (by decide) (by omega) u6 x6_2 y305 [.slice (some ⟨go71, 0, none⟩) x8_3.length co71] (fun _ => True) (fun k_ => some k_ = (.slice (some ⟨go71, 0, none⟩) x8_3.length co71 : Value).ownBlock) rfl rfl ?aP (fun k_ hk_ => ((Kd.R_mono (ok' := fun k_ => ((fun _ => True)) k_ ∧ some k_ ≠ (u6 : Value).ownBlock) (Kd.R_apart' (HO_8.out) (Kd.S_typed HO_6.out) (by decide)) (fun k_ hk => ⟨trivial, hk.2⟩))).1 k_ hk_.symm) ?aF ?aO ?aB ?aS ?aL ?_; (case aP => exact Kd.M_row (Kd.R_mono (Kd.R_tight rfl (Kd.R_mono (ok' := fun k_ => ((fun _ => True)) k_ ∧ some k_ ≠ (u6 : Value).ownBlock) (Kd.R_apart' (HO_8.out) (Kd.S_typed HO_6.out) (by decide)) (fun k_ hk => ⟨trivial, hk.2⟩))) (fun _ h_ => h_))); (case aB => exact (by repeat (first | (with_reducible first | exact HB.out | apply below_alloc | apply pw_below_drewN | apply below_drew1 | refine below_set ?_ GE295.out) | exact HB.out))); (case aF => exact (fun _ _ => trivial)); (case aO => exact (by (with_reducible repeat (first | apply Kd.S_alloc | apply Kd.S_drewN | apply Kd.S_drew)); exact Kd.S_mono HO_6.out (fun k_ hk => ⟨trivial, fun e_ => hk.2 e_⟩))); (case aS => exact (below_size (by repeat (first | (with_reducible first | exact HB.out | apply below_alloc | apply pw_below_drewN | apply below_drew1 | refine below_set ?_ GE295.out) | exact HB.out)))); (case aL => have := LMc72.out; omega); intro v307 w76 ho hb hg hat; rw [← Ny306.out] at ho; have n0_ := Aside0.mk (blk_grown (g := gb295) (o := .cells #[.int .i64 a0_0, .slice A0_1 l0_1.length c0_1] 29 (0, 0)) (by (with_reducible repeat (first | refine blk_drewN ?_ _ | refine blk_drew ?_ | refine blk_alloc ?_ _)); exact BK295.out) hg (Kd.S_ne HO_6.out BK295.out (by decide))); have n1_ := Aside0.mk (hb); have n2_ := Aside0.mk (ho); clear BK295; clear HB; clear HO_6; clear HO_8; have BK295 := n0_; have HB := n1_; have HO308 := n2_; clear n0_ n1_ n2_; clear ho hb hg hat))
                       (first | go_roundg k3 | (try subst hji17; go_roundg k3))
                       case measure => have := HJ1.out; have := HK2.out; have := HK3.out; omega
                       case rel => exact ⟨(y306), (wrap64 (x30_2 + 1)), (by first | rfl | (simp; done) | (simp [*]; done)), H', ⟨by have := HJ1.out; have := HK2.out; have := HK3.out; omega⟩, ⟨by (with_reducible repeat (first | apply Kd.S_alloc | apply Kd.S_drewN | apply Kd.S_drew)); exact HO308.out⟩, ⟨by (with_reducible repeat (first | refine blk_drewN ?_ _ | refine blk_drew ?_ | refine blk_alloc ?_ _)); exact BK295.out⟩, ⟨by repeat (first | (with_reducible first | exact HB.out | apply below_alloc | apply pw_below_drewN | apply below_drew1 | refine below_set ?_ GE295.out) | exact HB.out)⟩⟩
                     · rw [if_neg c72] at H
                       exact absurd H (by simp)
                   · rw [if_neg c70] at H
                     exact absurd H (by simp)
                 · rw [if_neg c69] at H
                   exact absurd H (by simp)
           · rw [if_neg c19] at H
             exact absurd H (by simp)
         · rw [if_neg c18] at H
           exact absurd H (by simp)
       · rw [if_neg c16] at H
         have c16b0 : decide (x30_2 < (l0_1.length : Int)) = false := decide_eq_false c16
         clear c16
         obtain ⟨ji77, hji77⟩ : ∃ j_ : Int, (wrap64 ((l0_1.length : Int) - 1)) = j_ := ⟨_, rfl⟩
         replace H : (if 0 ≤ (ji77) then (if (ji77) < (x6_2.length : Int) then ((impl_whole.f 1).bind fun bt327 => (if 0 ≤ (l0_1.length : Int) then (if (l0_1.length : Int) < ((rd_L4 x6_2 (ji77)).length : Int) then ((impl_solved.f k2 (x6_2.set ((ji77) : Int).toNat ((rd_L4 x6_2 (ji77)).set ((l0_1.length : Int) : Int).toNat (⟨bt327.1, bt327.2⟩ : S67)))).bind fun t332 => (impl_SharesOfStates.l2 k2 t332 1 t332 (t332.length : Int) 0)) else (none)) else (none))) else (none)) else (none)) = some (r1, r2, r3) := by first | (rw [hji77] at H; exact H) | (simp only [hji77] at H ⊢; exact H)
         have hji77w : (IntKind.i64.wrap ((l0_1.length : Int) - 1)) = ji77 := (i64_w _).trans hji77
         by_cases c78 : 0 ≤ (ji77)
         · rw [if_pos c78] at H
           have c78b0 : decide (0 ≤ (ji77)) = true := decide_eq_true c78
           clear c78
           by_cases c79 : (ji77) < (x6_2.length : Int)
           · rw [if_pos c79] at H
             have c79b0 : decide ((ji77) < (x6_2.length : Int)) = true := decide_eq_true c79
             clear c79
             replace H := Option.bind_eq_some_iff.mp H
             obtain ⟨⟨t327, t328⟩, A800, H⟩ := H
             replace H : (if 0 ≤ (l0_1.length : Int) then (if (l0_1.length : Int) < ((rd_L4 x6_2 (ji77)).length : Int) then ((impl_solved.f k2 (x6_2.set ((ji77) : Int).toNat ((rd_L4 x6_2 (ji77)).set ((l0_1.length : Int) : Int).toNat (⟨t327, t328⟩ : S67)))).bind fun t332 => (impl_SharesOfStates.l2 k2 t332 1 t332 (t332.length : Int) 0)) else (none)) else (none)) = some (r1, r2, r3) := H
             have A80 := Aside0.mk A800
             clear A800
             by_cases c81 : 0 ≤ (l0_1.length : Int)
             · rw [if_pos c81] at H
               have c81b0 : decide (0 ≤ (l0_1.length : Int)) = true := decide_eq_true c81
               have c81b1 : decide (0 ≤ l0_1.length) = true := decide_eq_true (by omega)
               clear c81
               by_cases c82 : (l0_1.length : Int) < ((rd_L4 x6_2 (ji77)).length : Int)
               · rw [if_pos c82] at H
                 have c82b0 : decide ((l0_1.length : Int) < ((rd_L4 x6_2 (ji77)).length : Int)) = true := decide_eq_true c82
                 have c82b1 : decide (l0_1.length < (rd_L4 x6_2 (ji77)).length) = true := decide_eq_true (Int.ofNat_lt.mp c82)
                 clear c82
                 obtain ⟨y329, hy329⟩ : ∃ y_ : List (S67), y_ = ((rd_L4 x6_2 (ji77)).set ((l0_1.length : Int) : Int).toNat (⟨t327, t328⟩ : S67)) := ⟨_, rfl⟩
                 replace H : ((impl_solved.f k2 (x6_2.set ((ji77) : Int).toNat y329)).bind fun t332 => (impl_SharesOfStates.l2 k2 t332 1 t332 (t332.length : Int) 0)) = some (r1, r2, r3) := by first | (rw [hy329]; with_reducible exact H) | (have H2_ := (Option.bind_some _ _).symm.trans H; rw [hy329]; with_reducible exact H2_) | (have H2_ := (Option.bind_some _ _).symm.trans H; with_reducible exact H2_) | with_reducible exact H | (rw [hy329]; exact H) | exact H
                 have Ny329 := Aside0.mk hy329
                 clear hy329
                 obtain ⟨y331, hy331⟩ : ∃ y_ : List (List (S67)), y_ = (x6_2.set ((ji77) : Int).toNat y329) := ⟨_, rfl⟩
                 replace H : ((impl_solved.f k2 y331).bind fun t332 => (impl_SharesOfStates.l2 k2 t332 1 t332 (t332.length : Int) 0)) = some (r1, r2, r3) := by first | (rw [hy331]; with_reducible exact H) | (have H2_ := (Option.bind_some _ _).symm.trans H; rw [hy331]; with_reducible exact H2_) | (have H2_ := (Option.bind_some _ _).symm.trans H; with_reducible exact H2_) | with_reducible exact H | (rw [hy331]; exact H) | exact H
                 have Ny331 := Aside0.mk hy331
                 clear hy331
                 replace H := Option.bind_eq_some_iff.mp H
                 obtain ⟨t332, A840, H⟩ := H
                 replace H : (impl_SharesOfStates.l2 k2 t332 1 t332 (t332.length : Int) 0) = some (r1, r2, r3) := H
                 have A84 := Aside0.mk A840
                 clear A840
                 have H' := Aside0.mk H
                 clear H
                 try go_wp2
                 have n0_ := Aside0.mk (Kd.S_drew HO_6.out)
                 have n1_ := Aside0.mk (blk_drew BK295.out)
                 have n2_ := Aside0.mk (below_drew1 HB.out)
                 clear HO_6
                 clear BK295
                 clear HB
                 have HO_6 := n0_
                 have BK295 := n1_
                 have HB := n2_
                 clear n0_ n1_ n2_
                 obtain ⟨Ao86, co86, eo86⟩ := Kd.S_slice HO_6.out
                 (first | subst eo86 | (injection eo86 with f1_ f2_ f3_; have f4_ := f1_.symm; have f5_ := f3_.symm; clear f1_ f2_ f3_; subst f4_; subst f5_))
                 have p326 : 0 ≤ ((ji77) : Int) := dT_
                 have q326 : (ji77) < (x6_2.length : Int) := dT_
                 obtain ⟨ad326, A326_0, c326_0, e326, hx326_0, hl326_0, hi326_0⟩ := at_L4 (Kd.S_reads' HO_6.out).2.2 (ji77) p326 q326
                 cases e326
                 obtain ⟨ce326, hce326, hMe326, hcc326⟩ := Kd.S_get HO_6.out [] (ji77) p326 (by first | exact q326 | exact dT_ | (have e_ := (Kd.S_reads' HO_6.out).1; omega))
                 obtain ⟨ve326_0, rfl, ge326_0⟩ := hMe326
                 have hv326_0 := hcc326 0 _ rfl
                 rw [Nat.add_zero, show ((Kd.slice 67 k67)).sz = 1 from rfl, Nat.mul_one] at hv326_0
                 replace hv326_0 := Option.some.inj (hv326_0.symm.trans hx326_0)
                 rw [hv326_0] at ge326_0
                 have HL326_0 := Aside0.mk (show Kd.R k67 67 _ _ _ _ (rd_L4 x6_2 (ji77)) from ge326_0)
                 clear hv326_0 ge326_0
                 have HX326_0 := Aside0.mk hx326_0
                 clear hcc326 hce326
                 have HR326_0 := Aside0.mk hi326_0
                 have HC326_0 := Aside0.mk hl326_0
                 clear hi326_0 hl326_0
                 replace p326 := eq_true p326
                 replace q326 := eq_true q326
                 refine start_ (n := 9) (S := fun w' => w'.cell? (ad326.add ((ji77)).toNat) = some (.slice A326_0 (rd_L4 x6_2 (ji77)).length c326_0)) (ds := [8]) #[false, false, false, false, false, false, false, false, false] (by kernel_rfl) rfl rfl (hx326_0) (fun hHeld => ?_); refine with_tabW impl_SharesOfStates.tab21 impl_SharesOfStates.bits21 (fun HT_ HW_ => ?_)
                 generalize wr.drew = w85 at HO_6 BK295 HB HL326_0 HR326_0 HX326_0 hx326_0 hHeld ⊢
                 refine pure_ (i := 0) (N := some 84) (v := ?_) (a' := ?_) #[true, false, false, false, false, false, false, false, false] rfl rfl (any_of HT_.out (by kernel_rfl)) (fun _ _ _ h => h) (Or.inl ⟨by rfl, ?_⟩) ?_ ?_
                 rotate_left
                 · intro w'
                   go_simp
                   with_reducible rfl
                 rotate_left
                 · simp only [Act.put, List.setIfInBounds_toArray, List.set_cons_zero, List.set_cons_succ, i64_w, i32_w]
                   rfl
                 refine pure_ (i := 1) (N := some 85) (v := ?_) (a' := ?_) #[true, true, false, false, false, false, false, false, false] rfl rfl (any_of HT_.out (by kernel_rfl)) (fun _ _ _ h => h) (Or.inl ⟨by rfl, ?_⟩) ?_ ?_
                 rotate_left
                 · intro w'
                   go_simp
                   with_reducible rfl
                 rotate_left
                 · simp only [Act.put, List.setIfInBounds_toArray, List.set_cons_zero, List.set_cons_succ, i64_w, i32_w]
                   rfl
                 refine pure_ (i := 2) (N := some 86) (v := ?_) (a' := ?_) #[true, true, true, false, false, false, false, false, false] rfl rfl (any_of HT_.out (by kernel_rfl)) (fun _ _ _ h => h) (Or.inl ⟨by rfl, ?_⟩) ?_ ?_
                 rotate_left
                 · intro w'
                   go_simp
                   with_reducible rfl
                 rotate_left
                 · simp only [Act.put, List.setIfInBounds_toArray, List.set_cons_zero, List.set_cons_succ, i64_w, i32_w]
                   rfl
                 refine pure_ (i := 3) (N := some 87) (v := ?_) (a' := ?_) #[true, true, true, true, false, false, false, false, false] rfl rfl (any_of HT_.out (by kernel_rfl)) (fun _ _ _ h => h) (Or.inl ⟨by rfl, ?_⟩) ?_ ?_
                 rotate_left
                 · intro w'
                   go_simp
                   with_reducible rfl
                 rotate_left
                 · simp only [Act.put, List.setIfInBounds_toArray, List.set_cons_zero, List.set_cons_succ, i64_w, i32_w]
                   rfl
                 refine pure_ (i := 5) (N := some 89) (v := ?_) (a' := ?_) #[true, true, true, true, false, true, false, false, false] rfl rfl (any_of HT_.out (by kernel_rfl)) (fun _ _ _ h => h) (Or.inl ⟨by rfl, ?_⟩) ?_ ?_
                 rotate_left
                 · intro w'
                   go_simp
                   with_reducible rfl
                 rotate_left
                 · simp only [Act.put, List.setIfInBounds_toArray, List.set_cons_zero, List.set_cons_succ, i64_w, i32_w]
                   rfl
                 refine take_ (i := 4) (N := some 88) (v := ?_) (a' := ?_) #[true, true, true, true, true, true, false, false, false] rfl rfl (take_ofW HT_.out HW_.out (by kernel_rfl)) (fun _ _ _ h => h) (Or.inl ⟨by rfl, ?_⟩) hHeld ?_ ?_
                 rotate_left
                 · intro w' s0
                   go_simp
                   with_reducible rfl
                 rotate_left
                 · simp only [Act.put, List.setIfInBounds_toArray, List.set_cons_zero, List.set_cons_succ, i64_w, i32_w]
                   rfl
                 refine one_ (i := 6) (N := some 90) #[true, true, true, true, true, true, true, false, false] rfl rfl (one_of HT_.out (by kernel_rfl)) (by decide) (fun K hK => ?_)
                 refine goes_ Try.func58 (by kernel_rfl) rfl #[.int .i64 1] (by rfl) rfl rfl (by (try simp only [List.map_toArray, List.map_cons, List.map_nil]); first | done | rfl | (simp only [List.length_drop, List.length_take]; rfl)) ?_
                 with_reducible refine (impl_whole.calls 1 t327 t328 _ A80.out).mono ?_
                 rintro e w87 ⟨rfl, hb⟩
                 have HS0_ := (hb.cell (World.block_lt_of_cell? _ _ (hHeld))).trans (hHeld)
                 refine ⟨_, rfl, ?_⟩
                 have n0_ := Aside0.mk (Kd.S_below (by (with_reducible repeat (first | apply Kd.S_alloc | apply Kd.S_drewN | apply Kd.S_drew)); exact HO_6.out) hb)
                 have n1_ := Aside0.mk (Kd.R_below (by (with_reducible repeat (first | apply Kd.R_alloc | apply Kd.R_drewN | apply Kd.R_drew)); exact HL326_0.out) hb)
                 have n2_ := Aside0.mk (blk_below (g := gb295) (o := .cells #[.int .i64 a0_0, .slice A0_1 l0_1.length c0_1] 29 (0, 0)) (by (with_reducible repeat (first | refine blk_drewN ?_ _ | refine blk_drew ?_ | refine blk_alloc ?_ _)); exact BK295.out) hb)
                 have n3_ := Aside0.mk (Kd.C_below (by repeat (first | (with_reducible exact HR326_0.out) | (with_reducible refine Kd.C_alloc ?_ _) | (with_reducible refine Kd.C_drewN ?_ _) | (with_reducible refine Kd.C_drew ?_) | exact HR326_0.out)) hb)
                 have n4_ := Aside0.mk (pw_cell_below hb HX326_0.out)
                 have n5_ := Aside0.mk (below_step (by repeat (first | (with_reducible first | exact HB.out | apply below_alloc | apply pw_below_drewN | apply below_drew1 | refine below_set ?_ GE295.out) | exact HB.out)) hb)
                 clear HO_6
                 clear HL326_0
                 clear BK295
                 clear HR326_0
                 clear HX326_0
                 clear HB
                 have HO_6 := n0_
                 have HL326_0 := n1_
                 have BK295 := n2_
                 have HR326_0 := n3_
                 have HX326_0 := n4_
                 have HB := n5_
                 clear n0_ n1_ n2_ n3_ n4_ n5_
                 (try clear hb)
                 (try clear hb2)
                 (try clear hk)
                 (try clear hi)
                 have p83 : 0 ≤ ((l0_1.length : Int) : Int) := dT_
                 have q83 : ((l0_1.length : Int) : Int) < (((rd_L4 x6_2 (ji77)).length : Int) : Int) := dT_
                 obtain ⟨go83, co83, eo83, gb83, gl83, cl83, HG83⟩ := Kd.R_form HL326_0.out (by omega)
                 (first | cases eo83 | (injection eo83 with ea_ en_ ec_; (first | subst ea_ | (injection ea_ with ea_; subst ea_)); subst ec_; clear en_))
                 have GB83 := Aside0.mk gb83
                 have GG83 := Aside0.mk HG83
                 clear gb83 gl83 HG83
                 obtain ⟨ce83, hcl83, hM83, hcc83, hfr83⟩ := Kd.R_elem HL326_0.out z67 ((l0_1.length : Int) : Int) p83 q83
                 obtain rfl := k67_openM hM83
                 have hx83_0 : World.cell? _ ⟨go83, l0_1.length * 2, none⟩ = some (.int .i64 ((rd_T67 (rd_L4 x6_2 (ji77)) (l0_1.length : Int)).f0)) := hcc83 0 _ rfl
                 have hx83_1 : World.cell? _ ⟨go83, l0_1.length * 2 + 1, none⟩ = some (.int .i64 ((rd_T67 (rd_L4 x6_2 (ji77)) (l0_1.length : Int)).f1)) := hcc83 1 _ rfl
                 have hf83_0 : World.frozen? _ ⟨go83, l0_1.length * 2, none⟩ = false := hfr83 0
                 have hf83_1 : World.frozen? _ ⟨go83, l0_1.length * 2 + 1, none⟩ = false := hfr83 1
                 (try clear hcl83 hcc83 hfr83 ); (try clear hM83)
                 replace p83 := eq_true p83
                 replace q83 := eq_true q83
                 have hq88 : ((ji77) : Int) < (x6_2.length : Int) := (by have h_ : ((ji77) : Int) < ((x6_2.length : Int) : Int) := dT_; first | exact h_ | (have e_ := (Kd.S_reads' HO_6.out).1; omega) | simpa only [List.length_set, List.length_set] using h_)
                 obtain ⟨oki88, ce88, hcl88, hM88, hcc88, hok88, hbk88⟩ := Kd.S_borrow HO_6.out [] ((ji77) : Int) (dT_) hq88
                 obtain ⟨ve88_0, rfl, ge88_0⟩ := hM88
                 have hv88 := hcc88 0 _ rfl
                 rw [Nat.add_zero, show ((Kd.slice 67 k67)).sz = 1 from rfl, Nat.mul_one] at hv88
                 replace hv88 := Option.some.inj (hv88.symm.trans HX326_0.out)
                 subst hv88
                 clear hcc88 hcl88
                 replace ge88_0 := (show Kd.R k67 67 _ _ _ _ (rd_L4 x6_2 (ji77)) from ge88_0)
                 obtain ⟨cf88, hcl88, hN88, hcc88, hfr88⟩ := Kd.R_elem ge88_0 z67 ((l0_1.length : Int) : Int) (dT_) (by have h_ : ((l0_1.length : Int) : Int) < (((rd_L4 x6_2 (ji77)).length : Int) : Int) := dT_; first | exact h_ | (have e_ := (Kd.R_reads' HR326_0.out).1; omega) | simpa using h_)
                 obtain rfl := k67_openM hN88
                 have HP88 := Kd.R_seg ge88_0 ((l0_1.length : Int) : Int) (dT_) (by have h_ : ((l0_1.length : Int) : Int) < (((rd_L4 x6_2 (ji77)).length : Int) : Int) := dT_; first | exact h_ | (have e_ := (Kd.R_reads' HR326_0.out).1; omega) | simpa using h_) (seg := [.int .i64 t327, .int .i64 t328]) (j := 0) hcl88 hcc88 (show 2 ≤ 2 from by decide) (x' := (⟨t327, t328⟩ : S67)) (k67_mkM _ _ _ (⟨t327, t328⟩ : S67)) (fun _ hk => hk)
                 clear hcl88 hcc88 hfr88 hN88
                 rw [← Ny329.out] at HP88
                 have HS88 := hbk88 HP88.2 (fun k_ e_ => by injection e_ with e_; subst e_; exact ge88_0.1 _ rfl) (x' := y329) (Kd.M_row HP88.1)
                 rw [← Ny331.out] at HS88
                 have HQ88 := Aside0.mk HS88
                 clear HP88 HS88 hbk88 hok88
                 refine hK.out _ _ (HS0_) (fun hHeld => ?_)
                 clear hK K
                 refine norm_ (a' := ?_) ?_ ?_
                 rotate_left
                 · show Act.put _ (some 90) _ = _
                   simp only [Act.put, List.setIfInBounds_toArray, List.set_cons_zero, List.set_cons_succ, i64_w, i32_w]
                   rfl
                 refine pure_ (i := 7) (N := some 91) (v := ?_) (a' := ?_) #[true, true, true, true, true, true, true, true, false] rfl rfl (any_of HT_.out (by kernel_rfl)) (fun _ _ _ h => h) (Or.inl ⟨by rfl, ?_⟩) ?_ ?_
                 rotate_left
                 · intro w'
                   go_simp
                   with_reducible rfl
                 rotate_left
                 · simp only [Act.put, List.setIfInBounds_toArray, List.set_cons_zero, List.set_cons_succ, i64_w, i32_w]
                   rfl
                 refine last_ (i := 8) (N := none) #[true, true, true, true, true, true, true, true, true] rfl rfl (one_of HT_.out (by kernel_rfl)) (by decide) (fun K hK => ?_)
                 refine skip_ (w1 := ?_) (by rfl) rfl ?_ ?_
                 rotate_left
                 · go_simp
                   rfl
                 refine hK.out _ _ ?_
                 clear hK K
                 refine done_ (done_of HT_.out (by kernel_rfl)) ?_
                 have n0_ : Aside0 (Kd.S (Kd.slice 67 k67) 65 ((w87.setCell ⟨go83, l0_1.length * 2, none⟩ (.int .i64 t327)).setCell ⟨go83, l0_1.length * 2 + 1, none⟩ (.int .i64 t328)) w.heap.size (fun _ => True) (.slice (some ad326) x6_2.length co86) y331) := ⟨by (with_reducible repeat (first | apply Kd.S_alloc | apply Kd.S_drewN | apply Kd.S_drew)); exact HQ88.out⟩
                 have n1_ : Aside0 (((w87.setCell ⟨go83, l0_1.length * 2, none⟩ (.int .i64 t327)).setCell ⟨go83, l0_1.length * 2 + 1, none⟩ (.int .i64 t328)).heap[gb295]? = some (.cells #[.int .i64 a0_0, .slice A0_1 l0_1.length c0_1] 29 (0, 0))) := ⟨by (with_reducible repeat (first | refine blk_drewN ?_ _ | refine blk_drew ?_ | refine blk_alloc ?_ _)); refine blk_far ?_ (by have h_ := Kd.R_ne HL326_0.out BK295.out (by decide); intro e_; exact h_ (by rw [e_]; rfl)) _; (with_reducible repeat (first | refine blk_drewN ?_ _ | refine blk_drew ?_ | refine blk_alloc ?_ _)); refine blk_far ?_ (by have h_ := Kd.R_ne HL326_0.out BK295.out (by decide); intro e_; exact h_ (by rw [e_]; rfl)) _; (with_reducible repeat (first | refine blk_drewN ?_ _ | refine blk_drew ?_ | refine blk_alloc ?_ _)); exact BK295.out⟩
                 have n2_ : Aside0 (Below w.heap.size w ((w87.setCell ⟨go83, l0_1.length * 2, none⟩ (.int .i64 t327)).setCell ⟨go83, l0_1.length * 2 + 1, none⟩ (.int .i64 t328))) := ⟨by repeat (first | (with_reducible first | exact HB.out | apply below_alloc | apply pw_below_drewN | apply below_drew1 | refine below_set ?_ GB83.out | refine below_set ?_ GB83.out | refine below_set ?_ GE295.out) | exact HB.out)⟩
                 (try clear HO_6)
                 (try clear BK295)
                 (try clear HB)
                 generalize ((w87.setCell ⟨go83, l0_1.length * 2, none⟩ (.int .i64 t327)).setCell ⟨go83, l0_1.length * 2 + 1, none⟩ (.int .i64 t328)) = w90 at n0_ n1_ n2_ ⊢
                 have HO_6 := n0_
                 have BK295 := n1_
                 have HB := n2_
                 clear n0_ n1_ n2_
                 try go_wp2_with (first | ((with_reducible refine gate_callee (f := 59) rfl ?_); refine goesL_ (some 93) rfl rfl Try.func59 (by kernel_rfl) rfl #[.slice (some ad326) x6_2.length co86] rfl (by (try simp only [List.map_toArray, List.map_cons, List.map_nil]); first | done | rfl | (simp only [List.length_drop, List.length_take]; rfl)) ?_; (with_reducible refine (impl_solved.calls k2 (fun k_ => (True ∧ k_ ≠ gb295)) (.slice (some ad326) x6_2.length co86) y331 t332 w _ ?side1 ?side2 A84.out).mono ?_); (case side1 => repeat (first | (with_reducible first | exact HB.out | apply below_alloc | apply pw_below_drewN | apply below_drew1 | refine below_set ?_ GE295.out) | exact HB.out)); (case side2 => exact Kd.S_types (HO_6.out) BK295.out (by decide)); rintro e w91 ⟨v333, rfl, ho0, hb, hkp⟩; refine ⟨_, rfl, ?_⟩; have n0_ := Aside0.mk (blk_kept (by (with_reducible repeat (first | refine blk_drewN ?_ _ | refine blk_drew ?_ | refine blk_alloc ?_ _)); exact BK295.out) hkp (fun hs_ => (fun e_ => (e_.2) rfl) hs_)); have n1_ := Aside0.mk (Kd.R_mono (ok' := fun k_ => True) ho0 (fun k_ hk_ => trivial)); have n2_ := Aside0.mk (hb); clear BK295; clear HB; clear HO_6; have BK295 := n0_; have HO334 := n1_; have HB := n2_; clear n0_ n1_ n2_; (try clear hb); (try clear hkp); (try clear ho0); obtain ⟨Ao92, co92, eo92⟩ := Kd.R_slice HO334.out; subst eo92))
                 go_loopg [11, 96] k2 (fun kq v11 v96 w' => ∃ (x11_3 : Int) (x96_3 : Int), v11 = .int .i64 x11_3 ∧ v96 = .int .i64 x96_3 ∧ Aside0 (impl_SharesOfStates.l2 kq t332 x11_3 t332 (t332.length : Int) x96_3 = some (r1, r2, r3)) ∧ Aside0 (kq ≤ k2) ∧ Aside0 (Kd.R k67 67 w' w.heap.size (fun _ => True) (.slice Ao92 t332.length co92) t332) ∧ Aside0 (Kd.R k67 67 w' w.heap.size (fun _ => True) (.slice Ao92 t332.length co92) t332) ∧ Aside0 (w'.heap[gb295]? = some (.cells #[.int .i64 a0_0, (.slice A0_1 l0_1.length c0_1)] 29 (0, 0))) ∧ Aside0 (Below w.heap.size w w'))
                 case atStart => exact ⟨(1), (0), (by first | rfl | (simp; done) | (simp [*]; done)), (by first | rfl | (simp; done) | (simp [*]; done)), H', ⟨Nat.le_refl _⟩, ⟨by (with_reducible repeat (first | apply Kd.R_alloc | apply Kd.R_drewN | apply Kd.R_drew)); exact HO334.out⟩, ⟨by (with_reducible repeat (first | apply Kd.R_alloc | apply Kd.R_drewN | apply Kd.R_drew)); exact HO334.out⟩, ⟨by (with_reducible repeat (first | refine blk_drewN ?_ _ | refine blk_drew ?_ | refine blk_alloc ?_ _)); exact BK295.out⟩, ⟨by repeat (first | (with_reducible first | exact HB.out | apply below_alloc | apply pw_below_drewN | apply below_drew1 | refine below_set ?_ GE295.out) | exact HB.out)⟩⟩
                 case round =>
                  clear H'
                  try clear c1
                  try clear c2
                  try clear p2
                  try clear q2
                  try clear hx2
                  try clear hf2
                  try clear c3
                  try clear p3
                  try clear q3
                  try clear hx3
                  try clear c5
                  try clear p5
                  try clear q5
                  try clear hx5
                  try clear hf5
                  try clear c6
                  try clear p6
                  try clear hx6
                  try clear hf6
                  try clear c7
                  try clear p7
                  try clear q7
                  try clear hx7
                  try clear hf7
                  try clear c8
                  try clear p8
                  try clear q8
                  try clear hx8
                  try clear hf8
                  try clear c16
                  try clear c16b0
                  try clear c18
                  try clear c19
                  try clear c22
                  try clear c22b0
                  try clear c23
                  try clear c24
                  try clear c25
                  try clear c26
                  try clear c28
                  try clear c29
                  try clear p29
                  try clear q29
                  try clear hx29
                  try clear hf29
                  try clear c30
                  try clear p30
                  try clear q30
                  try clear hx30
                  try clear p31
                  try clear q31
                  try clear hx31
                  try clear c32
                  try clear p32
                  try clear q32
                  try clear hx32
                  try clear c56
                  try clear c56b0
                  try clear c56b1
                  try clear c58
                  try clear p58
                  try clear q58
                  try clear hx58
                  try clear hf58
                  try clear c59
                  try clear c61
                  try clear c63
                  try clear hx63
                  try clear hf63
                  try clear p64
                  try clear c67
                  try clear c69
                  try clear c69b0
                  try clear c69b1
                  try clear c70
                  try clear c70b0
                  try clear c70b1
                  try clear c71
                  try clear p71
                  try clear q71
                  try clear hx71
                  try clear hf71
                  try clear c72
                  try clear c74
                  try clear hx74
                  try clear hf74
                  try clear c78
                  try clear c78b0
                  try clear c79
                  try clear c79b0
                  try clear c81
                  try clear c81b0
                  try clear c81b1
                  try clear c82
                  try clear c82b0
                  try clear c82b1
                  try clear c83
                  try clear p83
                  try clear q83
                  try clear hx83
                  try clear hf83
                  try clear c88
                  try clear q88
                  try clear hx29_0
                  try clear hx29_1
                  try clear hx309_0
                  try clear hx310_0
                  try clear hx326_0
                  try clear hx58_0
                  try clear hx58_1
                  try clear hx63_0
                  try clear hx63_1
                  try clear hx71_0
                  try clear hx71_1
                  try clear hx74_0
                  try clear hx74_1
                  try clear hx83_0
                  try clear hx83_1
                  try clear p29
                  try clear p309
                  try clear p310
                  try clear p326
                  try clear p58
                  try clear p71
                  try clear p83
                  try clear q29
                  try clear q309
                  try clear q310
                  try clear q326
                  try clear q58
                  try clear q71
                  try clear q83
                  obtain ⟨x11_3, x96_3, rfl, rfl, HA, HK3, HO_10, HO_94, BK295, HB⟩ := hrel
                  cases gk with
                  | zero => exact absurd HA.out (by simp [impl_SharesOfStates.l2])
                  | succ k3 =>
                   have H := HA.out
                   clear HA
                   simp only [impl_SharesOfStates.l2] at H
                   by_cases c93 : x96_3 < (t332.length : Int)
                   · rw [if_pos c93] at H
                     have c93b0 : decide (x96_3 < (t332.length : Int)) = true := decide_eq_true c93
                     clear c93
                     by_cases c94 : 0 ≤ x96_3
                     · rw [if_pos c94] at H
                       have c94b0 : decide (0 ≤ x96_3) = true := decide_eq_true c94
                       clear c94
                       by_cases c95 : x96_3 < (t332.length : Int)
                       · rw [if_pos c95] at H
                         have c95b0 : decide (x96_3 < (t332.length : Int)) = true := decide_eq_true c95
                         clear c95
                         replace H := Option.bind_eq_some_iff.mp H
                         obtain ⟨t337, A960, H⟩ := H
                         replace H : (if t337 = 0 then (none) else (impl_SharesOfStates.l2 k3 t332 (wrap64 ((wrap64 (Int.tdiv x11_3 t337)) * ((rd_T67 t332 x96_3).f1))) t332 (t332.length : Int) (wrap64 (x96_3 + 1)))) = some (r1, r2, r3) := H
                         have A96 := Aside0.mk A960
                         clear A960
                         by_cases c97 : t337 = 0
                         · rw [if_pos c97] at H
                           exact absurd H (by simp)
                         · rw [if_neg c97] at H
                           have c97b0 : (t337 == 0) = false := beq_eq_false_iff_ne.mpr c97
                           have c97b1 : (t337 != 0) = true := bne_iff_ne.mpr c97
                           have H' := Aside0.mk H
                           clear H
                           have p335 : 0 ≤ (x96_3 : Int) := dT_
                           have q335 : x96_3 < (t332.length : Int) := dT_
                           obtain ⟨ad335, e335, hx335_0, hx335_1⟩ := at_T67 (Kd.R_reads' HO_94.out).2.2 x96_3 p335 q335
                           cases e335
                           replace p335 := eq_true p335
                           replace q335 := eq_true q335
                           try go_wp2_with (first | ((with_reducible refine gate_dst (N := 13) rfl ?_); (try (refine gate_guard (by rfl) ?_; dsimp only)); refine box_event ?hg (N := 13) ?hd (cs := #[.int .i64 0, .int .i64 0]) (t := 67) ?hr ?_; (case hd => rfl); (case hg => rfl); (case hr => first | (go_simp; done) | (go_simp; rfl)); intro gb336 hg w98 hbox hb; have n0_ := Aside0.mk (Kd.R_below (Kd.R_elderB (by (with_reducible repeat (first | apply Kd.R_alloc | apply Kd.R_drewN | apply Kd.R_drew)); exact HO_10.out) gb336 (Nat.le_of_eq hg.symm)) hb); have n1_ := Aside0.mk (Kd.R_below (Kd.R_elderB (by (with_reducible repeat (first | apply Kd.R_alloc | apply Kd.R_drewN | apply Kd.R_drew)); exact HO_94.out) gb336 (Nat.le_of_eq hg.symm)) hb); have n2_ := Aside0.mk (blk_below (g := gb295) (o := .cells #[.int .i64 a0_0, .slice A0_1 l0_1.length c0_1] 29 (0, 0)) (by (with_reducible repeat (first | refine blk_drewN ?_ _ | refine blk_drew ?_ | refine blk_alloc ?_ _)); exact BK295.out) hb); have n3_ := Aside0.mk (below_step (by repeat (first | (with_reducible first | exact HB.out | apply below_alloc | apply pw_below_drewN | apply below_drew1 | refine below_set ?_ GE295.out) | exact HB.out)) hb); have n4_ := Aside0.mk (hbox); have n5_ := Aside0.mk ((by rw [hg]; exact (below_size (by repeat (first | (with_reducible first | exact HB.out | apply below_alloc | apply pw_below_drewN | apply below_drew1 | refine below_set ?_ GE295.out) | exact HB.out))) : w.heap.size ≤ gb336)); have n6_ := Aside0.mk ((by rw [hg]; exact (below_size (by repeat (first | (with_reducible first | exact HB.out | apply below_alloc | apply pw_below_drewN | apply below_drew1 | refine below_set ?_ GE295.out) | exact HB.out))) : w.heap.size ≤ gb336)); have n7_ := Aside0.mk ((by rw [hg]; exact Nat.ne_of_lt (blk_lt (g := gb295) (o := .cells #[.int .i64 a0_0, .slice A0_1 l0_1.length c0_1] 29 (0, 0)) (by (with_reducible repeat (first | refine blk_drewN ?_ _ | refine blk_drew ?_ | refine blk_alloc ?_ _)); exact BK295.out)) : gb295 ≠ gb336)); have n8_ := Aside0.mk ((by rw [hg]; exact Nat.ne_of_gt (blk_lt (g := gb295) (o := .cells #[.int .i64 a0_0, .slice A0_1 l0_1.length c0_1] 29 (0, 0)) (by (with_reducible repeat (first | refine blk_drewN ?_ _ | refine blk_drew ?_ | refine blk_alloc ?_ _)); exact BK295.out)) : gb336 ≠ gb295)); clear HO_10; clear HO_94; clear BK295; clear HB; have HO_10 := n0_; have HO_94 := n1_; have BK295 := n2_; have HB := n3_; have BK336 := n4_; have GW336 := n5_; have GE336 := n6_; have NB295_336 := n7_; have NB336_295 := n8_; clear n0_ n1_ n2_ n3_ n4_ n5_ n6_ n7_ n8_; clear hb hbox hg; have hnb99 := NB336_295.out; have hnc99 := NB295_336.out; have hcz100_0 : w98.cell? ⟨gb336, 0, none⟩ = some (.int .i64 0) := (blk_cell BK336.out 0).trans rfl; have hcz100_1 : w98.cell? ⟨gb336, 1, none⟩ = some (.int .i64 0) := (blk_cell BK336.out 1).trans rfl; have hfz100_0 := blk_frozen BK336.out 0; have hfz100_1 := blk_frozen BK336.out 1))
                           have n0_ : Aside0 (Kd.R k67 67 ((w98.setCell ⟨gb336, 0, none⟩ (.int .i64 ((rd_T67 t332 x96_3).f0))).setCell ⟨gb336, 1, none⟩ (.int .i64 ((rd_T67 t332 x96_3).f1))) w.heap.size (fun k_ => k_ ≠ gb336) (.slice (some ad335) t332.length co92) t332) := ⟨by (with_reducible repeat (first | apply Kd.R_alloc | apply Kd.R_drewN | apply Kd.R_drew)); exact Kd.R_mono (Kd.R_far (p := ⟨gb336, 1, none⟩) (Kd.R_far (p := ⟨gb336, 0, none⟩) (Kd.R_mono HO_10.out (fun k_ hk => (⟨hk, hk.2⟩ : _ ∧ k_ ≠ gb336))) (fun _ hk => hk.2) (.int .i64 ((rd_T67 t332 x96_3).f0))) (fun _ hk => hk.2) (.int .i64 ((rd_T67 t332 x96_3).f1))) (fun _ hk => hk.1.2)⟩
                           have n1_ : Aside0 (Kd.R k67 67 ((w98.setCell ⟨gb336, 0, none⟩ (.int .i64 ((rd_T67 t332 x96_3).f0))).setCell ⟨gb336, 1, none⟩ (.int .i64 ((rd_T67 t332 x96_3).f1))) w.heap.size (fun k_ => k_ ≠ gb336) (.slice (some ad335) t332.length co92) t332) := ⟨by (with_reducible repeat (first | apply Kd.R_alloc | apply Kd.R_drewN | apply Kd.R_drew)); exact Kd.R_mono (Kd.R_far (p := ⟨gb336, 1, none⟩) (Kd.R_far (p := ⟨gb336, 0, none⟩) (Kd.R_mono HO_94.out (fun k_ hk => (⟨hk, hk.2⟩ : _ ∧ k_ ≠ gb336))) (fun _ hk => hk.2) (.int .i64 ((rd_T67 t332 x96_3).f0))) (fun _ hk => hk.2) (.int .i64 ((rd_T67 t332 x96_3).f1))) (fun _ hk => hk.1.2)⟩
                           have n2_ : Aside0 (((w98.setCell ⟨gb336, 0, none⟩ (.int .i64 ((rd_T67 t332 x96_3).f0))).setCell ⟨gb336, 1, none⟩ (.int .i64 ((rd_T67 t332 x96_3).f1))).heap[gb295]? = some (.cells #[.int .i64 a0_0, .slice A0_1 l0_1.length c0_1] 29 (0, 0))) := ⟨by (with_reducible repeat (first | refine blk_drewN ?_ _ | refine blk_drew ?_ | refine blk_alloc ?_ _)); refine blk_far ?_ NB295_336.out _; (with_reducible repeat (first | refine blk_drewN ?_ _ | refine blk_drew ?_ | refine blk_alloc ?_ _)); refine blk_far ?_ NB295_336.out _; (with_reducible repeat (first | refine blk_drewN ?_ _ | refine blk_drew ?_ | refine blk_alloc ?_ _)); exact BK295.out⟩
                           have n3_ : Aside0 (((w98.setCell ⟨gb336, 0, none⟩ (.int .i64 ((rd_T67 t332 x96_3).f0))).setCell ⟨gb336, 1, none⟩ (.int .i64 ((rd_T67 t332 x96_3).f1))).heap[gb336]? = some (.cells #[.int .i64 ((rd_T67 t332 x96_3).f0), .int .i64 ((rd_T67 t332 x96_3).f1)] 67 (0, 0))) := ⟨by (with_reducible repeat (first | refine blk_drewN ?_ _ | refine blk_drew ?_ | refine blk_alloc ?_ _)); refine blk_put (cs := #[.int .i64 ((rd_T67 t332 x96_3).f0), .int .i64 0]) ?_ 1 _ rfl; (with_reducible repeat (first | refine blk_drewN ?_ _ | refine blk_drew ?_ | refine blk_alloc ?_ _)); refine blk_put (cs := #[.int .i64 0, .int .i64 0]) ?_ 0 _ rfl; (with_reducible repeat (first | refine blk_drewN ?_ _ | refine blk_drew ?_ | refine blk_alloc ?_ _)); exact BK336.out⟩
                           have n4_ : Aside0 (Below w.heap.size w ((w98.setCell ⟨gb336, 0, none⟩ (.int .i64 ((rd_T67 t332 x96_3).f0))).setCell ⟨gb336, 1, none⟩ (.int .i64 ((rd_T67 t332 x96_3).f1)))) := ⟨by repeat (first | (with_reducible first | exact HB.out | apply below_alloc | apply pw_below_drewN | apply below_drew1 | refine below_set ?_ GE295.out | refine below_set ?_ GE336.out) | exact HB.out)⟩
                           (try clear HO_10)
                           (try clear HO_94)
                           (try clear BK295)
                           (try clear BK336)
                           (try clear HB)
                           generalize ((w98.setCell ⟨gb336, 0, none⟩ (.int .i64 ((rd_T67 t332 x96_3).f0))).setCell ⟨gb336, 1, none⟩ (.int .i64 ((rd_T67 t332 x96_3).f1))) = w101 at n0_ n1_ n2_ n3_ n4_ ⊢
                           have HO_10 := n0_
                           have HO_94 := n1_
                           have BK295 := n2_
                           have BK336 := n3_
                           have HB := n4_
                           clear n0_ n1_ n2_ n3_ n4_
                           have n0_ := Aside0.mk (Kd.R_drew HO_10.out)
                           have n1_ := Aside0.mk (Kd.R_drew HO_94.out)
                           have n2_ := Aside0.mk (blk_drew BK295.out)
                           have n3_ := Aside0.mk (blk_drew BK336.out)
                           have n4_ := Aside0.mk (below_drew1 HB.out)
                           clear HO_10
                           clear HO_94
                           clear BK295
                           clear BK336
                           clear HB
                           have HO_10 := n0_
                           have HO_94 := n1_
                           have BK295 := n2_
                           have BK336 := n3_
                           have HB := n4_
                           clear n0_ n1_ n2_ n3_ n4_
                           refine start_ (n := 10) (S := fun w' => w'.cell? ⟨gb336, 0, none⟩ = some (.int .i64 ((rd_T67 t332 x96_3).f0)) ∧ w'.cell? ⟨gb336, 1, none⟩ = some (.int .i64 ((rd_T67 t332 x96_3).f1))) (ds := []) #[false, false, false, false, false, false, false, false, false, false] (by kernel_rfl) rfl rfl ⟨(blk_cell BK336.out 0).trans rfl, (blk_cell BK336.out 1).trans rfl⟩ (fun hHeld => ?_); refine with_tabW impl_SharesOfStates.tab27 impl_SharesOfStates.bits27 (fun HT_ HW_ => ?_)
                           generalize w101.drew = w102 at HO_10 HO_94 BK295 BK336 HB hHeld ⊢
                           refine pure_ (i := 0) (N := some 100) (v := ?_) (a' := ?_) #[true, false, false, false, false, false, false, false, false, false] rfl rfl (any_of HT_.out (by kernel_rfl)) (fun _ _ _ h => h) (Or.inl ⟨by rfl, ?_⟩) ?_ ?_
                           rotate_left
                           · intro w'
                             go_simp
                             with_reducible rfl
                           rotate_left
                           · simp only [Act.put, List.setIfInBounds_toArray, List.set_cons_zero, List.set_cons_succ, i64_w, i32_w]
                             rfl
                           refine pure_ (i := 1) (N := some 101) (v := ?_) (a' := ?_) #[true, true, false, false, false, false, false, false, false, false] rfl rfl (any_of HT_.out (by kernel_rfl)) (fun _ _ _ h => h) (Or.inl ⟨by rfl, ?_⟩) ?_ ?_
                           rotate_left
                           · intro w'
                             go_simp
                             with_reducible rfl
                           rotate_left
                           · simp only [Act.put, List.setIfInBounds_toArray, List.set_cons_zero, List.set_cons_succ, i64_w, i32_w]
                             rfl
                           refine pure_ (i := 2) (N := some 102) (v := ?_) (a' := ?_) #[true, true, true, false, false, false, false, false, false, false] rfl rfl (any_of HT_.out (by kernel_rfl)) (fun _ _ _ h => h) (Or.inl ⟨by rfl, ?_⟩) ?_ ?_
                           rotate_left
                           · intro w'
                             go_simp
                             with_reducible rfl
                           rotate_left
                           · simp only [Act.put, List.setIfInBounds_toArray, List.set_cons_zero, List.set_cons_succ, i64_w, i32_w]
                             rfl
                           refine pure_ (i := 6) (N := some 106) (v := ?_) (a' := ?_) #[true, true, true, false, false, false, true, false, false, false] rfl rfl (any_of HT_.out (by kernel_rfl)) (fun _ _ _ h => h) (Or.inl ⟨by rfl, ?_⟩) ?_ ?_
                           rotate_left
                           · intro w'
                             go_simp
                             with_reducible rfl
                           rotate_left
                           · simp only [Act.put, List.setIfInBounds_toArray, List.set_cons_zero, List.set_cons_succ, i64_w, i32_w]
                             rfl
                           refine take_ (i := 3) (N := some 103) (v := ?_) (a' := ?_) #[true, true, true, true, false, false, true, false, false, false] rfl rfl (take_ofW HT_.out HW_.out (by kernel_rfl)) (fun _ _ _ h => h) (Or.inl ⟨by rfl, ?_⟩) hHeld ?_ ?_
                           rotate_left
                           · rintro w' ⟨s0, s1⟩
                             go_simp
                             with_reducible rfl
                           rotate_left
                           · simp only [Act.put, List.setIfInBounds_toArray, List.set_cons_zero, List.set_cons_succ, i64_w, i32_w]
                             rfl
                           refine take_ (i := 7) (N := some 107) (v := ?_) (a' := ?_) #[true, true, true, true, false, false, true, true, false, false] rfl rfl (take_ofW HT_.out HW_.out (by kernel_rfl)) (fun _ _ _ h => h) (Or.inl ⟨by rfl, ?_⟩) hHeld ?_ ?_
                           rotate_left
                           · rintro w' ⟨s0, s1⟩
                             go_simp
                             with_reducible rfl
                           rotate_left
                           · simp only [Act.put, List.setIfInBounds_toArray, List.set_cons_zero, List.set_cons_succ, i64_w, i32_w]
                             rfl
                           refine one_ (i := 4) (N := some 104) #[true, true, true, true, true, false, true, true, false, false] rfl rfl (one_of HT_.out (by kernel_rfl)) (by decide) (fun K hK => ?_)
                           refine goes_ Try.func46 (by kernel_rfl) rfl #[.int .i64 x11_3, .int .i64 ((rd_T67 t332 x96_3).f1)] (by rfl) rfl rfl (by (try simp only [List.map_toArray, List.map_cons, List.map_nil]); first | done | rfl | (simp only [List.length_drop, List.length_take]; rfl)) ?_
                           with_reducible refine (impl_common.calls k3 x11_3 ((rd_T67 t332 x96_3).f1) t337 _ A96.out).mono ?_
                           rintro e w103 ⟨rfl, hb⟩
                           refine ⟨_, rfl, ?_⟩
                           have n0_ := Aside0.mk (Kd.R_below (by (with_reducible repeat (first | apply Kd.R_alloc | apply Kd.R_drewN | apply Kd.R_drew)); exact HO_10.out) hb)
                           have n1_ := Aside0.mk (Kd.R_below (by (with_reducible repeat (first | apply Kd.R_alloc | apply Kd.R_drewN | apply Kd.R_drew)); exact HO_94.out) hb)
                           have n2_ := Aside0.mk (blk_below (g := gb295) (o := .cells #[.int .i64 a0_0, .slice A0_1 l0_1.length c0_1] 29 (0, 0)) (by (with_reducible repeat (first | refine blk_drewN ?_ _ | refine blk_drew ?_ | refine blk_alloc ?_ _)); exact BK295.out) hb)
                           have n3_ := Aside0.mk (blk_below (g := gb336) (o := .cells #[.int .i64 ((rd_T67 t332 x96_3).f0), .int .i64 ((rd_T67 t332 x96_3).f1)] 67 (0, 0)) (by (with_reducible repeat (first | refine blk_drewN ?_ _ | refine blk_drew ?_ | refine blk_alloc ?_ _)); exact BK336.out) hb)
                           have n4_ := Aside0.mk (below_step (by repeat (first | (with_reducible first | exact HB.out | apply below_alloc | apply pw_below_drewN | apply below_drew1 | refine below_set ?_ GE295.out | refine below_set ?_ GE336.out) | exact HB.out)) hb)
                           clear HO_10
                           clear HO_94
                           clear BK295
                           clear BK336
                           clear HB
                           have HO_10 := n0_
                           have HO_94 := n1_
                           have BK295 := n2_
                           have BK336 := n3_
                           have HB := n4_
                           clear n0_ n1_ n2_ n3_ n4_
                           (try clear hb)
                           (try clear hb2)
                           (try clear hk)
                           (try clear hi)
                           refine hK.out _ _ ⟨(blk_cell BK336.out 0).trans rfl, (blk_cell BK336.out 1).trans rfl⟩ (fun hHeld => ?_)
                           clear hK K
                           refine norm_ (a' := ?_) ?_ ?_
                           rotate_left
                           · show Act.put _ (some 104) _ = _
                             simp only [Act.put, List.setIfInBounds_toArray, List.set_cons_zero, List.set_cons_succ, i64_w, i32_w]
                             rfl
                           refine pure_ (i := 5) (N := some 105) (v := ?_) (a' := ?_) #[true, true, true, true, true, true, true, true, false, false] rfl rfl (any_of HT_.out (by kernel_rfl)) (fun _ _ _ h => h) (Or.inl ⟨by rfl, ?_⟩) ?_ ?_
                           rotate_left
                           · intro w'
                             go_simp
                             with_reducible rfl
                           rotate_left
                           · simp only [Act.put, List.setIfInBounds_toArray, List.set_cons_zero, List.set_cons_succ, i64_w, i32_w]
                             rfl
                           refine pure_ (i := 8) (N := some 108) (v := ?_) (a' := ?_) #[true, true, true, true, true, true, true, true, true, false] rfl rfl (any_of HT_.out (by kernel_rfl)) (fun _ _ _ h => h) (Or.inl ⟨by rfl, ?_⟩) ?_ ?_
                           rotate_left
                           · intro w'
                             go_simp
                             with_reducible rfl
                           rotate_left
                           · simp only [Act.put, List.setIfInBounds_toArray, List.set_cons_zero, List.set_cons_succ, i64_w, i32_w]
                             rfl
                           refine pure_ (i := 9) (N := some 11) (v := ?_) (a' := ?_) #[true, true, true, true, true, true, true, true, true, true] rfl rfl (any_of HT_.out (by kernel_rfl)) (fun _ _ _ h => h) (Or.inl ⟨by rfl, ?_⟩) ?_ ?_
                           rotate_left
                           · intro w'
                             go_simp
                             with_reducible rfl
                           rotate_left
                           · simp only [Act.put, List.setIfInBounds_toArray, List.set_cons_zero, List.set_cons_succ, i64_w, i32_w]
                             rfl
                           refine done_ (done_of HT_.out (by kernel_rfl)) ?_
                           try go_wp2
                           (first | go_roundg k3 | (try subst hji17; try subst hji77; go_roundg k3))
                           case measure => have := HJ1.out; have := HK2.out; have := HK3.out; omega
                           case rel => exact ⟨(wrap64 ((wrap64 (Int.tdiv x11_3 t337)) * ((rd_T67 t332 x96_3).f1))), (wrap64 (x96_3 + 1)), (by first | rfl | (simp; done) | (simp [*]; done)), (by first | rfl | (simp; done) | (simp [*]; done)), H', ⟨by have := HJ1.out; have := HK2.out; have := HK3.out; omega⟩, ⟨by (with_reducible repeat (first | apply Kd.R_alloc | apply Kd.R_drewN | apply Kd.R_drew)); exact Kd.R_mono HO_10.out (fun _ hk => trivial)⟩, ⟨by (with_reducible repeat (first | apply Kd.R_alloc | apply Kd.R_drewN | apply Kd.R_drew)); exact Kd.R_mono HO_94.out (fun _ hk => trivial)⟩, ⟨by (with_reducible repeat (first | refine blk_drewN ?_ _ | refine blk_drew ?_ | refine blk_alloc ?_ _)); exact BK295.out⟩, ⟨by repeat (first | (with_reducible first | exact HB.out | apply below_alloc | apply pw_below_drewN | apply below_drew1 | refine below_set ?_ GE295.out | refine below_set ?_ GE336.out) | exact HB.out)⟩⟩
                       · rw [if_neg c95] at H
                         exact absurd H (by simp)
                     · rw [if_neg c94] at H
                       exact absurd H (by simp)
                   · rw [if_neg c93] at H
                     have c93b0 : decide (x96_3 < (t332.length : Int)) = false := decide_eq_false c93
                     clear c93
                     have H' := Aside0.mk H
                     clear H
                     go_wp2
                     go_loopg [14, 112] k3 (fun kq v14 v112 w' => ∃ (x14_4 : List Int) (x112_4 : Int), v112 = .int .i64 x112_4 ∧ Aside0 (impl_SharesOfStates.l3 kq x11_3 x14_4 t332 (t332.length : Int) x112_4 = some (r1, r2, r3)) ∧ Aside0 (kq ≤ k3) ∧ Aside0 (Kd.R (Kd.int .i64) 3 w' w.heap.size (fun _ => True) v14 x14_4) ∧ Aside0 (Kd.R k67 67 w' w.heap.size (fun _ => True) (.slice Ao92 t332.length co92) t332) ∧ Aside0 (w'.heap[gb295]? = some (.cells #[.int .i64 a0_0, (.slice A0_1 l0_1.length c0_1)] 29 (0, 0))) ∧ Aside0 (Below w.heap.size w w'))
                     case atStart => exact ⟨(([] : List Int)), (0), (by first | rfl | (simp; done) | (simp [*]; done)), H', ⟨Nat.le_refl _⟩, ⟨by first | exact Kd.R_nil _ _ _ _ _ | exact Kd.N_nil _ _ _ _ _ | exact Kd.V_nil _ _ _ _ _ | exact Kd.Q_nil _ _ _ _ _ | exact Kd.S_nil _ _ _ _ _⟩, ⟨by (with_reducible repeat (first | apply Kd.R_alloc | apply Kd.R_drewN | apply Kd.R_drew)); exact HO_10.out⟩, ⟨by (with_reducible repeat (first | refine blk_drewN ?_ _ | refine blk_drew ?_ | refine blk_alloc ?_ _)); exact BK295.out⟩, ⟨by repeat (first | (with_reducible first | exact HB.out | apply below_alloc | apply pw_below_drewN | apply below_drew1 | refine below_set ?_ GE295.out) | exact HB.out)⟩⟩
                     case round =>
                      clear H'
                      try clear c1
                      try clear c2
                      try clear p2
                      try clear q2
                      try clear hx2
                      try clear hf2
                      try clear c3
                      try clear p3
                      try clear q3
                      try clear hx3
                      try clear c4
                      try clear c5
                      try clear p5
                      try clear q5
                      try clear hx5
                      try clear hf5
                      try clear c6
                      try clear p6
                      try clear hx6
                      try clear hf6
                      try clear c7
                      try clear p7
                      try clear q7
                      try clear hx7
                      try clear hf7
                      try clear c8
                      try clear p8
                      try clear q8
                      try clear hx8
                      try clear hf8
                      try clear c9
                      try clear c16
                      try clear c16b0
                      try clear c18
                      try clear c19
                      try clear c22
                      try clear c22b0
                      try clear c23
                      try clear c24
                      try clear c25
                      try clear c26
                      try clear c28
                      try clear c29
                      try clear p29
                      try clear q29
                      try clear hx29
                      try clear hf29
                      try clear c30
                      try clear p30
                      try clear q30
                      try clear hx30
                      try clear p31
                      try clear q31
                      try clear hx31
                      try clear c32
                      try clear p32
                      try clear q32
                      try clear hx32
                      try clear p33
                      try clear q33
                      try clear hx33
                      try clear c46
                      try clear c56
                      try clear c56b0
                      try clear c56b1
                      try clear c58
                      try clear p58
                      try clear q58
                      try clear hx58
                      try clear hf58
                      try clear c59
                      try clear c61
                      try clear c63
                      try clear hx63
                      try clear hf63
                      try clear p64
                      try clear c67
                      try clear c69
                      try clear c69b0
                      try clear c69b1
                      try clear c70
                      try clear c70b0
                      try clear c70b1
                      try clear c71
                      try clear p71
                      try clear q71
                      try clear hx71
                      try clear hf71
                      try clear c72
                      try clear c74
                      try clear hx74
                      try clear hf74
                      try clear c78
                      try clear c78b0
                      try clear c79
                      try clear c79b0
                      try clear c81
                      try clear c81b0
                      try clear c81b1
                      try clear c82
                      try clear c82b0
                      try clear c82b1
                      try clear c83
                      try clear p83
                      try clear q83
                      try clear hx83
                      try clear hf83
                      try clear c88
                      try clear q88
                      try clear c93
                      try clear c93b0
                      try clear c94
                      try clear c94b0
                      try clear c95
                      try clear c95b0
                      try clear c97
                      try clear c97b0
                      try clear c97b1
                      try clear c99
                      try clear hcz100_0
                      try clear hcz100_1
                      try clear hfz100_0
                      try clear hfz100_1
                      try clear hx29_0
                      try clear hx29_1
                      try clear hx309_0
                      try clear hx310_0
                      try clear hx326_0
                      try clear hx335_0
                      try clear hx335_1
                      try clear hx58_0
                      try clear hx58_1
                      try clear hx63_0
                      try clear hx63_1
                      try clear hx71_0
                      try clear hx71_1
                      try clear hx74_0
                      try clear hx74_1
                      try clear hx83_0
                      try clear hx83_1
                      try clear p2
                      try clear p29
                      try clear p3
                      try clear p30
                      try clear p309
                      try clear p31
                      try clear p310
                      try clear p32
                      try clear p326
                      try clear p335
                      try clear p5
                      try clear p58
                      try clear p6
                      try clear p64
                      try clear p7
                      try clear p71
                      try clear p8
                      try clear p83
                      try clear q2
                      try clear q29
                      try clear q3
                      try clear q30
                      try clear q309
                      try clear q31
                      try clear q310
                      try clear q32
                      try clear q326
                      try clear q335
                      try clear q5
                      try clear q58
                      try clear q7
                      try clear q71
                      try clear q8
                      try clear q83
                      try clear q88
                      obtain ⟨x14_4, x112_4, rfl, HA, HK4, HO_14, HO_110, BK295, HB⟩ := hrel
                      cases gk with
                      | zero => exact absurd HA.out (by simp [impl_SharesOfStates.l3])
                      | succ k4 =>
                       have H := HA.out
                       clear HA
                       simp only [impl_SharesOfStates.l3] at H
                       by_cases c104 : x112_4 < (t332.length : Int)
                       · rw [if_pos c104] at H
                         have c104b0 : decide (x112_4 < (t332.length : Int)) = true := decide_eq_true c104
                         clear c104
                         by_cases c105 : 0 ≤ x112_4
                         · rw [if_pos c105] at H
                           have c105b0 : decide (0 ≤ x112_4) = true := decide_eq_true c105
                           clear c105
                           by_cases c106 : x112_4 < (t332.length : Int)
                           · rw [if_pos c106] at H
                             have c106b0 : decide (x112_4 < (t332.length : Int)) = true := decide_eq_true c106
                             clear c106
                             by_cases c107 : ((rd_T67 t332 x112_4).f1) = 0
                             · rw [if_pos c107] at H
                               exact absurd H (by simp)
                             · rw [if_neg c107] at H
                               have c107b0 : (((rd_T67 t332 x112_4).f1) == 0) = false := beq_eq_false_iff_ne.mpr c107
                               have c107b1 : (((rd_T67 t332 x112_4).f1) != 0) = true := bne_iff_ne.mpr c107
                               by_cases c108 : x14_4.length < 17592186044416
                               · rw [if_pos c108] at H
                                 have LMc108 := Aside0.mk c108
                                 clear c108
                                 obtain ⟨y340, hy340⟩ : ∃ y_ : List Int, y_ = (x14_4 ++ [wrap64 (((rd_T67 t332 x112_4).f0) * (wrap64 (Int.tdiv x11_3 ((rd_T67 t332 x112_4).f1))))]) := ⟨_, rfl⟩
                                 replace H : (impl_SharesOfStates.l3 k4 x11_3 y340 t332 (t332.length : Int) (wrap64 (x112_4 + 1))) = some (r1, r2, r3) := by first | (rw [hy340]; with_reducible exact H) | (have H2_ := (Option.bind_some _ _).symm.trans H; rw [hy340]; with_reducible exact H2_) | (have H2_ := (Option.bind_some _ _).symm.trans H; with_reducible exact H2_) | with_reducible exact H | (rw [hy340]; exact H) | exact H
                                 have Ny340 := Aside0.mk hy340
                                 clear hy340
                                 have H' := Aside0.mk H
                                 clear H
                                 have p338 : 0 ≤ (x112_4 : Int) := dT_
                                 have q338 : x112_4 < (t332.length : Int) := dT_
                                 obtain ⟨ad338, e338, hx338_0, hx338_1⟩ := at_T67 (Kd.R_reads' HO_110.out).2.2 x112_4 p338 q338
                                 cases e338
                                 replace p338 := eq_true p338
                                 replace q338 := eq_true q338
                                 try go_wp2_with (first | ((with_reducible refine gate_dst (N := 16) rfl ?_); (try (refine gate_guard (by rfl) ?_; dsimp only)); refine box_event ?hg (N := 16) ?hd (cs := #[.int .i64 0, .int .i64 0]) (t := 67) ?hr ?_; (case hd => rfl); (case hg => rfl); (case hr => first | (go_simp; done) | (go_simp; rfl)); intro gb339 hg w109 hbox hb; have n0_ := Aside0.mk (Kd.R_below (by (with_reducible repeat (first | apply Kd.R_alloc | apply Kd.R_drewN | apply Kd.R_drew)); exact HO_14.out) hb); have n1_ := Aside0.mk (Kd.R_below (Kd.R_elderB (by (with_reducible repeat (first | apply Kd.R_alloc | apply Kd.R_drewN | apply Kd.R_drew)); exact HO_110.out) gb339 (Nat.le_of_eq hg.symm)) hb); have n2_ := Aside0.mk (blk_below (g := gb295) (o := .cells #[.int .i64 a0_0, .slice A0_1 l0_1.length c0_1] 29 (0, 0)) (by (with_reducible repeat (first | refine blk_drewN ?_ _ | refine blk_drew ?_ | refine blk_alloc ?_ _)); exact BK295.out) hb); have n3_ := Aside0.mk (below_step (by repeat (first | (with_reducible first | exact HB.out | apply below_alloc | apply pw_below_drewN | apply below_drew1 | refine below_set ?_ GE295.out) | exact HB.out)) hb); have n4_ := Aside0.mk (hbox); have n5_ := Aside0.mk ((by rw [hg]; exact (below_size (by repeat (first | (with_reducible first | exact HB.out | apply below_alloc | apply pw_below_drewN | apply below_drew1 | refine below_set ?_ GE295.out) | exact HB.out))) : w.heap.size ≤ gb339)); have n6_ := Aside0.mk ((by rw [hg]; exact (below_size (by repeat (first | (with_reducible first | exact HB.out | apply below_alloc | apply pw_below_drewN | apply below_drew1 | refine below_set ?_ GE295.out) | exact HB.out))) : w.heap.size ≤ gb339)); have n7_ := Aside0.mk ((by rw [hg]; exact Nat.ne_of_lt (blk_lt (g := gb295) (o := .cells #[.int .i64 a0_0, .slice A0_1 l0_1.length c0_1] 29 (0, 0)) (by (with_reducible repeat (first | refine blk_drewN ?_ _ | refine blk_drew ?_ | refine blk_alloc ?_ _)); exact BK295.out)) : gb295 ≠ gb339)); have n8_ := Aside0.mk ((by rw [hg]; exact Nat.ne_of_gt (blk_lt (g := gb295) (o := .cells #[.int .i64 a0_0, .slice A0_1 l0_1.length c0_1] 29 (0, 0)) (by (with_reducible repeat (first | refine blk_drewN ?_ _ | refine blk_drew ?_ | refine blk_alloc ?_ _)); exact BK295.out)) : gb339 ≠ gb295)); clear HO_14; clear HO_110; clear BK295; clear HB; have HO_14 := n0_; have HO_110 := n1_; have BK295 := n2_; have HB := n3_; have BK339 := n4_; have GW339 := n5_; have GE339 := n6_; have NB295_339 := n7_; have NB339_295 := n8_; clear n0_ n1_ n2_ n3_ n4_ n5_ n6_ n7_ n8_; clear hb hbox hg; have hnb110 := NB339_295.out; have hnc110 := NB295_339.out; have hcz111_0 : w109.cell? ⟨gb339, 0, none⟩ = some (.int .i64 0) := (blk_cell BK339.out 0).trans rfl; have hcz111_1 : w109.cell? ⟨gb339, 1, none⟩ = some (.int .i64 0) := (blk_cell BK339.out 1).trans rfl; have hfz111_0 := blk_frozen BK339.out 0; have hfz111_1 := blk_frozen BK339.out 1))
                                 have n0_ : Aside0 (Kd.R (Kd.int .i64) 3 ((w109.setCell ⟨gb339, 0, none⟩ (.int .i64 ((rd_T67 t332 x112_4).f0))).setCell ⟨gb339, 1, none⟩ (.int .i64 ((rd_T67 t332 x112_4).f1))) w.heap.size (fun _ => True) u14 x14_4) := ⟨by (with_reducible repeat (first | apply Kd.R_alloc | apply Kd.R_drewN | apply Kd.R_drew)); exact Kd.R_mono (Kd.R_far (p := ⟨gb339, 1, none⟩) (Kd.R_far (p := ⟨gb339, 0, none⟩) (Kd.R_types HO_14.out BK339.out (by decide)) (fun _ hk => hk.2) (.int .i64 ((rd_T67 t332 x112_4).f0))) (fun _ hk => hk.2) (.int .i64 ((rd_T67 t332 x112_4).f1))) (fun _ hk => trivial)⟩
                                 have n1_ : Aside0 (Kd.R k67 67 ((w109.setCell ⟨gb339, 0, none⟩ (.int .i64 ((rd_T67 t332 x112_4).f0))).setCell ⟨gb339, 1, none⟩ (.int .i64 ((rd_T67 t332 x112_4).f1))) w.heap.size (fun k_ => k_ ≠ gb339) (.slice (some ad338) t332.length co92) t332) := ⟨by (with_reducible repeat (first | apply Kd.R_alloc | apply Kd.R_drewN | apply Kd.R_drew)); exact Kd.R_mono (Kd.R_far (p := ⟨gb339, 1, none⟩) (Kd.R_far (p := ⟨gb339, 0, none⟩) (Kd.R_mono HO_110.out (fun k_ hk => (⟨hk, hk.2⟩ : _ ∧ k_ ≠ gb339))) (fun _ hk => hk.2) (.int .i64 ((rd_T67 t332 x112_4).f0))) (fun _ hk => hk.2) (.int .i64 ((rd_T67 t332 x112_4).f1))) (fun _ hk => hk.1.2)⟩
                                 have n2_ : Aside0 (((w109.setCell ⟨gb339, 0, none⟩ (.int .i64 ((rd_T67 t332 x112_4).f0))).setCell ⟨gb339, 1, none⟩ (.int .i64 ((rd_T67 t332 x112_4).f1))).heap[gb295]? = some (.cells #[.int .i64 a0_0, .slice A0_1 l0_1.length c0_1] 29 (0, 0))) := ⟨by (with_reducible repeat (first | refine blk_drewN ?_ _ | refine blk_drew ?_ | refine blk_alloc ?_ _)); refine blk_far ?_ NB295_339.out _; (with_reducible repeat (first | refine blk_drewN ?_ _ | refine blk_drew ?_ | refine blk_alloc ?_ _)); refine blk_far ?_ NB295_339.out _; (with_reducible repeat (first | refine blk_drewN ?_ _ | refine blk_drew ?_ | refine blk_alloc ?_ _)); exact BK295.out⟩
                                 have n3_ : Aside0 (((w109.setCell ⟨gb339, 0, none⟩ (.int .i64 ((rd_T67 t332 x112_4).f0))).setCell ⟨gb339, 1, none⟩ (.int .i64 ((rd_T67 t332 x112_4).f1))).heap[gb339]? = some (.cells #[.int .i64 ((rd_T67 t332 x112_4).f0), .int .i64 ((rd_T67 t332 x112_4).f1)] 67 (0, 0))) := ⟨by (with_reducible repeat (first | refine blk_drewN ?_ _ | refine blk_drew ?_ | refine blk_alloc ?_ _)); refine blk_put (cs := #[.int .i64 ((rd_T67 t332 x112_4).f0), .int .i64 0]) ?_ 1 _ rfl; (with_reducible repeat (first | refine blk_drewN ?_ _ | refine blk_drew ?_ | refine blk_alloc ?_ _)); refine blk_put (cs := #[.int .i64 0, .int .i64 0]) ?_ 0 _ rfl; (with_reducible repeat (first | refine blk_drewN ?_ _ | refine blk_drew ?_ | refine blk_alloc ?_ _)); exact BK339.out⟩
                                 have n4_ : Aside0 (Below w.heap.size w ((w109.setCell ⟨gb339, 0, none⟩ (.int .i64 ((rd_T67 t332 x112_4).f0))).setCell ⟨gb339, 1, none⟩ (.int .i64 ((rd_T67 t332 x112_4).f1)))) := ⟨by repeat (first | (with_reducible first | exact HB.out | apply below_alloc | apply pw_below_drewN | apply below_drew1 | refine below_set ?_ GE295.out | refine below_set ?_ GE339.out) | exact HB.out)⟩
                                 (try clear HO_14)
                                 (try clear HO_110)
                                 (try clear BK295)
                                 (try clear BK339)
                                 (try clear HB)
                                 generalize ((w109.setCell ⟨gb339, 0, none⟩ (.int .i64 ((rd_T67 t332 x112_4).f0))).setCell ⟨gb339, 1, none⟩ (.int .i64 ((rd_T67 t332 x112_4).f1))) = w112 at n0_ n1_ n2_ n3_ n4_ ⊢
                                 have HO_14 := n0_
                                 have HO_110 := n1_
                                 have BK295 := n2_
                                 have BK339 := n3_
                                 have HB := n4_
                                 clear n0_ n1_ n2_ n3_ n4_
                                 have n0_ := Aside0.mk (Kd.R_drew HO_14.out)
                                 have n1_ := Aside0.mk (Kd.R_drew HO_110.out)
                                 have n2_ := Aside0.mk (blk_drew BK295.out)
                                 have n3_ := Aside0.mk (blk_drew BK339.out)
                                 have n4_ := Aside0.mk (below_drew1 HB.out)
                                 clear HO_14
                                 clear HO_110
                                 clear BK295
                                 clear BK339
                                 clear HB
                                 have HO_14 := n0_
                                 have HO_110 := n1_
                                 have BK295 := n2_
                                 have BK339 := n3_
                                 have HB := n4_
                                 clear n0_ n1_ n2_ n3_ n4_
                                 refine start_ (n := 11) (S := fun w' => w'.cell? ⟨gb339, 0, none⟩ = some (.int .i64 ((rd_T67 t332 x112_4).f0)) ∧ w'.cell? ⟨gb339, 1, none⟩ = some (.int .i64 ((rd_T67 t332 x112_4).f1))) (ds := []) #[false, false, false, false, false, false, false, false, false, false, false] (by kernel_rfl) rfl rfl ⟨(blk_cell BK339.out 0).trans rfl, (blk_cell BK339.out 1).trans rfl⟩ (fun hHeld => ?_); refine with_tabW impl_SharesOfStates.tab33 impl_SharesOfStates.bits33 (fun HT_ HW_ => ?_)
                                 generalize w112.drew = w113 at HO_14 HO_110 BK295 BK339 HB hHeld ⊢
                                 refine pure_ (i := 0) (N := some 116) (v := ?_) (a' := ?_) #[true, false, false, false, false, false, false, false, false, false, false] rfl rfl (any_of HT_.out (by kernel_rfl)) (fun _ _ _ h => h) (Or.inl ⟨by rfl, ?_⟩) ?_ ?_
                                 rotate_left
                                 · intro w'
                                   go_simp
                                   with_reducible rfl
                                 rotate_left
                                 · simp only [Act.put, List.setIfInBounds_toArray, List.set_cons_zero, List.set_cons_succ, i64_w, i32_w]
                                   rfl
                                 refine pure_ (i := 1) (N := some 117) (v := ?_) (a' := ?_) #[true, true, false, false, false, false, false, false, false, false, false] rfl rfl (any_of HT_.out (by kernel_rfl)) (fun _ _ _ h => h) (Or.inl ⟨by rfl, ?_⟩) ?_ ?_
                                 rotate_left
                                 · intro w'
                                   go_simp
                                   with_reducible rfl
                                 rotate_left
                                 · simp only [Act.put, List.setIfInBounds_toArray, List.set_cons_zero, List.set_cons_succ, i64_w, i32_w]
                                   rfl
                                 refine pure_ (i := 3) (N := some 119) (v := ?_) (a' := ?_) #[true, true, false, true, false, false, false, false, false, false, false] rfl rfl (any_of HT_.out (by kernel_rfl)) (fun _ _ _ h => h) (Or.inl ⟨by rfl, ?_⟩) ?_ ?_
                                 rotate_left
                                 · intro w'
                                   go_simp
                                   with_reducible rfl
                                 rotate_left
                                 · simp only [Act.put, List.setIfInBounds_toArray, List.set_cons_zero, List.set_cons_succ, i64_w, i32_w]
                                   rfl
                                 refine pure_ (i := 4) (N := some 120) (v := ?_) (a' := ?_) #[true, true, false, true, true, false, false, false, false, false, false] rfl rfl (any_of HT_.out (by kernel_rfl)) (fun _ _ _ h => h) (Or.inl ⟨by rfl, ?_⟩) ?_ ?_
                                 rotate_left
                                 · intro w'
                                   go_simp
                                   with_reducible rfl
                                 rotate_left
                                 · simp only [Act.put, List.setIfInBounds_toArray, List.set_cons_zero, List.set_cons_succ, i64_w, i32_w]
                                   rfl
                                 refine take_ (i := 2) (N := some 118) (v := ?_) (a' := ?_) #[true, true, true, true, true, false, false, false, false, false, false] rfl rfl (take_ofW HT_.out HW_.out (by kernel_rfl)) (fun _ _ _ h => h) (Or.inl ⟨by rfl, ?_⟩) hHeld ?_ ?_
                                 rotate_left
                                 · rintro w' ⟨s0, s1⟩
                                   go_simp
                                   with_reducible rfl
                                 rotate_left
                                 · simp only [Act.put, List.setIfInBounds_toArray, List.set_cons_zero, List.set_cons_succ, i64_w, i32_w]
                                   rfl
                                 refine take_ (i := 5) (N := some 121) (v := ?_) (a' := ?_) #[true, true, true, true, true, true, false, false, false, false, false] rfl rfl (take_ofW HT_.out HW_.out (by kernel_rfl)) (fun _ _ _ h => h) (Or.inl ⟨by rfl, ?_⟩) hHeld ?_ ?_
                                 rotate_left
                                 · rintro w' ⟨s0, s1⟩
                                   go_simp
                                   with_reducible rfl
                                 rotate_left
                                 · simp only [Act.put, List.setIfInBounds_toArray, List.set_cons_zero, List.set_cons_succ, i64_w, i32_w]
                                   rfl
                                 refine pure_ (i := 6) (N := some 122) (v := ?_) (a' := ?_) #[true, true, true, true, true, true, true, false, false, false, false] rfl rfl (any_of HT_.out (by kernel_rfl)) (fun _ _ _ h => h) (Or.inl ⟨by rfl, ?_⟩) ?_ ?_
                                 rotate_left
                                 · intro w'
                                   go_simp
                                   with_reducible rfl
                                 rotate_left
                                 · simp only [Act.put, List.setIfInBounds_toArray, List.set_cons_zero, List.set_cons_succ, i64_w, i32_w]
                                   rfl
                                 refine pure_ (i := 7) (N := some 123) (v := ?_) (a' := ?_) #[true, true, true, true, true, true, true, true, false, false, false] rfl rfl (any_of HT_.out (by kernel_rfl)) (fun _ _ _ h => h) (Or.inl ⟨by rfl, ?_⟩) ?_ ?_
                                 rotate_left
                                 · intro w'
                                   go_simp
                                   with_reducible rfl
                                 rotate_left
                                 · simp only [Act.put, List.setIfInBounds_toArray, List.set_cons_zero, List.set_cons_succ, i64_w, i32_w]
                                   rfl
                                 refine one_ (i := 8) (N := some 124) #[true, true, true, true, true, true, true, true, true, false, false] rfl rfl (one_of HT_.out (by kernel_rfl)) (by decide) (fun K hK => ?_)
                                 refine value_ (w1 := ?_) (v := ?_) (by rfl) rfl ?_ ?_
                                 rotate_left 2
                                 · go_simp
                                   constructor
                                   · rfl
                                   · rfl
                                 refine hK.out _ _ ⟨(blk_cell (blk_alloc BK339.out _) 0).trans rfl, (blk_cell (blk_alloc BK339.out _) 1).trans rfl⟩ (fun hHeld => ?_)
                                 clear hK K
                                 refine norm_ (a' := ?_) ?_ ?_
                                 rotate_left
                                 · show Act.put _ (some 124) _ = _
                                   simp only [Act.put, List.setIfInBounds_toArray, List.set_cons_zero, List.set_cons_succ, i64_w, i32_w]
                                   rfl
                                 refine one_ (i := 9) (N := some 125) #[true, true, true, true, true, true, true, true, true, true, false] rfl rfl (one_of HT_.out (by kernel_rfl)) (by decide) (fun K hK => ?_)
                                 refine Kd.R_append_step (Kd.int .i64) (w0 := w) w.heap.size (by rfl) (.tmp 116) (.tmp 124) 26 3 (.int .i64 0) 8 rfl Try.underlying26 info3 rfl (by decide) (by omega) u14 x14_4 (wrap64 (((rd_T67 t332 x112_4).f0) * (wrap64 (Int.tdiv x11_3 ((rd_T67 t332 x112_4).f1))))) [.int .i64 (wrap64 (((rd_T67 t332 x112_4).f0) * (wrap64 (Int.tdiv x11_3 ((rd_T67 t332 x112_4).f1)))))] (fun _ => True) (fun _ => False) rfl rfl ?aP (fun _ hk => hk.elim) ?aF ?aO ?aB ?aS ?aL ?_
                                 (case aP => exact rfl)
                                 (case aB => exact (by repeat (first | (with_reducible first | exact HB.out | apply below_alloc | apply pw_below_drewN | apply below_drew1 | refine below_set ?_ GE295.out | refine below_set ?_ GE339.out) | exact HB.out)))
                                 (case aF => exact (fun _ _ => trivial))
                                 (case aO => exact (by (with_reducible repeat (first | apply Kd.R_alloc | apply Kd.R_drewN | apply Kd.R_drew)); exact HO_14.out))
                                 (case aS => exact (below_size (by repeat (first | (with_reducible first | exact HB.out | apply below_alloc | apply pw_below_drewN | apply below_drew1 | refine below_set ?_ GE295.out | refine below_set ?_ GE339.out) | exact HB.out))))
                                 (case aL => have := LMc108.out; omega)
                                 intro v341 w114 ho hb hg hat
                                 rw [← Ny340.out] at ho
                                 have n0_ := Aside0.mk (Kd.R_over' (by (with_reducible repeat (first | apply Kd.R_alloc | apply Kd.R_drewN | apply Kd.R_drew)); exact HO_110.out) (Kd.R_typed (by (with_reducible repeat (first | apply Kd.R_alloc | apply Kd.R_drewN | apply Kd.R_drew)); exact HO_14.out)) (by decide) hg)
                                 have n1_ := Aside0.mk (blk_grown (g := gb295) (o := .cells #[.int .i64 a0_0, .slice A0_1 l0_1.length c0_1] 29 (0, 0)) (by (with_reducible repeat (first | refine blk_drewN ?_ _ | refine blk_drew ?_ | refine blk_alloc ?_ _)); exact BK295.out) hg (Kd.R_ne HO_14.out BK295.out (by decide)))
                                 have n2_ := Aside0.mk (blk_grown (g := gb339) (o := .cells #[.int .i64 ((rd_T67 t332 x112_4).f0), .int .i64 ((rd_T67 t332 x112_4).f1)] 67 (0, 0)) (by (with_reducible repeat (first | refine blk_drewN ?_ _ | refine blk_drew ?_ | refine blk_alloc ?_ _)); exact BK339.out) hg (Kd.R_ne HO_14.out BK339.out (by decide)))
                                 have n3_ := Aside0.mk (hb)
                                 have n4_ := Aside0.mk (ho)
                                 clear HO_110
                                 clear BK295
                                 clear BK339
                                 clear HB
                                 clear HO_14
                                 have HO_110 := n0_
                                 have BK295 := n1_
                                 have BK339 := n2_
                                 have HB := n3_
                                 have HO342 := n4_
                                 clear n0_ n1_ n2_ n3_ n4_
                                 clear ho hb hg hat
                                 refine hK.out _ _ ⟨(blk_cell BK339.out 0).trans rfl, (blk_cell BK339.out 1).trans rfl⟩ (fun hHeld => ?_)
                                 clear hK K
                                 refine norm_ (a' := ?_) ?_ ?_
                                 rotate_left
                                 · show Act.put _ (some 125) _ = _
                                   simp only [Act.put, List.setIfInBounds_toArray, List.set_cons_zero, List.set_cons_succ, i64_w, i32_w]
                                   rfl
                                 refine pure_ (i := 10) (N := some 14) (v := ?_) (a' := ?_) #[true, true, true, true, true, true, true, true, true, true, true] rfl rfl (any_of HT_.out (by kernel_rfl)) (fun _ _ _ h => h) (Or.inl ⟨by rfl, ?_⟩) ?_ ?_
                                 rotate_left
                                 · intro w'
                                   go_simp
                                   with_reducible rfl
                                 rotate_left
                                 · simp only [Act.put, List.setIfInBounds_toArray, List.set_cons_zero, List.set_cons_succ, i64_w, i32_w]
                                   rfl
                                 refine done_ (done_of HT_.out (by kernel_rfl)) ?_
                                 try go_wp2
                                 (first | go_roundg k4 | (try subst hji17; try subst hji77; go_roundg k4))
                                 case measure => have := HJ1.out; have := HK2.out; have := HK3.out; have := HK4.out; omega
                                 case rel => exact ⟨(y340), (wrap64 (x112_4 + 1)), (by first | rfl | (simp; done) | (simp [*]; done)), H', ⟨by have := HJ1.out; have := HK2.out; have := HK3.out; have := HK4.out; omega⟩, ⟨by (with_reducible repeat (first | apply Kd.R_alloc | apply Kd.R_drewN | apply Kd.R_drew)); exact HO342.out⟩, ⟨by (with_reducible repeat (first | apply Kd.R_alloc | apply Kd.R_drewN | apply Kd.R_drew)); exact Kd.R_mono HO_110.out (fun _ hk => trivial)⟩, ⟨by (with_reducible repeat (first | refine blk_drewN ?_ _ | refine blk_drew ?_ | refine blk_alloc ?_ _)); exact BK295.out⟩, ⟨by repeat (first | (with_reducible first | exact HB.out | apply below_alloc | apply pw_below_drewN | apply below_drew1 | refine below_set ?_ GE295.out | refine below_set ?_ GE339.out) | exact HB.out)⟩⟩
                               · rw [if_neg c108] at H
                                 exact absurd H (by simp)
                           · rw [if_neg c106] at H
                             exact absurd H (by simp)
                         · rw [if_neg c105] at H
                           exact absurd H (by simp)
                       · rw [if_neg c104] at H
                         have c104b0 : decide (x112_4 < (t332.length : Int)) = false := decide_eq_false c104
                         clear c104
                         simp only [Option.some.injEq, Prod.mk.injEq] at H
                         obtain ⟨rfl, rfl, rfl⟩ := H
                         go_wp2
                         go_ret3
                         exact ⟨_, by first | rfl | (simp [errW_none, errW_some] <;> rfl) | (simp only [← hji77]; first | rfl | (simp [errW_none, errW_some] <;> rfl)) | (simp [*, errW_none, errW_some] <;> rfl), by (with_reducible repeat (first | apply Kd.R_alloc | apply Kd.R_drewN | apply Kd.R_drew)); exact HO_14.out, by repeat (first | (with_reducible first | exact HB.out | apply below_alloc | apply pw_below_drewN | apply below_drew1 | refine below_set ?_ GE295.out) | exact HB.out)⟩
               · rw [if_neg c82] at H
                 exact absurd H (by simp)
             · rw [if_neg c81] at H
               exact absurd H (by simp)
           · rw [if_neg c79] at H
             exact absurd H (by simp)
         · rw [if_neg c78] at H
           exact absurd H (by simp)
end Go.Proofs.Ytlpegpmcnimfbaa.PFnExactSharesOfStates
