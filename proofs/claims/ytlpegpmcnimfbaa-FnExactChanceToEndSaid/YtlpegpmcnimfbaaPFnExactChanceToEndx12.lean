-- written by a program of this session (the kit's print with turns of the session's own)
import Derived.Test.YtlpegpmcnimfbaaPFnExactChanceToEndx0
import Derived.Test.YtlpegpmcnimfbaaPFnExactChanceToEndx6
import Derived.Test.YtlpegpmcnimfbaaPFnExactChanceToEndx8
import Derived.Test.YtlpegpmcnimfbaaPFnExactChanceToEndx9
import Derived.Test.YtlpegpmcnimfbaaPFnExactChanceToEndx10
import Derived.Test.YtlpegpmcnimfbaaPFnExactChanceToEndx11
namespace Go.Proofs.Ytlpegpmcnimfbaa.PFnExactChanceToEnd
open Go.RowKit Go.Proofs.YtlpegpmcnimfbaaW.PrintWords Go.Proofs.YtlpegpmcnimfbaaW.PrintLast Go.Proofs.YtlpegpmcnimfbaaW.PrintMore
attribute [local go_sem] Instr.field asAgg part max2_int min2_int max_two min_two max_three min_three max_four min_four
set_option linter.unusedVariables false
set_option linter.unusedSimpArgs false
mutual
def impl_States_hit.l0 : Nat → List Int → Int → List (List (S67)) → List Int → Int → Int → Int → List (List Int) → Int → Int → Int → Int → Option ((List (S67)))
 | 0, _, _, _, _, _, _, _, _, _, _, _, _ => none
 | k + 1, x1, x2, x11, x17, x18, x19, x299000, x299001, x300000, x300001, x301000, x301001 => if x19 < x18 then (if 0 ≤ x19 then (if x19 < (x17.length : Int) then (if 0 ≤ (wrap64 ((x1.length : Int) + 1)) then (if (wrap64 ((x1.length : Int) + 1) : Int).toNat ≤ 17592186044416 then (impl_States_hit.l1 k x1 x2 x11 (rd x17 x19) (List.replicate (wrap64 ((x1.length : Int) + 1) : Int).toNat z67) x17 x18 x19 x1 (x1.length : Int) 0 x299000 x299001 x300000 x300001 x301000 x301001) else (none)) else (none)) else (none)) else (none)) else ((impl_solved.f k x11).bind fun t301 => (some t301))
def impl_States_hit.l1 : Nat → List Int → Int → List (List (S67)) → Int → List (S67) → List Int → Int → Int → List Int → Int → Int → Int → List (List Int) → Int → Int → Int → Int → Option ((List (S67)))
 | 0, _, _, _, _, _, _, _, _, _, _, _, _, _, _, _, _, _ => none
 | k + 1, x1, x2, x11, x13, x14, x17, x18, x19, x27, x28, x29, x299000, x299001, x300000, x300001, x301000, x301001 => if x29 < x28 then (if 0 ≤ x29 then (if x29 < (x27.length : Int) then (if 0 ≤ x13 then (if x13 < (x299001.length : Int) then (if 0 ≤ (rd x27 x29) then (if (rd x27 x29) < ((rd_L1 x299001 x13).length : Int) then ((impl_lowest.f k (wrap64 (-(rd (rd_L1 x299001 x13) (rd x27 x29)))) x299000).bind fun bt323 => (if x29 < (x14.length : Int) then ((some (x14.set (x29 : Int).toNat (⟨bt323.1, bt323.2⟩ : S67) : List (S67))).bind fun y325 => (if x13 = (rd x27 x29) then ((impl_whole.f 1).bind fun bt327 => ((impl_frac_plus.f k ((rd_T67 y325 x29).f0) ((rd_T67 y325 x29).f1) bt327.1 bt327.2).bind fun bt329 => (impl_States_hit.l1 k x1 x2 x11 x13 (y325.set (x29 : Int).toNat (⟨bt329.1, bt329.2⟩ : S67)) x17 x18 x19 x27 x28 (wrap64 (x29 + 1)) x299000 x299001 x300000 x300001 x301000 x301001))) else (impl_States_hit.l1 k x1 x2 x11 x13 y325 x17 x18 x19 x27 x28 (wrap64 (x29 + 1)) x299000 x299001 x300000 x300001 x301000 x301001))) else (none))) else (none)) else (none)) else (none)) else (none)) else (none)) else (none)) else (if 0 ≤ x13 then (if x13 < (x299001.length : Int) then (if 0 ≤ x2 then (if x2 < ((rd_L1 x299001 x13).length : Int) then ((impl_lowest.f k (rd (rd_L1 x299001 x13) x2) x299000).bind fun bt310 => ((impl_frac_times.f k x301000 x301001 bt310.1 bt310.2).bind fun bt312 => ((impl_frac_plus.f k x300000 x300001 bt312.1 bt312.2).bind fun bt314 => (if 0 ≤ (x1.length : Int) then (if (x1.length : Int) < (x14.length : Int) then (if x11.length < 5864062014805 then (impl_States_hit.l0 k x1 x2 (x11 ++ [(x14.set ((x1.length : Int) : Int).toNat (⟨bt314.1, bt314.2⟩ : S67))]) x17 x18 (wrap64 (x19 + 1)) x299000 x299001 x300000 x300001 x301000 x301001) else (none)) else (none)) else (none))))) else (none)) else (none)) else (none)) else (none))
end
def impl_States_hit.f (k : Nat) (a0_0 : Int) (l0_1 : List (List Int)) (l1 : List Int) (a2 : Int) (a3_0 : Int) (a3_1 : Int) (a4_0 : Int) (a4_1 : Int) : Option ((List (S67))) := impl_States_hit.l0 k l1 a2 ([] : List (List (S67))) l1 (l1.length : Int) 0 a0_0 l0_1 a3_0 a3_1 a4_0 a4_1
def impl_States_hit.T9 : Bool × List (List Nat × List Nat) := (true, [([], []), ([], []), ([], []), ([2], [2]), ([], []), ([3, 4], [3, 4]), ([5], [5]), ([], []), ([6, 7], [6, 7]), ([8], [8]), ([9], [9]), ([], []), ([11], [11]), ([10, 12], [10, 12]), ([0, 1, 0, 1, 2, 3, 4, 5, 6, 7, 8, 9, 10, 11, 12, 13], [0, 1]), ([14, 13, 13, 0, 1, 2, 3, 4, 5, 6, 7, 8, 9, 10, 11, 12, 13], [13, 14])])
def impl_States_hit.B9 : List Nat := [0, 0, 0, 4, 0, 28, 60, 0, 252, 508, 1020, 0, 2048, 8188, 16383, 32767]
theorem impl_States_hit.tab9 : rtab .any (opsOf Try.f68 9) = impl_States_hit.T9 := by kernel_rfl
theorem impl_States_hit.bits9 : waitsOk impl_States_hit.T9.2 impl_States_hit.B9 = true := by kernel_rfl
def impl_States_hit.T11 : Bool × List (List Nat × List Nat) := (true, [([], []), ([], []), ([], []), ([], []), ([2, 3], [2, 3]), ([4], [4]), ([], []), ([5, 6, 6], [5, 6]), ([0, 1, 0, 1, 2, 3, 4, 5, 6, 7], [0, 1]), ([8, 7, 7, 0, 1, 2, 3, 4, 5, 6, 7], [7, 8])])
def impl_States_hit.B11 : List Nat := [0, 0, 0, 0, 12, 28, 0, 124, 255, 511]
theorem impl_States_hit.tab11 : rtab .any (opsOf Try.f68 11) = impl_States_hit.T11 := by kernel_rfl
theorem impl_States_hit.bits11 : waitsOk impl_States_hit.T11.2 impl_States_hit.B11 = true := by kernel_rfl
def impl_States_hit.T13 : Bool × List (List Nat × List Nat) := (true, [([], []), ([], []), ([1], [1]), ([], []), ([], []), ([], []), ([5], [5]), ([], []), ([6, 7], [6, 7]), ([8], [8]), ([], []), ([9, 10], [9, 10]), ([11], [11]), ([], []), ([13], [13]), ([12, 14], [12, 14]), ([4, 15, 15], [4, 15]), ([3, 16, 16], [3, 16]), ([0, 2, 0, 1, 2, 3, 4, 5, 6, 7, 8, 9, 10, 11, 12, 13, 14, 15, 16, 17], [0, 2]), ([18, 17, 17, 0, 1, 2, 3, 4, 5, 6, 7, 8, 9, 10, 11, 12, 13, 14, 15, 16, 17], [17, 18])])
def impl_States_hit.B13 : List Nat := [0, 0, 2, 0, 0, 0, 32, 0, 224, 480, 0, 2016, 4064, 0, 8192, 32736, 65520, 131064, 262143, 524287]
theorem impl_States_hit.tab13 : rtab .any (opsOf Try.f68 13) = impl_States_hit.T13 := by kernel_rfl
theorem impl_States_hit.bits13 : waitsOk impl_States_hit.T13.2 impl_States_hit.B13 = true := by kernel_rfl
set_option maxHeartbeats 8000000 in
set_option maxRecDepth 100000 in
theorem impl_States_hit.calls (k : Nat) (a0_0 : Int) (A0_1 : Option Addr) (c0_1 : Nat) (l0_1 : List (List Int)) (A1 : Option Addr) (c1 : Nat) (l1 : List Int) (a2 : Int) (a3_0 : Int) (a3_1 : Int) (a4_0 : Int) (a4_1 : Int) (r : List (S67)) (w : World) (hr0_1 : Kd.C (Kd.slice 3 (Kd.int .i64)) w A0_1 l0_1.length l0_1) (hc0_1 : l0_1.length ≤ c0_1) (hr1 : Kd.C (Kd.int .i64) w A1 l1.length l1) (hc1 : l1.length ≤ c1) (h : impl_States_hit.f k a0_0 l0_1 l1 a2 a3_0 a3_1 a4_0 a4_1 = some r) :
 Calls Try.prog 68 #[.agg #[.int .i64 a0_0, .slice A0_1 l0_1.length c0_1], .slice A1 l1.length c1, .int .i64 a2, .agg #[.int .i64 a3_0, .int .i64 a3_1], .agg #[.int .i64 a4_0, .int .i64 a4_1]] w fun e w' => ∃ v0_ : Value, e = .returned (v0_) ∧ Kd.R k67 67 w' w.heap.size (fun _ => True) v0_ r ∧ Below w.heap.size w w' := by
 have hu29 := Try.underlying29
 have hu67 := Try.underlying67
 have HR0_1 := Aside0.mk hr0_1
 have HC0_1 := Aside0.mk hc0_1
 clear hr0_1 hc0_1
 have HR1 := Aside0.mk hr1
 have HC1 := Aside0.mk hc1
 clear hr1 hc1
 have HB := Aside0.mk (Below.refl w.heap.size w)
 have H : (impl_States_hit.l0 k l1 a2 ([] : List (List (S67))) l1 (l1.length : Int) 0 a0_0 l0_1 a3_0 a3_1 a4_0 a4_1) = some r := h
 clear h
 have H' := Aside0.mk H
 clear H
 go_enter Try.func68, Try.ntmps68
 go_wp2_with (first | ((with_reducible refine gate_dst (N := 5) rfl ?_); refine box_event ?hg (N := 5) ?hd (cs := #[.int .i64 a0_0, .slice A0_1 l0_1.length c0_1]) (t := 29) ?hr ?_; (case hd => rfl); (case hg => rfl); (case hr => first | (go_simp; done) | (go_simp; rfl)); intro gb298 hg w6 hbox hb; have n0_ := Aside0.mk (below_step (by repeat (first | (with_reducible first | exact HB.out | apply below_alloc | apply pw_below_drewN | apply below_drew1) | exact HB.out)) hb); have n1_ := Aside0.mk (hbox); have n2_ := Aside0.mk ((by rw [hg]; exact (below_size (by repeat (first | (with_reducible first | exact HB.out | apply below_alloc | apply pw_below_drewN | apply below_drew1) | exact HB.out))) : w.heap.size ≤ gb298)); have n3_ := Aside0.mk ((by rw [hg]; exact (below_size (by repeat (first | (with_reducible first | exact HB.out | apply below_alloc | apply pw_below_drewN | apply below_drew1) | exact HB.out))) : w.heap.size ≤ gb298)); clear HB; have HB := n0_; have BK298 := n1_; have GW298 := n2_; have GE298 := n3_; clear n0_ n1_ n2_ n3_; clear hb hbox hg) | ((with_reducible refine gate_dst (N := 8) rfl ?_); refine box_event ?hg (N := 8) ?hd (cs := #[.int .i64 a3_0, .int .i64 a3_1]) (t := 67) ?hr ?_; (case hd => rfl); (case hg => rfl); (case hr => first | (go_simp; done) | (go_simp; rfl)); intro gb299 hg w7 hbox hb; have n0_ := Aside0.mk (blk_below (g := gb298) (o := .cells #[.int .i64 a0_0, .slice A0_1 l0_1.length c0_1] 29 (0, 0)) (by (with_reducible repeat (first | refine blk_drewN ?_ _ | refine blk_drew ?_ | refine blk_alloc ?_ _)); exact BK298.out) hb); have n1_ := Aside0.mk (below_step (by repeat (first | (with_reducible first | exact HB.out | apply below_alloc | apply pw_below_drewN | apply below_drew1 | refine below_set ?_ GE298.out) | exact HB.out)) hb); have n2_ := Aside0.mk (hbox); have n3_ := Aside0.mk ((by rw [hg]; exact (below_size (by repeat (first | (with_reducible first | exact HB.out | apply below_alloc | apply pw_below_drewN | apply below_drew1 | refine below_set ?_ GE298.out) | exact HB.out))) : w.heap.size ≤ gb299)); have n4_ := Aside0.mk ((by rw [hg]; exact (below_size (by repeat (first | (with_reducible first | exact HB.out | apply below_alloc | apply pw_below_drewN | apply below_drew1 | refine below_set ?_ GE298.out) | exact HB.out))) : w.heap.size ≤ gb299)); have n5_ := Aside0.mk ((by rw [hg]; exact Nat.ne_of_lt (blk_lt (g := gb298) (o := .cells #[.int .i64 a0_0, .slice A0_1 l0_1.length c0_1] 29 (0, 0)) (by (with_reducible repeat (first | refine blk_drewN ?_ _ | refine blk_drew ?_ | refine blk_alloc ?_ _)); exact BK298.out)) : gb298 ≠ gb299)); have n6_ := Aside0.mk ((by rw [hg]; exact Nat.ne_of_gt (blk_lt (g := gb298) (o := .cells #[.int .i64 a0_0, .slice A0_1 l0_1.length c0_1] 29 (0, 0)) (by (with_reducible repeat (first | refine blk_drewN ?_ _ | refine blk_drew ?_ | refine blk_alloc ?_ _)); exact BK298.out)) : gb299 ≠ gb298)); clear BK298; clear HB; have BK298 := n0_; have HB := n1_; have BK299 := n2_; have GW299 := n3_; have GE299 := n4_; have NB298_299 := n5_; have NB299_298 := n6_; clear n0_ n1_ n2_ n3_ n4_ n5_ n6_; clear hb hbox hg) | ((with_reducible refine gate_dst (N := 9) rfl ?_); refine box_event ?hg (N := 9) ?hd (cs := #[.int .i64 a4_0, .int .i64 a4_1]) (t := 67) ?hr ?_; (case hd => rfl); (case hg => rfl); (case hr => first | (go_simp; done) | (go_simp; rfl)); intro gb300 hg w8 hbox hb; have n0_ := Aside0.mk (blk_below (g := gb298) (o := .cells #[.int .i64 a0_0, .slice A0_1 l0_1.length c0_1] 29 (0, 0)) (by (with_reducible repeat (first | refine blk_drewN ?_ _ | refine blk_drew ?_ | refine blk_alloc ?_ _)); exact BK298.out) hb); have n1_ := Aside0.mk (blk_below (g := gb299) (o := .cells #[.int .i64 a3_0, .int .i64 a3_1] 67 (0, 0)) (by (with_reducible repeat (first | refine blk_drewN ?_ _ | refine blk_drew ?_ | refine blk_alloc ?_ _)); exact BK299.out) hb); have n2_ := Aside0.mk (below_step (by repeat (first | (with_reducible first | exact HB.out | apply below_alloc | apply pw_below_drewN | apply below_drew1 | refine below_set ?_ GE298.out | refine below_set ?_ GE299.out) | exact HB.out)) hb); have n3_ := Aside0.mk (hbox); have n4_ := Aside0.mk ((by rw [hg]; exact (below_size (by repeat (first | (with_reducible first | exact HB.out | apply below_alloc | apply pw_below_drewN | apply below_drew1 | refine below_set ?_ GE298.out | refine below_set ?_ GE299.out) | exact HB.out))) : w.heap.size ≤ gb300)); have n5_ := Aside0.mk ((by rw [hg]; exact (below_size (by repeat (first | (with_reducible first | exact HB.out | apply below_alloc | apply pw_below_drewN | apply below_drew1 | refine below_set ?_ GE298.out | refine below_set ?_ GE299.out) | exact HB.out))) : w.heap.size ≤ gb300)); have n6_ := Aside0.mk ((by rw [hg]; exact Nat.ne_of_lt (blk_lt (g := gb298) (o := .cells #[.int .i64 a0_0, .slice A0_1 l0_1.length c0_1] 29 (0, 0)) (by (with_reducible repeat (first | refine blk_drewN ?_ _ | refine blk_drew ?_ | refine blk_alloc ?_ _)); exact BK298.out)) : gb298 ≠ gb300)); have n7_ := Aside0.mk ((by rw [hg]; exact Nat.ne_of_gt (blk_lt (g := gb298) (o := .cells #[.int .i64 a0_0, .slice A0_1 l0_1.length c0_1] 29 (0, 0)) (by (with_reducible repeat (first | refine blk_drewN ?_ _ | refine blk_drew ?_ | refine blk_alloc ?_ _)); exact BK298.out)) : gb300 ≠ gb298)); have n8_ := Aside0.mk ((by rw [hg]; exact Nat.ne_of_lt (blk_lt (g := gb299) (o := .cells #[.int .i64 a3_0, .int .i64 a3_1] 67 (0, 0)) (by (with_reducible repeat (first | refine blk_drewN ?_ _ | refine blk_drew ?_ | refine blk_alloc ?_ _)); exact BK299.out)) : gb299 ≠ gb300)); have n9_ := Aside0.mk ((by rw [hg]; exact Nat.ne_of_gt (blk_lt (g := gb299) (o := .cells #[.int .i64 a3_0, .int .i64 a3_1] 67 (0, 0)) (by (with_reducible repeat (first | refine blk_drewN ?_ _ | refine blk_drew ?_ | refine blk_alloc ?_ _)); exact BK299.out)) : gb300 ≠ gb299)); clear BK298; clear BK299; clear HB; have BK298 := n0_; have BK299 := n1_; have HB := n2_; have BK300 := n3_; have GW300 := n4_; have GE300 := n5_; have NB298_300 := n6_; have NB300_298 := n7_; have NB299_300 := n8_; have NB300_299 := n9_; clear n0_ n1_ n2_ n3_ n4_ n5_ n6_ n7_ n8_ n9_; clear hb hbox hg))
 go_loopg [11, 19] k (fun kq v11 v19 w' => ∃ (x11_1 : List (List (S67))) (x19_1 : Int) (x300000_1 : Int) (x300001_1 : Int) (x301000_1 : Int) (x301001_1 : Int), v19 = .int .i64 x19_1 ∧ Aside0 (impl_States_hit.l0 kq l1 a2 x11_1 l1 (l1.length : Int) x19_1 a0_0 l0_1 x300000_1 x300001_1 x301000_1 x301001_1 = some r) ∧ Aside0 (kq ≤ k) ∧ Aside0 (Kd.S (Kd.slice 67 k67) 65 w' w.heap.size (fun k_ => k_ ≠ gb299 ∧ k_ ≠ gb300) v11 x11_1) ∧ Aside0 (w'.heap[gb298]? = some (.cells #[.int .i64 a0_0, (.slice A0_1 l0_1.length c0_1)] 29 (0, 0))) ∧ Aside0 (w'.heap[gb299]? = some (.cells #[.int .i64 x300000_1, .int .i64 x300001_1] 67 (0, 0))) ∧ Aside0 (w'.heap[gb300]? = some (.cells #[.int .i64 x301000_1, .int .i64 x301001_1] 67 (0, 0))) ∧ Aside0 (Below w.heap.size w w'))
 case atStart => exact ⟨(([] : List (List (S67)))), (0), (a3_0), (a3_1), (a4_0), (a4_1), (by first | rfl | (simp; done) | (simp [*]; done)), H', ⟨Nat.le_refl _⟩, ⟨by first | exact Kd.S_nil _ _ _ _ _ | exact Kd.N_nil _ _ _ _ _ | exact Kd.V_nil _ _ _ _ _ | exact Kd.Q_nil _ _ _ _ _ | exact Kd.R_nil _ _ _ _ _⟩, ⟨by (with_reducible repeat (first | refine blk_drewN ?_ _ | refine blk_drew ?_ | refine blk_alloc ?_ _)); exact BK298.out⟩, ⟨by (with_reducible repeat (first | refine blk_drewN ?_ _ | refine blk_drew ?_ | refine blk_alloc ?_ _)); exact BK299.out⟩, ⟨by (with_reducible repeat (first | refine blk_drewN ?_ _ | refine blk_drew ?_ | refine blk_alloc ?_ _)); exact BK300.out⟩, ⟨by repeat (first | (with_reducible first | exact HB.out | apply below_alloc | apply pw_below_drewN | apply below_drew1 | refine below_set ?_ GE298.out | refine below_set ?_ GE299.out | refine below_set ?_ GE300.out) | exact HB.out)⟩⟩
 case round =>
  clear H'
  try clear c1
  try clear p2
  try clear c6
  obtain ⟨x11_1, x19_1, x300000_1, x300001_1, x301000_1, x301001_1, rfl, HA, HK1, HO_11, BK298, BK299, BK300, HB⟩ := hrel
  cases gk with
  | zero => exact absurd HA.out (by simp [impl_States_hit.l0])
  | succ k1 =>
   have H := HA.out
   clear HA
   simp only [impl_States_hit.l0] at H
   by_cases c9 : x19_1 < (l1.length : Int)
   · rw [if_pos c9] at H
     have c9b0 : decide (x19_1 < (l1.length : Int)) = true := decide_eq_true c9
     clear c9
     by_cases c10 : 0 ≤ x19_1
     · rw [if_pos c10] at H
       have c10b0 : decide (0 ≤ x19_1) = true := decide_eq_true c10
       clear c10
       by_cases c11 : x19_1 < (l1.length : Int)
       · rw [if_pos c11] at H
         have c11b0 : decide (x19_1 < (l1.length : Int)) = true := decide_eq_true c11
         clear c11
         obtain ⟨ji12, hji12⟩ : ∃ j_ : Int, (wrap64 ((l1.length : Int) + 1)) = j_ := ⟨_, rfl⟩
         replace H : (if 0 ≤ (ji12) then (if (ji12 : Int).toNat ≤ 17592186044416 then (impl_States_hit.l1 k1 l1 a2 x11_1 (rd l1 x19_1) (List.replicate (ji12 : Int).toNat z67) l1 (l1.length : Int) x19_1 l1 (l1.length : Int) 0 a0_0 l0_1 x300000_1 x300001_1 x301000_1 x301001_1) else (none)) else (none)) = some r := by first | (rw [hji12] at H; exact H) | (simp only [hji12] at H ⊢; exact H)
         have hji12w : (IntKind.i64.wrap ((l1.length : Int) + 1)) = ji12 := (i64_w _).trans hji12
         by_cases c13 : 0 ≤ (ji12)
         · rw [if_pos c13] at H
           have c13b0 := eq_true c13
           have c13b1 : decide (0 ≤ (ji12)) = true := decide_eq_true c13
           clear c13
           by_cases c14 : (ji12 : Int).toNat ≤ 17592186044416
           · rw [if_pos c14] at H
             have c14b0 := eq_true c14
             have c14b1 : decide ((ji12 : Int).toNat ≤ 17592186044416) = true := decide_eq_true c14
             clear c14
             obtain ⟨y305, hy305⟩ : ∃ y_ : List (S67), y_ = (List.replicate (ji12 : Int).toNat z67) := ⟨_, rfl⟩
             replace H : (impl_States_hit.l1 k1 l1 a2 x11_1 (rd l1 x19_1) y305 l1 (l1.length : Int) x19_1 l1 (l1.length : Int) 0 a0_0 l0_1 x300000_1 x300001_1 x301000_1 x301001_1) = some r := by first | (rw [hy305]; with_reducible exact H) | (have H2_ := (Option.bind_some _ _).symm.trans H; rw [hy305]; with_reducible exact H2_) | (have H2_ := (Option.bind_some _ _).symm.trans H; with_reducible exact H2_) | with_reducible exact H | (rw [hy305]; exact H) | exact H
             have Ny305 := Aside0.mk hy305
             clear hy305
             have H' := Aside0.mk H
             clear H
             have p304 : 0 ≤ (x19_1 : Int) := of_decide_eq_true (by first | (with_reducible assumption) | assumption)
             have q304 : x19_1 < (l1.length : Int) := of_decide_eq_true (by first | (with_reducible assumption) | assumption)
             obtain ⟨ad304, e304, hx304_0⟩ := Kd.at_int HR1.out x19_1 p304 q304
             cases e304
             replace hx304_0 := (HB.out.cell (World.block_lt_of_cell? w _ hx304_0)).trans hx304_0
             replace p304 := eq_true p304
             replace q304 := eq_true q304
             go_wp2_with (first | ((with_reducible refine gate_dst (N := 26) rfl ?_); refine Kd.R_make k67 _ 67 rfl (N := 26) rfl 65 _ _ rfl ji12 rfl rfl Try.underlying65 (.agg #[(.int .i64 0), (.int .i64 0)]) 16 info67 rfl (by decide) (by omega) z67 (ok := fun _ => True) (okp := fun _ => True) (k67_mkM _ _ _ z67 ) (fun _ hk => hk) trivial (of_decide_eq_true (by first | (with_reducible assumption) | assumption)) (Nat.le_trans (Nat.mul_le_mul_right _ (of_decide_eq_true (by first | (with_reducible assumption) | assumption) : ji12.toNat ≤ 17592186044416)) (by omega)) (Below.refl _ _) (Nat.le_refl _) ?_; intro v306 w15 ho16 hb hg_ hnew_; clear hg_ hnew_; (first | rw [← Ny305.out] at ho16 | (simp only [Int.reduceToNat] at ho16; rw [← Ny305.out] at ho16)); have n0_ := Aside0.mk (Kd.S_elder' (by (with_reducible repeat (first | apply Kd.S_alloc | apply Kd.S_drewN | apply Kd.S_drew)); exact HO_11.out) (Kd.R_base ho16) hb); have n1_ := Aside0.mk (Kd.R_lower (Kd.R_newB (Kd.R_newB ho16 (g := gb299) (o := .cells #[.int .i64 x300000_1, .int .i64 x300001_1] 67 (0, 0)) (by (with_reducible repeat (first | refine blk_drewN ?_ _ | refine blk_drew ?_ | refine blk_alloc ?_ _)); exact BK299.out)) (g := gb300) (o := .cells #[.int .i64 x301000_1, .int .i64 x301001_1] 67 (0, 0)) (by (with_reducible repeat (first | refine blk_drewN ?_ _ | refine blk_drew ?_ | refine blk_alloc ?_ _)); exact BK300.out)) (below_size (by repeat (first | (with_reducible first | exact HB.out | apply below_alloc | apply pw_below_drewN | apply below_drew1 | refine below_set ?_ GE298.out | refine below_set ?_ GE299.out | refine below_set ?_ GE300.out) | exact HB.out)))); have n2_ := Aside0.mk (blk_below (g := gb298) (o := .cells #[.int .i64 a0_0, .slice A0_1 l0_1.length c0_1] 29 (0, 0)) (by (with_reducible repeat (first | refine blk_drewN ?_ _ | refine blk_drew ?_ | refine blk_alloc ?_ _)); exact BK298.out) hb); have n3_ := Aside0.mk (blk_below (g := gb299) (o := .cells #[.int .i64 x300000_1, .int .i64 x300001_1] 67 (0, 0)) (by (with_reducible repeat (first | refine blk_drewN ?_ _ | refine blk_drew ?_ | refine blk_alloc ?_ _)); exact BK299.out) hb); have n4_ := Aside0.mk (blk_below (g := gb300) (o := .cells #[.int .i64 x301000_1, .int .i64 x301001_1] 67 (0, 0)) (by (with_reducible repeat (first | refine blk_drewN ?_ _ | refine blk_drew ?_ | refine blk_alloc ?_ _)); exact BK300.out) hb); have n5_ := Aside0.mk (below_step (by repeat (first | (with_reducible first | exact HB.out | apply below_alloc | apply pw_below_drewN | apply below_drew1 | refine below_set ?_ GE298.out | refine below_set ?_ GE299.out | refine below_set ?_ GE300.out) | exact HB.out)) hb); clear HO_11; clear BK298; clear BK299; clear BK300; clear HB; have HO_11 := n0_; have HO307 := n1_; have BK298 := n2_; have BK299 := n3_; have BK300 := n4_; have HB := n5_; clear n0_ n1_ n2_ n3_ n4_ n5_; clear hb ho16))
             go_loopg [29] k1 (fun kq v29 w' => ∃ (x14_2 : List (S67)) (x29_2 : Int) (x300000_2 : Int) (x300001_2 : Int) (x301000_2 : Int) (x301001_2 : Int), v29 = .int .i64 x29_2 ∧ Aside0 (impl_States_hit.l1 kq l1 a2 x11_1 (rd l1 x19_1) x14_2 l1 (l1.length : Int) x19_1 l1 (l1.length : Int) x29_2 a0_0 l0_1 x300000_2 x300001_2 x301000_2 x301001_2 = some r) ∧ Aside0 (kq ≤ k1) ∧ Aside0 (Kd.S (Kd.slice 67 k67) 65 w' w.heap.size (fun k_ => some k_ ≠ (v306 : Value).ownBlock ∧ k_ ≠ gb299 ∧ k_ ≠ gb300) u11 x11_1) ∧ Aside0 (Kd.R k67 67 w' w.heap.size (fun k_ => k_ ≠ gb299 ∧ k_ ≠ gb300) v306 x14_2) ∧ Aside0 (w'.heap[gb298]? = some (.cells #[.int .i64 a0_0, (.slice A0_1 l0_1.length c0_1)] 29 (0, 0))) ∧ Aside0 (w'.heap[gb299]? = some (.cells #[.int .i64 x300000_2, .int .i64 x300001_2] 67 (0, 0))) ∧ Aside0 (w'.heap[gb300]? = some (.cells #[.int .i64 x301000_2, .int .i64 x301001_2] 67 (0, 0))) ∧ Aside0 (Below w.heap.size w w'))
             case atStart => exact ⟨(y305), (0), (x300000_1), (x300001_1), (x301000_1), (x301001_1), (by first | rfl | (simp; done) | (simp [*]; done)), H', ⟨Nat.le_refl _⟩, ⟨by (with_reducible repeat (first | apply Kd.S_alloc | apply Kd.S_drewN | apply Kd.S_drew)); exact Kd.S_mono HO_11.out (fun _ hk => ⟨hk.2, ⟨hk.1.1, hk.1.2⟩⟩)⟩, ⟨by (with_reducible repeat (first | apply Kd.R_alloc | apply Kd.R_drewN | apply Kd.R_drew)); exact Kd.R_mono HO307.out (fun _ hk => ⟨hk.1.2, hk.2⟩)⟩, ⟨by (with_reducible repeat (first | refine blk_drewN ?_ _ | refine blk_drew ?_ | refine blk_alloc ?_ _)); exact BK298.out⟩, ⟨by (with_reducible repeat (first | refine blk_drewN ?_ _ | refine blk_drew ?_ | refine blk_alloc ?_ _)); exact BK299.out⟩, ⟨by (with_reducible repeat (first | refine blk_drewN ?_ _ | refine blk_drew ?_ | refine blk_alloc ?_ _)); exact BK300.out⟩, ⟨by repeat (first | (with_reducible first | exact HB.out | apply below_alloc | apply pw_below_drewN | apply below_drew1 | refine below_set ?_ GE298.out | refine below_set ?_ GE299.out | refine below_set ?_ GE300.out) | exact HB.out)⟩⟩
             case round =>
              clear H'
              try clear c1
              try clear p2
              try clear p3
              try clear q3
              try clear hx3
              try clear c6
              try clear p6
              try clear c9
              try clear c9b0
              try clear c10
              try clear c10b0
              try clear c11
              try clear c11b0
              try clear c13
              try clear c13b0
              try clear c13b1
              try clear c14
              try clear c14b0
              try clear c14b1
              try clear hx304_0
              try clear p2
              try clear p304
              try clear q304
              obtain ⟨x14_2, x29_2, x300000_2, x300001_2, x301000_2, x301001_2, rfl, HA, HK2, HO_11, HO_14, BK298, BK299, BK300, HB⟩ := hrel
              cases gk with
              | zero => exact absurd HA.out (by simp [impl_States_hit.l1])
              | succ k2 =>
               have H := HA.out
               clear HA
               simp only [impl_States_hit.l1] at H
               by_cases c17 : x29_2 < (l1.length : Int)
               · rw [if_pos c17] at H
                 have c17b0 : decide (x29_2 < (l1.length : Int)) = true := decide_eq_true c17
                 clear c17
                 by_cases c18 : 0 ≤ x29_2
                 · rw [if_pos c18] at H
                   have c18b0 : decide (0 ≤ x29_2) = true := decide_eq_true c18
                   clear c18
                   by_cases c19 : x29_2 < (l1.length : Int)
                   · rw [if_pos c19] at H
                     have c19b0 : decide (x29_2 < (l1.length : Int)) = true := decide_eq_true c19
                     clear c19
                     by_cases c20 : 0 ≤ (rd l1 x19_1)
                     · rw [if_pos c20] at H
                       have c20b0 : decide (0 ≤ (rd l1 x19_1)) = true := decide_eq_true c20
                       clear c20
                       by_cases c21 : (rd l1 x19_1) < (l0_1.length : Int)
                       · rw [if_pos c21] at H
                         have c21b0 : decide ((rd l1 x19_1) < (l0_1.length : Int)) = true := decide_eq_true c21
                         clear c21
                         by_cases c22 : 0 ≤ (rd l1 x29_2)
                         · rw [if_pos c22] at H
                           have c22b0 : decide (0 ≤ (rd l1 x29_2)) = true := decide_eq_true c22
                           clear c22
                           by_cases c23 : (rd l1 x29_2) < ((rd_L1 l0_1 (rd l1 x19_1)).length : Int)
                           · rw [if_pos c23] at H
                             have c23b0 : decide ((rd l1 x29_2) < ((rd_L1 l0_1 (rd l1 x19_1)).length : Int)) = true := decide_eq_true c23
                             clear c23
                             replace H := Option.bind_eq_some_iff.mp H
                             obtain ⟨⟨t323, t324⟩, A240, H⟩ := H
                             replace H : (if x29_2 < (x14_2.length : Int) then ((some (x14_2.set (x29_2 : Int).toNat (⟨t323, t324⟩ : S67) : List (S67))).bind fun y325 => (if (rd l1 x19_1) = (rd l1 x29_2) then ((impl_whole.f 1).bind fun bt327 => ((impl_frac_plus.f k2 ((rd_T67 y325 x29_2).f0) ((rd_T67 y325 x29_2).f1) bt327.1 bt327.2).bind fun bt329 => (impl_States_hit.l1 k2 l1 a2 x11_1 (rd l1 x19_1) (y325.set (x29_2 : Int).toNat (⟨bt329.1, bt329.2⟩ : S67)) l1 (l1.length : Int) x19_1 l1 (l1.length : Int) (wrap64 (x29_2 + 1)) a0_0 l0_1 x300000_2 x300001_2 x301000_2 x301001_2))) else (impl_States_hit.l1 k2 l1 a2 x11_1 (rd l1 x19_1) y325 l1 (l1.length : Int) x19_1 l1 (l1.length : Int) (wrap64 (x29_2 + 1)) a0_0 l0_1 x300000_2 x300001_2 x301000_2 x301001_2))) else (none)) = some r := H
                             have A24 := Aside0.mk A240
                             clear A240
                             by_cases c25 : x29_2 < (x14_2.length : Int)
                             · rw [if_pos c25] at H
                               have c25b0 : decide (x29_2 < (x14_2.length : Int)) = true := decide_eq_true c25
                               clear c25
                               obtain ⟨y325, hy325⟩ : ∃ y_ : List (S67), y_ = (x14_2.set (x29_2 : Int).toNat (⟨t323, t324⟩ : S67)) := ⟨_, rfl⟩
                               replace H : (if (rd l1 x19_1) = (rd l1 x29_2) then ((impl_whole.f 1).bind fun bt327 => ((impl_frac_plus.f k2 ((rd_T67 y325 x29_2).f0) ((rd_T67 y325 x29_2).f1) bt327.1 bt327.2).bind fun bt329 => (impl_States_hit.l1 k2 l1 a2 x11_1 (rd l1 x19_1) (y325.set (x29_2 : Int).toNat (⟨bt329.1, bt329.2⟩ : S67)) l1 (l1.length : Int) x19_1 l1 (l1.length : Int) (wrap64 (x29_2 + 1)) a0_0 l0_1 x300000_2 x300001_2 x301000_2 x301001_2))) else (impl_States_hit.l1 k2 l1 a2 x11_1 (rd l1 x19_1) y325 l1 (l1.length : Int) x19_1 l1 (l1.length : Int) (wrap64 (x29_2 + 1)) a0_0 l0_1 x300000_2 x300001_2 x301000_2 x301001_2)) = some r := by first | (rw [hy325]; with_reducible exact H) | (have H2_ := (Option.bind_some _ _).symm.trans H; rw [hy325]; with_reducible exact H2_) | (have H2_ := (Option.bind_some _ _).symm.trans H; with_reducible exact H2_) | with_reducible exact H | (rw [hy325]; exact H) | exact H
                               have Ny325 := Aside0.mk hy325
                               clear hy325
                               by_cases c27 : (rd l1 x19_1) = (rd l1 x29_2)
                               · rw [if_pos c27] at H
                                 have c27b0 : ((rd l1 x19_1) == (rd l1 x29_2)) = true := beq_iff_eq.mpr c27
                                 have c27b1 : ((rd l1 x19_1) != (rd l1 x29_2)) = false := bne_eq_false_iff_eq.mpr c27
                                 clear c27
                                 replace H := Option.bind_eq_some_iff.mp H
                                 obtain ⟨⟨t327, t328⟩, A280, H⟩ := H
                                 replace H : ((impl_frac_plus.f k2 ((rd_T67 y325 x29_2).f0) ((rd_T67 y325 x29_2).f1) t327 t328).bind fun bt329 => (impl_States_hit.l1 k2 l1 a2 x11_1 (rd l1 x19_1) (y325.set (x29_2 : Int).toNat (⟨bt329.1, bt329.2⟩ : S67)) l1 (l1.length : Int) x19_1 l1 (l1.length : Int) (wrap64 (x29_2 + 1)) a0_0 l0_1 x300000_2 x300001_2 x301000_2 x301001_2)) = some r := H
                                 have A28 := Aside0.mk A280
                                 clear A280
                                 replace H := Option.bind_eq_some_iff.mp H
                                 obtain ⟨⟨t329, t330⟩, A290, H⟩ := H
                                 replace H : (impl_States_hit.l1 k2 l1 a2 x11_1 (rd l1 x19_1) (y325.set (x29_2 : Int).toNat (⟨t329, t330⟩ : S67)) l1 (l1.length : Int) x19_1 l1 (l1.length : Int) (wrap64 (x29_2 + 1)) a0_0 l0_1 x300000_2 x300001_2 x301000_2 x301001_2) = some r := H
                                 have A29 := Aside0.mk A290
                                 clear A290
                                 obtain ⟨y331, hy331⟩ : ∃ y_ : List (S67), y_ = (y325.set (x29_2 : Int).toNat (⟨t329, t330⟩ : S67)) := ⟨_, rfl⟩
                                 replace H : (impl_States_hit.l1 k2 l1 a2 x11_1 (rd l1 x19_1) y331 l1 (l1.length : Int) x19_1 l1 (l1.length : Int) (wrap64 (x29_2 + 1)) a0_0 l0_1 x300000_2 x300001_2 x301000_2 x301001_2) = some r := by first | (rw [hy331]; with_reducible exact H) | (have H2_ := (Option.bind_some _ _).symm.trans H; rw [hy331]; with_reducible exact H2_) | (have H2_ := (Option.bind_some _ _).symm.trans H; with_reducible exact H2_) | with_reducible exact H | (rw [hy331]; exact H) | exact H
                                 have Ny331 := Aside0.mk hy331
                                 clear hy331
                                 have H' := Aside0.mk H
                                 clear H
                                 have p320 : 0 ≤ (x29_2 : Int) := of_decide_eq_true (by first | (with_reducible assumption) | assumption)
                                 have q320 : x29_2 < (l1.length : Int) := of_decide_eq_true (by first | (with_reducible assumption) | assumption)
                                 obtain ⟨ad320, e320, hx320_0⟩ := Kd.at_int HR1.out x29_2 p320 q320
                                 obtain rfl : ad304 = ad320 := (by injection e320)
                                 replace hx320_0 := (HB.out.cell (World.block_lt_of_cell? w _ hx320_0)).trans hx320_0
                                 replace p320 := eq_true p320
                                 replace q320 := eq_true q320
                                 try go_wp2
                                 have n0_ := Aside0.mk (Kd.S_drew HO_11.out)
                                 have n1_ := Aside0.mk (Kd.R_drew HO_14.out)
                                 have n2_ := Aside0.mk (blk_drew BK298.out)
                                 have n3_ := Aside0.mk (blk_drew BK299.out)
                                 have n4_ := Aside0.mk (blk_drew BK300.out)
                                 have n5_ := Aside0.mk (below_drew1 HB.out)
                                 clear HO_11
                                 clear HO_14
                                 clear BK298
                                 clear BK299
                                 clear BK300
                                 clear HB
                                 have HO_11 := n0_
                                 have HO_14 := n1_
                                 have BK298 := n2_
                                 have BK299 := n3_
                                 have BK300 := n4_
                                 have HB := n5_
                                 clear n0_ n1_ n2_ n3_ n4_ n5_
                                 have p321 : 0 ≤ ((rd l1 x19_1) : Int) := of_decide_eq_true (by first | (with_reducible assumption) | assumption)
                                 have q321 : (rd l1 x19_1) < (l0_1.length : Int) := of_decide_eq_true (by first | (with_reducible assumption) | assumption)
                                 obtain ⟨ad321, A321_0, c321_0, e321, hx321_0, hl321_0, hi321_0⟩ := at_L1 HR0_1.out (rd l1 x19_1) p321 q321
                                 have hw321_0 := hx321_0
                                 cases e321
                                 replace hx321_0 := (HB.out.cell (World.block_lt_of_cell? w _ hx321_0)).trans hx321_0
                                 have HR321_0 := Aside0.mk hi321_0
                                 have HC321_0 := Aside0.mk hl321_0
                                 clear hi321_0 hl321_0
                                 replace p321 := eq_true p321
                                 replace q321 := eq_true q321
                                 have p322 : 0 ≤ ((rd l1 x29_2) : Int) := of_decide_eq_true (by first | (with_reducible assumption) | assumption)
                                 have q322 : (rd l1 x29_2) < ((rd_L1 l0_1 (rd l1 x19_1)).length : Int) := of_decide_eq_true (by first | (with_reducible assumption) | assumption)
                                 obtain ⟨ad322, e322, hx322_0⟩ := Kd.at_int HR321_0.out (rd l1 x29_2) p322 q322
                                 have hw322_0 := hx322_0
                                 cases e322
                                 replace hx322_0 := (HB.out.cell (World.block_lt_of_cell? w _ hx322_0)).trans hx322_0
                                 replace p322 := eq_true p322
                                 replace q322 := eq_true q322
                                 refine start_ (n := 16) (S := fun w' => w'.cell? ⟨gb298, 0, none⟩ = some (.int .i64 a0_0) ∧ w'.cell? ⟨gb298, 1, none⟩ = some (.slice (some ad321) l0_1.length c0_1) ∧ w'.cell? (ad321.add ((rd l1 x19_1)).toNat) = some (.slice (some ad322) (rd_L1 l0_1 (rd l1 x19_1)).length c321_0) ∧ w'.cell? (ad322.add ((rd l1 x29_2)).toNat) = some (.int .i64 (rd (rd_L1 l0_1 (rd l1 x19_1)) (rd l1 x29_2)))) (ds := [15]) #[false, false, false, false, false, false, false, false, false, false, false, false, false, false, false, false] (by kernel_rfl) rfl rfl ⟨(blk_cell BK298.out 0).trans rfl, (blk_cell BK298.out 1).trans rfl, ((HB.out.cell (World.block_lt_of_cell? w _ hw321_0)).trans hw321_0), ((HB.out.cell (World.block_lt_of_cell? w _ hw322_0)).trans hw322_0)⟩ (fun hHeld => ?_); refine with_tabW impl_States_hit.tab9 impl_States_hit.bits9 (fun HT_ HW_ => ?_)
                                 generalize wr.drew = w31 at HO_11 HO_14 BK298 BK299 BK300 HB HR321_0 hx321_0 hx322_0 hHeld ⊢
                                 refine pure_ (i := 0) (N := some 34) (v := ?_) (a' := ?_) #[true, false, false, false, false, false, false, false, false, false, false, false, false, false, false, false] rfl rfl (any_of HT_.out (by kernel_rfl)) (fun _ _ _ h => h) (Or.inl ⟨by rfl, ?_⟩) ?_ ?_
                                 rotate_left
                                 · intro w'
                                   go_simp
                                   with_reducible rfl
                                 rotate_left
                                 · simp only [Act.put, List.setIfInBounds_toArray, List.set_cons_zero, List.set_cons_succ, i64_w, i32_w]
                                   rfl
                                 refine pure_ (i := 1) (N := some 35) (v := ?_) (a' := ?_) #[true, true, false, false, false, false, false, false, false, false, false, false, false, false, false, false] rfl rfl (any_of HT_.out (by kernel_rfl)) (fun _ _ _ h => h) (Or.inl ⟨by rfl, ?_⟩) ?_ ?_
                                 rotate_left
                                 · intro w'
                                   go_simp
                                   with_reducible rfl
                                 rotate_left
                                 · simp only [Act.put, List.setIfInBounds_toArray, List.set_cons_zero, List.set_cons_succ, i64_w, i32_w]
                                   rfl
                                 refine pure_ (i := 2) (N := some 36) (v := ?_) (a' := ?_) #[true, true, true, false, false, false, false, false, false, false, false, false, false, false, false, false] rfl rfl (any_of HT_.out (by kernel_rfl)) (fun _ _ _ h => h) (Or.inl ⟨by rfl, ?_⟩) ?_ ?_
                                 rotate_left
                                 · intro w'
                                   go_simp
                                   with_reducible rfl
                                 rotate_left
                                 · simp only [Act.put, List.setIfInBounds_toArray, List.set_cons_zero, List.set_cons_succ, i64_w, i32_w]
                                   rfl
                                 refine pure_ (i := 4) (N := some 38) (v := ?_) (a' := ?_) #[true, true, true, false, true, false, false, false, false, false, false, false, false, false, false, false] rfl rfl (any_of HT_.out (by kernel_rfl)) (fun _ _ _ h => h) (Or.inl ⟨by rfl, ?_⟩) ?_ ?_
                                 rotate_left
                                 · intro w'
                                   go_simp
                                   with_reducible rfl
                                 rotate_left
                                 · simp only [Act.put, List.setIfInBounds_toArray, List.set_cons_zero, List.set_cons_succ, i64_w, i32_w]
                                   rfl
                                 refine pure_ (i := 7) (N := some 41) (v := ?_) (a' := ?_) #[true, true, true, false, true, false, false, true, false, false, false, false, false, false, false, false] rfl rfl (any_of HT_.out (by kernel_rfl)) (fun _ _ _ h => h) (Or.inl ⟨by rfl, ?_⟩) ?_ ?_
                                 rotate_left
                                 · intro w'
                                   go_simp
                                   with_reducible rfl
                                 rotate_left
                                 · simp only [Act.put, List.setIfInBounds_toArray, List.set_cons_zero, List.set_cons_succ, i64_w, i32_w]
                                   rfl
                                 refine pure_ (i := 11) (N := some 45) (v := ?_) (a' := ?_) #[true, true, true, false, true, false, false, true, false, false, false, true, false, false, false, false] rfl rfl (any_of HT_.out (by kernel_rfl)) (fun _ _ _ h => h) (Or.inl ⟨by rfl, ?_⟩) ?_ ?_
                                 rotate_left
                                 · intro w'
                                   go_simp
                                   with_reducible rfl
                                 rotate_left
                                 · simp only [Act.put, List.setIfInBounds_toArray, List.set_cons_zero, List.set_cons_succ, i64_w, i32_w]
                                   rfl
                                 refine take_ (i := 3) (N := some 37) (v := ?_) (a' := ?_) #[true, true, true, true, true, false, false, true, false, false, false, true, false, false, false, false] rfl rfl (take_ofW HT_.out HW_.out (by kernel_rfl)) (fun _ _ _ h => h) (Or.inl ⟨by rfl, ?_⟩) hHeld ?_ ?_
                                 rotate_left
                                 · rintro w' ⟨s0, s1, s2, s3⟩
                                   go_simp
                                   with_reducible rfl
                                 rotate_left
                                 · simp only [Act.put, List.setIfInBounds_toArray, List.set_cons_zero, List.set_cons_succ, i64_w, i32_w]
                                   rfl
                                 refine pure_ (i := 5) (N := some 39) (v := ?_) (a' := ?_) #[true, true, true, true, true, true, false, true, false, false, false, true, false, false, false, false] rfl rfl (any_of HT_.out (by kernel_rfl)) (fun _ _ _ h => h) (Or.inl ⟨by rfl, ?_⟩) ?_ ?_
                                 rotate_left
                                 · intro w'
                                   go_simp
                                   with_reducible rfl
                                 rotate_left
                                 · simp only [Act.put, List.setIfInBounds_toArray, List.set_cons_zero, List.set_cons_succ, i64_w, i32_w]
                                   rfl
                                 refine take_ (i := 6) (N := some 40) (v := ?_) (a' := ?_) #[true, true, true, true, true, true, true, true, false, false, false, true, false, false, false, false] rfl rfl (take_ofW HT_.out HW_.out (by kernel_rfl)) (fun _ _ _ h => h) (Or.inl ⟨by rfl, ?_⟩) hHeld ?_ ?_
                                 rotate_left
                                 · rintro w' ⟨s0, s1, s2, s3⟩
                                   go_simp
                                   with_reducible rfl
                                 rotate_left
                                 · simp only [Act.put, List.setIfInBounds_toArray, List.set_cons_zero, List.set_cons_succ, i64_w, i32_w]
                                   rfl
                                 refine pure_ (i := 8) (N := some 42) (v := ?_) (a' := ?_) #[true, true, true, true, true, true, true, true, true, false, false, true, false, false, false, false] rfl rfl (any_of HT_.out (by kernel_rfl)) (fun _ _ _ h => h) (Or.inl ⟨by rfl, ?_⟩) ?_ ?_
                                 rotate_left
                                 · intro w'
                                   go_simp
                                   with_reducible rfl
                                 rotate_left
                                 · simp only [Act.put, List.setIfInBounds_toArray, List.set_cons_zero, List.set_cons_succ, i64_w, i32_w]
                                   rfl
                                 refine take_ (i := 9) (N := some 43) (v := ?_) (a' := ?_) #[true, true, true, true, true, true, true, true, true, true, false, true, false, false, false, false] rfl rfl (take_ofW HT_.out HW_.out (by kernel_rfl)) (fun _ _ _ h => h) (Or.inl ⟨by rfl, ?_⟩) hHeld ?_ ?_
                                 rotate_left
                                 · rintro w' ⟨s0, s1, s2, s3⟩
                                   go_simp
                                   with_reducible rfl
                                 rotate_left
                                 · simp only [Act.put, List.setIfInBounds_toArray, List.set_cons_zero, List.set_cons_succ, i64_w, i32_w]
                                   rfl
                                 refine pure_ (i := 10) (N := some 44) (v := ?_) (a' := ?_) #[true, true, true, true, true, true, true, true, true, true, true, true, false, false, false, false] rfl rfl (any_of HT_.out (by kernel_rfl)) (fun _ _ _ h => h) (Or.inl ⟨by rfl, ?_⟩) ?_ ?_
                                 rotate_left
                                 · intro w'
                                   go_simp
                                   with_reducible rfl
                                 rotate_left
                                 · simp only [Act.put, List.setIfInBounds_toArray, List.set_cons_zero, List.set_cons_succ, i64_w, i32_w]
                                   rfl
                                 refine take_ (i := 12) (N := some 46) (v := ?_) (a' := ?_) #[true, true, true, true, true, true, true, true, true, true, true, true, true, false, false, false] rfl rfl (take_ofW HT_.out HW_.out (by kernel_rfl)) (fun _ _ _ h => h) (Or.inl ⟨by rfl, ?_⟩) hHeld ?_ ?_
                                 rotate_left
                                 · rintro w' ⟨s0, s1, s2, s3⟩
                                   go_simp
                                   with_reducible rfl
                                 rotate_left
                                 · simp only [Act.put, List.setIfInBounds_toArray, List.set_cons_zero, List.set_cons_succ, i64_w, i32_w]
                                   rfl
                                 refine one_ (i := 13) (N := some 47) #[true, true, true, true, true, true, true, true, true, true, true, true, true, true, false, false] rfl rfl (one_of HT_.out (by kernel_rfl)) (by decide) (fun K hK => ?_)
                                 refine goes_ Try.func56 (by kernel_rfl) rfl #[.int .i64 (wrap64 (-(rd (rd_L1 l0_1 (rd l1 x19_1)) (rd l1 x29_2)))), .int .i64 a0_0] (by rfl) rfl rfl (by (try simp only [List.map_toArray, List.map_cons, List.map_nil]); first | done | rfl | (simp only [List.length_drop, List.length_take]; rfl)) ?_
                                 with_reducible refine (impl_lowest.calls k2 (wrap64 (-(rd (rd_L1 l0_1 (rd l1 x19_1)) (rd l1 x29_2)))) a0_0 t323 t324 _ A24.out).mono ?_
                                 rintro e w32 ⟨rfl, hb⟩
                                 refine ⟨_, rfl, ?_⟩
                                 have n0_ := Aside0.mk (Kd.S_below (by (with_reducible repeat (first | apply Kd.S_alloc | apply Kd.S_drewN | apply Kd.S_drew)); exact HO_11.out) hb)
                                 have n1_ := Aside0.mk (Kd.R_below (by (with_reducible repeat (first | apply Kd.R_alloc | apply Kd.R_drewN | apply Kd.R_drew)); exact HO_14.out) hb)
                                 have n2_ := Aside0.mk (blk_below (g := gb298) (o := .cells #[.int .i64 a0_0, .slice (some ad321) l0_1.length c0_1] 29 (0, 0)) (by (with_reducible repeat (first | refine blk_drewN ?_ _ | refine blk_drew ?_ | refine blk_alloc ?_ _)); exact BK298.out) hb)
                                 have n3_ := Aside0.mk (blk_below (g := gb299) (o := .cells #[.int .i64 x300000_2, .int .i64 x300001_2] 67 (0, 0)) (by (with_reducible repeat (first | refine blk_drewN ?_ _ | refine blk_drew ?_ | refine blk_alloc ?_ _)); exact BK299.out) hb)
                                 have n4_ := Aside0.mk (blk_below (g := gb300) (o := .cells #[.int .i64 x301000_2, .int .i64 x301001_2] 67 (0, 0)) (by (with_reducible repeat (first | refine blk_drewN ?_ _ | refine blk_drew ?_ | refine blk_alloc ?_ _)); exact BK300.out) hb)
                                 have n5_ := Aside0.mk (below_step (by repeat (first | (with_reducible first | exact HB.out | apply below_alloc | apply pw_below_drewN | apply below_drew1 | refine below_set ?_ GE298.out | refine below_set ?_ GE299.out | refine below_set ?_ GE300.out) | exact HB.out)) hb)
                                 clear HO_11
                                 clear HO_14
                                 clear BK298
                                 clear BK299
                                 clear BK300
                                 clear HB
                                 have HO_11 := n0_
                                 have HO_14 := n1_
                                 have BK298 := n2_
                                 have BK299 := n3_
                                 have BK300 := n4_
                                 have HB := n5_
                                 clear n0_ n1_ n2_ n3_ n4_ n5_
                                 (try clear hb)
                                 (try clear hb2)
                                 (try clear hk)
                                 (try clear hi)
                                 have p26 : 0 ≤ (x29_2 : Int) := of_decide_eq_true (by first | (with_reducible assumption) | assumption)
                                 have q26 : (x29_2 : Int) < ((x14_2.length : Int) : Int) := of_decide_eq_true (by first | (with_reducible assumption) | assumption)
                                 obtain ⟨go26, co26, eo26, gb26, gl26, cl26, HG26⟩ := Kd.R_form HO_14.out (by omega)
                                 (first | cases eo26 | (injection eo26 with ea_ en_ ec_; (first | subst ea_ | (injection ea_ with ea_; subst ea_)); subst ec_; clear en_))
                                 have GB26 := Aside0.mk gb26
                                 have GG26 := Aside0.mk HG26
                                 clear gb26 gl26 HG26
                                 obtain ⟨ce26, hcl26, hM26, hcc26, hfr26⟩ := Kd.R_elem HO_14.out z67 (x29_2 : Int) p26 q26
                                 obtain rfl := k67_openM hM26
                                 have hx26_0 : World.cell? _ ⟨go26, (x29_2 : Int).toNat * 2, none⟩ = some (.int .i64 ((rd_T67 x14_2 x29_2).f0)) := hcc26 0 _ rfl
                                 have hx26_1 : World.cell? _ ⟨go26, (x29_2 : Int).toNat * 2 + 1, none⟩ = some (.int .i64 ((rd_T67 x14_2 x29_2).f1)) := hcc26 1 _ rfl
                                 have hf26_0 : World.frozen? _ ⟨go26, (x29_2 : Int).toNat * 2, none⟩ = false := hfr26 0
                                 have hf26_1 : World.frozen? _ ⟨go26, (x29_2 : Int).toNat * 2 + 1, none⟩ = false := hfr26 1
                                 (try clear hcl26 hcc26 hfr26 ); (try clear hM26)
                                 replace p26 := eq_true p26
                                 replace q26 := eq_true q26
                                 obtain ⟨ce33, hcl33, hM33, hcc33, hfr33⟩ := Kd.R_elem HO_14.out z67 (x29_2 : Int) (of_decide_eq_true (by first | (with_reducible assumption) | assumption)) (by have h_ : (x29_2 : Int) < ((x14_2.length : Int) : Int) := of_decide_eq_true (by first | (with_reducible assumption) | assumption); first | exact h_ | (have e_ := (Kd.R_reads' HO_14.out).1; omega) | simpa using h_)
                                 obtain rfl := k67_openM hM33
                                 have HP33 := (Kd.R_seg HO_14.out (x29_2 : Int) (of_decide_eq_true (by first | (with_reducible assumption) | assumption)) (by have h_ : (x29_2 : Int) < ((x14_2.length : Int) : Int) := of_decide_eq_true (by first | (with_reducible assumption) | assumption); first | exact h_ | (have e_ := (Kd.R_reads' HO_14.out).1; omega) | simpa using h_) (seg := [.int .i64 t323, .int .i64 t324]) (j := 0) hcl33 hcc33 (show 2 ≤ 2 from by decide) (x' := (⟨t323, t324⟩ : S67)) (k67_mkM _ _ _ (⟨t323, t324⟩ : S67) ) (fun _ hk => hk)).1
                                 rw [← Ny325.out] at HP33
                                 have HQ33 := Aside0.mk HP33
                                 (try clear hcl33 hcc33 hfr33 HP33); (try clear hM33)
                                 refine hK.out _ _ ⟨(blk_cell BK298.out 0).trans rfl, (blk_cell BK298.out 1).trans rfl, ((HB.out.cell (World.block_lt_of_cell? w _ hw321_0)).trans hw321_0), ((HB.out.cell (World.block_lt_of_cell? w _ hw322_0)).trans hw322_0)⟩ (fun hHeld => ?_)
                                 clear hK K
                                 refine norm_ (a' := ?_) ?_ ?_
                                 rotate_left
                                 · show Act.put _ (some 47) _ = _
                                   simp only [Act.put, List.setIfInBounds_toArray, List.set_cons_zero, List.set_cons_succ, i64_w, i32_w]
                                   rfl
                                 refine pure_ (i := 14) (N := some 48) (v := ?_) (a' := ?_) #[true, true, true, true, true, true, true, true, true, true, true, true, true, true, true, false] rfl rfl (any_of HT_.out (by kernel_rfl)) (fun _ _ _ h => h) (Or.inl ⟨by rfl, ?_⟩) ?_ ?_
                                 rotate_left
                                 · intro w'
                                   go_simp
                                   with_reducible rfl
                                 rotate_left
                                 · simp only [Act.put, List.setIfInBounds_toArray, List.set_cons_zero, List.set_cons_succ, i64_w, i32_w]
                                   rfl
                                 refine last_ (i := 15) (N := none) #[true, true, true, true, true, true, true, true, true, true, true, true, true, true, true, true] rfl rfl (one_of HT_.out (by kernel_rfl)) (by decide) (fun K hK => ?_)
                                 refine skip_ (w1 := ?_) (by rfl) rfl ?_ ?_
                                 rotate_left
                                 · go_simp
                                   rfl
                                 refine hK.out _ _ ?_
                                 clear hK K
                                 refine done_ (done_of HT_.out (by kernel_rfl)) ?_
                                 try go_wp2
                                 have n0_ : Aside0 (Kd.S (Kd.slice 67 k67) 65 ((w32.setCell ⟨go26, (x29_2 : Int).toNat * 2, none⟩ (.int .i64 t323)).setCell ⟨go26, (x29_2 : Int).toNat * 2 + 1, none⟩ (.int .i64 t324)) w.heap.size (fun k_ => some k_ ≠ (.slice (some ⟨go26, 0, none⟩) x14_2.length co26 : Value).ownBlock ∧ k_ ≠ gb299 ∧ k_ ≠ gb300) u11 x11_1) := ⟨by (with_reducible repeat (first | apply Kd.S_alloc | apply Kd.S_drewN | apply Kd.S_drew)); exact Kd.S_mono (Kd.S_far (p := ⟨go26, (x29_2 : Int).toNat * 2 + 1, none⟩) (Kd.S_far (p := ⟨go26, (x29_2 : Int).toNat * 2, none⟩) (Kd.S_mono HO_11.out (fun k_ hk => (⟨hk, fun e_ => hk.1 (by rw [e_]; rfl)⟩ : _ ∧ k_ ≠ go26))) (fun _ hk => hk.2) (.int .i64 t323)) (fun _ hk => hk.2) (.int .i64 t324)) (fun _ hk => ⟨hk.1.1, ⟨hk.1.2.1, hk.1.2.2⟩⟩)⟩
                                 have n1_ : Aside0 (Kd.R k67 67 ((w32.setCell ⟨go26, (x29_2 : Int).toNat * 2, none⟩ (.int .i64 t323)).setCell ⟨go26, (x29_2 : Int).toNat * 2 + 1, none⟩ (.int .i64 t324)) w.heap.size (fun k_ => k_ ≠ gb299 ∧ k_ ≠ gb300) (.slice (some ⟨go26, 0, none⟩) x14_2.length co26) y325) := ⟨by (with_reducible repeat (first | apply Kd.R_alloc | apply Kd.R_drewN | apply Kd.R_drew)); exact HQ33.out⟩
                                 have n2_ : Aside0 (((w32.setCell ⟨go26, (x29_2 : Int).toNat * 2, none⟩ (.int .i64 t323)).setCell ⟨go26, (x29_2 : Int).toNat * 2 + 1, none⟩ (.int .i64 t324)).heap[gb298]? = some (.cells #[.int .i64 a0_0, .slice (some ad321) l0_1.length c0_1] 29 (0, 0))) := ⟨by (with_reducible repeat (first | refine blk_drewN ?_ _ | refine blk_drew ?_ | refine blk_alloc ?_ _)); refine blk_far ?_ (by have h_ := Kd.R_ne HO_14.out BK298.out (by decide); intro e_; exact h_ (by rw [e_]; rfl)) _; (with_reducible repeat (first | refine blk_drewN ?_ _ | refine blk_drew ?_ | refine blk_alloc ?_ _)); refine blk_far ?_ (by have h_ := Kd.R_ne HO_14.out BK298.out (by decide); intro e_; exact h_ (by rw [e_]; rfl)) _; (with_reducible repeat (first | refine blk_drewN ?_ _ | refine blk_drew ?_ | refine blk_alloc ?_ _)); exact BK298.out⟩
                                 have n3_ : Aside0 (((w32.setCell ⟨go26, (x29_2 : Int).toNat * 2, none⟩ (.int .i64 t323)).setCell ⟨go26, (x29_2 : Int).toNat * 2 + 1, none⟩ (.int .i64 t324)).heap[gb299]? = some (.cells #[.int .i64 x300000_2, .int .i64 x300001_2] 67 (0, 0))) := ⟨by (with_reducible repeat (first | refine blk_drewN ?_ _ | refine blk_drew ?_ | refine blk_alloc ?_ _)); refine blk_far ?_ (by have h_ := Kd.R_away HO_14.out (fun _ hk => hk.1); intro e_; exact h_ (by rw [e_]; rfl)) _; (with_reducible repeat (first | refine blk_drewN ?_ _ | refine blk_drew ?_ | refine blk_alloc ?_ _)); refine blk_far ?_ (by have h_ := Kd.R_away HO_14.out (fun _ hk => hk.1); intro e_; exact h_ (by rw [e_]; rfl)) _; (with_reducible repeat (first | refine blk_drewN ?_ _ | refine blk_drew ?_ | refine blk_alloc ?_ _)); exact BK299.out⟩
                                 have n4_ : Aside0 (((w32.setCell ⟨go26, (x29_2 : Int).toNat * 2, none⟩ (.int .i64 t323)).setCell ⟨go26, (x29_2 : Int).toNat * 2 + 1, none⟩ (.int .i64 t324)).heap[gb300]? = some (.cells #[.int .i64 x301000_2, .int .i64 x301001_2] 67 (0, 0))) := ⟨by (with_reducible repeat (first | refine blk_drewN ?_ _ | refine blk_drew ?_ | refine blk_alloc ?_ _)); refine blk_far ?_ (by have h_ := Kd.R_away HO_14.out (fun _ hk => hk.2); intro e_; exact h_ (by rw [e_]; rfl)) _; (with_reducible repeat (first | refine blk_drewN ?_ _ | refine blk_drew ?_ | refine blk_alloc ?_ _)); refine blk_far ?_ (by have h_ := Kd.R_away HO_14.out (fun _ hk => hk.2); intro e_; exact h_ (by rw [e_]; rfl)) _; (with_reducible repeat (first | refine blk_drewN ?_ _ | refine blk_drew ?_ | refine blk_alloc ?_ _)); exact BK300.out⟩
                                 have n5_ : Aside0 (Below w.heap.size w ((w32.setCell ⟨go26, (x29_2 : Int).toNat * 2, none⟩ (.int .i64 t323)).setCell ⟨go26, (x29_2 : Int).toNat * 2 + 1, none⟩ (.int .i64 t324))) := ⟨by repeat (first | (with_reducible first | exact HB.out | apply below_alloc | apply pw_below_drewN | apply below_drew1 | refine below_set ?_ GB26.out | refine below_set ?_ GB26.out | refine below_set ?_ GE298.out | refine below_set ?_ GE299.out | refine below_set ?_ GE300.out) | exact HB.out)⟩
                                 (try clear HO_11)
                                 (try clear HO_14)
                                 (try clear BK298)
                                 (try clear BK299)
                                 (try clear BK300)
                                 (try clear HB)
                                 generalize ((w32.setCell ⟨go26, (x29_2 : Int).toNat * 2, none⟩ (.int .i64 t323)).setCell ⟨go26, (x29_2 : Int).toNat * 2 + 1, none⟩ (.int .i64 t324)) = w34 at n0_ n1_ n2_ n3_ n4_ n5_ ⊢
                                 have HO_11 := n0_
                                 have HO_14 := n1_
                                 have BK298 := n2_
                                 have BK299 := n3_
                                 have BK300 := n4_
                                 have HB := n5_
                                 clear n0_ n1_ n2_ n3_ n4_ n5_
                                 have n0_ := Aside0.mk (Kd.S_drew HO_11.out)
                                 have n1_ := Aside0.mk (Kd.R_drew HO_14.out)
                                 have n2_ := Aside0.mk (blk_drew BK298.out)
                                 have n3_ := Aside0.mk (blk_drew BK299.out)
                                 have n4_ := Aside0.mk (blk_drew BK300.out)
                                 have n5_ := Aside0.mk (below_drew1 HB.out)
                                 clear HO_11
                                 clear HO_14
                                 clear BK298
                                 clear BK299
                                 clear BK300
                                 clear HB
                                 have HO_11 := n0_
                                 have HO_14 := n1_
                                 have BK298 := n2_
                                 have BK299 := n3_
                                 have BK300 := n4_
                                 have HB := n5_
                                 clear n0_ n1_ n2_ n3_ n4_ n5_
                                 have p326 : 0 ≤ (x29_2 : Int) := of_decide_eq_true (by first | (with_reducible assumption) | assumption)
                                 have q326 : x29_2 < (y325.length : Int) := (by have h_ : (x29_2 : Int) < ((x14_2.length : Int) : Int) := of_decide_eq_true (by first | (with_reducible assumption) | assumption); first | (have e_ := (Kd.R_reads' HO_14.out).1; omega) | simpa only [Ny325.out, List.length_set] using h_)
                                 have ql326 : ((x29_2 : Int) < ((x14_2.length : Int) : Int)) = True := eq_true (of_decide_eq_true (by first | (with_reducible assumption) | assumption))
                                 obtain ⟨ad326, e326, hx326_0, hx326_1⟩ := at_T67 (Kd.R_reads' HO_14.out).2.2 x29_2 p326 q326
                                 obtain rfl : (⟨go26, 0, none⟩ : Addr) = ad326 := (by injection e326)
                                 (first | simp only [add_plain] at hx326_0 | simp only [add_at] at hx326_0 | simp only [Addr.add, Nat.zero_add] at hx326_0 | skip)
                                 (first | simp only [add_plain] at hx326_1 | simp only [add_at] at hx326_1 | simp only [Addr.add, Nat.zero_add] at hx326_1 | skip)
                                 replace p326 := eq_true p326
                                 replace q326 := eq_true q326
                                 refine start_ (n := 10) (S := fun w' => w'.cell? ⟨go26, (x29_2).toNat * 2, none⟩ = some (.int .i64 ((rd_T67 y325 x29_2).f0)) ∧ w'.cell? ⟨go26, (x29_2).toNat * 2 + 1, none⟩ = some (.int .i64 ((rd_T67 y325 x29_2).f1))) (ds := [9]) #[false, false, false, false, false, false, false, false, false, false] (by kernel_rfl) rfl rfl ⟨hx326_0, hx326_1⟩ (fun hHeld => ?_); refine with_tabW impl_States_hit.tab11 impl_States_hit.bits11 (fun HT_ HW_ => ?_)
                                 generalize w34.drew = w35 at HO_11 HO_14 BK298 BK299 BK300 HB HQ33 hx326_0 hx326_1 hHeld ⊢
                                 refine pure_ (i := 0) (N := some 52) (v := ?_) (a' := ?_) #[true, false, false, false, false, false, false, false, false, false] rfl rfl (any_of HT_.out (by kernel_rfl)) (fun _ _ _ h => h) (Or.inl ⟨by rfl, ?_⟩) ?_ ?_
                                 rotate_left
                                 · intro w'
                                   go_simp
                                   with_reducible rfl
                                 rotate_left
                                 · simp only [Act.put, List.setIfInBounds_toArray, List.set_cons_zero, List.set_cons_succ, i64_w, i32_w]
                                   rfl
                                 refine pure_ (i := 1) (N := some 53) (v := ?_) (a' := ?_) #[true, true, false, false, false, false, false, false, false, false] rfl rfl (any_of HT_.out (by kernel_rfl)) (fun _ _ _ h => h) (Or.inl ⟨by rfl, ?_⟩) ?_ ?_
                                 rotate_left
                                 · intro w'
                                   go_simp
                                   with_reducible rfl
                                 rotate_left
                                 · simp only [Act.put, List.setIfInBounds_toArray, List.set_cons_zero, List.set_cons_succ, i64_w, i32_w]
                                   rfl
                                 refine pure_ (i := 2) (N := some 54) (v := ?_) (a' := ?_) #[true, true, true, false, false, false, false, false, false, false] rfl rfl (any_of HT_.out (by kernel_rfl)) (fun _ _ _ h => h) (Or.inl ⟨by rfl, ?_⟩) ?_ ?_
                                 rotate_left
                                 · intro w'
                                   go_simp
                                   with_reducible rfl
                                 rotate_left
                                 · simp only [Act.put, List.setIfInBounds_toArray, List.set_cons_zero, List.set_cons_succ, i64_w, i32_w]
                                   rfl
                                 refine pure_ (i := 3) (N := some 55) (v := ?_) (a' := ?_) #[true, true, true, true, false, false, false, false, false, false] rfl rfl (any_of HT_.out (by kernel_rfl)) (fun _ _ _ h => h) (Or.inl ⟨by rfl, ?_⟩) ?_ ?_
                                 rotate_left
                                 · intro w'
                                   go_simp
                                   with_reducible rfl
                                 rotate_left
                                 · simp only [Act.put, List.setIfInBounds_toArray, List.set_cons_zero, List.set_cons_succ, i64_w, i32_w]
                                   rfl
                                 refine pure_ (i := 4) (N := some 56) (v := ?_) (a' := ?_) #[true, true, true, true, true, false, false, false, false, false] rfl rfl (any_of HT_.out (by kernel_rfl)) (fun _ _ _ h => h) (Or.inl ⟨by rfl, ?_⟩) ?_ ?_
                                 rotate_left
                                 · intro w'
                                   go_simp
                                   with_reducible rfl
                                 rotate_left
                                 · simp only [Act.put, List.setIfInBounds_toArray, List.set_cons_zero, List.set_cons_succ, i64_w, i32_w]
                                   rfl
                                 refine take_ (i := 5) (N := some 57) (v := ?_) (a' := ?_) #[true, true, true, true, true, true, false, false, false, false] rfl rfl (take_ofW HT_.out HW_.out (by kernel_rfl)) (fun _ _ _ h => h) (Or.inl ⟨by rfl, ?_⟩) hHeld ?_ ?_
                                 rotate_left
                                 · rintro w' ⟨s0, s1⟩
                                   go_simp
                                   with_reducible rfl
                                 rotate_left
                                 · simp only [Act.put, List.setIfInBounds_toArray, List.set_cons_zero, List.set_cons_succ, i64_w, i32_w]
                                   rfl
                                 refine one_ (i := 6) (N := some 58) #[true, true, true, true, true, true, true, false, false, false] rfl rfl (one_of HT_.out (by kernel_rfl)) (by decide) (fun K hK => ?_)
                                 refine goes_ Try.func58 (by kernel_rfl) rfl #[.int .i64 1] (by rfl) rfl rfl (by (try simp only [List.map_toArray, List.map_cons, List.map_nil]); first | done | rfl | (simp only [List.length_drop, List.length_take]; rfl)) ?_
                                 with_reducible refine (impl_whole.calls 1 t327 t328 _ A28.out).mono ?_
                                 rintro e w36 ⟨rfl, hb⟩
                                 have HS0_ := (hb.cell (World.block_lt_of_cell? _ _ (hHeld.1))).trans (hHeld.1)
                                 have HS1_ := (hb.cell (World.block_lt_of_cell? _ _ (hHeld.2))).trans (hHeld.2)
                                 refine ⟨_, rfl, ?_⟩
                                 have n0_ := Aside0.mk (Kd.S_below (by (with_reducible repeat (first | apply Kd.S_alloc | apply Kd.S_drewN | apply Kd.S_drew)); exact HO_11.out) hb)
                                 have n1_ := Aside0.mk (Kd.R_below (by (with_reducible repeat (first | apply Kd.R_alloc | apply Kd.R_drewN | apply Kd.R_drew)); exact HO_14.out) hb)
                                 have n2_ := Aside0.mk (blk_below (g := gb298) (o := .cells #[.int .i64 a0_0, .slice (some ad321) l0_1.length c0_1] 29 (0, 0)) (by (with_reducible repeat (first | refine blk_drewN ?_ _ | refine blk_drew ?_ | refine blk_alloc ?_ _)); exact BK298.out) hb)
                                 have n3_ := Aside0.mk (blk_below (g := gb299) (o := .cells #[.int .i64 x300000_2, .int .i64 x300001_2] 67 (0, 0)) (by (with_reducible repeat (first | refine blk_drewN ?_ _ | refine blk_drew ?_ | refine blk_alloc ?_ _)); exact BK299.out) hb)
                                 have n4_ := Aside0.mk (blk_below (g := gb300) (o := .cells #[.int .i64 x301000_2, .int .i64 x301001_2] 67 (0, 0)) (by (with_reducible repeat (first | refine blk_drewN ?_ _ | refine blk_drew ?_ | refine blk_alloc ?_ _)); exact BK300.out) hb)
                                 have n5_ := Aside0.mk (below_step (by repeat (first | (with_reducible first | exact HB.out | apply below_alloc | apply pw_below_drewN | apply below_drew1 | refine below_set ?_ GE298.out | refine below_set ?_ GE299.out | refine below_set ?_ GE300.out) | exact HB.out)) hb)
                                 clear HO_11
                                 clear HO_14
                                 clear BK298
                                 clear BK299
                                 clear BK300
                                 clear HB
                                 have HO_11 := n0_
                                 have HO_14 := n1_
                                 have BK298 := n2_
                                 have BK299 := n3_
                                 have BK300 := n4_
                                 have HB := n5_
                                 clear n0_ n1_ n2_ n3_ n4_ n5_
                                 (try clear hb)
                                 (try clear hb2)
                                 (try clear hk)
                                 (try clear hi)
                                 refine hK.out _ _ ⟨HS0_, HS1_⟩ (fun hHeld => ?_)
                                 clear hK K
                                 refine norm_ (a' := ?_) ?_ ?_
                                 rotate_left
                                 · show Act.put _ (some 58) _ = _
                                   simp only [Act.put, List.setIfInBounds_toArray, List.set_cons_zero, List.set_cons_succ, i64_w, i32_w]
                                   rfl
                                 refine one_ (i := 7) (N := some 59) #[true, true, true, true, true, true, true, true, false, false] rfl rfl (one_of HT_.out (by kernel_rfl)) (by decide) (fun K hK => ?_)
                                 refine goes_ Try.func83 (by kernel_rfl) rfl #[.agg #[.int .i64 ((rd_T67 y325 x29_2).f0), .int .i64 ((rd_T67 y325 x29_2).f1)], .agg #[.int .i64 t327, .int .i64 t328]] (by rfl) rfl rfl (by (try simp only [List.map_toArray, List.map_cons, List.map_nil]); first | done | rfl | (simp only [List.length_drop, List.length_take]; rfl)) ?_
                                 with_reducible refine (impl_frac_plus.calls k2 ((rd_T67 y325 x29_2).f0) ((rd_T67 y325 x29_2).f1) t327 t328 t329 t330 _ A29.out).mono ?_
                                 rintro e w37 ⟨rfl, hb⟩
                                 have HS0_ := (hb.cell (World.block_lt_of_cell? _ _ (hHeld.1))).trans (hHeld.1)
                                 have HS1_ := (hb.cell (World.block_lt_of_cell? _ _ (hHeld.2))).trans (hHeld.2)
                                 refine ⟨_, rfl, ?_⟩
                                 have n0_ := Aside0.mk (Kd.S_below (by (with_reducible repeat (first | apply Kd.S_alloc | apply Kd.S_drewN | apply Kd.S_drew)); exact HO_11.out) hb)
                                 have n1_ := Aside0.mk (Kd.R_below (by (with_reducible repeat (first | apply Kd.R_alloc | apply Kd.R_drewN | apply Kd.R_drew)); exact HO_14.out) hb)
                                 have n2_ := Aside0.mk (blk_below (g := gb298) (o := .cells #[.int .i64 a0_0, .slice (some ad321) l0_1.length c0_1] 29 (0, 0)) (by (with_reducible repeat (first | refine blk_drewN ?_ _ | refine blk_drew ?_ | refine blk_alloc ?_ _)); exact BK298.out) hb)
                                 have n3_ := Aside0.mk (blk_below (g := gb299) (o := .cells #[.int .i64 x300000_2, .int .i64 x300001_2] 67 (0, 0)) (by (with_reducible repeat (first | refine blk_drewN ?_ _ | refine blk_drew ?_ | refine blk_alloc ?_ _)); exact BK299.out) hb)
                                 have n4_ := Aside0.mk (blk_below (g := gb300) (o := .cells #[.int .i64 x301000_2, .int .i64 x301001_2] 67 (0, 0)) (by (with_reducible repeat (first | refine blk_drewN ?_ _ | refine blk_drew ?_ | refine blk_alloc ?_ _)); exact BK300.out) hb)
                                 have n5_ := Aside0.mk (below_step (by repeat (first | (with_reducible first | exact HB.out | apply below_alloc | apply pw_below_drewN | apply below_drew1 | refine below_set ?_ GE298.out | refine below_set ?_ GE299.out | refine below_set ?_ GE300.out) | exact HB.out)) hb)
                                 clear HO_11
                                 clear HO_14
                                 clear BK298
                                 clear BK299
                                 clear BK300
                                 clear HB
                                 have HO_11 := n0_
                                 have HO_14 := n1_
                                 have BK298 := n2_
                                 have BK299 := n3_
                                 have BK300 := n4_
                                 have HB := n5_
                                 clear n0_ n1_ n2_ n3_ n4_ n5_
                                 (try clear hb)
                                 (try clear hb2)
                                 (try clear hk)
                                 (try clear hi)
                                 have p30 : 0 ≤ (x29_2 : Int) := of_decide_eq_true (by first | (with_reducible assumption) | assumption)
                                 have q30 : (x29_2 : Int) < ((x14_2.length : Int) : Int) := of_decide_eq_true (by first | (with_reducible assumption) | assumption)
                                 obtain ⟨ce30, hcl30, hM30, hcc30, hfr30⟩ := Kd.R_elem HO_14.out z67 (x29_2 : Int) p30 q30
                                 obtain rfl := k67_openM hM30
                                 have hx30_0 : World.cell? _ ⟨go26, (x29_2 : Int).toNat * 2, none⟩ = some (.int .i64 ((rd_T67 y325 x29_2).f0)) := hcc30 0 _ rfl
                                 have hx30_1 : World.cell? _ ⟨go26, (x29_2 : Int).toNat * 2 + 1, none⟩ = some (.int .i64 ((rd_T67 y325 x29_2).f1)) := hcc30 1 _ rfl
                                 have hf30_0 : World.frozen? _ ⟨go26, (x29_2 : Int).toNat * 2, none⟩ = false := hfr30 0
                                 have hf30_1 : World.frozen? _ ⟨go26, (x29_2 : Int).toNat * 2 + 1, none⟩ = false := hfr30 1
                                 (try clear hcl30 hcc30 hfr30 ); (try clear hM30)
                                 replace p30 := eq_true p30
                                 replace q30 := eq_true q30
                                 obtain ⟨ce38, hcl38, hM38, hcc38, hfr38⟩ := Kd.R_elem HO_14.out z67 (x29_2 : Int) (of_decide_eq_true (by first | (with_reducible assumption) | assumption)) (by have h_ : (x29_2 : Int) < ((x14_2.length : Int) : Int) := of_decide_eq_true (by first | (with_reducible assumption) | assumption); first | exact h_ | (have e_ := (Kd.R_reads' HO_14.out).1; omega) | simpa using h_)
                                 obtain rfl := k67_openM hM38
                                 have HP38 := (Kd.R_seg HO_14.out (x29_2 : Int) (of_decide_eq_true (by first | (with_reducible assumption) | assumption)) (by have h_ : (x29_2 : Int) < ((x14_2.length : Int) : Int) := of_decide_eq_true (by first | (with_reducible assumption) | assumption); first | exact h_ | (have e_ := (Kd.R_reads' HO_14.out).1; omega) | simpa using h_) (seg := [.int .i64 t329, .int .i64 t330]) (j := 0) hcl38 hcc38 (show 2 ≤ 2 from by decide) (x' := (⟨t329, t330⟩ : S67)) (k67_mkM _ _ _ (⟨t329, t330⟩ : S67) ) (fun _ hk => hk)).1
                                 rw [← Ny331.out] at HP38
                                 have HQ38 := Aside0.mk HP38
                                 (try clear hcl38 hcc38 hfr38 HP38); (try clear hM38)
                                 refine hK.out _ _ ⟨HS0_, HS1_⟩ (fun hHeld => ?_)
                                 clear hK K
                                 refine norm_ (a' := ?_) ?_ ?_
                                 rotate_left
                                 · show Act.put _ (some 59) _ = _
                                   simp only [Act.put, List.setIfInBounds_toArray, List.set_cons_zero, List.set_cons_succ, i64_w, i32_w]
                                   rfl
                                 refine pure_ (i := 8) (N := some 60) (v := ?_) (a' := ?_) #[true, true, true, true, true, true, true, true, true, false] rfl rfl (any_of HT_.out (by kernel_rfl)) (fun _ _ _ h => h) (Or.inl ⟨by rfl, ?_⟩) ?_ ?_
                                 rotate_left
                                 · intro w'
                                   go_simp
                                   with_reducible rfl
                                 rotate_left
                                 · simp only [Act.put, List.setIfInBounds_toArray, List.set_cons_zero, List.set_cons_succ, i64_w, i32_w]
                                   rfl
                                 refine last_ (i := 9) (N := none) #[true, true, true, true, true, true, true, true, true, true] rfl rfl (one_of HT_.out (by kernel_rfl)) (by decide) (fun K hK => ?_)
                                 refine skip_ (w1 := ?_) (by rfl) rfl ?_ ?_
                                 rotate_left
                                 · go_simp
                                   rfl
                                 refine hK.out _ _ ?_
                                 clear hK K
                                 refine done_ (done_of HT_.out (by kernel_rfl)) ?_
                                 try go_wp2
                                 (first | go_roundg k2 | (try subst hji12; go_roundg k2))
                                 case measure => have := HK1.out; have := HK2.out; omega
                                 case rel => exact ⟨(y331), (wrap64 (x29_2 + 1)), (x300000_2), (x300001_2), (x301000_2), (x301001_2), (by first | rfl | (simp; done) | (simp [*]; done)), H', ⟨by have := HK1.out; have := HK2.out; omega⟩, ⟨by (with_reducible repeat (first | apply Kd.S_alloc | apply Kd.S_drewN | apply Kd.S_drew)); exact Kd.S_mono (Kd.S_far (p := ⟨go26, (x29_2 : Int).toNat * 2 + 1, none⟩) (Kd.S_far (p := ⟨go26, (x29_2 : Int).toNat * 2, none⟩) (Kd.S_mono HO_11.out (fun k_ hk => (⟨hk, fun e_ => hk.1 (by rw [e_]; rfl)⟩ : _ ∧ k_ ≠ go26))) (fun _ hk => hk.2) (.int .i64 t329)) (fun _ hk => hk.2) (.int .i64 t330)) (fun _ hk => ⟨hk.1.1, ⟨hk.1.2.1, hk.1.2.2⟩⟩)⟩, ⟨by (with_reducible repeat (first | apply Kd.R_alloc | apply Kd.R_drewN | apply Kd.R_drew)); exact HQ38.out⟩, ⟨by (with_reducible repeat (first | refine blk_drewN ?_ _ | refine blk_drew ?_ | refine blk_alloc ?_ _)); refine blk_far ?_ (by have h_ := Kd.R_ne HO_14.out BK298.out (by decide); intro e_; exact h_ (by rw [e_]; rfl)) _; (with_reducible repeat (first | refine blk_drewN ?_ _ | refine blk_drew ?_ | refine blk_alloc ?_ _)); refine blk_far ?_ (by have h_ := Kd.R_ne HO_14.out BK298.out (by decide); intro e_; exact h_ (by rw [e_]; rfl)) _; (with_reducible repeat (first | refine blk_drewN ?_ _ | refine blk_drew ?_ | refine blk_alloc ?_ _)); exact BK298.out⟩, ⟨by (with_reducible repeat (first | refine blk_drewN ?_ _ | refine blk_drew ?_ | refine blk_alloc ?_ _)); refine blk_far ?_ (by have h_ := Kd.R_away HO_14.out (fun _ hk => hk.1); intro e_; exact h_ (by rw [e_]; rfl)) _; (with_reducible repeat (first | refine blk_drewN ?_ _ | refine blk_drew ?_ | refine blk_alloc ?_ _)); refine blk_far ?_ (by have h_ := Kd.R_away HO_14.out (fun _ hk => hk.1); intro e_; exact h_ (by rw [e_]; rfl)) _; (with_reducible repeat (first | refine blk_drewN ?_ _ | refine blk_drew ?_ | refine blk_alloc ?_ _)); exact BK299.out⟩, ⟨by (with_reducible repeat (first | refine blk_drewN ?_ _ | refine blk_drew ?_ | refine blk_alloc ?_ _)); refine blk_far ?_ (by have h_ := Kd.R_away HO_14.out (fun _ hk => hk.2); intro e_; exact h_ (by rw [e_]; rfl)) _; (with_reducible repeat (first | refine blk_drewN ?_ _ | refine blk_drew ?_ | refine blk_alloc ?_ _)); refine blk_far ?_ (by have h_ := Kd.R_away HO_14.out (fun _ hk => hk.2); intro e_; exact h_ (by rw [e_]; rfl)) _; (with_reducible repeat (first | refine blk_drewN ?_ _ | refine blk_drew ?_ | refine blk_alloc ?_ _)); exact BK300.out⟩, ⟨by repeat (first | (with_reducible first | exact HB.out | apply below_alloc | apply pw_below_drewN | apply below_drew1 | refine below_set ?_ GB26.out | refine below_set ?_ GB26.out | refine below_set ?_ GE298.out | refine below_set ?_ GE299.out | refine below_set ?_ GE300.out) | exact HB.out)⟩⟩
                               · rw [if_neg c27] at H
                                 have c27b0 : ((rd l1 x19_1) == (rd l1 x29_2)) = false := beq_eq_false_iff_ne.mpr c27
                                 have c27b1 : ((rd l1 x19_1) != (rd l1 x29_2)) = true := bne_iff_ne.mpr c27
                                 have H' := Aside0.mk H
                                 clear H
                                 have p320 : 0 ≤ (x29_2 : Int) := of_decide_eq_true (by first | (with_reducible assumption) | assumption)
                                 have q320 : x29_2 < (l1.length : Int) := of_decide_eq_true (by first | (with_reducible assumption) | assumption)
                                 obtain ⟨ad320, e320, hx320_0⟩ := Kd.at_int HR1.out x29_2 p320 q320
                                 obtain rfl : ad304 = ad320 := (by injection e320)
                                 replace hx320_0 := (HB.out.cell (World.block_lt_of_cell? w _ hx320_0)).trans hx320_0
                                 replace p320 := eq_true p320
                                 replace q320 := eq_true q320
                                 try go_wp2
                                 have n0_ := Aside0.mk (Kd.S_drew HO_11.out)
                                 have n1_ := Aside0.mk (Kd.R_drew HO_14.out)
                                 have n2_ := Aside0.mk (blk_drew BK298.out)
                                 have n3_ := Aside0.mk (blk_drew BK299.out)
                                 have n4_ := Aside0.mk (blk_drew BK300.out)
                                 have n5_ := Aside0.mk (below_drew1 HB.out)
                                 clear HO_11
                                 clear HO_14
                                 clear BK298
                                 clear BK299
                                 clear BK300
                                 clear HB
                                 have HO_11 := n0_
                                 have HO_14 := n1_
                                 have BK298 := n2_
                                 have BK299 := n3_
                                 have BK300 := n4_
                                 have HB := n5_
                                 clear n0_ n1_ n2_ n3_ n4_ n5_
                                 have p321 : 0 ≤ ((rd l1 x19_1) : Int) := of_decide_eq_true (by first | (with_reducible assumption) | assumption)
                                 have q321 : (rd l1 x19_1) < (l0_1.length : Int) := of_decide_eq_true (by first | (with_reducible assumption) | assumption)
                                 obtain ⟨ad321, A321_0, c321_0, e321, hx321_0, hl321_0, hi321_0⟩ := at_L1 HR0_1.out (rd l1 x19_1) p321 q321
                                 have hw321_0 := hx321_0
                                 cases e321
                                 replace hx321_0 := (HB.out.cell (World.block_lt_of_cell? w _ hx321_0)).trans hx321_0
                                 have HR321_0 := Aside0.mk hi321_0
                                 have HC321_0 := Aside0.mk hl321_0
                                 clear hi321_0 hl321_0
                                 replace p321 := eq_true p321
                                 replace q321 := eq_true q321
                                 have p322 : 0 ≤ ((rd l1 x29_2) : Int) := of_decide_eq_true (by first | (with_reducible assumption) | assumption)
                                 have q322 : (rd l1 x29_2) < ((rd_L1 l0_1 (rd l1 x19_1)).length : Int) := of_decide_eq_true (by first | (with_reducible assumption) | assumption)
                                 obtain ⟨ad322, e322, hx322_0⟩ := Kd.at_int HR321_0.out (rd l1 x29_2) p322 q322
                                 have hw322_0 := hx322_0
                                 cases e322
                                 replace hx322_0 := (HB.out.cell (World.block_lt_of_cell? w _ hx322_0)).trans hx322_0
                                 replace p322 := eq_true p322
                                 replace q322 := eq_true q322
                                 refine start_ (n := 16) (S := fun w' => w'.cell? ⟨gb298, 0, none⟩ = some (.int .i64 a0_0) ∧ w'.cell? ⟨gb298, 1, none⟩ = some (.slice (some ad321) l0_1.length c0_1) ∧ w'.cell? (ad321.add ((rd l1 x19_1)).toNat) = some (.slice (some ad322) (rd_L1 l0_1 (rd l1 x19_1)).length c321_0) ∧ w'.cell? (ad322.add ((rd l1 x29_2)).toNat) = some (.int .i64 (rd (rd_L1 l0_1 (rd l1 x19_1)) (rd l1 x29_2)))) (ds := [15]) #[false, false, false, false, false, false, false, false, false, false, false, false, false, false, false, false] (by kernel_rfl) rfl rfl ⟨(blk_cell BK298.out 0).trans rfl, (blk_cell BK298.out 1).trans rfl, ((HB.out.cell (World.block_lt_of_cell? w _ hw321_0)).trans hw321_0), ((HB.out.cell (World.block_lt_of_cell? w _ hw322_0)).trans hw322_0)⟩ (fun hHeld => ?_); refine with_tabW impl_States_hit.tab9 impl_States_hit.bits9 (fun HT_ HW_ => ?_)
                                 generalize wr.drew = w39 at HO_11 HO_14 BK298 BK299 BK300 HB HR321_0 hx321_0 hx322_0 hHeld ⊢
                                 refine pure_ (i := 0) (N := some 34) (v := ?_) (a' := ?_) #[true, false, false, false, false, false, false, false, false, false, false, false, false, false, false, false] rfl rfl (any_of HT_.out (by kernel_rfl)) (fun _ _ _ h => h) (Or.inl ⟨by rfl, ?_⟩) ?_ ?_
                                 rotate_left
                                 · intro w'
                                   go_simp
                                   with_reducible rfl
                                 rotate_left
                                 · simp only [Act.put, List.setIfInBounds_toArray, List.set_cons_zero, List.set_cons_succ, i64_w, i32_w]
                                   rfl
                                 refine pure_ (i := 1) (N := some 35) (v := ?_) (a' := ?_) #[true, true, false, false, false, false, false, false, false, false, false, false, false, false, false, false] rfl rfl (any_of HT_.out (by kernel_rfl)) (fun _ _ _ h => h) (Or.inl ⟨by rfl, ?_⟩) ?_ ?_
                                 rotate_left
                                 · intro w'
                                   go_simp
                                   with_reducible rfl
                                 rotate_left
                                 · simp only [Act.put, List.setIfInBounds_toArray, List.set_cons_zero, List.set_cons_succ, i64_w, i32_w]
                                   rfl
                                 refine pure_ (i := 2) (N := some 36) (v := ?_) (a' := ?_) #[true, true, true, false, false, false, false, false, false, false, false, false, false, false, false, false] rfl rfl (any_of HT_.out (by kernel_rfl)) (fun _ _ _ h => h) (Or.inl ⟨by rfl, ?_⟩) ?_ ?_
                                 rotate_left
                                 · intro w'
                                   go_simp
                                   with_reducible rfl
                                 rotate_left
                                 · simp only [Act.put, List.setIfInBounds_toArray, List.set_cons_zero, List.set_cons_succ, i64_w, i32_w]
                                   rfl
                                 refine pure_ (i := 4) (N := some 38) (v := ?_) (a' := ?_) #[true, true, true, false, true, false, false, false, false, false, false, false, false, false, false, false] rfl rfl (any_of HT_.out (by kernel_rfl)) (fun _ _ _ h => h) (Or.inl ⟨by rfl, ?_⟩) ?_ ?_
                                 rotate_left
                                 · intro w'
                                   go_simp
                                   with_reducible rfl
                                 rotate_left
                                 · simp only [Act.put, List.setIfInBounds_toArray, List.set_cons_zero, List.set_cons_succ, i64_w, i32_w]
                                   rfl
                                 refine pure_ (i := 7) (N := some 41) (v := ?_) (a' := ?_) #[true, true, true, false, true, false, false, true, false, false, false, false, false, false, false, false] rfl rfl (any_of HT_.out (by kernel_rfl)) (fun _ _ _ h => h) (Or.inl ⟨by rfl, ?_⟩) ?_ ?_
                                 rotate_left
                                 · intro w'
                                   go_simp
                                   with_reducible rfl
                                 rotate_left
                                 · simp only [Act.put, List.setIfInBounds_toArray, List.set_cons_zero, List.set_cons_succ, i64_w, i32_w]
                                   rfl
                                 refine pure_ (i := 11) (N := some 45) (v := ?_) (a' := ?_) #[true, true, true, false, true, false, false, true, false, false, false, true, false, false, false, false] rfl rfl (any_of HT_.out (by kernel_rfl)) (fun _ _ _ h => h) (Or.inl ⟨by rfl, ?_⟩) ?_ ?_
                                 rotate_left
                                 · intro w'
                                   go_simp
                                   with_reducible rfl
                                 rotate_left
                                 · simp only [Act.put, List.setIfInBounds_toArray, List.set_cons_zero, List.set_cons_succ, i64_w, i32_w]
                                   rfl
                                 refine take_ (i := 3) (N := some 37) (v := ?_) (a' := ?_) #[true, true, true, true, true, false, false, true, false, false, false, true, false, false, false, false] rfl rfl (take_ofW HT_.out HW_.out (by kernel_rfl)) (fun _ _ _ h => h) (Or.inl ⟨by rfl, ?_⟩) hHeld ?_ ?_
                                 rotate_left
                                 · rintro w' ⟨s0, s1, s2, s3⟩
                                   go_simp
                                   with_reducible rfl
                                 rotate_left
                                 · simp only [Act.put, List.setIfInBounds_toArray, List.set_cons_zero, List.set_cons_succ, i64_w, i32_w]
                                   rfl
                                 refine pure_ (i := 5) (N := some 39) (v := ?_) (a' := ?_) #[true, true, true, true, true, true, false, true, false, false, false, true, false, false, false, false] rfl rfl (any_of HT_.out (by kernel_rfl)) (fun _ _ _ h => h) (Or.inl ⟨by rfl, ?_⟩) ?_ ?_
                                 rotate_left
                                 · intro w'
                                   go_simp
                                   with_reducible rfl
                                 rotate_left
                                 · simp only [Act.put, List.setIfInBounds_toArray, List.set_cons_zero, List.set_cons_succ, i64_w, i32_w]
                                   rfl
                                 refine take_ (i := 6) (N := some 40) (v := ?_) (a' := ?_) #[true, true, true, true, true, true, true, true, false, false, false, true, false, false, false, false] rfl rfl (take_ofW HT_.out HW_.out (by kernel_rfl)) (fun _ _ _ h => h) (Or.inl ⟨by rfl, ?_⟩) hHeld ?_ ?_
                                 rotate_left
                                 · rintro w' ⟨s0, s1, s2, s3⟩
                                   go_simp
                                   with_reducible rfl
                                 rotate_left
                                 · simp only [Act.put, List.setIfInBounds_toArray, List.set_cons_zero, List.set_cons_succ, i64_w, i32_w]
                                   rfl
                                 refine pure_ (i := 8) (N := some 42) (v := ?_) (a' := ?_) #[true, true, true, true, true, true, true, true, true, false, false, true, false, false, false, false] rfl rfl (any_of HT_.out (by kernel_rfl)) (fun _ _ _ h => h) (Or.inl ⟨by rfl, ?_⟩) ?_ ?_
                                 rotate_left
                                 · intro w'
                                   go_simp
                                   with_reducible rfl
                                 rotate_left
                                 · simp only [Act.put, List.setIfInBounds_toArray, List.set_cons_zero, List.set_cons_succ, i64_w, i32_w]
                                   rfl
                                 refine take_ (i := 9) (N := some 43) (v := ?_) (a' := ?_) #[true, true, true, true, true, true, true, true, true, true, false, true, false, false, false, false] rfl rfl (take_ofW HT_.out HW_.out (by kernel_rfl)) (fun _ _ _ h => h) (Or.inl ⟨by rfl, ?_⟩) hHeld ?_ ?_
                                 rotate_left
                                 · rintro w' ⟨s0, s1, s2, s3⟩
                                   go_simp
                                   with_reducible rfl
                                 rotate_left
                                 · simp only [Act.put, List.setIfInBounds_toArray, List.set_cons_zero, List.set_cons_succ, i64_w, i32_w]
                                   rfl
                                 refine pure_ (i := 10) (N := some 44) (v := ?_) (a' := ?_) #[true, true, true, true, true, true, true, true, true, true, true, true, false, false, false, false] rfl rfl (any_of HT_.out (by kernel_rfl)) (fun _ _ _ h => h) (Or.inl ⟨by rfl, ?_⟩) ?_ ?_
                                 rotate_left
                                 · intro w'
                                   go_simp
                                   with_reducible rfl
                                 rotate_left
                                 · simp only [Act.put, List.setIfInBounds_toArray, List.set_cons_zero, List.set_cons_succ, i64_w, i32_w]
                                   rfl
                                 refine take_ (i := 12) (N := some 46) (v := ?_) (a' := ?_) #[true, true, true, true, true, true, true, true, true, true, true, true, true, false, false, false] rfl rfl (take_ofW HT_.out HW_.out (by kernel_rfl)) (fun _ _ _ h => h) (Or.inl ⟨by rfl, ?_⟩) hHeld ?_ ?_
                                 rotate_left
                                 · rintro w' ⟨s0, s1, s2, s3⟩
                                   go_simp
                                   with_reducible rfl
                                 rotate_left
                                 · simp only [Act.put, List.setIfInBounds_toArray, List.set_cons_zero, List.set_cons_succ, i64_w, i32_w]
                                   rfl
                                 refine one_ (i := 13) (N := some 47) #[true, true, true, true, true, true, true, true, true, true, true, true, true, true, false, false] rfl rfl (one_of HT_.out (by kernel_rfl)) (by decide) (fun K hK => ?_)
                                 refine goes_ Try.func56 (by kernel_rfl) rfl #[.int .i64 (wrap64 (-(rd (rd_L1 l0_1 (rd l1 x19_1)) (rd l1 x29_2)))), .int .i64 a0_0] (by rfl) rfl rfl (by (try simp only [List.map_toArray, List.map_cons, List.map_nil]); first | done | rfl | (simp only [List.length_drop, List.length_take]; rfl)) ?_
                                 with_reducible refine (impl_lowest.calls k2 (wrap64 (-(rd (rd_L1 l0_1 (rd l1 x19_1)) (rd l1 x29_2)))) a0_0 t323 t324 _ A24.out).mono ?_
                                 rintro e w40 ⟨rfl, hb⟩
                                 refine ⟨_, rfl, ?_⟩
                                 have n0_ := Aside0.mk (Kd.S_below (by (with_reducible repeat (first | apply Kd.S_alloc | apply Kd.S_drewN | apply Kd.S_drew)); exact HO_11.out) hb)
                                 have n1_ := Aside0.mk (Kd.R_below (by (with_reducible repeat (first | apply Kd.R_alloc | apply Kd.R_drewN | apply Kd.R_drew)); exact HO_14.out) hb)
                                 have n2_ := Aside0.mk (blk_below (g := gb298) (o := .cells #[.int .i64 a0_0, .slice (some ad321) l0_1.length c0_1] 29 (0, 0)) (by (with_reducible repeat (first | refine blk_drewN ?_ _ | refine blk_drew ?_ | refine blk_alloc ?_ _)); exact BK298.out) hb)
                                 have n3_ := Aside0.mk (blk_below (g := gb299) (o := .cells #[.int .i64 x300000_2, .int .i64 x300001_2] 67 (0, 0)) (by (with_reducible repeat (first | refine blk_drewN ?_ _ | refine blk_drew ?_ | refine blk_alloc ?_ _)); exact BK299.out) hb)
                                 have n4_ := Aside0.mk (blk_below (g := gb300) (o := .cells #[.int .i64 x301000_2, .int .i64 x301001_2] 67 (0, 0)) (by (with_reducible repeat (first | refine blk_drewN ?_ _ | refine blk_drew ?_ | refine blk_alloc ?_ _)); exact BK300.out) hb)
                                 have n5_ := Aside0.mk (below_step (by repeat (first | (with_reducible first | exact HB.out | apply below_alloc | apply pw_below_drewN | apply below_drew1 | refine below_set ?_ GE298.out | refine below_set ?_ GE299.out | refine below_set ?_ GE300.out) | exact HB.out)) hb)
                                 clear HO_11
                                 clear HO_14
                                 clear BK298
                                 clear BK299
                                 clear BK300
                                 clear HB
                                 have HO_11 := n0_
                                 have HO_14 := n1_
                                 have BK298 := n2_
                                 have BK299 := n3_
                                 have BK300 := n4_
                                 have HB := n5_
                                 clear n0_ n1_ n2_ n3_ n4_ n5_
                                 (try clear hb)
                                 (try clear hb2)
                                 (try clear hk)
                                 (try clear hi)
                                 have p26 : 0 ≤ (x29_2 : Int) := of_decide_eq_true (by first | (with_reducible assumption) | assumption)
                                 have q26 : (x29_2 : Int) < ((x14_2.length : Int) : Int) := of_decide_eq_true (by first | (with_reducible assumption) | assumption)
                                 obtain ⟨go26, co26, eo26, gb26, gl26, cl26, HG26⟩ := Kd.R_form HO_14.out (by omega)
                                 (first | cases eo26 | (injection eo26 with ea_ en_ ec_; (first | subst ea_ | (injection ea_ with ea_; subst ea_)); subst ec_; clear en_))
                                 have GB26 := Aside0.mk gb26
                                 have GG26 := Aside0.mk HG26
                                 clear gb26 gl26 HG26
                                 obtain ⟨ce26, hcl26, hM26, hcc26, hfr26⟩ := Kd.R_elem HO_14.out z67 (x29_2 : Int) p26 q26
                                 obtain rfl := k67_openM hM26
                                 have hx26_0 : World.cell? _ ⟨go26, (x29_2 : Int).toNat * 2, none⟩ = some (.int .i64 ((rd_T67 x14_2 x29_2).f0)) := hcc26 0 _ rfl
                                 have hx26_1 : World.cell? _ ⟨go26, (x29_2 : Int).toNat * 2 + 1, none⟩ = some (.int .i64 ((rd_T67 x14_2 x29_2).f1)) := hcc26 1 _ rfl
                                 have hf26_0 : World.frozen? _ ⟨go26, (x29_2 : Int).toNat * 2, none⟩ = false := hfr26 0
                                 have hf26_1 : World.frozen? _ ⟨go26, (x29_2 : Int).toNat * 2 + 1, none⟩ = false := hfr26 1
                                 (try clear hcl26 hcc26 hfr26 ); (try clear hM26)
                                 replace p26 := eq_true p26
                                 replace q26 := eq_true q26
                                 obtain ⟨ce41, hcl41, hM41, hcc41, hfr41⟩ := Kd.R_elem HO_14.out z67 (x29_2 : Int) (of_decide_eq_true (by first | (with_reducible assumption) | assumption)) (by have h_ : (x29_2 : Int) < ((x14_2.length : Int) : Int) := of_decide_eq_true (by first | (with_reducible assumption) | assumption); first | exact h_ | (have e_ := (Kd.R_reads' HO_14.out).1; omega) | simpa using h_)
                                 obtain rfl := k67_openM hM41
                                 have HP41 := (Kd.R_seg HO_14.out (x29_2 : Int) (of_decide_eq_true (by first | (with_reducible assumption) | assumption)) (by have h_ : (x29_2 : Int) < ((x14_2.length : Int) : Int) := of_decide_eq_true (by first | (with_reducible assumption) | assumption); first | exact h_ | (have e_ := (Kd.R_reads' HO_14.out).1; omega) | simpa using h_) (seg := [.int .i64 t323, .int .i64 t324]) (j := 0) hcl41 hcc41 (show 2 ≤ 2 from by decide) (x' := (⟨t323, t324⟩ : S67)) (k67_mkM _ _ _ (⟨t323, t324⟩ : S67) ) (fun _ hk => hk)).1
                                 rw [← Ny325.out] at HP41
                                 have HQ41 := Aside0.mk HP41
                                 (try clear hcl41 hcc41 hfr41 HP41); (try clear hM41)
                                 refine hK.out _ _ ⟨(blk_cell BK298.out 0).trans rfl, (blk_cell BK298.out 1).trans rfl, ((HB.out.cell (World.block_lt_of_cell? w _ hw321_0)).trans hw321_0), ((HB.out.cell (World.block_lt_of_cell? w _ hw322_0)).trans hw322_0)⟩ (fun hHeld => ?_)
                                 clear hK K
                                 refine norm_ (a' := ?_) ?_ ?_
                                 rotate_left
                                 · show Act.put _ (some 47) _ = _
                                   simp only [Act.put, List.setIfInBounds_toArray, List.set_cons_zero, List.set_cons_succ, i64_w, i32_w]
                                   rfl
                                 refine pure_ (i := 14) (N := some 48) (v := ?_) (a' := ?_) #[true, true, true, true, true, true, true, true, true, true, true, true, true, true, true, false] rfl rfl (any_of HT_.out (by kernel_rfl)) (fun _ _ _ h => h) (Or.inl ⟨by rfl, ?_⟩) ?_ ?_
                                 rotate_left
                                 · intro w'
                                   go_simp
                                   with_reducible rfl
                                 rotate_left
                                 · simp only [Act.put, List.setIfInBounds_toArray, List.set_cons_zero, List.set_cons_succ, i64_w, i32_w]
                                   rfl
                                 refine last_ (i := 15) (N := none) #[true, true, true, true, true, true, true, true, true, true, true, true, true, true, true, true] rfl rfl (one_of HT_.out (by kernel_rfl)) (by decide) (fun K hK => ?_)
                                 refine skip_ (w1 := ?_) (by rfl) rfl ?_ ?_
                                 rotate_left
                                 · go_simp
                                   rfl
                                 refine hK.out _ _ ?_
                                 clear hK K
                                 refine done_ (done_of HT_.out (by kernel_rfl)) ?_
                                 try go_wp2
                                 (first | go_roundg k2 | (try subst hji12; go_roundg k2))
                                 case measure => have := HK1.out; have := HK2.out; omega
                                 case rel => exact ⟨(y325), (wrap64 (x29_2 + 1)), (x300000_2), (x300001_2), (x301000_2), (x301001_2), (by first | rfl | (simp; done) | (simp [*]; done)), H', ⟨by have := HK1.out; have := HK2.out; omega⟩, ⟨by (with_reducible repeat (first | apply Kd.S_alloc | apply Kd.S_drewN | apply Kd.S_drew)); exact Kd.S_mono (Kd.S_far (p := ⟨go26, (x29_2 : Int).toNat * 2 + 1, none⟩) (Kd.S_far (p := ⟨go26, (x29_2 : Int).toNat * 2, none⟩) (Kd.S_mono HO_11.out (fun k_ hk => (⟨hk, fun e_ => hk.1 (by rw [e_]; rfl)⟩ : _ ∧ k_ ≠ go26))) (fun _ hk => hk.2) (.int .i64 t323)) (fun _ hk => hk.2) (.int .i64 t324)) (fun _ hk => ⟨hk.1.1, ⟨hk.1.2.1, hk.1.2.2⟩⟩)⟩, ⟨by (with_reducible repeat (first | apply Kd.R_alloc | apply Kd.R_drewN | apply Kd.R_drew)); exact HQ41.out⟩, ⟨by (with_reducible repeat (first | refine blk_drewN ?_ _ | refine blk_drew ?_ | refine blk_alloc ?_ _)); refine blk_far ?_ (by have h_ := Kd.R_ne HO_14.out BK298.out (by decide); intro e_; exact h_ (by rw [e_]; rfl)) _; (with_reducible repeat (first | refine blk_drewN ?_ _ | refine blk_drew ?_ | refine blk_alloc ?_ _)); refine blk_far ?_ (by have h_ := Kd.R_ne HO_14.out BK298.out (by decide); intro e_; exact h_ (by rw [e_]; rfl)) _; (with_reducible repeat (first | refine blk_drewN ?_ _ | refine blk_drew ?_ | refine blk_alloc ?_ _)); exact BK298.out⟩, ⟨by (with_reducible repeat (first | refine blk_drewN ?_ _ | refine blk_drew ?_ | refine blk_alloc ?_ _)); refine blk_far ?_ (by have h_ := Kd.R_away HO_14.out (fun _ hk => hk.1); intro e_; exact h_ (by rw [e_]; rfl)) _; (with_reducible repeat (first | refine blk_drewN ?_ _ | refine blk_drew ?_ | refine blk_alloc ?_ _)); refine blk_far ?_ (by have h_ := Kd.R_away HO_14.out (fun _ hk => hk.1); intro e_; exact h_ (by rw [e_]; rfl)) _; (with_reducible repeat (first | refine blk_drewN ?_ _ | refine blk_drew ?_ | refine blk_alloc ?_ _)); exact BK299.out⟩, ⟨by (with_reducible repeat (first | refine blk_drewN ?_ _ | refine blk_drew ?_ | refine blk_alloc ?_ _)); refine blk_far ?_ (by have h_ := Kd.R_away HO_14.out (fun _ hk => hk.2); intro e_; exact h_ (by rw [e_]; rfl)) _; (with_reducible repeat (first | refine blk_drewN ?_ _ | refine blk_drew ?_ | refine blk_alloc ?_ _)); refine blk_far ?_ (by have h_ := Kd.R_away HO_14.out (fun _ hk => hk.2); intro e_; exact h_ (by rw [e_]; rfl)) _; (with_reducible repeat (first | refine blk_drewN ?_ _ | refine blk_drew ?_ | refine blk_alloc ?_ _)); exact BK300.out⟩, ⟨by repeat (first | (with_reducible first | exact HB.out | apply below_alloc | apply pw_below_drewN | apply below_drew1 | refine below_set ?_ GB26.out | refine below_set ?_ GB26.out | refine below_set ?_ GE298.out | refine below_set ?_ GE299.out | refine below_set ?_ GE300.out) | exact HB.out)⟩⟩
                             · rw [if_neg c25] at H
                               exact absurd H (by simp)
                           · rw [if_neg c23] at H
                             exact absurd H (by simp)
                         · rw [if_neg c22] at H
                           exact absurd H (by simp)
                       · rw [if_neg c21] at H
                         exact absurd H (by simp)
                     · rw [if_neg c20] at H
                       exact absurd H (by simp)
                   · rw [if_neg c19] at H
                     exact absurd H (by simp)
                 · rw [if_neg c18] at H
                   exact absurd H (by simp)
               · rw [if_neg c17] at H
                 have c17b0 : decide (x29_2 < (l1.length : Int)) = false := decide_eq_false c17
                 clear c17
                 by_cases c42 : 0 ≤ (rd l1 x19_1)
                 · rw [if_pos c42] at H
                   have c42b0 : decide (0 ≤ (rd l1 x19_1)) = true := decide_eq_true c42
                   clear c42
                   by_cases c43 : (rd l1 x19_1) < (l0_1.length : Int)
                   · rw [if_pos c43] at H
                     have c43b0 : decide ((rd l1 x19_1) < (l0_1.length : Int)) = true := decide_eq_true c43
                     clear c43
                     by_cases c44 : 0 ≤ a2
                     · rw [if_pos c44] at H
                       have c44b0 : decide (0 ≤ a2) = true := decide_eq_true c44
                       clear c44
                       by_cases c45 : a2 < ((rd_L1 l0_1 (rd l1 x19_1)).length : Int)
                       · rw [if_pos c45] at H
                         have c45b0 : decide (a2 < ((rd_L1 l0_1 (rd l1 x19_1)).length : Int)) = true := decide_eq_true c45
                         clear c45
                         replace H := Option.bind_eq_some_iff.mp H
                         obtain ⟨⟨t310, t311⟩, A460, H⟩ := H
                         replace H : ((impl_frac_times.f k2 x301000_2 x301001_2 t310 t311).bind fun bt312 => ((impl_frac_plus.f k2 x300000_2 x300001_2 bt312.1 bt312.2).bind fun bt314 => (if 0 ≤ (l1.length : Int) then (if (l1.length : Int) < (x14_2.length : Int) then (if x11_1.length < 5864062014805 then (impl_States_hit.l0 k2 l1 a2 (x11_1 ++ [(x14_2.set ((l1.length : Int) : Int).toNat (⟨bt314.1, bt314.2⟩ : S67))]) l1 (l1.length : Int) (wrap64 (x19_1 + 1)) a0_0 l0_1 x300000_2 x300001_2 x301000_2 x301001_2) else (none)) else (none)) else (none)))) = some r := H
                         have A46 := Aside0.mk A460
                         clear A460
                         replace H := Option.bind_eq_some_iff.mp H
                         obtain ⟨⟨t312, t313⟩, A470, H⟩ := H
                         replace H : ((impl_frac_plus.f k2 x300000_2 x300001_2 t312 t313).bind fun bt314 => (if 0 ≤ (l1.length : Int) then (if (l1.length : Int) < (x14_2.length : Int) then (if x11_1.length < 5864062014805 then (impl_States_hit.l0 k2 l1 a2 (x11_1 ++ [(x14_2.set ((l1.length : Int) : Int).toNat (⟨bt314.1, bt314.2⟩ : S67))]) l1 (l1.length : Int) (wrap64 (x19_1 + 1)) a0_0 l0_1 x300000_2 x300001_2 x301000_2 x301001_2) else (none)) else (none)) else (none))) = some r := H
                         have A47 := Aside0.mk A470
                         clear A470
                         replace H := Option.bind_eq_some_iff.mp H
                         obtain ⟨⟨t314, t315⟩, A480, H⟩ := H
                         replace H : (if 0 ≤ (l1.length : Int) then (if (l1.length : Int) < (x14_2.length : Int) then (if x11_1.length < 5864062014805 then (impl_States_hit.l0 k2 l1 a2 (x11_1 ++ [(x14_2.set ((l1.length : Int) : Int).toNat (⟨t314, t315⟩ : S67))]) l1 (l1.length : Int) (wrap64 (x19_1 + 1)) a0_0 l0_1 x300000_2 x300001_2 x301000_2 x301001_2) else (none)) else (none)) else (none)) = some r := H
                         have A48 := Aside0.mk A480
                         clear A480
                         by_cases c49 : 0 ≤ (l1.length : Int)
                         · rw [if_pos c49] at H
                           have c49b0 : decide (0 ≤ (l1.length : Int)) = true := decide_eq_true c49
                           have c49b1 : decide (0 ≤ l1.length) = true := decide_eq_true (by omega)
                           clear c49
                           by_cases c50 : (l1.length : Int) < (x14_2.length : Int)
                           · rw [if_pos c50] at H
                             have c50b0 : decide ((l1.length : Int) < (x14_2.length : Int)) = true := decide_eq_true c50
                             have c50b1 : decide (l1.length < x14_2.length) = true := decide_eq_true (Int.ofNat_lt.mp c50)
                             clear c50
                             obtain ⟨y316, hy316⟩ : ∃ y_ : List (S67), y_ = (x14_2.set ((l1.length : Int) : Int).toNat (⟨t314, t315⟩ : S67)) := ⟨_, rfl⟩
                             replace H : (if x11_1.length < 5864062014805 then (impl_States_hit.l0 k2 l1 a2 (x11_1 ++ [y316]) l1 (l1.length : Int) (wrap64 (x19_1 + 1)) a0_0 l0_1 x300000_2 x300001_2 x301000_2 x301001_2) else (none)) = some r := by first | (rw [hy316]; with_reducible exact H) | (have H2_ := (Option.bind_some _ _).symm.trans H; rw [hy316]; with_reducible exact H2_) | (have H2_ := (Option.bind_some _ _).symm.trans H; with_reducible exact H2_) | with_reducible exact H | (rw [hy316]; exact H) | exact H
                             have Ny316 := Aside0.mk hy316
                             clear hy316
                             by_cases c52 : x11_1.length < 5864062014805
                             · rw [if_pos c52] at H
                               have LMc52 := Aside0.mk c52
                               clear c52
                               obtain ⟨y317, hy317⟩ : ∃ y_ : List (List (S67)), y_ = (x11_1 ++ [y316]) := ⟨_, rfl⟩
                               replace H : (impl_States_hit.l0 k2 l1 a2 y317 l1 (l1.length : Int) (wrap64 (x19_1 + 1)) a0_0 l0_1 x300000_2 x300001_2 x301000_2 x301001_2) = some r := by first | (rw [hy317]; with_reducible exact H) | (have H2_ := (Option.bind_some _ _).symm.trans H; rw [hy317]; with_reducible exact H2_) | (have H2_ := (Option.bind_some _ _).symm.trans H; with_reducible exact H2_) | with_reducible exact H | (rw [hy317]; exact H) | exact H
                               have Ny317 := Aside0.mk hy317
                               clear hy317
                               have H' := Aside0.mk H
                               clear H
                               try go_wp2
                               have n0_ := Aside0.mk (Kd.S_drew HO_11.out)
                               have n1_ := Aside0.mk (Kd.R_drew HO_14.out)
                               have n2_ := Aside0.mk (blk_drew BK298.out)
                               have n3_ := Aside0.mk (blk_drew BK299.out)
                               have n4_ := Aside0.mk (blk_drew BK300.out)
                               have n5_ := Aside0.mk (below_drew1 HB.out)
                               clear HO_11
                               clear HO_14
                               clear BK298
                               clear BK299
                               clear BK300
                               clear HB
                               have HO_11 := n0_
                               have HO_14 := n1_
                               have BK298 := n2_
                               have BK299 := n3_
                               have BK300 := n4_
                               have HB := n5_
                               clear n0_ n1_ n2_ n3_ n4_ n5_
                               have p308 : 0 ≤ ((rd l1 x19_1) : Int) := of_decide_eq_true (by first | (with_reducible assumption) | assumption)
                               have q308 : (rd l1 x19_1) < (l0_1.length : Int) := of_decide_eq_true (by first | (with_reducible assumption) | assumption)
                               obtain ⟨ad308, A308_0, c308_0, e308, hx308_0, hl308_0, hi308_0⟩ := at_L1 HR0_1.out (rd l1 x19_1) p308 q308
                               have hw308_0 := hx308_0
                               cases e308
                               replace hx308_0 := (HB.out.cell (World.block_lt_of_cell? w _ hx308_0)).trans hx308_0
                               have HR308_0 := Aside0.mk hi308_0
                               have HC308_0 := Aside0.mk hl308_0
                               clear hi308_0 hl308_0
                               replace p308 := eq_true p308
                               replace q308 := eq_true q308
                               have p309 : 0 ≤ (a2 : Int) := of_decide_eq_true (by first | (with_reducible assumption) | assumption)
                               have q309 : a2 < ((rd_L1 l0_1 (rd l1 x19_1)).length : Int) := of_decide_eq_true (by first | (with_reducible assumption) | assumption)
                               obtain ⟨ad309, e309, hx309_0⟩ := Kd.at_int HR308_0.out a2 p309 q309
                               have hw309_0 := hx309_0
                               cases e309
                               replace hx309_0 := (HB.out.cell (World.block_lt_of_cell? w _ hx309_0)).trans hx309_0
                               replace p309 := eq_true p309
                               replace q309 := eq_true q309
                               refine start_ (n := 20) (S := fun w' => w'.cell? ⟨gb299, 0, none⟩ = some (.int .i64 x300000_2) ∧ w'.cell? ⟨gb299, 1, none⟩ = some (.int .i64 x300001_2) ∧ w'.cell? ⟨gb300, 0, none⟩ = some (.int .i64 x301000_2) ∧ w'.cell? ⟨gb300, 1, none⟩ = some (.int .i64 x301001_2) ∧ w'.cell? ⟨gb298, 0, none⟩ = some (.int .i64 a0_0) ∧ w'.cell? ⟨gb298, 1, none⟩ = some (.slice (some ad308) l0_1.length c0_1) ∧ w'.cell? (ad308.add ((rd l1 x19_1)).toNat) = some (.slice (some ad309) (rd_L1 l0_1 (rd l1 x19_1)).length c308_0) ∧ w'.cell? (ad309.add (a2).toNat) = some (.int .i64 (rd (rd_L1 l0_1 (rd l1 x19_1)) a2))) (ds := [19]) #[false, false, false, false, false, false, false, false, false, false, false, false, false, false, false, false, false, false, false, false] (by kernel_rfl) rfl rfl ⟨(blk_cell BK299.out 0).trans rfl, (blk_cell BK299.out 1).trans rfl, (blk_cell BK300.out 0).trans rfl, (blk_cell BK300.out 1).trans rfl, (blk_cell BK298.out 0).trans rfl, (blk_cell BK298.out 1).trans rfl, ((HB.out.cell (World.block_lt_of_cell? w _ hw308_0)).trans hw308_0), ((HB.out.cell (World.block_lt_of_cell? w _ hw309_0)).trans hw309_0)⟩ (fun hHeld => ?_); refine with_tabW impl_States_hit.tab13 impl_States_hit.bits13 (fun HT_ HW_ => ?_)
                               generalize wr.drew = w53 at HO_11 HO_14 BK298 BK299 BK300 HB HR308_0 hx308_0 hx309_0 hHeld ⊢
                               refine pure_ (i := 0) (N := some 62) (v := ?_) (a' := ?_) #[true, false, false, false, false, false, false, false, false, false, false, false, false, false, false, false, false, false, false, false] rfl rfl (any_of HT_.out (by kernel_rfl)) (fun _ _ _ h => h) (Or.inl ⟨by rfl, ?_⟩) ?_ ?_
                               rotate_left
                               · intro w'
                                 go_simp
                                 with_reducible rfl
                               rotate_left
                               · simp only [Act.put, List.setIfInBounds_toArray, List.set_cons_zero, List.set_cons_succ, i64_w, i32_w]
                                 rfl
                               refine pure_ (i := 1) (N := some 63) (v := ?_) (a' := ?_) #[true, true, false, false, false, false, false, false, false, false, false, false, false, false, false, false, false, false, false, false] rfl rfl (any_of HT_.out (by kernel_rfl)) (fun _ _ _ h => h) (Or.inl ⟨by rfl, ?_⟩) ?_ ?_
                               rotate_left
                               · intro w'
                                 go_simp
                                 with_reducible rfl
                               rotate_left
                               · simp only [Act.put, List.setIfInBounds_toArray, List.set_cons_zero, List.set_cons_succ, i64_w, i32_w]
                                 rfl
                               refine pure_ (i := 2) (N := some 64) (v := ?_) (a' := ?_) #[true, true, true, false, false, false, false, false, false, false, false, false, false, false, false, false, false, false, false, false] rfl rfl (any_of HT_.out (by kernel_rfl)) (fun _ _ _ h => h) (Or.inl ⟨by rfl, ?_⟩) ?_ ?_
                               rotate_left
                               · intro w'
                                 go_simp
                                 with_reducible rfl
                               rotate_left
                               · simp only [Act.put, List.setIfInBounds_toArray, List.set_cons_zero, List.set_cons_succ, i64_w, i32_w]
                                 rfl
                               refine pure_ (i := 5) (N := some 67) (v := ?_) (a' := ?_) #[true, true, true, false, false, true, false, false, false, false, false, false, false, false, false, false, false, false, false, false] rfl rfl (any_of HT_.out (by kernel_rfl)) (fun _ _ _ h => h) (Or.inl ⟨by rfl, ?_⟩) ?_ ?_
                               rotate_left
                               · intro w'
                                 go_simp
                                 with_reducible rfl
                               rotate_left
                               · simp only [Act.put, List.setIfInBounds_toArray, List.set_cons_zero, List.set_cons_succ, i64_w, i32_w]
                                 rfl
                               refine pure_ (i := 7) (N := some 69) (v := ?_) (a' := ?_) #[true, true, true, false, false, true, false, true, false, false, false, false, false, false, false, false, false, false, false, false] rfl rfl (any_of HT_.out (by kernel_rfl)) (fun _ _ _ h => h) (Or.inl ⟨by rfl, ?_⟩) ?_ ?_
                               rotate_left
                               · intro w'
                                 go_simp
                                 with_reducible rfl
                               rotate_left
                               · simp only [Act.put, List.setIfInBounds_toArray, List.set_cons_zero, List.set_cons_succ, i64_w, i32_w]
                                 rfl
                               refine pure_ (i := 10) (N := some 72) (v := ?_) (a' := ?_) #[true, true, true, false, false, true, false, true, false, false, true, false, false, false, false, false, false, false, false, false] rfl rfl (any_of HT_.out (by kernel_rfl)) (fun _ _ _ h => h) (Or.inl ⟨by rfl, ?_⟩) ?_ ?_
                               rotate_left
                               · intro w'
                                 go_simp
                                 with_reducible rfl
                               rotate_left
                               · simp only [Act.put, List.setIfInBounds_toArray, List.set_cons_zero, List.set_cons_succ, i64_w, i32_w]
                                 rfl
                               refine pure_ (i := 13) (N := some 75) (v := ?_) (a' := ?_) #[true, true, true, false, false, true, false, true, false, false, true, false, false, true, false, false, false, false, false, false] rfl rfl (any_of HT_.out (by kernel_rfl)) (fun _ _ _ h => h) (Or.inl ⟨by rfl, ?_⟩) ?_ ?_
                               rotate_left
                               · intro w'
                                 go_simp
                                 with_reducible rfl
                               rotate_left
                               · simp only [Act.put, List.setIfInBounds_toArray, List.set_cons_zero, List.set_cons_succ, i64_w, i32_w]
                                 rfl
                               refine take_ (i := 3) (N := some 65) (v := ?_) (a' := ?_) #[true, true, true, true, false, true, false, true, false, false, true, false, false, true, false, false, false, false, false, false] rfl rfl (take_ofW HT_.out HW_.out (by kernel_rfl)) (fun _ _ _ h => h) (Or.inl ⟨by rfl, ?_⟩) hHeld ?_ ?_
                               rotate_left
                               · rintro w' ⟨s0, s1, s2, s3, s4, s5, s6, s7⟩
                                 go_simp
                                 with_reducible rfl
                               rotate_left
                               · simp only [Act.put, List.setIfInBounds_toArray, List.set_cons_zero, List.set_cons_succ, i64_w, i32_w]
                                 rfl
                               refine take_ (i := 4) (N := some 66) (v := ?_) (a' := ?_) #[true, true, true, true, true, true, false, true, false, false, true, false, false, true, false, false, false, false, false, false] rfl rfl (take_ofW HT_.out HW_.out (by kernel_rfl)) (fun _ _ _ h => h) (Or.inl ⟨by rfl, ?_⟩) hHeld ?_ ?_
                               rotate_left
                               · rintro w' ⟨s0, s1, s2, s3, s4, s5, s6, s7⟩
                                 go_simp
                                 with_reducible rfl
                               rotate_left
                               · simp only [Act.put, List.setIfInBounds_toArray, List.set_cons_zero, List.set_cons_succ, i64_w, i32_w]
                                 rfl
                               refine take_ (i := 6) (N := some 68) (v := ?_) (a' := ?_) #[true, true, true, true, true, true, true, true, false, false, true, false, false, true, false, false, false, false, false, false] rfl rfl (take_ofW HT_.out HW_.out (by kernel_rfl)) (fun _ _ _ h => h) (Or.inl ⟨by rfl, ?_⟩) hHeld ?_ ?_
                               rotate_left
                               · rintro w' ⟨s0, s1, s2, s3, s4, s5, s6, s7⟩
                                 go_simp
                                 with_reducible rfl
                               rotate_left
                               · simp only [Act.put, List.setIfInBounds_toArray, List.set_cons_zero, List.set_cons_succ, i64_w, i32_w]
                                 rfl
                               refine pure_ (i := 8) (N := some 70) (v := ?_) (a' := ?_) #[true, true, true, true, true, true, true, true, true, false, true, false, false, true, false, false, false, false, false, false] rfl rfl (any_of HT_.out (by kernel_rfl)) (fun _ _ _ h => h) (Or.inl ⟨by rfl, ?_⟩) ?_ ?_
                               rotate_left
                               · intro w'
                                 go_simp
                                 with_reducible rfl
                               rotate_left
                               · simp only [Act.put, List.setIfInBounds_toArray, List.set_cons_zero, List.set_cons_succ, i64_w, i32_w]
                                 rfl
                               refine take_ (i := 9) (N := some 71) (v := ?_) (a' := ?_) #[true, true, true, true, true, true, true, true, true, true, true, false, false, true, false, false, false, false, false, false] rfl rfl (take_ofW HT_.out HW_.out (by kernel_rfl)) (fun _ _ _ h => h) (Or.inl ⟨by rfl, ?_⟩) hHeld ?_ ?_
                               rotate_left
                               · rintro w' ⟨s0, s1, s2, s3, s4, s5, s6, s7⟩
                                 go_simp
                                 with_reducible rfl
                               rotate_left
                               · simp only [Act.put, List.setIfInBounds_toArray, List.set_cons_zero, List.set_cons_succ, i64_w, i32_w]
                                 rfl
                               refine pure_ (i := 11) (N := some 73) (v := ?_) (a' := ?_) #[true, true, true, true, true, true, true, true, true, true, true, true, false, true, false, false, false, false, false, false] rfl rfl (any_of HT_.out (by kernel_rfl)) (fun _ _ _ h => h) (Or.inl ⟨by rfl, ?_⟩) ?_ ?_
                               rotate_left
                               · intro w'
                                 go_simp
                                 with_reducible rfl
                               rotate_left
                               · simp only [Act.put, List.setIfInBounds_toArray, List.set_cons_zero, List.set_cons_succ, i64_w, i32_w]
                                 rfl
                               refine take_ (i := 12) (N := some 74) (v := ?_) (a' := ?_) #[true, true, true, true, true, true, true, true, true, true, true, true, true, true, false, false, false, false, false, false] rfl rfl (take_ofW HT_.out HW_.out (by kernel_rfl)) (fun _ _ _ h => h) (Or.inl ⟨by rfl, ?_⟩) hHeld ?_ ?_
                               rotate_left
                               · rintro w' ⟨s0, s1, s2, s3, s4, s5, s6, s7⟩
                                 go_simp
                                 with_reducible rfl
                               rotate_left
                               · simp only [Act.put, List.setIfInBounds_toArray, List.set_cons_zero, List.set_cons_succ, i64_w, i32_w]
                                 rfl
                               refine take_ (i := 14) (N := some 76) (v := ?_) (a' := ?_) #[true, true, true, true, true, true, true, true, true, true, true, true, true, true, true, false, false, false, false, false] rfl rfl (take_ofW HT_.out HW_.out (by kernel_rfl)) (fun _ _ _ h => h) (Or.inl ⟨by rfl, ?_⟩) hHeld ?_ ?_
                               rotate_left
                               · rintro w' ⟨s0, s1, s2, s3, s4, s5, s6, s7⟩
                                 go_simp
                                 with_reducible rfl
                               rotate_left
                               · simp only [Act.put, List.setIfInBounds_toArray, List.set_cons_zero, List.set_cons_succ, i64_w, i32_w]
                                 rfl
                               refine one_ (i := 15) (N := some 77) #[true, true, true, true, true, true, true, true, true, true, true, true, true, true, true, true, false, false, false, false] rfl rfl (one_of HT_.out (by kernel_rfl)) (by decide) (fun K hK => ?_)
                               refine goes_ Try.func56 (by kernel_rfl) rfl #[.int .i64 (rd (rd_L1 l0_1 (rd l1 x19_1)) a2), .int .i64 a0_0] (by rfl) rfl rfl (by (try simp only [List.map_toArray, List.map_cons, List.map_nil]); first | done | rfl | (simp only [List.length_drop, List.length_take]; rfl)) ?_
                               with_reducible refine (impl_lowest.calls k2 (rd (rd_L1 l0_1 (rd l1 x19_1)) a2) a0_0 t310 t311 _ A46.out).mono ?_
                               rintro e w54 ⟨rfl, hb⟩
                               refine ⟨_, rfl, ?_⟩
                               have n0_ := Aside0.mk (Kd.S_below (by (with_reducible repeat (first | apply Kd.S_alloc | apply Kd.S_drewN | apply Kd.S_drew)); exact HO_11.out) hb)
                               have n1_ := Aside0.mk (Kd.R_below (by (with_reducible repeat (first | apply Kd.R_alloc | apply Kd.R_drewN | apply Kd.R_drew)); exact HO_14.out) hb)
                               have n2_ := Aside0.mk (blk_below (g := gb298) (o := .cells #[.int .i64 a0_0, .slice (some ad308) l0_1.length c0_1] 29 (0, 0)) (by (with_reducible repeat (first | refine blk_drewN ?_ _ | refine blk_drew ?_ | refine blk_alloc ?_ _)); exact BK298.out) hb)
                               have n3_ := Aside0.mk (blk_below (g := gb299) (o := .cells #[.int .i64 x300000_2, .int .i64 x300001_2] 67 (0, 0)) (by (with_reducible repeat (first | refine blk_drewN ?_ _ | refine blk_drew ?_ | refine blk_alloc ?_ _)); exact BK299.out) hb)
                               have n4_ := Aside0.mk (blk_below (g := gb300) (o := .cells #[.int .i64 x301000_2, .int .i64 x301001_2] 67 (0, 0)) (by (with_reducible repeat (first | refine blk_drewN ?_ _ | refine blk_drew ?_ | refine blk_alloc ?_ _)); exact BK300.out) hb)
                               have n5_ := Aside0.mk (below_step (by repeat (first | (with_reducible first | exact HB.out | apply below_alloc | apply pw_below_drewN | apply below_drew1 | refine below_set ?_ GE298.out | refine below_set ?_ GE299.out | refine below_set ?_ GE300.out) | exact HB.out)) hb)
                               clear HO_11
                               clear HO_14
                               clear BK298
                               clear BK299
                               clear BK300
                               clear HB
                               have HO_11 := n0_
                               have HO_14 := n1_
                               have BK298 := n2_
                               have BK299 := n3_
                               have BK300 := n4_
                               have HB := n5_
                               clear n0_ n1_ n2_ n3_ n4_ n5_
                               (try clear hb)
                               (try clear hb2)
                               (try clear hk)
                               (try clear hi)
                               refine hK.out _ _ ⟨(blk_cell BK299.out 0).trans rfl, (blk_cell BK299.out 1).trans rfl, (blk_cell BK300.out 0).trans rfl, (blk_cell BK300.out 1).trans rfl, (blk_cell BK298.out 0).trans rfl, (blk_cell BK298.out 1).trans rfl, ((HB.out.cell (World.block_lt_of_cell? w _ hw308_0)).trans hw308_0), ((HB.out.cell (World.block_lt_of_cell? w _ hw309_0)).trans hw309_0)⟩ (fun hHeld => ?_)
                               clear hK K
                               refine norm_ (a' := ?_) ?_ ?_
                               rotate_left
                               · show Act.put _ (some 77) _ = _
                                 simp only [Act.put, List.setIfInBounds_toArray, List.set_cons_zero, List.set_cons_succ, i64_w, i32_w]
                                 rfl
                               refine one_ (i := 16) (N := some 78) #[true, true, true, true, true, true, true, true, true, true, true, true, true, true, true, true, true, false, false, false] rfl rfl (one_of HT_.out (by kernel_rfl)) (by decide) (fun K hK => ?_)
                               refine goes_ Try.func79 (by kernel_rfl) rfl #[.agg #[.int .i64 x301000_2, .int .i64 x301001_2], .agg #[.int .i64 t310, .int .i64 t311]] (by rfl) rfl rfl (by (try simp only [List.map_toArray, List.map_cons, List.map_nil]); first | done | rfl | (simp only [List.length_drop, List.length_take]; rfl)) ?_
                               with_reducible refine (impl_frac_times.calls k2 x301000_2 x301001_2 t310 t311 t312 t313 _ A47.out).mono ?_
                               rintro e w55 ⟨rfl, hb⟩
                               refine ⟨_, rfl, ?_⟩
                               have n0_ := Aside0.mk (Kd.S_below (by (with_reducible repeat (first | apply Kd.S_alloc | apply Kd.S_drewN | apply Kd.S_drew)); exact HO_11.out) hb)
                               have n1_ := Aside0.mk (Kd.R_below (by (with_reducible repeat (first | apply Kd.R_alloc | apply Kd.R_drewN | apply Kd.R_drew)); exact HO_14.out) hb)
                               have n2_ := Aside0.mk (blk_below (g := gb298) (o := .cells #[.int .i64 a0_0, .slice (some ad308) l0_1.length c0_1] 29 (0, 0)) (by (with_reducible repeat (first | refine blk_drewN ?_ _ | refine blk_drew ?_ | refine blk_alloc ?_ _)); exact BK298.out) hb)
                               have n3_ := Aside0.mk (blk_below (g := gb299) (o := .cells #[.int .i64 x300000_2, .int .i64 x300001_2] 67 (0, 0)) (by (with_reducible repeat (first | refine blk_drewN ?_ _ | refine blk_drew ?_ | refine blk_alloc ?_ _)); exact BK299.out) hb)
                               have n4_ := Aside0.mk (blk_below (g := gb300) (o := .cells #[.int .i64 x301000_2, .int .i64 x301001_2] 67 (0, 0)) (by (with_reducible repeat (first | refine blk_drewN ?_ _ | refine blk_drew ?_ | refine blk_alloc ?_ _)); exact BK300.out) hb)
                               have n5_ := Aside0.mk (below_step (by repeat (first | (with_reducible first | exact HB.out | apply below_alloc | apply pw_below_drewN | apply below_drew1 | refine below_set ?_ GE298.out | refine below_set ?_ GE299.out | refine below_set ?_ GE300.out) | exact HB.out)) hb)
                               clear HO_11
                               clear HO_14
                               clear BK298
                               clear BK299
                               clear BK300
                               clear HB
                               have HO_11 := n0_
                               have HO_14 := n1_
                               have BK298 := n2_
                               have BK299 := n3_
                               have BK300 := n4_
                               have HB := n5_
                               clear n0_ n1_ n2_ n3_ n4_ n5_
                               (try clear hb)
                               (try clear hb2)
                               (try clear hk)
                               (try clear hi)
                               refine hK.out _ _ ⟨(blk_cell BK299.out 0).trans rfl, (blk_cell BK299.out 1).trans rfl, (blk_cell BK300.out 0).trans rfl, (blk_cell BK300.out 1).trans rfl, (blk_cell BK298.out 0).trans rfl, (blk_cell BK298.out 1).trans rfl, ((HB.out.cell (World.block_lt_of_cell? w _ hw308_0)).trans hw308_0), ((HB.out.cell (World.block_lt_of_cell? w _ hw309_0)).trans hw309_0)⟩ (fun hHeld => ?_)
                               clear hK K
                               refine norm_ (a' := ?_) ?_ ?_
                               rotate_left
                               · show Act.put _ (some 78) _ = _
                                 simp only [Act.put, List.setIfInBounds_toArray, List.set_cons_zero, List.set_cons_succ, i64_w, i32_w]
                                 rfl
                               refine one_ (i := 17) (N := some 79) #[true, true, true, true, true, true, true, true, true, true, true, true, true, true, true, true, true, true, false, false] rfl rfl (one_of HT_.out (by kernel_rfl)) (by decide) (fun K hK => ?_)
                               refine goes_ Try.func83 (by kernel_rfl) rfl #[.agg #[.int .i64 x300000_2, .int .i64 x300001_2], .agg #[.int .i64 t312, .int .i64 t313]] (by rfl) rfl rfl (by (try simp only [List.map_toArray, List.map_cons, List.map_nil]); first | done | rfl | (simp only [List.length_drop, List.length_take]; rfl)) ?_
                               with_reducible refine (impl_frac_plus.calls k2 x300000_2 x300001_2 t312 t313 t314 t315 _ A48.out).mono ?_
                               rintro e w56 ⟨rfl, hb⟩
                               refine ⟨_, rfl, ?_⟩
                               have n0_ := Aside0.mk (Kd.S_below (by (with_reducible repeat (first | apply Kd.S_alloc | apply Kd.S_drewN | apply Kd.S_drew)); exact HO_11.out) hb)
                               have n1_ := Aside0.mk (Kd.R_below (by (with_reducible repeat (first | apply Kd.R_alloc | apply Kd.R_drewN | apply Kd.R_drew)); exact HO_14.out) hb)
                               have n2_ := Aside0.mk (blk_below (g := gb298) (o := .cells #[.int .i64 a0_0, .slice (some ad308) l0_1.length c0_1] 29 (0, 0)) (by (with_reducible repeat (first | refine blk_drewN ?_ _ | refine blk_drew ?_ | refine blk_alloc ?_ _)); exact BK298.out) hb)
                               have n3_ := Aside0.mk (blk_below (g := gb299) (o := .cells #[.int .i64 x300000_2, .int .i64 x300001_2] 67 (0, 0)) (by (with_reducible repeat (first | refine blk_drewN ?_ _ | refine blk_drew ?_ | refine blk_alloc ?_ _)); exact BK299.out) hb)
                               have n4_ := Aside0.mk (blk_below (g := gb300) (o := .cells #[.int .i64 x301000_2, .int .i64 x301001_2] 67 (0, 0)) (by (with_reducible repeat (first | refine blk_drewN ?_ _ | refine blk_drew ?_ | refine blk_alloc ?_ _)); exact BK300.out) hb)
                               have n5_ := Aside0.mk (below_step (by repeat (first | (with_reducible first | exact HB.out | apply below_alloc | apply pw_below_drewN | apply below_drew1 | refine below_set ?_ GE298.out | refine below_set ?_ GE299.out | refine below_set ?_ GE300.out) | exact HB.out)) hb)
                               clear HO_11
                               clear HO_14
                               clear BK298
                               clear BK299
                               clear BK300
                               clear HB
                               have HO_11 := n0_
                               have HO_14 := n1_
                               have BK298 := n2_
                               have BK299 := n3_
                               have BK300 := n4_
                               have HB := n5_
                               clear n0_ n1_ n2_ n3_ n4_ n5_
                               (try clear hb)
                               (try clear hb2)
                               (try clear hk)
                               (try clear hi)
                               have p51 : 0 ≤ ((l1.length : Int) : Int) := of_decide_eq_true (by first | (with_reducible assumption) | assumption)
                               have q51 : ((l1.length : Int) : Int) < ((x14_2.length : Int) : Int) := of_decide_eq_true (by first | (with_reducible assumption) | assumption)
                               obtain ⟨go51, co51, eo51, gb51, gl51, cl51, HG51⟩ := Kd.R_form HO_14.out (by omega)
                               (first | cases eo51 | (injection eo51 with ea_ en_ ec_; (first | subst ea_ | (injection ea_ with ea_; subst ea_)); subst ec_; clear en_))
                               have GB51 := Aside0.mk gb51
                               have GG51 := Aside0.mk HG51
                               clear gb51 gl51 HG51
                               obtain ⟨ce51, hcl51, hM51, hcc51, hfr51⟩ := Kd.R_elem HO_14.out z67 ((l1.length : Int) : Int) p51 q51
                               obtain rfl := k67_openM hM51
                               have hx51_0 : World.cell? _ ⟨go51, l1.length * 2, none⟩ = some (.int .i64 ((rd_T67 x14_2 (l1.length : Int)).f0)) := hcc51 0 _ rfl
                               have hx51_1 : World.cell? _ ⟨go51, l1.length * 2 + 1, none⟩ = some (.int .i64 ((rd_T67 x14_2 (l1.length : Int)).f1)) := hcc51 1 _ rfl
                               have hf51_0 : World.frozen? _ ⟨go51, l1.length * 2, none⟩ = false := hfr51 0
                               have hf51_1 : World.frozen? _ ⟨go51, l1.length * 2 + 1, none⟩ = false := hfr51 1
                               (try clear hcl51 hcc51 hfr51 ); (try clear hM51)
                               replace p51 := eq_true p51
                               replace q51 := eq_true q51
                               obtain ⟨ce57, hcl57, hM57, hcc57, hfr57⟩ := Kd.R_elem HO_14.out z67 ((l1.length : Int) : Int) (of_decide_eq_true (by first | (with_reducible assumption) | assumption)) (by have h_ : ((l1.length : Int) : Int) < ((x14_2.length : Int) : Int) := of_decide_eq_true (by first | (with_reducible assumption) | assumption); first | exact h_ | (have e_ := (Kd.R_reads' HO_14.out).1; omega) | simpa using h_)
                               obtain rfl := k67_openM hM57
                               have HP57 := (Kd.R_seg HO_14.out ((l1.length : Int) : Int) (of_decide_eq_true (by first | (with_reducible assumption) | assumption)) (by have h_ : ((l1.length : Int) : Int) < ((x14_2.length : Int) : Int) := of_decide_eq_true (by first | (with_reducible assumption) | assumption); first | exact h_ | (have e_ := (Kd.R_reads' HO_14.out).1; omega) | simpa using h_) (seg := [.int .i64 t314, .int .i64 t315]) (j := 0) hcl57 hcc57 (show 2 ≤ 2 from by decide) (x' := (⟨t314, t315⟩ : S67)) (k67_mkM _ _ _ (⟨t314, t315⟩ : S67) ) (fun _ hk => hk)).1
                               rw [← Ny316.out] at HP57
                               have HQ57 := Aside0.mk HP57
                               (try clear hcl57 hcc57 hfr57 HP57); (try clear hM57)
                               refine hK.out _ _ ⟨(blk_cell BK299.out 0).trans rfl, (blk_cell BK299.out 1).trans rfl, (blk_cell BK300.out 0).trans rfl, (blk_cell BK300.out 1).trans rfl, (blk_cell BK298.out 0).trans rfl, (blk_cell BK298.out 1).trans rfl, ((HB.out.cell (World.block_lt_of_cell? w _ hw308_0)).trans hw308_0), ((HB.out.cell (World.block_lt_of_cell? w _ hw309_0)).trans hw309_0)⟩ (fun hHeld => ?_)
                               clear hK K
                               refine norm_ (a' := ?_) ?_ ?_
                               rotate_left
                               · show Act.put _ (some 79) _ = _
                                 simp only [Act.put, List.setIfInBounds_toArray, List.set_cons_zero, List.set_cons_succ, i64_w, i32_w]
                                 rfl
                               refine pure_ (i := 18) (N := some 80) (v := ?_) (a' := ?_) #[true, true, true, true, true, true, true, true, true, true, true, true, true, true, true, true, true, true, true, false] rfl rfl (any_of HT_.out (by kernel_rfl)) (fun _ _ _ h => h) (Or.inl ⟨by rfl, ?_⟩) ?_ ?_
                               rotate_left
                               · intro w'
                                 go_simp
                                 with_reducible rfl
                               rotate_left
                               · simp only [Act.put, List.setIfInBounds_toArray, List.set_cons_zero, List.set_cons_succ, i64_w, i32_w]
                                 rfl
                               refine last_ (i := 19) (N := none) #[true, true, true, true, true, true, true, true, true, true, true, true, true, true, true, true, true, true, true, true] rfl rfl (one_of HT_.out (by kernel_rfl)) (by decide) (fun K hK => ?_)
                               refine skip_ (w1 := ?_) (by rfl) rfl ?_ ?_
                               rotate_left
                               · go_simp
                                 rfl
                               refine hK.out _ _ ?_
                               clear hK K
                               refine done_ (done_of HT_.out (by kernel_rfl)) ?_
                               have n0_ : Aside0 (Kd.S (Kd.slice 67 k67) 65 ((w56.setCell ⟨go51, l1.length * 2, none⟩ (.int .i64 t314)).setCell ⟨go51, l1.length * 2 + 1, none⟩ (.int .i64 t315)) w.heap.size (fun k_ => some k_ ≠ (.slice (some ⟨go51, 0, none⟩) x14_2.length co51 : Value).ownBlock ∧ k_ ≠ gb299 ∧ k_ ≠ gb300) u11 x11_1) := ⟨by (with_reducible repeat (first | apply Kd.S_alloc | apply Kd.S_drewN | apply Kd.S_drew)); exact Kd.S_mono (Kd.S_far (p := ⟨go51, l1.length * 2 + 1, none⟩) (Kd.S_far (p := ⟨go51, l1.length * 2, none⟩) (Kd.S_mono HO_11.out (fun k_ hk => (⟨hk, fun e_ => hk.1 (by rw [e_]; rfl)⟩ : _ ∧ k_ ≠ go51))) (fun _ hk => hk.2) (.int .i64 t314)) (fun _ hk => hk.2) (.int .i64 t315)) (fun _ hk => ⟨hk.1.1, ⟨hk.1.2.1, hk.1.2.2⟩⟩)⟩
                               have n1_ : Aside0 (Kd.R k67 67 ((w56.setCell ⟨go51, l1.length * 2, none⟩ (.int .i64 t314)).setCell ⟨go51, l1.length * 2 + 1, none⟩ (.int .i64 t315)) w.heap.size (fun k_ => k_ ≠ gb299 ∧ k_ ≠ gb300) (.slice (some ⟨go51, 0, none⟩) x14_2.length co51) y316) := ⟨by (with_reducible repeat (first | apply Kd.R_alloc | apply Kd.R_drewN | apply Kd.R_drew)); exact HQ57.out⟩
                               have n2_ : Aside0 (((w56.setCell ⟨go51, l1.length * 2, none⟩ (.int .i64 t314)).setCell ⟨go51, l1.length * 2 + 1, none⟩ (.int .i64 t315)).heap[gb298]? = some (.cells #[.int .i64 a0_0, .slice (some ad308) l0_1.length c0_1] 29 (0, 0))) := ⟨by (with_reducible repeat (first | refine blk_drewN ?_ _ | refine blk_drew ?_ | refine blk_alloc ?_ _)); refine blk_far ?_ (by have h_ := Kd.R_ne HO_14.out BK298.out (by decide); intro e_; exact h_ (by rw [e_]; rfl)) _; (with_reducible repeat (first | refine blk_drewN ?_ _ | refine blk_drew ?_ | refine blk_alloc ?_ _)); refine blk_far ?_ (by have h_ := Kd.R_ne HO_14.out BK298.out (by decide); intro e_; exact h_ (by rw [e_]; rfl)) _; (with_reducible repeat (first | refine blk_drewN ?_ _ | refine blk_drew ?_ | refine blk_alloc ?_ _)); exact BK298.out⟩
                               have n3_ : Aside0 (((w56.setCell ⟨go51, l1.length * 2, none⟩ (.int .i64 t314)).setCell ⟨go51, l1.length * 2 + 1, none⟩ (.int .i64 t315)).heap[gb299]? = some (.cells #[.int .i64 x300000_2, .int .i64 x300001_2] 67 (0, 0))) := ⟨by (with_reducible repeat (first | refine blk_drewN ?_ _ | refine blk_drew ?_ | refine blk_alloc ?_ _)); refine blk_far ?_ (by have h_ := Kd.R_away HO_14.out (fun _ hk => hk.1); intro e_; exact h_ (by rw [e_]; rfl)) _; (with_reducible repeat (first | refine blk_drewN ?_ _ | refine blk_drew ?_ | refine blk_alloc ?_ _)); refine blk_far ?_ (by have h_ := Kd.R_away HO_14.out (fun _ hk => hk.1); intro e_; exact h_ (by rw [e_]; rfl)) _; (with_reducible repeat (first | refine blk_drewN ?_ _ | refine blk_drew ?_ | refine blk_alloc ?_ _)); exact BK299.out⟩
                               have n4_ : Aside0 (((w56.setCell ⟨go51, l1.length * 2, none⟩ (.int .i64 t314)).setCell ⟨go51, l1.length * 2 + 1, none⟩ (.int .i64 t315)).heap[gb300]? = some (.cells #[.int .i64 x301000_2, .int .i64 x301001_2] 67 (0, 0))) := ⟨by (with_reducible repeat (first | refine blk_drewN ?_ _ | refine blk_drew ?_ | refine blk_alloc ?_ _)); refine blk_far ?_ (by have h_ := Kd.R_away HO_14.out (fun _ hk => hk.2); intro e_; exact h_ (by rw [e_]; rfl)) _; (with_reducible repeat (first | refine blk_drewN ?_ _ | refine blk_drew ?_ | refine blk_alloc ?_ _)); refine blk_far ?_ (by have h_ := Kd.R_away HO_14.out (fun _ hk => hk.2); intro e_; exact h_ (by rw [e_]; rfl)) _; (with_reducible repeat (first | refine blk_drewN ?_ _ | refine blk_drew ?_ | refine blk_alloc ?_ _)); exact BK300.out⟩
                               have n5_ : Aside0 (Below w.heap.size w ((w56.setCell ⟨go51, l1.length * 2, none⟩ (.int .i64 t314)).setCell ⟨go51, l1.length * 2 + 1, none⟩ (.int .i64 t315))) := ⟨by repeat (first | (with_reducible first | exact HB.out | apply below_alloc | apply pw_below_drewN | apply below_drew1 | refine below_set ?_ GB51.out | refine below_set ?_ GB51.out | refine below_set ?_ GE298.out | refine below_set ?_ GE299.out | refine below_set ?_ GE300.out) | exact HB.out)⟩
                               (try clear HO_11)
                               (try clear HO_14)
                               (try clear BK298)
                               (try clear BK299)
                               (try clear BK300)
                               (try clear HB)
                               generalize ((w56.setCell ⟨go51, l1.length * 2, none⟩ (.int .i64 t314)).setCell ⟨go51, l1.length * 2 + 1, none⟩ (.int .i64 t315)) = w58 at n0_ n1_ n2_ n3_ n4_ n5_ ⊢
                               have HO_11 := n0_
                               have HO_14 := n1_
                               have BK298 := n2_
                               have BK299 := n3_
                               have BK300 := n4_
                               have HB := n5_
                               clear n0_ n1_ n2_ n3_ n4_ n5_
                               try go_wp2_with (first | ((with_reducible refine gate_builtin (b := .append) (xs := #[.tmp 81, .tmp 83]) rfl ?_); at_builtin; refine Kd.S_append (Kd.slice 67 k67) (w0 := w) w.heap.size rfl (.tmp 81) (.tmp 83) 64 65 (.slice none 0 0) 24 rfl Try.underlying64 info65 rfl (by decide) (by omega) u11 x11_1 y316 [.slice (some ⟨go51, 0, none⟩) x14_2.length co51] (fun k_ => k_ ≠ gb299 ∧ k_ ≠ gb300) (fun k_ => some k_ = (.slice (some ⟨go51, 0, none⟩) x14_2.length co51 : Value).ownBlock) rfl rfl ?aP (fun k_ hk_ => ((Kd.R_mono (ok' := fun k_ => ((fun k_ => k_ ≠ gb299 ∧ k_ ≠ gb300)) k_ ∧ some k_ ≠ (u11 : Value).ownBlock) (Kd.R_apart' (HO_14.out) (Kd.S_typed HO_11.out) (by decide)) (fun k_ hk => ⟨⟨hk.1.1, hk.1.2⟩, hk.2⟩))).1 k_ hk_.symm) ?aF ?aO ?aB ?aS ?aL ?_; (case aP => exact Kd.M_row (Kd.R_mono (Kd.R_tight rfl (Kd.R_mono (ok' := fun k_ => ((fun k_ => k_ ≠ gb299 ∧ k_ ≠ gb300)) k_ ∧ some k_ ≠ (u11 : Value).ownBlock) (Kd.R_apart' (HO_14.out) (Kd.S_typed HO_11.out) (by decide)) (fun k_ hk => ⟨⟨hk.1.1, hk.1.2⟩, hk.2⟩))) (fun _ h_ => h_))); (case aB => exact (by repeat (first | (with_reducible first | exact HB.out | apply below_alloc | apply pw_below_drewN | apply below_drew1 | refine below_set ?_ GE298.out | refine below_set ?_ GE299.out | refine below_set ?_ GE300.out) | exact HB.out))); (case aF => exact (fun k_ hk => ⟨Kd.freshB (g := gb299) (o := .cells #[.int .i64 x300000_2, .int .i64 x300001_2] 67 (0, 0)) (by (with_reducible repeat (first | refine blk_drewN ?_ _ | refine blk_drew ?_ | refine blk_alloc ?_ _)); exact BK299.out) k_ hk, Kd.freshB (g := gb300) (o := .cells #[.int .i64 x301000_2, .int .i64 x301001_2] 67 (0, 0)) (by (with_reducible repeat (first | refine blk_drewN ?_ _ | refine blk_drew ?_ | refine blk_alloc ?_ _)); exact BK300.out) k_ hk⟩)); (case aO => exact (by (with_reducible repeat (first | apply Kd.S_alloc | apply Kd.S_drewN | apply Kd.S_drew)); exact Kd.S_mono HO_11.out (fun k_ hk => ⟨⟨hk.2.1, hk.2.2⟩, fun e_ => hk.1 e_⟩))); (case aS => exact (below_size (by repeat (first | (with_reducible first | exact HB.out | apply below_alloc | apply pw_below_drewN | apply below_drew1 | refine below_set ?_ GE298.out | refine below_set ?_ GE299.out | refine below_set ?_ GE300.out) | exact HB.out)))); (case aL => have := LMc52.out; omega); intro v318 w59 ho hb hg hat; rw [← Ny317.out] at ho; have n0_ := Aside0.mk (blk_grown (g := gb298) (o := .cells #[.int .i64 a0_0, .slice (some ad308) l0_1.length c0_1] 29 (0, 0)) (by (with_reducible repeat (first | refine blk_drewN ?_ _ | refine blk_drew ?_ | refine blk_alloc ?_ _)); exact BK298.out) hg (Kd.S_ne HO_11.out BK298.out (by decide))); have n1_ := Aside0.mk (blk_grown (g := gb299) (o := .cells #[.int .i64 x300000_2, .int .i64 x300001_2] 67 (0, 0)) (by (with_reducible repeat (first | refine blk_drewN ?_ _ | refine blk_drew ?_ | refine blk_alloc ?_ _)); exact BK299.out) hg (Kd.S_ne HO_11.out BK299.out (by decide))); have n2_ := Aside0.mk (blk_grown (g := gb300) (o := .cells #[.int .i64 x301000_2, .int .i64 x301001_2] 67 (0, 0)) (by (with_reducible repeat (first | refine blk_drewN ?_ _ | refine blk_drew ?_ | refine blk_alloc ?_ _)); exact BK300.out) hg (Kd.S_ne HO_11.out BK300.out (by decide))); have n3_ := Aside0.mk (hb); have n4_ := Aside0.mk (ho); clear BK298; clear BK299; clear BK300; clear HB; clear HO_11; clear HO_14; have BK298 := n0_; have BK299 := n1_; have BK300 := n2_; have HB := n3_; have HO319 := n4_; clear n0_ n1_ n2_ n3_ n4_; clear ho hb hg hat))
                               (first | go_roundg k2 | (try subst hji12; go_roundg k2))
                               case measure => have := HK1.out; have := HK2.out; omega
                               case rel => exact ⟨(y317), (wrap64 (x19_1 + 1)), (x300000_2), (x300001_2), (x301000_2), (x301001_2), (by first | rfl | (simp; done) | (simp [*]; done)), H', ⟨by have := HK1.out; have := HK2.out; omega⟩, ⟨by (with_reducible repeat (first | apply Kd.S_alloc | apply Kd.S_drewN | apply Kd.S_drew)); exact HO319.out⟩, ⟨by (with_reducible repeat (first | refine blk_drewN ?_ _ | refine blk_drew ?_ | refine blk_alloc ?_ _)); exact BK298.out⟩, ⟨by (with_reducible repeat (first | refine blk_drewN ?_ _ | refine blk_drew ?_ | refine blk_alloc ?_ _)); exact BK299.out⟩, ⟨by (with_reducible repeat (first | refine blk_drewN ?_ _ | refine blk_drew ?_ | refine blk_alloc ?_ _)); exact BK300.out⟩, ⟨by repeat (first | (with_reducible first | exact HB.out | apply below_alloc | apply pw_below_drewN | apply below_drew1 | refine below_set ?_ GE298.out | refine below_set ?_ GE299.out | refine below_set ?_ GE300.out) | exact HB.out)⟩⟩
                             · rw [if_neg c52] at H
                               exact absurd H (by simp)
                           · rw [if_neg c50] at H
                             exact absurd H (by simp)
                         · rw [if_neg c49] at H
                           exact absurd H (by simp)
                       · rw [if_neg c45] at H
                         exact absurd H (by simp)
                     · rw [if_neg c44] at H
                       exact absurd H (by simp)
                   · rw [if_neg c43] at H
                     exact absurd H (by simp)
                 · rw [if_neg c42] at H
                   exact absurd H (by simp)
           · rw [if_neg c14] at H
             exact absurd H (by simp)
         · rw [if_neg c13] at H
           exact absurd H (by simp)
       · rw [if_neg c11] at H
         exact absurd H (by simp)
     · rw [if_neg c10] at H
       exact absurd H (by simp)
   · rw [if_neg c9] at H
     have c9b0 : decide (x19_1 < (l1.length : Int)) = false := decide_eq_false c9
     clear c9
     replace H := Option.bind_eq_some_iff.mp H
     obtain ⟨t301, A600, H⟩ := H
     replace H : (some t301) = some r := H
     have A60 := Aside0.mk A600
     clear A600
     obtain rfl := Option.some.inj H
     obtain ⟨Ao61, co61, eo61⟩ := Kd.S_slice HO_11.out
     subst eo61
     go_wp2_with (first | ((with_reducible refine gate_callee (f := 59) rfl ?_); refine goesL_ (some 87) rfl rfl Try.func59 (by kernel_rfl) rfl #[.slice Ao61 x11_1.length co61] rfl (by (try simp only [List.map_toArray, List.map_cons, List.map_nil]); first | done | rfl | (simp only [List.length_drop, List.length_take]; rfl)) ?_; (with_reducible refine (impl_solved.calls k1 (fun k_ => ((k_ ≠ gb299 ∧ k_ ≠ gb300) ∧ k_ ≠ gb298)) (.slice Ao61 x11_1.length co61) x11_1 t301 w _ ?side1 ?side2 A60.out).mono ?_); (case side1 => repeat (first | (with_reducible first | exact HB.out | apply below_alloc | apply pw_below_drewN | apply below_drew1 | refine below_set ?_ GE298.out | refine below_set ?_ GE299.out | refine below_set ?_ GE300.out) | exact HB.out)); (case side2 => exact Kd.S_types (HO_11.out) BK298.out (by decide)); rintro e w62 ⟨v302, rfl, ho0, hb, hkp⟩; refine ⟨_, rfl, ?_⟩; have n0_ := Aside0.mk (blk_kept (by (with_reducible repeat (first | refine blk_drewN ?_ _ | refine blk_drew ?_ | refine blk_alloc ?_ _)); exact BK298.out) hkp (fun hs_ => (fun e_ => (e_.2) rfl) hs_)); have n1_ := Aside0.mk (blk_kept (by (with_reducible repeat (first | refine blk_drewN ?_ _ | refine blk_drew ?_ | refine blk_alloc ?_ _)); exact BK299.out) hkp (fun hs_ => (fun e_ => (e_.1.1) rfl) hs_)); have n2_ := Aside0.mk (blk_kept (by (with_reducible repeat (first | refine blk_drewN ?_ _ | refine blk_drew ?_ | refine blk_alloc ?_ _)); exact BK300.out) hkp (fun hs_ => (fun e_ => (e_.1.2) rfl) hs_)); have n3_ := Aside0.mk (Kd.R_mono (ok' := fun k_ => k_ ≠ gb299 ∧ k_ ≠ gb300) ho0 (fun k_ hk_ => ⟨Or.elim hk_ (fun hs_ => fun e_ => by first | exact (Kd.R_ne HO_11.out BK299.out (by decide)) (by rw [← e_]; exact hs_) | exact hs_.1.1 e_ | exact hs_.1.2 e_ | exact hs_.2 e_) (fun hn_ => (Kd.freshB (g := gb299) (o := .cells #[.int .i64 x300000_1, .int .i64 x300001_1] 67 (0, 0)) (by (with_reducible repeat (first | refine blk_drewN ?_ _ | refine blk_drew ?_ | refine blk_alloc ?_ _)); exact BK299.out) k_ hn_)), Or.elim hk_ (fun hs_ => fun e_ => by first | exact (Kd.R_ne HO_11.out BK300.out (by decide)) (by rw [← e_]; exact hs_) | exact hs_.1.1 e_ | exact hs_.1.2 e_ | exact hs_.2 e_) (fun hn_ => (Kd.freshB (g := gb300) (o := .cells #[.int .i64 x301000_1, .int .i64 x301001_1] 67 (0, 0)) (by (with_reducible repeat (first | refine blk_drewN ?_ _ | refine blk_drew ?_ | refine blk_alloc ?_ _)); exact BK300.out) k_ hn_))⟩)); have n4_ := Aside0.mk (hb); clear BK298; clear BK299; clear BK300; clear HB; clear HO_11; have BK298 := n0_; have BK299 := n1_; have BK300 := n2_; have HO303 := n3_; have HB := n4_; clear n0_ n1_ n2_ n3_ n4_; (try clear hb); (try clear hkp); (try clear ho0)))
     go_ret
     exact ⟨_, by first | rfl | (simp [errW_none, errW_some] <;> rfl) | (simp [*, errW_none, errW_some] <;> rfl), by (with_reducible repeat (first | apply Kd.R_alloc | apply Kd.R_drewN | apply Kd.R_drew)); exact Kd.R_mono HO303.out (fun _ hk => trivial), by repeat (first | (with_reducible first | exact HB.out | apply below_alloc | apply pw_below_drewN | apply below_drew1 | refine below_set ?_ GE298.out | refine below_set ?_ GE299.out | refine below_set ?_ GE300.out) | exact HB.out)⟩
end Go.Proofs.Ytlpegpmcnimfbaa.PFnExactChanceToEnd
