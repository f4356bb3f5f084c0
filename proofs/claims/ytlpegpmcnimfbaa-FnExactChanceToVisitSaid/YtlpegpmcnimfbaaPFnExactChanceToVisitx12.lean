-- written by a program of this session (the kit's print with turns of the session's own)
import Derived.Test.YtlpegpmcnimfbaaPFnExactChanceToVisitx0
import Derived.Test.YtlpegpmcnimfbaaPFnExactChanceToVisitx6
import Derived.Test.YtlpegpmcnimfbaaPFnExactChanceToVisitx8
import Derived.Test.YtlpegpmcnimfbaaPFnExactChanceToVisitx9
import Derived.Test.YtlpegpmcnimfbaaPFnExactChanceToVisitx10
import Derived.Test.YtlpegpmcnimfbaaPFnExactChanceToVisitx11
namespace Go.Proofs.Ytlpegpmcnimfbaa.PFnExactChanceToVisit
open Go.RowKit Go.Proofs.YtlpegpmcnimfbaaW.PrintWords Go.Proofs.YtlpegpmcnimfbaaW.PrintLast Go.Proofs.YtlpegpmcnimfbaaW.PrintMore
attribute [local go_sem] Instr.field asAgg part max2_int min2_int max_two min_two max_three min_three max_four min_four
set_option linter.unusedVariables false
set_option linter.unusedSimpArgs false
mutual
def impl_States_hit.l0 : Nat → List Int → Int → List (List (S67)) → List Int → Int → Int → Int → List (List Int) → Int → Int → Int → Int → Option ((List (S67)))
 | 0, _, _, _, _, _, _, _, _, _, _, _, _ => none
 | k + 1, x1, x2, x11, x17, x18, x19, x295000, x295001, x296000, x296001, x297000, x297001 => if x19 < x18 then (if 0 ≤ x19 then (if x19 < (x17.length : Int) then (if 0 ≤ (wrap64 ((x1.length : Int) + 1)) then (if (wrap64 ((x1.length : Int) + 1) : Int).toNat ≤ 17592186044416 then (impl_States_hit.l1 k x1 x2 x11 (rd x17 x19) (List.replicate (wrap64 ((x1.length : Int) + 1) : Int).toNat z67) x17 x18 x19 x1 (x1.length : Int) 0 x295000 x295001 x296000 x296001 x297000 x297001) else (none)) else (none)) else (none)) else (none)) else ((impl_solved.f k x11).bind fun t297 => (some t297))
def impl_States_hit.l1 : Nat → List Int → Int → List (List (S67)) → Int → List (S67) → List Int → Int → Int → List Int → Int → Int → Int → List (List Int) → Int → Int → Int → Int → Option ((List (S67)))
 | 0, _, _, _, _, _, _, _, _, _, _, _, _, _, _, _, _, _ => none
 | k + 1, x1, x2, x11, x13, x14, x17, x18, x19, x27, x28, x29, x295000, x295001, x296000, x296001, x297000, x297001 => if x29 < x28 then (if 0 ≤ x29 then (if x29 < (x27.length : Int) then (if 0 ≤ x13 then (if x13 < (x295001.length : Int) then (if 0 ≤ (rd x27 x29) then (if (rd x27 x29) < ((rd_L1 x295001 x13).length : Int) then ((impl_lowest.f k (wrap64 (-(rd (rd_L1 x295001 x13) (rd x27 x29)))) x295000).bind fun bt319 => (if x29 < (x14.length : Int) then ((some (x14.set (x29 : Int).toNat (⟨bt319.1, bt319.2⟩ : S67) : List (S67))).bind fun y321 => (if x13 = (rd x27 x29) then ((impl_whole.f 1).bind fun bt323 => ((impl_frac_plus.f k ((rd_T67 y321 x29).f0) ((rd_T67 y321 x29).f1) bt323.1 bt323.2).bind fun bt325 => (impl_States_hit.l1 k x1 x2 x11 x13 (y321.set (x29 : Int).toNat (⟨bt325.1, bt325.2⟩ : S67)) x17 x18 x19 x27 x28 (wrap64 (x29 + 1)) x295000 x295001 x296000 x296001 x297000 x297001))) else (impl_States_hit.l1 k x1 x2 x11 x13 y321 x17 x18 x19 x27 x28 (wrap64 (x29 + 1)) x295000 x295001 x296000 x296001 x297000 x297001))) else (none))) else (none)) else (none)) else (none)) else (none)) else (none)) else (none)) else (if 0 ≤ x13 then (if x13 < (x295001.length : Int) then (if 0 ≤ x2 then (if x2 < ((rd_L1 x295001 x13).length : Int) then ((impl_lowest.f k (rd (rd_L1 x295001 x13) x2) x295000).bind fun bt306 => ((impl_frac_times.f k x297000 x297001 bt306.1 bt306.2).bind fun bt308 => ((impl_frac_plus.f k x296000 x296001 bt308.1 bt308.2).bind fun bt310 => (if 0 ≤ (x1.length : Int) then (if (x1.length : Int) < (x14.length : Int) then (if x11.length < 5864062014805 then (impl_States_hit.l0 k x1 x2 (x11 ++ [(x14.set ((x1.length : Int) : Int).toNat (⟨bt310.1, bt310.2⟩ : S67))]) x17 x18 (wrap64 (x19 + 1)) x295000 x295001 x296000 x296001 x297000 x297001) else (none)) else (none)) else (none))))) else (none)) else (none)) else (none)) else (none))
end
def impl_States_hit.f (k : Nat) (a0_0 : Int) (l0_1 : List (List Int)) (l1 : List Int) (a2 : Int) (a3_0 : Int) (a3_1 : Int) (a4_0 : Int) (a4_1 : Int) : Option ((List (S67))) := impl_States_hit.l0 k l1 a2 ([] : List (List (S67))) l1 (l1.length : Int) 0 a0_0 l0_1 a3_0 a3_1 a4_0 a4_1
def impl_States_hit.T9 : Bool × List (List Nat × List Nat) := (true, [([], []), ([], []), ([], []), ([2], [2]), ([], []), ([3, 4], [3, 4]), ([5], [5]), ([], []), ([6, 7], [6, 7]), ([8], [8]), ([9], [9]), ([], []), ([11], [11]), ([10, 12], [10, 12]), ([0, 1, 0, 1, 2, 3, 4, 5, 6, 7, 8, 9, 10, 11, 12, 13], [0, 1]), ([14, 13, 13, 0, 1, 2, 3, 4, 5, 6, 7, 8, 9, 10, 11, 12, 13], [13, 14])])
def impl_States_hit.B9 : List Nat := [0, 0, 0, 4, 0, 28, 60, 0, 252, 508, 1020, 0, 2048, 8188, 16383, 32767]
theorem impl_States_hit.tab9 : rtab .any (opsOf Try.f68 9) = impl_States_hit.T9 := by kernel_rfl
theorem impl_States_hit.bits9 : waitsOk impl_States_hit.T9.2 impl_States_hit.B9 = true := by kernel_rfl
def impl_States_hit.T11 : Bool × List (List Nat × List Nat) := (true, [([], []), ([], []), ([], []), ([], []), ([2, 3], [2, 3]), ([4], [4]), ([], []), ([5, 6, 6], [5, 6]), ([0, 1, 0, 1, 2, 3, 4, 5, 6, 7], [0, 1]), ([8, 7, 7, 0, 1, 2, 3, 4, 5, 6, 7], [7, 8])])
def impl_States_hit.B11 : List Nat := [0, 0, 0, 0, 12, 28, 0, 124, 255, 511]
theorem impl_States_hit.tab11 : rtab .any (opsOf Try.f68 11) = impl_States_hit.T11 := by kernel_rfl
theorem impl_States_hit.bits11 : waitsOk impl_States_hit.T11.2 impl_States_hit.B11 = true := by kernel_rfl
def impl_States_hit.T13 : Bool × List (List Nat × List Nat) := (true, [([], []), ([], []), ([1], [1]), ([], []), ([], []), ([], []), ([5], [5]), ([], []), ([6, 7], [6, 7]), ([8], [8]), ([], []), ([9, 10], [9, 10]), ([11], [11]), ([], []), ([13], [13]), ([12, 14], [12, 14]), ([4, 15, 15], [4, 15]), ([3, 16, 16], [3, 16]), ([0, 2, 0, 1, 2, 3, 4, 5, 6, 7, 8, 9, 10, 11, 12, 13, 14, 15, 16, 17], [0, 2]), ([18, 17, 17, 0, 1, 2, 3, 4, 5, 6, 7, 8, 9, 10, 11, 12, 13, 14, 15, 16, 17], [17, 18])])
def impl_States_hit.B13 : List Nat := [0, 0, 2, 0, 0, 0, 32, 0, 224, 480, 0, 2016, 4064, 0, 8192, 32736, 65520, 131064, 262143, 524287]
theorem impl_States_hit.tab13 : rtab .any (opsOf Try.f68 13) = impl_States_hit.T13 := by kernel_rfl
theorem impl_States_hit.bits13 : waitsOk impl_States_hit.T13.2 impl_States_hit.B13 = true := by kernel_rfl
set_option maxHeartbeats 8000000 in
set_option maxRecDepth 100000 in
theorem impl_States_hit.calls (k : Nat) (a0_0 : Int) (A0_1 : Option Addr) (c0_1 : Nat) (l0_1 : List (List Int)) (A1 : Option Addr) (c1 : Nat) (l1 : List Int) (a2 : Int) (a3_0 : Int) (a3_1 : Int) (a4_0 : Int) (a4_1 : Int) (r : List (S67)) (w : World) (hr0_1 : Kd.C (Kd.slice 3 (Kd.int .i64)) w A0_1 l0_1.length l0_1) (hc0_1 : l0_1.length ≤ c0_1) (hr1 : Kd.C (Kd.int .i64) w A1 l1.length l1) (hc1 : l1.length ≤ c1) (h : impl_States_hit.f k a0_0 l0_1 l1 a2 a3_0 a3_1 a4_0 a4_1 = some r) :
 Calls Try.prog 68 #[.agg #[.int .i64 a0_0, .slice A0_1 l0_1.length c0_1], .slice A1 l1.length c1, .int .i64 a2, .agg #[.int .i64 a3_0, .int .i64 a3_1], .agg #[.int .i64 a4_0, .int .i64 a4_1]] w fun e w' => ∃ v0_ : Value, e = .returned (v0_) ∧ Kd.R k67 67 w' w.heap.size (fun _ => True) v0_ r ∧ Below w.heap.size w w' := by
 have hu29 := Try.underlying29
 have hu67 := Try.underlying67
 have HR0_1 := Aside0.mk hr0_1
 have HC0_1 := Aside0.mk hc0_1
 clear hr0_1 hc0_1
 have HR1 := Aside0.mk hr1
 have HC1 := Aside0.mk hc1
 clear hr1 hc1
 have HB := Aside0.mk (Below.refl w.heap.size w)
 have H : (impl_States_hit.l0 k l1 a2 ([] : List (List (S67))) l1 (l1.length : Int) 0 a0_0 l0_1 a3_0 a3_1 a4_0 a4_1) = some r := h
 clear h
 have H' := Aside0.mk H
 clear H
 go_enter Try.func68, Try.ntmps68
 go_wp2_with (first | ((with_reducible refine gate_dst (N := 5) rfl ?_); refine box_event ?hg (N := 5) ?hd (cs := #[.int .i64 a0_0, .slice A0_1 l0_1.length c0_1]) (t := 29) ?hr ?_; (case hd => rfl); (case hg => rfl); (case hr => first | (go_simp; done) | (go_simp; rfl)); intro gb294 hg w6 hbox hb; have n0_ := Aside0.mk (below_step (by repeat (first | (with_reducible first | exact HB.out | apply below_alloc | apply pw_below_drewN | apply below_drew1) | exact HB.out)) hb); have n1_ := Aside0.mk (hbox); have n2_ := Aside0.mk ((by rw [hg]; exact (below_size (by repeat (first | (with_reducible first | exact HB.out | apply below_alloc | apply pw_below_drewN | apply below_drew1) | exact HB.out))) : w.heap.size ≤ gb294)); have n3_ := Aside0.mk ((by rw [hg]; exact (below_size (by repeat (first | (with_reducible first | exact HB.out | apply below_alloc | apply pw_below_drewN | apply below_drew1) | exact HB.out))) : w.heap.size ≤ gb294)); clear HB; have HB := n0_; have BK294 := n1_; have GW294 := n2_; have GE294 := n3_; clear n0_ n1_ n2_ n3_; clear hb hbox hg) | ((with_reducible refine gate_dst (N := 8) rfl ?_); refine box_event ?hg (N := 8) ?hd (cs := #[.int .i64 a3_0, .int .i64 a3_1]) (t := 67) ?hr ?_; (case hd => rfl); (case hg => rfl); (case hr => first | (go_simp; done) | (go_simp; rfl)); intro gb295 hg w7 hbox hb; have n0_ := Aside0.mk (blk_below (g := gb294) (o := .cells #[.int .i64 a0_0, .slice A0_1 l0_1.length c0_1] 29 (0, 0)) (by (with_reducible repeat (first | refine blk_drewN ?_ _ | refine blk_drew ?_ | refine blk_alloc ?_ _)); exact BK294.out) hb); have n1_ := Aside0.mk (below_step (by repeat (first | (with_reducible first | exact HB.out | apply below_alloc | apply pw_below_drewN | apply below_drew1 | refine below_set ?_ GE294.out) | exact HB.out)) hb); have n2_ := Aside0.mk (hbox); have n3_ := Aside0.mk ((by rw [hg]; exact (below_size (by repeat (first | (with_reducible first | exact HB.out | apply below_alloc | apply pw_below_drewN | apply below_drew1 | refine below_set ?_ GE294.out) | exact HB.out))) : w.heap.size ≤ gb295)); have n4_ := Aside0.mk ((by rw [hg]; exact (below_size (by repeat (first | (with_reducible first | exact HB.out | apply below_alloc | apply pw_below_drewN | apply below_drew1 | refine below_set ?_ GE294.out) | exact HB.out))) : w.heap.size ≤ gb295)); have n5_ := Aside0.mk ((by rw [hg]; exact Nat.ne_of_lt (blk_lt (g := gb294) (o := .cells #[.int .i64 a0_0, .slice A0_1 l0_1.length c0_1] 29 (0, 0)) (by (with_reducible repeat (first | refine blk_drewN ?_ _ | refine blk_drew ?_ | refine blk_alloc ?_ _)); exact BK294.out)) : gb294 ≠ gb295)); have n6_ := Aside0.mk ((by rw [hg]; exact Nat.ne_of_gt (blk_lt (g := gb294) (o := .cells #[.int .i64 a0_0, .slice A0_1 l0_1.length c0_1] 29 (0, 0)) (by (with_reducible repeat (first | refine blk_drewN ?_ _ | refine blk_drew ?_ | refine blk_alloc ?_ _)); exact BK294.out)) : gb295 ≠ gb294)); clear BK294; clear HB; have BK294 := n0_; have HB := n1_; have BK295 := n2_; have GW295 := n3_; have GE295 := n4_; have NB294_295 := n5_; have NB295_294 := n6_; clear n0_ n1_ n2_ n3_ n4_ n5_ n6_; clear hb hbox hg) | ((with_reducible refine gate_dst (N := 9) rfl ?_); refine box_event ?hg (N := 9) ?hd (cs := #[.int .i64 a4_0, .int .i64 a4_1]) (t := 67) ?hr ?_; (case hd => rfl); (case hg => rfl); (case hr => first | (go_simp; done) | (go_simp; rfl)); intro gb296 hg w8 hbox hb; have n0_ := Aside0.mk (blk_below (g := gb294) (o := .cells #[.int .i64 a0_0, .slice A0_1 l0_1.length c0_1] 29 (0, 0)) (by (with_reducible repeat (first | refine blk_drewN ?_ _ | refine blk_drew ?_ | refine blk_alloc ?_ _)); exact BK294.out) hb); have n1_ := Aside0.mk (blk_below (g := gb295) (o := .cells #[.int .i64 a3_0, .int .i64 a3_1] 67 (0, 0)) (by (with_reducible repeat (first | refine blk_drewN ?_ _ | refine blk_drew ?_ | refine blk_alloc ?_ _)); exact BK295.out) hb); have n2_ := Aside0.mk (below_step (by repeat (first | (with_reducible first | exact HB.out | apply below_alloc | apply pw_below_drewN | apply below_drew1 | refine below_set ?_ GE294.out | refine below_set ?_ GE295.out) | exact HB.out)) hb); have n3_ := Aside0.mk (hbox); have n4_ := Aside0.mk ((by rw [hg]; exact (below_size (by repeat (first | (with_reducible first | exact HB.out | apply below_alloc | apply pw_below_drewN | apply below_drew1 | refine below_set ?_ GE294.out | refine below_set ?_ GE295.out) | exact HB.out))) : w.heap.size ≤ gb296)); have n5_ := Aside0.mk ((by rw [hg]; exact (below_size (by repeat (first | (with_reducible first | exact HB.out | apply below_alloc | apply pw_below_drewN | apply below_drew1 | refine below_set ?_ GE294.out | refine below_set ?_ GE295.out) | exact HB.out))) : w.heap.size ≤ gb296)); have n6_ := Aside0.mk ((by rw [hg]; exact Nat.ne_of_lt (blk_lt (g := gb294) (o := .cells #[.int .i64 a0_0, .slice A0_1 l0_1.length c0_1] 29 (0, 0)) (by (with_reducible repeat (first | refine blk_drewN ?_ _ | refine blk_drew ?_ | refine blk_alloc ?_ _)); exact BK294.out)) : gb294 ≠ gb296)); have n7_ := Aside0.mk ((by rw [hg]; exact Nat.ne_of_gt (blk_lt (g := gb294) (o := .cells #[.int .i64 a0_0, .slice A0_1 l0_1.length c0_1] 29 (0, 0)) (by (with_reducible repeat (first | refine blk_drewN ?_ _ | refine blk_drew ?_ | refine blk_alloc ?_ _)); exact BK294.out)) : gb296 ≠ gb294)); have n8_ := Aside0.mk ((by rw [hg]; exact Nat.ne_of_lt (blk_lt (g := gb295) (o := .cells #[.int .i64 a3_0, .int .i64 a3_1] 67 (0, 0)) (by (with_reducible repeat (first | refine blk_drewN ?_ _ | refine blk_drew ?_ | refine blk_alloc ?_ _)); exact BK295.out)) : gb295 ≠ gb296)); have n9_ := Aside0.mk ((by rw [hg]; exact Nat.ne_of_gt (blk_lt (g := gb295) (o := .cells #[.int .i64 a3_0, .int .i64 a3_1] 67 (0, 0)) (by (with_reducible repeat (first | refine blk_drewN ?_ _ | refine blk_drew ?_ | refine blk_alloc ?_ _)); exact BK295.out)) : gb296 ≠ gb295)); clear BK294; clear BK295; clear HB; have BK294 := n0_; have BK295 := n1_; have HB := n2_; have BK296 := n3_; have GW296 := n4_; have GE296 := n5_; have NB294_296 := n6_; have NB296_294 := n7_; have NB295_296 := n8_; have NB296_295 := n9_; clear n0_ n1_ n2_ n3_ n4_ n5_ n6_ n7_ n8_ n9_; clear hb hbox hg))
 go_loopg [11, 19] k (fun kq v11 v19 w' => ∃ (x11_1 : List (List (S67))) (x19_1 : Int) (x296000_1 : Int) (x296001_1 : Int) (x297000_1 : Int) (x297001_1 : Int), v19 = .int .i64 x19_1 ∧ Aside0 (impl_States_hit.l0 kq l1 a2 x11_1 l1 (l1.length : Int) x19_1 a0_0 l0_1 x296000_1 x296001_1 x297000_1 x297001_1 = some r) ∧ Aside0 (kq ≤ k) ∧ Aside0 (Kd.S (Kd.slice 67 k67) 65 w' w.heap.size (fun k_ => k_ ≠ gb295 ∧ k_ ≠ gb296) v11 x11_1) ∧ Aside0 (w'.heap[gb294]? = some (.cells #[.int .i64 a0_0, (.slice A0_1 l0_1.length c0_1)] 29 (0, 0))) ∧ Aside0 (w'.heap[gb295]? = some (.cells #[.int .i64 x296000_1, .int .i64 x296001_1] 67 (0, 0))) ∧ Aside0 (w'.heap[gb296]? = some (.cells #[.int .i64 x297000_1, .int .i64 x297001_1] 67 (0, 0))) ∧ Aside0 (Below w.heap.size w w'))
 case atStart => exact ⟨(([] : List (List (S67)))), (0), (a3_0), (a3_1), (a4_0), (a4_1), (by first | rfl | (simp; done) | (simp [*]; done)), H', ⟨Nat.le_refl _⟩, ⟨by first | exact Kd.S_nil _ _ _ _ _ | exact Kd.N_nil _ _ _ _ _ | exact Kd.V_nil _ _ _ _ _ | exact Kd.Q_nil _ _ _ _ _ | exact Kd.R_nil _ _ _ _ _⟩, ⟨by (with_reducible repeat (first | refine blk_drewN ?_ _ | refine blk_drew ?_ | refine blk_alloc ?_ _)); exact BK294.out⟩, ⟨by (with_reducible repeat (first | refine blk_drewN ?_ _ | refine blk_drew ?_ | refine blk_alloc ?_ _)); exact BK295.out⟩, ⟨by (with_reducible repeat (first | refine blk_drewN ?_ _ | refine blk_drew ?_ | refine blk_alloc ?_ _)); exact BK296.out⟩, ⟨by repeat (first | (with_reducible first | exact HB.out | apply below_alloc | apply pw_below_drewN | apply below_drew1 | refine below_set ?_ GE294.out | refine below_set ?_ GE295.out | refine below_set ?_ GE296.out) | exact HB.out)⟩⟩
 case round =>
  clear H'
  try clear c1
  try clear p2
  try clear c6
  obtain ⟨x11_1, x19_1, x296000_1, x296001_1, x297000_1, x297001_1, rfl, HA, HK1, HO_11, BK294, BK295, BK296, HB⟩ := hrel
  cases gk with
  | zero => exact absurd HA.out (by simp [impl_States_hit.l0])
  | succ k1 =>
   have H := HA.out
   clear HA
   simp only [impl_States_hit.l0] at H
   by_cases c9 : x19_1 < (l1.length : Int)
   · rw [if_pos c9] at H
     have c9b0 : decide (x19_1 < (l1.length : Int)) = true := decide_eq_true c9
     clear c9
     by_cases c10 : 0 ≤ x19_1
     · rw [if_pos c10] at H
       have c10b0 : decide (0 ≤ x19_1) = true := decide_eq_true c10
       clear c10
       by_cases c11 : x19_1 < (l1.length : Int)
       · rw [if_pos c11] at H
         have c11b0 : decide (x19_1 < (l1.length : Int)) = true := decide_eq_true c11
         clear c11
         obtain ⟨ji12, hji12⟩ : ∃ j_ : Int, (wrap64 ((l1.length : Int) + 1)) = j_ := ⟨_, rfl⟩
         replace H : (if 0 ≤ (ji12) then (if (ji12 : Int).toNat ≤ 17592186044416 then (impl_States_hit.l1 k1 l1 a2 x11_1 (rd l1 x19_1) (List.replicate (ji12 : Int).toNat z67) l1 (l1.length : Int) x19_1 l1 (l1.length : Int) 0 a0_0 l0_1 x296000_1 x296001_1 x297000_1 x297001_1) else (none)) else (none)) = some r := by first | (rw [hji12] at H; exact H) | (simp only [hji12] at H ⊢; exact H)
         have hji12w : (IntKind.i64.wrap ((l1.length : Int) + 1)) = ji12 := (i64_w _).trans hji12
         by_cases c13 : 0 ≤ (ji12)
         · rw [if_pos c13] at H
           have c13b0 := eq_true c13
           have c13b1 : decide (0 ≤ (ji12)) = true := decide_eq_true c13
           clear c13
           by_cases c14 : (ji12 : Int).toNat ≤ 17592186044416
           · rw [if_pos c14] at H
             have c14b0 := eq_true c14
             have c14b1 : decide ((ji12 : Int).toNat ≤ 17592186044416) = true := decide_eq_true c14
             clear c14
             obtain ⟨y301, hy301⟩ : ∃ y_ : List (S67), y_ = (List.replicate (ji12 : Int).toNat z67) := ⟨_, rfl⟩
             replace H : (impl_States_hit.l1 k1 l1 a2 x11_1 (rd l1 x19_1) y301 l1 (l1.length : Int) x19_1 l1 (l1.length : Int) 0 a0_0 l0_1 x296000_1 x296001_1 x297000_1 x297001_1) = some r := by first | (rw [hy301]; with_reducible exact H) | (have H2_ := (Option.bind_some _ _).symm.trans H; rw [hy301]; with_reducible exact H2_) | (have H2_ := (Option.bind_some _ _).symm.trans H; with_reducible exact H2_) | with_reducible exact H | (rw [hy301]; exact H) | exact H
             have Ny301 := Aside0.mk hy301
             clear hy301
             have H' := Aside0.mk H
             clear H
             have p300 : 0 ≤ (x19_1 : Int) := of_decide_eq_true (by first | (with_reducible assumption) | assumption)
             have q300 : x19_1 < (l1.length : Int) := of_decide_eq_true (by first | (with_reducible assumption) | assumption)
             obtain ⟨ad300, e300, hx300_0⟩ := Kd.at_int HR1.out x19_1 p300 q300
             cases e300
             replace hx300_0 := (HB.out.cell (World.block_lt_of_cell? w _ hx300_0)).trans hx300_0
             replace p300 := eq_true p300
             replace q300 := eq_true q300
             go_wp2_with (first | ((with_reducible refine gate_dst (N := 26) rfl ?_); refine Kd.R_make k67 _ 67 rfl (N := 26) rfl 65 _ _ rfl ji12 rfl rfl Try.underlying65 (.agg #[(.int .i64 0), (.int .i64 0)]) 16 info67 rfl (by decide) (by omega) z67 (ok := fun _ => True) (okp := fun _ => True) (k67_mkM _ _ _ z67 ) (fun _ hk => hk) trivial (of_decide_eq_true (by first | (with_reducible assumption) | assumption)) (Nat.le_trans (Nat.mul_le_mul_right _ (of_decide_eq_true (by first | (with_reducible assumption) | assumption) : ji12.toNat ≤ 17592186044416)) (by omega)) (Below.refl _ _) (Nat.le_refl _) ?_; intro v302 w15 ho16 hb hg_ hnew_; clear hg_ hnew_; (first | rw [← Ny301.out] at ho16 | (simp only [Int.reduceToNat] at ho16; rw [← Ny301.out] at ho16)); have n0_ := Aside0.mk (Kd.S_elder' (by (with_reducible repeat (first | apply Kd.S_alloc | apply Kd.S_drewN | apply Kd.S_drew)); exact HO_11.out) (Kd.R_base ho16) hb); have n1_ := Aside0.mk (Kd.R_lower (Kd.R_newB (Kd.R_newB ho16 (g := gb295) (o := .cells #[.int .i64 x296000_1, .int .i64 x296001_1] 67 (0, 0)) (by (with_reducible repeat (first | refine blk_drewN ?_ _ | refine blk_drew ?_ | refine blk_alloc ?_ _)); exact BK295.out)) (g := gb296) (o := .cells #[.int .i64 x297000_1, .int .i64 x297001_1] 67 (0, 0)) (by (with_reducible repeat (first | refine blk_drewN ?_ _ | refine blk_drew ?_ | refine blk_alloc ?_ _)); exact BK296.out)) (below_size (by repeat (first | (with_reducible first | exact HB.out | apply below_alloc | apply pw_below_drewN | apply below_drew1 | refine below_set ?_ GE294.out | refine below_set ?_ GE295.out | refine below_set ?_ GE296.out) | exact HB.out)))); have n2_ := Aside0.mk (blk_below (g := gb294) (o := .cells #[.int .i64 a0_0, .slice A0_1 l0_1.length c0_1] 29 (0, 0)) (by (with_reducible repeat (first | refine blk_drewN ?_ _ | refine blk_drew ?_ | refine blk_alloc ?_ _)); exact BK294.out) hb); have n3_ := Aside0.mk (blk_below (g := gb295) (o := .cells #[.int .i64 x296000_1, .int .i64 x296001_1] 67 (0, 0)) (by (with_reducible repeat (first | refine blk_drewN ?_ _ | refine blk_drew ?_ | refine blk_alloc ?_ _)); exact BK295.out) hb); have n4_ := Aside0.mk (blk_below (g := gb296) (o := .cells #[.int .i64 x297000_1, .int .i64 x297001_1] 67 (0, 0)) (by (with_reducible repeat (first | refine blk_drewN ?_ _ | refine blk_drew ?_ | refine blk_alloc ?_ _)); exact BK296.out) hb); have n5_ := Aside0.mk (below_step (by repeat (first | (with_reducible first | exact HB.out | apply below_alloc | apply pw_below_drewN | apply below_drew1 | refine below_set ?_ GE294.out | refine below_set ?_ GE295.out | refine below_set ?_ GE296.out) | exact HB.out)) hb); clear HO_11; clear BK294; clear BK295; clear BK296; clear HB; have HO_11 := n0_; have HO303 := n1_; have BK294 := n2_; have BK295 := n3_; have BK296 := n4_; have HB := n5_; clear n0_ n1_ n2_ n3_ n4_ n5_; clear hb ho16))
             go_loopg [29] k1 (fun kq v29 w' => ∃ (x14_2 : List (S67)) (x29_2 : Int) (x296000_2 : Int) (x296001_2 : Int) (x297000_2 : Int) (x297001_2 : Int), v29 = .int .i64 x29_2 ∧ Aside0 (impl_States_hit.l1 kq l1 a2 x11_1 (rd l1 x19_1) x14_2 l1 (l1.length : Int) x19_1 l1 (l1.length : Int) x29_2 a0_0 l0_1 x296000_2 x296001_2 x297000_2 x297001_2 = some r) ∧ Aside0 (kq ≤ k1) ∧ Aside0 (Kd.S (Kd.slice 67 k67) 65 w' w.heap.size (fun k_ => some k_ ≠ (v302 : Value).ownBlock ∧ k_ ≠ gb295 ∧ k_ ≠ gb296) u11 x11_1) ∧ Aside0 (Kd.R k67 67 w' w.heap.size (fun k_ => k_ ≠ gb295 ∧ k_ ≠ gb296) v302 x14_2) ∧ Aside0 (w'.heap[gb294]? = some (.cells #[.int .i64 a0_0, (.slice A0_1 l0_1.length c0_1)] 29 (0, 0))) ∧ Aside0 (w'.heap[gb295]? = some (.cells #[.int .i64 x296000_2, .int .i64 x296001_2] 67 (0, 0))) ∧ Aside0 (w'.heap[gb296]? = some (.cells #[.int .i64 x297000_2, .int .i64 x297001_2] 67 (0, 0))) ∧ Aside0 (Below w.heap.size w w'))
             case atStart => exact ⟨(y301), (0), (x296000_1), (x296001_1), (x297000_1), (x297001_1), (by first | rfl | (simp; done) | (simp [*]; done)), H', ⟨Nat.le_refl _⟩, ⟨by (with_reducible repeat (first | apply Kd.S_alloc | apply Kd.S_drewN | apply Kd.S_drew)); exact Kd.S_mono HO_11.out (fun _ hk => ⟨hk.2, ⟨hk.1.1, hk.1.2⟩⟩)⟩, ⟨by (with_reducible repeat (first | apply Kd.R_alloc | apply Kd.R_drewN | apply Kd.R_drew)); exact Kd.R_mono HO303.out (fun _ hk => ⟨hk.1.2, hk.2⟩)⟩, ⟨by (with_reducible repeat (first | refine blk_drewN ?_ _ | refine blk_drew ?_ | refine blk_alloc ?_ _)); exact BK294.out⟩, ⟨by (with_reducible repeat (first | refine blk_drewN ?_ _ | refine blk_drew ?_ | refine blk_alloc ?_ _)); exact BK295.out⟩, ⟨by (with_reducible repeat (first | refine blk_drewN ?_ _ | refine blk_drew ?_ | refine blk_alloc ?_ _)); exact BK296.out⟩, ⟨by repeat (first | (with_reducible first | exact HB.out | apply below_alloc | apply pw_below_drewN | apply below_drew1 | refine below_set ?_ GE294.out | refine below_set ?_ GE295.out | refine below_set ?_ GE296.out) | exact HB.out)⟩⟩
             case round =>
              clear H'
              try clear c1
              try clear p2
              try clear p3
              try clear q3
              try clear hx3
              try clear c6
              try clear p6
              try clear c9
              try clear c9b0
              try clear c10
              try clear c10b0
              try clear c11
              try clear c11b0
              try clear c13
              try clear c13b0
              try clear c13b1
              try clear c14
              try clear c14b0
              try clear c14b1
              try clear hx300_0
              try clear p2
              try clear p300
              try clear q300
              obtain ⟨x14_2, x29_2, x296000_2, x296001_2, x297000_2, x297001_2, rfl, HA, HK2, HO_11, HO_14, BK294, BK295, BK296, HB⟩ := hrel
              cases gk with
              | zero => exact absurd HA.out (by simp [impl_States_hit.l1])
              | succ k2 =>
               have H := HA.out
               clear HA
               simp only [impl_States_hit.l1] at H
               by_cases c17 : x29_2 < (l1.length : Int)
               · rw [if_pos c17] at H
                 have c17b0 : decide (x29_2 < (l1.length : Int)) = true := decide_eq_true c17
                 clear c17
                 by_cases c18 : 0 ≤ x29_2
                 · rw [if_pos c18] at H
                   have c18b0 : decide (0 ≤ x29_2) = true := decide_eq_true c18
                   clear c18
                   by_cases c19 : x29_2 < (l1.length : Int)
                   · rw [if_pos c19] at H
                     have c19b0 : decide (x29_2 < (l1.length : Int)) = true := decide_eq_true c19
                     clear c19
                     by_cases c20 : 0 ≤ (rd l1 x19_1)
                     · rw [if_pos c20] at H
                       have c20b0 : decide (0 ≤ (rd l1 x19_1)) = true := decide_eq_true c20
                       clear c20
                       by_cases c21 : (rd l1 x19_1) < (l0_1.length : Int)
                       · rw [if_pos c21] at H
                         have c21b0 : decide ((rd l1 x19_1) < (l0_1.length : Int)) = true := decide_eq_true c21
                         clear c21
                         by_cases c22 : 0 ≤ (rd l1 x29_2)
                         · rw [if_pos c22] at H
                           have c22b0 : decide (0 ≤ (rd l1 x29_2)) = true := decide_eq_true c22
                           clear c22
                           by_cases c23 : (rd l1 x29_2) < ((rd_L1 l0_1 (rd l1 x19_1)).length : Int)
                           · rw [if_pos c23] at H
                             have c23b0 : decide ((rd l1 x29_2) < ((rd_L1 l0_1 (rd l1 x19_1)).length : Int)) = true := decide_eq_true c23
                             clear c23
                             replace H := Option.bind_eq_some_iff.mp H
                             obtain ⟨⟨t319, t320⟩, A240, H⟩ := H
                             replace H : (if x29_2 < (x14_2.length : Int) then ((some (x14_2.set (x29_2 : Int).toNat (⟨t319, t320⟩ : S67) : List (S67))).bind fun y321 => (if (rd l1 x19_1) = (rd l1 x29_2) then ((impl_whole.f 1).bind fun bt323 => ((impl_frac_plus.f k2 ((rd_T67 y321 x29_2).f0) ((rd_T67 y321 x29_2).f1) bt323.1 bt323.2).bind fun bt325 => (impl_States_hit.l1 k2 l1 a2 x11_1 (rd l1 x19_1) (y321.set (x29_2 : Int).toNat (⟨bt325.1, bt325.2⟩ : S67)) l1 (l1.length : Int) x19_1 l1 (l1.length : Int) (wrap64 (x29_2 + 1)) a0_0 l0_1 x296000_2 x296001_2 x297000_2 x297001_2))) else (impl_States_hit.l1 k2 l1 a2 x11_1 (rd l1 x19_1) y321 l1 (l1.length : Int) x19_1 l1 (l1.length : Int) (wrap64 (x29_2 + 1)) a0_0 l0_1 x296000_2 x296001_2 x297000_2 x297001_2))) else (none)) = some r := H
                             have A24 := Aside0.mk A240
                             clear A240
                             by_cases c25 : x29_2 < (x14_2.length : Int)
                             · rw [if_pos c25] at H
                               have c25b0 : decide (x29_2 < (x14_2.length : Int)) = true := decide_eq_true c25
                               clear c25
                               obtain ⟨y321, hy321⟩ : ∃ y_ : List (S67), y_ = (x14_2.set (x29_2 : Int).toNat (⟨t319, t320⟩ : S67)) := ⟨_, rfl⟩
                               replace H : (if (rd l1 x19_1) = (rd l1 x29_2) then ((impl_whole.f 1).bind fun bt323 => ((impl_frac_plus.f k2 ((rd_T67 y321 x29_2).f0) ((rd_T67 y321 x29_2).f1) bt323.1 bt323.2).bind fun bt325 => (impl_States_hit.l1 k2 l1 a2 x11_1 (rd l1 x19_1) (y321.set (x29_2 : Int).toNat (⟨bt325.1, bt325.2⟩ : S67)) l1 (l1.length : Int) x19_1 l1 (l1.length : Int) (wrap64 (x29_2 + 1)) a0_0 l0_1 x296000_2 x296001_2 x297000_2 x297001_2))) else (impl_States_hit.l1 k2 l1 a2 x11_1 (rd l1 x19_1) y321 l1 (l1.length : Int) x19_1 l1 (l1.length : Int) (wrap64 (x29_2 + 1)) a0_0 l0_1 x296000_2 x296001_2 x297000_2 x297001_2)) = some r := by first | (rw [hy321]; with_reducible exact H) | (have H2_ := (Option.bind_some _ _).symm.trans H; rw [hy321]; with_reducible exact H2_) | (have H2_ := (Option.bind_some _ _).symm.trans H; with_reducible exact H2_) | with_reducible exact H | (rw [hy321]; exact H) | exact H
                               have Ny321 := Aside0.mk hy321
                               clear hy321
                               by_cases c27 : (rd l1 x19_1) = (rd l1 x29_2)
                               · rw [if_pos c27] at H
                                 have c27b0 : ((rd l1 x19_1) == (rd l1 x29_2)) = true := beq_iff_eq.mpr c27
                                 have c27b1 : ((rd l1 x19_1) != (rd l1 x29_2)) = false := bne_eq_false_iff_eq.mpr c27
                                 clear c27
                                 replace H := Option.bind_eq_some_iff.mp H
                                 obtain ⟨⟨t323, t324⟩, A280, H⟩ := H
                                 replace H : ((impl_frac_plus.f k2 ((rd_T67 y321 x29_2).f0) ((rd_T67 y321 x29_2).f1) t323 t324).bind fun bt325 => (impl_States_hit.l1 k2 l1 a2 x11_1 (rd l1 x19_1) (y321.set (x29_2 : Int).toNat (⟨bt325.1, bt325.2⟩ : S67)) l1 (l1.length : Int) x19_1 l1 (l1.length : Int) (wrap64 (x29_2 + 1)) a0_0 l0_1 x296000_2 x296001_2 x297000_2 x297001_2)) = some r := H
                                 have A28 := Aside0.mk A280
                                 clear A280
                                 replace H := Option.bind_eq_some_iff.mp H
                                 obtain ⟨⟨t325, t326⟩, A290, H⟩ := H
                                 replace H : (impl_States_hit.l1 k2 l1 a2 x11_1 (rd l1 x19_1) (y321.set (x29_2 : Int).toNat (⟨t325, t326⟩ : S67)) l1 (l1.length : Int) x19_1 l1 (l1.length : Int) (wrap64 (x29_2 + 1)) a0_0 l0_1 x296000_2 x296001_2 x297000_2 x297001_2) = some r := H
                                 have A29 := Aside0.mk A290
                                 clear A290
                                 obtain ⟨y327, hy327⟩ : ∃ y_ : List (S67), y_ = (y321.set (x29_2 : Int).toNat (⟨t325, t326⟩ : S67)) := ⟨_, rfl⟩
                                 replace H : (impl_States_hit.l1 k2 l1 a2 x11_1 (rd l1 x19_1) y327 l1 (l1.length : Int) x19_1 l1 (l1.length : Int) (wrap64 (x29_2 + 1)) a0_0 l0_1 x296000_2 x296001_2 x297000_2 x297001_2) = some r := by first | (rw [hy327]; with_reducible exact H) | (have H2_ := (Option.bind_some _ _).symm.trans H; rw [hy327]; with_reducible exact H2_) | (have H2_ := (Option.bind_some _ _).symm.trans H; with_reducible exact H2_) | with_reducible exact H | (rw [hy327]; exact H) | exact H
                                 have Ny327 := Aside0.mk hy327
                                 clear hy327
                                 have H' := Aside0.mk H
                                 clear H
                                 have p316 : 0 ≤ (x29_2 : Int) := of_decide_eq_true (by first | (with_reducible assumption) | assumption)
                                 have q316 : x29_2 < (l1.length : Int) := of_decide_eq_true (by first | (with_reducible assumption) | assumption)
                                 obtain ⟨ad316, e316, hx316_0⟩ := Kd.at_int HR1.out x29_2 p316 q316
                                 obtain rfl : ad300 = ad316 := (by injection e316)
                                 replace hx316_0 := (HB.out.cell (World.block_lt_of_cell? w _ hx316_0)).trans hx316_0
                                 replace p316 := eq_true p316
                                 replace q316 := eq_true q316
                                 try go_wp2
                                 have n0_ := Aside0.mk (Kd.S_drew HO_11.out)
                                 have n1_ := Aside0.mk (Kd.R_drew HO_14.out)
                                 have n2_ := Aside0.mk (blk_drew BK294.out)
                                 have n3_ := Aside0.mk (blk_drew BK295.out)
                                 have n4_ := Aside0.mk (blk_drew BK296.out)
                                 have n5_ := Aside0.mk (below_drew1 HB.out)
                                 clear HO_11
                                 clear HO_14
                                 clear BK294
                                 clear BK295
                                 clear BK296
                                 clear HB
                                 have HO_11 := n0_
                                 have HO_14 := n1_
                                 have BK294 := n2_
                                 have BK295 := n3_
                                 have BK296 := n4_
                                 have HB := n5_
                                 clear n0_ n1_ n2_ n3_ n4_ n5_
                                 have p317 : 0 ≤ ((rd l1 x19_1) : Int) := of_decide_eq_true (by first | (with_reducible assumption) | assumption)
                                 have q317 : (rd l1 x19_1) < (l0_1.length : Int) := of_decide_eq_true (by first | (with_reducible assumption) | assumption)
                                 obtain ⟨ad317, A317_0, c317_0, e317, hx317_0, hl317_0, hi317_0⟩ := at_L1 HR0_1.out (rd l1 x19_1) p317 q317
                                 have hw317_0 := hx317_0
                                 cases e317
                                 replace hx317_0 := (HB.out.cell (World.block_lt_of_cell? w _ hx317_0)).trans hx317_0
                                 have HR317_0 := Aside0.mk hi317_0
                                 have HC317_0 := Aside0.mk hl317_0
                                 clear hi317_0 hl317_0
                                 replace p317 := eq_true p317
                                 replace q317 := eq_true q317
                                 have p318 : 0 ≤ ((rd l1 x29_2) : Int) := of_decide_eq_true (by first | (with_reducible assumption) | assumption)
                                 have q318 : (rd l1 x29_2) < ((rd_L1 l0_1 (rd l1 x19_1)).length : Int) := of_decide_eq_true (by first | (with_reducible assumption) | assumption)
                                 obtain ⟨ad318, e318, hx318_0⟩ := Kd.at_int HR317_0.out (rd l1 x29_2) p318 q318
                                 have hw318_0 := hx318_0
                                 cases e318
                                 replace hx318_0 := (HB.out.cell (World.block_lt_of_cell? w _ hx318_0)).trans hx318_0
                                 replace p318 := eq_true p318
                                 replace q318 := eq_true q318
                                 refine start_ (n := 16) (S := fun w' => w'.cell? ⟨gb294, 0, none⟩ = some (.int .i64 a0_0) ∧ w'.cell? ⟨gb294, 1, none⟩ = some (.slice (some ad317) l0_1.length c0_1) ∧ w'.cell? (ad317.add ((rd l1 x19_1)).toNat) = some (.slice (some ad318) (rd_L1 l0_1 (rd l1 x19_1)).length c317_0) ∧ w'.cell? (ad318.add ((rd l1 x29_2)).toNat) = some (.int .i64 (rd (rd_L1 l0_1 (rd l1 x19_1)) (rd l1 x29_2)))) (ds := [15]) #[false, false, false, false, false, false, false, false, false, false, false, false, false, false, false, false] (by kernel_rfl) rfl rfl ⟨(blk_cell BK294.out 0).trans rfl, (blk_cell BK294.out 1).trans rfl, ((HB.out.cell (World.block_lt_of_cell? w _ hw317_0)).trans hw317_0), ((HB.out.cell (World.block_lt_of_cell? w _ hw318_0)).trans hw318_0)⟩ (fun hHeld => ?_); refine with_tabW impl_States_hit.tab9 impl_States_hit.bits9 (fun HT_ HW_ => ?_)
                                 generalize wr.drew = w31 at HO_11 HO_14 BK294 BK295 BK296 HB HR317_0 hx317_0 hx318_0 hHeld ⊢
                                 refine pure_ (i := 0) (N := some 34) (v := ?_) (a' := ?_) #[true, false, false, false, false, false, false, false, false, false, false, false, false, false, false, false] rfl rfl (any_of HT_.out (by kernel_rfl)) (fun _ _ _ h => h) (Or.inl ⟨by rfl, ?_⟩) ?_ ?_
                                 rotate_left
                                 · intro w'
                                   go_simp
                                   with_reducible rfl
                                 rotate_left
                                 · simp only [Act.put, List.setIfInBounds_toArray, List.set_cons_zero, List.set_cons_succ, i64_w, i32_w]
                                   rfl
                                 refine pure_ (i := 1) (N := some 35) (v := ?_) (a' := ?_) #[true, true, false, false, false, false, false, false, false, false, false, false, false, false, false, false] rfl rfl (any_of HT_.out (by kernel_rfl)) (fun _ _ _ h => h) (Or.inl ⟨by rfl, ?_⟩) ?_ ?_
                                 rotate_left
                                 · intro w'
                                   go_simp
                                   with_reducible rfl
                                 rotate_left
                                 · simp only [Act.put, List.setIfInBounds_toArray, List.set_cons_zero, List.set_cons_succ, i64_w, i32_w]
                                   rfl
                                 refine pure_ (i := 2) (N := some 36) (v := ?_) (a' := ?_) #[true, true, true, false, false, false, false, false, false, false, false, false, false, false, false, false] rfl rfl (any_of HT_.out (by kernel_rfl)) (fun _ _ _ h => h) (Or.inl ⟨by rfl, ?_⟩) ?_ ?_
                                 rotate_left
                                 · intro w'
                                   go_simp
                                   with_reducible rfl
                                 rotate_left
                                 · simp only [Act.put, List.setIfInBounds_toArray, List.set_cons_zero, List.set_cons_succ, i64_w, i32_w]
                                   rfl
                                 refine pure_ (i := 4) (N := some 38) (v := ?_) (a' := ?_) #[true, true, true, false, true, false, false, false, false, false, false, false, false, false, false, false] rfl rfl (any_of HT_.out (by kernel_rfl)) (fun _ _ _ h => h) (Or.inl ⟨by rfl, ?_⟩) ?_ ?_
                                 rotate_left
                                 · intro w'
                                   go_simp
                                   with_reducible rfl
                                 rotate_left
                                 · simp only [Act.put, List.setIfInBounds_toArray, List.set_cons_zero, List.set_cons_succ, i64_w, i32_w]
                                   rfl
                                 refine pure_ (i := 7) (N := some 41) (v := ?_) (a' := ?_) #[true, true, true, false, true, false, false, true, false, false, false, false, false, false, false, false] rfl rfl (any_of HT_.out (by kernel_rfl)) (fun _ _ _ h => h) (Or.inl ⟨by rfl, ?_⟩) ?_ ?_
                                 rotate_left
                                 · intro w'
                                   go_simp
                                   with_reducible rfl
                                 rotate_left
                                 · simp only [Act.put, List.setIfInBounds_toArray, List.set_cons_zero, List.set_cons_succ, i64_w, i32_w]
                                   rfl
                                 refine pure_ (i := 11) (N := some 45) (v := ?_) (a' := ?_) #[true, true, true, false, true, false, false, true, false, false, false, true, false, false, false, false] rfl rfl (any_of HT_.out (by kernel_rfl)) (fun _ _ _ h => h) (Or.inl ⟨by rfl, ?_⟩) ?_ ?_
                                 rotate_left
                                 · intro w'
                                   go_simp
                                   with_reducible rfl
                                 rotate_left
                                 · simp only [Act.put, List.setIfInBounds_toArray, List.set_cons_zero, List.set_cons_succ, i64_w, i32_w]
                                   rfl
                                 refine take_ (i := 3) (N := some 37) (v := ?_) (a' := ?_) #[true, true, true, true, true, false, false, true, false, false, false, true, false, false, false, false] rfl rfl (take_ofW HT_.out HW_.out (by kernel_rfl)) (fun _ _ _ h => h) (Or.inl ⟨by rfl, ?_⟩) hHeld ?_ ?_
                                 rotate_left
                                 · rintro w' ⟨s0, s1, s2, s3⟩
                                   go_simp
                                   with_reducible rfl
                                 rotate_left
                                 · simp only [Act.put, List.setIfInBounds_toArray, List.set_cons_zero, List.set_cons_succ, i64_w, i32_w]
                                   rfl
                                 refine pure_ (i := 5) (N := some 39) (v := ?_) (a' := ?_) #[true, true, true, true, true, true, false, true, false, false, false, true, false, false, false, false] rfl rfl (any_of HT_.out (by kernel_rfl)) (fun _ _ _ h => h) (Or.inl ⟨by rfl, ?_⟩) ?_ ?_
                                 rotate_left
                                 · intro w'
                                   go_simp
                                   with_reducible rfl
                                 rotate_left
                                 · simp only [Act.put, List.setIfInBounds_toArray, List.set_cons_zero, List.set_cons_succ, i64_w, i32_w]
                                   rfl
                                 refine take_ (i := 6) (N := some 40) (v := ?_) (a' := ?_) #[true, true, true, true, true, true, true, true, false, false, false, true, false, false, false, false] rfl rfl (take_ofW HT_.out HW_.out (by kernel_rfl)) (fun _ _ _ h => h) (Or.inl ⟨by rfl, ?_⟩) hHeld ?_ ?_
                                 rotate_left
                                 · rintro w' ⟨s0, s1, s2, s3⟩
                                   go_simp
                                   with_reducible rfl
                                 rotate_left
                                 · simp only [Act.put, List.setIfInBounds_toArray, List.set_cons_zero, List.set_cons_succ, i64_w, i32_w]
                                   rfl
                                 refine pure_ (i := 8) (N := some 42) (v := ?_) (a' := ?_) #[true, true, true, true, true, true, true, true, true, false, false, true, false, false, false, false] rfl rfl (any_of HT_.out (by kernel_rfl)) (fun _ _ _ h => h) (Or.inl ⟨by rfl, ?_⟩) ?_ ?_
                                 rotate_left
                                 · intro w'
                                   go_simp
                                   with_reducible rfl
                                 rotate_left
                                 · simp only [Act.put, List.setIfInBounds_toArray, List.set_cons_zero, List.set_cons_succ, i64_w, i32_w]
                                   rfl
                                 refine take_ (i := 9) (N := some 43) (v := ?_) (a' := ?_) #[true, true, true, true, true, true, true, true, true, true, false, true, false, false, false, false] rfl rfl (take_ofW HT_.out HW_.out (by kernel_rfl)) (fun _ _ _ h => h) (Or.inl ⟨by rfl, ?_⟩) hHeld ?_ ?_
                                 rotate_left
                                 · rintro w' ⟨s0, s1, s2, s3⟩
                                   go_simp
                                   with_reducible rfl
                                 rotate_left
                                 · simp only [Act.put, List.setIfInBounds_toArray, List.set_cons_zero, List.set_cons_succ, i64_w, i32_w]
                                   rfl
                                 refine pure_ (i := 10) (N := some 44) (v := ?_) (a' := ?_) #[true, true, true, true, true, true, true, true, true, true, true, true, false, false, false, false] rfl rfl (any_of HT_.out (by kernel_rfl)) (fun _ _ _ h => h) (Or.inl ⟨by rfl, ?_⟩) ?_ ?_
                                 rotate_left
                                 · intro w'
                                   go_simp
                                   with_reducible rfl
                                 rotate_left
                                 · simp only [Act.put, List.setIfInBounds_toArray, List.set_cons_zero, List.set_cons_succ, i64_w, i32_w]
                                   rfl
                                 refine take_ (i := 12) (N := some 46) (v := ?_) (a' := ?_) #[true, true, true, true, true, true, true, true, true, true, true, true, true, false, false, false] rfl rfl (take_ofW HT_.out HW_.out (by kernel_rfl)) (fun _ _ _ h => h) (Or.inl ⟨by rfl, ?_⟩) hHeld ?_ ?_
                                 rotate_left
                                 · rintro w' ⟨s0, s1, s2, s3⟩
                                   go_simp
                                   with_reducible rfl
                                 rotate_left
                                 · simp only [Act.put, List.setIfInBounds_toArray, List.set_cons_zero, List.set_cons_succ, i64_w, i32_w]
                                   rfl
                                 refine one_ (i := 13) (N := some 47) #[true, true, true, true, true, true, true, true, true, true, true, true, true, true, false, false] rfl rfl (one_of HT_.out (by kernel_rfl)) (by decide) (fun K hK => ?_)
                                 refine goes_ Try.func56 (by kernel_rfl) rfl #[.int .i64 (wrap64 (-(rd (rd_L1 l0_1 (rd l1 x19_1)) (rd l1 x29_2)))), .int .i64 a0_0] (by rfl) rfl rfl (by (try simp only [List.map_toArray, List.map_cons, List.map_nil]); first | done | rfl | (simp only [List.length_drop, List.length_take]; rfl)) ?_
                                 with_reducible refine (impl_lowest.calls k2 (wrap64 (-(rd (rd_L1 l0_1 (rd l1 x19_1)) (rd l1 x29_2)))) a0_0 t319 t320 _ A24.out).mono ?_
                                 rintro e w32 ⟨rfl, hb⟩
                                 refine ⟨_, rfl, ?_⟩
                                 have n0_ := Aside0.mk (Kd.S_below (by (with_reducible repeat (first | apply Kd.S_alloc | apply Kd.S_drewN | apply Kd.S_drew)); exact HO_11.out) hb)
                                 have n1_ := Aside0.mk (Kd.R_below (by (with_reducible repeat (first | apply Kd.R_alloc | apply Kd.R_drewN | apply Kd.R_drew)); exact HO_14.out) hb)
                                 have n2_ := Aside0.mk (blk_below (g := gb294) (o := .cells #[.int .i64 a0_0, .slice (some ad317) l0_1.length c0_1] 29 (0, 0)) (by (with_reducible repeat (first | refine blk_drewN ?_ _ | refine blk_drew ?_ | refine blk_alloc ?_ _)); exact BK294.out) hb)
                                 have n3_ := Aside0.mk (blk_below (g := gb295) (o := .cells #[.int .i64 x296000_2, .int .i64 x296001_2] 67 (0, 0)) (by (with_reducible repeat (first | refine blk_drewN ?_ _ | refine blk_drew ?_ | refine blk_alloc ?_ _)); exact BK295.out) hb)
                                 have n4_ := Aside0.mk (blk_below (g := gb296) (o := .cells #[.int .i64 x297000_2, .int .i64 x297001_2] 67 (0, 0)) (by (with_reducible repeat (first | refine blk_drewN ?_ _ | refine blk_drew ?_ | refine blk_alloc ?_ _)); exact BK296.out) hb)
                                 have n5_ := Aside0.mk (below_step (by repeat (first | (with_reducible first | exact HB.out | apply below_alloc | apply pw_below_drewN | apply below_drew1 | refine below_set ?_ GE294.out | refine below_set ?_ GE295.out | refine below_set ?_ GE296.out) | exact HB.out)) hb)
                                 clear HO_11
                                 clear HO_14
                                 clear BK294
                                 clear BK295
                                 clear BK296
                                 clear HB
                                 have HO_11 := n0_
                                 have HO_14 := n1_
                                 have BK294 := n2_
                                 have BK295 := n3_
                                 have BK296 := n4_
                                 have HB := n5_
                                 clear n0_ n1_ n2_ n3_ n4_ n5_
                                 (try clear hb)
                                 (try clear hb2)
                                 (try clear hk)
                                 (try clear hi)
                                 have p26 : 0 ≤ (x29_2 : Int) := of_decide_eq_true (by first | (with_reducible assumption) | assumption)
                                 have q26 : (x29_2 : Int) < ((x14_2.length : Int) : Int) := of_decide_eq_true (by first | (with_reducible assumption) | assumption)
                                 obtain ⟨go26, co26, eo26, gb26, gl26, cl26, HG26⟩ := Kd.R_form HO_14.out (by omega)
                                 (first | cases eo26 | (injection eo26 with ea_ en_ ec_; (first | subst ea_ | (injection ea_ with ea_; subst ea_)); subst ec_; clear en_))
                                 have GB26 := Aside0.mk gb26
                                 have GG26 := Aside0.mk HG26
                                 clear gb26 gl26 HG26
                                 obtain ⟨ce26, hcl26, hM26, hcc26, hfr26⟩ := Kd.R_elem HO_14.out z67 (x29_2 : Int) p26 q26
                                 obtain rfl := k67_openM hM26
                                 have hx26_0 : World.cell? _ ⟨go26, (x29_2 : Int).toNat * 2, none⟩ = some (.int .i64 ((rd_T67 x14_2 x29_2).f0)) := hcc26 0 _ rfl
                                 have hx26_1 : World.cell? _ ⟨go26, (x29_2 : Int).toNat * 2 + 1, none⟩ = some (.int .i64 ((rd_T67 x14_2 x29_2).f1)) := hcc26 1 _ rfl
                                 have hf26_0 : World.frozen? _ ⟨go26, (x29_2 : Int).toNat * 2, none⟩ = false := hfr26 0
                                 have hf26_1 : World.frozen? _ ⟨go26, (x29_2 : Int).toNat * 2 + 1, none⟩ = false := hfr26 1
                                 (try clear hcl26 hcc26 hfr26 ); (try clear hM26)
                                 replace p26 := eq_true p26
                                 replace q26 := eq_true q26
                                 obtain ⟨ce33, hcl33, hM33, hcc33, hfr33⟩ := Kd.R_elem HO_14.out z67 (x29_2 : Int) (of_decide_eq_true (by first | (with_reducible assumption) | assumption)) (by have h_ : (x29_2 : Int) < ((x14_2.length : Int) : Int) := of_decide_eq_true (by first | (with_reducible assumption) | assumption); first | exact h_ | (have e_ := (Kd.R_reads' HO_14.out).1; omega) | simpa using h_)
                                 obtain rfl := k67_openM hM33
                                 have HP33 := (Kd.R_seg HO_14.out (x29_2 : Int) (of_decide_eq_true (by first | (with_reducible assumption) | assumption)) (by have h_ : (x29_2 : Int) < ((x14_2.length : Int) : Int) := of_decide_eq_true (by first | (with_reducible assumption) | assumption); first | exact h_ | (have e_ := (Kd.R_reads' HO_14.out).1; omega) | simpa using h_) (seg := [.int .i64 t319, .int .i64 t320]) (j := 0) hcl33 hcc33 (show 2 ≤ 2 from by decide) (x' := (⟨t319, t320⟩ : S67)) (k67_mkM _ _ _ (⟨t319, t320⟩ : S67) ) (fun _ hk => hk)).1
                                 rw [← Ny321.out] at HP33
                                 have HQ33 := Aside0.mk HP33
                                 (try clear hcl33 hcc33 hfr33 HP33); (try clear hM33)
                                 refine hK.out _ _ ⟨(blk_cell BK294.out 0).trans rfl, (blk_cell BK294.out 1).trans rfl, ((HB.out.cell (World.block_lt_of_cell? w _ hw317_0)).trans hw317_0), ((HB.out.cell (World.block_lt_of_cell? w _ hw318_0)).trans hw318_0)⟩ (fun hHeld => ?_)
                                 clear hK K
                                 refine norm_ (a' := ?_) ?_ ?_
                                 rotate_left
                                 · show Act.put _ (some 47) _ = _
                                   simp only [Act.put, List.setIfInBounds_toArray, List.set_cons_zero, List.set_cons_succ, i64_w, i32_w]
                                   rfl
                                 refine pure_ (i := 14) (N := some 48) (v := ?_) (a' := ?_) #[true, true, true, true, true, true, true, true, true, true, true, true, true, true, true, false] rfl rfl (any_of HT_.out (by kernel_rfl)) (fun _ _ _ h => h) (Or.inl ⟨by rfl, ?_⟩) ?_ ?_
                                 rotate_left
                                 · intro w'
                                   go_simp
                                   with_reducible rfl
                                 rotate_left
                                 · simp only [Act.put, List.setIfInBounds_toArray, List.set_cons_zero, List.set_cons_succ, i64_w, i32_w]
                                   rfl
                                 refine last_ (i := 15) (N := none) #[true, true, true, true, true, true, true, true, true, true, true, true, true, true, true, true] rfl rfl (one_of HT_.out (by kernel_rfl)) (by decide) (fun K hK => ?_)
                                 refine skip_ (w1 := ?_) (by rfl) rfl ?_ ?_
                                 rotate_left
                                 · go_simp
                                   rfl
                                 refine hK.out _ _ ?_
                                 clear hK K
                                 refine done_ (done_of HT_.out (by kernel_rfl)) ?_
                                 try go_wp2
                                 have n0_ : Aside0 (Kd.S (Kd.slice 67 k67) 65 ((w32.setCell ⟨go26, (x29_2 : Int).toNat * 2, none⟩ (.int .i64 t319)).setCell ⟨go26, (x29_2 : Int).toNat * 2 + 1, none⟩ (.int .i64 t320)) w.heap.size (fun k_ => some k_ ≠ (.slice (some ⟨go26, 0, none⟩) x14_2.length co26 : Value).ownBlock ∧ k_ ≠ gb295 ∧ k_ ≠ gb296) u11 x11_1) := ⟨by (with_reducible repeat (first | apply Kd.S_alloc | apply Kd.S_drewN | apply Kd.S_drew)); exact Kd.S_mono (Kd.S_far (p := ⟨go26, (x29_2 : Int).toNat * 2 + 1, none⟩) (Kd.S_far (p := ⟨go26, (x29_2 : Int).toNat * 2, none⟩) (Kd.S_mono HO_11.out (fun k_ hk => (⟨hk, fun e_ => hk.1 (by rw [e_]; rfl)⟩ : _ ∧ k_ ≠ go26))) (fun _ hk => hk.2) (.int .i64 t319)) (fun _ hk => hk.2) (.int .i64 t320)) (fun _ hk => ⟨hk.1.1, ⟨hk.1.2.1, hk.1.2.2⟩⟩)⟩
                                 have n1_ : Aside0 (Kd.R k67 67 ((w32.setCell ⟨go26, (x29_2 : Int).toNat * 2, none⟩ (.int .i64 t319)).setCell ⟨go26, (x29_2 : Int).toNat * 2 + 1, none⟩ (.int .i64 t320)) w.heap.size (fun k_ => k_ ≠ gb295 ∧ k_ ≠ gb296) (.slice (some ⟨go26, 0, none⟩) x14_2.length co26) y321) := ⟨by (with_reducible repeat (first | apply Kd.R_alloc | apply Kd.R_drewN | apply Kd.R_drew)); exact HQ33.out⟩
                                 have n2_ : Aside0 (((w32.setCell ⟨go26, (x29_2 : Int).toNat * 2, none⟩ (.int .i64 t319)).setCell ⟨go26, (x29_2 : Int).toNat * 2 + 1, none⟩ (.int .i64 t320)).heap[gb294]? = some (.cells #[.int .i64 a0_0, .slice (some ad317) l0_1.length c0_1] 29 (0, 0))) := ⟨by (with_reducible repeat (first | refine blk_drewN ?_ _ | refine blk_drew ?_ | refine blk_alloc ?_ _)); refine blk_far ?_ (by have h_ := Kd.R_ne HO_14.out BK294.out (by decide); intro e_; exact h_ (by rw [e_]; rfl)) _; (with_reducible repeat (first | refine blk_drewN ?_ _ | refine blk_drew ?_ | refine blk_alloc ?_ _)); refine blk_far ?_ (by have h_ := Kd.R_ne HO_14.out BK294.out (by decide); intro e_; exact h_ (by rw [e_]; rfl)) _; (with_reducible repeat (first | refine blk_drewN ?_ _ | refine blk_drew ?_ | refine blk_alloc ?_ _)); exact BK294.out⟩
                                 have n3_ : Aside0 (((w32.setCell ⟨go26, (x29_2 : Int).toNat * 2, none⟩ (.int .i64 t319)).setCell ⟨go26, (x29_2 : Int).toNat * 2 + 1, none⟩ (.int .i64 t320)).heap[gb295]? = some (.cells #[.int .i64 x296000_2, .int .i64 x296001_2] 67 (0, 0))) := ⟨by (with_reducible repeat (first | refine blk_drewN ?_ _ | refine blk_drew ?_ | refine blk_alloc ?_ _)); refine blk_far ?_ (by have h_ := Kd.R_away HO_14.out (fun _ hk => hk.1); intro e_; exact h_ (by rw [e_]; rfl)) _; (with_reducible repeat (first | refine blk_drewN ?_ _ | refine blk_drew ?_ | refine blk_alloc ?_ _)); refine blk_far ?_ (by have h_ := Kd.R_away HO_14.out (fun _ hk => hk.1); intro e_; exact h_ (by rw [e_]; rfl)) _; (with_reducible repeat (first | refine blk_drewN ?_ _ | refine blk_drew ?_ | refine blk_alloc ?_ _)); exact BK295.out⟩
                                 have n4_ : Aside0 (((w32.setCell ⟨go26, (x29_2 : Int).toNat * 2, none⟩ (.int .i64 t319)).setCell ⟨go26, (x29_2 : Int).toNat * 2 + 1, none⟩ (.int .i64 t320)).heap[gb296]? = some (.cells #[.int .i64 x297000_2, .int .i64 x297001_2] 67 (0, 0))) := ⟨by (with_reducible repeat (first | refine blk_drewN ?_ _ | refine blk_drew ?_ | refine blk_alloc ?_ _)); refine blk_far ?_ (by have h_ := Kd.R_away HO_14.out (fun _ hk => hk.2); intro e_; exact h_ (by rw [e_]; rfl)) _; (with_reducible repeat (first | refine blk_drewN ?_ _ | refine blk_drew ?_ | refine blk_alloc ?_ _)); refine blk_far ?_ (by have h_ := Kd.R_away HO_14.out (fun _ hk => hk.2); intro e_; exact h_ (by rw [e_]; rfl)) _; (with_reducible repeat (first | refine blk_drewN ?_ _ | refine blk_drew ?_ | refine blk_alloc ?_ _)); exact BK296.out⟩
                                 have n5_ : Aside0 (Below w.heap.size w ((w32.setCell ⟨go26, (x29_2 : Int).toNat * 2, none⟩ (.int .i64 t319)).setCell ⟨go26, (x29_2 : Int).toNat * 2 + 1, none⟩ (.int .i64 t320))) := ⟨by repeat (first | (with_reducible first | exact HB.out | apply below_alloc | apply pw_below_drewN | apply below_drew1 | refine below_set ?_ GB26.out | refine below_set ?_ GB26.out | refine below_set ?_ GE294.out | refine below_set ?_ GE295.out | refine below_set ?_ GE296.out) | exact HB.out)⟩
                                 (try clear HO_11)
                                 (try clear HO_14)
                                 (try clear BK294)
                                 (try clear BK295)
                                 (try clear BK296)
                                 (try clear HB)
                                 generalize ((w32.setCell ⟨go26, (x29_2 : Int).toNat * 2, none⟩ (.int .i64 t319)).setCell ⟨go26, (x29_2 : Int).toNat * 2 + 1, none⟩ (.int .i64 t320)) = w34 at n0_ n1_ n2_ n3_ n4_ n5_ ⊢
                                 have HO_11 := n0_
                                 have HO_14 := n1_
                                 have BK294 := n2_
                                 have BK295 := n3_
                                 have BK296 := n4_
                                 have HB := n5_
                                 clear n0_ n1_ n2_ n3_ n4_ n5_
                                 have n0_ := Aside0.mk (Kd.S_drew HO_11.out)
                                 have n1_ := Aside0.mk (Kd.R_drew HO_14.out)
                                 have n2_ := Aside0.mk (blk_drew BK294.out)
                                 have n3_ := Aside0.mk (blk_drew BK295.out)
                                 have n4_ := Aside0.mk (blk_drew BK296.out)
                                 have n5_ := Aside0.mk (below_drew1 HB.out)
                                 clear HO_11
                                 clear HO_14
                                 clear BK294
                                 clear BK295
                                 clear BK296
                                 clear HB
                                 have HO_11 := n0_
                                 have HO_14 := n1_
                                 have BK294 := n2_
                                 have BK295 := n3_
                                 have BK296 := n4_
                                 have HB := n5_
                                 clear n0_ n1_ n2_ n3_ n4_ n5_
                                 have p322 : 0 ≤ (x29_2 : Int) := of_decide_eq_true (by first | (with_reducible assumption) | assumption)
                                 have q322 : x29_2 < (y321.length : Int) := (by have h_ : (x29_2 : Int) < ((x14_2.length : Int) : Int) := of_decide_eq_true (by first | (with_reducible assumption) | assumption); first | (have e_ := (Kd.R_reads' HO_14.out).1; omega) | simpa only [Ny321.out, List.length_set] using h_)
                                 have ql322 : ((x29_2 : Int) < ((x14_2.length : Int) : Int)) = True := eq_true (of_decide_eq_true (by first | (with_reducible assumption) | assumption))
                                 obtain ⟨ad322, e322, hx322_0, hx322_1⟩ := at_T67 (Kd.R_reads' HO_14.out).2.2 x29_2 p322 q322
                                 obtain rfl : (⟨go26, 0, none⟩ : Addr) = ad322 := (by injection e322)
                                 (first | simp only [add_plain] at hx322_0 | simp only [add_at] at hx322_0 | simp only [Addr.add, Nat.zero_add] at hx322_0 | skip)
                                 (first | simp only [add_plain] at hx322_1 | simp only [add_at] at hx322_1 | simp only [Addr.add, Nat.zero_add] at hx322_1 | skip)
                                 replace p322 := eq_true p322
                                 replace q322 := eq_true q322
                                 refine start_ (n := 10) (S := fun w' => w'.cell? ⟨go26, (x29_2).toNat * 2, none⟩ = some (.int .i64 ((rd_T67 y321 x29_2).f0)) ∧ w'.cell? ⟨go26, (x29_2).toNat * 2 + 1, none⟩ = some (.int .i64 ((rd_T67 y321 x29_2).f1))) (ds := [9]) #[false, false, false, false, false, false, false, false, false, false] (by kernel_rfl) rfl rfl ⟨hx322_0, hx322_1⟩ (fun hHeld => ?_); refine with_tabW impl_States_hit.tab11 impl_States_hit.bits11 (fun HT_ HW_ => ?_)
                                 generalize w34.drew = w35 at HO_11 HO_14 BK294 BK295 BK296 HB HQ33 hx322_0 hx322_1 hHeld ⊢
                                 refine pure_ (i := 0) (N := some 52) (v := ?_) (a' := ?_) #[true, false, false, false, false, false, false, false, false, false] rfl rfl (any_of HT_.out (by kernel_rfl)) (fun _ _ _ h => h) (Or.inl ⟨by rfl, ?_⟩) ?_ ?_
                                 rotate_left
                                 · intro w'
                                   go_simp
                                   with_reducible rfl
                                 rotate_left
                                 · simp only [Act.put, List.setIfInBounds_toArray, List.set_cons_zero, List.set_cons_succ, i64_w, i32_w]
                                   rfl
                                 refine pure_ (i := 1) (N := some 53) (v := ?_) (a' := ?_) #[true, true, false, false, false, false, false, false, false, false] rfl rfl (any_of HT_.out (by kernel_rfl)) (fun _ _ _ h => h) (Or.inl ⟨by rfl, ?_⟩) ?_ ?_
                                 rotate_left
                                 · intro w'
                                   go_simp
                                   with_reducible rfl
                                 rotate_left
                                 · simp only [Act.put, List.setIfInBounds_toArray, List.set_cons_zero, List.set_cons_succ, i64_w, i32_w]
                                   rfl
                                 refine pure_ (i := 2) (N := some 54) (v := ?_) (a' := ?_) #[true, true, true, false, false, false, false, false, false, false] rfl rfl (any_of HT_.out (by kernel_rfl)) (fun _ _ _ h => h) (Or.inl ⟨by rfl, ?_⟩) ?_ ?_
                                 rotate_left
                                 · intro w'
                                   go_simp
                                   with_reducible rfl
                                 rotate_left
                                 · simp only [Act.put, List.setIfInBounds_toArray, List.set_cons_zero, List.set_cons_succ, i64_w, i32_w]
                                   rfl
                                 refine pure_ (i := 3) (N := some 55) (v := ?_) (a' := ?_) #[true, true, true, true, false, false, false, false, false, false] rfl rfl (any_of HT_.out (by kernel_rfl)) (fun _ _ _ h => h) (Or.inl ⟨by rfl, ?_⟩) ?_ ?_
                                 rotate_left
                                 · intro w'
                                   go_simp
                                   with_reducible rfl
                                 rotate_left
                                 · simp only [Act.put, List.setIfInBounds_toArray, List.set_cons_zero, List.set_cons_succ, i64_w, i32_w]
                                   rfl
                                 refine pure_ (i := 4) (N := some 56) (v := ?_) (a' := ?_) #[true, true, true, true, true, false, false, false, false, false] rfl rfl (any_of HT_.out (by kernel_rfl)) (fun _ _ _ h => h) (Or.inl ⟨by rfl, ?_⟩) ?_ ?_
                                 rotate_left
                                 · intro w'
                                   go_simp
                                   with_reducible rfl
                                 rotate_left
                                 · simp only [Act.put, List.setIfInBounds_toArray, List.set_cons_zero, List.set_cons_succ, i64_w, i32_w]
                                   rfl
                                 refine take_ (i := 5) (N := some 57) (v := ?_) (a' := ?_) #[true, true, true, true, true, true, false, false, false, false] rfl rfl (take_ofW HT_.out HW_.out (by kernel_rfl)) (fun _ _ _ h => h) (Or.inl ⟨by rfl, ?_⟩) hHeld ?_ ?_
                                 rotate_left
                                 · rintro w' ⟨s0, s1⟩
                                   go_simp
                                   with_reducible rfl
                                 rotate_left
                                 · simp only [Act.put, List.setIfInBounds_toArray, List.set_cons_zero, List.set_cons_succ, i64_w, i32_w]
                                   rfl
                                 refine one_ (i := 6) (N := some 58) #[true, true, true, true, true, true, true, false, false, false] rfl rfl (one_of HT_.out (by kernel_rfl)) (by decide) (fun K hK => ?_)
                                 refine goes_ Try.func58 (by kernel_rfl) rfl #[.int .i64 1] (by rfl) rfl rfl (by (try simp only [List.map_toArray, List.map_cons, List.map_nil]); first | done | rfl | (simp only [List.length_drop, List.length_take]; rfl)) ?_
                                 with_reducible refine (impl_whole.calls 1 t323 t324 _ A28.out).mono ?_
                                 rintro e w36 ⟨rfl, hb⟩
                                 have HS0_ := (hb.cell (World.block_lt_of_cell? _ _ (hHeld.1))).trans (hHeld.1)
                                 have HS1_ := (hb.cell (World.block_lt_of_cell? _ _ (hHeld.2))).trans (hHeld.2)
                                 refine ⟨_, rfl, ?_⟩
                                 have n0_ := Aside0.mk (Kd.S_below (by (with_reducible repeat (first | apply Kd.S_alloc | apply Kd.S_drewN | apply Kd.S_drew)); exact HO_11.out) hb)
                                 have n1_ := Aside0.mk (Kd.R_below (by (with_reducible repeat (first | apply Kd.R_alloc | apply Kd.R_drewN | apply Kd.R_drew)); exact HO_14.out) hb)
                                 have n2_ := Aside0.mk (blk_below (g := gb294) (o := .cells #[.int .i64 a0_0, .slice (some ad317) l0_1.length c0_1] 29 (0, 0)) (by (with_reducible repeat (first | refine blk_drewN ?_ _ | refine blk_drew ?_ | refine blk_alloc ?_ _)); exact BK294.out) hb)
                                 have n3_ := Aside0.mk (blk_below (g := gb295) (o := .cells #[.int .i64 x296000_2, .int .i64 x296001_2] 67 (0, 0)) (by (with_reducible repeat (first | refine blk_drewN ?_ _ | refine blk_drew ?_ | refine blk_alloc ?_ _)); exact BK295.out) hb)
                                 have n4_ := Aside0.mk (blk_below (g := gb296) (o := .cells #[.int .i64 x297000_2, .int .i64 x297001_2] 67 (0, 0)) (by (with_reducible repeat (first | refine blk_drewN ?_ _ | refine blk_drew ?_ | refine blk_alloc ?_ _)); exact BK296.out) hb)
                                 have n5_ := Aside0.mk (below_step (by repeat (first | (with_reducible first | exact HB.out | apply below_alloc | apply pw_below_drewN | apply below_drew1 | refine below_set ?_ GE294.out | refine below_set ?_ GE295.out | refine below_set ?_ GE296.out) | exact HB.out)) hb)
                                 clear HO_11
                                 clear HO_14
                                 clear BK294
                                 clear BK295
                                 clear BK296
                                 clear HB
                                 have HO_11 := n0_
                                 have HO_14 := n1_
                                 have BK294 := n2_
                                 have BK295 := n3_
                                 have BK296 := n4_
                                 have HB := n5_
                                 clear n0_ n1_ n2_ n3_ n4_ n5_
                                 (try clear hb)
                                 (try clear hb2)
                                 (try clear hk)
                                 (try clear hi)
                                 refine hK.out _ _ ⟨HS0_, HS1_⟩ (fun hHeld => ?_)
                                 clear hK K
                                 refine norm_ (a' := ?_) ?_ ?_
                                 rotate_left
                                 · show Act.put _ (some 58) _ = _
                                   simp only [Act.put, List.setIfInBounds_toArray, List.set_cons_zero, List.set_cons_succ, i64_w, i32_w]
                                   rfl
                                 refine one_ (i := 7) (N := some 59) #[true, true, true, true, true, true, true, true, false, false] rfl rfl (one_of HT_.out (by kernel_rfl)) (by decide) (fun K hK => ?_)
                                 refine goes_ Try.func83 (by kernel_rfl) rfl #[.agg #[.int .i64 ((rd_T67 y321 x29_2).f0), .int .i64 ((rd_T67 y321 x29_2).f1)], .agg #[.int .i64 t323, .int .i64 t324]] (by rfl) rfl rfl (by (try simp only [List.map_toArray, List.map_cons, List.map_nil]); first | done | rfl | (simp only [List.length_drop, List.length_take]; rfl)) ?_
                                 with_reducible refine (impl_frac_plus.calls k2 ((rd_T67 y321 x29_2).f0) ((rd_T67 y321 x29_2).f1) t323 t324 t325 t326 _ A29.out).mono ?_
                                 rintro e w37 ⟨rfl, hb⟩
                                 have HS0_ := (hb.cell (World.block_lt_of_cell? _ _ (hHeld.1))).trans (hHeld.1)
                                 have HS1_ := (hb.cell (World.block_lt_of_cell? _ _ (hHeld.2))).trans (hHeld.2)
                                 refine ⟨_, rfl, ?_⟩
                                 have n0_ := Aside0.mk (Kd.S_below (by (with_reducible repeat (first | apply Kd.S_alloc | apply Kd.S_drewN | apply Kd.S_drew)); exact HO_11.out) hb)
                                 have n1_ := Aside0.mk (Kd.R_below (by (with_reducible repeat (first | apply Kd.R_alloc | apply Kd.R_drewN | apply Kd.R_drew)); exact HO_14.out) hb)
                                 have n2_ := Aside0.mk (blk_below (g := gb294) (o := .cells #[.int .i64 a0_0, .slice (some ad317) l0_1.length c0_1] 29 (0, 0)) (by (with_reducible repeat (first | refine blk_drewN ?_ _ | refine blk_drew ?_ | refine blk_alloc ?_ _)); exact BK294.out) hb)
                                 have n3_ := Aside0.mk (blk_below (g := gb295) (o := .cells #[.int .i64 x296000_2, .int .i64 x296001_2] 67 (0, 0)) (by (with_reducible repeat (first | refine blk_drewN ?_ _ | refine blk_drew ?_ | refine blk_alloc ?_ _)); exact BK295.out) hb)
                                 have n4_ := Aside0.mk (blk_below (g := gb296) (o := .cells #[.int .i64 x297000_2, .int .i64 x297001_2] 67 (0, 0)) (by (with_reducible repeat (first | refine blk_drewN ?_ _ | refine blk_drew ?_ | refine blk_alloc ?_ _)); exact BK296.out) hb)
                                 have n5_ := Aside0.mk (below_step (by repeat (first | (with_reducible first | exact HB.out | apply below_alloc | apply pw_below_drewN | apply below_drew1 | refine below_set ?_ GE294.out | refine below_set ?_ GE295.out | refine below_set ?_ GE296.out) | exact HB.out)) hb)
                                 clear HO_11
                                 clear HO_14
                                 clear BK294
                                 clear BK295
                                 clear BK296
                                 clear HB
                                 have HO_11 := n0_
                                 have HO_14 := n1_
                                 have BK294 := n2_
                                 have BK295 := n3_
                                 have BK296 := n4_
                                 have HB := n5_
                                 clear n0_ n1_ n2_ n3_ n4_ n5_
                                 (try clear hb)
                                 (try clear hb2)
                                 (try clear hk)
                                 (try clear hi)
                                 have p30 : 0 ≤ (x29_2 : Int) := of_decide_eq_true (by first | (with_reducible assumption) | assumption)
                                 have q30 : (x29_2 : Int) < ((x14_2.length : Int) : Int) := of_decide_eq_true (by first | (with_reducible assumption) | assumption)
                                 obtain ⟨ce30, hcl30, hM30, hcc30, hfr30⟩ := Kd.R_elem HO_14.out z67 (x29_2 : Int) p30 q30
                                 obtain rfl := k67_openM hM30
                                 have hx30_0 : World.cell? _ ⟨go26, (x29_2 : Int).toNat * 2, none⟩ = some (.int .i64 ((rd_T67 y321 x29_2).f0)) := hcc30 0 _ rfl
                                 have hx30_1 : World.cell? _ ⟨go26, (x29_2 : Int).toNat * 2 + 1, none⟩ = some (.int .i64 ((rd_T67 y321 x29_2).f1)) := hcc30 1 _ rfl
                                 have hf30_0 : World.frozen? _ ⟨go26, (x29_2 : Int).toNat * 2, none⟩ = false := hfr30 0
                                 have hf30_1 : World.frozen? _ ⟨go26, (x29_2 : Int).toNat * 2 + 1, none⟩ = false := hfr30 1
                                 (try clear hcl30 hcc30 hfr30 ); (try clear hM30)
                                 replace p30 := eq_true p30
                                 replace q30 := eq_true q30
                                 obtain ⟨ce38, hcl38, hM38, hcc38, hfr38⟩ := Kd.R_elem HO_14.out z67 (x29_2 : Int) (of_decide_eq_true (by first | (with_reducible assumption) | assumption)) (by have h_ : (x29_2 : Int) < ((x14_2.length : Int) : Int) := of_decide_eq_true (by first | (with_reducible assumption) | assumption); first | exact h_ | (have e_ := (Kd.R_reads' HO_14.out).1; omega) | simpa using h_)
                                 obtain rfl := k67_openM hM38
                                 have HP38 := (Kd.R_seg HO_14.out (x29_2 : Int) (of_decide_eq_true (by first | (with_reducible assumption) | assumption)) (by have h_ : (x29_2 : Int) < ((x14_2.length : Int) : Int) := of_decide_eq_true (by first | (with_reducible assumption) | assumption); first | exact h_ | (have e_ := (Kd.R_reads' HO_14.out).1; omega) | simpa using h_) (seg := [.int .i64 t325, .int .i64 t326]) (j := 0) hcl38 hcc38 (show 2 ≤ 2 from by decide) (x' := (⟨t325, t326⟩ : S67)) (k67_mkM _ _ _ (⟨t325, t326⟩ : S67) ) (fun _ hk => hk)).1
                                 rw [← Ny327.out] at HP38
                                 have HQ38 := Aside0.mk HP38
                                 (try clear hcl38 hcc38 hfr38 HP38); (try clear hM38)
                                 refine hK.out _ _ ⟨HS0_, HS1_⟩ (fun hHeld => ?_)
                                 clear hK K
                                 refine norm_ (a' := ?_) ?_ ?_
                                 rotate_left
                                 · show Act.put _ (some 59) _ = _
                                   simp only [Act.put, List.setIfInBounds_toArray, List.set_cons_zero, List.set_cons_succ, i64_w, i32_w]
                                   rfl
                                 refine pure_ (i := 8) (N := some 60) (v := ?_) (a' := ?_) #[true, true, true, true, true, true, true, true, true, false] rfl rfl (any_of HT_.out (by kernel_rfl)) (fun _ _ _ h => h) (Or.inl ⟨by rfl, ?_⟩) ?_ ?_
                                 rotate_left
                                 · intro w'
                                   go_simp
                                   with_reducible rfl
                                 rotate_left
                                 · simp only [Act.put, List.setIfInBounds_toArray, List.set_cons_zero, List.set_cons_succ, i64_w, i32_w]
                                   rfl
                                 refine last_ (i := 9) (N := none) #[true, true, true, true, true, true, true, true, true, true] rfl rfl (one_of HT_.out (by kernel_rfl)) (by decide) (fun K hK => ?_)
                                 refine skip_ (w1 := ?_) (by rfl) rfl ?_ ?_
                                 rotate_left
                                 · go_simp
                                   rfl
                                 refine hK.out _ _ ?_
                                 clear hK K
                                 refine done_ (done_of HT_.out (by kernel_rfl)) ?_
                                 try go_wp2
                                 (first | go_roundg k2 | (try subst hji12; go_roundg k2))
                                 case measure => have := HK1.out; have := HK2.out; omega
                                 case rel => exact ⟨(y327), (wrap64 (x29_2 + 1)), (x296000_2), (x296001_2), (x297000_2), (x297001_2), (by first | rfl | (simp; done) | (simp [*]; done)), H', ⟨by have := HK1.out; have := HK2.out; omega⟩, ⟨by (with_reducible repeat (first | apply Kd.S_alloc | apply Kd.S_drewN | apply Kd.S_drew)); exact Kd.S_mono (Kd.S_far (p := ⟨go26, (x29_2 : Int).toNat * 2 + 1, none⟩) (Kd.S_far (p := ⟨go26, (x29_2 : Int).toNat * 2, none⟩) (Kd.S_mono HO_11.out (fun k_ hk => (⟨hk, fun e_ => hk.1 (by rw [e_]; rfl)⟩ : _ ∧ k_ ≠ go26))) (fun _ hk => hk.2) (.int .i64 t325)) (fun _ hk => hk.2) (.int .i64 t326)) (fun _ hk => ⟨hk.1.1, ⟨hk.1.2.1, hk.1.2.2⟩⟩)⟩, ⟨by (with_reducible repeat (first | apply Kd.R_alloc | apply Kd.R_drewN | apply Kd.R_drew)); exact HQ38.out⟩, ⟨by (with_reducible repeat (first | refine blk_drewN ?_ _ | refine blk_drew ?_ | refine blk_alloc ?_ _)); refine blk_far ?_ (by have h_ := Kd.R_ne HO_14.out BK294.out (by decide); intro e_; exact h_ (by rw [e_]; rfl)) _; (with_reducible repeat (first | refine blk_drewN ?_ _ | refine blk_drew ?_ | refine blk_alloc ?_ _)); refine blk_far ?_ (by have h_ := Kd.R_ne HO_14.out BK294.out (by decide); intro e_; exact h_ (by rw [e_]; rfl)) _; (with_reducible repeat (first | refine blk_drewN ?_ _ | refine blk_drew ?_ | refine blk_alloc ?_ _)); exact BK294.out⟩, ⟨by (with_reducible repeat (first | refine blk_drewN ?_ _ | refine blk_drew ?_ | refine blk_alloc ?_ _)); refine blk_far ?_ (by have h_ := Kd.R_away HO_14.out (fun _ hk => hk.1); intro e_; exact h_ (by rw [e_]; rfl)) _; (with_reducible repeat (first | refine blk_drewN ?_ _ | refine blk_drew ?_ | refine blk_alloc ?_ _)); refine blk_far ?_ (by have h_ := Kd.R_away HO_14.out (fun _ hk => hk.1); intro e_; exact h_ (by rw [e_]; rfl)) _; (with_reducible repeat (first | refine blk_drewN ?_ _ | refine blk_drew ?_ | refine blk_alloc ?_ _)); exact BK295.out⟩, ⟨by (with_reducible repeat (first | refine blk_drewN ?_ _ | refine blk_drew ?_ | refine blk_alloc ?_ _)); refine blk_far ?_ (by have h_ := Kd.R_away HO_14.out (fun _ hk => hk.2); intro e_; exact h_ (by rw [e_]; rfl)) _; (with_reducible repeat (first | refine blk_drewN ?_ _ | refine blk_drew ?_ | refine blk_alloc ?_ _)); refine blk_far ?_ (by have h_ := Kd.R_away HO_14.out (fun _ hk => hk.2); intro e_; exact h_ (by rw [e_]; rfl)) _; (with_reducible repeat (first | refine blk_drewN ?_ _ | refine blk_drew ?_ | refine blk_alloc ?_ _)); exact BK296.out⟩, ⟨by repeat (first | (with_reducible first | exact HB.out | apply below_alloc | apply pw_below_drewN | apply below_drew1 | refine below_set ?_ GB26.out | refine below_set ?_ GB26.out | refine below_set ?_ GE294.out | refine below_set ?_ GE295.out | refine below_set ?_ GE296.out) | exact HB.out)⟩⟩
                               · rw [if_neg c27] at H
                                 have c27b0 : ((rd l1 x19_1) == (rd l1 x29_2)) = false := beq_eq_false_iff_ne.mpr c27
                                 have c27b1 : ((rd l1 x19_1) != (rd l1 x29_2)) = true := bne_iff_ne.mpr c27
                                 have H' := Aside0.mk H
                                 clear H
                                 have p316 : 0 ≤ (x29_2 : Int) := of_decide_eq_true (by first | (with_reducible assumption) | assumption)
                                 have q316 : x29_2 < (l1.length : Int) := of_decide_eq_true (by first | (with_reducible assumption) | assumption)
                                 obtain ⟨ad316, e316, hx316_0⟩ := Kd.at_int HR1.out x29_2 p316 q316
                                 obtain rfl : ad300 = ad316 := (by injection e316)
                                 replace hx316_0 := (HB.out.cell (World.block_lt_of_cell? w _ hx316_0)).trans hx316_0
                                 replace p316 := eq_true p316
                                 replace q316 := eq_true q316
                                 try go_wp2
                                 have n0_ := Aside0.mk (Kd.S_drew HO_11.out)
                                 have n1_ := Aside0.mk (Kd.R_drew HO_14.out)
                                 have n2_ := Aside0.mk (blk_drew BK294.out)
                                 have n3_ := Aside0.mk (blk_drew BK295.out)
                                 have n4_ := Aside0.mk (blk_drew BK296.out)
                                 have n5_ := Aside0.mk (below_drew1 HB.out)
                                 clear HO_11
                                 clear HO_14
                                 clear BK294
                                 clear BK295
                                 clear BK296
                                 clear HB
                                 have HO_11 := n0_
                                 have HO_14 := n1_
                                 have BK294 := n2_
                                 have BK295 := n3_
                                 have BK296 := n4_
                                 have HB := n5_
                                 clear n0_ n1_ n2_ n3_ n4_ n5_
                                 have p317 : 0 ≤ ((rd l1 x19_1) : Int) := of_decide_eq_true (by first | (with_reducible assumption) | assumption)
                                 have q317 : (rd l1 x19_1) < (l0_1.length : Int) := of_decide_eq_true (by first | (with_reducible assumption) | assumption)
                                 obtain ⟨ad317, A317_0, c317_0, e317, hx317_0, hl317_0, hi317_0⟩ := at_L1 HR0_1.out (rd l1 x19_1) p317 q317
                                 have hw317_0 := hx317_0
                                 cases e317
                                 replace hx317_0 := (HB.out.cell (World.block_lt_of_cell? w _ hx317_0)).trans hx317_0
                                 have HR317_0 := Aside0.mk hi317_0
                                 have HC317_0 := Aside0.mk hl317_0
                                 clear hi317_0 hl317_0
                                 replace p317 := eq_true p317
                                 replace q317 := eq_true q317
                                 have p318 : 0 ≤ ((rd l1 x29_2) : Int) := of_decide_eq_true (by first | (with_reducible assumption) | assumption)
                                 have q318 : (rd l1 x29_2) < ((rd_L1 l0_1 (rd l1 x19_1)).length : Int) := of_decide_eq_true (by first | (with_reducible assumption) | assumption)
                                 obtain ⟨ad318, e318, hx318_0⟩ := Kd.at_int HR317_0.out (rd l1 x29_2) p318 q318
                                 have hw318_0 := hx318_0
                                 cases e318
                                 replace hx318_0 := (HB.out.cell (World.block_lt_of_cell? w _ hx318_0)).trans hx318_0
                                 replace p318 := eq_true p318
                                 replace q318 := eq_true q318
                                 refine start_ (n := 16) (S := fun w' => w'.cell? ⟨gb294, 0, none⟩ = some (.int .i64 a0_0) ∧ w'.cell? ⟨gb294, 1, none⟩ = some (.slice (some ad317) l0_1.length c0_1) ∧ w'.cell? (ad317.add ((rd l1 x19_1)).toNat) = some (.slice (some ad318) (rd_L1 l0_1 (rd l1 x19_1)).length c317_0) ∧ w'.cell? (ad318.add ((rd l1 x29_2)).toNat) = some (.int .i64 (rd (rd_L1 l0_1 (rd l1 x19_1)) (rd l1 x29_2)))) (ds := [15]) #[false, false, false, false, false, false, false, false, false, false, false, false, false, false, false, false] (by kernel_rfl) rfl rfl ⟨(blk_cell BK294.out 0).trans rfl, (blk_cell BK294.out 1).trans rfl, ((HB.out.cell (World.block_lt_of_cell? w _ hw317_0)).trans hw317_0), ((HB.out.cell (World.block_lt_of_cell? w _ hw318_0)).trans hw318_0)⟩ (fun hHeld => ?_); refine with_tabW impl_States_hit.tab9 impl_States_hit.bits9 (fun HT_ HW_ => ?_)
                                 generalize wr.drew = w39 at HO_11 HO_14 BK294 BK295 BK296 HB HR317_0 hx317_0 hx318_0 hHeld ⊢
                                 refine pure_ (i := 0) (N := some 34) (v := ?_) (a' := ?_) #[true, false, false, false, false, false, false, false, false, false, false, false, false, false, false, false] rfl rfl (any_of HT_.out (by kernel_rfl)) (fun _ _ _ h => h) (Or.inl ⟨by rfl, ?_⟩) ?_ ?_
                                 rotate_left
                                 · intro w'
                                   go_simp
                                   with_reducible rfl
                                 rotate_left
                                 · simp only [Act.put, List.setIfInBounds_toArray, List.set_cons_zero, List.set_cons_succ, i64_w, i32_w]
                                   rfl
                                 refine pure_ (i := 1) (N := some 35) (v := ?_) (a' := ?_) #[true, true, false, false, false, false, false, false, false, false, false, false, false, false, false, false] rfl rfl (any_of HT_.out (by kernel_rfl)) (fun _ _ _ h => h) (Or.inl ⟨by rfl, ?_⟩) ?_ ?_
                                 rotate_left
                                 · intro w'
                                   go_simp
                                   with_reducible rfl
                                 rotate_left
                                 · simp only [Act.put, List.setIfInBounds_toArray, List.set_cons_zero, List.set_cons_succ, i64_w, i32_w]
                                   rfl
                                 refine pure_ (i := 2) (N := some 36) (v := ?_) (a' := ?_) #[true, true, true, false, false, false, false, false, false, false, false, false, false, false, false, false] rfl rfl (any_of HT_.out (by kernel_rfl)) (fun _ _ _ h => h) (Or.inl ⟨by rfl, ?_⟩) ?_ ?_
                                 rotate_left
                                 · intro w'
                                   go_simp
                                   with_reducible rfl
                                 rotate_left
                                 · simp only [Act.put, List.setIfInBounds_toArray, List.set_cons_zero, List.set_cons_succ, i64_w, i32_w]
                                   rfl
                                 refine pure_ (i := 4) (N := some 38) (v := ?_) (a' := ?_) #[true, true, true, false, true, false, false, false, false, false, false, false, false, false, false, false] rfl rfl (any_of HT_.out (by kernel_rfl)) (fun _ _ _ h => h) (Or.inl ⟨by rfl, ?_⟩) ?_ ?_
                                 rotate_left
                                 · intro w'
                                   go_simp
                                   with_reducible rfl
                                 rotate_left
                                 · simp only [Act.put, List.setIfInBounds_toArray, List.set_cons_zero, List.set_cons_succ, i64_w, i32_w]
                                   rfl
                                 refine pure_ (i := 7) (N := some 41) (v := ?_) (a' := ?_) #[true, true, true, false, true, false, false, true, false, false, false, false, false, false, false, false] rfl rfl (any_of HT_.out (by kernel_rfl)) (fun _ _ _ h => h) (Or.inl ⟨by rfl, ?_⟩) ?_ ?_
                                 rotate_left
                                 · intro w'
                                   go_simp
                                   with_reducible rfl
                                 rotate_left
                                 · simp only [Act.put, List.setIfInBounds_toArray, List.set_cons_zero, List.set_cons_succ, i64_w, i32_w]
                                   rfl
                                 refine pure_ (i := 11) (N := some 45) (v := ?_) (a' := ?_) #[true, true, true, false, true, false, false, true, false, false, false, true, false, false, false, false] rfl rfl (any_of HT_.out (by kernel_rfl)) (fun _ _ _ h => h) (Or.inl ⟨by rfl, ?_⟩) ?_ ?_
                                 rotate_left
                                 · intro w'
                                   go_simp
                                   with_reducible rfl
                                 rotate_left
                                 · simp only [Act.put, List.setIfInBounds_toArray, List.set_cons_zero, List.set_cons_succ, i64_w, i32_w]
                                   rfl
                                 refine take_ (i := 3) (N := some 37) (v := ?_) (a' := ?_) #[true, true, true, true, true, false, false, true, false, false, false, true, false, false, false, false] rfl rfl (take_ofW HT_.out HW_.out (by kernel_rfl)) (fun _ _ _ h => h) (Or.inl ⟨by rfl, ?_⟩) hHeld ?_ ?_
                                 rotate_left
                                 · rintro w' ⟨s0, s1, s2, s3⟩
                                   go_simp
                                   with_reducible rfl
                                 rotate_left
                                 · simp only [Act.put, List.setIfInBounds_toArray, List.set_cons_zero, List.set_cons_succ, i64_w, i32_w]
                                   rfl
                                 refine pure_ (i := 5) (N := some 39) (v := ?_) (a' := ?_) #[true, true, true, true, true, true, false, true, false, false, false, true, false, false, false, false] rfl rfl (any_of HT_.out (by kernel_rfl)) (fun _ _ _ h => h) (Or.inl ⟨by rfl, ?_⟩) ?_ ?_
                                 rotate_left
                                 · intro w'
                                   go_simp
                                   with_reducible rfl
                                 rotate_left
                                 · simp only [Act.put, List.setIfInBounds_toArray, List.set_cons_zero, List.set_cons_succ, i64_w, i32_w]
                                   rfl
                                 refine take_ (i := 6) (N := some 40) (v := ?_) (a' := ?_) #[true, true, true, true, true, true, true, true, false, false, false, true, false, false, false, false] rfl rfl (take_ofW HT_.out HW_.out (by kernel_rfl)) (fun _ _ _ h => h) (Or.inl ⟨by rfl, ?_⟩) hHeld ?_ ?_
                                 rotate_left
                                 · rintro w' ⟨s0, s1, s2, s3⟩
                                   go_simp
                                   with_reducible rfl
                                 rotate_left
                                 · simp only [Act.put, List.setIfInBounds_toArray, List.set_cons_zero, List.set_cons_succ, i64_w, i32_w]
                                   rfl
                                 refine pure_ (i := 8) (N := some 42) (v := ?_) (a' := ?_) #[true, true, true, true, true, true, true, true, true, false, false, true, false, false, false, false] rfl rfl (any_of HT_.out (by kernel_rfl)) (fun _ _ _ h => h) (Or.inl ⟨by rfl, ?_⟩) ?_ ?_
                                 rotate_left
                                 · intro w'
                                   go_simp
                                   with_reducible rfl
                                 rotate_left
                                 · simp only [Act.put, List.setIfInBounds_toArray, List.set_cons_zero, List.set_cons_succ, i64_w, i32_w]
                                   rfl
                                 refine take_ (i := 9) (N := some 43) (v := ?_) (a' := ?_) #[true, true, true, true, true, true, true, true, true, true, false, true, false, false, false, false] rfl rfl (take_ofW HT_.out HW_.out (by kernel_rfl)) (fun _ _ _ h => h) (Or.inl ⟨by rfl, ?_⟩) hHeld ?_ ?_
                                 rotate_left
                                 · rintro w' ⟨s0, s1, s2, s3⟩
                                   go_simp
                                   with_reducible rfl
                                 rotate_left
                                 · simp only [Act.put, List.setIfInBounds_toArray, List.set_cons_zero, List.set_cons_succ, i64_w, i32_w]
                                   rfl
                                 refine pure_ (i := 10) (N := some 44) (v := ?_) (a' := ?_) #[true, true, true, true, true, true, true, true, true, true, true, true, false, false, false, false] rfl rfl (any_of HT_.out (by kernel_rfl)) (fun _ _ _ h => h) (Or.inl ⟨by rfl, ?_⟩) ?_ ?_
                                 rotate_left
                                 · intro w'
                                   go_simp
                                   with_reducible rfl
                                 rotate_left
                                 · simp only [Act.put, List.setIfInBounds_toArray, List.set_cons_zero, List.set_cons_succ, i64_w, i32_w]
                                   rfl
                                 refine take_ (i := 12) (N := some 46) (v := ?_) (a' := ?_) #[true, true, true, true, true, true, true, true, true, true, true, true, true, false, false, false] rfl rfl (take_ofW HT_.out HW_.out (by kernel_rfl)) (fun _ _ _ h => h) (Or.inl ⟨by rfl, ?_⟩) hHeld ?_ ?_
                                 rotate_left
                                 · rintro w' ⟨s0, s1, s2, s3⟩
                                   go_simp
                                   with_reducible rfl
                                 rotate_left
                                 · simp only [Act.put, List.setIfInBounds_toArray, List.set_cons_zero, List.set_cons_succ, i64_w, i32_w]
                                   rfl
                                 refine one_ (i := 13) (N := some 47) #[true, true, true, true, true, true, true, true, true, true, true, true, true, true, false, false] rfl rfl (one_of HT_.out (by kernel_rfl)) (by decide) (fun K hK => ?_)
                                 refine goes_ Try.func56 (by kernel_rfl) rfl #[.int .i64 (wrap64 (-(rd (rd_L1 l0_1 (rd l1 x19_1)) (rd l1 x29_2)))), .int .i64 a0_0] (by rfl) rfl rfl (by (try simp only [List.map_toArray, List.map_cons, List.map_nil]); first | done | rfl | (simp only [List.length_drop, List.length_take]; rfl)) ?_
                                 with_reducible refine (impl_lowest.calls k2 (wrap64 (-(rd (rd_L1 l0_1 (rd l1 x19_1)) (rd l1 x29_2)))) a0_0 t319 t320 _ A24.out).mono ?_
                                 rintro e w40 ⟨rfl, hb⟩
                                 refine ⟨_, rfl, ?_⟩
                                 have n0_ := Aside0.mk (Kd.S_below (by (with_reducible repeat (first | apply Kd.S_alloc | apply Kd.S_drewN | apply Kd.S_drew)); exact HO_11.out) hb)
                                 have n1_ := Aside0.mk (Kd.R_below (by (with_reducible repeat (first | apply Kd.R_alloc | apply Kd.R_drewN | apply Kd.R_drew)); exact HO_14.out) hb)
                                 have n2_ := Aside0.mk (blk_below (g := gb294) (o := .cells #[.int .i64 a0_0, .slice (some ad317) l0_1.length c0_1] 29 (0, 0)) (by (with_reducible repeat (first | refine blk_drewN ?_ _ | refine blk_drew ?_ | refine blk_alloc ?_ _)); exact BK294.out) hb)
                                 have n3_ := Aside0.mk (blk_below (g := gb295) (o := .cells #[.int .i64 x296000_2, .int .i64 x296001_2] 67 (0, 0)) (by (with_reducible repeat (first | refine blk_drewN ?_ _ | refine blk_drew ?_ | refine blk_alloc ?_ _)); exact BK295.out) hb)
                                 have n4_ := Aside0.mk (blk_below (g := gb296) (o := .cells #[.int .i64 x297000_2, .int .i64 x297001_2] 67 (0, 0)) (by (with_reducible repeat (first | refine blk_drewN ?_ _ | refine blk_drew ?_ | refine blk_alloc ?_ _)); exact BK296.out) hb)
                                 have n5_ := Aside0.mk (below_step (by repeat (first | (with_reducible first | exact HB.out | apply below_alloc | apply pw_below_drewN | apply below_drew1 | refine below_set ?_ GE294.out | refine below_set ?_ GE295.out | refine below_set ?_ GE296.out) | exact HB.out)) hb)
                                 clear HO_11
                                 clear HO_14
                                 clear BK294
                                 clear BK295
                                 clear BK296
                                 clear HB
                                 have HO_11 := n0_
                                 have HO_14 := n1_
                                 have BK294 := n2_
                                 have BK295 := n3_
                                 have BK296 := n4_
                                 have HB := n5_
                                 clear n0_ n1_ n2_ n3_ n4_ n5_
                                 (try clear hb)
                                 (try clear hb2)
                                 (try clear hk)
                                 (try clear hi)
                                 have p26 : 0 ≤ (x29_2 : Int) := of_decide_eq_true (by first | (with_reducible assumption) | assumption)
                                 have q26 : (x29_2 : Int) < ((x14_2.length : Int) : Int) := of_decide_eq_true (by first | (with_reducible assumption) | assumption)
                                 obtain ⟨go26, co26, eo26, gb26, gl26, cl26, HG26⟩ := Kd.R_form HO_14.out (by omega)
                                 (first | cases eo26 | (injection eo26 with ea_ en_ ec_; (first | subst ea_ | (injection ea_ with ea_; subst ea_)); subst ec_; clear en_))
                                 have GB26 := Aside0.mk gb26
                                 have GG26 := Aside0.mk HG26
                                 clear gb26 gl26 HG26
                                 obtain ⟨ce26, hcl26, hM26, hcc26, hfr26⟩ := Kd.R_elem HO_14.out z67 (x29_2 : Int) p26 q26
                                 obtain rfl := k67_openM hM26
                                 have hx26_0 : World.cell? _ ⟨go26, (x29_2 : Int).toNat * 2, none⟩ = some (.int .i64 ((rd_T67 x14_2 x29_2).f0)) := hcc26 0 _ rfl
                                 have hx26_1 : World.cell? _ ⟨go26, (x29_2 : Int).toNat * 2 + 1, none⟩ = some (.int .i64 ((rd_T67 x14_2 x29_2).f1)) := hcc26 1 _ rfl
                                 have hf26_0 : World.frozen? _ ⟨go26, (x29_2 : Int).toNat * 2, none⟩ = false := hfr26 0
                                 have hf26_1 : World.frozen? _ ⟨go26, (x29_2 : Int).toNat * 2 + 1, none⟩ = false := hfr26 1
                                 (try clear hcl26 hcc26 hfr26 ); (try clear hM26)
                                 replace p26 := eq_true p26
                                 replace q26 := eq_true q26
                                 obtain ⟨ce41, hcl41, hM41, hcc41, hfr41⟩ := Kd.R_elem HO_14.out z67 (x29_2 : Int) (of_decide_eq_true (by first | (with_reducible assumption) | assumption)) (by have h_ : (x29_2 : Int) < ((x14_2.length : Int) : Int) := of_decide_eq_true (by first | (with_reducible assumption) | assumption); first | exact h_ | (have e_ := (Kd.R_reads' HO_14.out).1; omega) | simpa using h_)
                                 obtain rfl := k67_openM hM41
                                 have HP41 := (Kd.R_seg HO_14.out (x29_2 : Int) (of_decide_eq_true (by first | (with_reducible assumption) | assumption)) (by have h_ : (x29_2 : Int) < ((x14_2.length : Int) : Int) := of_decide_eq_true (by first | (with_reducible assumption) | assumption); first | exact h_ | (have e_ := (Kd.R_reads' HO_14.out).1; omega) | simpa using h_) (seg := [.int .i64 t319, .int .i64 t320]) (j := 0) hcl41 hcc41 (show 2 ≤ 2 from by decide) (x' := (⟨t319, t320⟩ : S67)) (k67_mkM _ _ _ (⟨t319, t320⟩ : S67) ) (fun _ hk => hk)).1
                                 rw [← Ny321.out] at HP41
                                 have HQ41 := Aside0.mk HP41
                                 (try clear hcl41 hcc41 hfr41 HP41); (try clear hM41)
                                 refine hK.out _ _ ⟨(blk_cell BK294.out 0).trans rfl, (blk_cell BK294.out 1).trans rfl, ((HB.out.cell (World.block_lt_of_cell? w _ hw317_0)).trans hw317_0), ((HB.out.cell (World.block_lt_of_cell? w _ hw318_0)).trans hw318_0)⟩ (fun hHeld => ?_)
                                 clear hK K
                                 refine norm_ (a' := ?_) ?_ ?_
                                 rotate_left
                                 · show Act.put _ (some 47) _ = _
                                   simp only [Act.put, List.setIfInBounds_toArray, List.set_cons_zero, List.set_cons_succ, i64_w, i32_w]
                                   rfl
                                 refine pure_ (i := 14) (N := some 48) (v := ?_) (a' := ?_) #[true, true, true, true, true, true, true, true, true, true, true, true, true, true, true, false] rfl rfl (any_of HT_.out (by kernel_rfl)) (fun _ _ _ h => h) (Or.inl ⟨by rfl, ?_⟩) ?_ ?_
                                 rotate_left
                                 · intro w'
                                   go_simp
                                   with_reducible rfl
                                 rotate_left
                                 · simp only [Act.put, List.setIfInBounds_toArray, List.set_cons_zero, List.set_cons_succ, i64_w, i32_w]
                                   rfl
                                 refine last_ (i := 15) (N := none) #[true, true, true, true, true, true, true, true, true, true, true, true, true, true, true, true] rfl rfl (one_of HT_.out (by kernel_rfl)) (by decide) (fun K hK => ?_)
                                 refine skip_ (w1 := ?_) (by rfl) rfl ?_ ?_
                                 rotate_left
                                 · go_simp
                                   rfl
                                 refine hK.out _ _ ?_
                                 clear hK K
                                 refine done_ (done_of HT_.out (by kernel_rfl)) ?_
                                 try go_wp2
                                 (first | go_roundg k2 | (try subst hji12; go_roundg k2))
                                 case measure => have := HK1.out; have := HK2.out; omega
                                 case rel => exact ⟨(y321), (wrap64 (x29_2 + 1)), (x296000_2), (x296001_2), (x297000_2), (x297001_2), (by first | rfl | (simp; done) | (simp [*]; done)), H', ⟨by have := HK1.out; have := HK2.out; omega⟩, ⟨by (with_reducible repeat (first | apply Kd.S_alloc | apply Kd.S_drewN | apply Kd.S_drew)); exact Kd.S_mono (Kd.S_far (p := ⟨go26, (x29_2 : Int).toNat * 2 + 1, none⟩) (Kd.S_far (p := ⟨go26, (x29_2 : Int).toNat * 2, none⟩) (Kd.S_mono HO_11.out (fun k_ hk => (⟨hk, fun e_ => hk.1 (by rw [e_]; rfl)⟩ : _ ∧ k_ ≠ go26))) (fun _ hk => hk.2) (.int .i64 t319)) (fun _ hk => hk.2) (.int .i64 t320)) (fun _ hk => ⟨hk.1.1, ⟨hk.1.2.1, hk.1.2.2⟩⟩)⟩, ⟨by (with_reducible repeat (first | apply Kd.R_alloc | apply Kd.R_drewN | apply Kd.R_drew)); exact HQ41.out⟩, ⟨by (with_reducible repeat (first | refine blk_drewN ?_ _ | refine blk_drew ?_ | refine blk_alloc ?_ _)); refine blk_far ?_ (by have h_ := Kd.R_ne HO_14.out BK294.out (by decide); intro e_; exact h_ (by rw [e_]; rfl)) _; (with_reducible repeat (first | refine blk_drewN ?_ _ | refine blk_drew ?_ | refine blk_alloc ?_ _)); refine blk_far ?_ (by have h_ := Kd.R_ne HO_14.out BK294.out (by decide); intro e_; exact h_ (by rw [e_]; rfl)) _; (with_reducible repeat (first | refine blk_drewN ?_ _ | refine blk_drew ?_ | refine blk_alloc ?_ _)); exact BK294.out⟩, ⟨by (with_reducible repeat (first | refine blk_drewN ?_ _ | refine blk_drew ?_ | refine blk_alloc ?_ _)); refine blk_far ?_ (by have h_ := Kd.R_away HO_14.out (fun _ hk => hk.1); intro e_; exact h_ (by rw [e_]; rfl)) _; (with_reducible repeat (first | refine blk_drewN ?_ _ | refine blk_drew ?_ | refine blk_alloc ?_ _)); refine blk_far ?_ (by have h_ := Kd.R_away HO_14.out (fun _ hk => hk.1); intro e_; exact h_ (by rw [e_]; rfl)) _; (with_reducible repeat (first | refine blk_drewN ?_ _ | refine blk_drew ?_ | refine blk_alloc ?_ _)); exact BK295.out⟩, ⟨by (with_reducible repeat (first | refine blk_drewN ?_ _ | refine blk_drew ?_ | refine blk_alloc ?_ _)); refine blk_far ?_ (by have h_ := Kd.R_away HO_14.out (fun _ hk => hk.2); intro e_; exact h_ (by rw [e_]; rfl)) _; (with_reducible repeat (first | refine blk_drewN ?_ _ | refine blk_drew ?_ | refine blk_alloc ?_ _)); refine blk_far ?_ (by have h_ := Kd.R_away HO_14.out (fun _ hk => hk.2); intro e_; exact h_ (by rw [e_]; rfl)) _; (with_reducible repeat (first | refine blk_drewN ?_ _ | refine blk_drew ?_ | refine blk_alloc ?_ _)); exact BK296.out⟩, ⟨by repeat (first | (with_reducible first | exact HB.out | apply below_alloc | apply pw_below_drewN | apply below_drew1 | refine below_set ?_ GB26.out | refine below_set ?_ GB26.out | refine below_set ?_ GE294.out | refine below_set ?_ GE295.out | refine below_set ?_ GE296.out) | exact HB.out)⟩⟩
                             · rw [if_neg c25] at H
                               exact absurd H (by simp)
                           · rw [if_neg c23] at H
                             exact absurd H (by simp)
                         · rw [if_neg c22] at H
                           exact absurd H (by simp)
                       · rw [if_neg c21] at H
                         exact absurd H (by simp)
                     · rw [if_neg c20] at H
                       exact absurd H (by simp)
                   · rw [if_neg c19] at H
                     exact absurd H (by simp)
                 · rw [if_neg c18] at H
                   exact absurd H (by simp)
               · rw [if_neg c17] at H
                 have c17b0 : decide (x29_2 < (l1.length : Int)) = false := decide_eq_false c17
                 clear c17
                 by_cases c42 : 0 ≤ (rd l1 x19_1)
                 · rw [if_pos c42] at H
                   have c42b0 : decide (0 ≤ (rd l1 x19_1)) = true := decide_eq_true c42
                   clear c42
                   by_cases c43 : (rd l1 x19_1) < (l0_1.length : Int)
                   · rw [if_pos c43] at H
                     have c43b0 : decide ((rd l1 x19_1) < (l0_1.length : Int)) = true := decide_eq_true c43
                     clear c43
                     by_cases c44 : 0 ≤ a2
                     · rw [if_pos c44] at H
                       have c44b0 : decide (0 ≤ a2) = true := decide_eq_true c44
                       clear c44
                       by_cases c45 : a2 < ((rd_L1 l0_1 (rd l1 x19_1)).length : Int)
                       · rw [if_pos c45] at H
                         have c45b0 : decide (a2 < ((rd_L1 l0_1 (rd l1 x19_1)).length : Int)) = true := decide_eq_true c45
                         clear c45
                         replace H := Option.bind_eq_some_iff.mp H
                         obtain ⟨⟨t306, t307⟩, A460, H⟩ := H
                         replace H : ((impl_frac_times.f k2 x297000_2 x297001_2 t306 t307).bind fun bt308 => ((impl_frac_plus.f k2 x296000_2 x296001_2 bt308.1 bt308.2).bind fun bt310 => (if 0 ≤ (l1.length : Int) then (if (l1.length : Int) < (x14_2.length : Int) then (if x11_1.length < 5864062014805 then (impl_States_hit.l0 k2 l1 a2 (x11_1 ++ [(x14_2.set ((l1.length : Int) : Int).toNat (⟨bt310.1, bt310.2⟩ : S67))]) l1 (l1.length : Int) (wrap64 (x19_1 + 1)) a0_0 l0_1 x296000_2 x296001_2 x297000_2 x297001_2) else (none)) else (none)) else (none)))) = some r := H
                         have A46 := Aside0.mk A460
                         clear A460
                         replace H := Option.bind_eq_some_iff.mp H
                         obtain ⟨⟨t308, t309⟩, A470, H⟩ := H
                         replace H : ((impl_frac_plus.f k2 x296000_2 x296001_2 t308 t309).bind fun bt310 => (if 0 ≤ (l1.length : Int) then (if (l1.length : Int) < (x14_2.length : Int) then (if x11_1.length < 5864062014805 then (impl_States_hit.l0 k2 l1 a2 (x11_1 ++ [(x14_2.set ((l1.length : Int) : Int).toNat (⟨bt310.1, bt310.2⟩ : S67))]) l1 (l1.length : Int) (wrap64 (x19_1 + 1)) a0_0 l0_1 x296000_2 x296001_2 x297000_2 x297001_2) else (none)) else (none)) else (none))) = some r := H
                         have A47 := Aside0.mk A470
                         clear A470
                         replace H := Option.bind_eq_some_iff.mp H
                         obtain ⟨⟨t310, t311⟩, A480, H⟩ := H
                         replace H : (if 0 ≤ (l1.length : Int) then (if (l1.length : Int) < (x14_2.length : Int) then (if x11_1.length < 5864062014805 then (impl_States_hit.l0 k2 l1 a2 (x11_1 ++ [(x14_2.set ((l1.length : Int) : Int).toNat (⟨t310, t311⟩ : S67))]) l1 (l1.length : Int) (wrap64 (x19_1 + 1)) a0_0 l0_1 x296000_2 x296001_2 x297000_2 x297001_2) else (none)) else (none)) else (none)) = some r := H
                         have A48 := Aside0.mk A480
                         clear A480
                         by_cases c49 : 0 ≤ (l1.length : Int)
                         · rw [if_pos c49] at H
                           have c49b0 : decide (0 ≤ (l1.length : Int)) = true := decide_eq_true c49
                           have c49b1 : decide (0 ≤ l1.length) = true := decide_eq_true (by omega)
                           clear c49
                           by_cases c50 : (l1.length : Int) < (x14_2.length : Int)
                           · rw [if_pos c50] at H
                             have c50b0 : decide ((l1.length : Int) < (x14_2.length : Int)) = true := decide_eq_true c50
                             have c50b1 : decide (l1.length < x14_2.length) = true := decide_eq_true (Int.ofNat_lt.mp c50)
                             clear c50
                             obtain ⟨y312, hy312⟩ : ∃ y_ : List (S67), y_ = (x14_2.set ((l1.length : Int) : Int).toNat (⟨t310, t311⟩ : S67)) := ⟨_, rfl⟩
                             replace H : (if x11_1.length < 5864062014805 then (impl_States_hit.l0 k2 l1 a2 (x11_1 ++ [y312]) l1 (l1.length : Int) (wrap64 (x19_1 + 1)) a0_0 l0_1 x296000_2 x296001_2 x297000_2 x297001_2) else (none)) = some r := by first | (rw [hy312]; with_reducible exact H) | (have H2_ := (Option.bind_some _ _).symm.trans H; rw [hy312]; with_reducible exact H2_) | (have H2_ := (Option.bind_some _ _).symm.trans H; with_reducible exact H2_) | with_reducible exact H | (rw [hy312]; exact H) | exact H
                             have Ny312 := Aside0.mk hy312
                             clear hy312
                             by_cases c52 : x11_1.length < 5864062014805
                             · rw [if_pos c52] at H
                               have LMc52 := Aside0.mk c52
                               clear c52
                               obtain ⟨y313, hy313⟩ : ∃ y_ : List (List (S67)), y_ = (x11_1 ++ [y312]) := ⟨_, rfl⟩
                               replace H : (impl_States_hit.l0 k2 l1 a2 y313 l1 (l1.length : Int) (wrap64 (x19_1 + 1)) a0_0 l0_1 x296000_2 x296001_2 x297000_2 x297001_2) = some r := by first | (rw [hy313]; with_reducible exact H) | (have H2_ := (Option.bind_some _ _).symm.trans H; rw [hy313]; with_reducible exact H2_) | (have H2_ := (Option.bind_some _ _).symm.trans H; with_reducible exact H2_) | with_reducible exact H | (rw [hy313]; exact H) | exact H
                               have Ny313 := Aside0.mk hy313
                               clear hy313
                               have H' := Aside0.mk H
                               clear H
                               try go_wp2
                               have n0_ := Aside0.mk (Kd.S_drew HO_11.out)
                               have n1_ := Aside0.mk (Kd.R_drew HO_14.out)
                               have n2_ := Aside0.mk (blk_drew BK294.out)
                               have n3_ := Aside0.mk (blk_drew BK295.out)
                               have n4_ := Aside0.mk (blk_drew BK296.out)
                               have n5_ := Aside0.mk (below_drew1 HB.out)
                               clear HO_11
                               clear HO_14
                               clear BK294
                               clear BK295
                               clear BK296
                               clear HB
                               have HO_11 := n0_
                               have HO_14 := n1_
                               have BK294 := n2_
                               have BK295 := n3_
                               have BK296 := n4_
                               have HB := n5_
                               clear n0_ n1_ n2_ n3_ n4_ n5_
                               have p304 : 0 ≤ ((rd l1 x19_1) : Int) := of_decide_eq_true (by first | (with_reducible assumption) | assumption)
                               have q304 : (rd l1 x19_1) < (l0_1.length : Int) := of_decide_eq_true (by first | (with_reducible assumption) | assumption)
                               obtain ⟨ad304, A304_0, c304_0, e304, hx304_0, hl304_0, hi304_0⟩ := at_L1 HR0_1.out (rd l1 x19_1) p304 q304
                               have hw304_0 := hx304_0
                               cases e304
                               replace hx304_0 := (HB.out.cell (World.block_lt_of_cell? w _ hx304_0)).trans hx304_0
                               have HR304_0 := Aside0.mk hi304_0
                               have HC304_0 := Aside0.mk hl304_0
                               clear hi304_0 hl304_0
                               replace p304 := eq_true p304
                               replace q304 := eq_true q304
                               have p305 : 0 ≤ (a2 : Int) := of_decide_eq_true (by first | (with_reducible assumption) | assumption)
                               have q305 : a2 < ((rd_L1 l0_1 (rd l1 x19_1)).length : Int) := of_decide_eq_true (by first | (with_reducible assumption) | assumption)
                               obtain ⟨ad305, e305, hx305_0⟩ := Kd.at_int HR304_0.out a2 p305 q305
                               have hw305_0 := hx305_0
                               cases e305
                               replace hx305_0 := (HB.out.cell (World.block_lt_of_cell? w _ hx305_0)).trans hx305_0
                               replace p305 := eq_true p305
                               replace q305 := eq_true q305
                               refine start_ (n := 20) (S := fun w' => w'.cell? ⟨gb295, 0, none⟩ = some (.int .i64 x296000_2) ∧ w'.cell? ⟨gb295, 1, none⟩ = some (.int .i64 x296001_2) ∧ w'.cell? ⟨gb296, 0, none⟩ = some (.int .i64 x297000_2) ∧ w'.cell? ⟨gb296, 1, none⟩ = some (.int .i64 x297001_2) ∧ w'.cell? ⟨gb294, 0, none⟩ = some (.int .i64 a0_0) ∧ w'.cell? ⟨gb294, 1, none⟩ = some (.slice (some ad304) l0_1.length c0_1) ∧ w'.cell? (ad304.add ((rd l1 x19_1)).toNat) = some (.slice (some ad305) (rd_L1 l0_1 (rd l1 x19_1)).length c304_0) ∧ w'.cell? (ad305.add (a2).toNat) = some (.int .i64 (rd (rd_L1 l0_1 (rd l1 x19_1)) a2))) (ds := [19]) #[false, false, false, false, false, false, false, false, false, false, false, false, false, false, false, false, false, false, false, false] (by kernel_rfl) rfl rfl ⟨(blk_cell BK295.out 0).trans rfl, (blk_cell BK295.out 1).trans rfl, (blk_cell BK296.out 0).trans rfl, (blk_cell BK296.out 1).trans rfl, (blk_cell BK294.out 0).trans rfl, (blk_cell BK294.out 1).trans rfl, ((HB.out.cell (World.block_lt_of_cell? w _ hw304_0)).trans hw304_0), ((HB.out.cell (World.block_lt_of_cell? w _ hw305_0)).trans hw305_0)⟩ (fun hHeld => ?_); refine with_tabW impl_States_hit.tab13 impl_States_hit.bits13 (fun HT_ HW_ => ?_)
                               generalize wr.drew = w53 at HO_11 HO_14 BK294 BK295 BK296 HB HR304_0 hx304_0 hx305_0 hHeld ⊢
                               refine pure_ (i := 0) (N := some 62) (v := ?_) (a' := ?_) #[true, false, false, false, false, false, false, false, false, false, false, false, false, false, false, false, false, false, false, false] rfl rfl (any_of HT_.out (by kernel_rfl)) (fun _ _ _ h => h) (Or.inl ⟨by rfl, ?_⟩) ?_ ?_
                               rotate_left
                               · intro w'
                                 go_simp
                                 with_reducible rfl
                               rotate_left
                               · simp only [Act.put, List.setIfInBounds_toArray, List.set_cons_zero, List.set_cons_succ, i64_w, i32_w]
                                 rfl
                               refine pure_ (i := 1) (N := some 63) (v := ?_) (a' := ?_) #[true, true, false, false, false, false, false, false, false, false, false, false, false, false, false, false, false, false, false, false] rfl rfl (any_of HT_.out (by kernel_rfl)) (fun _ _ _ h => h) (Or.inl ⟨by rfl, ?_⟩) ?_ ?_
                               rotate_left
                               · intro w'
                                 go_simp
                                 with_reducible rfl
                               rotate_left
                               · simp only [Act.put, List.setIfInBounds_toArray, List.set_cons_zero, List.set_cons_succ, i64_w, i32_w]
                                 rfl
                               refine pure_ (i := 2) (N := some 64) (v := ?_) (a' := ?_) #[true, true, true, false, false, false, false, false, false, false, false, false, false, false, false, false, false, false, false, false] rfl rfl (any_of HT_.out (by kernel_rfl)) (fun _ _ _ h => h) (Or.inl ⟨by rfl, ?_⟩) ?_ ?_
                               rotate_left
                               · intro w'
                                 go_simp
                                 with_reducible rfl
                               rotate_left
                               · simp only [Act.put, List.setIfInBounds_toArray, List.set_cons_zero, List.set_cons_succ, i64_w, i32_w]
                                 rfl
                               refine pure_ (i := 5) (N := some 67) (v := ?_) (a' := ?_) #[true, true, true, false, false, true, false, false, false, false, false, false, false, false, false, false, false, false, false, false] rfl rfl (any_of HT_.out (by kernel_rfl)) (fun _ _ _ h => h) (Or.inl ⟨by rfl, ?_⟩) ?_ ?_
                               rotate_left
                               · intro w'
                                 go_simp
                                 with_reducible rfl
                               rotate_left
                               · simp only [Act.put, List.setIfInBounds_toArray, List.set_cons_zero, List.set_cons_succ, i64_w, i32_w]
                                 rfl
                               refine pure_ (i := 7) (N := some 69) (v := ?_) (a' := ?_) #[true, true, true, false, false, true, false, true, false, false, false, false, false, false, false, false, false, false, false, false] rfl rfl (any_of HT_.out (by kernel_rfl)) (fun _ _ _ h => h) (Or.inl ⟨by rfl, ?_⟩) ?_ ?_
                               rotate_left
                               · intro w'
                                 go_simp
                                 with_reducible rfl
                               rotate_left
                               · simp only [Act.put, List.setIfInBounds_toArray, List.set_cons_zero, List.set_cons_succ, i64_w, i32_w]
                                 rfl
                               refine pure_ (i := 10) (N := some 72) (v := ?_) (a' := ?_) #[true, true, true, false, false, true, false, true, false, false, true, false, false, false, false, false, false, false, false, false] rfl rfl (any_of HT_.out (by kernel_rfl)) (fun _ _ _ h => h) (Or.inl ⟨by rfl, ?_⟩) ?_ ?_
                               rotate_left
                               · intro w'
                                 go_simp
                                 with_reducible rfl
                               rotate_left
                               · simp only [Act.put, List.setIfInBounds_toArray, List.set_cons_zero, List.set_cons_succ, i64_w, i32_w]
                                 rfl
                               refine pure_ (i := 13) (N := some 75) (v := ?_) (a' := ?_) #[true, true, true, false, false, true, false, true, false, false, true, false, false, true, false, false, false, false, false, false] rfl rfl (any_of HT_.out (by kernel_rfl)) (fun _ _ _ h => h) (Or.inl ⟨by rfl, ?_⟩) ?_ ?_
                               rotate_left
                               · intro w'
                                 go_simp
                                 with_reducible rfl
                               rotate_left
                               · simp only [Act.put, List.setIfInBounds_toArray, List.set_cons_zero, List.set_cons_succ, i64_w, i32_w]
                                 rfl
                               refine take_ (i := 3) (N := some 65) (v := ?_) (a' := ?_) #[true, true, true, true, false, true, false, true, false, false, true, false, false, true, false, false, false, false, false, false] rfl rfl (take_ofW HT_.out HW_.out (by kernel_rfl)) (fun _ _ _ h => h) (Or.inl ⟨by rfl, ?_⟩) hHeld ?_ ?_
                               rotate_left
                               · rintro w' ⟨s0, s1, s2, s3, s4, s5, s6, s7⟩
                                 go_simp
                                 with_reducible rfl
                               rotate_left
                               · simp only [Act.put, List.setIfInBounds_toArray, List.set_cons_zero, List.set_cons_succ, i64_w, i32_w]
                                 rfl
                               refine take_ (i := 4) (N := some 66) (v := ?_) (a' := ?_) #[true, true, true, true, true, true, false, true, false, false, true, false, false, true, false, false, false, false, false, false] rfl rfl (take_ofW HT_.out HW_.out (by kernel_rfl)) (fun _ _ _ h => h) (Or.inl ⟨by rfl, ?_⟩) hHeld ?_ ?_
                               rotate_left
                               · rintro w' ⟨s0, s1, s2, s3, s4, s5, s6, s7⟩
                                 go_simp
                                 with_reducible rfl
                               rotate_left
                               · simp only [Act.put, List.setIfInBounds_toArray, List.set_cons_zero, List.set_cons_succ, i64_w, i32_w]
                                 rfl
                               refine take_ (i := 6) (N := some 68) (v := ?_) (a' := ?_) #[true, true, true, true, true, true, true, true, false, false, true, false, false, true, false, false, false, false, false, false] rfl rfl (take_ofW HT_.out HW_.out (by kernel_rfl)) (fun _ _ _ h => h) (Or.inl ⟨by rfl, ?_⟩) hHeld ?_ ?_
                               rotate_left
                               · rintro w' ⟨s0, s1, s2, s3, s4, s5, s6, s7⟩
                                 go_simp
                                 with_reducible rfl
                               rotate_left
                               · simp only [Act.put, List.setIfInBounds_toArray, List.set_cons_zero, List.set_cons_succ, i64_w, i32_w]
                                 rfl
                               refine pure_ (i := 8) (N := some 70) (v := ?_) (a' := ?_) #[true, true, true, true, true, true, true, true, true, false, true, false, false, true, false, false, false, false, false, false] rfl rfl (any_of HT_.out (by kernel_rfl)) (fun _ _ _ h => h) (Or.inl ⟨by rfl, ?_⟩) ?_ ?_
                               rotate_left
                               · intro w'
                                 go_simp
                                 with_reducible rfl
                               rotate_left
                               · simp only [Act.put, List.setIfInBounds_toArray, List.set_cons_zero, List.set_cons_succ, i64_w, i32_w]
                                 rfl
                               refine take_ (i := 9) (N := some 71) (v := ?_) (a' := ?_) #[true, true, true, true, true, true, true, true, true, true, true, false, false, true, false, false, false, false, false, false] rfl rfl (take_ofW HT_.out HW_.out (by kernel_rfl)) (fun _ _ _ h => h) (Or.inl ⟨by rfl, ?_⟩) hHeld ?_ ?_
                               rotate_left
                               · rintro w' ⟨s0, s1, s2, s3, s4, s5, s6, s7⟩
                                 go_simp
                                 with_reducible rfl
                               rotate_left
                               · simp only [Act.put, List.setIfInBounds_toArray, List.set_cons_zero, List.set_cons_succ, i64_w, i32_w]
                                 rfl
                               refine pure_ (i := 11) (N := some 73) (v := ?_) (a' := ?_) #[true, true, true, true, true, true, true, true, true, true, true, true, false, true, false, false, false, false, false, false] rfl rfl (any_of HT_.out (by kernel_rfl)) (fun _ _ _ h => h) (Or.inl ⟨by rfl, ?_⟩) ?_ ?_
                               rotate_left
                               · intro w'
                                 go_simp
                                 with_reducible rfl
                               rotate_left
                               · simp only [Act.put, List.setIfInBounds_toArray, List.set_cons_zero, List.set_cons_succ, i64_w, i32_w]
                                 rfl
                               refine take_ (i := 12) (N := some 74) (v := ?_) (a' := ?_) #[true, true, true, true, true, true, true, true, true, true, true, true, true, true, false, false, false, false, false, false] rfl rfl (take_ofW HT_.out HW_.out (by kernel_rfl)) (fun _ _ _ h => h) (Or.inl ⟨by rfl, ?_⟩) hHeld ?_ ?_
                               rotate_left
                               · rintro w' ⟨s0, s1, s2, s3, s4, s5, s6, s7⟩
                                 go_simp
                                 with_reducible rfl
                               rotate_left
                               · simp only [Act.put, List.setIfInBounds_toArray, List.set_cons_zero, List.set_cons_succ, i64_w, i32_w]
                                 rfl
                               refine take_ (i := 14) (N := some 76) (v := ?_) (a' := ?_) #[true, true, true, true, true, true, true, true, true, true, true, true, true, true, true, false, false, false, false, false] rfl rfl (take_ofW HT_.out HW_.out (by kernel_rfl)) (fun _ _ _ h => h) (Or.inl ⟨by rfl, ?_⟩) hHeld ?_ ?_
                               rotate_left
                               · rintro w' ⟨s0, s1, s2, s3, s4, s5, s6, s7⟩
                                 go_simp
                                 with_reducible rfl
                               rotate_left
                               · simp only [Act.put, List.setIfInBounds_toArray, List.set_cons_zero, List.set_cons_succ, i64_w, i32_w]
                                 rfl
                               refine one_ (i := 15) (N := some 77) #[true, true, true, true, true, true, true, true, true, true, true, true, true, true, true, true, false, false, false, false] rfl rfl (one_of HT_.out (by kernel_rfl)) (by decide) (fun K hK => ?_)
                               refine goes_ Try.func56 (by kernel_rfl) rfl #[.int .i64 (rd (rd_L1 l0_1 (rd l1 x19_1)) a2), .int .i64 a0_0] (by rfl) rfl rfl (by (try simp only [List.map_toArray, List.map_cons, List.map_nil]); first | done | rfl | (simp only [List.length_drop, List.length_take]; rfl)) ?_
                               with_reducible refine (impl_lowest.calls k2 (rd (rd_L1 l0_1 (rd l1 x19_1)) a2) a0_0 t306 t307 _ A46.out).mono ?_
                               rintro e w54 ⟨rfl, hb⟩
                               refine ⟨_, rfl, ?_⟩
                               have n0_ := Aside0.mk (Kd.S_below (by (with_reducible repeat (first | apply Kd.S_alloc | apply Kd.S_drewN | apply Kd.S_drew)); exact HO_11.out) hb)
                               have n1_ := Aside0.mk (Kd.R_below (by (with_reducible repeat (first | apply Kd.R_alloc | apply Kd.R_drewN | apply Kd.R_drew)); exact HO_14.out) hb)
                               have n2_ := Aside0.mk (blk_below (g := gb294) (o := .cells #[.int .i64 a0_0, .slice (some ad304) l0_1.length c0_1] 29 (0, 0)) (by (with_reducible repeat (first | refine blk_drewN ?_ _ | refine blk_drew ?_ | refine blk_alloc ?_ _)); exact BK294.out) hb)
                               have n3_ := Aside0.mk (blk_below (g := gb295) (o := .cells #[.int .i64 x296000_2, .int .i64 x296001_2] 67 (0, 0)) (by (with_reducible repeat (first | refine blk_drewN ?_ _ | refine blk_drew ?_ | refine blk_alloc ?_ _)); exact BK295.out) hb)
                               have n4_ := Aside0.mk (blk_below (g := gb296) (o := .cells #[.int .i64 x297000_2, .int .i64 x297001_2] 67 (0, 0)) (by (with_reducible repeat (first | refine blk_drewN ?_ _ | refine blk_drew ?_ | refine blk_alloc ?_ _)); exact BK296.out) hb)
                               have n5_ := Aside0.mk (below_step (by repeat (first | (with_reducible first | exact HB.out | apply below_alloc | apply pw_below_drewN | apply below_drew1 | refine below_set ?_ GE294.out | refine below_set ?_ GE295.out | refine below_set ?_ GE296.out) | exact HB.out)) hb)
                               clear HO_11
                               clear HO_14
                               clear BK294
                               clear BK295
                               clear BK296
                               clear HB
                               have HO_11 := n0_
                               have HO_14 := n1_
                               have BK294 := n2_
                               have BK295 := n3_
                               have BK296 := n4_
                               have HB := n5_
                               clear n0_ n1_ n2_ n3_ n4_ n5_
                               (try clear hb)
                               (try clear hb2)
                               (try clear hk)
                               (try clear hi)
                               refine hK.out _ _ ⟨(blk_cell BK295.out 0).trans rfl, (blk_cell BK295.out 1).trans rfl, (blk_cell BK296.out 0).trans rfl, (blk_cell BK296.out 1).trans rfl, (blk_cell BK294.out 0).trans rfl, (blk_cell BK294.out 1).trans rfl, ((HB.out.cell (World.block_lt_of_cell? w _ hw304_0)).trans hw304_0), ((HB.out.cell (World.block_lt_of_cell? w _ hw305_0)).trans hw305_0)⟩ (fun hHeld => ?_)
                               clear hK K
                               refine norm_ (a' := ?_) ?_ ?_
                               rotate_left
                               · show Act.put _ (some 77) _ = _
                                 simp only [Act.put, List.setIfInBounds_toArray, List.set_cons_zero, List.set_cons_succ, i64_w, i32_w]
                                 rfl
                               refine one_ (i := 16) (N := some 78) #[true, true, true, true, true, true, true, true, true, true, true, true, true, true, true, true, true, false, false, false] rfl rfl (one_of HT_.out (by kernel_rfl)) (by decide) (fun K hK => ?_)
                               refine goes_ Try.func79 (by kernel_rfl) rfl #[.agg #[.int .i64 x297000_2, .int .i64 x297001_2], .agg #[.int .i64 t306, .int .i64 t307]] (by rfl) rfl rfl (by (try simp only [List.map_toArray, List.map_cons, List.map_nil]); first | done | rfl | (simp only [List.length_drop, List.length_take]; rfl)) ?_
                               with_reducible refine (impl_frac_times.calls k2 x297000_2 x297001_2 t306 t307 t308 t309 _ A47.out).mono ?_
                               rintro e w55 ⟨rfl, hb⟩
                               refine ⟨_, rfl, ?_⟩
                               have n0_ := Aside0.mk (Kd.S_below (by (with_reducible repeat (first | apply Kd.S_alloc | apply Kd.S_drewN | apply Kd.S_drew)); exact HO_11.out) hb)
                               have n1_ := Aside0.mk (Kd.R_below (by (with_reducible repeat (first | apply Kd.R_alloc | apply Kd.R_drewN | apply Kd.R_drew)); exact HO_14.out) hb)
                               have n2_ := Aside0.mk (blk_below (g := gb294) (o := .cells #[.int .i64 a0_0, .slice (some ad304) l0_1.length c0_1] 29 (0, 0)) (by (with_reducible repeat (first | refine blk_drewN ?_ _ | refine blk_drew ?_ | refine blk_alloc ?_ _)); exact BK294.out) hb)
                               have n3_ := Aside0.mk (blk_below (g := gb295) (o := .cells #[.int .i64 x296000_2, .int .i64 x296001_2] 67 (0, 0)) (by (with_reducible repeat (first | refine blk_drewN ?_ _ | refine blk_drew ?_ | refine blk_alloc ?_ _)); exact BK295.out) hb)
                               have n4_ := Aside0.mk (blk_below (g := gb296) (o := .cells #[.int .i64 x297000_2, .int .i64 x297001_2] 67 (0, 0)) (by (with_reducible repeat (first | refine blk_drewN ?_ _ | refine blk_drew ?_ | refine blk_alloc ?_ _)); exact BK296.out) hb)
                               have n5_ := Aside0.mk (below_step (by repeat (first | (with_reducible first | exact HB.out | apply below_alloc | apply pw_below_drewN | apply below_drew1 | refine below_set ?_ GE294.out | refine below_set ?_ GE295.out | refine below_set ?_ GE296.out) | exact HB.out)) hb)
                               clear HO_11
                               clear HO_14
                               clear BK294
                               clear BK295
                               clear BK296
                               clear HB
                               have HO_11 := n0_
                               have HO_14 := n1_
                               have BK294 := n2_
                               have BK295 := n3_
                               have BK296 := n4_
                               have HB := n5_
                               clear n0_ n1_ n2_ n3_ n4_ n5_
                               (try clear hb)
                               (try clear hb2)
                               (try clear hk)
                               (try clear hi)
                               refine hK.out _ _ ⟨(blk_cell BK295.out 0).trans rfl, (blk_cell BK295.out 1).trans rfl, (blk_cell BK296.out 0).trans rfl, (blk_cell BK296.out 1).trans rfl, (blk_cell BK294.out 0).trans rfl, (blk_cell BK294.out 1).trans rfl, ((HB.out.cell (World.block_lt_of_cell? w _ hw304_0)).trans hw304_0), ((HB.out.cell (World.block_lt_of_cell? w _ hw305_0)).trans hw305_0)⟩ (fun hHeld => ?_)
                               clear hK K
                               refine norm_ (a' := ?_) ?_ ?_
                               rotate_left
                               · show Act.put _ (some 78) _ = _
                                 simp only [Act.put, List.setIfInBounds_toArray, List.set_cons_zero, List.set_cons_succ, i64_w, i32_w]
                                 rfl
                               refine one_ (i := 17) (N := some 79) #[true, true, true, true, true, true, true, true, true, true, true, true, true, true, true, true, true, true, false, false] rfl rfl (one_of HT_.out (by kernel_rfl)) (by decide) (fun K hK => ?_)
                               refine goes_ Try.func83 (by kernel_rfl) rfl #[.agg #[.int .i64 x296000_2, .int .i64 x296001_2], .agg #[.int .i64 t308, .int .i64 t309]] (by rfl) rfl rfl (by (try simp only [List.map_toArray, List.map_cons, List.map_nil]); first | done | rfl | (simp only [List.length_drop, List.length_take]; rfl)) ?_
                               with_reducible refine (impl_frac_plus.calls k2 x296000_2 x296001_2 t308 t309 t310 t311 _ A48.out).mono ?_
                               rintro e w56 ⟨rfl, hb⟩
                               refine ⟨_, rfl, ?_⟩
                               have n0_ := Aside0.mk (Kd.S_below (by (with_reducible repeat (first | apply Kd.S_alloc | apply Kd.S_drewN | apply Kd.S_drew)); exact HO_11.out) hb)
                               have n1_ := Aside0.mk (Kd.R_below (by (with_reducible repeat (first | apply Kd.R_alloc | apply Kd.R_drewN | apply Kd.R_drew)); exact HO_14.out) hb)
                               have n2_ := Aside0.mk (blk_below (g := gb294) (o := .cells #[.int .i64 a0_0, .slice (some ad304) l0_1.length c0_1] 29 (0, 0)) (by (with_reducible repeat (first | refine blk_drewN ?_ _ | refine blk_drew ?_ | refine blk_alloc ?_ _)); exact BK294.out) hb)
                               have n3_ := Aside0.mk (blk_below (g := gb295) (o := .cells #[.int .i64 x296000_2, .int .i64 x296001_2] 67 (0, 0)) (by (with_reducible repeat (first | refine blk_drewN ?_ _ | refine blk_drew ?_ | refine blk_alloc ?_ _)); exact BK295.out) hb)
                               have n4_ := Aside0.mk (blk_below (g := gb296) (o := .cells #[.int .i64 x297000_2, .int .i64 x297001_2] 67 (0, 0)) (by (with_reducible repeat (first | refine blk_drewN ?_ _ | refine blk_drew ?_ | refine blk_alloc ?_ _)); exact BK296.out) hb)
                               have n5_ := Aside0.mk (below_step (by repeat (first | (with_reducible first | exact HB.out | apply below_alloc | apply pw_below_drewN | apply below_drew1 | refine below_set ?_ GE294.out | refine below_set ?_ GE295.out | refine below_set ?_ GE296.out) | exact HB.out)) hb)
                               clear HO_11
                               clear HO_14
                               clear BK294
                               clear BK295
                               clear BK296
                               clear HB
                               have HO_11 := n0_
                               have HO_14 := n1_
                               have BK294 := n2_
                               have BK295 := n3_
                               have BK296 := n4_
                               have HB := n5_
                               clear n0_ n1_ n2_ n3_ n4_ n5_
                               (try clear hb)
                               (try clear hb2)
                               (try clear hk)
                               (try clear hi)
                               have p51 : 0 ≤ ((l1.length : Int) : Int) := of_decide_eq_true (by first | (with_reducible assumption) | assumption)
                               have q51 : ((l1.length : Int) : Int) < ((x14_2.length : Int) : Int) := of_decide_eq_true (by first | (with_reducible assumption) | assumption)
                               obtain ⟨go51, co51, eo51, gb51, gl51, cl51, HG51⟩ := Kd.R_form HO_14.out (by omega)
                               (first | cases eo51 | (injection eo51 with ea_ en_ ec_; (first | subst ea_ | (injection ea_ with ea_; subst ea_)); subst ec_; clear en_))
                               have GB51 := Aside0.mk gb51
                               have GG51 := Aside0.mk HG51
                               clear gb51 gl51 HG51
                               obtain ⟨ce51, hcl51, hM51, hcc51, hfr51⟩ := Kd.R_elem HO_14.out z67 ((l1.length : Int) : Int) p51 q51
                               obtain rfl := k67_openM hM51
                               have hx51_0 : World.cell? _ ⟨go51, l1.length * 2, none⟩ = some (.int .i64 ((rd_T67 x14_2 (l1.length : Int)).f0)) := hcc51 0 _ rfl
                               have hx51_1 : World.cell? _ ⟨go51, l1.length * 2 + 1, none⟩ = some (.int .i64 ((rd_T67 x14_2 (l1.length : Int)).f1)) := hcc51 1 _ rfl
                               have hf51_0 : World.frozen? _ ⟨go51, l1.length * 2, none⟩ = false := hfr51 0
                               have hf51_1 : World.frozen? _ ⟨go51, l1.length * 2 + 1, none⟩ = false := hfr51 1
                               (try clear hcl51 hcc51 hfr51 ); (try clear hM51)
                               replace p51 := eq_true p51
                               replace q51 := eq_true q51
                               obtain ⟨ce57, hcl57, hM57, hcc57, hfr57⟩ := Kd.R_elem HO_14.out z67 ((l1.length : Int) : Int) (of_decide_eq_true (by first | (with_reducible assumption) | assumption)) (by have h_ : ((l1.length : Int) : Int) < ((x14_2.length : Int) : Int) := of_decide_eq_true (by first | (with_reducible assumption) | assumption); first | exact h_ | (have e_ := (Kd.R_reads' HO_14.out).1; omega) | simpa using h_)
                               obtain rfl := k67_openM hM57
                               have HP57 := (Kd.R_seg HO_14.out ((l1.length : Int) : Int) (of_decide_eq_true (by first | (with_reducible assumption) | assumption)) (by have h_ : ((l1.length : Int) : Int) < ((x14_2.length : Int) : Int) := of_decide_eq_true (by first | (with_reducible assumption) | assumption); first | exact h_ | (have e_ := (Kd.R_reads' HO_14.out).1; omega) | simpa using h_) (seg := [.int .i64 t310, .int .i64 t311]) (j := 0) hcl57 hcc57 (show 2 ≤ 2 from by decide) (x' := (⟨t310, t311⟩ : S67)) (k67_mkM _ _ _ (⟨t310, t311⟩ : S67) ) (fun _ hk => hk)).1
                               rw [← Ny312.out] at HP57
                               have HQ57 := Aside0.mk HP57
                               (try clear hcl57 hcc57 hfr57 HP57); (try clear hM57)
                               refine hK.out _ _ ⟨(blk_cell BK295.out 0).trans rfl, (blk_cell BK295.out 1).trans rfl, (blk_cell BK296.out 0).trans rfl, (blk_cell BK296.out 1).trans rfl, (blk_cell BK294.out 0).trans rfl, (blk_cell BK294.out 1).trans rfl, ((HB.out.cell (World.block_lt_of_cell? w _ hw304_0)).trans hw304_0), ((HB.out.cell (World.block_lt_of_cell? w _ hw305_0)).trans hw305_0)⟩ (fun hHeld => ?_)
                               clear hK K
                               refine norm_ (a' := ?_) ?_ ?_
                               rotate_left
                               · show Act.put _ (some 79) _ = _
                                 simp only [Act.put, List.setIfInBounds_toArray, List.set_cons_zero, List.set_cons_succ, i64_w, i32_w]
                                 rfl
                               refine pure_ (i := 18) (N := some 80) (v := ?_) (a' := ?_) #[true, true, true, true, true, true, true, true, true, true, true, true, true, true, true, true, true, true, true, false] rfl rfl (any_of HT_.out (by kernel_rfl)) (fun _ _ _ h => h) (Or.inl ⟨by rfl, ?_⟩) ?_ ?_
                               rotate_left
                               · intro w'
                                 go_simp
                                 with_reducible rfl
                               rotate_left
                               · simp only [Act.put, List.setIfInBounds_toArray, List.set_cons_zero, List.set_cons_succ, i64_w, i32_w]
                                 rfl
                               refine last_ (i := 19) (N := none) #[true, true, true, true, true, true, true, true, true, true, true, true, true, true, true, true, true, true, true, true] rfl rfl (one_of HT_.out (by kernel_rfl)) (by decide) (fun K hK => ?_)
                               refine skip_ (w1 := ?_) (by rfl) rfl ?_ ?_
                               rotate_left
                               · go_simp
                                 rfl
                               refine hK.out _ _ ?_
                               clear hK K
                               refine done_ (done_of HT_.out (by kernel_rfl)) ?_
                               have n0_ : Aside0 (Kd.S (Kd.slice 67 k67) 65 ((w56.setCell ⟨go51, l1.length * 2, none⟩ (.int .i64 t310)).setCell ⟨go51, l1.length * 2 + 1, none⟩ (.int .i64 t311)) w.heap.size (fun k_ => some k_ ≠ (.slice (some ⟨go51, 0, none⟩) x14_2.length co51 : Value).ownBlock ∧ k_ ≠ gb295 ∧ k_ ≠ gb296) u11 x11_1) := ⟨by (with_reducible repeat (first | apply Kd.S_alloc | apply Kd.S_drewN | apply Kd.S_drew)); exact Kd.S_mono (Kd.S_far (p := ⟨go51, l1.length * 2 + 1, none⟩) (Kd.S_far (p := ⟨go51, l1.length * 2, none⟩) (Kd.S_mono HO_11.out (fun k_ hk => (⟨hk, fun e_ => hk.1 (by rw [e_]; rfl)⟩ : _ ∧ k_ ≠ go51))) (fun _ hk => hk.2) (.int .i64 t310)) (fun _ hk => hk.2) (.int .i64 t311)) (fun _ hk => ⟨hk.1.1, ⟨hk.1.2.1, hk.1.2.2⟩⟩)⟩
                               have n1_ : Aside0 (Kd.R k67 67 ((w56.setCell ⟨go51, l1.length * 2, none⟩ (.int .i64 t310)).setCell ⟨go51, l1.length * 2 + 1, none⟩ (.int .i64 t311)) w.heap.size (fun k_ => k_ ≠ gb295 ∧ k_ ≠ gb296) (.slice (some ⟨go51, 0, none⟩) x14_2.length co51) y312) := ⟨by (with_reducible repeat (first | apply Kd.R_alloc | apply Kd.R_drewN | apply Kd.R_drew)); exact HQ57.out⟩
                               have n2_ : Aside0 (((w56.setCell ⟨go51, l1.length * 2, none⟩ (.int .i64 t310)).setCell ⟨go51, l1.length * 2 + 1, none⟩ (.int .i64 t311)).heap[gb294]? = some (.cells #[.int .i64 a0_0, .slice (some ad304) l0_1.length c0_1] 29 (0, 0))) := ⟨by (with_reducible repeat (first | refine blk_drewN ?_ _ | refine blk_drew ?_ | refine blk_alloc ?_ _)); refine blk_far ?_ (by have h_ := Kd.R_ne HO_14.out BK294.out (by decide); intro e_; exact h_ (by rw [e_]; rfl)) _; (with_reducible repeat (first | refine blk_drewN ?_ _ | refine blk_drew ?_ | refine blk_alloc ?_ _)); refine blk_far ?_ (by have h_ := Kd.R_ne HO_14.out BK294.out (by decide); intro e_; exact h_ (by rw [e_]; rfl)) _; (with_reducible repeat (first | refine blk_drewN ?_ _ | refine blk_drew ?_ | refine blk_alloc ?_ _)); exact BK294.out⟩
                               have n3_ : Aside0 (((w56.setCell ⟨go51, l1.length * 2, none⟩ (.int .i64 t310)).setCell ⟨go51, l1.length * 2 + 1, none⟩ (.int .i64 t311)).heap[gb295]? = some (.cells #[.int .i64 x296000_2, .int .i64 x296001_2] 67 (0, 0))) := ⟨by (with_reducible repeat (first | refine blk_drewN ?_ _ | refine blk_drew ?_ | refine blk_alloc ?_ _)); refine blk_far ?_ (by have h_ := Kd.R_away HO_14.out (fun _ hk => hk.1); intro e_; exact h_ (by rw [e_]; rfl)) _; (with_reducible repeat (first | refine blk_drewN ?_ _ | refine blk_drew ?_ | refine blk_alloc ?_ _)); refine blk_far ?_ (by have h_ := Kd.R_away HO_14.out (fun _ hk => hk.1); intro e_; exact h_ (by rw [e_]; rfl)) _; (with_reducible repeat (first | refine blk_drewN ?_ _ | refine blk_drew ?_ | refine blk_alloc ?_ _)); exact BK295.out⟩
                               have n4_ : Aside0 (((w56.setCell ⟨go51, l1.length * 2, none⟩ (.int .i64 t310)).setCell ⟨go51, l1.length * 2 + 1, none⟩ (.int .i64 t311)).heap[gb296]? = some (.cells #[.int .i64 x297000_2, .int .i64 x297001_2] 67 (0, 0))) := ⟨by (with_reducible repeat (first | refine blk_drewN ?_ _ | refine blk_drew ?_ | refine blk_alloc ?_ _)); refine blk_far ?_ (by have h_ := Kd.R_away HO_14.out (fun _ hk => hk.2); intro e_; exact h_ (by rw [e_]; rfl)) _; (with_reducible repeat (first | refine blk_drewN ?_ _ | refine blk_drew ?_ | refine blk_alloc ?_ _)); refine blk_far ?_ (by have h_ := Kd.R_away HO_14.out (fun _ hk => hk.2); intro e_; exact h_ (by rw [e_]; rfl)) _; (with_reducible repeat (first | refine blk_drewN ?_ _ | refine blk_drew ?_ | refine blk_alloc ?_ _)); exact BK296.out⟩
                               have n5_ : Aside0 (Below w.heap.size w ((w56.setCell ⟨go51, l1.length * 2, none⟩ (.int .i64 t310)).setCell ⟨go51, l1.length * 2 + 1, none⟩ (.int .i64 t311))) := ⟨by repeat (first | (with_reducible first | exact HB.out | apply below_alloc | apply pw_below_drewN | apply below_drew1 | refine below_set ?_ GB51.out | refine below_set ?_ GB51.out | refine below_set ?_ GE294.out | refine below_set ?_ GE295.out | refine below_set ?_ GE296.out) | exact HB.out)⟩
                               (try clear HO_11)
                               (try clear HO_14)
                               (try clear BK294)
                               (try clear BK295)
                               (try clear BK296)
                               (try clear HB)
                               generalize ((w56.setCell ⟨go51, l1.length * 2, none⟩ (.int .i64 t310)).setCell ⟨go51, l1.length * 2 + 1, none⟩ (.int .i64 t311)) = w58 at n0_ n1_ n2_ n3_ n4_ n5_ ⊢
                               have HO_11 := n0_
                               have HO_14 := n1_
                               have BK294 := n2_
                               have BK295 := n3_
                               have BK296 := n4_
                               have HB := n5_
                               clear n0_ n1_ n2_ n3_ n4_ n5_
                               try go_wp2_with (first | ((with_reducible refine gate_builtin (b := .append) (xs := #[.tmp 81, .tmp 83]) rfl ?_); at_builtin; refine Kd.S_append (Kd.slice 67 k67) (w0 := w) w.heap.size rfl (.tmp 81) (.tmp 83) 64 65 (.slice none 0 0) 24 rfl Try.underlying64 info65 rfl (by decide) (by omega) u11 x11_1 y312 [.slice (some ⟨go51, 0, none⟩) x14_2.length co51] (fun k_ => k_ ≠ gb295 ∧ k_ ≠ gb296) (fun k_ => some k_ = (.slice (some ⟨go51, 0, none⟩) x14_2.length co51 : Value).ownBlock) rfl rfl ?aP (fun k_ hk_ => ((Kd.R_mono (ok' := fun k_ => ((fun k_ => k_ ≠ gb295 ∧ k_ ≠ gb296)) k_ ∧ some k_ ≠ (u11 : Value).ownBlock) (Kd.R_apart' (HO_14.out) (Kd.S_typed HO_11.out) (by decide)) (fun k_ hk => ⟨⟨hk.1.1, hk.1.2⟩, hk.2⟩))).1 k_ hk_.symm) ?aF ?aO ?aB ?aS ?aL ?_; (case aP => exact Kd.M_row (Kd.R_mono (Kd.R_tight rfl (Kd.R_mono (ok' := fun k_ => ((fun k_ => k_ ≠ gb295 ∧ k_ ≠ gb296)) k_ ∧ some k_ ≠ (u11 : Value).ownBlock) (Kd.R_apart' (HO_14.out) (Kd.S_typed HO_11.out) (by decide)) (fun k_ hk => ⟨⟨hk.1.1, hk.1.2⟩, hk.2⟩))) (fun _ h_ => h_))); (case aB => exact (by repeat (first | (with_reducible first | exact HB.out | apply below_alloc | apply pw_below_drewN | apply below_drew1 | refine below_set ?_ GE294.out | refine below_set ?_ GE295.out | refine below_set ?_ GE296.out) | exact HB.out))); (case aF => exact (fun k_ hk => ⟨Kd.freshB (g := gb295) (o := .cells #[.int .i64 x296000_2, .int .i64 x296001_2] 67 (0, 0)) (by (with_reducible repeat (first | refine blk_drewN ?_ _ | refine blk_drew ?_ | refine blk_alloc ?_ _)); exact BK295.out) k_ hk, Kd.freshB (g := gb296) (o := .cells #[.int .i64 x297000_2, .int .i64 x297001_2] 67 (0, 0)) (by (with_reducible repeat (first | refine blk_drewN ?_ _ | refine blk_drew ?_ | refine blk_alloc ?_ _)); exact BK296.out) k_ hk⟩)); (case aO => exact (by (with_reducible repeat (first | apply Kd.S_alloc | apply Kd.S_drewN | apply Kd.S_drew)); exact Kd.S_mono HO_11.out (fun k_ hk => ⟨⟨hk.2.1, hk.2.2⟩, fun e_ => hk.1 e_⟩))); (case aS => exact (below_size (by repeat (first | (with_reducible first | exact HB.out | apply below_alloc | apply pw_below_drewN | apply below_drew1 | refine below_set ?_ GE294.out | refine below_set ?_ GE295.out | refine below_set ?_ GE296.out) | exact HB.out)))); (case aL => have := LMc52.out; omega); intro v314 w59 ho hb hg hat; rw [← Ny313.out] at ho; have n0_ := Aside0.mk (blk_grown (g := gb294) (o := .cells #[.int .i64 a0_0, .slice (some ad304) l0_1.length c0_1] 29 (0, 0)) (by (with_reducible repeat (first | refine blk_drewN ?_ _ | refine blk_drew ?_ | refine blk_alloc ?_ _)); exact BK294.out) hg (Kd.S_ne HO_11.out BK294.out (by decide))); have n1_ := Aside0.mk (blk_grown (g := gb295) (o := .cells #[.int .i64 x296000_2, .int .i64 x296001_2] 67 (0, 0)) (by (with_reducible repeat (first | refine blk_drewN ?_ _ | refine blk_drew ?_ | refine blk_alloc ?_ _)); exact BK295.out) hg (Kd.S_ne HO_11.out BK295.out (by decide))); have n2_ := Aside0.mk (blk_grown (g := gb296) (o := .cells #[.int .i64 x297000_2, .int .i64 x297001_2] 67 (0, 0)) (by (with_reducible repeat (first | refine blk_drewN ?_ _ | refine blk_drew ?_ | refine blk_alloc ?_ _)); exact BK296.out) hg (Kd.S_ne HO_11.out BK296.out (by decide))); have n3_ := Aside0.mk (hb); have n4_ := Aside0.mk (ho); clear BK294; clear BK295; clear BK296; clear HB; clear HO_11; clear HO_14; have BK294 := n0_; have BK295 := n1_; have BK296 := n2_; have HB := n3_; have HO315 := n4_; clear n0_ n1_ n2_ n3_ n4_; clear ho hb hg hat))
                               (first | go_roundg k2 | (try subst hji12; go_roundg k2))
                               case measure => have := HK1.out; have := HK2.out; omega
                               case rel => exact ⟨(y313), (wrap64 (x19_1 + 1)), (x296000_2), (x296001_2), (x297000_2), (x297001_2), (by first | rfl | (simp; done) | (simp [*]; done)), H', ⟨by have := HK1.out; have := HK2.out; omega⟩, ⟨by (with_reducible repeat (first | apply Kd.S_alloc | apply Kd.S_drewN | apply Kd.S_drew)); exact HO315.out⟩, ⟨by (with_reducible repeat (first | refine blk_drewN ?_ _ | refine blk_drew ?_ | refine blk_alloc ?_ _)); exact BK294.out⟩, ⟨by (with_reducible repeat (first | refine blk_drewN ?_ _ | refine blk_drew ?_ | refine blk_alloc ?_ _)); exact BK295.out⟩, ⟨by (with_reducible repeat (first | refine blk_drewN ?_ _ | refine blk_drew ?_ | refine blk_alloc ?_ _)); exact BK296.out⟩, ⟨by repeat (first | (with_reducible first | exact HB.out | apply below_alloc | apply pw_below_drewN | apply below_drew1 | refine below_set ?_ GE294.out | refine below_set ?_ GE295.out | refine below_set ?_ GE296.out) | exact HB.out)⟩⟩
                             · rw [if_neg c52] at H
                               exact absurd H (by simp)
                           · rw [if_neg c50] at H
                             exact absurd H (by simp)
                         · rw [if_neg c49] at H
                           exact absurd H (by simp)
                       · rw [if_neg c45] at H
                         exact absurd H (by simp)
                     · rw [if_neg c44] at H
                       exact absurd H (by simp)
                   · rw [if_neg c43] at H
                     exact absurd H (by simp)
                 · rw [if_neg c42] at H
                   exact absurd H (by simp)
           · rw [if_neg c14] at H
             exact absurd H (by simp)
         · rw [if_neg c13] at H
           exact absurd H (by simp)
       · rw [if_neg c11] at H
         exact absurd H (by simp)
     · rw [if_neg c10] at H
       exact absurd H (by simp)
   · rw [if_neg c9] at H
     have c9b0 : decide (x19_1 < (l1.length : Int)) = false := decide_eq_false c9
     clear c9
     replace H := Option.bind_eq_some_iff.mp H
     obtain ⟨t297, A600, H⟩ := H
     replace H : (some t297) = some r := H
     have A60 := Aside0.mk A600
     clear A600
     obtain rfl := Option.some.inj H
     obtain ⟨Ao61, co61, eo61⟩ := Kd.S_slice HO_11.out
     subst eo61
     go_wp2_with (first | ((with_reducible refine gate_callee (f := 59) rfl ?_); refine goesL_ (some 87) rfl rfl Try.func59 (by kernel_rfl) rfl #[.slice Ao61 x11_1.length co61] rfl (by (try simp only [List.map_toArray, List.map_cons, List.map_nil]); first | done | rfl | (simp only [List.length_drop, List.length_take]; rfl)) ?_; (with_reducible refine (impl_solved.calls k1 (fun k_ => ((k_ ≠ gb295 ∧ k_ ≠ gb296) ∧ k_ ≠ gb294)) (.slice Ao61 x11_1.length co61) x11_1 t297 w _ ?side1 ?side2 A60.out).mono ?_); (case side1 => repeat (first | (with_reducible first | exact HB.out | apply below_alloc | apply pw_below_drewN | apply below_drew1 | refine below_set ?_ GE294.out | refine below_set ?_ GE295.out | refine below_set ?_ GE296.out) | exact HB.out)); (case side2 => exact Kd.S_types (HO_11.out) BK294.out (by decide)); rintro e w62 ⟨v298, rfl, ho0, hb, hkp⟩; refine ⟨_, rfl, ?_⟩; have n0_ := Aside0.mk (blk_kept (by (with_reducible repeat (first | refine blk_drewN ?_ _ | refine blk_drew ?_ | refine blk_alloc ?_ _)); exact BK294.out) hkp (fun hs_ => (fun e_ => (e_.2) rfl) hs_)); have n1_ := Aside0.mk (blk_kept (by (with_reducible repeat (first | refine blk_drewN ?_ _ | refine blk_drew ?_ | refine blk_alloc ?_ _)); exact BK295.out) hkp (fun hs_ => (fun e_ => (e_.1.1) rfl) hs_)); have n2_ := Aside0.mk (blk_kept (by (with_reducible repeat (first | refine blk_drewN ?_ _ | refine blk_drew ?_ | refine blk_alloc ?_ _)); exact BK296.out) hkp (fun hs_ => (fun e_ => (e_.1.2) rfl) hs_)); have n3_ := Aside0.mk (Kd.R_mono (ok' := fun k_ => k_ ≠ gb295 ∧ k_ ≠ gb296) ho0 (fun k_ hk_ => ⟨Or.elim hk_ (fun hs_ => fun e_ => by first | exact (Kd.R_ne HO_11.out BK295.out (by decide)) (by rw [← e_]; exact hs_) | exact hs_.1.1 e_ | exact hs_.1.2 e_ | exact hs_.2 e_) (fun hn_ => (Kd.freshB (g := gb295) (o := .cells #[.int .i64 x296000_1, .int .i64 x296001_1] 67 (0, 0)) (by (with_reducible repeat (first | refine blk_drewN ?_ _ | refine blk_drew ?_ | refine blk_alloc ?_ _)); exact BK295.out) k_ hn_)), Or.elim hk_ (fun hs_ => fun e_ => by first | exact (Kd.R_ne HO_11.out BK296.out (by decide)) (by rw [← e_]; exact hs_) | exact hs_.1.1 e_ | exact hs_.1.2 e_ | exact hs_.2 e_) (fun hn_ => (Kd.freshB (g := gb296) (o := .cells #[.int .i64 x297000_1, .int .i64 x297001_1] 67 (0, 0)) (by (with_reducible repeat (first | refine blk_drewN ?_ _ | refine blk_drew ?_ | refine blk_alloc ?_ _)); exact BK296.out) k_ hn_))⟩)); have n4_ := Aside0.mk (hb); clear BK294; clear BK295; clear BK296; clear HB; clear HO_11; have BK294 := n0_; have BK295 := n1_; have BK296 := n2_; have HO299 := n3_; have HB := n4_; clear n0_ n1_ n2_ n3_ n4_; (try clear hb); (try clear hkp); (try clear ho0)))
     go_ret
     exact ⟨_, by first | rfl | (simp [errW_none, errW_some] <;> rfl) | (simp [*, errW_none, errW_some] <;> rfl), by (with_reducible repeat (first | apply Kd.R_alloc | apply Kd.R_drewN | apply Kd.R_drew)); exact Kd.R_mono HO299.out (fun _ hk => trivial), by repeat (first | (with_reducible first | exact HB.out | apply below_alloc | apply pw_below_drewN | apply below_drew1 | refine below_set ?_ GE294.out | refine below_set ?_ GE295.out | refine below_set ?_ GE296.out) | exact HB.out)⟩
end Go.Proofs.Ytlpegpmcnimfbaa.PFnExactChanceToVisit
