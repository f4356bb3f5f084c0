-- written by a program of this session (the kit's print with turns of the session's own)
import Derived.Test.YtlpegpmcnimfbaaPFnExactChanceToEndx0
import Derived.Test.YtlpegpmcnimfbaaPFnExactChanceToEndx5
namespace Go.Proofs.Ytlpegpmcnimfbaa.PFnExactChanceToEnd
open Go.RowKit Go.Proofs.YtlpegpmcnimfbaaW.PrintWords Go.Proofs.YtlpegpmcnimfbaaW.PrintLast Go.Proofs.YtlpegpmcnimfbaaW.PrintMore
attribute [local go_sem] Instr.field asAgg part max2_int min2_int max_two min_two max_three min_three max_four min_four
set_option linter.unusedVariables false
set_option linter.unusedSimpArgs false
mutual
def impl_AreStates.j0 : Nat → Int → Bool → Int → List (List Int) → Option (Bool)
 | 0, _, _, _, _ => none
 | k + 1, x3, x20, x249000, x249001 => if x20 = true then (some false) else (impl_AreStates.l0 k x3 x249001 (x249001.length : Int) 0 x249000 x249001)
def impl_AreStates.l0 : Nat → Int → List (List Int) → Int → Int → Int → List (List Int) → Option (Bool)
 | 0, _, _, _, _, _, _ => none
 | k + 1, x3, x22, x23, x24, x249000, x249001 => if x24 < x23 then (if 0 ≤ x24 then (if x24 < (x22.length : Int) then (impl_AreStates.l1 k x3 (rd_L1 x22 x24) x249000 x22 x23 x24 (rd_L1 x22 x24) ((rd_L1 x22 x24).length : Int) 0 x249000 x249001) else (none)) else (none)) else (some true)
def impl_AreStates.l1 : Nat → Int → List Int → Int → List (List Int) → Int → Int → List Int → Int → Int → Int → List (List Int) → Option (Bool)
 | 0, _, _, _, _, _, _, _, _, _, _, _ => none
 | k + 1, x3, x5, x6, x22, x23, x24, x30, x31, x32, x249000, x249001 => if x32 < x31 then (if 0 ≤ x32 then (if x32 < (x30.length : Int) then ((impl_within.f (rd x30 x32) 0 x6).bind fun t253 => (if t253 = true then (impl_AreStates.l1 k x3 x5 (wrap64 (x6 - (rd x30 x32))) x22 x23 x24 x30 x31 (wrap64 (x32 + 1)) x249000 x249001) else (some false))) else (none)) else (none)) else (if (x5.length : Int) = x3 then (if x6 = 0 then (impl_AreStates.l0 k x3 x22 x23 (wrap64 (x24 + 1)) x249000 x249001) else (some false)) else (some false))
end
def impl_AreStates.f (k : Nat) (a0_0 : Int) (l0_1 : List (List Int)) : Option (Bool) := (impl_within.f a0_0 1 10).bind fun t249 => (if t249 = true then ((impl_within.f (l0_1.length : Int) 1 5).bind fun t250 => (impl_AreStates.j0 k (l0_1.length : Int) (!t250) a0_0 l0_1)) else (impl_AreStates.j0 k (l0_1.length : Int) true a0_0 l0_1))
set_option maxHeartbeats 8000000 in
set_option maxRecDepth 100000 in
theorem impl_AreStates.calls (k : Nat) (a0_0 : Int) (A0_1 : Option Addr) (c0_1 : Nat) (l0_1 : List (List Int)) (r : Bool) (w : World) (hr0_1 : Kd.C (Kd.slice 3 (Kd.int .i64)) w A0_1 l0_1.length l0_1) (hc0_1 : l0_1.length ≤ c0_1) (h : impl_AreStates.f k a0_0 l0_1 = some r) :
 Calls Try.prog 54 #[.agg #[.int .i64 a0_0, .slice A0_1 l0_1.length c0_1]] w fun e w' => e = .returned (.bool r) ∧ Below w.heap.size w w' := by
 have hu29 := Try.underlying29
 have HR0_1 := Aside0.mk hr0_1
 have HC0_1 := Aside0.mk hc0_1
 clear hr0_1 hc0_1
 have HB := Aside0.mk (Below.refl w.heap.size w)
 have H : ((impl_within.f a0_0 1 10).bind fun t249 => (if t249 = true then ((impl_within.f (l0_1.length : Int) 1 5).bind fun t250 => (impl_AreStates.j0 k (l0_1.length : Int) (!t250) a0_0 l0_1)) else (impl_AreStates.j0 k (l0_1.length : Int) true a0_0 l0_1))) = some r := h
 clear h
 have HC2 := Aside0.mk H
 clear H
 go_enter Try.func54, Try.ntmps54
 go_upto_region 2 with (first | ((with_reducible refine gate_dst (N := 1) rfl ?_); refine box_event ?hg (N := 1) ?hd (cs := #[.int .i64 a0_0, .slice A0_1 l0_1.length c0_1]) (t := 29) ?hr ?_; (case hd => rfl); (case hg => rfl); (case hr => first | (go_simp; done) | (go_simp; rfl)); intro gb248 hg w3 hbox hb; have n0_ := Aside0.mk (below_step (by repeat (first | (with_reducible first | exact HB.out | apply below_alloc | apply pw_below_drewN | apply below_drew1) | exact HB.out)) hb); have n1_ := Aside0.mk (hbox); have n2_ := Aside0.mk ((by rw [hg]; exact (below_size (by repeat (first | (with_reducible first | exact HB.out | apply below_alloc | apply pw_below_drewN | apply below_drew1) | exact HB.out))) : w.heap.size ≤ gb248)); have n3_ := Aside0.mk ((by rw [hg]; exact (below_size (by repeat (first | (with_reducible first | exact HB.out | apply below_alloc | apply pw_below_drewN | apply below_drew1) | exact HB.out))) : w.heap.size ≤ gb248)); clear HB; have HB := n0_; have BK248 := n1_; have GW248 := n2_; have GE248 := n3_; clear n0_ n1_ n2_ n3_; clear hb hbox hg; have hcz4_0 : w3.cell? ⟨gb248, 0, none⟩ = some (.int .i64 a0_0) := (blk_cell BK248.out 0).trans rfl; have hcz4_1 : w3.cell? ⟨gb248, 1, none⟩ = some (.slice A0_1 l0_1.length c0_1) := (blk_cell BK248.out 1).trans rfl; have hfz4_0 := blk_frozen BK248.out 0; have hfz4_1 := blk_frozen BK248.out 1))
 (try simp only [Act.put, List.setIfInBounds_toArray, List.set_cons_zero, List.set_cons_succ])
 go_cut [20] (fun v20 wc => ∃ (kq : Nat) (x20_1 : Bool), v20 = .bool x20_1 ∧ Aside0 (impl_AreStates.j0 kq (l0_1.length : Int) x20_1 a0_0 l0_1 = some r) ∧ Aside0 (kq ≤ k) ∧ Aside0 (wc.heap[gb248]? = some (.cells #[.int .i64 a0_0, (.slice A0_1 l0_1.length c0_1)] 29 (0, 0))) ∧ Aside0 (Below w.heap.size w wc))
 case first =>
  have H := HC2.out
  clear HC2
  replace H := Option.bind_eq_some_iff.mp H
  obtain ⟨t249, A50, H⟩ := H
  replace H : (if t249 = true then ((impl_within.f (l0_1.length : Int) 1 5).bind fun t250 => (impl_AreStates.j0 k (l0_1.length : Int) (!t250) a0_0 l0_1)) else (impl_AreStates.j0 k (l0_1.length : Int) true a0_0 l0_1)) = some r := H
  have A5 := Aside0.mk A50
  clear A50
  by_cases c6 : t249 = true
  · subst c6
    have H1 : ((impl_within.f (l0_1.length : Int) 1 5).bind fun t250 => (impl_AreStates.j0 k (l0_1.length : Int) (!t250) a0_0 l0_1)) = some r := by first | (rw [if_pos rfl] at H; exact H) | (simpa using H)
    clear H
    have H := H1
    clear H1
    replace H := Option.bind_eq_some_iff.mp H
    obtain ⟨t250, A70, H⟩ := H
    replace H : (impl_AreStates.j0 k (l0_1.length : Int) (!t250) a0_0 l0_1) = some r := H
    have A7 := Aside0.mk A70
    clear A70
    have H' := Aside0.mk H
    clear H
    have hcz8_0 : w3.cell? ⟨gb248, 0, none⟩ = some (.int .i64 a0_0) := (blk_cell BK248.out 0).trans rfl
    have hcz8_1 : w3.cell? ⟨gb248, 1, none⟩ = some (.slice A0_1 l0_1.length c0_1) := (blk_cell BK248.out 1).trans rfl
    have hfz8_0 := blk_frozen BK248.out 0
    have hfz8_1 := blk_frozen BK248.out 1
    go_wp2_with (first | ((with_reducible refine gate_callee (f := 74) rfl ?_); refine goesL_ (some 14) rfl rfl Try.func74 (by kernel_rfl) rfl #[.int .i64 a0_0, .int .i64 1, .int .i64 10] rfl (by (try simp only [List.map_toArray, List.map_cons, List.map_nil]); first | done | rfl | (simp only [List.length_drop, List.length_take]; rfl)) ?_; (with_reducible refine (impl_within.calls a0_0 1 10 true _ A5.out).mono ?_); rintro e w' ⟨rfl, ⟨nd, rfl⟩⟩; refine ⟨_, rfl, ?_⟩) | (go_at_call 74; (with_reducible refine (impl_within.calls (l0_1.length : Int) 1 5 t250 _ A7.out).mono ?_); rintro e w' ⟨rfl, ⟨nd, rfl⟩⟩))
    go_meet
    case rel => exact ⟨_, (!t250), (by first | rfl | (simp; done) | (simp [*]; done)), H', ⟨by first | omega | exact Nat.le_refl _⟩, ⟨by (with_reducible repeat (first | refine blk_drewN ?_ _ | refine blk_drew ?_ | refine blk_alloc ?_ _)); exact BK248.out⟩, ⟨by repeat (first | (with_reducible first | exact HB.out | apply below_alloc | apply pw_below_drewN | apply below_drew1 | refine below_set ?_ GE248.out) | exact HB.out)⟩⟩
  · replace c6 := Bool.eq_false_iff.mpr c6
    subst c6
    have H1 : (impl_AreStates.j0 k (l0_1.length : Int) true a0_0 l0_1) = some r := by first | (rw [if_neg (show ¬ (false = true) by decide)] at H; exact H) | (simpa using H)
    clear H
    have H := H1
    clear H1
    have H' := Aside0.mk H
    clear H
    have hcz9_0 : w3.cell? ⟨gb248, 0, none⟩ = some (.int .i64 a0_0) := (blk_cell BK248.out 0).trans rfl
    have hcz9_1 : w3.cell? ⟨gb248, 1, none⟩ = some (.slice A0_1 l0_1.length c0_1) := (blk_cell BK248.out 1).trans rfl
    have hfz9_0 := blk_frozen BK248.out 0
    have hfz9_1 := blk_frozen BK248.out 1
    go_wp2_with (first | ((with_reducible refine gate_callee (f := 74) rfl ?_); refine goesL_ (some 14) rfl rfl Try.func74 (by kernel_rfl) rfl #[.int .i64 a0_0, .int .i64 1, .int .i64 10] rfl (by (try simp only [List.map_toArray, List.map_cons, List.map_nil]); first | done | rfl | (simp only [List.length_drop, List.length_take]; rfl)) ?_; (with_reducible refine (impl_within.calls a0_0 1 10 false _ A5.out).mono ?_); rintro e w' ⟨rfl, ⟨nd, rfl⟩⟩; refine ⟨_, rfl, ?_⟩))
    go_meet
    case rel => exact ⟨_, (true), (by first | rfl | (simp; done) | (simp [*]; done)), H', ⟨by first | omega | exact Nat.le_refl _⟩, ⟨by (with_reducible repeat (first | refine blk_drewN ?_ _ | refine blk_drew ?_ | refine blk_alloc ?_ _)); exact BK248.out⟩, ⟨by repeat (first | (with_reducible first | exact HB.out | apply below_alloc | apply pw_below_drewN | apply below_drew1 | refine below_set ?_ GE248.out) | exact HB.out)⟩⟩
 case rest =>
  clear HC2
  try clear p2
  try clear c5
  try clear c6
  try clear c7
  try clear hcz4_0
  try clear hcz4_1
  try clear hcz8_0
  try clear hcz8_1
  try clear hcz9_0
  try clear hcz9_1
  try clear hfz4_0
  try clear hfz4_1
  try clear hfz8_0
  try clear hfz8_1
  try clear hfz9_0
  try clear hfz9_1
  obtain ⟨kq, x20_1, rfl, HA, HJ1, BK248, HB⟩ := hcut
  cases kq with
  | zero => exact absurd HA.out (by simp [impl_AreStates.j0])
  | succ kj1 =>
   have H := HA.out
   clear HA
   simp only [impl_AreStates.j0] at H
   by_cases c10 : x20_1 = true
   · subst c10
     have H1 : (some false) = some r := by first | (rw [if_pos rfl] at H; exact H) | (simpa using H)
     clear H
     have H := H1
     clear H1
     obtain rfl := Option.some.inj H
     go_wp2
     go_ret
     exact ⟨by first | rfl | (simp [errW_none, errW_some] <;> rfl) | (simp [*, errW_none, errW_some] <;> rfl), by repeat (first | (with_reducible first | exact HB.out | apply below_alloc | apply pw_below_drewN | apply below_drew1 | refine below_set ?_ GE248.out) | exact HB.out)⟩
   · replace c10 := Bool.eq_false_iff.mpr c10
     subst c10
     have H1 : (impl_AreStates.l0 kj1 (l0_1.length : Int) l0_1 (l0_1.length : Int) 0 a0_0 l0_1) = some r := by first | (rw [if_neg (show ¬ (false = true) by decide)] at H; exact H) | (simpa using H)
     clear H
     have H := H1
     clear H1
     have H' := Aside0.mk H
     clear H
     have hcz11_0 : wc.cell? ⟨gb248, 0, none⟩ = some (.int .i64 a0_0) := (blk_cell BK248.out 0).trans rfl
     have hcz11_1 : wc.cell? ⟨gb248, 1, none⟩ = some (.slice A0_1 l0_1.length c0_1) := (blk_cell BK248.out 1).trans rfl
     have hfz11_0 := blk_frozen BK248.out 0
     have hfz11_1 := blk_frozen BK248.out 1
     go_wp2
     go_loopg [24] kj1 (fun kq v24 w' => ∃ (x24_2 : Int), v24 = .int .i64 x24_2 ∧ Aside0 (impl_AreStates.l0 kq (l0_1.length : Int) l0_1 (l0_1.length : Int) x24_2 a0_0 l0_1 = some r) ∧ Aside0 (kq ≤ kj1) ∧ Aside0 (w'.heap[gb248]? = some (.cells #[.int .i64 a0_0, (.slice A0_1 l0_1.length c0_1)] 29 (0, 0))) ∧ Aside0 (Below w.heap.size w w'))
     case atStart => exact ⟨(0), (by first | rfl | (simp; done) | (simp [*]; done)), H', ⟨Nat.le_refl _⟩, ⟨by (with_reducible repeat (first | refine blk_drewN ?_ _ | refine blk_drew ?_ | refine blk_alloc ?_ _)); exact BK248.out⟩, ⟨by repeat (first | (with_reducible first | exact HB.out | apply below_alloc | apply pw_below_drewN | apply below_drew1 | refine below_set ?_ GE248.out) | exact HB.out)⟩⟩
     case round =>
      clear H'
      try clear c1
      try clear p2
      try clear c5
      try clear c6
      try clear c7
      try clear c10
      try clear hcz11_0
      try clear hcz11_1
      try clear hcz4_0
      try clear hcz4_1
      try clear hcz8_0
      try clear hcz8_1
      try clear hcz9_0
      try clear hcz9_1
      try clear hfz11_0
      try clear hfz11_1
      try clear hfz4_0
      try clear hfz4_1
      try clear hfz8_0
      try clear hfz8_1
      try clear hfz9_0
      try clear hfz9_1
      try clear p2
      obtain ⟨x24_2, rfl, HA, HK2, BK248, HB⟩ := hrel
      cases gk with
      | zero => exact absurd HA.out (by simp [impl_AreStates.l0])
      | succ k2 =>
       have H := HA.out
       clear HA
       simp only [impl_AreStates.l0] at H
       by_cases c12 : x24_2 < (l0_1.length : Int)
       · rw [if_pos c12] at H
         have c12b0 : decide (x24_2 < (l0_1.length : Int)) = true := decide_eq_true c12
         clear c12
         by_cases c13 : 0 ≤ x24_2
         · rw [if_pos c13] at H
           have c13b0 : decide (0 ≤ x24_2) = true := decide_eq_true c13
           clear c13
           by_cases c14 : x24_2 < (l0_1.length : Int)
           · rw [if_pos c14] at H
             have c14b0 : decide (x24_2 < (l0_1.length : Int)) = true := decide_eq_true c14
             clear c14
             have H' := Aside0.mk H
             clear H
             have p251 : 0 ≤ (x24_2 : Int) := of_decide_eq_true (by first | (with_reducible assumption) | assumption)
             have q251 : x24_2 < (l0_1.length : Int) := of_decide_eq_true (by first | (with_reducible assumption) | assumption)
             obtain ⟨ad251, A251_0, c251_0, e251, hx251_0, hl251_0, hi251_0⟩ := at_L1 HR0_1.out x24_2 p251 q251
             cases e251
             replace hx251_0 := (HB.out.cell (World.block_lt_of_cell? w _ hx251_0)).trans hx251_0
             have HR251_0 := Aside0.mk hi251_0
             have HC251_0 := Aside0.mk hl251_0
             clear hi251_0 hl251_0
             replace p251 := eq_true p251
             replace q251 := eq_true q251
             have hcz15_0 : wr.cell? ⟨gb248, 0, none⟩ = some (.int .i64 a0_0) := (blk_cell BK248.out 0).trans rfl
             have hcz15_1 : wr.cell? ⟨gb248, 1, none⟩ = some (.slice (some ad251) l0_1.length c0_1) := (blk_cell BK248.out 1).trans rfl
             have hfz15_0 := blk_frozen BK248.out 0
             have hfz15_1 := blk_frozen BK248.out 1
             go_wp2
             go_loopg [6, 32] k2 (fun kq v6 v32 w' => ∃ (x6_3 : Int) (x32_3 : Int), v6 = .int .i64 x6_3 ∧ v32 = .int .i64 x32_3 ∧ Aside0 (impl_AreStates.l1 kq (l0_1.length : Int) (rd_L1 l0_1 x24_2) x6_3 l0_1 (l0_1.length : Int) x24_2 (rd_L1 l0_1 x24_2) ((rd_L1 l0_1 x24_2).length : Int) x32_3 a0_0 l0_1 = some r) ∧ Aside0 (kq ≤ k2) ∧ Aside0 (w'.heap[gb248]? = some (.cells #[.int .i64 a0_0, (.slice (some ad251) l0_1.length c0_1)] 29 (0, 0))) ∧ Aside0 (Below w.heap.size w w'))
             case atStart => exact ⟨(a0_0), (0), (by first | rfl | (simp; done) | (simp [*]; done)), (by first | rfl | (simp; done) | (simp [*]; done)), H', ⟨Nat.le_refl _⟩, ⟨by (with_reducible repeat (first | refine blk_drewN ?_ _ | refine blk_drew ?_ | refine blk_alloc ?_ _)); exact BK248.out⟩, ⟨by repeat (first | (with_reducible first | exact HB.out | apply below_alloc | apply pw_below_drewN | apply below_drew1 | refine below_set ?_ GE248.out) | exact HB.out)⟩⟩
             case round =>
              clear H'
              try clear c1
              try clear c2
              try clear p2
              try clear q2
              try clear hx2
              try clear c5
              try clear c6
              try clear c7
              try clear c10
              try clear c12
              try clear c12b0
              try clear c13
              try clear c13b0
              try clear c14
              try clear c14b0
              try clear hcz11_0
              try clear hcz11_1
              try clear hcz15_0
              try clear hcz15_1
              try clear hcz4_0
              try clear hcz4_1
              try clear hcz8_0
              try clear hcz8_1
              try clear hcz9_0
              try clear hcz9_1
              try clear hfz11_0
              try clear hfz11_1
              try clear hfz15_0
              try clear hfz15_1
              try clear hfz4_0
              try clear hfz4_1
              try clear hfz8_0
              try clear hfz8_1
              try clear hfz9_0
              try clear hfz9_1
              try clear hx251_0
              try clear p2
              try clear p251
              try clear q251
              obtain ⟨x6_3, x32_3, rfl, rfl, HA, HK3, BK248, HB⟩ := hrel
              cases gk with
              | zero => exact absurd HA.out (by simp [impl_AreStates.l1])
              | succ k3 =>
               have H := HA.out
               clear HA
               simp only [impl_AreStates.l1] at H
               by_cases c16 : x32_3 < ((rd_L1 l0_1 x24_2).length : Int)
               · rw [if_pos c16] at H
                 have c16b0 : decide (x32_3 < ((rd_L1 l0_1 x24_2).length : Int)) = true := decide_eq_true c16
                 clear c16
                 by_cases c17 : 0 ≤ x32_3
                 · rw [if_pos c17] at H
                   have c17b0 : decide (0 ≤ x32_3) = true := decide_eq_true c17
                   clear c17
                   by_cases c18 : x32_3 < ((rd_L1 l0_1 x24_2).length : Int)
                   · rw [if_pos c18] at H
                     have c18b0 : decide (x32_3 < ((rd_L1 l0_1 x24_2).length : Int)) = true := decide_eq_true c18
                     clear c18
                     replace H := Option.bind_eq_some_iff.mp H
                     obtain ⟨t253, A190, H⟩ := H
                     replace H : (if t253 = true then (impl_AreStates.l1 k3 (l0_1.length : Int) (rd_L1 l0_1 x24_2) (wrap64 (x6_3 - (rd (rd_L1 l0_1 x24_2) x32_3))) l0_1 (l0_1.length : Int) x24_2 (rd_L1 l0_1 x24_2) ((rd_L1 l0_1 x24_2).length : Int) (wrap64 (x32_3 + 1)) a0_0 l0_1) else (some false)) = some r := H
                     have A19 := Aside0.mk A190
                     clear A190
                     by_cases c20 : t253 = true
                     · subst c20
                       have H1 : (impl_AreStates.l1 k3 (l0_1.length : Int) (rd_L1 l0_1 x24_2) (wrap64 (x6_3 - (rd (rd_L1 l0_1 x24_2) x32_3))) l0_1 (l0_1.length : Int) x24_2 (rd_L1 l0_1 x24_2) ((rd_L1 l0_1 x24_2).length : Int) (wrap64 (x32_3 + 1)) a0_0 l0_1) = some r := by first | (rw [if_pos rfl] at H; exact H) | (simpa using H)
                       clear H
                       have H := H1
                       clear H1
                       have H' := Aside0.mk H
                       clear H
                       have p252 : 0 ≤ (x32_3 : Int) := of_decide_eq_true (by first | (with_reducible assumption) | assumption)
                       have q252 : x32_3 < ((rd_L1 l0_1 x24_2).length : Int) := of_decide_eq_true (by first | (with_reducible assumption) | assumption)
                       obtain ⟨ad252, e252, hx252_0⟩ := Kd.at_int HR251_0.out x32_3 p252 q252
                       cases e252
                       replace hx252_0 := (HB.out.cell (World.block_lt_of_cell? w _ hx252_0)).trans hx252_0
                       replace p252 := eq_true p252
                       replace q252 := eq_true q252
                       go_wp2_with (first | ((with_reducible refine gate_callee (f := 74) rfl ?_); refine goesL_ (some 38) rfl rfl Try.func74 (by kernel_rfl) rfl #[.int .i64 (rd (rd_L1 l0_1 x24_2) x32_3), .int .i64 0, .int .i64 x6_3] rfl (by (try simp only [List.map_toArray, List.map_cons, List.map_nil]); first | done | rfl | (simp only [List.length_drop, List.length_take]; rfl)) ?_; (with_reducible refine (impl_within.calls (rd (rd_L1 l0_1 x24_2) x32_3) 0 x6_3 true _ A19.out).mono ?_); rintro e w' ⟨rfl, ⟨nd, rfl⟩⟩; refine ⟨_, rfl, ?_⟩))
                       go_roundg k3
                       case measure => have := HJ1.out; have := HK2.out; have := HK3.out; omega
                       case rel => exact ⟨(wrap64 (x6_3 - (rd (rd_L1 l0_1 x24_2) x32_3))), (wrap64 (x32_3 + 1)), (by first | rfl | (simp; done) | (simp [*]; done)), (by first | rfl | (simp; done) | (simp [*]; done)), H', ⟨by have := HJ1.out; have := HK2.out; have := HK3.out; omega⟩, ⟨by (with_reducible repeat (first | refine blk_drewN ?_ _ | refine blk_drew ?_ | refine blk_alloc ?_ _)); exact BK248.out⟩, ⟨by repeat (first | (with_reducible first | exact HB.out | apply below_alloc | apply pw_below_drewN | apply below_drew1 | refine below_set ?_ GE248.out) | exact HB.out)⟩⟩
                     · replace c20 := Bool.eq_false_iff.mpr c20
                       subst c20
                       have H1 : (some false) = some r := by first | (rw [if_neg (show ¬ (false = true) by decide)] at H; exact H) | (simpa using H)
                       clear H
                       have H := H1
                       clear H1
                       obtain rfl := Option.some.inj H
                       have p252 : 0 ≤ (x32_3 : Int) := of_decide_eq_true (by first | (with_reducible assumption) | assumption)
                       have q252 : x32_3 < ((rd_L1 l0_1 x24_2).length : Int) := of_decide_eq_true (by first | (with_reducible assumption) | assumption)
                       obtain ⟨ad252, e252, hx252_0⟩ := Kd.at_int HR251_0.out x32_3 p252 q252
                       cases e252
                       replace hx252_0 := (HB.out.cell (World.block_lt_of_cell? w _ hx252_0)).trans hx252_0
                       replace p252 := eq_true p252
                       replace q252 := eq_true q252
                       go_wp2_with (first | ((with_reducible refine gate_callee (f := 74) rfl ?_); refine goesL_ (some 38) rfl rfl Try.func74 (by kernel_rfl) rfl #[.int .i64 (rd (rd_L1 l0_1 x24_2) x32_3), .int .i64 0, .int .i64 x6_3] rfl (by (try simp only [List.map_toArray, List.map_cons, List.map_nil]); first | done | rfl | (simp only [List.length_drop, List.length_take]; rfl)) ?_; (with_reducible refine (impl_within.calls (rd (rd_L1 l0_1 x24_2) x32_3) 0 x6_3 false _ A19.out).mono ?_); rintro e w' ⟨rfl, ⟨nd, rfl⟩⟩; refine ⟨_, rfl, ?_⟩))
                       go_ret
                       exact ⟨by first | rfl | (simp [errW_none, errW_some] <;> rfl) | (simp [*, errW_none, errW_some] <;> rfl), by repeat (first | (with_reducible first | exact HB.out | apply below_alloc | apply pw_below_drewN | apply below_drew1 | refine below_set ?_ GE248.out) | exact HB.out)⟩
                   · rw [if_neg c18] at H
                     exact absurd H (by simp)
                 · rw [if_neg c17] at H
                   exact absurd H (by simp)
               · rw [if_neg c16] at H
                 have c16b0 : decide (x32_3 < ((rd_L1 l0_1 x24_2).length : Int)) = false := decide_eq_false c16
                 clear c16
                 by_cases c21 : ((rd_L1 l0_1 x24_2).length : Int) = (l0_1.length : Int)
                 · rw [if_pos c21] at H
                   have c21b0 : (((rd_L1 l0_1 x24_2).length : Int) == (l0_1.length : Int)) = true := beq_iff_eq.mpr c21
                   have c21b1 : (((rd_L1 l0_1 x24_2).length : Int) != (l0_1.length : Int)) = false := bne_eq_false_iff_eq.mpr c21
                   have c21b2 : ((rd_L1 l0_1 x24_2).length == l0_1.length) = true := by first | simpa using c21 | (simp at c21 ⊢; omega)
                   clear c21
                   by_cases c22 : x6_3 = 0
                   · rw [if_pos c22] at H
                     have c22b0 : (x6_3 == 0) = true := beq_iff_eq.mpr c22
                     have c22b1 : (x6_3 != 0) = false := bne_eq_false_iff_eq.mpr c22
                     clear c22
                     have H' := Aside0.mk H
                     clear H
                     go_wp2
                     go_roundg k3
                     case measure => have := HJ1.out; have := HK2.out; have := HK3.out; omega
                     case rel => exact ⟨(wrap64 (x24_2 + 1)), (by first | rfl | (simp; done) | (simp [*]; done)), H', ⟨by have := HJ1.out; have := HK2.out; have := HK3.out; omega⟩, ⟨by (with_reducible repeat (first | refine blk_drewN ?_ _ | refine blk_drew ?_ | refine blk_alloc ?_ _)); exact BK248.out⟩, ⟨by repeat (first | (with_reducible first | exact HB.out | apply below_alloc | apply pw_below_drewN | apply below_drew1 | refine below_set ?_ GE248.out) | exact HB.out)⟩⟩
                   · rw [if_neg c22] at H
                     have c22b0 : (x6_3 == 0) = false := beq_eq_false_iff_ne.mpr c22
                     have c22b1 : (x6_3 != 0) = true := bne_iff_ne.mpr c22
                     obtain rfl := Option.some.inj H
                     go_wp2
                     go_ret
                     exact ⟨by first | rfl | (simp [errW_none, errW_some] <;> rfl) | (simp [*, errW_none, errW_some] <;> rfl), by repeat (first | (with_reducible first | exact HB.out | apply below_alloc | apply pw_below_drewN | apply below_drew1 | refine below_set ?_ GE248.out) | exact HB.out)⟩
                 · rw [if_neg c21] at H
                   have c21b0 : (((rd_L1 l0_1 x24_2).length : Int) == (l0_1.length : Int)) = false := beq_eq_false_iff_ne.mpr c21
                   have c21b1 : (((rd_L1 l0_1 x24_2).length : Int) != (l0_1.length : Int)) = true := bne_iff_ne.mpr c21
                   have c21b2 : ((rd_L1 l0_1 x24_2).length == l0_1.length) = false := by first | simpa using c21 | (simp at c21 ⊢; omega)
                   obtain rfl := Option.some.inj H
                   go_wp2
                   go_ret
                   exact ⟨by first | rfl | (simp [errW_none, errW_some] <;> rfl) | (simp [*, errW_none, errW_some] <;> rfl), by repeat (first | (with_reducible first | exact HB.out | apply below_alloc | apply pw_below_drewN | apply below_drew1 | refine below_set ?_ GE248.out) | exact HB.out)⟩
           · rw [if_neg c14] at H
             exact absurd H (by simp)
         · rw [if_neg c13] at H
           exact absurd H (by simp)
       · rw [if_neg c12] at H
         have c12b0 : decide (x24_2 < (l0_1.length : Int)) = false := decide_eq_false c12
         clear c12
         obtain rfl := Option.some.inj H
         go_wp2
         go_ret
         exact ⟨by first | rfl | (simp [errW_none, errW_some] <;> rfl) | (simp [*, errW_none, errW_some] <;> rfl), by repeat (first | (with_reducible first | exact HB.out | apply below_alloc | apply pw_below_drewN | apply below_drew1 | refine below_set ?_ GE248.out) | exact HB.out)⟩
def impl_areWith.bad (n : Nat) (i : Int) : Bool := if i ≥ 0 then !(decide (i ≤ wrap64 ((n : Int) - 1))) else true
def impl_areWith.f (k : Nat) (a0_0 : Int) (l0_1 : List (List Int)) (l1 : List Int) : Option (Bool) := (impl_AreStates.f k a0_0 l0_1).bind fun t => if t = true then (if l1.length < 4611686018427387904 then some (!(l1.any (impl_areWith.bad l0_1.length))) else none) else some false
set_option maxHeartbeats 8000000 in
set_option maxRecDepth 100000 in
theorem impl_areWith.lit (n c : Nat) (A : Option Addr) (b : Nat) (i : Int) (w W : World) (hb : b < w.heap.size) (h1 : w.cell? ⟨b, 1, none⟩ = some (.slice A n c)) (hbel : Below w.heap.size w W) :
 Calls Try.prog 73 #[.int .i64 i, .pointer (some ⟨b, 0, none⟩)] W fun e w' => e = .returned (.bool (impl_areWith.bad n i)) ∧ Below w.heap.size w w' := by
 have hu29 := Try.underlying29
 have hc : W.cell? ⟨b, 1, none⟩ = some (.slice A n c) := (hbel.cell (p := ⟨b, 1, none⟩) hb).trans h1
 clear h1
 have HB := Aside0.mk hbel
 clear hbel
 have hw : ∃ t, impl_within.f i 0 (wrap64 ((n : Int) - 1)) = some t ∧ impl_areWith.bad n i = !t := by
  unfold impl_within.f impl_areWith.bad
  by_cases h : i ≥ 0
  · exact ⟨decide (i ≤ wrap64 ((n : Int) - 1)), by rw [if_pos h], by rw [if_pos h]⟩
  · exact ⟨false, by rw [if_neg h], by rw [if_neg h]; rfl⟩
 obtain ⟨t, ht, hr⟩ := hw
 rw [hr]
 have HT := Aside0.mk ht
 clear ht hr
 go_enter Try.func73, Try.ntmps73
 go_wp2_with (go_at_call 74; (with_reducible refine (impl_within.calls i 0 (wrap64 ((n : Int) - 1)) t _ HT.out).mono ?_); rintro e w' ⟨rfl, ⟨nd, rfl⟩⟩)
 go_ret
 exact ⟨rfl, pw_below_drewN HB.out nd⟩
set_option maxHeartbeats 8000000 in
set_option maxRecDepth 100000 in
theorem impl_areWith.index (n c : Nat) (A : Option Addr) (b : Nat) (A1 : Option Addr) (c1 : Nat) (l1 : List Int) (w : World) (hb : b < w.heap.size) (h1 : w.cell? ⟨b, 1, none⟩ = some (.slice A n c)) (hr1 : Kd.C (Kd.int .i64) w A1 l1.length l1) (hlen : l1.length < 4611686018427387904) :
 Calls Try.prog 84 #[.slice A1 l1.length c1, .func (.func 73) #[] #[.pointer (some ⟨b, 0, none⟩)]] w fun e w' => (∃ x : Int, e = .returned (.int .i64 x) ∧ (0 ≤ x ↔ l1.any (impl_areWith.bad n) = true)) ∧ Below w.heap.size w w' := by
 have eg : ∀ args w, (callFunc 73 args).run Try.prog w = .ok (.enter 73 args) w := enters_ Try.func73 (by kernel_rfl) rfl
 have HR1 := Aside0.mk hr1
 have HL := Aside0.mk hlen
 have HC := Aside0.mk h1
 have Hb := Aside0.mk hb
 clear hr1 hlen h1 hb
 go_enter Try.func84, Try.ntmps84
 go_wp2
 go_loopg [5, 8] l1.length (fun gg _ s8 wr => ∃ kk : Nat, kk ≤ l1.length ∧ l1.length - kk ≤ gg ∧ s8 = .int .i64 kk ∧ Aside0 (Below w.heap.size w wr) ∧ Aside0 (∀ x ∈ l1.take kk, impl_areWith.bad n x = false))
 case atStart => exact ⟨0, Nat.zero_le _, by omega, rfl, ⟨Below.refl _ w⟩, ⟨by simp⟩⟩
 case round =>
  obtain ⟨kk, hkk, hg, rfl, BW, HA⟩ := hrel
  by_cases hlt : kk < l1.length
  · have hltz : (kk : Int) < (l1.length : Int) := by omega
    have p0 : 0 ≤ (kk : Int) := by omega
    obtain ⟨ad, e, hx⟩ := Kd.at_int HR1.out (kk : Int) p0 hltz
    cases e
    replace hx := (BW.out.cell (World.block_lt_of_cell? w _ hx)).trans hx
    rw [Int.toNat_natCast] at hx
    have hcall := impl_areWith.lit n c A b (rd l1 (kk : Int)) w wr Hb.out HC.out BW.out
    have hel : l1[kk]? = some (rd l1 (kk : Int)) := by
     unfold rd
     rw [Int.toNat_natCast, List.getD_eq_getElem?_getD, List.getElem?_eq_getElem hlt]
     rfl
    generalize rd l1 (kk : Int) = y at hx hcall hel
    have HE := Aside0.mk hel
    clear hel
    replace p0 := eq_true p0
    replace hltz := eq_true hltz
    cases hq : impl_areWith.bad n y with
    | true =>
     rw [hq] at hcall
     have HQ := Aside0.mk hq
     clear hq
     go_wp2_with (go_at_call 73; refine hcall.mono ?_; rintro e w' ⟨rfl, hb'⟩)
     go_ret
     refine ⟨⟨kk, rfl, ⟨fun _ => List.any_eq_true.2 ⟨_, List.mem_of_getElem? HE.out, HQ.out⟩, fun _ => by omega⟩⟩, hb'⟩
    | false =>
     rw [hq] at hcall
     have HQ := Aside0.mk hq
     clear hq
     go_wp2_with (go_at_call 73; refine hcall.mono ?_; rintro e w' ⟨rfl, hb'⟩)
     go_roundg (l1.length - (kk + 1))
     case measure => omega
     case rel =>
      refine ⟨kk + 1, by omega, by omega, by rw [show wrap64 ((kk : Int) + 1) = ((kk + 1 : Nat) : Int) from by have := HL.out; unfold wrap64; omega], ⟨hb'⟩, ⟨fun x hx' => ?_⟩⟩
      rw [List.take_add_one, HE.out, Option.toList_some, List.mem_append, List.mem_singleton] at hx'
      rcases hx' with hx' | hx'
      · exact HA.out x hx'
      · rw [hx']; exact HQ.out
  · have hltz : ¬ (kk : Int) < (l1.length : Int) := by omega
    have : kk = l1.length := by omega
    subst this
    go_wp2
    go_ret
    refine ⟨⟨-1, rfl, ⟨fun h => absurd h (by decide), fun h => ?_⟩⟩, BW.out⟩
    obtain ⟨x, hx, hb'⟩ : ∃ x, x ∈ l1 ∧ impl_areWith.bad n x = true := by simpa using h
    have := HA.out x (by rw [List.take_length]; exact hx)
    rw [this] at hb'
    cases hb'
set_option maxHeartbeats 8000000 in
set_option maxRecDepth 100000 in
theorem impl_areWith.contains (n c : Nat) (A : Option Addr) (b : Nat) (A1 : Option Addr) (c1 : Nat) (l1 : List Int) (w : World) (hb : b < w.heap.size) (h1 : w.cell? ⟨b, 1, none⟩ = some (.slice A n c)) (hr1 : Kd.C (Kd.int .i64) w A1 l1.length l1) (hlen : l1.length < 4611686018427387904) :
 Calls Try.prog 72 #[.slice A1 l1.length c1, .func (.func 73) #[] #[.pointer (some ⟨b, 0, none⟩)]] w fun e w' => e = .returned (.bool (l1.any (impl_areWith.bad n))) ∧ Below w.heap.size w w' := by
 have hcon := impl_areWith.index n c A b A1 c1 l1 w hb h1 hr1 hlen
 clear hb h1 hr1
 generalize l1.any (impl_areWith.bad n) = t at hcon ⊢
 go_enter Try.func72, Try.ntmps72
 go_wp2_with (go_at_call 84; refine hcon.mono ?_; rintro e w' ⟨⟨x, rfl, hx⟩, hb'⟩)
 go_ret
 refine ⟨?_, hb'⟩
 cases t with
 | true => simp [hx.2 rfl]
 | false =>
  have : ¬ (0 ≤ x) := fun h => by have := hx.1 h; cases this
  simp [this]
set_option maxHeartbeats 8000000 in
set_option maxRecDepth 100000 in
theorem impl_areWith.calls (k : Nat) (a0_0 : Int) (A0_1 : Option Addr) (c0_1 : Nat) (l0_1 : List (List Int)) (A1 : Option Addr) (c1 : Nat) (l1 : List Int) (r : Bool) (w : World) (hr0_1 : Kd.C (Kd.slice 3 (Kd.int .i64)) w A0_1 l0_1.length l0_1) (hc0_1 : l0_1.length ≤ c0_1) (hr1 : Kd.C (Kd.int .i64) w A1 l1.length l1) (hc1 : l1.length ≤ c1) (h : impl_areWith.f k a0_0 l0_1 l1 = some r) :
 Calls Try.prog 37 #[.agg #[.int .i64 a0_0, .slice A0_1 l0_1.length c0_1], .slice A1 l1.length c1] w fun e w' => e = .returned (.bool r) ∧ Below w.heap.size w w' := by
 have hu29 := Try.underlying29
 unfold impl_areWith.f at h
 replace h := Option.bind_eq_some_iff.mp h
 obtain ⟨t, A2, H⟩ := h
 have hcc : ∀ W : World, Below w.heap.size w W → Kd.C (Kd.slice 3 (Kd.int .i64)) W A0_1 l0_1.length l0_1 := fun W hb => Kd.C_below hr0_1 hb
 have hc2 : ∀ W : World, Below w.heap.size w W → Kd.C (Kd.int .i64) W A1 l1.length l1 := fun W hb => Kd.C_below hr1 hb
 have HR0_1 := Aside0.mk hcc
 have HR1 := Aside0.mk hc2
 have HC0_1 := Aside0.mk hc0_1
 have A3 := Aside0.mk A2
 clear hr0_1 hr1 hcc hc2 hc0_1 hc1 A2
 have HB := Aside0.mk (Below.refl w.heap.size w)
 cases t with
 | false =>
  rw [if_neg (by decide)] at H
  obtain rfl := Option.some.inj H
  clear H
  go_enter Try.func37, Try.ntmps37
  go_wp2_with (go_at_call 54; (with_reducible refine (impl_AreStates.calls k _ _ _ l0_1 false _ ?side1 ?side2 A3.out).mono ?_); (case side1 => exact HR0_1.out _ (below_alloc (Below.refl _ _) _)); (case side2 => exact HC0_1.out); rintro e w' ⟨rfl, hb⟩; have HB2 := Aside0.mk hb; clear hb)
  go_ret
  exact ⟨rfl, below_step (below_alloc (Below.refl _ _) _) HB2.out⟩
 | true =>
  rw [if_pos rfl] at H
  by_cases hl : l1.length < 4611686018427387904
  · rw [if_pos hl] at H
    obtain rfl := Option.some.inj H
    clear H
    have HL := Aside0.mk hl
    clear hl
    go_enter Try.func37, Try.ntmps37
    go_wp2_with (first | (go_at_call 54; (with_reducible refine (impl_AreStates.calls k _ _ _ l0_1 true _ ?side1 ?side2 A3.out).mono ?_); (case side1 => exact HR0_1.out _ (below_alloc (Below.refl _ _) _)); (case side2 => exact HC0_1.out); rintro e w' ⟨rfl, hb⟩; have HB2 := Aside0.mk hb; clear hb) | (go_at_call 72; (with_reducible refine (impl_areWith.contains l0_1.length c0_1 A0_1 w.heap.size A1 c1 l1 _ ?side1 ?side2 ?side3 HL.out).mono ?_); (case side1 => have h_ := HB2.out.size; simp at h_; omega); (case side2 => exact (HB2.out.cell (p := ⟨w.heap.size, 1, none⟩) (by simp)).trans (by simp)); (case side3 => exact HR1.out _ (below_step (below_alloc (Below.refl _ _) _) HB2.out)); rintro e w' ⟨rfl, hb⟩; have HB3 := Aside0.mk hb; clear hb))
    go_ret
    exact ⟨rfl, below_step (below_step (below_alloc (Below.refl _ _) _) HB2.out) HB3.out⟩
  · rw [if_neg hl] at H; cases H
def impl_whole.f (a0 : Int) : Option (Int × Int) := some (a0, 1)
set_option maxHeartbeats 8000000 in
set_option maxRecDepth 100000 in
theorem impl_whole.calls (a0 : Int) (r1 : Int) (r2 : Int) (w : World) (h : impl_whole.f a0 = some (r1, r2)) :
 Calls Try.prog 58 #[.int .i64 a0] w fun e w' => e = .returned (.agg #[.int .i64 r1, .int .i64 r2]) ∧ Below w.heap.size w w' := by
 have hu67 := Try.underlying67
 have HB := Aside0.mk (Below.refl w.heap.size w)
 have H : (some (a0, 1)) = some (r1, r2) := h
 clear h
 simp only [Option.some.injEq, Prod.mk.injEq] at H
 obtain ⟨rfl, rfl⟩ := H
 go_enter Try.func58, Try.ntmps58
 go_wp2_with (first | ((with_reducible refine gate_dst (N := 2) rfl ?_); refine box_event ?hg (N := 2) ?hd (cs := #[.int .i64 0, .int .i64 0]) (t := 67) ?hr ?_; (case hd => rfl); (case hg => rfl); (case hr => first | (go_simp; done) | (go_simp; rfl)); intro gb254 hg w2 hbox hb; have n0_ := Aside0.mk (below_step (by repeat (first | (with_reducible first | exact HB.out | apply below_alloc | apply pw_below_drewN | apply below_drew1) | exact HB.out)) hb); have n1_ := Aside0.mk (hbox); have n2_ := Aside0.mk ((by rw [hg]; exact (below_size (by repeat (first | (with_reducible first | exact HB.out | apply below_alloc | apply pw_below_drewN | apply below_drew1) | exact HB.out))) : w.heap.size ≤ gb254)); have n3_ := Aside0.mk ((by rw [hg]; exact (below_size (by repeat (first | (with_reducible first | exact HB.out | apply below_alloc | apply pw_below_drewN | apply below_drew1) | exact HB.out))) : w.heap.size ≤ gb254)); clear HB; have HB := n0_; have BK254 := n1_; have GW254 := n2_; have GE254 := n3_; clear n0_ n1_ n2_ n3_; clear hb hbox hg; have hcz3_0 : w2.cell? ⟨gb254, 0, none⟩ = some (.int .i64 0) := (blk_cell BK254.out 0).trans rfl; have hcz3_1 : w2.cell? ⟨gb254, 1, none⟩ = some (.int .i64 0) := (blk_cell BK254.out 1).trans rfl; have hfz3_0 := blk_frozen BK254.out 0; have hfz3_1 := blk_frozen BK254.out 1))
 refine bodyPost_ret (results_cell_row rfl _ _ gb254 67 #[.int .i64 a0, .int .i64 1] (0, 0) _ rfl (by (with_reducible repeat (first | refine blk_drewN ?_ _ | refine blk_drew ?_ | refine blk_alloc ?_ _)); refine blk_put (cs := #[.int .i64 a0, .int .i64 0]) ?_ 1 _ rfl; (with_reducible repeat (first | refine blk_drewN ?_ _ | refine blk_drew ?_ | refine blk_alloc ?_ _)); refine blk_put (cs := #[.int .i64 0, .int .i64 0]) ?_ 0 _ rfl; (with_reducible repeat (first | refine blk_drewN ?_ _ | refine blk_drew ?_ | refine blk_alloc ?_ _)); exact BK254.out) Try.underlying67 rfl (by kernel_rfl)) rfl ?_
 exact ⟨by first | rfl | (simp [errW_none, errW_some] <;> rfl) | (simp [*, errW_none, errW_some] <;> rfl), by repeat (first | (with_reducible first | exact HB.out | apply below_alloc | apply pw_below_drewN | apply below_drew1 | refine below_set ?_ GE254.out) | exact HB.out)⟩
def impl_members.l0 : Nat → List Int → List Bool → Int → Int → Option (List Int)
 | 0, _, _, _, _ => none
 | k + 1, x3, x6, x7, x8 => if x8 < x7 then (if 0 ≤ x8 then (if x8 < (x6.length : Int) then (if rdOf false x6 x8 = true then (if x3.length < 17592186044416 then (impl_members.l0 k (x3 ++ [x8]) x6 x7 (wrap64 (x8 + 1))) else (none)) else (impl_members.l0 k x3 x6 x7 (wrap64 (x8 + 1)))) else (none)) else (none)) else (some x3)
def impl_members.f (k : Nat) (l0 : List Bool) : Option (List Int) := impl_members.l0 k ([] : List Int) l0 (l0.length : Int) 0
set_option maxHeartbeats 8000000 in
set_option maxRecDepth 100000 in
theorem impl_members.calls (k : Nat) (A0 : Option Addr) (c0 : Nat) (l0 : List Bool) (r : List Int) (w : World) (hr0 : Kd.C Kd.bool w A0 l0.length l0) (hc0 : l0.length ≤ c0) (h : impl_members.f k l0 = some r) :
 Calls Try.prog 45 #[.slice A0 l0.length c0] w fun e w' => ∃ v0_ : Value, e = .returned (v0_) ∧ Kd.R (Kd.int .i64) 3 w' w.heap.size (fun _ => True) v0_ r ∧ Below w.heap.size w w' := by
 have HR0 := Aside0.mk hr0
 have HC0 := Aside0.mk hc0
 clear hr0 hc0
 have HB := Aside0.mk (Below.refl w.heap.size w)
 have H : (impl_members.l0 k ([] : List Int) l0 (l0.length : Int) 0) = some r := h
 clear h
 have H' := Aside0.mk H
 clear H
 go_enter Try.func45, Try.ntmps45
 go_wp2
 go_loopg [3, 8] k (fun kq v3 v8 w' => ∃ (x3_1 : List Int) (x8_1 : Int), v8 = .int .i64 x8_1 ∧ Aside0 (impl_members.l0 kq x3_1 l0 (l0.length : Int) x8_1 = some r) ∧ Aside0 (kq ≤ k) ∧ Aside0 (Kd.R (Kd.int .i64) 3 w' w.heap.size (fun _ => True) v3 x3_1) ∧ Aside0 (Below w.heap.size w w'))
 case atStart => exact ⟨(([] : List Int)), (0), (by first | rfl | (simp; done) | (simp [*]; done)), H', ⟨Nat.le_refl _⟩, ⟨by first | exact Kd.R_nil _ _ _ _ _ | exact Kd.N_nil _ _ _ _ _ | exact Kd.V_nil _ _ _ _ _ | exact Kd.Q_nil _ _ _ _ _ | exact Kd.S_nil _ _ _ _ _⟩, ⟨by repeat (first | (with_reducible first | exact HB.out | apply below_alloc | apply pw_below_drewN | apply below_drew1) | exact HB.out)⟩⟩
 case round =>
  clear H'
  obtain ⟨x3_1, x8_1, rfl, HA, HK1, HO_3, HB⟩ := hrel
  cases gk with
  | zero => exact absurd HA.out (by simp [impl_members.l0])
  | succ k1 =>
   have H := HA.out
   clear HA
   simp only [impl_members.l0] at H
   by_cases c2 : x8_1 < (l0.length : Int)
   · rw [if_pos c2] at H
     have c2b0 : decide (x8_1 < (l0.length : Int)) = true := decide_eq_true c2
     clear c2
     by_cases c3 : 0 ≤ x8_1
     · rw [if_pos c3] at H
       have c3b0 : decide (0 ≤ x8_1) = true := decide_eq_true c3
       clear c3
       by_cases c4 : x8_1 < (l0.length : Int)
       · rw [if_pos c4] at H
         have c4b0 : decide (x8_1 < (l0.length : Int)) = true := decide_eq_true c4
         clear c4
         obtain ⟨bq5, hbq5⟩ : ∃ b_ : Bool, b_ = (rdOf false l0 x8_1) := ⟨_, rfl⟩
         replace H : (if bq5 = true then (if x3_1.length < 17592186044416 then (impl_members.l0 k1 (x3_1 ++ [x8_1]) l0 (l0.length : Int) (wrap64 (x8_1 + 1))) else (none)) else (impl_members.l0 k1 x3_1 l0 (l0.length : Int) (wrap64 (x8_1 + 1)))) = some r := by rw [← hbq5] at H; exact H
         have Nbq5 := Aside0.mk hbq5
         clear hbq5
         by_cases c6 : bq5 = true
         · subst c6
           have H1 : (if x3_1.length < 17592186044416 then (impl_members.l0 k1 (x3_1 ++ [x8_1]) l0 (l0.length : Int) (wrap64 (x8_1 + 1))) else (none)) = some r := by first | (rw [if_pos rfl] at H; exact H) | (simpa using H)
           clear H
           have H := H1
           clear H1
           by_cases c7 : x3_1.length < 17592186044416
           · rw [if_pos c7] at H
             have LMc7 := Aside0.mk c7
             clear c7
             obtain ⟨y256, hy256⟩ : ∃ y_ : List Int, y_ = (x3_1 ++ [x8_1]) := ⟨_, rfl⟩
             replace H : (impl_members.l0 k1 y256 l0 (l0.length : Int) (wrap64 (x8_1 + 1))) = some r := by first | (rw [hy256]; with_reducible exact H) | (have H2_ := (Option.bind_some _ _).symm.trans H; rw [hy256]; with_reducible exact H2_) | (have H2_ := (Option.bind_some _ _).symm.trans H; with_reducible exact H2_) | with_reducible exact H | (rw [hy256]; exact H) | exact H
             have Ny256 := Aside0.mk hy256
             clear hy256
             have H' := Aside0.mk H
             clear H
             have p255 : 0 ≤ (x8_1 : Int) := of_decide_eq_true (by first | (with_reducible assumption) | assumption)
             have q255 : x8_1 < (l0.length : Int) := of_decide_eq_true (by first | (with_reducible assumption) | assumption)
             obtain ⟨ad255, e255, hx255_0⟩ := Kd.at_bool HR0.out x8_1 p255 q255
             (try rw [← Nbq5.out] at hx255_0)
             cases e255
             replace hx255_0 := (HB.out.cell (World.block_lt_of_cell? w _ hx255_0)).trans hx255_0
             replace p255 := eq_true p255
             replace q255 := eq_true q255
             go_wp2_with (first | ((with_reducible refine gate_builtin (b := .append) (xs := #[.tmp 14, .tmp 16]) rfl ?_); at_builtin; refine Kd.R_append (Kd.int .i64) (w0 := w) w.heap.size rfl (.tmp 14) (.tmp 16) 26 3 (.int .i64 0) 8 rfl Try.underlying26 info3 rfl (by decide) (by omega) u3 x3_1 x8_1 [.int .i64 x8_1] (fun _ => True) (fun _ => False) rfl rfl ?aP (fun _ hk => hk.elim) ?aF ?aO ?aB ?aS ?aL ?_; (case aP => exact rfl); (case aB => exact (by repeat (first | (with_reducible first | exact HB.out | apply below_alloc | apply pw_below_drewN | apply below_drew1) | exact HB.out))); (case aF => exact (fun _ _ => trivial)); (case aO => exact (by (with_reducible repeat (first | apply Kd.R_alloc | apply Kd.R_drewN | apply Kd.R_drew)); exact HO_3.out)); (case aS => exact (below_size (by repeat (first | (with_reducible first | exact HB.out | apply below_alloc | apply pw_below_drewN | apply below_drew1) | exact HB.out)))); (case aL => have := LMc7.out; omega); intro v257 w8 ho hb hg hat; rw [← Ny256.out] at ho; have n0_ := Aside0.mk (hb); have n1_ := Aside0.mk (ho); clear HB; clear HO_3; have HB := n0_; have HO258 := n1_; clear n0_ n1_; clear ho hb hg hat))
             go_roundg k1
             case measure => have := HK1.out; omega
             case rel => exact ⟨(y256), (wrap64 (x8_1 + 1)), (by first | rfl | (simp; done) | (simp [*]; done)), H', ⟨by have := HK1.out; omega⟩, ⟨by (with_reducible repeat (first | apply Kd.R_alloc | apply Kd.R_drewN | apply Kd.R_drew)); exact HO258.out⟩, ⟨by repeat (first | (with_reducible first | exact HB.out | apply below_alloc | apply pw_below_drewN | apply below_drew1) | exact HB.out)⟩⟩
           · rw [if_neg c7] at H
             exact absurd H (by simp)
         · replace c6 := Bool.eq_false_iff.mpr c6
           subst c6
           have H1 : (impl_members.l0 k1 x3_1 l0 (l0.length : Int) (wrap64 (x8_1 + 1))) = some r := by first | (rw [if_neg (show ¬ (false = true) by decide)] at H; exact H) | (simpa using H)
           clear H
           have H := H1
           clear H1
           have H' := Aside0.mk H
           clear H
           have p255 : 0 ≤ (x8_1 : Int) := of_decide_eq_true (by first | (with_reducible assumption) | assumption)
           have q255 : x8_1 < (l0.length : Int) := of_decide_eq_true (by first | (with_reducible assumption) | assumption)
           obtain ⟨ad255, e255, hx255_0⟩ := Kd.at_bool HR0.out x8_1 p255 q255
           (try rw [← Nbq5.out] at hx255_0)
           cases e255
           replace hx255_0 := (HB.out.cell (World.block_lt_of_cell? w _ hx255_0)).trans hx255_0
           replace p255 := eq_true p255
           replace q255 := eq_true q255
           go_wp2
           go_roundg k1
           case measure => have := HK1.out; omega
           case rel => exact ⟨(x3_1), (wrap64 (x8_1 + 1)), (by first | rfl | (simp; done) | (simp [*]; done)), H', ⟨by have := HK1.out; omega⟩, ⟨by (with_reducible repeat (first | apply Kd.R_alloc | apply Kd.R_drewN | apply Kd.R_drew)); exact HO_3.out⟩, ⟨by repeat (first | (with_reducible first | exact HB.out | apply below_alloc | apply pw_below_drewN | apply below_drew1) | exact HB.out)⟩⟩
       · rw [if_neg c4] at H
         exact absurd H (by simp)
     · rw [if_neg c3] at H
       exact absurd H (by simp)
   · rw [if_neg c2] at H
     have c2b0 : decide (x8_1 < (l0.length : Int)) = false := decide_eq_false c2
     clear c2
     obtain rfl := Option.some.inj H
     go_wp2
     go_ret
     exact ⟨_, by first | rfl | (simp [errW_none, errW_some] <;> rfl) | (simp [*, errW_none, errW_some] <;> rfl), by (with_reducible repeat (first | apply Kd.R_alloc | apply Kd.R_drewN | apply Kd.R_drew)); exact HO_3.out, by repeat (first | (with_reducible first | exact HB.out | apply below_alloc | apply pw_below_drewN | apply below_drew1) | exact HB.out)⟩
end Go.Proofs.Ytlpegpmcnimfbaa.PFnExactChanceToEnd
