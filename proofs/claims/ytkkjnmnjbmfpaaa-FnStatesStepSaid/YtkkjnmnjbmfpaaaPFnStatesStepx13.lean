-- written by a program of this session (the kit's print with turns of the session's own)
import Derived.Test.YtkkjnmnjbmfpaaaPFnStatesStepx0
import Derived.Test.YtkkjnmnjbmfpaaaHp
import Derived.Test.YtkkjnmnjbmfpaaaPFnStatesStepx2
import Derived.Test.YtkkjnmnjbmfpaaaPFnStatesStepx3
namespace Go.Proofs.Ytkkjnmnjbmfpaaa.PFnStatesStep
open Go.RowKit Go.Proofs.YtkkjnmnjbmfpaaaW.PrintWords Go.Proofs.YtkkjnmnjbmfpaaaW.PrintLast Go.Proofs.YtkkjnmnjbmfpaaaW.PrintMore
attribute [local go_sem] Instr.field asAgg part max2_int min2_int max_two min_two max_three min_three max_four min_four
set_option linter.unusedVariables false
set_option linter.unusedSimpArgs false
def laws_uSum.l0 : Nat → Int → List Int → Int → Int → Option (Int)
 | 0, _, _, _, _ => none
 | k + 1, x3, x6, x7, x8 => if x8 < x7 then (if 0 ≤ x8 then (if x8 < (x6.length : Int) then (laws_uSum.l0 k (wrap64 (x3 + (rd x6 x8))) x6 x7 (wrap64 (x8 + 1))) else (none)) else (none)) else (some x3)
def laws_uSum.f (k : Nat) (l0 : List Int) : Option (Int) := laws_uSum.l0 k 0 l0 (l0.length : Int) 0
set_option maxHeartbeats 8000000 in
set_option maxRecDepth 100000 in
theorem laws_uSum.calls (k : Nat) (A0 : Option Addr) (c0 : Nat) (l0 : List Int) (r : Int) (w : World) (hr0 : Kd.C (Kd.int .i64) w A0 l0.length l0) (hc0 : l0.length ≤ c0) (h : laws_uSum.f k l0 = some r) :
 Calls Try.prog 24 #[.slice A0 l0.length c0] w fun e w' => e = .returned (.int .i64 r) ∧ Drawn0 w w' := by
 have HR0 := am hr0
 have HC0 := am hc0
 clear hr0 hc0
 have H := h
 clear h
 unfold laws_uSum.f at H
 have H' := am H
 clear H
 go_enter Try.func24, Try.ntmps24
 go_wp2
 go_loopg [3, 8] k (fun kq v3 v8 w' => ∃ (x3_1 : Int) (x8_1 : Int), v3 = .int .i64 x3_1 ∧ v8 = .int .i64 x8_1 ∧ Aside0 (laws_uSum.l0 kq x3_1 l0 (l0.length : Int) x8_1 = some r) ∧ Aside0 (kq ≤ k) ∧ Drawn0 w w')
 case atStart => exact ⟨(0), (0), sR, sR, H', ⟨Nat.le_refl _⟩, dW⟩
 case round =>
  clear H'
  obtain ⟨x3_1, x8_1, rfl, rfl, HA, HK1, ⟨m1, rfl⟩⟩ := hrel
  cases gk with
  | zero => exact absurd HA.out (by simp [laws_uSum.l0])
  | succ k1 =>
   have H := HA.out
   clear HA
   simp only [laws_uSum.l0] at H
   by_cases c2 : x8_1 < (l0.length : Int)
   · rw [if_pos c2] at H
     have c2b0 := decide_eq_true c2
     clear c2
     replace H := ifP H
     obtain ⟨c3, H⟩ := H
     have c3b0 := decide_eq_true c3
     clear c3
     replace H := ifP H
     obtain ⟨c4, H⟩ := H
     have c4b0 := decide_eq_true c4
     clear c4
     have H' := am H
     clear H
     have p509 : 0 ≤ (x8_1 : Int) := dT
     have q509 : x8_1 < (l0.length : Int) := dT
     obtain ⟨ad509, e509, hx509_0⟩ := Kd.at_int HR0.out x8_1 p509 q509
     cases e509
     replace p509 := eq_true p509
     replace q509 := eq_true q509
     go_wp2
     go_roundg k1
     case measure => have := HK1.out; omega
     case rel => exact ⟨(wrap64 (x3_1 + (rd l0 x8_1))), (wrap64 (x8_1 + 1)), sR, sR, H', ⟨oK⟩, dW⟩
   · rw [if_neg c2] at H
     have c2b0 := decide_eq_false c2
     clear c2
     obtain rfl := Option.some.inj H
     go_wp2
     go_ret
     exact ⟨sR, dW⟩
mutual
def impl_CountWays.j0 : Nat → Int → Int → Int → Bool → Int → List (List Int) → Option (Int × Bool)
 | 0, _, _, _, _, _, _ => none
 | k + 1, x1, x2, x3, x27, x511000, x511001 => if x27 = true then (some (0, false)) else (impl_CountWays.l0 k x1 x2 x3 x511001 (x511001.length : Int) 0 x511000 ([] : List (List Int)))
def impl_CountWays.l0 : Nat → Int → Int → Int → List (List Int) → Int → Int → Int → List (List Int) → Option (Int × Bool)
 | 0, _, _, _, _, _, _, _, _ => none
 | k + 1, x1, x2, x3, x32, x33, x34, x517000, x517001 => if x34 < x33 then (if 0 ≤ x34 then (if x34 < (x32.length : Int) then (if 0 ≤ ((rd_L2 x32 x34).length : Int) then (if (((rd_L2 x32 x34).length : Int) : Int).toNat ≤ 35184372088832 then (impl_CountWays.l1 k x1 x2 x3 (List.replicate (((rd_L2 x32 x34).length : Int) : Int).toNat 0) x32 x33 x34 (rd_L2 x32 x34) ((rd_L2 x32 x34).length : Int) 0 x517000 x517001) else (none)) else (none)) else (none)) else (none)) else ((impl_States_only.f x517000 x517001 x1).bind fun t526 => (impl_CountWays.l2 k x2 t526 x3 0 x517000 x517001))
def impl_CountWays.l1 : Nat → Int → Int → Int → List Int → List (List Int) → Int → Int → List Int → Int → Int → Int → List (List Int) → Option (Int × Bool)
 | 0, _, _, _, _, _, _, _, _, _, _, _, _ => none
 | k + 1, x1, x2, x3, x13, x32, x33, x34, x41, x42, x43, x517000, x517001 => if x43 < x42 then (if 0 ≤ x43 then (if x43 < (x41.length : Int) then (if x43 < (x13.length : Int) then (impl_CountWays.l1 k x1 x2 x3 (x13.set (x43 : Int).toNat (mn (rd x41 x43) 1)) x32 x33 x34 x41 x42 (wrap64 (x43 + 1)) x517000 x517001) else (none)) else (none)) else (none)) else (if x517001.length < 5864062014805 then (impl_CountWays.l0 k x1 x2 x3 x32 x33 (wrap64 (x34 + 1)) x517000 (x517001 ++ [x13])) else (none))
def impl_CountWays.l2 : Nat → Int → List Int → Int → Int → Int → List (List Int) → Option (Int × Bool)
 | 0, _, _, _, _, _, _ => none
 | k + 1, x2, x16, x64, x65, x517000, x517001 => if x65 < x64 then ((impl_States_step.f k x517000 x517001 x16).bind fun t529 => (impl_CountWays.l2 k x2 t529 x64 (wrap64 (x65 + 1)) x517000 x517001)) else (if 0 ≤ x2 then (if x2 < (x16.length : Int) then (some (rd x16 x2, true)) else (none)) else (none))
end
def impl_CountWays.f (k : Nat) (a0_0 : Int) (l0_1 : List (List Int)) (a1 : Int) (a2 : Int) (a3 : Int) : Option (Int × Bool) := (impl_areWith.f k a0_0 l0_1 (([a1, a2] : List Int))).bind fun t514 => (if t514 = true then ((impl_within.f a3 0 8).bind fun t515 => (impl_CountWays.j0 k a1 a2 a3 (!t515) a0_0 l0_1)) else (impl_CountWays.j0 k a1 a2 a3 true a0_0 l0_1))
set_option maxHeartbeats 8000000 in
set_option maxRecDepth 100000 in
theorem impl_CountWays.calls (k : Nat) (a0_0 : Int) (A0_1 : Option Addr) (c0_1 : Nat) (l0_1 : List (List Int)) (a1 : Int) (a2 : Int) (a3 : Int) (r1 : Int) (r2 : Bool) (w : World) (hr0_1 : Kd.C (Kd.slice 3 (Kd.int .i64)) w A0_1 l0_1.length l0_1) (hc0_1 : l0_1.length ≤ c0_1) (h : impl_CountWays.f k a0_0 l0_1 a1 a2 a3 = some (r1, r2)) :
 Calls Try.prog 25 #[.agg #[.int .i64 a0_0, .slice A0_1 l0_1.length c0_1], .int .i64 a1, .int .i64 a2, .int .i64 a3] w fun e w' => e = .returned (.tuple #[.int .i64 r1, .bool r2]) ∧ Below w.heap.size w w' := by
 have hu26 := Try.underlying26
 have HR0_1 := am hr0_1
 have HC0_1 := am hc0_1
 clear hr0_1 hc0_1
 have HB := am (Below.refl w.heap.size w)
 have H := h
 clear h
 unfold impl_CountWays.f at H
 have HC5 := am H
 clear H
 go_enter Try.func25, Try.ntmps25
 go_upto_region 1 with (first | ((with_reducible refine gate_dst (N := 4) rfl ?_); refine bE 4 #[.int .i64 a0_0, .slice A0_1 l0_1.length c0_1] 26 ?_; intro gb510 hg w6 hbox hb; have BK510 := am (hbox); have GW510 := gW hg; have GE510 := gW hg; replace HB := sB hb; clear hb hbox hg))
 (try simp only [Act.put, List.setIfInBounds_toArray, List.set_cons_zero, List.set_cons_succ])
 go_cut [27] (fun v27 wc => ∃ (kq : Nat) (x27_4 : Bool), v27 = .bool x27_4 ∧ Aside0 (impl_CountWays.j0 kq a1 a2 a3 x27_4 a0_0 l0_1 = some (r1, r2)) ∧ Aside0 (kq ≤ k) ∧ Aside0 (wc.heap[gb510]? = some (.cells #[.int .i64 a0_0, (.slice A0_1 l0_1.length c0_1)] 26 (0, 0))) ∧ Aside0 (Below w.heap.size w wc))
 case first =>
  have H := HC5.out
  clear HC5
  generalize hy511 : ((([a1, a2] : List Int)) : List Int) = y511 at H
  (try dsimp only [Option.bind_some] at H)
  have Ny511 := am hy511.symm
  clear hy511
  replace H := bnd H
  obtain ⟨t514, A7, H⟩ := H
  (try dsimp only at H)
  by_cases c8 : t514 = true
  · subst c8
    replace H := ifT H
    replace H := bnd H
    obtain ⟨t515, A9, H⟩ := H
    (try dsimp only at H)
    have H' := am H
    clear H
    obtain ⟨hcz10_0, hcz10_1, hfz10_0, hfz10_1⟩ := cZ BK510
    go_wp2_with (first | ((with_reducible refine gate_dst (N := 20) rfl ?_); refine Kd.R_lit (Kd.int .i64) _ 3 ?hg (N := 20) ?hd (xs := ([a1, a2] : List Int)) (inner := [.int .i64 a1, .int .i64 a2]) (ok := fun _ => True) (okp := fun _ => True) ?hr ?hp (fun _ hk => hk) trivial (Below.refl _ _) (Nat.le_refl _) (by simp) ?_; (case hd => rfl); (case hg => rfl); (case hr => first | (go_simp; done) | (go_simp; rfl)); (case hp => exact (Reps.one (show Kd.M (Kd.int .i64) _ _ _ a1 [.int .i64 a1] from rfl) (Reps.one (show Kd.M (Kd.int .i64) _ _ _ a2 [.int .i64 a2] from rfl) (Reps.none _ _)))); intro v512 w11 ho12 hb hg_ hnew_; clear hg_ hnew_; (first | rw [← Ny511.out] at ho12 | (simp only [Int.reduceToNat] at ho12; rw [← Ny511.out] at ho12)); have HO513 := am (Kd.R_lower ho12 (below_size bB)); replace BK510 := kb BK510 hb; replace HB := sB hb; clear hb ho12; obtain ⟨Ao13, co13, eo13⟩ := Kd.R_slice HO513.out; subst eo13) | ((with_reducible refine gate_callee (f := 36) rfl ?_); refine gL 21 Try.func36 #[.agg #[.int .i64 a0_0, .slice A0_1 l0_1.length c0_1], .slice Ao13 y511.length co13] ?_; (with_reducible refine (impl_areWith.calls k a0_0 _ _ l0_1 _ _ y511 true _ ?side1 HC0_1.out ?side3 (Kd.R_reads' HO513.out).2.1 A7.out).mono ?_); (case side1 => exact cH HR0_1); (case side3 => exact cB (Kd.R_reads' HO513.out).2.2); rintro e w14 ⟨rfl, hb⟩; refine ⟨_, rfl, ?_⟩; replace HO513 := lR HO513 hb; replace BK510 := kb BK510 hb; replace HB := sB hb) | (go_at_call 37; (with_reducible refine (impl_within.calls a3 0 8 t515 _ A9.out).mono ?_); rintro e w' ⟨rfl, ⟨nd, rfl⟩⟩))
    go_meet
    case rel => exact ⟨_, (!t515), sR, H', ⟨by first | omega | exact Nat.le_refl _⟩, ⟨bP BK510⟩, ⟨bB⟩⟩
  · replace c8 := Bool.eq_false_iff.mpr c8
    subst c8
    replace H := ifF H
    have H' := am H
    clear H
    obtain ⟨hcz15_0, hcz15_1, hfz15_0, hfz15_1⟩ := cZ BK510
    go_wp2_with (first | ((with_reducible refine gate_dst (N := 20) rfl ?_); refine Kd.R_lit (Kd.int .i64) _ 3 ?hg (N := 20) ?hd (xs := ([a1, a2] : List Int)) (inner := [.int .i64 a1, .int .i64 a2]) (ok := fun _ => True) (okp := fun _ => True) ?hr ?hp (fun _ hk => hk) trivial (Below.refl _ _) (Nat.le_refl _) (by simp) ?_; (case hd => rfl); (case hg => rfl); (case hr => first | (go_simp; done) | (go_simp; rfl)); (case hp => exact (Reps.one (show Kd.M (Kd.int .i64) _ _ _ a1 [.int .i64 a1] from rfl) (Reps.one (show Kd.M (Kd.int .i64) _ _ _ a2 [.int .i64 a2] from rfl) (Reps.none _ _)))); intro v512 w16 ho17 hb hg_ hnew_; clear hg_ hnew_; (first | rw [← Ny511.out] at ho17 | (simp only [Int.reduceToNat] at ho17; rw [← Ny511.out] at ho17)); have HO513 := am (Kd.R_lower ho17 (below_size bB)); replace BK510 := kb BK510 hb; replace HB := sB hb; clear hb ho17; obtain ⟨Ao18, co18, eo18⟩ := Kd.R_slice HO513.out; subst eo18) | ((with_reducible refine gate_callee (f := 36) rfl ?_); refine gL 21 Try.func36 #[.agg #[.int .i64 a0_0, .slice A0_1 l0_1.length c0_1], .slice Ao18 y511.length co18] ?_; (with_reducible refine (impl_areWith.calls k a0_0 _ _ l0_1 _ _ y511 false _ ?side1 HC0_1.out ?side3 (Kd.R_reads' HO513.out).2.1 A7.out).mono ?_); (case side1 => exact cH HR0_1); (case side3 => exact cB (Kd.R_reads' HO513.out).2.2); rintro e w19 ⟨rfl, hb⟩; refine ⟨_, rfl, ?_⟩; replace HO513 := lR HO513 hb; replace BK510 := kb BK510 hb; replace HB := sB hb))
    go_meet
    case rel => exact ⟨_, (true), sR, H', ⟨by first | omega | exact Nat.le_refl _⟩, ⟨bP BK510⟩, ⟨bB⟩⟩
 case rest =>
  clear HC5
  obtain ⟨kq, x27_4, rfl, HA, HJ4, BK510, HB⟩ := hcut
  cases kq with
  | zero => exact absurd HA.out (by simp [impl_CountWays.j0])
  | succ kj4 =>
   have H := HA.out
   clear HA
   simp only [impl_CountWays.j0] at H
   by_cases c20 : x27_4 = true
   · subst c20
     replace H := ifT H
     simp only [Option.some.injEq, Prod.mk.injEq] at H
     obtain ⟨rfl, rfl⟩ := H
     go_wp2
     go_ret2
     exact ⟨eW, bB⟩
   · replace c20 := Bool.eq_false_iff.mpr c20
     subst c20
     replace H := ifF H
     have H' := am H
     clear H
     obtain ⟨hcz21_0, hcz21_1, hfz21_0, hfz21_1⟩ := cZ BK510
     go_wp2_with (first | ((with_reducible refine gate_dst (N := 10) rfl ?_); refine bE 10 #[.int .i64 0, .slice none 0 0] 26 ?_; intro gb516 hg w22 hbox hb; have BK516 := am (hbox); have GW516 := gW hg; have GE516 := gW hg; replace HB := sB hb; have NB510_516 := nK BK510 hg; have NB516_510 := mK BK510 hg; replace BK510 := kb BK510 hb; clear hb hbox hg; have hnb23 := NB516_510.out; have hnc23 := NB510_516.out; obtain ⟨hcz24_0, hcz24_1, hfz24_0, hfz24_1⟩ := cZ BK516; obtain ⟨hcz25_0, hcz25_1, hfz25_0, hfz25_1⟩ := cZ BK510))
     go_loopg [34] kj4 (fun kq v34 w' => ∃ (x34_2 : Int) (x517001_2 : List (List Int)) (u517001 : Value), v34 = .int .i64 x34_2 ∧ Aside0 (impl_CountWays.l0 kq a1 a2 a3 l0_1 (l0_1.length : Int) x34_2 a0_0 x517001_2 = some (r1, r2)) ∧ Aside0 (kq ≤ kj4) ∧ Aside0 (Kd.S (Kd.slice 3 (Kd.int .i64)) 29 w' w.heap.size (fun _ => True) u517001 x517001_2) ∧ Aside0 (w'.heap[gb510]? = some (.cells #[.int .i64 a0_0, (.slice A0_1 l0_1.length c0_1)] 26 (0, 0))) ∧ Aside0 (w'.heap[gb516]? = some (.cells #[.int .i64 a0_0, u517001] 26 (0, 0))) ∧ Aside0 (Below w.heap.size w w'))
     case atStart => exact ⟨(0), (([] : List (List Int))), (.slice none 0 0), sR, H', ⟨Nat.le_refl _⟩, ⟨nL⟩, ⟨by (with_reducible repeat (first | refine blk_drewN ?_ _ | refine blk_drew ?_ | refine blk_alloc ?_ _)); refine blk_far ?_ NB510_516.out _; (with_reducible repeat (first | refine blk_drewN ?_ _ | refine blk_drew ?_ | refine blk_alloc ?_ _)); refine blk_far ?_ NB510_516.out _; (with_reducible repeat (first | refine blk_drewN ?_ _ | refine blk_drew ?_ | refine blk_alloc ?_ _)); exact BK510.out⟩, ⟨by (with_reducible repeat (first | refine blk_drewN ?_ _ | refine blk_drew ?_ | refine blk_alloc ?_ _)); refine blk_put (cs := #[.int .i64 a0_0, .slice none 0 0]) ?_ 1 _ rfl; (with_reducible repeat (first | refine blk_drewN ?_ _ | refine blk_drew ?_ | refine blk_alloc ?_ _)); refine blk_put (cs := #[.int .i64 0, .slice none 0 0]) ?_ 0 _ rfl; (with_reducible repeat (first | refine blk_drewN ?_ _ | refine blk_drew ?_ | refine blk_alloc ?_ _)); exact BK516.out⟩, ⟨bB⟩⟩
     case round =>
      clear H'
      obtain ⟨x34_2, x517001_2, u517001, rfl, HA, HK2, HO_517001, BK510, BK516, HB⟩ := hrel
      cases gk with
      | zero => exact absurd HA.out (by simp [impl_CountWays.l0])
      | succ k2 =>
       have H := HA.out
       clear HA
       simp only [impl_CountWays.l0] at H
       by_cases c26 : x34_2 < (l0_1.length : Int)
       · rw [if_pos c26] at H
         have c26b0 := decide_eq_true c26
         clear c26
         replace H := ifP H
         obtain ⟨c27, H⟩ := H
         have c27b0 := decide_eq_true c27
         clear c27
         replace H := ifP H
         obtain ⟨c28, H⟩ := H
         have c28b0 := decide_eq_true c28
         clear c28
         replace H := ifP H
         obtain ⟨c29, H⟩ := H
         have c29b0 := eq_true c29
         have c29b1 := decide_eq_true c29
         clear c29
         replace H := ifP H
         obtain ⟨c30, H⟩ := H
         have c30b0 := eq_true c30
         have c30b1 := decide_eq_true c30
         clear c30
         generalize hy518 : ((List.replicate (((rd_L2 l0_1 x34_2).length : Int) : Int).toNat 0) : List Int) = y518 at H
         (try dsimp only [Option.bind_some] at H)
         have Ny518 := am hy518.symm
         clear hy518
         have H' := am H
         clear H
         have p517 : 0 ≤ (x34_2 : Int) := dT
         have q517 : x34_2 < (l0_1.length : Int) := dT
         obtain ⟨ad517, A517_0, c517_0, e517, hx517_0, hl517_0, hi517_0⟩ := at_L2 HR0_1.out x34_2 p517 q517
         cases e517
         replace hx517_0 := (HB.out.cell (World.block_lt_of_cell? w _ hx517_0)).trans hx517_0
         have HR517_0 := am hi517_0
         have HC517_0 := am hl517_0
         clear hi517_0 hl517_0
         replace p517 := eq_true p517
         replace q517 := eq_true q517
         go_wp2_with (first | ((with_reducible refine gate_dst (N := 40) rfl ?_); refine Kd.R_make (Kd.int .i64) _ 3 rfl (N := 40) rfl 29 _ _ rfl ((rd_L2 l0_1 x34_2).length : Int) rfl rfl Try.underlying29 (.int .i64 0) 8 info3 rfl (by decide) (by omega) 0 (ok := fun _ => True) (okp := fun _ => True) rfl (fun _ hk => hk) trivial (dT) (Nat.le_trans (Nat.mul_le_mul_right _ (dT : ((rd_L2 l0_1 x34_2).length : Int).toNat ≤ 35184372088832)) (by omega)) (Below.refl _ _) (Nat.le_refl _) ?_; intro v519 w31 ho32 hb hg_ hnew_; clear hg_ hnew_; (first | rw [← Ny518.out] at ho32 | (simp only [Int.reduceToNat] at ho32; rw [← Ny518.out] at ho32)); replace HO_517001 := eS HO_517001 ho32 hb; have HO520 := am (Kd.R_lower ho32 (below_size bB)); replace BK510 := kb BK510 hb; replace BK516 := kb BK516 hb; replace HB := sB hb; clear hb ho32))
         go_loopg [43] k2 (fun kq v43 w' => ∃ (x13_3 : List Int) (x43_3 : Int), v43 = .int .i64 x43_3 ∧ Aside0 (impl_CountWays.l1 kq a1 a2 a3 x13_3 l0_1 (l0_1.length : Int) x34_2 (rd_L2 l0_1 x34_2) ((rd_L2 l0_1 x34_2).length : Int) x43_3 a0_0 x517001_2 = some (r1, r2)) ∧ Aside0 (kq ≤ k2) ∧ Aside0 (Kd.R (Kd.int .i64) 3 w' w.heap.size (fun _ => True) v519 x13_3) ∧ Aside0 (Kd.S (Kd.slice 3 (Kd.int .i64)) 29 w' w.heap.size (fun k_ => some k_ ≠ (v519 : Value).ownBlock) u517001 x517001_2) ∧ Aside0 (w'.heap[gb510]? = some (.cells #[.int .i64 a0_0, (.slice (some ad517) l0_1.length c0_1)] 26 (0, 0))) ∧ Aside0 (w'.heap[gb516]? = some (.cells #[.int .i64 a0_0, u517001] 26 (0, 0))) ∧ Aside0 (Below w.heap.size w w'))
         case atStart => exact ⟨(y518), (0), sR, H', ⟨Nat.le_refl _⟩, ⟨rP HO520⟩, ⟨sF (Kd.S_mono HO_517001.out (fun _ hk => hk.2))⟩, ⟨bP BK510⟩, ⟨bP BK516⟩, ⟨bB⟩⟩
         case round =>
          clear H'
          obtain ⟨x13_3, x43_3, rfl, HA, HK3, HO_13, HO_517001, BK510, BK516, HB⟩ := hrel
          cases gk with
          | zero => exact absurd HA.out (by simp [impl_CountWays.l1])
          | succ k3 =>
           have H := HA.out
           clear HA
           simp only [impl_CountWays.l1] at H
           by_cases c33 : x43_3 < ((rd_L2 l0_1 x34_2).length : Int)
           · rw [if_pos c33] at H
             have c33b0 := decide_eq_true c33
             clear c33
             replace H := ifP H
             obtain ⟨c34, H⟩ := H
             have c34b0 := decide_eq_true c34
             clear c34
             replace H := ifP H
             obtain ⟨c35, H⟩ := H
             have c35b0 := decide_eq_true c35
             clear c35
             obtain ⟨ji36, hji36⟩ : ∃ j_ : Int, (mn (rd (rd_L2 l0_1 x34_2) x43_3) 1) = j_ := ⟨_, rfl⟩
             replace H : (if x43_3 < (x13_3.length : Int) then (impl_CountWays.l1 k3 a1 a2 a3 (x13_3.set (x43_3 : Int).toNat (ji36)) l0_1 (l0_1.length : Int) x34_2 (rd_L2 l0_1 x34_2) ((rd_L2 l0_1 x34_2).length : Int) (wrap64 (x43_3 + 1)) a0_0 x517001_2) else (none)) = some (r1, r2) := by first | (rw [hji36] at H; exact H) | (simp only [hji36] at H ⊢; exact H)
             have hji36_ : (if 1 < (rd (rd_L2 l0_1 x34_2) x43_3) then 1 else (rd (rd_L2 l0_1 x34_2) x43_3)) = ji36 := hji36
             replace H := ifP H
             obtain ⟨c37, H⟩ := H
             have c37b0 := decide_eq_true c37
             clear c37
             generalize hy522 : ((x13_3.set (x43_3 : Int).toNat (ji36)) : List Int) = y522 at H
             (try dsimp only [Option.bind_some] at H)
             have Ny522 := am hy522.symm
             clear hy522
             have H' := am H
             clear H
             have p521 : 0 ≤ (x43_3 : Int) := dT
             have q521 : x43_3 < ((rd_L2 l0_1 x34_2).length : Int) := dT
             obtain ⟨ad521, e521, hx521_0⟩ := Kd.at_int HR517_0.out x43_3 p521 q521
             cases e521
             replace hx521_0 := (HB.out.cell (World.block_lt_of_cell? w _ hx521_0)).trans hx521_0
             replace p521 := eq_true p521
             replace q521 := eq_true q521
             have p38 : 0 ≤ (x43_3 : Int) := dT
             have q38 : (x43_3 : Int) < ((x13_3.length : Int) : Int) := dT
             obtain ⟨go38, co38, eo38, gb38, gl38, cl38, HG38⟩ := Kd.R_form HO_13.out (by omega)
             (first | cases eo38 | (injection eo38 with ea_ en_ ec_; (first | subst ea_ | (injection ea_ with ea_; subst ea_)); subst ec_; clear en_))
             have GB38 := am gb38
             have GG38 := am HG38
             clear gb38 gl38 HG38
             obtain ⟨hx38_0, hf38_0⟩ := Kd.R_celln 0 HO_13.out (x43_3 : Int) p38 q38
             replace p38 := eq_true p38
             replace q38 := eq_true q38
             have HP39 := Kd.R_putg HO_13.out (x43_3 : Int) ji36
             go_wp2_with (first | ((with_reducible refine gate_store (t := 3) (p := 52) rfl ?_); refine store_event (t := 3) (p := 52) (v := ?vo_w40) (w1 := (wr.setCell ⟨go38, (x43_3 : Int).toNat, none⟩ (.int .i64 ji36))) ?hg ?ho ?hn ?hr ?_; (case ho => rfl); (case hg => rfl); (case hn => rfl); (case hr => first | (go_simp; done) | (go_simp; rfl)); intro w40 hw; have hg : wr.grownBy w40 (some go38) := (by rw [hw]; exact HP39.2); have hp_ : Kd.R (Kd.int .i64) 3 w40 w.heap.size (fun _ => True) (.slice (some ⟨go38, 0, none⟩) x13_3.length co38) y522 := (by rw [hw, Ny522.out]; exact HP39.1); clear HP39; replace HO_517001 := am (Kd.S_after (v := (.slice (some ⟨go38, 0, none⟩) x13_3.length co38)) (v1 := (.slice (some ⟨go38, 0, none⟩) x13_3.length co38)) (ok := (fun _ => True)) (by (with_reducible repeat (first | apply Kd.S_alloc | apply Kd.S_drewN | apply Kd.S_drew)); exact Kd.S_mono HO_517001.out (fun _ hk => ⟨trivial, hk⟩)) hg (.inl rfl)); replace BK510 := (kg BK510 hg (Kd.R_ne HO_13.out BK510.out (by decide))); replace BK516 := (kg BK516 hg (Kd.R_ne HO_13.out BK516.out (by decide))); replace HO_13 := am (hp_); replace HB := am ((by rw [hw]; exact below_set (HB.out) GB38.out : Below w.heap.size w w40)); clear hg hw hp_))
             (first | go_roundg k3 | (try subst hji36; go_roundg k3))
             case measure => have := HJ4.out; have := HK2.out; have := HK3.out; omega
             case rel => exact ⟨(y522), (wrap64 (x43_3 + 1)), sR, H', ⟨by have := HJ4.out; have := HK2.out; have := HK3.out; omega⟩, ⟨rP HO_13⟩, ⟨sF (Kd.S_mono HO_517001.out (fun _ hk => hk.2))⟩, ⟨bP BK510⟩, ⟨bP BK516⟩, ⟨bB⟩⟩
           · rw [if_neg c33] at H
             have c33b0 := decide_eq_false c33
             clear c33
             replace H := ifP H
             obtain ⟨c41, H⟩ := H
             have LMc41 := am c41
             clear c41
             generalize hy523 : ((x517001_2 ++ [x13_3]) : List (List Int)) = y523 at H
             (try dsimp only [Option.bind_some] at H)
             have Ny523 := am hy523.symm
             clear hy523
             have H' := am H
             clear H
             have hnb42 := NB516_510.out
             have hnc42 := NB510_516.out
             obtain ⟨hcz43_0, hcz43_1, hfz43_0, hfz43_1⟩ := cZ BK516
             obtain ⟨Ao45, co45, eo45⟩ := Kd.R_slice HO_13.out
             subst eo45
             go_wp2_with (first | ((with_reducible refine gate_builtin (b := .append) (xs := #[.tmp 55, .tmp 57]) rfl ?_); at_builtin; refine Kd.S_append (Kd.slice 3 (Kd.int .i64)) (w0 := w) w.heap.size rfl (.tmp 55) (.tmp 57) 24 29 (.slice none 0 0) 24 rfl Try.underlying24 info29 rfl (by decide) (by omega) u517001 x517001_2 x13_3 [.slice Ao45 x13_3.length co45] (fun _ => True) (fun k_ => some k_ = (.slice Ao45 x13_3.length co45 : Value).ownBlock) rfl rfl ?aP (fun k_ hk_ => ((Kd.R_mono (ok' := fun k_ => ((fun _ => True)) k_ ∧ some k_ ≠ (u517001 : Value).ownBlock) (Kd.R_apart' (HO_13.out) (Kd.S_typed HO_517001.out) (by decide)) (fun k_ hk => ⟨trivial, hk.2⟩))).1 k_ hk_.symm) ?aF ?aO ?aB ?aS ?aL ?_; (case aP => exact Kd.M_row (Kd.R_mono (Kd.R_tight rfl (Kd.R_mono (ok' := fun k_ => ((fun _ => True)) k_ ∧ some k_ ≠ (u517001 : Value).ownBlock) (Kd.R_apart' (HO_13.out) (Kd.S_typed HO_517001.out) (by decide)) (fun k_ hk => ⟨trivial, hk.2⟩))) (fun _ h_ => h_))); (case aB => exact bB); (case aF => exact (fun _ _ => trivial)); (case aO => exact (by (with_reducible repeat (first | apply Kd.S_alloc | apply Kd.S_drewN | apply Kd.S_drew)); exact Kd.S_mono HO_517001.out (fun k_ hk => ⟨trivial, fun e_ => hk e_⟩))); (case aS => exact (below_size bB)); (case aL => have := LMc41.out; omega); intro v524 w44 ho hb hg hat; rw [← Ny523.out] at ho; replace BK510 := (kg BK510 hg (Kd.S_ne HO_517001.out BK510.out (by decide))); replace BK516 := (kg BK516 hg (Kd.S_ne HO_517001.out BK516.out (by decide))); replace HB := am (hb); have HO525 := am (ho); clear HO_517001 HO_13; clear ho hb hg hat; obtain ⟨Ao46, co46, eo46⟩ := Kd.S_slice HO525.out; subst eo46; obtain ⟨hcz47_0, hcz47_1, hfz47_0, hfz47_1⟩ := cZ BK516))
             (first | go_roundg k3 | (try subst hji36; go_roundg k3))
             case measure => have := HJ4.out; have := HK2.out; have := HK3.out; omega
             case rel => exact ⟨(wrap64 (x34_2 + 1)), (y523), (.slice Ao46 y523.length co46), sR, H', ⟨by have := HJ4.out; have := HK2.out; have := HK3.out; omega⟩, ⟨by (with_reducible repeat (first | apply Kd.S_alloc | apply Kd.S_drewN | apply Kd.S_drew)); exact Kd.S_mono (Kd.S_far (p := ⟨gb516, 1, none⟩) (Kd.S_types HO525.out BK516.out (by decide)) (fun _ hk => hk.2) (.slice Ao46 y523.length co46)) (fun _ hk => trivial)⟩, ⟨by (with_reducible repeat (first | refine blk_drewN ?_ _ | refine blk_drew ?_ | refine blk_alloc ?_ _)); refine blk_far ?_ NB510_516.out _; (with_reducible repeat (first | refine blk_drewN ?_ _ | refine blk_drew ?_ | refine blk_alloc ?_ _)); exact BK510.out⟩, ⟨by (with_reducible repeat (first | refine blk_drewN ?_ _ | refine blk_drew ?_ | refine blk_alloc ?_ _)); refine blk_put (cs := #[.int .i64 a0_0, u517001]) ?_ 1 _ rfl; (with_reducible repeat (first | refine blk_drewN ?_ _ | refine blk_drew ?_ | refine blk_alloc ?_ _)); exact BK516.out⟩, ⟨bB⟩⟩
       · rw [if_neg c26] at H
         have c26b0 := decide_eq_false c26
         clear c26
         replace H := bnd H
         obtain ⟨t526, A48, H⟩ := H
         (try dsimp only at H)
         have H' := am H
         clear H
         have hnb49 := NB516_510.out
         have hnc49 := NB510_516.out
         obtain ⟨hcz50_0, hcz50_1, hfz50_0, hfz50_1⟩ := cZ BK516
         obtain ⟨Ao51, co51, eo51⟩ := Kd.S_slice HO_517001.out
         subst eo51
         go_wp2_with (first | ((with_reducible refine gate_callee (f := 38) rfl ?_); refine gL 63 Try.func38 #[.agg #[.int .i64 a0_0, .slice Ao51 x517001_2.length co51], .int .i64 a1] ?_; (with_reducible refine (impl_States_only.calls a0_0 _ _ x517001_2 a1 t526 _ ?side1 (Kd.S_reads' HO_517001.out).2.1 A48.out).mono ?_); (case side1 => exact cB (Kd.S_reads' HO_517001.out).2.2); rintro e w52 ⟨v527, rfl, ho0, hb⟩; refine ⟨_, rfl, ?_⟩; replace HO_517001 := eS HO_517001 ho0 hb; have HO528 := am (Kd.R_lower ho0 (below_size bB)); replace BK510 := kb BK510 hb; replace BK516 := kb BK516 hb; replace HB := sB hb))
         go_loopg [16, 65] k2 (fun kq v16 v65 w' => ∃ (x16_3 : List Int) (x65_3 : Int), v65 = .int .i64 x65_3 ∧ Aside0 (impl_CountWays.l2 kq a2 x16_3 a3 x65_3 a0_0 x517001_2 = some (r1, r2)) ∧ Aside0 (kq ≤ k2) ∧ Aside0 (Kd.R (Kd.int .i64) 3 w' w.heap.size (fun _ => True) v16 x16_3) ∧ Aside0 (Kd.S (Kd.slice 3 (Kd.int .i64)) 29 w' w.heap.size (fun k_ => some k_ ≠ (v16 : Value).ownBlock) (.slice Ao51 x517001_2.length co51) x517001_2) ∧ Aside0 (w'.heap[gb510]? = some (.cells #[.int .i64 a0_0, (.slice A0_1 l0_1.length c0_1)] 26 (0, 0))) ∧ Aside0 (w'.heap[gb516]? = some (.cells #[.int .i64 a0_0, (.slice Ao51 x517001_2.length co51)] 26 (0, 0))) ∧ Aside0 (Below w.heap.size w w'))
         case atStart => exact ⟨(t526), (0), sR, H', ⟨Nat.le_refl _⟩, ⟨rP HO528⟩, ⟨sF (Kd.S_mono HO_517001.out (fun _ hk => hk.2))⟩, ⟨bP BK510⟩, ⟨bP BK516⟩, ⟨bB⟩⟩
         case round =>
          clear H'
          obtain ⟨x16_3, x65_3, rfl, HA, HK3, HO_16, HO_517001, BK510, BK516, HB⟩ := hrel
          cases gk with
          | zero => exact absurd HA.out (by simp [impl_CountWays.l2])
          | succ k3 =>
           have H := HA.out
           clear HA
           simp only [impl_CountWays.l2] at H
           by_cases c53 : x65_3 < a3
           · rw [if_pos c53] at H
             have c53b0 := decide_eq_true c53
             clear c53
             replace H := bnd H
             obtain ⟨t529, A54, H⟩ := H
             (try dsimp only at H)
             have H' := am H
             clear H
             have hnb55 := NB516_510.out
             have hnc55 := NB510_516.out
             obtain ⟨hcz56_0, hcz56_1, hfz56_0, hfz56_1⟩ := cZ BK516
             obtain ⟨Ao57, co57, eo57⟩ := Kd.R_slice HO_16.out
             subst eo57
             go_wp2_with (first | ((with_reducible refine gate_callee (f := 39) rfl ?_); refine gL 69 Try.func39 #[.agg #[.int .i64 a0_0, .slice Ao51 x517001_2.length co51], .slice Ao57 x16_3.length co57] ?_; (with_reducible refine (impl_States_step.calls k3 a0_0 _ _ x517001_2 _ _ x16_3 t529 _ ?side1 (Kd.S_reads' HO_517001.out).2.1 ?side3 (Kd.R_reads' HO_16.out).2.1 A54.out).mono ?_); (case side1 => exact cB (Kd.S_reads' HO_517001.out).2.2); (case side3 => exact cB (Kd.R_reads' HO_16.out).2.2); rintro e w58 ⟨v530, rfl, ho0, hb⟩; refine ⟨_, rfl, ?_⟩; replace HO_517001 := eS HO_517001 ho0 hb; have HO531 := am (Kd.R_lower (Kd.R_new' ho0 (Kd.R_lt (rP HO_16))) (below_size bB)); replace HO_16 := eR HO_16 ho0 hb; replace BK510 := kb BK510 hb; replace BK516 := kb BK516 hb; replace HB := sB hb))
             (first | go_roundg k3 | (try subst hji36; go_roundg k3))
             case measure => have := HJ4.out; have := HK2.out; have := HK3.out; omega
             case rel => exact ⟨(t529), (wrap64 (x65_3 + 1)), sR, H', ⟨by have := HJ4.out; have := HK2.out; have := HK3.out; omega⟩, ⟨rF (Kd.R_mono HO531.out (fun _ hk => trivial))⟩, ⟨sF (Kd.S_mono HO_517001.out (fun _ hk => hk.2))⟩, ⟨bP BK510⟩, ⟨bP BK516⟩, ⟨bB⟩⟩
           · rw [if_neg c53] at H
             have c53b0 := decide_eq_false c53
             clear c53
             replace H := ifP H
             obtain ⟨c59, H⟩ := H
             have c59b0 := decide_eq_true c59
             clear c59
             replace H := ifP H
             obtain ⟨c60, H⟩ := H
             have c60b0 := decide_eq_true c60
             clear c60
             simp only [Option.some.injEq, Prod.mk.injEq] at H
             obtain ⟨rfl, rfl⟩ := H
             obtain ⟨Ao61, co61, eo61⟩ := Kd.R_slice HO_16.out
             subst eo61
             have p532 : 0 ≤ (a2 : Int) := dT
             have q532 : a2 < (x16_3.length : Int) := dT
             obtain ⟨ad532, e532, hx532_0⟩ := Kd.at_int (Kd.R_reads' HO_16.out).2.2 a2 p532 q532
             cases e532
             replace p532 := eq_true p532
             replace q532 := eq_true q532
             go_wp2
             go_ret2
             exact ⟨eW, bB⟩
def laws_uHas.l0 : Nat → Int → List Int → Int → Int → Option (Bool)
 | 0, _, _, _, _ => none
 | k + 1, x1, x7, x8, x9 => if x9 < x8 then (if 0 ≤ x9 then (if x9 < (x7.length : Int) then (if (rd x7 x9) = x1 then (some true) else (laws_uHas.l0 k x1 x7 x8 (wrap64 (x9 + 1)))) else (none)) else (none)) else (some false)
def laws_uHas.f (k : Nat) (l0 : List Int) (a1 : Int) : Option (Bool) := laws_uHas.l0 k a1 l0 (l0.length : Int) 0
set_option maxHeartbeats 8000000 in
set_option maxRecDepth 100000 in
theorem laws_uHas.calls (k : Nat) (A0 : Option Addr) (c0 : Nat) (l0 : List Int) (a1 : Int) (r : Bool) (w : World) (hr0 : Kd.C (Kd.int .i64) w A0 l0.length l0) (hc0 : l0.length ≤ c0) (h : laws_uHas.f k l0 a1 = some r) :
 Calls Try.prog 26 #[.slice A0 l0.length c0, .int .i64 a1] w fun e w' => e = .returned (.bool r) ∧ Drawn0 w w' := by
 have HR0 := am hr0
 have HC0 := am hc0
 clear hr0 hc0
 have H := h
 clear h
 unfold laws_uHas.f at H
 have H' := am H
 clear H
 go_enter Try.func26, Try.ntmps26
 go_wp2
 go_loopg [9] k (fun kq v9 w' => ∃ (x9_1 : Int), v9 = .int .i64 x9_1 ∧ Aside0 (laws_uHas.l0 kq a1 l0 (l0.length : Int) x9_1 = some r) ∧ Aside0 (kq ≤ k) ∧ Drawn0 w w')
 case atStart => exact ⟨(0), sR, H', ⟨Nat.le_refl _⟩, dW⟩
 case round =>
  clear H'
  obtain ⟨x9_1, rfl, HA, HK1, ⟨m1, rfl⟩⟩ := hrel
  cases gk with
  | zero => exact absurd HA.out (by simp [laws_uHas.l0])
  | succ k1 =>
   have H := HA.out
   clear HA
   simp only [laws_uHas.l0] at H
   by_cases c3 : x9_1 < (l0.length : Int)
   · rw [if_pos c3] at H
     have c3b0 := decide_eq_true c3
     clear c3
     replace H := ifP H
     obtain ⟨c4, H⟩ := H
     have c4b0 := decide_eq_true c4
     clear c4
     replace H := ifP H
     obtain ⟨c5, H⟩ := H
     have c5b0 := decide_eq_true c5
     clear c5
     by_cases c6 : (rd l0 x9_1) = a1
     · rw [if_pos c6] at H
       have c6b0 : ((rd l0 x9_1) == a1) = true := beq_iff_eq.mpr c6
       have c6b1 : ((rd l0 x9_1) != a1) = false := bne_eq_false_iff_eq.mpr c6
       clear c6
       obtain rfl := Option.some.inj H
       have p533 : 0 ≤ (x9_1 : Int) := dT
       have q533 : x9_1 < (l0.length : Int) := dT
       obtain ⟨ad533, e533, hx533_0⟩ := Kd.at_int HR0.out x9_1 p533 q533
       cases e533
       replace p533 := eq_true p533
       replace q533 := eq_true q533
       go_wp2
       go_ret
       exact ⟨sR, dW⟩
     · rw [if_neg c6] at H
       have c6b0 : ((rd l0 x9_1) == a1) = false := beq_eq_false_iff_ne.mpr c6
       have c6b1 : ((rd l0 x9_1) != a1) = true := bne_iff_ne.mpr c6
       have H' := am H
       clear H
       have p533 : 0 ≤ (x9_1 : Int) := dT
       have q533 : x9_1 < (l0.length : Int) := dT
       obtain ⟨ad533, e533, hx533_0⟩ := Kd.at_int HR0.out x9_1 p533 q533
       cases e533
       replace p533 := eq_true p533
       replace q533 := eq_true q533
       go_wp2
       go_roundg k1
       case measure => have := HK1.out; omega
       case rel => exact ⟨(wrap64 (x9_1 + 1)), sR, H', ⟨oK⟩, dW⟩
   · rw [if_neg c3] at H
     have c3b0 := decide_eq_false c3
     clear c3
     obtain rfl := Option.some.inj H
     go_wp2
     go_ret
     exact ⟨sR, dW⟩
end Go.Proofs.Ytkkjnmnjbmfpaaa.PFnStatesStep
