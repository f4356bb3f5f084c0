-- written by a program of this session (the kit's print with turns of the session's own)
import Derived.Test.YtkkjnmnjbmfpaaaPFnStatesStepx0
import Derived.Test.YtkkjnmnjbmfpaaaHp
import Derived.Test.YtkkjnmnjbmfpaaaPFnStatesStepx1
import Derived.Test.YtkkjnmnjbmfpaaaPFnStatesStepx5
import Derived.Test.YtkkjnmnjbmfpaaaPFnStatesStepx8
import Derived.Test.YtkkjnmnjbmfpaaaPFnStatesStepx9
namespace Go.Proofs.Ytkkjnmnjbmfpaaa.PFnStatesStep
open Go.RowKit Go.Proofs.YtkkjnmnjbmfpaaaW.PrintWords Go.Proofs.YtkkjnmnjbmfpaaaW.PrintLast Go.Proofs.YtkkjnmnjbmfpaaaW.PrintMore
attribute [local go_sem] Instr.field asAgg part max2_int min2_int max_two min_two max_three min_three max_four min_four
set_option linter.unusedVariables false
set_option linter.unusedSimpArgs false
def spec_saCommon.l0 : Nat → Int → Int → Option (Int)
 | 0, _, _ => none
 | k + 1, x0, x1 => if x1 > 0 then (if x1 = 0 then (none) else (spec_saCommon.l0 k x1 (Int.tmod x0 x1))) else (some x0)
def spec_saCommon.f (k : Nat) (a0 : Int) (a1 : Int) : Option (Int) := spec_saCommon.l0 k a0 a1
set_option maxHeartbeats 8000000 in
set_option maxRecDepth 100000 in
theorem spec_saCommon.calls (k : Nat) (a0 : Int) (a1 : Int) (r : Int) (w : World) (h : spec_saCommon.f k a0 a1 = some r) :
 Calls Try.prog 53 #[.int .i64 a0, .int .i64 a1] w fun e w' => e = .returned (.int .i64 r) ∧ Drawn0 w w' := by
 have H := h
 clear h
 unfold spec_saCommon.f at H
 have H' := am H
 clear H
 go_enter Try.func53, Try.ntmps53
 go_wp2
 repeat (go_quiet (fail); try go_wp2)
 go_loopg [0, 1] k (fun kq v0 v1 w' => ∃ (x0_1 : Int) (x1_1 : Int), v0 = .int .i64 x0_1 ∧ v1 = .int .i64 x1_1 ∧ Aside0 (spec_saCommon.l0 kq x0_1 x1_1 = some r) ∧ Aside0 (kq ≤ k) ∧ Drawn0 w w')
 case atStart => exact ⟨(a0), (a1), sR, sR, H', ⟨Nat.le_refl _⟩, dW⟩
 case round =>
  clear H'
  obtain ⟨x0_1, x1_1, rfl, rfl, HA, HK1, ⟨m1, rfl⟩⟩ := hrel
  cases gk with
  | zero => exact absurd HA.out (by simp [spec_saCommon.l0])
  | succ k1 =>
   have H := HA.out
   clear HA
   simp only [spec_saCommon.l0] at H
   by_cases c3 : x1_1 > 0
   · rw [if_pos c3] at H
     have c3b0 : decide (0 < x1_1) = true := decide_eq_true c3
     clear c3
     replace H := ifN H
     obtain ⟨c4, H⟩ := H
     have c4b0 : (x1_1 == 0) = false := beq_eq_false_iff_ne.mpr c4
     have c4b1 : (x1_1 != 0) = true := bne_iff_ne.mpr c4
     have H' := am H
     clear H
     go_wp2
     repeat (go_quiet (fail); try go_wp2)
     go_roundg k1
     case measure => have := HK1.out; omega
     case rel => exact ⟨(x1_1), (Int.tmod x0_1 x1_1), sR, sR, H', ⟨oK⟩, dW⟩
   · rw [if_neg c3] at H
     have c3b0 : decide (0 < x1_1) = false := decide_eq_false c3
     clear c3
     obtain rfl := Option.some.inj H
     go_wp2
     repeat (go_quiet (fail); try go_wp2)
     go_ret
     exact ⟨sR, dW⟩
def spec_l1Abs.f (a0 : Int) : Option (Int) := (spec_l1Most.f a0 (wrap64 (-a0))).bind fun t485 => (some t485)
set_option maxHeartbeats 8000000 in
set_option maxRecDepth 100000 in
theorem spec_l1Abs.calls (a0 : Int) (r : Int) (w : World) (h : spec_l1Abs.f a0 = some r) :
 Calls Try.prog 54 #[.int .i64 a0] w fun e w' => e = .returned (.int .i64 r) ∧ Drawn0 w w' := by
 have H := h
 clear h
 unfold spec_l1Abs.f at H
 replace H := bnd H
 obtain ⟨t485, A2, H⟩ := H
 (try dsimp only at H)
 obtain rfl := Option.some.inj H
 go_enter Try.func54, Try.ntmps54
 go_wp2_with (first | ((with_reducible refine gate_callee (f := 62) rfl ?_); refine gL 6 Try.func62 #[.int .i64 a0, .int .i64 (wrap64 (-a0))] ?_; (with_reducible refine (spec_l1Most.calls a0 (wrap64 (-a0)) t485 _ A2.out).mono ?_); rintro e w' ⟨rfl, ⟨nd, rfl⟩⟩; refine ⟨_, rfl, ?_⟩))
 go_ret
 exact ⟨sR, dW⟩
mutual
def spec_PeriodOfState.l0 : Nat → Int → List Int → List Int → List Int → Int → Int → Int → List (List Int) → Option (Int × Bool)
 | 0, _, _, _, _, _, _, _, _ => none
 | k + 1, x6, x7, x8, x24, x25, x26, x487000, x487001 => if x26 < x25 then (if 0 ≤ x26 then (if x26 < (x24.length : Int) then (spec_PeriodOfState.l1 k x6 x7 x8 (rd x24 x26) x24 x25 x26 x8 (x8.length : Int) 0 x487000 x487001) else (none)) else (none)) else (if x6 = 0 then (some (0, false)) else (some (x6, true)))
def spec_PeriodOfState.l1 : Nat → Int → List Int → List Int → Int → List Int → Int → Int → List Int → Int → Int → Int → List (List Int) → Option (Int × Bool)
 | 0, _, _, _, _, _, _, _, _, _, _, _, _ => none
 | k + 1, x6, x7, x8, x10, x24, x25, x26, x30, x31, x32, x487000, x487001 => if x32 < x31 then (if 0 ≤ x32 then (if x32 < (x30.length : Int) then (if 0 ≤ x10 then (if x10 < (x487001.length : Int) then (if 0 ≤ (rd x30 x32) then (if (rd x30 x32) < ((rd_L2 x487001 x10).length : Int) then (if (rd (rd_L2 x487001 x10) (rd x30 x32)) > 0 then (if x10 < (x7.length : Int) then (if (rd x30 x32) < (x7.length : Int) then ((spec_l1Abs.f (wrap64 ((wrap64 ((rd x7 x10) + 1)) - (rd x7 (rd x30 x32))))).bind fun t500 => ((spec_saCommon.f k x6 t500).bind fun t501 => (spec_PeriodOfState.l1 k t501 x7 x8 x10 x24 x25 x26 x30 x31 (wrap64 (x32 + 1)) x487000 x487001))) else (none)) else (none)) else (spec_PeriodOfState.l1 k x6 x7 x8 x10 x24 x25 x26 x30 x31 (wrap64 (x32 + 1)) x487000 x487001)) else (none)) else (none)) else (none)) else (none)) else (none)) else (none)) else (spec_PeriodOfState.l0 k x6 x7 x8 x24 x25 (wrap64 (x26 + 1)) x487000 x487001)
end
def spec_PeriodOfState.f (k : Nat) (a0_0 : Int) (l0_1 : List (List Int)) (a1 : Int) : Option (Int × Bool) := (spec_saAsked.f k a0_0 l0_1 a1 a1).bind fun t487 => (if t487 = true then ((spec_saFar.f k a0_0 l0_1 a1).bind fun t488 => ((spec_saClass.f k a0_0 l0_1 a1).bind fun t491 => (spec_PeriodOfState.l0 k 0 t488 t491 t491 (t491.length : Int) 0 a0_0 l0_1))) else (some (0, false)))
set_option maxHeartbeats 8000000 in
set_option maxRecDepth 100000 in
theorem spec_PeriodOfState.calls (k : Nat) (a0_0 : Int) (A0_1 : Option Addr) (c0_1 : Nat) (l0_1 : List (List Int)) (a1 : Int) (r1 : Int) (r2 : Bool) (w : World) (hr0_1 : Kd.C (Kd.slice 3 (Kd.int .i64)) w A0_1 l0_1.length l0_1) (hc0_1 : l0_1.length ≤ c0_1) (h : spec_PeriodOfState.f k a0_0 l0_1 a1 = some (r1, r2)) :
 Calls Try.prog 19 #[.agg #[.int .i64 a0_0, .slice A0_1 l0_1.length c0_1], .int .i64 a1] w fun e w' => e = .returned (.tuple #[.int .i64 r1, .bool r2]) ∧ Below w.heap.size w w' := by
 have hu26 := Try.underlying26
 have HR0_1 := am hr0_1
 have HC0_1 := am hc0_1
 clear hr0_1 hc0_1
 have HB := am (Below.refl w.heap.size w)
 have H := h
 clear h
 unfold spec_PeriodOfState.f at H
 replace H := bnd H
 obtain ⟨t487, A3, H⟩ := H
 (try dsimp only at H)
 by_cases c4 : t487 = true
 · subst c4
   replace H := ifT H
   replace H := bnd H
   obtain ⟨t488, A5, H⟩ := H
   (try dsimp only at H)
   replace H := bnd H
   obtain ⟨t491, A6, H⟩ := H
   (try dsimp only at H)
   have H' := am H
   clear H
   go_enter Try.func19, Try.ntmps19
   go_wp2_with (first | ((with_reducible refine gate_dst (N := 2) rfl ?_); refine bE 2 #[.int .i64 a0_0, .slice A0_1 l0_1.length c0_1] 26 ?_; intro gb486 hg w7 hbox hb; have BK486 := am (hbox); have GW486 := gW hg; have GE486 := gW hg; replace HB := sB hb; clear hb hbox hg; obtain ⟨hcz8_0, hcz8_1, hfz8_0, hfz8_1⟩ := cZ BK486) | (go_at_call 40; (with_reducible refine (spec_saAsked.calls k a0_0 _ _ l0_1 a1 a1 true _ ?side1 HC0_1.out A3.out).mono ?_); (case side1 => exact cH HR0_1); rintro e w9 ⟨rfl, hb⟩; replace BK486 := kb BK486 hb; replace HB := sB hb; obtain ⟨hcz10_0, hcz10_1, hfz10_0, hfz10_1⟩ := cZ BK486) | (go_at_call 45; (with_reducible refine (spec_saFar.calls k a0_0 _ _ l0_1 a1 t488 _ ?side1 HC0_1.out A5.out).mono ?_); (case side1 => exact cH HR0_1); rintro e w11 ⟨v489, rfl, ho0, hb⟩; have HO490 := am (Kd.R_lower ho0 (below_size bB)); replace BK486 := kb BK486 hb; replace HB := sB hb; obtain ⟨hcz12_0, hcz12_1, hfz12_0, hfz12_1⟩ := cZ BK486) | (go_at_call 48; (with_reducible refine (spec_saClass.calls k a0_0 _ _ l0_1 a1 t491 _ ?side1 HC0_1.out A6.out).mono ?_); (case side1 => exact cH HR0_1); rintro e w13 ⟨v492, rfl, ho0, hb⟩; have HO493 := am (Kd.R_lower (Kd.R_new' ho0 (Kd.R_lt (rP HO490))) (below_size bB)); replace HO490 := eR HO490 ho0 hb; replace BK486 := kb BK486 hb; replace HB := sB hb; obtain ⟨Ao14, co14, eo14⟩ := Kd.R_slice HO493.out; subst eo14))
   repeat (go_quiet (first | ((with_reducible refine gate_dst (N := 2) rfl ?_); refine bE 2 #[.int .i64 a0_0, .slice A0_1 l0_1.length c0_1] 26 ?_; intro gb486 hg w7 hbox hb; have BK486 := am (hbox); have GW486 := gW hg; have GE486 := gW hg; replace HB := sB hb; clear hb hbox hg; obtain ⟨hcz8_0, hcz8_1, hfz8_0, hfz8_1⟩ := cZ BK486) | (go_at_call 40; (with_reducible refine (spec_saAsked.calls k a0_0 _ _ l0_1 a1 a1 true _ ?side1 HC0_1.out A3.out).mono ?_); (case side1 => exact cH HR0_1); rintro e w9 ⟨rfl, hb⟩; replace BK486 := kb BK486 hb; replace HB := sB hb; obtain ⟨hcz10_0, hcz10_1, hfz10_0, hfz10_1⟩ := cZ BK486) | (go_at_call 45; (with_reducible refine (spec_saFar.calls k a0_0 _ _ l0_1 a1 t488 _ ?side1 HC0_1.out A5.out).mono ?_); (case side1 => exact cH HR0_1); rintro e w11 ⟨v489, rfl, ho0, hb⟩; have HO490 := am (Kd.R_lower ho0 (below_size bB)); replace BK486 := kb BK486 hb; replace HB := sB hb; obtain ⟨hcz12_0, hcz12_1, hfz12_0, hfz12_1⟩ := cZ BK486) | (go_at_call 48; (with_reducible refine (spec_saClass.calls k a0_0 _ _ l0_1 a1 t491 _ ?side1 HC0_1.out A6.out).mono ?_); (case side1 => exact cH HR0_1); rintro e w13 ⟨v492, rfl, ho0, hb⟩; have HO493 := am (Kd.R_lower (Kd.R_new' ho0 (Kd.R_lt (rP HO490))) (below_size bB)); replace HO490 := eR HO490 ho0 hb; replace BK486 := kb BK486 hb; replace HB := sB hb; obtain ⟨Ao14, co14, eo14⟩ := Kd.R_slice HO493.out; subst eo14)); try go_wp2_with (first | ((with_reducible refine gate_dst (N := 2) rfl ?_); refine bE 2 #[.int .i64 a0_0, .slice A0_1 l0_1.length c0_1] 26 ?_; intro gb486 hg w7 hbox hb; have BK486 := am (hbox); have GW486 := gW hg; have GE486 := gW hg; replace HB := sB hb; clear hb hbox hg; obtain ⟨hcz8_0, hcz8_1, hfz8_0, hfz8_1⟩ := cZ BK486) | (go_at_call 40; (with_reducible refine (spec_saAsked.calls k a0_0 _ _ l0_1 a1 a1 true _ ?side1 HC0_1.out A3.out).mono ?_); (case side1 => exact cH HR0_1); rintro e w9 ⟨rfl, hb⟩; replace BK486 := kb BK486 hb; replace HB := sB hb; obtain ⟨hcz10_0, hcz10_1, hfz10_0, hfz10_1⟩ := cZ BK486) | (go_at_call 45; (with_reducible refine (spec_saFar.calls k a0_0 _ _ l0_1 a1 t488 _ ?side1 HC0_1.out A5.out).mono ?_); (case side1 => exact cH HR0_1); rintro e w11 ⟨v489, rfl, ho0, hb⟩; have HO490 := am (Kd.R_lower ho0 (below_size bB)); replace BK486 := kb BK486 hb; replace HB := sB hb; obtain ⟨hcz12_0, hcz12_1, hfz12_0, hfz12_1⟩ := cZ BK486) | (go_at_call 48; (with_reducible refine (spec_saClass.calls k a0_0 _ _ l0_1 a1 t491 _ ?side1 HC0_1.out A6.out).mono ?_); (case side1 => exact cH HR0_1); rintro e w13 ⟨v492, rfl, ho0, hb⟩; have HO493 := am (Kd.R_lower (Kd.R_new' ho0 (Kd.R_lt (rP HO490))) (below_size bB)); replace HO490 := eR HO490 ho0 hb; replace BK486 := kb BK486 hb; replace HB := sB hb; obtain ⟨Ao14, co14, eo14⟩ := Kd.R_slice HO493.out; subst eo14)))
   go_loopg [6, 26] k (fun kq v6 v26 w' => ∃ (x6_1 : Int) (x26_1 : Int), v6 = .int .i64 x6_1 ∧ v26 = .int .i64 x26_1 ∧ Aside0 (spec_PeriodOfState.l0 kq x6_1 t488 t491 t491 (t491.length : Int) x26_1 a0_0 l0_1 = some (r1, r2)) ∧ Aside0 (kq ≤ k) ∧ Aside0 (Kd.R (Kd.int .i64) 3 w' w.heap.size (fun k_ => some k_ ≠ ((.slice Ao14 t491.length co14) : Value).ownBlock ∧ some k_ ≠ ((.slice Ao14 t491.length co14) : Value).ownBlock) v489 t488) ∧ Aside0 (Kd.R (Kd.int .i64) 3 w' w.heap.size (fun k_ => some k_ ≠ (v489 : Value).ownBlock) (.slice Ao14 t491.length co14) t491) ∧ Aside0 (Kd.R (Kd.int .i64) 3 w' w.heap.size (fun k_ => some k_ ≠ (v489 : Value).ownBlock) (.slice Ao14 t491.length co14) t491) ∧ Aside0 (w'.heap[gb486]? = some (.cells #[.int .i64 a0_0, (.slice A0_1 l0_1.length c0_1)] 26 (0, 0))) ∧ Aside0 (Below w.heap.size w w'))
   case atStart => exact ⟨(0), (0), sR, sR, H', ⟨Nat.le_refl _⟩, ⟨by (with_reducible repeat (first | apply Kd.R_alloc | apply Kd.R_drewN | apply Kd.R_drew)); exact Kd.R_mono HO490.out (fun _ hk => ⟨hk.2, hk.2⟩)⟩, ⟨rF (Kd.R_mono HO493.out (fun _ hk => hk.2))⟩, ⟨rF (Kd.R_mono HO493.out (fun _ hk => hk.2))⟩, ⟨bP BK486⟩, ⟨bB⟩⟩
   case round =>
    clear H'
    obtain ⟨x6_1, x26_1, rfl, rfl, HA, HK1, HO_7, HO_8, HO_24, BK486, HB⟩ := hrel
    cases gk with
    | zero => exact absurd HA.out (by simp [spec_PeriodOfState.l0])
    | succ k1 =>
     have H := HA.out
     clear HA
     simp only [spec_PeriodOfState.l0] at H
     by_cases c15 : x26_1 < (t491.length : Int)
     · rw [if_pos c15] at H
       have c15b0 := decide_eq_true c15
       clear c15
       replace H := ifP H
       obtain ⟨c16, H⟩ := H
       have c16b0 := decide_eq_true c16
       clear c16
       replace H := ifP H
       obtain ⟨c17, H⟩ := H
       have c17b0 := decide_eq_true c17
       clear c17
       have H' := am H
       clear H
       have p494 : 0 ≤ (x26_1 : Int) := dT
       have q494 : x26_1 < (t491.length : Int) := dT
       obtain ⟨ad494, e494, hx494_0⟩ := Kd.at_int (Kd.R_reads' HO_24.out).2.2 x26_1 p494 q494
       cases e494
       replace p494 := eq_true p494
       replace q494 := eq_true q494
       go_wp2
       repeat (go_quiet (fail); try go_wp2)
       go_loopg [6, 32] k1 (fun kq v6 v32 w' => ∃ (x6_2 : Int) (x32_2 : Int), v6 = .int .i64 x6_2 ∧ v32 = .int .i64 x32_2 ∧ Aside0 (spec_PeriodOfState.l1 kq x6_2 t488 t491 (rd t491 x26_1) t491 (t491.length : Int) x26_1 t491 (t491.length : Int) x32_2 a0_0 l0_1 = some (r1, r2)) ∧ Aside0 (kq ≤ k1) ∧ Aside0 (Kd.R (Kd.int .i64) 3 w' w.heap.size (fun k_ => some k_ ≠ ((.slice (some ad494) t491.length co14) : Value).ownBlock ∧ some k_ ≠ ((.slice (some ad494) t491.length co14) : Value).ownBlock ∧ some k_ ≠ ((.slice (some ad494) t491.length co14) : Value).ownBlock) v489 t488) ∧ Aside0 (Kd.R (Kd.int .i64) 3 w' w.heap.size (fun k_ => some k_ ≠ (v489 : Value).ownBlock) (.slice (some ad494) t491.length co14) t491) ∧ Aside0 (Kd.R (Kd.int .i64) 3 w' w.heap.size (fun k_ => some k_ ≠ (v489 : Value).ownBlock) (.slice (some ad494) t491.length co14) t491) ∧ Aside0 (Kd.R (Kd.int .i64) 3 w' w.heap.size (fun k_ => some k_ ≠ (v489 : Value).ownBlock) (.slice (some ad494) t491.length co14) t491) ∧ Aside0 (w'.heap[gb486]? = some (.cells #[.int .i64 a0_0, (.slice A0_1 l0_1.length c0_1)] 26 (0, 0))) ∧ Aside0 (Below w.heap.size w w'))
       case atStart => exact ⟨(x6_1), (0), sR, sR, H', ⟨Nat.le_refl _⟩, ⟨by (with_reducible repeat (first | apply Kd.R_alloc | apply Kd.R_drewN | apply Kd.R_drew)); exact Kd.R_mono HO_7.out (fun _ hk => ⟨hk.1, ⟨hk.2, hk.1⟩⟩)⟩, ⟨rP HO_8⟩, ⟨rP HO_24⟩, ⟨rP HO_8⟩, ⟨bP BK486⟩, ⟨bB⟩⟩
       case round =>
        clear H'
        obtain ⟨x6_2, x32_2, rfl, rfl, HA, HK2, HO_7, HO_8, HO_24, HO_30, BK486, HB⟩ := hrel
        cases gk with
        | zero => exact absurd HA.out (by simp [spec_PeriodOfState.l1])
        | succ k2 =>
         have H := HA.out
         clear HA
         simp only [spec_PeriodOfState.l1] at H
         by_cases c18 : x32_2 < (t491.length : Int)
         · rw [if_pos c18] at H
           have c18b0 := decide_eq_true c18
           clear c18
           replace H := ifP H
           obtain ⟨c19, H⟩ := H
           have c19b0 := decide_eq_true c19
           clear c19
           replace H := ifP H
           obtain ⟨c20, H⟩ := H
           have c20b0 := decide_eq_true c20
           clear c20
           replace H := ifP H
           obtain ⟨c21, H⟩ := H
           have c21b0 := decide_eq_true c21
           clear c21
           replace H := ifP H
           obtain ⟨c22, H⟩ := H
           have c22b0 := decide_eq_true c22
           clear c22
           replace H := ifP H
           obtain ⟨c23, H⟩ := H
           have c23b0 := decide_eq_true c23
           clear c23
           replace H := ifP H
           obtain ⟨c24, H⟩ := H
           have c24b0 := decide_eq_true c24
           clear c24
           by_cases c25 : (rd (rd_L2 l0_1 (rd t491 x26_1)) (rd t491 x32_2)) > 0
           · rw [if_pos c25] at H
             have c25b0 : decide (0 < (rd (rd_L2 l0_1 (rd t491 x26_1)) (rd t491 x32_2))) = true := decide_eq_true c25
             clear c25
             replace H := ifP H
             obtain ⟨c26, H⟩ := H
             have c26b0 := decide_eq_true c26
             clear c26
             replace H := ifP H
             obtain ⟨c27, H⟩ := H
             have c27b0 := decide_eq_true c27
             clear c27
             replace H := bnd H
             obtain ⟨t500, A28, H⟩ := H
             (try dsimp only at H)
             replace H := bnd H
             obtain ⟨t501, A29, H⟩ := H
             (try dsimp only at H)
             have H' := am H
             clear H
             have p495 : 0 ≤ (x32_2 : Int) := dT
             have q495 : x32_2 < (t491.length : Int) := dT
             obtain ⟨ad495, e495, hx495_0⟩ := Kd.at_int (Kd.R_reads' HO_30.out).2.2 x32_2 p495 q495
             obtain rfl : ad494 = ad495 := (by injection e495)
             replace p495 := eq_true p495
             replace q495 := eq_true q495
             obtain ⟨hcz30_0, hcz30_1, hfz30_0, hfz30_1⟩ := cZ BK486
             have p496 : 0 ≤ ((rd t491 x26_1) : Int) := dT
             have q496 : (rd t491 x26_1) < (l0_1.length : Int) := dT
             obtain ⟨ad496, A496_0, c496_0, e496, hx496_0, hl496_0, hi496_0⟩ := at_L2 HR0_1.out (rd t491 x26_1) p496 q496
             cases e496
             replace hx496_0 := (HB.out.cell (World.block_lt_of_cell? w _ hx496_0)).trans hx496_0
             have HR496_0 := am hi496_0
             have HC496_0 := am hl496_0
             clear hi496_0 hl496_0
             replace p496 := eq_true p496
             replace q496 := eq_true q496
             have p497 : 0 ≤ ((rd t491 x32_2) : Int) := dT
             have q497 : (rd t491 x32_2) < ((rd_L2 l0_1 (rd t491 x26_1)).length : Int) := dT
             obtain ⟨ad497, e497, hx497_0⟩ := Kd.at_int HR496_0.out (rd t491 x32_2) p497 q497
             cases e497
             replace hx497_0 := (HB.out.cell (World.block_lt_of_cell? w _ hx497_0)).trans hx497_0
             replace p497 := eq_true p497
             replace q497 := eq_true q497
             obtain ⟨Ao31, co31, eo31⟩ := Kd.R_slice HO_7.out
             subst eo31
             have p498 : 0 ≤ ((rd t491 x26_1) : Int) := dT
             have q498 : (rd t491 x26_1) < (t488.length : Int) := dT
             obtain ⟨ad498, e498, hx498_0⟩ := Kd.at_int (Kd.R_reads' HO_7.out).2.2 (rd t491 x26_1) p498 q498
             cases e498
             replace p498 := eq_true p498
             replace q498 := eq_true q498
             have p499 : 0 ≤ ((rd t491 x32_2) : Int) := dT
             have q499 : (rd t491 x32_2) < (t488.length : Int) := dT
             obtain ⟨ad499, e499, hx499_0⟩ := Kd.at_int (Kd.R_reads' HO_7.out).2.2 (rd t491 x32_2) p499 q499
             obtain rfl : ad498 = ad499 := (by injection e499)
             replace p499 := eq_true p499
             replace q499 := eq_true q499
             go_wp2_with (first | (go_at_call 54; (with_reducible refine (spec_l1Abs.calls (wrap64 ((wrap64 ((rd t488 (rd t491 x26_1)) + 1)) - (rd t488 (rd t491 x32_2)))) t500 _ A28.out).mono ?_); rintro e w' ⟨rfl, ⟨nd, rfl⟩⟩; (try first | exact ⟨rfl, _, World.drewN_drewN _ _ _⟩ | exact ⟨rfl, _, Eq.trans (World.drewN_drewN _ _ _) (congrArg (World.drewN _) (Nat.add_assoc _ _ _))⟩)) | (go_at_call 53; (with_reducible refine (spec_saCommon.calls k2 x6_2 t500 t501 _ A29.out).mono ?_); rintro e w' ⟨rfl, ⟨nd, rfl⟩⟩; (try first | exact ⟨rfl, _, World.drewN_drewN _ _ _⟩ | exact ⟨rfl, _, Eq.trans (World.drewN_drewN _ _ _) (congrArg (World.drewN _) (Nat.add_assoc _ _ _))⟩)))
             repeat (go_quiet (first | (go_at_call 54; (with_reducible refine (spec_l1Abs.calls (wrap64 ((wrap64 ((rd t488 (rd t491 x26_1)) + 1)) - (rd t488 (rd t491 x32_2)))) t500 _ A28.out).mono ?_); rintro e w' ⟨rfl, ⟨nd, rfl⟩⟩; (try first | exact ⟨rfl, _, World.drewN_drewN _ _ _⟩ | exact ⟨rfl, _, Eq.trans (World.drewN_drewN _ _ _) (congrArg (World.drewN _) (Nat.add_assoc _ _ _))⟩)) | (go_at_call 53; (with_reducible refine (spec_saCommon.calls k2 x6_2 t500 t501 _ A29.out).mono ?_); rintro e w' ⟨rfl, ⟨nd, rfl⟩⟩; (try first | exact ⟨rfl, _, World.drewN_drewN _ _ _⟩ | exact ⟨rfl, _, Eq.trans (World.drewN_drewN _ _ _) (congrArg (World.drewN _) (Nat.add_assoc _ _ _))⟩))); try go_wp2_with (first | (go_at_call 54; (with_reducible refine (spec_l1Abs.calls (wrap64 ((wrap64 ((rd t488 (rd t491 x26_1)) + 1)) - (rd t488 (rd t491 x32_2)))) t500 _ A28.out).mono ?_); rintro e w' ⟨rfl, ⟨nd, rfl⟩⟩; (try first | exact ⟨rfl, _, World.drewN_drewN _ _ _⟩ | exact ⟨rfl, _, Eq.trans (World.drewN_drewN _ _ _) (congrArg (World.drewN _) (Nat.add_assoc _ _ _))⟩)) | (go_at_call 53; (with_reducible refine (spec_saCommon.calls k2 x6_2 t500 t501 _ A29.out).mono ?_); rintro e w' ⟨rfl, ⟨nd, rfl⟩⟩; (try first | exact ⟨rfl, _, World.drewN_drewN _ _ _⟩ | exact ⟨rfl, _, Eq.trans (World.drewN_drewN _ _ _) (congrArg (World.drewN _) (Nat.add_assoc _ _ _))⟩))))
             go_roundg k2
             case measure => have := HK1.out; have := HK2.out; omega
             case rel => exact ⟨(t501), (wrap64 (x32_2 + 1)), sR, sR, H', ⟨oK⟩, ⟨rP HO_7⟩, ⟨rP HO_8⟩, ⟨rP HO_24⟩, ⟨rP HO_30⟩, ⟨bP BK486⟩, ⟨bB⟩⟩
           · rw [if_neg c25] at H
             have c25b0 : decide (0 < (rd (rd_L2 l0_1 (rd t491 x26_1)) (rd t491 x32_2))) = false := decide_eq_false c25
             clear c25
             have H' := am H
             clear H
             have p495 : 0 ≤ (x32_2 : Int) := dT
             have q495 : x32_2 < (t491.length : Int) := dT
             obtain ⟨ad495, e495, hx495_0⟩ := Kd.at_int (Kd.R_reads' HO_30.out).2.2 x32_2 p495 q495
             obtain rfl : ad494 = ad495 := (by injection e495)
             replace p495 := eq_true p495
             replace q495 := eq_true q495
             obtain ⟨hcz32_0, hcz32_1, hfz32_0, hfz32_1⟩ := cZ BK486
             have p496 : 0 ≤ ((rd t491 x26_1) : Int) := dT
             have q496 : (rd t491 x26_1) < (l0_1.length : Int) := dT
             obtain ⟨ad496, A496_0, c496_0, e496, hx496_0, hl496_0, hi496_0⟩ := at_L2 HR0_1.out (rd t491 x26_1) p496 q496
             cases e496
             replace hx496_0 := (HB.out.cell (World.block_lt_of_cell? w _ hx496_0)).trans hx496_0
             have HR496_0 := am hi496_0
             have HC496_0 := am hl496_0
             clear hi496_0 hl496_0
             replace p496 := eq_true p496
             replace q496 := eq_true q496
             have p497 : 0 ≤ ((rd t491 x32_2) : Int) := dT
             have q497 : (rd t491 x32_2) < ((rd_L2 l0_1 (rd t491 x26_1)).length : Int) := dT
             obtain ⟨ad497, e497, hx497_0⟩ := Kd.at_int HR496_0.out (rd t491 x32_2) p497 q497
             cases e497
             replace hx497_0 := (HB.out.cell (World.block_lt_of_cell? w _ hx497_0)).trans hx497_0
             replace p497 := eq_true p497
             replace q497 := eq_true q497
             go_wp2
             repeat (go_quiet (fail); try go_wp2)
             go_roundg k2
             case measure => have := HK1.out; have := HK2.out; omega
             case rel => exact ⟨(x6_2), (wrap64 (x32_2 + 1)), sR, sR, H', ⟨oK⟩, ⟨rP HO_7⟩, ⟨rP HO_8⟩, ⟨rP HO_24⟩, ⟨rP HO_30⟩, ⟨bP BK486⟩, ⟨bB⟩⟩
         · rw [if_neg c18] at H
           have c18b0 := decide_eq_false c18
           clear c18
           have H' := am H
           clear H
           go_wp2
           repeat (go_quiet (fail); try go_wp2)
           go_roundg k2
           case measure => have := HK1.out; have := HK2.out; omega
           case rel => exact ⟨(x6_2), (wrap64 (x26_1 + 1)), sR, sR, H', ⟨oK⟩, ⟨by (with_reducible repeat (first | apply Kd.R_alloc | apply Kd.R_drewN | apply Kd.R_drew)); exact Kd.R_mono HO_7.out (fun _ hk => ⟨hk.1, hk.2.1⟩)⟩, ⟨rP HO_8⟩, ⟨rP HO_24⟩, ⟨bP BK486⟩, ⟨bB⟩⟩
     · rw [if_neg c15] at H
       have c15b0 := decide_eq_false c15
       clear c15
       by_cases c33 : x6_1 = 0
       · rw [if_pos c33] at H
         have c33b0 : (x6_1 == 0) = true := beq_iff_eq.mpr c33
         have c33b1 : (x6_1 != 0) = false := bne_eq_false_iff_eq.mpr c33
         clear c33
         simp only [Option.some.injEq, Prod.mk.injEq] at H
         obtain ⟨rfl, rfl⟩ := H
         go_wp2
         repeat (go_quiet (fail); try go_wp2)
         go_ret2
         exact ⟨eW, bB⟩
       · rw [if_neg c33] at H
         have c33b0 : (x6_1 == 0) = false := beq_eq_false_iff_ne.mpr c33
         have c33b1 : (x6_1 != 0) = true := bne_iff_ne.mpr c33
         simp only [Option.some.injEq, Prod.mk.injEq] at H
         obtain ⟨rfl, rfl⟩ := H
         go_wp2
         repeat (go_quiet (fail); try go_wp2)
         go_ret2
         exact ⟨eW, bB⟩
 · replace c4 := Bool.eq_false_iff.mpr c4
   subst c4
   replace H := ifF H
   simp only [Option.some.injEq, Prod.mk.injEq] at H
   obtain ⟨rfl, rfl⟩ := H
   go_enter Try.func19, Try.ntmps19
   go_wp2_with (first | ((with_reducible refine gate_dst (N := 2) rfl ?_); refine bE 2 #[.int .i64 a0_0, .slice A0_1 l0_1.length c0_1] 26 ?_; intro gb486 hg w34 hbox hb; have BK486 := am (hbox); have GW486 := gW hg; have GE486 := gW hg; replace HB := sB hb; clear hb hbox hg; obtain ⟨hcz35_0, hcz35_1, hfz35_0, hfz35_1⟩ := cZ BK486) | (go_at_call 40; (with_reducible refine (spec_saAsked.calls k a0_0 _ _ l0_1 a1 a1 false _ ?side1 HC0_1.out A3.out).mono ?_); (case side1 => exact cH HR0_1); rintro e w36 ⟨rfl, hb⟩; replace BK486 := kb BK486 hb; replace HB := sB hb))
   repeat (go_quiet (first | ((with_reducible refine gate_dst (N := 2) rfl ?_); refine bE 2 #[.int .i64 a0_0, .slice A0_1 l0_1.length c0_1] 26 ?_; intro gb486 hg w34 hbox hb; have BK486 := am (hbox); have GW486 := gW hg; have GE486 := gW hg; replace HB := sB hb; clear hb hbox hg; obtain ⟨hcz35_0, hcz35_1, hfz35_0, hfz35_1⟩ := cZ BK486) | (go_at_call 40; (with_reducible refine (spec_saAsked.calls k a0_0 _ _ l0_1 a1 a1 false _ ?side1 HC0_1.out A3.out).mono ?_); (case side1 => exact cH HR0_1); rintro e w36 ⟨rfl, hb⟩; replace BK486 := kb BK486 hb; replace HB := sB hb)); try go_wp2_with (first | ((with_reducible refine gate_dst (N := 2) rfl ?_); refine bE 2 #[.int .i64 a0_0, .slice A0_1 l0_1.length c0_1] 26 ?_; intro gb486 hg w34 hbox hb; have BK486 := am (hbox); have GW486 := gW hg; have GE486 := gW hg; replace HB := sB hb; clear hb hbox hg; obtain ⟨hcz35_0, hcz35_1, hfz35_0, hfz35_1⟩ := cZ BK486) | (go_at_call 40; (with_reducible refine (spec_saAsked.calls k a0_0 _ _ l0_1 a1 a1 false _ ?side1 HC0_1.out A3.out).mono ?_); (case side1 => exact cH HR0_1); rintro e w36 ⟨rfl, hb⟩; replace BK486 := kb BK486 hb; replace HB := sB hb)))
   go_ret2
   exact ⟨eW, bB⟩
def laws_uSame.l0 : Nat → List Int → List Int → Int → Int → Option (Bool)
 | 0, _, _, _, _ => none
 | k + 1, x0, x1, x12, x13 => if x13 < x12 then (if 0 ≤ x13 then (if x13 < (x0.length : Int) then (if x13 < (x1.length : Int) then (if (rd x0 x13) = (rd x1 x13) then (laws_uSame.l0 k x0 x1 x12 (wrap64 (x13 + 1))) else (some false)) else (none)) else (none)) else (none)) else (some true)
def laws_uSame.f (k : Nat) (l0 : List Int) (l1 : List Int) : Option (Bool) := if (l0.length : Int) = (l1.length : Int) then (laws_uSame.l0 k l0 l1 (l0.length : Int) 0) else (some false)
set_option maxHeartbeats 8000000 in
set_option maxRecDepth 100000 in
theorem laws_uSame.calls (k : Nat) (A0 : Option Addr) (c0 : Nat) (l0 : List Int) (A1 : Option Addr) (c1 : Nat) (l1 : List Int) (r : Bool) (w : World) (hr0 : Kd.C (Kd.int .i64) w A0 l0.length l0) (hc0 : l0.length ≤ c0) (hr1 : Kd.C (Kd.int .i64) w A1 l1.length l1) (hc1 : l1.length ≤ c1) (h : laws_uSame.f k l0 l1 = some r) :
 Calls Try.prog 20 #[.slice A0 l0.length c0, .slice A1 l1.length c1] w fun e w' => e = .returned (.bool r) ∧ Drawn0 w w' := by
 have HR0 := am hr0
 have HC0 := am hc0
 clear hr0 hc0
 have HR1 := am hr1
 have HC1 := am hc1
 clear hr1 hc1
 have H := h
 clear h
 unfold laws_uSame.f at H
 by_cases c3 : (l0.length : Int) = (l1.length : Int)
 · rw [if_pos c3] at H
   have c3b0 : ((l0.length : Int) == (l1.length : Int)) = true := beq_iff_eq.mpr c3
   have c3b1 : ((l0.length : Int) != (l1.length : Int)) = false := bne_eq_false_iff_eq.mpr c3
   have c3b2 : (l0.length == l1.length) = true := by first | simpa using c3 | (simp at c3 ⊢; omega)
   clear c3
   have H' := am H
   clear H
   go_enter Try.func20, Try.ntmps20
   go_wp2
   repeat (go_quiet (fail); try go_wp2)
   go_loopg [13] k (fun kq v13 w' => ∃ (x13_1 : Int), v13 = .int .i64 x13_1 ∧ Aside0 (laws_uSame.l0 kq l0 l1 (l0.length : Int) x13_1 = some r) ∧ Aside0 (kq ≤ k) ∧ Drawn0 w w')
   case atStart => exact ⟨(0), sR, H', ⟨Nat.le_refl _⟩, dW⟩
   case round =>
    clear H'
    obtain ⟨x13_1, rfl, HA, HK1, ⟨m1, rfl⟩⟩ := hrel
    cases gk with
    | zero => exact absurd HA.out (by simp [laws_uSame.l0])
    | succ k1 =>
     have H := HA.out
     clear HA
     simp only [laws_uSame.l0] at H
     by_cases c4 : x13_1 < (l0.length : Int)
     · rw [if_pos c4] at H
       have c4b0 := decide_eq_true c4
       clear c4
       replace H := ifP H
       obtain ⟨c5, H⟩ := H
       have c5b0 := decide_eq_true c5
       clear c5
       replace H := ifP H
       obtain ⟨c6, H⟩ := H
       have c6b0 := decide_eq_true c6
       clear c6
       replace H := ifP H
       obtain ⟨c7, H⟩ := H
       have c7b0 := decide_eq_true c7
       clear c7
       by_cases c8 : (rd l0 x13_1) = (rd l1 x13_1)
       · rw [if_pos c8] at H
         have c8b0 : ((rd l0 x13_1) == (rd l1 x13_1)) = true := beq_iff_eq.mpr c8
         have c8b1 : ((rd l0 x13_1) != (rd l1 x13_1)) = false := bne_eq_false_iff_eq.mpr c8
         clear c8
         have H' := am H
         clear H
         have p502 : 0 ≤ (x13_1 : Int) := dT
         have q502 : x13_1 < (l0.length : Int) := dT
         obtain ⟨ad502, e502, hx502_0⟩ := Kd.at_int HR0.out x13_1 p502 q502
         cases e502
         replace p502 := eq_true p502
         replace q502 := eq_true q502
         have p503 : 0 ≤ (x13_1 : Int) := dT
         have q503 : x13_1 < (l1.length : Int) := dT
         obtain ⟨ad503, e503, hx503_0⟩ := Kd.at_int HR1.out x13_1 p503 q503
         cases e503
         replace p503 := eq_true p503
         replace q503 := eq_true q503
         go_wp2
         repeat (go_quiet (fail); try go_wp2)
         go_roundg k1
         case measure => have := HK1.out; omega
         case rel => exact ⟨(wrap64 (x13_1 + 1)), sR, H', ⟨oK⟩, dW⟩
       · rw [if_neg c8] at H
         have c8b0 : ((rd l0 x13_1) == (rd l1 x13_1)) = false := beq_eq_false_iff_ne.mpr c8
         have c8b1 : ((rd l0 x13_1) != (rd l1 x13_1)) = true := bne_iff_ne.mpr c8
         obtain rfl := Option.some.inj H
         have p502 : 0 ≤ (x13_1 : Int) := dT
         have q502 : x13_1 < (l0.length : Int) := dT
         obtain ⟨ad502, e502, hx502_0⟩ := Kd.at_int HR0.out x13_1 p502 q502
         cases e502
         replace p502 := eq_true p502
         replace q502 := eq_true q502
         have p503 : 0 ≤ (x13_1 : Int) := dT
         have q503 : x13_1 < (l1.length : Int) := dT
         obtain ⟨ad503, e503, hx503_0⟩ := Kd.at_int HR1.out x13_1 p503 q503
         cases e503
         replace p503 := eq_true p503
         replace q503 := eq_true q503
         go_wp2
         repeat (go_quiet (fail); try go_wp2)
         go_ret
         exact ⟨sR, dW⟩
     · rw [if_neg c4] at H
       have c4b0 := decide_eq_false c4
       clear c4
       obtain rfl := Option.some.inj H
       go_wp2
       repeat (go_quiet (fail); try go_wp2)
       go_ret
       exact ⟨sR, dW⟩
 · rw [if_neg c3] at H
   have c3b0 : ((l0.length : Int) == (l1.length : Int)) = false := beq_eq_false_iff_ne.mpr c3
   have c3b1 : ((l0.length : Int) != (l1.length : Int)) = true := bne_iff_ne.mpr c3
   have c3b2 : (l0.length == l1.length) = false := by first | simpa using c3 | (simp at c3 ⊢; omega)
   obtain rfl := Option.some.inj H
   go_enter Try.func20, Try.ntmps20
   go_wp2
   repeat (go_quiet (fail); try go_wp2)
   go_ret
   exact ⟨sR, dW⟩
def laws_uRows.l0 : Nat → List (List Int) → List (List Int) → Int → Int → Option (Bool)
 | 0, _, _, _, _ => none
 | k + 1, x0, x1, x12, x13 => if x13 < x12 then (if 0 ≤ x13 then (if x13 < (x0.length : Int) then (if x13 < (x1.length : Int) then ((laws_uSame.f k (rd_L2 x0 x13) (rd_L2 x1 x13)).bind fun t506 => (if t506 = true then (laws_uRows.l0 k x0 x1 x12 (wrap64 (x13 + 1))) else (some false))) else (none)) else (none)) else (none)) else (some true)
def laws_uRows.f (k : Nat) (l0 : List (List Int)) (l1 : List (List Int)) : Option (Bool) := if (l0.length : Int) = (l1.length : Int) then (laws_uRows.l0 k l0 l1 (l0.length : Int) 0) else (some false)
set_option maxHeartbeats 8000000 in
set_option maxRecDepth 100000 in
theorem laws_uRows.calls (k : Nat) (A0 : Option Addr) (c0 : Nat) (l0 : List (List Int)) (A1 : Option Addr) (c1 : Nat) (l1 : List (List Int)) (r : Bool) (w : World) (hr0 : Kd.C (Kd.slice 3 (Kd.int .i64)) w A0 l0.length l0) (hc0 : l0.length ≤ c0) (hr1 : Kd.C (Kd.slice 3 (Kd.int .i64)) w A1 l1.length l1) (hc1 : l1.length ≤ c1) (h : laws_uRows.f k l0 l1 = some r) :
 Calls Try.prog 21 #[.slice A0 l0.length c0, .slice A1 l1.length c1] w fun e w' => e = .returned (.bool r) ∧ Drawn0 w w' := by
 have HR0 := am hr0
 have HC0 := am hc0
 clear hr0 hc0
 have HR1 := am hr1
 have HC1 := am hc1
 clear hr1 hc1
 have H := h
 clear h
 unfold laws_uRows.f at H
 by_cases c3 : (l0.length : Int) = (l1.length : Int)
 · rw [if_pos c3] at H
   have c3b0 : ((l0.length : Int) == (l1.length : Int)) = true := beq_iff_eq.mpr c3
   have c3b1 : ((l0.length : Int) != (l1.length : Int)) = false := bne_eq_false_iff_eq.mpr c3
   have c3b2 : (l0.length == l1.length) = true := by first | simpa using c3 | (simp at c3 ⊢; omega)
   clear c3
   have H' := am H
   clear H
   go_enter Try.func21, Try.ntmps21
   go_wp2
   repeat (go_quiet (fail); try go_wp2)
   go_loopg [13] k (fun kq v13 w' => ∃ (x13_1 : Int), v13 = .int .i64 x13_1 ∧ Aside0 (laws_uRows.l0 kq l0 l1 (l0.length : Int) x13_1 = some r) ∧ Aside0 (kq ≤ k) ∧ Drawn0 w w')
   case atStart => exact ⟨(0), sR, H', ⟨Nat.le_refl _⟩, dW⟩
   case round =>
    clear H'
    obtain ⟨x13_1, rfl, HA, HK1, ⟨m1, rfl⟩⟩ := hrel
    cases gk with
    | zero => exact absurd HA.out (by simp [laws_uRows.l0])
    | succ k1 =>
     have H := HA.out
     clear HA
     simp only [laws_uRows.l0] at H
     by_cases c4 : x13_1 < (l0.length : Int)
     · rw [if_pos c4] at H
       have c4b0 := decide_eq_true c4
       clear c4
       replace H := ifP H
       obtain ⟨c5, H⟩ := H
       have c5b0 := decide_eq_true c5
       clear c5
       replace H := ifP H
       obtain ⟨c6, H⟩ := H
       have c6b0 := decide_eq_true c6
       clear c6
       replace H := ifP H
       obtain ⟨c7, H⟩ := H
       have c7b0 := decide_eq_true c7
       clear c7
       replace H := bnd H
       obtain ⟨t506, A8, H⟩ := H
       (try dsimp only at H)
       by_cases c9 : t506 = true
       · subst c9
         replace H := ifT H
         have H' := am H
         clear H
         have p504 : 0 ≤ (x13_1 : Int) := dT
         have q504 : x13_1 < (l0.length : Int) := dT
         obtain ⟨ad504, A504_0, c504_0, e504, hx504_0, hl504_0, hi504_0⟩ := at_L2 HR0.out x13_1 p504 q504
         cases e504
         have HR504_0 := am hi504_0
         have HC504_0 := am hl504_0
         clear hi504_0 hl504_0
         replace p504 := eq_true p504
         replace q504 := eq_true q504
         have p505 : 0 ≤ (x13_1 : Int) := dT
         have q505 : x13_1 < (l1.length : Int) := dT
         obtain ⟨ad505, A505_0, c505_0, e505, hx505_0, hl505_0, hi505_0⟩ := at_L2 HR1.out x13_1 p505 q505
         cases e505
         have HR505_0 := am hi505_0
         have HC505_0 := am hl505_0
         clear hi505_0 hl505_0
         replace p505 := eq_true p505
         replace q505 := eq_true q505
         go_wp2_with (first | (go_at_call 20; (with_reducible refine (laws_uSame.calls k1 _ _ (rd_L2 l0 x13_1) _ _ (rd_L2 l1 x13_1) true _ ?side1 HC504_0.out ?side3 HC505_0.out A8.out).mono ?_); (case side1 => exact cB HR504_0.out); (case side3 => exact cB HR505_0.out); rintro e w' ⟨rfl, ⟨nd, rfl⟩⟩; (try first | exact ⟨rfl, _, World.drewN_drewN _ _ _⟩ | exact ⟨rfl, _, Eq.trans (World.drewN_drewN _ _ _) (congrArg (World.drewN _) (Nat.add_assoc _ _ _))⟩)))
         repeat (go_quiet (first | (go_at_call 20; (with_reducible refine (laws_uSame.calls k1 _ _ (rd_L2 l0 x13_1) _ _ (rd_L2 l1 x13_1) true _ ?side1 HC504_0.out ?side3 HC505_0.out A8.out).mono ?_); (case side1 => exact cB HR504_0.out); (case side3 => exact cB HR505_0.out); rintro e w' ⟨rfl, ⟨nd, rfl⟩⟩; (try first | exact ⟨rfl, _, World.drewN_drewN _ _ _⟩ | exact ⟨rfl, _, Eq.trans (World.drewN_drewN _ _ _) (congrArg (World.drewN _) (Nat.add_assoc _ _ _))⟩))); try go_wp2_with (first | (go_at_call 20; (with_reducible refine (laws_uSame.calls k1 _ _ (rd_L2 l0 x13_1) _ _ (rd_L2 l1 x13_1) true _ ?side1 HC504_0.out ?side3 HC505_0.out A8.out).mono ?_); (case side1 => exact cB HR504_0.out); (case side3 => exact cB HR505_0.out); rintro e w' ⟨rfl, ⟨nd, rfl⟩⟩; (try first | exact ⟨rfl, _, World.drewN_drewN _ _ _⟩ | exact ⟨rfl, _, Eq.trans (World.drewN_drewN _ _ _) (congrArg (World.drewN _) (Nat.add_assoc _ _ _))⟩))))
         go_roundg k1
         case measure => have := HK1.out; omega
         case rel => exact ⟨(wrap64 (x13_1 + 1)), sR, H', ⟨oK⟩, dW⟩
       · replace c9 := Bool.eq_false_iff.mpr c9
         subst c9
         replace H := ifF H
         obtain rfl := Option.some.inj H
         have p504 : 0 ≤ (x13_1 : Int) := dT
         have q504 : x13_1 < (l0.length : Int) := dT
         obtain ⟨ad504, A504_0, c504_0, e504, hx504_0, hl504_0, hi504_0⟩ := at_L2 HR0.out x13_1 p504 q504
         cases e504
         have HR504_0 := am hi504_0
         have HC504_0 := am hl504_0
         clear hi504_0 hl504_0
         replace p504 := eq_true p504
         replace q504 := eq_true q504
         have p505 : 0 ≤ (x13_1 : Int) := dT
         have q505 : x13_1 < (l1.length : Int) := dT
         obtain ⟨ad505, A505_0, c505_0, e505, hx505_0, hl505_0, hi505_0⟩ := at_L2 HR1.out x13_1 p505 q505
         cases e505
         have HR505_0 := am hi505_0
         have HC505_0 := am hl505_0
         clear hi505_0 hl505_0
         replace p505 := eq_true p505
         replace q505 := eq_true q505
         go_wp2_with (first | (go_at_call 20; (with_reducible refine (laws_uSame.calls k1 _ _ (rd_L2 l0 x13_1) _ _ (rd_L2 l1 x13_1) false _ ?side1 HC504_0.out ?side3 HC505_0.out A8.out).mono ?_); (case side1 => exact cB HR504_0.out); (case side3 => exact cB HR505_0.out); rintro e w' ⟨rfl, ⟨nd, rfl⟩⟩; (try first | exact ⟨rfl, _, World.drewN_drewN _ _ _⟩ | exact ⟨rfl, _, Eq.trans (World.drewN_drewN _ _ _) (congrArg (World.drewN _) (Nat.add_assoc _ _ _))⟩)))
         repeat (go_quiet (first | (go_at_call 20; (with_reducible refine (laws_uSame.calls k1 _ _ (rd_L2 l0 x13_1) _ _ (rd_L2 l1 x13_1) false _ ?side1 HC504_0.out ?side3 HC505_0.out A8.out).mono ?_); (case side1 => exact cB HR504_0.out); (case side3 => exact cB HR505_0.out); rintro e w' ⟨rfl, ⟨nd, rfl⟩⟩; (try first | exact ⟨rfl, _, World.drewN_drewN _ _ _⟩ | exact ⟨rfl, _, Eq.trans (World.drewN_drewN _ _ _) (congrArg (World.drewN _) (Nat.add_assoc _ _ _))⟩))); try go_wp2_with (first | (go_at_call 20; (with_reducible refine (laws_uSame.calls k1 _ _ (rd_L2 l0 x13_1) _ _ (rd_L2 l1 x13_1) false _ ?side1 HC504_0.out ?side3 HC505_0.out A8.out).mono ?_); (case side1 => exact cB HR504_0.out); (case side3 => exact cB HR505_0.out); rintro e w' ⟨rfl, ⟨nd, rfl⟩⟩; (try first | exact ⟨rfl, _, World.drewN_drewN _ _ _⟩ | exact ⟨rfl, _, Eq.trans (World.drewN_drewN _ _ _) (congrArg (World.drewN _) (Nat.add_assoc _ _ _))⟩))))
         go_ret
         exact ⟨sR, dW⟩
     · rw [if_neg c4] at H
       have c4b0 := decide_eq_false c4
       clear c4
       obtain rfl := Option.some.inj H
       go_wp2
       repeat (go_quiet (fail); try go_wp2)
       go_ret
       exact ⟨sR, dW⟩
 · rw [if_neg c3] at H
   have c3b0 : ((l0.length : Int) == (l1.length : Int)) = false := beq_eq_false_iff_ne.mpr c3
   have c3b1 : ((l0.length : Int) != (l1.length : Int)) = true := bne_iff_ne.mpr c3
   have c3b2 : (l0.length == l1.length) = false := by first | simpa using c3 | (simp at c3 ⊢; omega)
   obtain rfl := Option.some.inj H
   go_enter Try.func21, Try.ntmps21
   go_wp2
   repeat (go_quiet (fail); try go_wp2)
   go_ret
   exact ⟨sR, dW⟩
def spec_AreStates.f (k : Nat) (a0_0 : Int) (l0_1 : List (List Int)) : Option (Bool) := (spec_saGood.f k a0_0 l0_1).bind fun t508 => (some t508)
set_option maxHeartbeats 8000000 in
set_option maxRecDepth 100000 in
theorem spec_AreStates.calls (k : Nat) (a0_0 : Int) (A0_1 : Option Addr) (c0_1 : Nat) (l0_1 : List (List Int)) (r : Bool) (w : World) (hr0_1 : Kd.C (Kd.slice 3 (Kd.int .i64)) w A0_1 l0_1.length l0_1) (hc0_1 : l0_1.length ≤ c0_1) (h : spec_AreStates.f k a0_0 l0_1 = some r) :
 Calls Try.prog 23 #[.agg #[.int .i64 a0_0, .slice A0_1 l0_1.length c0_1]] w fun e w' => e = .returned (.bool r) ∧ Below w.heap.size w w' := by
 have hu26 := Try.underlying26
 have HR0_1 := am hr0_1
 have HC0_1 := am hc0_1
 clear hr0_1 hc0_1
 have HB := am (Below.refl w.heap.size w)
 have H := h
 clear h
 unfold spec_AreStates.f at H
 replace H := bnd H
 obtain ⟨t508, A2, H⟩ := H
 (try dsimp only at H)
 obtain rfl := Option.some.inj H
 go_enter Try.func23, Try.ntmps23
 go_wp2_with (first | ((with_reducible refine gate_dst (N := 1) rfl ?_); refine bE 1 #[.int .i64 a0_0, .slice A0_1 l0_1.length c0_1] 26 ?_; intro gb507 hg w3 hbox hb; have BK507 := am (hbox); have GW507 := gW hg; have GE507 := gW hg; replace HB := sB hb; clear hb hbox hg; obtain ⟨hcz4_0, hcz4_1, hfz4_0, hfz4_1⟩ := cZ BK507) | ((with_reducible refine gate_callee (f := 47) rfl ?_); refine gL 4 Try.func47 #[.agg #[.int .i64 a0_0, .slice A0_1 l0_1.length c0_1]] ?_; (with_reducible refine (spec_saGood.calls k a0_0 _ _ l0_1 t508 _ ?side1 HC0_1.out A2.out).mono ?_); (case side1 => exact cH HR0_1); rintro e w5 ⟨rfl, hb⟩; refine ⟨_, rfl, ?_⟩; replace BK507 := kb BK507 hb; replace HB := sB hb))
 go_ret
 exact ⟨eW, bB⟩
end Go.Proofs.Ytkkjnmnjbmfpaaa.PFnStatesStep
