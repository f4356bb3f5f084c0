-- written by a program of this session (the kit's print with turns of the session's own)
import Derived.Test.YtkkjnmnjbmfpaaaPFnStatesStepx0
import Derived.Test.YtkkjnmnjbmfpaaaHp
import Derived.Test.YtkkjnmnjbmfpaaaPFnStatesStepx3
import Derived.Test.YtkkjnmnjbmfpaaaPFnStatesStepx5
import Derived.Test.YtkkjnmnjbmfpaaaPFnStatesStepx6
import Derived.Test.YtkkjnmnjbmfpaaaPFnStatesStepx10
namespace Go.Proofs.Ytkkjnmnjbmfpaaa.PFnStatesStep
open Go.RowKit Go.Proofs.YtkkjnmnjbmfpaaaW.PrintWords Go.Proofs.YtkkjnmnjbmfpaaaW.PrintLast Go.Proofs.YtkkjnmnjbmfpaaaW.PrintMore
attribute [local go_sem] Instr.field asAgg part max2_int min2_int max_two min_two max_three min_three max_four min_four
set_option linter.unusedVariables false
set_option linter.unusedSimpArgs false
def spec_EndStates.l0 : Nat → List Int → Int → Int → Int → List (List Int) → Option (List Int × Bool)
 | 0, _, _, _, _, _ => none
 | k + 1, x4, x11, x12, x457000, x457001 => if x12 < x11 then ((spec_saEnd.f x457000 x457001 x12).bind fun t458 => (if t458 = true then (if x4.length < 17592186044416 then (spec_EndStates.l0 k (x4 ++ [x12]) x11 (wrap64 (x12 + 1)) x457000 x457001) else (none)) else (spec_EndStates.l0 k x4 x11 (wrap64 (x12 + 1)) x457000 x457001))) else (some (x4, true))
def spec_EndStates.f (k : Nat) (a0_0 : Int) (l0_1 : List (List Int)) : Option (List Int × Bool) := (spec_saGood.f k a0_0 l0_1).bind fun t457 => (if t457 = true then (spec_EndStates.l0 k ([] : List Int) (l0_1.length : Int) 0 a0_0 l0_1) else (some (([] : List Int), false)))
set_option maxHeartbeats 8000000 in
set_option maxRecDepth 100000 in
theorem spec_EndStates.calls (k : Nat) (a0_0 : Int) (A0_1 : Option Addr) (c0_1 : Nat) (l0_1 : List (List Int)) (r1 : List Int) (r2 : Bool) (w : World) (hr0_1 : Kd.C (Kd.slice 3 (Kd.int .i64)) w A0_1 l0_1.length l0_1) (hc0_1 : l0_1.length ≤ c0_1) (h : spec_EndStates.f k a0_0 l0_1 = some (r1, r2)) :
 Calls Try.prog 17 #[.agg #[.int .i64 a0_0, .slice A0_1 l0_1.length c0_1]] w fun e w' => ∃ v0_ : Value, e = .returned (.tuple #[v0_, .bool r2]) ∧ Kd.R (Kd.int .i64) 3 w' w.heap.size (fun _ => True) v0_ r1 ∧ Below w.heap.size w w' := by
 have hu26 := Try.underlying26
 have HR0_1 := am hr0_1
 have HC0_1 := am hc0_1
 clear hr0_1 hc0_1
 have HB := am (Below.refl w.heap.size w)
 have H := h
 clear h
 unfold spec_EndStates.f at H
 replace H := bnd H
 obtain ⟨t457, A2, H⟩ := H
 (try dsimp only at H)
 by_cases c3 : t457 = true
 · subst c3
   replace H := ifT H
   have H' := am H
   clear H
   go_enter Try.func17, Try.ntmps17
   go_wp2_with (first | ((with_reducible refine gate_dst (N := 1) rfl ?_); refine bE 1 #[.int .i64 a0_0, .slice A0_1 l0_1.length c0_1] 26 ?_; intro gb456 hg w4 hbox hb; have BK456 := am (hbox); have GW456 := gW hg; have GE456 := gW hg; replace HB := sB hb; clear hb hbox hg; obtain ⟨hcz5_0, hcz5_1, hfz5_0, hfz5_1⟩ := cZ BK456) | ((with_reducible refine gate_callee (f := 47) rfl ?_); refine gL 7 Try.func47 #[.agg #[.int .i64 a0_0, .slice A0_1 l0_1.length c0_1]] ?_; (with_reducible refine (spec_saGood.calls k a0_0 _ _ l0_1 true _ ?side1 HC0_1.out A2.out).mono ?_); (case side1 => exact cH HR0_1); rintro e w6 ⟨rfl, hb⟩; refine ⟨_, rfl, ?_⟩; replace BK456 := kb BK456 hb; replace HB := sB hb; obtain ⟨hcz7_0, hcz7_1, hfz7_0, hfz7_1⟩ := cZ BK456))
   go_loopg [4, 12] k (fun kq v4 v12 w' => ∃ (x4_1 : List Int) (x12_1 : Int), v12 = .int .i64 x12_1 ∧ Aside0 (spec_EndStates.l0 kq x4_1 (l0_1.length : Int) x12_1 a0_0 l0_1 = some (r1, r2)) ∧ Aside0 (kq ≤ k) ∧ Aside0 (Kd.R (Kd.int .i64) 3 w' w.heap.size (fun _ => True) v4 x4_1) ∧ Aside0 (w'.heap[gb456]? = some (.cells #[.int .i64 a0_0, (.slice A0_1 l0_1.length c0_1)] 26 (0, 0))) ∧ Aside0 (Below w.heap.size w w'))
   case atStart => exact ⟨(([] : List Int)), (0), sR, H', ⟨Nat.le_refl _⟩, ⟨nL⟩, ⟨bP BK456⟩, ⟨bB⟩⟩
   case round =>
    clear H'
    obtain ⟨x4_1, x12_1, rfl, HA, HK1, HO_4, BK456, HB⟩ := hrel
    cases gk with
    | zero => exact absurd HA.out (by simp [spec_EndStates.l0])
    | succ k1 =>
     have H := HA.out
     clear HA
     simp only [spec_EndStates.l0] at H
     by_cases c8 : x12_1 < (l0_1.length : Int)
     · rw [if_pos c8] at H
       have c8b0 := decide_eq_true c8
       clear c8
       replace H := bnd H
       obtain ⟨t458, A9, H⟩ := H
       (try dsimp only at H)
       by_cases c10 : t458 = true
       · subst c10
         replace H := ifT H
         replace H := ifP H
         obtain ⟨c11, H⟩ := H
         have LMc11 := am c11
         clear c11
         generalize hy459 : ((x4_1 ++ [x12_1]) : List Int) = y459 at H
         (try dsimp only [Option.bind_some] at H)
         have Ny459 := am hy459.symm
         clear hy459
         have H' := am H
         clear H
         obtain ⟨hcz12_0, hcz12_1, hfz12_0, hfz12_1⟩ := cZ BK456
         go_wp2_with (first | ((with_reducible refine gate_callee (f := 51) rfl ?_); refine gL 17 Try.func51 #[.agg #[.int .i64 a0_0, .slice A0_1 l0_1.length c0_1], .int .i64 x12_1] ?_; (with_reducible refine (spec_saEnd.calls a0_0 _ _ l0_1 x12_1 true _ ?side1 HC0_1.out A9.out).mono ?_); (case side1 => exact cH HR0_1); rintro e w13 ⟨rfl, hb⟩; refine ⟨_, rfl, ?_⟩; replace HO_4 := lR HO_4 hb; replace BK456 := kb BK456 hb; replace HB := sB hb) | ((with_reducible refine gate_builtin (b := .append) (xs := #[.tmp 18, .tmp 20]) rfl ?_); at_builtin; refine Kd.R_append (Kd.int .i64) (w0 := w) w.heap.size rfl (.tmp 18) (.tmp 20) 29 3 (.int .i64 0) 8 rfl Try.underlying29 info3 rfl (by decide) (by omega) u4 x4_1 x12_1 [.int .i64 x12_1] (fun _ => True) (fun _ => False) rfl rfl ?aP (fun _ hk => hk.elim) ?aF ?aO ?aB ?aS ?aL ?_; (case aP => exact rfl); (case aB => exact bB); (case aF => exact (fun _ _ => trivial)); (case aO => exact (rP HO_4)); (case aS => exact (below_size bB)); (case aL => have := LMc11.out; omega); intro v460 w14 ho hb hg hat; rw [← Ny459.out] at ho; replace BK456 := (kg BK456 hg (Kd.R_ne HO_4.out BK456.out (by decide))); replace HB := am (hb); have HO461 := am (ho); clear HO_4; clear ho hb hg hat))
         go_roundg k1
         case measure => have := HK1.out; omega
         case rel => exact ⟨(y459), (wrap64 (x12_1 + 1)), sR, H', ⟨oK⟩, ⟨rP HO461⟩, ⟨bP BK456⟩, ⟨bB⟩⟩
       · replace c10 := Bool.eq_false_iff.mpr c10
         subst c10
         replace H := ifF H
         have H' := am H
         clear H
         obtain ⟨hcz15_0, hcz15_1, hfz15_0, hfz15_1⟩ := cZ BK456
         go_wp2_with (first | ((with_reducible refine gate_callee (f := 51) rfl ?_); refine gL 17 Try.func51 #[.agg #[.int .i64 a0_0, .slice A0_1 l0_1.length c0_1], .int .i64 x12_1] ?_; (with_reducible refine (spec_saEnd.calls a0_0 _ _ l0_1 x12_1 false _ ?side1 HC0_1.out A9.out).mono ?_); (case side1 => exact cH HR0_1); rintro e w16 ⟨rfl, hb⟩; refine ⟨_, rfl, ?_⟩; replace HO_4 := lR HO_4 hb; replace BK456 := kb BK456 hb; replace HB := sB hb))
         go_roundg k1
         case measure => have := HK1.out; omega
         case rel => exact ⟨(x4_1), (wrap64 (x12_1 + 1)), sR, H', ⟨oK⟩, ⟨rP HO_4⟩, ⟨bP BK456⟩, ⟨bB⟩⟩
     · rw [if_neg c8] at H
       have c8b0 := decide_eq_false c8
       clear c8
       simp only [Option.some.injEq, Prod.mk.injEq] at H
       obtain ⟨rfl, rfl⟩ := H
       go_wp2
       go_ret2
       exact ⟨_, eW, rP HO_4, bB⟩
 · replace c3 := Bool.eq_false_iff.mpr c3
   subst c3
   replace H := ifF H
   simp only [Option.some.injEq, Prod.mk.injEq] at H
   obtain ⟨rfl, rfl⟩ := H
   go_enter Try.func17, Try.ntmps17
   go_wp2_with (first | ((with_reducible refine gate_dst (N := 1) rfl ?_); refine bE 1 #[.int .i64 a0_0, .slice A0_1 l0_1.length c0_1] 26 ?_; intro gb456 hg w17 hbox hb; have BK456 := am (hbox); have GW456 := gW hg; have GE456 := gW hg; replace HB := sB hb; clear hb hbox hg; obtain ⟨hcz18_0, hcz18_1, hfz18_0, hfz18_1⟩ := cZ BK456) | ((with_reducible refine gate_callee (f := 47) rfl ?_); refine gL 7 Try.func47 #[.agg #[.int .i64 a0_0, .slice A0_1 l0_1.length c0_1]] ?_; (with_reducible refine (spec_saGood.calls k a0_0 _ _ l0_1 false _ ?side1 HC0_1.out A2.out).mono ?_); (case side1 => exact cH HR0_1); rintro e w19 ⟨rfl, hb⟩; refine ⟨_, rfl, ?_⟩; replace BK456 := kb BK456 hb; replace HB := sB hb))
   go_ret2
   exact ⟨_, eW, nL, bB⟩
def impl_common.l0 : Nat → Int → Int → Option (Int)
 | 0, _, _ => none
 | k + 1, x0, x1 => if x1 = 0 then (some x0) else (impl_common.l0 k x1 (Int.tmod x0 x1))
def impl_common.f (k : Nat) (a0 : Int) (a1 : Int) : Option (Int) := impl_common.l0 k (mx a0 (wrap64 (-a0))) (mx a1 (wrap64 (-a1)))
set_option maxHeartbeats 8000000 in
set_option maxRecDepth 100000 in
theorem impl_common.calls (k : Nat) (a0 : Int) (a1 : Int) (r : Int) (w : World) (h : impl_common.f k a0 a1 = some r) :
 Calls Try.prog 52 #[.int .i64 a0, .int .i64 a1] w fun e w' => e = .returned (.int .i64 r) ∧ Below w.heap.size w w' := by
 have HB := am (Below.refl w.heap.size w)
 have H := h
 clear h
 unfold impl_common.f at H
 obtain ⟨ji3, hji3⟩ : ∃ j_ : Int, (mx a0 (wrap64 (-a0))) = j_ := ⟨_, rfl⟩
 replace H : (impl_common.l0 k ji3 (mx a1 (wrap64 (-a1)))) = some r := by first | (rw [hji3] at H; exact H) | (simp only [hji3] at H ⊢; exact H)
 have hji3_ : (if a0 < (wrap64 (-a0)) then (wrap64 (-a0)) else a0) = ji3 := hji3
 obtain ⟨ji4, hji4⟩ : ∃ j_ : Int, (mx a1 (wrap64 (-a1))) = j_ := ⟨_, rfl⟩
 replace H : (impl_common.l0 k ji3 ji4) = some r := by first | (rw [hji4] at H; exact H) | (simp only [hji4] at H ⊢; exact H)
 have hji4_ : (if a1 < (wrap64 (-a1)) then (wrap64 (-a1)) else a1) = ji4 := hji4
 have H' := am H
 clear H
 go_enter Try.func52, Try.ntmps52
 go_wp2
 repeat (go_quiet (fail); try go_wp2)
 go_loopg [0, 1] k (fun kq v0 v1 w' => ∃ (x0_1 : Int) (x1_1 : Int), v0 = .int .i64 x0_1 ∧ v1 = .int .i64 x1_1 ∧ Aside0 (impl_common.l0 kq x0_1 x1_1 = some r) ∧ Aside0 (kq ≤ k) ∧ Aside0 (Below w.heap.size w w'))
 case atStart => exact ⟨(ji3), (ji4), (by first | rfl | (simp; done) | (simp only [← hji3] <;> (first | rfl | simp)) | (simp [*]; done)), (by first | rfl | (simp; done) | (simp only [← hji4] <;> (first | rfl | simp)) | (simp [*]; done)), H', ⟨Nat.le_refl _⟩, ⟨bB⟩⟩
 case round =>
  clear H'
  obtain ⟨x0_1, x1_1, rfl, rfl, HA, HK1, HB⟩ := hrel
  cases gk with
  | zero => exact absurd HA.out (by simp [impl_common.l0])
  | succ k1 =>
   have H := HA.out
   clear HA
   simp only [impl_common.l0] at H
   by_cases c5 : x1_1 = 0
   · rw [if_pos c5] at H
     have c5b0 : (x1_1 == 0) = true := beq_iff_eq.mpr c5
     have c5b1 : (x1_1 != 0) = false := bne_eq_false_iff_eq.mpr c5
     clear c5
     obtain rfl := Option.some.inj H
     go_wp2
     repeat (go_quiet (fail); try go_wp2)
     go_ret
     exact ⟨by first | rfl | (simp [errW_none, errW_some] <;> rfl) | (simp only [← hji3, ← hji4]; first | rfl | (simp [errW_none, errW_some] <;> rfl)) | (simp [*, errW_none, errW_some] <;> rfl), bB⟩
   · rw [if_neg c5] at H
     have c5b0 : (x1_1 == 0) = false := beq_eq_false_iff_ne.mpr c5
     have c5b1 : (x1_1 != 0) = true := bne_iff_ne.mpr c5
     have H' := am H
     clear H
     go_wp2
     repeat (go_quiet (fail); try go_wp2)
     (first | go_roundg k1 | (try subst hji3; try subst hji4; go_roundg k1))
     case measure => have := HK1.out; omega
     case rel => exact ⟨(x1_1), (Int.tmod x0_1 x1_1), sR, sR, H', ⟨oK⟩, ⟨bB⟩⟩
mutual
def impl_PeriodOfState.l0 : Nat → Int → Int → List Bool → Int → Int → List (List Int) → Option (Int × Bool)
 | 0, _, _, _, _, _, _ => none
 | k + 1, x1, x6, x7, x8, x463000, x463001 => if x8 ≤ 30 then (if 0 ≤ (x463001.length : Int) then (if ((x463001.length : Int) : Int).toNat ≤ 281474976710656 then ((impl_members.f k x7).bind fun t474 => (impl_PeriodOfState.l1 k x1 x6 x8 (List.replicate ((x463001.length : Int) : Int).toNat false) t474 (t474.length : Int) 0 x463000 x463001)) else (none)) else (none)) else (some (x6, decide (x6 > 0)))
def impl_PeriodOfState.l1 : Nat → Int → Int → Int → List Bool → List Int → Int → Int → Int → List (List Int) → Option (Int × Bool)
 | 0, _, _, _, _, _, _, _, _, _ => none
 | k + 1, x1, x6, x8, x9, x35, x36, x37, x463000, x463001 => if x37 < x36 then (if 0 ≤ x37 then (if x37 < (x35.length : Int) then (if 0 ≤ (rd x35 x37) then (if (rd x35 x37) < (x463001.length : Int) then (impl_PeriodOfState.l2 k x1 x6 x8 x9 x35 x36 x37 (rd_L2 x463001 (rd x35 x37)) ((rd_L2 x463001 (rd x35 x37)).length : Int) 0 x463000 x463001) else (none)) else (none)) else (none)) else (none)) else (if 0 ≤ x1 then (if x1 < (x9.length : Int) then (if rdOf false x9 x1 = true then ((impl_common.f k x8 x6).bind fun t478 => (impl_PeriodOfState.l0 k x1 t478 x9 (wrap64 (x8 + 1)) x463000 x463001)) else (impl_PeriodOfState.l0 k x1 x6 x9 (wrap64 (x8 + 1)) x463000 x463001)) else (none)) else (none))
def impl_PeriodOfState.l2 : Nat → Int → Int → Int → List Bool → List Int → Int → Int → List Int → Int → Int → Int → List (List Int) → Option (Int × Bool)
 | 0, _, _, _, _, _, _, _, _, _, _, _, _ => none
 | k + 1, x1, x6, x8, x9, x35, x36, x37, x45, x46, x47, x463000, x463001 => if x47 < x46 then (if 0 ≤ x47 then (if x47 < (x45.length : Int) then (if x47 < (x9.length : Int) then (if rdOf false x9 x47 = true then (impl_PeriodOfState.l2 k x1 x6 x8 (x9.set (x47 : Int).toNat true) x35 x36 x37 x45 x46 (wrap64 (x47 + 1)) x463000 x463001) else (impl_PeriodOfState.l2 k x1 x6 x8 (x9.set (x47 : Int).toNat (decide ((rd x45 x47) > 0))) x35 x36 x37 x45 x46 (wrap64 (x47 + 1)) x463000 x463001)) else (none)) else (none)) else (none)) else (impl_PeriodOfState.l1 k x1 x6 x8 x9 x35 x36 (wrap64 (x37 + 1)) x463000 x463001)
end
def impl_PeriodOfState.f (k : Nat) (a0_0 : Int) (l0_1 : List (List Int)) (a1 : Int) : Option (Int × Bool) := (impl_areWith.f k a0_0 l0_1 (([a1] : List Int))).bind fun t466 => (if t466 = true then (if 0 ≤ (l0_1.length : Int) then (if ((l0_1.length : Int) : Int).toNat ≤ 281474976710656 then ((some (List.replicate ((l0_1.length : Int) : Int).toNat false : List Bool)).bind fun y467 => (if 0 ≤ a1 then (if a1 < (y467.length : Int) then (impl_PeriodOfState.l0 k a1 0 (y467.set (a1 : Int).toNat true) 1 a0_0 l0_1) else (none)) else (none))) else (none)) else (none)) else (some (0, false)))
set_option maxHeartbeats 8000000 in
set_option maxRecDepth 100000 in
theorem impl_PeriodOfState.calls (k : Nat) (a0_0 : Int) (A0_1 : Option Addr) (c0_1 : Nat) (l0_1 : List (List Int)) (a1 : Int) (r1 : Int) (r2 : Bool) (w : World) (hr0_1 : Kd.C (Kd.slice 3 (Kd.int .i64)) w A0_1 l0_1.length l0_1) (hc0_1 : l0_1.length ≤ c0_1) (h : impl_PeriodOfState.f k a0_0 l0_1 a1 = some (r1, r2)) :
 Calls Try.prog 18 #[.agg #[.int .i64 a0_0, .slice A0_1 l0_1.length c0_1], .int .i64 a1] w fun e w' => e = .returned (.tuple #[.int .i64 r1, .bool r2]) ∧ Below w.heap.size w w' := by
 have hu26 := Try.underlying26
 have HR0_1 := am hr0_1
 have HC0_1 := am hc0_1
 clear hr0_1 hc0_1
 have HB := am (Below.refl w.heap.size w)
 have H := h
 clear h
 unfold impl_PeriodOfState.f at H
 generalize hy463 : ((([a1] : List Int)) : List Int) = y463 at H
 (try dsimp only [Option.bind_some] at H)
 have Ny463 := am hy463.symm
 clear hy463
 replace H := bnd H
 obtain ⟨t466, A3, H⟩ := H
 (try dsimp only at H)
 by_cases c4 : t466 = true
 · subst c4
   replace H := ifT H
   replace H := ifP H
   obtain ⟨c5, H⟩ := H
   have c5b0 := eq_true c5
   have c5b1 := decide_eq_true c5
   clear c5
   replace H := ifP H
   obtain ⟨c6, H⟩ := H
   have c6b0 := eq_true c6
   have c6b1 := decide_eq_true c6
   clear c6
   generalize hy467 : ((List.replicate ((l0_1.length : Int) : Int).toNat false) : List Bool) = y467 at H
   (try dsimp only [Option.bind_some] at H)
   have Ny467 := am hy467.symm
   clear hy467
   replace H := ifP H
   obtain ⟨c7, H⟩ := H
   have c7b0 := decide_eq_true c7
   clear c7
   replace H := ifP H
   obtain ⟨c8, H⟩ := H
   have c8b0 := decide_eq_true c8
   clear c8
   generalize hy470 : ((y467.set (a1 : Int).toNat true) : List Bool) = y470 at H
   (try dsimp only [Option.bind_some] at H)
   have Ny470 := am hy470.symm
   clear hy470
   have H' := am H
   clear H
   go_enter Try.func18, Try.ntmps18
   go_wp2_with (first | ((with_reducible refine gate_dst (N := 2) rfl ?_); refine bE 2 #[.int .i64 a0_0, .slice A0_1 l0_1.length c0_1] 26 ?_; intro gb462 hg w10 hbox hb; have BK462 := am (hbox); have GW462 := gW hg; have GE462 := gW hg; replace HB := sB hb; clear hb hbox hg; obtain ⟨hcz11_0, hcz11_1, hfz11_0, hfz11_1⟩ := cZ BK462) | ((with_reducible refine gate_dst (N := 16) rfl ?_); refine Kd.R_lit (Kd.int .i64) _ 3 ?hg (N := 16) ?hd (xs := ([a1] : List Int)) (inner := [.int .i64 a1]) (ok := fun _ => True) (okp := fun _ => True) ?hr ?hp (fun _ hk => hk) trivial (Below.refl _ _) (Nat.le_refl _) (by simp) ?_; (case hd => rfl); (case hg => rfl); (case hr => first | (go_simp; done) | (go_simp; rfl)); (case hp => exact (Reps.one (show Kd.M (Kd.int .i64) _ _ _ a1 [.int .i64 a1] from rfl) (Reps.none _ _))); intro v464 w12 ho13 hb hg_ hnew_; clear hg_ hnew_; (first | rw [← Ny463.out] at ho13 | (simp only [Int.reduceToNat] at ho13; rw [← Ny463.out] at ho13)); have HO465 := am (Kd.R_lower ho13 (below_size bB)); replace BK462 := kb BK462 hb; replace HB := sB hb; clear hb ho13; obtain ⟨Ao14, co14, eo14⟩ := Kd.R_slice HO465.out; subst eo14) | ((with_reducible refine gate_callee (f := 36) rfl ?_); refine gL 17 Try.func36 #[.agg #[.int .i64 a0_0, .slice A0_1 l0_1.length c0_1], .slice Ao14 y463.length co14] ?_; (with_reducible refine (impl_areWith.calls k a0_0 _ _ l0_1 _ _ y463 true _ ?side1 HC0_1.out ?side3 (Kd.R_reads' HO465.out).2.1 A3.out).mono ?_); (case side1 => exact cH HR0_1); (case side3 => exact cB (Kd.R_reads' HO465.out).2.2); rintro e w15 ⟨rfl, hb⟩; refine ⟨_, rfl, ?_⟩; replace HO465 := lR HO465 hb; replace BK462 := kb BK462 hb; replace HB := sB hb; obtain ⟨hcz16_0, hcz16_1, hfz16_0, hfz16_1⟩ := cZ BK462) | ((with_reducible refine gate_dst (N := 22) rfl ?_); refine Kd.R_make Kd.bool _ 4 rfl (N := 22) rfl 68 _ _ rfl (l0_1.length : Int) rfl rfl Try.underlying68 (.bool false) 1 info4 rfl (by decide) (by omega) false (ok := fun _ => True) (okp := fun _ => True) rfl (fun _ hk => hk) trivial (dT) (Nat.le_trans (Nat.mul_le_mul_right _ (dT : (l0_1.length : Int).toNat ≤ 281474976710656)) (by omega)) (Below.refl _ _) (Nat.le_refl _) ?_; intro v468 w17 ho18 hb hg_ hnew_; clear hg_ hnew_; (first | rw [← Ny467.out] at ho18 | (simp only [Int.reduceToNat] at ho18; rw [← Ny467.out] at ho18)); replace HO465 := lR HO465 hb; have HO469 := am (Kd.R_lower ho18 (below_size bB)); replace BK462 := kb BK462 hb; replace HB := sB hb; clear hb ho18; have p9 : 0 ≤ (a1 : Int) := dT; have q9 : (a1 : Int) < ((y467.length : Int) : Int) := dT; obtain ⟨go9, co9, eo9, gb9, gl9, cl9, HG9⟩ := Kd.R_form HO469.out (by omega); (first | cases eo9 | (injection eo9 with ea_ en_ ec_; (first | subst ea_ | (injection ea_ with ea_; subst ea_)); subst ec_; clear en_)); have GB9 := am gb9; have GG9 := am HG9; clear gb9 gl9 HG9; obtain ⟨hx9_0, hf9_0⟩ := Kd.R_celln false HO469.out (a1 : Int) p9 q9; replace p9 := eq_true p9; replace q9 := eq_true q9; obtain ⟨hy19_, hz19_⟩ := Kd.R_celln false HO469.out (a1 : Int) (dT) (dT); have HP19 := Kd.R_putg HO469.out (a1 : Int) true) | ((with_reducible refine gate_store (t := 4) (p := 25) rfl ?_); refine store_event (t := 4) (p := 25) (v := ?vo_w20) (w1 := (w17.setCell ⟨go9, (a1 : Int).toNat, none⟩ (.bool true))) ?hg ?ho ?hn ?hr ?_; (case ho => rfl); (case hg => rfl); (case hn => rfl); (case hr => first | (go_simp; done) | (go_simp; rfl)); intro w20 hw; have hg : w17.grownBy w20 (some go9) := (by rw [hw]; exact HP19.2); have hp_ : Kd.R Kd.bool 4 w20 w.heap.size (fun _ => True) (.slice (some ⟨go9, 0, none⟩) y467.length co9) y470 := (by rw [hw, Ny470.out]; exact HP19.1); clear HP19; replace BK462 := (kg BK462 hg (Kd.R_ne HO469.out BK462.out (by decide))); replace HO465 := am (Kd.R_over' (v := (.slice (some ⟨go9, 0, none⟩) y467.length co9)) (rP HO465) (Kd.R_typed HO469.out) (by decide) hg); replace HO469 := am (hp_); replace HB := am ((by rw [hw]; exact below_set (HB.out) GB9.out : Below w.heap.size w w20)); clear hg hw hp_))
   go_loopg [6, 7, 8] k (fun kq v6 v7 v8 w' => ∃ (x6_1 : Int) (x7_1 : List Bool) (x8_1 : Int), v6 = .int .i64 x6_1 ∧ v8 = .int .i64 x8_1 ∧ Aside0 (impl_PeriodOfState.l0 kq a1 x6_1 x7_1 x8_1 a0_0 l0_1 = some (r1, r2)) ∧ Aside0 (kq ≤ k) ∧ Aside0 (Kd.R Kd.bool 4 w' w.heap.size (fun _ => True) v7 x7_1) ∧ Aside0 (w'.heap[gb462]? = some (.cells #[.int .i64 a0_0, (.slice A0_1 l0_1.length c0_1)] 26 (0, 0))) ∧ Aside0 (Below w.heap.size w w'))
   case atStart => exact ⟨(0), (y470), (1), sR, sR, H', ⟨Nat.le_refl _⟩, ⟨rP HO469⟩, ⟨bP BK462⟩, ⟨bB⟩⟩
   case round =>
    clear H'
    obtain ⟨x6_1, x7_1, x8_1, rfl, rfl, HA, HK1, HO_7, BK462, HB⟩ := hrel
    cases gk with
    | zero => exact absurd HA.out (by simp [impl_PeriodOfState.l0])
    | succ k1 =>
     have H := HA.out
     clear HA
     simp only [impl_PeriodOfState.l0] at H
     by_cases c21 : x8_1 ≤ 30
     · rw [if_pos c21] at H
       have c21b0 := decide_eq_true c21
       clear c21
       replace H := ifP H
       obtain ⟨c22, H⟩ := H
       have c22b0 := eq_true c22
       have c22b1 := decide_eq_true c22
       clear c22
       replace H := ifP H
       obtain ⟨c23, H⟩ := H
       have c23b0 := eq_true c23
       have c23b1 := decide_eq_true c23
       clear c23
       generalize hy471 : ((List.replicate ((l0_1.length : Int) : Int).toNat false) : List Bool) = y471 at H
       (try dsimp only [Option.bind_some] at H)
       have Ny471 := am hy471.symm
       clear hy471
       replace H := bnd H
       obtain ⟨t474, A24, H⟩ := H
       (try dsimp only at H)
       have H' := am H
       clear H
       obtain ⟨hcz25_0, hcz25_1, hfz25_0, hfz25_1⟩ := cZ BK462
       go_wp2_with (first | ((with_reducible refine gate_dst (N := 33) rfl ?_); refine Kd.R_make Kd.bool _ 4 rfl (N := 33) rfl 68 _ _ rfl (l0_1.length : Int) rfl rfl Try.underlying68 (.bool false) 1 info4 rfl (by decide) (by omega) false (ok := fun _ => True) (okp := fun _ => True) rfl (fun _ hk => hk) trivial (dT) (Nat.le_trans (Nat.mul_le_mul_right _ (dT : (l0_1.length : Int).toNat ≤ 281474976710656)) (by omega)) (Below.refl _ _) (Nat.le_refl _) ?_; intro v472 w26 ho27 hb hg_ hnew_; clear hg_ hnew_; (first | rw [← Ny471.out] at ho27 | (simp only [Int.reduceToNat] at ho27; rw [← Ny471.out] at ho27)); have HO473 := am (Kd.R_lower (Kd.R_new' ho27 (Kd.R_lt (rP HO_7))) (below_size bB)); replace HO_7 := eR HO_7 ho27 hb; replace BK462 := kb BK462 hb; replace HB := sB hb; clear hb ho27; obtain ⟨Ao28, co28, eo28⟩ := Kd.R_slice HO_7.out; subst eo28) | ((with_reducible refine gate_callee (f := 43) rfl ?_); refine gL 35 Try.func43 #[.slice Ao28 x7_1.length co28] ?_; (with_reducible refine (impl_members.calls k1 _ _ x7_1 t474 _ ?side1 (Kd.R_reads' HO_7.out).2.1 A24.out).mono ?_); (case side1 => exact cB (Kd.R_reads' HO_7.out).2.2); rintro e w29 ⟨v475, rfl, ho0, hb⟩; refine ⟨_, rfl, ?_⟩; replace HO_7 := lR HO_7 hb; replace HO473 := lR HO473 hb; have HO476 := am (Kd.R_lower ho0 (below_size bB)); replace BK462 := kb BK462 hb; replace HB := sB hb; obtain ⟨Ao30, co30, eo30⟩ := Kd.R_slice HO476.out; subst eo30))
       go_loopg [37] k1 (fun kq v37 w' => ∃ (x9_2 : List Bool) (x37_2 : Int), v37 = .int .i64 x37_2 ∧ Aside0 (impl_PeriodOfState.l1 kq a1 x6_1 x8_1 x9_2 t474 (t474.length : Int) x37_2 a0_0 l0_1 = some (r1, r2)) ∧ Aside0 (kq ≤ k1) ∧ Aside0 (Kd.R Kd.bool 4 w' w.heap.size (fun _ => True) v472 x9_2) ∧ Aside0 (Kd.R (Kd.int .i64) 3 w' w.heap.size (fun _ => True) (.slice Ao30 t474.length co30) t474) ∧ Aside0 (w'.heap[gb462]? = some (.cells #[.int .i64 a0_0, (.slice A0_1 l0_1.length c0_1)] 26 (0, 0))) ∧ Aside0 (Below w.heap.size w w'))
       case atStart => exact ⟨(y471), (0), sR, H', ⟨Nat.le_refl _⟩, ⟨rF (Kd.R_mono HO473.out (fun _ hk => trivial))⟩, ⟨rP HO476⟩, ⟨bP BK462⟩, ⟨bB⟩⟩
       case round =>
        clear H'
        obtain ⟨x9_2, x37_2, rfl, HA, HK2, HO_9, HO_35, BK462, HB⟩ := hrel
        cases gk with
        | zero => exact absurd HA.out (by simp [impl_PeriodOfState.l1])
        | succ k2 =>
         have H := HA.out
         clear HA
         simp only [impl_PeriodOfState.l1] at H
         by_cases c31 : x37_2 < (t474.length : Int)
         · rw [if_pos c31] at H
           have c31b0 := decide_eq_true c31
           clear c31
           replace H := ifP H
           obtain ⟨c32, H⟩ := H
           have c32b0 := decide_eq_true c32
           clear c32
           replace H := ifP H
           obtain ⟨c33, H⟩ := H
           have c33b0 := decide_eq_true c33
           clear c33
           replace H := ifP H
           obtain ⟨c34, H⟩ := H
           have c34b0 := decide_eq_true c34
           clear c34
           replace H := ifP H
           obtain ⟨c35, H⟩ := H
           have c35b0 := decide_eq_true c35
           clear c35
           have H' := am H
           clear H
           have p479 : 0 ≤ (x37_2 : Int) := dT
           have q479 : x37_2 < (t474.length : Int) := dT
           obtain ⟨ad479, e479, hx479_0⟩ := Kd.at_int (Kd.R_reads' HO_35.out).2.2 x37_2 p479 q479
           cases e479
           replace p479 := eq_true p479
           replace q479 := eq_true q479
           obtain ⟨hcz36_0, hcz36_1, hfz36_0, hfz36_1⟩ := cZ BK462
           have p480 : 0 ≤ ((rd t474 x37_2) : Int) := dT
           have q480 : (rd t474 x37_2) < (l0_1.length : Int) := dT
           obtain ⟨ad480, A480_0, c480_0, e480, hx480_0, hl480_0, hi480_0⟩ := at_L2 HR0_1.out (rd t474 x37_2) p480 q480
           cases e480
           replace hx480_0 := (HB.out.cell (World.block_lt_of_cell? w _ hx480_0)).trans hx480_0
           have HR480_0 := am hi480_0
           have HC480_0 := am hl480_0
           clear hi480_0 hl480_0
           replace p480 := eq_true p480
           replace q480 := eq_true q480
           go_wp2
           go_loopg [47] k2 (fun kq v47 w' => ∃ (x9_3 : List Bool) (x47_3 : Int), v47 = .int .i64 x47_3 ∧ Aside0 (impl_PeriodOfState.l2 kq a1 x6_1 x8_1 x9_3 t474 (t474.length : Int) x37_2 (rd_L2 l0_1 (rd t474 x37_2)) ((rd_L2 l0_1 (rd t474 x37_2)).length : Int) x47_3 a0_0 l0_1 = some (r1, r2)) ∧ Aside0 (kq ≤ k2) ∧ Aside0 (Kd.R Kd.bool 4 w' w.heap.size (fun _ => True) v472 x9_3) ∧ Aside0 (Kd.R (Kd.int .i64) 3 w' w.heap.size (fun _ => True) (.slice (some ad479) t474.length co30) t474) ∧ Aside0 (w'.heap[gb462]? = some (.cells #[.int .i64 a0_0, (.slice (some ad480) l0_1.length c0_1)] 26 (0, 0))) ∧ Aside0 (Below w.heap.size w w'))
           case atStart => exact ⟨(x9_2), (0), sR, H', ⟨Nat.le_refl _⟩, ⟨rP HO_9⟩, ⟨rP HO_35⟩, ⟨bP BK462⟩, ⟨bB⟩⟩
           case round =>
            clear H'
            obtain ⟨x9_3, x47_3, rfl, HA, HK3, HO_9, HO_35, BK462, HB⟩ := hrel
            cases gk with
            | zero => exact absurd HA.out (by simp [impl_PeriodOfState.l2])
            | succ k3 =>
             have H := HA.out
             clear HA
             simp only [impl_PeriodOfState.l2] at H
             by_cases c37 : x47_3 < ((rd_L2 l0_1 (rd t474 x37_2)).length : Int)
             · rw [if_pos c37] at H
               have c37b0 := decide_eq_true c37
               clear c37
               replace H := ifP H
               obtain ⟨c38, H⟩ := H
               have c38b0 := decide_eq_true c38
               clear c38
               replace H := ifP H
               obtain ⟨c39, H⟩ := H
               have c39b0 := decide_eq_true c39
               clear c39
               replace H := ifP H
               obtain ⟨c40, H⟩ := H
               have c40b0 := decide_eq_true c40
               clear c40
               obtain ⟨bq41, hbq41⟩ : ∃ b_ : Bool, b_ = (rdOf false x9_3 x47_3) := ⟨_, rfl⟩
               replace H : (if bq41 = true then (impl_PeriodOfState.l2 k3 a1 x6_1 x8_1 (x9_3.set (x47_3 : Int).toNat true) t474 (t474.length : Int) x37_2 (rd_L2 l0_1 (rd t474 x37_2)) ((rd_L2 l0_1 (rd t474 x37_2)).length : Int) (wrap64 (x47_3 + 1)) a0_0 l0_1) else (impl_PeriodOfState.l2 k3 a1 x6_1 x8_1 (x9_3.set (x47_3 : Int).toNat (decide ((rd (rd_L2 l0_1 (rd t474 x37_2)) x47_3) > 0))) t474 (t474.length : Int) x37_2 (rd_L2 l0_1 (rd t474 x37_2)) ((rd_L2 l0_1 (rd t474 x37_2)).length : Int) (wrap64 (x47_3 + 1)) a0_0 l0_1)) = some (r1, r2) := by rw [← hbq41] at H; exact H
               have Nbq41 := am hbq41
               clear hbq41
               by_cases c42 : bq41 = true
               · subst c42
                 replace H := ifT H
                 generalize hy483 : ((x9_3.set (x47_3 : Int).toNat true) : List Bool) = y483 at H
                 (try dsimp only [Option.bind_some] at H)
                 have Ny483 := am hy483.symm
                 clear hy483
                 have H' := am H
                 clear H
                 have p481 : 0 ≤ (x47_3 : Int) := dT
                 have q481 : x47_3 < ((rd_L2 l0_1 (rd t474 x37_2)).length : Int) := dT
                 obtain ⟨ad481, e481, hx481_0⟩ := Kd.at_int HR480_0.out x47_3 p481 q481
                 cases e481
                 replace hx481_0 := (HB.out.cell (World.block_lt_of_cell? w _ hx481_0)).trans hx481_0
                 replace p481 := eq_true p481
                 replace q481 := eq_true q481
                 obtain ⟨Ao44, co44, eo44⟩ := Kd.R_slice HO_9.out
                 subst eo44
                 have p482 : 0 ≤ (x47_3 : Int) := dT
                 have q482 : x47_3 < (x9_3.length : Int) := dT
                 obtain ⟨ad482, e482, hx482_0⟩ := Kd.at_bool (Kd.R_reads' HO_9.out).2.2 x47_3 p482 q482
                 (try rw [← Nbq41.out] at hx482_0)
                 cases e482
                 replace p482 := eq_true p482
                 replace q482 := eq_true q482
                 have p43 : 0 ≤ (x47_3 : Int) := dT
                 have q43 : (x47_3 : Int) < ((x9_3.length : Int) : Int) := dT
                 obtain ⟨go43, co43, eo43, gb43, gl43, cl43, HG43⟩ := Kd.R_form HO_9.out (by omega)
                 (first | cases eo43 | (injection eo43 with ea_ en_ ec_; (first | subst ea_ | (injection ea_ with ea_; subst ea_)); subst ec_; clear en_))
                 have GB43 := am gb43
                 have GG43 := am HG43
                 clear gb43 gl43 HG43
                 (first | simp only [add_plain] at hx482_0 | skip)
                 obtain ⟨hx43_0, hf43_0⟩ := Kd.R_celln false HO_9.out (x47_3 : Int) p43 q43
                 replace p43 := eq_true p43
                 replace q43 := eq_true q43
                 have HP45 := Kd.R_putg HO_9.out (x47_3 : Int) true
                 go_wp2_with (first | ((with_reducible refine gate_store (t := 4) (p := 62) rfl ?_); refine store_event (t := 4) (p := 62) (v := ?vo_w46) (w1 := (wr.setCell ⟨go43, (x47_3 : Int).toNat, none⟩ (.bool true))) ?hg ?ho ?hn ?hr ?_; (case ho => rfl); (case hg => rfl); (case hn => rfl); (case hr => first | (go_simp; done) | (go_simp; rfl)); intro w46 hw; have hg : wr.grownBy w46 (some go43) := (by rw [hw]; exact HP45.2); have hp_ : Kd.R Kd.bool 4 w46 w.heap.size (fun _ => True) (.slice (some ⟨go43, 0, none⟩) x9_3.length co44) y483 := (by rw [hw, Ny483.out]; exact HP45.1); clear HP45; replace HO_35 := am (Kd.R_over' (v := (.slice (some ⟨go43, 0, none⟩) x9_3.length co44)) (rP HO_35) (Kd.R_typed HO_9.out) (by decide) hg); replace BK462 := (kg BK462 hg (Kd.R_ne HO_9.out BK462.out (by decide))); replace HO_9 := am (hp_); replace HB := am ((by rw [hw]; exact below_set (HB.out) GB43.out : Below w.heap.size w w46)); clear hg hw hp_))
                 go_roundg k3
                 case measure => have := HK1.out; have := HK2.out; have := HK3.out; omega
                 case rel => exact ⟨(y483), (wrap64 (x47_3 + 1)), sR, H', ⟨oK⟩, ⟨rP HO_9⟩, ⟨rP HO_35⟩, ⟨bP BK462⟩, ⟨bB⟩⟩
               · replace c42 := Bool.eq_false_iff.mpr c42
                 subst c42
                 replace H := ifF H
                 generalize hy484 : ((x9_3.set (x47_3 : Int).toNat (decide ((rd (rd_L2 l0_1 (rd t474 x37_2)) x47_3) > 0))) : List Bool) = y484 at H
                 (try dsimp only [Option.bind_some] at H)
                 have Ny484 := am hy484.symm
                 clear hy484
                 have H' := am H
                 clear H
                 have p481 : 0 ≤ (x47_3 : Int) := dT
                 have q481 : x47_3 < ((rd_L2 l0_1 (rd t474 x37_2)).length : Int) := dT
                 obtain ⟨ad481, e481, hx481_0⟩ := Kd.at_int HR480_0.out x47_3 p481 q481
                 cases e481
                 replace hx481_0 := (HB.out.cell (World.block_lt_of_cell? w _ hx481_0)).trans hx481_0
                 replace p481 := eq_true p481
                 replace q481 := eq_true q481
                 obtain ⟨Ao48, co48, eo48⟩ := Kd.R_slice HO_9.out
                 subst eo48
                 have p482 : 0 ≤ (x47_3 : Int) := dT
                 have q482 : x47_3 < (x9_3.length : Int) := dT
                 obtain ⟨ad482, e482, hx482_0⟩ := Kd.at_bool (Kd.R_reads' HO_9.out).2.2 x47_3 p482 q482
                 (try rw [← Nbq41.out] at hx482_0)
                 cases e482
                 replace p482 := eq_true p482
                 replace q482 := eq_true q482
                 have p47 : 0 ≤ (x47_3 : Int) := dT
                 have q47 : (x47_3 : Int) < ((x9_3.length : Int) : Int) := dT
                 obtain ⟨go47, co47, eo47, gb47, gl47, cl47, HG47⟩ := Kd.R_form HO_9.out (by omega)
                 (first | cases eo47 | (injection eo47 with ea_ en_ ec_; (first | subst ea_ | (injection ea_ with ea_; subst ea_)); subst ec_; clear en_))
                 have GB47 := am gb47
                 have GG47 := am HG47
                 clear gb47 gl47 HG47
                 (first | simp only [add_plain] at hx482_0 | skip)
                 obtain ⟨hx47_0, hf47_0⟩ := Kd.R_celln false HO_9.out (x47_3 : Int) p47 q47
                 replace p47 := eq_true p47
                 replace q47 := eq_true q47
                 have HP49 := Kd.R_putg HO_9.out (x47_3 : Int) (decide ((rd (rd_L2 l0_1 (rd t474 x37_2)) x47_3) > 0))
                 go_wp2_with (first | ((with_reducible refine gate_store (t := 4) (p := 62) rfl ?_); refine store_event (t := 4) (p := 62) (v := ?vo_w50) (w1 := (wr.setCell ⟨go47, (x47_3 : Int).toNat, none⟩ (.bool (decide ((rd (rd_L2 l0_1 (rd t474 x37_2)) x47_3) > 0))))) ?hg ?ho ?hn ?hr ?_; (case ho => rfl); (case hg => rfl); (case hn => rfl); (case hr => first | (go_simp; done) | (go_simp; rfl)); intro w50 hw; have hg : wr.grownBy w50 (some go47) := (by rw [hw]; exact HP49.2); have hp_ : Kd.R Kd.bool 4 w50 w.heap.size (fun _ => True) (.slice (some ⟨go47, 0, none⟩) x9_3.length co48) y484 := (by rw [hw, Ny484.out]; exact HP49.1); clear HP49; replace HO_35 := am (Kd.R_over' (v := (.slice (some ⟨go47, 0, none⟩) x9_3.length co48)) (rP HO_35) (Kd.R_typed HO_9.out) (by decide) hg); replace BK462 := (kg BK462 hg (Kd.R_ne HO_9.out BK462.out (by decide))); replace HO_9 := am (hp_); replace HB := am ((by rw [hw]; exact below_set (HB.out) GB47.out : Below w.heap.size w w50)); clear hg hw hp_))
                 go_roundg k3
                 case measure => have := HK1.out; have := HK2.out; have := HK3.out; omega
                 case rel => exact ⟨(y484), (wrap64 (x47_3 + 1)), sR, H', ⟨oK⟩, ⟨rP HO_9⟩, ⟨rP HO_35⟩, ⟨bP BK462⟩, ⟨bB⟩⟩
             · rw [if_neg c37] at H
               have c37b0 := decide_eq_false c37
               clear c37
               have H' := am H
               clear H
               go_wp2
               go_roundg k3
               case measure => have := HK1.out; have := HK2.out; have := HK3.out; omega
               case rel => exact ⟨(x9_3), (wrap64 (x37_2 + 1)), sR, H', ⟨oK⟩, ⟨rP HO_9⟩, ⟨rP HO_35⟩, ⟨bP BK462⟩, ⟨bB⟩⟩
         · rw [if_neg c31] at H
           have c31b0 := decide_eq_false c31
           clear c31
           replace H := ifP H
           obtain ⟨c51, H⟩ := H
           have c51b0 := decide_eq_true c51
           clear c51
           replace H := ifP H
           obtain ⟨c52, H⟩ := H
           have c52b0 := decide_eq_true c52
           clear c52
           obtain ⟨bq53, hbq53⟩ : ∃ b_ : Bool, b_ = (rdOf false x9_2 a1) := ⟨_, rfl⟩
           replace H : (if bq53 = true then ((impl_common.f k2 x8_1 x6_1).bind fun t478 => (impl_PeriodOfState.l0 k2 a1 t478 x9_2 (wrap64 (x8_1 + 1)) a0_0 l0_1)) else (impl_PeriodOfState.l0 k2 a1 x6_1 x9_2 (wrap64 (x8_1 + 1)) a0_0 l0_1)) = some (r1, r2) := by rw [← hbq53] at H; exact H
           have Nbq53 := am hbq53
           clear hbq53
           by_cases c54 : bq53 = true
           · subst c54
             replace H := ifT H
             replace H := bnd H
             obtain ⟨t478, A55, H⟩ := H
             (try dsimp only at H)
             have H' := am H
             clear H
             obtain ⟨Ao56, co56, eo56⟩ := Kd.R_slice HO_9.out
             subst eo56
             have p477 : 0 ≤ (a1 : Int) := dT
             have q477 : a1 < (x9_2.length : Int) := dT
             obtain ⟨ad477, e477, hx477_0⟩ := Kd.at_bool (Kd.R_reads' HO_9.out).2.2 a1 p477 q477
             (try rw [← Nbq53.out] at hx477_0)
             cases e477
             replace p477 := eq_true p477
             replace q477 := eq_true q477
             go_wp2_with (first | ((with_reducible refine gate_callee (f := 52) rfl ?_); refine gL 72 Try.func52 #[.int .i64 x8_1, .int .i64 x6_1] ?_; (with_reducible refine (impl_common.calls k2 x8_1 x6_1 t478 _ A55.out).mono ?_); rintro e w57 ⟨rfl, hb⟩; refine ⟨_, rfl, ?_⟩; replace HO_9 := lR HO_9 hb; replace HO_35 := lR HO_35 hb; replace BK462 := kb BK462 hb; replace HB := sB hb))
             go_roundg k2
             case measure => have := HK1.out; have := HK2.out; omega
             case rel => exact ⟨(t478), (x9_2), (wrap64 (x8_1 + 1)), sR, sR, H', ⟨oK⟩, ⟨rP HO_9⟩, ⟨bP BK462⟩, ⟨bB⟩⟩
           · replace c54 := Bool.eq_false_iff.mpr c54
             subst c54
             replace H := ifF H
             have H' := am H
             clear H
             obtain ⟨Ao58, co58, eo58⟩ := Kd.R_slice HO_9.out
             subst eo58
             have p477 : 0 ≤ (a1 : Int) := dT
             have q477 : a1 < (x9_2.length : Int) := dT
             obtain ⟨ad477, e477, hx477_0⟩ := Kd.at_bool (Kd.R_reads' HO_9.out).2.2 a1 p477 q477
             (try rw [← Nbq53.out] at hx477_0)
             cases e477
             replace p477 := eq_true p477
             replace q477 := eq_true q477
             go_wp2
             go_roundg k2
             case measure => have := HK1.out; have := HK2.out; omega
             case rel => exact ⟨(x6_1), (x9_2), (wrap64 (x8_1 + 1)), sR, sR, H', ⟨oK⟩, ⟨rP HO_9⟩, ⟨bP BK462⟩, ⟨bB⟩⟩
     · rw [if_neg c21] at H
       have c21b0 := decide_eq_false c21
       clear c21
       simp only [Option.some.injEq, Prod.mk.injEq] at H
       obtain ⟨rfl, rfl⟩ := H
       go_wp2
       go_ret2
       exact ⟨eW, bB⟩
 · replace c4 := Bool.eq_false_iff.mpr c4
   subst c4
   replace H := ifF H
   simp only [Option.some.injEq, Prod.mk.injEq] at H
   obtain ⟨rfl, rfl⟩ := H
   go_enter Try.func18, Try.ntmps18
   go_wp2_with (first | ((with_reducible refine gate_dst (N := 2) rfl ?_); refine bE 2 #[.int .i64 a0_0, .slice A0_1 l0_1.length c0_1] 26 ?_; intro gb462 hg w59 hbox hb; have BK462 := am (hbox); have GW462 := gW hg; have GE462 := gW hg; replace HB := sB hb; clear hb hbox hg; obtain ⟨hcz60_0, hcz60_1, hfz60_0, hfz60_1⟩ := cZ BK462) | ((with_reducible refine gate_dst (N := 16) rfl ?_); refine Kd.R_lit (Kd.int .i64) _ 3 ?hg (N := 16) ?hd (xs := ([a1] : List Int)) (inner := [.int .i64 a1]) (ok := fun _ => True) (okp := fun _ => True) ?hr ?hp (fun _ hk => hk) trivial (Below.refl _ _) (Nat.le_refl _) (by simp) ?_; (case hd => rfl); (case hg => rfl); (case hr => first | (go_simp; done) | (go_simp; rfl)); (case hp => exact (Reps.one (show Kd.M (Kd.int .i64) _ _ _ a1 [.int .i64 a1] from rfl) (Reps.none _ _))); intro v464 w61 ho62 hb hg_ hnew_; clear hg_ hnew_; (first | rw [← Ny463.out] at ho62 | (simp only [Int.reduceToNat] at ho62; rw [← Ny463.out] at ho62)); have HO465 := am (Kd.R_lower ho62 (below_size bB)); replace BK462 := kb BK462 hb; replace HB := sB hb; clear hb ho62; obtain ⟨Ao63, co63, eo63⟩ := Kd.R_slice HO465.out; subst eo63) | ((with_reducible refine gate_callee (f := 36) rfl ?_); refine gL 17 Try.func36 #[.agg #[.int .i64 a0_0, .slice A0_1 l0_1.length c0_1], .slice Ao63 y463.length co63] ?_; (with_reducible refine (impl_areWith.calls k a0_0 _ _ l0_1 _ _ y463 false _ ?side1 HC0_1.out ?side3 (Kd.R_reads' HO465.out).2.1 A3.out).mono ?_); (case side1 => exact cH HR0_1); (case side3 => exact cB (Kd.R_reads' HO465.out).2.2); rintro e w64 ⟨rfl, hb⟩; refine ⟨_, rfl, ?_⟩; replace HO465 := lR HO465 hb; replace BK462 := kb BK462 hb; replace HB := sB hb))
   go_ret2
   exact ⟨eW, bB⟩
end Go.Proofs.Ytkkjnmnjbmfpaaa.PFnStatesStep
