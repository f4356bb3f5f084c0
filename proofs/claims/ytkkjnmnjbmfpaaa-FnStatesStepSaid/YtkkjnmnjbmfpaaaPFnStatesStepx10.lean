-- written by a program of this session (the kit's print with turns of the session's own)
import Derived.Test.YtkkjnmnjbmfpaaaPFnStatesStepx0
import Derived.Test.YtkkjnmnjbmfpaaaHp
import Derived.Test.YtkkjnmnjbmfpaaaPFnStatesStepx3
import Derived.Test.YtkkjnmnjbmfpaaaPFnStatesStepx5
import Derived.Test.YtkkjnmnjbmfpaaaPFnStatesStepx8
import Derived.Test.YtkkjnmnjbmfpaaaPFnStatesStepx9
namespace Go.Proofs.Ytkkjnmnjbmfpaaa.PFnStatesStep
open Go.RowKit Go.Proofs.YtkkjnmnjbmfpaaaW.PrintWords Go.Proofs.YtkkjnmnjbmfpaaaW.PrintLast Go.Proofs.YtkkjnmnjbmfpaaaW.PrintMore
attribute [local go_sem] Instr.field asAgg part max2_int min2_int max_two min_two max_three min_three max_four min_four
set_option linter.unusedVariables false
set_option linter.unusedSimpArgs false
def spec_saOne.f (k : Nat) (a0_0 : Int) (l0_1 : List (List Int)) : Option (Bool) := (spec_saClass.f k a0_0 l0_1 0).bind fun t419 => (some ((t419.length : Int) == (l0_1.length : Int)))
def spec_saOne.T1 : Bool × List (List Nat × List Nat) := (true, [([], []), ([0], [0]), ([1], [1]), ([], []), ([3], [3]), ([4], [4]), ([2, 5], [2, 5]), ([6, 1, 0, 1, 2, 3, 4, 5, 6], [6])])
def spec_saOne.B1 : List Nat := [0, 1, 3, 0, 8, 24, 63, 127]
theorem spec_saOne.tab1 : rtab .any (opsOf Try.f49 1) = spec_saOne.T1 := by kernel_rfl
theorem spec_saOne.bits1 : waitsOk spec_saOne.T1.2 spec_saOne.B1 = true := by kernel_rfl
set_option maxHeartbeats 8000000 in
set_option maxRecDepth 100000 in
theorem spec_saOne.calls (k : Nat) (a0_0 : Int) (A0_1 : Option Addr) (c0_1 : Nat) (l0_1 : List (List Int)) (r : Bool) (w : World) (hr0_1 : Kd.C (Kd.slice 3 (Kd.int .i64)) w A0_1 l0_1.length l0_1) (hc0_1 : l0_1.length ≤ c0_1) (h : spec_saOne.f k a0_0 l0_1 = some r) :
 Calls Try.prog 49 #[.agg #[.int .i64 a0_0, .slice A0_1 l0_1.length c0_1]] w fun e w' => e = .returned (.bool r) ∧ Below w.heap.size w w' := by
 have hu26 := Try.underlying26
 have HR0_1 := am hr0_1
 have HC0_1 := am hc0_1
 clear hr0_1 hc0_1
 have HB := am (Below.refl w.heap.size w)
 have H := h
 clear h
 unfold spec_saOne.f at H
 replace H := bnd H
 obtain ⟨t419, A2, H⟩ := H
 (try dsimp only at H)
 obtain rfl := Option.some.inj H
 go_enter Try.func49, Try.ntmps49
 try go_wp2_with (first | ((with_reducible refine gate_dst (N := 1) rfl ?_); refine bE 1 #[.int .i64 a0_0, .slice A0_1 l0_1.length c0_1] 26 ?_; intro gb418 hg w3 hbox hb; have BK418 := am (hbox); have GW418 := gW hg; have GE418 := gW hg; replace HB := sB hb; clear hb hbox hg))
 replace BK418 := am (blk_drew BK418.out)
 replace HB := am (below_drew1 HB.out)
 refine start_ (n := 8) (S := fun w' => w'.cell? ⟨gb418, 0, none⟩ = some (.int .i64 a0_0) ∧ w'.cell? ⟨gb418, 1, none⟩ = some (.slice A0_1 l0_1.length c0_1)) (ds := []) (bs [0, 8]) (by kernel_rfl) rfl rfl ⟨(blk_cell BK418.out 0).trans rfl, (blk_cell BK418.out 1).trans rfl⟩ (fun hHeld => ?_); refine with_tabW spec_saOne.tab1 spec_saOne.bits1 (fun HT_ HW_ => ?_)
 generalize w3.drew = w4 at BK418 HB hHeld ⊢
 refine pS 3 (some 6) (bs [0, 3, 1, 4]) ?_
 refine tS 0 (some 3) (bs [1, 2, 1, 4]) ?_
 refine tS 4 (some 7) (bs [1, 2, 2, 3]) ?_
 refine pS 5 (some 8) (bs [1, 2, 3, 2]) ?_
 refine oS 1 (some 4) (bs [2, 1, 3, 2]) (fun K hK => ?_)
 refine goes_ Try.func48 (by kernel_rfl) rfl #[.agg #[.int .i64 a0_0, .slice A0_1 l0_1.length c0_1], .int .i64 0] (by rfl) rfl rfl aM ?_
 with_reducible refine (spec_saClass.calls k a0_0 _ _ l0_1 0 t419 _ ?side1 HC0_1.out A2.out).mono ?_
 (case side1 => exact cH HR0_1)
 rintro e w5 ⟨v420, rfl, ho0, hb⟩
 refine ⟨_, rfl, ?_⟩
 have HO421 := am (Kd.R_lower ho0 (below_size bB))
 replace BK418 := kb BK418 hb
 replace HB := sB hb
 (try clear hb)
 (try clear hb2)
 (try clear hk)
 (try clear hi)
 (try clear ho0)
 obtain ⟨Ao6, co6, eo6⟩ := Kd.R_slice HO421.out
 (first | subst eo6 | (injection eo6 with f1_ f2_ f3_; have f4_ := f1_.symm; have f5_ := f3_.symm; clear f1_ f2_ f3_; subst f4_; subst f5_))
 refine hK.out _ _ ⟨(blk_cell BK418.out 0).trans rfl, (blk_cell BK418.out 1).trans rfl⟩ (fun hHeld => ?_)
 clear hK K
 refine nS 4 ?_
 refine pS 2 (some 5) (bs [6, 2]) ?_
 refine pS 6 (some 9) (bs [7, 1]) ?_
 refine pS 7 (some 2) (bs [8]) ?_
 refine done_ (done_of HT_.out (by kernel_rfl)) ?_
 try go_wp2
 go_ret
 exact ⟨eW, bB⟩
def spec_IsOneClass.f (k : Nat) (a0_0 : Int) (l0_1 : List (List Int)) : Option (Bool × Bool) := (spec_saGood.f k a0_0 l0_1).bind fun t423 => (if t423 = true then ((spec_saOne.f k a0_0 l0_1).bind fun t424 => (some (t424, true))) else (some (false, false)))
set_option maxHeartbeats 8000000 in
set_option maxRecDepth 100000 in
theorem spec_IsOneClass.calls (k : Nat) (a0_0 : Int) (A0_1 : Option Addr) (c0_1 : Nat) (l0_1 : List (List Int)) (r1 : Bool) (r2 : Bool) (w : World) (hr0_1 : Kd.C (Kd.slice 3 (Kd.int .i64)) w A0_1 l0_1.length l0_1) (hc0_1 : l0_1.length ≤ c0_1) (h : spec_IsOneClass.f k a0_0 l0_1 = some (r1, r2)) :
 Calls Try.prog 13 #[.agg #[.int .i64 a0_0, .slice A0_1 l0_1.length c0_1]] w fun e w' => e = .returned (.tuple #[.bool r1, .bool r2]) ∧ Below w.heap.size w w' := by
 have hu26 := Try.underlying26
 have HR0_1 := am hr0_1
 have HC0_1 := am hc0_1
 clear hr0_1 hc0_1
 have HB := am (Below.refl w.heap.size w)
 have H := h
 clear h
 unfold spec_IsOneClass.f at H
 replace H := bnd H
 obtain ⟨t423, A2, H⟩ := H
 (try dsimp only at H)
 by_cases c3 : t423 = true
 · subst c3
   replace H := ifT H
   replace H := bnd H
   obtain ⟨t424, A4, H⟩ := H
   (try dsimp only at H)
   simp only [Option.some.injEq, Prod.mk.injEq] at H
   obtain ⟨rfl, rfl⟩ := H
   go_enter Try.func13, Try.ntmps13
   go_wp2_with (first | ((with_reducible refine gate_dst (N := 1) rfl ?_); refine bE 1 #[.int .i64 a0_0, .slice A0_1 l0_1.length c0_1] 26 ?_; intro gb422 hg w5 hbox hb; have BK422 := am (hbox); have GW422 := gW hg; have GE422 := gW hg; replace HB := sB hb; clear hb hbox hg; obtain ⟨hcz6_0, hcz6_1, hfz6_0, hfz6_1⟩ := cZ BK422) | ((with_reducible refine gate_callee (f := 47) rfl ?_); refine gL 5 Try.func47 #[.agg #[.int .i64 a0_0, .slice A0_1 l0_1.length c0_1]] ?_; (with_reducible refine (spec_saGood.calls k a0_0 _ _ l0_1 true _ ?side1 HC0_1.out A2.out).mono ?_); (case side1 => exact cH HR0_1); rintro e w7 ⟨rfl, hb⟩; refine ⟨_, rfl, ?_⟩; replace BK422 := kb BK422 hb; replace HB := sB hb; obtain ⟨hcz8_0, hcz8_1, hfz8_0, hfz8_1⟩ := cZ BK422) | ((with_reducible refine gate_callee (f := 49) rfl ?_); refine gL 8 Try.func49 #[.agg #[.int .i64 a0_0, .slice A0_1 l0_1.length c0_1]] ?_; (with_reducible refine (spec_saOne.calls k a0_0 _ _ l0_1 t424 _ ?side1 HC0_1.out A4.out).mono ?_); (case side1 => exact cH HR0_1); rintro e w9 ⟨rfl, hb⟩; refine ⟨_, rfl, ?_⟩; replace BK422 := kb BK422 hb; replace HB := sB hb))
   go_ret2
   exact ⟨eW, bB⟩
 · replace c3 := Bool.eq_false_iff.mpr c3
   subst c3
   replace H := ifF H
   simp only [Option.some.injEq, Prod.mk.injEq] at H
   obtain ⟨rfl, rfl⟩ := H
   go_enter Try.func13, Try.ntmps13
   go_wp2_with (first | ((with_reducible refine gate_dst (N := 1) rfl ?_); refine bE 1 #[.int .i64 a0_0, .slice A0_1 l0_1.length c0_1] 26 ?_; intro gb422 hg w10 hbox hb; have BK422 := am (hbox); have GW422 := gW hg; have GE422 := gW hg; replace HB := sB hb; clear hb hbox hg; obtain ⟨hcz11_0, hcz11_1, hfz11_0, hfz11_1⟩ := cZ BK422) | ((with_reducible refine gate_callee (f := 47) rfl ?_); refine gL 5 Try.func47 #[.agg #[.int .i64 a0_0, .slice A0_1 l0_1.length c0_1]] ?_; (with_reducible refine (spec_saGood.calls k a0_0 _ _ l0_1 false _ ?side1 HC0_1.out A2.out).mono ?_); (case side1 => exact cH HR0_1); rintro e w12 ⟨rfl, hb⟩; refine ⟨_, rfl, ?_⟩; replace BK422 := kb BK422 hb; replace HB := sB hb))
   go_ret2
   exact ⟨eW, bB⟩
def impl_LastingStates.l0 : Nat → List Int → Int → Int → Int → List (List Int) → Option (List Int × Bool)
 | 0, _, _, _, _, _ => none
 | k + 1, x4, x13, x14, x426000, x426001 => if x14 < x13 then ((impl_States_class.f k x426000 x426001 x14).bind fun bt427 => (if bt427.2 = true then (if x4.length < 17592186044416 then (impl_LastingStates.l0 k (x4 ++ [x14]) x13 (wrap64 (x14 + 1)) x426000 x426001) else (none)) else (impl_LastingStates.l0 k x4 x13 (wrap64 (x14 + 1)) x426000 x426001))) else (some (x4, true))
def impl_LastingStates.f (k : Nat) (a0_0 : Int) (l0_1 : List (List Int)) : Option (List Int × Bool) := (impl_AreStates.f k a0_0 l0_1).bind fun t426 => (if t426 = true then (impl_LastingStates.l0 k ([] : List Int) (l0_1.length : Int) 0 a0_0 l0_1) else (some (([] : List Int), false)))
set_option maxHeartbeats 8000000 in
set_option maxRecDepth 100000 in
theorem impl_LastingStates.calls (k : Nat) (a0_0 : Int) (A0_1 : Option Addr) (c0_1 : Nat) (l0_1 : List (List Int)) (r1 : List Int) (r2 : Bool) (w : World) (hr0_1 : Kd.C (Kd.slice 3 (Kd.int .i64)) w A0_1 l0_1.length l0_1) (hc0_1 : l0_1.length ≤ c0_1) (h : impl_LastingStates.f k a0_0 l0_1 = some (r1, r2)) :
 Calls Try.prog 14 #[.agg #[.int .i64 a0_0, .slice A0_1 l0_1.length c0_1]] w fun e w' => ∃ v0_ : Value, e = .returned (.tuple #[v0_, .bool r2]) ∧ Kd.R (Kd.int .i64) 3 w' w.heap.size (fun _ => True) v0_ r1 ∧ Below w.heap.size w w' := by
 have hu26 := Try.underlying26
 have HR0_1 := am hr0_1
 have HC0_1 := am hc0_1
 clear hr0_1 hc0_1
 have HB := am (Below.refl w.heap.size w)
 have H := h
 clear h
 unfold impl_LastingStates.f at H
 replace H := bnd H
 obtain ⟨t426, A2, H⟩ := H
 (try dsimp only at H)
 by_cases c3 : t426 = true
 · subst c3
   replace H := ifT H
   have H' := am H
   clear H
   go_enter Try.func14, Try.ntmps14
   go_wp2_with (first | ((with_reducible refine gate_dst (N := 1) rfl ?_); refine bE 1 #[.int .i64 a0_0, .slice A0_1 l0_1.length c0_1] 26 ?_; intro gb425 hg w4 hbox hb; have BK425 := am (hbox); have GW425 := gW hg; have GE425 := gW hg; replace HB := sB hb; clear hb hbox hg; obtain ⟨hcz5_0, hcz5_1, hfz5_0, hfz5_1⟩ := cZ BK425) | ((with_reducible refine gate_callee (f := 22) rfl ?_); refine gL 9 Try.func22 #[.agg #[.int .i64 a0_0, .slice A0_1 l0_1.length c0_1]] ?_; (with_reducible refine (impl_AreStates.calls k a0_0 _ _ l0_1 true _ ?side1 HC0_1.out A2.out).mono ?_); (case side1 => exact cH HR0_1); rintro e w6 ⟨rfl, hb⟩; refine ⟨_, rfl, ?_⟩; replace BK425 := kb BK425 hb; replace HB := sB hb; obtain ⟨hcz7_0, hcz7_1, hfz7_0, hfz7_1⟩ := cZ BK425))
   go_loopg [4, 14] k (fun kq v4 v14 w' => ∃ (x4_1 : List Int) (x14_1 : Int), v14 = .int .i64 x14_1 ∧ Aside0 (impl_LastingStates.l0 kq x4_1 (l0_1.length : Int) x14_1 a0_0 l0_1 = some (r1, r2)) ∧ Aside0 (kq ≤ k) ∧ Aside0 (Kd.R (Kd.int .i64) 3 w' w.heap.size (fun _ => True) v4 x4_1) ∧ Aside0 (w'.heap[gb425]? = some (.cells #[.int .i64 a0_0, (.slice A0_1 l0_1.length c0_1)] 26 (0, 0))) ∧ Aside0 (Below w.heap.size w w'))
   case atStart => exact ⟨(([] : List Int)), (0), sR, H', ⟨Nat.le_refl _⟩, ⟨nL⟩, ⟨bP BK425⟩, ⟨bB⟩⟩
   case round =>
    clear H'
    obtain ⟨x4_1, x14_1, rfl, HA, HK1, HO_4, BK425, HB⟩ := hrel
    cases gk with
    | zero => exact absurd HA.out (by simp [impl_LastingStates.l0])
    | succ k1 =>
     have H := HA.out
     clear HA
     simp only [impl_LastingStates.l0] at H
     by_cases c8 : x14_1 < (l0_1.length : Int)
     · rw [if_pos c8] at H
       have c8b0 := decide_eq_true c8
       clear c8
       replace H := bnd H
       obtain ⟨⟨t427, t430⟩, A9, H⟩ := H
       (try dsimp only at H)
       by_cases c10 : t430 = true
       · subst c10
         replace H := ifT H
         replace H := ifP H
         obtain ⟨c11, H⟩ := H
         have LMc11 := am c11
         clear c11
         generalize hy431 : ((x4_1 ++ [x14_1]) : List Int) = y431 at H
         (try dsimp only [Option.bind_some] at H)
         have Ny431 := am hy431.symm
         clear hy431
         have H' := am H
         clear H
         obtain ⟨hcz12_0, hcz12_1, hfz12_0, hfz12_1⟩ := cZ BK425
         go_wp2_with (first | ((with_reducible refine gate_callee (f := 50) rfl ?_); refine gL 20 Try.func50 #[.agg #[.int .i64 a0_0, .slice A0_1 l0_1.length c0_1], .int .i64 x14_1] ?_; (with_reducible refine (impl_States_class.calls k1 a0_0 _ _ l0_1 x14_1 t427 true _ ?side1 HC0_1.out A9.out).mono ?_); (case side1 => exact cH HR0_1); rintro e w13 ⟨v428, rfl, ho0, hb⟩; refine ⟨_, rfl, ?_⟩; have HO429 := am (Kd.R_lower (Kd.R_new' ho0 (Kd.R_lt (rP HO_4))) (below_size bB)); replace HO_4 := eR HO_4 ho0 hb; replace BK425 := kb BK425 hb; replace HB := sB hb) | ((with_reducible refine gate_builtin (b := .append) (xs := #[.tmp 24, .tmp 26]) rfl ?_); at_builtin; refine Kd.R_append (Kd.int .i64) (w0 := w) w.heap.size rfl (.tmp 24) (.tmp 26) 29 3 (.int .i64 0) 8 rfl Try.underlying29 info3 rfl (by decide) (by omega) u4 x4_1 x14_1 [.int .i64 x14_1] (fun k_ => some k_ ≠ (v428 : Value).ownBlock) (fun _ => False) rfl rfl ?aP (fun _ hk => hk.elim) ?aF ?aO ?aB ?aS ?aL ?_; (case aP => exact rfl); (case aB => exact bB); (case aF => exact (fun k_ hk => Kd.fresh' (Kd.R_lt (rP HO429)) k_ hk)); (case aO => exact (rF (Kd.R_mono HO_4.out (fun _ hk => hk.2)))); (case aS => exact (below_size bB)); (case aL => have := LMc11.out; omega); intro v432 w14 ho hb hg hat; rw [← Ny431.out] at ho; replace BK425 := (kg BK425 hg (Kd.R_ne HO_4.out BK425.out (by decide))); replace HO429 := am (Kd.R_after (ok := (fun _ => True)) (rP HO429) hg hat); replace HB := am (hb); have HO433 := am (ho); clear HO_4; clear ho hb hg hat))
         go_roundg k1
         case measure => have := HK1.out; omega
         case rel => exact ⟨(y431), (wrap64 (x14_1 + 1)), sR, H', ⟨oK⟩, ⟨rF (Kd.R_mono HO433.out (fun _ hk => trivial))⟩, ⟨bP BK425⟩, ⟨bB⟩⟩
       · replace c10 := Bool.eq_false_iff.mpr c10
         subst c10
         replace H := ifF H
         have H' := am H
         clear H
         obtain ⟨hcz15_0, hcz15_1, hfz15_0, hfz15_1⟩ := cZ BK425
         go_wp2_with (first | ((with_reducible refine gate_callee (f := 50) rfl ?_); refine gL 20 Try.func50 #[.agg #[.int .i64 a0_0, .slice A0_1 l0_1.length c0_1], .int .i64 x14_1] ?_; (with_reducible refine (impl_States_class.calls k1 a0_0 _ _ l0_1 x14_1 t427 false _ ?side1 HC0_1.out A9.out).mono ?_); (case side1 => exact cH HR0_1); rintro e w16 ⟨v428, rfl, ho0, hb⟩; refine ⟨_, rfl, ?_⟩; have HO429 := am (Kd.R_lower (Kd.R_new' ho0 (Kd.R_lt (rP HO_4))) (below_size bB)); replace HO_4 := eR HO_4 ho0 hb; replace BK425 := kb BK425 hb; replace HB := sB hb))
         go_roundg k1
         case measure => have := HK1.out; omega
         case rel => exact ⟨(x4_1), (wrap64 (x14_1 + 1)), sR, H', ⟨oK⟩, ⟨rF (Kd.R_mono HO_4.out (fun _ hk => trivial))⟩, ⟨bP BK425⟩, ⟨bB⟩⟩
     · rw [if_neg c8] at H
       have c8b0 := decide_eq_false c8
       clear c8
       simp only [Option.some.injEq, Prod.mk.injEq] at H
       obtain ⟨rfl, rfl⟩ := H
       go_wp2
       go_ret2
       exact ⟨_, eW, rP HO_4, bB⟩
 · replace c3 := Bool.eq_false_iff.mpr c3
   subst c3
   replace H := ifF H
   simp only [Option.some.injEq, Prod.mk.injEq] at H
   obtain ⟨rfl, rfl⟩ := H
   go_enter Try.func14, Try.ntmps14
   go_wp2_with (first | ((with_reducible refine gate_dst (N := 1) rfl ?_); refine bE 1 #[.int .i64 a0_0, .slice A0_1 l0_1.length c0_1] 26 ?_; intro gb425 hg w17 hbox hb; have BK425 := am (hbox); have GW425 := gW hg; have GE425 := gW hg; replace HB := sB hb; clear hb hbox hg; obtain ⟨hcz18_0, hcz18_1, hfz18_0, hfz18_1⟩ := cZ BK425) | ((with_reducible refine gate_callee (f := 22) rfl ?_); refine gL 9 Try.func22 #[.agg #[.int .i64 a0_0, .slice A0_1 l0_1.length c0_1]] ?_; (with_reducible refine (impl_AreStates.calls k a0_0 _ _ l0_1 false _ ?side1 HC0_1.out A2.out).mono ?_); (case side1 => exact cH HR0_1); rintro e w19 ⟨rfl, hb⟩; refine ⟨_, rfl, ?_⟩; replace BK425 := kb BK425 hb; replace HB := sB hb))
   go_ret2
   exact ⟨_, eW, nL, bB⟩
mutual
def spec_LastingStates.l0 : Nat → List Int → Int → Int → Int → List (List Int) → Option (List Int × Bool)
 | 0, _, _, _, _, _ => none
 | k + 1, x4, x14, x15, x435000, x435001 => if x15 < x14 then ((spec_saFar.f k x435000 x435001 x15).bind fun t436 => (spec_LastingStates.l1 k x4 x15 0 x14 x15 t436 (t436.length : Int) 0 x435000 x435001)) else (some (x4, true))
def spec_LastingStates.l1 : Nat → List Int → Int → Int → Int → Int → List Int → Int → Int → Int → List (List Int) → Option (List Int × Bool)
 | 0, _, _, _, _, _, _, _, _, _, _ => none
 | k + 1, x4, x5, x6, x14, x15, x20, x21, x22, x435000, x435001 => if x22 < x21 then (if 0 ≤ x22 then (if x22 < (x20.length : Int) then (if (rd x20 x22) ≥ 0 then (spec_LastingStates.l1 k x4 x5 (wrap64 (x6 + 1)) x14 x15 x20 x21 (wrap64 (x22 + 1)) x435000 x435001) else (spec_LastingStates.l1 k x4 x5 x6 x14 x15 x20 x21 (wrap64 (x22 + 1)) x435000 x435001)) else (none)) else (none)) else ((spec_saClass.f k x435000 x435001 x5).bind fun t440 => (if x6 = (t440.length : Int) then (if x4.length < 17592186044416 then (spec_LastingStates.l0 k (x4 ++ [x5]) x14 (wrap64 (x15 + 1)) x435000 x435001) else (none)) else (spec_LastingStates.l0 k x4 x14 (wrap64 (x15 + 1)) x435000 x435001)))
end
def spec_LastingStates.f (k : Nat) (a0_0 : Int) (l0_1 : List (List Int)) : Option (List Int × Bool) := (spec_saGood.f k a0_0 l0_1).bind fun t435 => (if t435 = true then (spec_LastingStates.l0 k ([] : List Int) (l0_1.length : Int) 0 a0_0 l0_1) else (some (([] : List Int), false)))
set_option maxHeartbeats 8000000 in
set_option maxRecDepth 100000 in
theorem spec_LastingStates.calls (k : Nat) (a0_0 : Int) (A0_1 : Option Addr) (c0_1 : Nat) (l0_1 : List (List Int)) (r1 : List Int) (r2 : Bool) (w : World) (hr0_1 : Kd.C (Kd.slice 3 (Kd.int .i64)) w A0_1 l0_1.length l0_1) (hc0_1 : l0_1.length ≤ c0_1) (h : spec_LastingStates.f k a0_0 l0_1 = some (r1, r2)) :
 Calls Try.prog 15 #[.agg #[.int .i64 a0_0, .slice A0_1 l0_1.length c0_1]] w fun e w' => ∃ v0_ : Value, e = .returned (.tuple #[v0_, .bool r2]) ∧ Kd.R (Kd.int .i64) 3 w' w.heap.size (fun _ => True) v0_ r1 ∧ Below w.heap.size w w' := by
 have hu26 := Try.underlying26
 have HR0_1 := am hr0_1
 have HC0_1 := am hc0_1
 clear hr0_1 hc0_1
 have HB := am (Below.refl w.heap.size w)
 have H := h
 clear h
 unfold spec_LastingStates.f at H
 replace H := bnd H
 obtain ⟨t435, A2, H⟩ := H
 (try dsimp only at H)
 by_cases c3 : t435 = true
 · subst c3
   replace H := ifT H
   have H' := am H
   clear H
   go_enter Try.func15, Try.ntmps15
   go_wp2_with (first | ((with_reducible refine gate_dst (N := 1) rfl ?_); refine bE 1 #[.int .i64 a0_0, .slice A0_1 l0_1.length c0_1] 26 ?_; intro gb434 hg w4 hbox hb; have BK434 := am (hbox); have GW434 := gW hg; have GE434 := gW hg; replace HB := sB hb; clear hb hbox hg; obtain ⟨hcz5_0, hcz5_1, hfz5_0, hfz5_1⟩ := cZ BK434) | ((with_reducible refine gate_callee (f := 47) rfl ?_); refine gL 10 Try.func47 #[.agg #[.int .i64 a0_0, .slice A0_1 l0_1.length c0_1]] ?_; (with_reducible refine (spec_saGood.calls k a0_0 _ _ l0_1 true _ ?side1 HC0_1.out A2.out).mono ?_); (case side1 => exact cH HR0_1); rintro e w6 ⟨rfl, hb⟩; refine ⟨_, rfl, ?_⟩; replace BK434 := kb BK434 hb; replace HB := sB hb; obtain ⟨hcz7_0, hcz7_1, hfz7_0, hfz7_1⟩ := cZ BK434))
   go_loopg [4, 15] k (fun kq v4 v15 w' => ∃ (x4_1 : List Int) (x15_1 : Int), v15 = .int .i64 x15_1 ∧ Aside0 (spec_LastingStates.l0 kq x4_1 (l0_1.length : Int) x15_1 a0_0 l0_1 = some (r1, r2)) ∧ Aside0 (kq ≤ k) ∧ Aside0 (Kd.R (Kd.int .i64) 3 w' w.heap.size (fun _ => True) v4 x4_1) ∧ Aside0 (w'.heap[gb434]? = some (.cells #[.int .i64 a0_0, (.slice A0_1 l0_1.length c0_1)] 26 (0, 0))) ∧ Aside0 (Below w.heap.size w w'))
   case atStart => exact ⟨(([] : List Int)), (0), sR, H', ⟨Nat.le_refl _⟩, ⟨nL⟩, ⟨bP BK434⟩, ⟨bB⟩⟩
   case round =>
    clear H'
    obtain ⟨x4_1, x15_1, rfl, HA, HK1, HO_4, BK434, HB⟩ := hrel
    cases gk with
    | zero => exact absurd HA.out (by simp [spec_LastingStates.l0])
    | succ k1 =>
     have H := HA.out
     clear HA
     simp only [spec_LastingStates.l0] at H
     by_cases c8 : x15_1 < (l0_1.length : Int)
     · rw [if_pos c8] at H
       have c8b0 := decide_eq_true c8
       clear c8
       replace H := bnd H
       obtain ⟨t436, A9, H⟩ := H
       (try dsimp only at H)
       have H' := am H
       clear H
       obtain ⟨hcz10_0, hcz10_1, hfz10_0, hfz10_1⟩ := cZ BK434
       go_wp2_with (first | ((with_reducible refine gate_callee (f := 45) rfl ?_); refine gL 20 Try.func45 #[.agg #[.int .i64 a0_0, .slice A0_1 l0_1.length c0_1], .int .i64 x15_1] ?_; (with_reducible refine (spec_saFar.calls k1 a0_0 _ _ l0_1 x15_1 t436 _ ?side1 HC0_1.out A9.out).mono ?_); (case side1 => exact cH HR0_1); rintro e w11 ⟨v437, rfl, ho0, hb⟩; refine ⟨_, rfl, ?_⟩; have HO438 := am (Kd.R_lower (Kd.R_new' ho0 (Kd.R_lt (rP HO_4))) (below_size bB)); replace HO_4 := eR HO_4 ho0 hb; replace BK434 := kb BK434 hb; replace HB := sB hb; obtain ⟨Ao12, co12, eo12⟩ := Kd.R_slice HO438.out; subst eo12))
       go_loopg [6, 22] k1 (fun kq v6 v22 w' => ∃ (x6_2 : Int) (x22_2 : Int), v6 = .int .i64 x6_2 ∧ v22 = .int .i64 x22_2 ∧ Aside0 (spec_LastingStates.l1 kq x4_1 x15_1 x6_2 (l0_1.length : Int) x15_1 t436 (t436.length : Int) x22_2 a0_0 l0_1 = some (r1, r2)) ∧ Aside0 (kq ≤ k1) ∧ Aside0 (Kd.R (Kd.int .i64) 3 w' w.heap.size (fun k_ => some k_ ≠ ((.slice Ao12 t436.length co12) : Value).ownBlock) u4 x4_1) ∧ Aside0 (Kd.R (Kd.int .i64) 3 w' w.heap.size (fun k_ => some k_ ≠ (u4 : Value).ownBlock) (.slice Ao12 t436.length co12) t436) ∧ Aside0 (w'.heap[gb434]? = some (.cells #[.int .i64 a0_0, (.slice A0_1 l0_1.length c0_1)] 26 (0, 0))) ∧ Aside0 (Below w.heap.size w w'))
       case atStart => exact ⟨(0), (0), sR, sR, H', ⟨Nat.le_refl _⟩, ⟨rF (Kd.R_mono HO_4.out (fun _ hk => hk.2))⟩, ⟨rF (Kd.R_mono HO438.out (fun _ hk => hk.2))⟩, ⟨bP BK434⟩, ⟨bB⟩⟩
       case round =>
        clear H'
        obtain ⟨x6_2, x22_2, rfl, rfl, HA, HK2, HO_4, HO_20, BK434, HB⟩ := hrel
        cases gk with
        | zero => exact absurd HA.out (by simp [spec_LastingStates.l1])
        | succ k2 =>
         have H := HA.out
         clear HA
         simp only [spec_LastingStates.l1] at H
         by_cases c13 : x22_2 < (t436.length : Int)
         · rw [if_pos c13] at H
           have c13b0 := decide_eq_true c13
           clear c13
           replace H := ifP H
           obtain ⟨c14, H⟩ := H
           have c14b0 := decide_eq_true c14
           clear c14
           replace H := ifP H
           obtain ⟨c15, H⟩ := H
           have c15b0 := decide_eq_true c15
           clear c15
           by_cases c16 : (rd t436 x22_2) ≥ 0
           · rw [if_pos c16] at H
             have c16b0 : decide (0 ≤ (rd t436 x22_2)) = true := decide_eq_true c16
             clear c16
             have H' := am H
             clear H
             have p439 : 0 ≤ (x22_2 : Int) := dT
             have q439 : x22_2 < (t436.length : Int) := dT
             obtain ⟨ad439, e439, hx439_0⟩ := Kd.at_int (Kd.R_reads' HO_20.out).2.2 x22_2 p439 q439
             cases e439
             replace p439 := eq_true p439
             replace q439 := eq_true q439
             go_wp2
             go_roundg k2
             case measure => have := HK1.out; have := HK2.out; omega
             case rel => exact ⟨(wrap64 (x6_2 + 1)), (wrap64 (x22_2 + 1)), sR, sR, H', ⟨oK⟩, ⟨rP HO_4⟩, ⟨rP HO_20⟩, ⟨bP BK434⟩, ⟨bB⟩⟩
           · rw [if_neg c16] at H
             have c16b0 : decide (0 ≤ (rd t436 x22_2)) = false := decide_eq_false c16
             clear c16
             have H' := am H
             clear H
             have p439 : 0 ≤ (x22_2 : Int) := dT
             have q439 : x22_2 < (t436.length : Int) := dT
             obtain ⟨ad439, e439, hx439_0⟩ := Kd.at_int (Kd.R_reads' HO_20.out).2.2 x22_2 p439 q439
             cases e439
             replace p439 := eq_true p439
             replace q439 := eq_true q439
             go_wp2
             go_roundg k2
             case measure => have := HK1.out; have := HK2.out; omega
             case rel => exact ⟨(x6_2), (wrap64 (x22_2 + 1)), sR, sR, H', ⟨oK⟩, ⟨rP HO_4⟩, ⟨rP HO_20⟩, ⟨bP BK434⟩, ⟨bB⟩⟩
         · rw [if_neg c13] at H
           have c13b0 := decide_eq_false c13
           clear c13
           replace H := bnd H
           obtain ⟨t440, A17, H⟩ := H
           (try dsimp only at H)
           by_cases c18 : x6_2 = (t440.length : Int)
           · rw [if_pos c18] at H
             have c18b0 : (x6_2 == (t440.length : Int)) = true := beq_iff_eq.mpr c18
             have c18b1 : (x6_2 != (t440.length : Int)) = false := bne_eq_false_iff_eq.mpr c18
             clear c18
             replace H := ifP H
             obtain ⟨c19, H⟩ := H
             have LMc19 := am c19
             clear c19
             generalize hy443 : ((x4_1 ++ [x15_1]) : List Int) = y443 at H
             (try dsimp only [Option.bind_some] at H)
             have Ny443 := am hy443.symm
             clear hy443
             have H' := am H
             clear H
             obtain ⟨hcz20_0, hcz20_1, hfz20_0, hfz20_1⟩ := cZ BK434
             go_wp2_with (first | ((with_reducible refine gate_callee (f := 48) rfl ?_); refine gL 34 Try.func48 #[.agg #[.int .i64 a0_0, .slice A0_1 l0_1.length c0_1], .int .i64 x15_1] ?_; (with_reducible refine (spec_saClass.calls k2 a0_0 _ _ l0_1 x15_1 t440 _ ?side1 HC0_1.out A17.out).mono ?_); (case side1 => exact cH HR0_1); rintro e w21 ⟨v441, rfl, ho0, hb⟩; refine ⟨_, rfl, ?_⟩; have HO442 := am (Kd.R_lower (Kd.R_new' (Kd.R_new' ho0 (Kd.R_lt (rP HO_4))) (Kd.R_lt (rP HO_20))) (below_size bB)); replace HO_4 := eR HO_4 ho0 hb; replace HO_20 := eR HO_20 ho0 hb; replace BK434 := kb BK434 hb; replace HB := sB hb; obtain ⟨Ao22, co22, eo22⟩ := Kd.R_slice HO442.out; subst eo22) | ((with_reducible refine gate_builtin (b := .append) (xs := #[.tmp 37, .tmp 39]) rfl ?_); at_builtin; refine Kd.R_append (Kd.int .i64) (w0 := w) w.heap.size rfl (.tmp 37) (.tmp 39) 29 3 (.int .i64 0) 8 rfl Try.underlying29 info3 rfl (by decide) (by omega) u4 x4_1 x15_1 [.int .i64 x15_1] (fun k_ => some k_ ≠ (.slice Ao12 t436.length co12 : Value).ownBlock ∧ some k_ ≠ (.slice Ao22 t440.length co22 : Value).ownBlock) (fun _ => False) rfl rfl ?aP (fun _ hk => hk.elim) ?aF ?aO ?aB ?aS ?aL ?_; (case aP => exact rfl); (case aB => exact bB); (case aF => exact (fun k_ hk => ⟨Kd.fresh' (Kd.R_lt (rP HO_20)) k_ hk, Kd.fresh' (Kd.R_lt (rP HO442)) k_ hk⟩)); (case aO => exact (rP HO_4)); (case aS => exact (below_size bB)); (case aL => have := LMc19.out; omega); intro v444 w23 ho hb hg hat; rw [← Ny443.out] at ho; replace HO_20 := am (Kd.R_after (ok := (fun k_ => some k_ ≠ (.slice Ao22 t440.length co22 : Value).ownBlock)) (by (with_reducible repeat (first | apply Kd.R_alloc | apply Kd.R_drewN | apply Kd.R_drew)); exact Kd.R_mono HO_20.out (fun _ hk => ⟨hk.2, hk.1⟩)) hg hat); replace BK434 := (kg BK434 hg (Kd.R_ne HO_4.out BK434.out (by decide))); replace HO442 := am (Kd.R_after (ok := (fun k_ => some k_ ≠ (.slice Ao12 t436.length co12 : Value).ownBlock)) (by (with_reducible repeat (first | apply Kd.R_alloc | apply Kd.R_drewN | apply Kd.R_drew)); exact Kd.R_mono HO442.out (fun _ hk => ⟨hk.2, hk.1.2⟩)) hg hat); replace HB := am (hb); have HO445 := am (ho); clear HO_4; clear ho hb hg hat))
             go_roundg k2
             case measure => have := HK1.out; have := HK2.out; omega
             case rel => exact ⟨(y443), (wrap64 (x15_1 + 1)), sR, H', ⟨oK⟩, ⟨rF (Kd.R_mono HO445.out (fun _ hk => trivial))⟩, ⟨bP BK434⟩, ⟨bB⟩⟩
           · rw [if_neg c18] at H
             have c18b0 : (x6_2 == (t440.length : Int)) = false := beq_eq_false_iff_ne.mpr c18
             have c18b1 : (x6_2 != (t440.length : Int)) = true := bne_iff_ne.mpr c18
             have H' := am H
             clear H
             obtain ⟨hcz24_0, hcz24_1, hfz24_0, hfz24_1⟩ := cZ BK434
             go_wp2_with (first | ((with_reducible refine gate_callee (f := 48) rfl ?_); refine gL 34 Try.func48 #[.agg #[.int .i64 a0_0, .slice A0_1 l0_1.length c0_1], .int .i64 x15_1] ?_; (with_reducible refine (spec_saClass.calls k2 a0_0 _ _ l0_1 x15_1 t440 _ ?side1 HC0_1.out A17.out).mono ?_); (case side1 => exact cH HR0_1); rintro e w25 ⟨v441, rfl, ho0, hb⟩; refine ⟨_, rfl, ?_⟩; have HO442 := am (Kd.R_lower (Kd.R_new' (Kd.R_new' ho0 (Kd.R_lt (rP HO_4))) (Kd.R_lt (rP HO_20))) (below_size bB)); replace HO_4 := eR HO_4 ho0 hb; replace HO_20 := eR HO_20 ho0 hb; replace BK434 := kb BK434 hb; replace HB := sB hb; obtain ⟨Ao26, co26, eo26⟩ := Kd.R_slice HO442.out; subst eo26))
             go_roundg k2
             case measure => have := HK1.out; have := HK2.out; omega
             case rel => exact ⟨(x4_1), (wrap64 (x15_1 + 1)), sR, H', ⟨oK⟩, ⟨rF (Kd.R_mono HO_4.out (fun _ hk => trivial))⟩, ⟨bP BK434⟩, ⟨bB⟩⟩
     · rw [if_neg c8] at H
       have c8b0 := decide_eq_false c8
       clear c8
       simp only [Option.some.injEq, Prod.mk.injEq] at H
       obtain ⟨rfl, rfl⟩ := H
       go_wp2
       go_ret2
       exact ⟨_, eW, rP HO_4, bB⟩
 · replace c3 := Bool.eq_false_iff.mpr c3
   subst c3
   replace H := ifF H
   simp only [Option.some.injEq, Prod.mk.injEq] at H
   obtain ⟨rfl, rfl⟩ := H
   go_enter Try.func15, Try.ntmps15
   go_wp2_with (first | ((with_reducible refine gate_dst (N := 1) rfl ?_); refine bE 1 #[.int .i64 a0_0, .slice A0_1 l0_1.length c0_1] 26 ?_; intro gb434 hg w27 hbox hb; have BK434 := am (hbox); have GW434 := gW hg; have GE434 := gW hg; replace HB := sB hb; clear hb hbox hg; obtain ⟨hcz28_0, hcz28_1, hfz28_0, hfz28_1⟩ := cZ BK434) | ((with_reducible refine gate_callee (f := 47) rfl ?_); refine gL 10 Try.func47 #[.agg #[.int .i64 a0_0, .slice A0_1 l0_1.length c0_1]] ?_; (with_reducible refine (spec_saGood.calls k a0_0 _ _ l0_1 false _ ?side1 HC0_1.out A2.out).mono ?_); (case side1 => exact cH HR0_1); rintro e w29 ⟨rfl, hb⟩; refine ⟨_, rfl, ?_⟩; replace BK434 := kb BK434 hb; replace HB := sB hb))
   go_ret2
   exact ⟨_, eW, nL, bB⟩
def impl_EndStates.l0 : Nat → List Int → List (List Int) → Int → Int → Int → List (List Int) → Option (List Int × Bool)
 | 0, _, _, _, _, _, _ => none
 | k + 1, x4, x11, x12, x13, x447000, x447001 => if x13 < x12 then (if 0 ≤ x13 then (if x13 < (x11.length : Int) then (if x13 < ((rd_L2 x11 x13).length : Int) then (if (rd (rd_L2 x11 x13) x13) = x447000 then (if x4.length < 17592186044416 then (impl_EndStates.l0 k (x4 ++ [x13]) x11 x12 (wrap64 (x13 + 1)) x447000 x447001) else (none)) else (impl_EndStates.l0 k x4 x11 x12 (wrap64 (x13 + 1)) x447000 x447001)) else (none)) else (none)) else (none)) else (some (x4, true))
def impl_EndStates.f (k : Nat) (a0_0 : Int) (l0_1 : List (List Int)) : Option (List Int × Bool) := (impl_AreStates.f k a0_0 l0_1).bind fun t447 => (if t447 = true then (impl_EndStates.l0 k ([] : List Int) l0_1 (l0_1.length : Int) 0 a0_0 l0_1) else (some (([] : List Int), false)))
set_option maxHeartbeats 8000000 in
set_option maxRecDepth 100000 in
theorem impl_EndStates.calls (k : Nat) (a0_0 : Int) (A0_1 : Option Addr) (c0_1 : Nat) (l0_1 : List (List Int)) (r1 : List Int) (r2 : Bool) (w : World) (hr0_1 : Kd.C (Kd.slice 3 (Kd.int .i64)) w A0_1 l0_1.length l0_1) (hc0_1 : l0_1.length ≤ c0_1) (h : impl_EndStates.f k a0_0 l0_1 = some (r1, r2)) :
 Calls Try.prog 16 #[.agg #[.int .i64 a0_0, .slice A0_1 l0_1.length c0_1]] w fun e w' => ∃ v0_ : Value, e = .returned (.tuple #[v0_, .bool r2]) ∧ Kd.R (Kd.int .i64) 3 w' w.heap.size (fun _ => True) v0_ r1 ∧ Below w.heap.size w w' := by
 have hu26 := Try.underlying26
 have HR0_1 := am hr0_1
 have HC0_1 := am hc0_1
 clear hr0_1 hc0_1
 have HB := am (Below.refl w.heap.size w)
 have H := h
 clear h
 unfold impl_EndStates.f at H
 replace H := bnd H
 obtain ⟨t447, A2, H⟩ := H
 (try dsimp only at H)
 by_cases c3 : t447 = true
 · subst c3
   replace H := ifT H
   have H' := am H
   clear H
   go_enter Try.func16, Try.ntmps16
   go_wp2_with (first | ((with_reducible refine gate_dst (N := 1) rfl ?_); refine bE 1 #[.int .i64 a0_0, .slice A0_1 l0_1.length c0_1] 26 ?_; intro gb446 hg w4 hbox hb; have BK446 := am (hbox); have GW446 := gW hg; have GE446 := gW hg; replace HB := sB hb; clear hb hbox hg; obtain ⟨hcz5_0, hcz5_1, hfz5_0, hfz5_1⟩ := cZ BK446) | (go_at_call 22; (with_reducible refine (impl_AreStates.calls k a0_0 _ _ l0_1 true _ ?side1 HC0_1.out A2.out).mono ?_); (case side1 => exact cH HR0_1); rintro e w6 ⟨rfl, hb⟩; replace BK446 := kb BK446 hb; replace HB := sB hb; obtain ⟨hcz7_0, hcz7_1, hfz7_0, hfz7_1⟩ := cZ BK446))
   repeat (go_quiet (first | ((with_reducible refine gate_dst (N := 1) rfl ?_); refine bE 1 #[.int .i64 a0_0, .slice A0_1 l0_1.length c0_1] 26 ?_; intro gb446 hg w4 hbox hb; have BK446 := am (hbox); have GW446 := gW hg; have GE446 := gW hg; replace HB := sB hb; clear hb hbox hg; obtain ⟨hcz5_0, hcz5_1, hfz5_0, hfz5_1⟩ := cZ BK446) | (go_at_call 22; (with_reducible refine (impl_AreStates.calls k a0_0 _ _ l0_1 true _ ?side1 HC0_1.out A2.out).mono ?_); (case side1 => exact cH HR0_1); rintro e w6 ⟨rfl, hb⟩; replace BK446 := kb BK446 hb; replace HB := sB hb; obtain ⟨hcz7_0, hcz7_1, hfz7_0, hfz7_1⟩ := cZ BK446)); try go_wp2_with (first | ((with_reducible refine gate_dst (N := 1) rfl ?_); refine bE 1 #[.int .i64 a0_0, .slice A0_1 l0_1.length c0_1] 26 ?_; intro gb446 hg w4 hbox hb; have BK446 := am (hbox); have GW446 := gW hg; have GE446 := gW hg; replace HB := sB hb; clear hb hbox hg; obtain ⟨hcz5_0, hcz5_1, hfz5_0, hfz5_1⟩ := cZ BK446) | (go_at_call 22; (with_reducible refine (impl_AreStates.calls k a0_0 _ _ l0_1 true _ ?side1 HC0_1.out A2.out).mono ?_); (case side1 => exact cH HR0_1); rintro e w6 ⟨rfl, hb⟩; replace BK446 := kb BK446 hb; replace HB := sB hb; obtain ⟨hcz7_0, hcz7_1, hfz7_0, hfz7_1⟩ := cZ BK446)))
   go_loopg [4, 13] k (fun kq v4 v13 w' => ∃ (x4_1 : List Int) (x13_1 : Int), v13 = .int .i64 x13_1 ∧ Aside0 (impl_EndStates.l0 kq x4_1 l0_1 (l0_1.length : Int) x13_1 a0_0 l0_1 = some (r1, r2)) ∧ Aside0 (kq ≤ k) ∧ Aside0 (Kd.R (Kd.int .i64) 3 w' w.heap.size (fun _ => True) v4 x4_1) ∧ Aside0 (w'.heap[gb446]? = some (.cells #[.int .i64 a0_0, (.slice A0_1 l0_1.length c0_1)] 26 (0, 0))) ∧ Aside0 (Below w.heap.size w w'))
   case atStart => exact ⟨(([] : List Int)), (0), sR, H', ⟨Nat.le_refl _⟩, ⟨nL⟩, ⟨bP BK446⟩, ⟨bB⟩⟩
   case round =>
    clear H'
    obtain ⟨x4_1, x13_1, rfl, HA, HK1, HO_4, BK446, HB⟩ := hrel
    cases gk with
    | zero => exact absurd HA.out (by simp [impl_EndStates.l0])
    | succ k1 =>
     have H := HA.out
     clear HA
     simp only [impl_EndStates.l0] at H
     by_cases c8 : x13_1 < (l0_1.length : Int)
     · rw [if_pos c8] at H
       have c8b0 := decide_eq_true c8
       clear c8
       replace H := ifP H
       obtain ⟨c9, H⟩ := H
       have c9b0 := decide_eq_true c9
       clear c9
       replace H := ifP H
       obtain ⟨c10, H⟩ := H
       have c10b0 := decide_eq_true c10
       clear c10
       replace H := ifP H
       obtain ⟨c11, H⟩ := H
       have c11b0 := decide_eq_true c11
       clear c11
       by_cases c12 : (rd (rd_L2 l0_1 x13_1) x13_1) = a0_0
       · rw [if_pos c12] at H
         have c12b0 : ((rd (rd_L2 l0_1 x13_1) x13_1) == a0_0) = true := beq_iff_eq.mpr c12
         have c12b1 : ((rd (rd_L2 l0_1 x13_1) x13_1) != a0_0) = false := bne_eq_false_iff_eq.mpr c12
         clear c12
         replace H := ifP H
         obtain ⟨c13, H⟩ := H
         have LMc13 := am c13
         clear c13
         generalize hy450 : ((x4_1 ++ [x13_1]) : List Int) = y450 at H
         (try dsimp only [Option.bind_some] at H)
         have Ny450 := am hy450.symm
         clear hy450
         have H' := am H
         clear H
         have p448 : 0 ≤ (x13_1 : Int) := dT
         have q448 : x13_1 < (l0_1.length : Int) := dT
         obtain ⟨ad448, A448_0, c448_0, e448, hx448_0, hl448_0, hi448_0⟩ := at_L2 HR0_1.out x13_1 p448 q448
         cases e448
         replace hx448_0 := (HB.out.cell (World.block_lt_of_cell? w _ hx448_0)).trans hx448_0
         have HR448_0 := am hi448_0
         have HC448_0 := am hl448_0
         clear hi448_0 hl448_0
         replace p448 := eq_true p448
         replace q448 := eq_true q448
         have p449 : 0 ≤ (x13_1 : Int) := dT
         have q449 : x13_1 < ((rd_L2 l0_1 x13_1).length : Int) := dT
         obtain ⟨ad449, e449, hx449_0⟩ := Kd.at_int HR448_0.out x13_1 p449 q449
         cases e449
         replace hx449_0 := (HB.out.cell (World.block_lt_of_cell? w _ hx449_0)).trans hx449_0
         replace p449 := eq_true p449
         replace q449 := eq_true q449
         obtain ⟨hcz14_0, hcz14_1, hfz14_0, hfz14_1⟩ := cZ BK446
         go_wp2_with (first | ((with_reducible refine gate_builtin (b := .append) (xs := #[.tmp 25, .tmp 27]) rfl ?_); at_builtin; refine Kd.R_append (Kd.int .i64) (w0 := w) w.heap.size rfl (.tmp 25) (.tmp 27) 29 3 (.int .i64 0) 8 rfl Try.underlying29 info3 rfl (by decide) (by omega) u4 x4_1 x13_1 [.int .i64 x13_1] (fun _ => True) (fun _ => False) rfl rfl ?aP (fun _ hk => hk.elim) ?aF ?aO ?aB ?aS ?aL ?_; (case aP => exact rfl); (case aB => exact bB); (case aF => exact (fun _ _ => trivial)); (case aO => exact (rP HO_4)); (case aS => exact (below_size bB)); (case aL => have := LMc13.out; omega); intro v451 w15 ho hb hg hat; rw [← Ny450.out] at ho; replace BK446 := (kg BK446 hg (Kd.R_ne HO_4.out BK446.out (by decide))); replace HB := am (hb); have HO452 := am (ho); clear HO_4; clear ho hb hg hat))
         repeat (go_quiet (first | ((with_reducible refine gate_builtin (b := .append) (xs := #[.tmp 25, .tmp 27]) rfl ?_); at_builtin; refine Kd.R_append (Kd.int .i64) (w0 := w) w.heap.size rfl (.tmp 25) (.tmp 27) 29 3 (.int .i64 0) 8 rfl Try.underlying29 info3 rfl (by decide) (by omega) u4 x4_1 x13_1 [.int .i64 x13_1] (fun _ => True) (fun _ => False) rfl rfl ?aP (fun _ hk => hk.elim) ?aF ?aO ?aB ?aS ?aL ?_; (case aP => exact rfl); (case aB => exact bB); (case aF => exact (fun _ _ => trivial)); (case aO => exact (rP HO_4)); (case aS => exact (below_size bB)); (case aL => have := LMc13.out; omega); intro v451 w15 ho hb hg hat; rw [← Ny450.out] at ho; replace BK446 := (kg BK446 hg (Kd.R_ne HO_4.out BK446.out (by decide))); replace HB := am (hb); have HO452 := am (ho); clear HO_4; clear ho hb hg hat)); try go_wp2_with (first | ((with_reducible refine gate_builtin (b := .append) (xs := #[.tmp 25, .tmp 27]) rfl ?_); at_builtin; refine Kd.R_append (Kd.int .i64) (w0 := w) w.heap.size rfl (.tmp 25) (.tmp 27) 29 3 (.int .i64 0) 8 rfl Try.underlying29 info3 rfl (by decide) (by omega) u4 x4_1 x13_1 [.int .i64 x13_1] (fun _ => True) (fun _ => False) rfl rfl ?aP (fun _ hk => hk.elim) ?aF ?aO ?aB ?aS ?aL ?_; (case aP => exact rfl); (case aB => exact bB); (case aF => exact (fun _ _ => trivial)); (case aO => exact (rP HO_4)); (case aS => exact (below_size bB)); (case aL => have := LMc13.out; omega); intro v451 w15 ho hb hg hat; rw [← Ny450.out] at ho; replace BK446 := (kg BK446 hg (Kd.R_ne HO_4.out BK446.out (by decide))); replace HB := am (hb); have HO452 := am (ho); clear HO_4; clear ho hb hg hat)))
         go_roundg k1
         case measure => have := HK1.out; omega
         case rel => exact ⟨(y450), (wrap64 (x13_1 + 1)), sR, H', ⟨oK⟩, ⟨rP HO452⟩, ⟨bP BK446⟩, ⟨bB⟩⟩
       · rw [if_neg c12] at H
         have c12b0 : ((rd (rd_L2 l0_1 x13_1) x13_1) == a0_0) = false := beq_eq_false_iff_ne.mpr c12
         have c12b1 : ((rd (rd_L2 l0_1 x13_1) x13_1) != a0_0) = true := bne_iff_ne.mpr c12
         have H' := am H
         clear H
         have p448 : 0 ≤ (x13_1 : Int) := dT
         have q448 : x13_1 < (l0_1.length : Int) := dT
         obtain ⟨ad448, A448_0, c448_0, e448, hx448_0, hl448_0, hi448_0⟩ := at_L2 HR0_1.out x13_1 p448 q448
         cases e448
         replace hx448_0 := (HB.out.cell (World.block_lt_of_cell? w _ hx448_0)).trans hx448_0
         have HR448_0 := am hi448_0
         have HC448_0 := am hl448_0
         clear hi448_0 hl448_0
         replace p448 := eq_true p448
         replace q448 := eq_true q448
         have p449 : 0 ≤ (x13_1 : Int) := dT
         have q449 : x13_1 < ((rd_L2 l0_1 x13_1).length : Int) := dT
         obtain ⟨ad449, e449, hx449_0⟩ := Kd.at_int HR448_0.out x13_1 p449 q449
         cases e449
         replace hx449_0 := (HB.out.cell (World.block_lt_of_cell? w _ hx449_0)).trans hx449_0
         replace p449 := eq_true p449
         replace q449 := eq_true q449
         obtain ⟨hcz16_0, hcz16_1, hfz16_0, hfz16_1⟩ := cZ BK446
         go_wp2
         repeat (go_quiet (fail); try go_wp2)
         go_roundg k1
         case measure => have := HK1.out; omega
         case rel => exact ⟨(x4_1), (wrap64 (x13_1 + 1)), sR, H', ⟨oK⟩, ⟨rP HO_4⟩, ⟨bP BK446⟩, ⟨bB⟩⟩
     · rw [if_neg c8] at H
       have c8b0 := decide_eq_false c8
       clear c8
       simp only [Option.some.injEq, Prod.mk.injEq] at H
       obtain ⟨rfl, rfl⟩ := H
       go_wp2
       repeat (go_quiet (fail); try go_wp2)
       go_ret2
       exact ⟨_, eW, rP HO_4, bB⟩
 · replace c3 := Bool.eq_false_iff.mpr c3
   subst c3
   replace H := ifF H
   simp only [Option.some.injEq, Prod.mk.injEq] at H
   obtain ⟨rfl, rfl⟩ := H
   go_enter Try.func16, Try.ntmps16
   go_wp2_with (first | ((with_reducible refine gate_dst (N := 1) rfl ?_); refine bE 1 #[.int .i64 a0_0, .slice A0_1 l0_1.length c0_1] 26 ?_; intro gb446 hg w17 hbox hb; have BK446 := am (hbox); have GW446 := gW hg; have GE446 := gW hg; replace HB := sB hb; clear hb hbox hg; obtain ⟨hcz18_0, hcz18_1, hfz18_0, hfz18_1⟩ := cZ BK446) | (go_at_call 22; (with_reducible refine (impl_AreStates.calls k a0_0 _ _ l0_1 false _ ?side1 HC0_1.out A2.out).mono ?_); (case side1 => exact cH HR0_1); rintro e w19 ⟨rfl, hb⟩; replace BK446 := kb BK446 hb; replace HB := sB hb))
   repeat (go_quiet (first | ((with_reducible refine gate_dst (N := 1) rfl ?_); refine bE 1 #[.int .i64 a0_0, .slice A0_1 l0_1.length c0_1] 26 ?_; intro gb446 hg w17 hbox hb; have BK446 := am (hbox); have GW446 := gW hg; have GE446 := gW hg; replace HB := sB hb; clear hb hbox hg; obtain ⟨hcz18_0, hcz18_1, hfz18_0, hfz18_1⟩ := cZ BK446) | (go_at_call 22; (with_reducible refine (impl_AreStates.calls k a0_0 _ _ l0_1 false _ ?side1 HC0_1.out A2.out).mono ?_); (case side1 => exact cH HR0_1); rintro e w19 ⟨rfl, hb⟩; replace BK446 := kb BK446 hb; replace HB := sB hb)); try go_wp2_with (first | ((with_reducible refine gate_dst (N := 1) rfl ?_); refine bE 1 #[.int .i64 a0_0, .slice A0_1 l0_1.length c0_1] 26 ?_; intro gb446 hg w17 hbox hb; have BK446 := am (hbox); have GW446 := gW hg; have GE446 := gW hg; replace HB := sB hb; clear hb hbox hg; obtain ⟨hcz18_0, hcz18_1, hfz18_0, hfz18_1⟩ := cZ BK446) | (go_at_call 22; (with_reducible refine (impl_AreStates.calls k a0_0 _ _ l0_1 false _ ?side1 HC0_1.out A2.out).mono ?_); (case side1 => exact cH HR0_1); rintro e w19 ⟨rfl, hb⟩; replace BK446 := kb BK446 hb; replace HB := sB hb)))
   go_ret2
   exact ⟨_, eW, nL, bB⟩
def spec_saEnd.f (a0_0 : Int) (l0_1 : List (List Int)) (a1 : Int) : Option (Bool) := if 0 ≤ a1 then (if a1 < (l0_1.length : Int) then (if a1 < ((rd_L2 l0_1 a1).length : Int) then (some ((rd (rd_L2 l0_1 a1) a1) == a0_0)) else (none)) else (none)) else (none)
set_option maxHeartbeats 8000000 in
set_option maxRecDepth 100000 in
theorem spec_saEnd.calls (a0_0 : Int) (A0_1 : Option Addr) (c0_1 : Nat) (l0_1 : List (List Int)) (a1 : Int) (r : Bool) (w : World) (hr0_1 : Kd.C (Kd.slice 3 (Kd.int .i64)) w A0_1 l0_1.length l0_1) (hc0_1 : l0_1.length ≤ c0_1) (h : spec_saEnd.f a0_0 l0_1 a1 = some r) :
 Calls Try.prog 51 #[.agg #[.int .i64 a0_0, .slice A0_1 l0_1.length c0_1], .int .i64 a1] w fun e w' => e = .returned (.bool r) ∧ Below w.heap.size w w' := by
 have hu26 := Try.underlying26
 have HR0_1 := am hr0_1
 have HC0_1 := am hc0_1
 clear hr0_1 hc0_1
 have HB := am (Below.refl w.heap.size w)
 have H := h
 clear h
 unfold spec_saEnd.f at H
 replace H := ifP H
 obtain ⟨c3, H⟩ := H
 have c3b0 := decide_eq_true c3
 clear c3
 replace H := ifP H
 obtain ⟨c4, H⟩ := H
 have c4b0 := decide_eq_true c4
 clear c4
 replace H := ifP H
 obtain ⟨c5, H⟩ := H
 have c5b0 := decide_eq_true c5
 clear c5
 obtain rfl := Option.some.inj H
 go_enter Try.func51, Try.ntmps51
 go_wp2_with (first | ((with_reducible refine gate_dst (N := 2) rfl ?_); refine bE 2 #[.int .i64 a0_0, .slice A0_1 l0_1.length c0_1] 26 ?_; intro gb453 hg w6 hbox hb; have BK453 := am (hbox); have GW453 := gW hg; have GE453 := gW hg; replace HB := sB hb; clear hb hbox hg; obtain ⟨hcz7_0, hcz7_1, hfz7_0, hfz7_1⟩ := cZ BK453; have p454 : 0 ≤ (a1 : Int) := dT; have q454 : a1 < (l0_1.length : Int) := dT; obtain ⟨ad454, A454_0, c454_0, e454, hx454_0, hl454_0, hi454_0⟩ := at_L2 HR0_1.out a1 p454 q454; cases e454; replace hx454_0 := (HB.out.cell (World.block_lt_of_cell? w _ hx454_0)).trans hx454_0; have HR454_0 := am hi454_0; have HC454_0 := am hl454_0; clear hi454_0 hl454_0; replace p454 := eq_true p454; replace q454 := eq_true q454; have p455 : 0 ≤ (a1 : Int) := dT; have q455 : a1 < ((rd_L2 l0_1 a1).length : Int) := dT; obtain ⟨ad455, e455, hx455_0⟩ := Kd.at_int HR454_0.out a1 p455 q455; cases e455; replace hx455_0 := (HB.out.cell (World.block_lt_of_cell? w _ hx455_0)).trans hx455_0; replace p455 := eq_true p455; replace q455 := eq_true q455))
 repeat (go_quiet (first | ((with_reducible refine gate_dst (N := 2) rfl ?_); refine bE 2 #[.int .i64 a0_0, .slice A0_1 l0_1.length c0_1] 26 ?_; intro gb453 hg w6 hbox hb; have BK453 := am (hbox); have GW453 := gW hg; have GE453 := gW hg; replace HB := sB hb; clear hb hbox hg; obtain ⟨hcz7_0, hcz7_1, hfz7_0, hfz7_1⟩ := cZ BK453; have p454 : 0 ≤ (a1 : Int) := dT; have q454 : a1 < (l0_1.length : Int) := dT; obtain ⟨ad454, A454_0, c454_0, e454, hx454_0, hl454_0, hi454_0⟩ := at_L2 HR0_1.out a1 p454 q454; cases e454; replace hx454_0 := (HB.out.cell (World.block_lt_of_cell? w _ hx454_0)).trans hx454_0; have HR454_0 := am hi454_0; have HC454_0 := am hl454_0; clear hi454_0 hl454_0; replace p454 := eq_true p454; replace q454 := eq_true q454; have p455 : 0 ≤ (a1 : Int) := dT; have q455 : a1 < ((rd_L2 l0_1 a1).length : Int) := dT; obtain ⟨ad455, e455, hx455_0⟩ := Kd.at_int HR454_0.out a1 p455 q455; cases e455; replace hx455_0 := (HB.out.cell (World.block_lt_of_cell? w _ hx455_0)).trans hx455_0; replace p455 := eq_true p455; replace q455 := eq_true q455)); try go_wp2_with (first | ((with_reducible refine gate_dst (N := 2) rfl ?_); refine bE 2 #[.int .i64 a0_0, .slice A0_1 l0_1.length c0_1] 26 ?_; intro gb453 hg w6 hbox hb; have BK453 := am (hbox); have GW453 := gW hg; have GE453 := gW hg; replace HB := sB hb; clear hb hbox hg; obtain ⟨hcz7_0, hcz7_1, hfz7_0, hfz7_1⟩ := cZ BK453; have p454 : 0 ≤ (a1 : Int) := dT; have q454 : a1 < (l0_1.length : Int) := dT; obtain ⟨ad454, A454_0, c454_0, e454, hx454_0, hl454_0, hi454_0⟩ := at_L2 HR0_1.out a1 p454 q454; cases e454; replace hx454_0 := (HB.out.cell (World.block_lt_of_cell? w _ hx454_0)).trans hx454_0; have HR454_0 := am hi454_0; have HC454_0 := am hl454_0; clear hi454_0 hl454_0; replace p454 := eq_true p454; replace q454 := eq_true q454; have p455 : 0 ≤ (a1 : Int) := dT; have q455 : a1 < ((rd_L2 l0_1 a1).length : Int) := dT; obtain ⟨ad455, e455, hx455_0⟩ := Kd.at_int HR454_0.out a1 p455 q455; cases e455; replace hx455_0 := (HB.out.cell (World.block_lt_of_cell? w _ hx455_0)).trans hx455_0; replace p455 := eq_true p455; replace q455 := eq_true q455)))
 go_ret
 exact ⟨eW, bB⟩
end Go.Proofs.Ytkkjnmnjbmfpaaa.PFnStatesStep
