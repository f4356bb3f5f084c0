-- written by a program of this session (the kit's print with turns of the session's own)
import Derived.Test.YtkkjnmnjbmfpaaaPFnStatesStepx0
import Derived.Test.YtkkjnmnjbmfpaaaHp
import Derived.Test.YtkkjnmnjbmfpaaaPFnStatesStepx1
import Derived.Test.YtkkjnmnjbmfpaaaPFnStatesStepx2
import Derived.Test.YtkkjnmnjbmfpaaaPFnStatesStepx4
import Derived.Test.YtkkjnmnjbmfpaaaPFnStatesStepx5
import Derived.Test.YtkkjnmnjbmfpaaaPFnStatesStepx6
import Derived.Test.YtkkjnmnjbmfpaaaPFnStatesStepx12
namespace Go.Proofs.Ytkkjnmnjbmfpaaa.PFnStatesStep
open Go.RowKit Go.Proofs.YtkkjnmnjbmfpaaaW.PrintWords Go.Proofs.YtkkjnmnjbmfpaaaW.PrintLast Go.Proofs.YtkkjnmnjbmfpaaaW.PrintMore
attribute [local go_sem] Instr.field asAgg part max2_int min2_int max_two min_two max_three min_three max_four min_four
set_option linter.unusedVariables false
set_option linter.unusedSimpArgs false
def spec_DrawCountWays.f (k : Nat) (l0 : List Int) : Option (Int × (List (List Int)) × Int × Int × Int) := (spec_l1Cur_stated.f k l0 0 0).bind fun bt629 => ((spec_l1Cur_pick.f l0 bt629.2.2.2.2.1 bt629.2.2.2.2.2 10).bind fun bt638 => ((spec_l1Cur_pick.f l0 bt638.2.1 bt638.2.2 9).bind fun bt641 => (some (bt629.1, bt629.2.1, bt629.2.2.1, bt629.2.2.2.1, wrap64 (bt638.1 - (wrap64 (Int.tdiv bt641.1 8)))))))
def spec_DrawCountWays.T3 : Bool × List (List Nat × List Nat) := (true, [([], []), ([], []), ([], []), ([], []), ([3], [3]), ([], []), ([5, 4], [5]), ([6], [6]), ([4, 7], [4, 7]), ([0, 6, 0], [0]), ([1, 9, 0, 1, 9], [1]), ([2, 10, 0, 1, 2, 9, 10], [2]), ([8, 11, 0, 1, 2, 3, 4, 5, 6, 7, 8, 9, 10, 11], [8])])
def spec_DrawCountWays.B3 : List Nat := [0, 0, 0, 0, 8, 0, 56, 120, 248, 121, 635, 1663, 4095]
theorem spec_DrawCountWays.tab3 : rtab .any (opsOf Try.f31 3) = spec_DrawCountWays.T3 := by kernel_rfl
theorem spec_DrawCountWays.bits3 : waitsOk spec_DrawCountWays.T3.2 spec_DrawCountWays.B3 = true := by kernel_rfl
set_option maxHeartbeats 8000000 in
set_option maxRecDepth 100000 in
theorem spec_DrawCountWays.calls (k : Nat) (A0 : Option Addr) (c0 : Nat) (l0 : List Int) (r1 : Int) (r2 : List (List Int)) (r3 : Int) (r4 : Int) (r5 : Int) (w : World) (hr0 : Kd.C (Kd.int .u8) w A0 l0.length l0) (hc0 : l0.length ≤ c0) (h : spec_DrawCountWays.f k l0 = some (r1, r2, r3, r4, r5)) :
 Calls Try.prog 31 #[.slice A0 l0.length c0] w fun e w' => ∃ v1_ : Value, e = .returned (.tuple #[.agg #[.int .i64 r1, v1_], .int .i64 r3, .int .i64 r4, .int .i64 r5]) ∧ Kd.S (Kd.slice 3 (Kd.int .i64)) 29 w' w.heap.size (fun _ => True) v1_ r2 ∧ Below w.heap.size w w' := by
 have hu26 := Try.underlying26
 have hu58 := Try.underlying58
 have HR0 := am hr0
 have HC0 := am hc0
 clear hr0 hc0
 have HB := am (Below.refl w.heap.size w)
 have H := h
 clear h
 unfold spec_DrawCountWays.f at H
 replace H := bnd H
 obtain ⟨⟨t629, t630, t633, t634, t635, t636⟩, A2, H⟩ := H
 (try dsimp only at H)
 replace H := bnd H
 obtain ⟨⟨t638, t639, t640⟩, A3, H⟩ := H
 (try dsimp only at H)
 replace H := bnd H
 obtain ⟨⟨t641, t642, t643⟩, A4, H⟩ := H
 (try dsimp only at H)
 simp only [Option.some.injEq, Prod.mk.injEq] at H
 obtain ⟨rfl, rfl, rfl, rfl, rfl⟩ := H
 go_enter Try.func31, Try.ntmps31
 try go_wp2_with (first | ((with_reducible refine gate_dst (N := 2) rfl ?_); refine bE 2 #[.int .i64 0, .slice none 0 0] 26 ?_; intro gb627 hg w5 hbox hb; have BK627 := am (hbox); have GW627 := gW hg; have GE627 := gW hg; replace HB := sB hb; clear hb hbox hg) | ((with_reducible refine gate_dst (N := 12) rfl ?_); refine bE 12 #[.slice A0 l0.length c0, .int .i64 0, .int .u64 0] 58 ?_; intro gb628 hg w6 hbox hb; have NB627_628 := nK BK627 hg; have NB628_627 := mK BK627 hg; replace BK627 := kb BK627 hb; have HI628 := am ((show IsS58 w w6 gb628 l0 0 0 from ⟨_, _, hbox, (by rw [hg]; exact (below_size bB) : w.heap.size ≤ gb628), HR0.out⟩)); replace HB := sB hb; clear hb hbox hg) | ((with_reducible refine gate_callee (f := 34) rfl ?_); refine gL 15 Try.func34 #[.pointer (some ⟨gb628, 0, none⟩)] ?_; (with_reducible refine (spec_l1Cur_stated.calls k gb628 l0 0 0 t629 t630 t633 t634 t635 t636 w _ ?side1 ?side2 A2.out).mono ?_); (case side1 => exact iB HI628); (case side2 => exact bB); rintro e w7 ⟨v631, rfl, ho0, hi, hb, hk⟩; refine ⟨_, rfl, ?_⟩; replace BK627 := kh BK627 hk NB627_628; have HO632 := am (Kd.S_lower ho0 (below_size bB)); replace HB := am (hb); replace HI628 := am (hi)) | ((with_reducible refine gate_dst (N := 7) rfl ?_); refine bE 7 #[.int .i64 0, .slice none 0 0] 26 ?_; intro gb637 hg w8 hbox hb; replace HO632 := lS HO632 hb; have BK637 := am (hbox); have GW637 := gW hg; have GE637 := gW hg; replace HB := sB hb; have NB627_637 := nK BK627 hg; have NB637_627 := mK BK627 hg; replace BK627 := kb BK627 hb; have NB628_637 := nI gb628 HI628 hg; have NB637_628 := mI gb628 HI628 hg; replace HI628 := am (IsS58.below (iB HI628) hb); clear hb hbox hg; have hnb9 := NB637_627.out; have hnc9 := NB627_637.out; have hnb10 := NB637_628.out; have hnc10 := NB628_637.out; obtain ⟨hcz11_0, hcz11_1, hfz11_0, hfz11_1⟩ := cZ BK637; obtain ⟨Ao12, co12, eo12⟩ := Kd.S_slice HO632.out; subst eo12))
 have n0_ : Aside0 (Kd.S (Kd.slice 3 (Kd.int .i64)) 29 ((w8.setCell ⟨gb637, 0, none⟩ (.int .i64 t629)).setCell ⟨gb637, 1, none⟩ (.slice Ao12 t630.length co12)) w.heap.size (fun _ => True) (.slice Ao12 t630.length co12) t630) := ⟨by (with_reducible repeat (first | apply Kd.S_alloc | apply Kd.S_drewN | apply Kd.S_drew)); exact Kd.S_mono (Kd.S_far (p := ⟨gb637, 1, none⟩) (Kd.S_far (p := ⟨gb637, 0, none⟩) (Kd.S_types HO632.out BK637.out (by decide)) (fun _ hk => hk.2) (.int .i64 t629)) (fun _ hk => hk.2) (.slice Ao12 t630.length co12)) (fun _ hk => trivial)⟩
 have n1_ : Aside0 (((w8.setCell ⟨gb637, 0, none⟩ (.int .i64 t629)).setCell ⟨gb637, 1, none⟩ (.slice Ao12 t630.length co12)).heap[gb627]? = some (.cells #[.int .i64 0, .slice none 0 0] 26 (0, 0))) := ⟨by (with_reducible repeat (first | refine blk_drewN ?_ _ | refine blk_drew ?_ | refine blk_alloc ?_ _)); refine blk_far ?_ NB627_637.out _; (with_reducible repeat (first | refine blk_drewN ?_ _ | refine blk_drew ?_ | refine blk_alloc ?_ _)); refine blk_far ?_ NB627_637.out _; (with_reducible repeat (first | refine blk_drewN ?_ _ | refine blk_drew ?_ | refine blk_alloc ?_ _)); exact BK627.out⟩
 have n2_ : Aside0 (((w8.setCell ⟨gb637, 0, none⟩ (.int .i64 t629)).setCell ⟨gb637, 1, none⟩ (.slice Ao12 t630.length co12)).heap[gb637]? = some (.cells #[.int .i64 t629, .slice Ao12 t630.length co12] 26 (0, 0))) := ⟨by (with_reducible repeat (first | refine blk_drewN ?_ _ | refine blk_drew ?_ | refine blk_alloc ?_ _)); refine blk_put (cs := #[.int .i64 t629, .slice none 0 0]) ?_ 1 _ rfl; (with_reducible repeat (first | refine blk_drewN ?_ _ | refine blk_drew ?_ | refine blk_alloc ?_ _)); refine blk_put (cs := #[.int .i64 0, .slice none 0 0]) ?_ 0 _ rfl; (with_reducible repeat (first | refine blk_drewN ?_ _ | refine blk_drew ?_ | refine blk_alloc ?_ _)); exact BK637.out⟩
 have n3_ : Aside0 (IsS58 w ((w8.setCell ⟨gb637, 0, none⟩ (.int .i64 t629)).setCell ⟨gb637, 1, none⟩ (.slice Ao12 t630.length co12)) gb628 l0 t635 t636) := ⟨iB HI628⟩
 have n4_ : Aside0 (Below w.heap.size w ((w8.setCell ⟨gb637, 0, none⟩ (.int .i64 t629)).setCell ⟨gb637, 1, none⟩ (.slice Ao12 t630.length co12))) := ⟨bB⟩
 (try clear HO632)
 (try clear BK627)
 (try clear BK637)
 (try clear HI628)
 (try clear HB)
 generalize ((w8.setCell ⟨gb637, 0, none⟩ (.int .i64 t629)).setCell ⟨gb637, 1, none⟩ (.slice Ao12 t630.length co12)) = w13 at n0_ n1_ n2_ n3_ n4_ ⊢
 have HO632 := n0_
 have BK627 := n1_
 have BK637 := n2_
 have HI628 := n3_
 have HB := n4_
 clear n0_ n1_ n2_ n3_ n4_
 replace HO632 := am (Kd.S_drew HO632.out)
 replace BK627 := am (blk_drew BK627.out)
 replace BK637 := am (blk_drew BK637.out)
 replace HI628 := am (IsS58.drew HI628.out)
 replace HB := am (below_drew1 HB.out)
 refine start_ (n := 13) (S := fun w' => w'.cell? ⟨gb637, 0, none⟩ = some (.int .i64 t629) ∧ w'.cell? ⟨gb637, 1, none⟩ = some (.slice Ao12 t630.length co12)) (ds := []) (bs [0, 13]) (by kernel_rfl) rfl rfl ⟨(blk_cell BK637.out 0).trans rfl, (blk_cell BK637.out 1).trans rfl⟩ (fun hHeld => ?_); refine with_tabW spec_DrawCountWays.tab3 spec_DrawCountWays.bits3 (fun HT_ HW_ => ?_)
 generalize w13.drew = w14 at HO632 BK627 BK637 HI628 HB hHeld ⊢
 refine pS 1 (some 20) (bs [0, 1, 1, 11]) ?_
 refine pS 2 (some 21) (bs [0, 1, 2, 10]) ?_
 refine pS 3 (some 22) (bs [0, 1, 3, 9]) ?_
 refine pS 5 (some 24) (bs [0, 1, 3, 1, 1, 7]) ?_
 refine tS 0 (some 19) (bs [4, 1, 1, 7]) ?_
 refine oS 4 (some 23) (bs [6, 7]) (fun K hK => ?_)
 refine goes_ Try.func35 (by kernel_rfl) rfl #[.pointer (some ⟨gb628, 0, none⟩), .int .i64 10] (by rfl) rfl rfl aM ?_
 with_reducible refine (spec_l1Cur_pick.calls gb628 l0 t635 t636 10 t638 t639 t640 w _ ?side1 ?side2 A3.out).mono ?_
 (case side1 => exact iB HI628)
 (case side2 => exact bB)
 rintro e w15 ⟨rfl, hi, hb, hk⟩
 refine ⟨_, rfl, ?_⟩
 replace BK627 := kh BK627 hk NB627_628
 replace HO632 := am (Kd.S_mono (Kd.S_keep (IsS58.apartS (show IsS58 w _ gb628 l0 t635 t636 from iB HI628) (rP HO632) (by decide)) hk (fun _ h => h.2)) (fun _ h => h.1))
 replace BK637 := kh BK637 hk NB637_628
 replace HB := am (hb)
 replace HI628 := am (hi)
 (try clear hb)
 (try clear hb2)
 (try clear hk)
 (try clear hi)
 refine hK.out _ _ ⟨(blk_cell BK637.out 0).trans rfl, (blk_cell BK637.out 1).trans rfl⟩ (fun hHeld => ?_)
 clear hK K
 refine nS 23 ?_
 refine oS 6 (some 25) (bs [7, 6]) (fun K hK => ?_)
 refine goes_ Try.func35 (by kernel_rfl) rfl #[.pointer (some ⟨gb628, 0, none⟩), .int .i64 9] (by rfl) rfl rfl aM ?_
 with_reducible refine (spec_l1Cur_pick.calls gb628 l0 t639 t640 9 t641 t642 t643 w _ ?side1 ?side2 A4.out).mono ?_
 (case side1 => exact iB HI628)
 (case side2 => exact bB)
 rintro e w16 ⟨rfl, hi, hb, hk⟩
 refine ⟨_, rfl, ?_⟩
 replace BK627 := kh BK627 hk NB627_628
 replace HO632 := am (Kd.S_mono (Kd.S_keep (IsS58.apartS (show IsS58 w _ gb628 l0 t639 t640 from iB HI628) (rP HO632) (by decide)) hk (fun _ h => h.2)) (fun _ h => h.1))
 replace BK637 := kh BK637 hk NB637_628
 replace HB := am (hb)
 replace HI628 := am (hi)
 (try clear hb)
 (try clear hb2)
 (try clear hk)
 (try clear hi)
 refine hK.out _ _ ⟨(blk_cell BK637.out 0).trans rfl, (blk_cell BK637.out 1).trans rfl⟩ (fun hHeld => ?_)
 clear hK K
 refine nS 25 ?_
 refine pS 7 (some 26) (bs [8, 5]) ?_
 refine pS 8 (some 27) (bs [9, 4]) ?_
 refine oS 9 (none) (bs [10, 3]) (fun K hK => ?_)
 have hs17 : w16.cell? ⟨gb627, 0, none⟩ = some (.int .i64 0) := (blk_cell BK627.out 0).trans rfl
 have hfs17 := blk_frozen BK627.out 0
 have hns17_1 := NB637_627.out
 have hms17_1 := NB627_637.out
 have hs18 : w16.cell? ⟨gb627, 1, none⟩ = some (.slice none 0 0) := (blk_cell BK627.out 1).trans rfl
 have hfs18 := blk_frozen BK627.out 1
 have hns18_1 := NB637_627.out
 have hms18_1 := NB627_637.out
 refine skip_ (w1 := ?_) (by rfl) rfl ?_ ?_
 rotate_left
 · go_simp
   rfl
 refine hK.out _ _ ⟨((cell_far (p := ⟨gb627, _, none⟩) NB637_627.out _).trans (((cell_far (p := ⟨gb627, _, none⟩) NB637_627.out _).trans (hHeld.1)))), ((cell_far (p := ⟨gb627, _, none⟩) NB637_627.out _).trans (((cell_far (p := ⟨gb627, _, none⟩) NB637_627.out _).trans (hHeld.2))))⟩ (fun hHeld => ?_)
 clear hK K
 refine pS 10 (some 3) (bs [11, 2]) ?_
 refine pS 11 (some 4) (bs [12, 1]) ?_
 refine pS 12 (some 5) (bs [13]) ?_
 refine done_ (done_of HT_.out (by kernel_rfl)) ?_
 try go_wp2
 refine bodyPost_ret (results_list (rs := [.cell 2 26, .tmp 3, .tmp 4, .tmp 5]) rfl (by simp) (.cell gb627 26 #[.int .i64 t629, .slice Ao12 t630.length co12] (0, 0) _ rfl (by (with_reducible repeat (first | refine blk_drewN ?_ _ | refine blk_drew ?_ | refine blk_alloc ?_ _)); refine blk_put (cs := #[.int .i64 t629, .slice none 0 0]) ?_ 1 _ rfl; (with_reducible repeat (first | refine blk_drewN ?_ _ | refine blk_drew ?_ | refine blk_alloc ?_ _)); refine blk_put (cs := #[.int .i64 0, .slice none 0 0]) ?_ 0 _ rfl; (with_reducible repeat (first | refine blk_drewN ?_ _ | refine blk_drew ?_ | refine blk_alloc ?_ _)); exact BK627.out) Try.underlying26 rfl (by kernel_rfl) (.tmp (.tmp (.tmp .nil))))) rfl ?_
 exact ⟨_, eW, by (with_reducible repeat (first | apply Kd.S_alloc | apply Kd.S_drewN | apply Kd.S_drew)); exact Kd.S_mono (Kd.S_far (p := ⟨gb627, 1, none⟩) (Kd.S_far (p := ⟨gb627, 0, none⟩) (Kd.S_types HO632.out BK627.out (by decide)) (fun _ hk => hk.2) (.int .i64 t629)) (fun _ hk => hk.2) (.slice Ao12 t630.length co12)) (fun _ hk => trivial), bB⟩
def spec_CountWays.f (k : Nat) (a0_0 : Int) (l0_1 : List (List Int)) (a1 : Int) (a2 : Int) (a3 : Int) : Option (Int × Bool) := (spec_saAsked.f k a0_0 l0_1 a1 a2).bind fun t645 => (if t645 = true then ((spec_l1In.f a3 0 8).bind fun t646 => (if t646 = true then ((spec_saAfter.f k a0_0 l0_1 a1 a3 true).bind fun t647 => (if 0 ≤ a2 then (if a2 < (t647.length : Int) then (some (rd t647 a2, true)) else (none)) else (none))) else (some (0, false)))) else (some (0, false)))
set_option maxHeartbeats 8000000 in
set_option maxRecDepth 100000 in
theorem spec_CountWays.calls (k : Nat) (a0_0 : Int) (A0_1 : Option Addr) (c0_1 : Nat) (l0_1 : List (List Int)) (a1 : Int) (a2 : Int) (a3 : Int) (r1 : Int) (r2 : Bool) (w : World) (hr0_1 : Kd.C (Kd.slice 3 (Kd.int .i64)) w A0_1 l0_1.length l0_1) (hc0_1 : l0_1.length ≤ c0_1) (h : spec_CountWays.f k a0_0 l0_1 a1 a2 a3 = some (r1, r2)) :
 Calls Try.prog 32 #[.agg #[.int .i64 a0_0, .slice A0_1 l0_1.length c0_1], .int .i64 a1, .int .i64 a2, .int .i64 a3] w fun e w' => e = .returned (.tuple #[.int .i64 r1, .bool r2]) ∧ Below w.heap.size w w' := by
 have hu26 := Try.underlying26
 have HR0_1 := am hr0_1
 have HC0_1 := am hc0_1
 clear hr0_1 hc0_1
 have HB := am (Below.refl w.heap.size w)
 have H := h
 clear h
 unfold spec_CountWays.f at H
 replace H := bnd H
 obtain ⟨t645, A5, H⟩ := H
 (try dsimp only at H)
 by_cases c6 : t645 = true
 · subst c6
   replace H := ifT H
   replace H := bnd H
   obtain ⟨t646, A7, H⟩ := H
   (try dsimp only at H)
   by_cases c8 : t646 = true
   · subst c8
     replace H := ifT H
     replace H := bnd H
     obtain ⟨t647, A9, H⟩ := H
     (try dsimp only at H)
     replace H := ifP H
     obtain ⟨c10, H⟩ := H
     have c10b0 := decide_eq_true c10
     clear c10
     replace H := ifP H
     obtain ⟨c11, H⟩ := H
     have c11b0 := decide_eq_true c11
     clear c11
     simp only [Option.some.injEq, Prod.mk.injEq] at H
     obtain ⟨rfl, rfl⟩ := H
     go_enter Try.func32, Try.ntmps32
     go_wp2_with (first | ((with_reducible refine gate_dst (N := 4) rfl ?_); refine bE 4 #[.int .i64 a0_0, .slice A0_1 l0_1.length c0_1] 26 ?_; intro gb644 hg w12 hbox hb; have BK644 := am (hbox); have GW644 := gW hg; have GE644 := gW hg; replace HB := sB hb; clear hb hbox hg; obtain ⟨hcz13_0, hcz13_1, hfz13_0, hfz13_1⟩ := cZ BK644) | ((with_reducible refine gate_callee (f := 40) rfl ?_); refine gL 13 Try.func40 #[.agg #[.int .i64 a0_0, .slice A0_1 l0_1.length c0_1], .int .i64 a1, .int .i64 a2] ?_; (with_reducible refine (spec_saAsked.calls k a0_0 _ _ l0_1 a1 a2 true _ ?side1 HC0_1.out A5.out).mono ?_); (case side1 => exact cH HR0_1); rintro e w14 ⟨rfl, hb⟩; refine ⟨_, rfl, ?_⟩; replace BK644 := kb BK644 hb; replace HB := sB hb) | (go_at_call 41; (with_reducible refine (spec_l1In.calls a3 0 8 true _ A7.out).mono ?_); rintro e w' ⟨rfl, ⟨nd, rfl⟩⟩; obtain ⟨hcz15_0, hcz15_1, hfz15_0, hfz15_1⟩ := cZ BK644) | ((with_reducible refine gate_callee (f := 42) rfl ?_); refine gL 23 Try.func42 #[.agg #[.int .i64 a0_0, .slice A0_1 l0_1.length c0_1], .int .i64 a1, .int .i64 a3, .bool true] ?_; (with_reducible refine (spec_saAfter.calls k a0_0 _ _ l0_1 a1 a3 true t647 _ ?side1 HC0_1.out A9.out).mono ?_); (case side1 => exact cB (Kd.C_below HR0_1.out bB)); rintro e w16 ⟨v648, rfl, ho0, hb⟩; refine ⟨_, rfl, ?_⟩; have HO649 := am (Kd.R_lower ho0 (below_size bB)); replace BK644 := kb BK644 hb; replace HB := sB hb; obtain ⟨Ao17, co17, eo17⟩ := Kd.R_slice HO649.out; subst eo17; have p650 : 0 ≤ (a2 : Int) := dT; have q650 : a2 < (t647.length : Int) := dT; obtain ⟨ad650, e650, hx650_0⟩ := Kd.at_int (Kd.R_reads' HO649.out).2.2 a2 p650 q650; cases e650; replace p650 := eq_true p650; replace q650 := eq_true q650))
     go_ret2
     exact ⟨eW, bB⟩
   · replace c8 := Bool.eq_false_iff.mpr c8
     subst c8
     replace H := ifF H
     simp only [Option.some.injEq, Prod.mk.injEq] at H
     obtain ⟨rfl, rfl⟩ := H
     go_enter Try.func32, Try.ntmps32
     go_wp2_with (first | ((with_reducible refine gate_dst (N := 4) rfl ?_); refine bE 4 #[.int .i64 a0_0, .slice A0_1 l0_1.length c0_1] 26 ?_; intro gb644 hg w18 hbox hb; have BK644 := am (hbox); have GW644 := gW hg; have GE644 := gW hg; replace HB := sB hb; clear hb hbox hg; obtain ⟨hcz19_0, hcz19_1, hfz19_0, hfz19_1⟩ := cZ BK644) | ((with_reducible refine gate_callee (f := 40) rfl ?_); refine gL 13 Try.func40 #[.agg #[.int .i64 a0_0, .slice A0_1 l0_1.length c0_1], .int .i64 a1, .int .i64 a2] ?_; (with_reducible refine (spec_saAsked.calls k a0_0 _ _ l0_1 a1 a2 true _ ?side1 HC0_1.out A5.out).mono ?_); (case side1 => exact cH HR0_1); rintro e w20 ⟨rfl, hb⟩; refine ⟨_, rfl, ?_⟩; replace BK644 := kb BK644 hb; replace HB := sB hb) | (go_at_call 41; (with_reducible refine (spec_l1In.calls a3 0 8 false _ A7.out).mono ?_); rintro e w' ⟨rfl, ⟨nd, rfl⟩⟩))
     go_ret2
     exact ⟨eW, bB⟩
 · replace c6 := Bool.eq_false_iff.mpr c6
   subst c6
   replace H := ifF H
   simp only [Option.some.injEq, Prod.mk.injEq] at H
   obtain ⟨rfl, rfl⟩ := H
   go_enter Try.func32, Try.ntmps32
   go_wp2_with (first | ((with_reducible refine gate_dst (N := 4) rfl ?_); refine bE 4 #[.int .i64 a0_0, .slice A0_1 l0_1.length c0_1] 26 ?_; intro gb644 hg w21 hbox hb; have BK644 := am (hbox); have GW644 := gW hg; have GE644 := gW hg; replace HB := sB hb; clear hb hbox hg; obtain ⟨hcz22_0, hcz22_1, hfz22_0, hfz22_1⟩ := cZ BK644) | ((with_reducible refine gate_callee (f := 40) rfl ?_); refine gL 13 Try.func40 #[.agg #[.int .i64 a0_0, .slice A0_1 l0_1.length c0_1], .int .i64 a1, .int .i64 a2] ?_; (with_reducible refine (spec_saAsked.calls k a0_0 _ _ l0_1 a1 a2 false _ ?side1 HC0_1.out A5.out).mono ?_); (case side1 => exact cH HR0_1); rintro e w23 ⟨rfl, hb⟩; refine ⟨_, rfl, ?_⟩; replace BK644 := kb BK644 hb; replace HB := sB hb))
   go_ret2
   exact ⟨eW, bB⟩
def laws_uStates.f (k : Nat) (a0_0 : Int) (l0_1 : List (List Int)) (a1_0 : Int) (l1_1 : List (List Int)) : Option (Bool) := if a0_0 = a1_0 then ((laws_uRows.f k l0_1 l1_1).bind fun t653 => (some t653)) else (some false)
set_option maxHeartbeats 8000000 in
set_option maxRecDepth 100000 in
theorem laws_uStates.calls (k : Nat) (a0_0 : Int) (A0_1 : Option Addr) (c0_1 : Nat) (l0_1 : List (List Int)) (a1_0 : Int) (A1_1 : Option Addr) (c1_1 : Nat) (l1_1 : List (List Int)) (r : Bool) (w : World) (hr0_1 : Kd.C (Kd.slice 3 (Kd.int .i64)) w A0_1 l0_1.length l0_1) (hc0_1 : l0_1.length ≤ c0_1) (hr1_1 : Kd.C (Kd.slice 3 (Kd.int .i64)) w A1_1 l1_1.length l1_1) (hc1_1 : l1_1.length ≤ c1_1) (h : laws_uStates.f k a0_0 l0_1 a1_0 l1_1 = some r) :
 Calls Try.prog 33 #[.agg #[.int .i64 a0_0, .slice A0_1 l0_1.length c0_1], .agg #[.int .i64 a1_0, .slice A1_1 l1_1.length c1_1]] w fun e w' => e = .returned (.bool r) ∧ Below w.heap.size w w' := by
 have hu26 := Try.underlying26
 have HR0_1 := am hr0_1
 have HC0_1 := am hc0_1
 clear hr0_1 hc0_1
 have HR1_1 := am hr1_1
 have HC1_1 := am hc1_1
 clear hr1_1 hc1_1
 have HB := am (Below.refl w.heap.size w)
 have H := h
 clear h
 unfold laws_uStates.f at H
 by_cases c3 : a0_0 = a1_0
 · rw [if_pos c3] at H
   have c3b0 : (a0_0 == a1_0) = true := beq_iff_eq.mpr c3
   have c3b1 : (a0_0 != a1_0) = false := bne_eq_false_iff_eq.mpr c3
   clear c3
   replace H := bnd H
   obtain ⟨t653, A4, H⟩ := H
   (try dsimp only at H)
   obtain rfl := Option.some.inj H
   go_enter Try.func33, Try.ntmps33
   go_wp2_with (first | ((with_reducible refine gate_dst (N := 2) rfl ?_); refine bE 2 #[.int .i64 a0_0, .slice A0_1 l0_1.length c0_1] 26 ?_; intro gb651 hg w5 hbox hb; have BK651 := am (hbox); have GW651 := gW hg; have GE651 := gW hg; replace HB := sB hb; clear hb hbox hg) | ((with_reducible refine gate_dst (N := 3) rfl ?_); refine bE 3 #[.int .i64 a1_0, .slice A1_1 l1_1.length c1_1] 26 ?_; intro gb652 hg w6 hbox hb; have BK652 := am (hbox); have GW652 := gW hg; have GE652 := gW hg; replace HB := sB hb; have NB651_652 := nK BK651 hg; have NB652_651 := mK BK651 hg; replace BK651 := kb BK651 hb; clear hb hbox hg; have hnb7 := NB651_652.out; have hnc7 := NB652_651.out; obtain ⟨hcz8_0, hcz8_1, hfz8_0, hfz8_1⟩ := cZ BK651; obtain ⟨hcz9_0, hcz9_1, hfz9_0, hfz9_1⟩ := cZ BK652) | (go_at_call 21; (with_reducible refine (laws_uRows.calls k _ _ l0_1 _ _ l1_1 t653 _ ?side1 HC0_1.out ?side3 HC1_1.out A4.out).mono ?_); (case side1 => exact cH HR0_1); (case side3 => exact cH HR1_1); rintro e w' ⟨rfl, ⟨nd, rfl⟩⟩))
   go_ret
   exact ⟨eW, bB⟩
 · rw [if_neg c3] at H
   have c3b0 : (a0_0 == a1_0) = false := beq_eq_false_iff_ne.mpr c3
   have c3b1 : (a0_0 != a1_0) = true := bne_iff_ne.mpr c3
   obtain rfl := Option.some.inj H
   go_enter Try.func33, Try.ntmps33
   go_wp2_with (first | ((with_reducible refine gate_dst (N := 2) rfl ?_); refine bE 2 #[.int .i64 a0_0, .slice A0_1 l0_1.length c0_1] 26 ?_; intro gb651 hg w10 hbox hb; have BK651 := am (hbox); have GW651 := gW hg; have GE651 := gW hg; replace HB := sB hb; clear hb hbox hg) | ((with_reducible refine gate_dst (N := 3) rfl ?_); refine bE 3 #[.int .i64 a1_0, .slice A1_1 l1_1.length c1_1] 26 ?_; intro gb652 hg w11 hbox hb; have BK652 := am (hbox); have GW652 := gW hg; have GE652 := gW hg; replace HB := sB hb; have NB651_652 := nK BK651 hg; have NB652_651 := mK BK651 hg; replace BK651 := kb BK651 hb; clear hb hbox hg; have hnb12 := NB651_652.out; have hnc12 := NB652_651.out; obtain ⟨hcz13_0, hcz13_1, hfz13_0, hfz13_1⟩ := cZ BK651; obtain ⟨hcz14_0, hcz14_1, hfz14_0, hfz14_1⟩ := cZ BK652))
   go_ret
   exact ⟨eW, bB⟩
end Go.Proofs.Ytkkjnmnjbmfpaaa.PFnStatesStep
