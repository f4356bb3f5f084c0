-- written by a program of this session (the kit's print with turns of the session's own)
import Derived.Test.YtkkjnmnjbmfpaaaPFnStatesStepx0
import Derived.Test.YtkkjnmnjbmfpaaaHp
import Derived.Test.YtkkjnmnjbmfpaaaPFnStatesStepx1
namespace Go.Proofs.Ytkkjnmnjbmfpaaa.PFnStatesStep
open Go.RowKit Go.Proofs.YtkkjnmnjbmfpaaaW.PrintWords Go.Proofs.YtkkjnmnjbmfpaaaW.PrintLast Go.Proofs.YtkkjnmnjbmfpaaaW.PrintMore
attribute [local go_sem] Instr.field asAgg part max2_int min2_int max_two min_two max_three min_three max_four min_four
set_option linter.unusedVariables false
set_option linter.unusedSimpArgs false
def spec_l1Cur_stated.f (k : Nat) (s0_0 : List Int) (s0_1 : Int) (s0_2 : Int) : Option (Int × (List (List Int)) × Int × Int × Int × Int) := (spec_l1Cur_states.f k s0_0 s0_1 s0_2).bind fun bt197 => ((spec_l1Most.f 1 (bt197.2.1.length : Int)).bind fun t204 => ((spec_l1Cur_pick.f s0_0 bt197.2.2.1 bt197.2.2.2 t204).bind fun bt205 => ((spec_l1Cur_pick.f s0_0 bt205.2.1 bt205.2.2 16).bind fun bt208 => ((spec_l1Cur_pick.f s0_0 bt208.2.1 bt208.2.2 t204).bind fun bt211 => ((spec_l1Cur_pick.f s0_0 bt211.2.1 bt211.2.2 16).bind fun bt214 => (some (bt197.1, bt197.2.1, wrap64 (bt205.1 - (wrap64 (Int.tdiv bt208.1 15))), wrap64 (bt211.1 + (wrap64 (Int.tdiv bt214.1 15))), bt214.2.1, bt214.2.2)))))))
def spec_l1Cur_stated.T3 : Bool × List (List Nat × List Nat) := (true, [([], []), ([], []), ([], []), ([1, 2], [1, 2]), ([], []), ([4, 3], [4]), ([5], [5]), ([3, 6], [3, 6]), ([], []), ([], []), ([8, 9, 5], [8, 9]), ([], []), ([11, 10], [11]), ([12], [12]), ([10, 13], [10, 13]), ([0, 12, 0], [0]), ([7, 15, 0, 1, 2, 3, 4, 5, 6, 7, 15], [7]), ([14, 16, 0, 1, 2, 3, 4, 5, 6, 7, 8, 9, 10, 11, 12, 13, 14, 15, 16], [14])])
def spec_l1Cur_stated.B3 : List Nat := [0, 0, 0, 6, 0, 30, 62, 126, 0, 0, 830, 0, 3902, 7998, 16190, 7999, 40959, 131071]
theorem spec_l1Cur_stated.tab3 : rtab .any (opsOf Try.f34 3) = spec_l1Cur_stated.T3 := by kernel_rfl
theorem spec_l1Cur_stated.bits3 : waitsOk spec_l1Cur_stated.T3.2 spec_l1Cur_stated.B3 = true := by kernel_rfl
set_option maxHeartbeats 8000000 in
set_option maxRecDepth 100000 in
theorem spec_l1Cur_stated.calls (k : Nat) (g : Nat) (s0_0 : List Int) (s0_1 : Int) (s0_2 : Int) (r1 : Int) (r2 : List (List Int)) (r3 : Int) (r4 : Int) (r5 : Int) (r6 : Int) (w0 w : World) (hI : IsS58 w0 w g s0_0 s0_1 s0_2) (hB : Below w0.heap.size w0 w) (h : spec_l1Cur_stated.f k s0_0 s0_1 s0_2 = some (r1, r2, r3, r4, r5, r6)) :
 Calls Try.prog 34 #[.pointer (some ⟨g, 0, none⟩)] w fun e w' => ∃ v1_ : Value, e = .returned (.tuple #[.agg #[.int .i64 r1, v1_], .int .i64 r3, .int .i64 r4]) ∧ Kd.S (Kd.slice 3 (Kd.int .i64)) 29 w' w.heap.size (fun _ => True) v1_ r2 ∧ IsS58 w0 w' g s0_0 r5 r6 ∧ Below w0.heap.size w0 w' ∧ KeepBut w w' g none := by
 have hu26 := Try.underlying26
 have HI0 := am hI
 have HK := am (KeepBut.refl w g none)
 have HL := am hB.size
 clear hI
 have HW0 := am hB.size
 have HB := am hB
 clear hB
 have H := h
 clear h
 unfold spec_l1Cur_stated.f at H
 replace H := bnd H
 obtain ⟨⟨t197, t198, t201, t202⟩, A2, H⟩ := H
 (try dsimp only at H)
 replace H := bnd H
 obtain ⟨t204, A3, H⟩ := H
 (try dsimp only at H)
 replace H := bnd H
 obtain ⟨⟨t205, t206, t207⟩, A4, H⟩ := H
 (try dsimp only at H)
 replace H := bnd H
 obtain ⟨⟨t208, t209, t210⟩, A5, H⟩ := H
 (try dsimp only at H)
 replace H := bnd H
 obtain ⟨⟨t211, t212, t213⟩, A6, H⟩ := H
 (try dsimp only at H)
 replace H := bnd H
 obtain ⟨⟨t214, t215, t216⟩, A7, H⟩ := H
 (try dsimp only at H)
 simp only [Option.some.injEq, Prod.mk.injEq] at H
 obtain ⟨rfl, rfl, rfl, rfl, rfl, rfl⟩ := H
 go_enter Try.func34, Try.ntmps34
 try go_wp2_with (first | ((with_reducible refine gate_dst (N := 2) rfl ?_); refine bE 2 #[.int .i64 0, .slice none 0 0] 26 ?_; intro gb196 hg w8 hbox hb; replace HB := sB hb; have BK196 := am (hbox); have GW196 := gK HK hg; have GE196 := gE HW0 GW196; replace HK := am (KeepBut.trans (kB HK) (KeepBut.of_below hb g none) (.inl rfl)); have NB0_196 := nI g HI0 hg; have NB196_0 := mI g HI0 hg; replace HI0 := am (IsS58.below (iB HI0) hb); clear hb hbox hg) | ((with_reducible refine gate_callee (f := 55) rfl ?_); refine gL 8 Try.func55 #[.pointer (some ⟨g, 0, none⟩)] ?_; (with_reducible refine (spec_l1Cur_states.calls k g s0_0 s0_1 s0_2 t197 t198 t201 t202 w0 _ ?side1 ?side2 A2.out).mono ?_); (case side1 => exact iB HI0); (case side2 => exact bB); rintro e w9 ⟨v199, rfl, ho0, hi, hb, hk⟩; refine ⟨_, rfl, ?_⟩; replace BK196 := kh BK196 hk NB196_0; have HO200 := am (Kd.S_lower ho0 (keep_size (w := w) (g := g) (row := none) (kB HK))); replace HK := am (KeepBut.trans (kB HK) hk (.inl rfl)); replace HB := am (hb); replace HI0 := am (hi)) | ((with_reducible refine gate_dst (N := 5) rfl ?_); refine bE 5 #[.int .i64 0, .slice none 0 0] 26 ?_; intro gb203 hg w10 hbox hb; replace HO200 := lS HO200 hb; replace HB := sB hb; have BK203 := am (hbox); have GW203 := gK HK hg; have GE203 := gE HW0 GW203; replace HK := am (KeepBut.trans (kB HK) (KeepBut.of_below hb g none) (.inl rfl)); have NB196_203 := nK BK196 hg; have NB203_196 := mK BK196 hg; replace BK196 := kb BK196 hb; have NB0_203 := nI g HI0 hg; have NB203_0 := mI g HI0 hg; replace HI0 := am (IsS58.below (iB HI0) hb); clear hb hbox hg; have hnb11 := NB203_196.out; have hnc11 := NB196_203.out; have hnb12 := NB203_0.out; have hnc12 := NB0_203.out; obtain ⟨hcz13_0, hcz13_1, hfz13_0, hfz13_1⟩ := cZ BK203; obtain ⟨Ao14, co14, eo14⟩ := Kd.S_slice HO200.out; subst eo14) | ((with_reducible refine gate_callee (f := 62) rfl ?_); refine gL 12 Try.func62 #[.int .i64 1, .int .i64 (t198.length : Int)] ?_; (with_reducible refine (spec_l1Most.calls 1 (t198.length : Int) t204 _ A3.out).mono ?_); rintro e w' ⟨rfl, ⟨nd, rfl⟩⟩; refine ⟨_, rfl, ?_⟩))
 have n0_ : Aside0 (Kd.S (Kd.slice 3 (Kd.int .i64)) 29 ((w10.setCell ⟨gb203, 0, none⟩ (.int .i64 t197)).setCell ⟨gb203, 1, none⟩ (.slice Ao14 t198.length co14)) w.heap.size (fun _ => True) (.slice Ao14 t198.length co14) t198) := ⟨by (with_reducible repeat (first | apply Kd.S_alloc | apply Kd.S_drewN | apply Kd.S_drew)); exact Kd.S_mono (Kd.S_far (p := ⟨gb203, 1, none⟩) (Kd.S_far (p := ⟨gb203, 0, none⟩) (Kd.S_types HO200.out BK203.out (by decide)) (fun _ hk => hk.2) (.int .i64 t197)) (fun _ hk => hk.2) (.slice Ao14 t198.length co14)) (fun _ hk => trivial)⟩
 have n1_ : Aside0 (((w10.setCell ⟨gb203, 0, none⟩ (.int .i64 t197)).setCell ⟨gb203, 1, none⟩ (.slice Ao14 t198.length co14)).heap[gb196]? = some (.cells #[.int .i64 0, .slice none 0 0] 26 (0, 0))) := ⟨by (with_reducible repeat (first | refine blk_drewN ?_ _ | refine blk_drew ?_ | refine blk_alloc ?_ _)); refine blk_far ?_ NB196_203.out _; (with_reducible repeat (first | refine blk_drewN ?_ _ | refine blk_drew ?_ | refine blk_alloc ?_ _)); refine blk_far ?_ NB196_203.out _; (with_reducible repeat (first | refine blk_drewN ?_ _ | refine blk_drew ?_ | refine blk_alloc ?_ _)); exact BK196.out⟩
 have n2_ : Aside0 (((w10.setCell ⟨gb203, 0, none⟩ (.int .i64 t197)).setCell ⟨gb203, 1, none⟩ (.slice Ao14 t198.length co14)).heap[gb203]? = some (.cells #[.int .i64 t197, .slice Ao14 t198.length co14] 26 (0, 0))) := ⟨by (with_reducible repeat (first | refine blk_drewN ?_ _ | refine blk_drew ?_ | refine blk_alloc ?_ _)); refine blk_put (cs := #[.int .i64 t197, .slice none 0 0]) ?_ 1 _ rfl; (with_reducible repeat (first | refine blk_drewN ?_ _ | refine blk_drew ?_ | refine blk_alloc ?_ _)); refine blk_put (cs := #[.int .i64 0, .slice none 0 0]) ?_ 0 _ rfl; (with_reducible repeat (first | refine blk_drewN ?_ _ | refine blk_drew ?_ | refine blk_alloc ?_ _)); exact BK203.out⟩
 have n3_ : Aside0 (IsS58 w0 ((w10.setCell ⟨gb203, 0, none⟩ (.int .i64 t197)).setCell ⟨gb203, 1, none⟩ (.slice Ao14 t198.length co14)) g s0_0 t201 t202) := ⟨iB HI0⟩
 have n4_ : Aside0 (KeepBut w ((w10.setCell ⟨gb203, 0, none⟩ (.int .i64 t197)).setCell ⟨gb203, 1, none⟩ (.slice Ao14 t198.length co14)) g none) := ⟨kB HK⟩
 have n5_ : Aside0 (Below w0.heap.size w0 ((w10.setCell ⟨gb203, 0, none⟩ (.int .i64 t197)).setCell ⟨gb203, 1, none⟩ (.slice Ao14 t198.length co14))) := ⟨bB⟩
 (try clear HO200)
 (try clear BK196)
 (try clear BK203)
 (try clear HI0)
 (try clear HK)
 (try clear HB)
 generalize ((w10.setCell ⟨gb203, 0, none⟩ (.int .i64 t197)).setCell ⟨gb203, 1, none⟩ (.slice Ao14 t198.length co14)) = w15 at n0_ n1_ n2_ n3_ n4_ n5_ ⊢
 have HO200 := n0_
 have BK196 := n1_
 have BK203 := n2_
 have HI0 := n3_
 have HK := n4_
 have HB := n5_
 clear n0_ n1_ n2_ n3_ n4_ n5_
 (try (rw [drewN_self w15]; generalize hq_ : World.drewN w15 _ = w15; replace HO200 : Aside0 (Kd.S (Kd.slice 3 (Kd.int .i64)) 29 w15 w.heap.size (fun _ => True) (.slice Ao14 t198.length co14) t198) := ⟨by rw [← hq_]; exact (rP HO200)⟩; replace BK196 : Aside0 (w15.heap[gb196]? = some (.cells #[.int .i64 0, .slice none 0 0] 26 (0, 0))) := ⟨by rw [← hq_]; exact (bP BK196)⟩; replace BK203 : Aside0 (w15.heap[gb203]? = some (.cells #[.int .i64 t197, .slice Ao14 t198.length co14] 26 (0, 0))) := ⟨by rw [← hq_]; exact (bP BK203)⟩; replace HI0 : Aside0 (IsS58 w0 w15 g s0_0 t201 t202) := ⟨by rw [← hq_]; exact (iB HI0)⟩; replace HK : Aside0 (KeepBut w w15 g none) := ⟨by rw [← hq_]; exact (kB HK)⟩; replace HB : Aside0 (Below w0.heap.size w0 w15) := ⟨by rw [← hq_]; exact bB⟩; clear hq_))
 replace HO200 := am (Kd.S_drew HO200.out)
 replace BK196 := am (blk_drew BK196.out)
 replace BK203 := am (blk_drew BK203.out)
 replace HI0 := am (IsS58.drew HI0.out)
 replace HK := am (keep_drew HK.out)
 replace HB := am (below_drew1 HB.out)
 refine start_ (n := 18) (S := fun w' => w'.cell? ⟨gb203, 0, none⟩ = some (.int .i64 t197) ∧ w'.cell? ⟨gb203, 1, none⟩ = some (.slice Ao14 t198.length co14)) (ds := []) (bs [0, 18]) (by kernel_rfl) rfl rfl ⟨(blk_cell BK203.out 0).trans rfl, (blk_cell BK203.out 1).trans rfl⟩ (fun hHeld => ?_); refine with_tabW spec_l1Cur_stated.tab3 spec_l1Cur_stated.bits3 (fun HT_ HW_ => ?_)
 generalize w15.drew = w16 at HO200 BK196 BK203 HI0 HK HB hHeld ⊢
 refine pS 1 (some 14) (bs [0, 1, 1, 16]) ?_
 refine pS 2 (some 15) (bs [0, 1, 2, 15]) ?_
 refine pS 4 (some 17) (bs [0, 1, 2, 1, 1, 13]) ?_
 refine pS 8 (some 21) (bs [0, 1, 2, 1, 1, 3, 1, 9]) ?_
 refine pS 9 (some 22) (bs [0, 1, 2, 1, 1, 3, 2, 8]) ?_
 refine pS 11 (some 24) (bs [0, 1, 2, 1, 1, 3, 2, 1, 1, 6]) ?_
 refine tS 0 (some 13) (bs [3, 1, 1, 3, 2, 1, 1, 6]) ?_
 refine oS 3 (some 16) (bs [5, 3, 2, 1, 1, 6]) (fun K hK => ?_)
 refine goes_ Try.func35 (by kernel_rfl) rfl #[.pointer (some ⟨g, 0, none⟩), .int .i64 t204] (by rfl) rfl rfl aM ?_
 with_reducible refine (spec_l1Cur_pick.calls g s0_0 t201 t202 t204 t205 t206 t207 w0 _ ?side1 ?side2 A4.out).mono ?_
 (case side1 => exact iB HI0)
 (case side2 => exact bB)
 rintro e w17 ⟨rfl, hi, hb, hk⟩
 refine ⟨_, rfl, ?_⟩
 replace BK196 := kh BK196 hk NB196_0
 replace HO200 := am (Kd.S_mono (Kd.S_keep (IsS58.apartS (show IsS58 w0 _ g s0_0 t201 t202 from iB HI0) (rP HO200) (by decide)) hk (fun _ h => h.2)) (fun _ h => h.1))
 replace BK203 := kh BK203 hk NB203_0
 replace HK := am (KeepBut.trans (kB HK) hk (.inl rfl))
 replace HB := am (hb)
 replace HI0 := am (hi)
 (try clear hb)
 (try clear hb2)
 (try clear hk)
 (try clear hi)
 refine hK.out _ _ ⟨(blk_cell BK203.out 0).trans rfl, (blk_cell BK203.out 1).trans rfl⟩ (fun hHeld => ?_)
 clear hK K
 refine nS 16 ?_
 refine oS 5 (some 18) (bs [6, 2, 2, 1, 1, 6]) (fun K hK => ?_)
 refine goes_ Try.func35 (by kernel_rfl) rfl #[.pointer (some ⟨g, 0, none⟩), .int .i64 16] (by rfl) rfl rfl aM ?_
 with_reducible refine (spec_l1Cur_pick.calls g s0_0 t206 t207 16 t208 t209 t210 w0 _ ?side1 ?side2 A5.out).mono ?_
 (case side1 => exact iB HI0)
 (case side2 => exact bB)
 rintro e w18 ⟨rfl, hi, hb, hk⟩
 refine ⟨_, rfl, ?_⟩
 replace BK196 := kh BK196 hk NB196_0
 replace HO200 := am (Kd.S_mono (Kd.S_keep (IsS58.apartS (show IsS58 w0 _ g s0_0 t206 t207 from iB HI0) (rP HO200) (by decide)) hk (fun _ h => h.2)) (fun _ h => h.1))
 replace BK203 := kh BK203 hk NB203_0
 replace HK := am (KeepBut.trans (kB HK) hk (.inl rfl))
 replace HB := am (hb)
 replace HI0 := am (hi)
 (try clear hb)
 (try clear hb2)
 (try clear hk)
 (try clear hi)
 refine hK.out _ _ ⟨(blk_cell BK203.out 0).trans rfl, (blk_cell BK203.out 1).trans rfl⟩ (fun hHeld => ?_)
 clear hK K
 refine nS 18 ?_
 refine pS 6 (some 19) (bs [7, 1, 2, 1, 1, 6]) ?_
 refine pS 7 (some 20) (bs [10, 1, 1, 6]) ?_
 refine oS 10 (some 23) (bs [12, 6]) (fun K hK => ?_)
 refine goes_ Try.func35 (by kernel_rfl) rfl #[.pointer (some ⟨g, 0, none⟩), .int .i64 t204] (by rfl) rfl rfl aM ?_
 with_reducible refine (spec_l1Cur_pick.calls g s0_0 t209 t210 t204 t211 t212 t213 w0 _ ?side1 ?side2 A6.out).mono ?_
 (case side1 => exact iB HI0)
 (case side2 => exact bB)
 rintro e w19 ⟨rfl, hi, hb, hk⟩
 refine ⟨_, rfl, ?_⟩
 replace BK196 := kh BK196 hk NB196_0
 replace HO200 := am (Kd.S_mono (Kd.S_keep (IsS58.apartS (show IsS58 w0 _ g s0_0 t209 t210 from iB HI0) (rP HO200) (by decide)) hk (fun _ h => h.2)) (fun _ h => h.1))
 replace BK203 := kh BK203 hk NB203_0
 replace HK := am (KeepBut.trans (kB HK) hk (.inl rfl))
 replace HB := am (hb)
 replace HI0 := am (hi)
 (try clear hb)
 (try clear hb2)
 (try clear hk)
 (try clear hi)
 refine hK.out _ _ ⟨(blk_cell BK203.out 0).trans rfl, (blk_cell BK203.out 1).trans rfl⟩ (fun hHeld => ?_)
 clear hK K
 refine nS 23 ?_
 refine oS 12 (some 25) (bs [13, 5]) (fun K hK => ?_)
 refine goes_ Try.func35 (by kernel_rfl) rfl #[.pointer (some ⟨g, 0, none⟩), .int .i64 16] (by rfl) rfl rfl aM ?_
 with_reducible refine (spec_l1Cur_pick.calls g s0_0 t212 t213 16 t214 t215 t216 w0 _ ?side1 ?side2 A7.out).mono ?_
 (case side1 => exact iB HI0)
 (case side2 => exact bB)
 rintro e w20 ⟨rfl, hi, hb, hk⟩
 refine ⟨_, rfl, ?_⟩
 replace BK196 := kh BK196 hk NB196_0
 replace HO200 := am (Kd.S_mono (Kd.S_keep (IsS58.apartS (show IsS58 w0 _ g s0_0 t212 t213 from iB HI0) (rP HO200) (by decide)) hk (fun _ h => h.2)) (fun _ h => h.1))
 replace BK203 := kh BK203 hk NB203_0
 replace HK := am (KeepBut.trans (kB HK) hk (.inl rfl))
 replace HB := am (hb)
 replace HI0 := am (hi)
 (try clear hb)
 (try clear hb2)
 (try clear hk)
 (try clear hi)
 refine hK.out _ _ ⟨(blk_cell BK203.out 0).trans rfl, (blk_cell BK203.out 1).trans rfl⟩ (fun hHeld => ?_)
 clear hK K
 refine nS 25 ?_
 refine pS 13 (some 26) (bs [14, 4]) ?_
 refine pS 14 (some 27) (bs [15, 3]) ?_
 refine oS 15 (none) (bs [16, 2]) (fun K hK => ?_)
 have hs21 : w20.cell? ⟨gb196, 0, none⟩ = some (.int .i64 0) := (blk_cell BK196.out 0).trans rfl
 have hfs21 := blk_frozen BK196.out 0
 have hns21_1 := NB203_196.out
 have hms21_1 := NB196_203.out
 have hs22 : w20.cell? ⟨gb196, 1, none⟩ = some (.slice none 0 0) := (blk_cell BK196.out 1).trans rfl
 have hfs22 := blk_frozen BK196.out 1
 have hns22_1 := NB203_196.out
 have hms22_1 := NB196_203.out
 refine skip_ (w1 := ?_) (by rfl) rfl ?_ ?_
 rotate_left
 · go_simp
   rfl
 refine hK.out _ _ ⟨((cell_far (p := ⟨gb196, _, none⟩) NB203_196.out _).trans (((cell_far (p := ⟨gb196, _, none⟩) NB203_196.out _).trans (hHeld.1)))), ((cell_far (p := ⟨gb196, _, none⟩) NB203_196.out _).trans (((cell_far (p := ⟨gb196, _, none⟩) NB203_196.out _).trans (hHeld.2))))⟩ (fun hHeld => ?_)
 clear hK K
 refine pS 16 (some 3) (bs [17, 1]) ?_
 refine pS 17 (some 4) (bs [18]) ?_
 refine done_ (done_of HT_.out (by kernel_rfl)) ?_
 try go_wp2
 refine bodyPost_ret (results_ctt rfl _ _ gb196 26 #[.int .i64 t197, .slice Ao14 t198.length co14] (0, 0) _ rfl (by (with_reducible repeat (first | refine blk_drewN ?_ _ | refine blk_drew ?_ | refine blk_alloc ?_ _)); refine blk_put (cs := #[.int .i64 t197, .slice none 0 0]) ?_ 1 _ rfl; (with_reducible repeat (first | refine blk_drewN ?_ _ | refine blk_drew ?_ | refine blk_alloc ?_ _)); refine blk_put (cs := #[.int .i64 0, .slice none 0 0]) ?_ 0 _ rfl; (with_reducible repeat (first | refine blk_drewN ?_ _ | refine blk_drew ?_ | refine blk_alloc ?_ _)); exact BK196.out) Try.underlying26 rfl (by kernel_rfl)) rfl ?_
 exact ⟨_, eW, by (with_reducible repeat (first | apply Kd.S_alloc | apply Kd.S_drewN | apply Kd.S_drew)); exact Kd.S_mono (Kd.S_far (p := ⟨gb196, 1, none⟩) (Kd.S_far (p := ⟨gb196, 0, none⟩) (Kd.S_types HO200.out BK196.out (by decide)) (fun _ hk => hk.2) (.int .i64 t197)) (fun _ hk => hk.2) (.slice Ao14 t198.length co14)) (fun _ hk => trivial), iB HI0, bB, kB HK⟩
def spec_DrawStatesAfter.f (k : Nat) (l0 : List Int) : Option (Int × (List (List Int)) × Int × Int) := (spec_l1Cur_stated.f k l0 0 0).bind fun bt219 => ((spec_l1Cur_pick.f l0 bt219.2.2.2.2.1 bt219.2.2.2.2.2 10).bind fun bt228 => ((spec_l1Cur_pick.f l0 bt228.2.1 bt228.2.2 9).bind fun bt231 => (some (bt219.1, bt219.2.1, bt219.2.2.1, wrap64 (bt228.1 - (wrap64 (Int.tdiv bt231.1 8)))))))
def spec_DrawStatesAfter.T3 : Bool × List (List Nat × List Nat) := (true, [([], []), ([], []), ([], []), ([2], [2]), ([], []), ([4, 3], [4]), ([5], [5]), ([3, 6], [3, 6]), ([0, 5, 0], [0]), ([1, 8, 0, 1, 8], [1]), ([7, 9, 0, 1, 2, 3, 4, 5, 6, 7, 8, 9], [7])])
def spec_DrawStatesAfter.B3 : List Nat := [0, 0, 0, 4, 0, 28, 60, 124, 61, 319, 1023]
theorem spec_DrawStatesAfter.tab3 : rtab .any (opsOf Try.f5 3) = spec_DrawStatesAfter.T3 := by kernel_rfl
theorem spec_DrawStatesAfter.bits3 : waitsOk spec_DrawStatesAfter.T3.2 spec_DrawStatesAfter.B3 = true := by kernel_rfl
set_option maxHeartbeats 8000000 in
set_option maxRecDepth 100000 in
theorem spec_DrawStatesAfter.calls (k : Nat) (A0 : Option Addr) (c0 : Nat) (l0 : List Int) (r1 : Int) (r2 : List (List Int)) (r3 : Int) (r4 : Int) (w : World) (hr0 : Kd.C (Kd.int .u8) w A0 l0.length l0) (hc0 : l0.length ≤ c0) (h : spec_DrawStatesAfter.f k l0 = some (r1, r2, r3, r4)) :
 Calls Try.prog 5 #[.slice A0 l0.length c0] w fun e w' => ∃ v1_ : Value, e = .returned (.tuple #[.agg #[.int .i64 r1, v1_], .int .i64 r3, .int .i64 r4]) ∧ Kd.S (Kd.slice 3 (Kd.int .i64)) 29 w' w.heap.size (fun _ => True) v1_ r2 ∧ Below w.heap.size w w' := by
 have hu26 := Try.underlying26
 have hu58 := Try.underlying58
 have HR0 := am hr0
 have HC0 := am hc0
 clear hr0 hc0
 have HB := am (Below.refl w.heap.size w)
 have H := h
 clear h
 unfold spec_DrawStatesAfter.f at H
 replace H := bnd H
 obtain ⟨⟨t219, t220, t223, t224, t225, t226⟩, A2, H⟩ := H
 (try dsimp only at H)
 replace H := bnd H
 obtain ⟨⟨t228, t229, t230⟩, A3, H⟩ := H
 (try dsimp only at H)
 replace H := bnd H
 obtain ⟨⟨t231, t232, t233⟩, A4, H⟩ := H
 (try dsimp only at H)
 simp only [Option.some.injEq, Prod.mk.injEq] at H
 obtain ⟨rfl, rfl, rfl, rfl⟩ := H
 go_enter Try.func5, Try.ntmps5
 try go_wp2_with (first | ((with_reducible refine gate_dst (N := 2) rfl ?_); refine bE 2 #[.int .i64 0, .slice none 0 0] 26 ?_; intro gb217 hg w5 hbox hb; have BK217 := am (hbox); have GW217 := gW hg; have GE217 := gW hg; replace HB := sB hb; clear hb hbox hg) | ((with_reducible refine gate_dst (N := 11) rfl ?_); refine bE 11 #[.slice A0 l0.length c0, .int .i64 0, .int .u64 0] 58 ?_; intro gb218 hg w6 hbox hb; have NB217_218 := nK BK217 hg; have NB218_217 := mK BK217 hg; replace BK217 := kb BK217 hb; have HI218 := am ((show IsS58 w w6 gb218 l0 0 0 from ⟨_, _, hbox, (by rw [hg]; exact (below_size bB) : w.heap.size ≤ gb218), HR0.out⟩)); replace HB := sB hb; clear hb hbox hg) | ((with_reducible refine gate_callee (f := 34) rfl ?_); refine gL 14 Try.func34 #[.pointer (some ⟨gb218, 0, none⟩)] ?_; (with_reducible refine (spec_l1Cur_stated.calls k gb218 l0 0 0 t219 t220 t223 t224 t225 t226 w _ ?side1 ?side2 A2.out).mono ?_); (case side1 => exact iB HI218); (case side2 => exact bB); rintro e w7 ⟨v221, rfl, ho0, hi, hb, hk⟩; refine ⟨_, rfl, ?_⟩; replace BK217 := kh BK217 hk NB217_218; have HO222 := am (Kd.S_lower ho0 (below_size bB)); replace HB := am (hb); replace HI218 := am (hi)) | ((with_reducible refine gate_dst (N := 6) rfl ?_); refine bE 6 #[.int .i64 0, .slice none 0 0] 26 ?_; intro gb227 hg w8 hbox hb; replace HO222 := lS HO222 hb; have BK227 := am (hbox); have GW227 := gW hg; have GE227 := gW hg; replace HB := sB hb; have NB217_227 := nK BK217 hg; have NB227_217 := mK BK217 hg; replace BK217 := kb BK217 hb; have NB218_227 := nI gb218 HI218 hg; have NB227_218 := mI gb218 HI218 hg; replace HI218 := am (IsS58.below (iB HI218) hb); clear hb hbox hg; have hnb9 := NB227_217.out; have hnc9 := NB217_227.out; have hnb10 := NB227_218.out; have hnc10 := NB218_227.out; obtain ⟨hcz11_0, hcz11_1, hfz11_0, hfz11_1⟩ := cZ BK227; obtain ⟨Ao12, co12, eo12⟩ := Kd.S_slice HO222.out; subst eo12))
 have n0_ : Aside0 (Kd.S (Kd.slice 3 (Kd.int .i64)) 29 ((w8.setCell ⟨gb227, 0, none⟩ (.int .i64 t219)).setCell ⟨gb227, 1, none⟩ (.slice Ao12 t220.length co12)) w.heap.size (fun _ => True) (.slice Ao12 t220.length co12) t220) := ⟨by (with_reducible repeat (first | apply Kd.S_alloc | apply Kd.S_drewN | apply Kd.S_drew)); exact Kd.S_mono (Kd.S_far (p := ⟨gb227, 1, none⟩) (Kd.S_far (p := ⟨gb227, 0, none⟩) (Kd.S_types HO222.out BK227.out (by decide)) (fun _ hk => hk.2) (.int .i64 t219)) (fun _ hk => hk.2) (.slice Ao12 t220.length co12)) (fun _ hk => trivial)⟩
 have n1_ : Aside0 (((w8.setCell ⟨gb227, 0, none⟩ (.int .i64 t219)).setCell ⟨gb227, 1, none⟩ (.slice Ao12 t220.length co12)).heap[gb217]? = some (.cells #[.int .i64 0, .slice none 0 0] 26 (0, 0))) := ⟨by (with_reducible repeat (first | refine blk_drewN ?_ _ | refine blk_drew ?_ | refine blk_alloc ?_ _)); refine blk_far ?_ NB217_227.out _; (with_reducible repeat (first | refine blk_drewN ?_ _ | refine blk_drew ?_ | refine blk_alloc ?_ _)); refine blk_far ?_ NB217_227.out _; (with_reducible repeat (first | refine blk_drewN ?_ _ | refine blk_drew ?_ | refine blk_alloc ?_ _)); exact BK217.out⟩
 have n2_ : Aside0 (((w8.setCell ⟨gb227, 0, none⟩ (.int .i64 t219)).setCell ⟨gb227, 1, none⟩ (.slice Ao12 t220.length co12)).heap[gb227]? = some (.cells #[.int .i64 t219, .slice Ao12 t220.length co12] 26 (0, 0))) := ⟨by (with_reducible repeat (first | refine blk_drewN ?_ _ | refine blk_drew ?_ | refine blk_alloc ?_ _)); refine blk_put (cs := #[.int .i64 t219, .slice none 0 0]) ?_ 1 _ rfl; (with_reducible repeat (first | refine blk_drewN ?_ _ | refine blk_drew ?_ | refine blk_alloc ?_ _)); refine blk_put (cs := #[.int .i64 0, .slice none 0 0]) ?_ 0 _ rfl; (with_reducible repeat (first | refine blk_drewN ?_ _ | refine blk_drew ?_ | refine blk_alloc ?_ _)); exact BK227.out⟩
 have n3_ : Aside0 (IsS58 w ((w8.setCell ⟨gb227, 0, none⟩ (.int .i64 t219)).setCell ⟨gb227, 1, none⟩ (.slice Ao12 t220.length co12)) gb218 l0 t225 t226) := ⟨iB HI218⟩
 have n4_ : Aside0 (Below w.heap.size w ((w8.setCell ⟨gb227, 0, none⟩ (.int .i64 t219)).setCell ⟨gb227, 1, none⟩ (.slice Ao12 t220.length co12))) := ⟨bB⟩
 (try clear HO222)
 (try clear BK217)
 (try clear BK227)
 (try clear HI218)
 (try clear HB)
 generalize ((w8.setCell ⟨gb227, 0, none⟩ (.int .i64 t219)).setCell ⟨gb227, 1, none⟩ (.slice Ao12 t220.length co12)) = w13 at n0_ n1_ n2_ n3_ n4_ ⊢
 have HO222 := n0_
 have BK217 := n1_
 have BK227 := n2_
 have HI218 := n3_
 have HB := n4_
 clear n0_ n1_ n2_ n3_ n4_
 replace HO222 := am (Kd.S_drew HO222.out)
 replace BK217 := am (blk_drew BK217.out)
 replace BK227 := am (blk_drew BK227.out)
 replace HI218 := am (IsS58.drew HI218.out)
 replace HB := am (below_drew1 HB.out)
 refine start_ (n := 11) (S := fun w' => w'.cell? ⟨gb227, 0, none⟩ = some (.int .i64 t219) ∧ w'.cell? ⟨gb227, 1, none⟩ = some (.slice Ao12 t220.length co12)) (ds := []) (bs [0, 11]) (by kernel_rfl) rfl rfl ⟨(blk_cell BK227.out 0).trans rfl, (blk_cell BK227.out 1).trans rfl⟩ (fun hHeld => ?_); refine with_tabW spec_DrawStatesAfter.tab3 spec_DrawStatesAfter.bits3 (fun HT_ HW_ => ?_)
 generalize w13.drew = w14 at HO222 BK217 BK227 HI218 HB hHeld ⊢
 refine pS 1 (some 19) (bs [0, 1, 1, 9]) ?_
 refine pS 2 (some 20) (bs [0, 1, 2, 8]) ?_
 refine pS 4 (some 22) (bs [0, 1, 2, 1, 1, 6]) ?_
 refine tS 0 (some 18) (bs [3, 1, 1, 6]) ?_
 refine oS 3 (some 21) (bs [5, 6]) (fun K hK => ?_)
 refine goes_ Try.func35 (by kernel_rfl) rfl #[.pointer (some ⟨gb218, 0, none⟩), .int .i64 10] (by rfl) rfl rfl aM ?_
 with_reducible refine (spec_l1Cur_pick.calls gb218 l0 t225 t226 10 t228 t229 t230 w _ ?side1 ?side2 A3.out).mono ?_
 (case side1 => exact iB HI218)
 (case side2 => exact bB)
 rintro e w15 ⟨rfl, hi, hb, hk⟩
 refine ⟨_, rfl, ?_⟩
 replace BK217 := kh BK217 hk NB217_218
 replace HO222 := am (Kd.S_mono (Kd.S_keep (IsS58.apartS (show IsS58 w _ gb218 l0 t225 t226 from iB HI218) (rP HO222) (by decide)) hk (fun _ h => h.2)) (fun _ h => h.1))
 replace BK227 := kh BK227 hk NB227_218
 replace HB := am (hb)
 replace HI218 := am (hi)
 (try clear hb)
 (try clear hb2)
 (try clear hk)
 (try clear hi)
 refine hK.out _ _ ⟨(blk_cell BK227.out 0).trans rfl, (blk_cell BK227.out 1).trans rfl⟩ (fun hHeld => ?_)
 clear hK K
 refine nS 21 ?_
 refine oS 5 (some 23) (bs [6, 5]) (fun K hK => ?_)
 refine goes_ Try.func35 (by kernel_rfl) rfl #[.pointer (some ⟨gb218, 0, none⟩), .int .i64 9] (by rfl) rfl rfl aM ?_
 with_reducible refine (spec_l1Cur_pick.calls gb218 l0 t229 t230 9 t231 t232 t233 w _ ?side1 ?side2 A4.out).mono ?_
 (case side1 => exact iB HI218)
 (case side2 => exact bB)
 rintro e w16 ⟨rfl, hi, hb, hk⟩
 refine ⟨_, rfl, ?_⟩
 replace BK217 := kh BK217 hk NB217_218
 replace HO222 := am (Kd.S_mono (Kd.S_keep (IsS58.apartS (show IsS58 w _ gb218 l0 t229 t230 from iB HI218) (rP HO222) (by decide)) hk (fun _ h => h.2)) (fun _ h => h.1))
 replace BK227 := kh BK227 hk NB227_218
 replace HB := am (hb)
 replace HI218 := am (hi)
 (try clear hb)
 (try clear hb2)
 (try clear hk)
 (try clear hi)
 refine hK.out _ _ ⟨(blk_cell BK227.out 0).trans rfl, (blk_cell BK227.out 1).trans rfl⟩ (fun hHeld => ?_)
 clear hK K
 refine nS 23 ?_
 refine pS 6 (some 24) (bs [7, 4]) ?_
 refine pS 7 (some 25) (bs [8, 3]) ?_
 refine oS 8 (none) (bs [9, 2]) (fun K hK => ?_)
 have hs17 : w16.cell? ⟨gb217, 0, none⟩ = some (.int .i64 0) := (blk_cell BK217.out 0).trans rfl
 have hfs17 := blk_frozen BK217.out 0
 have hns17_1 := NB227_217.out
 have hms17_1 := NB217_227.out
 have hs18 : w16.cell? ⟨gb217, 1, none⟩ = some (.slice none 0 0) := (blk_cell BK217.out 1).trans rfl
 have hfs18 := blk_frozen BK217.out 1
 have hns18_1 := NB227_217.out
 have hms18_1 := NB217_227.out
 refine skip_ (w1 := ?_) (by rfl) rfl ?_ ?_
 rotate_left
 · go_simp
   rfl
 refine hK.out _ _ ⟨((cell_far (p := ⟨gb217, _, none⟩) NB227_217.out _).trans (((cell_far (p := ⟨gb217, _, none⟩) NB227_217.out _).trans (hHeld.1)))), ((cell_far (p := ⟨gb217, _, none⟩) NB227_217.out _).trans (((cell_far (p := ⟨gb217, _, none⟩) NB227_217.out _).trans (hHeld.2))))⟩ (fun hHeld => ?_)
 clear hK K
 refine pS 9 (some 3) (bs [10, 1]) ?_
 refine pS 10 (some 4) (bs [11]) ?_
 refine done_ (done_of HT_.out (by kernel_rfl)) ?_
 try go_wp2
 refine bodyPost_ret (results_ctt rfl _ _ gb217 26 #[.int .i64 t219, .slice Ao12 t220.length co12] (0, 0) _ rfl (by (with_reducible repeat (first | refine blk_drewN ?_ _ | refine blk_drew ?_ | refine blk_alloc ?_ _)); refine blk_put (cs := #[.int .i64 t219, .slice none 0 0]) ?_ 1 _ rfl; (with_reducible repeat (first | refine blk_drewN ?_ _ | refine blk_drew ?_ | refine blk_alloc ?_ _)); refine blk_put (cs := #[.int .i64 0, .slice none 0 0]) ?_ 0 _ rfl; (with_reducible repeat (first | refine blk_drewN ?_ _ | refine blk_drew ?_ | refine blk_alloc ?_ _)); exact BK217.out) Try.underlying26 rfl (by kernel_rfl)) rfl ?_
 exact ⟨_, eW, by (with_reducible repeat (first | apply Kd.S_alloc | apply Kd.S_drewN | apply Kd.S_drew)); exact Kd.S_mono (Kd.S_far (p := ⟨gb217, 1, none⟩) (Kd.S_far (p := ⟨gb217, 0, none⟩) (Kd.S_types HO222.out BK217.out (by decide)) (fun _ hk => hk.2) (.int .i64 t219)) (fun _ hk => hk.2) (.slice Ao12 t220.length co12)) (fun _ hk => trivial), bB⟩
def impl_within.f (a0 : Int) (a1 : Int) (a2 : Int) : Option (Bool) := if a0 ≥ a1 then (some (decide (a0 ≤ a2))) else (some false)
set_option maxHeartbeats 8000000 in
set_option maxRecDepth 100000 in
theorem impl_within.calls (a0 : Int) (a1 : Int) (a2 : Int) (r : Bool) (w : World) (h : impl_within.f a0 a1 a2 = some r) :
 Calls Try.prog 37 #[.int .i64 a0, .int .i64 a1, .int .i64 a2] w fun e w' => e = .returned (.bool r) ∧ Drawn0 w w' := by
 have H := h
 clear h
 unfold impl_within.f at H
 by_cases c4 : a0 ≥ a1
 · rw [if_pos c4] at H
   have c4b0 : decide (a1 ≤ a0) = true := decide_eq_true c4
   clear c4
   obtain rfl := Option.some.inj H
   go_enter Try.func37, Try.ntmps37
   go_wp2
   go_ret
   exact ⟨sR, dW⟩
 · rw [if_neg c4] at H
   have c4b0 : decide (a1 ≤ a0) = false := decide_eq_false c4
   clear c4
   obtain rfl := Option.some.inj H
   go_enter Try.func37, Try.ntmps37
   go_wp2
   go_ret
   exact ⟨sR, dW⟩
end Go.Proofs.Ytkkjnmnjbmfpaaa.PFnStatesStep
