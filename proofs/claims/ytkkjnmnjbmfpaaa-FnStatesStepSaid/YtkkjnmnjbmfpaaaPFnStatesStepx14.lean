-- written by a program of this session (the kit's print with turns of the session's own)
import Derived.Test.YtkkjnmnjbmfpaaaPFnStatesStepx0
import Derived.Test.YtkkjnmnjbmfpaaaHp
import Derived.Test.YtkkjnmnjbmfpaaaPFnStatesStepx1
namespace Go.Proofs.Ytkkjnmnjbmfpaaa.PFnStatesStep
open Go.RowKit Go.Proofs.YtkkjnmnjbmfpaaaW.PrintWords Go.Proofs.YtkkjnmnjbmfpaaaW.PrintLast Go.Proofs.YtkkjnmnjbmfpaaaW.PrintMore
attribute [local go_sem] Instr.field asAgg part max2_int min2_int max_two min_two max_three min_three max_four min_four
set_option linter.unusedVariables false
set_option linter.unusedSimpArgs false
def laws_uRises.l0 : Nat → List Int → Int → Option (Bool)
 | 0, _, _ => none
 | k + 1, x0, x3 => if x3 < (x0.length : Int) then (if 0 ≤ (wrap64 (x3 - 1)) then (if (wrap64 (x3 - 1)) < (x0.length : Int) then (if 0 ≤ x3 then (if (rd x0 (wrap64 (x3 - 1))) ≥ (rd x0 x3) then (some false) else (laws_uRises.l0 k x0 (wrap64 (x3 + 1)))) else (none)) else (none)) else (none)) else (some true)
def laws_uRises.f (k : Nat) (l0 : List Int) : Option (Bool) := laws_uRises.l0 k l0 1
set_option maxHeartbeats 8000000 in
set_option maxRecDepth 100000 in
theorem laws_uRises.calls (k : Nat) (A0 : Option Addr) (c0 : Nat) (l0 : List Int) (r : Bool) (w : World) (hr0 : Kd.C (Kd.int .i64) w A0 l0.length l0) (hc0 : l0.length ≤ c0) (h : laws_uRises.f k l0 = some r) :
 Calls Try.prog 27 #[.slice A0 l0.length c0] w fun e w' => e = .returned (.bool r) ∧ Drawn0 w w' := by
 have HR0 := am hr0
 have HC0 := am hc0
 clear hr0 hc0
 have H := h
 clear h
 unfold laws_uRises.f at H
 have H' := am H
 clear H
 go_enter Try.func27, Try.ntmps27
 go_wp2
 repeat (go_quiet (fail); try go_wp2)
 go_loopg [3] k (fun kq v3 w' => ∃ (x3_1 : Int), v3 = .int .i64 x3_1 ∧ Aside0 (laws_uRises.l0 kq l0 x3_1 = some r) ∧ Aside0 (kq ≤ k) ∧ Drawn0 w w')
 case atStart => exact ⟨(1), sR, H', ⟨Nat.le_refl _⟩, dW⟩
 case round =>
  clear H'
  obtain ⟨x3_1, rfl, HA, HK1, ⟨m1, rfl⟩⟩ := hrel
  cases gk with
  | zero => exact absurd HA.out (by simp [laws_uRises.l0])
  | succ k1 =>
   have H := HA.out
   clear HA
   simp only [laws_uRises.l0] at H
   by_cases c2 : x3_1 < (l0.length : Int)
   · rw [if_pos c2] at H
     have c2b0 := decide_eq_true c2
     clear c2
     obtain ⟨ji3, hji3⟩ : ∃ j_ : Int, (wrap64 (x3_1 - 1)) = j_ := ⟨_, rfl⟩
     replace H : (if 0 ≤ (ji3) then (if (ji3) < (l0.length : Int) then (if 0 ≤ x3_1 then (if (rd l0 (ji3)) ≥ (rd l0 x3_1) then (some false) else (laws_uRises.l0 k1 l0 (wrap64 (x3_1 + 1)))) else (none)) else (none)) else (none)) = some r := by first | (rw [hji3] at H; exact H) | (simp only [hji3] at H ⊢; exact H)
     have hji3w : (IntKind.i64.wrap (x3_1 - 1)) = ji3 := (i64_w _).trans hji3
     replace H := ifP H
     obtain ⟨c4, H⟩ := H
     have c4b0 := decide_eq_true c4
     clear c4
     replace H := ifP H
     obtain ⟨c5, H⟩ := H
     have c5b0 := decide_eq_true c5
     clear c5
     replace H := ifP H
     obtain ⟨c6, H⟩ := H
     have c6b0 := decide_eq_true c6
     clear c6
     by_cases c7 : (rd l0 (ji3)) ≥ (rd l0 x3_1)
     · rw [if_pos c7] at H
       have c7b0 : decide ((rd l0 x3_1) ≤ (rd l0 (ji3))) = true := decide_eq_true c7
       clear c7
       obtain rfl := Option.some.inj H
       have p534 : 0 ≤ ((ji3) : Int) := dT
       have q534 : (ji3) < (l0.length : Int) := dT
       obtain ⟨ad534, e534, hx534_0⟩ := Kd.at_int HR0.out (ji3) p534 q534
       cases e534
       replace p534 := eq_true p534
       replace q534 := eq_true q534
       have p535 : 0 ≤ (x3_1 : Int) := dT
       have q535 : x3_1 < (l0.length : Int) := dT
       obtain ⟨ad535, e535, hx535_0⟩ := Kd.at_int HR0.out x3_1 p535 q535
       obtain rfl : ad534 = ad535 := (by injection e535)
       replace p535 := eq_true p535
       replace q535 := eq_true q535
       go_wp2
       repeat (go_quiet (fail); try go_wp2)
       go_ret
       exact ⟨by first | rfl | (simp; done) | (simp only [← hji3] <;> (first | rfl | simp)) | (simp [*]; done), dW⟩
     · rw [if_neg c7] at H
       have c7b0 : decide ((rd l0 x3_1) ≤ (rd l0 (ji3))) = false := decide_eq_false c7
       clear c7
       have H' := am H
       clear H
       have p534 : 0 ≤ ((ji3) : Int) := dT
       have q534 : (ji3) < (l0.length : Int) := dT
       obtain ⟨ad534, e534, hx534_0⟩ := Kd.at_int HR0.out (ji3) p534 q534
       cases e534
       replace p534 := eq_true p534
       replace q534 := eq_true q534
       have p535 : 0 ≤ (x3_1 : Int) := dT
       have q535 : x3_1 < (l0.length : Int) := dT
       obtain ⟨ad535, e535, hx535_0⟩ := Kd.at_int HR0.out x3_1 p535 q535
       obtain rfl : ad534 = ad535 := (by injection e535)
       replace p535 := eq_true p535
       replace q535 := eq_true q535
       go_wp2
       repeat (go_quiet (fail); try go_wp2)
       (first | go_roundg k1 | (try subst hji3; go_roundg k1))
       case measure => have := HK1.out; omega
       case rel => exact ⟨(wrap64 (x3_1 + 1)), sR, H', ⟨oK⟩, dW⟩
   · rw [if_neg c2] at H
     have c2b0 := decide_eq_false c2
     clear c2
     obtain rfl := Option.some.inj H
     go_wp2
     repeat (go_quiet (fail); try go_wp2)
     go_ret
     exact ⟨sR, dW⟩
def spec_l1Own.f (l0 : List Int) : Option (List Int) := (some (([] : List Int) : List Int)).bind fun y536 => (if y536.length + l0.length < 17592186044416 then (some (y536 ++ l0)) else (none))
set_option maxHeartbeats 8000000 in
set_option maxRecDepth 100000 in
theorem spec_l1Own.calls (A0 : Option Addr) (c0 : Nat) (l0 : List Int) (r : List Int) (w : World) (hr0 : Kd.C (Kd.int .i64) w A0 l0.length l0) (hc0 : l0.length ≤ c0) (h : spec_l1Own.f l0 = some r) :
 Calls Try.prog 56 #[.slice A0 l0.length c0] w fun e w' => ∃ v0_ : Value, e = .returned (v0_) ∧ Kd.R (Kd.int .i64) 3 w' w.heap.size (fun _ => True) v0_ r ∧ Below w.heap.size w w' := by
 have HR0 := am hr0
 have HC0 := am hc0
 clear hr0 hc0
 have HB := am (Below.refl w.heap.size w)
 have H := h
 clear h
 unfold spec_l1Own.f at H
 generalize hy536 : ((([] : List Int)) : List Int) = y536 at H
 (try dsimp only [Option.bind_some] at H)
 have Ny536 := am hy536.symm
 clear hy536
 replace H := ifP H
 obtain ⟨c2, H⟩ := H
 have LMc2 := am c2
 clear c2
 generalize hy539 : ((y536 ++ l0) : List Int) = y539 at H
 (try dsimp only [Option.bind_some] at H)
 have Ny539 := am hy539.symm
 clear hy539
 obtain rfl := Option.some.inj H
 go_enter Try.func56, Try.ntmps56
 go_wp2_with (first | ((with_reducible refine gate_dst (N := 3) rfl ?_); refine Kd.R_lit (Kd.int .i64) _ 3 ?hg (N := 3) ?hd (xs := ([] : List Int)) (inner := []) (ok := fun _ => True) (okp := fun _ => True) ?hr ?hp (fun _ hk => hk) trivial (Below.refl _ _) (Nat.le_refl _) (by simp) ?_; (case hd => rfl); (case hg => rfl); (case hr => first | (go_simp; done) | (go_simp; rfl)); (case hp => exact (Reps.none _ _)); intro v537 w3 ho4 hb hg_ hnew_; clear hg_ hnew_; (first | rw [← Ny536.out] at ho4 | (simp only [Int.reduceToNat] at ho4; rw [← Ny536.out] at ho4)); have HO538 := am (Kd.R_lower ho4 (below_size bB)); replace HB := sB hb; clear hb ho4) | ((with_reducible refine gate_builtin (b := .append) (xs := #[.tmp 3, .tmp 4]) rfl ?_); at_builtin; refine Kd.R_append_rows (Kd.int .i64) (w0 := w) w.heap.size rfl (.tmp 3) (.tmp 4) 29 3 (.int .i64 0) 8 rfl Try.underlying29 info3 rfl (by decide) (by omega) v537 y536 l0 _ _ _ (fun _ => True) (fun _ => False) rfl rfl ?aO ?aR (fun _ _ h => h) (fun _ h => h.elim) ?aF ?aB ?aS ?aL ?_; (case aR => exact cH HR0); (case aB => exact bB); (case aF => exact (fun _ _ => trivial)); (case aO => exact (rP HO538)); (case aS => exact (below_size bB)); (case aL => have := LMc2.out; omega); intro v540 w5 ho hb hg hat; rw [← Ny539.out] at ho; replace HB := am (hb); have HO541 := am (ho); clear HO538; clear ho hb hg hat))
 go_ret
 exact ⟨_, eW, rP HO541, bB⟩
def spec_DrawRenameStates.l0 : Nat → List Int → Int → Int → List Int → Int → Int → Int → List (List Int) → Option (Int × (List (List Int)) × List Int)
 | 0, _, _, _, _, _, _, _, _ => none
 | k + 1, x6, x17, x18, x544000, x544001, x544002, x551000, x551001 => if x18 < x17 then ((spec_l1Cur_pick.f x544000 x544001 x544002 (wrap64 ((x6.length : Int) + 1))).bind fun bt551 => (if 0 ≤ bt551.1 then (if bt551.1 ≤ (x6.length : Int) then ((spec_l1Own.f (x6.take (bt551.1 : Int).toNat)).bind fun t558 => (if t558.length < 17592186044416 then ((some (t558 ++ [x18] : List Int)).bind fun y561 => ((some (x6.drop (bt551.1 : Int).toNat : List Int)).bind fun y564 => (if y561.length + y564.length < 17592186044416 then (spec_DrawRenameStates.l0 k (y561 ++ y564) x17 (wrap64 (x18 + 1)) x544000 bt551.2.1 bt551.2.2 x551000 x551001) else (none)))) else (none))) else (none)) else (none))) else ((spec_l1Cur_one.f x544000 x544001 x544002 10).bind fun bt571 => (if bt571.1 = true then ((spec_l1Cur_among.f x544000 bt571.2.1 bt571.2.2 (([(-1), 0, 1, 5] : List Int))).bind fun bt577 => (if x6.length < 17592186044416 then (some (x551000, x551001, (x6 ++ [bt577.1]))) else (none))) else (some (x551000, x551001, x6))))
def spec_DrawRenameStates.f (k : Nat) (l0 : List Int) : Option (Int × (List (List Int)) × List Int) := (spec_l1Cur_states.f k l0 0 0).bind fun bt544 => (spec_DrawRenameStates.l0 k ([] : List Int) (bt544.2.1.length : Int) 0 l0 bt544.2.2.1 bt544.2.2.2 bt544.1 bt544.2.1)
set_option maxHeartbeats 8000000 in
set_option maxRecDepth 100000 in
theorem spec_DrawRenameStates.calls (k : Nat) (A0 : Option Addr) (c0 : Nat) (l0 : List Int) (r1 : Int) (r2 : List (List Int)) (r3 : List Int) (w : World) (hr0 : Kd.C (Kd.int .u8) w A0 l0.length l0) (hc0 : l0.length ≤ c0) (h : spec_DrawRenameStates.f k l0 = some (r1, r2, r3)) :
 Calls Try.prog 28 #[.slice A0 l0.length c0] w fun e w' => ∃ v1_ v2_ : Value, e = .returned (.tuple #[.agg #[.int .i64 r1, v1_], v2_]) ∧ Kd.S (Kd.slice 3 (Kd.int .i64)) 29 w' w.heap.size (fun k_ => some k_ ≠ (v2_ : Value).ownBlock) v1_ r2 ∧ Kd.R (Kd.int .i64) 3 w' w.heap.size (fun _ => True) v2_ r3 ∧ Below w.heap.size w w' := by
 have hu26 := Try.underlying26
 have hu58 := Try.underlying58
 have HR0 := am hr0
 have HC0 := am hc0
 clear hr0 hc0
 have HB := am (Below.refl w.heap.size w)
 have H := h
 clear h
 unfold spec_DrawRenameStates.f at H
 replace H := bnd H
 obtain ⟨⟨t544, t545, t548, t549⟩, A2, H⟩ := H
 (try dsimp only at H)
 have H' := am H
 clear H
 go_enter Try.func28, Try.ntmps28
 go_wp2_with (first | ((with_reducible refine gate_dst (N := 2) rfl ?_); refine bE 2 #[.int .i64 0, .slice none 0 0] 26 ?_; intro gb542 hg w3 hbox hb; have BK542 := am (hbox); have GW542 := gW hg; have GE542 := gW hg; replace HB := sB hb; clear hb hbox hg) | ((with_reducible refine gate_dst (N := 12) rfl ?_); refine bE 12 #[.slice A0 l0.length c0, .int .i64 0, .int .u64 0] 58 ?_; intro gb543 hg w4 hbox hb; have NB542_543 := nK BK542 hg; have NB543_542 := mK BK542 hg; replace BK542 := kb BK542 hb; have HI543 := am ((show IsS58 w w4 gb543 l0 0 0 from ⟨_, _, hbox, (by rw [hg]; exact (below_size bB) : w.heap.size ≤ gb543), HR0.out⟩)); replace HB := sB hb; clear hb hbox hg) | ((with_reducible refine gate_callee (f := 55) rfl ?_); refine gL 14 Try.func55 #[.pointer (some ⟨gb543, 0, none⟩)] ?_; (with_reducible refine (spec_l1Cur_states.calls k gb543 l0 0 0 t544 t545 t548 t549 w _ ?side1 ?side2 A2.out).mono ?_); (case side1 => exact iB HI543); (case side2 => exact bB); rintro e w5 ⟨v546, rfl, ho0, hi, hb, hk⟩; refine ⟨_, rfl, ?_⟩; replace BK542 := kh BK542 hk NB542_543; have HO547 := am (Kd.S_lower ho0 (below_size bB)); replace HB := am (hb); replace HI543 := am (hi)) | ((with_reducible refine gate_dst (N := 5) rfl ?_); refine bE 5 #[.int .i64 0, .slice none 0 0] 26 ?_; intro gb550 hg w6 hbox hb; replace HO547 := lS HO547 hb; have BK550 := am (hbox); have GW550 := gW hg; have GE550 := gW hg; replace HB := sB hb; have NB542_550 := nK BK542 hg; have NB550_542 := mK BK542 hg; replace BK542 := kb BK542 hb; have NB543_550 := nI gb543 HI543 hg; have NB550_543 := mI gb543 HI543 hg; replace HI543 := am (IsS58.below (iB HI543) hb); clear hb hbox hg; have hnb7 := NB550_542.out; have hnc7 := NB542_550.out; have hnb8 := NB550_543.out; have hnc8 := NB543_550.out; obtain ⟨hcz9_0, hcz9_1, hfz9_0, hfz9_1⟩ := cZ BK550; obtain ⟨Ao10, co10, eo10⟩ := Kd.S_slice HO547.out; subst eo10))
 go_loopg [6, 18] k (fun kq v6 v18 w' => ∃ (x6_1 : List Int) (x18_1 : Int) (x544001_1 : Int) (x544002_1 : Int), v18 = .int .i64 x18_1 ∧ Aside0 (spec_DrawRenameStates.l0 kq x6_1 (t545.length : Int) x18_1 l0 x544001_1 x544002_1 t544 t545 = some (r1, r2, r3)) ∧ Aside0 (kq ≤ k) ∧ Aside0 (Kd.R (Kd.int .i64) 3 w' w.heap.size (fun _ => True) v6 x6_1) ∧ Aside0 (Kd.S (Kd.slice 3 (Kd.int .i64)) 29 w' w.heap.size (fun k_ => some k_ ≠ (v6 : Value).ownBlock) (.slice Ao10 t545.length co10) t545) ∧ Aside0 (w'.heap[gb542]? = some (.cells #[.int .i64 0, (.slice none 0 0)] 26 (0, 0))) ∧ Aside0 (w'.heap[gb550]? = some (.cells #[.int .i64 t544, (.slice Ao10 t545.length co10)] 26 (0, 0))) ∧ Aside0 (IsS58 w w' gb543 l0 x544001_1 x544002_1) ∧ Aside0 (Below w.heap.size w w'))
 case atStart => exact ⟨(([] : List Int)), (0), (t548), (t549), sR, H', ⟨Nat.le_refl _⟩, ⟨nL⟩, ⟨by (with_reducible repeat (first | apply Kd.S_alloc | apply Kd.S_drewN | apply Kd.S_drew)); exact Kd.S_mono (Kd.S_far (p := ⟨gb550, 1, none⟩) (Kd.S_far (p := ⟨gb550, 0, none⟩) (Kd.S_types HO547.out BK550.out (by decide)) (fun _ hk => hk.2) (.int .i64 t544)) (fun _ hk => hk.2) (.slice Ao10 t545.length co10)) (fun _ hk => (by simp [Value.ownBlock]))⟩, ⟨by (with_reducible repeat (first | refine blk_drewN ?_ _ | refine blk_drew ?_ | refine blk_alloc ?_ _)); refine blk_far ?_ NB542_550.out _; (with_reducible repeat (first | refine blk_drewN ?_ _ | refine blk_drew ?_ | refine blk_alloc ?_ _)); refine blk_far ?_ NB542_550.out _; (with_reducible repeat (first | refine blk_drewN ?_ _ | refine blk_drew ?_ | refine blk_alloc ?_ _)); exact BK542.out⟩, ⟨by (with_reducible repeat (first | refine blk_drewN ?_ _ | refine blk_drew ?_ | refine blk_alloc ?_ _)); refine blk_put (cs := #[.int .i64 t544, .slice none 0 0]) ?_ 1 _ rfl; (with_reducible repeat (first | refine blk_drewN ?_ _ | refine blk_drew ?_ | refine blk_alloc ?_ _)); refine blk_put (cs := #[.int .i64 0, .slice none 0 0]) ?_ 0 _ rfl; (with_reducible repeat (first | refine blk_drewN ?_ _ | refine blk_drew ?_ | refine blk_alloc ?_ _)); exact BK550.out⟩, ⟨iB HI543⟩, ⟨bB⟩⟩
 case round =>
  clear H'
  obtain ⟨x6_1, x18_1, x544001_1, x544002_1, rfl, HA, HK1, HO_6, HO_551001, BK542, BK550, HI543, HB⟩ := hrel
  cases gk with
  | zero => exact absurd HA.out (by simp [spec_DrawRenameStates.l0])
  | succ k1 =>
   have H := HA.out
   clear HA
   simp only [spec_DrawRenameStates.l0] at H
   by_cases c11 : x18_1 < (t545.length : Int)
   · rw [if_pos c11] at H
     have c11b0 := decide_eq_true c11
     clear c11
     replace H := bnd H
     obtain ⟨⟨t551, t552, t553⟩, A12, H⟩ := H
     (try dsimp only at H)
     replace H := ifP H
     obtain ⟨c13, H⟩ := H
     have c13b0 := eq_true c13
     have c13b1 := decide_eq_true c13
     clear c13
     replace H := ifP H
     obtain ⟨c14, H⟩ := H
     have c14b0 := eq_true c14
     have c14b1 := decide_eq_true c14
     clear c14
     generalize hy554 : ((x6_1.take (t551 : Int).toNat) : List Int) = y554 at H
     (try dsimp only [Option.bind_some] at H)
     have Ny554 := am hy554.symm
     clear hy554
     replace H := bnd H
     obtain ⟨t558, A15, H⟩ := H
     (try dsimp only at H)
     replace H := ifP H
     obtain ⟨c16, H⟩ := H
     have LMc16 := am c16
     clear c16
     generalize hy561 : ((t558 ++ [x18_1]) : List Int) = y561 at H
     (try dsimp only [Option.bind_some] at H)
     have Ny561 := am hy561.symm
     clear hy561
     have c17b0 := eq_true (dT : 0 ≤ t551)
     have c18b0 := eq_true (dT : t551 ≤ (x6_1.length : Int))
     generalize hy564 : ((x6_1.drop (t551 : Int).toNat) : List Int) = y564 at H
     (try dsimp only [Option.bind_some] at H)
     have Ny564 := am hy564.symm
     clear hy564
     replace H := ifP H
     obtain ⟨c19, H⟩ := H
     have LMc19 := am c19
     clear c19
     generalize hy568 : ((y561 ++ y564) : List Int) = y568 at H
     (try dsimp only [Option.bind_some] at H)
     have Ny568 := am hy568.symm
     clear hy568
     have H' := am H
     clear H
     obtain ⟨Ao20, co20, eo20⟩ := Kd.R_slice HO_6.out
     subst eo20
     go_wp2_with (first | ((with_reducible refine gate_callee (f := 35) rfl ?_); refine gL 25 Try.func35 #[.pointer (some ⟨gb543, 0, none⟩), .int .i64 (wrap64 ((x6_1.length : Int) + 1))] ?_; (with_reducible refine (spec_l1Cur_pick.calls gb543 l0 x544001_1 x544002_1 (wrap64 ((x6_1.length : Int) + 1)) t551 t552 t553 w _ ?side1 ?side2 A12.out).mono ?_); (case side1 => exact iB HI543); (case side2 => exact bB); rintro e w21 ⟨rfl, hi, hb, hk⟩; refine ⟨_, rfl, ?_⟩; replace HO_6 := am (Kd.R_mono (Kd.R_keep (IsS58.apart (show IsS58 w _ gb543 l0 x544001_1 x544002_1 from iB HI543) (rP HO_6) (by decide)) hk (fun _ h => h.2)) (fun _ h => h.1)); replace HO_551001 := am (Kd.S_mono (Kd.S_keep (IsS58.apartS (show IsS58 w _ gb543 l0 x544001_1 x544002_1 from iB HI543) (rP HO_551001) (by decide)) hk (fun _ h => h.2)) (fun _ h => h.1)); replace BK542 := kh BK542 hk NB542_543; replace BK550 := kh BK550 hk NB550_543; replace HB := am (hb); replace HI543 := am (hi); have q22 : (t551 : Int) ≤ ((x6_1.length : Int) : Int) := dT; obtain ⟨i022, hi022, _, hsz22, _⟩ := info_parts info3; have hroom22 : x6_1.length ≤ co20 := (Kd.R_reads' HO_6.out).2.1; have hC22 : Kd.C (Kd.int .i64) _ Ao20 x6_1.length x6_1 := (Kd.R_reads' HO_6.out).2.2; have hcut22 := cut_to (P := Try.prog) 29 3 .i64 Try.underlying29 hi022 Ao20 x6_1.length co20 t551 (dT) q22 hroom22; have hr22 := Kd.C_take (m := (t551 : Int).toNat) hC22 (by omega); have hy22 : y554.length = (t551 : Int).toNat := (by rw [Ny554.out, List.length_take]; omega); rw [← Ny554.out] at hr22; rw [← hy22] at hcut22; have HR557 := am hr22; have HC557 := am (show y554.length ≤ co20 from by omega); clear hr22 hC22 hroom22 hi022 hsz22; have KY22 := am hy22; clear hy22; have KL22 := am (show (t551 : Int).toNat ≤ x6_1.length from by omega); replace q22 := eq_true q22) | ((with_reducible refine gate_callee (f := 56) rfl ?_); refine gL 29 Try.func56 #[.slice Ao20 y554.length co20] ?_; (with_reducible refine (spec_l1Own.calls _ _ y554 t558 _ ?side1 HC557.out A15.out).mono ?_); (case side1 => exact cB (by repeat (first | (with_reducible exact HR557.out) | (with_reducible refine Kd.C_alloc ?_ _) | (with_reducible refine Kd.C_drewN ?_ _) | (with_reducible refine Kd.C_drew ?_) | exact HR557.out))); rintro e w23 ⟨v559, rfl, ho0, hb⟩; refine ⟨_, rfl, ?_⟩; replace HO_551001 := eS HO_551001 ho0 hb; have HO560 := am (Kd.R_lower (Kd.R_new' ho0 (Kd.R_lt (rP HO_6))) (below_size bB)); replace HO_6 := eR HO_6 ho0 hb; replace BK542 := kb BK542 hb; replace BK550 := kb BK550 hb; replace HI543 := am (IsS58.below (iB HI543) hb); replace HR557 := am (Kd.C_below (by repeat (first | (with_reducible exact HR557.out) | (with_reducible refine Kd.C_alloc ?_ _) | (with_reducible refine Kd.C_drewN ?_ _) | (with_reducible refine Kd.C_drew ?_) | exact HR557.out)) hb); replace HB := sB hb) | ((with_reducible refine gate_builtin (b := .append) (xs := #[.tmp 29, .tmp 31]) rfl ?_); at_builtin; refine Kd.R_append (Kd.int .i64) (w0 := w) w.heap.size rfl (.tmp 29) (.tmp 31) 29 3 (.int .i64 0) 8 rfl Try.underlying29 info3 rfl (by decide) (by omega) v559 t558 x18_1 [.int .i64 x18_1] (fun k_ => some k_ ≠ (.slice Ao20 x6_1.length co20 : Value).ownBlock) (fun _ => False) rfl rfl ?aP (fun _ hk => hk.elim) ?aF ?aO ?aB ?aS ?aL ?_; (case aP => exact rfl); (case aB => exact bB); (case aF => exact (fun k_ hk => Kd.fresh' (Kd.R_lt (rP HO_6)) k_ hk)); (case aO => exact (rF (Kd.R_mono HO560.out (fun _ hk => hk.2)))); (case aS => exact (below_size bB)); (case aL => have := LMc16.out; omega); intro v562 w24 ho hb hg hat; rw [← Ny561.out] at ho; replace HO_551001 := am (Kd.S_after (ok := (fun k_ => some k_ ≠ (.slice Ao20 x6_1.length co20 : Value).ownBlock)) (rP HO_551001) hg hat); replace BK542 := (kg BK542 hg (Kd.R_ne HO560.out BK542.out (by decide))); replace BK550 := (kg BK550 hg (Kd.R_ne HO560.out BK550.out (by decide))); replace HI543 := am (IsS58.grown (iB HI543) hg (IsS58.own_ne HI543.out HO560.out (by decide))); replace HB := am (hb); replace HR557 := am ((show Kd.C (Kd.int .i64) w24 Ao20 y554.length y554 from by rw [Ny554.out]; exact Kd.C_take (m := (t551 : Int).toNat) ((Kd.R_reads' (Kd.R_after (ok := (fun _ => True)) (rP HO_6) hg hat)).2.2) KL22.out)); replace HO_6 := am (Kd.R_after (ok := (fun _ => True)) (rP HO_6) hg hat); have HO563 := am (ho); clear HO560; clear ho hb hg hat; have q25 : (t551 : Int) ≤ ((x6_1.length : Int) : Int) := dT; obtain ⟨i025, hi025, _, hsz25, _⟩ := info_parts info3; have hroom25 : x6_1.length ≤ co20 := (Kd.R_reads' HO_6.out).2.1; have hC25 : Kd.C (Kd.int .i64) _ Ao20 x6_1.length x6_1 := (Kd.R_reads' HO_6.out).2.2; have q025 : (0 : Int) ≤ (t551 : Int) := dT; have hcut25 := cut_from (P := Try.prog) 29 3 .i64 Try.underlying29 hi025 1 hsz25 Ao20 x6_1.length co20 t551 q025 q25; have hr25 := Kd.C_drop (m := (t551 : Int).toNat) (c := co20) hC25 (by omega) hroom25; obtain ⟨A25, hA25⟩ : ∃ A1, A1 = (if co20 = (t551 : Int).toNat then Ao20 else (Ao20 : Option Addr).map (·.add ((t551 : Int).toNat * 1))) := ⟨_, rfl⟩; obtain ⟨c25, hc25⟩ : ∃ c1, c1 = co20 - (t551 : Int).toNat := ⟨_, rfl⟩; have hy25 : y564.length = x6_1.length - (t551 : Int).toNat := (by rw [Ny564.out, List.length_drop] <;> omega); rw [show (x6_1).drop (t551 : Int).toNat = y564 from Ny564.out.symm] at hr25; replace hr25 : Kd.C (Kd.int .i64) _ A25 y564.length y564 := (by rw [hA25]; exact hr25); rw [← hy25, ← hA25, ← hc25] at hcut25; have HR567 := am hr25; have HC567 := am (show y564.length ≤ c25 from by rw [hy25, hc25]; exact Nat.sub_le_sub_right hroom25 _); clear hr25 hC25 hroom25 hi025 hsz25 hc25; have KY25 := am hy25; have KA25 := am hA25; clear hy25 hA25; have KL25 := am (show (t551 : Int).toNat ≤ x6_1.length from by omega); replace q25 := eq_true q25) | ((with_reducible refine gate_builtin (b := .append) (xs := #[.tmp 33, .tmp 36]) rfl ?_); at_builtin; refine Kd.R_append_rows (Kd.int .i64) (w0 := w) w.heap.size rfl (.tmp 33) (.tmp 36) 29 3 (.int .i64 0) 8 rfl Try.underlying29 info3 rfl (by decide) (by omega) v562 y561 y564 _ _ _ (fun k_ => some k_ ≠ (.slice Ao20 x6_1.length co20 : Value).ownBlock) (fun _ => False) rfl rfl ?aO ?aR (fun _ _ h => h) (fun _ h => h.elim) ?aF ?aB ?aS ?aL ?_; (case aR => exact cB (by repeat (first | (with_reducible exact HR567.out) | (with_reducible refine Kd.C_alloc ?_ _) | (with_reducible refine Kd.C_drewN ?_ _) | (with_reducible refine Kd.C_drew ?_) | exact HR567.out))); (case aB => exact bB); (case aF => exact (fun k_ hk => Kd.fresh' (Kd.R_lt (rP HO_6)) k_ hk)); (case aO => exact (rP HO563)); (case aS => exact (below_size bB)); (case aL => have := LMc19.out; omega); intro v569 w26 ho hb hg hat; rw [← Ny568.out] at ho; replace HO_551001 := am (Kd.S_after (ok := (fun k_ => some k_ ≠ (.slice Ao20 x6_1.length co20 : Value).ownBlock)) (rP HO_551001) hg hat); replace BK542 := (kg BK542 hg (Kd.R_ne HO563.out BK542.out (by decide))); replace BK550 := (kg BK550 hg (Kd.R_ne HO563.out BK550.out (by decide))); replace HI543 := am (IsS58.grown (iB HI543) hg (IsS58.own_ne HI543.out HO563.out (by decide))); replace HB := am (hb); replace HR557 := am ((show Kd.C (Kd.int .i64) w26 Ao20 y554.length y554 from by rw [Ny554.out]; exact Kd.C_take (m := (t551 : Int).toNat) ((Kd.R_reads' (Kd.R_after (ok := (fun _ => True)) (rP HO_6) hg hat)).2.2) KL22.out)); replace HR567 := am ((show Kd.C (Kd.int .i64) w26 A25 y564.length y564 from by rw [Ny564.out, KA25.out]; exact Kd.C_drop (m := (t551 : Int).toNat) (c := co20) ((Kd.R_reads' (Kd.R_after (ok := (fun _ => True)) (rP HO_6) hg hat)).2.2) KL25.out ((Kd.R_reads' (Kd.R_after (ok := (fun _ => True)) (rP HO_6) hg hat)).2.1))); replace HO_6 := am (Kd.R_after (ok := (fun _ => True)) (rP HO_6) hg hat); have HO570 := am (ho); clear HO563; clear ho hb hg hat))
     go_roundg k1
     case measure => have := HK1.out; omega
     case rel => exact ⟨(y568), (wrap64 (x18_1 + 1)), (t552), (t553), sR, H', ⟨oK⟩, ⟨rF (Kd.R_mono HO570.out (fun _ hk => trivial))⟩, ⟨sF (Kd.S_mono HO_551001.out (fun _ hk => hk.2))⟩, ⟨bP BK542⟩, ⟨bP BK550⟩, ⟨iB HI543⟩, ⟨bB⟩⟩
   · rw [if_neg c11] at H
     have c11b0 := decide_eq_false c11
     clear c11
     replace H := bnd H
     obtain ⟨⟨t571, t572, t573⟩, A27, H⟩ := H
     (try dsimp only at H)
     by_cases c28 : t571 = true
     · subst c28
       replace H := ifT H
       generalize hy574 : ((([(-1), 0, 1, 5] : List Int)) : List Int) = y574 at H
       (try dsimp only [Option.bind_some] at H)
       have Ny574 := am hy574.symm
       clear hy574
       replace H := bnd H
       obtain ⟨⟨t577, t578, t579⟩, A29, H⟩ := H
       (try dsimp only at H)
       replace H := ifP H
       obtain ⟨c30, H⟩ := H
       have LMc30 := am c30
       clear c30
       generalize hy580 : ((x6_1 ++ [t577]) : List Int) = y580 at H
       (try dsimp only [Option.bind_some] at H)
       have Ny580 := am hy580.symm
       clear hy580
       simp only [Option.some.injEq, Prod.mk.injEq] at H
       obtain ⟨rfl, rfl, rfl⟩ := H
       go_wp2_with (first | ((with_reducible refine gate_callee (f := 57) rfl ?_); refine gL 40 Try.func57 #[.pointer (some ⟨gb543, 0, none⟩), .int .i64 10] ?_; (with_reducible refine (spec_l1Cur_one.calls gb543 l0 x544001_1 x544002_1 10 true t572 t573 w _ ?side1 ?side2 A27.out).mono ?_); (case side1 => exact iB HI543); (case side2 => exact bB); rintro e w31 ⟨rfl, hi, hb, hk⟩; refine ⟨_, rfl, ?_⟩; replace HO_6 := am (Kd.R_mono (Kd.R_keep (IsS58.apart (show IsS58 w _ gb543 l0 x544001_1 x544002_1 from iB HI543) (rP HO_6) (by decide)) hk (fun _ h => h.2)) (fun _ h => h.1)); replace HO_551001 := am (Kd.S_mono (Kd.S_keep (IsS58.apartS (show IsS58 w _ gb543 l0 x544001_1 x544002_1 from iB HI543) (rP HO_551001) (by decide)) hk (fun _ h => h.2)) (fun _ h => h.1)); replace BK542 := kh BK542 hk NB542_543; replace BK550 := kh BK550 hk NB550_543; replace HB := am (hb); replace HI543 := am (hi)) | ((with_reducible refine gate_dst (N := 43) rfl ?_); refine Kd.R_lit (Kd.int .i64) _ 3 ?hg (N := 43) ?hd (xs := ([(-1), 0, 1, 5] : List Int)) (inner := [.int .i64 (-1), .int .i64 0, .int .i64 1, .int .i64 5]) (ok := fun _ => True) (okp := fun _ => True) ?hr ?hp (fun _ hk => hk) trivial (Below.refl _ _) (Nat.le_refl _) (by simp) ?_; (case hd => rfl); (case hg => rfl); (case hr => first | (go_simp; done) | (go_simp; rfl)); (case hp => exact (Reps.one (show Kd.M (Kd.int .i64) _ _ _ (-1) [.int .i64 (-1)] from rfl) (Reps.one (show Kd.M (Kd.int .i64) _ _ _ 0 [.int .i64 0] from rfl) (Reps.one (show Kd.M (Kd.int .i64) _ _ _ 1 [.int .i64 1] from rfl) (Reps.one (show Kd.M (Kd.int .i64) _ _ _ 5 [.int .i64 5] from rfl) (Reps.none _ _)))))); intro v575 w32 ho33 hb hg_ hnew_; clear hg_ hnew_; (first | rw [← Ny574.out] at ho33 | (simp only [Int.reduceToNat] at ho33; rw [← Ny574.out] at ho33)); replace HO_551001 := eS HO_551001 ho33 hb; have HO576 := am (Kd.R_lower (Kd.R_new' ho33 (Kd.R_lt (rP HO_6))) (below_size bB)); replace HO_6 := eR HO_6 ho33 hb; replace BK542 := kb BK542 hb; replace BK550 := kb BK550 hb; replace HI543 := am (IsS58.below (iB HI543) hb); replace HB := sB hb; clear hb ho33; obtain ⟨Ao34, co34, eo34⟩ := Kd.R_slice HO576.out; subst eo34) | ((with_reducible refine gate_callee (f := 58) rfl ?_); refine gL 44 Try.func58 #[.pointer (some ⟨gb543, 0, none⟩), .slice Ao34 y574.length co34] ?_; (with_reducible refine (spec_l1Cur_among.calls gb543 l0 t572 t573 _ _ y574 t577 t578 t579 w _ ?side1 ?side2 ?side3 (Kd.R_reads' HO576.out).2.1 ?side5 A29.out).mono ?_); (case side1 => exact iB HI543); (case side2 => exact bB); (case side3 => exact cB (Kd.R_reads' HO576.out).2.2); (case side5 => exact far_slice (IsS58.own_ne HI543.out HO576.out (by decide))); rintro e w35 ⟨rfl, hi, hb, hk⟩; refine ⟨_, rfl, ?_⟩; replace HO_6 := am (Kd.R_mono (Kd.R_keep (IsS58.apart (show IsS58 w _ gb543 l0 t572 t573 from iB HI543) (rP HO_6) (by decide)) hk (fun _ h => h.2)) (fun _ h => h.1)); replace HO_551001 := am (Kd.S_mono (Kd.S_keep (IsS58.apartS (show IsS58 w _ gb543 l0 t572 t573 from iB HI543) (rP HO_551001) (by decide)) hk (fun _ h => h.2)) (fun _ h => h.1)); replace BK542 := kh BK542 hk NB542_543; replace BK550 := kh BK550 hk NB550_543; replace HO576 := am (Kd.R_mono (Kd.R_keep (IsS58.apart (show IsS58 w _ gb543 l0 t572 t573 from iB HI543) (rP HO576) (by decide)) hk (fun _ h => h.2)) (fun _ h => h.1)); replace HB := am (hb); replace HI543 := am (hi)) | ((with_reducible refine gate_builtin (b := .append) (xs := #[.tmp 41, .tmp 45]) rfl ?_); at_builtin; refine Kd.R_append (Kd.int .i64) (w0 := w) w.heap.size rfl (.tmp 41) (.tmp 45) 29 3 (.int .i64 0) 8 rfl Try.underlying29 info3 rfl (by decide) (by omega) u6 x6_1 t577 [.int .i64 t577] (fun k_ => some k_ ≠ (.slice Ao34 y574.length co34 : Value).ownBlock) (fun _ => False) rfl rfl ?aP (fun _ hk => hk.elim) ?aF ?aO ?aB ?aS ?aL ?_; (case aP => exact rfl); (case aB => exact bB); (case aF => exact (fun k_ hk => Kd.fresh' (Kd.R_lt (rP HO576)) k_ hk)); (case aO => exact (rF (Kd.R_mono HO_6.out (fun _ hk => hk.2)))); (case aS => exact (below_size bB)); (case aL => have := LMc30.out; omega); intro v581 w36 ho hb hg hat; rw [← Ny580.out] at ho; replace HO_551001 := am (Kd.S_after (ok := (fun k_ => some k_ ≠ (.slice Ao34 y574.length co34 : Value).ownBlock)) (by (with_reducible repeat (first | apply Kd.S_alloc | apply Kd.S_drewN | apply Kd.S_drew)); exact Kd.S_mono HO_551001.out (fun _ hk => ⟨hk.2, hk.1⟩)) hg hat); replace BK542 := (kg BK542 hg (Kd.R_ne HO_6.out BK542.out (by decide))); replace BK550 := (kg BK550 hg (Kd.R_ne HO_6.out BK550.out (by decide))); replace HI543 := am (IsS58.grown (iB HI543) hg (IsS58.own_ne HI543.out HO_6.out (by decide))); replace HO576 := am (Kd.R_after (ok := (fun _ => True)) (rP HO576) hg hat); replace HB := am (hb); have HO582 := am (ho); clear HO_6; clear ho hb hg hat; have hnb37 := NB550_542.out; have hnc37 := NB542_550.out; have hnb38 := NB550_543.out; have hnc38 := NB543_550.out; obtain ⟨hcz39_0, hcz39_1, hfz39_0, hfz39_1⟩ := cZ BK550; have hnb40 := NB542_543.out; have hnc40 := NB543_542.out; obtain ⟨hcz41_0, hcz41_1, hfz41_0, hfz41_1⟩ := cZ BK542))
       refine bodyPost_ret (results_ct rfl _ _ gb542 26 #[.int .i64 t544, .slice Ao10 t545.length co10] (0, 0) _ rfl (by (with_reducible repeat (first | refine blk_drewN ?_ _ | refine blk_drew ?_ | refine blk_alloc ?_ _)); refine blk_put (cs := #[.int .i64 t544, .slice none 0 0]) ?_ 1 _ rfl; (with_reducible repeat (first | refine blk_drewN ?_ _ | refine blk_drew ?_ | refine blk_alloc ?_ _)); refine blk_put (cs := #[.int .i64 0, .slice none 0 0]) ?_ 0 _ rfl; (with_reducible repeat (first | refine blk_drewN ?_ _ | refine blk_drew ?_ | refine blk_alloc ?_ _)); exact BK542.out) Try.underlying26 rfl (by kernel_rfl)) rfl ?_
       exact ⟨_, _, eW, by (with_reducible repeat (first | apply Kd.S_alloc | apply Kd.S_drewN | apply Kd.S_drew)); exact Kd.S_mono (Kd.S_far (p := ⟨gb542, 1, none⟩) (Kd.S_far (p := ⟨gb542, 0, none⟩) (Kd.S_types HO_551001.out BK542.out (by decide)) (fun _ hk => hk.2) (.int .i64 t544)) (fun _ hk => hk.2) (.slice Ao10 t545.length co10)) (fun _ hk => hk.1.2), by (with_reducible repeat (first | apply Kd.R_alloc | apply Kd.R_drewN | apply Kd.R_drew)); exact Kd.R_mono (Kd.R_far (p := ⟨gb542, 1, none⟩) (Kd.R_far (p := ⟨gb542, 0, none⟩) (Kd.R_types HO582.out BK542.out (by decide)) (fun _ hk => hk.2) (.int .i64 t544)) (fun _ hk => hk.2) (.slice Ao10 t545.length co10)) (fun _ hk => trivial), bB⟩
     · replace c28 := Bool.eq_false_iff.mpr c28
       subst c28
       replace H := ifF H
       simp only [Option.some.injEq, Prod.mk.injEq] at H
       obtain ⟨rfl, rfl, rfl⟩ := H
       go_wp2_with (first | ((with_reducible refine gate_callee (f := 57) rfl ?_); refine gL 40 Try.func57 #[.pointer (some ⟨gb543, 0, none⟩), .int .i64 10] ?_; (with_reducible refine (spec_l1Cur_one.calls gb543 l0 x544001_1 x544002_1 10 false t572 t573 w _ ?side1 ?side2 A27.out).mono ?_); (case side1 => exact iB HI543); (case side2 => exact bB); rintro e w42 ⟨rfl, hi, hb, hk⟩; refine ⟨_, rfl, ?_⟩; replace HO_6 := am (Kd.R_mono (Kd.R_keep (IsS58.apart (show IsS58 w _ gb543 l0 x544001_1 x544002_1 from iB HI543) (rP HO_6) (by decide)) hk (fun _ h => h.2)) (fun _ h => h.1)); replace HO_551001 := am (Kd.S_mono (Kd.S_keep (IsS58.apartS (show IsS58 w _ gb543 l0 x544001_1 x544002_1 from iB HI543) (rP HO_551001) (by decide)) hk (fun _ h => h.2)) (fun _ h => h.1)); replace BK542 := kh BK542 hk NB542_543; replace BK550 := kh BK550 hk NB550_543; replace HB := am (hb); replace HI543 := am (hi); have hnb43 := NB550_542.out; have hnc43 := NB542_550.out; have hnb44 := NB550_543.out; have hnc44 := NB543_550.out; obtain ⟨hcz45_0, hcz45_1, hfz45_0, hfz45_1⟩ := cZ BK550; have hnb46 := NB542_543.out; have hnc46 := NB543_542.out; obtain ⟨hcz47_0, hcz47_1, hfz47_0, hfz47_1⟩ := cZ BK542))
       refine bodyPost_ret (results_ct rfl _ _ gb542 26 #[.int .i64 t544, .slice Ao10 t545.length co10] (0, 0) _ rfl (by (with_reducible repeat (first | refine blk_drewN ?_ _ | refine blk_drew ?_ | refine blk_alloc ?_ _)); refine blk_put (cs := #[.int .i64 t544, .slice none 0 0]) ?_ 1 _ rfl; (with_reducible repeat (first | refine blk_drewN ?_ _ | refine blk_drew ?_ | refine blk_alloc ?_ _)); refine blk_put (cs := #[.int .i64 0, .slice none 0 0]) ?_ 0 _ rfl; (with_reducible repeat (first | refine blk_drewN ?_ _ | refine blk_drew ?_ | refine blk_alloc ?_ _)); exact BK542.out) Try.underlying26 rfl (by kernel_rfl)) rfl ?_
       exact ⟨_, _, eW, by (with_reducible repeat (first | apply Kd.S_alloc | apply Kd.S_drewN | apply Kd.S_drew)); exact Kd.S_mono (Kd.S_far (p := ⟨gb542, 1, none⟩) (Kd.S_far (p := ⟨gb542, 0, none⟩) (Kd.S_types HO_551001.out BK542.out (by decide)) (fun _ hk => hk.2) (.int .i64 t544)) (fun _ hk => hk.2) (.slice Ao10 t545.length co10)) (fun _ hk => hk.1), by (with_reducible repeat (first | apply Kd.R_alloc | apply Kd.R_drewN | apply Kd.R_drew)); exact Kd.R_mono (Kd.R_far (p := ⟨gb542, 1, none⟩) (Kd.R_far (p := ⟨gb542, 0, none⟩) (Kd.R_types HO_6.out BK542.out (by decide)) (fun _ hk => hk.2) (.int .i64 t544)) (fun _ hk => hk.2) (.slice Ao10 t545.length co10)) (fun _ hk => trivial), bB⟩
def slices_Index_int_int.l0 : Nat → List Int → Int → Int → Int → Option (Int)
 | 0, _, _, _, _ => none
 | k + 1, x0, x1, x7, x8 => if x8 < x7 then (if 0 ≤ x8 then (if x8 < (x0.length : Int) then (if x1 = (rd x0 x8) then (some x8) else (slices_Index_int_int.l0 k x0 x1 x7 (wrap64 (x8 + 1)))) else (none)) else (none)) else (some (-1))
def slices_Index_int_int.f (k : Nat) (l0 : List Int) (a1 : Int) : Option (Int) := slices_Index_int_int.l0 k l0 a1 (l0.length : Int) 0
set_option maxHeartbeats 8000000 in
set_option maxRecDepth 100000 in
theorem slices_Index_int_int.calls (k : Nat) (A0 : Option Addr) (c0 : Nat) (l0 : List Int) (a1 : Int) (r : Int) (w : World) (hr0 : Kd.C (Kd.int .i64) w A0 l0.length l0) (hc0 : l0.length ≤ c0) (h : slices_Index_int_int.f k l0 a1 = some r) :
 Calls Try.prog 68 #[.slice A0 l0.length c0, .int .i64 a1] w fun e w' => e = .returned (.int .i64 r) ∧ Drawn0 w w' := by
 have HR0 := am hr0
 have HC0 := am hc0
 clear hr0 hc0
 have H := h
 clear h
 unfold slices_Index_int_int.f at H
 have H' := am H
 clear H
 go_enter Try.func68, Try.ntmps68
 go_wp2
 go_loopg [8] k (fun kq v8 w' => ∃ (x8_1 : Int), v8 = .int .i64 x8_1 ∧ Aside0 (slices_Index_int_int.l0 kq l0 a1 (l0.length : Int) x8_1 = some r) ∧ Aside0 (kq ≤ k) ∧ Drawn0 w w')
 case atStart => exact ⟨(0), sR, H', ⟨Nat.le_refl _⟩, dW⟩
 case round =>
  clear H'
  obtain ⟨x8_1, rfl, HA, HK1, ⟨m1, rfl⟩⟩ := hrel
  cases gk with
  | zero => exact absurd HA.out (by simp [slices_Index_int_int.l0])
  | succ k1 =>
   have H := HA.out
   clear HA
   simp only [slices_Index_int_int.l0] at H
   by_cases c3 : x8_1 < (l0.length : Int)
   · rw [if_pos c3] at H
     have c3b0 := decide_eq_true c3
     clear c3
     replace H := ifP H
     obtain ⟨c4, H⟩ := H
     have c4b0 := decide_eq_true c4
     clear c4
     replace H := ifP H
     obtain ⟨c5, H⟩ := H
     have c5b0 := decide_eq_true c5
     clear c5
     by_cases c6 : a1 = (rd l0 x8_1)
     · rw [if_pos c6] at H
       have c6b0 : (a1 == (rd l0 x8_1)) = true := beq_iff_eq.mpr c6
       have c6b1 : (a1 != (rd l0 x8_1)) = false := bne_eq_false_iff_eq.mpr c6
       clear c6
       obtain rfl := Option.some.inj H
       have p583 : 0 ≤ (x8_1 : Int) := dT
       have q583 : x8_1 < (l0.length : Int) := dT
       obtain ⟨ad583, e583, hx583_0⟩ := Kd.at_int HR0.out x8_1 p583 q583
       cases e583
       replace p583 := eq_true p583
       replace q583 := eq_true q583
       go_wp2
       go_ret
       exact ⟨sR, dW⟩
     · rw [if_neg c6] at H
       have c6b0 : (a1 == (rd l0 x8_1)) = false := beq_eq_false_iff_ne.mpr c6
       have c6b1 : (a1 != (rd l0 x8_1)) = true := bne_iff_ne.mpr c6
       have H' := am H
       clear H
       have p583 : 0 ≤ (x8_1 : Int) := dT
       have q583 : x8_1 < (l0.length : Int) := dT
       obtain ⟨ad583, e583, hx583_0⟩ := Kd.at_int HR0.out x8_1 p583 q583
       cases e583
       replace p583 := eq_true p583
       replace q583 := eq_true q583
       go_wp2
       go_roundg k1
       case measure => have := HK1.out; omega
       case rel => exact ⟨(wrap64 (x8_1 + 1)), sR, H', ⟨oK⟩, dW⟩
   · rw [if_neg c3] at H
     have c3b0 := decide_eq_false c3
     clear c3
     obtain rfl := Option.some.inj H
     go_wp2
     go_ret
     exact ⟨sR, dW⟩
def slices_Contains_int_int.f (k : Nat) (l0 : List Int) (a1 : Int) : Option (Bool) := (slices_Index_int_int.f k l0 a1).bind fun t584 => (some (decide (t584 ≥ 0)))
set_option maxHeartbeats 8000000 in
set_option maxRecDepth 100000 in
theorem slices_Contains_int_int.calls (k : Nat) (A0 : Option Addr) (c0 : Nat) (l0 : List Int) (a1 : Int) (r : Bool) (w : World) (hr0 : Kd.C (Kd.int .i64) w A0 l0.length l0) (hc0 : l0.length ≤ c0) (h : slices_Contains_int_int.f k l0 a1 = some r) :
 Calls Try.prog 59 #[.slice A0 l0.length c0, .int .i64 a1] w fun e w' => e = .returned (.bool r) ∧ Drawn0 w w' := by
 have HR0 := am hr0
 have HC0 := am hc0
 clear hr0 hc0
 have H := h
 clear h
 unfold slices_Contains_int_int.f at H
 replace H := bnd H
 obtain ⟨t584, A3, H⟩ := H
 (try dsimp only at H)
 obtain rfl := Option.some.inj H
 go_enter Try.func59, Try.ntmps59
 go_wp2_with (first | ((with_reducible refine gate_callee (f := 68) rfl ?_); refine gL 7 Try.func68 #[.slice A0 l0.length c0, .int .i64 a1] ?_; (with_reducible refine (slices_Index_int_int.calls k _ _ l0 a1 t584 _ ?side1 HC0.out A3.out).mono ?_); (case side1 => exact cB HR0.out); rintro e w' ⟨rfl, ⟨nd, rfl⟩⟩; refine ⟨_, rfl, ?_⟩))
 go_ret
 exact ⟨sR, dW⟩
end Go.Proofs.Ytkkjnmnjbmfpaaa.PFnStatesStep
