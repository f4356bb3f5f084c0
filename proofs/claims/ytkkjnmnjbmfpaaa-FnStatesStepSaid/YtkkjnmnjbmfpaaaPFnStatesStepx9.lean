-- written by a program of this session (the kit's print with turns of the session's own)
import Derived.Test.YtkkjnmnjbmfpaaaPFnStatesStepx0
import Derived.Test.YtkkjnmnjbmfpaaaHp
import Derived.Test.YtkkjnmnjbmfpaaaPFnStatesStepx3
import Derived.Test.YtkkjnmnjbmfpaaaPFnStatesStepx5
import Derived.Test.YtkkjnmnjbmfpaaaPFnStatesStepx6
import Derived.Test.YtkkjnmnjbmfpaaaPFnStatesStepx7
import Derived.Test.YtkkjnmnjbmfpaaaPFnStatesStepx8
namespace Go.Proofs.Ytkkjnmnjbmfpaaa.PFnStatesStep
open Go.RowKit Go.Proofs.YtkkjnmnjbmfpaaaW.PrintWords Go.Proofs.YtkkjnmnjbmfpaaaW.PrintLast Go.Proofs.YtkkjnmnjbmfpaaaW.PrintMore
attribute [local go_sem] Instr.field asAgg part max2_int min2_int max_two min_two max_three min_three max_four min_four
set_option linter.unusedVariables false
set_option linter.unusedSimpArgs false
def impl_States_class.l0 : Nat → Int → List Bool → List Int → List Int → Int → Int → Int → List (List Int) → Option (List Int × Bool)
 | 0, _, _, _, _, _, _, _, _ => none
 | k + 1, x1, x6, x7, x14, x15, x16, x361000, x361001 => if x16 < x15 then (if 0 ≤ x16 then (if x16 < (x14.length : Int) then ((impl_States_reached.f k x361000 x361001 (rd x14 x16) (-1)).bind fun t368 => (if 0 ≤ x1 then (if x1 < (t368.length : Int) then (if rdOf false t368 x1 = true then (if x7.length < 17592186044416 then (impl_States_class.l0 k x1 x6 (x7 ++ [rd x14 x16]) x14 x15 (wrap64 (x16 + 1)) x361000 x361001) else (none)) else (impl_States_class.l0 k x1 x6 x7 x14 x15 (wrap64 (x16 + 1)) x361000 x361001)) else (none)) else (none))) else (none)) else (none)) else ((impl_members.f k x6).bind fun t375 => (some (x7, ((x7.length : Int) == (t375.length : Int)))))
def impl_States_class.f (k : Nat) (a0_0 : Int) (l0_1 : List (List Int)) (a1 : Int) : Option (List Int × Bool) := (impl_States_reached.f k a0_0 l0_1 a1 (-1)).bind fun t361 => ((impl_members.f k t361).bind fun t364 => (impl_States_class.l0 k a1 t361 ([] : List Int) t364 (t364.length : Int) 0 a0_0 l0_1))
set_option maxHeartbeats 8000000 in
set_option maxRecDepth 100000 in
theorem impl_States_class.calls (k : Nat) (a0_0 : Int) (A0_1 : Option Addr) (c0_1 : Nat) (l0_1 : List (List Int)) (a1 : Int) (r1 : List Int) (r2 : Bool) (w : World) (hr0_1 : Kd.C (Kd.slice 3 (Kd.int .i64)) w A0_1 l0_1.length l0_1) (hc0_1 : l0_1.length ≤ c0_1) (h : impl_States_class.f k a0_0 l0_1 a1 = some (r1, r2)) :
 Calls Try.prog 50 #[.agg #[.int .i64 a0_0, .slice A0_1 l0_1.length c0_1], .int .i64 a1] w fun e w' => ∃ v0_ : Value, e = .returned (.tuple #[v0_, .bool r2]) ∧ Kd.R (Kd.int .i64) 3 w' w.heap.size (fun _ => True) v0_ r1 ∧ Below w.heap.size w w' := by
 have hu26 := Try.underlying26
 have HR0_1 := am hr0_1
 have HC0_1 := am hc0_1
 clear hr0_1 hc0_1
 have HB := am (Below.refl w.heap.size w)
 have H := h
 clear h
 unfold impl_States_class.f at H
 replace H := bnd H
 obtain ⟨t361, A3, H⟩ := H
 (try dsimp only at H)
 replace H := bnd H
 obtain ⟨t364, A4, H⟩ := H
 (try dsimp only at H)
 have H' := am H
 clear H
 go_enter Try.func50, Try.ntmps50
 go_wp2_with (first | ((with_reducible refine gate_dst (N := 2) rfl ?_); refine bE 2 #[.int .i64 a0_0, .slice A0_1 l0_1.length c0_1] 26 ?_; intro gb360 hg w5 hbox hb; have BK360 := am (hbox); have GW360 := gW hg; have GE360 := gW hg; replace HB := sB hb; clear hb hbox hg; obtain ⟨hcz6_0, hcz6_1, hfz6_0, hfz6_1⟩ := cZ BK360) | ((with_reducible refine gate_callee (f := 44) rfl ?_); refine gL 12 Try.func44 #[.agg #[.int .i64 a0_0, .slice A0_1 l0_1.length c0_1], .int .i64 a1, .int .i64 (-1)] ?_; (with_reducible refine (impl_States_reached.calls k a0_0 _ _ l0_1 a1 (-1) t361 _ ?side1 HC0_1.out A3.out).mono ?_); (case side1 => exact cH HR0_1); rintro e w7 ⟨v362, rfl, ho0, hb⟩; refine ⟨_, rfl, ?_⟩; have HO363 := am (Kd.R_lower ho0 (below_size bB)); replace BK360 := kb BK360 hb; replace HB := sB hb; obtain ⟨Ao8, co8, eo8⟩ := Kd.R_slice HO363.out; subst eo8) | ((with_reducible refine gate_callee (f := 43) rfl ?_); refine gL 14 Try.func43 #[.slice Ao8 t361.length co8] ?_; (with_reducible refine (impl_members.calls k _ _ t361 t364 _ ?side1 (Kd.R_reads' HO363.out).2.1 A4.out).mono ?_); (case side1 => exact cB (Kd.R_reads' HO363.out).2.2); rintro e w9 ⟨v365, rfl, ho0, hb⟩; refine ⟨_, rfl, ?_⟩; replace HO363 := lR HO363 hb; have HO366 := am (Kd.R_lower ho0 (below_size bB)); replace BK360 := kb BK360 hb; replace HB := sB hb; obtain ⟨Ao10, co10, eo10⟩ := Kd.R_slice HO366.out; subst eo10))
 go_loopg [7, 16] k (fun kq v7 v16 w' => ∃ (x7_1 : List Int) (x16_1 : Int), v16 = .int .i64 x16_1 ∧ Aside0 (impl_States_class.l0 kq a1 t361 x7_1 t364 (t364.length : Int) x16_1 a0_0 l0_1 = some (r1, r2)) ∧ Aside0 (kq ≤ k) ∧ Aside0 (Kd.R Kd.bool 4 w' w.heap.size (fun _ => True) (.slice Ao8 t361.length co8) t361) ∧ Aside0 (Kd.R (Kd.int .i64) 3 w' w.heap.size (fun k_ => some k_ ≠ ((.slice Ao10 t364.length co10) : Value).ownBlock) v7 x7_1) ∧ Aside0 (Kd.R (Kd.int .i64) 3 w' w.heap.size (fun k_ => some k_ ≠ (v7 : Value).ownBlock) (.slice Ao10 t364.length co10) t364) ∧ Aside0 (w'.heap[gb360]? = some (.cells #[.int .i64 a0_0, (.slice A0_1 l0_1.length c0_1)] 26 (0, 0))) ∧ Aside0 (Below w.heap.size w w'))
 case atStart => exact ⟨(([] : List Int)), (0), sR, H', ⟨Nat.le_refl _⟩, ⟨rP HO363⟩, ⟨nL⟩, ⟨by (with_reducible repeat (first | apply Kd.R_alloc | apply Kd.R_drewN | apply Kd.R_drew)); exact Kd.R_mono HO366.out (fun _ hk => (by simp [Value.ownBlock]))⟩, ⟨bP BK360⟩, ⟨bB⟩⟩
 case round =>
  clear H'
  obtain ⟨x7_1, x16_1, rfl, HA, HK1, HO_6, HO_7, HO_14, BK360, HB⟩ := hrel
  cases gk with
  | zero => exact absurd HA.out (by simp [impl_States_class.l0])
  | succ k1 =>
   have H := HA.out
   clear HA
   simp only [impl_States_class.l0] at H
   by_cases c11 : x16_1 < (t364.length : Int)
   · rw [if_pos c11] at H
     have c11b0 := decide_eq_true c11
     clear c11
     replace H := ifP H
     obtain ⟨c12, H⟩ := H
     have c12b0 := decide_eq_true c12
     clear c12
     replace H := ifP H
     obtain ⟨c13, H⟩ := H
     have c13b0 := decide_eq_true c13
     clear c13
     replace H := bnd H
     obtain ⟨t368, A14, H⟩ := H
     (try dsimp only at H)
     replace H := ifP H
     obtain ⟨c15, H⟩ := H
     have c15b0 := decide_eq_true c15
     clear c15
     replace H := ifP H
     obtain ⟨c16, H⟩ := H
     have c16b0 := decide_eq_true c16
     clear c16
     obtain ⟨bq17, hbq17⟩ : ∃ b_ : Bool, b_ = (rdOf false t368 a1) := ⟨_, rfl⟩
     replace H : (if bq17 = true then (if x7_1.length < 17592186044416 then (impl_States_class.l0 k1 a1 t361 (x7_1 ++ [rd t364 x16_1]) t364 (t364.length : Int) (wrap64 (x16_1 + 1)) a0_0 l0_1) else (none)) else (impl_States_class.l0 k1 a1 t361 x7_1 t364 (t364.length : Int) (wrap64 (x16_1 + 1)) a0_0 l0_1)) = some (r1, r2) := by rw [← hbq17] at H; exact H
     have Nbq17 := am hbq17
     clear hbq17
     by_cases c18 : bq17 = true
     · subst c18
       replace H := ifT H
       replace H := ifP H
       obtain ⟨c19, H⟩ := H
       have LMc19 := am c19
       clear c19
       generalize hy372 : ((x7_1 ++ [rd t364 x16_1]) : List Int) = y372 at H
       (try dsimp only [Option.bind_some] at H)
       have Ny372 := am hy372.symm
       clear hy372
       have H' := am H
       clear H
       have p367 : 0 ≤ (x16_1 : Int) := dT
       have q367 : x16_1 < (t364.length : Int) := dT
       obtain ⟨ad367, e367, hx367_0⟩ := Kd.at_int (Kd.R_reads' HO_14.out).2.2 x16_1 p367 q367
       cases e367
       replace p367 := eq_true p367
       replace q367 := eq_true q367
       obtain ⟨hcz20_0, hcz20_1, hfz20_0, hfz20_1⟩ := cZ BK360
       go_wp2_with (first | ((with_reducible refine gate_callee (f := 44) rfl ?_); refine gL 22 Try.func44 #[.agg #[.int .i64 a0_0, .slice A0_1 l0_1.length c0_1], .int .i64 (rd t364 x16_1), .int .i64 (-1)] ?_; (with_reducible refine (impl_States_reached.calls k1 a0_0 _ _ l0_1 (rd t364 x16_1) (-1) t368 _ ?side1 HC0_1.out A14.out).mono ?_); (case side1 => exact cH HR0_1); rintro e w21 ⟨v369, rfl, ho0, hb⟩; refine ⟨_, rfl, ?_⟩; replace HO_7 := lR HO_7 hb; replace HO_14 := lR HO_14 hb; have HO370 := am (Kd.R_lower (Kd.R_new' ho0 (Kd.R_lt (rP HO_6))) (below_size bB)); replace HO_6 := eR HO_6 ho0 hb; replace BK360 := kb BK360 hb; replace HB := sB hb; obtain ⟨Ao22, co22, eo22⟩ := Kd.R_slice HO370.out; subst eo22; have p371 : 0 ≤ (a1 : Int) := dT; have q371 : a1 < (t368.length : Int) := dT; obtain ⟨ad371, e371, hx371_0⟩ := Kd.at_bool (Kd.R_reads' HO370.out).2.2 a1 p371 q371; (try rw [← Nbq17.out] at hx371_0); cases e371; replace p371 := eq_true p371; replace q371 := eq_true q371) | ((with_reducible refine gate_builtin (b := .append) (xs := #[.tmp 26, .tmp 28]) rfl ?_); at_builtin; refine Kd.R_append (Kd.int .i64) (w0 := w) w.heap.size rfl (.tmp 26) (.tmp 28) 29 3 (.int .i64 0) 8 rfl Try.underlying29 info3 rfl (by decide) (by omega) u7 x7_1 (rd t364 x16_1) [.int .i64 (rd t364 x16_1)] (fun k_ => some k_ ≠ (.slice (some ad367) t364.length co10 : Value).ownBlock) (fun _ => False) rfl rfl ?aP (fun _ hk => hk.elim) ?aF ?aO ?aB ?aS ?aL ?_; (case aP => exact rfl); (case aB => exact bB); (case aF => exact (fun k_ hk => Kd.fresh' (Kd.R_lt (rP HO_14)) k_ hk)); (case aO => exact (rP HO_7)); (case aS => exact (below_size bB)); (case aL => have := LMc19.out; omega); intro v373 w23 ho hb hg hat; rw [← Ny372.out] at ho; replace HO_6 := am (Kd.R_over' (rP HO_6) (Kd.R_typed (rP HO_7)) (by decide) hg); replace HO_14 := am (Kd.R_after (ok := (fun _ => True)) (by (with_reducible repeat (first | apply Kd.R_alloc | apply Kd.R_drewN | apply Kd.R_drew)); exact Kd.R_mono HO_14.out (fun _ hk => ⟨trivial, hk⟩)) hg hat); replace BK360 := (kg BK360 hg (Kd.R_ne HO_7.out BK360.out (by decide))); replace HO370 := am (Kd.R_over' (rP HO370) (Kd.R_typed (rP HO_7)) (by decide) hg); replace HB := am (hb); have HO374 := am (ho); clear HO_7; clear ho hb hg hat))
       go_roundg k1
       case measure => have := HK1.out; omega
       case rel => exact ⟨(y372), (wrap64 (x16_1 + 1)), sR, H', ⟨oK⟩, ⟨rF (Kd.R_mono HO_6.out (fun _ hk => trivial))⟩, ⟨rP HO374⟩, ⟨rF (Kd.R_mono HO_14.out (fun _ hk => hk.2))⟩, ⟨bP BK360⟩, ⟨bB⟩⟩
     · replace c18 := Bool.eq_false_iff.mpr c18
       subst c18
       replace H := ifF H
       have H' := am H
       clear H
       have p367 : 0 ≤ (x16_1 : Int) := dT
       have q367 : x16_1 < (t364.length : Int) := dT
       obtain ⟨ad367, e367, hx367_0⟩ := Kd.at_int (Kd.R_reads' HO_14.out).2.2 x16_1 p367 q367
       cases e367
       replace p367 := eq_true p367
       replace q367 := eq_true q367
       obtain ⟨hcz24_0, hcz24_1, hfz24_0, hfz24_1⟩ := cZ BK360
       go_wp2_with (first | ((with_reducible refine gate_callee (f := 44) rfl ?_); refine gL 22 Try.func44 #[.agg #[.int .i64 a0_0, .slice A0_1 l0_1.length c0_1], .int .i64 (rd t364 x16_1), .int .i64 (-1)] ?_; (with_reducible refine (impl_States_reached.calls k1 a0_0 _ _ l0_1 (rd t364 x16_1) (-1) t368 _ ?side1 HC0_1.out A14.out).mono ?_); (case side1 => exact cH HR0_1); rintro e w25 ⟨v369, rfl, ho0, hb⟩; refine ⟨_, rfl, ?_⟩; replace HO_7 := lR HO_7 hb; replace HO_14 := lR HO_14 hb; have HO370 := am (Kd.R_lower (Kd.R_new' ho0 (Kd.R_lt (rP HO_6))) (below_size bB)); replace HO_6 := eR HO_6 ho0 hb; replace BK360 := kb BK360 hb; replace HB := sB hb; obtain ⟨Ao26, co26, eo26⟩ := Kd.R_slice HO370.out; subst eo26; have p371 : 0 ≤ (a1 : Int) := dT; have q371 : a1 < (t368.length : Int) := dT; obtain ⟨ad371, e371, hx371_0⟩ := Kd.at_bool (Kd.R_reads' HO370.out).2.2 a1 p371 q371; (try rw [← Nbq17.out] at hx371_0); cases e371; replace p371 := eq_true p371; replace q371 := eq_true q371))
       go_roundg k1
       case measure => have := HK1.out; omega
       case rel => exact ⟨(x7_1), (wrap64 (x16_1 + 1)), sR, H', ⟨oK⟩, ⟨rF (Kd.R_mono HO_6.out (fun _ hk => trivial))⟩, ⟨rP HO_7⟩, ⟨rP HO_14⟩, ⟨bP BK360⟩, ⟨bB⟩⟩
   · rw [if_neg c11] at H
     have c11b0 := decide_eq_false c11
     clear c11
     replace H := bnd H
     obtain ⟨t375, A27, H⟩ := H
     (try dsimp only at H)
     simp only [Option.some.injEq, Prod.mk.injEq] at H
     obtain ⟨rfl, rfl⟩ := H
     obtain ⟨Ao28, co28, eo28⟩ := Kd.R_slice HO_7.out
     subst eo28
     go_wp2_with (first | ((with_reducible refine gate_callee (f := 43) rfl ?_); refine gL 35 Try.func43 #[.slice Ao8 t361.length co8] ?_; (with_reducible refine (impl_members.calls k1 _ _ t361 t375 _ ?side1 (Kd.R_reads' HO_6.out).2.1 A27.out).mono ?_); (case side1 => exact cB (Kd.R_reads' HO_6.out).2.2); rintro e w29 ⟨v376, rfl, ho0, hb⟩; refine ⟨_, rfl, ?_⟩; replace HO_6 := lR HO_6 hb; have HO377 := am (Kd.R_lower (Kd.R_new' (Kd.R_new' ho0 (Kd.R_lt (rP HO_7))) (Kd.R_lt (rP HO_14))) (below_size bB)); replace HO_7 := eR HO_7 ho0 hb; replace HO_14 := eR HO_14 ho0 hb; replace BK360 := kb BK360 hb; replace HB := sB hb; obtain ⟨Ao30, co30, eo30⟩ := Kd.R_slice HO377.out; subst eo30))
     go_ret2
     exact ⟨_, eW, rF (Kd.R_mono HO_7.out (fun _ hk => trivial)), bB⟩
def impl_States_classes.l0 : Nat → List (List Int) → Int → Int → Int → List (List Int) → Option ((List (List Int)))
 | 0, _, _, _, _, _ => none
 | k + 1, x3, x9, x10, x379000, x379001 => if x10 < x9 then ((impl_States_class.f k x379000 x379001 x10).bind fun bt379 => (if 0 < (bt379.1.length : Int) then (if (rd bt379.1 0) = x10 then (if x3.length < 5864062014805 then (impl_States_classes.l0 k (x3 ++ [bt379.1]) x9 (wrap64 (x10 + 1)) x379000 x379001) else (none)) else (impl_States_classes.l0 k x3 x9 (wrap64 (x10 + 1)) x379000 x379001)) else (none))) else (some x3)
def impl_States_classes.f (k : Nat) (a0_0 : Int) (l0_1 : List (List Int)) : Option ((List (List Int))) := impl_States_classes.l0 k ([] : List (List Int)) (l0_1.length : Int) 0 a0_0 l0_1
set_option maxHeartbeats 8000000 in
set_option maxRecDepth 100000 in
theorem impl_States_classes.calls (k : Nat) (a0_0 : Int) (A0_1 : Option Addr) (c0_1 : Nat) (l0_1 : List (List Int)) (r : List (List Int)) (w : World) (hr0_1 : Kd.C (Kd.slice 3 (Kd.int .i64)) w A0_1 l0_1.length l0_1) (hc0_1 : l0_1.length ≤ c0_1) (h : impl_States_classes.f k a0_0 l0_1 = some r) :
 Calls Try.prog 46 #[.agg #[.int .i64 a0_0, .slice A0_1 l0_1.length c0_1]] w fun e w' => ∃ v0_ : Value, e = .returned (v0_) ∧ Kd.S (Kd.slice 3 (Kd.int .i64)) 29 w' w.heap.size (fun _ => True) v0_ r ∧ Below w.heap.size w w' := by
 have hu26 := Try.underlying26
 have HR0_1 := am hr0_1
 have HC0_1 := am hc0_1
 clear hr0_1 hc0_1
 have HB := am (Below.refl w.heap.size w)
 have H := h
 clear h
 unfold impl_States_classes.f at H
 have H' := am H
 clear H
 go_enter Try.func46, Try.ntmps46
 go_wp2_with (first | ((with_reducible refine gate_dst (N := 1) rfl ?_); refine bE 1 #[.int .i64 a0_0, .slice A0_1 l0_1.length c0_1] 26 ?_; intro gb378 hg w2 hbox hb; have BK378 := am (hbox); have GW378 := gW hg; have GE378 := gW hg; replace HB := sB hb; clear hb hbox hg; obtain ⟨hcz3_0, hcz3_1, hfz3_0, hfz3_1⟩ := cZ BK378))
 go_loopg [3, 10] k (fun kq v3 v10 w' => ∃ (x3_1 : List (List Int)) (x10_1 : Int), v10 = .int .i64 x10_1 ∧ Aside0 (impl_States_classes.l0 kq x3_1 (l0_1.length : Int) x10_1 a0_0 l0_1 = some r) ∧ Aside0 (kq ≤ k) ∧ Aside0 (Kd.S (Kd.slice 3 (Kd.int .i64)) 29 w' w.heap.size (fun _ => True) v3 x3_1) ∧ Aside0 (w'.heap[gb378]? = some (.cells #[.int .i64 a0_0, (.slice A0_1 l0_1.length c0_1)] 26 (0, 0))) ∧ Aside0 (Below w.heap.size w w'))
 case atStart => exact ⟨(([] : List (List Int))), (0), sR, H', ⟨Nat.le_refl _⟩, ⟨nL⟩, ⟨bP BK378⟩, ⟨bB⟩⟩
 case round =>
  clear H'
  obtain ⟨x3_1, x10_1, rfl, HA, HK1, HO_3, BK378, HB⟩ := hrel
  cases gk with
  | zero => exact absurd HA.out (by simp [impl_States_classes.l0])
  | succ k1 =>
   have H := HA.out
   clear HA
   simp only [impl_States_classes.l0] at H
   by_cases c4 : x10_1 < (l0_1.length : Int)
   · rw [if_pos c4] at H
     have c4b0 := decide_eq_true c4
     clear c4
     replace H := bnd H
     obtain ⟨⟨t379, t382⟩, A5, H⟩ := H
     (try dsimp only at H)
     replace H := ifP H
     obtain ⟨c6, H⟩ := H
     have c6b0 := decide_eq_true c6
     have c6b1 : decide (0 < t379.length) = true := decide_eq_true (by omega)
     clear c6
     by_cases c7 : (rd t379 0) = x10_1
     · rw [if_pos c7] at H
       have c7b0 : ((rd t379 0) == x10_1) = true := beq_iff_eq.mpr c7
       have c7b1 : ((rd t379 0) != x10_1) = false := bne_eq_false_iff_eq.mpr c7
       clear c7
       replace H := ifP H
       obtain ⟨c8, H⟩ := H
       have LMc8 := am c8
       clear c8
       generalize hy384 : ((x3_1 ++ [t379]) : List (List Int)) = y384 at H
       (try dsimp only [Option.bind_some] at H)
       have Ny384 := am hy384.symm
       clear hy384
       have H' := am H
       clear H
       obtain ⟨hcz9_0, hcz9_1, hfz9_0, hfz9_1⟩ := cZ BK378
       go_wp2_with (first | ((with_reducible refine gate_callee (f := 50) rfl ?_); refine gL 16 Try.func50 #[.agg #[.int .i64 a0_0, .slice A0_1 l0_1.length c0_1], .int .i64 x10_1] ?_; (with_reducible refine (impl_States_class.calls k1 a0_0 _ _ l0_1 x10_1 t379 t382 _ ?side1 HC0_1.out A5.out).mono ?_); (case side1 => exact cH HR0_1); rintro e w10 ⟨v380, rfl, ho0, hb⟩; refine ⟨_, rfl, ?_⟩; replace HO_3 := eS HO_3 ho0 hb; have HO381 := am (Kd.R_lower ho0 (below_size bB)); replace BK378 := kb BK378 hb; replace HB := sB hb; obtain ⟨Ao11, co11, eo11⟩ := Kd.R_slice HO381.out; subst eo11; have p383 : 0 ≤ (0 : Int) := (by omega); have q383 : 0 < (t379.length : Int) := dT; obtain ⟨ad383, e383, hx383_0⟩ := Kd.at_int (Kd.R_reads' HO381.out).2.2 0 p383 q383; cases e383; have qi383 : (0 < t379.length) = True := eq_true (by omega); (try rw [show ((0 : Int)).toNat = 0 from rfl] at hx383_0); (try rw [Addr.add_zero'] at hx383_0); replace p383 := eq_true p383; replace q383 := eq_true q383) | ((with_reducible refine gate_builtin (b := .append) (xs := #[.tmp 24, .tmp 26]) rfl ?_); at_builtin; refine Kd.S_append (Kd.slice 3 (Kd.int .i64)) (w0 := w) w.heap.size rfl (.tmp 24) (.tmp 26) 24 29 (.slice none 0 0) 24 rfl Try.underlying24 info29 rfl (by decide) (by omega) u3 x3_1 t379 [.slice (some ad383) t379.length co11] (fun _ => True) (fun k_ => some k_ = (.slice (some ad383) t379.length co11 : Value).ownBlock) rfl rfl ?aP (fun k_ hk_ => ((Kd.R_mono (ok' := fun k_ => ((fun _ => True)) k_ ∧ some k_ ≠ (u3 : Value).ownBlock) (Kd.R_apart' (HO381.out) (Kd.S_typed HO_3.out) (by decide)) (fun k_ hk => ⟨trivial, hk.2⟩))).1 k_ hk_.symm) ?aF ?aO ?aB ?aS ?aL ?_; (case aP => exact Kd.M_row (Kd.R_mono (Kd.R_tight rfl (Kd.R_mono (ok' := fun k_ => ((fun _ => True)) k_ ∧ some k_ ≠ (u3 : Value).ownBlock) (Kd.R_apart' (HO381.out) (Kd.S_typed HO_3.out) (by decide)) (fun k_ hk => ⟨trivial, hk.2⟩))) (fun _ h_ => h_))); (case aB => exact bB); (case aF => exact (fun _ _ => trivial)); (case aO => exact (by (with_reducible repeat (first | apply Kd.S_alloc | apply Kd.S_drewN | apply Kd.S_drew)); exact Kd.S_mono HO_3.out (fun k_ hk => ⟨trivial, fun e_ => hk.2 e_⟩))); (case aS => exact (below_size bB)); (case aL => have := LMc8.out; omega); intro v385 w12 ho hb hg hat; rw [← Ny384.out] at ho; replace BK378 := (kg BK378 hg (Kd.S_ne HO_3.out BK378.out (by decide))); replace HB := am (hb); have HO386 := am (ho); clear HO_3 HO381; clear ho hb hg hat))
       go_roundg k1
       case measure => have := HK1.out; omega
       case rel => exact ⟨(y384), (wrap64 (x10_1 + 1)), sR, H', ⟨oK⟩, ⟨rP HO386⟩, ⟨bP BK378⟩, ⟨bB⟩⟩
     · rw [if_neg c7] at H
       have c7b0 : ((rd t379 0) == x10_1) = false := beq_eq_false_iff_ne.mpr c7
       have c7b1 : ((rd t379 0) != x10_1) = true := bne_iff_ne.mpr c7
       have H' := am H
       clear H
       obtain ⟨hcz13_0, hcz13_1, hfz13_0, hfz13_1⟩ := cZ BK378
       go_wp2_with (first | ((with_reducible refine gate_callee (f := 50) rfl ?_); refine gL 16 Try.func50 #[.agg #[.int .i64 a0_0, .slice A0_1 l0_1.length c0_1], .int .i64 x10_1] ?_; (with_reducible refine (impl_States_class.calls k1 a0_0 _ _ l0_1 x10_1 t379 t382 _ ?side1 HC0_1.out A5.out).mono ?_); (case side1 => exact cH HR0_1); rintro e w14 ⟨v380, rfl, ho0, hb⟩; refine ⟨_, rfl, ?_⟩; replace HO_3 := eS HO_3 ho0 hb; have HO381 := am (Kd.R_lower ho0 (below_size bB)); replace BK378 := kb BK378 hb; replace HB := sB hb; obtain ⟨Ao15, co15, eo15⟩ := Kd.R_slice HO381.out; subst eo15; have p383 : 0 ≤ (0 : Int) := (by omega); have q383 : 0 < (t379.length : Int) := dT; obtain ⟨ad383, e383, hx383_0⟩ := Kd.at_int (Kd.R_reads' HO381.out).2.2 0 p383 q383; cases e383; have qi383 : (0 < t379.length) = True := eq_true (by omega); (try rw [show ((0 : Int)).toNat = 0 from rfl] at hx383_0); (try rw [Addr.add_zero'] at hx383_0); replace p383 := eq_true p383; replace q383 := eq_true q383))
       go_roundg k1
       case measure => have := HK1.out; omega
       case rel => exact ⟨(x3_1), (wrap64 (x10_1 + 1)), sR, H', ⟨oK⟩, ⟨sF (Kd.S_mono HO_3.out (fun _ hk => trivial))⟩, ⟨bP BK378⟩, ⟨bB⟩⟩
   · rw [if_neg c4] at H
     have c4b0 := decide_eq_false c4
     clear c4
     obtain rfl := Option.some.inj H
     go_wp2
     go_ret
     exact ⟨_, eW, rP HO_3, bB⟩
def impl_StateClasses.f (k : Nat) (a0_0 : Int) (l0_1 : List (List Int)) : Option ((List (List Int)) × Bool) := (impl_AreStates.f k a0_0 l0_1).bind fun t388 => (if t388 = true then ((impl_States_classes.f k a0_0 l0_1).bind fun t389 => (some (t389, true))) else (some (([] : List (List Int)), false)))
set_option maxHeartbeats 8000000 in
set_option maxRecDepth 100000 in
theorem impl_StateClasses.calls (k : Nat) (a0_0 : Int) (A0_1 : Option Addr) (c0_1 : Nat) (l0_1 : List (List Int)) (r1 : List (List Int)) (r2 : Bool) (w : World) (hr0_1 : Kd.C (Kd.slice 3 (Kd.int .i64)) w A0_1 l0_1.length l0_1) (hc0_1 : l0_1.length ≤ c0_1) (h : impl_StateClasses.f k a0_0 l0_1 = some (r1, r2)) :
 Calls Try.prog 10 #[.agg #[.int .i64 a0_0, .slice A0_1 l0_1.length c0_1]] w fun e w' => ∃ v0_ : Value, e = .returned (.tuple #[v0_, .bool r2]) ∧ Kd.S (Kd.slice 3 (Kd.int .i64)) 29 w' w.heap.size (fun _ => True) v0_ r1 ∧ Below w.heap.size w w' := by
 have hu26 := Try.underlying26
 have HR0_1 := am hr0_1
 have HC0_1 := am hc0_1
 clear hr0_1 hc0_1
 have HB := am (Below.refl w.heap.size w)
 have H := h
 clear h
 unfold impl_StateClasses.f at H
 replace H := bnd H
 obtain ⟨t388, A2, H⟩ := H
 (try dsimp only at H)
 by_cases c3 : t388 = true
 · subst c3
   replace H := ifT H
   replace H := bnd H
   obtain ⟨t389, A4, H⟩ := H
   (try dsimp only at H)
   simp only [Option.some.injEq, Prod.mk.injEq] at H
   obtain ⟨rfl, rfl⟩ := H
   go_enter Try.func10, Try.ntmps10
   go_wp2_with (first | ((with_reducible refine gate_dst (N := 1) rfl ?_); refine bE 1 #[.int .i64 a0_0, .slice A0_1 l0_1.length c0_1] 26 ?_; intro gb387 hg w5 hbox hb; have BK387 := am (hbox); have GW387 := gW hg; have GE387 := gW hg; replace HB := sB hb; clear hb hbox hg; obtain ⟨hcz6_0, hcz6_1, hfz6_0, hfz6_1⟩ := cZ BK387) | ((with_reducible refine gate_callee (f := 22) rfl ?_); refine gL 5 Try.func22 #[.agg #[.int .i64 a0_0, .slice A0_1 l0_1.length c0_1]] ?_; (with_reducible refine (impl_AreStates.calls k a0_0 _ _ l0_1 true _ ?side1 HC0_1.out A2.out).mono ?_); (case side1 => exact cH HR0_1); rintro e w7 ⟨rfl, hb⟩; refine ⟨_, rfl, ?_⟩; replace BK387 := kb BK387 hb; replace HB := sB hb; obtain ⟨hcz8_0, hcz8_1, hfz8_0, hfz8_1⟩ := cZ BK387) | ((with_reducible refine gate_callee (f := 46) rfl ?_); refine gL 8 Try.func46 #[.agg #[.int .i64 a0_0, .slice A0_1 l0_1.length c0_1]] ?_; (with_reducible refine (impl_States_classes.calls k a0_0 _ _ l0_1 t389 _ ?side1 HC0_1.out A4.out).mono ?_); (case side1 => exact cH HR0_1); rintro e w9 ⟨v390, rfl, ho0, hb⟩; refine ⟨_, rfl, ?_⟩; have HO391 := am (Kd.S_lower ho0 (below_size bB)); replace BK387 := kb BK387 hb; replace HB := sB hb))
   go_ret2
   exact ⟨_, eW, rP HO391, bB⟩
 · replace c3 := Bool.eq_false_iff.mpr c3
   subst c3
   replace H := ifF H
   simp only [Option.some.injEq, Prod.mk.injEq] at H
   obtain ⟨rfl, rfl⟩ := H
   go_enter Try.func10, Try.ntmps10
   go_wp2_with (first | ((with_reducible refine gate_dst (N := 1) rfl ?_); refine bE 1 #[.int .i64 a0_0, .slice A0_1 l0_1.length c0_1] 26 ?_; intro gb387 hg w10 hbox hb; have BK387 := am (hbox); have GW387 := gW hg; have GE387 := gW hg; replace HB := sB hb; clear hb hbox hg; obtain ⟨hcz11_0, hcz11_1, hfz11_0, hfz11_1⟩ := cZ BK387) | ((with_reducible refine gate_callee (f := 22) rfl ?_); refine gL 5 Try.func22 #[.agg #[.int .i64 a0_0, .slice A0_1 l0_1.length c0_1]] ?_; (with_reducible refine (impl_AreStates.calls k a0_0 _ _ l0_1 false _ ?side1 HC0_1.out A2.out).mono ?_); (case side1 => exact cH HR0_1); rintro e w12 ⟨rfl, hb⟩; refine ⟨_, rfl, ?_⟩; replace BK387 := kb BK387 hb; replace HB := sB hb))
   go_ret2
   exact ⟨_, eW, nL, bB⟩
def spec_saClass.l0 : Nat → Int → List Int → List Int → Int → Int → Int → List (List Int) → Option (List Int)
 | 0, _, _, _, _, _, _, _ => none
 | k + 1, x1, x5, x10, x11, x12, x393000, x393001 => if x12 < x11 then (if 0 ≤ x12 then (if x12 < (x10.length : Int) then (if (rd x10 x12) ≥ 0 then ((spec_saFar.f k x393000 x393001 x12).bind fun t397 => (if 0 ≤ x1 then (if x1 < (t397.length : Int) then (if (rd t397 x1) ≥ 0 then (if x5.length < 17592186044416 then (spec_saClass.l0 k x1 (x5 ++ [x12]) x10 x11 (wrap64 (x12 + 1)) x393000 x393001) else (none)) else (spec_saClass.l0 k x1 x5 x10 x11 (wrap64 (x12 + 1)) x393000 x393001)) else (none)) else (none))) else (spec_saClass.l0 k x1 x5 x10 x11 (wrap64 (x12 + 1)) x393000 x393001)) else (none)) else (none)) else (some x5)
def spec_saClass.f (k : Nat) (a0_0 : Int) (l0_1 : List (List Int)) (a1 : Int) : Option (List Int) := (spec_saFar.f k a0_0 l0_1 a1).bind fun t393 => (spec_saClass.l0 k a1 ([] : List Int) t393 (t393.length : Int) 0 a0_0 l0_1)
set_option maxHeartbeats 8000000 in
set_option maxRecDepth 100000 in
theorem spec_saClass.calls (k : Nat) (a0_0 : Int) (A0_1 : Option Addr) (c0_1 : Nat) (l0_1 : List (List Int)) (a1 : Int) (r : List Int) (w : World) (hr0_1 : Kd.C (Kd.slice 3 (Kd.int .i64)) w A0_1 l0_1.length l0_1) (hc0_1 : l0_1.length ≤ c0_1) (h : spec_saClass.f k a0_0 l0_1 a1 = some r) :
 Calls Try.prog 48 #[.agg #[.int .i64 a0_0, .slice A0_1 l0_1.length c0_1], .int .i64 a1] w fun e w' => ∃ v0_ : Value, e = .returned (v0_) ∧ Kd.R (Kd.int .i64) 3 w' w.heap.size (fun _ => True) v0_ r ∧ Below w.heap.size w w' := by
 have hu26 := Try.underlying26
 have HR0_1 := am hr0_1
 have HC0_1 := am hc0_1
 clear hr0_1 hc0_1
 have HB := am (Below.refl w.heap.size w)
 have H := h
 clear h
 unfold spec_saClass.f at H
 replace H := bnd H
 obtain ⟨t393, A3, H⟩ := H
 (try dsimp only at H)
 have H' := am H
 clear H
 go_enter Try.func48, Try.ntmps48
 go_wp2_with (first | ((with_reducible refine gate_dst (N := 2) rfl ?_); refine bE 2 #[.int .i64 a0_0, .slice A0_1 l0_1.length c0_1] 26 ?_; intro gb392 hg w4 hbox hb; have BK392 := am (hbox); have GW392 := gW hg; have GE392 := gW hg; replace HB := sB hb; clear hb hbox hg; obtain ⟨hcz5_0, hcz5_1, hfz5_0, hfz5_1⟩ := cZ BK392) | ((with_reducible refine gate_callee (f := 45) rfl ?_); refine gL 10 Try.func45 #[.agg #[.int .i64 a0_0, .slice A0_1 l0_1.length c0_1], .int .i64 a1] ?_; (with_reducible refine (spec_saFar.calls k a0_0 _ _ l0_1 a1 t393 _ ?side1 HC0_1.out A3.out).mono ?_); (case side1 => exact cH HR0_1); rintro e w6 ⟨v394, rfl, ho0, hb⟩; refine ⟨_, rfl, ?_⟩; have HO395 := am (Kd.R_lower ho0 (below_size bB)); replace BK392 := kb BK392 hb; replace HB := sB hb; obtain ⟨Ao7, co7, eo7⟩ := Kd.R_slice HO395.out; subst eo7))
 go_loopg [5, 12] k (fun kq v5 v12 w' => ∃ (x5_1 : List Int) (x12_1 : Int), v12 = .int .i64 x12_1 ∧ Aside0 (spec_saClass.l0 kq a1 x5_1 t393 (t393.length : Int) x12_1 a0_0 l0_1 = some r) ∧ Aside0 (kq ≤ k) ∧ Aside0 (Kd.R (Kd.int .i64) 3 w' w.heap.size (fun k_ => some k_ ≠ ((.slice Ao7 t393.length co7) : Value).ownBlock) v5 x5_1) ∧ Aside0 (Kd.R (Kd.int .i64) 3 w' w.heap.size (fun k_ => some k_ ≠ (v5 : Value).ownBlock) (.slice Ao7 t393.length co7) t393) ∧ Aside0 (w'.heap[gb392]? = some (.cells #[.int .i64 a0_0, (.slice A0_1 l0_1.length c0_1)] 26 (0, 0))) ∧ Aside0 (Below w.heap.size w w'))
 case atStart => exact ⟨(([] : List Int)), (0), sR, H', ⟨Nat.le_refl _⟩, ⟨nL⟩, ⟨by (with_reducible repeat (first | apply Kd.R_alloc | apply Kd.R_drewN | apply Kd.R_drew)); exact Kd.R_mono HO395.out (fun _ hk => (by simp [Value.ownBlock]))⟩, ⟨bP BK392⟩, ⟨bB⟩⟩
 case round =>
  clear H'
  obtain ⟨x5_1, x12_1, rfl, HA, HK1, HO_5, HO_10, BK392, HB⟩ := hrel
  cases gk with
  | zero => exact absurd HA.out (by simp [spec_saClass.l0])
  | succ k1 =>
   have H := HA.out
   clear HA
   simp only [spec_saClass.l0] at H
   by_cases c8 : x12_1 < (t393.length : Int)
   · rw [if_pos c8] at H
     have c8b0 := decide_eq_true c8
     clear c8
     replace H := ifP H
     obtain ⟨c9, H⟩ := H
     have c9b0 := decide_eq_true c9
     clear c9
     replace H := ifP H
     obtain ⟨c10, H⟩ := H
     have c10b0 := decide_eq_true c10
     clear c10
     by_cases c11 : (rd t393 x12_1) ≥ 0
     · rw [if_pos c11] at H
       have c11b0 : decide (0 ≤ (rd t393 x12_1)) = true := decide_eq_true c11
       clear c11
       replace H := bnd H
       obtain ⟨t397, A12, H⟩ := H
       (try dsimp only at H)
       replace H := ifP H
       obtain ⟨c13, H⟩ := H
       have c13b0 := decide_eq_true c13
       clear c13
       replace H := ifP H
       obtain ⟨c14, H⟩ := H
       have c14b0 := decide_eq_true c14
       clear c14
       by_cases c15 : (rd t397 a1) ≥ 0
       · rw [if_pos c15] at H
         have c15b0 : decide (0 ≤ (rd t397 a1)) = true := decide_eq_true c15
         clear c15
         replace H := ifP H
         obtain ⟨c16, H⟩ := H
         have LMc16 := am c16
         clear c16
         generalize hy401 : ((x5_1 ++ [x12_1]) : List Int) = y401 at H
         (try dsimp only [Option.bind_some] at H)
         have Ny401 := am hy401.symm
         clear hy401
         have H' := am H
         clear H
         have p396 : 0 ≤ (x12_1 : Int) := dT
         have q396 : x12_1 < (t393.length : Int) := dT
         obtain ⟨ad396, e396, hx396_0⟩ := Kd.at_int (Kd.R_reads' HO_10.out).2.2 x12_1 p396 q396
         cases e396
         replace p396 := eq_true p396
         replace q396 := eq_true q396
         obtain ⟨hcz17_0, hcz17_1, hfz17_0, hfz17_1⟩ := cZ BK392
         go_wp2_with (first | (go_at_call 45; (with_reducible refine (spec_saFar.calls k1 a0_0 _ _ l0_1 x12_1 t397 _ ?side1 HC0_1.out A12.out).mono ?_); (case side1 => exact cH HR0_1); rintro e w18 ⟨v398, rfl, ho0, hb⟩; have HO399 := am (Kd.R_lower (Kd.R_new' (Kd.R_new' ho0 (Kd.R_lt (rP HO_5))) (Kd.R_lt (rP HO_10))) (below_size bB)); replace HO_5 := eR HO_5 ho0 hb; replace HO_10 := eR HO_10 ho0 hb; replace BK392 := kb BK392 hb; replace HB := sB hb; obtain ⟨Ao19, co19, eo19⟩ := Kd.R_slice HO399.out; subst eo19; have p400 : 0 ≤ (a1 : Int) := dT; have q400 : a1 < (t397.length : Int) := dT; obtain ⟨ad400, e400, hx400_0⟩ := Kd.at_int (Kd.R_reads' HO399.out).2.2 a1 p400 q400; cases e400; replace p400 := eq_true p400; replace q400 := eq_true q400) | ((with_reducible refine gate_builtin (b := .append) (xs := #[.tmp 28, .tmp 30]) rfl ?_); at_builtin; refine Kd.R_append (Kd.int .i64) (w0 := w) w.heap.size rfl (.tmp 28) (.tmp 30) 29 3 (.int .i64 0) 8 rfl Try.underlying29 info3 rfl (by decide) (by omega) u5 x5_1 x12_1 [.int .i64 x12_1] (fun k_ => some k_ ≠ (.slice (some ad396) t393.length co7 : Value).ownBlock ∧ some k_ ≠ (.slice (some ad400) t397.length co19 : Value).ownBlock) (fun _ => False) rfl rfl ?aP (fun _ hk => hk.elim) ?aF ?aO ?aB ?aS ?aL ?_; (case aP => exact rfl); (case aB => exact bB); (case aF => exact (fun k_ hk => ⟨Kd.fresh' (Kd.R_lt (rP HO_10)) k_ hk, Kd.fresh' (Kd.R_lt (rP HO399)) k_ hk⟩)); (case aO => exact (rP HO_5)); (case aS => exact (below_size bB)); (case aL => have := LMc16.out; omega); intro v402 w20 ho hb hg hat; rw [← Ny401.out] at ho; replace HO_10 := am (Kd.R_after (ok := (fun k_ => some k_ ≠ (.slice (some ad400) t397.length co19 : Value).ownBlock)) (by (with_reducible repeat (first | apply Kd.R_alloc | apply Kd.R_drewN | apply Kd.R_drew)); exact Kd.R_mono HO_10.out (fun _ hk => ⟨hk.2, hk.1⟩)) hg hat); replace BK392 := (kg BK392 hg (Kd.R_ne HO_5.out BK392.out (by decide))); replace HO399 := am (Kd.R_after (ok := (fun k_ => some k_ ≠ (.slice (some ad396) t393.length co7 : Value).ownBlock)) (by (with_reducible repeat (first | apply Kd.R_alloc | apply Kd.R_drewN | apply Kd.R_drew)); exact Kd.R_mono HO399.out (fun _ hk => ⟨hk.2, hk.1.2⟩)) hg hat); replace HB := am (hb); have HO403 := am (ho); clear HO_5; clear ho hb hg hat))
         go_roundg k1
         case measure => have := HK1.out; omega
         case rel => exact ⟨(y401), (wrap64 (x12_1 + 1)), sR, H', ⟨oK⟩, ⟨rF (Kd.R_mono HO403.out (fun _ hk => hk.1))⟩, ⟨rF (Kd.R_mono HO_10.out (fun _ hk => hk.2))⟩, ⟨bP BK392⟩, ⟨bB⟩⟩
       · rw [if_neg c15] at H
         have c15b0 : decide (0 ≤ (rd t397 a1)) = false := decide_eq_false c15
         clear c15
         have H' := am H
         clear H
         have p396 : 0 ≤ (x12_1 : Int) := dT
         have q396 : x12_1 < (t393.length : Int) := dT
         obtain ⟨ad396, e396, hx396_0⟩ := Kd.at_int (Kd.R_reads' HO_10.out).2.2 x12_1 p396 q396
         cases e396
         replace p396 := eq_true p396
         replace q396 := eq_true q396
         obtain ⟨hcz21_0, hcz21_1, hfz21_0, hfz21_1⟩ := cZ BK392
         go_wp2_with (first | (go_at_call 45; (with_reducible refine (spec_saFar.calls k1 a0_0 _ _ l0_1 x12_1 t397 _ ?side1 HC0_1.out A12.out).mono ?_); (case side1 => exact cH HR0_1); rintro e w22 ⟨v398, rfl, ho0, hb⟩; have HO399 := am (Kd.R_lower (Kd.R_new' (Kd.R_new' ho0 (Kd.R_lt (rP HO_5))) (Kd.R_lt (rP HO_10))) (below_size bB)); replace HO_5 := eR HO_5 ho0 hb; replace HO_10 := eR HO_10 ho0 hb; replace BK392 := kb BK392 hb; replace HB := sB hb; obtain ⟨Ao23, co23, eo23⟩ := Kd.R_slice HO399.out; subst eo23; have p400 : 0 ≤ (a1 : Int) := dT; have q400 : a1 < (t397.length : Int) := dT; obtain ⟨ad400, e400, hx400_0⟩ := Kd.at_int (Kd.R_reads' HO399.out).2.2 a1 p400 q400; cases e400; replace p400 := eq_true p400; replace q400 := eq_true q400))
         go_roundg k1
         case measure => have := HK1.out; omega
         case rel => exact ⟨(x5_1), (wrap64 (x12_1 + 1)), sR, H', ⟨oK⟩, ⟨rF (Kd.R_mono HO_5.out (fun _ hk => hk.1))⟩, ⟨rF (Kd.R_mono HO_10.out (fun _ hk => hk.1))⟩, ⟨bP BK392⟩, ⟨bB⟩⟩
     · rw [if_neg c11] at H
       have c11b0 : decide (0 ≤ (rd t393 x12_1)) = false := decide_eq_false c11
       clear c11
       have H' := am H
       clear H
       have p396 : 0 ≤ (x12_1 : Int) := dT
       have q396 : x12_1 < (t393.length : Int) := dT
       obtain ⟨ad396, e396, hx396_0⟩ := Kd.at_int (Kd.R_reads' HO_10.out).2.2 x12_1 p396 q396
       cases e396
       replace p396 := eq_true p396
       replace q396 := eq_true q396
       go_wp2
       go_roundg k1
       case measure => have := HK1.out; omega
       case rel => exact ⟨(x5_1), (wrap64 (x12_1 + 1)), sR, H', ⟨oK⟩, ⟨rP HO_5⟩, ⟨rP HO_10⟩, ⟨bP BK392⟩, ⟨bB⟩⟩
   · rw [if_neg c8] at H
     have c8b0 := decide_eq_false c8
     clear c8
     obtain rfl := Option.some.inj H
     go_wp2
     go_ret
     exact ⟨_, eW, rF (Kd.R_mono HO_5.out (fun _ hk => trivial)), bB⟩
def spec_StateClasses.l0 : Nat → List (List Int) → Int → Int → Int → List (List Int) → Option ((List (List Int)) × Bool)
 | 0, _, _, _, _, _ => none
 | k + 1, x4, x12, x13, x405000, x405001 => if x13 < x12 then ((spec_saClass.f k x405000 x405001 x13).bind fun t406 => (if 0 < (t406.length : Int) then (if (rd t406 0) = x13 then (if x4.length < 5864062014805 then (spec_StateClasses.l0 k (x4 ++ [t406]) x12 (wrap64 (x13 + 1)) x405000 x405001) else (none)) else (spec_StateClasses.l0 k x4 x12 (wrap64 (x13 + 1)) x405000 x405001)) else (none))) else (some (x4, true))
def spec_StateClasses.f (k : Nat) (a0_0 : Int) (l0_1 : List (List Int)) : Option ((List (List Int)) × Bool) := (spec_saGood.f k a0_0 l0_1).bind fun t405 => (if t405 = true then (spec_StateClasses.l0 k ([] : List (List Int)) (l0_1.length : Int) 0 a0_0 l0_1) else (some (([] : List (List Int)), false)))
set_option maxHeartbeats 8000000 in
set_option maxRecDepth 100000 in
theorem spec_StateClasses.calls (k : Nat) (a0_0 : Int) (A0_1 : Option Addr) (c0_1 : Nat) (l0_1 : List (List Int)) (r1 : List (List Int)) (r2 : Bool) (w : World) (hr0_1 : Kd.C (Kd.slice 3 (Kd.int .i64)) w A0_1 l0_1.length l0_1) (hc0_1 : l0_1.length ≤ c0_1) (h : spec_StateClasses.f k a0_0 l0_1 = some (r1, r2)) :
 Calls Try.prog 11 #[.agg #[.int .i64 a0_0, .slice A0_1 l0_1.length c0_1]] w fun e w' => ∃ v0_ : Value, e = .returned (.tuple #[v0_, .bool r2]) ∧ Kd.S (Kd.slice 3 (Kd.int .i64)) 29 w' w.heap.size (fun _ => True) v0_ r1 ∧ Below w.heap.size w w' := by
 have hu26 := Try.underlying26
 have HR0_1 := am hr0_1
 have HC0_1 := am hc0_1
 clear hr0_1 hc0_1
 have HB := am (Below.refl w.heap.size w)
 have H := h
 clear h
 unfold spec_StateClasses.f at H
 replace H := bnd H
 obtain ⟨t405, A2, H⟩ := H
 (try dsimp only at H)
 by_cases c3 : t405 = true
 · subst c3
   replace H := ifT H
   have H' := am H
   clear H
   go_enter Try.func11, Try.ntmps11
   go_wp2_with (first | ((with_reducible refine gate_dst (N := 1) rfl ?_); refine bE 1 #[.int .i64 a0_0, .slice A0_1 l0_1.length c0_1] 26 ?_; intro gb404 hg w4 hbox hb; have BK404 := am (hbox); have GW404 := gW hg; have GE404 := gW hg; replace HB := sB hb; clear hb hbox hg; obtain ⟨hcz5_0, hcz5_1, hfz5_0, hfz5_1⟩ := cZ BK404) | ((with_reducible refine gate_callee (f := 47) rfl ?_); refine gL 8 Try.func47 #[.agg #[.int .i64 a0_0, .slice A0_1 l0_1.length c0_1]] ?_; (with_reducible refine (spec_saGood.calls k a0_0 _ _ l0_1 true _ ?side1 HC0_1.out A2.out).mono ?_); (case side1 => exact cH HR0_1); rintro e w6 ⟨rfl, hb⟩; refine ⟨_, rfl, ?_⟩; replace BK404 := kb BK404 hb; replace HB := sB hb; obtain ⟨hcz7_0, hcz7_1, hfz7_0, hfz7_1⟩ := cZ BK404))
   go_loopg [4, 13] k (fun kq v4 v13 w' => ∃ (x4_1 : List (List Int)) (x13_1 : Int), v13 = .int .i64 x13_1 ∧ Aside0 (spec_StateClasses.l0 kq x4_1 (l0_1.length : Int) x13_1 a0_0 l0_1 = some (r1, r2)) ∧ Aside0 (kq ≤ k) ∧ Aside0 (Kd.S (Kd.slice 3 (Kd.int .i64)) 29 w' w.heap.size (fun _ => True) v4 x4_1) ∧ Aside0 (w'.heap[gb404]? = some (.cells #[.int .i64 a0_0, (.slice A0_1 l0_1.length c0_1)] 26 (0, 0))) ∧ Aside0 (Below w.heap.size w w'))
   case atStart => exact ⟨(([] : List (List Int))), (0), sR, H', ⟨Nat.le_refl _⟩, ⟨nL⟩, ⟨bP BK404⟩, ⟨bB⟩⟩
   case round =>
    clear H'
    obtain ⟨x4_1, x13_1, rfl, HA, HK1, HO_4, BK404, HB⟩ := hrel
    cases gk with
    | zero => exact absurd HA.out (by simp [spec_StateClasses.l0])
    | succ k1 =>
     have H := HA.out
     clear HA
     simp only [spec_StateClasses.l0] at H
     by_cases c8 : x13_1 < (l0_1.length : Int)
     · rw [if_pos c8] at H
       have c8b0 := decide_eq_true c8
       clear c8
       replace H := bnd H
       obtain ⟨t406, A9, H⟩ := H
       (try dsimp only at H)
       replace H := ifP H
       obtain ⟨c10, H⟩ := H
       have c10b0 := decide_eq_true c10
       have c10b1 : decide (0 < t406.length) = true := decide_eq_true (by omega)
       clear c10
       by_cases c11 : (rd t406 0) = x13_1
       · rw [if_pos c11] at H
         have c11b0 : ((rd t406 0) == x13_1) = true := beq_iff_eq.mpr c11
         have c11b1 : ((rd t406 0) != x13_1) = false := bne_eq_false_iff_eq.mpr c11
         clear c11
         replace H := ifP H
         obtain ⟨c12, H⟩ := H
         have LMc12 := am c12
         clear c12
         generalize hy410 : ((x4_1 ++ [t406]) : List (List Int)) = y410 at H
         (try dsimp only [Option.bind_some] at H)
         have Ny410 := am hy410.symm
         clear hy410
         have H' := am H
         clear H
         obtain ⟨hcz13_0, hcz13_1, hfz13_0, hfz13_1⟩ := cZ BK404
         go_wp2_with (first | ((with_reducible refine gate_callee (f := 48) rfl ?_); refine gL 18 Try.func48 #[.agg #[.int .i64 a0_0, .slice A0_1 l0_1.length c0_1], .int .i64 x13_1] ?_; (with_reducible refine (spec_saClass.calls k1 a0_0 _ _ l0_1 x13_1 t406 _ ?side1 HC0_1.out A9.out).mono ?_); (case side1 => exact cH HR0_1); rintro e w14 ⟨v407, rfl, ho0, hb⟩; refine ⟨_, rfl, ?_⟩; replace HO_4 := eS HO_4 ho0 hb; have HO408 := am (Kd.R_lower ho0 (below_size bB)); replace BK404 := kb BK404 hb; replace HB := sB hb; obtain ⟨Ao15, co15, eo15⟩ := Kd.R_slice HO408.out; subst eo15; have p409 : 0 ≤ (0 : Int) := (by omega); have q409 : 0 < (t406.length : Int) := dT; obtain ⟨ad409, e409, hx409_0⟩ := Kd.at_int (Kd.R_reads' HO408.out).2.2 0 p409 q409; cases e409; have qi409 : (0 < t406.length) = True := eq_true (by omega); (try rw [show ((0 : Int)).toNat = 0 from rfl] at hx409_0); (try rw [Addr.add_zero'] at hx409_0); replace p409 := eq_true p409; replace q409 := eq_true q409) | ((with_reducible refine gate_builtin (b := .append) (xs := #[.tmp 24, .tmp 26]) rfl ?_); at_builtin; refine Kd.S_append (Kd.slice 3 (Kd.int .i64)) (w0 := w) w.heap.size rfl (.tmp 24) (.tmp 26) 24 29 (.slice none 0 0) 24 rfl Try.underlying24 info29 rfl (by decide) (by omega) u4 x4_1 t406 [.slice (some ad409) t406.length co15] (fun _ => True) (fun k_ => some k_ = (.slice (some ad409) t406.length co15 : Value).ownBlock) rfl rfl ?aP (fun k_ hk_ => ((Kd.R_mono (ok' := fun k_ => ((fun _ => True)) k_ ∧ some k_ ≠ (u4 : Value).ownBlock) (Kd.R_apart' (HO408.out) (Kd.S_typed HO_4.out) (by decide)) (fun k_ hk => ⟨trivial, hk.2⟩))).1 k_ hk_.symm) ?aF ?aO ?aB ?aS ?aL ?_; (case aP => exact Kd.M_row (Kd.R_mono (Kd.R_tight rfl (Kd.R_mono (ok' := fun k_ => ((fun _ => True)) k_ ∧ some k_ ≠ (u4 : Value).ownBlock) (Kd.R_apart' (HO408.out) (Kd.S_typed HO_4.out) (by decide)) (fun k_ hk => ⟨trivial, hk.2⟩))) (fun _ h_ => h_))); (case aB => exact bB); (case aF => exact (fun _ _ => trivial)); (case aO => exact (by (with_reducible repeat (first | apply Kd.S_alloc | apply Kd.S_drewN | apply Kd.S_drew)); exact Kd.S_mono HO_4.out (fun k_ hk => ⟨trivial, fun e_ => hk.2 e_⟩))); (case aS => exact (below_size bB)); (case aL => have := LMc12.out; omega); intro v411 w16 ho hb hg hat; rw [← Ny410.out] at ho; replace BK404 := (kg BK404 hg (Kd.S_ne HO_4.out BK404.out (by decide))); replace HB := am (hb); have HO412 := am (ho); clear HO_4 HO408; clear ho hb hg hat))
         go_roundg k1
         case measure => have := HK1.out; omega
         case rel => exact ⟨(y410), (wrap64 (x13_1 + 1)), sR, H', ⟨oK⟩, ⟨rP HO412⟩, ⟨bP BK404⟩, ⟨bB⟩⟩
       · rw [if_neg c11] at H
         have c11b0 : ((rd t406 0) == x13_1) = false := beq_eq_false_iff_ne.mpr c11
         have c11b1 : ((rd t406 0) != x13_1) = true := bne_iff_ne.mpr c11
         have H' := am H
         clear H
         obtain ⟨hcz17_0, hcz17_1, hfz17_0, hfz17_1⟩ := cZ BK404
         go_wp2_with (first | ((with_reducible refine gate_callee (f := 48) rfl ?_); refine gL 18 Try.func48 #[.agg #[.int .i64 a0_0, .slice A0_1 l0_1.length c0_1], .int .i64 x13_1] ?_; (with_reducible refine (spec_saClass.calls k1 a0_0 _ _ l0_1 x13_1 t406 _ ?side1 HC0_1.out A9.out).mono ?_); (case side1 => exact cH HR0_1); rintro e w18 ⟨v407, rfl, ho0, hb⟩; refine ⟨_, rfl, ?_⟩; replace HO_4 := eS HO_4 ho0 hb; have HO408 := am (Kd.R_lower ho0 (below_size bB)); replace BK404 := kb BK404 hb; replace HB := sB hb; obtain ⟨Ao19, co19, eo19⟩ := Kd.R_slice HO408.out; subst eo19; have p409 : 0 ≤ (0 : Int) := (by omega); have q409 : 0 < (t406.length : Int) := dT; obtain ⟨ad409, e409, hx409_0⟩ := Kd.at_int (Kd.R_reads' HO408.out).2.2 0 p409 q409; cases e409; have qi409 : (0 < t406.length) = True := eq_true (by omega); (try rw [show ((0 : Int)).toNat = 0 from rfl] at hx409_0); (try rw [Addr.add_zero'] at hx409_0); replace p409 := eq_true p409; replace q409 := eq_true q409))
         go_roundg k1
         case measure => have := HK1.out; omega
         case rel => exact ⟨(x4_1), (wrap64 (x13_1 + 1)), sR, H', ⟨oK⟩, ⟨sF (Kd.S_mono HO_4.out (fun _ hk => trivial))⟩, ⟨bP BK404⟩, ⟨bB⟩⟩
     · rw [if_neg c8] at H
       have c8b0 := decide_eq_false c8
       clear c8
       simp only [Option.some.injEq, Prod.mk.injEq] at H
       obtain ⟨rfl, rfl⟩ := H
       go_wp2
       go_ret2
       exact ⟨_, eW, rP HO_4, bB⟩
 · replace c3 := Bool.eq_false_iff.mpr c3
   subst c3
   replace H := ifF H
   simp only [Option.some.injEq, Prod.mk.injEq] at H
   obtain ⟨rfl, rfl⟩ := H
   go_enter Try.func11, Try.ntmps11
   go_wp2_with (first | ((with_reducible refine gate_dst (N := 1) rfl ?_); refine bE 1 #[.int .i64 a0_0, .slice A0_1 l0_1.length c0_1] 26 ?_; intro gb404 hg w20 hbox hb; have BK404 := am (hbox); have GW404 := gW hg; have GE404 := gW hg; replace HB := sB hb; clear hb hbox hg; obtain ⟨hcz21_0, hcz21_1, hfz21_0, hfz21_1⟩ := cZ BK404) | ((with_reducible refine gate_callee (f := 47) rfl ?_); refine gL 8 Try.func47 #[.agg #[.int .i64 a0_0, .slice A0_1 l0_1.length c0_1]] ?_; (with_reducible refine (spec_saGood.calls k a0_0 _ _ l0_1 false _ ?side1 HC0_1.out A2.out).mono ?_); (case side1 => exact cH HR0_1); rintro e w22 ⟨rfl, hb⟩; refine ⟨_, rfl, ?_⟩; replace BK404 := kb BK404 hb; replace HB := sB hb))
   go_ret2
   exact ⟨_, eW, nL, bB⟩
def impl_IsOneClass.f (k : Nat) (a0_0 : Int) (l0_1 : List (List Int)) : Option (Bool × Bool) := (impl_AreStates.f k a0_0 l0_1).bind fun t414 => (if t414 = true then ((impl_States_classes.f k a0_0 l0_1).bind fun t415 => (some (((t415.length : Int) == 1), true))) else (some (false, false)))
set_option maxHeartbeats 8000000 in
set_option maxRecDepth 100000 in
theorem impl_IsOneClass.calls (k : Nat) (a0_0 : Int) (A0_1 : Option Addr) (c0_1 : Nat) (l0_1 : List (List Int)) (r1 : Bool) (r2 : Bool) (w : World) (hr0_1 : Kd.C (Kd.slice 3 (Kd.int .i64)) w A0_1 l0_1.length l0_1) (hc0_1 : l0_1.length ≤ c0_1) (h : impl_IsOneClass.f k a0_0 l0_1 = some (r1, r2)) :
 Calls Try.prog 12 #[.agg #[.int .i64 a0_0, .slice A0_1 l0_1.length c0_1]] w fun e w' => e = .returned (.tuple #[.bool r1, .bool r2]) ∧ Below w.heap.size w w' := by
 have hu26 := Try.underlying26
 have HR0_1 := am hr0_1
 have HC0_1 := am hc0_1
 clear hr0_1 hc0_1
 have HB := am (Below.refl w.heap.size w)
 have H := h
 clear h
 unfold impl_IsOneClass.f at H
 replace H := bnd H
 obtain ⟨t414, A2, H⟩ := H
 (try dsimp only at H)
 by_cases c3 : t414 = true
 · subst c3
   replace H := ifT H
   replace H := bnd H
   obtain ⟨t415, A4, H⟩ := H
   (try dsimp only at H)
   simp only [Option.some.injEq, Prod.mk.injEq] at H
   obtain ⟨rfl, rfl⟩ := H
   go_enter Try.func12, Try.ntmps12
   go_wp2_with (first | ((with_reducible refine gate_dst (N := 1) rfl ?_); refine bE 1 #[.int .i64 a0_0, .slice A0_1 l0_1.length c0_1] 26 ?_; intro gb413 hg w5 hbox hb; have BK413 := am (hbox); have GW413 := gW hg; have GE413 := gW hg; replace HB := sB hb; clear hb hbox hg; obtain ⟨hcz6_0, hcz6_1, hfz6_0, hfz6_1⟩ := cZ BK413) | ((with_reducible refine gate_callee (f := 22) rfl ?_); refine gL 5 Try.func22 #[.agg #[.int .i64 a0_0, .slice A0_1 l0_1.length c0_1]] ?_; (with_reducible refine (impl_AreStates.calls k a0_0 _ _ l0_1 true _ ?side1 HC0_1.out A2.out).mono ?_); (case side1 => exact cH HR0_1); rintro e w7 ⟨rfl, hb⟩; refine ⟨_, rfl, ?_⟩; replace BK413 := kb BK413 hb; replace HB := sB hb; obtain ⟨hcz8_0, hcz8_1, hfz8_0, hfz8_1⟩ := cZ BK413) | ((with_reducible refine gate_callee (f := 46) rfl ?_); refine gL 8 Try.func46 #[.agg #[.int .i64 a0_0, .slice A0_1 l0_1.length c0_1]] ?_; (with_reducible refine (impl_States_classes.calls k a0_0 _ _ l0_1 t415 _ ?side1 HC0_1.out A4.out).mono ?_); (case side1 => exact cH HR0_1); rintro e w9 ⟨v416, rfl, ho0, hb⟩; refine ⟨_, rfl, ?_⟩; have HO417 := am (Kd.S_lower ho0 (below_size bB)); replace BK413 := kb BK413 hb; replace HB := sB hb; obtain ⟨Ao10, co10, eo10⟩ := Kd.S_slice HO417.out; subst eo10))
   go_ret2
   exact ⟨eW, bB⟩
 · replace c3 := Bool.eq_false_iff.mpr c3
   subst c3
   replace H := ifF H
   simp only [Option.some.injEq, Prod.mk.injEq] at H
   obtain ⟨rfl, rfl⟩ := H
   go_enter Try.func12, Try.ntmps12
   go_wp2_with (first | ((with_reducible refine gate_dst (N := 1) rfl ?_); refine bE 1 #[.int .i64 a0_0, .slice A0_1 l0_1.length c0_1] 26 ?_; intro gb413 hg w11 hbox hb; have BK413 := am (hbox); have GW413 := gW hg; have GE413 := gW hg; replace HB := sB hb; clear hb hbox hg; obtain ⟨hcz12_0, hcz12_1, hfz12_0, hfz12_1⟩ := cZ BK413) | ((with_reducible refine gate_callee (f := 22) rfl ?_); refine gL 5 Try.func22 #[.agg #[.int .i64 a0_0, .slice A0_1 l0_1.length c0_1]] ?_; (with_reducible refine (impl_AreStates.calls k a0_0 _ _ l0_1 false _ ?side1 HC0_1.out A2.out).mono ?_); (case side1 => exact cH HR0_1); rintro e w13 ⟨rfl, hb⟩; refine ⟨_, rfl, ?_⟩; replace BK413 := kb BK413 hb; replace HB := sB hb))
   go_ret2
   exact ⟨eW, bB⟩
end Go.Proofs.Ytkkjnmnjbmfpaaa.PFnStatesStep
