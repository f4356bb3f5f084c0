-- written by a program of this session (the kit's print with turns of the session's own)
import Derived.Test.YtkkjnmnjbmfpaaaPFnStatesStepx0
import Derived.Test.YtkkjnmnjbmfpaaaHp
import Derived.Test.YtkkjnmnjbmfpaaaPFnStatesStepx2
import Derived.Test.YtkkjnmnjbmfpaaaPFnStatesStepx3
namespace Go.Proofs.Ytkkjnmnjbmfpaaa.PFnStatesStep
open Go.RowKit Go.Proofs.YtkkjnmnjbmfpaaaW.PrintWords Go.Proofs.YtkkjnmnjbmfpaaaW.PrintLast Go.Proofs.YtkkjnmnjbmfpaaaW.PrintMore
attribute [local go_sem] Instr.field asAgg part max2_int min2_int max_two min_two max_three min_three max_four min_four
set_option linter.unusedVariables false
set_option linter.unusedSimpArgs false
mutual
def impl_StatesAfter.j0 : Nat → Int → Int → Bool → Int → List (List Int) → Option (List Int × Int × Bool)
 | 0, _, _, _, _, _ => none
 | k + 1, x1, x2, x20, x255000, x255001 => if x20 = true then (some (([] : List Int), 0, false)) else ((impl_States_only.f x255000 x255001 x1).bind fun t260 => (impl_StatesAfter.l0 k t260 1 x2 0 x255000 x255001))
def impl_StatesAfter.l0 : Nat → List Int → Int → Int → Int → Int → List (List Int) → Option (List Int × Int × Bool)
 | 0, _, _, _, _, _, _ => none
 | k + 1, x9, x10, x24, x25, x255000, x255001 => if x25 < x24 then ((impl_States_step.f k x255000 x255001 x9).bind fun t263 => (impl_StatesAfter.l0 k t263 (wrap64 (x10 * x255000)) x24 (wrap64 (x25 + 1)) x255000 x255001)) else (some (x9, x10, true))
end
def impl_StatesAfter.f (k : Nat) (a0_0 : Int) (l0_1 : List (List Int)) (a1 : Int) (a2 : Int) : Option (List Int × Int × Bool) := (impl_areWith.f k a0_0 l0_1 (([a1] : List Int))).bind fun t258 => (if t258 = true then ((impl_within.f a2 0 8).bind fun t259 => (impl_StatesAfter.j0 k a1 a2 (!t259) a0_0 l0_1)) else (impl_StatesAfter.j0 k a1 a2 true a0_0 l0_1))
set_option maxHeartbeats 8000000 in
set_option maxRecDepth 100000 in
theorem impl_StatesAfter.calls (k : Nat) (a0_0 : Int) (A0_1 : Option Addr) (c0_1 : Nat) (l0_1 : List (List Int)) (a1 : Int) (a2 : Int) (r1 : List Int) (r2 : Int) (r3 : Bool) (w : World) (hr0_1 : Kd.C (Kd.slice 3 (Kd.int .i64)) w A0_1 l0_1.length l0_1) (hc0_1 : l0_1.length ≤ c0_1) (h : impl_StatesAfter.f k a0_0 l0_1 a1 a2 = some (r1, r2, r3)) :
 Calls Try.prog 6 #[.agg #[.int .i64 a0_0, .slice A0_1 l0_1.length c0_1], .int .i64 a1, .int .i64 a2] w fun e w' => ∃ v0_ : Value, e = .returned (.tuple #[v0_, .int .i64 r2, .bool r3]) ∧ Kd.R (Kd.int .i64) 3 w' w.heap.size (fun _ => True) v0_ r1 ∧ Below w.heap.size w w' := by
 have hu26 := Try.underlying26
 have HR0_1 := am hr0_1
 have HC0_1 := am hc0_1
 clear hr0_1 hc0_1
 have HB := am (Below.refl w.heap.size w)
 have H := h
 clear h
 unfold impl_StatesAfter.f at H
 have HC4 := am H
 clear H
 go_enter Try.func6, Try.ntmps6
 go_upto_region 1 with (first | ((with_reducible refine gate_dst (N := 3) rfl ?_); refine bE 3 #[.int .i64 a0_0, .slice A0_1 l0_1.length c0_1] 26 ?_; intro gb254 hg w5 hbox hb; have BK254 := am (hbox); have GW254 := gW hg; have GE254 := gW hg; replace HB := sB hb; clear hb hbox hg))
 (try simp only [Act.put, List.setIfInBounds_toArray, List.set_cons_zero, List.set_cons_succ])
 go_cut [20] (fun v20 wc => ∃ (kq : Nat) (x20_3 : Bool), v20 = .bool x20_3 ∧ Aside0 (impl_StatesAfter.j0 kq a1 a2 x20_3 a0_0 l0_1 = some (r1, r2, r3)) ∧ Aside0 (kq ≤ k) ∧ Aside0 (wc.heap[gb254]? = some (.cells #[.int .i64 a0_0, (.slice A0_1 l0_1.length c0_1)] 26 (0, 0))) ∧ Aside0 (Below w.heap.size w wc))
 case first =>
  have H := HC4.out
  clear HC4
  generalize hy255 : ((([a1] : List Int)) : List Int) = y255 at H
  (try dsimp only [Option.bind_some] at H)
  have Ny255 := am hy255.symm
  clear hy255
  replace H := bnd H
  obtain ⟨t258, A6, H⟩ := H
  (try dsimp only at H)
  by_cases c7 : t258 = true
  · subst c7
    replace H := ifT H
    replace H := bnd H
    obtain ⟨t259, A8, H⟩ := H
    (try dsimp only at H)
    have H' := am H
    clear H
    obtain ⟨hcz9_0, hcz9_1, hfz9_0, hfz9_1⟩ := cZ BK254
    go_wp2_with (first | ((with_reducible refine gate_dst (N := 13) rfl ?_); refine Kd.R_lit (Kd.int .i64) _ 3 ?hg (N := 13) ?hd (xs := ([a1] : List Int)) (inner := [.int .i64 a1]) (ok := fun _ => True) (okp := fun _ => True) ?hr ?hp (fun _ hk => hk) trivial (Below.refl _ _) (Nat.le_refl _) (by simp) ?_; (case hd => rfl); (case hg => rfl); (case hr => first | (go_simp; done) | (go_simp; rfl)); (case hp => exact (Reps.one (show Kd.M (Kd.int .i64) _ _ _ a1 [.int .i64 a1] from rfl) (Reps.none _ _))); intro v256 w10 ho11 hb hg_ hnew_; clear hg_ hnew_; (first | rw [← Ny255.out] at ho11 | (simp only [Int.reduceToNat] at ho11; rw [← Ny255.out] at ho11)); have HO257 := am (Kd.R_lower ho11 (below_size bB)); replace BK254 := kb BK254 hb; replace HB := sB hb; clear hb ho11; obtain ⟨Ao12, co12, eo12⟩ := Kd.R_slice HO257.out; subst eo12) | ((with_reducible refine gate_callee (f := 36) rfl ?_); refine gL 14 Try.func36 #[.agg #[.int .i64 a0_0, .slice A0_1 l0_1.length c0_1], .slice Ao12 y255.length co12] ?_; (with_reducible refine (impl_areWith.calls k a0_0 _ _ l0_1 _ _ y255 true _ ?side1 HC0_1.out ?side3 (Kd.R_reads' HO257.out).2.1 A6.out).mono ?_); (case side1 => exact cH HR0_1); (case side3 => exact cB (Kd.R_reads' HO257.out).2.2); rintro e w13 ⟨rfl, hb⟩; refine ⟨_, rfl, ?_⟩; replace HO257 := lR HO257 hb; replace BK254 := kb BK254 hb; replace HB := sB hb) | (go_at_call 37; (with_reducible refine (impl_within.calls a2 0 8 t259 _ A8.out).mono ?_); rintro e w' ⟨rfl, ⟨nd, rfl⟩⟩))
    go_meet
    case rel => exact ⟨_, (!t259), sR, H', ⟨by first | omega | exact Nat.le_refl _⟩, ⟨bP BK254⟩, ⟨bB⟩⟩
  · replace c7 := Bool.eq_false_iff.mpr c7
    subst c7
    replace H := ifF H
    have H' := am H
    clear H
    obtain ⟨hcz14_0, hcz14_1, hfz14_0, hfz14_1⟩ := cZ BK254
    go_wp2_with (first | ((with_reducible refine gate_dst (N := 13) rfl ?_); refine Kd.R_lit (Kd.int .i64) _ 3 ?hg (N := 13) ?hd (xs := ([a1] : List Int)) (inner := [.int .i64 a1]) (ok := fun _ => True) (okp := fun _ => True) ?hr ?hp (fun _ hk => hk) trivial (Below.refl _ _) (Nat.le_refl _) (by simp) ?_; (case hd => rfl); (case hg => rfl); (case hr => first | (go_simp; done) | (go_simp; rfl)); (case hp => exact (Reps.one (show Kd.M (Kd.int .i64) _ _ _ a1 [.int .i64 a1] from rfl) (Reps.none _ _))); intro v256 w15 ho16 hb hg_ hnew_; clear hg_ hnew_; (first | rw [← Ny255.out] at ho16 | (simp only [Int.reduceToNat] at ho16; rw [← Ny255.out] at ho16)); have HO257 := am (Kd.R_lower ho16 (below_size bB)); replace BK254 := kb BK254 hb; replace HB := sB hb; clear hb ho16; obtain ⟨Ao17, co17, eo17⟩ := Kd.R_slice HO257.out; subst eo17) | ((with_reducible refine gate_callee (f := 36) rfl ?_); refine gL 14 Try.func36 #[.agg #[.int .i64 a0_0, .slice A0_1 l0_1.length c0_1], .slice Ao17 y255.length co17] ?_; (with_reducible refine (impl_areWith.calls k a0_0 _ _ l0_1 _ _ y255 false _ ?side1 HC0_1.out ?side3 (Kd.R_reads' HO257.out).2.1 A6.out).mono ?_); (case side1 => exact cH HR0_1); (case side3 => exact cB (Kd.R_reads' HO257.out).2.2); rintro e w18 ⟨rfl, hb⟩; refine ⟨_, rfl, ?_⟩; replace HO257 := lR HO257 hb; replace BK254 := kb BK254 hb; replace HB := sB hb))
    go_meet
    case rel => exact ⟨_, (true), sR, H', ⟨by first | omega | exact Nat.le_refl _⟩, ⟨bP BK254⟩, ⟨bB⟩⟩
 case rest =>
  clear HC4
  obtain ⟨kq, x20_3, rfl, HA, HJ3, BK254, HB⟩ := hcut
  cases kq with
  | zero => exact absurd HA.out (by simp [impl_StatesAfter.j0])
  | succ kj3 =>
   have H := HA.out
   clear HA
   simp only [impl_StatesAfter.j0] at H
   by_cases c19 : x20_3 = true
   · subst c19
     replace H := ifT H
     simp only [Option.some.injEq, Prod.mk.injEq] at H
     obtain ⟨rfl, rfl, rfl⟩ := H
     go_wp2
     go_ret3
     exact ⟨_, eW, nL, bB⟩
   · replace c19 := Bool.eq_false_iff.mpr c19
     subst c19
     replace H := ifF H
     replace H := bnd H
     obtain ⟨t260, A20, H⟩ := H
     (try dsimp only at H)
     have H' := am H
     clear H
     obtain ⟨hcz21_0, hcz21_1, hfz21_0, hfz21_1⟩ := cZ BK254
     go_wp2_with (first | ((with_reducible refine gate_callee (f := 38) rfl ?_); refine gL 23 Try.func38 #[.agg #[.int .i64 a0_0, .slice A0_1 l0_1.length c0_1], .int .i64 a1] ?_; (with_reducible refine (impl_States_only.calls a0_0 _ _ l0_1 a1 t260 _ ?side1 HC0_1.out A20.out).mono ?_); (case side1 => exact cH HR0_1); rintro e w22 ⟨v261, rfl, ho0, hb⟩; refine ⟨_, rfl, ?_⟩; have HO262 := am (Kd.R_lower ho0 (below_size bB)); replace BK254 := kb BK254 hb; replace HB := sB hb))
     go_loopg [9, 10, 25] kj3 (fun kq v9 v10 v25 w' => ∃ (x9_2 : List Int) (x10_2 : Int) (x25_2 : Int), v10 = .int .i64 x10_2 ∧ v25 = .int .i64 x25_2 ∧ Aside0 (impl_StatesAfter.l0 kq x9_2 x10_2 a2 x25_2 a0_0 l0_1 = some (r1, r2, r3)) ∧ Aside0 (kq ≤ kj3) ∧ Aside0 (Kd.R (Kd.int .i64) 3 w' w.heap.size (fun _ => True) v9 x9_2) ∧ Aside0 (w'.heap[gb254]? = some (.cells #[.int .i64 a0_0, (.slice A0_1 l0_1.length c0_1)] 26 (0, 0))) ∧ Aside0 (Below w.heap.size w w'))
     case atStart => exact ⟨(t260), (1), (0), sR, sR, H', ⟨Nat.le_refl _⟩, ⟨rP HO262⟩, ⟨bP BK254⟩, ⟨bB⟩⟩
     case round =>
      clear H'
      obtain ⟨x9_2, x10_2, x25_2, rfl, rfl, HA, HK2, HO_9, BK254, HB⟩ := hrel
      cases gk with
      | zero => exact absurd HA.out (by simp [impl_StatesAfter.l0])
      | succ k2 =>
       have H := HA.out
       clear HA
       simp only [impl_StatesAfter.l0] at H
       by_cases c23 : x25_2 < a2
       · rw [if_pos c23] at H
         have c23b0 := decide_eq_true c23
         clear c23
         replace H := bnd H
         obtain ⟨t263, A24, H⟩ := H
         (try dsimp only at H)
         have H' := am H
         clear H
         obtain ⟨hcz25_0, hcz25_1, hfz25_0, hfz25_1⟩ := cZ BK254
         obtain ⟨Ao26, co26, eo26⟩ := Kd.R_slice HO_9.out
         subst eo26
         go_wp2_with (first | ((with_reducible refine gate_callee (f := 39) rfl ?_); refine gL 29 Try.func39 #[.agg #[.int .i64 a0_0, .slice A0_1 l0_1.length c0_1], .slice Ao26 x9_2.length co26] ?_; (with_reducible refine (impl_States_step.calls k2 a0_0 _ _ l0_1 _ _ x9_2 t263 _ ?side1 HC0_1.out ?side3 (Kd.R_reads' HO_9.out).2.1 A24.out).mono ?_); (case side1 => exact cH HR0_1); (case side3 => exact cB (Kd.R_reads' HO_9.out).2.2); rintro e w27 ⟨v264, rfl, ho0, hb⟩; refine ⟨_, rfl, ?_⟩; have HO265 := am (Kd.R_lower (Kd.R_new' ho0 (Kd.R_lt (rP HO_9))) (below_size bB)); replace HO_9 := eR HO_9 ho0 hb; replace BK254 := kb BK254 hb; replace HB := sB hb; obtain ⟨hcz28_0, hcz28_1, hfz28_0, hfz28_1⟩ := cZ BK254))
         go_roundg k2
         case measure => have := HJ3.out; have := HK2.out; omega
         case rel => exact ⟨(t263), (wrap64 (x10_2 * a0_0)), (wrap64 (x25_2 + 1)), sR, sR, H', ⟨by have := HJ3.out; have := HK2.out; omega⟩, ⟨rF (Kd.R_mono HO265.out (fun _ hk => trivial))⟩, ⟨bP BK254⟩, ⟨bB⟩⟩
       · rw [if_neg c23] at H
         have c23b0 := decide_eq_false c23
         clear c23
         simp only [Option.some.injEq, Prod.mk.injEq] at H
         obtain ⟨rfl, rfl, rfl⟩ := H
         go_wp2
         go_ret3
         exact ⟨_, eW, rP HO_9, bB⟩
def spec_l1In.f (a0 : Int) (a1 : Int) (a2 : Int) : Option (Bool) := if a0 ≥ a1 then (some (decide (a0 ≤ a2))) else (some false)
set_option maxHeartbeats 8000000 in
set_option maxRecDepth 100000 in
theorem spec_l1In.calls (a0 : Int) (a1 : Int) (a2 : Int) (r : Bool) (w : World) (h : spec_l1In.f a0 a1 a2 = some r) :
 Calls Try.prog 41 #[.int .i64 a0, .int .i64 a1, .int .i64 a2] w fun e w' => e = .returned (.bool r) ∧ Drawn0 w w' := by
 have H := h
 clear h
 unfold spec_l1In.f at H
 by_cases c4 : a0 ≥ a1
 · rw [if_pos c4] at H
   have c4b0 : decide (a1 ≤ a0) = true := decide_eq_true c4
   clear c4
   obtain rfl := Option.some.inj H
   go_enter Try.func41, Try.ntmps41
   go_wp2
   go_ret
   exact ⟨sR, dW⟩
 · rw [if_neg c4] at H
   have c4b0 : decide (a1 ≤ a0) = false := decide_eq_false c4
   clear c4
   obtain rfl := Option.some.inj H
   go_enter Try.func41, Try.ntmps41
   go_wp2
   go_ret
   exact ⟨sR, dW⟩
def spec_l1All.l0 : Nat → Int → Int → List Int → Int → Int → Option (Bool)
 | 0, _, _, _, _, _ => none
 | k + 1, x1, x2, x9, x10, x11 => if x11 < x10 then (if 0 ≤ x11 then (if x11 < (x9.length : Int) then ((spec_l1In.f (rd x9 x11) x1 x2).bind fun t267 => (if t267 = true then (spec_l1All.l0 k x1 x2 x9 x10 (wrap64 (x11 + 1))) else (some false))) else (none)) else (none)) else (some true)
def spec_l1All.f (k : Nat) (l0 : List Int) (a1 : Int) (a2 : Int) : Option (Bool) := spec_l1All.l0 k a1 a2 l0 (l0.length : Int) 0
set_option maxHeartbeats 8000000 in
set_option maxRecDepth 100000 in
theorem spec_l1All.calls (k : Nat) (A0 : Option Addr) (c0 : Nat) (l0 : List Int) (a1 : Int) (a2 : Int) (r : Bool) (w : World) (hr0 : Kd.C (Kd.int .i64) w A0 l0.length l0) (hc0 : l0.length ≤ c0) (h : spec_l1All.f k l0 a1 a2 = some r) :
 Calls Try.prog 60 #[.slice A0 l0.length c0, .int .i64 a1, .int .i64 a2] w fun e w' => e = .returned (.bool r) ∧ Drawn0 w w' := by
 have HR0 := am hr0
 have HC0 := am hc0
 clear hr0 hc0
 have H := h
 clear h
 unfold spec_l1All.f at H
 have H' := am H
 clear H
 go_enter Try.func60, Try.ntmps60
 go_wp2
 go_loopg [11] k (fun kq v11 w' => ∃ (x11_1 : Int), v11 = .int .i64 x11_1 ∧ Aside0 (spec_l1All.l0 kq a1 a2 l0 (l0.length : Int) x11_1 = some r) ∧ Aside0 (kq ≤ k) ∧ Drawn0 w w')
 case atStart => exact ⟨(0), sR, H', ⟨Nat.le_refl _⟩, dW⟩
 case round =>
  clear H'
  obtain ⟨x11_1, rfl, HA, HK1, ⟨m1, rfl⟩⟩ := hrel
  cases gk with
  | zero => exact absurd HA.out (by simp [spec_l1All.l0])
  | succ k1 =>
   have H := HA.out
   clear HA
   simp only [spec_l1All.l0] at H
   by_cases c4 : x11_1 < (l0.length : Int)
   · rw [if_pos c4] at H
     have c4b0 := decide_eq_true c4
     clear c4
     replace H := ifP H
     obtain ⟨c5, H⟩ := H
     have c5b0 := decide_eq_true c5
     clear c5
     replace H := ifP H
     obtain ⟨c6, H⟩ := H
     have c6b0 := decide_eq_true c6
     clear c6
     replace H := bnd H
     obtain ⟨t267, A7, H⟩ := H
     (try dsimp only at H)
     by_cases c8 : t267 = true
     · subst c8
       replace H := ifT H
       have H' := am H
       clear H
       have p266 : 0 ≤ (x11_1 : Int) := dT
       have q266 : x11_1 < (l0.length : Int) := dT
       obtain ⟨ad266, e266, hx266_0⟩ := Kd.at_int HR0.out x11_1 p266 q266
       cases e266
       replace p266 := eq_true p266
       replace q266 := eq_true q266
       go_wp2_with (first | ((with_reducible refine gate_callee (f := 41) rfl ?_); refine gL 18 Try.func41 #[.int .i64 (rd l0 x11_1), .int .i64 a1, .int .i64 a2] ?_; (with_reducible refine (spec_l1In.calls (rd l0 x11_1) a1 a2 true _ A7.out).mono ?_); rintro e w' ⟨rfl, ⟨nd, rfl⟩⟩; refine ⟨_, rfl, ?_⟩))
       go_roundg k1
       case measure => have := HK1.out; omega
       case rel => exact ⟨(wrap64 (x11_1 + 1)), sR, H', ⟨oK⟩, dW⟩
     · replace c8 := Bool.eq_false_iff.mpr c8
       subst c8
       replace H := ifF H
       obtain rfl := Option.some.inj H
       have p266 : 0 ≤ (x11_1 : Int) := dT
       have q266 : x11_1 < (l0.length : Int) := dT
       obtain ⟨ad266, e266, hx266_0⟩ := Kd.at_int HR0.out x11_1 p266 q266
       cases e266
       replace p266 := eq_true p266
       replace q266 := eq_true q266
       go_wp2_with (first | ((with_reducible refine gate_callee (f := 41) rfl ?_); refine gL 18 Try.func41 #[.int .i64 (rd l0 x11_1), .int .i64 a1, .int .i64 a2] ?_; (with_reducible refine (spec_l1In.calls (rd l0 x11_1) a1 a2 false _ A7.out).mono ?_); rintro e w' ⟨rfl, ⟨nd, rfl⟩⟩; refine ⟨_, rfl, ?_⟩))
       go_ret
       exact ⟨sR, dW⟩
   · rw [if_neg c4] at H
     have c4b0 := decide_eq_false c4
     clear c4
     obtain rfl := Option.some.inj H
     go_wp2
     go_ret
     exact ⟨sR, dW⟩
end Go.Proofs.Ytkkjnmnjbmfpaaa.PFnStatesStep
