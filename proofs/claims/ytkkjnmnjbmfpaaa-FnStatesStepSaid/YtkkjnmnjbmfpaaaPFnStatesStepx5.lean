-- written by a program of this session (the kit's print with turns of the session's own)
import Derived.Test.YtkkjnmnjbmfpaaaPFnStatesStepx0
import Derived.Test.YtkkjnmnjbmfpaaaHp
import Derived.Test.YtkkjnmnjbmfpaaaPFnStatesStepx4
namespace Go.Proofs.Ytkkjnmnjbmfpaaa.PFnStatesStep
open Go.RowKit Go.Proofs.YtkkjnmnjbmfpaaaW.PrintWords Go.Proofs.YtkkjnmnjbmfpaaaW.PrintLast Go.Proofs.YtkkjnmnjbmfpaaaW.PrintMore
attribute [local go_sem] Instr.field asAgg part max2_int min2_int max_two min_two max_three min_three max_four min_four
set_option linter.unusedVariables false
set_option linter.unusedSimpArgs false
mutual
def spec_saGood.j0 : Nat → Bool → Int → List (List Int) → Option (Bool)
 | 0, _, _, _ => none
 | k + 1, x18, x269000, x269001 => if x18 = true then (some false) else (spec_saGood.l0 k x269001 (x269001.length : Int) 0 x269000 x269001)
def spec_saGood.l0 : Nat → List (List Int) → Int → Int → Int → List (List Int) → Option (Bool)
 | 0, _, _, _, _, _ => none
 | k + 1, x20, x21, x22, x269000, x269001 => if x22 < x21 then (if 0 ≤ x22 then (if x22 < (x20.length : Int) then (if ((rd_L2 x20 x22).length : Int) = (x269001.length : Int) then ((spec_l1All.f k (rd_L2 x20 x22) 0 x269000).bind fun t272 => (spec_saGood.j2 k (rd_L2 x20 x22) x20 x21 x22 (!t272) x269000 x269001)) else (spec_saGood.j2 k (rd_L2 x20 x22) x20 x21 x22 true x269000 x269001)) else (none)) else (none)) else (some true)
def spec_saGood.j2 : Nat → List Int → List (List Int) → Int → Int → Bool → Int → List (List Int) → Option (Bool)
 | 0, _, _, _, _, _, _, _ => none
 | k + 1, x4, x20, x21, x22, x38, x269000, x269001 => if x38 = true then (some false) else (spec_saGood.l1 k 0 x20 x21 x22 x4 (x4.length : Int) 0 x269000 x269001)
def spec_saGood.l1 : Nat → Int → List (List Int) → Int → Int → List Int → Int → Int → Int → List (List Int) → Option (Bool)
 | 0, _, _, _, _, _, _, _, _, _ => none
 | k + 1, x5, x20, x21, x22, x39, x40, x41, x269000, x269001 => if x41 < x40 then (if 0 ≤ x41 then (if x41 < (x39.length : Int) then (spec_saGood.l1 k (wrap64 (x5 + (rd x39 x41))) x20 x21 x22 x39 x40 (wrap64 (x41 + 1)) x269000 x269001) else (none)) else (none)) else (if x5 = x269000 then (spec_saGood.l0 k x20 x21 (wrap64 (x22 + 1)) x269000 x269001) else (some false))
end
def spec_saGood.f (k : Nat) (a0_0 : Int) (l0_1 : List (List Int)) : Option (Bool) := (spec_l1In.f a0_0 1 10).bind fun t269 => (if t269 = true then ((spec_l1In.f (l0_1.length : Int) 1 5).bind fun t270 => (spec_saGood.j0 k (!t270) a0_0 l0_1)) else (spec_saGood.j0 k true a0_0 l0_1))
set_option maxHeartbeats 8000000 in
set_option maxRecDepth 100000 in
theorem spec_saGood.calls (k : Nat) (a0_0 : Int) (A0_1 : Option Addr) (c0_1 : Nat) (l0_1 : List (List Int)) (r : Bool) (w : World) (hr0_1 : Kd.C (Kd.slice 3 (Kd.int .i64)) w A0_1 l0_1.length l0_1) (hc0_1 : l0_1.length ≤ c0_1) (h : spec_saGood.f k a0_0 l0_1 = some r) :
 Calls Try.prog 47 #[.agg #[.int .i64 a0_0, .slice A0_1 l0_1.length c0_1]] w fun e w' => e = .returned (.bool r) ∧ Below w.heap.size w w' := by
 have hu26 := Try.underlying26
 have HR0_1 := am hr0_1
 have HC0_1 := am hc0_1
 clear hr0_1 hc0_1
 have HB := am (Below.refl w.heap.size w)
 have H := h
 clear h
 unfold spec_saGood.f at H
 have HC2 := am H
 clear H
 go_enter Try.func47, Try.ntmps47
 go_upto_region 1 with (first | ((with_reducible refine gate_dst (N := 1) rfl ?_); (try (refine gate_guard (by rfl) ?_; dsimp only)); refine bE 1 #[.int .i64 a0_0, .slice A0_1 l0_1.length c0_1] 26 ?_; intro gb268 hg w3 hbox hb; have BK268 := am (hbox); have GW268 := gW hg; have GE268 := gW hg; replace HB := sB hb; clear hb hbox hg))
 (try simp only [Act.put, List.setIfInBounds_toArray, List.set_cons_zero, List.set_cons_succ])
 go_cut [18] (fun v18 wc => ∃ (kq : Nat) (x18_1 : Bool), v18 = .bool x18_1 ∧ Aside0 (spec_saGood.j0 kq x18_1 a0_0 l0_1 = some r) ∧ Aside0 (kq ≤ k) ∧ Aside0 (wc.heap[gb268]? = some (.cells #[.int .i64 a0_0, (.slice A0_1 l0_1.length c0_1)] 26 (0, 0))) ∧ Aside0 (Below w.heap.size w wc))
 case first =>
  have H := HC2.out
  clear HC2
  replace H := bnd H
  obtain ⟨t269, A4, H⟩ := H
  (try dsimp only at H)
  by_cases c5 : t269 = true
  · subst c5
    replace H := ifT H
    replace H := bnd H
    obtain ⟨t270, A6, H⟩ := H
    (try dsimp only at H)
    have H' := am H
    clear H
    obtain ⟨hcz7_0, hcz7_1, hfz7_0, hfz7_1⟩ := cZ BK268
    go_wp2_with (first | ((with_reducible refine gate_callee (f := 41) rfl ?_); refine gL 10 Try.func41 #[.int .i64 a0_0, .int .i64 1, .int .i64 10] ?_; (with_reducible refine (spec_l1In.calls a0_0 1 10 true _ A4.out).mono ?_); rintro e w' ⟨rfl, ⟨nd, rfl⟩⟩; refine ⟨_, rfl, ?_⟩) | (go_at_call 41; (with_reducible refine (spec_l1In.calls (l0_1.length : Int) 1 5 t270 _ A6.out).mono ?_); rintro e w' ⟨rfl, ⟨nd, rfl⟩⟩))
    go_meet
    case rel => exact ⟨_, (!t270), sR, H', ⟨by first | omega | exact Nat.le_refl _⟩, ⟨bP BK268⟩, ⟨bB⟩⟩
  · replace c5 := Bool.eq_false_iff.mpr c5
    subst c5
    replace H := ifF H
    have H' := am H
    clear H
    obtain ⟨hcz8_0, hcz8_1, hfz8_0, hfz8_1⟩ := cZ BK268
    go_wp2_with (first | ((with_reducible refine gate_callee (f := 41) rfl ?_); refine gL 10 Try.func41 #[.int .i64 a0_0, .int .i64 1, .int .i64 10] ?_; (with_reducible refine (spec_l1In.calls a0_0 1 10 false _ A4.out).mono ?_); rintro e w' ⟨rfl, ⟨nd, rfl⟩⟩; refine ⟨_, rfl, ?_⟩))
    go_meet
    case rel => exact ⟨_, (true), sR, H', ⟨by first | omega | exact Nat.le_refl _⟩, ⟨bP BK268⟩, ⟨bB⟩⟩
 case rest =>
  clear HC2
  obtain ⟨kq, x18_1, rfl, HA, HJ1, BK268, HB⟩ := hcut
  cases kq with
  | zero => exact absurd HA.out (by simp [spec_saGood.j0])
  | succ kj1 =>
   have H := HA.out
   clear HA
   simp only [spec_saGood.j0] at H
   by_cases c9 : x18_1 = true
   · subst c9
     replace H := ifT H
     obtain rfl := Option.some.inj H
     go_wp2
     go_ret
     exact ⟨eW, bB⟩
   · replace c9 := Bool.eq_false_iff.mpr c9
     subst c9
     replace H := ifF H
     have H' := am H
     clear H
     obtain ⟨hcz10_0, hcz10_1, hfz10_0, hfz10_1⟩ := cZ BK268
     go_wp2
     go_loopg [22] kj1 (fun kq v22 w' => ∃ (x22_2 : Int), v22 = .int .i64 x22_2 ∧ Aside0 (spec_saGood.l0 kq l0_1 (l0_1.length : Int) x22_2 a0_0 l0_1 = some r) ∧ Aside0 (kq ≤ kj1) ∧ Aside0 (w'.heap[gb268]? = some (.cells #[.int .i64 a0_0, (.slice A0_1 l0_1.length c0_1)] 26 (0, 0))) ∧ Aside0 (Below w.heap.size w w'))
     case atStart => exact ⟨(0), sR, H', ⟨Nat.le_refl _⟩, ⟨bP BK268⟩, ⟨bB⟩⟩
     case round =>
      clear H'
      obtain ⟨x22_2, rfl, HA, HK2, BK268, HB⟩ := hrel
      cases gk with
      | zero => exact absurd HA.out (by simp [spec_saGood.l0])
      | succ k2 =>
       have H := HA.out
       clear HA
       simp only [spec_saGood.l0] at H
       by_cases c11 : x22_2 < (l0_1.length : Int)
       · rw [if_pos c11] at H
         have c11b0 := decide_eq_true c11
         clear c11
         replace H := ifP H
         obtain ⟨c12, H⟩ := H
         have c12b0 := decide_eq_true c12
         clear c12
         replace H := ifP H
         obtain ⟨c13, H⟩ := H
         have c13b0 := decide_eq_true c13
         clear c13
         have HC14 := am H
         clear H
         have p271 : 0 ≤ (x22_2 : Int) := dT
         have q271 : x22_2 < (l0_1.length : Int) := dT
         obtain ⟨ad271, A271_0, c271_0, e271, hx271_0, hl271_0, hi271_0⟩ := at_L2 HR0_1.out x22_2 p271 q271
         cases e271
         replace hx271_0 := (HB.out.cell (World.block_lt_of_cell? w _ hx271_0)).trans hx271_0
         have HR271_0 := am hi271_0
         have HC271_0 := am hl271_0
         clear hi271_0 hl271_0
         replace p271 := eq_true p271
         replace q271 := eq_true q271
         go_upto_region 6 with (fail)
         go_cut [38] (fun v38 wc => ∃ (kq : Nat) (x38_13 : Bool), v38 = .bool x38_13 ∧ Aside0 (spec_saGood.j2 kq (rd_L2 l0_1 x22_2) l0_1 (l0_1.length : Int) x22_2 x38_13 a0_0 l0_1 = some r) ∧ Aside0 (kq ≤ k2) ∧ Aside0 (wc.heap[gb268]? = some (.cells #[.int .i64 a0_0, (.slice (some ad271) l0_1.length c0_1)] 26 (0, 0))) ∧ Aside0 (Below w.heap.size w wc))
         case first =>
          have H := HC14.out
          clear HC14
          by_cases c15 : ((rd_L2 l0_1 x22_2).length : Int) = (l0_1.length : Int)
          · rw [if_pos c15] at H
            have c15b0 : (((rd_L2 l0_1 x22_2).length : Int) == (l0_1.length : Int)) = true := beq_iff_eq.mpr c15
            have c15b1 : (((rd_L2 l0_1 x22_2).length : Int) != (l0_1.length : Int)) = false := bne_eq_false_iff_eq.mpr c15
            have c15b2 : ((rd_L2 l0_1 x22_2).length == l0_1.length) = true := by first | simpa using c15 | (simp at c15 ⊢; omega)
            clear c15
            (first | rw [c15b0] | (simp only [i64_w, i32_w]; rw [c15b0]) | skip)
            replace H := bnd H
            obtain ⟨t272, A16, H⟩ := H
            (try dsimp only at H)
            have H' := am H
            clear H
            obtain ⟨hcz17_0, hcz17_1, hfz17_0, hfz17_1⟩ := cZ BK268
            go_wp2_with (first | (go_at_call 60; (with_reducible refine (spec_l1All.calls k2 _ _ (rd_L2 l0_1 x22_2) 0 a0_0 t272 _ ?side1 HC271_0.out A16.out).mono ?_); (case side1 => exact cH HR271_0); rintro e w' ⟨rfl, ⟨nd, rfl⟩⟩))
            go_meet
            case rel => exact ⟨_, (!t272), sR, H', ⟨by have := HJ1.out; have := HK2.out; first | omega | exact Nat.le_refl _⟩, ⟨bP BK268⟩, ⟨bB⟩⟩
          · rw [if_neg c15] at H
            have c15b0 : (((rd_L2 l0_1 x22_2).length : Int) == (l0_1.length : Int)) = false := beq_eq_false_iff_ne.mpr c15
            have c15b1 : (((rd_L2 l0_1 x22_2).length : Int) != (l0_1.length : Int)) = true := bne_iff_ne.mpr c15
            have c15b2 : ((rd_L2 l0_1 x22_2).length == l0_1.length) = false := by first | simpa using c15 | (simp at c15 ⊢; omega)
            (first | rw [c15b0] | (simp only [i64_w, i32_w]; rw [c15b0]) | skip)
            have H' := am H
            clear H
            obtain ⟨hcz18_0, hcz18_1, hfz18_0, hfz18_1⟩ := cZ BK268
            go_wp2
            go_meet
            case rel => exact ⟨_, (true), sR, H', ⟨by have := HJ1.out; have := HK2.out; first | omega | exact Nat.le_refl _⟩, ⟨bP BK268⟩, ⟨bB⟩⟩
         case rest =>
          clear HC14
          obtain ⟨kq, x38_13, rfl, HA, HJ13, BK268, HB⟩ := hcut
          cases kq with
          | zero => exact absurd HA.out (by simp [spec_saGood.j2])
          | succ kj13 =>
           have H := HA.out
           clear HA
           simp only [spec_saGood.j2] at H
           by_cases c19 : x38_13 = true
           · subst c19
             replace H := ifT H
             obtain rfl := Option.some.inj H
             go_wp2
             go_ret
             exact ⟨eW, bB⟩
           · replace c19 := Bool.eq_false_iff.mpr c19
             subst c19
             replace H := ifF H
             have H' := am H
             clear H
             go_wp2
             go_loopg [5, 41] kj13 (fun kq v5 v41 w' => ∃ (x5_4 : Int) (x41_4 : Int), v5 = .int .i64 x5_4 ∧ v41 = .int .i64 x41_4 ∧ Aside0 (spec_saGood.l1 kq x5_4 l0_1 (l0_1.length : Int) x22_2 (rd_L2 l0_1 x22_2) ((rd_L2 l0_1 x22_2).length : Int) x41_4 a0_0 l0_1 = some r) ∧ Aside0 (kq ≤ kj13) ∧ Aside0 (w'.heap[gb268]? = some (.cells #[.int .i64 a0_0, (.slice (some ad271) l0_1.length c0_1)] 26 (0, 0))) ∧ Aside0 (Below w.heap.size w w'))
             case atStart => exact ⟨(0), (0), sR, sR, H', ⟨Nat.le_refl _⟩, ⟨bP BK268⟩, ⟨bB⟩⟩
             case round =>
              clear H'
              obtain ⟨x5_4, x41_4, rfl, rfl, HA, HK4, BK268, HB⟩ := hrel
              cases gk with
              | zero => exact absurd HA.out (by simp [spec_saGood.l1])
              | succ k4 =>
               have H := HA.out
               clear HA
               simp only [spec_saGood.l1] at H
               by_cases c20 : x41_4 < ((rd_L2 l0_1 x22_2).length : Int)
               · rw [if_pos c20] at H
                 have c20b0 := decide_eq_true c20
                 clear c20
                 replace H := ifP H
                 obtain ⟨c21, H⟩ := H
                 have c21b0 := decide_eq_true c21
                 clear c21
                 replace H := ifP H
                 obtain ⟨c22, H⟩ := H
                 have c22b0 := decide_eq_true c22
                 clear c22
                 have H' := am H
                 clear H
                 have p273 : 0 ≤ (x41_4 : Int) := dT
                 have q273 : x41_4 < ((rd_L2 l0_1 x22_2).length : Int) := dT
                 obtain ⟨ad273, e273, hx273_0⟩ := Kd.at_int HR271_0.out x41_4 p273 q273
                 cases e273
                 replace hx273_0 := (HB.out.cell (World.block_lt_of_cell? w _ hx273_0)).trans hx273_0
                 replace p273 := eq_true p273
                 replace q273 := eq_true q273
                 go_wp2
                 go_roundg k4
                 case measure => have := HJ1.out; have := HK2.out; have := HJ13.out; have := HK4.out; omega
                 case rel => exact ⟨(wrap64 (x5_4 + (rd (rd_L2 l0_1 x22_2) x41_4))), (wrap64 (x41_4 + 1)), sR, sR, H', ⟨by have := HJ1.out; have := HK2.out; have := HJ13.out; have := HK4.out; omega⟩, ⟨bP BK268⟩, ⟨bB⟩⟩
               · rw [if_neg c20] at H
                 have c20b0 := decide_eq_false c20
                 clear c20
                 by_cases c23 : x5_4 = a0_0
                 · rw [if_pos c23] at H
                   have c23b0 : (x5_4 == a0_0) = true := beq_iff_eq.mpr c23
                   have c23b1 : (x5_4 != a0_0) = false := bne_eq_false_iff_eq.mpr c23
                   clear c23
                   have H' := am H
                   clear H
                   obtain ⟨hcz24_0, hcz24_1, hfz24_0, hfz24_1⟩ := cZ BK268
                   go_wp2
                   go_roundg k4
                   case measure => have := HJ1.out; have := HK2.out; have := HJ13.out; have := HK4.out; omega
                   case rel => exact ⟨(wrap64 (x22_2 + 1)), sR, H', ⟨by have := HJ1.out; have := HK2.out; have := HJ13.out; have := HK4.out; omega⟩, ⟨bP BK268⟩, ⟨bB⟩⟩
                 · rw [if_neg c23] at H
                   have c23b0 : (x5_4 == a0_0) = false := beq_eq_false_iff_ne.mpr c23
                   have c23b1 : (x5_4 != a0_0) = true := bne_iff_ne.mpr c23
                   obtain rfl := Option.some.inj H
                   obtain ⟨hcz25_0, hcz25_1, hfz25_0, hfz25_1⟩ := cZ BK268
                   go_wp2
                   go_ret
                   exact ⟨eW, bB⟩
       · rw [if_neg c11] at H
         have c11b0 := decide_eq_false c11
         clear c11
         obtain rfl := Option.some.inj H
         go_wp2
         go_ret
         exact ⟨eW, bB⟩
def spec_saAsked.f (k : Nat) (a0_0 : Int) (l0_1 : List (List Int)) (a1 : Int) (a2 : Int) : Option (Bool) := (spec_saGood.f k a0_0 l0_1).bind fun t275 => (if t275 = true then ((spec_l1In.f a1 0 (wrap64 ((l0_1.length : Int) - 1))).bind fun t276 => (if t276 = true then ((spec_l1In.f a2 0 (wrap64 ((l0_1.length : Int) - 1))).bind fun t277 => (some t277)) else (some false))) else (some false))
set_option maxHeartbeats 8000000 in
set_option maxRecDepth 100000 in
theorem spec_saAsked.calls (k : Nat) (a0_0 : Int) (A0_1 : Option Addr) (c0_1 : Nat) (l0_1 : List (List Int)) (a1 : Int) (a2 : Int) (r : Bool) (w : World) (hr0_1 : Kd.C (Kd.slice 3 (Kd.int .i64)) w A0_1 l0_1.length l0_1) (hc0_1 : l0_1.length ≤ c0_1) (h : spec_saAsked.f k a0_0 l0_1 a1 a2 = some r) :
 Calls Try.prog 40 #[.agg #[.int .i64 a0_0, .slice A0_1 l0_1.length c0_1], .int .i64 a1, .int .i64 a2] w fun e w' => e = .returned (.bool r) ∧ Below w.heap.size w w' := by
 have hu26 := Try.underlying26
 have HR0_1 := am hr0_1
 have HC0_1 := am hc0_1
 clear hr0_1 hc0_1
 have HB := am (Below.refl w.heap.size w)
 have H := h
 clear h
 unfold spec_saAsked.f at H
 replace H := bnd H
 obtain ⟨t275, A4, H⟩ := H
 (try dsimp only at H)
 by_cases c5 : t275 = true
 · subst c5
   replace H := ifT H
   replace H := bnd H
   obtain ⟨t276, A6, H⟩ := H
   (try dsimp only at H)
   by_cases c7 : t276 = true
   · subst c7
     replace H := ifT H
     replace H := bnd H
     obtain ⟨t277, A8, H⟩ := H
     (try dsimp only at H)
     obtain rfl := Option.some.inj H
     go_enter Try.func40, Try.ntmps40
     go_wp2_with (first | ((with_reducible refine gate_dst (N := 3) rfl ?_); (try (refine gate_guard (by rfl) ?_; dsimp only)); refine bE 3 #[.int .i64 a0_0, .slice A0_1 l0_1.length c0_1] 26 ?_; intro gb274 hg w9 hbox hb; have BK274 := am (hbox); have GW274 := gW hg; have GE274 := gW hg; replace HB := sB hb; clear hb hbox hg; obtain ⟨hcz10_0, hcz10_1, hfz10_0, hfz10_1⟩ := cZ BK274) | ((with_reducible refine gate_callee (f := 47) rfl ?_); refine gL 8 Try.func47 #[.agg #[.int .i64 a0_0, .slice A0_1 l0_1.length c0_1]] ?_; (with_reducible refine (spec_saGood.calls k a0_0 _ _ l0_1 true _ ?side1 HC0_1.out A4.out).mono ?_); (case side1 => exact cH HR0_1); rintro e w11 ⟨rfl, hb⟩; refine ⟨_, rfl, ?_⟩; replace BK274 := kb BK274 hb; replace HB := sB hb; obtain ⟨hcz12_0, hcz12_1, hfz12_0, hfz12_1⟩ := cZ BK274) | (go_at_call 41; (with_reducible refine (spec_l1In.calls a1 0 (wrap64 ((l0_1.length : Int) - 1)) true _ A6.out).mono ?_); rintro e w' ⟨rfl, ⟨nd, rfl⟩⟩) | (go_at_call 41; (with_reducible refine (spec_l1In.calls a2 0 (wrap64 ((l0_1.length : Int) - 1)) t277 _ A8.out).mono ?_); rintro e w' ⟨rfl, ⟨nd, rfl⟩⟩))
     go_ret
     exact ⟨eW, bB⟩
   · replace c7 := Bool.eq_false_iff.mpr c7
     subst c7
     replace H := ifF H
     obtain rfl := Option.some.inj H
     go_enter Try.func40, Try.ntmps40
     go_wp2_with (first | ((with_reducible refine gate_dst (N := 3) rfl ?_); (try (refine gate_guard (by rfl) ?_; dsimp only)); refine bE 3 #[.int .i64 a0_0, .slice A0_1 l0_1.length c0_1] 26 ?_; intro gb274 hg w13 hbox hb; have BK274 := am (hbox); have GW274 := gW hg; have GE274 := gW hg; replace HB := sB hb; clear hb hbox hg; obtain ⟨hcz14_0, hcz14_1, hfz14_0, hfz14_1⟩ := cZ BK274) | ((with_reducible refine gate_callee (f := 47) rfl ?_); refine gL 8 Try.func47 #[.agg #[.int .i64 a0_0, .slice A0_1 l0_1.length c0_1]] ?_; (with_reducible refine (spec_saGood.calls k a0_0 _ _ l0_1 true _ ?side1 HC0_1.out A4.out).mono ?_); (case side1 => exact cH HR0_1); rintro e w15 ⟨rfl, hb⟩; refine ⟨_, rfl, ?_⟩; replace BK274 := kb BK274 hb; replace HB := sB hb; obtain ⟨hcz16_0, hcz16_1, hfz16_0, hfz16_1⟩ := cZ BK274) | (go_at_call 41; (with_reducible refine (spec_l1In.calls a1 0 (wrap64 ((l0_1.length : Int) - 1)) false _ A6.out).mono ?_); rintro e w' ⟨rfl, ⟨nd, rfl⟩⟩))
     go_ret
     exact ⟨eW, bB⟩
 · replace c5 := Bool.eq_false_iff.mpr c5
   subst c5
   replace H := ifF H
   obtain rfl := Option.some.inj H
   go_enter Try.func40, Try.ntmps40
   go_wp2_with (first | ((with_reducible refine gate_dst (N := 3) rfl ?_); (try (refine gate_guard (by rfl) ?_; dsimp only)); refine bE 3 #[.int .i64 a0_0, .slice A0_1 l0_1.length c0_1] 26 ?_; intro gb274 hg w17 hbox hb; have BK274 := am (hbox); have GW274 := gW hg; have GE274 := gW hg; replace HB := sB hb; clear hb hbox hg; obtain ⟨hcz18_0, hcz18_1, hfz18_0, hfz18_1⟩ := cZ BK274) | ((with_reducible refine gate_callee (f := 47) rfl ?_); refine gL 8 Try.func47 #[.agg #[.int .i64 a0_0, .slice A0_1 l0_1.length c0_1]] ?_; (with_reducible refine (spec_saGood.calls k a0_0 _ _ l0_1 false _ ?side1 HC0_1.out A4.out).mono ?_); (case side1 => exact cH HR0_1); rintro e w19 ⟨rfl, hb⟩; refine ⟨_, rfl, ?_⟩; replace BK274 := kb BK274 hb; replace HB := sB hb))
   go_ret
   exact ⟨eW, bB⟩
def spec_l1Sign.f (a0 : Int) : Option (Int) := if a0 > 0 then (some 1) else (if a0 < 0 then (some (-1)) else (some 0))
set_option maxHeartbeats 8000000 in
set_option maxRecDepth 100000 in
theorem spec_l1Sign.calls (a0 : Int) (r : Int) (w : World) (h : spec_l1Sign.f a0 = some r) :
 Calls Try.prog 66 #[.int .i64 a0] w fun e w' => e = .returned (.int .i64 r) ∧ Drawn0 w w' := by
 have H := h
 clear h
 unfold spec_l1Sign.f at H
 by_cases c2 : a0 > 0
 · rw [if_pos c2] at H
   have c2b0 : decide (0 < a0) = true := decide_eq_true c2
   clear c2
   obtain rfl := Option.some.inj H
   go_enter Try.func66, Try.ntmps66
   go_wp2
   go_ret
   exact ⟨sR, dW⟩
 · rw [if_neg c2] at H
   have c2b0 : decide (0 < a0) = false := decide_eq_false c2
   clear c2
   by_cases c3 : a0 < 0
   · rw [if_pos c3] at H
     have c3b0 := decide_eq_true c3
     clear c3
     obtain rfl := Option.some.inj H
     go_enter Try.func66, Try.ntmps66
     go_wp2
     go_ret
     exact ⟨sR, dW⟩
   · rw [if_neg c3] at H
     have c3b0 := decide_eq_false c3
     clear c3
     obtain rfl := Option.some.inj H
     go_enter Try.func66, Try.ntmps66
     go_wp2
     go_ret
     exact ⟨sR, dW⟩
end Go.Proofs.Ytkkjnmnjbmfpaaa.PFnStatesStep
