-- written by a program of this session (the kit's print with turns of the session's own)
import Derived.Test.YtkkjnmnjbmfpaaaPFnStatesStepx0
import Derived.Test.YtkkjnmnjbmfpaaaHp
import Derived.Test.YtkkjnmnjbmfpaaaPFnStatesStepx2
namespace Go.Proofs.Ytkkjnmnjbmfpaaa.PFnStatesStep
open Go.RowKit Go.Proofs.YtkkjnmnjbmfpaaaW.PrintWords Go.Proofs.YtkkjnmnjbmfpaaaW.PrintLast Go.Proofs.YtkkjnmnjbmfpaaaW.PrintMore
attribute [local go_sem] Instr.field asAgg part max2_int min2_int max_two min_two max_three min_three max_four min_four
set_option linter.unusedVariables false
set_option linter.unusedSimpArgs false
mutual
def impl_AreStates.j0 : Nat → Int → Bool → Int → List (List Int) → Option (Bool)
 | 0, _, _, _, _ => none
 | k + 1, x3, x20, x235000, x235001 => if x20 = true then (some false) else (impl_AreStates.l0 k x3 x235001 (x235001.length : Int) 0 x235000 x235001)
def impl_AreStates.l0 : Nat → Int → List (List Int) → Int → Int → Int → List (List Int) → Option (Bool)
 | 0, _, _, _, _, _, _ => none
 | k + 1, x3, x22, x23, x24, x235000, x235001 => if x24 < x23 then (if 0 ≤ x24 then (if x24 < (x22.length : Int) then (impl_AreStates.l1 k x3 (rd_L2 x22 x24) x235000 x22 x23 x24 (rd_L2 x22 x24) ((rd_L2 x22 x24).length : Int) 0 x235000 x235001) else (none)) else (none)) else (some true)
def impl_AreStates.l1 : Nat → Int → List Int → Int → List (List Int) → Int → Int → List Int → Int → Int → Int → List (List Int) → Option (Bool)
 | 0, _, _, _, _, _, _, _, _, _, _, _ => none
 | k + 1, x3, x5, x6, x22, x23, x24, x30, x31, x32, x235000, x235001 => if x32 < x31 then (if 0 ≤ x32 then (if x32 < (x30.length : Int) then ((impl_within.f (rd x30 x32) 0 x6).bind fun t239 => (if t239 = true then (impl_AreStates.l1 k x3 x5 (wrap64 (x6 - (rd x30 x32))) x22 x23 x24 x30 x31 (wrap64 (x32 + 1)) x235000 x235001) else (some false))) else (none)) else (none)) else (if (x5.length : Int) = x3 then (if x6 = 0 then (impl_AreStates.l0 k x3 x22 x23 (wrap64 (x24 + 1)) x235000 x235001) else (some false)) else (some false))
end
def impl_AreStates.f (k : Nat) (a0_0 : Int) (l0_1 : List (List Int)) : Option (Bool) := (impl_within.f a0_0 1 10).bind fun t235 => (if t235 = true then ((impl_within.f (l0_1.length : Int) 1 5).bind fun t236 => (impl_AreStates.j0 k (l0_1.length : Int) (!t236) a0_0 l0_1)) else (impl_AreStates.j0 k (l0_1.length : Int) true a0_0 l0_1))
set_option maxHeartbeats 8000000 in
set_option maxRecDepth 100000 in
theorem impl_AreStates.calls (k : Nat) (a0_0 : Int) (A0_1 : Option Addr) (c0_1 : Nat) (l0_1 : List (List Int)) (r : Bool) (w : World) (hr0_1 : Kd.C (Kd.slice 3 (Kd.int .i64)) w A0_1 l0_1.length l0_1) (hc0_1 : l0_1.length ≤ c0_1) (h : impl_AreStates.f k a0_0 l0_1 = some r) :
 Calls Try.prog 22 #[.agg #[.int .i64 a0_0, .slice A0_1 l0_1.length c0_1]] w fun e w' => e = .returned (.bool r) ∧ Below w.heap.size w w' := by
 have hu26 := Try.underlying26
 have HR0_1 := am hr0_1
 have HC0_1 := am hc0_1
 clear hr0_1 hc0_1
 have HB := am (Below.refl w.heap.size w)
 have H := h
 clear h
 unfold impl_AreStates.f at H
 have HC2 := am H
 clear H
 go_enter Try.func22, Try.ntmps22
 go_upto_region 2 with (first | ((with_reducible refine gate_dst (N := 1) rfl ?_); refine bE 1 #[.int .i64 a0_0, .slice A0_1 l0_1.length c0_1] 26 ?_; intro gb234 hg w3 hbox hb; have BK234 := am (hbox); have GW234 := gW hg; have GE234 := gW hg; replace HB := sB hb; clear hb hbox hg; obtain ⟨hcz4_0, hcz4_1, hfz4_0, hfz4_1⟩ := cZ BK234))
 (try simp only [Act.put, List.setIfInBounds_toArray, List.set_cons_zero, List.set_cons_succ])
 go_cut [20] (fun v20 wc => ∃ (kq : Nat) (x20_1 : Bool), v20 = .bool x20_1 ∧ Aside0 (impl_AreStates.j0 kq (l0_1.length : Int) x20_1 a0_0 l0_1 = some r) ∧ Aside0 (kq ≤ k) ∧ Aside0 (wc.heap[gb234]? = some (.cells #[.int .i64 a0_0, (.slice A0_1 l0_1.length c0_1)] 26 (0, 0))) ∧ Aside0 (Below w.heap.size w wc))
 case first =>
  have H := HC2.out
  clear HC2
  replace H := bnd H
  obtain ⟨t235, A5, H⟩ := H
  (try dsimp only at H)
  by_cases c6 : t235 = true
  · subst c6
    replace H := ifT H
    replace H := bnd H
    obtain ⟨t236, A7, H⟩ := H
    (try dsimp only at H)
    have H' := am H
    clear H
    obtain ⟨hcz8_0, hcz8_1, hfz8_0, hfz8_1⟩ := cZ BK234
    go_wp2_with (first | ((with_reducible refine gate_callee (f := 37) rfl ?_); refine gL 14 Try.func37 #[.int .i64 a0_0, .int .i64 1, .int .i64 10] ?_; (with_reducible refine (impl_within.calls a0_0 1 10 true _ A5.out).mono ?_); rintro e w' ⟨rfl, ⟨nd, rfl⟩⟩; refine ⟨_, rfl, ?_⟩) | (go_at_call 37; (with_reducible refine (impl_within.calls (l0_1.length : Int) 1 5 t236 _ A7.out).mono ?_); rintro e w' ⟨rfl, ⟨nd, rfl⟩⟩))
    go_meet
    case rel => exact ⟨_, (!t236), sR, H', ⟨by first | omega | exact Nat.le_refl _⟩, ⟨bP BK234⟩, ⟨bB⟩⟩
  · replace c6 := Bool.eq_false_iff.mpr c6
    subst c6
    replace H := ifF H
    have H' := am H
    clear H
    obtain ⟨hcz9_0, hcz9_1, hfz9_0, hfz9_1⟩ := cZ BK234
    go_wp2_with (first | ((with_reducible refine gate_callee (f := 37) rfl ?_); refine gL 14 Try.func37 #[.int .i64 a0_0, .int .i64 1, .int .i64 10] ?_; (with_reducible refine (impl_within.calls a0_0 1 10 false _ A5.out).mono ?_); rintro e w' ⟨rfl, ⟨nd, rfl⟩⟩; refine ⟨_, rfl, ?_⟩))
    go_meet
    case rel => exact ⟨_, (true), sR, H', ⟨by first | omega | exact Nat.le_refl _⟩, ⟨bP BK234⟩, ⟨bB⟩⟩
 case rest =>
  clear HC2
  obtain ⟨kq, x20_1, rfl, HA, HJ1, BK234, HB⟩ := hcut
  cases kq with
  | zero => exact absurd HA.out (by simp [impl_AreStates.j0])
  | succ kj1 =>
   have H := HA.out
   clear HA
   simp only [impl_AreStates.j0] at H
   by_cases c10 : x20_1 = true
   · subst c10
     replace H := ifT H
     obtain rfl := Option.some.inj H
     go_wp2
     go_ret
     exact ⟨eW, bB⟩
   · replace c10 := Bool.eq_false_iff.mpr c10
     subst c10
     replace H := ifF H
     have H' := am H
     clear H
     obtain ⟨hcz11_0, hcz11_1, hfz11_0, hfz11_1⟩ := cZ BK234
     go_wp2
     go_loopg [24] kj1 (fun kq v24 w' => ∃ (x24_2 : Int), v24 = .int .i64 x24_2 ∧ Aside0 (impl_AreStates.l0 kq (l0_1.length : Int) l0_1 (l0_1.length : Int) x24_2 a0_0 l0_1 = some r) ∧ Aside0 (kq ≤ kj1) ∧ Aside0 (w'.heap[gb234]? = some (.cells #[.int .i64 a0_0, (.slice A0_1 l0_1.length c0_1)] 26 (0, 0))) ∧ Aside0 (Below w.heap.size w w'))
     case atStart => exact ⟨(0), sR, H', ⟨Nat.le_refl _⟩, ⟨bP BK234⟩, ⟨bB⟩⟩
     case round =>
      clear H'
      obtain ⟨x24_2, rfl, HA, HK2, BK234, HB⟩ := hrel
      cases gk with
      | zero => exact absurd HA.out (by simp [impl_AreStates.l0])
      | succ k2 =>
       have H := HA.out
       clear HA
       simp only [impl_AreStates.l0] at H
       by_cases c12 : x24_2 < (l0_1.length : Int)
       · rw [if_pos c12] at H
         have c12b0 := decide_eq_true c12
         clear c12
         replace H := ifP H
         obtain ⟨c13, H⟩ := H
         have c13b0 := decide_eq_true c13
         clear c13
         replace H := ifP H
         obtain ⟨c14, H⟩ := H
         have c14b0 := decide_eq_true c14
         clear c14
         have H' := am H
         clear H
         have p237 : 0 ≤ (x24_2 : Int) := dT
         have q237 : x24_2 < (l0_1.length : Int) := dT
         obtain ⟨ad237, A237_0, c237_0, e237, hx237_0, hl237_0, hi237_0⟩ := at_L2 HR0_1.out x24_2 p237 q237
         cases e237
         replace hx237_0 := (HB.out.cell (World.block_lt_of_cell? w _ hx237_0)).trans hx237_0
         have HR237_0 := am hi237_0
         have HC237_0 := am hl237_0
         clear hi237_0 hl237_0
         replace p237 := eq_true p237
         replace q237 := eq_true q237
         obtain ⟨hcz15_0, hcz15_1, hfz15_0, hfz15_1⟩ := cZ BK234
         go_wp2
         go_loopg [6, 32] k2 (fun kq v6 v32 w' => ∃ (x6_3 : Int) (x32_3 : Int), v6 = .int .i64 x6_3 ∧ v32 = .int .i64 x32_3 ∧ Aside0 (impl_AreStates.l1 kq (l0_1.length : Int) (rd_L2 l0_1 x24_2) x6_3 l0_1 (l0_1.length : Int) x24_2 (rd_L2 l0_1 x24_2) ((rd_L2 l0_1 x24_2).length : Int) x32_3 a0_0 l0_1 = some r) ∧ Aside0 (kq ≤ k2) ∧ Aside0 (w'.heap[gb234]? = some (.cells #[.int .i64 a0_0, (.slice (some ad237) l0_1.length c0_1)] 26 (0, 0))) ∧ Aside0 (Below w.heap.size w w'))
         case atStart => exact ⟨(a0_0), (0), sR, sR, H', ⟨Nat.le_refl _⟩, ⟨bP BK234⟩, ⟨bB⟩⟩
         case round =>
          clear H'
          obtain ⟨x6_3, x32_3, rfl, rfl, HA, HK3, BK234, HB⟩ := hrel
          cases gk with
          | zero => exact absurd HA.out (by simp [impl_AreStates.l1])
          | succ k3 =>
           have H := HA.out
           clear HA
           simp only [impl_AreStates.l1] at H
           by_cases c16 : x32_3 < ((rd_L2 l0_1 x24_2).length : Int)
           · rw [if_pos c16] at H
             have c16b0 := decide_eq_true c16
             clear c16
             replace H := ifP H
             obtain ⟨c17, H⟩ := H
             have c17b0 := decide_eq_true c17
             clear c17
             replace H := ifP H
             obtain ⟨c18, H⟩ := H
             have c18b0 := decide_eq_true c18
             clear c18
             replace H := bnd H
             obtain ⟨t239, A19, H⟩ := H
             (try dsimp only at H)
             by_cases c20 : t239 = true
             · subst c20
               replace H := ifT H
               have H' := am H
               clear H
               have p238 : 0 ≤ (x32_3 : Int) := dT
               have q238 : x32_3 < ((rd_L2 l0_1 x24_2).length : Int) := dT
               obtain ⟨ad238, e238, hx238_0⟩ := Kd.at_int HR237_0.out x32_3 p238 q238
               cases e238
               replace hx238_0 := (HB.out.cell (World.block_lt_of_cell? w _ hx238_0)).trans hx238_0
               replace p238 := eq_true p238
               replace q238 := eq_true q238
               go_wp2_with (first | ((with_reducible refine gate_callee (f := 37) rfl ?_); refine gL 38 Try.func37 #[.int .i64 (rd (rd_L2 l0_1 x24_2) x32_3), .int .i64 0, .int .i64 x6_3] ?_; (with_reducible refine (impl_within.calls (rd (rd_L2 l0_1 x24_2) x32_3) 0 x6_3 true _ A19.out).mono ?_); rintro e w' ⟨rfl, ⟨nd, rfl⟩⟩; refine ⟨_, rfl, ?_⟩))
               go_roundg k3
               case measure => have := HJ1.out; have := HK2.out; have := HK3.out; omega
               case rel => exact ⟨(wrap64 (x6_3 - (rd (rd_L2 l0_1 x24_2) x32_3))), (wrap64 (x32_3 + 1)), sR, sR, H', ⟨by have := HJ1.out; have := HK2.out; have := HK3.out; omega⟩, ⟨bP BK234⟩, ⟨bB⟩⟩
             · replace c20 := Bool.eq_false_iff.mpr c20
               subst c20
               replace H := ifF H
               obtain rfl := Option.some.inj H
               have p238 : 0 ≤ (x32_3 : Int) := dT
               have q238 : x32_3 < ((rd_L2 l0_1 x24_2).length : Int) := dT
               obtain ⟨ad238, e238, hx238_0⟩ := Kd.at_int HR237_0.out x32_3 p238 q238
               cases e238
               replace hx238_0 := (HB.out.cell (World.block_lt_of_cell? w _ hx238_0)).trans hx238_0
               replace p238 := eq_true p238
               replace q238 := eq_true q238
               go_wp2_with (first | ((with_reducible refine gate_callee (f := 37) rfl ?_); refine gL 38 Try.func37 #[.int .i64 (rd (rd_L2 l0_1 x24_2) x32_3), .int .i64 0, .int .i64 x6_3] ?_; (with_reducible refine (impl_within.calls (rd (rd_L2 l0_1 x24_2) x32_3) 0 x6_3 false _ A19.out).mono ?_); rintro e w' ⟨rfl, ⟨nd, rfl⟩⟩; refine ⟨_, rfl, ?_⟩))
               go_ret
               exact ⟨eW, bB⟩
           · rw [if_neg c16] at H
             have c16b0 := decide_eq_false c16
             clear c16
             by_cases c21 : ((rd_L2 l0_1 x24_2).length : Int) = (l0_1.length : Int)
             · rw [if_pos c21] at H
               have c21b0 : (((rd_L2 l0_1 x24_2).length : Int) == (l0_1.length : Int)) = true := beq_iff_eq.mpr c21
               have c21b1 : (((rd_L2 l0_1 x24_2).length : Int) != (l0_1.length : Int)) = false := bne_eq_false_iff_eq.mpr c21
               have c21b2 : ((rd_L2 l0_1 x24_2).length == l0_1.length) = true := by first | simpa using c21 | (simp at c21 ⊢; omega)
               clear c21
               by_cases c22 : x6_3 = 0
               · rw [if_pos c22] at H
                 have c22b0 : (x6_3 == 0) = true := beq_iff_eq.mpr c22
                 have c22b1 : (x6_3 != 0) = false := bne_eq_false_iff_eq.mpr c22
                 clear c22
                 have H' := am H
                 clear H
                 go_wp2
                 go_roundg k3
                 case measure => have := HJ1.out; have := HK2.out; have := HK3.out; omega
                 case rel => exact ⟨(wrap64 (x24_2 + 1)), sR, H', ⟨by have := HJ1.out; have := HK2.out; have := HK3.out; omega⟩, ⟨bP BK234⟩, ⟨bB⟩⟩
               · rw [if_neg c22] at H
                 have c22b0 : (x6_3 == 0) = false := beq_eq_false_iff_ne.mpr c22
                 have c22b1 : (x6_3 != 0) = true := bne_iff_ne.mpr c22
                 obtain rfl := Option.some.inj H
                 go_wp2
                 go_ret
                 exact ⟨eW, bB⟩
             · rw [if_neg c21] at H
               have c21b0 : (((rd_L2 l0_1 x24_2).length : Int) == (l0_1.length : Int)) = false := beq_eq_false_iff_ne.mpr c21
               have c21b1 : (((rd_L2 l0_1 x24_2).length : Int) != (l0_1.length : Int)) = true := bne_iff_ne.mpr c21
               have c21b2 : ((rd_L2 l0_1 x24_2).length == l0_1.length) = false := by first | simpa using c21 | (simp at c21 ⊢; omega)
               obtain rfl := Option.some.inj H
               go_wp2
               go_ret
               exact ⟨eW, bB⟩
       · rw [if_neg c12] at H
         have c12b0 := decide_eq_false c12
         clear c12
         obtain rfl := Option.some.inj H
         go_wp2
         go_ret
         exact ⟨eW, bB⟩
def impl_areWith.bad (n : Nat) (i : Int) : Bool := if i ≥ 0 then !(decide (i ≤ wrap64 ((n : Int) - 1))) else true
def impl_areWith.f (k : Nat) (a0_0 : Int) (l0_1 : List (List Int)) (l1 : List Int) : Option (Bool) := (impl_AreStates.f k a0_0 l0_1).bind fun t => if t = true then (if l1.length < 4611686018427387904 then some (!(l1.any (impl_areWith.bad l0_1.length))) else none) else some false
set_option maxHeartbeats 8000000 in
set_option maxRecDepth 100000 in
theorem impl_areWith.lit (n c : Nat) (A : Option Addr) (b : Nat) (i : Int) (w W : World) (hb : b < w.heap.size) (h1 : w.cell? ⟨b, 1, none⟩ = some (.slice A n c)) (hbel : Below w.heap.size w W) :
 Calls Try.prog 65 #[.int .i64 i, .pointer (some ⟨b, 0, none⟩)] W fun e w' => e = .returned (.bool (impl_areWith.bad n i)) ∧ Below w.heap.size w w' := by
 have hu26 := Try.underlying26
 have hc : W.cell? ⟨b, 1, none⟩ = some (.slice A n c) := (hbel.cell (p := ⟨b, 1, none⟩) hb).trans h1
 clear h1
 have HB := am hbel
 clear hbel
 have hw : ∃ t, impl_within.f i 0 (wrap64 ((n : Int) - 1)) = some t ∧ impl_areWith.bad n i = !t := by
  unfold impl_within.f impl_areWith.bad
  by_cases h : i ≥ 0
  · exact ⟨decide (i ≤ wrap64 ((n : Int) - 1)), by rw [if_pos h], by rw [if_pos h]⟩
  · exact ⟨false, by rw [if_neg h], by rw [if_neg h]; rfl⟩
 obtain ⟨t, ht, hr⟩ := hw
 rw [hr]
 have HT := am ht
 clear ht hr
 go_enter Try.func65, Try.ntmps65
 go_wp2_with (go_at_call 37; (with_reducible refine (impl_within.calls i 0 (wrap64 ((n : Int) - 1)) t _ HT.out).mono ?_); rintro e w' ⟨rfl, ⟨nd, rfl⟩⟩)
 go_ret
 exact ⟨rfl, pw_below_drewN HB.out nd⟩
set_option maxHeartbeats 8000000 in
set_option maxRecDepth 100000 in
theorem impl_areWith.index (n c : Nat) (A : Option Addr) (b : Nat) (A1 : Option Addr) (c1 : Nat) (l1 : List Int) (w : World) (hb : b < w.heap.size) (h1 : w.cell? ⟨b, 1, none⟩ = some (.slice A n c)) (hr1 : Kd.C (Kd.int .i64) w A1 l1.length l1) (hlen : l1.length < 4611686018427387904) :
 Calls Try.prog 69 #[.slice A1 l1.length c1, .func (.func 65) #[] #[.pointer (some ⟨b, 0, none⟩)]] w fun e w' => (∃ x : Int, e = .returned (.int .i64 x) ∧ (0 ≤ x ↔ l1.any (impl_areWith.bad n) = true)) ∧ Below w.heap.size w w' := by
 have eg : ∀ args w, (callFunc 65 args).run Try.prog w = .ok (.enter 65 args) w := enters_ Try.func65 (by kernel_rfl) rfl
 have HR1 := am hr1
 have HL := am hlen
 have HC := am h1
 have Hb := am hb
 clear hr1 hlen h1 hb
 go_enter Try.func69, Try.ntmps69
 go_wp2
 go_loopg [5, 8] l1.length (fun gg _ s8 wr => ∃ kk : Nat, kk ≤ l1.length ∧ l1.length - kk ≤ gg ∧ s8 = .int .i64 kk ∧ Aside0 (Below w.heap.size w wr) ∧ Aside0 (∀ x ∈ l1.take kk, impl_areWith.bad n x = false))
 case atStart => exact ⟨0, Nat.zero_le _, by omega, rfl, ⟨Below.refl _ w⟩, ⟨by simp⟩⟩
 case round =>
  obtain ⟨kk, hkk, hg, rfl, BW, HA⟩ := hrel
  by_cases hlt : kk < l1.length
  · have hltz : (kk : Int) < (l1.length : Int) := by omega
    have p0 : 0 ≤ (kk : Int) := by omega
    obtain ⟨ad, e, hx⟩ := Kd.at_int HR1.out (kk : Int) p0 hltz
    cases e
    replace hx := (BW.out.cell (World.block_lt_of_cell? w _ hx)).trans hx
    rw [Int.toNat_natCast] at hx
    have hcall := impl_areWith.lit n c A b (rd l1 (kk : Int)) w wr Hb.out HC.out BW.out
    have hel : l1[kk]? = some (rd l1 (kk : Int)) := by
     unfold rd
     rw [Int.toNat_natCast, List.getD_eq_getElem?_getD, List.getElem?_eq_getElem hlt]
     rfl
    generalize rd l1 (kk : Int) = y at hx hcall hel
    have HE := am hel
    clear hel
    replace p0 := eq_true p0
    replace hltz := eq_true hltz
    cases hq : impl_areWith.bad n y with
    | true =>
     rw [hq] at hcall
     have HQ := am hq
     clear hq
     go_wp2_with (go_at_call 65; refine hcall.mono ?_; rintro e w' ⟨rfl, hb'⟩)
     go_ret
     refine ⟨⟨kk, rfl, ⟨fun _ => List.any_eq_true.2 ⟨_, List.mem_of_getElem? HE.out, HQ.out⟩, fun _ => by omega⟩⟩, hb'⟩
    | false =>
     rw [hq] at hcall
     have HQ := am hq
     clear hq
     go_wp2_with (go_at_call 65; refine hcall.mono ?_; rintro e w' ⟨rfl, hb'⟩)
     go_roundg (l1.length - (kk + 1))
     case measure => omega
     case rel =>
      refine ⟨kk + 1, by omega, by omega, by rw [show wrap64 ((kk : Int) + 1) = ((kk + 1 : Nat) : Int) from by have := HL.out; unfold wrap64; omega], ⟨hb'⟩, ⟨fun x hx' => ?_⟩⟩
      rw [List.take_add_one, HE.out, Option.toList_some, List.mem_append, List.mem_singleton] at hx'
      rcases hx' with hx' | hx'
      · exact HA.out x hx'
      · rw [hx']; exact HQ.out
  · have hltz : ¬ (kk : Int) < (l1.length : Int) := by omega
    have : kk = l1.length := by omega
    subst this
    go_wp2
    go_ret
    refine ⟨⟨-1, rfl, ⟨fun h => absurd h (by decide), fun h => ?_⟩⟩, BW.out⟩
    obtain ⟨x, hx, hb'⟩ : ∃ x, x ∈ l1 ∧ impl_areWith.bad n x = true := by simpa using h
    have := HA.out x (by rw [List.take_length]; exact hx)
    rw [this] at hb'
    cases hb'
set_option maxHeartbeats 8000000 in
set_option maxRecDepth 100000 in
theorem impl_areWith.contains (n c : Nat) (A : Option Addr) (b : Nat) (A1 : Option Addr) (c1 : Nat) (l1 : List Int) (w : World) (hb : b < w.heap.size) (h1 : w.cell? ⟨b, 1, none⟩ = some (.slice A n c)) (hr1 : Kd.C (Kd.int .i64) w A1 l1.length l1) (hlen : l1.length < 4611686018427387904) :
 Calls Try.prog 64 #[.slice A1 l1.length c1, .func (.func 65) #[] #[.pointer (some ⟨b, 0, none⟩)]] w fun e w' => e = .returned (.bool (l1.any (impl_areWith.bad n))) ∧ Below w.heap.size w w' := by
 have hcon := impl_areWith.index n c A b A1 c1 l1 w hb h1 hr1 hlen
 clear hb h1 hr1
 generalize l1.any (impl_areWith.bad n) = t at hcon ⊢
 go_enter Try.func64, Try.ntmps64
 go_wp2_with (go_at_call 69; refine hcon.mono ?_; rintro e w' ⟨⟨x, rfl, hx⟩, hb'⟩)
 go_ret
 refine ⟨?_, hb'⟩
 cases t with
 | true => simp [hx.2 rfl]
 | false =>
  have : ¬ (0 ≤ x) := fun h => by have := hx.1 h; cases this
  simp [this]
set_option maxHeartbeats 8000000 in
set_option maxRecDepth 100000 in
theorem impl_areWith.calls (k : Nat) (a0_0 : Int) (A0_1 : Option Addr) (c0_1 : Nat) (l0_1 : List (List Int)) (A1 : Option Addr) (c1 : Nat) (l1 : List Int) (r : Bool) (w : World) (hr0_1 : Kd.C (Kd.slice 3 (Kd.int .i64)) w A0_1 l0_1.length l0_1) (hc0_1 : l0_1.length ≤ c0_1) (hr1 : Kd.C (Kd.int .i64) w A1 l1.length l1) (hc1 : l1.length ≤ c1) (h : impl_areWith.f k a0_0 l0_1 l1 = some r) :
 Calls Try.prog 36 #[.agg #[.int .i64 a0_0, .slice A0_1 l0_1.length c0_1], .slice A1 l1.length c1] w fun e w' => e = .returned (.bool r) ∧ Below w.heap.size w w' := by
 have hu26 := Try.underlying26
 unfold impl_areWith.f at h
 replace h := Option.bind_eq_some_iff.mp h
 obtain ⟨t, A2, H⟩ := h
 have hcc : ∀ W : World, Below w.heap.size w W → Kd.C (Kd.slice 3 (Kd.int .i64)) W A0_1 l0_1.length l0_1 := fun W hb => Kd.C_below hr0_1 hb
 have hc2 : ∀ W : World, Below w.heap.size w W → Kd.C (Kd.int .i64) W A1 l1.length l1 := fun W hb => Kd.C_below hr1 hb
 have HR0_1 := am hcc
 have HR1 := am hc2
 have HC0_1 := am hc0_1
 have A3 := am A2
 clear hr0_1 hr1 hcc hc2 hc0_1 hc1 A2
 have HB := am (Below.refl w.heap.size w)
 cases t with
 | false =>
  rw [if_neg (by decide)] at H
  obtain rfl := Option.some.inj H
  clear H
  go_enter Try.func36, Try.ntmps36
  go_wp2_with (go_at_call 22; (with_reducible refine (impl_AreStates.calls k _ _ _ l0_1 false _ ?side1 HC0_1.out A3.out).mono ?_); (case side1 => exact HR0_1.out _ (below_alloc (Below.refl _ _) _)); rintro e w' ⟨rfl, hb⟩; have HB2 := am hb; clear hb)
  go_ret
  exact ⟨rfl, below_step (below_alloc (Below.refl _ _) _) HB2.out⟩
 | true =>
  rw [if_pos rfl] at H
  by_cases hl : l1.length < 4611686018427387904
  · rw [if_pos hl] at H
    obtain rfl := Option.some.inj H
    clear H
    have HL := am hl
    clear hl
    go_enter Try.func36, Try.ntmps36
    go_wp2_with (first | (go_at_call 22; (with_reducible refine (impl_AreStates.calls k _ _ _ l0_1 true _ ?side1 HC0_1.out A3.out).mono ?_); (case side1 => exact HR0_1.out _ (below_alloc (Below.refl _ _) _)); rintro e w' ⟨rfl, hb⟩; have HB2 := am hb; clear hb) | (go_at_call 64; (with_reducible refine (impl_areWith.contains l0_1.length c0_1 A0_1 w.heap.size A1 c1 l1 _ ?side1 ?side2 ?side3 HL.out).mono ?_); (case side1 => have h_ := HB2.out.size; simp at h_; omega); (case side2 => exact (HB2.out.cell (p := ⟨w.heap.size, 1, none⟩) (by simp)).trans (by simp)); (case side3 => exact HR1.out _ (below_step (below_alloc (Below.refl _ _) _) HB2.out)); rintro e w' ⟨rfl, hb⟩; have HB3 := am hb; clear hb))
    go_ret
    exact ⟨rfl, below_step (below_step (below_alloc (Below.refl _ _) _) HB2.out) HB3.out⟩
  · rw [if_neg hl] at H; cases H
def impl_States_only.f (a0_0 : Int) (l0_1 : List (List Int)) (a1 : Int) : Option (List Int) := if 0 ≤ (l0_1.length : Int) then (if ((l0_1.length : Int) : Int).toNat ≤ 35184372088832 then ((some (List.replicate ((l0_1.length : Int) : Int).toNat 0 : List Int)).bind fun y241 => (if 0 ≤ a1 then (if a1 < (y241.length : Int) then (some (y241.set (a1 : Int).toNat 1)) else (none)) else (none))) else (none)) else (none)
set_option maxHeartbeats 8000000 in
set_option maxRecDepth 100000 in
theorem impl_States_only.calls (a0_0 : Int) (A0_1 : Option Addr) (c0_1 : Nat) (l0_1 : List (List Int)) (a1 : Int) (r : List Int) (w : World) (hr0_1 : Kd.C (Kd.slice 3 (Kd.int .i64)) w A0_1 l0_1.length l0_1) (hc0_1 : l0_1.length ≤ c0_1) (h : impl_States_only.f a0_0 l0_1 a1 = some r) :
 Calls Try.prog 38 #[.agg #[.int .i64 a0_0, .slice A0_1 l0_1.length c0_1], .int .i64 a1] w fun e w' => ∃ v0_ : Value, e = .returned (v0_) ∧ Kd.R (Kd.int .i64) 3 w' w.heap.size (fun _ => True) v0_ r ∧ Below w.heap.size w w' := by
 have hu26 := Try.underlying26
 have HR0_1 := am hr0_1
 have HC0_1 := am hc0_1
 clear hr0_1 hc0_1
 have HB := am (Below.refl w.heap.size w)
 have H := h
 clear h
 unfold impl_States_only.f at H
 replace H := ifP H
 obtain ⟨c3, H⟩ := H
 have c3b0 := eq_true c3
 have c3b1 := decide_eq_true c3
 clear c3
 replace H := ifP H
 obtain ⟨c4, H⟩ := H
 have c4b0 := eq_true c4
 have c4b1 := decide_eq_true c4
 clear c4
 generalize hy241 : ((List.replicate ((l0_1.length : Int) : Int).toNat 0) : List Int) = y241 at H
 (try dsimp only [Option.bind_some] at H)
 have Ny241 := am hy241.symm
 clear hy241
 replace H := ifP H
 obtain ⟨c5, H⟩ := H
 have c5b0 := decide_eq_true c5
 clear c5
 replace H := ifP H
 obtain ⟨c6, H⟩ := H
 have c6b0 := decide_eq_true c6
 clear c6
 generalize hy244 : ((y241.set (a1 : Int).toNat 1) : List Int) = y244 at H
 (try dsimp only [Option.bind_some] at H)
 have Ny244 := am hy244.symm
 clear hy244
 obtain rfl := Option.some.inj H
 go_enter Try.func38, Try.ntmps38
 go_wp2_with (first | ((with_reducible refine gate_dst (N := 2) rfl ?_); refine bE 2 #[.int .i64 a0_0, .slice A0_1 l0_1.length c0_1] 26 ?_; intro gb240 hg w8 hbox hb; have BK240 := am (hbox); have GW240 := gW hg; have GE240 := gW hg; replace HB := sB hb; clear hb hbox hg; obtain ⟨hcz9_0, hcz9_1, hfz9_0, hfz9_1⟩ := cZ BK240) | ((with_reducible refine gate_dst (N := 9) rfl ?_); refine Kd.R_make (Kd.int .i64) _ 3 rfl (N := 9) rfl 29 _ _ rfl (l0_1.length : Int) rfl rfl Try.underlying29 (.int .i64 0) 8 info3 rfl (by decide) (by omega) 0 (ok := fun _ => True) (okp := fun _ => True) rfl (fun _ hk => hk) trivial (dT) (Nat.le_trans (Nat.mul_le_mul_right _ (dT : (l0_1.length : Int).toNat ≤ 35184372088832)) (by omega)) (Below.refl _ _) (Nat.le_refl _) ?_; intro v242 w10 ho11 hb hg_ hnew_; clear hg_ hnew_; (first | rw [← Ny241.out] at ho11 | (simp only [Int.reduceToNat] at ho11; rw [← Ny241.out] at ho11)); have HO243 := am (Kd.R_lower ho11 (below_size bB)); replace BK240 := kb BK240 hb; replace HB := sB hb; clear hb ho11; have p7 : 0 ≤ (a1 : Int) := dT; have q7 : (a1 : Int) < ((y241.length : Int) : Int) := dT; obtain ⟨go7, co7, eo7, gb7, gl7, cl7, HG7⟩ := Kd.R_form HO243.out (by omega); (first | cases eo7 | (injection eo7 with ea_ en_ ec_; (first | subst ea_ | (injection ea_ with ea_; subst ea_)); subst ec_; clear en_)); have GB7 := am gb7; have GG7 := am HG7; clear gb7 gl7 HG7; obtain ⟨hx7_0, hf7_0⟩ := Kd.R_celln 0 HO243.out (a1 : Int) p7 q7; replace p7 := eq_true p7; replace q7 := eq_true q7; obtain ⟨hy12_, hz12_⟩ := Kd.R_celln 0 HO243.out (a1 : Int) (dT) (dT); have HP12 := Kd.R_putg HO243.out (a1 : Int) 1) | ((with_reducible refine gate_store (t := 3) (p := 12) rfl ?_); refine store_event (t := 3) (p := 12) (v := ?vo_w13) (w1 := (w10.setCell ⟨go7, (a1 : Int).toNat, none⟩ (.int .i64 1))) ?hg ?ho ?hn ?hr ?_; (case ho => rfl); (case hg => rfl); (case hn => rfl); (case hr => first | (go_simp; done) | (go_simp; rfl)); intro w13 hw; have hg : w10.grownBy w13 (some go7) := (by rw [hw]; exact HP12.2); have hp_ : Kd.R (Kd.int .i64) 3 w13 w.heap.size (fun _ => True) (.slice (some ⟨go7, 0, none⟩) y241.length co7) y244 := (by rw [hw, Ny244.out]; exact HP12.1); clear HP12; replace BK240 := (kg BK240 hg (Kd.R_ne HO243.out BK240.out (by decide))); replace HO243 := am (hp_); replace HB := am ((by rw [hw]; exact below_set (HB.out) GB7.out : Below w.heap.size w w13)); clear hg hw hp_))
 go_ret
 exact ⟨_, eW, rP HO243, bB⟩
mutual
def impl_States_step.l0 : Nat → List Int → List Int → Int → Int → Int → List (List Int) → Option (List Int)
 | 0, _, _, _, _, _, _ => none
 | k + 1, x5, x13, x14, x15, x246000, x246001 => if x15 < x14 then (if 0 ≤ x15 then (if x15 < (x13.length : Int) then (if x15 < (x246001.length : Int) then (impl_States_step.l1 k x5 (rd x13 x15) x13 x14 x15 (rd_L2 x246001 x15) ((rd_L2 x246001 x15).length : Int) 0 x246000 x246001) else (none)) else (none)) else (none)) else (some x5)
def impl_States_step.l1 : Nat → List Int → Int → List Int → Int → Int → List Int → Int → Int → Int → List (List Int) → Option (List Int)
 | 0, _, _, _, _, _, _, _, _, _, _ => none
 | k + 1, x5, x7, x13, x14, x15, x24, x25, x26, x246000, x246001 => if x26 < x25 then (if 0 ≤ x26 then (if x26 < (x24.length : Int) then (if x26 < (x5.length : Int) then (impl_States_step.l1 k (x5.set (x26 : Int).toNat (wrap64 ((rd x5 x26) + (wrap64 (x7 * (rd x24 x26)))))) x7 x13 x14 x15 x24 x25 (wrap64 (x26 + 1)) x246000 x246001) else (none)) else (none)) else (none)) else (impl_States_step.l0 k x5 x13 x14 (wrap64 (x15 + 1)) x246000 x246001)
end
def impl_States_step.f (k : Nat) (a0_0 : Int) (l0_1 : List (List Int)) (l1 : List Int) : Option (List Int) := if 0 ≤ (l1.length : Int) then (if ((l1.length : Int) : Int).toNat ≤ 35184372088832 then (impl_States_step.l0 k (List.replicate ((l1.length : Int) : Int).toNat 0) l1 (l1.length : Int) 0 a0_0 l0_1) else (none)) else (none)
set_option maxHeartbeats 8000000 in
set_option maxRecDepth 100000 in
theorem impl_States_step.calls (k : Nat) (a0_0 : Int) (A0_1 : Option Addr) (c0_1 : Nat) (l0_1 : List (List Int)) (A1 : Option Addr) (c1 : Nat) (l1 : List Int) (r : List Int) (w : World) (hr0_1 : Kd.C (Kd.slice 3 (Kd.int .i64)) w A0_1 l0_1.length l0_1) (hc0_1 : l0_1.length ≤ c0_1) (hr1 : Kd.C (Kd.int .i64) w A1 l1.length l1) (hc1 : l1.length ≤ c1) (h : impl_States_step.f k a0_0 l0_1 l1 = some r) :
 Calls Try.prog 39 #[.agg #[.int .i64 a0_0, .slice A0_1 l0_1.length c0_1], .slice A1 l1.length c1] w fun e w' => ∃ v0_ : Value, e = .returned (v0_) ∧ Kd.R (Kd.int .i64) 3 w' w.heap.size (fun _ => True) v0_ r ∧ Below w.heap.size w w' := by
 have hu26 := Try.underlying26
 have HR0_1 := am hr0_1
 have HC0_1 := am hc0_1
 clear hr0_1 hc0_1
 have HR1 := am hr1
 have HC1 := am hc1
 clear hr1 hc1
 have HB := am (Below.refl w.heap.size w)
 have H := h
 clear h
 unfold impl_States_step.f at H
 replace H := ifP H
 obtain ⟨c3, H⟩ := H
 have c3b0 := eq_true c3
 have c3b1 := decide_eq_true c3
 clear c3
 replace H := ifP H
 obtain ⟨c4, H⟩ := H
 have c4b0 := eq_true c4
 have c4b1 := decide_eq_true c4
 clear c4
 generalize hy246 : ((List.replicate ((l1.length : Int) : Int).toNat 0) : List Int) = y246 at H
 (try dsimp only [Option.bind_some] at H)
 have Ny246 := am hy246.symm
 clear hy246
 have H' := am H
 clear H
 go_enter Try.func39, Try.ntmps39
 go_wp2_with (first | ((with_reducible refine gate_dst (N := 2) rfl ?_); refine bE 2 #[.int .i64 a0_0, .slice A0_1 l0_1.length c0_1] 26 ?_; intro gb245 hg w5 hbox hb; have BK245 := am (hbox); have GW245 := gW hg; have GE245 := gW hg; replace HB := sB hb; clear hb hbox hg) | ((with_reducible refine gate_dst (N := 12) rfl ?_); refine Kd.R_make (Kd.int .i64) _ 3 rfl (N := 12) rfl 29 _ _ rfl (l1.length : Int) rfl rfl Try.underlying29 (.int .i64 0) 8 info3 rfl (by decide) (by omega) 0 (ok := fun _ => True) (okp := fun _ => True) rfl (fun _ hk => hk) trivial (dT) (Nat.le_trans (Nat.mul_le_mul_right _ (dT : (l1.length : Int).toNat ≤ 35184372088832)) (by omega)) (Below.refl _ _) (Nat.le_refl _) ?_; intro v247 w6 ho7 hb hg_ hnew_; clear hg_ hnew_; (first | rw [← Ny246.out] at ho7 | (simp only [Int.reduceToNat] at ho7; rw [← Ny246.out] at ho7)); have HO248 := am (Kd.R_lower ho7 (below_size bB)); replace BK245 := kb BK245 hb; replace HB := sB hb; clear hb ho7))
 go_loopg [15] k (fun kq v15 w' => ∃ (x5_1 : List Int) (x15_1 : Int), v15 = .int .i64 x15_1 ∧ Aside0 (impl_States_step.l0 kq x5_1 l1 (l1.length : Int) x15_1 a0_0 l0_1 = some r) ∧ Aside0 (kq ≤ k) ∧ Aside0 (Kd.R (Kd.int .i64) 3 w' w.heap.size (fun _ => True) v247 x5_1) ∧ Aside0 (w'.heap[gb245]? = some (.cells #[.int .i64 a0_0, (.slice A0_1 l0_1.length c0_1)] 26 (0, 0))) ∧ Aside0 (Below w.heap.size w w'))
 case atStart => exact ⟨(y246), (0), sR, H', ⟨Nat.le_refl _⟩, ⟨rP HO248⟩, ⟨bP BK245⟩, ⟨bB⟩⟩
 case round =>
  clear H'
  obtain ⟨x5_1, x15_1, rfl, HA, HK1, HO_5, BK245, HB⟩ := hrel
  cases gk with
  | zero => exact absurd HA.out (by simp [impl_States_step.l0])
  | succ k1 =>
   have H := HA.out
   clear HA
   simp only [impl_States_step.l0] at H
   by_cases c8 : x15_1 < (l1.length : Int)
   · rw [if_pos c8] at H
     have c8b0 := decide_eq_true c8
     clear c8
     replace H := ifP H
     obtain ⟨c9, H⟩ := H
     have c9b0 := decide_eq_true c9
     clear c9
     replace H := ifP H
     obtain ⟨c10, H⟩ := H
     have c10b0 := decide_eq_true c10
     clear c10
     replace H := ifP H
     obtain ⟨c11, H⟩ := H
     have c11b0 := decide_eq_true c11
     clear c11
     have H' := am H
     clear H
     have p249 : 0 ≤ (x15_1 : Int) := dT
     have q249 : x15_1 < (l1.length : Int) := dT
     obtain ⟨ad249, e249, hx249_0⟩ := Kd.at_int HR1.out x15_1 p249 q249
     cases e249
     replace hx249_0 := (HB.out.cell (World.block_lt_of_cell? w _ hx249_0)).trans hx249_0
     replace p249 := eq_true p249
     replace q249 := eq_true q249
     obtain ⟨hcz12_0, hcz12_1, hfz12_0, hfz12_1⟩ := cZ BK245
     have p250 : 0 ≤ (x15_1 : Int) := dT
     have q250 : x15_1 < (l0_1.length : Int) := dT
     obtain ⟨ad250, A250_0, c250_0, e250, hx250_0, hl250_0, hi250_0⟩ := at_L2 HR0_1.out x15_1 p250 q250
     cases e250
     replace hx250_0 := (HB.out.cell (World.block_lt_of_cell? w _ hx250_0)).trans hx250_0
     have HR250_0 := am hi250_0
     have HC250_0 := am hl250_0
     clear hi250_0 hl250_0
     replace p250 := eq_true p250
     replace q250 := eq_true q250
     go_wp2
     go_loopg [26] k1 (fun kq v26 w' => ∃ (x5_2 : List Int) (x26_2 : Int), v26 = .int .i64 x26_2 ∧ Aside0 (impl_States_step.l1 kq x5_2 (rd l1 x15_1) l1 (l1.length : Int) x15_1 (rd_L2 l0_1 x15_1) ((rd_L2 l0_1 x15_1).length : Int) x26_2 a0_0 l0_1 = some r) ∧ Aside0 (kq ≤ k1) ∧ Aside0 (Kd.R (Kd.int .i64) 3 w' w.heap.size (fun _ => True) v247 x5_2) ∧ Aside0 (w'.heap[gb245]? = some (.cells #[.int .i64 a0_0, (.slice (some ad250) l0_1.length c0_1)] 26 (0, 0))) ∧ Aside0 (Below w.heap.size w w'))
     case atStart => exact ⟨(x5_1), (0), sR, H', ⟨Nat.le_refl _⟩, ⟨rP HO_5⟩, ⟨bP BK245⟩, ⟨bB⟩⟩
     case round =>
      clear H'
      obtain ⟨x5_2, x26_2, rfl, HA, HK2, HO_5, BK245, HB⟩ := hrel
      cases gk with
      | zero => exact absurd HA.out (by simp [impl_States_step.l1])
      | succ k2 =>
       have H := HA.out
       clear HA
       simp only [impl_States_step.l1] at H
       by_cases c13 : x26_2 < ((rd_L2 l0_1 x15_1).length : Int)
       · rw [if_pos c13] at H
         have c13b0 := decide_eq_true c13
         clear c13
         replace H := ifP H
         obtain ⟨c14, H⟩ := H
         have c14b0 := decide_eq_true c14
         clear c14
         replace H := ifP H
         obtain ⟨c15, H⟩ := H
         have c15b0 := decide_eq_true c15
         clear c15
         replace H := ifP H
         obtain ⟨c16, H⟩ := H
         have c16b0 := decide_eq_true c16
         clear c16
         generalize hy253 : ((x5_2.set (x26_2 : Int).toNat (wrap64 ((rd x5_2 x26_2) + (wrap64 ((rd l1 x15_1) * (rd (rd_L2 l0_1 x15_1) x26_2)))))) : List Int) = y253 at H
         (try dsimp only [Option.bind_some] at H)
         have Ny253 := am hy253.symm
         clear hy253
         have H' := am H
         clear H
         have p251 : 0 ≤ (x26_2 : Int) := dT
         have q251 : x26_2 < ((rd_L2 l0_1 x15_1).length : Int) := dT
         obtain ⟨ad251, e251, hx251_0⟩ := Kd.at_int HR250_0.out x26_2 p251 q251
         cases e251
         replace hx251_0 := (HB.out.cell (World.block_lt_of_cell? w _ hx251_0)).trans hx251_0
         replace p251 := eq_true p251
         replace q251 := eq_true q251
         obtain ⟨Ao18, co18, eo18⟩ := Kd.R_slice HO_5.out
         subst eo18
         have p252 : 0 ≤ (x26_2 : Int) := dT
         have q252 : x26_2 < (x5_2.length : Int) := dT
         obtain ⟨ad252, e252, hx252_0⟩ := Kd.at_int (Kd.R_reads' HO_5.out).2.2 x26_2 p252 q252
         cases e252
         replace p252 := eq_true p252
         replace q252 := eq_true q252
         have p17 : 0 ≤ (x26_2 : Int) := dT
         have q17 : (x26_2 : Int) < ((x5_2.length : Int) : Int) := dT
         obtain ⟨go17, co17, eo17, gb17, gl17, cl17, HG17⟩ := Kd.R_form HO_5.out (by omega)
         (first | cases eo17 | (injection eo17 with ea_ en_ ec_; (first | subst ea_ | (injection ea_ with ea_; subst ea_)); subst ec_; clear en_))
         have GB17 := am gb17
         have GG17 := am HG17
         clear gb17 gl17 HG17
         (first | simp only [add_plain] at hx252_0 | skip)
         obtain ⟨hx17_0, hf17_0⟩ := Kd.R_celln 0 HO_5.out (x26_2 : Int) p17 q17
         replace p17 := eq_true p17
         replace q17 := eq_true q17
         have HP19 := Kd.R_putg HO_5.out (x26_2 : Int) (wrap64 ((rd x5_2 x26_2) + (wrap64 ((rd l1 x15_1) * (rd (rd_L2 l0_1 x15_1) x26_2)))))
         go_wp2_with (first | ((with_reducible refine gate_store (t := 3) (p := 39) rfl ?_); refine store_event (t := 3) (p := 39) (v := ?vo_w20) (w1 := (wr.setCell ⟨go17, (x26_2 : Int).toNat, none⟩ (.int .i64 (wrap64 ((rd x5_2 x26_2) + (wrap64 ((rd l1 x15_1) * (rd (rd_L2 l0_1 x15_1) x26_2)))))))) ?hg ?ho ?hn ?hr ?_; (case ho => rfl); (case hg => rfl); (case hn => rfl); (case hr => first | (go_simp; done) | (go_simp; rfl)); intro w20 hw; have hg : wr.grownBy w20 (some go17) := (by rw [hw]; exact HP19.2); have hp_ : Kd.R (Kd.int .i64) 3 w20 w.heap.size (fun _ => True) (.slice (some ⟨go17, 0, none⟩) x5_2.length co18) y253 := (by rw [hw, Ny253.out]; exact HP19.1); clear HP19; replace BK245 := (kg BK245 hg (Kd.R_ne HO_5.out BK245.out (by decide))); replace HO_5 := am (hp_); replace HB := am ((by rw [hw]; exact below_set (HB.out) GB17.out : Below w.heap.size w w20)); clear hg hw hp_))
         go_roundg k2
         case measure => have := HK1.out; have := HK2.out; omega
         case rel => exact ⟨(y253), (wrap64 (x26_2 + 1)), sR, H', ⟨oK⟩, ⟨rP HO_5⟩, ⟨bP BK245⟩, ⟨bB⟩⟩
       · rw [if_neg c13] at H
         have c13b0 := decide_eq_false c13
         clear c13
         have H' := am H
         clear H
         go_wp2
         go_roundg k2
         case measure => have := HK1.out; have := HK2.out; omega
         case rel => exact ⟨(x5_2), (wrap64 (x15_1 + 1)), sR, H', ⟨oK⟩, ⟨rP HO_5⟩, ⟨bP BK245⟩, ⟨bB⟩⟩
   · rw [if_neg c8] at H
     have c8b0 := decide_eq_false c8
     clear c8
     obtain rfl := Option.some.inj H
     go_wp2
     go_ret
     exact ⟨_, eW, rP HO_5, bB⟩
end Go.Proofs.Ytkkjnmnjbmfpaaa.PFnStatesStep
