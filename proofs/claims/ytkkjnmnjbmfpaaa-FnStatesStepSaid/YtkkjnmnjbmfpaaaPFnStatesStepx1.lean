-- written by a program of this session (the kit's print with turns of the session's own)
import Derived.Test.YtkkjnmnjbmfpaaaPFnStatesStepx0
import Derived.Test.YtkkjnmnjbmfpaaaHp
namespace Go.Proofs.Ytkkjnmnjbmfpaaa.PFnStatesStep
open Go.RowKit Go.Proofs.YtkkjnmnjbmfpaaaW.PrintWords Go.Proofs.YtkkjnmnjbmfpaaaW.PrintLast Go.Proofs.YtkkjnmnjbmfpaaaW.PrintMore
attribute [local go_sem] Instr.field asAgg part max2_int min2_int max_two min_two max_three min_three max_four min_four
set_option linter.unusedVariables false
set_option linter.unusedSimpArgs false
def laws_big.f (l0 : List Int) (l1 : List Int) : Option (Bool) := if (l0.length : Int) > 1048576 then (some true) else (some (decide ((l1.length : Int) > (wrap64 (1048576 - (l0.length : Int))))))
set_option maxHeartbeats 8000000 in
set_option maxRecDepth 100000 in
theorem laws_big.calls (A0 : Option Addr) (c0 : Nat) (l0 : List Int) (A1 : Option Addr) (c1 : Nat) (l1 : List Int) (r : Bool) (w : World) (hr0 : Kd.C (Kd.int .u8) w A0 l0.length l0) (hc0 : l0.length ≤ c0) (hr1 : Kd.C (Kd.int .u8) w A1 l1.length l1) (hc1 : l1.length ≤ c1) (h : laws_big.f l0 l1 = some r) :
 Calls Try.prog 4 #[.slice A0 l0.length c0, .slice A1 l1.length c1] w fun e w' => e = .returned (.bool r) ∧ Drawn0 w w' := by
 have HR0 := am hr0
 have HC0 := am hc0
 clear hr0 hc0
 have HR1 := am hr1
 have HC1 := am hc1
 clear hr1 hc1
 have H := h
 clear h
 unfold laws_big.f at H
 by_cases c3 : (l0.length : Int) > 1048576
 · rw [if_pos c3] at H
   have c3b0 : decide (1048576 < (l0.length : Int)) = true := decide_eq_true c3
   have c3b1 : decide (1048576 < l0.length) = true := decide_eq_true (by omega)
   clear c3
   obtain rfl := Option.some.inj H
   go_enter Try.func4, Try.ntmps4
   go_wp2
   go_ret
   exact ⟨sR, dW⟩
 · rw [if_neg c3] at H
   have c3b0 : decide (1048576 < (l0.length : Int)) = false := decide_eq_false c3
   have c3b1 : decide (1048576 < l0.length) = false := decide_eq_false (by omega)
   clear c3
   obtain rfl := Option.some.inj H
   go_enter Try.func4, Try.ntmps4
   go_wp2
   go_ret
   exact ⟨sR, dW⟩
def IsS58 (w0 W : World) (g : Nat) (f0 : List Int) (f1 : Int) (f2 : Int) : Prop := ∃ A0 c0, W.heap[g]? = some (.cells #[.slice A0 f0.length c0, .int .i64 f1, .int .u64 f2] 58 (0, 0)) ∧ w0.heap.size ≤ g ∧ Kd.C (Kd.int .u8) w0 A0 f0.length f0
theorem IsS58.grown {w0 W : World} {g : Nat} {f0 : List Int} {f1 : Int} {f2 : Int} {W1 : World} {row : Option Nat} (h : IsS58 w0 W g f0 f1 f2) (hw : W.grownBy W1 row) (hne : some g ≠ row) : IsS58 w0 W1 g f0 f1 f2 := by
 obtain ⟨A0, c0, hb, hg, hr0⟩ := h
 exact ⟨A0, c0, blk_grown hb hw hne, hg, hr0⟩
theorem IsS58.kept {w0 W : World} {g : Nat} {f0 : List Int} {f1 : Int} {f2 : Int} {W1 : World} {S : Nat → Prop} (h : IsS58 w0 W g f0 f1 f2) (hk : Kept W W1 S) (hne : ¬ S g) : IsS58 w0 W1 g f0 f1 f2 := by
 obtain ⟨A0, c0, hb, hg, hr0⟩ := h
 exact ⟨A0, c0, blk_kept hb hk hne, hg, hr0⟩
theorem IsS58.below {w0 W : World} {g : Nat} {f0 : List Int} {f1 : Int} {f2 : Int} {W1 : World} (h : IsS58 w0 W g f0 f1 f2) (hw : Below W.heap.size W W1) : IsS58 w0 W1 g f0 f1 f2 := h.grown (grown_of_below hw none) (by simp)
theorem IsS58.alloc {w0 W : World} {g : Nat} {f0 : List Int} {f1 : Int} {f2 : Int} (h : IsS58 w0 W g f0 f1 f2) (o : Obj) : IsS58 w0 (W.alloc o) g f0 f1 f2 := h.below (below_alloc (Below.refl _ _) o)
theorem IsS58.drewN {w0 W : World} {g : Nat} {f0 : List Int} {f1 : Int} {f2 : Int} (h : IsS58 w0 W g f0 f1 f2) (m : Nat) : IsS58 w0 (W.drewN m) g f0 f1 f2 := h
theorem IsS58.drew {w0 W : World} {g : Nat} {f0 : List Int} {f1 : Int} {f2 : Int} (h : IsS58 w0 W g f0 f1 f2) : IsS58 w0 W.drew g f0 f1 f2 := h
theorem IsS58.at_ {w0 W : World} {g : Nat} {f0 : List Int} {f1 : Int} {f2 : Int} {w' : World} {m : Nat} (hq : W.drewN m = w') (h : IsS58 w0 W g f0 f1 f2) : IsS58 w0 w' g f0 f1 f2 := by subst hq; exact IsS58.drewN h m
theorem IsS58.apart {w0 W : World} {g : Nat} {f0 : List Int} {f1 : Int} {f2 : Int} {α : Type} {d : Kd α} {e : Nat} {base : Nat} {ok : Nat → Prop} {v : Value} {xs : List α} (h : IsS58 w0 W g f0 f1 f2) (ho : d.R e W base ok v xs) (ht : ∀ q, q ∈ e :: d.E → q ≠ 58) : d.R e W base (fun k => ok k ∧ k ≠ g) v xs := by
 obtain ⟨A0, c0, hb, hg, hr0⟩ := h
 exact Kd.R_types ho hb ht
theorem IsS58.own_ne {w0 W : World} {g : Nat} {f0 : List Int} {f1 : Int} {f2 : Int} {α : Type} {d : Kd α} {e : Nat} {base : Nat} {ok : Nat → Prop} {v : Value} {xs : List α} (h : IsS58 w0 W g f0 f1 f2) (ho : d.R e W base ok v xs) (ht : e ≠ 58) : some g ≠ v.ownBlock := by
 obtain ⟨A0, c0, hb, hg, hr0⟩ := h
 exact Kd.R_ne ho hb ht
theorem IsS58.apartS {w0 W : World} {g : Nat} {f0 : List Int} {f1 : Int} {f2 : Int} {α : Type} {d : Kd α} {e : Nat} {base : Nat} {ok : Nat → Prop} {v : Value} {xs : List α} (h : IsS58 w0 W g f0 f1 f2) (ho : d.S e W base ok v xs) (ht : ∀ q, q ∈ e :: d.E → q ≠ 58) : d.S e W base (fun k => ok k ∧ k ≠ g) v xs := by
 obtain ⟨A0, c0, hb, hg, hr0⟩ := h
 exact Kd.S_types ho hb ht
theorem IsS58.own_neS {w0 W : World} {g : Nat} {f0 : List Int} {f1 : Int} {f2 : Int} {α : Type} {d : Kd α} {e : Nat} {base : Nat} {ok : Nat → Prop} {v : Value} {xs : List α} (h : IsS58 w0 W g f0 f1 f2) (ho : d.S e W base ok v xs) (ht : e ≠ 58) : some g ≠ v.ownBlock := by
 obtain ⟨A0, c0, hb, hg, hr0⟩ := h
 exact Kd.S_ne ho hb ht
theorem IsS58.lt {w0 W : World} {g : Nat} {f0 : List Int} {f1 : Int} {f2 : Int} (h : IsS58 w0 W g f0 f1 f2) : g < W.heap.size := by
 obtain ⟨A0, c0, hb, hg, hr0⟩ := h
 exact blk_lt hb
theorem IsS58.ge {w0 W : World} {g : Nat} {f0 : List Int} {f1 : Int} {f2 : Int} (h : IsS58 w0 W g f0 f1 f2) : w0.heap.size ≤ g := by
 obtain ⟨A0, c0, hb, hg, hr0⟩ := h
 exact hg
theorem IsS58.far {w0 W : World} {g : Nat} {f0 : List Int} {f1 : Int} {f2 : Int} {p : Addr} (h : IsS58 w0 W g f0 f1 f2) (hne : g ≠ p.block) (u : Value) : IsS58 w0 (W.setCell p u) g f0 f1 f2 := by
 obtain ⟨A0, c0, hb, hg, hr0⟩ := h
 exact ⟨A0, c0, blk_far hb hne u, hg, hr0⟩
theorem cellS58_0 {W : World} {g : Nat} {A0 : Option Addr} {c0 : Nat} {f0 : List Int} {f1 : Int} {f2 : Int} (h : W.heap[g]? = some (.cells #[.slice A0 f0.length c0, .int .i64 f1, .int .u64 f2] 58 (0, 0))) : W.cell? ⟨g, 0, none⟩ = some (.slice A0 f0.length c0) := (blk_cell h 0).trans rfl
theorem cellS58_1 {W : World} {g : Nat} {A0 : Option Addr} {c0 : Nat} {f0 : List Int} {f1 : Int} {f2 : Int} (h : W.heap[g]? = some (.cells #[.slice A0 f0.length c0, .int .i64 f1, .int .u64 f2] 58 (0, 0))) : W.cell? ⟨g, 1, none⟩ = some (.int .i64 f1) := (blk_cell h 1).trans rfl
theorem IsS58.set_1 {w0 W : World} {g : Nat} {f0 : List Int} {f1 : Int} {f2 : Int} (h : IsS58 w0 W g f0 f1 f2) (x : Int) : IsS58 w0 (W.setCell ⟨g, 1, none⟩ (.int .i64 x)) g f0 x f2 := by
 obtain ⟨A0, c0, hb, hg, hr0⟩ := h
 exact ⟨A0, c0, by simpa using blk_set hb 1 (.int .i64 x), hg, hr0⟩
theorem cellS58_2 {W : World} {g : Nat} {A0 : Option Addr} {c0 : Nat} {f0 : List Int} {f1 : Int} {f2 : Int} (h : W.heap[g]? = some (.cells #[.slice A0 f0.length c0, .int .i64 f1, .int .u64 f2] 58 (0, 0))) : W.cell? ⟨g, 2, none⟩ = some (.int .u64 f2) := (blk_cell h 2).trans rfl
theorem IsS58.set_2 {w0 W : World} {g : Nat} {f0 : List Int} {f1 : Int} {f2 : Int} (h : IsS58 w0 W g f0 f1 f2) (x : Int) : IsS58 w0 (W.setCell ⟨g, 2, none⟩ (.int .u64 x)) g f0 f1 x := by
 obtain ⟨A0, c0, hb, hg, hr0⟩ := h
 exact ⟨A0, c0, by simpa using blk_set hb 2 (.int .u64 x), hg, hr0⟩
def spec_l1Cur_next.f (s0_0 : List Int) (s0_1 : Int) (s0_2 : Int) : Option (Int × Int × Int) := if s0_1 < (s0_0.length : Int) then (if 0 ≤ s0_1 then (if (wrap64 (s0_1 + 1)) ≤ (s0_0.length : Int) then (some (wrap64 (rd s0_0 s0_1), wrap64 (s0_1 + 1), IntKind.u64.wrap ((IntKind.u64.wrap ((IntKind.u64.wrap (s0_2 * 6364136223846793005)) + (IntKind.u64.wrap (wrap64 (rd s0_0 s0_1))))) + 1442695040888963407))) else (some (wrap64 (Go.bits .and .u64 ((IntKind.u64.wrap ((IntKind.u64.wrap ((IntKind.u64.wrap (s0_2 * 6364136223846793005)) + (IntKind.u64.wrap (wrap64 (rd s0_0 s0_1))))) + 1442695040888963407)) / 1099511627776) 255), wrap64 (s0_1 + 1), IntKind.u64.wrap ((IntKind.u64.wrap ((IntKind.u64.wrap (s0_2 * 6364136223846793005)) + (IntKind.u64.wrap (wrap64 (rd s0_0 s0_1))))) + 1442695040888963407)))) else (none)) else (if (wrap64 (s0_1 + 1)) ≤ (s0_0.length : Int) then (some (0, wrap64 (s0_1 + 1), IntKind.u64.wrap ((IntKind.u64.wrap ((IntKind.u64.wrap (s0_2 * 6364136223846793005)) + 0)) + 1442695040888963407))) else (some (wrap64 (Go.bits .and .u64 ((IntKind.u64.wrap ((IntKind.u64.wrap ((IntKind.u64.wrap (s0_2 * 6364136223846793005)) + 0)) + 1442695040888963407)) / 1099511627776) 255), wrap64 (s0_1 + 1), IntKind.u64.wrap ((IntKind.u64.wrap ((IntKind.u64.wrap (s0_2 * 6364136223846793005)) + 0)) + 1442695040888963407))))
set_option maxHeartbeats 8000000 in
set_option maxRecDepth 100000 in
theorem spec_l1Cur_next.calls (g : Nat) (s0_0 : List Int) (s0_1 : Int) (s0_2 : Int) (r1 : Int) (r2 : Int) (r3 : Int) (w0 w : World) (hI : IsS58 w0 w g s0_0 s0_1 s0_2) (hB : Below w0.heap.size w0 w) (h : spec_l1Cur_next.f s0_0 s0_1 s0_2 = some (r1, r2, r3)) :
 Calls Try.prog 63 #[.pointer (some ⟨g, 0, none⟩)] w fun e w' => e = .returned (.int .i64 r1) ∧ IsS58 w0 w' g s0_0 r2 r3 ∧ Below w0.heap.size w0 w' ∧ KeepBut w w' g none := by
 have HI0 := am hI
 have HK := am (KeepBut.refl w g none)
 have HL := am hB.size
 clear hI
 have HW0 := am hB.size
 have HB := am hB
 clear hB
 have H := h
 clear h
 unfold spec_l1Cur_next.f at H
 by_cases c2 : s0_1 < (s0_0.length : Int)
 · rw [if_pos c2] at H
   have c2b0 := decide_eq_true c2
   clear c2
   replace H := ifP H
   obtain ⟨c3, H⟩ := H
   have c3b0 := decide_eq_true c3
   clear c3
   by_cases c4 : (wrap64 (s0_1 + 1)) ≤ (s0_0.length : Int)
   · rw [if_pos c4] at H
     have c4b0 := decide_eq_true c4
     clear c4
     simp only [Option.some.injEq, Prod.mk.injEq] at H
     obtain ⟨rfl, rfl, rfl⟩ := H
     obtain ⟨ASz5_0, cSz5_0, HGz5, hgz5, HSz5_0⟩ := HI0.out
     have hcz5_0 := cellS58_0 HGz5
     have hcz5_1 := cellS58_1 HGz5
     have hcz5_2 := cellS58_2 HGz5
     have hfz5_1 := blk_frozen HGz5 1
     have hfz5_2 := blk_frozen HGz5 2
     clear HGz5 hgz5
     have p101 : 0 ≤ (s0_1 : Int) := dT
     have q101 : s0_1 < (s0_0.length : Int) := dT
     obtain ⟨ad101, e101, hx101_0⟩ := Kd.at_int HSz5_0 s0_1 p101 q101
     cases e101
     replace hx101_0 := pw_cell_below HB.out hx101_0
     replace p101 := eq_true p101
     replace q101 := eq_true q101
     go_enter Try.func63, Try.ntmps63
     go_wp2
     repeat (go_quiet (fail); try go_wp2)
     go_ret
     exact ⟨eW, by (try simp only [Int.add_zero]); exact iB HI0, bB, kB HK⟩
   · rw [if_neg c4] at H
     have c4b0 := decide_eq_false c4
     clear c4
     simp only [Option.some.injEq, Prod.mk.injEq] at H
     obtain ⟨rfl, rfl, rfl⟩ := H
     obtain ⟨ASz6_0, cSz6_0, HGz6, hgz6, HSz6_0⟩ := HI0.out
     have hcz6_0 := cellS58_0 HGz6
     have hcz6_1 := cellS58_1 HGz6
     have hcz6_2 := cellS58_2 HGz6
     have hfz6_1 := blk_frozen HGz6 1
     have hfz6_2 := blk_frozen HGz6 2
     clear HGz6 hgz6
     have p101 : 0 ≤ (s0_1 : Int) := dT
     have q101 : s0_1 < (s0_0.length : Int) := dT
     obtain ⟨ad101, e101, hx101_0⟩ := Kd.at_int HSz6_0 s0_1 p101 q101
     cases e101
     replace hx101_0 := pw_cell_below HB.out hx101_0
     replace p101 := eq_true p101
     replace q101 := eq_true q101
     go_enter Try.func63, Try.ntmps63
     go_wp2
     repeat (go_quiet (fail); try go_wp2)
     go_ret
     exact ⟨eW, by (try simp only [Int.add_zero]); exact iB HI0, bB, kB HK⟩
 · rw [if_neg c2] at H
   have c2b0 := decide_eq_false c2
   clear c2
   by_cases c7 : (wrap64 (s0_1 + 1)) ≤ (s0_0.length : Int)
   · rw [if_pos c7] at H
     have c7b0 := decide_eq_true c7
     clear c7
     simp only [Option.some.injEq, Prod.mk.injEq] at H
     obtain ⟨rfl, rfl, rfl⟩ := H
     obtain ⟨ASz8_0, cSz8_0, HGz8, hgz8, HSz8_0⟩ := HI0.out
     have hcz8_0 := cellS58_0 HGz8
     have hcz8_1 := cellS58_1 HGz8
     have hcz8_2 := cellS58_2 HGz8
     have hfz8_1 := blk_frozen HGz8 1
     have hfz8_2 := blk_frozen HGz8 2
     clear HGz8 hgz8
     go_enter Try.func63, Try.ntmps63
     go_wp2
     repeat (go_quiet (fail); try go_wp2)
     go_ret
     exact ⟨eW, by (try simp only [Int.add_zero]); exact iB HI0, bB, kB HK⟩
   · rw [if_neg c7] at H
     have c7b0 := decide_eq_false c7
     clear c7
     simp only [Option.some.injEq, Prod.mk.injEq] at H
     obtain ⟨rfl, rfl, rfl⟩ := H
     obtain ⟨ASz9_0, cSz9_0, HGz9, hgz9, HSz9_0⟩ := HI0.out
     have hcz9_0 := cellS58_0 HGz9
     have hcz9_1 := cellS58_1 HGz9
     have hcz9_2 := cellS58_2 HGz9
     have hfz9_1 := blk_frozen HGz9 1
     have hfz9_2 := blk_frozen HGz9 2
     clear HGz9 hgz9
     go_enter Try.func63, Try.ntmps63
     go_wp2
     repeat (go_quiet (fail); try go_wp2)
     go_ret
     exact ⟨eW, by (try simp only [Int.add_zero]); exact iB HI0, bB, kB HK⟩
def spec_l1Cur_pick.f (s0_0 : List Int) (s0_1 : Int) (s0_2 : Int) (a1 : Int) : Option (Int × Int × Int) := if a1 ≤ 1 then (some (0, s0_1, s0_2)) else ((spec_l1Cur_next.f s0_0 s0_1 s0_2).bind fun bt102 => (if a1 > 200 then ((spec_l1Cur_next.f s0_0 bt102.2.1 bt102.2.2).bind fun bt105 => (if a1 = 0 then (none) else (some (Int.tmod (wrap64 ((wrap64 (bt102.1 * 256)) + bt105.1)) a1, bt105.2.1, bt105.2.2)))) else (if a1 = 0 then (none) else (some (Int.tmod bt102.1 a1, bt102.2.1, bt102.2.2)))))
set_option maxHeartbeats 8000000 in
set_option maxRecDepth 100000 in
theorem spec_l1Cur_pick.calls (g : Nat) (s0_0 : List Int) (s0_1 : Int) (s0_2 : Int) (a1 : Int) (r1 : Int) (r2 : Int) (r3 : Int) (w0 w : World) (hI : IsS58 w0 w g s0_0 s0_1 s0_2) (hB : Below w0.heap.size w0 w) (h : spec_l1Cur_pick.f s0_0 s0_1 s0_2 a1 = some (r1, r2, r3)) :
 Calls Try.prog 35 #[.pointer (some ⟨g, 0, none⟩), .int .i64 a1] w fun e w' => e = .returned (.int .i64 r1) ∧ IsS58 w0 w' g s0_0 r2 r3 ∧ Below w0.heap.size w0 w' ∧ KeepBut w w' g none := by
 have HI0 := am hI
 have HK := am (KeepBut.refl w g none)
 have HL := am hB.size
 clear hI
 have HW0 := am hB.size
 have HB := am hB
 clear hB
 have H := h
 clear h
 unfold spec_l1Cur_pick.f at H
 by_cases c3 : a1 ≤ 1
 · rw [if_pos c3] at H
   have c3b0 := decide_eq_true c3
   clear c3
   simp only [Option.some.injEq, Prod.mk.injEq] at H
   obtain ⟨rfl, rfl, rfl⟩ := H
   go_enter Try.func35, Try.ntmps35
   go_wp2
   go_ret
   exact ⟨eW, iB HI0, bB, kB HK⟩
 · rw [if_neg c3] at H
   have c3b0 := decide_eq_false c3
   clear c3
   replace H := bnd H
   obtain ⟨⟨t102, t103, t104⟩, A4, H⟩ := H
   (try dsimp only at H)
   by_cases c5 : a1 > 200
   · rw [if_pos c5] at H
     have c5b0 : decide (200 < a1) = true := decide_eq_true c5
     clear c5
     replace H := bnd H
     obtain ⟨⟨t105, t106, t107⟩, A6, H⟩ := H
     (try dsimp only at H)
     replace H := ifN H
     obtain ⟨c7, H⟩ := H
     have c7b0 : (a1 == 0) = false := beq_eq_false_iff_ne.mpr c7
     have c7b1 : (a1 != 0) = true := bne_iff_ne.mpr c7
     simp only [Option.some.injEq, Prod.mk.injEq] at H
     obtain ⟨rfl, rfl, rfl⟩ := H
     go_enter Try.func35, Try.ntmps35
     go_wp2_with (first | ((with_reducible refine gate_callee (f := 63) rfl ?_); refine gL 9 Try.func63 #[.pointer (some ⟨g, 0, none⟩)] ?_; (with_reducible refine (spec_l1Cur_next.calls g s0_0 s0_1 s0_2 t102 t103 t104 w0 _ ?side1 ?side2 A4.out).mono ?_); (case side1 => exact iB HI0); (case side2 => exact bB); rintro e w8 ⟨rfl, hi, hb, hk⟩; refine ⟨_, rfl, ?_⟩; replace HK := am (KeepBut.trans (kB HK) hk (.inl rfl)); replace HB := am (hb); replace HI0 := am (hi)) | ((with_reducible refine gate_callee (f := 63) rfl ?_); refine gL 15 Try.func63 #[.pointer (some ⟨g, 0, none⟩)] ?_; (with_reducible refine (spec_l1Cur_next.calls g s0_0 t103 t104 t105 t106 t107 w0 _ ?side1 ?side2 A6.out).mono ?_); (case side1 => exact iB HI0); (case side2 => exact bB); rintro e w9 ⟨rfl, hi, hb, hk⟩; refine ⟨_, rfl, ?_⟩; replace HK := am (KeepBut.trans (kB HK) hk (.inl rfl)); replace HB := am (hb); replace HI0 := am (hi)))
     go_ret
     exact ⟨eW, iB HI0, bB, kB HK⟩
   · rw [if_neg c5] at H
     have c5b0 : decide (200 < a1) = false := decide_eq_false c5
     clear c5
     replace H := ifN H
     obtain ⟨c10, H⟩ := H
     have c10b0 : (a1 == 0) = false := beq_eq_false_iff_ne.mpr c10
     have c10b1 : (a1 != 0) = true := bne_iff_ne.mpr c10
     simp only [Option.some.injEq, Prod.mk.injEq] at H
     obtain ⟨rfl, rfl, rfl⟩ := H
     go_enter Try.func35, Try.ntmps35
     go_wp2_with (first | ((with_reducible refine gate_callee (f := 63) rfl ?_); refine gL 9 Try.func63 #[.pointer (some ⟨g, 0, none⟩)] ?_; (with_reducible refine (spec_l1Cur_next.calls g s0_0 s0_1 s0_2 t102 t103 t104 w0 _ ?side1 ?side2 A4.out).mono ?_); (case side1 => exact iB HI0); (case side2 => exact bB); rintro e w11 ⟨rfl, hi, hb, hk⟩; refine ⟨_, rfl, ?_⟩; replace HK := am (KeepBut.trans (kB HK) hk (.inl rfl)); replace HB := am (hb); replace HI0 := am (hi)))
     go_ret
     exact ⟨eW, iB HI0, bB, kB HK⟩
def spec_l1Cur_among.f (s0_0 : List Int) (s0_1 : Int) (s0_2 : Int) (l1 : List Int) : Option (Int × Int × Int) := (spec_l1Cur_pick.f s0_0 s0_1 s0_2 (l1.length : Int)).bind fun bt108 => (if 0 ≤ bt108.1 then (if bt108.1 < (l1.length : Int) then (some (rd l1 bt108.1, bt108.2.1, bt108.2.2)) else (none)) else (none))
set_option maxHeartbeats 8000000 in
set_option maxRecDepth 100000 in
theorem spec_l1Cur_among.calls (g : Nat) (s0_0 : List Int) (s0_1 : Int) (s0_2 : Int) (A1 : Option Addr) (c1 : Nat) (l1 : List Int) (r1 : Int) (r2 : Int) (r3 : Int) (w0 w : World) (hI : IsS58 w0 w g s0_0 s0_1 s0_2) (hB : Below w0.heap.size w0 w) (hr1 : Kd.C (Kd.int .i64) w A1 l1.length l1) (hc1 : l1.length ≤ c1) (hf1 : ∀ ad, A1 = some ad → 0 < l1.length → ad.block ≠ g) (h : spec_l1Cur_among.f s0_0 s0_1 s0_2 l1 = some (r1, r2, r3)) :
 Calls Try.prog 58 #[.pointer (some ⟨g, 0, none⟩), .slice A1 l1.length c1] w fun e w' => e = .returned (.int .i64 r1) ∧ IsS58 w0 w' g s0_0 r2 r3 ∧ Below w0.heap.size w0 w' ∧ KeepBut w w' g none := by
 have HR1 := am hr1
 have HC1 := am hc1
 clear hr1 hc1
 have HI0 := am hI
 have HK := am (KeepBut.refl w g none)
 have HL := am hB.size
 clear hI
 have HW0 := am hB.size
 have HB := am hB
 clear hB
 have H := h
 clear h
 unfold spec_l1Cur_among.f at H
 replace H := bnd H
 obtain ⟨⟨t108, t109, t110⟩, A3, H⟩ := H
 (try dsimp only at H)
 replace H := ifP H
 obtain ⟨c4, H⟩ := H
 have c4b0 := decide_eq_true c4
 clear c4
 replace H := ifP H
 obtain ⟨c5, H⟩ := H
 have c5b0 := decide_eq_true c5
 clear c5
 simp only [Option.some.injEq, Prod.mk.injEq] at H
 obtain ⟨rfl, rfl, rfl⟩ := H
 go_enter Try.func58, Try.ntmps58
 go_wp2_with (first | ((with_reducible refine gate_callee (f := 35) rfl ?_); refine gL 9 Try.func35 #[.pointer (some ⟨g, 0, none⟩), .int .i64 (l1.length : Int)] ?_; (with_reducible refine (spec_l1Cur_pick.calls g s0_0 s0_1 s0_2 (l1.length : Int) t108 t109 t110 w0 _ ?side1 ?side2 A3.out).mono ?_); (case side1 => exact iB HI0); (case side2 => exact bB); rintro e w6 ⟨rfl, hi, hb, hk⟩; refine ⟨_, rfl, ?_⟩; replace HK := am (KeepBut.trans (kB HK) hk (.inl rfl)); replace HB := am (hb); replace HI0 := am (hi); have p111 : 0 ≤ (t108 : Int) := dT; have q111 : t108 < (l1.length : Int) := dT; obtain ⟨ad111, e111, hx111_0⟩ := Kd.at_int HR1.out t108 p111 q111; cases e111; replace hx111_0 := keep_cell HK.out hx111_0 (by first | (rw [add_block]; exact hf1 _ rfl (by omega)) | exact hf1 _ rfl (by omega) | exact hf1 ad111 rfl (by omega)); replace p111 := eq_true p111; replace q111 := eq_true q111))
 go_ret
 exact ⟨eW, iB HI0, bB, kB HK⟩
def spec_l1Cur_one.f (s0_0 : List Int) (s0_1 : Int) (s0_2 : Int) (a1 : Int) : Option (Bool × Int × Int) := (spec_l1Cur_pick.f s0_0 s0_1 s0_2 a1).bind fun bt112 => (some ((bt112.1 == 0), bt112.2.1, bt112.2.2))
set_option maxHeartbeats 8000000 in
set_option maxRecDepth 100000 in
theorem spec_l1Cur_one.calls (g : Nat) (s0_0 : List Int) (s0_1 : Int) (s0_2 : Int) (a1 : Int) (r1 : Bool) (r2 : Int) (r3 : Int) (w0 w : World) (hI : IsS58 w0 w g s0_0 s0_1 s0_2) (hB : Below w0.heap.size w0 w) (h : spec_l1Cur_one.f s0_0 s0_1 s0_2 a1 = some (r1, r2, r3)) :
 Calls Try.prog 57 #[.pointer (some ⟨g, 0, none⟩), .int .i64 a1] w fun e w' => e = .returned (.bool r1) ∧ IsS58 w0 w' g s0_0 r2 r3 ∧ Below w0.heap.size w0 w' ∧ KeepBut w w' g none := by
 have HI0 := am hI
 have HK := am (KeepBut.refl w g none)
 have HL := am hB.size
 clear hI
 have HW0 := am hB.size
 have HB := am hB
 clear hB
 have H := h
 clear h
 unfold spec_l1Cur_one.f at H
 replace H := bnd H
 obtain ⟨⟨t112, t113, t114⟩, A3, H⟩ := H
 (try dsimp only at H)
 simp only [Option.some.injEq, Prod.mk.injEq] at H
 obtain ⟨rfl, rfl, rfl⟩ := H
 go_enter Try.func57, Try.ntmps57
 go_wp2_with (first | ((with_reducible refine gate_callee (f := 35) rfl ?_); refine gL 7 Try.func35 #[.pointer (some ⟨g, 0, none⟩), .int .i64 a1] ?_; (with_reducible refine (spec_l1Cur_pick.calls g s0_0 s0_1 s0_2 a1 t112 t113 t114 w0 _ ?side1 ?side2 A3.out).mono ?_); (case side1 => exact iB HI0); (case side2 => exact bB); rintro e w4 ⟨rfl, hi, hb, hk⟩; refine ⟨_, rfl, ?_⟩; replace HK := am (KeepBut.trans (kB HK) hk (.inl rfl)); replace HB := am (hb); replace HI0 := am (hi)))
 go_ret
 exact ⟨eW, iB HI0, bB, kB HK⟩
mutual
def spec_l1Cur_sureStates.l0 : Nat → Int → Int → List Int → Int → Int → Int → List (List Int) → Option (Int × (List (List Int)) × Int × Int)
 | 0, _, _, _, _, _, _, _ => none
 | k + 1, x4, x5, x1000, x1001, x1002, x120000, x120001 => if x5 < x4 then (if 0 ≤ x4 then (if (x4 : Int).toNat ≤ 35184372088832 then (spec_l1Cur_sureStates.l1 k x4 x5 (List.replicate (x4 : Int).toNat 0) 0 x1000 x1001 x1002 x120000 x120001) else (none)) else (none)) else (some (x120000, x120001, x1001, x1002))
def spec_l1Cur_sureStates.l1 : Nat → Int → Int → List Int → Int → List Int → Int → Int → Int → List (List Int) → Option (Int × (List (List Int)) × Int × Int)
 | 0, _, _, _, _, _, _, _, _, _ => none
 | k + 1, x4, x5, x6, x7, x1000, x1001, x1002, x120000, x120001 => if x7 < x120000 then ((spec_l1Cur_pick.f x1000 x1001 x1002 x4).bind fun bt126 => (if 0 ≤ bt126.1 then (if bt126.1 < (x6.length : Int) then (spec_l1Cur_sureStates.l1 k x4 x5 (x6.set (bt126.1 : Int).toNat (wrap64 ((rd x6 bt126.1) + 1))) (wrap64 (x7 + 1)) x1000 bt126.2.1 bt126.2.2 x120000 x120001) else (none)) else (none))) else ((spec_l1Cur_one.f x1000 x1001 x1002 6).bind fun bt131 => (if bt131.1 = true then (if 0 ≤ x4 then (if (x4 : Int).toNat ≤ 35184372088832 then ((some (List.replicate (x4 : Int).toNat 0 : List Int)).bind fun y134 => (if 0 ≤ x5 then (if x5 < (y134.length : Int) then (if x120001.length < 5864062014805 then (spec_l1Cur_sureStates.l0 k x4 (wrap64 (x5 + 1)) x1000 bt131.2.1 bt131.2.2 x120000 (x120001 ++ [(y134.set (x5 : Int).toNat x120000)])) else (none)) else (none)) else (none))) else (none)) else (none)) else (if x120001.length < 5864062014805 then (spec_l1Cur_sureStates.l0 k x4 (wrap64 (x5 + 1)) x1000 bt131.2.1 bt131.2.2 x120000 (x120001 ++ [x6])) else (none))))
end
def spec_l1Cur_sureStates.f (k : Nat) (s0_0 : List Int) (s0_1 : Int) (s0_2 : Int) : Option (Int × (List (List Int)) × Int × Int) := (spec_l1Cur_pick.f s0_0 s0_1 s0_2 4).bind fun bt116 => ((spec_l1Cur_pick.f s0_0 bt116.2.1 bt116.2.2 4).bind fun bt120 => (spec_l1Cur_sureStates.l0 k (wrap64 (1 + bt120.1)) 0 s0_0 bt120.2.1 bt120.2.2 (wrap64 (1 + bt116.1)) ([] : List (List Int))))
set_option maxHeartbeats 8000000 in
set_option maxRecDepth 100000 in
theorem spec_l1Cur_sureStates.calls (k : Nat) (g : Nat) (s0_0 : List Int) (s0_1 : Int) (s0_2 : Int) (r1 : Int) (r2 : List (List Int)) (r3 : Int) (r4 : Int) (w0 w : World) (hI : IsS58 w0 w g s0_0 s0_1 s0_2) (hB : Below w0.heap.size w0 w) (h : spec_l1Cur_sureStates.f k s0_0 s0_1 s0_2 = some (r1, r2, r3, r4)) :
 Calls Try.prog 67 #[.pointer (some ⟨g, 0, none⟩)] w fun e w' => ∃ v1_ : Value, e = .returned (.agg #[.int .i64 r1, v1_]) ∧ Kd.S (Kd.slice 3 (Kd.int .i64)) 29 w' w.heap.size (fun _ => True) v1_ r2 ∧ IsS58 w0 w' g s0_0 r3 r4 ∧ Below w0.heap.size w0 w' ∧ KeepBut w w' g none := by
 have hu26 := Try.underlying26
 have HI0 := am hI
 have HK := am (KeepBut.refl w g none)
 have HL := am hB.size
 clear hI
 have HW0 := am hB.size
 have HB := am hB
 clear hB
 have H := h
 clear h
 unfold spec_l1Cur_sureStates.f at H
 replace H := bnd H
 obtain ⟨⟨t116, t117, t118⟩, A2, H⟩ := H
 (try dsimp only at H)
 replace H := bnd H
 obtain ⟨⟨t120, t121, t122⟩, A3, H⟩ := H
 (try dsimp only at H)
 have H' := am H
 clear H
 go_enter Try.func67, Try.ntmps67
 go_wp2_with (first | ((with_reducible refine gate_dst (N := 2) rfl ?_); refine bE 2 #[.int .i64 0, .slice none 0 0] 26 ?_; intro gb115 hg w4 hbox hb; replace HB := sB hb; have BK115 := am (hbox); have GW115 := gK HK hg; have GE115 := gE HW0 GW115; replace HK := am (KeepBut.trans (kB HK) (KeepBut.of_below hb g none) (.inl rfl)); have NB0_115 := nI g HI0 hg; have NB115_0 := mI g HI0 hg; replace HI0 := am (IsS58.below (iB HI0) hb); clear hb hbox hg) | ((with_reducible refine gate_callee (f := 35) rfl ?_); refine gL 9 Try.func35 #[.pointer (some ⟨g, 0, none⟩), .int .i64 4] ?_; (with_reducible refine (spec_l1Cur_pick.calls g s0_0 s0_1 s0_2 4 t116 t117 t118 w0 _ ?side1 ?side2 A2.out).mono ?_); (case side1 => exact iB HI0); (case side2 => exact bB); rintro e w5 ⟨rfl, hi, hb, hk⟩; refine ⟨_, rfl, ?_⟩; replace BK115 := kh BK115 hk NB115_0; replace HK := am (KeepBut.trans (kB HK) hk (.inl rfl)); replace HB := am (hb); replace HI0 := am (hi)) | ((with_reducible refine gate_dst (N := 3) rfl ?_); refine bE 3 #[.int .i64 0, .slice none 0 0] 26 ?_; intro gb119 hg w6 hbox hb; replace HB := sB hb; have BK119 := am (hbox); have GW119 := gK HK hg; have GE119 := gE HW0 GW119; replace HK := am (KeepBut.trans (kB HK) (KeepBut.of_below hb g none) (.inl rfl)); have NB115_119 := nK BK115 hg; have NB119_115 := mK BK115 hg; replace BK115 := kb BK115 hb; have NB0_119 := nI g HI0 hg; have NB119_0 := mI g HI0 hg; replace HI0 := am (IsS58.below (iB HI0) hb); clear hb hbox hg; have hnb7 := NB119_115.out; have hnc7 := NB115_119.out; have hnb8 := NB119_0.out; have hnc8 := NB0_119.out; obtain ⟨hcz9_0, hcz9_1, hfz9_0, hfz9_1⟩ := cZ BK119) | ((with_reducible refine gate_callee (f := 35) rfl ?_); refine gL 13 Try.func35 #[.pointer (some ⟨g, 0, none⟩), .int .i64 4] ?_; (with_reducible refine (spec_l1Cur_pick.calls g s0_0 t117 t118 4 t120 t121 t122 w0 _ ?side1 ?side2 A3.out).mono ?_); (case side1 => exact iB HI0); (case side2 => exact bB); rintro e w10 ⟨rfl, hi, hb, hk⟩; refine ⟨_, rfl, ?_⟩; replace BK115 := am (KeepBut.blk hk (g' := gb115) (o := .cells #[.int .i64 0, .slice none 0 0] 26 (0, 0)) (by (with_reducible repeat (first | refine blk_drewN ?_ _ | refine blk_drew ?_ | refine blk_alloc ?_ _)); refine blk_far ?_ NB115_119.out _; (with_reducible repeat (first | refine blk_drewN ?_ _ | refine blk_drew ?_ | refine blk_alloc ?_ _)); refine blk_far ?_ NB115_119.out _; (with_reducible repeat (first | refine blk_drewN ?_ _ | refine blk_drew ?_ | refine blk_alloc ?_ _)); exact BK115.out) NB115_0.out (by simp)); replace BK119 := am (KeepBut.blk hk (g' := gb119) (o := .cells #[.int .i64 (wrap64 (1 + t116)), .slice none 0 0] 26 (0, 0)) (by (with_reducible repeat (first | refine blk_drewN ?_ _ | refine blk_drew ?_ | refine blk_alloc ?_ _)); refine blk_put (cs := #[.int .i64 (wrap64 (1 + t116)), .slice none 0 0]) ?_ 1 _ rfl; (with_reducible repeat (first | refine blk_drewN ?_ _ | refine blk_drew ?_ | refine blk_alloc ?_ _)); refine blk_put (cs := #[.int .i64 0, .slice none 0 0]) ?_ 0 _ rfl; (with_reducible repeat (first | refine blk_drewN ?_ _ | refine blk_drew ?_ | refine blk_alloc ?_ _)); exact BK119.out) NB119_0.out (by simp)); replace HK := am (KeepBut.trans (kB HK) hk (.inl rfl)); replace HB := am (hb); replace HI0 := am (hi)))
 go_loopg [5] k (fun kq v5 w' => ∃ (x5_1 : Int) (x1001_1 : Int) (x1002_1 : Int) (x120001_1 : List (List Int)) (u120001 : Value), v5 = .int .i64 x5_1 ∧ Aside0 (spec_l1Cur_sureStates.l0 kq (wrap64 (1 + t120)) x5_1 s0_0 x1001_1 x1002_1 (wrap64 (1 + t116)) x120001_1 = some (r1, r2, r3, r4)) ∧ Aside0 (kq ≤ k) ∧ Aside0 (Kd.S (Kd.slice 3 (Kd.int .i64)) 29 w' w.heap.size (fun _ => True) u120001 x120001_1) ∧ Aside0 (w'.heap[gb115]? = some (.cells #[.int .i64 0, (.slice none 0 0)] 26 (0, 0))) ∧ Aside0 (w'.heap[gb119]? = some (.cells #[.int .i64 (wrap64 (1 + t116)), u120001] 26 (0, 0))) ∧ Aside0 (IsS58 w0 w' g s0_0 x1001_1 x1002_1) ∧ Aside0 (KeepBut w w' g none) ∧ Aside0 (Below w0.heap.size w0 w'))
 case atStart => exact ⟨(0), (t121), (t122), (([] : List (List Int))), (.slice none 0 0), sR, H', ⟨Nat.le_refl _⟩, ⟨nL⟩, ⟨bP BK115⟩, ⟨bP BK119⟩, ⟨iB HI0⟩, ⟨kB HK⟩, ⟨bB⟩⟩
 case round =>
  clear H'
  obtain ⟨x5_1, x1001_1, x1002_1, x120001_1, u120001, rfl, HA, HK1, HO_120001, BK115, BK119, HI0, HK, HB⟩ := hrel
  cases gk with
  | zero => exact absurd HA.out (by simp [spec_l1Cur_sureStates.l0])
  | succ k1 =>
   have H := HA.out
   clear HA
   simp only [spec_l1Cur_sureStates.l0] at H
   by_cases c11 : x5_1 < (wrap64 (1 + t120))
   · rw [if_pos c11] at H
     have c11b0 := decide_eq_true c11
     clear c11
     obtain ⟨ji12, hji12⟩ : ∃ j_ : Int, (wrap64 (1 + t120)) = j_ := ⟨_, rfl⟩
     replace H : (if 0 ≤ (ji12) then (if ((ji12) : Int).toNat ≤ 35184372088832 then (spec_l1Cur_sureStates.l1 k1 (ji12) x5_1 (List.replicate ((ji12) : Int).toNat 0) 0 s0_0 x1001_1 x1002_1 (wrap64 (1 + t116)) x120001_1) else (none)) else (none)) = some (r1, r2, r3, r4) := by first | (rw [hji12] at H; exact H) | (simp only [hji12] at H ⊢; exact H)
     (try rw [hji12] at c11b0)
     have hji12w : (IntKind.i64.wrap (1 + t120)) = ji12 := (i64_w _).trans hji12
     replace H := ifP H
     obtain ⟨c13, H⟩ := H
     have c13b0 := eq_true c13
     have c13b1 := decide_eq_true c13
     clear c13
     replace H := ifP H
     obtain ⟨c14, H⟩ := H
     have c14b0 := eq_true c14
     have c14b1 := decide_eq_true c14
     clear c14
     generalize hy123 : ((List.replicate ((ji12) : Int).toNat 0) : List Int) = y123 at H
     (try dsimp only [Option.bind_some] at H)
     have Ny123 := am hy123.symm
     clear hy123
     have H' := am H
     clear H
     go_wp2_with (first | ((with_reducible refine gate_dst (N := 21) rfl ?_); refine Kd.R_make (Kd.int .i64) _ 3 rfl (N := 21) rfl 29 _ _ rfl (ji12) (by first | rfl | (rw [← hji12]; rfl)) (by first | rfl | (rw [← hji12]; rfl)) Try.underlying29 (.int .i64 0) 8 info3 rfl (by decide) (by omega) 0 (ok := fun _ => True) (okp := fun _ => True) rfl (fun _ hk => hk) trivial (dT) (Nat.le_trans (Nat.mul_le_mul_right _ (dT : (ji12).toNat ≤ 35184372088832)) (by omega)) (Below.refl _ _) (Nat.le_refl _) ?_; intro v124 w15 ho16 hb hg_ hnew_; clear hg_ hnew_; (first | rw [← Ny123.out] at ho16 | (simp only [Int.reduceToNat] at ho16; rw [← Ny123.out] at ho16)); replace HO_120001 := eS HO_120001 ho16 hb; have HO125 := am (Kd.R_lower ho16 (keep_size (w := w) (g := g) (row := none) (kB HK))); replace BK115 := kb BK115 hb; replace BK119 := kb BK119 hb; replace HI0 := am (IsS58.below (iB HI0) hb); replace HK := am (KeepBut.trans (kB HK) (KeepBut.of_below hb g none) (.inl rfl)); replace HB := sB hb; clear hb ho16))
     go_loopg [7] k1 (fun kq v7 w' => ∃ (x6_2 : List Int) (x7_2 : Int) (x1001_2 : Int) (x1002_2 : Int), v7 = .int .i64 x7_2 ∧ Aside0 (spec_l1Cur_sureStates.l1 kq (ji12) x5_1 x6_2 x7_2 s0_0 x1001_2 x1002_2 (wrap64 (1 + t116)) x120001_1 = some (r1, r2, r3, r4)) ∧ Aside0 (kq ≤ k1) ∧ Aside0 (Kd.R (Kd.int .i64) 3 w' w.heap.size (fun _ => True) v124 x6_2) ∧ Aside0 (Kd.S (Kd.slice 3 (Kd.int .i64)) 29 w' w.heap.size (fun k_ => some k_ ≠ (v124 : Value).ownBlock) u120001 x120001_1) ∧ Aside0 (w'.heap[gb115]? = some (.cells #[.int .i64 0, (.slice none 0 0)] 26 (0, 0))) ∧ Aside0 (w'.heap[gb119]? = some (.cells #[.int .i64 (wrap64 (1 + t116)), u120001] 26 (0, 0))) ∧ Aside0 (IsS58 w0 w' g s0_0 x1001_2 x1002_2) ∧ Aside0 (KeepBut w w' g none) ∧ Aside0 (Below w0.heap.size w0 w'))
     case atStart => exact ⟨(y123), (0), (x1001_1), (x1002_1), sR, H', ⟨Nat.le_refl _⟩, ⟨rP HO125⟩, ⟨sF (Kd.S_mono HO_120001.out (fun _ hk => hk.2))⟩, ⟨bP BK115⟩, ⟨bP BK119⟩, ⟨iB HI0⟩, ⟨kB HK⟩, ⟨bB⟩⟩
     case round =>
      clear H'
      obtain ⟨x6_2, x7_2, x1001_2, x1002_2, rfl, HA, HK2, HO_6, HO_120001, BK115, BK119, HI0, HK, HB⟩ := hrel
      cases gk with
      | zero => exact absurd HA.out (by simp [spec_l1Cur_sureStates.l1])
      | succ k2 =>
       have H := HA.out
       clear HA
       simp only [spec_l1Cur_sureStates.l1] at H
       by_cases c17 : x7_2 < (wrap64 (1 + t116))
       · rw [if_pos c17] at H
         have c17b0 := decide_eq_true c17
         clear c17
         replace H := bnd H
         obtain ⟨⟨t126, t127, t128⟩, A18, H⟩ := H
         (try dsimp only at H)
         replace H := ifP H
         obtain ⟨c19, H⟩ := H
         have c19b0 := decide_eq_true c19
         clear c19
         replace H := ifP H
         obtain ⟨c20, H⟩ := H
         have c20b0 := decide_eq_true c20
         clear c20
         generalize hy130 : ((x6_2.set (t126 : Int).toNat (wrap64 ((rd x6_2 t126) + 1))) : List Int) = y130 at H
         (try dsimp only [Option.bind_some] at H)
         have Ny130 := am hy130.symm
         clear hy130
         have H' := am H
         clear H
         have hnb22 := NB119_115.out
         have hnc22 := NB115_119.out
         have hnb23 := NB119_0.out
         have hnc23 := NB0_119.out
         obtain ⟨hcz24_0, hcz24_1, hfz24_0, hfz24_1⟩ := cZ BK119
         go_wp2_with (first | ((with_reducible refine gate_callee (f := 35) rfl ?_); refine goesL_ (some 31) rfl rfl Try.func35 (by kernel_rfl) rfl #[.pointer (some ⟨g, 0, none⟩), .int .i64 (ji12)] rfl (by (try simp only [List.map_toArray, List.map_cons, List.map_nil]); first | done | (simp only [hji12]; rfl) | rfl | (simp only [List.length_drop, List.length_take]; rfl)) ?_; (with_reducible refine (spec_l1Cur_pick.calls g s0_0 x1001_2 x1002_2 (ji12) t126 t127 t128 w0 _ ?side1 ?side2 A18.out).mono ?_); (case side1 => exact iB HI0); (case side2 => exact bB); rintro e w25 ⟨rfl, hi, hb, hk⟩; refine ⟨_, rfl, ?_⟩; replace HO_6 := am (Kd.R_mono (Kd.R_keep (IsS58.apart (show IsS58 w0 _ g s0_0 x1001_2 x1002_2 from iB HI0) (rP HO_6) (by decide)) hk (fun _ h => h.2)) (fun _ h => h.1)); replace HO_120001 := am (Kd.S_mono (Kd.S_keep (IsS58.apartS (show IsS58 w0 _ g s0_0 x1001_2 x1002_2 from iB HI0) (rP HO_120001) (by decide)) hk (fun _ h => h.2)) (fun _ h => h.1)); replace BK115 := kh BK115 hk NB115_0; replace BK119 := kh BK119 hk NB119_0; replace HK := am (KeepBut.trans (kB HK) hk (.inl rfl)); replace HB := am (hb); replace HI0 := am (hi); obtain ⟨Ao26, co26, eo26⟩ := Kd.R_slice HO_6.out; subst eo26; have p129 : 0 ≤ (t126 : Int) := dT; have q129 : t126 < (x6_2.length : Int) := dT; obtain ⟨ad129, e129, hx129_0⟩ := Kd.at_int (Kd.R_reads' HO_6.out).2.2 t126 p129 q129; cases e129; replace p129 := eq_true p129; replace q129 := eq_true q129; have p21 : 0 ≤ (t126 : Int) := dT; have q21 : (t126 : Int) < ((x6_2.length : Int) : Int) := dT; obtain ⟨go21, co21, eo21, gb21, gl21, cl21, HG21⟩ := Kd.R_form HO_6.out (by omega); (first | cases eo21 | (injection eo21 with ea_ en_ ec_; (first | subst ea_ | (injection ea_ with ea_; subst ea_)); subst ec_; clear en_)); have GB21 := am gb21; have GG21 := am HG21; clear gb21 gl21 HG21; (first | simp only [add_plain] at hx129_0 | skip); obtain ⟨hx21_0, hf21_0⟩ := Kd.R_celln 0 HO_6.out (t126 : Int) p21 q21; replace p21 := eq_true p21; replace q21 := eq_true q21; obtain ⟨hy27_, hz27_⟩ := Kd.R_celln 0 HO_6.out (t126 : Int) (dT) (dT); have HP27 := Kd.R_putg HO_6.out (t126 : Int) (wrap64 ((rd x6_2 t126) + 1))) | ((with_reducible refine gate_store (t := 3) (p := 35) rfl ?_); refine store_event (t := 3) (p := 35) (v := ?vo_w28) (w1 := (w25.setCell ⟨go21, (t126 : Int).toNat, none⟩ (.int .i64 (wrap64 ((rd x6_2 t126) + 1))))) ?hg ?ho ?hn ?hr ?_; (case ho => rfl); (case hg => rfl); (case hn => rfl); (case hr => first | (go_simp; done) | (go_simp; rfl)); intro w28 hw; have hg : w25.grownBy w28 (some go21) := (by rw [hw]; exact HP27.2); have hp_ : Kd.R (Kd.int .i64) 3 w28 w.heap.size (fun _ => True) (.slice (some ⟨go21, 0, none⟩) x6_2.length co26) y130 := (by rw [hw, Ny130.out]; exact HP27.1); clear HP27; replace HO_120001 := am (Kd.S_after (v := (.slice (some ⟨go21, 0, none⟩) x6_2.length co26)) (v1 := (.slice (some ⟨go21, 0, none⟩) x6_2.length co26)) (ok := (fun _ => True)) (by (with_reducible repeat (first | apply Kd.S_alloc | apply Kd.S_drewN | apply Kd.S_drew)); exact Kd.S_mono HO_120001.out (fun _ hk => ⟨trivial, hk⟩)) hg (.inl rfl)); replace BK115 := (kg BK115 hg (Kd.R_ne HO_6.out BK115.out (by decide))); replace BK119 := (kg BK119 hg (Kd.R_ne HO_6.out BK119.out (by decide))); replace HI0 := am (IsS58.grown (iB HI0) hg (IsS58.own_ne HI0.out HO_6.out (by decide))); replace HB := am ((by rw [hw]; exact below_set (HB.out) (Nat.le_trans HL.out GB21.out) : Below w0.heap.size w0 w28)); replace HK := am (KeepBut.trans (kB HK) (KeepBut.of_grown hg g) (Kd.R_base2 HO_6.out)); replace HO_6 := am (hp_); clear hg hw hp_))
         (first | go_roundg k2 | (try subst hji12; go_roundg k2))
         case measure => have := HK1.out; have := HK2.out; omega
         case rel => exact ⟨(y130), (wrap64 (x7_2 + 1)), (t127), (t128), sR, H', ⟨oK⟩, ⟨rP HO_6⟩, ⟨sF (Kd.S_mono HO_120001.out (fun _ hk => hk.2))⟩, ⟨bP BK115⟩, ⟨bP BK119⟩, ⟨iB HI0⟩, ⟨kB HK⟩, ⟨bB⟩⟩
       · rw [if_neg c17] at H
         have c17b0 := decide_eq_false c17
         clear c17
         replace H := bnd H
         obtain ⟨⟨t131, t132, t133⟩, A29, H⟩ := H
         (try dsimp only at H)
         by_cases c30 : t131 = true
         · subst c30
           replace H := ifT H
           replace H := ifP H
           obtain ⟨c31, H⟩ := H
           have c31b0 := eq_true c31
           have c31b1 := decide_eq_true c31
           clear c31
           replace H := ifP H
           obtain ⟨c32, H⟩ := H
           have c32b0 := eq_true c32
           have c32b1 := decide_eq_true c32
           clear c32
           generalize hy134 : ((List.replicate ((ji12) : Int).toNat 0) : List Int) = y134 at H
           (try dsimp only [Option.bind_some] at H)
           have Ny134 := am hy134.symm
           clear hy134
           replace H := ifP H
           obtain ⟨c33, H⟩ := H
           have c33b0 := decide_eq_true c33
           clear c33
           replace H := ifP H
           obtain ⟨c34, H⟩ := H
           have c34b0 := decide_eq_true c34
           clear c34
           generalize hy137 : ((y134.set (x5_1 : Int).toNat (wrap64 (1 + t116))) : List Int) = y137 at H
           (try dsimp only [Option.bind_some] at H)
           have Ny137 := am hy137.symm
           clear hy137
           replace H := ifP H
           obtain ⟨c36, H⟩ := H
           have LMc36 := am c36
           clear c36
           generalize hy138 : ((x120001_1 ++ [y137]) : List (List Int)) = y138 at H
           (try dsimp only [Option.bind_some] at H)
           have Ny138 := am hy138.symm
           clear hy138
           have H' := am H
           clear H
           have hnb37 := NB119_115.out
           have hnc37 := NB115_119.out
           have hnb38 := NB119_0.out
           have hnc38 := NB0_119.out
           obtain ⟨hcz39_0, hcz39_1, hfz39_0, hfz39_1⟩ := cZ BK119
           go_wp2_with (first | ((with_reducible refine gate_callee (f := 57) rfl ?_); refine gL 37 Try.func57 #[.pointer (some ⟨g, 0, none⟩), .int .i64 6] ?_; (with_reducible refine (spec_l1Cur_one.calls g s0_0 x1001_2 x1002_2 6 true t132 t133 w0 _ ?side1 ?side2 A29.out).mono ?_); (case side1 => exact iB HI0); (case side2 => exact bB); rintro e w40 ⟨rfl, hi, hb, hk⟩; refine ⟨_, rfl, ?_⟩; replace HO_6 := am (Kd.R_mono (Kd.R_keep (IsS58.apart (show IsS58 w0 _ g s0_0 x1001_2 x1002_2 from iB HI0) (rP HO_6) (by decide)) hk (fun _ h => h.2)) (fun _ h => h.1)); replace HO_120001 := am (Kd.S_mono (Kd.S_keep (IsS58.apartS (show IsS58 w0 _ g s0_0 x1001_2 x1002_2 from iB HI0) (rP HO_120001) (by decide)) hk (fun _ h => h.2)) (fun _ h => h.1)); replace BK115 := kh BK115 hk NB115_0; replace BK119 := kh BK119 hk NB119_0; replace HK := am (KeepBut.trans (kB HK) hk (.inl rfl)); replace HB := am (hb); replace HI0 := am (hi)) | ((with_reducible refine gate_dst (N := 39) rfl ?_); refine Kd.R_make (Kd.int .i64) _ 3 rfl (N := 39) rfl 29 _ _ rfl (ji12) (by first | rfl | (rw [← hji12]; rfl)) (by first | rfl | (rw [← hji12]; rfl)) Try.underlying29 (.int .i64 0) 8 info3 rfl (by decide) (by omega) 0 (ok := fun _ => True) (okp := fun _ => True) rfl (fun _ hk => hk) trivial (dT) (Nat.le_trans (Nat.mul_le_mul_right _ (dT : (ji12).toNat ≤ 35184372088832)) (by omega)) (Below.refl _ _) (Nat.le_refl _) ?_; intro v135 w41 ho42 hb hg_ hnew_; clear hg_ hnew_; (first | rw [← Ny134.out] at ho42 | (simp only [Int.reduceToNat] at ho42; rw [← Ny134.out] at ho42)); replace HO_120001 := eS HO_120001 ho42 hb; have HO136 := am (Kd.R_lower (Kd.R_new' ho42 (Kd.R_lt (rP HO_6))) (keep_size (w := w) (g := g) (row := none) (kB HK))); replace HO_6 := eR HO_6 ho42 hb; replace BK115 := kb BK115 hb; replace BK119 := kb BK119 hb; replace HI0 := am (IsS58.below (iB HI0) hb); replace HK := am (KeepBut.trans (kB HK) (KeepBut.of_below hb g none) (.inl rfl)); replace HB := sB hb; clear hb ho42; obtain ⟨hcz43_0, hcz43_1, hfz43_0, hfz43_1⟩ := cZ BK119; have p35 : 0 ≤ (x5_1 : Int) := dT; have q35 : (x5_1 : Int) < ((y134.length : Int) : Int) := dT; obtain ⟨go35, co35, eo35, gb35, gl35, cl35, HG35⟩ := Kd.R_form HO136.out (by omega); (first | cases eo35 | (injection eo35 with ea_ en_ ec_; (first | subst ea_ | (injection ea_ with ea_; subst ea_)); subst ec_; clear en_)); have GB35 := am gb35; have GG35 := am HG35; clear gb35 gl35 HG35; obtain ⟨hx35_0, hf35_0⟩ := Kd.R_celln 0 HO136.out (x5_1 : Int) p35 q35; replace p35 := eq_true p35; replace q35 := eq_true q35; have n_ := am (Kd.R_mono (ok' := (fun k_ => some k_ ≠ (v124 : Value).ownBlock)) HO136.out (fun k_ hk => hk.2)); clear HO136; have HO136 := n_; clear n_; obtain ⟨hy44_, hz44_⟩ := Kd.R_celln 0 HO136.out (x5_1 : Int) (dT) (dT); have HP44 := Kd.R_putg HO136.out (x5_1 : Int) (wrap64 (1 + t116))) | ((with_reducible refine gate_store (t := 3) (p := 44) rfl ?_); refine store_event (t := 3) (p := 44) (v := ?vo_w45) (w1 := (w41.setCell ⟨go35, (x5_1 : Int).toNat, none⟩ (.int .i64 (wrap64 (1 + t116))))) ?hg ?ho ?hn ?hr ?_; (case ho => rfl); (case hg => rfl); (case hn => rfl); (case hr => first | (go_simp; done) | (go_simp; rfl)); intro w45 hw; have hg : w41.grownBy w45 (some go35) := (by rw [hw]; exact HP44.2); have hp_ : Kd.R (Kd.int .i64) 3 w45 w.heap.size (fun k_ => some k_ ≠ (v124 : Value).ownBlock) (.slice (some ⟨go35, 0, none⟩) y134.length co35) y137 := (by rw [hw, Ny137.out]; exact HP44.1); clear HP44; replace HO_6 := am (Kd.R_after (v := (.slice (some ⟨go35, 0, none⟩) y134.length co35)) (v1 := (.slice (some ⟨go35, 0, none⟩) y134.length co35)) (ok := (fun _ => True)) (rP HO_6) hg (.inl rfl)); replace HO_120001 := am (Kd.S_after (v := (.slice (some ⟨go35, 0, none⟩) y134.length co35)) (v1 := (.slice (some ⟨go35, 0, none⟩) y134.length co35)) (ok := (fun k_ => some k_ ≠ (v124 : Value).ownBlock)) (rP HO_120001) hg (.inl rfl)); replace BK115 := (kg BK115 hg (Kd.R_ne HO136.out BK115.out (by decide))); replace BK119 := (kg BK119 hg (Kd.R_ne HO136.out BK119.out (by decide))); replace HI0 := am (IsS58.grown (iB HI0) hg (IsS58.own_ne HI0.out HO136.out (by decide))); replace HB := am ((by rw [hw]; exact below_set (HB.out) (Nat.le_trans HL.out GB35.out) : Below w0.heap.size w0 w45)); replace HK := am (KeepBut.trans (kB HK) (KeepBut.of_grown hg g) (Kd.R_base2 HO136.out)); replace HO136 := am (hp_); clear hg hw hp_; obtain ⟨hcz46_0, hcz46_1, hfz46_0, hfz46_1⟩ := cZ BK119) | ((with_reducible refine gate_builtin (b := .append) (xs := #[.tmp 46, .tmp 48]) rfl ?_); at_builtin; refine Kd.S_append (Kd.slice 3 (Kd.int .i64)) w.heap.size rfl (.tmp 46) (.tmp 48) 24 29 (.slice none 0 0) 24 rfl Try.underlying24 info29 rfl (by decide) (by omega) u120001 x120001_1 y137 [.slice (some ⟨go35, 0, none⟩) y134.length co35] (fun k_ => some k_ ≠ (v124 : Value).ownBlock) (fun k_ => some k_ = (.slice (some ⟨go35, 0, none⟩) y134.length co35 : Value).ownBlock) rfl rfl ?aP (fun k_ hk_ => ((Kd.R_mono (ok' := fun k_ => ((fun k_ => some k_ ≠ (v124 : Value).ownBlock)) k_ ∧ some k_ ≠ (u120001 : Value).ownBlock) (Kd.R_apart' (HO136.out) (Kd.S_typed HO_120001.out) (by decide)) (fun k_ hk => ⟨hk.1, hk.2⟩))).1 k_ hk_.symm) ?aF ?aO (Below.refl _ _) ?aS ?aL ?_; (case aP => exact Kd.M_row (Kd.R_mono (Kd.R_tight rfl (Kd.R_mono (ok' := fun k_ => ((fun k_ => some k_ ≠ (v124 : Value).ownBlock)) k_ ∧ some k_ ≠ (u120001 : Value).ownBlock) (Kd.R_apart' (HO136.out) (Kd.S_typed HO_120001.out) (by decide)) (fun k_ hk => ⟨hk.1, hk.2⟩))) (fun _ h_ => h_))); (case aF => exact (fun k_ hk => Kd.fresh' (Kd.R_lt (rP HO_6)) k_ hk)); (case aO => exact (by (with_reducible repeat (first | apply Kd.S_alloc | apply Kd.S_drewN | apply Kd.S_drew)); exact Kd.S_mono HO_120001.out (fun k_ hk => ⟨hk.1, fun e_ => hk.2 e_⟩))); (case aS => exact (keep_size (w := w) (g := g) (row := none) (kB HK))); (case aL => have := LMc36.out; omega); intro v139 w47 ho hb hg hat; rw [← Ny138.out] at ho; replace HO_6 := am (Kd.R_over' (rP HO_6) (Kd.S_typed (rP HO_120001)) (by decide) hg); replace BK115 := (kg BK115 hg (Kd.S_ne HO_120001.out BK115.out (by decide))); replace BK119 := (kg BK119 hg (Kd.S_ne HO_120001.out BK119.out (by decide))); replace HI0 := am (IsS58.grown (iB HI0) hg (IsS58.own_neS HI0.out HO_120001.out (by decide))); replace HB := am (below_weaken bB HL.out hb); replace HK := am (KeepBut.trans (kB HK) (KeepBut.of_grown hg g) (Kd.S_base2 HO_120001.out)); have HO140 := am (ho); clear HO_120001 HO136; clear ho hb hg hat; obtain ⟨Ao48, co48, eo48⟩ := Kd.S_slice HO140.out; subst eo48; obtain ⟨hcz49_0, hcz49_1, hfz49_0, hfz49_1⟩ := cZ BK119))
           (first | go_roundg k2 | (try subst hji12; go_roundg k2))
           case measure => have := HK1.out; have := HK2.out; omega
           case rel => exact ⟨(wrap64 (x5_1 + 1)), (t132), (t133), (y138), (.slice Ao48 y138.length co48), sR, H', ⟨oK⟩, ⟨by (with_reducible repeat (first | apply Kd.S_alloc | apply Kd.S_drewN | apply Kd.S_drew)); exact Kd.S_mono (Kd.S_far (p := ⟨gb119, 1, none⟩) (Kd.S_types HO140.out BK119.out (by decide)) (fun _ hk => hk.2) (.slice Ao48 y138.length co48)) (fun _ hk => trivial)⟩, ⟨by (with_reducible repeat (first | refine blk_drewN ?_ _ | refine blk_drew ?_ | refine blk_alloc ?_ _)); refine blk_far ?_ NB115_119.out _; (with_reducible repeat (first | refine blk_drewN ?_ _ | refine blk_drew ?_ | refine blk_alloc ?_ _)); exact BK115.out⟩, ⟨by (with_reducible repeat (first | refine blk_drewN ?_ _ | refine blk_drew ?_ | refine blk_alloc ?_ _)); refine blk_put (cs := #[.int .i64 (wrap64 (1 + t116)), u120001]) ?_ 1 _ rfl; (with_reducible repeat (first | refine blk_drewN ?_ _ | refine blk_drew ?_ | refine blk_alloc ?_ _)); exact BK119.out⟩, ⟨iB HI0⟩, ⟨kB HK⟩, ⟨bB⟩⟩
         · replace c30 := Bool.eq_false_iff.mpr c30
           subst c30
           replace H := ifF H
           replace H := ifP H
           obtain ⟨c50, H⟩ := H
           have LMc50 := am c50
           clear c50
           generalize hy141 : ((x120001_1 ++ [x6_2]) : List (List Int)) = y141 at H
           (try dsimp only [Option.bind_some] at H)
           have Ny141 := am hy141.symm
           clear hy141
           have H' := am H
           clear H
           have hnb51 := NB119_115.out
           have hnc51 := NB115_119.out
           have hnb52 := NB119_0.out
           have hnc52 := NB0_119.out
           obtain ⟨hcz53_0, hcz53_1, hfz53_0, hfz53_1⟩ := cZ BK119
           go_wp2_with (first | ((with_reducible refine gate_callee (f := 57) rfl ?_); refine gL 37 Try.func57 #[.pointer (some ⟨g, 0, none⟩), .int .i64 6] ?_; (with_reducible refine (spec_l1Cur_one.calls g s0_0 x1001_2 x1002_2 6 false t132 t133 w0 _ ?side1 ?side2 A29.out).mono ?_); (case side1 => exact iB HI0); (case side2 => exact bB); rintro e w54 ⟨rfl, hi, hb, hk⟩; refine ⟨_, rfl, ?_⟩; replace HO_6 := am (Kd.R_mono (Kd.R_keep (IsS58.apart (show IsS58 w0 _ g s0_0 x1001_2 x1002_2 from iB HI0) (rP HO_6) (by decide)) hk (fun _ h => h.2)) (fun _ h => h.1)); replace HO_120001 := am (Kd.S_mono (Kd.S_keep (IsS58.apartS (show IsS58 w0 _ g s0_0 x1001_2 x1002_2 from iB HI0) (rP HO_120001) (by decide)) hk (fun _ h => h.2)) (fun _ h => h.1)); replace BK115 := kh BK115 hk NB115_0; replace BK119 := kh BK119 hk NB119_0; replace HK := am (KeepBut.trans (kB HK) hk (.inl rfl)); replace HB := am (hb); replace HI0 := am (hi); obtain ⟨hcz55_0, hcz55_1, hfz55_0, hfz55_1⟩ := cZ BK119; obtain ⟨Ao57, co57, eo57⟩ := Kd.R_slice HO_6.out; subst eo57) | ((with_reducible refine gate_builtin (b := .append) (xs := #[.tmp 46, .tmp 48]) rfl ?_); at_builtin; refine Kd.S_append (Kd.slice 3 (Kd.int .i64)) w.heap.size rfl (.tmp 46) (.tmp 48) 24 29 (.slice none 0 0) 24 rfl Try.underlying24 info29 rfl (by decide) (by omega) u120001 x120001_1 x6_2 [.slice Ao57 x6_2.length co57] (fun _ => True) (fun k_ => some k_ = (.slice Ao57 x6_2.length co57 : Value).ownBlock) rfl rfl ?aP (fun k_ hk_ => ((Kd.R_mono (ok' := fun k_ => ((fun _ => True)) k_ ∧ some k_ ≠ (u120001 : Value).ownBlock) (Kd.R_apart' (HO_6.out) (Kd.S_typed HO_120001.out) (by decide)) (fun k_ hk => ⟨trivial, hk.2⟩))).1 k_ hk_.symm) ?aF ?aO (Below.refl _ _) ?aS ?aL ?_; (case aP => exact Kd.M_row (Kd.R_mono (Kd.R_tight rfl (Kd.R_mono (ok' := fun k_ => ((fun _ => True)) k_ ∧ some k_ ≠ (u120001 : Value).ownBlock) (Kd.R_apart' (HO_6.out) (Kd.S_typed HO_120001.out) (by decide)) (fun k_ hk => ⟨trivial, hk.2⟩))) (fun _ h_ => h_))); (case aF => exact (fun _ _ => trivial)); (case aO => exact (by (with_reducible repeat (first | apply Kd.S_alloc | apply Kd.S_drewN | apply Kd.S_drew)); exact Kd.S_mono HO_120001.out (fun k_ hk => ⟨trivial, fun e_ => hk e_⟩))); (case aS => exact (keep_size (w := w) (g := g) (row := none) (kB HK))); (case aL => have := LMc50.out; omega); intro v142 w56 ho hb hg hat; rw [← Ny141.out] at ho; replace BK115 := (kg BK115 hg (Kd.S_ne HO_120001.out BK115.out (by decide))); replace BK119 := (kg BK119 hg (Kd.S_ne HO_120001.out BK119.out (by decide))); replace HI0 := am (IsS58.grown (iB HI0) hg (IsS58.own_neS HI0.out HO_120001.out (by decide))); replace HB := am (below_weaken bB HL.out hb); replace HK := am (KeepBut.trans (kB HK) (KeepBut.of_grown hg g) (Kd.S_base2 HO_120001.out)); have HO143 := am (ho); clear HO_120001 HO_6; clear ho hb hg hat; obtain ⟨Ao58, co58, eo58⟩ := Kd.S_slice HO143.out; subst eo58; obtain ⟨hcz59_0, hcz59_1, hfz59_0, hfz59_1⟩ := cZ BK119))
           (first | go_roundg k2 | (try subst hji12; go_roundg k2))
           case measure => have := HK1.out; have := HK2.out; omega
           case rel => exact ⟨(wrap64 (x5_1 + 1)), (t132), (t133), (y141), (.slice Ao58 y141.length co58), sR, H', ⟨oK⟩, ⟨by (with_reducible repeat (first | apply Kd.S_alloc | apply Kd.S_drewN | apply Kd.S_drew)); exact Kd.S_mono (Kd.S_far (p := ⟨gb119, 1, none⟩) (Kd.S_types HO143.out BK119.out (by decide)) (fun _ hk => hk.2) (.slice Ao58 y141.length co58)) (fun _ hk => trivial)⟩, ⟨by (with_reducible repeat (first | refine blk_drewN ?_ _ | refine blk_drew ?_ | refine blk_alloc ?_ _)); refine blk_far ?_ NB115_119.out _; (with_reducible repeat (first | refine blk_drewN ?_ _ | refine blk_drew ?_ | refine blk_alloc ?_ _)); exact BK115.out⟩, ⟨by (with_reducible repeat (first | refine blk_drewN ?_ _ | refine blk_drew ?_ | refine blk_alloc ?_ _)); refine blk_put (cs := #[.int .i64 (wrap64 (1 + t116)), u120001]) ?_ 1 _ rfl; (with_reducible repeat (first | refine blk_drewN ?_ _ | refine blk_drew ?_ | refine blk_alloc ?_ _)); exact BK119.out⟩, ⟨iB HI0⟩, ⟨kB HK⟩, ⟨bB⟩⟩
   · rw [if_neg c11] at H
     have c11b0 := decide_eq_false c11
     clear c11
     simp only [Option.some.injEq, Prod.mk.injEq] at H
     obtain ⟨rfl, rfl, rfl, rfl⟩ := H
     have hnb60 := NB119_115.out
     have hnc60 := NB115_119.out
     have hnb61 := NB119_0.out
     have hnc61 := NB0_119.out
     obtain ⟨hcz62_0, hcz62_1, hfz62_0, hfz62_1⟩ := cZ BK119
     have hnb63 := NB115_0.out
     have hnc63 := NB0_115.out
     obtain ⟨hcz64_0, hcz64_1, hfz64_0, hfz64_1⟩ := cZ BK115
     obtain ⟨Ao65, co65, eo65⟩ := Kd.S_slice HO_120001.out
     subst eo65
     go_wp2
     refine bodyPost_ret (results_cell_row rfl _ _ gb115 26 #[.int .i64 (wrap64 (1 + t116)), .slice Ao65 x120001_1.length co65] (0, 0) _ rfl (by (with_reducible repeat (first | refine blk_drewN ?_ _ | refine blk_drew ?_ | refine blk_alloc ?_ _)); refine blk_put (cs := #[.int .i64 (wrap64 (1 + t116)), .slice none 0 0]) ?_ 1 _ rfl; (with_reducible repeat (first | refine blk_drewN ?_ _ | refine blk_drew ?_ | refine blk_alloc ?_ _)); refine blk_put (cs := #[.int .i64 0, .slice none 0 0]) ?_ 0 _ rfl; (with_reducible repeat (first | refine blk_drewN ?_ _ | refine blk_drew ?_ | refine blk_alloc ?_ _)); exact BK115.out) Try.underlying26 rfl (by kernel_rfl)) rfl ?_
     exact ⟨_, eW, by (with_reducible repeat (first | apply Kd.S_alloc | apply Kd.S_drewN | apply Kd.S_drew)); exact Kd.S_mono (Kd.S_far (p := ⟨gb115, 1, none⟩) (Kd.S_far (p := ⟨gb115, 0, none⟩) (Kd.S_types HO_120001.out BK115.out (by decide)) (fun _ hk => hk.2) (.int .i64 (wrap64 (1 + t116)))) (fun _ hk => hk.2) (.slice Ao65 x120001_1.length co65)) (fun _ hk => trivial), iB HI0, bB, kB HK⟩
def spec_l1Cur_states.f (k : Nat) (s0_0 : List Int) (s0_1 : Int) (s0_2 : Int) : Option (Int × (List (List Int)) × Int × Int) := (spec_l1Cur_sureStates.f k s0_0 s0_1 s0_2).bind fun bt145 => ((spec_l1Cur_pick.f s0_0 bt145.2.2.1 bt145.2.2.2 18).bind fun bt152 => (if bt152.1 = 0 then ((spec_l1Cur_among.f s0_0 bt152.2.1 bt152.2.2 (([(-1), 0, 1, 10, 11, 4611686018427387904] : List Int))).bind fun bt158 => (some (bt158.1, bt145.2.1, bt158.2.1, bt158.2.2))) else (if bt152.1 = 1 then (if 0 < (bt145.2.1.length : Int) then ((spec_l1Cur_among.f s0_0 bt152.2.1 bt152.2.2 (([(-1), 0, 1, 10, 4611686018427387904] : List Int))).bind fun bt165 => (if 0 < ((rd_L2 bt145.2.1 0).length : Int) then (some (bt145.1, (bt145.2.1.set (0 : Int).toNat ((rd_L2 bt145.2.1 0).set (0 : Int).toNat bt165.1)), bt165.2.1, bt165.2.2)) else (none))) else (none)) else (if bt152.1 = 2 then (if bt145.2.1.length < 5864062014805 then (some (bt145.1, (bt145.2.1 ++ [(([1] : List Int))]), bt152.2.1, bt152.2.2)) else (none)) else (if bt152.1 = 3 then (some (bt145.1, ([] : List (List Int)), bt152.2.1, bt152.2.2)) else (if bt152.1 = 4 then (some (10, (([(([1, 2, 3, 4, 0] : List Int)), (([0, 9, 1, 0, 0] : List Int)), (([5, 0, 0, 5, 0] : List Int)), (([0, 0, 0, 3, 7] : List Int)), (([2, 2, 2, 2, 2] : List Int))] : List (List Int))), bt152.2.1, bt152.2.2)) else (some (bt145.1, bt145.2.1, bt152.2.1, bt152.2.2))))))))
set_option maxHeartbeats 8000000 in
set_option maxRecDepth 100000 in
theorem spec_l1Cur_states.calls (k : Nat) (g : Nat) (s0_0 : List Int) (s0_1 : Int) (s0_2 : Int) (r1 : Int) (r2 : List (List Int)) (r3 : Int) (r4 : Int) (w0 w : World) (hI : IsS58 w0 w g s0_0 s0_1 s0_2) (hB : Below w0.heap.size w0 w) (h : spec_l1Cur_states.f k s0_0 s0_1 s0_2 = some (r1, r2, r3, r4)) :
 Calls Try.prog 55 #[.pointer (some ⟨g, 0, none⟩)] w fun e w' => ∃ v1_ : Value, e = .returned (.agg #[.int .i64 r1, v1_]) ∧ Kd.S (Kd.slice 3 (Kd.int .i64)) 29 w' w.heap.size (fun _ => True) v1_ r2 ∧ IsS58 w0 w' g s0_0 r3 r4 ∧ Below w0.heap.size w0 w' ∧ KeepBut w w' g none := by
 have hu26 := Try.underlying26
 have HI0 := am hI
 have HK := am (KeepBut.refl w g none)
 have HL := am hB.size
 clear hI
 have HW0 := am hB.size
 have HB := am hB
 clear hB
 have H := h
 clear h
 unfold spec_l1Cur_states.f at H
 replace H := bnd H
 obtain ⟨⟨t145, t146, t149, t150⟩, A2, H⟩ := H
 (try dsimp only at H)
 replace H := bnd H
 obtain ⟨⟨t152, t153, t154⟩, A3, H⟩ := H
 (try dsimp only at H)
 by_cases c4 : t152 = 0
 · rw [if_pos c4] at H
   have c4b0 : (t152 == 0) = true := beq_iff_eq.mpr c4
   have c4b1 : (t152 != 0) = false := bne_eq_false_iff_eq.mpr c4
   clear c4
   generalize hy155 : ((([(-1), 0, 1, 10, 11, 4611686018427387904] : List Int)) : List Int) = y155 at H
   (try dsimp only [Option.bind_some] at H)
   have Ny155 := am hy155.symm
   clear hy155
   replace H := bnd H
   obtain ⟨⟨t158, t159, t160⟩, A5, H⟩ := H
   (try dsimp only at H)
   simp only [Option.some.injEq, Prod.mk.injEq] at H
   obtain ⟨rfl, rfl, rfl, rfl⟩ := H
   go_enter Try.func55, Try.ntmps55
   go_wp2_with (first | ((with_reducible refine gate_dst (N := 2) rfl ?_); refine bE 2 #[.int .i64 0, .slice none 0 0] 26 ?_; intro gb144 hg w6 hbox hb; replace HB := sB hb; have BK144 := am (hbox); have GW144 := gK HK hg; have GE144 := gE HW0 GW144; replace HK := am (KeepBut.trans (kB HK) (KeepBut.of_below hb g none) (.inl rfl)); have NB0_144 := nI g HI0 hg; have NB144_0 := mI g HI0 hg; replace HI0 := am (IsS58.below (iB HI0) hb); clear hb hbox hg) | ((with_reducible refine gate_callee (f := 67) rfl ?_); refine gL 6 Try.func67 #[.pointer (some ⟨g, 0, none⟩)] ?_; (with_reducible refine (spec_l1Cur_sureStates.calls k g s0_0 s0_1 s0_2 t145 t146 t149 t150 w0 _ ?side1 ?side2 A2.out).mono ?_); (case side1 => exact iB HI0); (case side2 => exact bB); rintro e w7 ⟨v147, rfl, ho0, hi, hb, hk⟩; refine ⟨_, rfl, ?_⟩; replace BK144 := kh BK144 hk NB144_0; have HO148 := am (Kd.S_lower ho0 (keep_size (w := w) (g := g) (row := none) (kB HK))); replace HK := am (KeepBut.trans (kB HK) hk (.inl rfl)); replace HB := am (hb); replace HI0 := am (hi)) | ((with_reducible refine gate_dst (N := 3) rfl ?_); refine bE 3 #[.int .i64 0, .slice none 0 0] 26 ?_; intro gb151 hg w8 hbox hb; replace HO148 := lS HO148 hb; replace HB := sB hb; have BK151 := am (hbox); have GW151 := gK HK hg; have GE151 := gE HW0 GW151; replace HK := am (KeepBut.trans (kB HK) (KeepBut.of_below hb g none) (.inl rfl)); have NB144_151 := nK BK144 hg; have NB151_144 := mK BK144 hg; replace BK144 := kb BK144 hb; have NB0_151 := nI g HI0 hg; have NB151_0 := mI g HI0 hg; replace HI0 := am (IsS58.below (iB HI0) hb); clear hb hbox hg; have hnb9 := NB151_144.out; have hnc9 := NB144_151.out; have hnb10 := NB151_0.out; have hnc10 := NB0_151.out; obtain ⟨hcz11_0, hcz11_1, hfz11_0, hfz11_1⟩ := cZ BK151; obtain ⟨Ao12, co12, eo12⟩ := Kd.S_slice HO148.out; subst eo12) | ((with_reducible refine gate_callee (f := 35) rfl ?_); refine gL 8 Try.func35 #[.pointer (some ⟨g, 0, none⟩), .int .i64 18] ?_; (with_reducible refine (spec_l1Cur_pick.calls g s0_0 t149 t150 18 t152 t153 t154 w0 _ ?side1 ?side2 A3.out).mono ?_); (case side1 => exact iB HI0); (case side2 => exact bB); rintro e w13 ⟨rfl, hi, hb, hk⟩; refine ⟨_, rfl, ?_⟩; replace BK144 := am (KeepBut.blk hk (g' := gb144) (o := .cells #[.int .i64 0, .slice none 0 0] 26 (0, 0)) (by (with_reducible repeat (first | refine blk_drewN ?_ _ | refine blk_drew ?_ | refine blk_alloc ?_ _)); refine blk_far ?_ NB144_151.out _; (with_reducible repeat (first | refine blk_drewN ?_ _ | refine blk_drew ?_ | refine blk_alloc ?_ _)); refine blk_far ?_ NB144_151.out _; (with_reducible repeat (first | refine blk_drewN ?_ _ | refine blk_drew ?_ | refine blk_alloc ?_ _)); exact BK144.out) NB144_0.out (by simp)); replace HO148 := am (Kd.S_mono (Kd.S_keep (IsS58.apartS (show IsS58 w0 _ g s0_0 t149 t150 from iB HI0) (by (with_reducible repeat (first | apply Kd.S_alloc | apply Kd.S_drewN | apply Kd.S_drew)); exact (Kd.S_mono (Kd.S_far (p := ⟨gb151, 1, none⟩) (Kd.S_far (p := ⟨gb151, 0, none⟩) (Kd.S_types HO148.out BK151.out (by decide)) (fun _ hk => hk.2) (.int .i64 t145)) (fun _ hk => hk.2) (.slice Ao12 t146.length co12)) (fun _ h_ => h_.1))) (by decide)) hk (fun _ h => h.2)) (fun _ h => h.1)); replace BK151 := am (KeepBut.blk hk (g' := gb151) (o := .cells #[.int .i64 t145, .slice Ao12 t146.length co12] 26 (0, 0)) (by (with_reducible repeat (first | refine blk_drewN ?_ _ | refine blk_drew ?_ | refine blk_alloc ?_ _)); refine blk_put (cs := #[.int .i64 t145, .slice none 0 0]) ?_ 1 _ rfl; (with_reducible repeat (first | refine blk_drewN ?_ _ | refine blk_drew ?_ | refine blk_alloc ?_ _)); refine blk_put (cs := #[.int .i64 0, .slice none 0 0]) ?_ 0 _ rfl; (with_reducible repeat (first | refine blk_drewN ?_ _ | refine blk_drew ?_ | refine blk_alloc ?_ _)); exact BK151.out) NB151_0.out (by simp)); replace HK := am (KeepBut.trans (kB HK) hk (.inl rfl)); replace HB := am (hb); replace HI0 := am (hi)) | ((with_reducible refine gate_dst (N := 12) rfl ?_); refine Kd.R_lit (Kd.int .i64) _ 3 ?hg (N := 12) ?hd (xs := ([(-1), 0, 1, 10, 11, 4611686018427387904] : List Int)) (inner := [.int .i64 (-1), .int .i64 0, .int .i64 1, .int .i64 10, .int .i64 11, .int .i64 4611686018427387904]) (ok := fun _ => True) (okp := fun _ => True) ?hr ?hp (fun _ hk => hk) trivial (Below.refl _ _) (Nat.le_refl _) (by simp) ?_; (case hd => rfl); (case hg => rfl); (case hr => first | (go_simp; done) | (go_simp; rfl)); (case hp => exact (Reps.one (show Kd.M (Kd.int .i64) _ _ _ (-1) [.int .i64 (-1)] from rfl) (Reps.one (show Kd.M (Kd.int .i64) _ _ _ 0 [.int .i64 0] from rfl) (Reps.one (show Kd.M (Kd.int .i64) _ _ _ 1 [.int .i64 1] from rfl) (Reps.one (show Kd.M (Kd.int .i64) _ _ _ 10 [.int .i64 10] from rfl) (Reps.one (show Kd.M (Kd.int .i64) _ _ _ 11 [.int .i64 11] from rfl) (Reps.one (show Kd.M (Kd.int .i64) _ _ _ 4611686018427387904 [.int .i64 4611686018427387904] from rfl) (Reps.none _ _)))))))); intro v156 w14 ho15 hb hg_ hnew_; clear hg_ hnew_; (first | rw [← Ny155.out] at ho15 | (simp only [Int.reduceToNat] at ho15; rw [← Ny155.out] at ho15)); replace HO148 := eS HO148 ho15 hb; have HO157 := am (Kd.R_lower ho15 (keep_size (w := w) (g := g) (row := none) (kB HK))); replace HI0 := am (IsS58.below (iB HI0) hb); replace BK144 := kb BK144 hb; replace BK151 := kb BK151 hb; replace HK := am (KeepBut.trans (kB HK) (KeepBut.of_below hb g none) (.inl rfl)); replace HB := sB hb; clear hb ho15; obtain ⟨Ao16, co16, eo16⟩ := Kd.R_slice HO157.out; subst eo16) | ((with_reducible refine gate_callee (f := 58) rfl ?_); refine gL 13 Try.func58 #[.pointer (some ⟨g, 0, none⟩), .slice Ao16 y155.length co16] ?_; (with_reducible refine (spec_l1Cur_among.calls g s0_0 t153 t154 _ _ y155 t158 t159 t160 w0 _ ?side1 ?side2 ?side3 (Kd.R_reads' HO157.out).2.1 ?side5 A5.out).mono ?_); (case side1 => exact iB HI0); (case side2 => exact bB); (case side3 => exact cB (Kd.R_reads' HO157.out).2.2); (case side5 => exact far_slice (IsS58.own_ne HI0.out HO157.out (by decide))); rintro e w17 ⟨rfl, hi, hb, hk⟩; refine ⟨_, rfl, ?_⟩; replace BK144 := kh BK144 hk NB144_0; replace HO148 := am (Kd.S_mono (Kd.S_keep (IsS58.apartS (show IsS58 w0 _ g s0_0 t153 t154 from iB HI0) (rP HO148) (by decide)) hk (fun _ h => h.2)) (fun _ h => h.1)); replace BK151 := kh BK151 hk NB151_0; replace HO157 := am (Kd.R_mono (Kd.R_keep (IsS58.apart (show IsS58 w0 _ g s0_0 t153 t154 from iB HI0) (rP HO157) (by decide)) hk (fun _ h => h.2)) (fun _ h => h.1)); replace HK := am (KeepBut.trans (kB HK) hk (.inl rfl)); replace HB := am (hb); replace HI0 := am (hi); obtain ⟨hcz18_0, hcz18_1, hfz18_0, hfz18_1⟩ := cZ BK151; have hnb19 := NB144_0.out; have hnc19 := NB0_144.out; obtain ⟨hcz20_0, hcz20_1, hfz20_0, hfz20_1⟩ := cZ BK144))
   refine bodyPost_ret (results_cell_row rfl _ _ gb144 26 #[.int .i64 t158, .slice Ao12 t146.length co12] (0, 0) _ rfl (by (with_reducible repeat (first | refine blk_drewN ?_ _ | refine blk_drew ?_ | refine blk_alloc ?_ _)); refine blk_put (cs := #[.int .i64 t158, .slice none 0 0]) ?_ 1 _ rfl; (with_reducible repeat (first | refine blk_drewN ?_ _ | refine blk_drew ?_ | refine blk_alloc ?_ _)); refine blk_put (cs := #[.int .i64 0, .slice none 0 0]) ?_ 0 _ rfl; (with_reducible repeat (first | refine blk_drewN ?_ _ | refine blk_drew ?_ | refine blk_alloc ?_ _)); refine blk_far ?_ NB144_151.out _; (with_reducible repeat (first | refine blk_drewN ?_ _ | refine blk_drew ?_ | refine blk_alloc ?_ _)); exact BK144.out) Try.underlying26 rfl (by kernel_rfl)) rfl ?_
   exact ⟨_, eW, by (with_reducible repeat (first | apply Kd.S_alloc | apply Kd.S_drewN | apply Kd.S_drew)); exact Kd.S_mono (Kd.S_far (p := ⟨gb144, 1, none⟩) (Kd.S_far (p := ⟨gb144, 0, none⟩) (Kd.S_far (p := ⟨gb151, 0, none⟩) (Kd.S_types (Kd.S_types HO148.out BK151.out (by decide)) BK144.out (by decide)) (fun _ hk => hk.1.2) (.int .i64 t158)) (fun _ hk => hk.2) (.int .i64 t158)) (fun _ hk => hk.2) (.slice Ao12 t146.length co12)) (fun _ hk => trivial), iB HI0, bB, kB HK⟩
 · rw [if_neg c4] at H
   have c4b0 : (t152 == 0) = false := beq_eq_false_iff_ne.mpr c4
   have c4b1 : (t152 != 0) = true := bne_iff_ne.mpr c4
   by_cases c21 : t152 = 1
   · rw [if_pos c21] at H
     have c21b0 : (t152 == 1) = true := beq_iff_eq.mpr c21
     have c21b1 : (t152 != 1) = false := bne_eq_false_iff_eq.mpr c21
     clear c21
     replace H := ifP H
     obtain ⟨c22, H⟩ := H
     have c22b0 := decide_eq_true c22
     have c22b1 : decide (0 < t146.length) = true := decide_eq_true (by omega)
     clear c22
     generalize hy162 : ((([(-1), 0, 1, 10, 4611686018427387904] : List Int)) : List Int) = y162 at H
     (try dsimp only [Option.bind_some] at H)
     have Ny162 := am hy162.symm
     clear hy162
     replace H := bnd H
     obtain ⟨⟨t165, t166, t167⟩, A23, H⟩ := H
     (try dsimp only at H)
     replace H := ifP H
     obtain ⟨c24, H⟩ := H
     have c24b0 := decide_eq_true c24
     have c24b1 : decide (0 < (rd_L2 t146 0).length) = true := decide_eq_true (by omega)
     clear c24
     generalize hy168 : (((rd_L2 t146 0).set (0 : Int).toNat t165) : List Int) = y168 at H
     (try dsimp only [Option.bind_some] at H)
     have Ny168 := am hy168.symm
     clear hy168
     generalize hy170 : ((t146.set (0 : Int).toNat y168) : List (List Int)) = y170 at H
     (try dsimp only [Option.bind_some] at H)
     have Ny170 := am hy170.symm
     clear hy170
     simp only [Option.some.injEq, Prod.mk.injEq] at H
     obtain ⟨rfl, rfl, rfl, rfl⟩ := H
     go_enter Try.func55, Try.ntmps55
     go_wp2_with (first | ((with_reducible refine gate_dst (N := 2) rfl ?_); refine bE 2 #[.int .i64 0, .slice none 0 0] 26 ?_; intro gb144 hg w26 hbox hb; replace HB := sB hb; have BK144 := am (hbox); have GW144 := gK HK hg; have GE144 := gE HW0 GW144; replace HK := am (KeepBut.trans (kB HK) (KeepBut.of_below hb g none) (.inl rfl)); have NB0_144 := nI g HI0 hg; have NB144_0 := mI g HI0 hg; replace HI0 := am (IsS58.below (iB HI0) hb); clear hb hbox hg) | ((with_reducible refine gate_callee (f := 67) rfl ?_); refine gL 6 Try.func67 #[.pointer (some ⟨g, 0, none⟩)] ?_; (with_reducible refine (spec_l1Cur_sureStates.calls k g s0_0 s0_1 s0_2 t145 t146 t149 t150 w0 _ ?side1 ?side2 A2.out).mono ?_); (case side1 => exact iB HI0); (case side2 => exact bB); rintro e w27 ⟨v147, rfl, ho0, hi, hb, hk⟩; refine ⟨_, rfl, ?_⟩; replace BK144 := kh BK144 hk NB144_0; have HO148 := am (Kd.S_lower ho0 (keep_size (w := w) (g := g) (row := none) (kB HK))); replace HK := am (KeepBut.trans (kB HK) hk (.inl rfl)); replace HB := am (hb); replace HI0 := am (hi)) | ((with_reducible refine gate_dst (N := 3) rfl ?_); refine bE 3 #[.int .i64 0, .slice none 0 0] 26 ?_; intro gb151 hg w28 hbox hb; replace HO148 := lS HO148 hb; replace HB := sB hb; have BK151 := am (hbox); have GW151 := gK HK hg; have GE151 := gE HW0 GW151; replace HK := am (KeepBut.trans (kB HK) (KeepBut.of_below hb g none) (.inl rfl)); have NB144_151 := nK BK144 hg; have NB151_144 := mK BK144 hg; replace BK144 := kb BK144 hb; have NB0_151 := nI g HI0 hg; have NB151_0 := mI g HI0 hg; replace HI0 := am (IsS58.below (iB HI0) hb); clear hb hbox hg; have hnb29 := NB151_144.out; have hnc29 := NB144_151.out; have hnb30 := NB151_0.out; have hnc30 := NB0_151.out; obtain ⟨hcz31_0, hcz31_1, hfz31_0, hfz31_1⟩ := cZ BK151; obtain ⟨Ao32, co32, eo32⟩ := Kd.S_slice HO148.out; subst eo32) | ((with_reducible refine gate_callee (f := 35) rfl ?_); refine gL 8 Try.func35 #[.pointer (some ⟨g, 0, none⟩), .int .i64 18] ?_; (with_reducible refine (spec_l1Cur_pick.calls g s0_0 t149 t150 18 t152 t153 t154 w0 _ ?side1 ?side2 A3.out).mono ?_); (case side1 => exact iB HI0); (case side2 => exact bB); rintro e w33 ⟨rfl, hi, hb, hk⟩; refine ⟨_, rfl, ?_⟩; replace BK144 := am (KeepBut.blk hk (g' := gb144) (o := .cells #[.int .i64 0, .slice none 0 0] 26 (0, 0)) (by (with_reducible repeat (first | refine blk_drewN ?_ _ | refine blk_drew ?_ | refine blk_alloc ?_ _)); refine blk_far ?_ NB144_151.out _; (with_reducible repeat (first | refine blk_drewN ?_ _ | refine blk_drew ?_ | refine blk_alloc ?_ _)); refine blk_far ?_ NB144_151.out _; (with_reducible repeat (first | refine blk_drewN ?_ _ | refine blk_drew ?_ | refine blk_alloc ?_ _)); exact BK144.out) NB144_0.out (by simp)); replace HO148 := am (Kd.S_mono (Kd.S_keep (IsS58.apartS (show IsS58 w0 _ g s0_0 t149 t150 from iB HI0) (by (with_reducible repeat (first | apply Kd.S_alloc | apply Kd.S_drewN | apply Kd.S_drew)); exact (Kd.S_mono (Kd.S_far (p := ⟨gb151, 1, none⟩) (Kd.S_far (p := ⟨gb151, 0, none⟩) (Kd.S_types HO148.out BK151.out (by decide)) (fun _ hk => hk.2) (.int .i64 t145)) (fun _ hk => hk.2) (.slice Ao32 t146.length co32)) (fun _ h_ => h_.1))) (by decide)) hk (fun _ h => h.2)) (fun _ h => h.1)); replace BK151 := am (KeepBut.blk hk (g' := gb151) (o := .cells #[.int .i64 t145, .slice Ao32 t146.length co32] 26 (0, 0)) (by (with_reducible repeat (first | refine blk_drewN ?_ _ | refine blk_drew ?_ | refine blk_alloc ?_ _)); refine blk_put (cs := #[.int .i64 t145, .slice none 0 0]) ?_ 1 _ rfl; (with_reducible repeat (first | refine blk_drewN ?_ _ | refine blk_drew ?_ | refine blk_alloc ?_ _)); refine blk_put (cs := #[.int .i64 0, .slice none 0 0]) ?_ 0 _ rfl; (with_reducible repeat (first | refine blk_drewN ?_ _ | refine blk_drew ?_ | refine blk_alloc ?_ _)); exact BK151.out) NB151_0.out (by simp)); replace HK := am (KeepBut.trans (kB HK) hk (.inl rfl)); replace HB := am (hb); replace HI0 := am (hi); obtain ⟨hcz34_0, hcz34_1, hfz34_0, hfz34_1⟩ := cZ BK151; have p161 : 0 ≤ (0 : Int) := (by omega); have q161 : 0 < (t146.length : Int) := dT; obtain ⟨ad161, A161_0, c161_0, e161, hx161_0, hl161_0, hi161_0⟩ := at_L2 (Kd.S_reads' HO148.out).2.2 0 p161 q161; cases e161; obtain ⟨ce161, hce161, hMe161, hcc161⟩ := Kd.S_get HO148.out [] 0 p161 (by first | exact q161 | exact dT | (have e_ := (Kd.S_reads' HO148.out).1; omega)); obtain ⟨ve161_0, rfl, ge161_0⟩ := hMe161; have hv161_0 := hcc161 0 _ rfl; rw [Nat.add_zero, show ((Kd.slice 3 (Kd.int .i64))).sz = 1 from rfl, Nat.mul_one] at hv161_0; replace hv161_0 := Option.some.inj (hv161_0.symm.trans hx161_0); rw [hv161_0] at ge161_0; have HL161_0 := am (show Kd.R (Kd.int .i64) 3 _ _ _ _ (rd_L2 t146 0) from ge161_0); clear hv161_0 ge161_0; have HX161_0 := am hx161_0; clear hcc161 hce161; have qi161 : (0 < t146.length) = True := eq_true (by omega); (try rw [show ((0 : Int)).toNat = 0 from rfl] at hx161_0); (try rw [Addr.add_zero'] at hx161_0); have HR161_0 := am hi161_0; have HC161_0 := am hl161_0; clear hi161_0 hl161_0; replace p161 := eq_true p161; replace q161 := eq_true q161) | ((with_reducible refine gate_dst (N := 23) rfl ?_); refine Kd.R_lit (Kd.int .i64) _ 3 ?hg (N := 23) ?hd (xs := ([(-1), 0, 1, 10, 4611686018427387904] : List Int)) (inner := [.int .i64 (-1), .int .i64 0, .int .i64 1, .int .i64 10, .int .i64 4611686018427387904]) (ok := fun _ => True) (okp := fun _ => True) ?hr ?hp (fun _ hk => hk) trivial (Below.refl _ _) (Nat.le_refl _) (by simp) ?_; (case hd => rfl); (case hg => rfl); (case hr => first | (go_simp; done) | (go_simp; rfl)); (case hp => exact (Reps.one (show Kd.M (Kd.int .i64) _ _ _ (-1) [.int .i64 (-1)] from rfl) (Reps.one (show Kd.M (Kd.int .i64) _ _ _ 0 [.int .i64 0] from rfl) (Reps.one (show Kd.M (Kd.int .i64) _ _ _ 1 [.int .i64 1] from rfl) (Reps.one (show Kd.M (Kd.int .i64) _ _ _ 10 [.int .i64 10] from rfl) (Reps.one (show Kd.M (Kd.int .i64) _ _ _ 4611686018427387904 [.int .i64 4611686018427387904] from rfl) (Reps.none _ _))))))); intro v163 w35 ho36 hb hg_ hnew_; clear hg_ hnew_; (first | rw [← Ny162.out] at ho36 | (simp only [Int.reduceToNat] at ho36; rw [← Ny162.out] at ho36)); replace HO148 := eS HO148 ho36 hb; have HO164 := am (Kd.R_lower (Kd.R_new' ho36 (Kd.R_lt (rP HL161_0))) (keep_size (w := w) (g := g) (row := none) (kB HK))); replace HL161_0 := eR HL161_0 ho36 hb; replace HI0 := am (IsS58.below (iB HI0) hb); replace BK144 := kb BK144 hb; replace BK151 := kb BK151 hb; replace HR161_0 := am (Kd.C_below (by repeat (first | (with_reducible exact HR161_0.out) | (with_reducible refine Kd.C_alloc ?_ _) | (with_reducible refine Kd.C_drewN ?_ _) | (with_reducible refine Kd.C_drew ?_) | exact HR161_0.out)) hb); replace HX161_0 := am (pw_cell_below hb HX161_0.out); replace HK := am (KeepBut.trans (kB HK) (KeepBut.of_below hb g none) (.inl rfl)); replace HB := sB hb; clear hb ho36; obtain ⟨Ao37, co37, eo37⟩ := Kd.R_slice HO164.out; subst eo37) | ((with_reducible refine gate_callee (f := 58) rfl ?_); refine gL 24 Try.func58 #[.pointer (some ⟨g, 0, none⟩), .slice Ao37 y162.length co37] ?_; (with_reducible refine (spec_l1Cur_among.calls g s0_0 t153 t154 _ _ y162 t165 t166 t167 w0 _ ?side1 ?side2 ?side3 (Kd.R_reads' HO164.out).2.1 ?side5 A23.out).mono ?_); (case side1 => exact iB HI0); (case side2 => exact bB); (case side3 => exact cB (Kd.R_reads' HO164.out).2.2); (case side5 => exact far_slice (IsS58.own_ne HI0.out HO164.out (by decide))); rintro e w38 ⟨rfl, hi, hb, hk⟩; refine ⟨_, rfl, ?_⟩; replace BK144 := kh BK144 hk NB144_0; replace BK151 := kh BK151 hk NB151_0; replace HL161_0 := am (Kd.R_mono (Kd.R_keep (IsS58.apart (show IsS58 w0 _ g s0_0 t153 t154 from iB HI0) (rP HL161_0) (by decide)) hk (fun _ h => h.2)) (fun _ h => h.1)); replace HX161_0 := am (keep_cell hk HX161_0.out (by first | (rw [add_block]; exact Kd.own_blk (IsS58.own_neS HI0.out HO148.out (by decide))) | (show (Addr.add _ _).block ≠ _; rw [add_block]; exact Kd.own_blk (IsS58.own_neS HI0.out HO148.out (by decide))) | exact Kd.own_blk (IsS58.own_neS HI0.out HO148.out (by decide)) | (dsimp only; exact Kd.own_blk (IsS58.own_neS HI0.out HO148.out (by decide))))); replace HO148 := am (Kd.S_mono (Kd.S_keep (IsS58.apartS (show IsS58 w0 _ g s0_0 t153 t154 from iB HI0) (rP HO148) (by decide)) hk (fun _ h => h.2)) (fun _ h => h.1)); replace HO164 := am (Kd.R_mono (Kd.R_keep (IsS58.apart (show IsS58 w0 _ g s0_0 t153 t154 from iB HI0) (rP HO164) (by decide)) hk (fun _ h => h.2)) (fun _ h => h.1)); replace HK := am (KeepBut.trans (kB HK) hk (.inl rfl)); replace HB := am (hb); replace HI0 := am (hi); have p25 : 0 ≤ (0 : Int) := (by omega); have q25 : (0 : Int) < (((rd_L2 t146 0).length : Int) : Int) := dT; have qi25 : (0 < (rd_L2 t146 0).length) = True := eq_true (by omega); obtain ⟨go25, co25, eo25, gb25, gl25, cl25, HG25⟩ := Kd.R_form HL161_0.out (by omega); (first | cases eo25 | (injection eo25 with ea_ en_ ec_; (first | subst ea_ | (injection ea_ with ea_; subst ea_)); subst ec_; clear en_)); have GB25 := am gb25; have GG25 := am HG25; clear gb25 gl25 HG25; obtain ⟨hx25_0, hf25_0⟩ := Kd.R_celln 0 HL161_0.out (0 : Int) p25 q25; (try rw [show ((0 : Int)).toNat = 0 from rfl] at hx25_0); (try simp only [Nat.reduceMul, Nat.zero_mul, Nat.zero_add, Nat.reduceAdd] at hx25_0); (try rw [show ((0 : Int)).toNat = 0 from rfl] at hf25_0); (try simp only [Nat.reduceMul, Nat.zero_mul, Nat.zero_add, Nat.reduceAdd] at hf25_0); replace p25 := eq_true p25; replace q25 := eq_true q25; have n_ := am (Kd.S_mono (ok' := (fun k_ => some k_ ≠ (.slice Ao37 y162.length co37 : Value).ownBlock)) HO148.out (fun k_ hk => hk.2)); clear HO148; have HO148 := n_; clear n_; have hq39 : (0 : Int) < (t146.length : Int) := (by have h_ : (0 : Int) < ((t146.length : Int) : Int) := dT; first | exact h_ | (have e_ := (Kd.S_reads' HO148.out).1; omega) | simpa only [List.length_set, List.length_set] using h_); obtain ⟨oki39, ce39, hcl39, hM39, hcc39, hok39, hbk39⟩ := Kd.S_borrow HO148.out [] (0 : Int) (by omega) hq39; obtain ⟨ve39_0, rfl, ge39_0⟩ := hM39; have hv39 := hcc39 0 _ rfl; rw [Nat.add_zero, show ((Kd.slice 3 (Kd.int .i64))).sz = 1 from rfl, Nat.mul_one] at hv39; replace hv39 := Option.some.inj (hv39.symm.trans HX161_0.out); subst hv39; clear hcc39 hcl39; replace ge39_0 := (show Kd.R (Kd.int .i64) 3 _ _ _ _ (rd_L2 t146 0) from ge39_0); have HP39 := Kd.R_putg ge39_0 (0 : Int) t165) | ((with_reducible refine gate_store (t := 3) (p := 25) rfl ?_); refine store_event (t := 3) (p := 25) (v := ?vo_w40) (w1 := (w38.setCell ⟨go25, 0, none⟩ (.int .i64 t165))) ?hg ?ho ?hn ?hr ?_; (case ho => rfl); (case hg => rfl); (case hn => rfl); (case hr => first | (go_simp; done) | (go_simp; rfl)); intro w40 hw; have hg : w38.grownBy w40 (some go25) := (by rw [hw]; exact HP39.2); have hz_ : Kd.R (Kd.int .i64) 3 w40 w.heap.size oki39 (.slice (some ⟨go25, 0, none⟩) (rd_L2 t146 0).length c161_0) y168 := (by rw [hw, Ny168.out]; exact HP39.1); have hp_ : Kd.S (Kd.slice 3 (Kd.int .i64)) 29 w40 w.heap.size (fun k_ => some k_ ≠ (.slice Ao37 y162.length co37 : Value).ownBlock) (.slice (some ad161) t146.length co32) y170 := (by rw [Ny170.out]; exact hbk39 hg (fun k_ e_ => by injection e_ with e_; subst e_; exact ge39_0.1 _ rfl) (Kd.M_row hz_)); have hm_ := Kd.R_mono hz_ hok39; clear HP39 hbk39; replace HI0 := am (IsS58.grown (iB HI0) hg (IsS58.own_ne HI0.out HL161_0.out (by decide))); replace BK144 := (kg BK144 hg (Kd.R_ne HL161_0.out BK144.out (by decide))); replace HO148 := am (hp_); replace BK151 := (kg BK151 hg (Kd.R_ne HL161_0.out BK151.out (by decide))); replace HO164 := am (Kd.R_grown1 (rP HO164) rfl hg ((HL161_0.out.1 _ rfl).2)); replace HB := am ((by rw [hw]; exact below_set (HB.out) (Nat.le_trans HL.out GB25.out) : Below w0.heap.size w0 w40)); replace HK := am (KeepBut.trans (kB HK) (KeepBut.of_grown hg g) (Kd.R_base2 HL161_0.out)); have HL195 := am (hm_); have HC169 := am ((Kd.R_reads' hm_).2.1); clear HL161_0; clear hg hw hp_ hz_ hm_ hok39; obtain ⟨hcz41_0, hcz41_1, hfz41_0, hfz41_1⟩ := cZ BK151; have hnb42 := NB144_0.out; have hnc42 := NB0_144.out; obtain ⟨hcz43_0, hcz43_1, hfz43_0, hfz43_1⟩ := cZ BK144))
     refine bodyPost_ret (results_cell_row rfl _ _ gb144 26 #[.int .i64 t145, .slice (some ad161) t146.length co32] (0, 0) _ rfl (by (with_reducible repeat (first | refine blk_drewN ?_ _ | refine blk_drew ?_ | refine blk_alloc ?_ _)); refine blk_put (cs := #[.int .i64 t145, .slice none 0 0]) ?_ 1 _ rfl; (with_reducible repeat (first | refine blk_drewN ?_ _ | refine blk_drew ?_ | refine blk_alloc ?_ _)); refine blk_put (cs := #[.int .i64 0, .slice none 0 0]) ?_ 0 _ rfl; (with_reducible repeat (first | refine blk_drewN ?_ _ | refine blk_drew ?_ | refine blk_alloc ?_ _)); exact BK144.out) Try.underlying26 rfl (by kernel_rfl)) rfl ?_
     exact ⟨_, eW, by (with_reducible repeat (first | apply Kd.S_alloc | apply Kd.S_drewN | apply Kd.S_drew)); exact Kd.S_mono (Kd.S_far (p := ⟨gb144, 1, none⟩) (Kd.S_far (p := ⟨gb144, 0, none⟩) (Kd.S_types HO148.out BK144.out (by decide)) (fun _ hk => hk.2) (.int .i64 t145)) (fun _ hk => hk.2) (.slice (some ad161) t146.length co32)) (fun _ hk => trivial), iB HI0, bB, kB HK⟩
   · rw [if_neg c21] at H
     have c21b0 : (t152 == 1) = false := beq_eq_false_iff_ne.mpr c21
     have c21b1 : (t152 != 1) = true := bne_iff_ne.mpr c21
     by_cases c44 : t152 = 2
     · rw [if_pos c44] at H
       have c44b0 : (t152 == 2) = true := beq_iff_eq.mpr c44
       have c44b1 : (t152 != 2) = false := bne_eq_false_iff_eq.mpr c44
       clear c44
       generalize hy171 : ((([1] : List Int)) : List Int) = y171 at H
       (try dsimp only [Option.bind_some] at H)
       have Ny171 := am hy171.symm
       clear hy171
       replace H := ifP H
       obtain ⟨c45, H⟩ := H
       have LMc45 := am c45
       clear c45
       generalize hy174 : ((t146 ++ [y171]) : List (List Int)) = y174 at H
       (try dsimp only [Option.bind_some] at H)
       have Ny174 := am hy174.symm
       clear hy174
       simp only [Option.some.injEq, Prod.mk.injEq] at H
       obtain ⟨rfl, rfl, rfl, rfl⟩ := H
       go_enter Try.func55, Try.ntmps55
       go_wp2_with (first | ((with_reducible refine gate_dst (N := 2) rfl ?_); refine bE 2 #[.int .i64 0, .slice none 0 0] 26 ?_; intro gb144 hg w46 hbox hb; replace HB := sB hb; have BK144 := am (hbox); have GW144 := gK HK hg; have GE144 := gE HW0 GW144; replace HK := am (KeepBut.trans (kB HK) (KeepBut.of_below hb g none) (.inl rfl)); have NB0_144 := nI g HI0 hg; have NB144_0 := mI g HI0 hg; replace HI0 := am (IsS58.below (iB HI0) hb); clear hb hbox hg) | ((with_reducible refine gate_callee (f := 67) rfl ?_); refine gL 6 Try.func67 #[.pointer (some ⟨g, 0, none⟩)] ?_; (with_reducible refine (spec_l1Cur_sureStates.calls k g s0_0 s0_1 s0_2 t145 t146 t149 t150 w0 _ ?side1 ?side2 A2.out).mono ?_); (case side1 => exact iB HI0); (case side2 => exact bB); rintro e w47 ⟨v147, rfl, ho0, hi, hb, hk⟩; refine ⟨_, rfl, ?_⟩; replace BK144 := kh BK144 hk NB144_0; have HO148 := am (Kd.S_lower ho0 (keep_size (w := w) (g := g) (row := none) (kB HK))); replace HK := am (KeepBut.trans (kB HK) hk (.inl rfl)); replace HB := am (hb); replace HI0 := am (hi)) | ((with_reducible refine gate_dst (N := 3) rfl ?_); refine bE 3 #[.int .i64 0, .slice none 0 0] 26 ?_; intro gb151 hg w48 hbox hb; replace HO148 := lS HO148 hb; replace HB := sB hb; have BK151 := am (hbox); have GW151 := gK HK hg; have GE151 := gE HW0 GW151; replace HK := am (KeepBut.trans (kB HK) (KeepBut.of_below hb g none) (.inl rfl)); have NB144_151 := nK BK144 hg; have NB151_144 := mK BK144 hg; replace BK144 := kb BK144 hb; have NB0_151 := nI g HI0 hg; have NB151_0 := mI g HI0 hg; replace HI0 := am (IsS58.below (iB HI0) hb); clear hb hbox hg; have hnb49 := NB151_144.out; have hnc49 := NB144_151.out; have hnb50 := NB151_0.out; have hnc50 := NB0_151.out; obtain ⟨hcz51_0, hcz51_1, hfz51_0, hfz51_1⟩ := cZ BK151; obtain ⟨Ao52, co52, eo52⟩ := Kd.S_slice HO148.out; subst eo52) | ((with_reducible refine gate_callee (f := 35) rfl ?_); refine gL 8 Try.func35 #[.pointer (some ⟨g, 0, none⟩), .int .i64 18] ?_; (with_reducible refine (spec_l1Cur_pick.calls g s0_0 t149 t150 18 t152 t153 t154 w0 _ ?side1 ?side2 A3.out).mono ?_); (case side1 => exact iB HI0); (case side2 => exact bB); rintro e w53 ⟨rfl, hi, hb, hk⟩; refine ⟨_, rfl, ?_⟩; replace BK144 := am (KeepBut.blk hk (g' := gb144) (o := .cells #[.int .i64 0, .slice none 0 0] 26 (0, 0)) (by (with_reducible repeat (first | refine blk_drewN ?_ _ | refine blk_drew ?_ | refine blk_alloc ?_ _)); refine blk_far ?_ NB144_151.out _; (with_reducible repeat (first | refine blk_drewN ?_ _ | refine blk_drew ?_ | refine blk_alloc ?_ _)); refine blk_far ?_ NB144_151.out _; (with_reducible repeat (first | refine blk_drewN ?_ _ | refine blk_drew ?_ | refine blk_alloc ?_ _)); exact BK144.out) NB144_0.out (by simp)); replace HO148 := am (Kd.S_mono (Kd.S_keep (IsS58.apartS (show IsS58 w0 _ g s0_0 t149 t150 from iB HI0) (by (with_reducible repeat (first | apply Kd.S_alloc | apply Kd.S_drewN | apply Kd.S_drew)); exact (Kd.S_mono (Kd.S_far (p := ⟨gb151, 1, none⟩) (Kd.S_far (p := ⟨gb151, 0, none⟩) (Kd.S_types HO148.out BK151.out (by decide)) (fun _ hk => hk.2) (.int .i64 t145)) (fun _ hk => hk.2) (.slice Ao52 t146.length co52)) (fun _ h_ => h_.1))) (by decide)) hk (fun _ h => h.2)) (fun _ h => h.1)); replace BK151 := am (KeepBut.blk hk (g' := gb151) (o := .cells #[.int .i64 t145, .slice Ao52 t146.length co52] 26 (0, 0)) (by (with_reducible repeat (first | refine blk_drewN ?_ _ | refine blk_drew ?_ | refine blk_alloc ?_ _)); refine blk_put (cs := #[.int .i64 t145, .slice none 0 0]) ?_ 1 _ rfl; (with_reducible repeat (first | refine blk_drewN ?_ _ | refine blk_drew ?_ | refine blk_alloc ?_ _)); refine blk_put (cs := #[.int .i64 0, .slice none 0 0]) ?_ 0 _ rfl; (with_reducible repeat (first | refine blk_drewN ?_ _ | refine blk_drew ?_ | refine blk_alloc ?_ _)); exact BK151.out) NB151_0.out (by simp)); replace HK := am (KeepBut.trans (kB HK) hk (.inl rfl)); replace HB := am (hb); replace HI0 := am (hi); obtain ⟨hcz54_0, hcz54_1, hfz54_0, hfz54_1⟩ := cZ BK151) | ((with_reducible refine gate_dst (N := 30) rfl ?_); refine Kd.R_lit (Kd.int .i64) _ 3 ?hg (N := 30) ?hd (xs := ([1] : List Int)) (inner := [.int .i64 1]) (ok := fun _ => True) (okp := fun _ => True) ?hr ?hp (fun _ hk => hk) trivial (Below.refl _ _) (Nat.le_refl _) (by simp) ?_; (case hd => rfl); (case hg => rfl); (case hr => first | (go_simp; done) | (go_simp; rfl)); (case hp => exact (Reps.one (show Kd.M (Kd.int .i64) _ _ _ 1 [.int .i64 1] from rfl) (Reps.none _ _))); intro v172 w55 ho56 hb hg_ hnew_; clear hg_ hnew_; (first | rw [← Ny171.out] at ho56 | (simp only [Int.reduceToNat] at ho56; rw [← Ny171.out] at ho56)); replace HO148 := eS HO148 ho56 hb; have HO173 := am (Kd.R_lower ho56 (keep_size (w := w) (g := g) (row := none) (kB HK))); replace HI0 := am (IsS58.below (iB HI0) hb); replace BK144 := kb BK144 hb; replace BK151 := kb BK151 hb; replace HK := am (KeepBut.trans (kB HK) (KeepBut.of_below hb g none) (.inl rfl)); replace HB := sB hb; clear hb ho56; obtain ⟨Ao58, co58, eo58⟩ := Kd.R_slice HO173.out; subst eo58) | ((with_reducible refine gate_builtin (b := .append) (xs := #[.tmp 29, .tmp 31]) rfl ?_); at_builtin; refine Kd.S_append (Kd.slice 3 (Kd.int .i64)) w.heap.size rfl (.tmp 29) (.tmp 31) 24 29 (.slice none 0 0) 24 rfl Try.underlying24 info29 rfl (by decide) (by omega) (.slice Ao52 t146.length co52) t146 y171 [.slice Ao58 y171.length co58] (fun _ => True) (fun k_ => some k_ = (.slice Ao58 y171.length co58 : Value).ownBlock) rfl rfl ?aP (fun k_ hk_ => ((Kd.R_mono (ok' := fun k_ => ((fun _ => True)) k_ ∧ some k_ ≠ (.slice Ao52 t146.length co52 : Value).ownBlock) (Kd.R_apart' (HO173.out) (Kd.S_typed HO148.out) (by decide)) (fun k_ hk => ⟨trivial, hk.2⟩))).1 k_ hk_.symm) ?aF ?aO (Below.refl _ _) ?aS ?aL ?_; (case aP => exact Kd.M_row (Kd.R_mono (Kd.R_tight rfl (Kd.R_mono (ok' := fun k_ => ((fun _ => True)) k_ ∧ some k_ ≠ (.slice Ao52 t146.length co52 : Value).ownBlock) (Kd.R_apart' (HO173.out) (Kd.S_typed HO148.out) (by decide)) (fun k_ hk => ⟨trivial, hk.2⟩))) (fun _ h_ => h_))); (case aF => exact (fun _ _ => trivial)); (case aO => exact (by (with_reducible repeat (first | apply Kd.S_alloc | apply Kd.S_drewN | apply Kd.S_drew)); exact Kd.S_mono HO148.out (fun k_ hk => ⟨trivial, fun e_ => hk.2 e_⟩))); (case aS => exact (keep_size (w := w) (g := g) (row := none) (kB HK))); (case aL => have := LMc45.out; omega); intro v175 w57 ho hb hg hat; rw [← Ny174.out] at ho; replace HI0 := am (IsS58.grown (iB HI0) hg (IsS58.own_neS HI0.out HO148.out (by decide))); replace BK144 := (kg BK144 hg (Kd.S_ne HO148.out BK144.out (by decide))); replace BK151 := (kg BK151 hg (Kd.S_ne HO148.out BK151.out (by decide))); replace HB := am (below_weaken bB HL.out hb); replace HK := am (KeepBut.trans (kB HK) (KeepBut.of_grown hg g) (Kd.S_base2 HO148.out)); have HO176 := am (ho); clear HO148 HO173; clear ho hb hg hat; obtain ⟨Ao59, co59, eo59⟩ := Kd.S_slice HO176.out; subst eo59; obtain ⟨hcz60_0, hcz60_1, hfz60_0, hfz60_1⟩ := cZ BK151; have hnb61 := NB144_0.out; have hnc61 := NB0_144.out; obtain ⟨hcz62_0, hcz62_1, hfz62_0, hfz62_1⟩ := cZ BK144))
       refine bodyPost_ret (results_cell_row rfl _ _ gb144 26 #[.int .i64 t145, .slice Ao59 y174.length co59] (0, 0) _ rfl (by (with_reducible repeat (first | refine blk_drewN ?_ _ | refine blk_drew ?_ | refine blk_alloc ?_ _)); refine blk_put (cs := #[.int .i64 t145, .slice none 0 0]) ?_ 1 _ rfl; (with_reducible repeat (first | refine blk_drewN ?_ _ | refine blk_drew ?_ | refine blk_alloc ?_ _)); refine blk_put (cs := #[.int .i64 0, .slice none 0 0]) ?_ 0 _ rfl; (with_reducible repeat (first | refine blk_drewN ?_ _ | refine blk_drew ?_ | refine blk_alloc ?_ _)); refine blk_far ?_ NB144_151.out _; (with_reducible repeat (first | refine blk_drewN ?_ _ | refine blk_drew ?_ | refine blk_alloc ?_ _)); exact BK144.out) Try.underlying26 rfl (by kernel_rfl)) rfl ?_
       exact ⟨_, eW, by (with_reducible repeat (first | apply Kd.S_alloc | apply Kd.S_drewN | apply Kd.S_drew)); exact Kd.S_mono (Kd.S_far (p := ⟨gb144, 1, none⟩) (Kd.S_far (p := ⟨gb144, 0, none⟩) (Kd.S_far (p := ⟨gb151, 1, none⟩) (Kd.S_types (Kd.S_types HO176.out BK151.out (by decide)) BK144.out (by decide)) (fun _ hk => hk.1.2) (.slice Ao59 y174.length co59)) (fun _ hk => hk.2) (.int .i64 t145)) (fun _ hk => hk.2) (.slice Ao59 y174.length co59)) (fun _ hk => trivial), iB HI0, bB, kB HK⟩
     · rw [if_neg c44] at H
       have c44b0 : (t152 == 2) = false := beq_eq_false_iff_ne.mpr c44
       have c44b1 : (t152 != 2) = true := bne_iff_ne.mpr c44
       by_cases c63 : t152 = 3
       · rw [if_pos c63] at H
         have c63b0 : (t152 == 3) = true := beq_iff_eq.mpr c63
         have c63b1 : (t152 != 3) = false := bne_eq_false_iff_eq.mpr c63
         clear c63
         simp only [Option.some.injEq, Prod.mk.injEq] at H
         obtain ⟨rfl, rfl, rfl, rfl⟩ := H
         go_enter Try.func55, Try.ntmps55
         go_wp2_with (first | ((with_reducible refine gate_dst (N := 2) rfl ?_); refine bE 2 #[.int .i64 0, .slice none 0 0] 26 ?_; intro gb144 hg w64 hbox hb; replace HB := sB hb; have BK144 := am (hbox); have GW144 := gK HK hg; have GE144 := gE HW0 GW144; replace HK := am (KeepBut.trans (kB HK) (KeepBut.of_below hb g none) (.inl rfl)); have NB0_144 := nI g HI0 hg; have NB144_0 := mI g HI0 hg; replace HI0 := am (IsS58.below (iB HI0) hb); clear hb hbox hg) | ((with_reducible refine gate_callee (f := 67) rfl ?_); refine gL 6 Try.func67 #[.pointer (some ⟨g, 0, none⟩)] ?_; (with_reducible refine (spec_l1Cur_sureStates.calls k g s0_0 s0_1 s0_2 t145 t146 t149 t150 w0 _ ?side1 ?side2 A2.out).mono ?_); (case side1 => exact iB HI0); (case side2 => exact bB); rintro e w65 ⟨v147, rfl, ho0, hi, hb, hk⟩; refine ⟨_, rfl, ?_⟩; replace BK144 := kh BK144 hk NB144_0; have HO148 := am (Kd.S_lower ho0 (keep_size (w := w) (g := g) (row := none) (kB HK))); replace HK := am (KeepBut.trans (kB HK) hk (.inl rfl)); replace HB := am (hb); replace HI0 := am (hi)) | ((with_reducible refine gate_dst (N := 3) rfl ?_); refine bE 3 #[.int .i64 0, .slice none 0 0] 26 ?_; intro gb151 hg w66 hbox hb; replace HO148 := lS HO148 hb; replace HB := sB hb; have BK151 := am (hbox); have GW151 := gK HK hg; have GE151 := gE HW0 GW151; replace HK := am (KeepBut.trans (kB HK) (KeepBut.of_below hb g none) (.inl rfl)); have NB144_151 := nK BK144 hg; have NB151_144 := mK BK144 hg; replace BK144 := kb BK144 hb; have NB0_151 := nI g HI0 hg; have NB151_0 := mI g HI0 hg; replace HI0 := am (IsS58.below (iB HI0) hb); clear hb hbox hg; have hnb67 := NB151_144.out; have hnc67 := NB144_151.out; have hnb68 := NB151_0.out; have hnc68 := NB0_151.out; obtain ⟨hcz69_0, hcz69_1, hfz69_0, hfz69_1⟩ := cZ BK151; obtain ⟨Ao70, co70, eo70⟩ := Kd.S_slice HO148.out; subst eo70) | ((with_reducible refine gate_callee (f := 35) rfl ?_); refine gL 8 Try.func35 #[.pointer (some ⟨g, 0, none⟩), .int .i64 18] ?_; (with_reducible refine (spec_l1Cur_pick.calls g s0_0 t149 t150 18 t152 t153 t154 w0 _ ?side1 ?side2 A3.out).mono ?_); (case side1 => exact iB HI0); (case side2 => exact bB); rintro e w71 ⟨rfl, hi, hb, hk⟩; refine ⟨_, rfl, ?_⟩; replace BK144 := am (KeepBut.blk hk (g' := gb144) (o := .cells #[.int .i64 0, .slice none 0 0] 26 (0, 0)) (by (with_reducible repeat (first | refine blk_drewN ?_ _ | refine blk_drew ?_ | refine blk_alloc ?_ _)); refine blk_far ?_ NB144_151.out _; (with_reducible repeat (first | refine blk_drewN ?_ _ | refine blk_drew ?_ | refine blk_alloc ?_ _)); refine blk_far ?_ NB144_151.out _; (with_reducible repeat (first | refine blk_drewN ?_ _ | refine blk_drew ?_ | refine blk_alloc ?_ _)); exact BK144.out) NB144_0.out (by simp)); replace HO148 := am (Kd.S_mono (Kd.S_keep (IsS58.apartS (show IsS58 w0 _ g s0_0 t149 t150 from iB HI0) (by (with_reducible repeat (first | apply Kd.S_alloc | apply Kd.S_drewN | apply Kd.S_drew)); exact (Kd.S_mono (Kd.S_far (p := ⟨gb151, 1, none⟩) (Kd.S_far (p := ⟨gb151, 0, none⟩) (Kd.S_types HO148.out BK151.out (by decide)) (fun _ hk => hk.2) (.int .i64 t145)) (fun _ hk => hk.2) (.slice Ao70 t146.length co70)) (fun _ h_ => h_.1))) (by decide)) hk (fun _ h => h.2)) (fun _ h => h.1)); replace BK151 := am (KeepBut.blk hk (g' := gb151) (o := .cells #[.int .i64 t145, .slice Ao70 t146.length co70] 26 (0, 0)) (by (with_reducible repeat (first | refine blk_drewN ?_ _ | refine blk_drew ?_ | refine blk_alloc ?_ _)); refine blk_put (cs := #[.int .i64 t145, .slice none 0 0]) ?_ 1 _ rfl; (with_reducible repeat (first | refine blk_drewN ?_ _ | refine blk_drew ?_ | refine blk_alloc ?_ _)); refine blk_put (cs := #[.int .i64 0, .slice none 0 0]) ?_ 0 _ rfl; (with_reducible repeat (first | refine blk_drewN ?_ _ | refine blk_drew ?_ | refine blk_alloc ?_ _)); exact BK151.out) NB151_0.out (by simp)); replace HK := am (KeepBut.trans (kB HK) hk (.inl rfl)); replace HB := am (hb); replace HI0 := am (hi); obtain ⟨hcz72_0, hcz72_1, hfz72_0, hfz72_1⟩ := cZ BK151; have hnb73 := NB144_0.out; have hnc73 := NB0_144.out; obtain ⟨hcz74_0, hcz74_1, hfz74_0, hfz74_1⟩ := cZ BK144))
         refine bodyPost_ret (results_cell_row rfl _ _ gb144 26 #[.int .i64 t145, .slice none 0 0] (0, 0) _ rfl (by (with_reducible repeat (first | refine blk_drewN ?_ _ | refine blk_drew ?_ | refine blk_alloc ?_ _)); refine blk_put (cs := #[.int .i64 t145, .slice none 0 0]) ?_ 1 _ rfl; (with_reducible repeat (first | refine blk_drewN ?_ _ | refine blk_drew ?_ | refine blk_alloc ?_ _)); refine blk_put (cs := #[.int .i64 0, .slice none 0 0]) ?_ 0 _ rfl; (with_reducible repeat (first | refine blk_drewN ?_ _ | refine blk_drew ?_ | refine blk_alloc ?_ _)); refine blk_far ?_ NB144_151.out _; (with_reducible repeat (first | refine blk_drewN ?_ _ | refine blk_drew ?_ | refine blk_alloc ?_ _)); exact BK144.out) Try.underlying26 rfl (by kernel_rfl)) rfl ?_
         exact ⟨_, eW, nL, iB HI0, bB, kB HK⟩
       · rw [if_neg c63] at H
         have c63b0 : (t152 == 3) = false := beq_eq_false_iff_ne.mpr c63
         have c63b1 : (t152 != 3) = true := bne_iff_ne.mpr c63
         by_cases c75 : t152 = 4
         · rw [if_pos c75] at H
           have c75b0 : (t152 == 4) = true := beq_iff_eq.mpr c75
           have c75b1 : (t152 != 4) = false := bne_eq_false_iff_eq.mpr c75
           clear c75
           generalize hy177 : ((([1, 2, 3, 4, 0] : List Int)) : List Int) = y177 at H
           (try dsimp only [Option.bind_some] at H)
           have Ny177 := am hy177.symm
           clear hy177
           generalize hy180 : ((([0, 9, 1, 0, 0] : List Int)) : List Int) = y180 at H
           (try dsimp only [Option.bind_some] at H)
           have Ny180 := am hy180.symm
           clear hy180
           generalize hy183 : ((([5, 0, 0, 5, 0] : List Int)) : List Int) = y183 at H
           (try dsimp only [Option.bind_some] at H)
           have Ny183 := am hy183.symm
           clear hy183
           generalize hy186 : ((([0, 0, 0, 3, 7] : List Int)) : List Int) = y186 at H
           (try dsimp only [Option.bind_some] at H)
           have Ny186 := am hy186.symm
           clear hy186
           generalize hy189 : ((([2, 2, 2, 2, 2] : List Int)) : List Int) = y189 at H
           (try dsimp only [Option.bind_some] at H)
           have Ny189 := am hy189.symm
           clear hy189
           generalize hy192 : ((([y177, y180, y183, y186, y189] : List (List Int))) : List (List Int)) = y192 at H
           (try dsimp only [Option.bind_some] at H)
           have Ny192 := am hy192.symm
           clear hy192
           simp only [Option.some.injEq, Prod.mk.injEq] at H
           obtain ⟨rfl, rfl, rfl, rfl⟩ := H
           go_enter Try.func55, Try.ntmps55
           go_wp2_with (first | ((with_reducible refine gate_dst (N := 2) rfl ?_); refine bE 2 #[.int .i64 0, .slice none 0 0] 26 ?_; intro gb144 hg w76 hbox hb; replace HB := sB hb; have BK144 := am (hbox); have GW144 := gK HK hg; have GE144 := gE HW0 GW144; replace HK := am (KeepBut.trans (kB HK) (KeepBut.of_below hb g none) (.inl rfl)); have NB0_144 := nI g HI0 hg; have NB144_0 := mI g HI0 hg; replace HI0 := am (IsS58.below (iB HI0) hb); clear hb hbox hg) | ((with_reducible refine gate_callee (f := 67) rfl ?_); refine gL 6 Try.func67 #[.pointer (some ⟨g, 0, none⟩)] ?_; (with_reducible refine (spec_l1Cur_sureStates.calls k g s0_0 s0_1 s0_2 t145 t146 t149 t150 w0 _ ?side1 ?side2 A2.out).mono ?_); (case side1 => exact iB HI0); (case side2 => exact bB); rintro e w77 ⟨v147, rfl, ho0, hi, hb, hk⟩; refine ⟨_, rfl, ?_⟩; replace BK144 := kh BK144 hk NB144_0; have HO148 := am (Kd.S_lower ho0 (keep_size (w := w) (g := g) (row := none) (kB HK))); replace HK := am (KeepBut.trans (kB HK) hk (.inl rfl)); replace HB := am (hb); replace HI0 := am (hi)) | ((with_reducible refine gate_dst (N := 3) rfl ?_); refine bE 3 #[.int .i64 0, .slice none 0 0] 26 ?_; intro gb151 hg w78 hbox hb; replace HO148 := lS HO148 hb; replace HB := sB hb; have BK151 := am (hbox); have GW151 := gK HK hg; have GE151 := gE HW0 GW151; replace HK := am (KeepBut.trans (kB HK) (KeepBut.of_below hb g none) (.inl rfl)); have NB144_151 := nK BK144 hg; have NB151_144 := mK BK144 hg; replace BK144 := kb BK144 hb; have NB0_151 := nI g HI0 hg; have NB151_0 := mI g HI0 hg; replace HI0 := am (IsS58.below (iB HI0) hb); clear hb hbox hg; have hnb79 := NB151_144.out; have hnc79 := NB144_151.out; have hnb80 := NB151_0.out; have hnc80 := NB0_151.out; obtain ⟨hcz81_0, hcz81_1, hfz81_0, hfz81_1⟩ := cZ BK151; obtain ⟨Ao82, co82, eo82⟩ := Kd.S_slice HO148.out; subst eo82) | ((with_reducible refine gate_callee (f := 35) rfl ?_); refine gL 8 Try.func35 #[.pointer (some ⟨g, 0, none⟩), .int .i64 18] ?_; (with_reducible refine (spec_l1Cur_pick.calls g s0_0 t149 t150 18 t152 t153 t154 w0 _ ?side1 ?side2 A3.out).mono ?_); (case side1 => exact iB HI0); (case side2 => exact bB); rintro e w83 ⟨rfl, hi, hb, hk⟩; refine ⟨_, rfl, ?_⟩; replace BK144 := am (KeepBut.blk hk (g' := gb144) (o := .cells #[.int .i64 0, .slice none 0 0] 26 (0, 0)) (by (with_reducible repeat (first | refine blk_drewN ?_ _ | refine blk_drew ?_ | refine blk_alloc ?_ _)); refine blk_far ?_ NB144_151.out _; (with_reducible repeat (first | refine blk_drewN ?_ _ | refine blk_drew ?_ | refine blk_alloc ?_ _)); refine blk_far ?_ NB144_151.out _; (with_reducible repeat (first | refine blk_drewN ?_ _ | refine blk_drew ?_ | refine blk_alloc ?_ _)); exact BK144.out) NB144_0.out (by simp)); replace HO148 := am (Kd.S_mono (Kd.S_keep (IsS58.apartS (show IsS58 w0 _ g s0_0 t149 t150 from iB HI0) (by (with_reducible repeat (first | apply Kd.S_alloc | apply Kd.S_drewN | apply Kd.S_drew)); exact (Kd.S_mono (Kd.S_far (p := ⟨gb151, 1, none⟩) (Kd.S_far (p := ⟨gb151, 0, none⟩) (Kd.S_types HO148.out BK151.out (by decide)) (fun _ hk => hk.2) (.int .i64 t145)) (fun _ hk => hk.2) (.slice Ao82 t146.length co82)) (fun _ h_ => h_.1))) (by decide)) hk (fun _ h => h.2)) (fun _ h => h.1)); replace BK151 := am (KeepBut.blk hk (g' := gb151) (o := .cells #[.int .i64 t145, .slice Ao82 t146.length co82] 26 (0, 0)) (by (with_reducible repeat (first | refine blk_drewN ?_ _ | refine blk_drew ?_ | refine blk_alloc ?_ _)); refine blk_put (cs := #[.int .i64 t145, .slice none 0 0]) ?_ 1 _ rfl; (with_reducible repeat (first | refine blk_drewN ?_ _ | refine blk_drew ?_ | refine blk_alloc ?_ _)); refine blk_put (cs := #[.int .i64 0, .slice none 0 0]) ?_ 0 _ rfl; (with_reducible repeat (first | refine blk_drewN ?_ _ | refine blk_drew ?_ | refine blk_alloc ?_ _)); exact BK151.out) NB151_0.out (by simp)); replace HK := am (KeepBut.trans (kB HK) hk (.inl rfl)); replace HB := am (hb); replace HI0 := am (hi)) | ((with_reducible refine gate_dst (N := 39) rfl ?_); refine Kd.R_lit (Kd.int .i64) _ 3 ?hg (N := 39) ?hd (xs := ([1, 2, 3, 4, 0] : List Int)) (inner := [.int .i64 1, .int .i64 2, .int .i64 3, .int .i64 4, .int .i64 0]) (ok := fun _ => True) (okp := fun _ => True) ?hr ?hp (fun _ hk => hk) trivial (Below.refl _ _) (Nat.le_refl _) (by simp) ?_; (case hd => rfl); (case hg => rfl); (case hr => first | (go_simp; done) | (go_simp; rfl)); (case hp => exact (Reps.one (show Kd.M (Kd.int .i64) _ _ _ 1 [.int .i64 1] from rfl) (Reps.one (show Kd.M (Kd.int .i64) _ _ _ 2 [.int .i64 2] from rfl) (Reps.one (show Kd.M (Kd.int .i64) _ _ _ 3 [.int .i64 3] from rfl) (Reps.one (show Kd.M (Kd.int .i64) _ _ _ 4 [.int .i64 4] from rfl) (Reps.one (show Kd.M (Kd.int .i64) _ _ _ 0 [.int .i64 0] from rfl) (Reps.none _ _))))))); intro v178 w84 ho85 hb hg_ hnew_; clear hg_ hnew_; (first | rw [← Ny177.out] at ho85 | (simp only [Int.reduceToNat] at ho85; rw [← Ny177.out] at ho85)); replace HO148 := eS HO148 ho85 hb; have HO179 := am (Kd.R_lower ho85 (keep_size (w := w) (g := g) (row := none) (kB HK))); replace HI0 := am (IsS58.below (iB HI0) hb); replace BK144 := kb BK144 hb; replace BK151 := kb BK151 hb; replace HK := am (KeepBut.trans (kB HK) (KeepBut.of_below hb g none) (.inl rfl)); replace HB := sB hb; clear hb ho85) | ((with_reducible refine gate_dst (N := 40) rfl ?_); refine Kd.R_lit (Kd.int .i64) _ 3 ?hg (N := 40) ?hd (xs := ([0, 9, 1, 0, 0] : List Int)) (inner := [.int .i64 0, .int .i64 9, .int .i64 1, .int .i64 0, .int .i64 0]) (ok := fun _ => True) (okp := fun _ => True) ?hr ?hp (fun _ hk => hk) trivial (Below.refl _ _) (Nat.le_refl _) (by simp) ?_; (case hd => rfl); (case hg => rfl); (case hr => first | (go_simp; done) | (go_simp; rfl)); (case hp => exact (Reps.one (show Kd.M (Kd.int .i64) _ _ _ 0 [.int .i64 0] from rfl) (Reps.one (show Kd.M (Kd.int .i64) _ _ _ 9 [.int .i64 9] from rfl) (Reps.one (show Kd.M (Kd.int .i64) _ _ _ 1 [.int .i64 1] from rfl) (Reps.one (show Kd.M (Kd.int .i64) _ _ _ 0 [.int .i64 0] from rfl) (Reps.one (show Kd.M (Kd.int .i64) _ _ _ 0 [.int .i64 0] from rfl) (Reps.none _ _))))))); intro v181 w86 ho87 hb hg_ hnew_; clear hg_ hnew_; (first | rw [← Ny180.out] at ho87 | (simp only [Int.reduceToNat] at ho87; rw [← Ny180.out] at ho87)); replace HO148 := eS HO148 ho87 hb; have HO182 := am (Kd.R_lower (Kd.R_new' ho87 (Kd.R_lt (rP HO179))) (keep_size (w := w) (g := g) (row := none) (kB HK))); replace HO179 := eR HO179 ho87 hb; replace HI0 := am (IsS58.below (iB HI0) hb); replace BK144 := kb BK144 hb; replace BK151 := kb BK151 hb; replace HK := am (KeepBut.trans (kB HK) (KeepBut.of_below hb g none) (.inl rfl)); replace HB := sB hb; clear hb ho87) | ((with_reducible refine gate_dst (N := 41) rfl ?_); refine Kd.R_lit (Kd.int .i64) _ 3 ?hg (N := 41) ?hd (xs := ([5, 0, 0, 5, 0] : List Int)) (inner := [.int .i64 5, .int .i64 0, .int .i64 0, .int .i64 5, .int .i64 0]) (ok := fun _ => True) (okp := fun _ => True) ?hr ?hp (fun _ hk => hk) trivial (Below.refl _ _) (Nat.le_refl _) (by simp) ?_; (case hd => rfl); (case hg => rfl); (case hr => first | (go_simp; done) | (go_simp; rfl)); (case hp => exact (Reps.one (show Kd.M (Kd.int .i64) _ _ _ 5 [.int .i64 5] from rfl) (Reps.one (show Kd.M (Kd.int .i64) _ _ _ 0 [.int .i64 0] from rfl) (Reps.one (show Kd.M (Kd.int .i64) _ _ _ 0 [.int .i64 0] from rfl) (Reps.one (show Kd.M (Kd.int .i64) _ _ _ 5 [.int .i64 5] from rfl) (Reps.one (show Kd.M (Kd.int .i64) _ _ _ 0 [.int .i64 0] from rfl) (Reps.none _ _))))))); intro v184 w88 ho89 hb hg_ hnew_; clear hg_ hnew_; (first | rw [← Ny183.out] at ho89 | (simp only [Int.reduceToNat] at ho89; rw [← Ny183.out] at ho89)); replace HO148 := eS HO148 ho89 hb; have HO185 := am (Kd.R_lower (Kd.R_new' (Kd.R_new' ho89 (Kd.R_lt (rP HO179))) (Kd.R_lt (rP HO182))) (keep_size (w := w) (g := g) (row := none) (kB HK))); replace HO179 := eR HO179 ho89 hb; replace HO182 := eR HO182 ho89 hb; replace HI0 := am (IsS58.below (iB HI0) hb); replace BK144 := kb BK144 hb; replace BK151 := kb BK151 hb; replace HK := am (KeepBut.trans (kB HK) (KeepBut.of_below hb g none) (.inl rfl)); replace HB := sB hb; clear hb ho89) | ((with_reducible refine gate_dst (N := 42) rfl ?_); refine Kd.R_lit (Kd.int .i64) _ 3 ?hg (N := 42) ?hd (xs := ([0, 0, 0, 3, 7] : List Int)) (inner := [.int .i64 0, .int .i64 0, .int .i64 0, .int .i64 3, .int .i64 7]) (ok := fun _ => True) (okp := fun _ => True) ?hr ?hp (fun _ hk => hk) trivial (Below.refl _ _) (Nat.le_refl _) (by simp) ?_; (case hd => rfl); (case hg => rfl); (case hr => first | (go_simp; done) | (go_simp; rfl)); (case hp => exact (Reps.one (show Kd.M (Kd.int .i64) _ _ _ 0 [.int .i64 0] from rfl) (Reps.one (show Kd.M (Kd.int .i64) _ _ _ 0 [.int .i64 0] from rfl) (Reps.one (show Kd.M (Kd.int .i64) _ _ _ 0 [.int .i64 0] from rfl) (Reps.one (show Kd.M (Kd.int .i64) _ _ _ 3 [.int .i64 3] from rfl) (Reps.one (show Kd.M (Kd.int .i64) _ _ _ 7 [.int .i64 7] from rfl) (Reps.none _ _))))))); intro v187 w90 ho91 hb hg_ hnew_; clear hg_ hnew_; (first | rw [← Ny186.out] at ho91 | (simp only [Int.reduceToNat] at ho91; rw [← Ny186.out] at ho91)); replace HO148 := eS HO148 ho91 hb; have HO188 := am (Kd.R_lower (Kd.R_new' (Kd.R_new' (Kd.R_new' ho91 (Kd.R_lt (rP HO179))) (Kd.R_lt (rP HO182))) (Kd.R_lt (rP HO185))) (keep_size (w := w) (g := g) (row := none) (kB HK))); replace HO179 := eR HO179 ho91 hb; replace HO182 := eR HO182 ho91 hb; replace HO185 := eR HO185 ho91 hb; replace HI0 := am (IsS58.below (iB HI0) hb); replace BK144 := kb BK144 hb; replace BK151 := kb BK151 hb; replace HK := am (KeepBut.trans (kB HK) (KeepBut.of_below hb g none) (.inl rfl)); replace HB := sB hb; clear hb ho91) | ((with_reducible refine gate_dst (N := 43) rfl ?_); refine Kd.R_lit (Kd.int .i64) _ 3 ?hg (N := 43) ?hd (xs := ([2, 2, 2, 2, 2] : List Int)) (inner := [.int .i64 2, .int .i64 2, .int .i64 2, .int .i64 2, .int .i64 2]) (ok := fun _ => True) (okp := fun _ => True) ?hr ?hp (fun _ hk => hk) trivial (Below.refl _ _) (Nat.le_refl _) (by simp) ?_; (case hd => rfl); (case hg => rfl); (case hr => first | (go_simp; done) | (go_simp; rfl)); (case hp => exact (Reps.one (show Kd.M (Kd.int .i64) _ _ _ 2 [.int .i64 2] from rfl) (Reps.one (show Kd.M (Kd.int .i64) _ _ _ 2 [.int .i64 2] from rfl) (Reps.one (show Kd.M (Kd.int .i64) _ _ _ 2 [.int .i64 2] from rfl) (Reps.one (show Kd.M (Kd.int .i64) _ _ _ 2 [.int .i64 2] from rfl) (Reps.one (show Kd.M (Kd.int .i64) _ _ _ 2 [.int .i64 2] from rfl) (Reps.none _ _))))))); intro v190 w92 ho93 hb hg_ hnew_; clear hg_ hnew_; (first | rw [← Ny189.out] at ho93 | (simp only [Int.reduceToNat] at ho93; rw [← Ny189.out] at ho93)); replace HO148 := eS HO148 ho93 hb; have HO191 := am (Kd.R_lower (Kd.R_new' (Kd.R_new' (Kd.R_new' (Kd.R_new' ho93 (Kd.R_lt (rP HO179))) (Kd.R_lt (rP HO182))) (Kd.R_lt (rP HO185))) (Kd.R_lt (rP HO188))) (keep_size (w := w) (g := g) (row := none) (kB HK))); replace HO179 := eR HO179 ho93 hb; replace HO182 := eR HO182 ho93 hb; replace HO185 := eR HO185 ho93 hb; replace HO188 := eR HO188 ho93 hb; replace HI0 := am (IsS58.below (iB HI0) hb); replace BK144 := kb BK144 hb; replace BK151 := kb BK151 hb; replace HK := am (KeepBut.trans (kB HK) (KeepBut.of_below hb g none) (.inl rfl)); replace HB := sB hb; clear hb ho93; obtain ⟨Ao94, co94, eo94⟩ := Kd.R_slice HO179.out; subst eo94; obtain ⟨Ao95, co95, eo95⟩ := Kd.R_slice HO182.out; subst eo95; obtain ⟨Ao96, co96, eo96⟩ := Kd.R_slice HO185.out; subst eo96; obtain ⟨Ao97, co97, eo97⟩ := Kd.R_slice HO188.out; subst eo97; obtain ⟨Ao98, co98, eo98⟩ := Kd.R_slice HO191.out; subst eo98) | ((with_reducible refine gate_dst (N := 44) rfl ?_); refine Kd.S_lits (Kd.slice 3 (Kd.int .i64)) w.heap.size 29 ?hg (N := 44) ?hd (w0 := w92) (xs := ([y177, y180, y183, y186, y189] : List (List Int))) (inner := [.slice Ao94 y177.length co94, .slice Ao95 y180.length co95, .slice Ao96 y183.length co96, .slice Ao97 y186.length co97, .slice Ao98 y189.length co98]) (ok := (fun _ => True)) (fun j_ k_ => (j_ = 0 ∧ some k_ = (.slice Ao94 y177.length co94 : Value).ownBlock) ∨ (j_ = 1 ∧ some k_ = (.slice Ao95 y180.length co95 : Value).ownBlock) ∨ (j_ = 2 ∧ some k_ = (.slice Ao96 y183.length co96 : Value).ownBlock) ∨ (j_ = 3 ∧ some k_ = (.slice Ao97 y186.length co97 : Value).ownBlock) ∨ (j_ = 4 ∧ some k_ = (.slice Ao98 y189.length co98 : Value).ownBlock)) ?hr rfl ?hp ?hap (fun j_ k_ hk_ => (show (fun _ => True) k_ from (by rcases hk_ with ⟨_, e_⟩ | ⟨_, e_⟩ | ⟨_, e_⟩ | ⟨_, e_⟩ | ⟨_, e_⟩ <;> first | exact (by have h3_ := HO179.out.1 k_ e_.symm; exact trivial) | exact (by have h3_ := HO182.out.1 k_ e_.symm; exact trivial) | exact (by have h3_ := HO185.out.1 k_ e_.symm; exact trivial) | exact (by have h3_ := HO188.out.1 k_ e_.symm; exact trivial) | exact (by have h3_ := HO191.out.1 k_ e_.symm; exact trivial)))) ((show ∀ k_, w92.heap.size ≤ k_ → (fun _ => True) k_ from fun k_ hk => trivial) _ (Nat.le_refl _)) (Below.refl _ _) (keep_size (w := w) (g := g) (row := none) (kB HK)) (by simp) ?_; (case hd => rfl); (case hg => rfl); (case hr => first | (go_simp; done) | (go_simp; rfl)); (case hp => intro j_ x_ hx_; match j_, hx_ with | 0, hx_ => (injection hx_ with hx_; subst hx_; exact ⟨_, rfl, Kd.R_mono (Kd.R_tight rfl HO179.out) (fun k_ h_ => Or.inl (⟨rfl, h_⟩))⟩) | 1, hx_ => (injection hx_ with hx_; subst hx_; exact ⟨_, rfl, Kd.R_mono (Kd.R_tight rfl HO182.out) (fun k_ h_ => Or.inr (Or.inl (⟨rfl, h_⟩)))⟩) | 2, hx_ => (injection hx_ with hx_; subst hx_; exact ⟨_, rfl, Kd.R_mono (Kd.R_tight rfl HO185.out) (fun k_ h_ => Or.inr (Or.inr (Or.inl (⟨rfl, h_⟩))))⟩) | 3, hx_ => (injection hx_ with hx_; subst hx_; exact ⟨_, rfl, Kd.R_mono (Kd.R_tight rfl HO188.out) (fun k_ h_ => Or.inr (Or.inr (Or.inr (Or.inl (⟨rfl, h_⟩)))))⟩) | 4, hx_ => (injection hx_ with hx_; subst hx_; exact ⟨_, rfl, Kd.R_mono (Kd.R_tight rfl HO191.out) (fun k_ h_ => Or.inr (Or.inr (Or.inr (Or.inr (⟨rfl, h_⟩)))))⟩) | j_ + 5, hx_ => simp at hx_); (case hap => rintro i_ j_ k_ (⟨rfl, e1_⟩ | ⟨rfl, e1_⟩ | ⟨rfl, e1_⟩ | ⟨rfl, e1_⟩ | ⟨rfl, e1_⟩) (⟨rfl, e2_⟩ | ⟨rfl, e2_⟩ | ⟨rfl, e2_⟩ | ⟨rfl, e2_⟩ | ⟨rfl, e2_⟩) <;> first | rfl | (exact absurd e2_ ((HO179.out.1 k_ e1_.symm).1.1.1.2)) | (exact absurd e2_ ((HO179.out.1 k_ e1_.symm).1.1.2)) | (exact absurd e2_ ((HO179.out.1 k_ e1_.symm).1.2)) | (exact absurd e2_ ((HO179.out.1 k_ e1_.symm).2)) | (exact absurd e2_ ((HO182.out.1 k_ e1_.symm).1.1.1.2)) | (exact absurd e2_ ((HO182.out.1 k_ e1_.symm).1.1.2)) | (exact absurd e2_ ((HO182.out.1 k_ e1_.symm).1.2)) | (exact absurd e2_ ((HO182.out.1 k_ e1_.symm).2)) | (exact absurd e2_ ((HO185.out.1 k_ e1_.symm).1.1.1.2)) | (exact absurd e2_ ((HO185.out.1 k_ e1_.symm).1.1.2)) | (exact absurd e2_ ((HO185.out.1 k_ e1_.symm).1.2)) | (exact absurd e2_ ((HO185.out.1 k_ e1_.symm).2)) | (exact absurd e2_ ((HO188.out.1 k_ e1_.symm).1.1.1.2)) | (exact absurd e2_ ((HO188.out.1 k_ e1_.symm).1.1.2)) | (exact absurd e2_ ((HO188.out.1 k_ e1_.symm).1.2)) | (exact absurd e2_ ((HO188.out.1 k_ e1_.symm).2)) | (exact absurd e2_ ((HO191.out.1 k_ e1_.symm).1.1.1.2)) | (exact absurd e2_ ((HO191.out.1 k_ e1_.symm).1.1.2)) | (exact absurd e2_ ((HO191.out.1 k_ e1_.symm).1.2)) | (exact absurd e2_ ((HO191.out.1 k_ e1_.symm).2))); intro v193 w99 ho100 hb_ hg_ hnew_; have hb : Below w92.heap.size w92 w99 := ⟨hg_.os, hg_.tape, hg_.output, hg_.size, fun j_ hj_ => hg_.block j_ hj_ (by simp)⟩; clear hg_ hb_; (first | rw [← Ny192.out] at ho100 | (simp only [Int.reduceToNat] at ho100; rw [← Ny192.out] at ho100)); replace HO148 := am (Kd.S_elder' (rP HO148) (fun k_ e_ => by obtain ⟨b_, e2_, h2_⟩ := hnew_; first | (cases e2_.symm.trans e_; exact h2_) | (cases e2_.symm.trans e_.symm; exact h2_)) hb); have HO194 := am (ho100); replace HI0 := am (IsS58.below (iB HI0) hb); replace BK144 := kb BK144 hb; replace BK151 := kb BK151 hb; replace HK := am (KeepBut.trans (kB HK) (KeepBut.of_below hb g none) (.inl rfl)); replace HB := sB hb; clear HO179 HO182 HO185 HO188 HO191; clear hb ho100; obtain ⟨Ao101, co101, eo101⟩ := Kd.S_slice HO194.out; subst eo101; obtain ⟨hcz102_0, hcz102_1, hfz102_0, hfz102_1⟩ := cZ BK151; have hnb103 := NB144_0.out; have hnc103 := NB0_144.out; obtain ⟨hcz104_0, hcz104_1, hfz104_0, hfz104_1⟩ := cZ BK144))
           refine bodyPost_ret (results_cell_row rfl _ _ gb144 26 #[.int .i64 10, .slice Ao101 y192.length co101] (0, 0) _ rfl (by (with_reducible repeat (first | refine blk_drewN ?_ _ | refine blk_drew ?_ | refine blk_alloc ?_ _)); refine blk_put (cs := #[.int .i64 10, .slice none 0 0]) ?_ 1 _ rfl; (with_reducible repeat (first | refine blk_drewN ?_ _ | refine blk_drew ?_ | refine blk_alloc ?_ _)); refine blk_put (cs := #[.int .i64 0, .slice none 0 0]) ?_ 0 _ rfl; (with_reducible repeat (first | refine blk_drewN ?_ _ | refine blk_drew ?_ | refine blk_alloc ?_ _)); refine blk_far ?_ NB144_151.out _; (with_reducible repeat (first | refine blk_drewN ?_ _ | refine blk_drew ?_ | refine blk_alloc ?_ _)); refine blk_far ?_ NB144_151.out _; (with_reducible repeat (first | refine blk_drewN ?_ _ | refine blk_drew ?_ | refine blk_alloc ?_ _)); exact BK144.out) Try.underlying26 rfl (by kernel_rfl)) rfl ?_
           exact ⟨_, eW, by (with_reducible repeat (first | apply Kd.S_alloc | apply Kd.S_drewN | apply Kd.S_drew)); exact Kd.S_mono (Kd.S_far (p := ⟨gb144, 1, none⟩) (Kd.S_far (p := ⟨gb144, 0, none⟩) (Kd.S_far (p := ⟨gb151, 1, none⟩) (Kd.S_far (p := ⟨gb151, 0, none⟩) (Kd.S_types (Kd.S_types HO194.out BK151.out (by decide)) BK144.out (by decide)) (fun _ hk => hk.1.2) (.int .i64 10)) (fun _ hk => hk.1.2) (.slice Ao101 y192.length co101)) (fun _ hk => hk.2) (.int .i64 10)) (fun _ hk => hk.2) (.slice Ao101 y192.length co101)) (fun _ hk => trivial), iB HI0, bB, kB HK⟩
         · rw [if_neg c75] at H
           have c75b0 : (t152 == 4) = false := beq_eq_false_iff_ne.mpr c75
           have c75b1 : (t152 != 4) = true := bne_iff_ne.mpr c75
           simp only [Option.some.injEq, Prod.mk.injEq] at H
           obtain ⟨rfl, rfl, rfl, rfl⟩ := H
           go_enter Try.func55, Try.ntmps55
           go_wp2_with (first | ((with_reducible refine gate_dst (N := 2) rfl ?_); refine bE 2 #[.int .i64 0, .slice none 0 0] 26 ?_; intro gb144 hg w105 hbox hb; replace HB := sB hb; have BK144 := am (hbox); have GW144 := gK HK hg; have GE144 := gE HW0 GW144; replace HK := am (KeepBut.trans (kB HK) (KeepBut.of_below hb g none) (.inl rfl)); have NB0_144 := nI g HI0 hg; have NB144_0 := mI g HI0 hg; replace HI0 := am (IsS58.below (iB HI0) hb); clear hb hbox hg) | ((with_reducible refine gate_callee (f := 67) rfl ?_); refine gL 6 Try.func67 #[.pointer (some ⟨g, 0, none⟩)] ?_; (with_reducible refine (spec_l1Cur_sureStates.calls k g s0_0 s0_1 s0_2 t145 t146 t149 t150 w0 _ ?side1 ?side2 A2.out).mono ?_); (case side1 => exact iB HI0); (case side2 => exact bB); rintro e w106 ⟨v147, rfl, ho0, hi, hb, hk⟩; refine ⟨_, rfl, ?_⟩; replace BK144 := kh BK144 hk NB144_0; have HO148 := am (Kd.S_lower ho0 (keep_size (w := w) (g := g) (row := none) (kB HK))); replace HK := am (KeepBut.trans (kB HK) hk (.inl rfl)); replace HB := am (hb); replace HI0 := am (hi)) | ((with_reducible refine gate_dst (N := 3) rfl ?_); refine bE 3 #[.int .i64 0, .slice none 0 0] 26 ?_; intro gb151 hg w107 hbox hb; replace HO148 := lS HO148 hb; replace HB := sB hb; have BK151 := am (hbox); have GW151 := gK HK hg; have GE151 := gE HW0 GW151; replace HK := am (KeepBut.trans (kB HK) (KeepBut.of_below hb g none) (.inl rfl)); have NB144_151 := nK BK144 hg; have NB151_144 := mK BK144 hg; replace BK144 := kb BK144 hb; have NB0_151 := nI g HI0 hg; have NB151_0 := mI g HI0 hg; replace HI0 := am (IsS58.below (iB HI0) hb); clear hb hbox hg; have hnb108 := NB151_144.out; have hnc108 := NB144_151.out; have hnb109 := NB151_0.out; have hnc109 := NB0_151.out; obtain ⟨hcz110_0, hcz110_1, hfz110_0, hfz110_1⟩ := cZ BK151; obtain ⟨Ao111, co111, eo111⟩ := Kd.S_slice HO148.out; subst eo111) | ((with_reducible refine gate_callee (f := 35) rfl ?_); refine gL 8 Try.func35 #[.pointer (some ⟨g, 0, none⟩), .int .i64 18] ?_; (with_reducible refine (spec_l1Cur_pick.calls g s0_0 t149 t150 18 t152 t153 t154 w0 _ ?side1 ?side2 A3.out).mono ?_); (case side1 => exact iB HI0); (case side2 => exact bB); rintro e w112 ⟨rfl, hi, hb, hk⟩; refine ⟨_, rfl, ?_⟩; replace BK144 := am (KeepBut.blk hk (g' := gb144) (o := .cells #[.int .i64 0, .slice none 0 0] 26 (0, 0)) (by (with_reducible repeat (first | refine blk_drewN ?_ _ | refine blk_drew ?_ | refine blk_alloc ?_ _)); refine blk_far ?_ NB144_151.out _; (with_reducible repeat (first | refine blk_drewN ?_ _ | refine blk_drew ?_ | refine blk_alloc ?_ _)); refine blk_far ?_ NB144_151.out _; (with_reducible repeat (first | refine blk_drewN ?_ _ | refine blk_drew ?_ | refine blk_alloc ?_ _)); exact BK144.out) NB144_0.out (by simp)); replace HO148 := am (Kd.S_mono (Kd.S_keep (IsS58.apartS (show IsS58 w0 _ g s0_0 t149 t150 from iB HI0) (by (with_reducible repeat (first | apply Kd.S_alloc | apply Kd.S_drewN | apply Kd.S_drew)); exact (Kd.S_mono (Kd.S_far (p := ⟨gb151, 1, none⟩) (Kd.S_far (p := ⟨gb151, 0, none⟩) (Kd.S_types HO148.out BK151.out (by decide)) (fun _ hk => hk.2) (.int .i64 t145)) (fun _ hk => hk.2) (.slice Ao111 t146.length co111)) (fun _ h_ => h_.1))) (by decide)) hk (fun _ h => h.2)) (fun _ h => h.1)); replace BK151 := am (KeepBut.blk hk (g' := gb151) (o := .cells #[.int .i64 t145, .slice Ao111 t146.length co111] 26 (0, 0)) (by (with_reducible repeat (first | refine blk_drewN ?_ _ | refine blk_drew ?_ | refine blk_alloc ?_ _)); refine blk_put (cs := #[.int .i64 t145, .slice none 0 0]) ?_ 1 _ rfl; (with_reducible repeat (first | refine blk_drewN ?_ _ | refine blk_drew ?_ | refine blk_alloc ?_ _)); refine blk_put (cs := #[.int .i64 0, .slice none 0 0]) ?_ 0 _ rfl; (with_reducible repeat (first | refine blk_drewN ?_ _ | refine blk_drew ?_ | refine blk_alloc ?_ _)); exact BK151.out) NB151_0.out (by simp)); replace HK := am (KeepBut.trans (kB HK) hk (.inl rfl)); replace HB := am (hb); replace HI0 := am (hi); obtain ⟨hcz113_0, hcz113_1, hfz113_0, hfz113_1⟩ := cZ BK151; have hnb114 := NB144_0.out; have hnc114 := NB0_144.out; obtain ⟨hcz115_0, hcz115_1, hfz115_0, hfz115_1⟩ := cZ BK144))
           refine bodyPost_ret (results_cell_row rfl _ _ gb144 26 #[.int .i64 t145, .slice Ao111 t146.length co111] (0, 0) _ rfl (by (with_reducible repeat (first | refine blk_drewN ?_ _ | refine blk_drew ?_ | refine blk_alloc ?_ _)); refine blk_put (cs := #[.int .i64 t145, .slice none 0 0]) ?_ 1 _ rfl; (with_reducible repeat (first | refine blk_drewN ?_ _ | refine blk_drew ?_ | refine blk_alloc ?_ _)); refine blk_put (cs := #[.int .i64 0, .slice none 0 0]) ?_ 0 _ rfl; (with_reducible repeat (first | refine blk_drewN ?_ _ | refine blk_drew ?_ | refine blk_alloc ?_ _)); exact BK144.out) Try.underlying26 rfl (by kernel_rfl)) rfl ?_
           exact ⟨_, eW, by (with_reducible repeat (first | apply Kd.S_alloc | apply Kd.S_drewN | apply Kd.S_drew)); exact Kd.S_mono (Kd.S_far (p := ⟨gb144, 1, none⟩) (Kd.S_far (p := ⟨gb144, 0, none⟩) (Kd.S_types HO148.out BK144.out (by decide)) (fun _ hk => hk.2) (.int .i64 t145)) (fun _ hk => hk.2) (.slice Ao111 t146.length co111)) (fun _ hk => trivial), iB HI0, bB, kB HK⟩
def spec_l1Most.f (a0 : Int) (a1 : Int) : Option (Int) := if a0 > a1 then (some a0) else (some a1)
set_option maxHeartbeats 8000000 in
set_option maxRecDepth 100000 in
theorem spec_l1Most.calls (a0 : Int) (a1 : Int) (r : Int) (w : World) (h : spec_l1Most.f a0 a1 = some r) :
 Calls Try.prog 62 #[.int .i64 a0, .int .i64 a1] w fun e w' => e = .returned (.int .i64 r) ∧ Drawn0 w w' := by
 have H := h
 clear h
 unfold spec_l1Most.f at H
 by_cases c3 : a0 > a1
 · rw [if_pos c3] at H
   have c3b0 : decide (a1 < a0) = true := decide_eq_true c3
   clear c3
   obtain rfl := Option.some.inj H
   go_enter Try.func62, Try.ntmps62
   go_wp2
   go_ret
   exact ⟨sR, dW⟩
 · rw [if_neg c3] at H
   have c3b0 : decide (a1 < a0) = false := decide_eq_false c3
   clear c3
   obtain rfl := Option.some.inj H
   go_enter Try.func62, Try.ntmps62
   go_wp2
   go_ret
   exact ⟨sR, dW⟩
end Go.Proofs.Ytkkjnmnjbmfpaaa.PFnStatesStep
