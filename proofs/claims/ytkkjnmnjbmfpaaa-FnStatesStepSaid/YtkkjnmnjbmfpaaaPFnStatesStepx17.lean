-- written by a program of this session (the kit's print with turns of the session's own)
import Derived.Test.YtkkjnmnjbmfpaaaPFnStatesStepx0
import Derived.Test.YtkkjnmnjbmfpaaaHp
import Derived.Test.YtkkjnmnjbmfpaaaPFnStatesStepx4
import Derived.Test.YtkkjnmnjbmfpaaaPFnStatesStepx5
import Derived.Test.YtkkjnmnjbmfpaaaPFnStatesStepx16
namespace Go.Proofs.Ytkkjnmnjbmfpaaa.PFnStatesStep
open Go.RowKit Go.Proofs.YtkkjnmnjbmfpaaaW.PrintWords Go.Proofs.YtkkjnmnjbmfpaaaW.PrintLast Go.Proofs.YtkkjnmnjbmfpaaaW.PrintMore
attribute [local go_sem] Instr.field asAgg part max2_int min2_int max_two min_two max_three min_three max_four min_four
set_option linter.unusedVariables false
set_option linter.unusedSimpArgs false
mutual
def spec_RenameStates.j0 : Nat → List Int → Bool → Int → List (List Int) → Option (Int × (List (List Int)) × Bool)
 | 0, _, _, _, _ => none
 | k + 1, x1, x32, x606000, x606001 => if x32 = true then (some (0, ([] : List (List Int)), false)) else (spec_RenameStates.l0 k x1 (x606001.length : Int) 0 x606000 x606001 x606000 ([] : List (List Int)))
def spec_RenameStates.l0 : Nat → List Int → Int → Int → Int → List (List Int) → Int → List (List Int) → Option (Int × (List (List Int)) × Bool)
 | 0, _, _, _, _, _, _, _ => none
 | k + 1, x1, x39, x40, x606000, x606001, x610000, x610001 => if x40 < x39 then ((spec_l1Has.f k x1 x40).bind fun t610 => (if t610 = true then (if 0 ≤ (x606001.length : Int) then (if ((x606001.length : Int) : Int).toNat ≤ 35184372088832 then (if x610001.length < 5864062014805 then (spec_RenameStates.l0 k x1 x39 (wrap64 (x40 + 1)) x606000 x606001 x610000 (x610001 ++ [(List.replicate ((x606001.length : Int) : Int).toNat 0)])) else (none)) else (none)) else (none)) else (some (0, ([] : List (List Int)), false)))) else (spec_RenameStates.l1 k x1 x606001 (x606001.length : Int) 0 x610000 x610001)
def spec_RenameStates.l1 : Nat → List Int → List (List Int) → Int → Int → Int → List (List Int) → Option (Int × (List (List Int)) × Bool)
 | 0, _, _, _, _, _, _ => none
 | k + 1, x1, x59, x60, x61, x610000, x610001 => if x61 < x60 then (if 0 ≤ x61 then (if x61 < (x59.length : Int) then (if x61 < (x1.length : Int) then (if 0 ≤ (rd x1 x61) then (if (rd x1 x61) < (x610001.length : Int) then (spec_RenameStates.l2 k x1 x59 x60 x61 (rd_L2 x59 x61) ((rd_L2 x59 x61).length : Int) 0 x610000 x610001) else (none)) else (none)) else (none)) else (none)) else (none)) else (some (x610000, x610001, true))
def spec_RenameStates.l2 : Nat → List Int → List (List Int) → Int → Int → List Int → Int → Int → Int → List (List Int) → Option (Int × (List (List Int)) × Bool)
 | 0, _, _, _, _, _, _, _, _, _ => none
 | k + 1, x1, x59, x60, x61, x74, x75, x76, x610000, x610001 => if x76 < x75 then (if 0 ≤ x76 then (if x76 < (x74.length : Int) then (if x76 < (x1.length : Int) then (if 0 ≤ (rd x1 x61) then (if (rd x1 x61) < (x610001.length : Int) then (if 0 ≤ (rd x1 x76) then (if (rd x1 x76) < ((rd_L2 x610001 (rd x1 x61)).length : Int) then (spec_RenameStates.l2 k x1 x59 x60 x61 x74 x75 (wrap64 (x76 + 1)) x610000 (x610001.set ((rd x1 x61) : Int).toNat ((rd_L2 x610001 (rd x1 x61)).set ((rd x1 x76) : Int).toNat (rd x74 x76)))) else (none)) else (none)) else (none)) else (none)) else (none)) else (none)) else (none)) else (spec_RenameStates.l1 k x1 x59 x60 (wrap64 (x61 + 1)) x610000 x610001)
end
def spec_RenameStates.f (k : Nat) (a0_0 : Int) (l0_1 : List (List Int)) (l1 : List Int) : Option (Int × (List (List Int)) × Bool) := (spec_saGood.f k a0_0 l0_1).bind fun t607 => (if t607 = true then (if (l1.length : Int) = (l0_1.length : Int) then ((spec_l1All.f k l1 0 (wrap64 ((l0_1.length : Int) - 1))).bind fun t608 => (spec_RenameStates.j0 k l1 (!t608) a0_0 l0_1)) else (spec_RenameStates.j0 k l1 true a0_0 l0_1)) else (spec_RenameStates.j0 k l1 true a0_0 l0_1))
def spec_RenameStates.T9 : Bool × List (List Nat × List Nat) := (true, [([], []), ([0], [0]), ([], []), ([2], [2]), ([3], [3]), ([4, 4], [4]), ([5], [5]), ([1, 6], [1, 6]), ([0, 1, 2, 3, 4, 5, 6, 7], []), ([8, 7, 7, 0, 1, 2, 3, 4, 5, 6, 7], [7, 8])])
def spec_RenameStates.B9 : List Nat := [0, 1, 0, 4, 12, 28, 60, 127, 255, 511]
theorem spec_RenameStates.tab9 : rtab .any (opsOf Try.f30 9) = spec_RenameStates.T9 := by kernel_rfl
theorem spec_RenameStates.bits9 : waitsOk spec_RenameStates.T9.2 spec_RenameStates.B9 = true := by kernel_rfl
def spec_RenameStates.T14 : Bool × List (List Nat × List Nat) := (true, [([], []), ([0], [0]), ([], []), ([], []), ([2, 3], [2, 3]), ([4], [4]), ([1, 5], [1, 5]), ([6], [6]), ([7, 0, 1, 2, 3, 4, 5, 6, 7], [7])])
def spec_RenameStates.B14 : List Nat := [0, 1, 0, 0, 12, 28, 63, 127, 255]
theorem spec_RenameStates.tab14 : rtab .any (opsOf Try.f30 14) = spec_RenameStates.T14 := by kernel_rfl
theorem spec_RenameStates.bits14 : waitsOk spec_RenameStates.T14.2 spec_RenameStates.B14 = true := by kernel_rfl
set_option maxHeartbeats 8000000 in
set_option maxRecDepth 100000 in
theorem spec_RenameStates.calls (k : Nat) (a0_0 : Int) (A0_1 : Option Addr) (c0_1 : Nat) (l0_1 : List (List Int)) (A1 : Option Addr) (c1 : Nat) (l1 : List Int) (r1 : Int) (r2 : List (List Int)) (r3 : Bool) (w : World) (hr0_1 : Kd.C (Kd.slice 3 (Kd.int .i64)) w A0_1 l0_1.length l0_1) (hc0_1 : l0_1.length ≤ c0_1) (hr1 : Kd.C (Kd.int .i64) w A1 l1.length l1) (hc1 : l1.length ≤ c1) (h : spec_RenameStates.f k a0_0 l0_1 l1 = some (r1, r2, r3)) :
 Calls Try.prog 30 #[.agg #[.int .i64 a0_0, .slice A0_1 l0_1.length c0_1], .slice A1 l1.length c1] w fun e w' => ∃ v1_ : Value, e = .returned (.tuple #[.agg #[.int .i64 r1, v1_], .bool r3]) ∧ Kd.S (Kd.slice 3 (Kd.int .i64)) 29 w' w.heap.size (fun _ => True) v1_ r2 ∧ Below w.heap.size w w' := by
 have hu26 := Try.underlying26
 have HR0_1 := am hr0_1
 have HC0_1 := am hc0_1
 clear hr0_1 hc0_1
 have HR1 := am hr1
 have HC1 := am hc1
 clear hr1 hc1
 have HB := am (Below.refl w.heap.size w)
 have H := h
 clear h
 unfold spec_RenameStates.f at H
 have HC3 := am H
 clear H
 go_enter Try.func30, Try.ntmps30
 go_upto_region 1 with (first | ((with_reducible refine gate_dst (N := 2) rfl ?_); (try (refine gate_guard (by rfl) ?_; dsimp only)); refine bE 2 #[.int .i64 a0_0, .slice A0_1 l0_1.length c0_1] 26 ?_; intro gb605 hg w4 hbox hb; have BK605 := am (hbox); have GW605 := gW hg; have GE605 := gW hg; replace HB := sB hb; clear hb hbox hg) | ((with_reducible refine gate_dst (N := 4) rfl ?_); (try (refine gate_guard (by rfl) ?_; dsimp only)); refine bE 4 #[.int .i64 0, .slice none 0 0] 26 ?_; intro gb606 hg w5 hbox hb; have BK606 := am (hbox); have GW606 := gW hg; have GE606 := gW hg; replace HB := sB hb; have NB605_606 := nK BK605 hg; have NB606_605 := mK BK605 hg; replace BK605 := kb BK605 hb; clear hb hbox hg))
 (try simp only [Act.put, List.setIfInBounds_toArray, List.set_cons_zero, List.set_cons_succ])
 go_cut [32] (fun v32 wc => ∃ (kq : Nat) (x32_2 : Bool), v32 = .bool x32_2 ∧ Aside0 (spec_RenameStates.j0 kq l1 x32_2 a0_0 l0_1 = some (r1, r2, r3)) ∧ Aside0 (kq ≤ k) ∧ Aside0 (wc.heap[gb605]? = some (.cells #[.int .i64 a0_0, (.slice A0_1 l0_1.length c0_1)] 26 (0, 0))) ∧ Aside0 (wc.heap[gb606]? = some (.cells #[.int .i64 0, (.slice none 0 0)] 26 (0, 0))) ∧ Aside0 (Below w.heap.size w wc))
 case first =>
  have H := HC3.out
  clear HC3
  replace H := bnd H
  obtain ⟨t607, A6, H⟩ := H
  (try dsimp only at H)
  by_cases c7 : t607 = true
  · subst c7
    replace H := ifT H
    by_cases c8 : (l1.length : Int) = (l0_1.length : Int)
    · rw [if_pos c8] at H
      have c8b0 : ((l1.length : Int) == (l0_1.length : Int)) = true := beq_iff_eq.mpr c8
      have c8b1 : ((l1.length : Int) != (l0_1.length : Int)) = false := bne_eq_false_iff_eq.mpr c8
      have c8b2 : (l1.length == l0_1.length) = true := by first | simpa using c8 | (simp at c8 ⊢; omega)
      clear c8
      (first | rw [c8b0] | (simp only [i64_w, i32_w]; rw [c8b0]) | skip)
      replace H := bnd H
      obtain ⟨t608, A9, H⟩ := H
      (try dsimp only at H)
      have H' := am H
      clear H
      have hnb10 := NB605_606.out
      have hnc10 := NB606_605.out
      obtain ⟨hcz11_0, hcz11_1, hfz11_0, hfz11_1⟩ := cZ BK605
      go_wp2_with (first | ((with_reducible refine gate_callee (f := 47) rfl ?_); refine gL 14 Try.func47 #[.agg #[.int .i64 a0_0, .slice A0_1 l0_1.length c0_1]] ?_; (with_reducible refine (spec_saGood.calls k a0_0 _ _ l0_1 true _ ?side1 HC0_1.out A6.out).mono ?_); (case side1 => exact cH HR0_1); rintro e w12 ⟨rfl, hb⟩; refine ⟨_, rfl, ?_⟩; replace BK605 := kb BK605 hb; replace BK606 := kb BK606 hb; replace HB := sB hb; obtain ⟨hcz13_0, hcz13_1, hfz13_0, hfz13_1⟩ := cZ BK605) | (go_at_call 60; (with_reducible refine (spec_l1All.calls k _ _ l1 0 (wrap64 ((l0_1.length : Int) - 1)) t608 _ ?side1 HC1.out A9.out).mono ?_); (case side1 => exact cH HR1); rintro e w' ⟨rfl, ⟨nd, rfl⟩⟩))
      go_meet
      case rel => exact ⟨_, (!t608), sR, H', ⟨by first | omega | exact Nat.le_refl _⟩, ⟨bP BK605⟩, ⟨bP BK606⟩, ⟨bB⟩⟩
    · rw [if_neg c8] at H
      have c8b0 : ((l1.length : Int) == (l0_1.length : Int)) = false := beq_eq_false_iff_ne.mpr c8
      have c8b1 : ((l1.length : Int) != (l0_1.length : Int)) = true := bne_iff_ne.mpr c8
      have c8b2 : (l1.length == l0_1.length) = false := by first | simpa using c8 | (simp at c8 ⊢; omega)
      (first | rw [c8b0] | (simp only [i64_w, i32_w]; rw [c8b0]) | skip)
      have H' := am H
      clear H
      have hnb14 := NB605_606.out
      have hnc14 := NB606_605.out
      obtain ⟨hcz15_0, hcz15_1, hfz15_0, hfz15_1⟩ := cZ BK605
      go_wp2_with (first | ((with_reducible refine gate_callee (f := 47) rfl ?_); refine gL 14 Try.func47 #[.agg #[.int .i64 a0_0, .slice A0_1 l0_1.length c0_1]] ?_; (with_reducible refine (spec_saGood.calls k a0_0 _ _ l0_1 true _ ?side1 HC0_1.out A6.out).mono ?_); (case side1 => exact cH HR0_1); rintro e w16 ⟨rfl, hb⟩; refine ⟨_, rfl, ?_⟩; replace BK605 := kb BK605 hb; replace BK606 := kb BK606 hb; replace HB := sB hb; obtain ⟨hcz17_0, hcz17_1, hfz17_0, hfz17_1⟩ := cZ BK605))
      go_meet
      case rel => exact ⟨_, (true), sR, H', ⟨by first | omega | exact Nat.le_refl _⟩, ⟨bP BK605⟩, ⟨bP BK606⟩, ⟨bB⟩⟩
  · replace c7 := Bool.eq_false_iff.mpr c7
    subst c7
    replace H := ifF H
    have H' := am H
    clear H
    have hnb18 := NB605_606.out
    have hnc18 := NB606_605.out
    obtain ⟨hcz19_0, hcz19_1, hfz19_0, hfz19_1⟩ := cZ BK605
    go_wp2_with (first | ((with_reducible refine gate_callee (f := 47) rfl ?_); refine gL 14 Try.func47 #[.agg #[.int .i64 a0_0, .slice A0_1 l0_1.length c0_1]] ?_; (with_reducible refine (spec_saGood.calls k a0_0 _ _ l0_1 false _ ?side1 HC0_1.out A6.out).mono ?_); (case side1 => exact cH HR0_1); rintro e w20 ⟨rfl, hb⟩; refine ⟨_, rfl, ?_⟩; replace BK605 := kb BK605 hb; replace BK606 := kb BK606 hb; replace HB := sB hb))
    go_meet
    case rel => exact ⟨_, (true), sR, H', ⟨by first | omega | exact Nat.le_refl _⟩, ⟨bP BK605⟩, ⟨bP BK606⟩, ⟨bB⟩⟩
 case rest =>
  clear HC3
  obtain ⟨kq, x32_2, rfl, HA, HJ2, BK605, BK606, HB⟩ := hcut
  cases kq with
  | zero => exact absurd HA.out (by simp [spec_RenameStates.j0])
  | succ kj2 =>
   have H := HA.out
   clear HA
   simp only [spec_RenameStates.j0] at H
   by_cases c21 : x32_2 = true
   · subst c21
     replace H := ifT H
     simp only [Option.some.injEq, Prod.mk.injEq] at H
     obtain ⟨rfl, rfl, rfl⟩ := H
     have hnb22 := NB606_605.out
     have hnc22 := NB605_606.out
     obtain ⟨hcz23_0, hcz23_1, hfz23_0, hfz23_1⟩ := cZ BK606
     go_wp2
     refine bodyPost_ret (results_ct rfl _ _ gb606 26 #[.int .i64 0, .slice none 0 0] (0, 0) _ rfl (by (with_reducible repeat (first | refine blk_drewN ?_ _ | refine blk_drew ?_ | refine blk_alloc ?_ _)); refine blk_put (cs := #[.int .i64 0, .slice none 0 0]) ?_ 1 _ rfl; (with_reducible repeat (first | refine blk_drewN ?_ _ | refine blk_drew ?_ | refine blk_alloc ?_ _)); refine blk_put (cs := #[.int .i64 0, .slice none 0 0]) ?_ 0 _ rfl; (with_reducible repeat (first | refine blk_drewN ?_ _ | refine blk_drew ?_ | refine blk_alloc ?_ _)); exact BK606.out) Try.underlying26 rfl (by kernel_rfl)) rfl ?_
     exact ⟨_, eW, nL, bB⟩
   · replace c21 := Bool.eq_false_iff.mpr c21
     subst c21
     replace H := ifF H
     have H' := am H
     clear H
     have hnb24 := NB605_606.out
     have hnc24 := NB606_605.out
     obtain ⟨hcz25_0, hcz25_1, hfz25_0, hfz25_1⟩ := cZ BK605
     go_wp2_with (first | ((with_reducible refine gate_dst (N := 6) rfl ?_); (try (refine gate_guard (by rfl) ?_; dsimp only)); refine bE 6 #[.int .i64 0, .slice none 0 0] 26 ?_; intro gb609 hg w26 hbox hb; have BK609 := am (hbox); have GW609 := gW hg; have GE609 := gW hg; replace HB := sB hb; have NB605_609 := nK BK605 hg; have NB609_605 := mK BK605 hg; replace BK605 := kb BK605 hb; have NB606_609 := nK BK606 hg; have NB609_606 := mK BK606 hg; replace BK606 := kb BK606 hb; clear hb hbox hg; have hnb27 := NB609_605.out; have hnc27 := NB605_609.out; have hnb28 := NB609_606.out; have hnc28 := NB606_609.out; obtain ⟨hcz29_0, hcz29_1, hfz29_0, hfz29_1⟩ := cZ BK609; obtain ⟨hcz30_0, hcz30_1, hfz30_0, hfz30_1⟩ := cZ BK605))
     go_loopg [40] kj2 (fun kq v40 w' => ∃ (x40_2 : Int) (x607000_2 : Int) (x610001_2 : List (List Int)) (u610001 : Value), v40 = .int .i64 x40_2 ∧ Aside0 (spec_RenameStates.l0 kq l1 (l0_1.length : Int) x40_2 a0_0 l0_1 a0_0 x610001_2 = some (r1, r2, r3)) ∧ Aside0 (kq ≤ kj2) ∧ Aside0 (Kd.S (Kd.slice 3 (Kd.int .i64)) 29 w' w.heap.size (fun _ => True) u610001 x610001_2) ∧ Aside0 (w'.heap[gb605]? = some (.cells #[.int .i64 a0_0, (.slice A0_1 l0_1.length c0_1)] 26 (0, 0))) ∧ Aside0 (w'.heap[gb606]? = some (.cells #[.int .i64 x607000_2, (.slice none 0 0)] 26 (0, 0))) ∧ Aside0 (w'.heap[gb609]? = some (.cells #[.int .i64 a0_0, u610001] 26 (0, 0))) ∧ Aside0 (Below w.heap.size w w'))
     case atStart => exact ⟨(0), (0), (([] : List (List Int))), (.slice none 0 0), sR, H', ⟨Nat.le_refl _⟩, ⟨nL⟩, ⟨by (with_reducible repeat (first | refine blk_drewN ?_ _ | refine blk_drew ?_ | refine blk_alloc ?_ _)); refine blk_far ?_ NB605_609.out _; (with_reducible repeat (first | refine blk_drewN ?_ _ | refine blk_drew ?_ | refine blk_alloc ?_ _)); refine blk_far ?_ NB605_609.out _; (with_reducible repeat (first | refine blk_drewN ?_ _ | refine blk_drew ?_ | refine blk_alloc ?_ _)); exact BK605.out⟩, ⟨by (with_reducible repeat (first | refine blk_drewN ?_ _ | refine blk_drew ?_ | refine blk_alloc ?_ _)); refine blk_far ?_ NB606_609.out _; (with_reducible repeat (first | refine blk_drewN ?_ _ | refine blk_drew ?_ | refine blk_alloc ?_ _)); refine blk_far ?_ NB606_609.out _; (with_reducible repeat (first | refine blk_drewN ?_ _ | refine blk_drew ?_ | refine blk_alloc ?_ _)); exact BK606.out⟩, ⟨by (with_reducible repeat (first | refine blk_drewN ?_ _ | refine blk_drew ?_ | refine blk_alloc ?_ _)); refine blk_put (cs := #[.int .i64 a0_0, .slice none 0 0]) ?_ 1 _ rfl; (with_reducible repeat (first | refine blk_drewN ?_ _ | refine blk_drew ?_ | refine blk_alloc ?_ _)); refine blk_put (cs := #[.int .i64 0, .slice none 0 0]) ?_ 0 _ rfl; (with_reducible repeat (first | refine blk_drewN ?_ _ | refine blk_drew ?_ | refine blk_alloc ?_ _)); exact BK609.out⟩, ⟨bB⟩⟩
     case round =>
      clear H'
      obtain ⟨x40_2, x607000_2, x610001_2, u610001, rfl, HA, HK2, HO_610001, BK605, BK606, BK609, HB⟩ := hrel
      cases gk with
      | zero => exact absurd HA.out (by simp [spec_RenameStates.l0])
      | succ k2 =>
       have H := HA.out
       clear HA
       simp only [spec_RenameStates.l0] at H
       by_cases c31 : x40_2 < (l0_1.length : Int)
       · rw [if_pos c31] at H
         have c31b0 := decide_eq_true c31
         clear c31
         replace H := bnd H
         obtain ⟨t610, A32, H⟩ := H
         (try dsimp only at H)
         by_cases c33 : t610 = true
         · subst c33
           replace H := ifT H
           replace H := ifP H
           obtain ⟨c34, H⟩ := H
           have c34b0 := eq_true c34
           have c34b1 := decide_eq_true c34
           clear c34
           replace H := ifP H
           obtain ⟨c35, H⟩ := H
           have c35b0 := eq_true c35
           have c35b1 := decide_eq_true c35
           clear c35
           generalize hy611 : ((List.replicate ((l0_1.length : Int) : Int).toNat 0) : List Int) = y611 at H
           (try dsimp only [Option.bind_some] at H)
           have Ny611 := am hy611.symm
           clear hy611
           replace H := ifP H
           obtain ⟨c36, H⟩ := H
           have LMc36 := am c36
           clear c36
           generalize hy614 : ((x610001_2 ++ [y611]) : List (List Int)) = y614 at H
           (try dsimp only [Option.bind_some] at H)
           have Ny614 := am hy614.symm
           clear hy614
           have H' := am H
           clear H
           try go_wp2_with (first | ((with_reducible refine gate_callee (f := 61) rfl ?_); refine gL 45 Try.func61 #[.slice A1 l1.length c1, .int .i64 x40_2] ?_; (with_reducible refine (spec_l1Has.calls k2 _ _ l1 x40_2 true _ ?side1 HC1.out A32.out).mono ?_); (case side1 => exact cH HR1); rintro e w' ⟨rfl, ⟨nd, rfl⟩⟩; refine ⟨_, rfl, ?_⟩; (try (rw [drewN_self wr]; generalize hq_ : World.drewN wr _ = wr; replace HO_610001 : Aside0 (Kd.S (Kd.slice 3 (Kd.int .i64)) 29 wr w.heap.size (fun _ => True) u610001 x610001_2) := ⟨by rw [← hq_]; exact (rP HO_610001)⟩; replace BK605 : Aside0 (wr.heap[gb605]? = some (.cells #[.int .i64 a0_0, .slice A0_1 l0_1.length c0_1] 26 (0, 0))) := ⟨by rw [← hq_]; exact (bP BK605)⟩; replace BK606 : Aside0 (wr.heap[gb606]? = some (.cells #[.int .i64 x607000_2, .slice none 0 0] 26 (0, 0))) := ⟨by rw [← hq_]; exact (bP BK606)⟩; replace BK609 : Aside0 (wr.heap[gb609]? = some (.cells #[.int .i64 a0_0, u610001] 26 (0, 0))) := ⟨by rw [← hq_]; exact (bP BK609)⟩; replace HB : Aside0 (Below w.heap.size w wr) := ⟨by rw [← hq_]; exact bB⟩; clear hq_))))
           replace HO_610001 := am (Kd.S_drew HO_610001.out)
           replace BK605 := am (blk_drew BK605.out)
           replace BK606 := am (blk_drew BK606.out)
           replace BK609 := am (blk_drew BK609.out)
           replace HB := am (below_drew1 HB.out)
           refine start_ (n := 10) (S := fun w' => w'.cell? ⟨gb609, 0, none⟩ = some (.int .i64 a0_0) ∧ w'.cell? ⟨gb609, 1, none⟩ = some (u610001) ∧ w'.cell? ⟨gb605, 0, none⟩ = some (.int .i64 a0_0) ∧ w'.cell? ⟨gb605, 1, none⟩ = some (.slice A0_1 l0_1.length c0_1)) (ds := [9]) (bs [0, 10]) (by kernel_rfl) rfl rfl ⟨(blk_cell BK609.out 0).trans rfl, (blk_cell BK609.out 1).trans rfl, (blk_cell BK605.out 0).trans rfl, (blk_cell BK605.out 1).trans rfl⟩ (fun hHeld => ?_); refine with_tabW spec_RenameStates.tab9 spec_RenameStates.bits9 (fun HT_ HW_ => ?_)
           generalize wr.drew = w37 at HO_610001 BK605 BK606 BK609 HB hHeld ⊢
           refine pS 0 (some 48) (bs [1, 9]) ?_
           refine pS 2 (some 50) (bs [1, 1, 1, 7]) ?_
           refine tS 1 (some 49) (bs [3, 7]) ?_
           refine tS 3 (some 51) (bs [4, 6]) ?_
           refine pS 4 (some 52) (bs [5, 5]) ?_
           refine oS 5 (some 53) (bs [6, 4]) (fun K hK => ?_)
           refine Kd.R_make_step (Kd.int .i64) _ 3 (by rfl) (N := 53) rfl 29 _ _ rfl (l0_1.length : Int) rfl rfl Try.underlying29 (.int .i64 0) 8 info3 rfl (by decide) (by omega) 0 (ok := fun _ => True) (okp := fun _ => True) rfl (fun _ hk => hk) trivial (dT) (Nat.le_trans (Nat.mul_le_mul_right _ (dT : (l0_1.length : Int).toNat ≤ 35184372088832)) (by omega)) (Below.refl _ _) (Nat.le_refl _) ?_
           intro v612 w38 ho39 hb hg_ hnew_
           clear hg_ hnew_
           (first | rw [← Ny611.out] at ho39 | (simp only [Int.reduceToNat] at ho39; rw [← Ny611.out] at ho39))
           replace HO_610001 := eS HO_610001 ho39 hb
           have HO613 := am (Kd.R_lower ho39 (below_size bB))
           replace BK605 := kb BK605 hb
           replace BK606 := kb BK606 hb
           replace BK609 := kb BK609 hb
           replace HB := sB hb
           clear hb ho39
           obtain ⟨Ao41, co41, eo41⟩ := Kd.R_slice HO613.out
           (first | subst eo41 | (injection eo41 with f1_ f2_ f3_; have f4_ := f1_.symm; have f5_ := f3_.symm; clear f1_ f2_ f3_; subst f4_; subst f5_))
           refine hK.out _ _ ⟨(blk_cell BK609.out 0).trans rfl, (blk_cell BK609.out 1).trans rfl, (blk_cell BK605.out 0).trans rfl, (blk_cell BK605.out 1).trans rfl⟩ (fun hHeld => ?_)
           clear hK K
           refine nS 53 ?_
           refine oS 6 (some 54) (bs [7, 3]) (fun K hK => ?_)
           refine value_ (w1 := ?_) (v := ?_) (by rfl) rfl ?_ ?_
           rotate_left 2
           · go_simp
             constructor
             · rfl
             · rfl
           refine hK.out _ _ ⟨(blk_cell (blk_alloc BK609.out _) 0).trans rfl, (blk_cell (blk_alloc BK609.out _) 1).trans rfl, (blk_cell (blk_alloc BK605.out _) 0).trans rfl, (blk_cell (blk_alloc BK605.out _) 1).trans rfl⟩ (fun hHeld => ?_)
           clear hK K
           refine nS 54 ?_
           refine oS 7 (some 55) (bs [8, 2]) (fun K hK => ?_)
           refine Kd.S_append_step (Kd.slice 3 (Kd.int .i64)) (w0 := w) w.heap.size (by rfl) (.tmp 49) (.tmp 54) 24 29 (.slice none 0 0) 24 rfl Try.underlying24 info29 rfl (by decide) (by omega) u610001 x610001_2 y611 [.slice Ao41 y611.length co41] (fun _ => True) (fun k_ => some k_ = (.slice Ao41 y611.length co41 : Value).ownBlock) rfl rfl ?aP (fun k_ hk_ => ((Kd.R_mono (ok' := fun k_ => ((fun _ => True)) k_ ∧ some k_ ≠ (u610001 : Value).ownBlock) (Kd.R_apart' (HO613.out) (Kd.S_typed HO_610001.out) (by decide)) (fun k_ hk => ⟨trivial, hk.2⟩))).1 k_ hk_.symm) ?aF ?aO ?aB ?aS ?aL ?_
           (case aP => exact Kd.M_row (Kd.R_mono (Kd.R_tight rfl (Kd.R_mono (ok' := fun k_ => ((fun _ => True)) k_ ∧ some k_ ≠ (u610001 : Value).ownBlock) (Kd.R_apart' (HO613.out) (Kd.S_typed HO_610001.out) (by decide)) (fun k_ hk => ⟨trivial, hk.2⟩))) (fun _ h_ => h_)))
           (case aB => exact bB)
           (case aF => exact (fun _ _ => trivial))
           (case aO => exact (by (with_reducible repeat (first | apply Kd.S_alloc | apply Kd.S_drewN | apply Kd.S_drew)); exact Kd.S_mono HO_610001.out (fun k_ hk => ⟨trivial, fun e_ => hk.2 e_⟩)))
           (case aS => exact (below_size bB))
           (case aL => have := LMc36.out; omega)
           intro v615 w40 ho hb hg hat
           rw [← Ny614.out] at ho
           replace BK605 := (kg BK605 hg (Kd.S_ne HO_610001.out BK605.out (by decide)))
           replace BK606 := (kg BK606 hg (Kd.S_ne HO_610001.out BK606.out (by decide)))
           replace BK609 := (kg BK609 hg (Kd.S_ne HO_610001.out BK609.out (by decide)))
           replace HB := am (hb)
           have HO616 := am (ho)
           clear HO_610001 HO613
           clear ho hb hg hat
           obtain ⟨Ao42, co42, eo42⟩ := Kd.S_slice HO616.out
           (first | subst eo42 | (injection eo42 with f1_ f2_ f3_; have f4_ := f1_.symm; have f5_ := f3_.symm; clear f1_ f2_ f3_; subst f4_; subst f5_))
           refine hK.out _ _ ⟨(blk_cell BK609.out 0).trans rfl, (blk_cell BK609.out 1).trans rfl, (blk_cell BK605.out 0).trans rfl, (blk_cell BK605.out 1).trans rfl⟩ (fun hHeld => ?_)
           clear hK K
           refine nS 55 ?_
           refine pS 8 (some 56) (bs [9, 1]) ?_
           refine last_ (i := 9) (N := none) (bs [10]) rfl rfl (one_of HT_.out (by kernel_rfl)) (by decide) (fun K hK => ?_)
           have hs43 : w40.cell? ⟨gb609, 1, none⟩ = some (u610001) := (blk_cell BK609.out 1).trans rfl
           have hfs43 := blk_frozen BK609.out 1
           have hns43_0 := NB605_609.out
           have hns43_1 := NB606_609.out
           have hms43_0 := NB609_605.out
           have hms43_1 := NB609_606.out
           refine skip_ (w1 := ?_) (by rfl) rfl ?_ ?_
           rotate_left
           · go_simp
             rfl
           refine hK.out _ _ ?_
           clear hK K
           refine done_ (done_of HT_.out (by kernel_rfl)) ?_
           try go_wp2
           go_roundg k2
           case measure => have := HJ2.out; have := HK2.out; omega
           case rel => exact ⟨(wrap64 (x40_2 + 1)), (x607000_2), (y614), (.slice Ao42 y614.length co42), sR, H', ⟨by have := HJ2.out; have := HK2.out; omega⟩, ⟨by (with_reducible repeat (first | apply Kd.S_alloc | apply Kd.S_drewN | apply Kd.S_drew)); exact Kd.S_mono (Kd.S_far (p := ⟨gb609, 1, none⟩) (Kd.S_types HO616.out BK609.out (by decide)) (fun _ hk => hk.2) (.slice Ao42 y614.length co42)) (fun _ hk => trivial)⟩, ⟨by (with_reducible repeat (first | refine blk_drewN ?_ _ | refine blk_drew ?_ | refine blk_alloc ?_ _)); refine blk_far ?_ NB605_609.out _; (with_reducible repeat (first | refine blk_drewN ?_ _ | refine blk_drew ?_ | refine blk_alloc ?_ _)); exact BK605.out⟩, ⟨by (with_reducible repeat (first | refine blk_drewN ?_ _ | refine blk_drew ?_ | refine blk_alloc ?_ _)); refine blk_far ?_ NB606_609.out _; (with_reducible repeat (first | refine blk_drewN ?_ _ | refine blk_drew ?_ | refine blk_alloc ?_ _)); exact BK606.out⟩, ⟨by (with_reducible repeat (first | refine blk_drewN ?_ _ | refine blk_drew ?_ | refine blk_alloc ?_ _)); refine blk_put (cs := #[.int .i64 a0_0, u610001]) ?_ 1 _ rfl; (with_reducible repeat (first | refine blk_drewN ?_ _ | refine blk_drew ?_ | refine blk_alloc ?_ _)); exact BK609.out⟩, ⟨bB⟩⟩
         · replace c33 := Bool.eq_false_iff.mpr c33
           subst c33
           replace H := ifF H
           simp only [Option.some.injEq, Prod.mk.injEq] at H
           obtain ⟨rfl, rfl, rfl⟩ := H
           go_wp2_with (first | ((with_reducible refine gate_callee (f := 61) rfl ?_); refine gL 45 Try.func61 #[.slice A1 l1.length c1, .int .i64 x40_2] ?_; (with_reducible refine (spec_l1Has.calls k2 _ _ l1 x40_2 false _ ?side1 HC1.out A32.out).mono ?_); (case side1 => exact cH HR1); rintro e w' ⟨rfl, ⟨nd, rfl⟩⟩; refine ⟨_, rfl, ?_⟩; (try (rw [drewN_self wr]; generalize hq_ : World.drewN wr _ = wr; replace HO_610001 : Aside0 (Kd.S (Kd.slice 3 (Kd.int .i64)) 29 wr w.heap.size (fun _ => True) u610001 x610001_2) := ⟨by rw [← hq_]; exact (rP HO_610001)⟩; replace BK605 : Aside0 (wr.heap[gb605]? = some (.cells #[.int .i64 a0_0, .slice A0_1 l0_1.length c0_1] 26 (0, 0))) := ⟨by rw [← hq_]; exact (bP BK605)⟩; replace BK606 : Aside0 (wr.heap[gb606]? = some (.cells #[.int .i64 x607000_2, .slice none 0 0] 26 (0, 0))) := ⟨by rw [← hq_]; exact (bP BK606)⟩; replace BK609 : Aside0 (wr.heap[gb609]? = some (.cells #[.int .i64 a0_0, u610001] 26 (0, 0))) := ⟨by rw [← hq_]; exact (bP BK609)⟩; replace HB : Aside0 (Below w.heap.size w wr) := ⟨by rw [← hq_]; exact bB⟩; clear hq_)); have hnb44 := NB606_605.out; have hnc44 := NB605_606.out; have hnb45 := NB606_609.out; have hnc45 := NB609_606.out; obtain ⟨hcz46_0, hcz46_1, hfz46_0, hfz46_1⟩ := cZ BK606))
           refine bodyPost_ret (results_ct rfl _ _ gb606 26 #[.int .i64 0, .slice none 0 0] (0, 0) _ rfl (by (with_reducible repeat (first | refine blk_drewN ?_ _ | refine blk_drew ?_ | refine blk_alloc ?_ _)); refine blk_put (cs := #[.int .i64 0, .slice none 0 0]) ?_ 1 _ rfl; (with_reducible repeat (first | refine blk_drewN ?_ _ | refine blk_drew ?_ | refine blk_alloc ?_ _)); refine blk_put (cs := #[.int .i64 x607000_2, .slice none 0 0]) ?_ 0 _ rfl; (with_reducible repeat (first | refine blk_drewN ?_ _ | refine blk_drew ?_ | refine blk_alloc ?_ _)); exact BK606.out) Try.underlying26 rfl (by kernel_rfl)) rfl ?_
           exact ⟨_, eW, nL, bB⟩
       · rw [if_neg c31] at H
         have c31b0 := decide_eq_false c31
         clear c31
         have H' := am H
         clear H
         have hnb47 := NB605_606.out
         have hnc47 := NB606_605.out
         have hnb48 := NB605_609.out
         have hnc48 := NB609_605.out
         obtain ⟨hcz49_0, hcz49_1, hfz49_0, hfz49_1⟩ := cZ BK605
         go_wp2
         go_loopg [61] k2 (fun kq v61 w' => ∃ (x61_3 : Int) (x610001_3 : List (List Int)) (u610001 : Value), v61 = .int .i64 x61_3 ∧ Aside0 (spec_RenameStates.l1 kq l1 l0_1 (l0_1.length : Int) x61_3 a0_0 x610001_3 = some (r1, r2, r3)) ∧ Aside0 (kq ≤ k2) ∧ Aside0 (Kd.S (Kd.slice 3 (Kd.int .i64)) 29 w' w.heap.size (fun _ => True) u610001 x610001_3) ∧ Aside0 (w'.heap[gb605]? = some (.cells #[.int .i64 a0_0, (.slice A0_1 l0_1.length c0_1)] 26 (0, 0))) ∧ Aside0 (w'.heap[gb606]? = some (.cells #[.int .i64 x607000_2, (.slice none 0 0)] 26 (0, 0))) ∧ Aside0 (w'.heap[gb609]? = some (.cells #[.int .i64 a0_0, u610001] 26 (0, 0))) ∧ Aside0 (Below w.heap.size w w'))
         case atStart => exact ⟨(0), (x610001_2), (u610001), sR, H', ⟨Nat.le_refl _⟩, ⟨rP HO_610001⟩, ⟨bP BK605⟩, ⟨bP BK606⟩, ⟨bP BK609⟩, ⟨bB⟩⟩
         case round =>
          clear H'
          obtain ⟨x61_3, x610001_3, u610001, rfl, HA, HK3, HO_610001, BK605, BK606, BK609, HB⟩ := hrel
          cases gk with
          | zero => exact absurd HA.out (by simp [spec_RenameStates.l1])
          | succ k3 =>
           have H := HA.out
           clear HA
           simp only [spec_RenameStates.l1] at H
           by_cases c50 : x61_3 < (l0_1.length : Int)
           · rw [if_pos c50] at H
             have c50b0 := decide_eq_true c50
             clear c50
             replace H := ifP H
             obtain ⟨c51, H⟩ := H
             have c51b0 := decide_eq_true c51
             clear c51
             replace H := ifP H
             obtain ⟨c52, H⟩ := H
             have c52b0 := decide_eq_true c52
             clear c52
             replace H := ifP H
             obtain ⟨c53, H⟩ := H
             have c53b0 := decide_eq_true c53
             clear c53
             replace H := ifP H
             obtain ⟨c54, H⟩ := H
             have c54b0 := decide_eq_true c54
             clear c54
             replace H := ifP H
             obtain ⟨c55, H⟩ := H
             have c55b0 := decide_eq_true c55
             clear c55
             have H' := am H
             clear H
             have p617 : 0 ≤ (x61_3 : Int) := dT
             have q617 : x61_3 < (l0_1.length : Int) := dT
             obtain ⟨ad617, A617_0, c617_0, e617, hx617_0, hl617_0, hi617_0⟩ := at_L2 HR0_1.out x61_3 p617 q617
             cases e617
             replace hx617_0 := (HB.out.cell (World.block_lt_of_cell? w _ hx617_0)).trans hx617_0
             have HR617_0 := am hi617_0
             have HC617_0 := am hl617_0
             clear hi617_0 hl617_0
             replace p617 := eq_true p617
             replace q617 := eq_true q617
             try go_wp2
             replace HO_610001 := am (Kd.S_drew HO_610001.out)
             replace BK605 := am (blk_drew BK605.out)
             replace BK606 := am (blk_drew BK606.out)
             replace BK609 := am (blk_drew BK609.out)
             replace HB := am (below_drew1 HB.out)
             have p618 : 0 ≤ (x61_3 : Int) := dT
             have q618 : x61_3 < (l1.length : Int) := dT
             obtain ⟨ad618, e618, hx618_0⟩ := Kd.at_int HR1.out x61_3 p618 q618
             have hw618_0 := hx618_0
             cases e618
             replace hx618_0 := (HB.out.cell (World.block_lt_of_cell? w _ hx618_0)).trans hx618_0
             replace p618 := eq_true p618
             replace q618 := eq_true q618
             obtain ⟨Ao57, co57, eo57⟩ := Kd.S_slice HO_610001.out
             (first | subst eo57 | (injection eo57 with f1_ f2_ f3_; have f4_ := f1_.symm; have f5_ := f3_.symm; clear f1_ f2_ f3_; subst f4_; subst f5_))
             have p619 : 0 ≤ ((rd l1 x61_3) : Int) := dT
             have q619 : (rd l1 x61_3) < (x610001_3.length : Int) := dT
             obtain ⟨ad619, A619_0, c619_0, e619, hx619_0, hl619_0, hi619_0⟩ := at_L2 (Kd.S_reads' HO_610001.out).2.2 (rd l1 x61_3) p619 q619
             cases e619
             obtain ⟨ce619, hce619, hMe619, hcc619⟩ := Kd.S_get HO_610001.out [] (rd l1 x61_3) p619 (by first | exact q619 | exact dT | (have e_ := (Kd.S_reads' HO_610001.out).1; omega))
             obtain ⟨ve619_0, rfl, ge619_0⟩ := hMe619
             have hv619_0 := hcc619 0 _ rfl
             rw [Nat.add_zero, show ((Kd.slice 3 (Kd.int .i64))).sz = 1 from rfl, Nat.mul_one] at hv619_0
             replace hv619_0 := Option.some.inj (hv619_0.symm.trans hx619_0)
             rw [hv619_0] at ge619_0
             have HL619_0 := am (show Kd.R (Kd.int .i64) 3 _ _ _ _ (rd_L2 x610001_3 (rd l1 x61_3)) from ge619_0)
             clear hv619_0 ge619_0
             have HX619_0 := am hx619_0
             clear hcc619 hce619
             have HR619_0 := am hi619_0
             have HC619_0 := am hl619_0
             clear hi619_0 hl619_0
             replace p619 := eq_true p619
             replace q619 := eq_true q619
             refine start_ (n := 9) (S := fun w' => w'.cell? ⟨gb609, 0, none⟩ = some (.int .i64 a0_0) ∧ w'.cell? ⟨gb609, 1, none⟩ = some (.slice (some ad619) x610001_3.length co57) ∧ w'.cell? (ad618.add (x61_3).toNat) = some (.int .i64 (rd l1 x61_3)) ∧ w'.cell? (ad619.add ((rd l1 x61_3)).toNat) = some (.slice A619_0 (rd_L2 x610001_3 (rd l1 x61_3)).length c619_0)) (ds := []) (bs [0, 9]) (by kernel_rfl) rfl rfl ⟨(blk_cell BK609.out 0).trans rfl, (blk_cell BK609.out 1).trans rfl, ((HB.out.cell (World.block_lt_of_cell? w _ hw618_0)).trans hw618_0), hx619_0⟩ (fun hHeld => ?_); refine with_tabW spec_RenameStates.tab14 spec_RenameStates.bits14 (fun HT_ HW_ => ?_)
             generalize wr.drew = w56 at HO_610001 BK605 BK606 BK609 HB HL619_0 HR619_0 HX619_0 hx618_0 hx619_0 hHeld ⊢
             refine pS 0 (some 66) (bs [1, 8]) ?_
             refine pS 2 (some 68) (bs [1, 1, 1, 6]) ?_
             refine pS 3 (some 69) (bs [1, 1, 2, 5]) ?_
             refine pS 4 (some 70) (bs [1, 1, 3, 4]) ?_
             refine tS 1 (some 67) (bs [5, 4]) ?_
             refine tS 5 (some 71) (bs [6, 3]) ?_
             refine pS 6 (some 72) (bs [7, 2]) ?_
             refine tS 7 (some 73) (bs [8, 1]) ?_
             refine pS 8 (some 10) (bs [9]) ?_
             refine done_ (done_of HT_.out (by kernel_rfl)) ?_
             try go_wp2
             go_loopg [76] k3 (fun kq v76 w' => ∃ (x76_4 : Int) (x610001_4 : List (List Int)) (u610001 : Value), v76 = .int .i64 x76_4 ∧ Aside0 (spec_RenameStates.l2 kq l1 l0_1 (l0_1.length : Int) x61_3 (rd_L2 l0_1 x61_3) ((rd_L2 l0_1 x61_3).length : Int) x76_4 a0_0 x610001_4 = some (r1, r2, r3)) ∧ Aside0 (kq ≤ k3) ∧ Aside0 (Kd.S (Kd.slice 3 (Kd.int .i64)) 29 w' w.heap.size (fun _ => True) u610001 x610001_4) ∧ Aside0 (w'.heap[gb605]? = some (.cells #[.int .i64 a0_0, (.slice (some ad617) l0_1.length c0_1)] 26 (0, 0))) ∧ Aside0 (w'.heap[gb606]? = some (.cells #[.int .i64 x607000_2, (.slice none 0 0)] 26 (0, 0))) ∧ Aside0 (w'.heap[gb609]? = some (.cells #[.int .i64 a0_0, u610001] 26 (0, 0))) ∧ Aside0 (Below w.heap.size w w') ∧ Aside0 (∀ (ad_ : Addr) (n_ c_ : Nat), u610001 = .slice (some ad_) n_ c_ → w'.cell? (ad_.add ((rd l1 x61_3)).toNat) = some (.slice A619_0 (rd_L2 x610001_3 (rd l1 x61_3)).length c619_0)))
             case atStart => exact ⟨(0), (x610001_3), (.slice (some ad619) x610001_3.length co57), sR, H', ⟨Nat.le_refl _⟩, ⟨rP HO_610001⟩, ⟨bP BK605⟩, ⟨bP BK606⟩, ⟨bP BK609⟩, ⟨bB⟩, ⟨fun ad_ n_ c_ e_ => by injection e_ with e1_ e2_ e3_; injection e1_ with e1_; subst e1_; exact HX619_0.out⟩⟩
             case round =>
              clear H'
              obtain ⟨x76_4, x610001_4, u610001, rfl, HA, HK4, HO_610001, BK605, BK606, BK609, HB, HAL⟩ := hrel
              cases gk with
              | zero => exact absurd HA.out (by simp [spec_RenameStates.l2])
              | succ k4 =>
               have H := HA.out
               clear HA
               simp only [spec_RenameStates.l2] at H
               by_cases c58 : x76_4 < ((rd_L2 l0_1 x61_3).length : Int)
               · rw [if_pos c58] at H
                 have c58b0 := decide_eq_true c58
                 clear c58
                 replace H := ifP H
                 obtain ⟨c59, H⟩ := H
                 have c59b0 := decide_eq_true c59
                 clear c59
                 replace H := ifP H
                 obtain ⟨c60, H⟩ := H
                 have c60b0 := decide_eq_true c60
                 clear c60
                 replace H := ifP H
                 obtain ⟨c61, H⟩ := H
                 have c61b0 := decide_eq_true c61
                 clear c61
                 replace H := ifP H
                 obtain ⟨c62, H⟩ := H
                 have c62b0 := decide_eq_true c62
                 clear c62
                 replace H := ifP H
                 obtain ⟨c63, H⟩ := H
                 have c63b0 := decide_eq_true c63
                 clear c63
                 replace H := ifP H
                 obtain ⟨c64, H⟩ := H
                 have c64b0 := decide_eq_true c64
                 clear c64
                 replace H := ifP H
                 obtain ⟨c65, H⟩ := H
                 have c65b0 := decide_eq_true c65
                 clear c65
                 generalize hy623 : (((rd_L2 x610001_4 (rd l1 x61_3)).set ((rd l1 x76_4) : Int).toNat (rd (rd_L2 l0_1 x61_3) x76_4)) : List Int) = y623 at H
                 (try dsimp only [Option.bind_some] at H)
                 have Ny623 := am hy623.symm
                 clear hy623
                 generalize hy625 : ((x610001_4.set ((rd l1 x61_3) : Int).toNat y623) : List (List Int)) = y625 at H
                 (try dsimp only [Option.bind_some] at H)
                 have Ny625 := am hy625.symm
                 clear hy625
                 have H' := am H
                 clear H
                 have p620 : 0 ≤ (x76_4 : Int) := dT
                 have q620 : x76_4 < ((rd_L2 l0_1 x61_3).length : Int) := dT
                 obtain ⟨ad620, e620, hx620_0⟩ := Kd.at_int HR617_0.out x76_4 p620 q620
                 cases e620
                 replace hx620_0 := (HB.out.cell (World.block_lt_of_cell? w _ hx620_0)).trans hx620_0
                 replace p620 := eq_true p620
                 replace q620 := eq_true q620
                 have p621 : 0 ≤ (x76_4 : Int) := dT
                 have q621 : x76_4 < (l1.length : Int) := dT
                 obtain ⟨ad621, e621, hx621_0⟩ := Kd.at_int HR1.out x76_4 p621 q621
                 obtain rfl : ad618 = ad621 := (by injection e621)
                 replace hx621_0 := (HB.out.cell (World.block_lt_of_cell? w _ hx621_0)).trans hx621_0
                 replace p621 := eq_true p621
                 replace q621 := eq_true q621
                 obtain ⟨Ao67, co67, eo67⟩ := Kd.S_slice HO_610001.out
                 subst eo67
                 have p622 : 0 ≤ ((rd l1 x61_3) : Int) := dT
                 have q622 : (rd l1 x61_3) < (x610001_4.length : Int) := dT
                 obtain ⟨ad622, A622_0, c622_0, e622, hx622_0, hl622_0, hi622_0⟩ := at_L2 (Kd.S_reads' HO_610001.out).2.2 (rd l1 x61_3) p622 q622
                 cases e622
                 obtain ⟨ce622, hce622, hMe622, hcc622⟩ := Kd.S_get HO_610001.out [] (rd l1 x61_3) p622 (by first | exact q622 | exact dT | (have e_ := (Kd.S_reads' HO_610001.out).1; omega))
                 obtain ⟨ve622_0, rfl, ge622_0⟩ := hMe622
                 have hv622_0 := hcc622 0 _ rfl
                 rw [Nat.add_zero, show ((Kd.slice 3 (Kd.int .i64))).sz = 1 from rfl, Nat.mul_one] at hv622_0
                 replace hv622_0 := Option.some.inj (hv622_0.symm.trans hx622_0)
                 rw [hv622_0] at ge622_0
                 have HL622_0 := am (show Kd.R (Kd.int .i64) 3 _ _ _ _ (rd_L2 x610001_4 (rd l1 x61_3)) from ge622_0)
                 clear hv622_0 ge622_0
                 have HX622_0 := am hx622_0
                 have ea_ := (HAL.out ad622 _ _ rfl).symm.trans HX622_0.out
                 clear HAL
                 injection ea_ with ea_
                 injection ea_ with e1_ elen_ e3_
                 replace e1_ := e1_.symm
                 replace e3_ := e3_.symm
                 subst e1_
                 subst e3_
                 clear hcc622 hce622
                 have HR622_0 := am hi622_0
                 have HC622_0 := am hl622_0
                 clear hi622_0 hl622_0
                 replace p622 := eq_true p622
                 replace q622 := eq_true q622
                 have p66 : 0 ≤ ((rd l1 x76_4) : Int) := dT
                 have q66 : ((rd l1 x76_4) : Int) < (((rd_L2 x610001_4 (rd l1 x61_3)).length : Int) : Int) := dT
                 have q66n : ((rd l1 x76_4) : Int) < ((((rd_L2 x610001_3 (rd l1 x61_3))).length : Int) : Int) := (by rw [elen_]; exact q66)
                 have c65b1 : decide ((rd l1 x76_4) < (((rd_L2 x610001_3 (rd l1 x61_3))).length : Int)) = true := decide_eq_true q66n
                 replace q66n := eq_true q66n
                 have ELEN := am elen_
                 clear elen_
                 obtain ⟨go66, co66, eo66, gb66, gl66, cl66, HG66⟩ := Kd.R_form HL622_0.out (by omega)
                 (first | cases eo66 | (injection eo66 with ea_ en_ ec_; (first | subst ea_ | (injection ea_ with ea_; subst ea_)); subst ec_; clear en_))
                 have GB66 := am gb66
                 have GG66 := am HG66
                 clear gb66 gl66 HG66
                 obtain ⟨hx66_0, hf66_0⟩ := Kd.R_celln 0 HL622_0.out ((rd l1 x76_4) : Int) p66 q66
                 replace p66 := eq_true p66
                 replace q66 := eq_true q66
                 have hq68 : ((rd l1 x61_3) : Int) < (x610001_4.length : Int) := (by have h_ : ((rd l1 x61_3) : Int) < ((x610001_4.length : Int) : Int) := dT; first | exact h_ | (have e_ := (Kd.S_reads' HO_610001.out).1; omega) | simpa only [List.length_set, List.length_set] using h_)
                 obtain ⟨oki68, ce68, hcl68, hM68, hcc68, hok68, hbk68⟩ := Kd.S_borrow HO_610001.out [] ((rd l1 x61_3) : Int) (dT) hq68
                 obtain ⟨ve68_0, rfl, ge68_0⟩ := hM68
                 have hv68 := hcc68 0 _ rfl
                 rw [Nat.add_zero, show ((Kd.slice 3 (Kd.int .i64))).sz = 1 from rfl, Nat.mul_one] at hv68
                 replace hv68 := Option.some.inj (hv68.symm.trans HX622_0.out)
                 subst hv68
                 clear hcc68 hcl68
                 replace ge68_0 := (show Kd.R (Kd.int .i64) 3 _ _ _ _ (rd_L2 x610001_4 (rd l1 x61_3)) from ge68_0)
                 have HP68 := Kd.R_putg ge68_0 ((rd l1 x76_4) : Int) (rd (rd_L2 l0_1 x61_3) x76_4)
                 have HFAR := am (show some (ad622.add ((rd l1 x61_3)).toNat).block ≠ some go66 from fun he_ => (hok68 go66 (ge68_0.1 _ rfl)).2 (by rw [← he_]; unfold Addr.add; split <;> simp [Value.ownBlock]))
                 go_wp2_with (first | ((with_reducible refine gate_store (t := 3) (p := 87) rfl ?_); refine store_event (t := 3) (p := 87) (v := ?vo_w69) (w1 := (wr.setCell ⟨go66, ((rd l1 x76_4) : Int).toNat, none⟩ (.int .i64 (rd (rd_L2 l0_1 x61_3) x76_4)))) ?hg ?ho ?hn ?hr ?_; (case ho => rfl); (case hg => rfl); (case hn => rfl); (case hr => first | (go_simp; done) | (go_simp; rfl)); intro w69 hw; have hg : wr.grownBy w69 (some go66) := (by rw [hw]; exact HP68.2); have hz_ : Kd.R (Kd.int .i64) 3 w69 w.heap.size oki68 (.slice (some ⟨go66, 0, none⟩) (rd_L2 x610001_4 (rd l1 x61_3)).length c622_0) y623 := (by rw [hw, Ny623.out]; exact HP68.1); have hp_ : Kd.S (Kd.slice 3 (Kd.int .i64)) 29 w69 w.heap.size (fun _ => True) (.slice (some ad622) x610001_4.length co67) y625 := (by rw [Ny625.out]; exact hbk68 hg (fun k_ e_ => by injection e_ with e_; subst e_; exact ge68_0.1 _ rfl) (Kd.M_row hz_)); have hm_ := Kd.R_mono hz_ hok68; clear HP68 hbk68; replace HO_610001 := am (hp_); replace BK605 := (kg BK605 hg (Kd.R_ne HL622_0.out BK605.out (by decide))); replace BK606 := (kg BK606 hg (Kd.R_ne HL622_0.out BK606.out (by decide))); replace BK609 := (kg BK609 hg (Kd.R_ne HL622_0.out BK609.out (by decide))); replace HB := am ((by rw [hw]; exact below_set (HB.out) GB66.out : Below w.heap.size w w69)); have HL626 := am (hm_); have HC624 := am ((Kd.R_reads' hm_).2.1); clear HL622_0; have HAL2 := am ((World.grownBy.cell_far hg (ad622.add ((rd l1 x61_3)).toNat) (World.block_lt_of_cell? _ _ HX622_0.out) HFAR.out).trans HX622_0.out); clear hg hw hp_ hz_ hm_ hok68))
                 go_roundg k4
                 case measure => have := HJ2.out; have := HK2.out; have := HK3.out; have := HK4.out; omega
                 case rel => exact ⟨(wrap64 (x76_4 + 1)), (y625), (.slice (some ad622) x610001_4.length co67), sR, H', ⟨by have := HJ2.out; have := HK2.out; have := HK3.out; have := HK4.out; omega⟩, ⟨rP HO_610001⟩, ⟨bP BK605⟩, ⟨bP BK606⟩, ⟨bP BK609⟩, ⟨bB⟩, ⟨fun ad_ n_ c_ e_ => by injection e_ with e1_ e2_ e3_; injection e1_ with e1_; subst e1_; rw [ELEN.out]; exact HAL2.out⟩⟩
               · rw [if_neg c58] at H
                 have c58b0 := decide_eq_false c58
                 clear c58
                 have H' := am H
                 clear H
                 go_wp2
                 go_roundg k4
                 case measure => have := HJ2.out; have := HK2.out; have := HK3.out; have := HK4.out; omega
                 case rel => exact ⟨(wrap64 (x61_3 + 1)), (x610001_4), (u610001), sR, H', ⟨by have := HJ2.out; have := HK2.out; have := HK3.out; have := HK4.out; omega⟩, ⟨rP HO_610001⟩, ⟨bP BK605⟩, ⟨bP BK606⟩, ⟨bP BK609⟩, ⟨bB⟩⟩
           · rw [if_neg c50] at H
             have c50b0 := decide_eq_false c50
             clear c50
             simp only [Option.some.injEq, Prod.mk.injEq] at H
             obtain ⟨rfl, rfl, rfl⟩ := H
             have hnb70 := NB609_605.out
             have hnc70 := NB605_609.out
             have hnb71 := NB609_606.out
             have hnc71 := NB606_609.out
             obtain ⟨hcz72_0, hcz72_1, hfz72_0, hfz72_1⟩ := cZ BK609
             have hnb73 := NB606_605.out
             have hnc73 := NB605_606.out
             obtain ⟨hcz74_0, hcz74_1, hfz74_0, hfz74_1⟩ := cZ BK606
             obtain ⟨Ao75, co75, eo75⟩ := Kd.S_slice HO_610001.out
             subst eo75
             go_wp2
             refine bodyPost_ret (results_ct rfl _ _ gb606 26 #[.int .i64 a0_0, .slice Ao75 x610001_3.length co75] (0, 0) _ rfl (by (with_reducible repeat (first | refine blk_drewN ?_ _ | refine blk_drew ?_ | refine blk_alloc ?_ _)); refine blk_put (cs := #[.int .i64 a0_0, .slice none 0 0]) ?_ 1 _ rfl; (with_reducible repeat (first | refine blk_drewN ?_ _ | refine blk_drew ?_ | refine blk_alloc ?_ _)); refine blk_put (cs := #[.int .i64 x607000_2, .slice none 0 0]) ?_ 0 _ rfl; (with_reducible repeat (first | refine blk_drewN ?_ _ | refine blk_drew ?_ | refine blk_alloc ?_ _)); exact BK606.out) Try.underlying26 rfl (by kernel_rfl)) rfl ?_
             exact ⟨_, eW, by (with_reducible repeat (first | apply Kd.S_alloc | apply Kd.S_drewN | apply Kd.S_drew)); exact Kd.S_mono (Kd.S_far (p := ⟨gb606, 1, none⟩) (Kd.S_far (p := ⟨gb606, 0, none⟩) (Kd.S_types HO_610001.out BK606.out (by decide)) (fun _ hk => hk.2) (.int .i64 a0_0)) (fun _ hk => hk.2) (.slice Ao75 x610001_3.length co75)) (fun _ hk => trivial), bB⟩
end Go.Proofs.Ytkkjnmnjbmfpaaa.PFnStatesStep
