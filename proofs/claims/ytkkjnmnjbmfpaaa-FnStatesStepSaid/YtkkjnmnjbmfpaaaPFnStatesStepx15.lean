-- written by a program of this session (the kit's print with turns of the session's own)
import Derived.Test.YtkkjnmnjbmfpaaaPFnStatesStepx0
import Derived.Test.YtkkjnmnjbmfpaaaHp
import Derived.Test.YtkkjnmnjbmfpaaaPFnStatesStepx3
import Derived.Test.YtkkjnmnjbmfpaaaPFnStatesStepx14
namespace Go.Proofs.Ytkkjnmnjbmfpaaa.PFnStatesStep
open Go.RowKit Go.Proofs.YtkkjnmnjbmfpaaaW.PrintWords Go.Proofs.YtkkjnmnjbmfpaaaW.PrintLast Go.Proofs.YtkkjnmnjbmfpaaaW.PrintMore
attribute [local go_sem] Instr.field asAgg part max2_int min2_int max_two min_two max_three min_three max_four min_four
set_option linter.unusedVariables false
set_option linter.unusedSimpArgs false
mutual
def impl_RenameStates.j0 : Nat → List Int → Bool → Int → List (List Int) → Option (Int × (List (List Int)) × Bool)
 | 0, _, _, _, _ => none
 | k + 1, x1, x23, x586000, x586001 => if x23 = true then (some (0, ([] : List (List Int)), false)) else (impl_RenameStates.l0 k x1 (x1.length : Int) 0 x586000 x586001)
def impl_RenameStates.l0 : Nat → List Int → Int → Int → Int → List (List Int) → Option (Int × (List (List Int)) × Bool)
 | 0, _, _, _, _, _ => none
 | k + 1, x1, x26, x27, x586000, x586001 => if x27 < x26 then ((slices_Contains_int_int.f k x1 x27).bind fun t588 => (if t588 = true then (impl_RenameStates.l0 k x1 x26 (wrap64 (x27 + 1)) x586000 x586001) else (some (0, ([] : List (List Int)), false)))) else (impl_RenameStates.l1 k x1 (x1.length : Int) 0 x586000 x586001 x586000 ([] : List (List Int)))
def impl_RenameStates.l1 : Nat → List Int → Int → Int → Int → List (List Int) → Int → List (List Int) → Option (Int × (List (List Int)) × Bool)
 | 0, _, _, _, _, _, _, _ => none
 | k + 1, x1, x40, x41, x586000, x586001, x590000, x590001 => if x41 < x40 then (if 0 ≤ (x1.length : Int) then (if ((x1.length : Int) : Int).toNat ≤ 35184372088832 then (if x590001.length < 5864062014805 then (impl_RenameStates.l1 k x1 x40 (wrap64 (x41 + 1)) x586000 x586001 x590000 (x590001 ++ [(List.replicate ((x1.length : Int) : Int).toNat 0)])) else (none)) else (none)) else (none)) else (impl_RenameStates.l2 k x1 x586001 (x586001.length : Int) 0 x590000 x590001)
def impl_RenameStates.l2 : Nat → List Int → List (List Int) → Int → Int → Int → List (List Int) → Option (Int × (List (List Int)) × Bool)
 | 0, _, _, _, _, _, _ => none
 | k + 1, x1, x53, x54, x55, x590000, x590001 => if x55 < x54 then (if 0 ≤ x55 then (if x55 < (x53.length : Int) then (impl_RenameStates.l3 k x1 x55 x53 x54 x55 (rd_L2 x53 x55) ((rd_L2 x53 x55).length : Int) 0 x590000 x590001) else (none)) else (none)) else (some (x590000, x590001, true))
def impl_RenameStates.l3 : Nat → List Int → Int → List (List Int) → Int → Int → List Int → Int → Int → Int → List (List Int) → Option (Int × (List (List Int)) × Bool)
 | 0, _, _, _, _, _, _, _, _, _, _ => none
 | k + 1, x1, x8, x53, x54, x55, x60, x61, x62, x590000, x590001 => if x62 < x61 then (if 0 ≤ x62 then (if x62 < (x60.length : Int) then (if 0 ≤ x8 then (if x8 < (x1.length : Int) then (if 0 ≤ (rd x1 x8) then (if (rd x1 x8) < (x590001.length : Int) then (if x62 < (x1.length : Int) then (if 0 ≤ (rd x1 x62) then (if (rd x1 x62) < ((rd_L2 x590001 (rd x1 x8)).length : Int) then (impl_RenameStates.l3 k x1 x8 x53 x54 x55 x60 x61 (wrap64 (x62 + 1)) x590000 (x590001.set ((rd x1 x8) : Int).toNat ((rd_L2 x590001 (rd x1 x8)).set ((rd x1 x62) : Int).toNat (rd x60 x62)))) else (none)) else (none)) else (none)) else (none)) else (none)) else (none)) else (none)) else (none)) else (none)) else (impl_RenameStates.l2 k x1 x53 x54 (wrap64 (x55 + 1)) x590000 x590001)
end
def impl_RenameStates.f (k : Nat) (a0_0 : Int) (l0_1 : List (List Int)) (l1 : List Int) : Option (Int × (List (List Int)) × Bool) := (impl_areWith.f k a0_0 l0_1 l1).bind fun t587 => (if t587 = true then (impl_RenameStates.j0 k l1 ((l1.length : Int) != (l0_1.length : Int)) a0_0 l0_1) else (impl_RenameStates.j0 k l1 true a0_0 l0_1))
def impl_RenameStates.T12 : Bool × List (List Nat × List Nat) := (true, [([], []), ([0], [0]), ([], []), ([2], [2]), ([3, 3], [3]), ([4], [4]), ([1, 5], [1, 5]), ([0, 1, 2, 3, 4, 5, 6], []), ([7, 6, 6, 0, 1, 2, 3, 4, 5, 6], [6, 7])])
def impl_RenameStates.B12 : List Nat := [0, 1, 0, 4, 12, 28, 63, 127, 255]
theorem impl_RenameStates.tab12 : rtab .any (opsOf Try.f29 12) = impl_RenameStates.T12 := by kernel_rfl
theorem impl_RenameStates.bits12 : waitsOk impl_RenameStates.T12.2 impl_RenameStates.B12 = true := by kernel_rfl
def impl_RenameStates.T20 : Bool × List (List Nat × List Nat) := (true, [([], []), ([0], [0]), ([], []), ([], []), ([2, 3], [2, 3]), ([4], [4]), ([1, 5], [1, 5]), ([6], [6]), ([], []), ([], []), ([8, 9], [8, 9]), ([10], [10]), ([], []), ([7, 11, 0, 1, 2, 3, 4, 5, 6, 7, 8, 9, 10, 11, 12], [7, 11]), ([13, 12, 0, 1, 2, 3, 4, 5, 6, 7, 8, 9, 10, 11, 12], [12, 13])])
def impl_RenameStates.B20 : List Nat := [0, 1, 0, 0, 12, 28, 63, 127, 0, 0, 768, 1792, 0, 8191, 16383]
theorem impl_RenameStates.tab20 : rtab .any (opsOf Try.f29 20) = impl_RenameStates.T20 := by kernel_rfl
theorem impl_RenameStates.bits20 : waitsOk impl_RenameStates.T20.2 impl_RenameStates.B20 = true := by kernel_rfl
set_option maxHeartbeats 8000000 in
set_option maxRecDepth 100000 in
theorem impl_RenameStates.calls (k : Nat) (a0_0 : Int) (A0_1 : Option Addr) (c0_1 : Nat) (l0_1 : List (List Int)) (A1 : Option Addr) (c1 : Nat) (l1 : List Int) (r1 : Int) (r2 : List (List Int)) (r3 : Bool) (w : World) (hr0_1 : Kd.C (Kd.slice 3 (Kd.int .i64)) w A0_1 l0_1.length l0_1) (hc0_1 : l0_1.length ≤ c0_1) (hr1 : Kd.C (Kd.int .i64) w A1 l1.length l1) (hc1 : l1.length ≤ c1) (h : impl_RenameStates.f k a0_0 l0_1 l1 = some (r1, r2, r3)) :
 Calls Try.prog 29 #[.agg #[.int .i64 a0_0, .slice A0_1 l0_1.length c0_1], .slice A1 l1.length c1] w fun e w' => ∃ v1_ : Value, e = .returned (.tuple #[.agg #[.int .i64 r1, v1_], .bool r3]) ∧ Kd.S (Kd.slice 3 (Kd.int .i64)) 29 w' w.heap.size (fun _ => True) v1_ r2 ∧ Below w.heap.size w w' := by
 have hu26 := Try.underlying26
 have HR0_1 := am hr0_1
 have HC0_1 := am hc0_1
 clear hr0_1 hc0_1
 have HR1 := am hr1
 have HC1 := am hc1
 clear hr1 hc1
 have HB := am (Below.refl w.heap.size w)
 have H := h
 clear h
 unfold impl_RenameStates.f at H
 have HC3 := am H
 clear H
 go_enter Try.func29, Try.ntmps29
 go_upto_region 1 with (first | ((with_reducible refine gate_dst (N := 2) rfl ?_); (try (refine gate_guard (by rfl) ?_; dsimp only)); refine bE 2 #[.int .i64 a0_0, .slice A0_1 l0_1.length c0_1] 26 ?_; intro gb585 hg w4 hbox hb; have BK585 := am (hbox); have GW585 := gW hg; have GE585 := gW hg; replace HB := sB hb; clear hb hbox hg) | ((with_reducible refine gate_dst (N := 4) rfl ?_); (try (refine gate_guard (by rfl) ?_; dsimp only)); refine bE 4 #[.int .i64 0, .slice none 0 0] 26 ?_; intro gb586 hg w5 hbox hb; have BK586 := am (hbox); have GW586 := gW hg; have GE586 := gW hg; replace HB := sB hb; have NB585_586 := nK BK585 hg; have NB586_585 := mK BK585 hg; replace BK585 := kb BK585 hb; clear hb hbox hg))
 (try simp only [Act.put, List.setIfInBounds_toArray, List.set_cons_zero, List.set_cons_succ])
 go_cut [23] (fun v23 wc => ∃ (kq : Nat) (x23_2 : Bool), v23 = .bool x23_2 ∧ Aside0 (impl_RenameStates.j0 kq l1 x23_2 a0_0 l0_1 = some (r1, r2, r3)) ∧ Aside0 (kq ≤ k) ∧ Aside0 (wc.heap[gb585]? = some (.cells #[.int .i64 a0_0, (.slice A0_1 l0_1.length c0_1)] 26 (0, 0))) ∧ Aside0 (wc.heap[gb586]? = some (.cells #[.int .i64 0, (.slice none 0 0)] 26 (0, 0))) ∧ Aside0 (Below w.heap.size w wc))
 case first =>
  have H := HC3.out
  clear HC3
  replace H := bnd H
  obtain ⟨t587, A6, H⟩ := H
  (try dsimp only at H)
  by_cases c7 : t587 = true
  · subst c7
    replace H := ifT H
    have H' := am H
    clear H
    have hnb8 := NB585_586.out
    have hnc8 := NB586_585.out
    obtain ⟨hcz9_0, hcz9_1, hfz9_0, hfz9_1⟩ := cZ BK585
    go_wp2_with (first | ((with_reducible refine gate_callee (f := 36) rfl ?_); refine gL 14 Try.func36 #[.agg #[.int .i64 a0_0, .slice A0_1 l0_1.length c0_1], .slice A1 l1.length c1] ?_; (with_reducible refine (impl_areWith.calls k a0_0 _ _ l0_1 _ _ l1 true _ ?side1 HC0_1.out ?side3 HC1.out A6.out).mono ?_); (case side1 => exact cH HR0_1); (case side3 => exact cH HR1); rintro e w10 ⟨rfl, hb⟩; refine ⟨_, rfl, ?_⟩; replace BK585 := kb BK585 hb; replace BK586 := kb BK586 hb; replace HB := sB hb; obtain ⟨hcz11_0, hcz11_1, hfz11_0, hfz11_1⟩ := cZ BK585))
    go_meet
    case rel => exact ⟨_, (((l1.length : Int) != (l0_1.length : Int))), sR, H', ⟨by first | omega | exact Nat.le_refl _⟩, ⟨bP BK585⟩, ⟨bP BK586⟩, ⟨bB⟩⟩
  · replace c7 := Bool.eq_false_iff.mpr c7
    subst c7
    replace H := ifF H
    have H' := am H
    clear H
    have hnb12 := NB585_586.out
    have hnc12 := NB586_585.out
    obtain ⟨hcz13_0, hcz13_1, hfz13_0, hfz13_1⟩ := cZ BK585
    go_wp2_with (first | ((with_reducible refine gate_callee (f := 36) rfl ?_); refine gL 14 Try.func36 #[.agg #[.int .i64 a0_0, .slice A0_1 l0_1.length c0_1], .slice A1 l1.length c1] ?_; (with_reducible refine (impl_areWith.calls k a0_0 _ _ l0_1 _ _ l1 false _ ?side1 HC0_1.out ?side3 HC1.out A6.out).mono ?_); (case side1 => exact cH HR0_1); (case side3 => exact cH HR1); rintro e w14 ⟨rfl, hb⟩; refine ⟨_, rfl, ?_⟩; replace BK585 := kb BK585 hb; replace BK586 := kb BK586 hb; replace HB := sB hb))
    go_meet
    case rel => exact ⟨_, (true), sR, H', ⟨by first | omega | exact Nat.le_refl _⟩, ⟨bP BK585⟩, ⟨bP BK586⟩, ⟨bB⟩⟩
 case rest =>
  clear HC3
  obtain ⟨kq, x23_2, rfl, HA, HJ2, BK585, BK586, HB⟩ := hcut
  cases kq with
  | zero => exact absurd HA.out (by simp [impl_RenameStates.j0])
  | succ kj2 =>
   have H := HA.out
   clear HA
   simp only [impl_RenameStates.j0] at H
   by_cases c15 : x23_2 = true
   · subst c15
     replace H := ifT H
     simp only [Option.some.injEq, Prod.mk.injEq] at H
     obtain ⟨rfl, rfl, rfl⟩ := H
     have hnb16 := NB586_585.out
     have hnc16 := NB585_586.out
     obtain ⟨hcz17_0, hcz17_1, hfz17_0, hfz17_1⟩ := cZ BK586
     go_wp2
     refine bodyPost_ret (results_ct rfl _ _ gb586 26 #[.int .i64 0, .slice none 0 0] (0, 0) _ rfl (by (with_reducible repeat (first | refine blk_drewN ?_ _ | refine blk_drew ?_ | refine blk_alloc ?_ _)); refine blk_put (cs := #[.int .i64 0, .slice none 0 0]) ?_ 1 _ rfl; (with_reducible repeat (first | refine blk_drewN ?_ _ | refine blk_drew ?_ | refine blk_alloc ?_ _)); refine blk_put (cs := #[.int .i64 0, .slice none 0 0]) ?_ 0 _ rfl; (with_reducible repeat (first | refine blk_drewN ?_ _ | refine blk_drew ?_ | refine blk_alloc ?_ _)); exact BK586.out) Try.underlying26 rfl (by kernel_rfl)) rfl ?_
     exact ⟨_, eW, nL, bB⟩
   · replace c15 := Bool.eq_false_iff.mpr c15
     subst c15
     replace H := ifF H
     have H' := am H
     clear H
     go_wp2
     go_loopg [27] kj2 (fun kq v27 w' => ∃ (x27_2 : Int) (x587000_2 : Int), v27 = .int .i64 x27_2 ∧ Aside0 (impl_RenameStates.l0 kq l1 (l1.length : Int) x27_2 a0_0 l0_1 = some (r1, r2, r3)) ∧ Aside0 (kq ≤ kj2) ∧ Aside0 (w'.heap[gb585]? = some (.cells #[.int .i64 a0_0, (.slice A0_1 l0_1.length c0_1)] 26 (0, 0))) ∧ Aside0 (w'.heap[gb586]? = some (.cells #[.int .i64 x587000_2, (.slice none 0 0)] 26 (0, 0))) ∧ Aside0 (Below w.heap.size w w'))
     case atStart => exact ⟨(0), (0), sR, H', ⟨Nat.le_refl _⟩, ⟨bP BK585⟩, ⟨bP BK586⟩, ⟨bB⟩⟩
     case round =>
      clear H'
      obtain ⟨x27_2, x587000_2, rfl, HA, HK2, BK585, BK586, HB⟩ := hrel
      cases gk with
      | zero => exact absurd HA.out (by simp [impl_RenameStates.l0])
      | succ k2 =>
       have H := HA.out
       clear HA
       simp only [impl_RenameStates.l0] at H
       by_cases c18 : x27_2 < (l1.length : Int)
       · rw [if_pos c18] at H
         have c18b0 := decide_eq_true c18
         clear c18
         replace H := bnd H
         obtain ⟨t588, A19, H⟩ := H
         (try dsimp only at H)
         by_cases c20 : t588 = true
         · subst c20
           replace H := ifT H
           have H' := am H
           clear H
           go_wp2_with (first | ((with_reducible refine gate_callee (f := 59) rfl ?_); refine gL 32 Try.func59 #[.slice A1 l1.length c1, .int .i64 x27_2] ?_; (with_reducible refine (slices_Contains_int_int.calls k2 _ _ l1 x27_2 true _ ?side1 HC1.out A19.out).mono ?_); (case side1 => exact cH HR1); rintro e w' ⟨rfl, ⟨nd, rfl⟩⟩; refine ⟨_, rfl, ?_⟩))
           go_roundg k2
           case measure => have := HJ2.out; have := HK2.out; omega
           case rel => exact ⟨(wrap64 (x27_2 + 1)), (x587000_2), sR, H', ⟨by have := HJ2.out; have := HK2.out; omega⟩, ⟨bP BK585⟩, ⟨bP BK586⟩, ⟨bB⟩⟩
         · replace c20 := Bool.eq_false_iff.mpr c20
           subst c20
           replace H := ifF H
           simp only [Option.some.injEq, Prod.mk.injEq] at H
           obtain ⟨rfl, rfl, rfl⟩ := H
           go_wp2_with (first | ((with_reducible refine gate_callee (f := 59) rfl ?_); refine gL 32 Try.func59 #[.slice A1 l1.length c1, .int .i64 x27_2] ?_; (with_reducible refine (slices_Contains_int_int.calls k2 _ _ l1 x27_2 false _ ?side1 HC1.out A19.out).mono ?_); (case side1 => exact cH HR1); rintro e w' ⟨rfl, ⟨nd, rfl⟩⟩; refine ⟨_, rfl, ?_⟩; (try (rw [drewN_self wr]; generalize hq_ : World.drewN wr _ = wr; replace BK585 : Aside0 (wr.heap[gb585]? = some (.cells #[.int .i64 a0_0, .slice A0_1 l0_1.length c0_1] 26 (0, 0))) := ⟨by rw [← hq_]; exact (bP BK585)⟩; replace BK586 : Aside0 (wr.heap[gb586]? = some (.cells #[.int .i64 x587000_2, .slice none 0 0] 26 (0, 0))) := ⟨by rw [← hq_]; exact (bP BK586)⟩; replace HB : Aside0 (Below w.heap.size w wr) := ⟨by rw [← hq_]; exact bB⟩; clear hq_)); have hnb21 := NB586_585.out; have hnc21 := NB585_586.out; obtain ⟨hcz22_0, hcz22_1, hfz22_0, hfz22_1⟩ := cZ BK586))
           refine bodyPost_ret (results_ct rfl _ _ gb586 26 #[.int .i64 0, .slice none 0 0] (0, 0) _ rfl (by (with_reducible repeat (first | refine blk_drewN ?_ _ | refine blk_drew ?_ | refine blk_alloc ?_ _)); refine blk_put (cs := #[.int .i64 0, .slice none 0 0]) ?_ 1 _ rfl; (with_reducible repeat (first | refine blk_drewN ?_ _ | refine blk_drew ?_ | refine blk_alloc ?_ _)); refine blk_put (cs := #[.int .i64 x587000_2, .slice none 0 0]) ?_ 0 _ rfl; (with_reducible repeat (first | refine blk_drewN ?_ _ | refine blk_drew ?_ | refine blk_alloc ?_ _)); exact BK586.out) Try.underlying26 rfl (by kernel_rfl)) rfl ?_
           exact ⟨_, eW, nL, bB⟩
       · rw [if_neg c18] at H
         have c18b0 := decide_eq_false c18
         clear c18
         have H' := am H
         clear H
         have hnb23 := NB585_586.out
         have hnc23 := NB586_585.out
         obtain ⟨hcz24_0, hcz24_1, hfz24_0, hfz24_1⟩ := cZ BK585
         go_wp2_with (first | ((with_reducible refine gate_dst (N := 7) rfl ?_); (try (refine gate_guard (by rfl) ?_; dsimp only)); refine bE 7 #[.int .i64 0, .slice none 0 0] 26 ?_; intro gb589 hg w25 hbox hb; have BK589 := am (hbox); have GW589 := gW hg; have GE589 := gW hg; replace HB := sB hb; have NB585_589 := nK BK585 hg; have NB589_585 := mK BK585 hg; replace BK585 := kb BK585 hb; have NB586_589 := nK BK586 hg; have NB589_586 := mK BK586 hg; replace BK586 := kb BK586 hb; clear hb hbox hg; have hnb26 := NB589_585.out; have hnc26 := NB585_589.out; have hnb27 := NB589_586.out; have hnc27 := NB586_589.out; obtain ⟨hcz28_0, hcz28_1, hfz28_0, hfz28_1⟩ := cZ BK589))
         go_loopg [41] k2 (fun kq v41 w' => ∃ (x41_3 : Int) (x590001_3 : List (List Int)) (u590001 : Value), v41 = .int .i64 x41_3 ∧ Aside0 (impl_RenameStates.l1 kq l1 (l1.length : Int) x41_3 a0_0 l0_1 a0_0 x590001_3 = some (r1, r2, r3)) ∧ Aside0 (kq ≤ k2) ∧ Aside0 (Kd.S (Kd.slice 3 (Kd.int .i64)) 29 w' w.heap.size (fun _ => True) u590001 x590001_3) ∧ Aside0 (w'.heap[gb585]? = some (.cells #[.int .i64 a0_0, (.slice A0_1 l0_1.length c0_1)] 26 (0, 0))) ∧ Aside0 (w'.heap[gb586]? = some (.cells #[.int .i64 x587000_2, (.slice none 0 0)] 26 (0, 0))) ∧ Aside0 (w'.heap[gb589]? = some (.cells #[.int .i64 a0_0, u590001] 26 (0, 0))) ∧ Aside0 (Below w.heap.size w w'))
         case atStart => exact ⟨(0), (([] : List (List Int))), (.slice none 0 0), sR, H', ⟨Nat.le_refl _⟩, ⟨nL⟩, ⟨by (with_reducible repeat (first | refine blk_drewN ?_ _ | refine blk_drew ?_ | refine blk_alloc ?_ _)); refine blk_far ?_ NB585_589.out _; (with_reducible repeat (first | refine blk_drewN ?_ _ | refine blk_drew ?_ | refine blk_alloc ?_ _)); refine blk_far ?_ NB585_589.out _; (with_reducible repeat (first | refine blk_drewN ?_ _ | refine blk_drew ?_ | refine blk_alloc ?_ _)); exact BK585.out⟩, ⟨by (with_reducible repeat (first | refine blk_drewN ?_ _ | refine blk_drew ?_ | refine blk_alloc ?_ _)); refine blk_far ?_ NB586_589.out _; (with_reducible repeat (first | refine blk_drewN ?_ _ | refine blk_drew ?_ | refine blk_alloc ?_ _)); refine blk_far ?_ NB586_589.out _; (with_reducible repeat (first | refine blk_drewN ?_ _ | refine blk_drew ?_ | refine blk_alloc ?_ _)); exact BK586.out⟩, ⟨by (with_reducible repeat (first | refine blk_drewN ?_ _ | refine blk_drew ?_ | refine blk_alloc ?_ _)); refine blk_put (cs := #[.int .i64 a0_0, .slice none 0 0]) ?_ 1 _ rfl; (with_reducible repeat (first | refine blk_drewN ?_ _ | refine blk_drew ?_ | refine blk_alloc ?_ _)); refine blk_put (cs := #[.int .i64 0, .slice none 0 0]) ?_ 0 _ rfl; (with_reducible repeat (first | refine blk_drewN ?_ _ | refine blk_drew ?_ | refine blk_alloc ?_ _)); exact BK589.out⟩, ⟨bB⟩⟩
         case round =>
          clear H'
          obtain ⟨x41_3, x590001_3, u590001, rfl, HA, HK3, HO_590001, BK585, BK586, BK589, HB⟩ := hrel
          cases gk with
          | zero => exact absurd HA.out (by simp [impl_RenameStates.l1])
          | succ k3 =>
           have H := HA.out
           clear HA
           simp only [impl_RenameStates.l1] at H
           by_cases c29 : x41_3 < (l1.length : Int)
           · rw [if_pos c29] at H
             have c29b0 := decide_eq_true c29
             clear c29
             replace H := ifP H
             obtain ⟨c30, H⟩ := H
             have c30b0 := eq_true c30
             have c30b1 := decide_eq_true c30
             clear c30
             replace H := ifP H
             obtain ⟨c31, H⟩ := H
             have c31b0 := eq_true c31
             have c31b1 := decide_eq_true c31
             clear c31
             generalize hy590 : ((List.replicate ((l1.length : Int) : Int).toNat 0) : List Int) = y590 at H
             (try dsimp only [Option.bind_some] at H)
             have Ny590 := am hy590.symm
             clear hy590
             replace H := ifP H
             obtain ⟨c32, H⟩ := H
             have LMc32 := am c32
             clear c32
             generalize hy593 : ((x590001_3 ++ [y590]) : List (List Int)) = y593 at H
             (try dsimp only [Option.bind_some] at H)
             have Ny593 := am hy593.symm
             clear hy593
             have H' := am H
             clear H
             try go_wp2
             replace HO_590001 := am (Kd.S_drew HO_590001.out)
             replace BK585 := am (blk_drew BK585.out)
             replace BK586 := am (blk_drew BK586.out)
             replace BK589 := am (blk_drew BK589.out)
             replace HB := am (below_drew1 HB.out)
             refine start_ (n := 9) (S := fun w' => w'.cell? ⟨gb589, 0, none⟩ = some (.int .i64 a0_0) ∧ w'.cell? ⟨gb589, 1, none⟩ = some (u590001)) (ds := [8]) (bs [0, 9]) (by kernel_rfl) rfl rfl ⟨(blk_cell BK589.out 0).trans rfl, (blk_cell BK589.out 1).trans rfl⟩ (fun hHeld => ?_); refine with_tabW impl_RenameStates.tab12 impl_RenameStates.bits12 (fun HT_ HW_ => ?_)
             generalize wr.drew = w33 at HO_590001 BK585 BK586 BK589 HB hHeld ⊢
             refine pS 0 (some 43) (bs [1, 8]) ?_
             refine pS 2 (some 45) (bs [1, 1, 1, 6]) ?_
             refine pS 3 (some 46) (bs [1, 1, 2, 5]) ?_
             refine tS 1 (some 44) (bs [4, 5]) ?_
             refine oS 4 (some 47) (bs [5, 4]) (fun K hK => ?_)
             refine Kd.R_make_step (Kd.int .i64) _ 3 (by rfl) (N := 47) rfl 29 _ _ rfl (l1.length : Int) rfl rfl Try.underlying29 (.int .i64 0) 8 info3 rfl (by decide) (by omega) 0 (ok := fun _ => True) (okp := fun _ => True) rfl (fun _ hk => hk) trivial (dT) (Nat.le_trans (Nat.mul_le_mul_right _ (dT : (l1.length : Int).toNat ≤ 35184372088832)) (by omega)) (Below.refl _ _) (Nat.le_refl _) ?_
             intro v591 w34 ho35 hb hg_ hnew_
             clear hg_ hnew_
             (first | rw [← Ny590.out] at ho35 | (simp only [Int.reduceToNat] at ho35; rw [← Ny590.out] at ho35))
             replace HO_590001 := eS HO_590001 ho35 hb
             have HO592 := am (Kd.R_lower ho35 (below_size bB))
             replace BK585 := kb BK585 hb
             replace BK586 := kb BK586 hb
             replace BK589 := kb BK589 hb
             replace HB := sB hb
             clear hb ho35
             obtain ⟨Ao37, co37, eo37⟩ := Kd.R_slice HO592.out
             (first | subst eo37 | (injection eo37 with f1_ f2_ f3_; have f4_ := f1_.symm; have f5_ := f3_.symm; clear f1_ f2_ f3_; subst f4_; subst f5_))
             refine hK.out _ _ ⟨(blk_cell BK589.out 0).trans rfl, (blk_cell BK589.out 1).trans rfl⟩ (fun hHeld => ?_)
             clear hK K
             refine nS 47 ?_
             refine oS 5 (some 48) (bs [6, 3]) (fun K hK => ?_)
             refine value_ (w1 := ?_) (v := ?_) (by rfl) rfl ?_ ?_
             rotate_left 2
             · go_simp
               constructor
               · rfl
               · rfl
             refine hK.out _ _ ⟨(blk_cell (blk_alloc BK589.out _) 0).trans rfl, (blk_cell (blk_alloc BK589.out _) 1).trans rfl⟩ (fun hHeld => ?_)
             clear hK K
             refine nS 48 ?_
             refine oS 6 (some 49) (bs [7, 2]) (fun K hK => ?_)
             refine Kd.S_append_step (Kd.slice 3 (Kd.int .i64)) (w0 := w) w.heap.size (by rfl) (.tmp 44) (.tmp 48) 24 29 (.slice none 0 0) 24 rfl Try.underlying24 info29 rfl (by decide) (by omega) u590001 x590001_3 y590 [.slice Ao37 y590.length co37] (fun _ => True) (fun k_ => some k_ = (.slice Ao37 y590.length co37 : Value).ownBlock) rfl rfl ?aP (fun k_ hk_ => ((Kd.R_mono (ok' := fun k_ => ((fun _ => True)) k_ ∧ some k_ ≠ (u590001 : Value).ownBlock) (Kd.R_apart' (HO592.out) (Kd.S_typed HO_590001.out) (by decide)) (fun k_ hk => ⟨trivial, hk.2⟩))).1 k_ hk_.symm) ?aF ?aO ?aB ?aS ?aL ?_
             (case aP => exact Kd.M_row (Kd.R_mono (Kd.R_tight rfl (Kd.R_mono (ok' := fun k_ => ((fun _ => True)) k_ ∧ some k_ ≠ (u590001 : Value).ownBlock) (Kd.R_apart' (HO592.out) (Kd.S_typed HO_590001.out) (by decide)) (fun k_ hk => ⟨trivial, hk.2⟩))) (fun _ h_ => h_)))
             (case aB => exact bB)
             (case aF => exact (fun _ _ => trivial))
             (case aO => exact (by (with_reducible repeat (first | apply Kd.S_alloc | apply Kd.S_drewN | apply Kd.S_drew)); exact Kd.S_mono HO_590001.out (fun k_ hk => ⟨trivial, fun e_ => hk.2 e_⟩)))
             (case aS => exact (below_size bB))
             (case aL => have := LMc32.out; omega)
             intro v594 w36 ho hb hg hat
             rw [← Ny593.out] at ho
             replace BK585 := (kg BK585 hg (Kd.S_ne HO_590001.out BK585.out (by decide)))
             replace BK586 := (kg BK586 hg (Kd.S_ne HO_590001.out BK586.out (by decide)))
             replace BK589 := (kg BK589 hg (Kd.S_ne HO_590001.out BK589.out (by decide)))
             replace HB := am (hb)
             have HO595 := am (ho)
             clear HO_590001 HO592
             clear ho hb hg hat
             obtain ⟨Ao38, co38, eo38⟩ := Kd.S_slice HO595.out
             (first | subst eo38 | (injection eo38 with f1_ f2_ f3_; have f4_ := f1_.symm; have f5_ := f3_.symm; clear f1_ f2_ f3_; subst f4_; subst f5_))
             refine hK.out _ _ ⟨(blk_cell BK589.out 0).trans rfl, (blk_cell BK589.out 1).trans rfl⟩ (fun hHeld => ?_)
             clear hK K
             refine nS 49 ?_
             refine pS 7 (some 50) (bs [8, 1]) ?_
             refine last_ (i := 8) (N := none) (bs [9]) rfl rfl (one_of HT_.out (by kernel_rfl)) (by decide) (fun K hK => ?_)
             have hs39 : w36.cell? ⟨gb589, 1, none⟩ = some (u590001) := (blk_cell BK589.out 1).trans rfl
             have hfs39 := blk_frozen BK589.out 1
             have hns39_0 := NB585_589.out
             have hns39_1 := NB586_589.out
             have hms39_0 := NB589_585.out
             have hms39_1 := NB589_586.out
             refine skip_ (w1 := ?_) (by rfl) rfl ?_ ?_
             rotate_left
             · go_simp
               rfl
             refine hK.out _ _ ?_
             clear hK K
             refine done_ (done_of HT_.out (by kernel_rfl)) ?_
             try go_wp2
             go_roundg k3
             case measure => have := HJ2.out; have := HK2.out; have := HK3.out; omega
             case rel => exact ⟨(wrap64 (x41_3 + 1)), (y593), (.slice Ao38 y593.length co38), sR, H', ⟨by have := HJ2.out; have := HK2.out; have := HK3.out; omega⟩, ⟨by (with_reducible repeat (first | apply Kd.S_alloc | apply Kd.S_drewN | apply Kd.S_drew)); exact Kd.S_mono (Kd.S_far (p := ⟨gb589, 1, none⟩) (Kd.S_types HO595.out BK589.out (by decide)) (fun _ hk => hk.2) (.slice Ao38 y593.length co38)) (fun _ hk => trivial)⟩, ⟨by (with_reducible repeat (first | refine blk_drewN ?_ _ | refine blk_drew ?_ | refine blk_alloc ?_ _)); refine blk_far ?_ NB585_589.out _; (with_reducible repeat (first | refine blk_drewN ?_ _ | refine blk_drew ?_ | refine blk_alloc ?_ _)); exact BK585.out⟩, ⟨by (with_reducible repeat (first | refine blk_drewN ?_ _ | refine blk_drew ?_ | refine blk_alloc ?_ _)); refine blk_far ?_ NB586_589.out _; (with_reducible repeat (first | refine blk_drewN ?_ _ | refine blk_drew ?_ | refine blk_alloc ?_ _)); exact BK586.out⟩, ⟨by (with_reducible repeat (first | refine blk_drewN ?_ _ | refine blk_drew ?_ | refine blk_alloc ?_ _)); refine blk_put (cs := #[.int .i64 a0_0, u590001]) ?_ 1 _ rfl; (with_reducible repeat (first | refine blk_drewN ?_ _ | refine blk_drew ?_ | refine blk_alloc ?_ _)); exact BK589.out⟩, ⟨bB⟩⟩
           · rw [if_neg c29] at H
             have c29b0 := decide_eq_false c29
             clear c29
             have H' := am H
             clear H
             have hnb40 := NB585_586.out
             have hnc40 := NB586_585.out
             have hnb41 := NB585_589.out
             have hnc41 := NB589_585.out
             obtain ⟨hcz42_0, hcz42_1, hfz42_0, hfz42_1⟩ := cZ BK585
             go_wp2
             go_loopg [55] k3 (fun kq v55 w' => ∃ (x55_4 : Int) (x590001_4 : List (List Int)) (u590001 : Value), v55 = .int .i64 x55_4 ∧ Aside0 (impl_RenameStates.l2 kq l1 l0_1 (l0_1.length : Int) x55_4 a0_0 x590001_4 = some (r1, r2, r3)) ∧ Aside0 (kq ≤ k3) ∧ Aside0 (Kd.S (Kd.slice 3 (Kd.int .i64)) 29 w' w.heap.size (fun _ => True) u590001 x590001_4) ∧ Aside0 (w'.heap[gb585]? = some (.cells #[.int .i64 a0_0, (.slice A0_1 l0_1.length c0_1)] 26 (0, 0))) ∧ Aside0 (w'.heap[gb586]? = some (.cells #[.int .i64 x587000_2, (.slice none 0 0)] 26 (0, 0))) ∧ Aside0 (w'.heap[gb589]? = some (.cells #[.int .i64 a0_0, u590001] 26 (0, 0))) ∧ Aside0 (Below w.heap.size w w'))
             case atStart => exact ⟨(0), (x590001_3), (u590001), sR, H', ⟨Nat.le_refl _⟩, ⟨rP HO_590001⟩, ⟨bP BK585⟩, ⟨bP BK586⟩, ⟨bP BK589⟩, ⟨bB⟩⟩
             case round =>
              clear H'
              obtain ⟨x55_4, x590001_4, u590001, rfl, HA, HK4, HO_590001, BK585, BK586, BK589, HB⟩ := hrel
              cases gk with
              | zero => exact absurd HA.out (by simp [impl_RenameStates.l2])
              | succ k4 =>
               have H := HA.out
               clear HA
               simp only [impl_RenameStates.l2] at H
               by_cases c43 : x55_4 < (l0_1.length : Int)
               · rw [if_pos c43] at H
                 have c43b0 := decide_eq_true c43
                 clear c43
                 replace H := ifP H
                 obtain ⟨c44, H⟩ := H
                 have c44b0 := decide_eq_true c44
                 clear c44
                 replace H := ifP H
                 obtain ⟨c45, H⟩ := H
                 have c45b0 := decide_eq_true c45
                 clear c45
                 have H' := am H
                 clear H
                 have p596 : 0 ≤ (x55_4 : Int) := dT
                 have q596 : x55_4 < (l0_1.length : Int) := dT
                 obtain ⟨ad596, A596_0, c596_0, e596, hx596_0, hl596_0, hi596_0⟩ := at_L2 HR0_1.out x55_4 p596 q596
                 cases e596
                 replace hx596_0 := (HB.out.cell (World.block_lt_of_cell? w _ hx596_0)).trans hx596_0
                 have HR596_0 := am hi596_0
                 have HC596_0 := am hl596_0
                 clear hi596_0 hl596_0
                 replace p596 := eq_true p596
                 replace q596 := eq_true q596
                 go_wp2
                 go_loopg [62] k4 (fun kq v62 w' => ∃ (x62_5 : Int) (x590001_5 : List (List Int)) (u590001 : Value), v62 = .int .i64 x62_5 ∧ Aside0 (impl_RenameStates.l3 kq l1 x55_4 l0_1 (l0_1.length : Int) x55_4 (rd_L2 l0_1 x55_4) ((rd_L2 l0_1 x55_4).length : Int) x62_5 a0_0 x590001_5 = some (r1, r2, r3)) ∧ Aside0 (kq ≤ k4) ∧ Aside0 (Kd.S (Kd.slice 3 (Kd.int .i64)) 29 w' w.heap.size (fun _ => True) u590001 x590001_5) ∧ Aside0 (w'.heap[gb585]? = some (.cells #[.int .i64 a0_0, (.slice (some ad596) l0_1.length c0_1)] 26 (0, 0))) ∧ Aside0 (w'.heap[gb586]? = some (.cells #[.int .i64 x587000_2, (.slice none 0 0)] 26 (0, 0))) ∧ Aside0 (w'.heap[gb589]? = some (.cells #[.int .i64 a0_0, u590001] 26 (0, 0))) ∧ Aside0 (Below w.heap.size w w'))
                 case atStart => exact ⟨(0), (x590001_4), (u590001), sR, H', ⟨Nat.le_refl _⟩, ⟨rP HO_590001⟩, ⟨bP BK585⟩, ⟨bP BK586⟩, ⟨bP BK589⟩, ⟨bB⟩⟩
                 case round =>
                  clear H'
                  obtain ⟨x62_5, x590001_5, u590001, rfl, HA, HK5, HO_590001, BK585, BK586, BK589, HB⟩ := hrel
                  cases gk with
                  | zero => exact absurd HA.out (by simp [impl_RenameStates.l3])
                  | succ k5 =>
                   have H := HA.out
                   clear HA
                   simp only [impl_RenameStates.l3] at H
                   by_cases c46 : x62_5 < ((rd_L2 l0_1 x55_4).length : Int)
                   · rw [if_pos c46] at H
                     have c46b0 := decide_eq_true c46
                     clear c46
                     replace H := ifP H
                     obtain ⟨c47, H⟩ := H
                     have c47b0 := decide_eq_true c47
                     clear c47
                     replace H := ifP H
                     obtain ⟨c48, H⟩ := H
                     have c48b0 := decide_eq_true c48
                     clear c48
                     replace H := ifP H
                     obtain ⟨c49, H⟩ := H
                     have c49b0 := decide_eq_true c49
                     clear c49
                     replace H := ifP H
                     obtain ⟨c50, H⟩ := H
                     have c50b0 := decide_eq_true c50
                     clear c50
                     replace H := ifP H
                     obtain ⟨c51, H⟩ := H
                     have c51b0 := decide_eq_true c51
                     clear c51
                     replace H := ifP H
                     obtain ⟨c52, H⟩ := H
                     have c52b0 := decide_eq_true c52
                     clear c52
                     replace H := ifP H
                     obtain ⟨c53, H⟩ := H
                     have c53b0 := decide_eq_true c53
                     clear c53
                     replace H := ifP H
                     obtain ⟨c54, H⟩ := H
                     have c54b0 := decide_eq_true c54
                     clear c54
                     replace H := ifP H
                     obtain ⟨c55, H⟩ := H
                     have c55b0 := decide_eq_true c55
                     clear c55
                     generalize hy601 : (((rd_L2 x590001_5 (rd l1 x55_4)).set ((rd l1 x62_5) : Int).toNat (rd (rd_L2 l0_1 x55_4) x62_5)) : List Int) = y601 at H
                     (try dsimp only [Option.bind_some] at H)
                     have Ny601 := am hy601.symm
                     clear hy601
                     generalize hy603 : ((x590001_5.set ((rd l1 x55_4) : Int).toNat y601) : List (List Int)) = y603 at H
                     (try dsimp only [Option.bind_some] at H)
                     have Ny603 := am hy603.symm
                     clear hy603
                     have H' := am H
                     clear H
                     have p597 : 0 ≤ (x62_5 : Int) := dT
                     have q597 : x62_5 < ((rd_L2 l0_1 x55_4).length : Int) := dT
                     obtain ⟨ad597, e597, hx597_0⟩ := Kd.at_int HR596_0.out x62_5 p597 q597
                     cases e597
                     replace hx597_0 := (HB.out.cell (World.block_lt_of_cell? w _ hx597_0)).trans hx597_0
                     replace p597 := eq_true p597
                     replace q597 := eq_true q597
                     try go_wp2
                     replace HO_590001 := am (Kd.S_drew HO_590001.out)
                     replace BK585 := am (blk_drew BK585.out)
                     replace BK586 := am (blk_drew BK586.out)
                     replace BK589 := am (blk_drew BK589.out)
                     replace HB := am (below_drew1 HB.out)
                     have p598 : 0 ≤ (x55_4 : Int) := dT
                     have q598 : x55_4 < (l1.length : Int) := dT
                     obtain ⟨ad598, e598, hx598_0⟩ := Kd.at_int HR1.out x55_4 p598 q598
                     have hw598_0 := hx598_0
                     cases e598
                     replace hx598_0 := (HB.out.cell (World.block_lt_of_cell? w _ hx598_0)).trans hx598_0
                     replace p598 := eq_true p598
                     replace q598 := eq_true q598
                     obtain ⟨Ao58, co58, eo58⟩ := Kd.S_slice HO_590001.out
                     (first | subst eo58 | (injection eo58 with f1_ f2_ f3_; have f4_ := f1_.symm; have f5_ := f3_.symm; clear f1_ f2_ f3_; subst f4_; subst f5_))
                     have p599 : 0 ≤ ((rd l1 x55_4) : Int) := dT
                     have q599 : (rd l1 x55_4) < (x590001_5.length : Int) := dT
                     obtain ⟨ad599, A599_0, c599_0, e599, hx599_0, hl599_0, hi599_0⟩ := at_L2 (Kd.S_reads' HO_590001.out).2.2 (rd l1 x55_4) p599 q599
                     cases e599
                     obtain ⟨ce599, hce599, hMe599, hcc599⟩ := Kd.S_get HO_590001.out [] (rd l1 x55_4) p599 (by first | exact q599 | exact dT | (have e_ := (Kd.S_reads' HO_590001.out).1; omega))
                     obtain ⟨ve599_0, rfl, ge599_0⟩ := hMe599
                     have hv599_0 := hcc599 0 _ rfl
                     rw [Nat.add_zero, show ((Kd.slice 3 (Kd.int .i64))).sz = 1 from rfl, Nat.mul_one] at hv599_0
                     replace hv599_0 := Option.some.inj (hv599_0.symm.trans hx599_0)
                     rw [hv599_0] at ge599_0
                     have HL599_0 := am (show Kd.R (Kd.int .i64) 3 _ _ _ _ (rd_L2 x590001_5 (rd l1 x55_4)) from ge599_0)
                     clear hv599_0 ge599_0
                     have HX599_0 := am hx599_0
                     clear hcc599 hce599
                     have HR599_0 := am hi599_0
                     have HC599_0 := am hl599_0
                     clear hi599_0 hl599_0
                     replace p599 := eq_true p599
                     replace q599 := eq_true q599
                     have p600 : 0 ≤ (x62_5 : Int) := dT
                     have q600 : x62_5 < (l1.length : Int) := dT
                     obtain ⟨ad600, e600, hx600_0⟩ := Kd.at_int HR1.out x62_5 p600 q600
                     have hw600_0 := hx600_0
                     obtain rfl : ad598 = ad600 := (by injection e600)
                     replace hx600_0 := (HB.out.cell (World.block_lt_of_cell? w _ hx600_0)).trans hx600_0
                     replace p600 := eq_true p600
                     replace q600 := eq_true q600
                     have p56 : 0 ≤ ((rd l1 x62_5) : Int) := dT
                     have q56 : ((rd l1 x62_5) : Int) < (((rd_L2 x590001_5 (rd l1 x55_4)).length : Int) : Int) := dT
                     obtain ⟨go56, co56, eo56, gb56, gl56, cl56, HG56⟩ := Kd.R_form HL599_0.out (by omega)
                     (first | cases eo56 | (injection eo56 with ea_ en_ ec_; (first | subst ea_ | (injection ea_ with ea_; subst ea_)); subst ec_; clear en_))
                     have GB56 := am gb56
                     have GG56 := am HG56
                     clear gb56 gl56 HG56
                     obtain ⟨hx56_0, hf56_0⟩ := Kd.R_celln 0 HL599_0.out ((rd l1 x62_5) : Int) p56 q56
                     replace p56 := eq_true p56
                     replace q56 := eq_true q56
                     have hq59 : ((rd l1 x55_4) : Int) < (x590001_5.length : Int) := (by have h_ : ((rd l1 x55_4) : Int) < ((x590001_5.length : Int) : Int) := dT; first | exact h_ | (have e_ := (Kd.S_reads' HO_590001.out).1; omega) | simpa only [List.length_set, List.length_set] using h_)
                     obtain ⟨oki59, ce59, hcl59, hM59, hcc59, hok59, hbk59⟩ := Kd.S_borrow HO_590001.out [] ((rd l1 x55_4) : Int) (dT) hq59
                     obtain ⟨ve59_0, rfl, ge59_0⟩ := hM59
                     have hv59 := hcc59 0 _ rfl
                     rw [Nat.add_zero, show ((Kd.slice 3 (Kd.int .i64))).sz = 1 from rfl, Nat.mul_one] at hv59
                     replace hv59 := Option.some.inj (hv59.symm.trans HX599_0.out)
                     subst hv59
                     clear hcc59 hcl59
                     replace ge59_0 := (show Kd.R (Kd.int .i64) 3 _ _ _ _ (rd_L2 x590001_5 (rd l1 x55_4)) from ge59_0)
                     have HP59 := Kd.R_putg ge59_0 ((rd l1 x62_5) : Int) (rd (rd_L2 l0_1 x55_4) x62_5)
                     rw [← Ny601.out] at HP59
                     have HS59 := hbk59 HP59.2 (fun k_ e_ => by injection e_ with e_; subst e_; exact ge59_0.1 _ rfl) (x' := y601) (Kd.M_row HP59.1)
                     rw [← Ny603.out] at HS59
                     have HQ59 := am HS59
                     clear HP59 HS59 hbk59 hok59
                     refine start_ (n := 15) (S := fun w' => w'.cell? ⟨gb589, 0, none⟩ = some (.int .i64 a0_0) ∧ w'.cell? ⟨gb589, 1, none⟩ = some (.slice (some ad599) x590001_5.length co58) ∧ w'.cell? (ad598.add (x55_4).toNat) = some (.int .i64 (rd l1 x55_4)) ∧ w'.cell? (ad599.add ((rd l1 x55_4)).toNat) = some (.slice (some ⟨go56, 0, none⟩) (rd_L2 x590001_5 (rd l1 x55_4)).length c599_0) ∧ w'.cell? (ad598.add (x62_5).toNat) = some (.int .i64 (rd l1 x62_5))) (ds := [14]) (bs [0, 15]) (by kernel_rfl) rfl rfl ⟨(blk_cell BK589.out 0).trans rfl, (blk_cell BK589.out 1).trans rfl, ((HB.out.cell (World.block_lt_of_cell? w _ hw598_0)).trans hw598_0), hx599_0, ((HB.out.cell (World.block_lt_of_cell? w _ hw600_0)).trans hw600_0)⟩ (fun hHeld => ?_); refine with_tabW impl_RenameStates.tab20 impl_RenameStates.bits20 (fun HT_ HW_ => ?_)
                     generalize wr.drew = w57 at HO_590001 BK585 BK586 BK589 HB GG56 HL599_0 HQ59 HR599_0 HX599_0 hf56_0 hx56_0 hx598_0 hx599_0 hx600_0 hHeld ⊢
                     refine pS 0 (some 67) (bs [1, 14]) ?_
                     refine pS 2 (some 69) (bs [1, 1, 1, 12]) ?_
                     refine pS 3 (some 70) (bs [1, 1, 2, 11]) ?_
                     refine pS 4 (some 71) (bs [1, 1, 3, 10]) ?_
                     refine pS 8 (some 75) (bs [1, 1, 3, 3, 1, 6]) ?_
                     refine pS 9 (some 76) (bs [1, 1, 3, 3, 2, 5]) ?_
                     refine pS 10 (some 77) (bs [1, 1, 3, 3, 3, 4]) ?_
                     refine pS 12 (some 79) (bs [1, 1, 3, 3, 3, 1, 1, 2]) ?_
                     refine tS 1 (some 68) (bs [5, 3, 3, 1, 1, 2]) ?_
                     refine tS 5 (some 72) (bs [6, 2, 3, 1, 1, 2]) ?_
                     refine pS 6 (some 73) (bs [7, 1, 3, 1, 1, 2]) ?_
                     refine tS 7 (some 74) (bs [11, 1, 1, 2]) ?_
                     refine tS 11 (some 78) (bs [13, 2]) ?_
                     refine pS 13 (some 80) (bs [14, 1]) ?_
                     refine last_ (i := 14) (N := none) (bs [15]) rfl rfl (one_of HT_.out (by kernel_rfl)) (by decide) (fun K hK => ?_)
                     refine skip_ (w1 := ?_) (by rfl) rfl ?_ ?_
                     rotate_left
                     · go_simp
                       rfl
                     refine hK.out _ _ ?_
                     clear hK K
                     refine done_ (done_of HT_.out (by kernel_rfl)) ?_
                     try go_wp2
                     go_roundg k5
                     case measure => have := HJ2.out; have := HK2.out; have := HK3.out; have := HK4.out; have := HK5.out; omega
                     case rel => exact ⟨(wrap64 (x62_5 + 1)), (y603), (.slice (some ad599) x590001_5.length co58), sR, H', ⟨by have := HJ2.out; have := HK2.out; have := HK3.out; have := HK4.out; have := HK5.out; omega⟩, ⟨rP HQ59⟩, ⟨by (with_reducible repeat (first | refine blk_drewN ?_ _ | refine blk_drew ?_ | refine blk_alloc ?_ _)); refine blk_far ?_ (by have h_ := Kd.R_ne HL599_0.out BK585.out (by decide); intro e_; exact h_ (by rw [e_]; rfl)) _; (with_reducible repeat (first | refine blk_drewN ?_ _ | refine blk_drew ?_ | refine blk_alloc ?_ _)); exact BK585.out⟩, ⟨by (with_reducible repeat (first | refine blk_drewN ?_ _ | refine blk_drew ?_ | refine blk_alloc ?_ _)); refine blk_far ?_ (by have h_ := Kd.R_ne HL599_0.out BK586.out (by decide); intro e_; exact h_ (by rw [e_]; rfl)) _; (with_reducible repeat (first | refine blk_drewN ?_ _ | refine blk_drew ?_ | refine blk_alloc ?_ _)); exact BK586.out⟩, ⟨by (with_reducible repeat (first | refine blk_drewN ?_ _ | refine blk_drew ?_ | refine blk_alloc ?_ _)); refine blk_far ?_ (by have h_ := Kd.R_ne HL599_0.out BK589.out (by decide); intro e_; exact h_ (by rw [e_]; rfl)) _; (with_reducible repeat (first | refine blk_drewN ?_ _ | refine blk_drew ?_ | refine blk_alloc ?_ _)); exact BK589.out⟩, ⟨bB⟩⟩
                   · rw [if_neg c46] at H
                     have c46b0 := decide_eq_false c46
                     clear c46
                     have H' := am H
                     clear H
                     go_wp2
                     go_roundg k5
                     case measure => have := HJ2.out; have := HK2.out; have := HK3.out; have := HK4.out; have := HK5.out; omega
                     case rel => exact ⟨(wrap64 (x55_4 + 1)), (x590001_5), (u590001), sR, H', ⟨by have := HJ2.out; have := HK2.out; have := HK3.out; have := HK4.out; have := HK5.out; omega⟩, ⟨rP HO_590001⟩, ⟨bP BK585⟩, ⟨bP BK586⟩, ⟨bP BK589⟩, ⟨bB⟩⟩
               · rw [if_neg c43] at H
                 have c43b0 := decide_eq_false c43
                 clear c43
                 simp only [Option.some.injEq, Prod.mk.injEq] at H
                 obtain ⟨rfl, rfl, rfl⟩ := H
                 have hnb61 := NB589_585.out
                 have hnc61 := NB585_589.out
                 have hnb62 := NB589_586.out
                 have hnc62 := NB586_589.out
                 obtain ⟨hcz63_0, hcz63_1, hfz63_0, hfz63_1⟩ := cZ BK589
                 have hnb64 := NB586_585.out
                 have hnc64 := NB585_586.out
                 obtain ⟨hcz65_0, hcz65_1, hfz65_0, hfz65_1⟩ := cZ BK586
                 obtain ⟨Ao66, co66, eo66⟩ := Kd.S_slice HO_590001.out
                 subst eo66
                 go_wp2
                 refine bodyPost_ret (results_ct rfl _ _ gb586 26 #[.int .i64 a0_0, .slice Ao66 x590001_4.length co66] (0, 0) _ rfl (by (with_reducible repeat (first | refine blk_drewN ?_ _ | refine blk_drew ?_ | refine blk_alloc ?_ _)); refine blk_put (cs := #[.int .i64 a0_0, .slice none 0 0]) ?_ 1 _ rfl; (with_reducible repeat (first | refine blk_drewN ?_ _ | refine blk_drew ?_ | refine blk_alloc ?_ _)); refine blk_put (cs := #[.int .i64 x587000_2, .slice none 0 0]) ?_ 0 _ rfl; (with_reducible repeat (first | refine blk_drewN ?_ _ | refine blk_drew ?_ | refine blk_alloc ?_ _)); exact BK586.out) Try.underlying26 rfl (by kernel_rfl)) rfl ?_
                 exact ⟨_, eW, by (with_reducible repeat (first | apply Kd.S_alloc | apply Kd.S_drewN | apply Kd.S_drew)); exact Kd.S_mono (Kd.S_far (p := ⟨gb586, 1, none⟩) (Kd.S_far (p := ⟨gb586, 0, none⟩) (Kd.S_types HO_590001.out BK586.out (by decide)) (fun _ hk => hk.2) (.int .i64 a0_0)) (fun _ hk => hk.2) (.slice Ao66 x590001_4.length co66)) (fun _ hk => trivial), bB⟩
end Go.Proofs.Ytkkjnmnjbmfpaaa.PFnStatesStep
