-- written by a program of this session (the kit's print with turns of the session's own)
import Derived.Test.YtkkjnmnjbmfpaaaPFnStatesStepx0
import Derived.Test.YtkkjnmnjbmfpaaaHp
import Derived.Test.YtkkjnmnjbmfpaaaPFnStatesStepx5
namespace Go.Proofs.Ytkkjnmnjbmfpaaa.PFnStatesStep
open Go.RowKit Go.Proofs.YtkkjnmnjbmfpaaaW.PrintWords Go.Proofs.YtkkjnmnjbmfpaaaW.PrintLast Go.Proofs.YtkkjnmnjbmfpaaaW.PrintMore
attribute [local go_sem] Instr.field asAgg part max2_int min2_int max_two min_two max_three min_three max_four min_four
set_option linter.unusedVariables false
set_option linter.unusedSimpArgs false
mutual
def spec_saFar.l0 : Nat → Int → List Int → Int → Int → Int → List (List Int) → Option (List Int)
 | 0, _, _, _, _, _, _ => none
 | k + 1, x1, x5, x16, x17, x333000, x333001 => if x17 < x16 then (if 0 ≤ x17 then (if x17 < (x5.length : Int) then (spec_saFar.l0 k x1 (x5.set (x17 : Int).toNat (-1)) x16 (wrap64 (x17 + 1)) x333000 x333001) else (none)) else (none)) else (if 0 ≤ x1 then (if x1 < (x5.length : Int) then (spec_saFar.l1 k (x5.set (x1 : Int).toNat 0) (([x1] : List Int)) 0 x333000 x333001) else (none)) else (none))
def spec_saFar.l1 : Nat → List Int → List Int → Int → Int → List (List Int) → Option (List Int)
 | 0, _, _, _, _, _ => none
 | k + 1, x5, x7, x8, x333000, x333001 => if x8 < (x7.length : Int) then (if 0 ≤ x8 then (if 0 ≤ (rd x7 x8) then (if (rd x7 x8) < (x333001.length : Int) then (spec_saFar.l2 k x5 x7 x8 (rd_L2 x333001 (rd x7 x8)) ((rd_L2 x333001 (rd x7 x8)).length : Int) 0 x333000 x333001) else (none)) else (none)) else (none)) else (some x5)
def spec_saFar.l2 : Nat → List Int → List Int → Int → List Int → Int → Int → Int → List (List Int) → Option (List Int)
 | 0, _, _, _, _, _, _, _, _ => none
 | k + 1, x5, x7, x8, x42, x43, x44, x333000, x333001 => if x44 < x43 then (if 0 ≤ x44 then (if x44 < (x42.length : Int) then (if (rd x42 x44) > 0 then (if x44 < (x5.length : Int) then (if (rd x5 x44) < 0 then (if 0 ≤ x8 then (if x8 < (x7.length : Int) then (if 0 ≤ (rd x7 x8) then (if (rd x7 x8) < (x5.length : Int) then (if x7.length < 17592186044416 then (spec_saFar.l2 k (x5.set (x44 : Int).toNat (wrap64 ((rd x5 (rd x7 x8)) + 1))) (x7 ++ [x44]) x8 x42 x43 (wrap64 (x44 + 1)) x333000 x333001) else (none)) else (none)) else (none)) else (none)) else (none)) else (spec_saFar.l2 k x5 x7 x8 x42 x43 (wrap64 (x44 + 1)) x333000 x333001)) else (none)) else (spec_saFar.l2 k x5 x7 x8 x42 x43 (wrap64 (x44 + 1)) x333000 x333001)) else (none)) else (none)) else (spec_saFar.l1 k x5 x7 (wrap64 (x8 + 1)) x333000 x333001)
end
def spec_saFar.f (k : Nat) (a0_0 : Int) (l0_1 : List (List Int)) (a1 : Int) : Option (List Int) := if 0 ≤ (l0_1.length : Int) then (if ((l0_1.length : Int) : Int).toNat ≤ 35184372088832 then ((some (List.replicate ((l0_1.length : Int) : Int).toNat 0 : List Int)).bind fun y333 => (spec_saFar.l0 k a1 y333 (y333.length : Int) 0 a0_0 l0_1)) else (none)) else (none)
set_option maxHeartbeats 8000000 in
set_option maxRecDepth 100000 in
theorem spec_saFar.calls (k : Nat) (a0_0 : Int) (A0_1 : Option Addr) (c0_1 : Nat) (l0_1 : List (List Int)) (a1 : Int) (r : List Int) (w : World) (hr0_1 : Kd.C (Kd.slice 3 (Kd.int .i64)) w A0_1 l0_1.length l0_1) (hc0_1 : l0_1.length ≤ c0_1) (h : spec_saFar.f k a0_0 l0_1 a1 = some r) :
 Calls Try.prog 45 #[.agg #[.int .i64 a0_0, .slice A0_1 l0_1.length c0_1], .int .i64 a1] w fun e w' => ∃ v0_ : Value, e = .returned (v0_) ∧ Kd.R (Kd.int .i64) 3 w' w.heap.size (fun _ => True) v0_ r ∧ Below w.heap.size w w' := by
 have hu26 := Try.underlying26
 have HR0_1 := am hr0_1
 have HC0_1 := am hc0_1
 clear hr0_1 hc0_1
 have HB := am (Below.refl w.heap.size w)
 have H := h
 clear h
 unfold spec_saFar.f at H
 replace H := ifP H
 obtain ⟨c3, H⟩ := H
 have c3b0 := eq_true c3
 have c3b1 := decide_eq_true c3
 clear c3
 replace H := ifP H
 obtain ⟨c4, H⟩ := H
 have c4b0 := eq_true c4
 have c4b1 := decide_eq_true c4
 clear c4
 generalize hy333 : ((List.replicate ((l0_1.length : Int) : Int).toNat 0) : List Int) = y333 at H
 (try dsimp only [Option.bind_some] at H)
 have Ny333 := am hy333.symm
 clear hy333
 have H' := am H
 clear H
 go_enter Try.func45, Try.ntmps45
 go_wp2_with (first | ((with_reducible refine gate_dst (N := 2) rfl ?_); refine bE 2 #[.int .i64 a0_0, .slice A0_1 l0_1.length c0_1] 26 ?_; intro gb332 hg w5 hbox hb; have BK332 := am (hbox); have GW332 := gW hg; have GE332 := gW hg; replace HB := sB hb; clear hb hbox hg; obtain ⟨hcz6_0, hcz6_1, hfz6_0, hfz6_1⟩ := cZ BK332) | ((with_reducible refine gate_dst (N := 14) rfl ?_); refine Kd.R_make (Kd.int .i64) _ 3 rfl (N := 14) rfl 29 _ _ rfl (l0_1.length : Int) rfl rfl Try.underlying29 (.int .i64 0) 8 info3 rfl (by decide) (by omega) 0 (ok := fun _ => True) (okp := fun _ => True) rfl (fun _ hk => hk) trivial (dT) (Nat.le_trans (Nat.mul_le_mul_right _ (dT : (l0_1.length : Int).toNat ≤ 35184372088832)) (by omega)) (Below.refl _ _) (Nat.le_refl _) ?_; intro v334 w7 ho8 hb hg_ hnew_; clear hg_ hnew_; (first | rw [← Ny333.out] at ho8 | (simp only [Int.reduceToNat] at ho8; rw [← Ny333.out] at ho8)); have HO335 := am (Kd.R_lower ho8 (below_size bB)); replace BK332 := kb BK332 hb; replace HB := sB hb; clear hb ho8; obtain ⟨Ao9, co9, eo9⟩ := Kd.R_slice HO335.out; subst eo9))
 repeat (go_quiet (first | ((with_reducible refine gate_dst (N := 2) rfl ?_); refine bE 2 #[.int .i64 a0_0, .slice A0_1 l0_1.length c0_1] 26 ?_; intro gb332 hg w5 hbox hb; have BK332 := am (hbox); have GW332 := gW hg; have GE332 := gW hg; replace HB := sB hb; clear hb hbox hg; obtain ⟨hcz6_0, hcz6_1, hfz6_0, hfz6_1⟩ := cZ BK332) | ((with_reducible refine gate_dst (N := 14) rfl ?_); refine Kd.R_make (Kd.int .i64) _ 3 rfl (N := 14) rfl 29 _ _ rfl (l0_1.length : Int) rfl rfl Try.underlying29 (.int .i64 0) 8 info3 rfl (by decide) (by omega) 0 (ok := fun _ => True) (okp := fun _ => True) rfl (fun _ hk => hk) trivial (dT) (Nat.le_trans (Nat.mul_le_mul_right _ (dT : (l0_1.length : Int).toNat ≤ 35184372088832)) (by omega)) (Below.refl _ _) (Nat.le_refl _) ?_; intro v334 w7 ho8 hb hg_ hnew_; clear hg_ hnew_; (first | rw [← Ny333.out] at ho8 | (simp only [Int.reduceToNat] at ho8; rw [← Ny333.out] at ho8)); have HO335 := am (Kd.R_lower ho8 (below_size bB)); replace BK332 := kb BK332 hb; replace HB := sB hb; clear hb ho8; obtain ⟨Ao9, co9, eo9⟩ := Kd.R_slice HO335.out; subst eo9)); try go_wp2_with (first | ((with_reducible refine gate_dst (N := 2) rfl ?_); refine bE 2 #[.int .i64 a0_0, .slice A0_1 l0_1.length c0_1] 26 ?_; intro gb332 hg w5 hbox hb; have BK332 := am (hbox); have GW332 := gW hg; have GE332 := gW hg; replace HB := sB hb; clear hb hbox hg; obtain ⟨hcz6_0, hcz6_1, hfz6_0, hfz6_1⟩ := cZ BK332) | ((with_reducible refine gate_dst (N := 14) rfl ?_); refine Kd.R_make (Kd.int .i64) _ 3 rfl (N := 14) rfl 29 _ _ rfl (l0_1.length : Int) rfl rfl Try.underlying29 (.int .i64 0) 8 info3 rfl (by decide) (by omega) 0 (ok := fun _ => True) (okp := fun _ => True) rfl (fun _ hk => hk) trivial (dT) (Nat.le_trans (Nat.mul_le_mul_right _ (dT : (l0_1.length : Int).toNat ≤ 35184372088832)) (by omega)) (Below.refl _ _) (Nat.le_refl _) ?_; intro v334 w7 ho8 hb hg_ hnew_; clear hg_ hnew_; (first | rw [← Ny333.out] at ho8 | (simp only [Int.reduceToNat] at ho8; rw [← Ny333.out] at ho8)); have HO335 := am (Kd.R_lower ho8 (below_size bB)); replace BK332 := kb BK332 hb; replace HB := sB hb; clear hb ho8; obtain ⟨Ao9, co9, eo9⟩ := Kd.R_slice HO335.out; subst eo9)))
 go_loopg [17] k (fun kq v17 w' => ∃ (x5_1 : List Int) (x17_1 : Int), v17 = .int .i64 x17_1 ∧ Aside0 (spec_saFar.l0 kq a1 x5_1 (y333.length : Int) x17_1 a0_0 l0_1 = some r) ∧ Aside0 (kq ≤ k) ∧ Aside0 (Kd.R (Kd.int .i64) 3 w' w.heap.size (fun _ => True) (.slice Ao9 y333.length co9) x5_1) ∧ Aside0 (w'.heap[gb332]? = some (.cells #[.int .i64 a0_0, (.slice A0_1 l0_1.length c0_1)] 26 (0, 0))) ∧ Aside0 (Below w.heap.size w w'))
 case atStart => exact ⟨(y333), (0), sR, H', ⟨Nat.le_refl _⟩, ⟨rP HO335⟩, ⟨bP BK332⟩, ⟨bB⟩⟩
 case round =>
  clear H'
  obtain ⟨x5_1, x17_1, rfl, HA, HK1, HO_5, BK332, HB⟩ := hrel
  have hl5_1 := (Kd.R_reads' HO_5.out).1
  rw [hl5_1] at HO_5
  (try simp only [hl5_1])
  (try simp only [hl5_1] at BK332)
  cases gk with
  | zero => exact absurd HA.out (by simp [spec_saFar.l0])
  | succ k1 =>
   have H := HA.out
   clear HA
   simp only [spec_saFar.l0] at H
   by_cases c10 : x17_1 < (y333.length : Int)
   · rw [if_pos c10] at H
     have c10b0 := decide_eq_true c10
     (try (have c10b0x5_1 : decide (x17_1 < (x5_1.length : Int)) = true := decide_eq_true (by have h_ := hl5_1; omega)))
     clear c10
     replace H := ifP H
     obtain ⟨c11, H⟩ := H
     have c11b0 := decide_eq_true c11
     clear c11
     replace H := ifP H
     obtain ⟨c12, H⟩ := H
     have c12b0 := decide_eq_true c12
     clear c12
     generalize hy336 : ((x5_1.set (x17_1 : Int).toNat (-1)) : List Int) = y336 at H
     (try dsimp only [Option.bind_some] at H)
     have Ny336 := am hy336.symm
     clear hy336
     have H' := am H
     clear H
     have p13 : 0 ≤ (x17_1 : Int) := dT
     have q13 : (x17_1 : Int) < ((x5_1.length : Int) : Int) := dT
     obtain ⟨go13, co13, eo13, gb13, gl13, cl13, HG13⟩ := Kd.R_form HO_5.out (by omega)
     (first | cases eo13 | (injection eo13 with ea_ en_ ec_; (first | subst ea_ | (injection ea_ with ea_; subst ea_)); subst ec_; clear en_))
     have GB13 := am gb13
     have GG13 := am HG13
     clear gb13 gl13 HG13
     obtain ⟨hx13_0, hf13_0⟩ := Kd.R_celln 0 HO_5.out (x17_1 : Int) p13 q13
     replace p13 := eq_true p13
     replace q13 := eq_true q13
     have HP14 := Kd.R_putg HO_5.out (x17_1 : Int) (-1)
     go_wp2_with (first | ((with_reducible refine gate_store (t := 3) (p := 22) rfl ?_); (try (rw [drewN_self wr]; generalize hq_ : World.drewN wr _ = wr; replace HO_5 := am (Kd.R_at hq_ HO_5.out); replace BK332 := am (blk_at hq_ BK332.out); replace HB := am (below_at hq_ HB.out); clear hq_; (try (have HP14 := Kd.R_putg HO_5.out (x17_1 : Int) (-1))))); refine store_event (t := 3) (p := 22) (v := ?vo_w15) (w1 := (wr.setCell ⟨go13, (x17_1 : Int).toNat, none⟩ (.int .i64 (-1)))) ?hg ?ho ?hn ?hr ?_; (case ho => rfl); (case hg => rfl); (case hn => rfl); (case hr => first | (go_simp; done) | (go_simp; rfl)); intro w15 hw; have hg : wr.grownBy w15 (some go13) := (by rw [hw]; exact HP14.2); have hp_ : Kd.R (Kd.int .i64) 3 w15 w.heap.size (fun _ => True) (.slice (some ⟨go13, 0, none⟩) x5_1.length co9) y336 := (by rw [hw, Ny336.out]; exact HP14.1); clear HP14; replace BK332 := (kg BK332 hg (Kd.R_ne HO_5.out BK332.out (by decide))); replace HO_5 := am (hp_); replace HB := am ((by rw [hw]; exact below_set (HB.out) GB13.out : Below w.heap.size w w15)); clear hg hw hp_))
     repeat (go_quiet (first | ((with_reducible refine gate_store (t := 3) (p := 22) rfl ?_); (try (rw [drewN_self wr]; generalize hq_ : World.drewN wr _ = wr; replace HO_5 := am (Kd.R_at hq_ HO_5.out); replace BK332 := am (blk_at hq_ BK332.out); replace HB := am (below_at hq_ HB.out); clear hq_; (try (have HP14 := Kd.R_putg HO_5.out (x17_1 : Int) (-1))))); refine store_event (t := 3) (p := 22) (v := ?vo_w15) (w1 := (wr.setCell ⟨go13, (x17_1 : Int).toNat, none⟩ (.int .i64 (-1)))) ?hg ?ho ?hn ?hr ?_; (case ho => rfl); (case hg => rfl); (case hn => rfl); (case hr => first | (go_simp; done) | (go_simp; rfl)); intro w15 hw; have hg : wr.grownBy w15 (some go13) := (by rw [hw]; exact HP14.2); have hp_ : Kd.R (Kd.int .i64) 3 w15 w.heap.size (fun _ => True) (.slice (some ⟨go13, 0, none⟩) x5_1.length co9) y336 := (by rw [hw, Ny336.out]; exact HP14.1); clear HP14; replace BK332 := (kg BK332 hg (Kd.R_ne HO_5.out BK332.out (by decide))); replace HO_5 := am (hp_); replace HB := am ((by rw [hw]; exact below_set (HB.out) GB13.out : Below w.heap.size w w15)); clear hg hw hp_)); try go_wp2_with (first | ((with_reducible refine gate_store (t := 3) (p := 22) rfl ?_); (try (rw [drewN_self wr]; generalize hq_ : World.drewN wr _ = wr; replace HO_5 := am (Kd.R_at hq_ HO_5.out); replace BK332 := am (blk_at hq_ BK332.out); replace HB := am (below_at hq_ HB.out); clear hq_; (try (have HP14 := Kd.R_putg HO_5.out (x17_1 : Int) (-1))))); refine store_event (t := 3) (p := 22) (v := ?vo_w15) (w1 := (wr.setCell ⟨go13, (x17_1 : Int).toNat, none⟩ (.int .i64 (-1)))) ?hg ?ho ?hn ?hr ?_; (case ho => rfl); (case hg => rfl); (case hn => rfl); (case hr => first | (go_simp; done) | (go_simp; rfl)); intro w15 hw; have hg : wr.grownBy w15 (some go13) := (by rw [hw]; exact HP14.2); have hp_ : Kd.R (Kd.int .i64) 3 w15 w.heap.size (fun _ => True) (.slice (some ⟨go13, 0, none⟩) x5_1.length co9) y336 := (by rw [hw, Ny336.out]; exact HP14.1); clear HP14; replace BK332 := (kg BK332 hg (Kd.R_ne HO_5.out BK332.out (by decide))); replace HO_5 := am (hp_); replace HB := am ((by rw [hw]; exact below_set (HB.out) GB13.out : Below w.heap.size w w15)); clear hg hw hp_)))
     (try simp only [← hl5_1])
     go_roundg k1
     case measure => have := HK1.out; omega
     case rel => exact ⟨(y336), (wrap64 (x17_1 + 1)), sR, H', ⟨oK⟩, ⟨by (try simp only [hl5_1]); (with_reducible repeat (first | apply Kd.R_alloc | apply Kd.R_drewN | apply Kd.R_drew)); exact HO_5.out⟩, ⟨by (try simp only [hl5_1]); (with_reducible repeat (first | refine blk_drewN ?_ _ | refine blk_drew ?_ | refine blk_alloc ?_ _)); exact BK332.out⟩, ⟨bB⟩⟩
   · rw [if_neg c10] at H
     have c10b0 := decide_eq_false c10
     (try (have c10b0x5_1 : decide (x17_1 < (x5_1.length : Int)) = false := decide_eq_false (by have h_ := hl5_1; omega)))
     clear c10
     replace H := ifP H
     obtain ⟨c16, H⟩ := H
     have c16b0 := decide_eq_true c16
     clear c16
     replace H := ifP H
     obtain ⟨c17, H⟩ := H
     have c17b0 := decide_eq_true c17
     clear c17
     generalize hy337 : ((x5_1.set (a1 : Int).toNat 0) : List Int) = y337 at H
     (try dsimp only [Option.bind_some] at H)
     have Ny337 := am hy337.symm
     clear hy337
     generalize hy338 : ((([a1] : List Int)) : List Int) = y338 at H
     (try dsimp only [Option.bind_some] at H)
     have Ny338 := am hy338.symm
     clear hy338
     have H' := am H
     clear H
     have p18 : 0 ≤ (a1 : Int) := dT
     have q18 : (a1 : Int) < ((x5_1.length : Int) : Int) := dT
     obtain ⟨go18, co18, eo18, gb18, gl18, cl18, HG18⟩ := Kd.R_form HO_5.out (by omega)
     (first | cases eo18 | (injection eo18 with ea_ en_ ec_; (first | subst ea_ | (injection ea_ with ea_; subst ea_)); subst ec_; clear en_))
     have GB18 := am gb18
     have GG18 := am HG18
     clear gb18 gl18 HG18
     obtain ⟨hx18_0, hf18_0⟩ := Kd.R_celln 0 HO_5.out (a1 : Int) p18 q18
     replace p18 := eq_true p18
     replace q18 := eq_true q18
     have HP19 := Kd.R_putg HO_5.out (a1 : Int) 0
     go_wp2_with (first | ((with_reducible refine gate_store (t := 3) (p := 26) rfl ?_); (try (rw [drewN_self wr]; generalize hq_ : World.drewN wr _ = wr; replace HO_5 := am (Kd.R_at hq_ HO_5.out); replace BK332 := am (blk_at hq_ BK332.out); replace HB := am (below_at hq_ HB.out); clear hq_; (try (have HP19 := Kd.R_putg HO_5.out (a1 : Int) 0)))); refine store_event (t := 3) (p := 26) (v := ?vo_w20) (w1 := (wr.setCell ⟨go18, (a1 : Int).toNat, none⟩ (.int .i64 0))) ?hg ?ho ?hn ?hr ?_; (case ho => rfl); (case hg => rfl); (case hn => rfl); (case hr => first | (go_simp; done) | (go_simp; rfl)); intro w20 hw; have hg : wr.grownBy w20 (some go18) := (by rw [hw]; exact HP19.2); have hp_ : Kd.R (Kd.int .i64) 3 w20 w.heap.size (fun _ => True) (.slice (some ⟨go18, 0, none⟩) x5_1.length co9) y337 := (by rw [hw, Ny337.out]; exact HP19.1); clear HP19; replace BK332 := (kg BK332 hg (Kd.R_ne HO_5.out BK332.out (by decide))); replace HO_5 := am (hp_); replace HB := am ((by rw [hw]; exact below_set (HB.out) GB18.out : Below w.heap.size w w20)); clear hg hw hp_) | ((with_reducible refine gate_dst (N := 28) rfl ?_); refine Kd.R_lit (Kd.int .i64) _ 3 ?hg (N := 28) ?hd (xs := ([a1] : List Int)) (inner := [.int .i64 a1]) (ok := fun _ => True) (okp := fun _ => True) ?hr ?hp (fun _ hk => hk) trivial (Below.refl _ _) (Nat.le_refl _) (by simp) ?_; (case hd => rfl); (case hg => rfl); (case hr => first | (go_simp; done) | (go_simp; rfl)); (case hp => exact (Reps.one (show Kd.M (Kd.int .i64) _ _ _ a1 [.int .i64 a1] from rfl) (Reps.none _ _))); intro v339 w21 ho22 hb hg_ hnew_; clear hg_ hnew_; (first | rw [← Ny338.out] at ho22 | (simp only [Int.reduceToNat] at ho22; rw [← Ny338.out] at ho22)); have HO340 := am (Kd.R_lower (Kd.R_new' ho22 (Kd.R_lt (rP HO_5))) (below_size bB)); replace HO_5 := eR HO_5 ho22 hb; replace BK332 := kb BK332 hb; replace HB := sB hb; clear hb ho22))
     repeat (go_quiet (first | ((with_reducible refine gate_store (t := 3) (p := 26) rfl ?_); (try (rw [drewN_self wr]; generalize hq_ : World.drewN wr _ = wr; replace HO_5 := am (Kd.R_at hq_ HO_5.out); replace BK332 := am (blk_at hq_ BK332.out); replace HB := am (below_at hq_ HB.out); clear hq_; (try (have HP19 := Kd.R_putg HO_5.out (a1 : Int) 0)))); refine store_event (t := 3) (p := 26) (v := ?vo_w20) (w1 := (wr.setCell ⟨go18, (a1 : Int).toNat, none⟩ (.int .i64 0))) ?hg ?ho ?hn ?hr ?_; (case ho => rfl); (case hg => rfl); (case hn => rfl); (case hr => first | (go_simp; done) | (go_simp; rfl)); intro w20 hw; have hg : wr.grownBy w20 (some go18) := (by rw [hw]; exact HP19.2); have hp_ : Kd.R (Kd.int .i64) 3 w20 w.heap.size (fun _ => True) (.slice (some ⟨go18, 0, none⟩) x5_1.length co9) y337 := (by rw [hw, Ny337.out]; exact HP19.1); clear HP19; replace BK332 := (kg BK332 hg (Kd.R_ne HO_5.out BK332.out (by decide))); replace HO_5 := am (hp_); replace HB := am ((by rw [hw]; exact below_set (HB.out) GB18.out : Below w.heap.size w w20)); clear hg hw hp_) | ((with_reducible refine gate_dst (N := 28) rfl ?_); refine Kd.R_lit (Kd.int .i64) _ 3 ?hg (N := 28) ?hd (xs := ([a1] : List Int)) (inner := [.int .i64 a1]) (ok := fun _ => True) (okp := fun _ => True) ?hr ?hp (fun _ hk => hk) trivial (Below.refl _ _) (Nat.le_refl _) (by simp) ?_; (case hd => rfl); (case hg => rfl); (case hr => first | (go_simp; done) | (go_simp; rfl)); (case hp => exact (Reps.one (show Kd.M (Kd.int .i64) _ _ _ a1 [.int .i64 a1] from rfl) (Reps.none _ _))); intro v339 w21 ho22 hb hg_ hnew_; clear hg_ hnew_; (first | rw [← Ny338.out] at ho22 | (simp only [Int.reduceToNat] at ho22; rw [← Ny338.out] at ho22)); have HO340 := am (Kd.R_lower (Kd.R_new' ho22 (Kd.R_lt (rP HO_5))) (below_size bB)); replace HO_5 := eR HO_5 ho22 hb; replace BK332 := kb BK332 hb; replace HB := sB hb; clear hb ho22)); try go_wp2_with (first | ((with_reducible refine gate_store (t := 3) (p := 26) rfl ?_); (try (rw [drewN_self wr]; generalize hq_ : World.drewN wr _ = wr; replace HO_5 := am (Kd.R_at hq_ HO_5.out); replace BK332 := am (blk_at hq_ BK332.out); replace HB := am (below_at hq_ HB.out); clear hq_; (try (have HP19 := Kd.R_putg HO_5.out (a1 : Int) 0)))); refine store_event (t := 3) (p := 26) (v := ?vo_w20) (w1 := (wr.setCell ⟨go18, (a1 : Int).toNat, none⟩ (.int .i64 0))) ?hg ?ho ?hn ?hr ?_; (case ho => rfl); (case hg => rfl); (case hn => rfl); (case hr => first | (go_simp; done) | (go_simp; rfl)); intro w20 hw; have hg : wr.grownBy w20 (some go18) := (by rw [hw]; exact HP19.2); have hp_ : Kd.R (Kd.int .i64) 3 w20 w.heap.size (fun _ => True) (.slice (some ⟨go18, 0, none⟩) x5_1.length co9) y337 := (by rw [hw, Ny337.out]; exact HP19.1); clear HP19; replace BK332 := (kg BK332 hg (Kd.R_ne HO_5.out BK332.out (by decide))); replace HO_5 := am (hp_); replace HB := am ((by rw [hw]; exact below_set (HB.out) GB18.out : Below w.heap.size w w20)); clear hg hw hp_) | ((with_reducible refine gate_dst (N := 28) rfl ?_); refine Kd.R_lit (Kd.int .i64) _ 3 ?hg (N := 28) ?hd (xs := ([a1] : List Int)) (inner := [.int .i64 a1]) (ok := fun _ => True) (okp := fun _ => True) ?hr ?hp (fun _ hk => hk) trivial (Below.refl _ _) (Nat.le_refl _) (by simp) ?_; (case hd => rfl); (case hg => rfl); (case hr => first | (go_simp; done) | (go_simp; rfl)); (case hp => exact (Reps.one (show Kd.M (Kd.int .i64) _ _ _ a1 [.int .i64 a1] from rfl) (Reps.none _ _))); intro v339 w21 ho22 hb hg_ hnew_; clear hg_ hnew_; (first | rw [← Ny338.out] at ho22 | (simp only [Int.reduceToNat] at ho22; rw [← Ny338.out] at ho22)); have HO340 := am (Kd.R_lower (Kd.R_new' ho22 (Kd.R_lt (rP HO_5))) (below_size bB)); replace HO_5 := eR HO_5 ho22 hb; replace BK332 := kb BK332 hb; replace HB := sB hb; clear hb ho22)))
     go_loopg [7, 8] k1 (fun kq v7 v8 w' => ∃ (x5_2 : List Int) (x7_2 : List Int) (x8_2 : Int), v8 = .int .i64 x8_2 ∧ Aside0 (spec_saFar.l1 kq x5_2 x7_2 x8_2 a0_0 l0_1 = some r) ∧ Aside0 (kq ≤ k1) ∧ Aside0 (Kd.R (Kd.int .i64) 3 w' w.heap.size (fun k_ => some k_ ≠ (v7 : Value).ownBlock) (.slice (some ⟨go18, 0, none⟩) x5_1.length co9) x5_2) ∧ Aside0 (Kd.R (Kd.int .i64) 3 w' w.heap.size (fun k_ => some k_ ≠ ((.slice (some ⟨go18, 0, none⟩) x5_1.length co9) : Value).ownBlock) v7 x7_2) ∧ Aside0 (w'.heap[gb332]? = some (.cells #[.int .i64 a0_0, (.slice A0_1 l0_1.length c0_1)] 26 (0, 0))) ∧ Aside0 (Below w.heap.size w w'))
     case atStart => exact ⟨(y337), (y338), (0), sR, H', ⟨Nat.le_refl _⟩, ⟨by (try simp only [hl5_1]); (with_reducible repeat (first | apply Kd.R_alloc | apply Kd.R_drewN | apply Kd.R_drew)); exact Kd.R_mono HO_5.out (fun _ hk => hk.2)⟩, ⟨by (try simp only [hl5_1]); (with_reducible repeat (first | apply Kd.R_alloc | apply Kd.R_drewN | apply Kd.R_drew)); exact Kd.R_mono HO340.out (fun _ hk => hk.2)⟩, ⟨by (try simp only [hl5_1]); (with_reducible repeat (first | refine blk_drewN ?_ _ | refine blk_drew ?_ | refine blk_alloc ?_ _)); exact BK332.out⟩, ⟨bB⟩⟩
     case round =>
      clear H'
      obtain ⟨x5_2, x7_2, x8_2, rfl, HA, HK2, HO_5, HO_7, BK332, HB⟩ := hrel
      have hl5_2 := (Kd.R_reads' HO_5.out).1
      rw [hl5_2] at HO_5
      (try simp only [hl5_2])
      (try simp only [hl5_2] at BK332)
      (try simp only [hl5_2] at HO_7)
      cases gk with
      | zero => exact absurd HA.out (by simp [spec_saFar.l1])
      | succ k2 =>
       have H := HA.out
       clear HA
       simp only [spec_saFar.l1] at H
       by_cases c23 : x8_2 < (x7_2.length : Int)
       · rw [if_pos c23] at H
         have c23b0 := decide_eq_true c23
         (try (have c23b0x5_1 : decide (x8_2 < (x5_1.length : Int)) = true := decide_eq_true (by have h_ := hl5_1; omega)))
         (try (have c23b0x5_2 : decide (x8_2 < (x5_2.length : Int)) = true := decide_eq_true (by have h_ := hl5_2; omega)))
         clear c23
         replace H := ifP H
         obtain ⟨c24, H⟩ := H
         have c24b0 := decide_eq_true c24
         clear c24
         replace H := ifP H
         obtain ⟨c25, H⟩ := H
         have c25b0 := decide_eq_true c25
         clear c25
         replace H := ifP H
         obtain ⟨c26, H⟩ := H
         have c26b0 := decide_eq_true c26
         (try (have c26b0x5_1 : decide ((rd x7_2 x8_2) < (x5_1.length : Int)) = true := decide_eq_true (by have h_ := hl5_1; omega)))
         (try (have c26b0x5_2 : decide ((rd x7_2 x8_2) < (x5_2.length : Int)) = true := decide_eq_true (by have h_ := hl5_2; omega)))
         clear c26
         have H' := am H
         clear H
         obtain ⟨Ao27, co27, eo27⟩ := Kd.R_slice HO_7.out
         subst eo27
         obtain ⟨hcz28_0, hcz28_1, hfz28_0, hfz28_1⟩ := cZ BK332
         have p341 : 0 ≤ (x8_2 : Int) := dT
         have q341 : x8_2 < (x7_2.length : Int) := dT
         obtain ⟨ad341, e341, hx341_0⟩ := Kd.at_int (Kd.R_reads' HO_7.out).2.2 x8_2 p341 q341
         cases e341
         replace p341 := eq_true p341
         replace q341 := eq_true q341
         have p342 : 0 ≤ ((rd x7_2 x8_2) : Int) := dT
         have q342 : (rd x7_2 x8_2) < (l0_1.length : Int) := dT
         obtain ⟨ad342, A342_0, c342_0, e342, hx342_0, hl342_0, hi342_0⟩ := at_L2 HR0_1.out (rd x7_2 x8_2) p342 q342
         cases e342
         replace hx342_0 := (HB.out.cell (World.block_lt_of_cell? w _ hx342_0)).trans hx342_0
         have HR342_0 := am hi342_0
         have HC342_0 := am hl342_0
         clear hi342_0 hl342_0
         replace p342 := eq_true p342
         replace q342 := eq_true q342
         go_wp2
         repeat (go_quiet (fail); try go_wp2)
         go_loopg [7, 44] k2 (fun kq v7 v44 w' => ∃ (x5_3 : List Int) (x7_3 : List Int) (x44_3 : Int), v44 = .int .i64 x44_3 ∧ Aside0 (spec_saFar.l2 kq x5_3 x7_3 x8_2 (rd_L2 l0_1 (rd x7_2 x8_2)) ((rd_L2 l0_1 (rd x7_2 x8_2)).length : Int) x44_3 a0_0 l0_1 = some r) ∧ Aside0 (kq ≤ k2) ∧ Aside0 (Kd.R (Kd.int .i64) 3 w' w.heap.size (fun k_ => some k_ ≠ (v7 : Value).ownBlock) (.slice (some ⟨go18, 0, none⟩) x5_2.length co9) x5_3) ∧ Aside0 (Kd.R (Kd.int .i64) 3 w' w.heap.size (fun k_ => some k_ ≠ ((.slice (some ⟨go18, 0, none⟩) x5_2.length co9) : Value).ownBlock) v7 x7_3) ∧ Aside0 (w'.heap[gb332]? = some (.cells #[.int .i64 a0_0, (.slice (some ad342) l0_1.length c0_1)] 26 (0, 0))) ∧ Aside0 (Below w.heap.size w w'))
         case atStart => exact ⟨(x5_2), (x7_2), (0), sR, H', ⟨Nat.le_refl _⟩, ⟨by (try simp only [hl5_1]); (try simp only [hl5_2]); (with_reducible repeat (first | apply Kd.R_alloc | apply Kd.R_drewN | apply Kd.R_drew)); exact HO_5.out⟩, ⟨by (try simp only [hl5_1]); (try simp only [hl5_2]); (with_reducible repeat (first | apply Kd.R_alloc | apply Kd.R_drewN | apply Kd.R_drew)); exact HO_7.out⟩, ⟨by (try simp only [hl5_1]); (try simp only [hl5_2]); (with_reducible repeat (first | refine blk_drewN ?_ _ | refine blk_drew ?_ | refine blk_alloc ?_ _)); exact BK332.out⟩, ⟨bB⟩⟩
         case round =>
          clear H'
          obtain ⟨x5_3, x7_3, x44_3, rfl, HA, HK3, HO_5, HO_7, BK332, HB⟩ := hrel
          have hl5_3 := (Kd.R_reads' HO_5.out).1
          rw [hl5_3] at HO_5
          (try simp only [hl5_3])
          (try simp only [hl5_3] at BK332)
          (try simp only [hl5_3] at HO_7)
          cases gk with
          | zero => exact absurd HA.out (by simp [spec_saFar.l2])
          | succ k3 =>
           have H := HA.out
           clear HA
           simp only [spec_saFar.l2] at H
           by_cases c29 : x44_3 < ((rd_L2 l0_1 (rd x7_2 x8_2)).length : Int)
           · rw [if_pos c29] at H
             have c29b0 := decide_eq_true c29
             clear c29
             replace H := ifP H
             obtain ⟨c30, H⟩ := H
             have c30b0 := decide_eq_true c30
             clear c30
             replace H := ifP H
             obtain ⟨c31, H⟩ := H
             have c31b0 := decide_eq_true c31
             clear c31
             by_cases c32 : (rd (rd_L2 l0_1 (rd x7_2 x8_2)) x44_3) > 0
             · rw [if_pos c32] at H
               have c32b0 : decide (0 < (rd (rd_L2 l0_1 (rd x7_2 x8_2)) x44_3)) = true := decide_eq_true c32
               clear c32
               replace H := ifP H
               obtain ⟨c33, H⟩ := H
               have c33b0 := decide_eq_true c33
               (try (have c33b0x5_1 : decide (x44_3 < (x5_1.length : Int)) = true := decide_eq_true (by have h_ := hl5_1; omega)))
               (try (have c33b0x5_2 : decide (x44_3 < (x5_2.length : Int)) = true := decide_eq_true (by have h_ := hl5_2; omega)))
               clear c33
               by_cases c34 : (rd x5_3 x44_3) < 0
               · rw [if_pos c34] at H
                 have c34b0 := decide_eq_true c34
                 clear c34
                 replace H := ifP H
                 obtain ⟨c35, H⟩ := H
                 have c35b0 := decide_eq_true c35
                 clear c35
                 replace H := ifP H
                 obtain ⟨c36, H⟩ := H
                 have c36b0 := decide_eq_true c36
                 (try (have c36b0x5_1 : decide (x8_2 < (x5_1.length : Int)) = true := decide_eq_true (by have h_ := hl5_1; omega)))
                 (try (have c36b0x5_2 : decide (x8_2 < (x5_2.length : Int)) = true := decide_eq_true (by have h_ := hl5_2; omega)))
                 (try (have c36b0x5_3 : decide (x8_2 < (x5_3.length : Int)) = true := decide_eq_true (by have h_ := hl5_3; omega)))
                 clear c36
                 replace H := ifP H
                 obtain ⟨c37, H⟩ := H
                 have c37b0 := decide_eq_true c37
                 clear c37
                 replace H := ifP H
                 obtain ⟨c38, H⟩ := H
                 have c38b0 := decide_eq_true c38
                 (try (have c38b0x5_1 : decide ((rd x7_3 x8_2) < (x5_1.length : Int)) = true := decide_eq_true (by have h_ := hl5_1; omega)))
                 (try (have c38b0x5_2 : decide ((rd x7_3 x8_2) < (x5_2.length : Int)) = true := decide_eq_true (by have h_ := hl5_2; omega)))
                 clear c38
                 generalize hy347 : ((x5_3.set (x44_3 : Int).toNat (wrap64 ((rd x5_3 (rd x7_3 x8_2)) + 1))) : List Int) = y347 at H
                 (try dsimp only [Option.bind_some] at H)
                 have Ny347 := am hy347.symm
                 clear hy347
                 replace H := ifP H
                 obtain ⟨c40, H⟩ := H
                 have LMc40 := am c40
                 clear c40
                 generalize hy348 : ((x7_3 ++ [x44_3]) : List Int) = y348 at H
                 (try dsimp only [Option.bind_some] at H)
                 have Ny348 := am hy348.symm
                 clear hy348
                 have H' := am H
                 clear H
                 have p343 : 0 ≤ (x44_3 : Int) := dT
                 have q343 : x44_3 < ((rd_L2 l0_1 (rd x7_2 x8_2)).length : Int) := dT
                 obtain ⟨ad343, e343, hx343_0⟩ := Kd.at_int HR342_0.out x44_3 p343 q343
                 cases e343
                 replace hx343_0 := (HB.out.cell (World.block_lt_of_cell? w _ hx343_0)).trans hx343_0
                 replace p343 := eq_true p343
                 replace q343 := eq_true q343
                 have p344 : 0 ≤ (x44_3 : Int) := dT
                 have q344 : x44_3 < (x5_3.length : Int) := dT
                 obtain ⟨ad344, e344, hx344_0⟩ := Kd.at_int (Kd.R_reads' HO_5.out).2.2 x44_3 p344 q344
                 obtain rfl : (⟨go18, 0, none⟩ : Addr) = ad344 := (by injection e344)
                 (first | simp only [add_plain] at hx344_0 | simp only [add_at] at hx344_0 | simp only [Addr.add, Nat.zero_add] at hx344_0 | skip)
                 replace p344 := eq_true p344
                 replace q344 := eq_true q344
                 obtain ⟨Ao41, co41, eo41⟩ := Kd.R_slice HO_7.out
                 subst eo41
                 have p345 : 0 ≤ (x8_2 : Int) := dT
                 have q345 : x8_2 < (x7_3.length : Int) := dT
                 obtain ⟨ad345, e345, hx345_0⟩ := Kd.at_int (Kd.R_reads' HO_7.out).2.2 x8_2 p345 q345
                 cases e345
                 replace p345 := eq_true p345
                 replace q345 := eq_true q345
                 have p346 : 0 ≤ ((rd x7_3 x8_2) : Int) := dT
                 have q346 : (rd x7_3 x8_2) < (x5_3.length : Int) := dT
                 obtain ⟨ad346, e346, hx346_0⟩ := Kd.at_int (Kd.R_reads' HO_5.out).2.2 (rd x7_3 x8_2) p346 q346
                 obtain rfl : (⟨go18, 0, none⟩ : Addr) = ad346 := (by injection e346)
                 (first | simp only [add_plain] at hx346_0 | simp only [add_at] at hx346_0 | simp only [Addr.add, Nat.zero_add] at hx346_0 | skip)
                 replace p346 := eq_true p346
                 replace q346 := eq_true q346
                 have p39 : 0 ≤ (x44_3 : Int) := dT
                 have q39 : (x44_3 : Int) < ((x5_3.length : Int) : Int) := dT
                 obtain ⟨hx39_0, hf39_0⟩ := Kd.R_celln 0 HO_5.out (x44_3 : Int) p39 q39
                 replace p39 := eq_true p39
                 replace q39 := eq_true q39
                 have HP42 := Kd.R_putg HO_5.out (x44_3 : Int) (wrap64 ((rd x5_3 (rd x7_3 x8_2)) + 1))
                 go_wp2_with (first | ((with_reducible refine gate_store (t := 3) (p := 68) rfl ?_); (try (rw [drewN_self wr]; generalize hq_ : World.drewN wr _ = wr; replace HO_5 := am (Kd.R_at hq_ HO_5.out); replace HO_7 := am (Kd.R_at hq_ HO_7.out); replace BK332 := am (blk_at hq_ BK332.out); replace HB := am (below_at hq_ HB.out); clear hq_; (try (have HP42 := Kd.R_putg HO_5.out (x44_3 : Int) (wrap64 ((rd x5_3 (rd x7_3 x8_2)) + 1)))))); refine store_event (t := 3) (p := 68) (v := ?vo_w43) (w1 := (wr.setCell ⟨go18, (x44_3 : Int).toNat, none⟩ (.int .i64 (wrap64 ((rd x5_3 (rd x7_3 x8_2)) + 1))))) ?hg ?ho ?hn ?hr ?_; (case ho => rfl); (case hg => rfl); (case hn => rfl); (case hr => first | (go_simp; done) | (go_simp; rfl)); intro w43 hw; have hg : wr.grownBy w43 (some go18) := (by rw [hw]; exact HP42.2); have hp_ : Kd.R (Kd.int .i64) 3 w43 w.heap.size (fun k_ => some k_ ≠ (.slice (some ad345) x7_3.length co41 : Value).ownBlock) (.slice (some ⟨go18, 0, none⟩) x5_3.length co9) y347 := (by rw [hw, Ny347.out]; exact HP42.1); clear HP42; replace HO_7 := am (Kd.R_after (v := (.slice (some ⟨go18, 0, none⟩) x5_3.length co9)) (v1 := (.slice (some ⟨go18, 0, none⟩) x5_3.length co9)) (ok := (fun _ => True)) (by (with_reducible repeat (first | apply Kd.R_alloc | apply Kd.R_drewN | apply Kd.R_drew)); exact Kd.R_mono HO_7.out (fun _ hk => ⟨trivial, hk⟩)) hg (.inl rfl)); replace BK332 := (kg BK332 hg (Kd.R_ne HO_5.out BK332.out (by decide))); replace HO_5 := am (hp_); replace HB := am ((by rw [hw]; exact below_set (HB.out) GB18.out : Below w.heap.size w w43)); clear hg hw hp_) | ((with_reducible refine gate_builtin (b := .append) (xs := #[.tmp 69, .tmp 71]) rfl ?_); at_builtin; refine Kd.R_append (Kd.int .i64) (w0 := w) w.heap.size rfl (.tmp 69) (.tmp 71) 29 3 (.int .i64 0) 8 rfl Try.underlying29 info3 rfl (by decide) (by omega) (.slice (some ad345) x7_3.length co41) x7_3 x44_3 [.int .i64 x44_3] (fun k_ => some k_ ≠ (.slice (some ⟨go18, 0, none⟩) x5_3.length co9 : Value).ownBlock) (fun _ => False) rfl rfl ?aP (fun _ hk => hk.elim) ?aF ?aO ?aB ?aS ?aL ?_; (case aP => exact rfl); (case aB => exact bB); (case aF => exact (fun k_ hk => Kd.fresh' (Kd.R_lt (rP HO_5)) k_ hk)); (case aO => exact (rF (Kd.R_mono HO_7.out (fun _ hk => hk.2)))); (case aS => exact (below_size bB)); (case aL => have := LMc40.out; omega); intro v349 w44 ho hb hg hat; rw [← Ny348.out] at ho; replace HO_5 := am (Kd.R_after (ok := (fun _ => True)) (by (with_reducible repeat (first | apply Kd.R_alloc | apply Kd.R_drewN | apply Kd.R_drew)); exact Kd.R_mono HO_5.out (fun _ hk => ⟨trivial, hk⟩)) hg hat); replace BK332 := (kg BK332 hg (Kd.R_ne HO_7.out BK332.out (by decide))); replace HB := am (hb); have HO350 := am (ho); clear HO_7; clear ho hb hg hat))
                 repeat (go_quiet (first | ((with_reducible refine gate_store (t := 3) (p := 68) rfl ?_); (try (rw [drewN_self wr]; generalize hq_ : World.drewN wr _ = wr; replace HO_5 := am (Kd.R_at hq_ HO_5.out); replace HO_7 := am (Kd.R_at hq_ HO_7.out); replace BK332 := am (blk_at hq_ BK332.out); replace HB := am (below_at hq_ HB.out); clear hq_; (try (have HP42 := Kd.R_putg HO_5.out (x44_3 : Int) (wrap64 ((rd x5_3 (rd x7_3 x8_2)) + 1)))))); refine store_event (t := 3) (p := 68) (v := ?vo_w43) (w1 := (wr.setCell ⟨go18, (x44_3 : Int).toNat, none⟩ (.int .i64 (wrap64 ((rd x5_3 (rd x7_3 x8_2)) + 1))))) ?hg ?ho ?hn ?hr ?_; (case ho => rfl); (case hg => rfl); (case hn => rfl); (case hr => first | (go_simp; done) | (go_simp; rfl)); intro w43 hw; have hg : wr.grownBy w43 (some go18) := (by rw [hw]; exact HP42.2); have hp_ : Kd.R (Kd.int .i64) 3 w43 w.heap.size (fun k_ => some k_ ≠ (.slice (some ad345) x7_3.length co41 : Value).ownBlock) (.slice (some ⟨go18, 0, none⟩) x5_3.length co9) y347 := (by rw [hw, Ny347.out]; exact HP42.1); clear HP42; replace HO_7 := am (Kd.R_after (v := (.slice (some ⟨go18, 0, none⟩) x5_3.length co9)) (v1 := (.slice (some ⟨go18, 0, none⟩) x5_3.length co9)) (ok := (fun _ => True)) (by (with_reducible repeat (first | apply Kd.R_alloc | apply Kd.R_drewN | apply Kd.R_drew)); exact Kd.R_mono HO_7.out (fun _ hk => ⟨trivial, hk⟩)) hg (.inl rfl)); replace BK332 := (kg BK332 hg (Kd.R_ne HO_5.out BK332.out (by decide))); replace HO_5 := am (hp_); replace HB := am ((by rw [hw]; exact below_set (HB.out) GB18.out : Below w.heap.size w w43)); clear hg hw hp_) | ((with_reducible refine gate_builtin (b := .append) (xs := #[.tmp 69, .tmp 71]) rfl ?_); at_builtin; refine Kd.R_append (Kd.int .i64) (w0 := w) w.heap.size rfl (.tmp 69) (.tmp 71) 29 3 (.int .i64 0) 8 rfl Try.underlying29 info3 rfl (by decide) (by omega) (.slice (some ad345) x7_3.length co41) x7_3 x44_3 [.int .i64 x44_3] (fun k_ => some k_ ≠ (.slice (some ⟨go18, 0, none⟩) x5_3.length co9 : Value).ownBlock) (fun _ => False) rfl rfl ?aP (fun _ hk => hk.elim) ?aF ?aO ?aB ?aS ?aL ?_; (case aP => exact rfl); (case aB => exact bB); (case aF => exact (fun k_ hk => Kd.fresh' (Kd.R_lt (rP HO_5)) k_ hk)); (case aO => exact (rF (Kd.R_mono HO_7.out (fun _ hk => hk.2)))); (case aS => exact (below_size bB)); (case aL => have := LMc40.out; omega); intro v349 w44 ho hb hg hat; rw [← Ny348.out] at ho; replace HO_5 := am (Kd.R_after (ok := (fun _ => True)) (by (with_reducible repeat (first | apply Kd.R_alloc | apply Kd.R_drewN | apply Kd.R_drew)); exact Kd.R_mono HO_5.out (fun _ hk => ⟨trivial, hk⟩)) hg hat); replace BK332 := (kg BK332 hg (Kd.R_ne HO_7.out BK332.out (by decide))); replace HB := am (hb); have HO350 := am (ho); clear HO_7; clear ho hb hg hat)); try go_wp2_with (first | ((with_reducible refine gate_store (t := 3) (p := 68) rfl ?_); (try (rw [drewN_self wr]; generalize hq_ : World.drewN wr _ = wr; replace HO_5 := am (Kd.R_at hq_ HO_5.out); replace HO_7 := am (Kd.R_at hq_ HO_7.out); replace BK332 := am (blk_at hq_ BK332.out); replace HB := am (below_at hq_ HB.out); clear hq_; (try (have HP42 := Kd.R_putg HO_5.out (x44_3 : Int) (wrap64 ((rd x5_3 (rd x7_3 x8_2)) + 1)))))); refine store_event (t := 3) (p := 68) (v := ?vo_w43) (w1 := (wr.setCell ⟨go18, (x44_3 : Int).toNat, none⟩ (.int .i64 (wrap64 ((rd x5_3 (rd x7_3 x8_2)) + 1))))) ?hg ?ho ?hn ?hr ?_; (case ho => rfl); (case hg => rfl); (case hn => rfl); (case hr => first | (go_simp; done) | (go_simp; rfl)); intro w43 hw; have hg : wr.grownBy w43 (some go18) := (by rw [hw]; exact HP42.2); have hp_ : Kd.R (Kd.int .i64) 3 w43 w.heap.size (fun k_ => some k_ ≠ (.slice (some ad345) x7_3.length co41 : Value).ownBlock) (.slice (some ⟨go18, 0, none⟩) x5_3.length co9) y347 := (by rw [hw, Ny347.out]; exact HP42.1); clear HP42; replace HO_7 := am (Kd.R_after (v := (.slice (some ⟨go18, 0, none⟩) x5_3.length co9)) (v1 := (.slice (some ⟨go18, 0, none⟩) x5_3.length co9)) (ok := (fun _ => True)) (by (with_reducible repeat (first | apply Kd.R_alloc | apply Kd.R_drewN | apply Kd.R_drew)); exact Kd.R_mono HO_7.out (fun _ hk => ⟨trivial, hk⟩)) hg (.inl rfl)); replace BK332 := (kg BK332 hg (Kd.R_ne HO_5.out BK332.out (by decide))); replace HO_5 := am (hp_); replace HB := am ((by rw [hw]; exact below_set (HB.out) GB18.out : Below w.heap.size w w43)); clear hg hw hp_) | ((with_reducible refine gate_builtin (b := .append) (xs := #[.tmp 69, .tmp 71]) rfl ?_); at_builtin; refine Kd.R_append (Kd.int .i64) (w0 := w) w.heap.size rfl (.tmp 69) (.tmp 71) 29 3 (.int .i64 0) 8 rfl Try.underlying29 info3 rfl (by decide) (by omega) (.slice (some ad345) x7_3.length co41) x7_3 x44_3 [.int .i64 x44_3] (fun k_ => some k_ ≠ (.slice (some ⟨go18, 0, none⟩) x5_3.length co9 : Value).ownBlock) (fun _ => False) rfl rfl ?aP (fun _ hk => hk.elim) ?aF ?aO ?aB ?aS ?aL ?_; (case aP => exact rfl); (case aB => exact bB); (case aF => exact (fun k_ hk => Kd.fresh' (Kd.R_lt (rP HO_5)) k_ hk)); (case aO => exact (rF (Kd.R_mono HO_7.out (fun _ hk => hk.2)))); (case aS => exact (below_size bB)); (case aL => have := LMc40.out; omega); intro v349 w44 ho hb hg hat; rw [← Ny348.out] at ho; replace HO_5 := am (Kd.R_after (ok := (fun _ => True)) (by (with_reducible repeat (first | apply Kd.R_alloc | apply Kd.R_drewN | apply Kd.R_drew)); exact Kd.R_mono HO_5.out (fun _ hk => ⟨trivial, hk⟩)) hg hat); replace BK332 := (kg BK332 hg (Kd.R_ne HO_7.out BK332.out (by decide))); replace HB := am (hb); have HO350 := am (ho); clear HO_7; clear ho hb hg hat)))
                 (try simp only [← hl5_3])
                 go_roundg k3
                 case measure => have := HK1.out; have := HK2.out; have := HK3.out; omega
                 case rel => exact ⟨(y347), (y348), (wrap64 (x44_3 + 1)), sR, H', ⟨oK⟩, ⟨by (try simp only [hl5_1]); (try simp only [hl5_2]); (try simp only [hl5_3]); (with_reducible repeat (first | apply Kd.R_alloc | apply Kd.R_drewN | apply Kd.R_drew)); exact Kd.R_mono HO_5.out (fun _ hk => hk.2)⟩, ⟨by (try simp only [hl5_1]); (try simp only [hl5_2]); (try simp only [hl5_3]); (with_reducible repeat (first | apply Kd.R_alloc | apply Kd.R_drewN | apply Kd.R_drew)); exact HO350.out⟩, ⟨by (try simp only [hl5_1]); (try simp only [hl5_2]); (try simp only [hl5_3]); (with_reducible repeat (first | refine blk_drewN ?_ _ | refine blk_drew ?_ | refine blk_alloc ?_ _)); exact BK332.out⟩, ⟨bB⟩⟩
               · rw [if_neg c34] at H
                 have c34b0 := decide_eq_false c34
                 clear c34
                 have H' := am H
                 clear H
                 have p343 : 0 ≤ (x44_3 : Int) := dT
                 have q343 : x44_3 < ((rd_L2 l0_1 (rd x7_2 x8_2)).length : Int) := dT
                 obtain ⟨ad343, e343, hx343_0⟩ := Kd.at_int HR342_0.out x44_3 p343 q343
                 cases e343
                 replace hx343_0 := (HB.out.cell (World.block_lt_of_cell? w _ hx343_0)).trans hx343_0
                 replace p343 := eq_true p343
                 replace q343 := eq_true q343
                 have p344 : 0 ≤ (x44_3 : Int) := dT
                 have q344 : x44_3 < (x5_3.length : Int) := dT
                 obtain ⟨ad344, e344, hx344_0⟩ := Kd.at_int (Kd.R_reads' HO_5.out).2.2 x44_3 p344 q344
                 obtain rfl : (⟨go18, 0, none⟩ : Addr) = ad344 := (by injection e344)
                 (first | simp only [add_plain] at hx344_0 | simp only [add_at] at hx344_0 | simp only [Addr.add, Nat.zero_add] at hx344_0 | skip)
                 replace p344 := eq_true p344
                 replace q344 := eq_true q344
                 go_wp2
                 repeat (go_quiet (fail); try go_wp2)
                 (try simp only [← hl5_3])
                 go_roundg k3
                 case measure => have := HK1.out; have := HK2.out; have := HK3.out; omega
                 case rel => exact ⟨(x5_3), (x7_3), (wrap64 (x44_3 + 1)), sR, H', ⟨oK⟩, ⟨by (try simp only [hl5_1]); (try simp only [hl5_2]); (try simp only [hl5_3]); (with_reducible repeat (first | apply Kd.R_alloc | apply Kd.R_drewN | apply Kd.R_drew)); exact HO_5.out⟩, ⟨by (try simp only [hl5_1]); (try simp only [hl5_2]); (try simp only [hl5_3]); (with_reducible repeat (first | apply Kd.R_alloc | apply Kd.R_drewN | apply Kd.R_drew)); exact HO_7.out⟩, ⟨by (try simp only [hl5_1]); (try simp only [hl5_2]); (try simp only [hl5_3]); (with_reducible repeat (first | refine blk_drewN ?_ _ | refine blk_drew ?_ | refine blk_alloc ?_ _)); exact BK332.out⟩, ⟨bB⟩⟩
             · rw [if_neg c32] at H
               have c32b0 : decide (0 < (rd (rd_L2 l0_1 (rd x7_2 x8_2)) x44_3)) = false := decide_eq_false c32
               clear c32
               have H' := am H
               clear H
               have p343 : 0 ≤ (x44_3 : Int) := dT
               have q343 : x44_3 < ((rd_L2 l0_1 (rd x7_2 x8_2)).length : Int) := dT
               obtain ⟨ad343, e343, hx343_0⟩ := Kd.at_int HR342_0.out x44_3 p343 q343
               cases e343
               replace hx343_0 := (HB.out.cell (World.block_lt_of_cell? w _ hx343_0)).trans hx343_0
               replace p343 := eq_true p343
               replace q343 := eq_true q343
               go_wp2
               repeat (go_quiet (fail); try go_wp2)
               (try simp only [← hl5_3])
               go_roundg k3
               case measure => have := HK1.out; have := HK2.out; have := HK3.out; omega
               case rel => exact ⟨(x5_3), (x7_3), (wrap64 (x44_3 + 1)), sR, H', ⟨oK⟩, ⟨by (try simp only [hl5_1]); (try simp only [hl5_2]); (try simp only [hl5_3]); (with_reducible repeat (first | apply Kd.R_alloc | apply Kd.R_drewN | apply Kd.R_drew)); exact HO_5.out⟩, ⟨by (try simp only [hl5_1]); (try simp only [hl5_2]); (try simp only [hl5_3]); (with_reducible repeat (first | apply Kd.R_alloc | apply Kd.R_drewN | apply Kd.R_drew)); exact HO_7.out⟩, ⟨by (try simp only [hl5_1]); (try simp only [hl5_2]); (try simp only [hl5_3]); (with_reducible repeat (first | refine blk_drewN ?_ _ | refine blk_drew ?_ | refine blk_alloc ?_ _)); exact BK332.out⟩, ⟨bB⟩⟩
           · rw [if_neg c29] at H
             have c29b0 := decide_eq_false c29
             clear c29
             have H' := am H
             clear H
             go_wp2
             repeat (go_quiet (fail); try go_wp2)
             (try simp only [← hl5_2, ← hl5_3])
             go_roundg k3
             case measure => have := HK1.out; have := HK2.out; have := HK3.out; omega
             case rel => exact ⟨(x5_3), (x7_3), (wrap64 (x8_2 + 1)), sR, H', ⟨oK⟩, ⟨by (try simp only [hl5_1]); (try simp only [hl5_2]); (try simp only [hl5_3]); (with_reducible repeat (first | apply Kd.R_alloc | apply Kd.R_drewN | apply Kd.R_drew)); exact HO_5.out⟩, ⟨by (try simp only [hl5_1]); (try simp only [hl5_2]); (try simp only [hl5_3]); (with_reducible repeat (first | apply Kd.R_alloc | apply Kd.R_drewN | apply Kd.R_drew)); exact HO_7.out⟩, ⟨by (try simp only [hl5_1]); (try simp only [hl5_2]); (try simp only [hl5_3]); (with_reducible repeat (first | refine blk_drewN ?_ _ | refine blk_drew ?_ | refine blk_alloc ?_ _)); exact BK332.out⟩, ⟨bB⟩⟩
       · rw [if_neg c23] at H
         have c23b0 := decide_eq_false c23
         (try (have c23b0x5_1 : decide (x8_2 < (x5_1.length : Int)) = false := decide_eq_false (by have h_ := hl5_1; omega)))
         (try (have c23b0x5_2 : decide (x8_2 < (x5_2.length : Int)) = false := decide_eq_false (by have h_ := hl5_2; omega)))
         (try (have c23b0x5_3 : decide (x8_2 < (x5_3.length : Int)) = false := decide_eq_false (by have h_ := hl5_3; omega)))
         clear c23
         obtain rfl := Option.some.inj H
         obtain ⟨Ao45, co45, eo45⟩ := Kd.R_slice HO_7.out
         subst eo45
         go_wp2
         repeat (go_quiet (fail); try go_wp2)
         go_ret
         exact ⟨_, eW, rF (Kd.R_mono HO_5.out (fun _ hk => trivial)), bB⟩
def spec_ReachedStates.l0 : Nat → List Int → List Int → Int → Int → Option (List Int × Bool)
 | 0, _, _, _, _ => none
 | k + 1, x6, x16, x17, x18 => if x18 < x17 then (if 0 ≤ x18 then (if x18 < (x16.length : Int) then (if (rd x16 x18) ≥ 0 then (if x6.length < 17592186044416 then (spec_ReachedStates.l0 k (x6 ++ [x18]) x16 x17 (wrap64 (x18 + 1))) else (none)) else (spec_ReachedStates.l0 k x6 x16 x17 (wrap64 (x18 + 1)))) else (none)) else (none)) else (some (x6, true))
def spec_ReachedStates.f (k : Nat) (a0_0 : Int) (l0_1 : List (List Int)) (a1 : Int) : Option (List Int × Bool) := (spec_saAsked.f k a0_0 l0_1 a1 a1).bind fun t352 => (if t352 = true then ((spec_saFar.f k a0_0 l0_1 a1).bind fun t353 => (spec_ReachedStates.l0 k ([] : List Int) t353 (t353.length : Int) 0)) else (some (([] : List Int), false)))
set_option maxHeartbeats 8000000 in
set_option maxRecDepth 100000 in
theorem spec_ReachedStates.calls (k : Nat) (a0_0 : Int) (A0_1 : Option Addr) (c0_1 : Nat) (l0_1 : List (List Int)) (a1 : Int) (r1 : List Int) (r2 : Bool) (w : World) (hr0_1 : Kd.C (Kd.slice 3 (Kd.int .i64)) w A0_1 l0_1.length l0_1) (hc0_1 : l0_1.length ≤ c0_1) (h : spec_ReachedStates.f k a0_0 l0_1 a1 = some (r1, r2)) :
 Calls Try.prog 9 #[.agg #[.int .i64 a0_0, .slice A0_1 l0_1.length c0_1], .int .i64 a1] w fun e w' => ∃ v0_ : Value, e = .returned (.tuple #[v0_, .bool r2]) ∧ Kd.R (Kd.int .i64) 3 w' w.heap.size (fun _ => True) v0_ r1 ∧ Below w.heap.size w w' := by
 have hu26 := Try.underlying26
 have HR0_1 := am hr0_1
 have HC0_1 := am hc0_1
 clear hr0_1 hc0_1
 have HB := am (Below.refl w.heap.size w)
 have H := h
 clear h
 unfold spec_ReachedStates.f at H
 replace H := bnd H
 obtain ⟨t352, A3, H⟩ := H
 (try dsimp only at H)
 by_cases c4 : t352 = true
 · subst c4
   replace H := ifT H
   replace H := bnd H
   obtain ⟨t353, A5, H⟩ := H
   (try dsimp only at H)
   have H' := am H
   clear H
   go_enter Try.func9, Try.ntmps9
   go_wp2_with (first | ((with_reducible refine gate_dst (N := 2) rfl ?_); refine bE 2 #[.int .i64 a0_0, .slice A0_1 l0_1.length c0_1] 26 ?_; intro gb351 hg w6 hbox hb; have BK351 := am (hbox); have GW351 := gW hg; have GE351 := gW hg; replace HB := sB hb; clear hb hbox hg; obtain ⟨hcz7_0, hcz7_1, hfz7_0, hfz7_1⟩ := cZ BK351) | ((with_reducible refine gate_callee (f := 40) rfl ?_); refine gL 12 Try.func40 #[.agg #[.int .i64 a0_0, .slice A0_1 l0_1.length c0_1], .int .i64 a1, .int .i64 a1] ?_; (with_reducible refine (spec_saAsked.calls k a0_0 _ _ l0_1 a1 a1 true _ ?side1 HC0_1.out A3.out).mono ?_); (case side1 => exact cH HR0_1); rintro e w8 ⟨rfl, hb⟩; refine ⟨_, rfl, ?_⟩; replace BK351 := kb BK351 hb; replace HB := sB hb; obtain ⟨hcz9_0, hcz9_1, hfz9_0, hfz9_1⟩ := cZ BK351) | ((with_reducible refine gate_callee (f := 45) rfl ?_); refine gL 16 Try.func45 #[.agg #[.int .i64 a0_0, .slice A0_1 l0_1.length c0_1], .int .i64 a1] ?_; (with_reducible refine (spec_saFar.calls k a0_0 _ _ l0_1 a1 t353 _ ?side1 HC0_1.out A5.out).mono ?_); (case side1 => exact cH HR0_1); rintro e w10 ⟨v354, rfl, ho0, hb⟩; refine ⟨_, rfl, ?_⟩; have HO355 := am (Kd.R_lower ho0 (below_size bB)); replace BK351 := kb BK351 hb; replace HB := sB hb; obtain ⟨Ao11, co11, eo11⟩ := Kd.R_slice HO355.out; subst eo11))
   go_loopg [6, 18] k (fun kq v6 v18 w' => ∃ (x6_1 : List Int) (x18_1 : Int), v18 = .int .i64 x18_1 ∧ Aside0 (spec_ReachedStates.l0 kq x6_1 t353 (t353.length : Int) x18_1 = some (r1, r2)) ∧ Aside0 (kq ≤ k) ∧ Aside0 (Kd.R (Kd.int .i64) 3 w' w.heap.size (fun k_ => some k_ ≠ ((.slice Ao11 t353.length co11) : Value).ownBlock) v6 x6_1) ∧ Aside0 (Kd.R (Kd.int .i64) 3 w' w.heap.size (fun k_ => some k_ ≠ (v6 : Value).ownBlock) (.slice Ao11 t353.length co11) t353) ∧ Aside0 (w'.heap[gb351]? = some (.cells #[.int .i64 a0_0, (.slice A0_1 l0_1.length c0_1)] 26 (0, 0))) ∧ Aside0 (Below w.heap.size w w'))
   case atStart => exact ⟨(([] : List Int)), (0), sR, H', ⟨Nat.le_refl _⟩, ⟨nL⟩, ⟨by (with_reducible repeat (first | apply Kd.R_alloc | apply Kd.R_drewN | apply Kd.R_drew)); exact Kd.R_mono HO355.out (fun _ hk => (by simp [Value.ownBlock]))⟩, ⟨bP BK351⟩, ⟨bB⟩⟩
   case round =>
    clear H'
    obtain ⟨x6_1, x18_1, rfl, HA, HK1, HO_6, HO_16, BK351, HB⟩ := hrel
    cases gk with
    | zero => exact absurd HA.out (by simp [spec_ReachedStates.l0])
    | succ k1 =>
     have H := HA.out
     clear HA
     simp only [spec_ReachedStates.l0] at H
     by_cases c12 : x18_1 < (t353.length : Int)
     · rw [if_pos c12] at H
       have c12b0 := decide_eq_true c12
       clear c12
       replace H := ifP H
       obtain ⟨c13, H⟩ := H
       have c13b0 := decide_eq_true c13
       clear c13
       replace H := ifP H
       obtain ⟨c14, H⟩ := H
       have c14b0 := decide_eq_true c14
       clear c14
       by_cases c15 : (rd t353 x18_1) ≥ 0
       · rw [if_pos c15] at H
         have c15b0 : decide (0 ≤ (rd t353 x18_1)) = true := decide_eq_true c15
         clear c15
         replace H := ifP H
         obtain ⟨c16, H⟩ := H
         have LMc16 := am c16
         clear c16
         generalize hy357 : ((x6_1 ++ [x18_1]) : List Int) = y357 at H
         (try dsimp only [Option.bind_some] at H)
         have Ny357 := am hy357.symm
         clear hy357
         have H' := am H
         clear H
         have p356 : 0 ≤ (x18_1 : Int) := dT
         have q356 : x18_1 < (t353.length : Int) := dT
         obtain ⟨ad356, e356, hx356_0⟩ := Kd.at_int (Kd.R_reads' HO_16.out).2.2 x18_1 p356 q356
         cases e356
         replace p356 := eq_true p356
         replace q356 := eq_true q356
         go_wp2_with (first | ((with_reducible refine gate_builtin (b := .append) (xs := #[.tmp 25, .tmp 27]) rfl ?_); at_builtin; refine Kd.R_append (Kd.int .i64) (w0 := w) w.heap.size rfl (.tmp 25) (.tmp 27) 29 3 (.int .i64 0) 8 rfl Try.underlying29 info3 rfl (by decide) (by omega) u6 x6_1 x18_1 [.int .i64 x18_1] (fun k_ => some k_ ≠ (.slice (some ad356) t353.length co11 : Value).ownBlock) (fun _ => False) rfl rfl ?aP (fun _ hk => hk.elim) ?aF ?aO ?aB ?aS ?aL ?_; (case aP => exact rfl); (case aB => exact bB); (case aF => exact (fun k_ hk => Kd.fresh' (Kd.R_lt (rP HO_16)) k_ hk)); (case aO => exact (rP HO_6)); (case aS => exact (below_size bB)); (case aL => have := LMc16.out; omega); intro v358 w17 ho hb hg hat; rw [← Ny357.out] at ho; replace HO_16 := am (Kd.R_after (ok := (fun _ => True)) (by (with_reducible repeat (first | apply Kd.R_alloc | apply Kd.R_drewN | apply Kd.R_drew)); exact Kd.R_mono HO_16.out (fun _ hk => ⟨trivial, hk⟩)) hg hat); replace BK351 := (kg BK351 hg (Kd.R_ne HO_6.out BK351.out (by decide))); replace HB := am (hb); have HO359 := am (ho); clear HO_6; clear ho hb hg hat))
         go_roundg k1
         case measure => have := HK1.out; omega
         case rel => exact ⟨(y357), (wrap64 (x18_1 + 1)), sR, H', ⟨oK⟩, ⟨rP HO359⟩, ⟨rF (Kd.R_mono HO_16.out (fun _ hk => hk.2))⟩, ⟨bP BK351⟩, ⟨bB⟩⟩
       · rw [if_neg c15] at H
         have c15b0 : decide (0 ≤ (rd t353 x18_1)) = false := decide_eq_false c15
         clear c15
         have H' := am H
         clear H
         have p356 : 0 ≤ (x18_1 : Int) := dT
         have q356 : x18_1 < (t353.length : Int) := dT
         obtain ⟨ad356, e356, hx356_0⟩ := Kd.at_int (Kd.R_reads' HO_16.out).2.2 x18_1 p356 q356
         cases e356
         replace p356 := eq_true p356
         replace q356 := eq_true q356
         go_wp2
         go_roundg k1
         case measure => have := HK1.out; omega
         case rel => exact ⟨(x6_1), (wrap64 (x18_1 + 1)), sR, H', ⟨oK⟩, ⟨rP HO_6⟩, ⟨rP HO_16⟩, ⟨bP BK351⟩, ⟨bB⟩⟩
     · rw [if_neg c12] at H
       have c12b0 := decide_eq_false c12
       clear c12
       simp only [Option.some.injEq, Prod.mk.injEq] at H
       obtain ⟨rfl, rfl⟩ := H
       go_wp2
       go_ret2
       exact ⟨_, eW, rF (Kd.R_mono HO_6.out (fun _ hk => trivial)), bB⟩
 · replace c4 := Bool.eq_false_iff.mpr c4
   subst c4
   replace H := ifF H
   simp only [Option.some.injEq, Prod.mk.injEq] at H
   obtain ⟨rfl, rfl⟩ := H
   go_enter Try.func9, Try.ntmps9
   go_wp2_with (first | ((with_reducible refine gate_dst (N := 2) rfl ?_); refine bE 2 #[.int .i64 a0_0, .slice A0_1 l0_1.length c0_1] 26 ?_; intro gb351 hg w18 hbox hb; have BK351 := am (hbox); have GW351 := gW hg; have GE351 := gW hg; replace HB := sB hb; clear hb hbox hg; obtain ⟨hcz19_0, hcz19_1, hfz19_0, hfz19_1⟩ := cZ BK351) | ((with_reducible refine gate_callee (f := 40) rfl ?_); refine gL 12 Try.func40 #[.agg #[.int .i64 a0_0, .slice A0_1 l0_1.length c0_1], .int .i64 a1, .int .i64 a1] ?_; (with_reducible refine (spec_saAsked.calls k a0_0 _ _ l0_1 a1 a1 false _ ?side1 HC0_1.out A3.out).mono ?_); (case side1 => exact cH HR0_1); rintro e w20 ⟨rfl, hb⟩; refine ⟨_, rfl, ?_⟩; replace BK351 := kb BK351 hb; replace HB := sB hb))
   go_ret2
   exact ⟨_, eW, nL, bB⟩
end Go.Proofs.Ytkkjnmnjbmfpaaa.PFnStatesStep
