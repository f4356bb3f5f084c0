-- written by a program of this session (the kit's print with turns of the session's own)
import Derived.Test.YtkkjnmnjbmfpaaaPFnStatesStepx0
import Derived.Test.YtkkjnmnjbmfpaaaHp
import Derived.Test.YtkkjnmnjbmfpaaaPFnStatesStepx3
import Derived.Test.YtkkjnmnjbmfpaaaPFnStatesStepx6
namespace Go.Proofs.Ytkkjnmnjbmfpaaa.PFnStatesStep
open Go.RowKit Go.Proofs.YtkkjnmnjbmfpaaaW.PrintWords Go.Proofs.YtkkjnmnjbmfpaaaW.PrintLast Go.Proofs.YtkkjnmnjbmfpaaaW.PrintMore
attribute [local go_sem] Instr.field asAgg part max2_int min2_int max_two min_two max_three min_three max_four min_four
set_option linter.unusedVariables false
set_option linter.unusedSimpArgs false
mutual
def impl_States_reached.l0 : Nat → Int → List Bool → List Int → Int → Int → List (List Int) → Option (List Bool)
 | 0, _, _, _, _, _, _ => none
 | k + 1, x2, x7, x8, x9, x305000, x305001 => if x9 < (x8.length : Int) then (if 0 ≤ x9 then (if (rd x8 x9) = x2 then (impl_States_reached.l0 k x2 x7 x8 (wrap64 (x9 + 1)) x305000 x305001) else (if 0 ≤ (rd x8 x9) then (if (rd x8 x9) < (x305001.length : Int) then (impl_States_reached.l1 k x2 x7 x8 x9 (rd_L2 x305001 (rd x8 x9)) ((rd_L2 x305001 (rd x8 x9)).length : Int) 0 x305000 x305001) else (none)) else (none))) else (none)) else (some x7)
def impl_States_reached.l1 : Nat → Int → List Bool → List Int → Int → List Int → Int → Int → Int → List (List Int) → Option (List Bool)
 | 0, _, _, _, _, _, _, _, _, _ => none
 | k + 1, x2, x7, x8, x9, x40, x41, x42, x305000, x305001 => if x42 < x41 then (if 0 ≤ x42 then (if x42 < (x40.length : Int) then (if (rd x40 x42) > 0 then (if x42 < (x7.length : Int) then (if rdOf false x7 x42 = true then (impl_States_reached.l1 k x2 x7 x8 x9 x40 x41 (wrap64 (x42 + 1)) x305000 x305001) else (if x8.length < 17592186044416 then (impl_States_reached.l1 k x2 (x7.set (x42 : Int).toNat true) (x8 ++ [x42]) x9 x40 x41 (wrap64 (x42 + 1)) x305000 x305001) else (none))) else (none)) else (impl_States_reached.l1 k x2 x7 x8 x9 x40 x41 (wrap64 (x42 + 1)) x305000 x305001)) else (none)) else (none)) else (impl_States_reached.l0 k x2 x7 x8 (wrap64 (x9 + 1)) x305000 x305001)
end
def impl_States_reached.f (k : Nat) (a0_0 : Int) (l0_1 : List (List Int)) (a1 : Int) (a2 : Int) : Option (List Bool) := if 0 ≤ (l0_1.length : Int) then (if ((l0_1.length : Int) : Int).toNat ≤ 281474976710656 then ((some (List.replicate ((l0_1.length : Int) : Int).toNat false : List Bool)).bind fun y305 => (if 0 ≤ a1 then (if a1 < (y305.length : Int) then (impl_States_reached.l0 k a2 (y305.set (a1 : Int).toNat true) (([a1] : List Int)) 0 a0_0 l0_1) else (none)) else (none))) else (none)) else (none)
set_option maxHeartbeats 8000000 in
set_option maxRecDepth 100000 in
theorem impl_States_reached.calls (k : Nat) (a0_0 : Int) (A0_1 : Option Addr) (c0_1 : Nat) (l0_1 : List (List Int)) (a1 : Int) (a2 : Int) (r : List Bool) (w : World) (hr0_1 : Kd.C (Kd.slice 3 (Kd.int .i64)) w A0_1 l0_1.length l0_1) (hc0_1 : l0_1.length ≤ c0_1) (h : impl_States_reached.f k a0_0 l0_1 a1 a2 = some r) :
 Calls Try.prog 44 #[.agg #[.int .i64 a0_0, .slice A0_1 l0_1.length c0_1], .int .i64 a1, .int .i64 a2] w fun e w' => ∃ v0_ : Value, e = .returned (v0_) ∧ Kd.R Kd.bool 4 w' w.heap.size (fun _ => True) v0_ r ∧ Below w.heap.size w w' := by
 have hu26 := Try.underlying26
 have HR0_1 := am hr0_1
 have HC0_1 := am hc0_1
 clear hr0_1 hc0_1
 have HB := am (Below.refl w.heap.size w)
 have H := h
 clear h
 unfold impl_States_reached.f at H
 replace H := ifP H
 obtain ⟨c4, H⟩ := H
 have c4b0 := eq_true c4
 have c4b1 := decide_eq_true c4
 clear c4
 replace H := ifP H
 obtain ⟨c5, H⟩ := H
 have c5b0 := eq_true c5
 have c5b1 := decide_eq_true c5
 clear c5
 generalize hy305 : ((List.replicate ((l0_1.length : Int) : Int).toNat false) : List Bool) = y305 at H
 (try dsimp only [Option.bind_some] at H)
 have Ny305 := am hy305.symm
 clear hy305
 replace H := ifP H
 obtain ⟨c6, H⟩ := H
 have c6b0 := decide_eq_true c6
 clear c6
 replace H := ifP H
 obtain ⟨c7, H⟩ := H
 have c7b0 := decide_eq_true c7
 clear c7
 generalize hy308 : ((y305.set (a1 : Int).toNat true) : List Bool) = y308 at H
 (try dsimp only [Option.bind_some] at H)
 have Ny308 := am hy308.symm
 clear hy308
 generalize hy309 : ((([a1] : List Int)) : List Int) = y309 at H
 (try dsimp only [Option.bind_some] at H)
 have Ny309 := am hy309.symm
 clear hy309
 have H' := am H
 clear H
 go_enter Try.func44, Try.ntmps44
 go_wp2_with (first | ((with_reducible refine gate_dst (N := 3) rfl ?_); refine bE 3 #[.int .i64 a0_0, .slice A0_1 l0_1.length c0_1] 26 ?_; intro gb304 hg w9 hbox hb; have BK304 := am (hbox); have GW304 := gW hg; have GE304 := gW hg; replace HB := sB hb; clear hb hbox hg; obtain ⟨hcz10_0, hcz10_1, hfz10_0, hfz10_1⟩ := cZ BK304) | ((with_reducible refine gate_dst (N := 15) rfl ?_); refine Kd.R_make Kd.bool _ 4 rfl (N := 15) rfl 68 _ _ rfl (l0_1.length : Int) rfl rfl Try.underlying68 (.bool false) 1 info4 rfl (by decide) (by omega) false (ok := fun _ => True) (okp := fun _ => True) rfl (fun _ hk => hk) trivial (dT) (Nat.le_trans (Nat.mul_le_mul_right _ (dT : (l0_1.length : Int).toNat ≤ 281474976710656)) (by omega)) (Below.refl _ _) (Nat.le_refl _) ?_; intro v306 w11 ho12 hb hg_ hnew_; clear hg_ hnew_; (first | rw [← Ny305.out] at ho12 | (simp only [Int.reduceToNat] at ho12; rw [← Ny305.out] at ho12)); have HO307 := am (Kd.R_lower ho12 (below_size bB)); replace BK304 := kb BK304 hb; replace HB := sB hb; clear hb ho12; have p8 : 0 ≤ (a1 : Int) := dT; have q8 : (a1 : Int) < ((y305.length : Int) : Int) := dT; obtain ⟨go8, co8, eo8, gb8, gl8, cl8, HG8⟩ := Kd.R_form HO307.out (by omega); (first | cases eo8 | (injection eo8 with ea_ en_ ec_; (first | subst ea_ | (injection ea_ with ea_; subst ea_)); subst ec_; clear en_)); have GB8 := am gb8; have GG8 := am HG8; clear gb8 gl8 HG8; obtain ⟨hx8_0, hf8_0⟩ := Kd.R_celln false HO307.out (a1 : Int) p8 q8; replace p8 := eq_true p8; replace q8 := eq_true q8; obtain ⟨hy13_, hz13_⟩ := Kd.R_celln false HO307.out (a1 : Int) (dT) (dT); have HP13 := Kd.R_putg HO307.out (a1 : Int) true) | ((with_reducible refine gate_store (t := 4) (p := 18) rfl ?_); (try (rw [drewN_self w11]; generalize hq_ : World.drewN w11 _ = w11; replace HO307 := am (Kd.R_at hq_ HO307.out); replace BK304 := am (blk_at hq_ BK304.out); replace HB := am (below_at hq_ HB.out); clear hq_; (try (obtain ⟨hy13_, hz13_⟩ := Kd.R_celln false HO307.out (a1 : Int) (dT) (dT))); (try (have HP13 := Kd.R_putg HO307.out (a1 : Int) true)))); refine store_event (t := 4) (p := 18) (v := ?vo_w14) (w1 := (w11.setCell ⟨go8, (a1 : Int).toNat, none⟩ (.bool true))) ?hg ?ho ?hn ?hr ?_; (case ho => rfl); (case hg => rfl); (case hn => rfl); (case hr => first | (go_simp; done) | (go_simp; rfl)); intro w14 hw; have hg : w11.grownBy w14 (some go8) := (by rw [hw]; exact HP13.2); have hp_ : Kd.R Kd.bool 4 w14 w.heap.size (fun _ => True) (.slice (some ⟨go8, 0, none⟩) y305.length co8) y308 := (by rw [hw, Ny308.out]; exact HP13.1); clear HP13; replace BK304 := (kg BK304 hg (Kd.R_ne HO307.out BK304.out (by decide))); replace HO307 := am (hp_); replace HB := am ((by rw [hw]; exact below_set (HB.out) GB8.out : Below w.heap.size w w14)); clear hg hw hp_) | ((with_reducible refine gate_dst (N := 20) rfl ?_); refine Kd.R_lit (Kd.int .i64) _ 3 ?hg (N := 20) ?hd (xs := ([a1] : List Int)) (inner := [.int .i64 a1]) (ok := fun _ => True) (okp := fun _ => True) ?hr ?hp (fun _ hk => hk) trivial (Below.refl _ _) (Nat.le_refl _) (by simp) ?_; (case hd => rfl); (case hg => rfl); (case hr => first | (go_simp; done) | (go_simp; rfl)); (case hp => exact (Reps.one (show Kd.M (Kd.int .i64) _ _ _ a1 [.int .i64 a1] from rfl) (Reps.none _ _))); intro v310 w15 ho16 hb hg_ hnew_; clear hg_ hnew_; (first | rw [← Ny309.out] at ho16 | (simp only [Int.reduceToNat] at ho16; rw [← Ny309.out] at ho16)); replace HO307 := lR HO307 hb; have HO311 := am (Kd.R_lower ho16 (below_size bB)); replace BK304 := kb BK304 hb; replace HB := sB hb; clear hb ho16))
 repeat (go_quiet (first | ((with_reducible refine gate_dst (N := 3) rfl ?_); refine bE 3 #[.int .i64 a0_0, .slice A0_1 l0_1.length c0_1] 26 ?_; intro gb304 hg w9 hbox hb; have BK304 := am (hbox); have GW304 := gW hg; have GE304 := gW hg; replace HB := sB hb; clear hb hbox hg; obtain ⟨hcz10_0, hcz10_1, hfz10_0, hfz10_1⟩ := cZ BK304) | ((with_reducible refine gate_dst (N := 15) rfl ?_); refine Kd.R_make Kd.bool _ 4 rfl (N := 15) rfl 68 _ _ rfl (l0_1.length : Int) rfl rfl Try.underlying68 (.bool false) 1 info4 rfl (by decide) (by omega) false (ok := fun _ => True) (okp := fun _ => True) rfl (fun _ hk => hk) trivial (dT) (Nat.le_trans (Nat.mul_le_mul_right _ (dT : (l0_1.length : Int).toNat ≤ 281474976710656)) (by omega)) (Below.refl _ _) (Nat.le_refl _) ?_; intro v306 w11 ho12 hb hg_ hnew_; clear hg_ hnew_; (first | rw [← Ny305.out] at ho12 | (simp only [Int.reduceToNat] at ho12; rw [← Ny305.out] at ho12)); have HO307 := am (Kd.R_lower ho12 (below_size bB)); replace BK304 := kb BK304 hb; replace HB := sB hb; clear hb ho12; have p8 : 0 ≤ (a1 : Int) := dT; have q8 : (a1 : Int) < ((y305.length : Int) : Int) := dT; obtain ⟨go8, co8, eo8, gb8, gl8, cl8, HG8⟩ := Kd.R_form HO307.out (by omega); (first | cases eo8 | (injection eo8 with ea_ en_ ec_; (first | subst ea_ | (injection ea_ with ea_; subst ea_)); subst ec_; clear en_)); have GB8 := am gb8; have GG8 := am HG8; clear gb8 gl8 HG8; obtain ⟨hx8_0, hf8_0⟩ := Kd.R_celln false HO307.out (a1 : Int) p8 q8; replace p8 := eq_true p8; replace q8 := eq_true q8; obtain ⟨hy13_, hz13_⟩ := Kd.R_celln false HO307.out (a1 : Int) (dT) (dT); have HP13 := Kd.R_putg HO307.out (a1 : Int) true) | ((with_reducible refine gate_store (t := 4) (p := 18) rfl ?_); (try (rw [drewN_self w11]; generalize hq_ : World.drewN w11 _ = w11; replace HO307 := am (Kd.R_at hq_ HO307.out); replace BK304 := am (blk_at hq_ BK304.out); replace HB := am (below_at hq_ HB.out); clear hq_; (try (obtain ⟨hy13_, hz13_⟩ := Kd.R_celln false HO307.out (a1 : Int) (dT) (dT))); (try (have HP13 := Kd.R_putg HO307.out (a1 : Int) true)))); refine store_event (t := 4) (p := 18) (v := ?vo_w14) (w1 := (w11.setCell ⟨go8, (a1 : Int).toNat, none⟩ (.bool true))) ?hg ?ho ?hn ?hr ?_; (case ho => rfl); (case hg => rfl); (case hn => rfl); (case hr => first | (go_simp; done) | (go_simp; rfl)); intro w14 hw; have hg : w11.grownBy w14 (some go8) := (by rw [hw]; exact HP13.2); have hp_ : Kd.R Kd.bool 4 w14 w.heap.size (fun _ => True) (.slice (some ⟨go8, 0, none⟩) y305.length co8) y308 := (by rw [hw, Ny308.out]; exact HP13.1); clear HP13; replace BK304 := (kg BK304 hg (Kd.R_ne HO307.out BK304.out (by decide))); replace HO307 := am (hp_); replace HB := am ((by rw [hw]; exact below_set (HB.out) GB8.out : Below w.heap.size w w14)); clear hg hw hp_) | ((with_reducible refine gate_dst (N := 20) rfl ?_); refine Kd.R_lit (Kd.int .i64) _ 3 ?hg (N := 20) ?hd (xs := ([a1] : List Int)) (inner := [.int .i64 a1]) (ok := fun _ => True) (okp := fun _ => True) ?hr ?hp (fun _ hk => hk) trivial (Below.refl _ _) (Nat.le_refl _) (by simp) ?_; (case hd => rfl); (case hg => rfl); (case hr => first | (go_simp; done) | (go_simp; rfl)); (case hp => exact (Reps.one (show Kd.M (Kd.int .i64) _ _ _ a1 [.int .i64 a1] from rfl) (Reps.none _ _))); intro v310 w15 ho16 hb hg_ hnew_; clear hg_ hnew_; (first | rw [← Ny309.out] at ho16 | (simp only [Int.reduceToNat] at ho16; rw [← Ny309.out] at ho16)); replace HO307 := lR HO307 hb; have HO311 := am (Kd.R_lower ho16 (below_size bB)); replace BK304 := kb BK304 hb; replace HB := sB hb; clear hb ho16)); try go_wp2_with (first | ((with_reducible refine gate_dst (N := 3) rfl ?_); refine bE 3 #[.int .i64 a0_0, .slice A0_1 l0_1.length c0_1] 26 ?_; intro gb304 hg w9 hbox hb; have BK304 := am (hbox); have GW304 := gW hg; have GE304 := gW hg; replace HB := sB hb; clear hb hbox hg; obtain ⟨hcz10_0, hcz10_1, hfz10_0, hfz10_1⟩ := cZ BK304) | ((with_reducible refine gate_dst (N := 15) rfl ?_); refine Kd.R_make Kd.bool _ 4 rfl (N := 15) rfl 68 _ _ rfl (l0_1.length : Int) rfl rfl Try.underlying68 (.bool false) 1 info4 rfl (by decide) (by omega) false (ok := fun _ => True) (okp := fun _ => True) rfl (fun _ hk => hk) trivial (dT) (Nat.le_trans (Nat.mul_le_mul_right _ (dT : (l0_1.length : Int).toNat ≤ 281474976710656)) (by omega)) (Below.refl _ _) (Nat.le_refl _) ?_; intro v306 w11 ho12 hb hg_ hnew_; clear hg_ hnew_; (first | rw [← Ny305.out] at ho12 | (simp only [Int.reduceToNat] at ho12; rw [← Ny305.out] at ho12)); have HO307 := am (Kd.R_lower ho12 (below_size bB)); replace BK304 := kb BK304 hb; replace HB := sB hb; clear hb ho12; have p8 : 0 ≤ (a1 : Int) := dT; have q8 : (a1 : Int) < ((y305.length : Int) : Int) := dT; obtain ⟨go8, co8, eo8, gb8, gl8, cl8, HG8⟩ := Kd.R_form HO307.out (by omega); (first | cases eo8 | (injection eo8 with ea_ en_ ec_; (first | subst ea_ | (injection ea_ with ea_; subst ea_)); subst ec_; clear en_)); have GB8 := am gb8; have GG8 := am HG8; clear gb8 gl8 HG8; obtain ⟨hx8_0, hf8_0⟩ := Kd.R_celln false HO307.out (a1 : Int) p8 q8; replace p8 := eq_true p8; replace q8 := eq_true q8; obtain ⟨hy13_, hz13_⟩ := Kd.R_celln false HO307.out (a1 : Int) (dT) (dT); have HP13 := Kd.R_putg HO307.out (a1 : Int) true) | ((with_reducible refine gate_store (t := 4) (p := 18) rfl ?_); (try (rw [drewN_self w11]; generalize hq_ : World.drewN w11 _ = w11; replace HO307 := am (Kd.R_at hq_ HO307.out); replace BK304 := am (blk_at hq_ BK304.out); replace HB := am (below_at hq_ HB.out); clear hq_; (try (obtain ⟨hy13_, hz13_⟩ := Kd.R_celln false HO307.out (a1 : Int) (dT) (dT))); (try (have HP13 := Kd.R_putg HO307.out (a1 : Int) true)))); refine store_event (t := 4) (p := 18) (v := ?vo_w14) (w1 := (w11.setCell ⟨go8, (a1 : Int).toNat, none⟩ (.bool true))) ?hg ?ho ?hn ?hr ?_; (case ho => rfl); (case hg => rfl); (case hn => rfl); (case hr => first | (go_simp; done) | (go_simp; rfl)); intro w14 hw; have hg : w11.grownBy w14 (some go8) := (by rw [hw]; exact HP13.2); have hp_ : Kd.R Kd.bool 4 w14 w.heap.size (fun _ => True) (.slice (some ⟨go8, 0, none⟩) y305.length co8) y308 := (by rw [hw, Ny308.out]; exact HP13.1); clear HP13; replace BK304 := (kg BK304 hg (Kd.R_ne HO307.out BK304.out (by decide))); replace HO307 := am (hp_); replace HB := am ((by rw [hw]; exact below_set (HB.out) GB8.out : Below w.heap.size w w14)); clear hg hw hp_) | ((with_reducible refine gate_dst (N := 20) rfl ?_); refine Kd.R_lit (Kd.int .i64) _ 3 ?hg (N := 20) ?hd (xs := ([a1] : List Int)) (inner := [.int .i64 a1]) (ok := fun _ => True) (okp := fun _ => True) ?hr ?hp (fun _ hk => hk) trivial (Below.refl _ _) (Nat.le_refl _) (by simp) ?_; (case hd => rfl); (case hg => rfl); (case hr => first | (go_simp; done) | (go_simp; rfl)); (case hp => exact (Reps.one (show Kd.M (Kd.int .i64) _ _ _ a1 [.int .i64 a1] from rfl) (Reps.none _ _))); intro v310 w15 ho16 hb hg_ hnew_; clear hg_ hnew_; (first | rw [← Ny309.out] at ho16 | (simp only [Int.reduceToNat] at ho16; rw [← Ny309.out] at ho16)); replace HO307 := lR HO307 hb; have HO311 := am (Kd.R_lower ho16 (below_size bB)); replace BK304 := kb BK304 hb; replace HB := sB hb; clear hb ho16)))
 go_loopg [8, 9] k (fun kq v8 v9 w' => ∃ (x7_1 : List Bool) (x8_1 : List Int) (x9_1 : Int), v9 = .int .i64 x9_1 ∧ Aside0 (impl_States_reached.l0 kq a2 x7_1 x8_1 x9_1 a0_0 l0_1 = some r) ∧ Aside0 (kq ≤ k) ∧ Aside0 (Kd.R Kd.bool 4 w' w.heap.size (fun _ => True) (.slice (some ⟨go8, 0, none⟩) y305.length co8) x7_1) ∧ Aside0 (Kd.R (Kd.int .i64) 3 w' w.heap.size (fun _ => True) v8 x8_1) ∧ Aside0 (w'.heap[gb304]? = some (.cells #[.int .i64 a0_0, (.slice A0_1 l0_1.length c0_1)] 26 (0, 0))) ∧ Aside0 (Below w.heap.size w w'))
 case atStart => exact ⟨(y308), (y309), (0), sR, H', ⟨Nat.le_refl _⟩, ⟨rP HO307⟩, ⟨rP HO311⟩, ⟨bP BK304⟩, ⟨bB⟩⟩
 case round =>
  clear H'
  obtain ⟨x7_1, x8_1, x9_1, rfl, HA, HK1, HO_7, HO_8, BK304, HB⟩ := hrel
  have hl7_1 := (Kd.R_reads' HO_7.out).1
  rw [hl7_1] at HO_7
  (try simp only [hl7_1])
  (try simp only [hl7_1] at BK304)
  (try simp only [hl7_1] at HO_8)
  cases gk with
  | zero => exact absurd HA.out (by simp [impl_States_reached.l0])
  | succ k1 =>
   have H := HA.out
   clear HA
   simp only [impl_States_reached.l0] at H
   by_cases c17 : x9_1 < (x8_1.length : Int)
   · rw [if_pos c17] at H
     have c17b0 := decide_eq_true c17
     (try (have c17b0x7_1 : decide (x9_1 < (x7_1.length : Int)) = true := decide_eq_true (by have h_ := hl7_1; omega)))
     clear c17
     replace H := ifP H
     obtain ⟨c18, H⟩ := H
     have c18b0 := decide_eq_true c18
     clear c18
     by_cases c19 : (rd x8_1 x9_1) = a2
     · rw [if_pos c19] at H
       have c19b0 : ((rd x8_1 x9_1) == a2) = true := beq_iff_eq.mpr c19
       have c19b1 : ((rd x8_1 x9_1) != a2) = false := bne_eq_false_iff_eq.mpr c19
       clear c19
       have H' := am H
       clear H
       obtain ⟨Ao20, co20, eo20⟩ := Kd.R_slice HO_8.out
       subst eo20
       have p312 : 0 ≤ (x9_1 : Int) := dT
       have q312 : x9_1 < (x8_1.length : Int) := dT
       obtain ⟨ad312, e312, hx312_0⟩ := Kd.at_int (Kd.R_reads' HO_8.out).2.2 x9_1 p312 q312
       cases e312
       replace p312 := eq_true p312
       replace q312 := eq_true q312
       go_wp2
       repeat (go_quiet (fail); try go_wp2)
       (try simp only [← hl7_1])
       go_roundg k1
       case measure => have := HK1.out; omega
       case rel => exact ⟨(x7_1), (x8_1), (wrap64 (x9_1 + 1)), sR, H', ⟨oK⟩, ⟨by (try simp only [hl7_1]); (with_reducible repeat (first | apply Kd.R_alloc | apply Kd.R_drewN | apply Kd.R_drew)); exact HO_7.out⟩, ⟨by (try simp only [hl7_1]); (with_reducible repeat (first | apply Kd.R_alloc | apply Kd.R_drewN | apply Kd.R_drew)); exact HO_8.out⟩, ⟨by (try simp only [hl7_1]); (with_reducible repeat (first | refine blk_drewN ?_ _ | refine blk_drew ?_ | refine blk_alloc ?_ _)); exact BK304.out⟩, ⟨bB⟩⟩
     · rw [if_neg c19] at H
       have c19b0 : ((rd x8_1 x9_1) == a2) = false := beq_eq_false_iff_ne.mpr c19
       have c19b1 : ((rd x8_1 x9_1) != a2) = true := bne_iff_ne.mpr c19
       replace H := ifP H
       obtain ⟨c21, H⟩ := H
       have c21b0 := decide_eq_true c21
       clear c21
       replace H := ifP H
       obtain ⟨c22, H⟩ := H
       have c22b0 := decide_eq_true c22
       (try (have c22b0x7_1 : decide ((rd x8_1 x9_1) < (x7_1.length : Int)) = true := decide_eq_true (by have h_ := hl7_1; omega)))
       clear c22
       have H' := am H
       clear H
       obtain ⟨Ao23, co23, eo23⟩ := Kd.R_slice HO_8.out
       subst eo23
       have p312 : 0 ≤ (x9_1 : Int) := dT
       have q312 : x9_1 < (x8_1.length : Int) := dT
       obtain ⟨ad312, e312, hx312_0⟩ := Kd.at_int (Kd.R_reads' HO_8.out).2.2 x9_1 p312 q312
       cases e312
       replace p312 := eq_true p312
       replace q312 := eq_true q312
       obtain ⟨hcz24_0, hcz24_1, hfz24_0, hfz24_1⟩ := cZ BK304
       have p313 : 0 ≤ (x9_1 : Int) := dT
       have q313 : x9_1 < (x8_1.length : Int) := dT
       obtain ⟨ad313, e313, hx313_0⟩ := Kd.at_int (Kd.R_reads' HO_8.out).2.2 x9_1 p313 q313
       obtain rfl : ad312 = ad313 := (by injection e313)
       replace p313 := eq_true p313
       replace q313 := eq_true q313
       have p314 : 0 ≤ ((rd x8_1 x9_1) : Int) := dT
       have q314 : (rd x8_1 x9_1) < (l0_1.length : Int) := dT
       obtain ⟨ad314, A314_0, c314_0, e314, hx314_0, hl314_0, hi314_0⟩ := at_L2 HR0_1.out (rd x8_1 x9_1) p314 q314
       cases e314
       replace hx314_0 := (HB.out.cell (World.block_lt_of_cell? w _ hx314_0)).trans hx314_0
       have HR314_0 := am hi314_0
       have HC314_0 := am hl314_0
       clear hi314_0 hl314_0
       replace p314 := eq_true p314
       replace q314 := eq_true q314
       go_wp2
       repeat (go_quiet (fail); try go_wp2)
       go_loopg [8, 42] k1 (fun kq v8 v42 w' => ∃ (x7_2 : List Bool) (x8_2 : List Int) (x42_2 : Int), v42 = .int .i64 x42_2 ∧ Aside0 (impl_States_reached.l1 kq a2 x7_2 x8_2 x9_1 (rd_L2 l0_1 (rd x8_1 x9_1)) ((rd_L2 l0_1 (rd x8_1 x9_1)).length : Int) x42_2 a0_0 l0_1 = some r) ∧ Aside0 (kq ≤ k1) ∧ Aside0 (Kd.R Kd.bool 4 w' w.heap.size (fun _ => True) (.slice (some ⟨go8, 0, none⟩) x7_1.length co8) x7_2) ∧ Aside0 (Kd.R (Kd.int .i64) 3 w' w.heap.size (fun _ => True) v8 x8_2) ∧ Aside0 (w'.heap[gb304]? = some (.cells #[.int .i64 a0_0, (.slice (some ad314) l0_1.length c0_1)] 26 (0, 0))) ∧ Aside0 (Below w.heap.size w w'))
       case atStart => exact ⟨(x7_1), (x8_1), (0), sR, H', ⟨Nat.le_refl _⟩, ⟨by (try simp only [hl7_1]); (with_reducible repeat (first | apply Kd.R_alloc | apply Kd.R_drewN | apply Kd.R_drew)); exact HO_7.out⟩, ⟨by (try simp only [hl7_1]); (with_reducible repeat (first | apply Kd.R_alloc | apply Kd.R_drewN | apply Kd.R_drew)); exact HO_8.out⟩, ⟨by (try simp only [hl7_1]); (with_reducible repeat (first | refine blk_drewN ?_ _ | refine blk_drew ?_ | refine blk_alloc ?_ _)); exact BK304.out⟩, ⟨bB⟩⟩
       case round =>
        clear H'
        obtain ⟨x7_2, x8_2, x42_2, rfl, HA, HK2, HO_7, HO_8, BK304, HB⟩ := hrel
        have hl7_2 := (Kd.R_reads' HO_7.out).1
        rw [hl7_2] at HO_7
        (try simp only [hl7_2])
        (try simp only [hl7_2] at BK304)
        (try simp only [hl7_2] at HO_8)
        cases gk with
        | zero => exact absurd HA.out (by simp [impl_States_reached.l1])
        | succ k2 =>
         have H := HA.out
         clear HA
         simp only [impl_States_reached.l1] at H
         by_cases c25 : x42_2 < ((rd_L2 l0_1 (rd x8_1 x9_1)).length : Int)
         · rw [if_pos c25] at H
           have c25b0 := decide_eq_true c25
           clear c25
           replace H := ifP H
           obtain ⟨c26, H⟩ := H
           have c26b0 := decide_eq_true c26
           clear c26
           replace H := ifP H
           obtain ⟨c27, H⟩ := H
           have c27b0 := decide_eq_true c27
           clear c27
           by_cases c28 : (rd (rd_L2 l0_1 (rd x8_1 x9_1)) x42_2) > 0
           · rw [if_pos c28] at H
             have c28b0 : decide (0 < (rd (rd_L2 l0_1 (rd x8_1 x9_1)) x42_2)) = true := decide_eq_true c28
             clear c28
             replace H := ifP H
             obtain ⟨c29, H⟩ := H
             have c29b0 := decide_eq_true c29
             (try (have c29b0x7_1 : decide (x42_2 < (x7_1.length : Int)) = true := decide_eq_true (by have h_ := hl7_1; omega)))
             clear c29
             obtain ⟨bq30, hbq30⟩ : ∃ b_ : Bool, b_ = (rdOf false x7_2 x42_2) := ⟨_, rfl⟩
             replace H : (if bq30 = true then (impl_States_reached.l1 k2 a2 x7_2 x8_2 x9_1 (rd_L2 l0_1 (rd x8_1 x9_1)) ((rd_L2 l0_1 (rd x8_1 x9_1)).length : Int) (wrap64 (x42_2 + 1)) a0_0 l0_1) else (if x8_2.length < 17592186044416 then (impl_States_reached.l1 k2 a2 (x7_2.set (x42_2 : Int).toNat true) (x8_2 ++ [x42_2]) x9_1 (rd_L2 l0_1 (rd x8_1 x9_1)) ((rd_L2 l0_1 (rd x8_1 x9_1)).length : Int) (wrap64 (x42_2 + 1)) a0_0 l0_1) else (none))) = some r := by rw [← hbq30] at H; exact H
             have Nbq30 := am hbq30
             clear hbq30
             by_cases c31 : bq30 = true
             · subst c31
               replace H := ifT H
               have H' := am H
               clear H
               have p315 : 0 ≤ (x42_2 : Int) := dT
               have q315 : x42_2 < ((rd_L2 l0_1 (rd x8_1 x9_1)).length : Int) := dT
               obtain ⟨ad315, e315, hx315_0⟩ := Kd.at_int HR314_0.out x42_2 p315 q315
               cases e315
               replace hx315_0 := (HB.out.cell (World.block_lt_of_cell? w _ hx315_0)).trans hx315_0
               replace p315 := eq_true p315
               replace q315 := eq_true q315
               have p316 : 0 ≤ (x42_2 : Int) := dT
               have q316 : x42_2 < (x7_2.length : Int) := dT
               obtain ⟨ad316, e316, hx316_0⟩ := Kd.at_bool (Kd.R_reads' HO_7.out).2.2 x42_2 p316 q316
               (try rw [← Nbq30.out] at hx316_0)
               obtain rfl : (⟨go8, 0, none⟩ : Addr) = ad316 := (by injection e316)
               (first | simp only [add_plain] at hx316_0 | simp only [add_at] at hx316_0 | simp only [Addr.add, Nat.zero_add] at hx316_0 | skip)
               replace p316 := eq_true p316
               replace q316 := eq_true q316
               go_wp2
               repeat (go_quiet (fail); try go_wp2)
               (try simp only [← hl7_2])
               go_roundg k2
               case measure => have := HK1.out; have := HK2.out; omega
               case rel => exact ⟨(x7_2), (x8_2), (wrap64 (x42_2 + 1)), sR, H', ⟨oK⟩, ⟨by (try simp only [hl7_1]); (try simp only [hl7_2]); (with_reducible repeat (first | apply Kd.R_alloc | apply Kd.R_drewN | apply Kd.R_drew)); exact HO_7.out⟩, ⟨by (try simp only [hl7_1]); (try simp only [hl7_2]); (with_reducible repeat (first | apply Kd.R_alloc | apply Kd.R_drewN | apply Kd.R_drew)); exact HO_8.out⟩, ⟨by (try simp only [hl7_1]); (try simp only [hl7_2]); (with_reducible repeat (first | refine blk_drewN ?_ _ | refine blk_drew ?_ | refine blk_alloc ?_ _)); exact BK304.out⟩, ⟨bB⟩⟩
             · replace c31 := Bool.eq_false_iff.mpr c31
               subst c31
               replace H := ifF H
               generalize hy317 : ((x7_2.set (x42_2 : Int).toNat true) : List Bool) = y317 at H
               (try dsimp only [Option.bind_some] at H)
               have Ny317 := am hy317.symm
               clear hy317
               replace H := ifP H
               obtain ⟨c33, H⟩ := H
               have LMc33 := am c33
               clear c33
               generalize hy318 : ((x8_2 ++ [x42_2]) : List Int) = y318 at H
               (try dsimp only [Option.bind_some] at H)
               have Ny318 := am hy318.symm
               clear hy318
               have H' := am H
               clear H
               have p315 : 0 ≤ (x42_2 : Int) := dT
               have q315 : x42_2 < ((rd_L2 l0_1 (rd x8_1 x9_1)).length : Int) := dT
               obtain ⟨ad315, e315, hx315_0⟩ := Kd.at_int HR314_0.out x42_2 p315 q315
               cases e315
               replace hx315_0 := (HB.out.cell (World.block_lt_of_cell? w _ hx315_0)).trans hx315_0
               replace p315 := eq_true p315
               replace q315 := eq_true q315
               have p316 : 0 ≤ (x42_2 : Int) := dT
               have q316 : x42_2 < (x7_2.length : Int) := dT
               obtain ⟨ad316, e316, hx316_0⟩ := Kd.at_bool (Kd.R_reads' HO_7.out).2.2 x42_2 p316 q316
               (try rw [← Nbq30.out] at hx316_0)
               obtain rfl : (⟨go8, 0, none⟩ : Addr) = ad316 := (by injection e316)
               (first | simp only [add_plain] at hx316_0 | simp only [add_at] at hx316_0 | simp only [Addr.add, Nat.zero_add] at hx316_0 | skip)
               replace p316 := eq_true p316
               replace q316 := eq_true q316
               have p32 : 0 ≤ (x42_2 : Int) := dT
               have q32 : (x42_2 : Int) < ((x7_2.length : Int) : Int) := dT
               obtain ⟨hx32_0, hf32_0⟩ := Kd.R_celln false HO_7.out (x42_2 : Int) p32 q32
               replace p32 := eq_true p32
               replace q32 := eq_true q32
               have HP34 := Kd.R_putg HO_7.out (x42_2 : Int) true
               go_wp2_with (first | ((with_reducible refine gate_store (t := 4) (p := 58) rfl ?_); (try (rw [drewN_self wr]; generalize hq_ : World.drewN wr _ = wr; replace HO_7 := am (Kd.R_at hq_ HO_7.out); replace HO_8 := am (Kd.R_at hq_ HO_8.out); replace BK304 := am (blk_at hq_ BK304.out); replace HB := am (below_at hq_ HB.out); clear hq_; (try (have HP34 := Kd.R_putg HO_7.out (x42_2 : Int) true)))); refine store_event (t := 4) (p := 58) (v := ?vo_w35) (w1 := (wr.setCell ⟨go8, (x42_2 : Int).toNat, none⟩ (.bool true))) ?hg ?ho ?hn ?hr ?_; (case ho => rfl); (case hg => rfl); (case hn => rfl); (case hr => first | (go_simp; done) | (go_simp; rfl)); intro w35 hw; have hg : wr.grownBy w35 (some go8) := (by rw [hw]; exact HP34.2); have hp_ : Kd.R Kd.bool 4 w35 w.heap.size (fun _ => True) (.slice (some ⟨go8, 0, none⟩) x7_2.length co8) y317 := (by rw [hw, Ny317.out]; exact HP34.1); clear HP34; replace HO_8 := am (Kd.R_over' (v := (.slice (some ⟨go8, 0, none⟩) x7_2.length co8)) (rP HO_8) (Kd.R_typed HO_7.out) (by decide) hg); replace BK304 := (kg BK304 hg (Kd.R_ne HO_7.out BK304.out (by decide))); replace HO_7 := am (hp_); replace HB := am ((by rw [hw]; exact below_set (HB.out) GB8.out : Below w.heap.size w w35)); clear hg hw hp_) | ((with_reducible refine gate_builtin (b := .append) (xs := #[.tmp 59, .tmp 61]) rfl ?_); at_builtin; refine Kd.R_append (Kd.int .i64) (w0 := w) w.heap.size rfl (.tmp 59) (.tmp 61) 29 3 (.int .i64 0) 8 rfl Try.underlying29 info3 rfl (by decide) (by omega) u8 x8_2 x42_2 [.int .i64 x42_2] (fun _ => True) (fun _ => False) rfl rfl ?aP (fun _ hk => hk.elim) ?aF ?aO ?aB ?aS ?aL ?_; (case aP => exact rfl); (case aB => exact bB); (case aF => exact (fun _ _ => trivial)); (case aO => exact (rP HO_8)); (case aS => exact (below_size bB)); (case aL => have := LMc33.out; omega); intro v319 w36 ho hb hg hat; rw [← Ny318.out] at ho; replace HO_7 := am (Kd.R_over' (rP HO_7) (Kd.R_typed (rP HO_8)) (by decide) hg); replace BK304 := (kg BK304 hg (Kd.R_ne HO_8.out BK304.out (by decide))); replace HB := am (hb); have HO320 := am (ho); clear HO_8; clear ho hb hg hat))
               repeat (go_quiet (first | ((with_reducible refine gate_store (t := 4) (p := 58) rfl ?_); (try (rw [drewN_self wr]; generalize hq_ : World.drewN wr _ = wr; replace HO_7 := am (Kd.R_at hq_ HO_7.out); replace HO_8 := am (Kd.R_at hq_ HO_8.out); replace BK304 := am (blk_at hq_ BK304.out); replace HB := am (below_at hq_ HB.out); clear hq_; (try (have HP34 := Kd.R_putg HO_7.out (x42_2 : Int) true)))); refine store_event (t := 4) (p := 58) (v := ?vo_w35) (w1 := (wr.setCell ⟨go8, (x42_2 : Int).toNat, none⟩ (.bool true))) ?hg ?ho ?hn ?hr ?_; (case ho => rfl); (case hg => rfl); (case hn => rfl); (case hr => first | (go_simp; done) | (go_simp; rfl)); intro w35 hw; have hg : wr.grownBy w35 (some go8) := (by rw [hw]; exact HP34.2); have hp_ : Kd.R Kd.bool 4 w35 w.heap.size (fun _ => True) (.slice (some ⟨go8, 0, none⟩) x7_2.length co8) y317 := (by rw [hw, Ny317.out]; exact HP34.1); clear HP34; replace HO_8 := am (Kd.R_over' (v := (.slice (some ⟨go8, 0, none⟩) x7_2.length co8)) (rP HO_8) (Kd.R_typed HO_7.out) (by decide) hg); replace BK304 := (kg BK304 hg (Kd.R_ne HO_7.out BK304.out (by decide))); replace HO_7 := am (hp_); replace HB := am ((by rw [hw]; exact below_set (HB.out) GB8.out : Below w.heap.size w w35)); clear hg hw hp_) | ((with_reducible refine gate_builtin (b := .append) (xs := #[.tmp 59, .tmp 61]) rfl ?_); at_builtin; refine Kd.R_append (Kd.int .i64) (w0 := w) w.heap.size rfl (.tmp 59) (.tmp 61) 29 3 (.int .i64 0) 8 rfl Try.underlying29 info3 rfl (by decide) (by omega) u8 x8_2 x42_2 [.int .i64 x42_2] (fun _ => True) (fun _ => False) rfl rfl ?aP (fun _ hk => hk.elim) ?aF ?aO ?aB ?aS ?aL ?_; (case aP => exact rfl); (case aB => exact bB); (case aF => exact (fun _ _ => trivial)); (case aO => exact (rP HO_8)); (case aS => exact (below_size bB)); (case aL => have := LMc33.out; omega); intro v319 w36 ho hb hg hat; rw [← Ny318.out] at ho; replace HO_7 := am (Kd.R_over' (rP HO_7) (Kd.R_typed (rP HO_8)) (by decide) hg); replace BK304 := (kg BK304 hg (Kd.R_ne HO_8.out BK304.out (by decide))); replace HB := am (hb); have HO320 := am (ho); clear HO_8; clear ho hb hg hat)); try go_wp2_with (first | ((with_reducible refine gate_store (t := 4) (p := 58) rfl ?_); (try (rw [drewN_self wr]; generalize hq_ : World.drewN wr _ = wr; replace HO_7 := am (Kd.R_at hq_ HO_7.out); replace HO_8 := am (Kd.R_at hq_ HO_8.out); replace BK304 := am (blk_at hq_ BK304.out); replace HB := am (below_at hq_ HB.out); clear hq_; (try (have HP34 := Kd.R_putg HO_7.out (x42_2 : Int) true)))); refine store_event (t := 4) (p := 58) (v := ?vo_w35) (w1 := (wr.setCell ⟨go8, (x42_2 : Int).toNat, none⟩ (.bool true))) ?hg ?ho ?hn ?hr ?_; (case ho => rfl); (case hg => rfl); (case hn => rfl); (case hr => first | (go_simp; done) | (go_simp; rfl)); intro w35 hw; have hg : wr.grownBy w35 (some go8) := (by rw [hw]; exact HP34.2); have hp_ : Kd.R Kd.bool 4 w35 w.heap.size (fun _ => True) (.slice (some ⟨go8, 0, none⟩) x7_2.length co8) y317 := (by rw [hw, Ny317.out]; exact HP34.1); clear HP34; replace HO_8 := am (Kd.R_over' (v := (.slice (some ⟨go8, 0, none⟩) x7_2.length co8)) (rP HO_8) (Kd.R_typed HO_7.out) (by decide) hg); replace BK304 := (kg BK304 hg (Kd.R_ne HO_7.out BK304.out (by decide))); replace HO_7 := am (hp_); replace HB := am ((by rw [hw]; exact below_set (HB.out) GB8.out : Below w.heap.size w w35)); clear hg hw hp_) | ((with_reducible refine gate_builtin (b := .append) (xs := #[.tmp 59, .tmp 61]) rfl ?_); at_builtin; refine Kd.R_append (Kd.int .i64) (w0 := w) w.heap.size rfl (.tmp 59) (.tmp 61) 29 3 (.int .i64 0) 8 rfl Try.underlying29 info3 rfl (by decide) (by omega) u8 x8_2 x42_2 [.int .i64 x42_2] (fun _ => True) (fun _ => False) rfl rfl ?aP (fun _ hk => hk.elim) ?aF ?aO ?aB ?aS ?aL ?_; (case aP => exact rfl); (case aB => exact bB); (case aF => exact (fun _ _ => trivial)); (case aO => exact (rP HO_8)); (case aS => exact (below_size bB)); (case aL => have := LMc33.out; omega); intro v319 w36 ho hb hg hat; rw [← Ny318.out] at ho; replace HO_7 := am (Kd.R_over' (rP HO_7) (Kd.R_typed (rP HO_8)) (by decide) hg); replace BK304 := (kg BK304 hg (Kd.R_ne HO_8.out BK304.out (by decide))); replace HB := am (hb); have HO320 := am (ho); clear HO_8; clear ho hb hg hat)))
               (try simp only [← hl7_2])
               go_roundg k2
               case measure => have := HK1.out; have := HK2.out; omega
               case rel => exact ⟨(y317), (y318), (wrap64 (x42_2 + 1)), sR, H', ⟨oK⟩, ⟨by (try simp only [hl7_1]); (try simp only [hl7_2]); (with_reducible repeat (first | apply Kd.R_alloc | apply Kd.R_drewN | apply Kd.R_drew)); exact HO_7.out⟩, ⟨by (try simp only [hl7_1]); (try simp only [hl7_2]); (with_reducible repeat (first | apply Kd.R_alloc | apply Kd.R_drewN | apply Kd.R_drew)); exact HO320.out⟩, ⟨by (try simp only [hl7_1]); (try simp only [hl7_2]); (with_reducible repeat (first | refine blk_drewN ?_ _ | refine blk_drew ?_ | refine blk_alloc ?_ _)); exact BK304.out⟩, ⟨bB⟩⟩
           · rw [if_neg c28] at H
             have c28b0 : decide (0 < (rd (rd_L2 l0_1 (rd x8_1 x9_1)) x42_2)) = false := decide_eq_false c28
             clear c28
             have H' := am H
             clear H
             have p315 : 0 ≤ (x42_2 : Int) := dT
             have q315 : x42_2 < ((rd_L2 l0_1 (rd x8_1 x9_1)).length : Int) := dT
             obtain ⟨ad315, e315, hx315_0⟩ := Kd.at_int HR314_0.out x42_2 p315 q315
             cases e315
             replace hx315_0 := (HB.out.cell (World.block_lt_of_cell? w _ hx315_0)).trans hx315_0
             replace p315 := eq_true p315
             replace q315 := eq_true q315
             go_wp2
             repeat (go_quiet (fail); try go_wp2)
             (try simp only [← hl7_2])
             go_roundg k2
             case measure => have := HK1.out; have := HK2.out; omega
             case rel => exact ⟨(x7_2), (x8_2), (wrap64 (x42_2 + 1)), sR, H', ⟨oK⟩, ⟨by (try simp only [hl7_1]); (try simp only [hl7_2]); (with_reducible repeat (first | apply Kd.R_alloc | apply Kd.R_drewN | apply Kd.R_drew)); exact HO_7.out⟩, ⟨by (try simp only [hl7_1]); (try simp only [hl7_2]); (with_reducible repeat (first | apply Kd.R_alloc | apply Kd.R_drewN | apply Kd.R_drew)); exact HO_8.out⟩, ⟨by (try simp only [hl7_1]); (try simp only [hl7_2]); (with_reducible repeat (first | refine blk_drewN ?_ _ | refine blk_drew ?_ | refine blk_alloc ?_ _)); exact BK304.out⟩, ⟨bB⟩⟩
         · rw [if_neg c25] at H
           have c25b0 := decide_eq_false c25
           clear c25
           have H' := am H
           clear H
           go_wp2
           repeat (go_quiet (fail); try go_wp2)
           (try simp only [← hl7_1, ← hl7_2])
           go_roundg k2
           case measure => have := HK1.out; have := HK2.out; omega
           case rel => exact ⟨(x7_2), (x8_2), (wrap64 (x9_1 + 1)), sR, H', ⟨oK⟩, ⟨by (try simp only [hl7_1]); (try simp only [hl7_2]); (with_reducible repeat (first | apply Kd.R_alloc | apply Kd.R_drewN | apply Kd.R_drew)); exact HO_7.out⟩, ⟨by (try simp only [hl7_1]); (try simp only [hl7_2]); (with_reducible repeat (first | apply Kd.R_alloc | apply Kd.R_drewN | apply Kd.R_drew)); exact HO_8.out⟩, ⟨by (try simp only [hl7_1]); (try simp only [hl7_2]); (with_reducible repeat (first | refine blk_drewN ?_ _ | refine blk_drew ?_ | refine blk_alloc ?_ _)); exact BK304.out⟩, ⟨bB⟩⟩
   · rw [if_neg c17] at H
     have c17b0 := decide_eq_false c17
     (try (have c17b0x7_1 : decide (x9_1 < (x7_1.length : Int)) = false := decide_eq_false (by have h_ := hl7_1; omega)))
     (try (have c17b0x7_2 : decide (x9_1 < (x7_2.length : Int)) = false := decide_eq_false (by have h_ := hl7_2; omega)))
     clear c17
     obtain rfl := Option.some.inj H
     obtain ⟨Ao37, co37, eo37⟩ := Kd.R_slice HO_8.out
     subst eo37
     go_wp2
     repeat (go_quiet (fail); try go_wp2)
     go_ret
     exact ⟨_, eW, rP HO_7, bB⟩
def impl_ReachedStates.f (k : Nat) (a0_0 : Int) (l0_1 : List (List Int)) (a1 : Int) : Option (List Int × Bool) := (impl_areWith.f k a0_0 l0_1 (([a1] : List Int))).bind fun t325 => (if t325 = true then ((impl_States_reached.f k a0_0 l0_1 a1 (-1)).bind fun t326 => ((impl_members.f k t326).bind fun t329 => (some (t329, true)))) else (some (([] : List Int), false)))
set_option maxHeartbeats 8000000 in
set_option maxRecDepth 100000 in
theorem impl_ReachedStates.calls (k : Nat) (a0_0 : Int) (A0_1 : Option Addr) (c0_1 : Nat) (l0_1 : List (List Int)) (a1 : Int) (r1 : List Int) (r2 : Bool) (w : World) (hr0_1 : Kd.C (Kd.slice 3 (Kd.int .i64)) w A0_1 l0_1.length l0_1) (hc0_1 : l0_1.length ≤ c0_1) (h : impl_ReachedStates.f k a0_0 l0_1 a1 = some (r1, r2)) :
 Calls Try.prog 8 #[.agg #[.int .i64 a0_0, .slice A0_1 l0_1.length c0_1], .int .i64 a1] w fun e w' => ∃ v0_ : Value, e = .returned (.tuple #[v0_, .bool r2]) ∧ Kd.R (Kd.int .i64) 3 w' w.heap.size (fun _ => True) v0_ r1 ∧ Below w.heap.size w w' := by
 have hu26 := Try.underlying26
 have HR0_1 := am hr0_1
 have HC0_1 := am hc0_1
 clear hr0_1 hc0_1
 have HB := am (Below.refl w.heap.size w)
 have H := h
 clear h
 unfold impl_ReachedStates.f at H
 generalize hy322 : ((([a1] : List Int)) : List Int) = y322 at H
 (try dsimp only [Option.bind_some] at H)
 have Ny322 := am hy322.symm
 clear hy322
 replace H := bnd H
 obtain ⟨t325, A3, H⟩ := H
 (try dsimp only at H)
 by_cases c4 : t325 = true
 · subst c4
   replace H := ifT H
   replace H := bnd H
   obtain ⟨t326, A5, H⟩ := H
   (try dsimp only at H)
   replace H := bnd H
   obtain ⟨t329, A6, H⟩ := H
   (try dsimp only at H)
   simp only [Option.some.injEq, Prod.mk.injEq] at H
   obtain ⟨rfl, rfl⟩ := H
   go_enter Try.func8, Try.ntmps8
   go_wp2_with (first | ((with_reducible refine gate_dst (N := 2) rfl ?_); refine bE 2 #[.int .i64 a0_0, .slice A0_1 l0_1.length c0_1] 26 ?_; intro gb321 hg w7 hbox hb; have BK321 := am (hbox); have GW321 := gW hg; have GE321 := gW hg; replace HB := sB hb; clear hb hbox hg; obtain ⟨hcz8_0, hcz8_1, hfz8_0, hfz8_1⟩ := cZ BK321) | ((with_reducible refine gate_dst (N := 8) rfl ?_); refine Kd.R_lit (Kd.int .i64) _ 3 ?hg (N := 8) ?hd (xs := ([a1] : List Int)) (inner := [.int .i64 a1]) (ok := fun _ => True) (okp := fun _ => True) ?hr ?hp (fun _ hk => hk) trivial (Below.refl _ _) (Nat.le_refl _) (by simp) ?_; (case hd => rfl); (case hg => rfl); (case hr => first | (go_simp; done) | (go_simp; rfl)); (case hp => exact (Reps.one (show Kd.M (Kd.int .i64) _ _ _ a1 [.int .i64 a1] from rfl) (Reps.none _ _))); intro v323 w9 ho10 hb hg_ hnew_; clear hg_ hnew_; (first | rw [← Ny322.out] at ho10 | (simp only [Int.reduceToNat] at ho10; rw [← Ny322.out] at ho10)); have HO324 := am (Kd.R_lower ho10 (below_size bB)); replace BK321 := kb BK321 hb; replace HB := sB hb; clear hb ho10; obtain ⟨Ao11, co11, eo11⟩ := Kd.R_slice HO324.out; subst eo11) | ((with_reducible refine gate_callee (f := 36) rfl ?_); refine gL 9 Try.func36 #[.agg #[.int .i64 a0_0, .slice A0_1 l0_1.length c0_1], .slice Ao11 y322.length co11] ?_; (with_reducible refine (impl_areWith.calls k a0_0 _ _ l0_1 _ _ y322 true _ ?side1 HC0_1.out ?side3 (Kd.R_reads' HO324.out).2.1 A3.out).mono ?_); (case side1 => exact cH HR0_1); (case side3 => exact cB (Kd.R_reads' HO324.out).2.2); rintro e w12 ⟨rfl, hb⟩; refine ⟨_, rfl, ?_⟩; replace HO324 := lR HO324 hb; replace BK321 := kb BK321 hb; replace HB := sB hb; obtain ⟨hcz13_0, hcz13_1, hfz13_0, hfz13_1⟩ := cZ BK321) | ((with_reducible refine gate_callee (f := 44) rfl ?_); refine gL 13 Try.func44 #[.agg #[.int .i64 a0_0, .slice A0_1 l0_1.length c0_1], .int .i64 a1, .int .i64 (-1)] ?_; (with_reducible refine (impl_States_reached.calls k a0_0 _ _ l0_1 a1 (-1) t326 _ ?side1 HC0_1.out A5.out).mono ?_); (case side1 => exact cH HR0_1); rintro e w14 ⟨v327, rfl, ho0, hb⟩; refine ⟨_, rfl, ?_⟩; replace HO324 := lR HO324 hb; have HO328 := am (Kd.R_lower ho0 (below_size bB)); replace BK321 := kb BK321 hb; replace HB := sB hb; obtain ⟨Ao15, co15, eo15⟩ := Kd.R_slice HO328.out; subst eo15) | ((with_reducible refine gate_callee (f := 43) rfl ?_); refine gL 14 Try.func43 #[.slice Ao15 t326.length co15] ?_; (with_reducible refine (impl_members.calls k _ _ t326 t329 _ ?side1 (Kd.R_reads' HO328.out).2.1 A6.out).mono ?_); (case side1 => exact cB (Kd.R_reads' HO328.out).2.2); rintro e w16 ⟨v330, rfl, ho0, hb⟩; refine ⟨_, rfl, ?_⟩; replace HO328 := lR HO328 hb; have HO331 := am (Kd.R_lower (Kd.R_new' ho0 (Kd.R_lt (rP HO324))) (below_size bB)); replace HO324 := eR HO324 ho0 hb; replace BK321 := kb BK321 hb; replace HB := sB hb))
   go_ret2
   exact ⟨_, eW, rF (Kd.R_mono HO331.out (fun _ hk => trivial)), bB⟩
 · replace c4 := Bool.eq_false_iff.mpr c4
   subst c4
   replace H := ifF H
   simp only [Option.some.injEq, Prod.mk.injEq] at H
   obtain ⟨rfl, rfl⟩ := H
   go_enter Try.func8, Try.ntmps8
   go_wp2_with (first | ((with_reducible refine gate_dst (N := 2) rfl ?_); refine bE 2 #[.int .i64 a0_0, .slice A0_1 l0_1.length c0_1] 26 ?_; intro gb321 hg w17 hbox hb; have BK321 := am (hbox); have GW321 := gW hg; have GE321 := gW hg; replace HB := sB hb; clear hb hbox hg; obtain ⟨hcz18_0, hcz18_1, hfz18_0, hfz18_1⟩ := cZ BK321) | ((with_reducible refine gate_dst (N := 8) rfl ?_); refine Kd.R_lit (Kd.int .i64) _ 3 ?hg (N := 8) ?hd (xs := ([a1] : List Int)) (inner := [.int .i64 a1]) (ok := fun _ => True) (okp := fun _ => True) ?hr ?hp (fun _ hk => hk) trivial (Below.refl _ _) (Nat.le_refl _) (by simp) ?_; (case hd => rfl); (case hg => rfl); (case hr => first | (go_simp; done) | (go_simp; rfl)); (case hp => exact (Reps.one (show Kd.M (Kd.int .i64) _ _ _ a1 [.int .i64 a1] from rfl) (Reps.none _ _))); intro v323 w19 ho20 hb hg_ hnew_; clear hg_ hnew_; (first | rw [← Ny322.out] at ho20 | (simp only [Int.reduceToNat] at ho20; rw [← Ny322.out] at ho20)); have HO324 := am (Kd.R_lower ho20 (below_size bB)); replace BK321 := kb BK321 hb; replace HB := sB hb; clear hb ho20; obtain ⟨Ao21, co21, eo21⟩ := Kd.R_slice HO324.out; subst eo21) | ((with_reducible refine gate_callee (f := 36) rfl ?_); refine gL 9 Try.func36 #[.agg #[.int .i64 a0_0, .slice A0_1 l0_1.length c0_1], .slice Ao21 y322.length co21] ?_; (with_reducible refine (impl_areWith.calls k a0_0 _ _ l0_1 _ _ y322 false _ ?side1 HC0_1.out ?side3 (Kd.R_reads' HO324.out).2.1 A3.out).mono ?_); (case side1 => exact cH HR0_1); (case side3 => exact cB (Kd.R_reads' HO324.out).2.2); rintro e w22 ⟨rfl, hb⟩; refine ⟨_, rfl, ?_⟩; replace HO324 := lR HO324 hb; replace BK321 := kb BK321 hb; replace HB := sB hb))
   go_ret2
   exact ⟨_, eW, nL, bB⟩
end Go.Proofs.Ytkkjnmnjbmfpaaa.PFnStatesStep
