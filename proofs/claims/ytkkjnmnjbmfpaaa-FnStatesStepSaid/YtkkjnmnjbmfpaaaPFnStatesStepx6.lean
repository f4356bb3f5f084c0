-- written by a program of this session (the kit's print with turns of the session's own)
import Derived.Test.YtkkjnmnjbmfpaaaPFnStatesStepx0
import Derived.Test.YtkkjnmnjbmfpaaaHp
import Derived.Test.YtkkjnmnjbmfpaaaPFnStatesStepx4
import Derived.Test.YtkkjnmnjbmfpaaaPFnStatesStepx5
namespace Go.Proofs.Ytkkjnmnjbmfpaaa.PFnStatesStep
open Go.RowKit Go.Proofs.YtkkjnmnjbmfpaaaW.PrintWords Go.Proofs.YtkkjnmnjbmfpaaaW.PrintLast Go.Proofs.YtkkjnmnjbmfpaaaW.PrintMore
attribute [local go_sem] Instr.field asAgg part max2_int min2_int max_two min_two max_three min_three max_four min_four
set_option linter.unusedVariables false
set_option linter.unusedSimpArgs false
mutual
def spec_saAfter.l0 : Nat → Int → Bool → List Int → Int → List (List Int) → Option (List Int)
 | 0, _, _, _, _, _ => none
 | k + 1, x2, x3, x9, x279000, x279001 => if x2 > 0 then (if 0 ≤ (x279001.length : Int) then (if ((x279001.length : Int) : Int).toNat ≤ 35184372088832 then (spec_saAfter.l1 k x2 x3 (List.replicate ((x279001.length : Int) : Int).toNat 0) x9 (x9.length : Int) 0 x279000 x279001) else (none)) else (none)) else (some x9)
def spec_saAfter.l1 : Nat → Int → Bool → List Int → List Int → Int → Int → Int → List (List Int) → Option (List Int)
 | 0, _, _, _, _, _, _, _, _ => none
 | k + 1, x2, x3, x10, x30, x31, x32, x279000, x279001 => if x32 < x31 then (if 0 ≤ x32 then (if x32 < (x30.length : Int) then (if x32 < (x279001.length : Int) then (spec_saAfter.l2 k x2 x3 x10 (rd x30 x32) x30 x31 x32 (rd_L2 x279001 x32) ((rd_L2 x279001 x32).length : Int) 0 x279000 x279001) else (none)) else (none)) else (none)) else (spec_saAfter.l0 k (wrap64 (x2 - 1)) x3 x10 x279000 x279001)
def spec_saAfter.l2 : Nat → Int → Bool → List Int → Int → List Int → Int → Int → List Int → Int → Int → Int → List (List Int) → Option (List Int)
 | 0, _, _, _, _, _, _, _, _, _, _, _, _ => none
 | k + 1, x2, x3, x10, x12, x30, x31, x32, x41, x42, x43, x279000, x279001 => if x43 < x42 then (if 0 ≤ x43 then (if x43 < (x41.length : Int) then (if x3 = true then ((spec_l1Sign.f (rd x41 x43)).bind fun t289 => (if x43 < (x10.length : Int) then (spec_saAfter.l2 k x2 x3 (x10.set (x43 : Int).toNat (wrap64 ((rd x10 x43) + (wrap64 (x12 * t289))))) x12 x30 x31 x32 x41 x42 (wrap64 (x43 + 1)) x279000 x279001) else (none))) else (if x43 < (x10.length : Int) then (spec_saAfter.l2 k x2 x3 (x10.set (x43 : Int).toNat (wrap64 ((rd x10 x43) + (wrap64 (x12 * (rd x41 x43)))))) x12 x30 x31 x32 x41 x42 (wrap64 (x43 + 1)) x279000 x279001) else (none))) else (none)) else (none)) else (spec_saAfter.l1 k x2 x3 x10 x30 x31 (wrap64 (x32 + 1)) x279000 x279001)
end
def spec_saAfter.f (k : Nat) (a0_0 : Int) (l0_1 : List (List Int)) (a1 : Int) (a2 : Int) (a3 : Bool) : Option (List Int) := if 0 ≤ (l0_1.length : Int) then (if ((l0_1.length : Int) : Int).toNat ≤ 35184372088832 then ((some (List.replicate ((l0_1.length : Int) : Int).toNat 0 : List Int)).bind fun y279 => (if 0 ≤ a1 then (if a1 < (y279.length : Int) then (spec_saAfter.l0 k a2 a3 (y279.set (a1 : Int).toNat 1) a0_0 l0_1) else (none)) else (none))) else (none)) else (none)
set_option maxHeartbeats 8000000 in
set_option maxRecDepth 100000 in
theorem spec_saAfter.calls (k : Nat) (a0_0 : Int) (A0_1 : Option Addr) (c0_1 : Nat) (l0_1 : List (List Int)) (a1 : Int) (a2 : Int) (a3 : Bool) (r : List Int) (w : World) (hr0_1 : Kd.C (Kd.slice 3 (Kd.int .i64)) w A0_1 l0_1.length l0_1) (hc0_1 : l0_1.length ≤ c0_1) (h : spec_saAfter.f k a0_0 l0_1 a1 a2 a3 = some r) :
 Calls Try.prog 42 #[.agg #[.int .i64 a0_0, .slice A0_1 l0_1.length c0_1], .int .i64 a1, .int .i64 a2, .bool a3] w fun e w' => ∃ v0_ : Value, e = .returned (v0_) ∧ Kd.R (Kd.int .i64) 3 w' w.heap.size (fun _ => True) v0_ r ∧ Below w.heap.size w w' := by
 have hu26 := Try.underlying26
 have HR0_1 := am hr0_1
 have HC0_1 := am hc0_1
 clear hr0_1 hc0_1
 have HB := am (Below.refl w.heap.size w)
 have H := h
 clear h
 unfold spec_saAfter.f at H
 replace H := ifP H
 obtain ⟨c5, H⟩ := H
 have c5b0 := eq_true c5
 have c5b1 := decide_eq_true c5
 clear c5
 replace H := ifP H
 obtain ⟨c6, H⟩ := H
 have c6b0 := eq_true c6
 have c6b1 := decide_eq_true c6
 clear c6
 generalize hy279 : ((List.replicate ((l0_1.length : Int) : Int).toNat 0) : List Int) = y279 at H
 (try dsimp only [Option.bind_some] at H)
 have Ny279 := am hy279.symm
 clear hy279
 replace H := ifP H
 obtain ⟨c7, H⟩ := H
 have c7b0 := decide_eq_true c7
 clear c7
 replace H := ifP H
 obtain ⟨c8, H⟩ := H
 have c8b0 := decide_eq_true c8
 clear c8
 generalize hy282 : ((y279.set (a1 : Int).toNat 1) : List Int) = y282 at H
 (try dsimp only [Option.bind_some] at H)
 have Ny282 := am hy282.symm
 clear hy282
 have H' := am H
 clear H
 go_enter Try.func42, Try.ntmps42
 go_wp2_with (first | ((with_reducible refine gate_dst (N := 4) rfl ?_); refine bE 4 #[.int .i64 a0_0, .slice A0_1 l0_1.length c0_1] 26 ?_; intro gb278 hg w10 hbox hb; have BK278 := am (hbox); have GW278 := gW hg; have GE278 := gW hg; replace HB := sB hb; clear hb hbox hg; obtain ⟨hcz11_0, hcz11_1, hfz11_0, hfz11_1⟩ := cZ BK278) | ((with_reducible refine gate_dst (N := 18) rfl ?_); refine Kd.R_make (Kd.int .i64) _ 3 rfl (N := 18) rfl 29 _ _ rfl (l0_1.length : Int) rfl rfl Try.underlying29 (.int .i64 0) 8 info3 rfl (by decide) (by omega) 0 (ok := fun _ => True) (okp := fun _ => True) rfl (fun _ hk => hk) trivial (dT) (Nat.le_trans (Nat.mul_le_mul_right _ (dT : (l0_1.length : Int).toNat ≤ 35184372088832)) (by omega)) (Below.refl _ _) (Nat.le_refl _) ?_; intro v280 w12 ho13 hb hg_ hnew_; clear hg_ hnew_; (first | rw [← Ny279.out] at ho13 | (simp only [Int.reduceToNat] at ho13; rw [← Ny279.out] at ho13)); have HO281 := am (Kd.R_lower ho13 (below_size bB)); replace BK278 := kb BK278 hb; replace HB := sB hb; clear hb ho13; have p9 : 0 ≤ (a1 : Int) := dT; have q9 : (a1 : Int) < ((y279.length : Int) : Int) := dT; obtain ⟨go9, co9, eo9, gb9, gl9, cl9, HG9⟩ := Kd.R_form HO281.out (by omega); (first | cases eo9 | (injection eo9 with ea_ en_ ec_; (first | subst ea_ | (injection ea_ with ea_; subst ea_)); subst ec_; clear en_)); have GB9 := am gb9; have GG9 := am HG9; clear gb9 gl9 HG9; obtain ⟨hx9_0, hf9_0⟩ := Kd.R_celln 0 HO281.out (a1 : Int) p9 q9; replace p9 := eq_true p9; replace q9 := eq_true q9; obtain ⟨hy14_, hz14_⟩ := Kd.R_celln 0 HO281.out (a1 : Int) (dT) (dT); have HP14 := Kd.R_putg HO281.out (a1 : Int) 1) | ((with_reducible refine gate_store (t := 3) (p := 21) rfl ?_); refine store_event (t := 3) (p := 21) (v := ?vo_w15) (w1 := (w12.setCell ⟨go9, (a1 : Int).toNat, none⟩ (.int .i64 1))) ?hg ?ho ?hn ?hr ?_; (case ho => rfl); (case hg => rfl); (case hn => rfl); (case hr => first | (go_simp; done) | (go_simp; rfl)); intro w15 hw; have hg : w12.grownBy w15 (some go9) := (by rw [hw]; exact HP14.2); have hp_ : Kd.R (Kd.int .i64) 3 w15 w.heap.size (fun _ => True) (.slice (some ⟨go9, 0, none⟩) y279.length co9) y282 := (by rw [hw, Ny282.out]; exact HP14.1); clear HP14; replace BK278 := (kg BK278 hg (Kd.R_ne HO281.out BK278.out (by decide))); replace HO281 := am (hp_); replace HB := am ((by rw [hw]; exact below_set (HB.out) GB9.out : Below w.heap.size w w15)); clear hg hw hp_))
 go_loopg [2, 9] k (fun kq v2 v9 w' => ∃ (x2_1 : Int) (x9_1 : List Int), v2 = .int .i64 x2_1 ∧ Aside0 (spec_saAfter.l0 kq x2_1 a3 x9_1 a0_0 l0_1 = some r) ∧ Aside0 (kq ≤ k) ∧ Aside0 (Kd.R (Kd.int .i64) 3 w' w.heap.size (fun _ => True) v9 x9_1) ∧ Aside0 (w'.heap[gb278]? = some (.cells #[.int .i64 a0_0, (.slice A0_1 l0_1.length c0_1)] 26 (0, 0))) ∧ Aside0 (Below w.heap.size w w'))
 case atStart => exact ⟨(a2), (y282), sR, H', ⟨Nat.le_refl _⟩, ⟨rP HO281⟩, ⟨bP BK278⟩, ⟨bB⟩⟩
 case round =>
  clear H'
  obtain ⟨x2_1, x9_1, rfl, HA, HK1, HO_9, BK278, HB⟩ := hrel
  cases gk with
  | zero => exact absurd HA.out (by simp [spec_saAfter.l0])
  | succ k1 =>
   have H := HA.out
   clear HA
   simp only [spec_saAfter.l0] at H
   by_cases c16 : x2_1 > 0
   · rw [if_pos c16] at H
     have c16b0 : decide (0 < x2_1) = true := decide_eq_true c16
     clear c16
     replace H := ifP H
     obtain ⟨c17, H⟩ := H
     have c17b0 := eq_true c17
     have c17b1 := decide_eq_true c17
     clear c17
     replace H := ifP H
     obtain ⟨c18, H⟩ := H
     have c18b0 := eq_true c18
     have c18b1 := decide_eq_true c18
     clear c18
     generalize hy283 : ((List.replicate ((l0_1.length : Int) : Int).toNat 0) : List Int) = y283 at H
     (try dsimp only [Option.bind_some] at H)
     have Ny283 := am hy283.symm
     clear hy283
     have H' := am H
     clear H
     obtain ⟨hcz19_0, hcz19_1, hfz19_0, hfz19_1⟩ := cZ BK278
     go_wp2_with (first | ((with_reducible refine gate_dst (N := 29) rfl ?_); refine Kd.R_make (Kd.int .i64) _ 3 rfl (N := 29) rfl 29 _ _ rfl (l0_1.length : Int) rfl rfl Try.underlying29 (.int .i64 0) 8 info3 rfl (by decide) (by omega) 0 (ok := fun _ => True) (okp := fun _ => True) rfl (fun _ hk => hk) trivial (dT) (Nat.le_trans (Nat.mul_le_mul_right _ (dT : (l0_1.length : Int).toNat ≤ 35184372088832)) (by omega)) (Below.refl _ _) (Nat.le_refl _) ?_; intro v284 w20 ho21 hb hg_ hnew_; clear hg_ hnew_; (first | rw [← Ny283.out] at ho21 | (simp only [Int.reduceToNat] at ho21; rw [← Ny283.out] at ho21)); have HO285 := am (Kd.R_lower (Kd.R_new' ho21 (Kd.R_lt (rP HO_9))) (below_size bB)); replace HO_9 := eR HO_9 ho21 hb; replace BK278 := kb BK278 hb; replace HB := sB hb; clear hb ho21; obtain ⟨Ao22, co22, eo22⟩ := Kd.R_slice HO_9.out; subst eo22))
     go_loopg [32] k1 (fun kq v32 w' => ∃ (x10_2 : List Int) (x32_2 : Int), v32 = .int .i64 x32_2 ∧ Aside0 (spec_saAfter.l1 kq x2_1 a3 x10_2 x9_1 (x9_1.length : Int) x32_2 a0_0 l0_1 = some r) ∧ Aside0 (kq ≤ k1) ∧ Aside0 (Kd.R (Kd.int .i64) 3 w' w.heap.size (fun k_ => some k_ ≠ ((.slice Ao22 x9_1.length co22) : Value).ownBlock) v284 x10_2) ∧ Aside0 (Kd.R (Kd.int .i64) 3 w' w.heap.size (fun k_ => some k_ ≠ (v284 : Value).ownBlock) (.slice Ao22 x9_1.length co22) x9_1) ∧ Aside0 (w'.heap[gb278]? = some (.cells #[.int .i64 a0_0, (.slice A0_1 l0_1.length c0_1)] 26 (0, 0))) ∧ Aside0 (Below w.heap.size w w'))
     case atStart => exact ⟨(y283), (0), sR, H', ⟨Nat.le_refl _⟩, ⟨rF (Kd.R_mono HO285.out (fun _ hk => hk.2))⟩, ⟨rF (Kd.R_mono HO_9.out (fun _ hk => hk.2))⟩, ⟨bP BK278⟩, ⟨bB⟩⟩
     case round =>
      clear H'
      obtain ⟨x10_2, x32_2, rfl, HA, HK2, HO_10, HO_30, BK278, HB⟩ := hrel
      cases gk with
      | zero => exact absurd HA.out (by simp [spec_saAfter.l1])
      | succ k2 =>
       have H := HA.out
       clear HA
       simp only [spec_saAfter.l1] at H
       by_cases c23 : x32_2 < (x9_1.length : Int)
       · rw [if_pos c23] at H
         have c23b0 := decide_eq_true c23
         clear c23
         replace H := ifP H
         obtain ⟨c24, H⟩ := H
         have c24b0 := decide_eq_true c24
         clear c24
         replace H := ifP H
         obtain ⟨c25, H⟩ := H
         have c25b0 := decide_eq_true c25
         clear c25
         replace H := ifP H
         obtain ⟨c26, H⟩ := H
         have c26b0 := decide_eq_true c26
         clear c26
         have H' := am H
         clear H
         have p286 : 0 ≤ (x32_2 : Int) := dT
         have q286 : x32_2 < (x9_1.length : Int) := dT
         obtain ⟨ad286, e286, hx286_0⟩ := Kd.at_int (Kd.R_reads' HO_30.out).2.2 x32_2 p286 q286
         cases e286
         replace p286 := eq_true p286
         replace q286 := eq_true q286
         obtain ⟨hcz27_0, hcz27_1, hfz27_0, hfz27_1⟩ := cZ BK278
         have p287 : 0 ≤ (x32_2 : Int) := dT
         have q287 : x32_2 < (l0_1.length : Int) := dT
         obtain ⟨ad287, A287_0, c287_0, e287, hx287_0, hl287_0, hi287_0⟩ := at_L2 HR0_1.out x32_2 p287 q287
         cases e287
         replace hx287_0 := (HB.out.cell (World.block_lt_of_cell? w _ hx287_0)).trans hx287_0
         have HR287_0 := am hi287_0
         have HC287_0 := am hl287_0
         clear hi287_0 hl287_0
         replace p287 := eq_true p287
         replace q287 := eq_true q287
         go_wp2
         go_loopg [43] k2 (fun kq v43 w' => ∃ (x10_3 : List Int) (x43_3 : Int), v43 = .int .i64 x43_3 ∧ Aside0 (spec_saAfter.l2 kq x2_1 a3 x10_3 (rd x9_1 x32_2) x9_1 (x9_1.length : Int) x32_2 (rd_L2 l0_1 x32_2) ((rd_L2 l0_1 x32_2).length : Int) x43_3 a0_0 l0_1 = some r) ∧ Aside0 (kq ≤ k2) ∧ Aside0 (Kd.R (Kd.int .i64) 3 w' w.heap.size (fun k_ => some k_ ≠ ((.slice (some ad286) x9_1.length co22) : Value).ownBlock) v284 x10_3) ∧ Aside0 (Kd.R (Kd.int .i64) 3 w' w.heap.size (fun k_ => some k_ ≠ (v284 : Value).ownBlock) (.slice (some ad286) x9_1.length co22) x9_1) ∧ Aside0 (w'.heap[gb278]? = some (.cells #[.int .i64 a0_0, (.slice (some ad287) l0_1.length c0_1)] 26 (0, 0))) ∧ Aside0 (Below w.heap.size w w'))
         case atStart => exact ⟨(x10_2), (0), sR, H', ⟨Nat.le_refl _⟩, ⟨rP HO_10⟩, ⟨rP HO_30⟩, ⟨bP BK278⟩, ⟨bB⟩⟩
         case round =>
          clear H'
          obtain ⟨x10_3, x43_3, rfl, HA, HK3, HO_10, HO_30, BK278, HB⟩ := hrel
          cases gk with
          | zero => exact absurd HA.out (by simp [spec_saAfter.l2])
          | succ k3 =>
           have H := HA.out
           clear HA
           simp only [spec_saAfter.l2] at H
           by_cases c28 : x43_3 < ((rd_L2 l0_1 x32_2).length : Int)
           · rw [if_pos c28] at H
             have c28b0 := decide_eq_true c28
             clear c28
             replace H := ifP H
             obtain ⟨c29, H⟩ := H
             have c29b0 := decide_eq_true c29
             clear c29
             replace H := ifP H
             obtain ⟨c30, H⟩ := H
             have c30b0 := decide_eq_true c30
             clear c30
             by_cases c31 : a3 = true
             · subst c31
               replace H := ifT H
               replace H := bnd H
               obtain ⟨t289, A32, H⟩ := H
               (try dsimp only at H)
               replace H := ifP H
               obtain ⟨c33, H⟩ := H
               have c33b0 := decide_eq_true c33
               clear c33
               generalize hy291 : ((x10_3.set (x43_3 : Int).toNat (wrap64 ((rd x10_3 x43_3) + (wrap64 ((rd x9_1 x32_2) * t289))))) : List Int) = y291 at H
               (try dsimp only [Option.bind_some] at H)
               have Ny291 := am hy291.symm
               clear hy291
               have H' := am H
               clear H
               have p288 : 0 ≤ (x43_3 : Int) := dT
               have q288 : x43_3 < ((rd_L2 l0_1 x32_2).length : Int) := dT
               obtain ⟨ad288, e288, hx288_0⟩ := Kd.at_int HR287_0.out x43_3 p288 q288
               cases e288
               replace hx288_0 := (HB.out.cell (World.block_lt_of_cell? w _ hx288_0)).trans hx288_0
               replace p288 := eq_true p288
               replace q288 := eq_true q288
               go_wp2_with (first | ((with_reducible refine gate_callee (f := 66) rfl ?_); refine gL 50 Try.func66 #[.int .i64 (rd (rd_L2 l0_1 x32_2) x43_3)] ?_; (with_reducible refine (spec_l1Sign.calls (rd (rd_L2 l0_1 x32_2) x43_3) t289 _ A32.out).mono ?_); rintro e w' ⟨rfl, ⟨nd, rfl⟩⟩; refine ⟨_, rfl, ?_⟩; (try (rw [drewN_self wr]; generalize hq_ : World.drewN wr _ = wr; replace HO_10 : Aside0 (Kd.R (Kd.int .i64) 3 wr w.heap.size (fun k_ => some k_ ≠ (.slice (some ad286) x9_1.length co22 : Value).ownBlock) v284 x10_3) := ⟨by rw [← hq_]; exact (rP HO_10)⟩; replace HO_30 : Aside0 (Kd.R (Kd.int .i64) 3 wr w.heap.size (fun k_ => some k_ ≠ (v284 : Value).ownBlock) (.slice (some ad286) x9_1.length co22) x9_1) := ⟨by rw [← hq_]; exact (rP HO_30)⟩; replace BK278 : Aside0 (wr.heap[gb278]? = some (.cells #[.int .i64 a0_0, .slice (some ad287) l0_1.length c0_1] 26 (0, 0))) := ⟨by rw [← hq_]; exact (bP BK278)⟩; replace HB : Aside0 (Below w.heap.size w wr) := ⟨by rw [← hq_]; exact bB⟩; clear hq_)); obtain ⟨Ao35, co35, eo35⟩ := Kd.R_slice HO_10.out; subst eo35; have p290 : 0 ≤ (x43_3 : Int) := dT; have q290 : x43_3 < (x10_3.length : Int) := dT; obtain ⟨ad290, e290, hx290_0⟩ := Kd.at_int (Kd.R_reads' HO_10.out).2.2 x43_3 p290 q290; cases e290; replace p290 := eq_true p290; replace q290 := eq_true q290; have p34 : 0 ≤ (x43_3 : Int) := dT; have q34 : (x43_3 : Int) < ((x10_3.length : Int) : Int) := dT; obtain ⟨go34, co34, eo34, gb34, gl34, cl34, HG34⟩ := Kd.R_form HO_10.out (by omega); (first | cases eo34 | (injection eo34 with ea_ en_ ec_; (first | subst ea_ | (injection ea_ with ea_; subst ea_)); subst ec_; clear en_)); have GB34 := am gb34; have GG34 := am HG34; clear gb34 gl34 HG34; (first | simp only [add_plain] at hx290_0 | skip); obtain ⟨hx34_0, hf34_0⟩ := Kd.R_celln 0 HO_10.out (x43_3 : Int) p34 q34; replace p34 := eq_true p34; replace q34 := eq_true q34; obtain ⟨hy36_, hz36_⟩ := Kd.R_celln 0 HO_10.out (x43_3 : Int) (dT) (dT); have HP36 := Kd.R_putg HO_10.out (x43_3 : Int) (wrap64 ((rd x10_3 x43_3) + (wrap64 ((rd x9_1 x32_2) * t289))))) | ((with_reducible refine gate_store (t := 3) (p := 59) rfl ?_); refine store_event (t := 3) (p := 59) (v := ?vo_w37) (w1 := (wr.setCell ⟨go34, (x43_3 : Int).toNat, none⟩ (.int .i64 (wrap64 ((rd x10_3 x43_3) + (wrap64 ((rd x9_1 x32_2) * t289))))))) ?hg ?ho ?hn ?hr ?_; (case ho => rfl); (case hg => rfl); (case hn => rfl); (case hr => first | (go_simp; done) | (go_simp; rfl)); intro w37 hw; have hg : wr.grownBy w37 (some go34) := (by rw [hw]; exact HP36.2); have hp_ : Kd.R (Kd.int .i64) 3 w37 w.heap.size (fun k_ => some k_ ≠ (.slice (some ad286) x9_1.length co22 : Value).ownBlock) (.slice (some ⟨go34, 0, none⟩) x10_3.length co35) y291 := (by rw [hw, Ny291.out]; exact HP36.1); clear HP36; replace HO_30 := am (Kd.R_after (v := (.slice (some ⟨go34, 0, none⟩) x10_3.length co35)) (v1 := (.slice (some ⟨go34, 0, none⟩) x10_3.length co35)) (ok := (fun _ => True)) (by (with_reducible repeat (first | apply Kd.R_alloc | apply Kd.R_drewN | apply Kd.R_drew)); exact Kd.R_mono HO_30.out (fun _ hk => ⟨trivial, hk⟩)) hg (.inl rfl)); replace BK278 := (kg BK278 hg (Kd.R_ne HO_10.out BK278.out (by decide))); replace HO_10 := am (hp_); replace HB := am ((by rw [hw]; exact below_set (HB.out) GB34.out : Below w.heap.size w w37)); clear hg hw hp_))
               go_roundg k3
               case measure => have := HK1.out; have := HK2.out; have := HK3.out; omega
               case rel => exact ⟨(y291), (wrap64 (x43_3 + 1)), sR, H', ⟨oK⟩, ⟨rP HO_10⟩, ⟨rF (Kd.R_mono HO_30.out (fun _ hk => hk.2))⟩, ⟨bP BK278⟩, ⟨bB⟩⟩
             · replace c31 := Bool.eq_false_iff.mpr c31
               subst c31
               replace H := ifF H
               replace H := ifP H
               obtain ⟨c38, H⟩ := H
               have c38b0 := decide_eq_true c38
               clear c38
               generalize hy293 : ((x10_3.set (x43_3 : Int).toNat (wrap64 ((rd x10_3 x43_3) + (wrap64 ((rd x9_1 x32_2) * (rd (rd_L2 l0_1 x32_2) x43_3)))))) : List Int) = y293 at H
               (try dsimp only [Option.bind_some] at H)
               have Ny293 := am hy293.symm
               clear hy293
               have H' := am H
               clear H
               have p288 : 0 ≤ (x43_3 : Int) := dT
               have q288 : x43_3 < ((rd_L2 l0_1 x32_2).length : Int) := dT
               obtain ⟨ad288, e288, hx288_0⟩ := Kd.at_int HR287_0.out x43_3 p288 q288
               cases e288
               replace hx288_0 := (HB.out.cell (World.block_lt_of_cell? w _ hx288_0)).trans hx288_0
               replace p288 := eq_true p288
               replace q288 := eq_true q288
               obtain ⟨Ao40, co40, eo40⟩ := Kd.R_slice HO_10.out
               subst eo40
               have p292 : 0 ≤ (x43_3 : Int) := dT
               have q292 : x43_3 < (x10_3.length : Int) := dT
               obtain ⟨ad292, e292, hx292_0⟩ := Kd.at_int (Kd.R_reads' HO_10.out).2.2 x43_3 p292 q292
               cases e292
               replace p292 := eq_true p292
               replace q292 := eq_true q292
               have p39 : 0 ≤ (x43_3 : Int) := dT
               have q39 : (x43_3 : Int) < ((x10_3.length : Int) : Int) := dT
               obtain ⟨go39, co39, eo39, gb39, gl39, cl39, HG39⟩ := Kd.R_form HO_10.out (by omega)
               (first | cases eo39 | (injection eo39 with ea_ en_ ec_; (first | subst ea_ | (injection ea_ with ea_; subst ea_)); subst ec_; clear en_))
               have GB39 := am gb39
               have GG39 := am HG39
               clear gb39 gl39 HG39
               (first | simp only [add_plain] at hx292_0 | skip)
               obtain ⟨hx39_0, hf39_0⟩ := Kd.R_celln 0 HO_10.out (x43_3 : Int) p39 q39
               replace p39 := eq_true p39
               replace q39 := eq_true q39
               have HP41 := Kd.R_putg HO_10.out (x43_3 : Int) (wrap64 ((rd x10_3 x43_3) + (wrap64 ((rd x9_1 x32_2) * (rd (rd_L2 l0_1 x32_2) x43_3)))))
               go_wp2_with (first | ((with_reducible refine gate_store (t := 3) (p := 59) rfl ?_); refine store_event (t := 3) (p := 59) (v := ?vo_w42) (w1 := (wr.setCell ⟨go39, (x43_3 : Int).toNat, none⟩ (.int .i64 (wrap64 ((rd x10_3 x43_3) + (wrap64 ((rd x9_1 x32_2) * (rd (rd_L2 l0_1 x32_2) x43_3)))))))) ?hg ?ho ?hn ?hr ?_; (case ho => rfl); (case hg => rfl); (case hn => rfl); (case hr => first | (go_simp; done) | (go_simp; rfl)); intro w42 hw; have hg : wr.grownBy w42 (some go39) := (by rw [hw]; exact HP41.2); have hp_ : Kd.R (Kd.int .i64) 3 w42 w.heap.size (fun k_ => some k_ ≠ (.slice (some ad286) x9_1.length co22 : Value).ownBlock) (.slice (some ⟨go39, 0, none⟩) x10_3.length co40) y293 := (by rw [hw, Ny293.out]; exact HP41.1); clear HP41; replace HO_30 := am (Kd.R_after (v := (.slice (some ⟨go39, 0, none⟩) x10_3.length co40)) (v1 := (.slice (some ⟨go39, 0, none⟩) x10_3.length co40)) (ok := (fun _ => True)) (by (with_reducible repeat (first | apply Kd.R_alloc | apply Kd.R_drewN | apply Kd.R_drew)); exact Kd.R_mono HO_30.out (fun _ hk => ⟨trivial, hk⟩)) hg (.inl rfl)); replace BK278 := (kg BK278 hg (Kd.R_ne HO_10.out BK278.out (by decide))); replace HO_10 := am (hp_); replace HB := am ((by rw [hw]; exact below_set (HB.out) GB39.out : Below w.heap.size w w42)); clear hg hw hp_))
               go_roundg k3
               case measure => have := HK1.out; have := HK2.out; have := HK3.out; omega
               case rel => exact ⟨(y293), (wrap64 (x43_3 + 1)), sR, H', ⟨oK⟩, ⟨rP HO_10⟩, ⟨rF (Kd.R_mono HO_30.out (fun _ hk => hk.2))⟩, ⟨bP BK278⟩, ⟨bB⟩⟩
           · rw [if_neg c28] at H
             have c28b0 := decide_eq_false c28
             clear c28
             have H' := am H
             clear H
             go_wp2
             go_roundg k3
             case measure => have := HK1.out; have := HK2.out; have := HK3.out; omega
             case rel => exact ⟨(x10_3), (wrap64 (x32_2 + 1)), sR, H', ⟨oK⟩, ⟨rP HO_10⟩, ⟨rP HO_30⟩, ⟨bP BK278⟩, ⟨bB⟩⟩
       · rw [if_neg c23] at H
         have c23b0 := decide_eq_false c23
         clear c23
         have H' := am H
         clear H
         go_wp2
         go_roundg k2
         case measure => have := HK1.out; have := HK2.out; omega
         case rel => exact ⟨(wrap64 (x2_1 - 1)), (x10_2), sR, H', ⟨oK⟩, ⟨rF (Kd.R_mono HO_10.out (fun _ hk => trivial))⟩, ⟨bP BK278⟩, ⟨bB⟩⟩
   · rw [if_neg c16] at H
     have c16b0 : decide (0 < x2_1) = false := decide_eq_false c16
     clear c16
     obtain rfl := Option.some.inj H
     go_wp2
     go_ret
     exact ⟨_, eW, rP HO_9, bB⟩
mutual
def spec_StatesAfter.j0 : Nat → Int → Int → Bool → Int → List (List Int) → Option (List Int × Int × Bool)
 | 0, _, _, _, _, _ => none
 | k + 1, x1, x2, x20, x295000, x295001 => if x20 = true then (some (([] : List Int), 0, false)) else (spec_StatesAfter.l0 k x1 x2 1 0 x295000 x295001)
def spec_StatesAfter.l0 : Nat → Int → Int → Int → Int → Int → List (List Int) → Option (List Int × Int × Bool)
 | 0, _, _, _, _, _, _ => none
 | k + 1, x1, x2, x9, x10, x295000, x295001 => if x10 < x2 then (spec_StatesAfter.l0 k x1 x2 (wrap64 (x9 * x295000)) (wrap64 (x10 + 1)) x295000 x295001) else ((spec_saAfter.f k x295000 x295001 x1 x2 false).bind fun t297 => (some (t297, x9, true)))
end
def spec_StatesAfter.f (k : Nat) (a0_0 : Int) (l0_1 : List (List Int)) (a1 : Int) (a2 : Int) : Option (List Int × Int × Bool) := (spec_saAsked.f k a0_0 l0_1 a1 a1).bind fun t295 => (if t295 = true then ((spec_l1In.f a2 0 8).bind fun t296 => (spec_StatesAfter.j0 k a1 a2 (!t296) a0_0 l0_1)) else (spec_StatesAfter.j0 k a1 a2 true a0_0 l0_1))
set_option maxHeartbeats 8000000 in
set_option maxRecDepth 100000 in
theorem spec_StatesAfter.calls (k : Nat) (a0_0 : Int) (A0_1 : Option Addr) (c0_1 : Nat) (l0_1 : List (List Int)) (a1 : Int) (a2 : Int) (r1 : List Int) (r2 : Int) (r3 : Bool) (w : World) (hr0_1 : Kd.C (Kd.slice 3 (Kd.int .i64)) w A0_1 l0_1.length l0_1) (hc0_1 : l0_1.length ≤ c0_1) (h : spec_StatesAfter.f k a0_0 l0_1 a1 a2 = some (r1, r2, r3)) :
 Calls Try.prog 7 #[.agg #[.int .i64 a0_0, .slice A0_1 l0_1.length c0_1], .int .i64 a1, .int .i64 a2] w fun e w' => ∃ v0_ : Value, e = .returned (.tuple #[v0_, .int .i64 r2, .bool r3]) ∧ Kd.R (Kd.int .i64) 3 w' w.heap.size (fun _ => True) v0_ r1 ∧ Below w.heap.size w w' := by
 have hu26 := Try.underlying26
 have HR0_1 := am hr0_1
 have HC0_1 := am hc0_1
 clear hr0_1 hc0_1
 have HB := am (Below.refl w.heap.size w)
 have H := h
 clear h
 unfold spec_StatesAfter.f at H
 have HC4 := am H
 clear H
 go_enter Try.func7, Try.ntmps7
 go_upto_region 1 with (first | ((with_reducible refine gate_dst (N := 3) rfl ?_); refine bE 3 #[.int .i64 a0_0, .slice A0_1 l0_1.length c0_1] 26 ?_; intro gb294 hg w5 hbox hb; have BK294 := am (hbox); have GW294 := gW hg; have GE294 := gW hg; replace HB := sB hb; clear hb hbox hg))
 (try simp only [Act.put, List.setIfInBounds_toArray, List.set_cons_zero, List.set_cons_succ])
 go_cut [20] (fun v20 wc => ∃ (kq : Nat) (x20_3 : Bool), v20 = .bool x20_3 ∧ Aside0 (spec_StatesAfter.j0 kq a1 a2 x20_3 a0_0 l0_1 = some (r1, r2, r3)) ∧ Aside0 (kq ≤ k) ∧ Aside0 (wc.heap[gb294]? = some (.cells #[.int .i64 a0_0, (.slice A0_1 l0_1.length c0_1)] 26 (0, 0))) ∧ Aside0 (Below w.heap.size w wc))
 case first =>
  have H := HC4.out
  clear HC4
  replace H := bnd H
  obtain ⟨t295, A6, H⟩ := H
  (try dsimp only at H)
  by_cases c7 : t295 = true
  · subst c7
    replace H := ifT H
    replace H := bnd H
    obtain ⟨t296, A8, H⟩ := H
    (try dsimp only at H)
    have H' := am H
    clear H
    obtain ⟨hcz9_0, hcz9_1, hfz9_0, hfz9_1⟩ := cZ BK294
    go_wp2_with (first | ((with_reducible refine gate_callee (f := 40) rfl ?_); refine gL 14 Try.func40 #[.agg #[.int .i64 a0_0, .slice A0_1 l0_1.length c0_1], .int .i64 a1, .int .i64 a1] ?_; (with_reducible refine (spec_saAsked.calls k a0_0 _ _ l0_1 a1 a1 true _ ?side1 HC0_1.out A6.out).mono ?_); (case side1 => exact cH HR0_1); rintro e w10 ⟨rfl, hb⟩; refine ⟨_, rfl, ?_⟩; replace BK294 := kb BK294 hb; replace HB := sB hb) | (go_at_call 41; (with_reducible refine (spec_l1In.calls a2 0 8 t296 _ A8.out).mono ?_); rintro e w' ⟨rfl, ⟨nd, rfl⟩⟩))
    go_meet
    case rel => exact ⟨_, (!t296), sR, H', ⟨by first | omega | exact Nat.le_refl _⟩, ⟨bP BK294⟩, ⟨bB⟩⟩
  · replace c7 := Bool.eq_false_iff.mpr c7
    subst c7
    replace H := ifF H
    have H' := am H
    clear H
    obtain ⟨hcz11_0, hcz11_1, hfz11_0, hfz11_1⟩ := cZ BK294
    go_wp2_with (first | ((with_reducible refine gate_callee (f := 40) rfl ?_); refine gL 14 Try.func40 #[.agg #[.int .i64 a0_0, .slice A0_1 l0_1.length c0_1], .int .i64 a1, .int .i64 a1] ?_; (with_reducible refine (spec_saAsked.calls k a0_0 _ _ l0_1 a1 a1 false _ ?side1 HC0_1.out A6.out).mono ?_); (case side1 => exact cH HR0_1); rintro e w12 ⟨rfl, hb⟩; refine ⟨_, rfl, ?_⟩; replace BK294 := kb BK294 hb; replace HB := sB hb))
    go_meet
    case rel => exact ⟨_, (true), sR, H', ⟨by first | omega | exact Nat.le_refl _⟩, ⟨bP BK294⟩, ⟨bB⟩⟩
 case rest =>
  clear HC4
  obtain ⟨kq, x20_3, rfl, HA, HJ3, BK294, HB⟩ := hcut
  cases kq with
  | zero => exact absurd HA.out (by simp [spec_StatesAfter.j0])
  | succ kj3 =>
   have H := HA.out
   clear HA
   simp only [spec_StatesAfter.j0] at H
   by_cases c13 : x20_3 = true
   · subst c13
     replace H := ifT H
     simp only [Option.some.injEq, Prod.mk.injEq] at H
     obtain ⟨rfl, rfl, rfl⟩ := H
     go_wp2
     go_ret3
     exact ⟨_, eW, nL, bB⟩
   · replace c13 := Bool.eq_false_iff.mpr c13
     subst c13
     replace H := ifF H
     have H' := am H
     clear H
     go_wp2
     go_loopg [9, 10] kj3 (fun kq v9 v10 w' => ∃ (x9_2 : Int) (x10_2 : Int), v9 = .int .i64 x9_2 ∧ v10 = .int .i64 x10_2 ∧ Aside0 (spec_StatesAfter.l0 kq a1 a2 x9_2 x10_2 a0_0 l0_1 = some (r1, r2, r3)) ∧ Aside0 (kq ≤ kj3) ∧ Aside0 (w'.heap[gb294]? = some (.cells #[.int .i64 a0_0, (.slice A0_1 l0_1.length c0_1)] 26 (0, 0))) ∧ Aside0 (Below w.heap.size w w'))
     case atStart => exact ⟨(1), (0), sR, sR, H', ⟨Nat.le_refl _⟩, ⟨bP BK294⟩, ⟨bB⟩⟩
     case round =>
      clear H'
      obtain ⟨x9_2, x10_2, rfl, rfl, HA, HK2, BK294, HB⟩ := hrel
      cases gk with
      | zero => exact absurd HA.out (by simp [spec_StatesAfter.l0])
      | succ k2 =>
       have H := HA.out
       clear HA
       simp only [spec_StatesAfter.l0] at H
       by_cases c14 : x10_2 < a2
       · rw [if_pos c14] at H
         have c14b0 := decide_eq_true c14
         clear c14
         have H' := am H
         clear H
         obtain ⟨hcz15_0, hcz15_1, hfz15_0, hfz15_1⟩ := cZ BK294
         go_wp2
         go_roundg k2
         case measure => have := HJ3.out; have := HK2.out; omega
         case rel => exact ⟨(wrap64 (x9_2 * a0_0)), (wrap64 (x10_2 + 1)), sR, sR, H', ⟨by have := HJ3.out; have := HK2.out; omega⟩, ⟨bP BK294⟩, ⟨bB⟩⟩
       · rw [if_neg c14] at H
         have c14b0 := decide_eq_false c14
         clear c14
         replace H := bnd H
         obtain ⟨t297, A16, H⟩ := H
         (try dsimp only at H)
         simp only [Option.some.injEq, Prod.mk.injEq] at H
         obtain ⟨rfl, rfl, rfl⟩ := H
         obtain ⟨hcz17_0, hcz17_1, hfz17_0, hfz17_1⟩ := cZ BK294
         go_wp2_with (first | ((with_reducible refine gate_callee (f := 42) rfl ?_); refine gL 33 Try.func42 #[.agg #[.int .i64 a0_0, .slice A0_1 l0_1.length c0_1], .int .i64 a1, .int .i64 a2, .bool false] ?_; (with_reducible refine (spec_saAfter.calls k2 a0_0 _ _ l0_1 a1 a2 false t297 _ ?side1 HC0_1.out A16.out).mono ?_); (case side1 => exact cH HR0_1); rintro e w18 ⟨v298, rfl, ho0, hb⟩; refine ⟨_, rfl, ?_⟩; have HO299 := am (Kd.R_lower ho0 (below_size bB)); replace BK294 := kb BK294 hb; replace HB := sB hb))
         go_ret3
         exact ⟨_, eW, rP HO299, bB⟩
def impl_members.l0 : Nat → List Int → List Bool → Int → Int → Option (List Int)
 | 0, _, _, _, _ => none
 | k + 1, x3, x6, x7, x8 => if x8 < x7 then (if 0 ≤ x8 then (if x8 < (x6.length : Int) then (if rdOf false x6 x8 = true then (if x3.length < 17592186044416 then (impl_members.l0 k (x3 ++ [x8]) x6 x7 (wrap64 (x8 + 1))) else (none)) else (impl_members.l0 k x3 x6 x7 (wrap64 (x8 + 1)))) else (none)) else (none)) else (some x3)
def impl_members.f (k : Nat) (l0 : List Bool) : Option (List Int) := impl_members.l0 k ([] : List Int) l0 (l0.length : Int) 0
set_option maxHeartbeats 8000000 in
set_option maxRecDepth 100000 in
theorem impl_members.calls (k : Nat) (A0 : Option Addr) (c0 : Nat) (l0 : List Bool) (r : List Int) (w : World) (hr0 : Kd.C Kd.bool w A0 l0.length l0) (hc0 : l0.length ≤ c0) (h : impl_members.f k l0 = some r) :
 Calls Try.prog 43 #[.slice A0 l0.length c0] w fun e w' => ∃ v0_ : Value, e = .returned (v0_) ∧ Kd.R (Kd.int .i64) 3 w' w.heap.size (fun _ => True) v0_ r ∧ Below w.heap.size w w' := by
 have HR0 := am hr0
 have HC0 := am hc0
 clear hr0 hc0
 have HB := am (Below.refl w.heap.size w)
 have H := h
 clear h
 unfold impl_members.f at H
 have H' := am H
 clear H
 go_enter Try.func43, Try.ntmps43
 go_wp2
 go_loopg [3, 8] k (fun kq v3 v8 w' => ∃ (x3_1 : List Int) (x8_1 : Int), v8 = .int .i64 x8_1 ∧ Aside0 (impl_members.l0 kq x3_1 l0 (l0.length : Int) x8_1 = some r) ∧ Aside0 (kq ≤ k) ∧ Aside0 (Kd.R (Kd.int .i64) 3 w' w.heap.size (fun _ => True) v3 x3_1) ∧ Aside0 (Below w.heap.size w w'))
 case atStart => exact ⟨(([] : List Int)), (0), sR, H', ⟨Nat.le_refl _⟩, ⟨nL⟩, ⟨bB⟩⟩
 case round =>
  clear H'
  obtain ⟨x3_1, x8_1, rfl, HA, HK1, HO_3, HB⟩ := hrel
  cases gk with
  | zero => exact absurd HA.out (by simp [impl_members.l0])
  | succ k1 =>
   have H := HA.out
   clear HA
   simp only [impl_members.l0] at H
   by_cases c2 : x8_1 < (l0.length : Int)
   · rw [if_pos c2] at H
     have c2b0 := decide_eq_true c2
     clear c2
     replace H := ifP H
     obtain ⟨c3, H⟩ := H
     have c3b0 := decide_eq_true c3
     clear c3
     replace H := ifP H
     obtain ⟨c4, H⟩ := H
     have c4b0 := decide_eq_true c4
     clear c4
     obtain ⟨bq5, hbq5⟩ : ∃ b_ : Bool, b_ = (rdOf false l0 x8_1) := ⟨_, rfl⟩
     replace H : (if bq5 = true then (if x3_1.length < 17592186044416 then (impl_members.l0 k1 (x3_1 ++ [x8_1]) l0 (l0.length : Int) (wrap64 (x8_1 + 1))) else (none)) else (impl_members.l0 k1 x3_1 l0 (l0.length : Int) (wrap64 (x8_1 + 1)))) = some r := by rw [← hbq5] at H; exact H
     have Nbq5 := am hbq5
     clear hbq5
     by_cases c6 : bq5 = true
     · subst c6
       replace H := ifT H
       replace H := ifP H
       obtain ⟨c7, H⟩ := H
       have LMc7 := am c7
       clear c7
       generalize hy301 : ((x3_1 ++ [x8_1]) : List Int) = y301 at H
       (try dsimp only [Option.bind_some] at H)
       have Ny301 := am hy301.symm
       clear hy301
       have H' := am H
       clear H
       have p300 : 0 ≤ (x8_1 : Int) := dT
       have q300 : x8_1 < (l0.length : Int) := dT
       obtain ⟨ad300, e300, hx300_0⟩ := Kd.at_bool HR0.out x8_1 p300 q300
       (try rw [← Nbq5.out] at hx300_0)
       cases e300
       replace hx300_0 := (HB.out.cell (World.block_lt_of_cell? w _ hx300_0)).trans hx300_0
       replace p300 := eq_true p300
       replace q300 := eq_true q300
       go_wp2_with (first | ((with_reducible refine gate_builtin (b := .append) (xs := #[.tmp 14, .tmp 16]) rfl ?_); at_builtin; refine Kd.R_append (Kd.int .i64) (w0 := w) w.heap.size rfl (.tmp 14) (.tmp 16) 29 3 (.int .i64 0) 8 rfl Try.underlying29 info3 rfl (by decide) (by omega) u3 x3_1 x8_1 [.int .i64 x8_1] (fun _ => True) (fun _ => False) rfl rfl ?aP (fun _ hk => hk.elim) ?aF ?aO ?aB ?aS ?aL ?_; (case aP => exact rfl); (case aB => exact bB); (case aF => exact (fun _ _ => trivial)); (case aO => exact (rP HO_3)); (case aS => exact (below_size bB)); (case aL => have := LMc7.out; omega); intro v302 w8 ho hb hg hat; rw [← Ny301.out] at ho; replace HB := am (hb); have HO303 := am (ho); clear HO_3; clear ho hb hg hat))
       go_roundg k1
       case measure => have := HK1.out; omega
       case rel => exact ⟨(y301), (wrap64 (x8_1 + 1)), sR, H', ⟨oK⟩, ⟨rP HO303⟩, ⟨bB⟩⟩
     · replace c6 := Bool.eq_false_iff.mpr c6
       subst c6
       replace H := ifF H
       have H' := am H
       clear H
       have p300 : 0 ≤ (x8_1 : Int) := dT
       have q300 : x8_1 < (l0.length : Int) := dT
       obtain ⟨ad300, e300, hx300_0⟩ := Kd.at_bool HR0.out x8_1 p300 q300
       (try rw [← Nbq5.out] at hx300_0)
       cases e300
       replace hx300_0 := (HB.out.cell (World.block_lt_of_cell? w _ hx300_0)).trans hx300_0
       replace p300 := eq_true p300
       replace q300 := eq_true q300
       go_wp2
       go_roundg k1
       case measure => have := HK1.out; omega
       case rel => exact ⟨(x3_1), (wrap64 (x8_1 + 1)), sR, H', ⟨oK⟩, ⟨rP HO_3⟩, ⟨bB⟩⟩
   · rw [if_neg c2] at H
     have c2b0 := decide_eq_false c2
     clear c2
     obtain rfl := Option.some.inj H
     go_wp2
     go_ret
     exact ⟨_, eW, rP HO_3, bB⟩
end Go.Proofs.Ytkkjnmnjbmfpaaa.PFnStatesStep
