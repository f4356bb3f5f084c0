-- written by a program of this session (the kit's print with turns of the session's own)
import Derived.Test.YtliiljjeebnfeaaPFnExactStateClassesx0
import Derived.Test.YtliiljjeebnfeaaPFnExactStateClassesx1
import Derived.Test.YtliiljjeebnfeaaPFnExactStateClassesx2
import Derived.Test.YtliiljjeebnfeaaPFnExactStateClassesx5
import Derived.Test.YtliiljjeebnfeaaPFnExactStateClassesx6
namespace Go.Proofs.Ytliiljjeebnfeaa.PFnExactStateClasses
open Go.RowKit Go.Proofs.YtliiljjeebnfeaaW.PrintWords Go.Proofs.YtliiljjeebnfeaaW.PrintLast Go.Proofs.YtliiljjeebnfeaaW.PrintMore
attribute [local go_sem] Instr.field asAgg part max2_int min2_int max_two min_two max_three min_three max_four min_four   -- for this text's walks alone
set_option linter.unusedVariables false
set_option linter.unusedSimpArgs false

/-! ### laws_heldIntS: function 33 -/
def laws_heldIntS.l0 : Nat → List Int → Int → Int → Option (Int)
  | 0, _, _, _ => none
  | k + 1, x0, x1, x5 => if x5 < (x0.length : Int) then (if 0 ≤ x5 then (if (rd x0 x5) = x1 then (laws_heldIntS.l0 k x0 (wrap64 (x1 + 1)) (wrap64 (x5 + 1))) else (some (-1))) else (none)) else (some x1)
def laws_heldIntS.f (k : Nat) (l0 : List Int) (a1 : Int) : Option (Int) := laws_heldIntS.l0 k l0 a1 0
theorem laws_heldIntS.mono_l : ∀ k, (∀ y0 y1 y2, LeO (laws_heldIntS.l0 k y0 y1 y2) (laws_heldIntS.l0 (k + 1) y0 y1 y2))
  | 0 => fun _ _ _ r h => by simp [laws_heldIntS.l0] at h
  | k + 1 => by
    have ih0 := laws_heldIntS.mono_l k
    · intro y0 y1 y2
      unfold laws_heldIntS.l0
      repeat' first
      | (with_reducible exact ih0 _ _ _)
      | (with_reducible exact LeO.refl _)
      | (with_reducible exact LeO.none _)
      | (with_reducible refine LeO.ite ?_ ?_)
      | (with_reducible refine LeO.bind ?_ (fun _ => ?_))
      | exact ih0 _ _ _
      | exact LeO.none _
      | refine LeO.ite ?_ ?_
      | refine LeO.bind ?_ (fun _ => ?_)
theorem laws_heldIntS.mono : ∀ a0 a1 k, LeO (laws_heldIntS.f k a0 a1) (laws_heldIntS.f (k + 1) a0 a1) := by
  intro a0 a1 k
  have ih0 := laws_heldIntS.mono_l k
  unfold laws_heldIntS.f
  repeat' first
      | (with_reducible exact ih0 _ _ _)
      | (with_reducible exact LeO.refl _)
      | (with_reducible exact LeO.none _)
      | (with_reducible refine LeO.ite ?_ ?_)
      | (with_reducible refine LeO.bind ?_ (fun _ => ?_))
      | exact ih0 _ _ _
      | exact LeO.none _
      | refine LeO.ite ?_ ?_
      | refine LeO.bind ?_ (fun _ => ?_)
set_option maxHeartbeats 8000000 in
set_option maxRecDepth 100000 in
theorem laws_heldIntS.calls (k : Nat) (A0 : Option Addr) (c0 : Nat) (l0 : List Int) (a1 : Int) (r : Int) (w : World) (hr0 : Kd.C (Kd.int .i64) w A0 l0.length l0) (hc0 : l0.length ≤ c0) (h : laws_heldIntS.f k l0 a1 = some r) :
    Calls Try.prog 33 #[.slice A0 l0.length c0, .int .i64 a1] w fun e w' => e = .returned (.int .i64 r) ∧ Drawn0 w w' := by
  have HR0 := Aside0.mk hr0
  have HC0 := Aside0.mk hc0
  clear hr0 hc0
  have H : (laws_heldIntS.l0 k l0 a1 0) = some r := h
  clear h
  have H' := Aside0.mk H
  clear H
  go_enter Try.func33, Try.ntmps33
  go_wp2
  go_loopg [1, 5] k (fun kq v1 v5 w' => ∃ (x1_1 : Int) (x5_1 : Int), v1 = .int .i64 x1_1 ∧ v5 = .int .i64 x5_1 ∧ Aside0 (laws_heldIntS.l0 kq l0 x1_1 x5_1 = some r) ∧ Aside0 (kq ≤ k) ∧ Drawn0 w w')
  case atStart => exact ⟨(a1), (0), (by first | rfl | (simp; done) | (simp [*]; done)), (by first | rfl | (simp; done) | (simp [*]; done)), H', ⟨Nat.le_refl _⟩, by repeat (first | exact Drawn0.refl _ | apply Drawn0.step)⟩
  case round =>
    clear H'
    try clear p2
    obtain ⟨x1_1, x5_1, rfl, rfl, HA, HK1, ⟨m1, rfl⟩⟩ := hrel
    cases gk with
    | zero => exact absurd HA.out (by simp [laws_heldIntS.l0])
    | succ k1 =>
      have H := HA.out
      clear HA
      simp only [laws_heldIntS.l0] at H
      by_cases c3 : x5_1 < (l0.length : Int)
      · rw [if_pos c3] at H
        have c3b0 : decide (x5_1 < (l0.length : Int)) = true := decide_eq_true c3
        clear c3
        by_cases c4 : 0 ≤ x5_1
        · rw [if_pos c4] at H
          have c4b0 : decide (0 ≤ x5_1) = true := decide_eq_true c4
          clear c4
          by_cases c5 : (rd l0 x5_1) = x1_1
          · rw [if_pos c5] at H
            have c5b0 : ((rd l0 x5_1) == x1_1) = true := beq_iff_eq.mpr c5
            have c5b1 : ((rd l0 x5_1) != x1_1) = false := bne_eq_false_iff_eq.mpr c5
            clear c5
            have H' := Aside0.mk H
            clear H
            have p240 : 0 ≤ (x5_1 : Int) := of_decide_eq_true (by first | (with_reducible assumption) | assumption)
            have q240 : x5_1 < (l0.length : Int) := of_decide_eq_true (by first | (with_reducible assumption) | assumption)
            obtain ⟨ad240, e240, hx240_0⟩ := Kd.at_int HR0.out x5_1 p240 q240
            cases e240
            replace p240 := eq_true p240
            replace q240 := eq_true q240
            go_wp2
            go_roundg k1
            case measure => have := HK1.out; omega
            case rel => exact ⟨(wrap64 (x1_1 + 1)), (wrap64 (x5_1 + 1)), (by first | rfl | (simp; done) | (simp [*]; done)), (by first | rfl | (simp; done) | (simp [*]; done)), H', ⟨by have := HK1.out; omega⟩, by repeat (first | exact Drawn0.refl _ | apply Drawn0.step)⟩
          · rw [if_neg c5] at H
            have c5b0 : ((rd l0 x5_1) == x1_1) = false := beq_eq_false_iff_ne.mpr c5
            have c5b1 : ((rd l0 x5_1) != x1_1) = true := bne_iff_ne.mpr c5
            obtain rfl := Option.some.inj H
            have p240 : 0 ≤ (x5_1 : Int) := of_decide_eq_true (by first | (with_reducible assumption) | assumption)
            have q240 : x5_1 < (l0.length : Int) := of_decide_eq_true (by first | (with_reducible assumption) | assumption)
            obtain ⟨ad240, e240, hx240_0⟩ := Kd.at_int HR0.out x5_1 p240 q240
            cases e240
            replace p240 := eq_true p240
            replace q240 := eq_true q240
            go_wp2
            go_ret
            exact ⟨by first | rfl | (simp; done) | (simp [*]; done), by repeat (first | exact Drawn0.refl _ | apply Drawn0.step)⟩
        · rw [if_neg c4] at H
          exact absurd H (by simp)
      · rw [if_neg c3] at H
        have c3b0 : decide (x5_1 < (l0.length : Int)) = false := decide_eq_false c3
        clear c3
        obtain rfl := Option.some.inj H
        go_wp2
        go_ret
        exact ⟨by first | rfl | (simp; done) | (simp [*]; done), by repeat (first | exact Drawn0.refl _ | apply Drawn0.step)⟩

/-! ### laws_heldIntSS: function 52 -/
def laws_heldIntSS.l0 : Nat → List (List Int) → Int → Int → Option (Int)
  | 0, _, _, _ => none
  | k + 1, x0, x1, x5 => if x5 < (x0.length : Int) then (if 0 ≤ x5 then ((laws_heldIntS.f k (rd_L1 x0 x5) x1).bind fun t242 => (if t242 < 0 then (some (-1)) else (laws_heldIntSS.l0 k x0 t242 (wrap64 (x5 + 1))))) else (none)) else (some x1)
def laws_heldIntSS.f (k : Nat) (l0 : List (List Int)) (a1 : Int) : Option (Int) := laws_heldIntSS.l0 k l0 a1 0
theorem laws_heldIntSS.mono_l : ∀ k, (∀ y0 y1 y2, LeO (laws_heldIntSS.l0 k y0 y1 y2) (laws_heldIntSS.l0 (k + 1) y0 y1 y2))
  | 0 => fun _ _ _ r h => by simp [laws_heldIntSS.l0] at h
  | k + 1 => by
    have ih0 := laws_heldIntSS.mono_l k
    · intro y0 y1 y2
      unfold laws_heldIntSS.l0
      repeat' first
      | (with_reducible exact ih0 _ _ _)
      | (with_reducible exact laws_heldIntS.mono _ _ _)
      | (with_reducible exact LeO.refl _)
      | (with_reducible exact LeO.none _)
      | (with_reducible refine LeO.ite ?_ ?_)
      | (with_reducible refine LeO.bind ?_ (fun _ => ?_))
      | exact ih0 _ _ _
      | exact laws_heldIntS.mono _ _ _
      | exact LeO.none _
      | refine LeO.ite ?_ ?_
      | refine LeO.bind ?_ (fun _ => ?_)
theorem laws_heldIntSS.mono : ∀ a0 a1 k, LeO (laws_heldIntSS.f k a0 a1) (laws_heldIntSS.f (k + 1) a0 a1) := by
  intro a0 a1 k
  have ih0 := laws_heldIntSS.mono_l k
  unfold laws_heldIntSS.f
  repeat' first
      | (with_reducible exact ih0 _ _ _)
      | (with_reducible exact laws_heldIntS.mono _ _ _)
      | (with_reducible exact LeO.refl _)
      | (with_reducible exact LeO.none _)
      | (with_reducible refine LeO.ite ?_ ?_)
      | (with_reducible refine LeO.bind ?_ (fun _ => ?_))
      | exact ih0 _ _ _
      | exact laws_heldIntS.mono _ _ _
      | exact LeO.none _
      | refine LeO.ite ?_ ?_
      | refine LeO.bind ?_ (fun _ => ?_)
set_option maxHeartbeats 8000000 in
set_option maxRecDepth 100000 in
theorem laws_heldIntSS.calls (k : Nat) (A0 : Option Addr) (c0 : Nat) (l0 : List (List Int)) (a1 : Int) (r : Int) (w : World) (hr0 : Kd.C (Kd.slice 3 (Kd.int .i64)) w A0 l0.length l0) (hc0 : l0.length ≤ c0) (h : laws_heldIntSS.f k l0 a1 = some r) :
    Calls Try.prog 52 #[.slice A0 l0.length c0, .int .i64 a1] w fun e w' => e = .returned (.int .i64 r) ∧ Drawn0 w w' := by
  have HR0 := Aside0.mk hr0
  have HC0 := Aside0.mk hc0
  clear hr0 hc0
  have H : (laws_heldIntSS.l0 k l0 a1 0) = some r := h
  clear h
  have H' := Aside0.mk H
  clear H
  go_enter Try.func52, Try.ntmps52
  go_wp2
  go_loopg [1, 5] k (fun kq v1 v5 w' => ∃ (x1_1 : Int) (x5_1 : Int), v1 = .int .i64 x1_1 ∧ v5 = .int .i64 x5_1 ∧ Aside0 (laws_heldIntSS.l0 kq l0 x1_1 x5_1 = some r) ∧ Aside0 (kq ≤ k) ∧ Drawn0 w w')
  case atStart => exact ⟨(a1), (0), (by first | rfl | (simp; done) | (simp [*]; done)), (by first | rfl | (simp; done) | (simp [*]; done)), H', ⟨Nat.le_refl _⟩, by repeat (first | exact Drawn0.refl _ | apply Drawn0.step)⟩
  case round =>
    clear H'
    try clear p2
    obtain ⟨x1_1, x5_1, rfl, rfl, HA, HK1, ⟨m1, rfl⟩⟩ := hrel
    cases gk with
    | zero => exact absurd HA.out (by simp [laws_heldIntSS.l0])
    | succ k1 =>
      have H := HA.out
      clear HA
      simp only [laws_heldIntSS.l0] at H
      by_cases c3 : x5_1 < (l0.length : Int)
      · rw [if_pos c3] at H
        have c3b0 : decide (x5_1 < (l0.length : Int)) = true := decide_eq_true c3
        clear c3
        by_cases c4 : 0 ≤ x5_1
        · rw [if_pos c4] at H
          have c4b0 : decide (0 ≤ x5_1) = true := decide_eq_true c4
          clear c4
          replace H := Option.bind_eq_some_iff.mp H
          obtain ⟨t242, A50, H⟩ := H
          replace H : (if t242 < 0 then (some (-1)) else (laws_heldIntSS.l0 k1 l0 t242 (wrap64 (x5_1 + 1)))) = some r := H
          have A5 := Aside0.mk A50
          clear A50
          by_cases c6 : t242 < 0
          · rw [if_pos c6] at H
            have c6b0 : decide (t242 < 0) = true := decide_eq_true c6
            clear c6
            obtain rfl := Option.some.inj H
            have p241 : 0 ≤ (x5_1 : Int) := of_decide_eq_true (by first | (with_reducible assumption) | assumption)
            have q241 : x5_1 < (l0.length : Int) := of_decide_eq_true (by first | (with_reducible assumption) | assumption)
            obtain ⟨ad241, A241_0, c241_0, e241, hx241_0, hl241_0, hi241_0⟩ := at_L1 HR0.out x5_1 p241 q241
            cases e241
            have HR241_0 := Aside0.mk hi241_0
            have HC241_0 := Aside0.mk hl241_0
            clear hi241_0 hl241_0
            replace p241 := eq_true p241
            replace q241 := eq_true q241
            go_wp2_with (first | ((with_reducible refine gate_callee (f := 33) rfl ?_); refine goesL_ (some 17) rfl rfl Try.func33 (by kernel_rfl) rfl #[.slice A241_0 (rd_L1 l0 x5_1).length c241_0, .int .i64 x1_1] rfl (by (try simp only [List.map_toArray, List.map_cons, List.map_nil]); first | done | rfl | (simp only [List.length_drop, List.length_take]; rfl)) ?_; (with_reducible refine (laws_heldIntS.calls k1 _ _ (rd_L1 l0 x5_1) x1_1 t242 _ ?side1 ?side2 A5.out).mono ?_); (case side1 => repeat (first | exact HR241_0.out | (with_reducible refine Kd.C_alloc ?_ _) | (with_reducible refine Kd.C_drewN ?_ _) | (with_reducible refine Kd.C_drew ?_))); (case side2 => exact HC241_0.out); rintro e w' ⟨rfl, ⟨nd, rfl⟩⟩; refine ⟨_, rfl, ?_⟩))
            go_ret
            exact ⟨by first | rfl | (simp; done) | (simp [*]; done), by repeat (first | exact Drawn0.refl _ | apply Drawn0.step)⟩
          · rw [if_neg c6] at H
            have c6b0 : decide (t242 < 0) = false := decide_eq_false c6
            clear c6
            have H' := Aside0.mk H
            clear H
            have p241 : 0 ≤ (x5_1 : Int) := of_decide_eq_true (by first | (with_reducible assumption) | assumption)
            have q241 : x5_1 < (l0.length : Int) := of_decide_eq_true (by first | (with_reducible assumption) | assumption)
            obtain ⟨ad241, A241_0, c241_0, e241, hx241_0, hl241_0, hi241_0⟩ := at_L1 HR0.out x5_1 p241 q241
            cases e241
            have HR241_0 := Aside0.mk hi241_0
            have HC241_0 := Aside0.mk hl241_0
            clear hi241_0 hl241_0
            replace p241 := eq_true p241
            replace q241 := eq_true q241
            go_wp2_with (first | ((with_reducible refine gate_callee (f := 33) rfl ?_); refine goesL_ (some 17) rfl rfl Try.func33 (by kernel_rfl) rfl #[.slice A241_0 (rd_L1 l0 x5_1).length c241_0, .int .i64 x1_1] rfl (by (try simp only [List.map_toArray, List.map_cons, List.map_nil]); first | done | rfl | (simp only [List.length_drop, List.length_take]; rfl)) ?_; (with_reducible refine (laws_heldIntS.calls k1 _ _ (rd_L1 l0 x5_1) x1_1 t242 _ ?side1 ?side2 A5.out).mono ?_); (case side1 => repeat (first | exact HR241_0.out | (with_reducible refine Kd.C_alloc ?_ _) | (with_reducible refine Kd.C_drewN ?_ _) | (with_reducible refine Kd.C_drew ?_))); (case side2 => exact HC241_0.out); rintro e w' ⟨rfl, ⟨nd, rfl⟩⟩; refine ⟨_, rfl, ?_⟩))
            go_roundg k1
            case measure => have := HK1.out; omega
            case rel => exact ⟨(t242), (wrap64 (x5_1 + 1)), (by first | rfl | (simp; done) | (simp [*]; done)), (by first | rfl | (simp; done) | (simp [*]; done)), H', ⟨by have := HK1.out; omega⟩, by repeat (first | exact Drawn0.refl _ | apply Drawn0.step)⟩
        · rw [if_neg c4] at H
          exact absurd H (by simp)
      · rw [if_neg c3] at H
        have c3b0 : decide (x5_1 < (l0.length : Int)) = false := decide_eq_false c3
        clear c3
        obtain rfl := Option.some.inj H
        go_wp2
        go_ret
        exact ⟨by first | rfl | (simp; done) | (simp [*]; done), by repeat (first | exact Drawn0.refl _ | apply Drawn0.step)⟩

/-! ### laws_FnExactStateClasses: function 13 -/
def laws_FnExactStateClasses.f (k : Nat) (a0_0 : Int) (l0_1 : List (List Int)) : Option (Bool) := (laws_szStates.f k a0_0 l0_1 1048576).bind fun t244 => (if t244 < 0 then (some true) else ((laws_toStates.f k a0_0 l0_1).bind fun bt245 => ((spec_StateClasses.f k bt245.1 bt245.2).bind fun bt249 => ((laws_toStates.f k a0_0 l0_1).bind fun bt253 => ((impl_StateClasses.f k bt253.1 bt253.2).bind fun bt258 => ((laws_eqIntSS.f k bt258.1 bt249.1).bind fun t262 => (if t262 = true then (if (bt258.2 != bt249.2) = true then (some false) else ((laws_toStates.f k a0_0 l0_1).bind fun bt263 => ((laws_eqStates.f k bt253.1 bt253.2 bt263.1 bt263.2).bind fun t267 => (if t267 = true then ((laws_markStates.f k bt253.1 bt253.2 1).bind fun bt268 => (if bt268.1 < 0 then (some false) else ((laws_eqIntSS.f k bt258.1 bt249.1).bind fun t270 => (if t270 = true then ((laws_markIntSS.f k bt258.1 1).bind fun bt271 => ((laws_heldIntSS.f k bt271.2 1).bind fun t273 => (if t273 < 0 then (some false) else (if t273 = bt271.1 then ((laws_toStates.f k a0_0 l0_1).bind fun bt274 => ((impl_StateClasses.f k bt274.1 bt274.2).bind fun bt278 => ((laws_eqIntSS.f k bt278.1 bt249.1).bind fun t282 => (if t282 = true then (if (bt278.2 != bt249.2) = true then (some false) else ((laws_heldIntSS.f k bt271.2 1).bind fun t283 => (if t283 < 0 then (some false) else (if t283 = bt271.1 then (some true) else (some false))))) else (some false))))) else (some false))))) else (some false))))) else (some false))))) else (some false))))))))
theorem laws_FnExactStateClasses.mono : ∀ a0 a1 k, LeO (laws_FnExactStateClasses.f k a0 a1) (laws_FnExactStateClasses.f (k + 1) a0 a1) := by
  intro a0 a1 k
  unfold laws_FnExactStateClasses.f
  repeat' first
      | (with_reducible exact impl_StateClasses.mono _ _ _)
      | (with_reducible exact laws_eqIntSS.mono _ _ _)
      | (with_reducible exact laws_eqStates.mono _ _ _ _ _)
      | (with_reducible exact laws_heldIntSS.mono _ _ _)
      | (with_reducible exact laws_markIntSS.mono _ _ _)
      | (with_reducible exact laws_markStates.mono _ _ _ _)
      | (with_reducible exact laws_szStates.mono _ _ _ _)
      | (with_reducible exact laws_toStates.mono _ _ _)
      | (with_reducible exact spec_StateClasses.mono _ _ _)
      | (with_reducible exact LeO.refl _)
      | (with_reducible exact LeO.none _)
      | (with_reducible refine LeO.ite ?_ ?_)
      | (with_reducible refine LeO.bind ?_ (fun _ => ?_))
      | exact impl_StateClasses.mono _ _ _
      | exact laws_eqIntSS.mono _ _ _
      | exact laws_eqStates.mono _ _ _ _ _
      | exact laws_heldIntSS.mono _ _ _
      | exact laws_markIntSS.mono _ _ _
      | exact laws_markStates.mono _ _ _ _
      | exact laws_szStates.mono _ _ _ _
      | exact laws_toStates.mono _ _ _
      | exact spec_StateClasses.mono _ _ _
      | exact LeO.none _
      | refine LeO.ite ?_ ?_
      | refine LeO.bind ?_ (fun _ => ?_)
set_option maxHeartbeats 8000000 in
set_option maxRecDepth 100000 in
theorem laws_FnExactStateClasses.calls (k : Nat) (a0_0 : Int) (A0_1 : Option Addr) (c0_1 : Nat) (l0_1 : List (List Int)) (r : Bool) (w : World) (hr0_1 : Kd.C (Kd.slice 3 (Kd.int .i64)) w A0_1 l0_1.length l0_1) (hc0_1 : l0_1.length ≤ c0_1) (h : laws_FnExactStateClasses.f k a0_0 l0_1 = some true) :
    Calls Try.prog 13 #[.agg #[.int .i64 a0_0, .slice A0_1 l0_1.length c0_1]] w fun e w' => e = .returned (.bool true) ∧ Below w.heap.size w w' := by
  have hu37 := Try.underlying37
  have hu40 := Try.underlying40
  have HR0_1 := Aside0.mk hr0_1
  have HC0_1 := Aside0.mk hc0_1
  clear hr0_1 hc0_1
  have HB := Aside0.mk (Below.refl w.heap.size w)
  have H : ((laws_szStates.f k a0_0 l0_1 1048576).bind fun t244 => (if t244 < 0 then (some true) else ((laws_toStates.f k a0_0 l0_1).bind fun bt245 => ((spec_StateClasses.f k bt245.1 bt245.2).bind fun bt249 => ((laws_toStates.f k a0_0 l0_1).bind fun bt253 => ((impl_StateClasses.f k bt253.1 bt253.2).bind fun bt258 => ((laws_eqIntSS.f k bt258.1 bt249.1).bind fun t262 => (if t262 = true then (if (bt258.2 != bt249.2) = true then (some false) else ((laws_toStates.f k a0_0 l0_1).bind fun bt263 => ((laws_eqStates.f k bt253.1 bt253.2 bt263.1 bt263.2).bind fun t267 => (if t267 = true then ((laws_markStates.f k bt253.1 bt253.2 1).bind fun bt268 => (if bt268.1 < 0 then (some false) else ((laws_eqIntSS.f k bt258.1 bt249.1).bind fun t270 => (if t270 = true then ((laws_markIntSS.f k bt258.1 1).bind fun bt271 => ((laws_heldIntSS.f k bt271.2 1).bind fun t273 => (if t273 < 0 then (some false) else (if t273 = bt271.1 then ((laws_toStates.f k a0_0 l0_1).bind fun bt274 => ((impl_StateClasses.f k bt274.1 bt274.2).bind fun bt278 => ((laws_eqIntSS.f k bt278.1 bt249.1).bind fun t282 => (if t282 = true then (if (bt278.2 != bt249.2) = true then (some false) else ((laws_heldIntSS.f k bt271.2 1).bind fun t283 => (if t283 < 0 then (some false) else (if t283 = bt271.1 then (some true) else (some false))))) else (some false))))) else (some false))))) else (some false))))) else (some false))))) else (some false))))))))) = some true := h
  clear h
  replace H := Option.bind_eq_some_iff.mp H
  obtain ⟨t244, A20, H⟩ := H
  replace H : (if t244 < 0 then (some true) else ((laws_toStates.f k a0_0 l0_1).bind fun bt245 => ((spec_StateClasses.f k bt245.1 bt245.2).bind fun bt249 => ((laws_toStates.f k a0_0 l0_1).bind fun bt253 => ((impl_StateClasses.f k bt253.1 bt253.2).bind fun bt258 => ((laws_eqIntSS.f k bt258.1 bt249.1).bind fun t262 => (if t262 = true then (if (bt258.2 != bt249.2) = true then (some false) else ((laws_toStates.f k a0_0 l0_1).bind fun bt263 => ((laws_eqStates.f k bt253.1 bt253.2 bt263.1 bt263.2).bind fun t267 => (if t267 = true then ((laws_markStates.f k bt253.1 bt253.2 1).bind fun bt268 => (if bt268.1 < 0 then (some false) else ((laws_eqIntSS.f k bt258.1 bt249.1).bind fun t270 => (if t270 = true then ((laws_markIntSS.f k bt258.1 1).bind fun bt271 => ((laws_heldIntSS.f k bt271.2 1).bind fun t273 => (if t273 < 0 then (some false) else (if t273 = bt271.1 then ((laws_toStates.f k a0_0 l0_1).bind fun bt274 => ((impl_StateClasses.f k bt274.1 bt274.2).bind fun bt278 => ((laws_eqIntSS.f k bt278.1 bt249.1).bind fun t282 => (if t282 = true then (if (bt278.2 != bt249.2) = true then (some false) else ((laws_heldIntSS.f k bt271.2 1).bind fun t283 => (if t283 < 0 then (some false) else (if t283 = bt271.1 then (some true) else (some false))))) else (some false))))) else (some false))))) else (some false))))) else (some false))))) else (some false)))))))) = some true := H
  have A2 := Aside0.mk A20
  clear A20
  by_cases c3 : t244 < 0
  · rw [if_pos c3] at H
    have c3b0 : decide (t244 < 0) = true := decide_eq_true c3
    clear c3
    clear H
    go_enter Try.func13, Try.ntmps13
    go_wp2_with (first | ((with_reducible refine gate_dst (N := 1) rfl ?_); refine box_event ?hg (N := 1) ?hd (cs := #[.int .i64 a0_0, .slice A0_1 l0_1.length c0_1]) (t := 37) ?hr ?_; (case hd => rfl); (case hg => rfl); (case hr => first | (go_simp; done) | (go_simp; rfl)); intro gb243 hg w4 hbox hb; have n0_ := Aside0.mk (below_step (by repeat (first | (with_reducible first | exact HB.out | apply below_alloc | apply pw_below_drewN | apply below_drew1) | exact HB.out)) hb); have n1_ := Aside0.mk (hbox); have n2_ := Aside0.mk ((by rw [hg]; exact (below_size (by repeat (first | (with_reducible first | exact HB.out | apply below_alloc | apply pw_below_drewN | apply below_drew1) | exact HB.out))) : w.heap.size ≤ gb243)); have n3_ := Aside0.mk ((by rw [hg]; exact (below_size (by repeat (first | (with_reducible first | exact HB.out | apply below_alloc | apply pw_below_drewN | apply below_drew1) | exact HB.out))) : w.heap.size ≤ gb243)); clear HB; have HB := n0_; have BK243 := n1_; have GW243 := n2_; have GE243 := n3_; clear n0_ n1_ n2_ n3_; clear hb hbox hg; have hcz5_0 : w4.cell? ⟨gb243, 0, none⟩ = some (.int .i64 a0_0) := (blk_cell BK243.out 0).trans rfl; have hcz5_1 : w4.cell? ⟨gb243, 1, none⟩ = some (.slice A0_1 l0_1.length c0_1) := (blk_cell BK243.out 1).trans rfl; have hfz5_0 := blk_frozen BK243.out 0; have hfz5_1 := blk_frozen BK243.out 1) | ((with_reducible refine gate_callee (f := 23) rfl ?_); refine goesL_ (some 16) rfl rfl Try.func23 (by kernel_rfl) rfl #[.agg #[.int .i64 a0_0, .slice A0_1 l0_1.length c0_1], .int .i64 1048576] rfl (by (try simp only [List.map_toArray, List.map_cons, List.map_nil]); first | done | rfl | (simp only [List.length_drop, List.length_take]; rfl)) ?_; (with_reducible refine (laws_szStates.calls k a0_0 _ _ l0_1 1048576 t244 _ ?side1 ?side2 A2.out).mono ?_); (case side1 => repeat (first | exact (Kd.C_below HR0_1.out HB.out) | (with_reducible refine Kd.C_alloc ?_ _) | (with_reducible refine Kd.C_drewN ?_ _) | (with_reducible refine Kd.C_drew ?_))); (case side2 => exact HC0_1.out); rintro e w6 ⟨rfl, hb⟩; refine ⟨_, rfl, ?_⟩; have n0_ := Aside0.mk (blk_below (g := gb243) (o := .cells #[.int .i64 a0_0, .slice A0_1 l0_1.length c0_1] 37 (0, 0)) (by (with_reducible repeat (first | refine blk_drewN ?_ _ | refine blk_drew ?_ | refine blk_alloc ?_ _)); exact BK243.out) hb); have n1_ := Aside0.mk (below_step (by repeat (first | (with_reducible first | exact HB.out | apply below_alloc | apply pw_below_drewN | apply below_drew1 | refine below_set ?_ GE243.out) | exact HB.out)) hb); clear BK243; clear HB; have BK243 := n0_; have HB := n1_; clear n0_ n1_; (try clear hb); (try clear hb2); (try clear hk); (try clear hi)))
    go_ret
    exact ⟨by first | rfl | (simp [errW_none, errW_some] <;> rfl) | (simp [*, errW_none, errW_some] <;> rfl), by repeat (first | (with_reducible first | exact HB.out | apply below_alloc | apply pw_below_drewN | apply below_drew1 | refine below_set ?_ GE243.out) | exact HB.out)⟩
  · rw [if_neg c3] at H
    have c3b0 : decide (t244 < 0) = false := decide_eq_false c3
    clear c3
    replace H := Option.bind_eq_some_iff.mp H
    obtain ⟨⟨t245, t246⟩, A70, H⟩ := H
    replace H : ((spec_StateClasses.f k t245 t246).bind fun bt249 => ((laws_toStates.f k a0_0 l0_1).bind fun bt253 => ((impl_StateClasses.f k bt253.1 bt253.2).bind fun bt258 => ((laws_eqIntSS.f k bt258.1 bt249.1).bind fun t262 => (if t262 = true then (if (bt258.2 != bt249.2) = true then (some false) else ((laws_toStates.f k a0_0 l0_1).bind fun bt263 => ((laws_eqStates.f k bt253.1 bt253.2 bt263.1 bt263.2).bind fun t267 => (if t267 = true then ((laws_markStates.f k bt253.1 bt253.2 1).bind fun bt268 => (if bt268.1 < 0 then (some false) else ((laws_eqIntSS.f k bt258.1 bt249.1).bind fun t270 => (if t270 = true then ((laws_markIntSS.f k bt258.1 1).bind fun bt271 => ((laws_heldIntSS.f k bt271.2 1).bind fun t273 => (if t273 < 0 then (some false) else (if t273 = bt271.1 then ((laws_toStates.f k a0_0 l0_1).bind fun bt274 => ((impl_StateClasses.f k bt274.1 bt274.2).bind fun bt278 => ((laws_eqIntSS.f k bt278.1 bt249.1).bind fun t282 => (if t282 = true then (if (bt278.2 != bt249.2) = true then (some false) else ((laws_heldIntSS.f k bt271.2 1).bind fun t283 => (if t283 < 0 then (some false) else (if t283 = bt271.1 then (some true) else (some false))))) else (some false))))) else (some false))))) else (some false))))) else (some false))))) else (some false)))))) = some true := H
    have A7 := Aside0.mk A70
    clear A70
    replace H := Option.bind_eq_some_iff.mp H
    obtain ⟨⟨t249, t252⟩, A80, H⟩ := H
    replace H : ((laws_toStates.f k a0_0 l0_1).bind fun bt253 => ((impl_StateClasses.f k bt253.1 bt253.2).bind fun bt258 => ((laws_eqIntSS.f k bt258.1 t249).bind fun t262 => (if t262 = true then (if (bt258.2 != t252) = true then (some false) else ((laws_toStates.f k a0_0 l0_1).bind fun bt263 => ((laws_eqStates.f k bt253.1 bt253.2 bt263.1 bt263.2).bind fun t267 => (if t267 = true then ((laws_markStates.f k bt253.1 bt253.2 1).bind fun bt268 => (if bt268.1 < 0 then (some false) else ((laws_eqIntSS.f k bt258.1 t249).bind fun t270 => (if t270 = true then ((laws_markIntSS.f k bt258.1 1).bind fun bt271 => ((laws_heldIntSS.f k bt271.2 1).bind fun t273 => (if t273 < 0 then (some false) else (if t273 = bt271.1 then ((laws_toStates.f k a0_0 l0_1).bind fun bt274 => ((impl_StateClasses.f k bt274.1 bt274.2).bind fun bt278 => ((laws_eqIntSS.f k bt278.1 t249).bind fun t282 => (if t282 = true then (if (bt278.2 != t252) = true then (some false) else ((laws_heldIntSS.f k bt271.2 1).bind fun t283 => (if t283 < 0 then (some false) else (if t283 = bt271.1 then (some true) else (some false))))) else (some false))))) else (some false))))) else (some false))))) else (some false))))) else (some false))))) = some true := H
    have A8 := Aside0.mk A80
    clear A80
    replace H := Option.bind_eq_some_iff.mp H
    obtain ⟨⟨t253, t254⟩, A90, H⟩ := H
    replace H : ((impl_StateClasses.f k t253 t254).bind fun bt258 => ((laws_eqIntSS.f k bt258.1 t249).bind fun t262 => (if t262 = true then (if (bt258.2 != t252) = true then (some false) else ((laws_toStates.f k a0_0 l0_1).bind fun bt263 => ((laws_eqStates.f k t253 t254 bt263.1 bt263.2).bind fun t267 => (if t267 = true then ((laws_markStates.f k t253 t254 1).bind fun bt268 => (if bt268.1 < 0 then (some false) else ((laws_eqIntSS.f k bt258.1 t249).bind fun t270 => (if t270 = true then ((laws_markIntSS.f k bt258.1 1).bind fun bt271 => ((laws_heldIntSS.f k bt271.2 1).bind fun t273 => (if t273 < 0 then (some false) else (if t273 = bt271.1 then ((laws_toStates.f k a0_0 l0_1).bind fun bt274 => ((impl_StateClasses.f k bt274.1 bt274.2).bind fun bt278 => ((laws_eqIntSS.f k bt278.1 t249).bind fun t282 => (if t282 = true then (if (bt278.2 != t252) = true then (some false) else ((laws_heldIntSS.f k bt271.2 1).bind fun t283 => (if t283 < 0 then (some false) else (if t283 = bt271.1 then (some true) else (some false))))) else (some false))))) else (some false))))) else (some false))))) else (some false))))) else (some false)))) = some true := H
    have A9 := Aside0.mk A90
    clear A90
    replace H := Option.bind_eq_some_iff.mp H
    obtain ⟨⟨t258, t261⟩, A100, H⟩ := H
    replace H : ((laws_eqIntSS.f k t258 t249).bind fun t262 => (if t262 = true then (if (t261 != t252) = true then (some false) else ((laws_toStates.f k a0_0 l0_1).bind fun bt263 => ((laws_eqStates.f k t253 t254 bt263.1 bt263.2).bind fun t267 => (if t267 = true then ((laws_markStates.f k t253 t254 1).bind fun bt268 => (if bt268.1 < 0 then (some false) else ((laws_eqIntSS.f k t258 t249).bind fun t270 => (if t270 = true then ((laws_markIntSS.f k t258 1).bind fun bt271 => ((laws_heldIntSS.f k bt271.2 1).bind fun t273 => (if t273 < 0 then (some false) else (if t273 = bt271.1 then ((laws_toStates.f k a0_0 l0_1).bind fun bt274 => ((impl_StateClasses.f k bt274.1 bt274.2).bind fun bt278 => ((laws_eqIntSS.f k bt278.1 t249).bind fun t282 => (if t282 = true then (if (bt278.2 != t252) = true then (some false) else ((laws_heldIntSS.f k bt271.2 1).bind fun t283 => (if t283 < 0 then (some false) else (if t283 = bt271.1 then (some true) else (some false))))) else (some false))))) else (some false))))) else (some false))))) else (some false))))) else (some false))) = some true := H
    have A10 := Aside0.mk A100
    clear A100
    replace H := Option.bind_eq_some_iff.mp H
    obtain ⟨t262, A110, H⟩ := H
    replace H : (if t262 = true then (if (t261 != t252) = true then (some false) else ((laws_toStates.f k a0_0 l0_1).bind fun bt263 => ((laws_eqStates.f k t253 t254 bt263.1 bt263.2).bind fun t267 => (if t267 = true then ((laws_markStates.f k t253 t254 1).bind fun bt268 => (if bt268.1 < 0 then (some false) else ((laws_eqIntSS.f k t258 t249).bind fun t270 => (if t270 = true then ((laws_markIntSS.f k t258 1).bind fun bt271 => ((laws_heldIntSS.f k bt271.2 1).bind fun t273 => (if t273 < 0 then (some false) else (if t273 = bt271.1 then ((laws_toStates.f k a0_0 l0_1).bind fun bt274 => ((impl_StateClasses.f k bt274.1 bt274.2).bind fun bt278 => ((laws_eqIntSS.f k bt278.1 t249).bind fun t282 => (if t282 = true then (if (bt278.2 != t252) = true then (some false) else ((laws_heldIntSS.f k bt271.2 1).bind fun t283 => (if t283 < 0 then (some false) else (if t283 = bt271.1 then (some true) else (some false))))) else (some false))))) else (some false))))) else (some false))))) else (some false))))) else (some false)) = some true := H
    have A11 := Aside0.mk A110
    clear A110
    by_cases c12 : t262 = true
    · subst c12
      have H1 : (if (t261 != t252) = true then (some false) else ((laws_toStates.f k a0_0 l0_1).bind fun bt263 => ((laws_eqStates.f k t253 t254 bt263.1 bt263.2).bind fun t267 => (if t267 = true then ((laws_markStates.f k t253 t254 1).bind fun bt268 => (if bt268.1 < 0 then (some false) else ((laws_eqIntSS.f k t258 t249).bind fun t270 => (if t270 = true then ((laws_markIntSS.f k t258 1).bind fun bt271 => ((laws_heldIntSS.f k bt271.2 1).bind fun t273 => (if t273 < 0 then (some false) else (if t273 = bt271.1 then ((laws_toStates.f k a0_0 l0_1).bind fun bt274 => ((impl_StateClasses.f k bt274.1 bt274.2).bind fun bt278 => ((laws_eqIntSS.f k bt278.1 t249).bind fun t282 => (if t282 = true then (if (bt278.2 != t252) = true then (some false) else ((laws_heldIntSS.f k bt271.2 1).bind fun t283 => (if t283 < 0 then (some false) else (if t283 = bt271.1 then (some true) else (some false))))) else (some false))))) else (some false))))) else (some false))))) else (some false))))) = some true := by first | (rw [if_pos rfl] at H; exact H) | (simpa using H)
      clear H
      have H := H1
      clear H1
      by_cases c13 : (t261 != t252) = true
      · rw [if_pos c13] at H
        have c13b0 : (t261 != t252) = true := c13
        (try (have c13b1 : decide (t261 = t252) = false := by simpa using c13))
        (try (have c13b2 : (t261 == t252) = false := by simpa using c13))
        (try (have c13b3 : ¬ (t261 = t252) := by simpa using c13))
        clear c13
        exact absurd H (by simp)
      · rw [if_neg c13] at H
        have c13b0 : (t261 != t252) = false := by simpa using c13
        (try (have c13b1 : decide (t261 = t252) = true := by simpa using c13))
        (try (have c13b2 : (t261 == t252) = true := by simpa using c13))
        clear c13
        replace H := Option.bind_eq_some_iff.mp H
        obtain ⟨⟨t263, t264⟩, A140, H⟩ := H
        replace H : ((laws_eqStates.f k t253 t254 t263 t264).bind fun t267 => (if t267 = true then ((laws_markStates.f k t253 t254 1).bind fun bt268 => (if bt268.1 < 0 then (some false) else ((laws_eqIntSS.f k t258 t249).bind fun t270 => (if t270 = true then ((laws_markIntSS.f k t258 1).bind fun bt271 => ((laws_heldIntSS.f k bt271.2 1).bind fun t273 => (if t273 < 0 then (some false) else (if t273 = bt271.1 then ((laws_toStates.f k a0_0 l0_1).bind fun bt274 => ((impl_StateClasses.f k bt274.1 bt274.2).bind fun bt278 => ((laws_eqIntSS.f k bt278.1 t249).bind fun t282 => (if t282 = true then (if (bt278.2 != t252) = true then (some false) else ((laws_heldIntSS.f k bt271.2 1).bind fun t283 => (if t283 < 0 then (some false) else (if t283 = bt271.1 then (some true) else (some false))))) else (some false))))) else (some false))))) else (some false))))) else (some false))) = some true := H
        have A14 := Aside0.mk A140
        clear A140
        replace H := Option.bind_eq_some_iff.mp H
        obtain ⟨t267, A150, H⟩ := H
        replace H : (if t267 = true then ((laws_markStates.f k t253 t254 1).bind fun bt268 => (if bt268.1 < 0 then (some false) else ((laws_eqIntSS.f k t258 t249).bind fun t270 => (if t270 = true then ((laws_markIntSS.f k t258 1).bind fun bt271 => ((laws_heldIntSS.f k bt271.2 1).bind fun t273 => (if t273 < 0 then (some false) else (if t273 = bt271.1 then ((laws_toStates.f k a0_0 l0_1).bind fun bt274 => ((impl_StateClasses.f k bt274.1 bt274.2).bind fun bt278 => ((laws_eqIntSS.f k bt278.1 t249).bind fun t282 => (if t282 = true then (if (bt278.2 != t252) = true then (some false) else ((laws_heldIntSS.f k bt271.2 1).bind fun t283 => (if t283 < 0 then (some false) else (if t283 = bt271.1 then (some true) else (some false))))) else (some false))))) else (some false))))) else (some false))))) else (some false)) = some true := H
        have A15 := Aside0.mk A150
        clear A150
        by_cases c16 : t267 = true
        · subst c16
          have H1 : ((laws_markStates.f k t253 t254 1).bind fun bt268 => (if bt268.1 < 0 then (some false) else ((laws_eqIntSS.f k t258 t249).bind fun t270 => (if t270 = true then ((laws_markIntSS.f k t258 1).bind fun bt271 => ((laws_heldIntSS.f k bt271.2 1).bind fun t273 => (if t273 < 0 then (some false) else (if t273 = bt271.1 then ((laws_toStates.f k a0_0 l0_1).bind fun bt274 => ((impl_StateClasses.f k bt274.1 bt274.2).bind fun bt278 => ((laws_eqIntSS.f k bt278.1 t249).bind fun t282 => (if t282 = true then (if (bt278.2 != t252) = true then (some false) else ((laws_heldIntSS.f k bt271.2 1).bind fun t283 => (if t283 < 0 then (some false) else (if t283 = bt271.1 then (some true) else (some false))))) else (some false))))) else (some false))))) else (some false))))) = some true := by first | (rw [if_pos rfl] at H; exact H) | (simpa using H)
          clear H
          have H := H1
          clear H1
          replace H := Option.bind_eq_some_iff.mp H
          obtain ⟨⟨t268, t269⟩, A170, H⟩ := H
          replace H : (if t268 < 0 then (some false) else ((laws_eqIntSS.f k t258 t249).bind fun t270 => (if t270 = true then ((laws_markIntSS.f k t258 1).bind fun bt271 => ((laws_heldIntSS.f k bt271.2 1).bind fun t273 => (if t273 < 0 then (some false) else (if t273 = bt271.1 then ((laws_toStates.f k a0_0 l0_1).bind fun bt274 => ((impl_StateClasses.f k bt274.1 bt274.2).bind fun bt278 => ((laws_eqIntSS.f k bt278.1 t249).bind fun t282 => (if t282 = true then (if (bt278.2 != t252) = true then (some false) else ((laws_heldIntSS.f k bt271.2 1).bind fun t283 => (if t283 < 0 then (some false) else (if t283 = bt271.1 then (some true) else (some false))))) else (some false))))) else (some false))))) else (some false)))) = some true := H
          have A17 := Aside0.mk A170
          clear A170
          by_cases c18 : t268 < 0
          · rw [if_pos c18] at H
            have c18b0 : decide (t268 < 0) = true := decide_eq_true c18
            clear c18
            exact absurd H (by simp)
          · rw [if_neg c18] at H
            have c18b0 : decide (t268 < 0) = false := decide_eq_false c18
            clear c18
            replace H := Option.bind_eq_some_iff.mp H
            obtain ⟨t270, A190, H⟩ := H
            replace H : (if t270 = true then ((laws_markIntSS.f k t258 1).bind fun bt271 => ((laws_heldIntSS.f k bt271.2 1).bind fun t273 => (if t273 < 0 then (some false) else (if t273 = bt271.1 then ((laws_toStates.f k a0_0 l0_1).bind fun bt274 => ((impl_StateClasses.f k bt274.1 bt274.2).bind fun bt278 => ((laws_eqIntSS.f k bt278.1 t249).bind fun t282 => (if t282 = true then (if (bt278.2 != t252) = true then (some false) else ((laws_heldIntSS.f k bt271.2 1).bind fun t283 => (if t283 < 0 then (some false) else (if t283 = bt271.1 then (some true) else (some false))))) else (some false))))) else (some false))))) else (some false)) = some true := H
            have A19 := Aside0.mk A190
            clear A190
            by_cases c20 : t270 = true
            · subst c20
              have H1 : ((laws_markIntSS.f k t258 1).bind fun bt271 => ((laws_heldIntSS.f k bt271.2 1).bind fun t273 => (if t273 < 0 then (some false) else (if t273 = bt271.1 then ((laws_toStates.f k a0_0 l0_1).bind fun bt274 => ((impl_StateClasses.f k bt274.1 bt274.2).bind fun bt278 => ((laws_eqIntSS.f k bt278.1 t249).bind fun t282 => (if t282 = true then (if (bt278.2 != t252) = true then (some false) else ((laws_heldIntSS.f k bt271.2 1).bind fun t283 => (if t283 < 0 then (some false) else (if t283 = bt271.1 then (some true) else (some false))))) else (some false))))) else (some false))))) = some true := by first | (rw [if_pos rfl] at H; exact H) | (simpa using H)
              clear H
              have H := H1
              clear H1
              replace H := Option.bind_eq_some_iff.mp H
              obtain ⟨⟨t271, t272⟩, A210, H⟩ := H
              replace H : ((laws_heldIntSS.f k t272 1).bind fun t273 => (if t273 < 0 then (some false) else (if t273 = t271 then ((laws_toStates.f k a0_0 l0_1).bind fun bt274 => ((impl_StateClasses.f k bt274.1 bt274.2).bind fun bt278 => ((laws_eqIntSS.f k bt278.1 t249).bind fun t282 => (if t282 = true then (if (bt278.2 != t252) = true then (some false) else ((laws_heldIntSS.f k t272 1).bind fun t283 => (if t283 < 0 then (some false) else (if t283 = t271 then (some true) else (some false))))) else (some false))))) else (some false)))) = some true := H
              have A21 := Aside0.mk A210
              clear A210
              replace H := Option.bind_eq_some_iff.mp H
              obtain ⟨t273, A220, H⟩ := H
              replace H : (if t273 < 0 then (some false) else (if t273 = t271 then ((laws_toStates.f k a0_0 l0_1).bind fun bt274 => ((impl_StateClasses.f k bt274.1 bt274.2).bind fun bt278 => ((laws_eqIntSS.f k bt278.1 t249).bind fun t282 => (if t282 = true then (if (bt278.2 != t252) = true then (some false) else ((laws_heldIntSS.f k t272 1).bind fun t283 => (if t283 < 0 then (some false) else (if t283 = t271 then (some true) else (some false))))) else (some false))))) else (some false))) = some true := H
              have A22 := Aside0.mk A220
              clear A220
              by_cases c23 : t273 < 0
              · rw [if_pos c23] at H
                have c23b0 : decide (t273 < 0) = true := decide_eq_true c23
                clear c23
                exact absurd H (by simp)
              · rw [if_neg c23] at H
                have c23b0 : decide (t273 < 0) = false := decide_eq_false c23
                clear c23
                by_cases c24 : t273 = t271
                · rw [if_pos c24] at H
                  have c24b0 : (t273 == t271) = true := beq_iff_eq.mpr c24
                  have c24b1 : (t273 != t271) = false := bne_eq_false_iff_eq.mpr c24
                  clear c24
                  replace H := Option.bind_eq_some_iff.mp H
                  obtain ⟨⟨t274, t275⟩, A250, H⟩ := H
                  replace H : ((impl_StateClasses.f k t274 t275).bind fun bt278 => ((laws_eqIntSS.f k bt278.1 t249).bind fun t282 => (if t282 = true then (if (bt278.2 != t252) = true then (some false) else ((laws_heldIntSS.f k t272 1).bind fun t283 => (if t283 < 0 then (some false) else (if t283 = t271 then (some true) else (some false))))) else (some false)))) = some true := H
                  have A25 := Aside0.mk A250
                  clear A250
                  replace H := Option.bind_eq_some_iff.mp H
                  obtain ⟨⟨t278, t281⟩, A260, H⟩ := H
                  replace H : ((laws_eqIntSS.f k t278 t249).bind fun t282 => (if t282 = true then (if (t281 != t252) = true then (some false) else ((laws_heldIntSS.f k t272 1).bind fun t283 => (if t283 < 0 then (some false) else (if t283 = t271 then (some true) else (some false))))) else (some false))) = some true := H
                  have A26 := Aside0.mk A260
                  clear A260
                  replace H := Option.bind_eq_some_iff.mp H
                  obtain ⟨t282, A270, H⟩ := H
                  replace H : (if t282 = true then (if (t281 != t252) = true then (some false) else ((laws_heldIntSS.f k t272 1).bind fun t283 => (if t283 < 0 then (some false) else (if t283 = t271 then (some true) else (some false))))) else (some false)) = some true := H
                  have A27 := Aside0.mk A270
                  clear A270
                  by_cases c28 : t282 = true
                  · subst c28
                    have H1 : (if (t281 != t252) = true then (some false) else ((laws_heldIntSS.f k t272 1).bind fun t283 => (if t283 < 0 then (some false) else (if t283 = t271 then (some true) else (some false))))) = some true := by first | (rw [if_pos rfl] at H; exact H) | (simpa using H)
                    clear H
                    have H := H1
                    clear H1
                    by_cases c29 : (t281 != t252) = true
                    · rw [if_pos c29] at H
                      have c29b0 : (t281 != t252) = true := c29
                      (try (have c29b1 : decide (t281 = t252) = false := by simpa using c29))
                      (try (have c29b2 : (t281 == t252) = false := by simpa using c29))
                      (try (have c29b3 : ¬ (t281 = t252) := by simpa using c29))
                      clear c29
                      exact absurd H (by simp)
                    · rw [if_neg c29] at H
                      have c29b0 : (t281 != t252) = false := by simpa using c29
                      (try (have c29b1 : decide (t281 = t252) = true := by simpa using c29))
                      (try (have c29b2 : (t281 == t252) = true := by simpa using c29))
                      clear c29
                      replace H := Option.bind_eq_some_iff.mp H
                      obtain ⟨t283, A300, H⟩ := H
                      replace H : (if t283 < 0 then (some false) else (if t283 = t271 then (some true) else (some false))) = some true := H
                      have A30 := Aside0.mk A300
                      clear A300
                      by_cases c31 : t283 < 0
                      · rw [if_pos c31] at H
                        have c31b0 : decide (t283 < 0) = true := decide_eq_true c31
                        clear c31
                        exact absurd H (by simp)
                      · rw [if_neg c31] at H
                        have c31b0 : decide (t283 < 0) = false := decide_eq_false c31
                        clear c31
                        by_cases c32 : t283 = t271
                        · rw [if_pos c32] at H
                          have c32b0 : (t283 == t271) = true := beq_iff_eq.mpr c32
                          have c32b1 : (t283 != t271) = false := bne_eq_false_iff_eq.mpr c32
                          clear c32
                          clear H
                          go_enter Try.func13, Try.ntmps13
                          try go_wp2_with (first | ((with_reducible refine gate_dst (N := 1) rfl ?_); refine box_event ?hg (N := 1) ?hd (cs := #[.int .i64 a0_0, .slice A0_1 l0_1.length c0_1]) (t := 37) ?hr ?_; (case hd => rfl); (case hg => rfl); (case hr => first | (go_simp; done) | (go_simp; rfl)); intro gb243 hg w33 hbox hb; have n0_ := Aside0.mk (below_step (by repeat (first | (with_reducible first | exact HB.out | apply below_alloc | apply pw_below_drewN | apply below_drew1) | exact HB.out)) hb); have n1_ := Aside0.mk (hbox); have n2_ := Aside0.mk ((by rw [hg]; exact (below_size (by repeat (first | (with_reducible first | exact HB.out | apply below_alloc | apply pw_below_drewN | apply below_drew1) | exact HB.out))) : w.heap.size ≤ gb243)); have n3_ := Aside0.mk ((by rw [hg]; exact (below_size (by repeat (first | (with_reducible first | exact HB.out | apply below_alloc | apply pw_below_drewN | apply below_drew1) | exact HB.out))) : w.heap.size ≤ gb243)); clear HB; have HB := n0_; have BK243 := n1_; have GW243 := n2_; have GE243 := n3_; clear n0_ n1_ n2_ n3_; clear hb hbox hg; have hcz34_0 : w33.cell? ⟨gb243, 0, none⟩ = some (.int .i64 a0_0) := (blk_cell BK243.out 0).trans rfl; have hcz34_1 : w33.cell? ⟨gb243, 1, none⟩ = some (.slice A0_1 l0_1.length c0_1) := (blk_cell BK243.out 1).trans rfl; have hfz34_0 := blk_frozen BK243.out 0; have hfz34_1 := blk_frozen BK243.out 1) | ((with_reducible refine gate_callee (f := 23) rfl ?_); refine goesL_ (some 16) rfl rfl Try.func23 (by kernel_rfl) rfl #[.agg #[.int .i64 a0_0, .slice A0_1 l0_1.length c0_1], .int .i64 1048576] rfl (by (try simp only [List.map_toArray, List.map_cons, List.map_nil]); first | done | rfl | (simp only [List.length_drop, List.length_take]; rfl)) ?_; (with_reducible refine (laws_szStates.calls k a0_0 _ _ l0_1 1048576 t244 _ ?side1 ?side2 A2.out).mono ?_); (case side1 => repeat (first | exact (Kd.C_below HR0_1.out HB.out) | (with_reducible refine Kd.C_alloc ?_ _) | (with_reducible refine Kd.C_drewN ?_ _) | (with_reducible refine Kd.C_drew ?_))); (case side2 => exact HC0_1.out); rintro e w35 ⟨rfl, hb⟩; refine ⟨_, rfl, ?_⟩; have n0_ := Aside0.mk (blk_below (g := gb243) (o := .cells #[.int .i64 a0_0, .slice A0_1 l0_1.length c0_1] 37 (0, 0)) (by (with_reducible repeat (first | refine blk_drewN ?_ _ | refine blk_drew ?_ | refine blk_alloc ?_ _)); exact BK243.out) hb); have n1_ := Aside0.mk (below_step (by repeat (first | (with_reducible first | exact HB.out | apply below_alloc | apply pw_below_drewN | apply below_drew1 | refine below_set ?_ GE243.out) | exact HB.out)) hb); clear BK243; clear HB; have BK243 := n0_; have HB := n1_; clear n0_ n1_; (try clear hb); (try clear hb2); (try clear hk); (try clear hi); have hcz36_0 : w35.cell? ⟨gb243, 0, none⟩ = some (.int .i64 a0_0) := (blk_cell BK243.out 0).trans rfl; have hcz36_1 : w35.cell? ⟨gb243, 1, none⟩ = some (.slice A0_1 l0_1.length c0_1) := (blk_cell BK243.out 1).trans rfl; have hfz36_0 := blk_frozen BK243.out 0; have hfz36_1 := blk_frozen BK243.out 1) | ((with_reducible refine gate_callee (f := 25) rfl ?_); refine goesL_ (some 21) rfl rfl Try.func25 (by kernel_rfl) rfl #[.agg #[.int .i64 a0_0, .slice A0_1 l0_1.length c0_1]] rfl (by (try simp only [List.map_toArray, List.map_cons, List.map_nil]); first | done | rfl | (simp only [List.length_drop, List.length_take]; rfl)) ?_; (with_reducible refine (laws_toStates.calls k a0_0 _ _ l0_1 t245 t246 _ ?side1 ?side2 A7.out).mono ?_); (case side1 => repeat (first | exact (Kd.C_below HR0_1.out HB.out) | (with_reducible refine Kd.C_alloc ?_ _) | (with_reducible refine Kd.C_drewN ?_ _) | (with_reducible refine Kd.C_drew ?_))); (case side2 => exact HC0_1.out); rintro e w37 ⟨v247, rfl, ho0, hb⟩; refine ⟨_, rfl, ?_⟩; obtain ⟨bzw37_, hzow37_, hznw37_, hzbw37_⟩ := born_pair hb; have n0_ := Aside0.mk (Kd.S_lower (hznw37_ ho0) (below_size (by repeat (first | (with_reducible first | exact HB.out | apply below_alloc | apply pw_below_drewN | apply below_drew1 | refine below_set ?_ GE243.out) | exact HB.out)))); have n1_ := Aside0.mk (blk_below (g := gb243) (o := .cells #[.int .i64 a0_0, .slice A0_1 l0_1.length c0_1] 37 (0, 0)) (by (with_reducible repeat (first | refine blk_drewN ?_ _ | refine blk_drew ?_ | refine blk_alloc ?_ _)); exact BK243.out) hb); have n2_ := Aside0.mk (below_step (by repeat (first | (with_reducible first | exact HB.out | apply below_alloc | apply pw_below_drewN | apply below_drew1 | refine below_set ?_ GE243.out) | exact HB.out)) hb); clear BK243; clear HB; have HO248 := n0_; have BK243 := n1_; have HB := n2_; clear n0_ n1_ n2_; (try clear hb); (try clear hb2); (try clear hk); (try clear hi); (try clear ho0); obtain ⟨Ao38, co38, eo38⟩ := Kd.S_slice HO248.out; subst eo38) | ((with_reducible refine gate_callee (f := 48) rfl ?_); refine goesL_ (some 22) rfl rfl Try.func48 (by kernel_rfl) rfl #[.agg #[.int .i64 t245, .slice Ao38 t246.length co38]] rfl (by (try simp only [List.map_toArray, List.map_cons, List.map_nil]); first | done | rfl | (simp only [List.length_drop, List.length_take]; rfl)) ?_; (with_reducible refine (spec_StateClasses.calls k t245 _ _ t246 t249 t252 _ ?side1 ?side2 A8.out).mono ?_); (case side1 => repeat (first | exact (Kd.S_reads' HO248.out).2.2 | (with_reducible refine Kd.C_alloc ?_ _) | (with_reducible refine Kd.C_drewN ?_ _) | (with_reducible refine Kd.C_drew ?_))); (case side2 => exact (Kd.S_reads' HO248.out).2.1); rintro e w39 ⟨v250, rfl, ho0, hb⟩; refine ⟨_, rfl, ?_⟩; obtain ⟨bzw39_, hzow39_, hznw39_, hzbw39_⟩ := born_pair hb; have n0_ := Aside0.mk (Kd.S_mono (ok' := fun k_ => (((True ∧ bzw37_ ≤ k_) ∧ some k_ ≠ (v250 : Value).ownBlock) ∧ k_ < bzw39_)) (hzow39_ (by (with_reducible repeat (first | apply Kd.S_alloc | apply Kd.S_drewN | apply Kd.S_drew)); exact HO248.out)) (fun k_ hk_ => ⟨⟨hk_.1, fun e_ => Nat.not_le.2 hk_.2 (hzbw39_ _ (Kd.S_base ho0 k_ e_.symm))⟩, hk_.2⟩)); have n1_ := Aside0.mk (Kd.S_lower (Kd.S_new' (hznw39_ ho0) (Kd.S_lt (by (with_reducible repeat (first | apply Kd.S_alloc | apply Kd.S_drewN | apply Kd.S_drew)); exact HO248.out))) (below_size (by repeat (first | (with_reducible first | exact HB.out | apply below_alloc | apply pw_below_drewN | apply below_drew1 | refine below_set ?_ GE243.out) | exact HB.out)))); have n2_ := Aside0.mk (blk_below (g := gb243) (o := .cells #[.int .i64 a0_0, .slice A0_1 l0_1.length c0_1] 37 (0, 0)) (by (with_reducible repeat (first | refine blk_drewN ?_ _ | refine blk_drew ?_ | refine blk_alloc ?_ _)); exact BK243.out) hb); have n3_ := Aside0.mk (below_step (by repeat (first | (with_reducible first | exact HB.out | apply below_alloc | apply pw_below_drewN | apply below_drew1 | refine below_set ?_ GE243.out) | exact HB.out)) hb); clear HO248; clear BK243; clear HB; have HO248 := n0_; have HO251 := n1_; have BK243 := n2_; have HB := n3_; clear n0_ n1_ n2_ n3_; (try clear hb); (try clear hb2); (try clear hk); (try clear hi); (try clear ho0); have hcz40_0 : w39.cell? ⟨gb243, 0, none⟩ = some (.int .i64 a0_0) := (blk_cell BK243.out 0).trans rfl; have hcz40_1 : w39.cell? ⟨gb243, 1, none⟩ = some (.slice A0_1 l0_1.length c0_1) := (blk_cell BK243.out 1).trans rfl; have hfz40_0 := blk_frozen BK243.out 0; have hfz40_1 := blk_frozen BK243.out 1) | ((with_reducible refine gate_callee (f := 25) rfl ?_); refine goesL_ (some 26) rfl rfl Try.func25 (by kernel_rfl) rfl #[.agg #[.int .i64 a0_0, .slice A0_1 l0_1.length c0_1]] rfl (by (try simp only [List.map_toArray, List.map_cons, List.map_nil]); first | done | rfl | (simp only [List.length_drop, List.length_take]; rfl)) ?_; (with_reducible refine (laws_toStates.calls k a0_0 _ _ l0_1 t253 t254 _ ?side1 ?side2 A9.out).mono ?_); (case side1 => repeat (first | exact (Kd.C_below HR0_1.out HB.out) | (with_reducible refine Kd.C_alloc ?_ _) | (with_reducible refine Kd.C_drewN ?_ _) | (with_reducible refine Kd.C_drew ?_))); (case side2 => exact HC0_1.out); rintro e w41 ⟨v255, rfl, ho0, hb⟩; refine ⟨_, rfl, ?_⟩; obtain ⟨bzw41_, hzow41_, hznw41_, hzbw41_⟩ := born_pair hb; have n0_ := Aside0.mk (Kd.S_mono (ok' := fun k_ => (((((True ∧ bzw37_ ≤ k_) ∧ some k_ ≠ (v250 : Value).ownBlock) ∧ k_ < bzw39_) ∧ some k_ ≠ (v255 : Value).ownBlock) ∧ k_ < bzw41_)) (hzow41_ (by (with_reducible repeat (first | apply Kd.S_alloc | apply Kd.S_drewN | apply Kd.S_drew)); exact HO248.out)) (fun k_ hk_ => ⟨⟨hk_.1, fun e_ => Nat.not_le.2 hk_.2 (hzbw41_ _ (Kd.S_base ho0 k_ e_.symm))⟩, hk_.2⟩)); have n1_ := Aside0.mk (Kd.S_mono (ok' := fun k_ => ((((True ∧ bzw39_ ≤ k_) ∧ some k_ ≠ (.slice Ao38 t246.length co38 : Value).ownBlock) ∧ some k_ ≠ (v255 : Value).ownBlock) ∧ k_ < bzw41_)) (hzow41_ (by (with_reducible repeat (first | apply Kd.S_alloc | apply Kd.S_drewN | apply Kd.S_drew)); exact HO251.out)) (fun k_ hk_ => ⟨⟨hk_.1, fun e_ => Nat.not_le.2 hk_.2 (hzbw41_ _ (Kd.S_base ho0 k_ e_.symm))⟩, hk_.2⟩)); have n2_ := Aside0.mk (Kd.S_lower (Kd.S_new' (Kd.S_new' (hznw41_ ho0) (Kd.S_lt (by (with_reducible repeat (first | apply Kd.S_alloc | apply Kd.S_drewN | apply Kd.S_drew)); exact HO248.out))) (Kd.S_lt (by (with_reducible repeat (first | apply Kd.S_alloc | apply Kd.S_drewN | apply Kd.S_drew)); exact HO251.out))) (below_size (by repeat (first | (with_reducible first | exact HB.out | apply below_alloc | apply pw_below_drewN | apply below_drew1 | refine below_set ?_ GE243.out) | exact HB.out)))); have n3_ := Aside0.mk (blk_below (g := gb243) (o := .cells #[.int .i64 a0_0, .slice A0_1 l0_1.length c0_1] 37 (0, 0)) (by (with_reducible repeat (first | refine blk_drewN ?_ _ | refine blk_drew ?_ | refine blk_alloc ?_ _)); exact BK243.out) hb); have n4_ := Aside0.mk (below_step (by repeat (first | (with_reducible first | exact HB.out | apply below_alloc | apply pw_below_drewN | apply below_drew1 | refine below_set ?_ GE243.out) | exact HB.out)) hb); clear HO248; clear HO251; clear BK243; clear HB; have HO248 := n0_; have HO251 := n1_; have HO256 := n2_; have BK243 := n3_; have HB := n4_; clear n0_ n1_ n2_ n3_ n4_; (try clear hb); (try clear hb2); (try clear hk); (try clear hi); (try clear ho0)) | ((with_reducible refine gate_dst (N := 6) rfl ?_); refine box_event ?hg (N := 6) ?hd (cs := #[.int .i64 0, .slice none 0 0]) (t := 40) ?hr ?_; (case hd => rfl); (case hg => rfl); (case hr => first | (go_simp; done) | (go_simp; rfl)); intro gb257 hg w42 hbox hb; have n0_ := Aside0.mk (Kd.S_below (by (with_reducible repeat (first | apply Kd.S_alloc | apply Kd.S_drewN | apply Kd.S_drew)); exact HO248.out) hb); have n1_ := Aside0.mk (Kd.S_below (by (with_reducible repeat (first | apply Kd.S_alloc | apply Kd.S_drewN | apply Kd.S_drew)); exact HO251.out) hb); have n2_ := Aside0.mk (Kd.S_below (by (with_reducible repeat (first | apply Kd.S_alloc | apply Kd.S_drewN | apply Kd.S_drew)); exact HO256.out) hb); have n3_ := Aside0.mk (blk_below (g := gb243) (o := .cells #[.int .i64 a0_0, .slice A0_1 l0_1.length c0_1] 37 (0, 0)) (by (with_reducible repeat (first | refine blk_drewN ?_ _ | refine blk_drew ?_ | refine blk_alloc ?_ _)); exact BK243.out) hb); have n4_ := Aside0.mk (below_step (by repeat (first | (with_reducible first | exact HB.out | apply below_alloc | apply pw_below_drewN | apply below_drew1 | refine below_set ?_ GE243.out) | exact HB.out)) hb); have n5_ := Aside0.mk (hbox); have n6_ := Aside0.mk ((by rw [hg]; exact (below_size (by repeat (first | (with_reducible first | exact HB.out | apply below_alloc | apply pw_below_drewN | apply below_drew1 | refine below_set ?_ GE243.out) | exact HB.out))) : w.heap.size ≤ gb257)); have n7_ := Aside0.mk ((by rw [hg]; exact (below_size (by repeat (first | (with_reducible first | exact HB.out | apply below_alloc | apply pw_below_drewN | apply below_drew1 | refine below_set ?_ GE243.out) | exact HB.out))) : w.heap.size ≤ gb257)); have n8_ := Aside0.mk ((by rw [hg]; exact Nat.ne_of_lt (blk_lt (g := gb243) (o := .cells #[.int .i64 a0_0, .slice A0_1 l0_1.length c0_1] 37 (0, 0)) (by (with_reducible repeat (first | refine blk_drewN ?_ _ | refine blk_drew ?_ | refine blk_alloc ?_ _)); exact BK243.out)) : gb243 ≠ gb257)); have n9_ := Aside0.mk ((by rw [hg]; exact Nat.ne_of_gt (blk_lt (g := gb243) (o := .cells #[.int .i64 a0_0, .slice A0_1 l0_1.length c0_1] 37 (0, 0)) (by (with_reducible repeat (first | refine blk_drewN ?_ _ | refine blk_drew ?_ | refine blk_alloc ?_ _)); exact BK243.out)) : gb257 ≠ gb243)); clear HO248; clear HO251; clear HO256; clear BK243; clear HB; have HO248 := n0_; have HO251 := n1_; have HO256 := n2_; have BK243 := n3_; have HB := n4_; have BK257 := n5_; have GW257 := n6_; have GE257 := n7_; have NB243_257 := n8_; have NB257_243 := n9_; clear n0_ n1_ n2_ n3_ n4_ n5_ n6_ n7_ n8_ n9_; clear hb hbox hg; have hnb43 := NB257_243.out; have hnc43 := NB243_257.out; have hcz44_0 : w42.cell? ⟨gb257, 0, none⟩ = some (.int .i64 0) := (blk_cell BK257.out 0).trans rfl; have hcz44_1 : w42.cell? ⟨gb257, 1, none⟩ = some (.slice none 0 0) := (blk_cell BK257.out 1).trans rfl; have hfz44_0 := blk_frozen BK257.out 0; have hfz44_1 := blk_frozen BK257.out 1; obtain ⟨Ao45, co45, eo45⟩ := Kd.S_slice HO256.out; subst eo45) | ((with_reducible refine gate_callee (f := 49) rfl ?_); refine goesL_ (some 29) rfl rfl Try.func49 (by kernel_rfl) rfl #[.agg #[.int .i64 t253, .slice Ao45 t254.length co45]] rfl (by (try simp only [List.map_toArray, List.map_cons, List.map_nil]); first | done | rfl | (simp only [List.length_drop, List.length_take]; rfl)) ?_; (with_reducible refine (impl_StateClasses.calls k t253 _ _ t254 t258 t261 _ ?side1 ?side2 A10.out).mono ?_); (case side1 => refine (Kd.S_reads' (e := 44) (base := w.heap.size) (ok := fun k_ => (((True ∧ bzw41_ ≤ k_) ∧ some k_ ≠ (.slice Ao38 t246.length co38 : Value).ownBlock) ∧ some k_ ≠ (v250 : Value).ownBlock)) (n := t254.length) (c := co45) ?_).2.2; exact (by (with_reducible repeat (first | apply Kd.S_alloc | apply Kd.S_drewN | apply Kd.S_drew)); exact (Kd.S_mono (Kd.S_far (p := ⟨gb257, 1, none⟩) (Kd.S_far (p := ⟨gb257, 0, none⟩) (Kd.S_types HO256.out BK257.out (by decide)) (fun _ hk => hk.2) (.int .i64 t253)) (fun _ hk => hk.2) (.slice Ao45 t254.length co45)) (fun _ h_ => h_.1)))); (case side2 => exact (Kd.S_reads' HO256.out).2.1); rintro e w46 ⟨v259, rfl, ho0, hb⟩; refine ⟨_, rfl, ?_⟩; obtain ⟨bzw46_, hzow46_, hznw46_, hzbw46_⟩ := born_pair hb; have n0_ := Aside0.mk (Kd.S_mono (ok' := fun k_ => (((((((True ∧ bzw37_ ≤ k_) ∧ some k_ ≠ (v250 : Value).ownBlock) ∧ k_ < bzw39_) ∧ some k_ ≠ (.slice Ao45 t254.length co45 : Value).ownBlock) ∧ k_ < bzw41_) ∧ some k_ ≠ (v259 : Value).ownBlock) ∧ k_ < bzw46_)) (hzow46_ (by (with_reducible repeat (first | apply Kd.S_alloc | apply Kd.S_drewN | apply Kd.S_drew)); exact (Kd.S_mono (Kd.S_far (p := ⟨gb257, 1, none⟩) (Kd.S_far (p := ⟨gb257, 0, none⟩) (Kd.S_types HO248.out BK257.out (by decide)) (fun _ hk => hk.2) (.int .i64 t253)) (fun _ hk => hk.2) (.slice Ao45 t254.length co45)) (fun _ h_ => h_.1)))) (fun k_ hk_ => ⟨⟨hk_.1, fun e_ => Nat.not_le.2 hk_.2 (hzbw46_ _ (Kd.S_base ho0 k_ e_.symm))⟩, hk_.2⟩)); have n1_ := Aside0.mk (Kd.S_mono (ok' := fun k_ => ((((((True ∧ bzw39_ ≤ k_) ∧ some k_ ≠ (.slice Ao38 t246.length co38 : Value).ownBlock) ∧ some k_ ≠ (.slice Ao45 t254.length co45 : Value).ownBlock) ∧ k_ < bzw41_) ∧ some k_ ≠ (v259 : Value).ownBlock) ∧ k_ < bzw46_)) (hzow46_ (by (with_reducible repeat (first | apply Kd.S_alloc | apply Kd.S_drewN | apply Kd.S_drew)); exact (Kd.S_mono (Kd.S_far (p := ⟨gb257, 1, none⟩) (Kd.S_far (p := ⟨gb257, 0, none⟩) (Kd.S_types HO251.out BK257.out (by decide)) (fun _ hk => hk.2) (.int .i64 t253)) (fun _ hk => hk.2) (.slice Ao45 t254.length co45)) (fun _ h_ => h_.1)))) (fun k_ hk_ => ⟨⟨hk_.1, fun e_ => Nat.not_le.2 hk_.2 (hzbw46_ _ (Kd.S_base ho0 k_ e_.symm))⟩, hk_.2⟩)); have n2_ := Aside0.mk (Kd.S_mono (ok' := fun k_ => (((((True ∧ bzw41_ ≤ k_) ∧ some k_ ≠ (.slice Ao38 t246.length co38 : Value).ownBlock) ∧ some k_ ≠ (v250 : Value).ownBlock) ∧ some k_ ≠ (v259 : Value).ownBlock) ∧ k_ < bzw46_)) (hzow46_ (by (with_reducible repeat (first | apply Kd.S_alloc | apply Kd.S_drewN | apply Kd.S_drew)); exact (Kd.S_mono (Kd.S_far (p := ⟨gb257, 1, none⟩) (Kd.S_far (p := ⟨gb257, 0, none⟩) (Kd.S_types HO256.out BK257.out (by decide)) (fun _ hk => hk.2) (.int .i64 t253)) (fun _ hk => hk.2) (.slice Ao45 t254.length co45)) (fun _ h_ => h_.1)))) (fun k_ hk_ => ⟨⟨hk_.1, fun e_ => Nat.not_le.2 hk_.2 (hzbw46_ _ (Kd.S_base ho0 k_ e_.symm))⟩, hk_.2⟩)); have n3_ := Aside0.mk (Kd.S_lower (Kd.S_new' (Kd.S_new' (Kd.S_new' (hznw46_ ho0) (Kd.S_lt (by (with_reducible repeat (first | apply Kd.S_alloc | apply Kd.S_drewN | apply Kd.S_drew)); exact (Kd.S_mono (Kd.S_far (p := ⟨gb257, 1, none⟩) (Kd.S_far (p := ⟨gb257, 0, none⟩) (Kd.S_types HO248.out BK257.out (by decide)) (fun _ hk => hk.2) (.int .i64 t253)) (fun _ hk => hk.2) (.slice Ao45 t254.length co45)) (fun _ h_ => h_.1))))) (Kd.S_lt (by (with_reducible repeat (first | apply Kd.S_alloc | apply Kd.S_drewN | apply Kd.S_drew)); exact (Kd.S_mono (Kd.S_far (p := ⟨gb257, 1, none⟩) (Kd.S_far (p := ⟨gb257, 0, none⟩) (Kd.S_types HO251.out BK257.out (by decide)) (fun _ hk => hk.2) (.int .i64 t253)) (fun _ hk => hk.2) (.slice Ao45 t254.length co45)) (fun _ h_ => h_.1))))) (Kd.S_lt (by (with_reducible repeat (first | apply Kd.S_alloc | apply Kd.S_drewN | apply Kd.S_drew)); exact (Kd.S_mono (Kd.S_far (p := ⟨gb257, 1, none⟩) (Kd.S_far (p := ⟨gb257, 0, none⟩) (Kd.S_types HO256.out BK257.out (by decide)) (fun _ hk => hk.2) (.int .i64 t253)) (fun _ hk => hk.2) (.slice Ao45 t254.length co45)) (fun _ h_ => h_.1))))) (below_size (by repeat (first | (with_reducible first | exact HB.out | apply below_alloc | apply pw_below_drewN | apply below_drew1 | refine below_set ?_ GE243.out | refine below_set ?_ GE257.out) | exact HB.out)))); have n4_ := Aside0.mk (blk_below (g := gb243) (o := .cells #[.int .i64 a0_0, .slice A0_1 l0_1.length c0_1] 37 (0, 0)) (by (with_reducible repeat (first | refine blk_drewN ?_ _ | refine blk_drew ?_ | refine blk_alloc ?_ _)); refine blk_far ?_ NB243_257.out _; (with_reducible repeat (first | refine blk_drewN ?_ _ | refine blk_drew ?_ | refine blk_alloc ?_ _)); refine blk_far ?_ NB243_257.out _; (with_reducible repeat (first | refine blk_drewN ?_ _ | refine blk_drew ?_ | refine blk_alloc ?_ _)); exact BK243.out) hb); have n5_ := Aside0.mk (blk_below (g := gb257) (o := .cells #[.int .i64 t253, .slice Ao45 t254.length co45] 40 (0, 0)) (by (with_reducible repeat (first | refine blk_drewN ?_ _ | refine blk_drew ?_ | refine blk_alloc ?_ _)); refine blk_put (cs := #[.int .i64 t253, .slice none 0 0]) ?_ 1 _ rfl; (with_reducible repeat (first | refine blk_drewN ?_ _ | refine blk_drew ?_ | refine blk_alloc ?_ _)); refine blk_put (cs := #[.int .i64 0, .slice none 0 0]) ?_ 0 _ rfl; (with_reducible repeat (first | refine blk_drewN ?_ _ | refine blk_drew ?_ | refine blk_alloc ?_ _)); exact BK257.out) hb); have n6_ := Aside0.mk (below_step (by repeat (first | (with_reducible first | exact HB.out | apply below_alloc | apply pw_below_drewN | apply below_drew1 | refine below_set ?_ GE243.out | refine below_set ?_ GE257.out) | exact HB.out)) hb); clear HO248; clear HO251; clear HO256; clear BK243; clear BK257; clear HB; have HO248 := n0_; have HO251 := n1_; have HO256 := n2_; have HO260 := n3_; have BK243 := n4_; have BK257 := n5_; have HB := n6_; clear n0_ n1_ n2_ n3_ n4_ n5_ n6_; (try clear hb); (try clear hb2); (try clear hk); (try clear hi); (try clear ho0); obtain ⟨Ao47, co47, eo47⟩ := Kd.S_slice HO260.out; subst eo47; obtain ⟨Ao48, co48, eo48⟩ := Kd.S_slice HO251.out; subst eo48) | ((with_reducible refine gate_callee (f := 50) rfl ?_); refine goesL_ (some 34) rfl rfl Try.func50 (by kernel_rfl) rfl #[.slice Ao47 t258.length co47, .slice Ao48 t249.length co48] rfl (by (try simp only [List.map_toArray, List.map_cons, List.map_nil]); first | done | rfl | (simp only [List.length_drop, List.length_take]; rfl)) ?_; (with_reducible refine (laws_eqIntSS.calls k _ _ t258 _ _ t249 true _ ?side1 ?side2 ?side3 ?side4 A11.out).mono ?_); (case side1 => repeat (first | exact (Kd.S_reads' HO260.out).2.2 | (with_reducible refine Kd.C_alloc ?_ _) | (with_reducible refine Kd.C_drewN ?_ _) | (with_reducible refine Kd.C_drew ?_))); (case side2 => exact (Kd.S_reads' HO260.out).2.1); (case side3 => repeat (first | exact (Kd.S_reads' HO251.out).2.2 | (with_reducible refine Kd.C_alloc ?_ _) | (with_reducible refine Kd.C_drewN ?_ _) | (with_reducible refine Kd.C_drew ?_))); (case side4 => exact (Kd.S_reads' HO251.out).2.1); rintro e w' ⟨rfl, ⟨nd, rfl⟩⟩; refine ⟨_, rfl, ?_⟩))
                          (try (rw [drewN_self w46]; generalize hq_ : World.drewN w46 _ = w46; have n0_ : Aside0 (Kd.S (Kd.slice 3 (Kd.int .i64)) 44 w46 w.heap.size (fun k_ => (((((((True ∧ bzw37_ ≤ k_) ∧ some k_ ≠ (.slice Ao48 t249.length co48 : Value).ownBlock) ∧ k_ < bzw39_) ∧ some k_ ≠ (.slice Ao45 t254.length co45 : Value).ownBlock) ∧ k_ < bzw41_) ∧ some k_ ≠ (.slice Ao47 t258.length co47 : Value).ownBlock) ∧ k_ < bzw46_)) (.slice Ao38 t246.length co38) t246) := ⟨by rw [← hq_]; exact (by (with_reducible repeat (first | apply Kd.S_alloc | apply Kd.S_drewN | apply Kd.S_drew)); exact HO248.out)⟩; have n1_ : Aside0 (Kd.S (Kd.slice 3 (Kd.int .i64)) 44 w46 w.heap.size (fun k_ => ((((((True ∧ bzw39_ ≤ k_) ∧ some k_ ≠ (.slice Ao38 t246.length co38 : Value).ownBlock) ∧ some k_ ≠ (.slice Ao45 t254.length co45 : Value).ownBlock) ∧ k_ < bzw41_) ∧ some k_ ≠ (.slice Ao47 t258.length co47 : Value).ownBlock) ∧ k_ < bzw46_)) (.slice Ao48 t249.length co48) t249) := ⟨by rw [← hq_]; exact (by (with_reducible repeat (first | apply Kd.S_alloc | apply Kd.S_drewN | apply Kd.S_drew)); exact HO251.out)⟩; have n2_ : Aside0 (Kd.S (Kd.slice 3 (Kd.int .i64)) 44 w46 w.heap.size (fun k_ => (((((True ∧ bzw41_ ≤ k_) ∧ some k_ ≠ (.slice Ao38 t246.length co38 : Value).ownBlock) ∧ some k_ ≠ (.slice Ao48 t249.length co48 : Value).ownBlock) ∧ some k_ ≠ (.slice Ao47 t258.length co47 : Value).ownBlock) ∧ k_ < bzw46_)) (.slice Ao45 t254.length co45) t254) := ⟨by rw [← hq_]; exact (by (with_reducible repeat (first | apply Kd.S_alloc | apply Kd.S_drewN | apply Kd.S_drew)); exact HO256.out)⟩; have n3_ : Aside0 (Kd.S (Kd.slice 3 (Kd.int .i64)) 44 w46 w.heap.size (fun k_ => ((((True ∧ bzw46_ ≤ k_) ∧ some k_ ≠ (.slice Ao38 t246.length co38 : Value).ownBlock) ∧ some k_ ≠ (.slice Ao48 t249.length co48 : Value).ownBlock) ∧ some k_ ≠ (.slice Ao45 t254.length co45 : Value).ownBlock)) (.slice Ao47 t258.length co47) t258) := ⟨by rw [← hq_]; exact (by (with_reducible repeat (first | apply Kd.S_alloc | apply Kd.S_drewN | apply Kd.S_drew)); exact HO260.out)⟩; have n4_ : Aside0 (w46.heap[gb243]? = some (.cells #[.int .i64 a0_0, .slice A0_1 l0_1.length c0_1] 37 (0, 0))) := ⟨by rw [← hq_]; exact (by (with_reducible repeat (first | refine blk_drewN ?_ _ | refine blk_drew ?_ | refine blk_alloc ?_ _)); exact BK243.out)⟩; have n5_ : Aside0 (w46.heap[gb257]? = some (.cells #[.int .i64 t253, .slice Ao45 t254.length co45] 40 (0, 0))) := ⟨by rw [← hq_]; exact (by (with_reducible repeat (first | refine blk_drewN ?_ _ | refine blk_drew ?_ | refine blk_alloc ?_ _)); exact BK257.out)⟩; have n6_ : Aside0 (Below w.heap.size w w46) := ⟨by rw [← hq_]; exact (by repeat (first | (with_reducible first | exact HB.out | apply below_alloc | apply pw_below_drewN | apply below_drew1 | refine below_set ?_ GE243.out | refine below_set ?_ GE257.out) | exact HB.out))⟩; clear HO248 HO251 HO256 HO260 BK243 BK257 HB hq_; have HO248 := n0_; have HO251 := n1_; have HO256 := n2_; have HO260 := n3_; have BK243 := n4_; have BK257 := n5_; have HB := n6_; clear n0_ n1_ n2_ n3_ n4_ n5_ n6_))
                          have n0_ := Aside0.mk (Kd.S_drew HO248.out)
                          have n1_ := Aside0.mk (Kd.S_drew HO251.out)
                          have n2_ := Aside0.mk (Kd.S_drew HO256.out)
                          have n3_ := Aside0.mk (Kd.S_drew HO260.out)
                          have n4_ := Aside0.mk (blk_drew BK243.out)
                          have n5_ := Aside0.mk (blk_drew BK257.out)
                          have n6_ := Aside0.mk (below_drew1 HB.out)
                          clear HO248
                          clear HO251
                          clear HO256
                          clear HO260
                          clear BK243
                          clear BK257
                          clear HB
                          have HO248 := n0_
                          have HO251 := n1_
                          have HO256 := n2_
                          have HO260 := n3_
                          have BK243 := n4_
                          have BK257 := n5_
                          have HB := n6_
                          clear n0_ n1_ n2_ n3_ n4_ n5_ n6_
                          refine start_ (n := 5) (S := fun w' => w'.cell? ⟨gb257, 0, none⟩ = some (.int .i64 t253) ∧ w'.cell? ⟨gb257, 1, none⟩ = some (.slice Ao45 t254.length co45) ∧ w'.cell? ⟨gb243, 0, none⟩ = some (.int .i64 a0_0) ∧ w'.cell? ⟨gb243, 1, none⟩ = some (.slice A0_1 l0_1.length c0_1)) (ds := []) #[false, false, false, false, false] (by kernel_rfl) rfl rfl ⟨(blk_cell BK257.out 0).trans rfl, (blk_cell BK257.out 1).trans rfl, (blk_cell BK243.out 0).trans rfl, (blk_cell BK243.out 1).trans rfl⟩ (fun hHeld => ?_)
                          generalize w46.drew = w49 at HO248 HO251 HO256 HO260 BK243 BK257 HB hHeld ⊢
                          refine take_ (i := 0) (N := some 41) (v := ?_) (a' := ?_) #[true, false, false, false, false] rfl rfl (by kernel_rfl) (fun _ _ _ h => h) (Or.inl ⟨by rfl, ?_⟩) hHeld ?_ ?_
                          rotate_left
                          · rintro w' ⟨s0, s1, s2, s3⟩
                            go_simp
                            with_reducible rfl
                          rotate_left
                          · simp only [Act.put, List.setIfInBounds_toArray, List.set_cons_zero, List.set_cons_succ, i64_w, i32_w]
                            rfl
                          refine take_ (i := 1) (N := some 42) (v := ?_) (a' := ?_) #[true, true, false, false, false] rfl rfl (by kernel_rfl) (fun _ _ _ h => h) (Or.inl ⟨by rfl, ?_⟩) hHeld ?_ ?_
                          rotate_left
                          · rintro w' ⟨s0, s1, s2, s3⟩
                            go_simp
                            with_reducible rfl
                          rotate_left
                          · simp only [Act.put, List.setIfInBounds_toArray, List.set_cons_zero, List.set_cons_succ, i64_w, i32_w]
                            rfl
                          refine one_ (i := 2) (N := some 43) #[true, true, true, false, false] rfl rfl (by kernel_rfl) (by decide) (fun K hK => ?_)
                          refine goes_ Try.func25 (by kernel_rfl) rfl #[.agg #[.int .i64 a0_0, .slice A0_1 l0_1.length c0_1]] (by rfl) rfl rfl (by (try simp only [List.map_toArray, List.map_cons, List.map_nil]); first | done | rfl | (simp only [List.length_drop, List.length_take]; rfl)) ?_
                          with_reducible refine (laws_toStates.calls k a0_0 _ _ l0_1 t263 t264 _ ?side1 ?side2 A14.out).mono ?_
                          (case side1 => repeat (first | exact (Kd.C_below HR0_1.out HB.out) | (with_reducible refine Kd.C_alloc ?_ _) | (with_reducible refine Kd.C_drewN ?_ _) | (with_reducible refine Kd.C_drew ?_)))
                          (case side2 => exact HC0_1.out)
                          rintro e w50 ⟨v265, rfl, ho0, hb⟩
                          refine ⟨_, rfl, ?_⟩
                          obtain ⟨bzw50_, hzow50_, hznw50_, hzbw50_⟩ := born_pair hb
                          have n0_ := Aside0.mk (Kd.S_mono (ok' := fun k_ => (((((((((True ∧ bzw37_ ≤ k_) ∧ some k_ ≠ (.slice Ao48 t249.length co48 : Value).ownBlock) ∧ k_ < bzw39_) ∧ some k_ ≠ (.slice Ao45 t254.length co45 : Value).ownBlock) ∧ k_ < bzw41_) ∧ some k_ ≠ (.slice Ao47 t258.length co47 : Value).ownBlock) ∧ k_ < bzw46_) ∧ some k_ ≠ (v265 : Value).ownBlock) ∧ k_ < bzw50_)) (hzow50_ (by (with_reducible repeat (first | apply Kd.S_alloc | apply Kd.S_drewN | apply Kd.S_drew)); exact HO248.out)) (fun k_ hk_ => ⟨⟨hk_.1, fun e_ => Nat.not_le.2 hk_.2 (hzbw50_ _ (Kd.S_base ho0 k_ e_.symm))⟩, hk_.2⟩))
                          have n1_ := Aside0.mk (Kd.S_mono (ok' := fun k_ => ((((((((True ∧ bzw39_ ≤ k_) ∧ some k_ ≠ (.slice Ao38 t246.length co38 : Value).ownBlock) ∧ some k_ ≠ (.slice Ao45 t254.length co45 : Value).ownBlock) ∧ k_ < bzw41_) ∧ some k_ ≠ (.slice Ao47 t258.length co47 : Value).ownBlock) ∧ k_ < bzw46_) ∧ some k_ ≠ (v265 : Value).ownBlock) ∧ k_ < bzw50_)) (hzow50_ (by (with_reducible repeat (first | apply Kd.S_alloc | apply Kd.S_drewN | apply Kd.S_drew)); exact HO251.out)) (fun k_ hk_ => ⟨⟨hk_.1, fun e_ => Nat.not_le.2 hk_.2 (hzbw50_ _ (Kd.S_base ho0 k_ e_.symm))⟩, hk_.2⟩))
                          have n2_ := Aside0.mk (Kd.S_mono (ok' := fun k_ => (((((((True ∧ bzw41_ ≤ k_) ∧ some k_ ≠ (.slice Ao38 t246.length co38 : Value).ownBlock) ∧ some k_ ≠ (.slice Ao48 t249.length co48 : Value).ownBlock) ∧ some k_ ≠ (.slice Ao47 t258.length co47 : Value).ownBlock) ∧ k_ < bzw46_) ∧ some k_ ≠ (v265 : Value).ownBlock) ∧ k_ < bzw50_)) (hzow50_ (by (with_reducible repeat (first | apply Kd.S_alloc | apply Kd.S_drewN | apply Kd.S_drew)); exact HO256.out)) (fun k_ hk_ => ⟨⟨hk_.1, fun e_ => Nat.not_le.2 hk_.2 (hzbw50_ _ (Kd.S_base ho0 k_ e_.symm))⟩, hk_.2⟩))
                          have n3_ := Aside0.mk (Kd.S_mono (ok' := fun k_ => ((((((True ∧ bzw46_ ≤ k_) ∧ some k_ ≠ (.slice Ao38 t246.length co38 : Value).ownBlock) ∧ some k_ ≠ (.slice Ao48 t249.length co48 : Value).ownBlock) ∧ some k_ ≠ (.slice Ao45 t254.length co45 : Value).ownBlock) ∧ some k_ ≠ (v265 : Value).ownBlock) ∧ k_ < bzw50_)) (hzow50_ (by (with_reducible repeat (first | apply Kd.S_alloc | apply Kd.S_drewN | apply Kd.S_drew)); exact HO260.out)) (fun k_ hk_ => ⟨⟨hk_.1, fun e_ => Nat.not_le.2 hk_.2 (hzbw50_ _ (Kd.S_base ho0 k_ e_.symm))⟩, hk_.2⟩))
                          have n4_ := Aside0.mk (Kd.S_lower (Kd.S_new' (Kd.S_new' (Kd.S_new' (Kd.S_new' (hznw50_ ho0) (Kd.S_lt (by (with_reducible repeat (first | apply Kd.S_alloc | apply Kd.S_drewN | apply Kd.S_drew)); exact HO248.out))) (Kd.S_lt (by (with_reducible repeat (first | apply Kd.S_alloc | apply Kd.S_drewN | apply Kd.S_drew)); exact HO251.out))) (Kd.S_lt (by (with_reducible repeat (first | apply Kd.S_alloc | apply Kd.S_drewN | apply Kd.S_drew)); exact HO256.out))) (Kd.S_lt (by (with_reducible repeat (first | apply Kd.S_alloc | apply Kd.S_drewN | apply Kd.S_drew)); exact HO260.out))) (below_size (by repeat (first | (with_reducible first | exact HB.out | apply below_alloc | apply pw_below_drewN | apply below_drew1 | refine below_set ?_ GE243.out | refine below_set ?_ GE257.out) | exact HB.out))))
                          have n5_ := Aside0.mk (blk_below (g := gb243) (o := .cells #[.int .i64 a0_0, .slice A0_1 l0_1.length c0_1] 37 (0, 0)) (by (with_reducible repeat (first | refine blk_drewN ?_ _ | refine blk_drew ?_ | refine blk_alloc ?_ _)); exact BK243.out) hb)
                          have n6_ := Aside0.mk (blk_below (g := gb257) (o := .cells #[.int .i64 t253, .slice Ao45 t254.length co45] 40 (0, 0)) (by (with_reducible repeat (first | refine blk_drewN ?_ _ | refine blk_drew ?_ | refine blk_alloc ?_ _)); exact BK257.out) hb)
                          have n7_ := Aside0.mk (below_step (by repeat (first | (with_reducible first | exact HB.out | apply below_alloc | apply pw_below_drewN | apply below_drew1 | refine below_set ?_ GE243.out | refine below_set ?_ GE257.out) | exact HB.out)) hb)
                          clear HO248
                          clear HO251
                          clear HO256
                          clear HO260
                          clear BK243
                          clear BK257
                          clear HB
                          have HO248 := n0_
                          have HO251 := n1_
                          have HO256 := n2_
                          have HO260 := n3_
                          have HO266 := n4_
                          have BK243 := n5_
                          have BK257 := n6_
                          have HB := n7_
                          clear n0_ n1_ n2_ n3_ n4_ n5_ n6_ n7_
                          (try clear hb)
                          (try clear hb2)
                          (try clear hk)
                          (try clear hi)
                          (try clear ho0)
                          obtain ⟨Ao51, co51, eo51⟩ := Kd.S_slice HO266.out
                          (first | subst eo51 | (injection eo51 with f1_ f2_ f3_; have f4_ := f1_.symm; have f5_ := f3_.symm; clear f1_ f2_ f3_; subst f4_; subst f5_))
                          refine hK.out _ _ ⟨(blk_cell BK257.out 0).trans rfl, (blk_cell BK257.out 1).trans rfl, (blk_cell BK243.out 0).trans rfl, (blk_cell BK243.out 1).trans rfl⟩ (fun hHeld => ?_)
                          clear hK K
                          refine norm_ (a' := ?_) ?_ ?_
                          rotate_left
                          · show Act.put _ (some 43) _ = _
                            simp only [Act.put, List.setIfInBounds_toArray, List.set_cons_zero, List.set_cons_succ, i64_w, i32_w]
                            rfl
                          refine one_ (i := 3) (N := some 44) #[true, true, true, true, false] rfl rfl (by kernel_rfl) (by decide) (fun K hK => ?_)
                          refine goes_ Try.func27 (by kernel_rfl) rfl #[.agg #[.int .i64 t253, .slice Ao45 t254.length co45], .agg #[.int .i64 t263, .slice Ao51 t264.length co51]] (by rfl) rfl rfl (by (try simp only [List.map_toArray, List.map_cons, List.map_nil]); first | done | rfl | (simp only [List.length_drop, List.length_take]; rfl)) ?_
                          with_reducible refine (laws_eqStates.calls k t253 _ _ t254 t263 _ _ t264 true _ ?side1 ?side2 ?side3 ?side4 A15.out).mono ?_
                          (case side1 => repeat (first | exact (Kd.S_reads' HO256.out).2.2 | (with_reducible refine Kd.C_alloc ?_ _) | (with_reducible refine Kd.C_drewN ?_ _) | (with_reducible refine Kd.C_drew ?_)))
                          (case side2 => exact (Kd.S_reads' HO256.out).2.1)
                          (case side3 => repeat (first | exact (Kd.S_reads' HO266.out).2.2 | (with_reducible refine Kd.C_alloc ?_ _) | (with_reducible refine Kd.C_drewN ?_ _) | (with_reducible refine Kd.C_drew ?_)))
                          (case side4 => exact (Kd.S_reads' HO266.out).2.1)
                          rintro e w52 ⟨rfl, hb⟩
                          refine ⟨_, rfl, ?_⟩
                          have n0_ := Aside0.mk (Kd.S_below (by (with_reducible repeat (first | apply Kd.S_alloc | apply Kd.S_drewN | apply Kd.S_drew)); exact HO248.out) hb)
                          have n1_ := Aside0.mk (Kd.S_below (by (with_reducible repeat (first | apply Kd.S_alloc | apply Kd.S_drewN | apply Kd.S_drew)); exact HO251.out) hb)
                          have n2_ := Aside0.mk (Kd.S_below (by (with_reducible repeat (first | apply Kd.S_alloc | apply Kd.S_drewN | apply Kd.S_drew)); exact HO256.out) hb)
                          have n3_ := Aside0.mk (Kd.S_below (by (with_reducible repeat (first | apply Kd.S_alloc | apply Kd.S_drewN | apply Kd.S_drew)); exact HO260.out) hb)
                          have n4_ := Aside0.mk (Kd.S_below (by (with_reducible repeat (first | apply Kd.S_alloc | apply Kd.S_drewN | apply Kd.S_drew)); exact HO266.out) hb)
                          have n5_ := Aside0.mk (blk_below (g := gb243) (o := .cells #[.int .i64 a0_0, .slice A0_1 l0_1.length c0_1] 37 (0, 0)) (by (with_reducible repeat (first | refine blk_drewN ?_ _ | refine blk_drew ?_ | refine blk_alloc ?_ _)); exact BK243.out) hb)
                          have n6_ := Aside0.mk (blk_below (g := gb257) (o := .cells #[.int .i64 t253, .slice Ao45 t254.length co45] 40 (0, 0)) (by (with_reducible repeat (first | refine blk_drewN ?_ _ | refine blk_drew ?_ | refine blk_alloc ?_ _)); exact BK257.out) hb)
                          have n7_ := Aside0.mk (below_step (by repeat (first | (with_reducible first | exact HB.out | apply below_alloc | apply pw_below_drewN | apply below_drew1 | refine below_set ?_ GE243.out | refine below_set ?_ GE257.out) | exact HB.out)) hb)
                          clear HO248
                          clear HO251
                          clear HO256
                          clear HO260
                          clear HO266
                          clear BK243
                          clear BK257
                          clear HB
                          have HO248 := n0_
                          have HO251 := n1_
                          have HO256 := n2_
                          have HO260 := n3_
                          have HO266 := n4_
                          have BK243 := n5_
                          have BK257 := n6_
                          have HB := n7_
                          clear n0_ n1_ n2_ n3_ n4_ n5_ n6_ n7_
                          (try clear hb)
                          (try clear hb2)
                          (try clear hk)
                          (try clear hi)
                          refine hK.out _ _ ⟨(blk_cell BK257.out 0).trans rfl, (blk_cell BK257.out 1).trans rfl, (blk_cell BK243.out 0).trans rfl, (blk_cell BK243.out 1).trans rfl⟩ (fun hHeld => ?_)
                          clear hK K
                          refine norm_ (a' := ?_) ?_ ?_
                          rotate_left
                          · show Act.put _ (some 44) _ = _
                            simp only [Act.put, List.setIfInBounds_toArray, List.set_cons_zero, List.set_cons_succ, i64_w, i32_w]
                            rfl
                          refine pure_ (i := 4) (N := some 45) (v := ?_) (a' := ?_) #[true, true, true, true, true] rfl rfl (by kernel_rfl) (fun _ _ _ h => h) (Or.inl ⟨by rfl, ?_⟩) ?_ ?_
                          rotate_left
                          · intro w'
                            go_simp
                            with_reducible rfl
                          rotate_left
                          · simp only [Act.put, List.setIfInBounds_toArray, List.set_cons_zero, List.set_cons_succ, i64_w, i32_w]
                            rfl
                          refine done_ (by kernel_rfl) ?_
                          have hcz53_0 : w52.cell? ⟨gb257, 0, none⟩ = some (.int .i64 t253) := (blk_cell BK257.out 0).trans rfl
                          have hcz53_1 : w52.cell? ⟨gb257, 1, none⟩ = some (.slice Ao45 t254.length co45) := (blk_cell BK257.out 1).trans rfl
                          have hfz53_0 := blk_frozen BK257.out 0
                          have hfz53_1 := blk_frozen BK257.out 1
                          try go_wp2_with (first | ((with_reducible refine gate_callee (f := 31) rfl ?_); refine goesL_ (some 48) rfl rfl Try.func31 (by kernel_rfl) rfl #[.agg #[.int .i64 t253, .slice Ao45 t254.length co45], .int .i64 1] rfl (by (try simp only [List.map_toArray, List.map_cons, List.map_nil]); first | done | rfl | (simp only [List.length_drop, List.length_take]; rfl)) ?_; (with_reducible refine (laws_markStates.calls k t253 (fun k_ => (((((((((True ∧ bzw41_ ≤ k_) ∧ some k_ ≠ (.slice Ao38 t246.length co38 : Value).ownBlock) ∧ some k_ ≠ (.slice Ao48 t249.length co48 : Value).ownBlock) ∧ some k_ ≠ (.slice Ao47 t258.length co47 : Value).ownBlock) ∧ k_ < bzw46_) ∧ some k_ ≠ (.slice Ao51 t264.length co51 : Value).ownBlock) ∧ k_ < bzw50_) ∧ k_ ≠ gb243) ∧ k_ ≠ gb257)) (.slice Ao45 t254.length co45) t254 1 t268 t269 w _ ?side1 ?side2 A17.out).mono ?_); (case side1 => repeat (first | (with_reducible first | exact HB.out | apply below_alloc | apply pw_below_drewN | apply below_drew1 | refine below_set ?_ GE243.out | refine below_set ?_ GE257.out) | exact HB.out)); (case side2 => exact Kd.S_types (Kd.S_types (HO256.out) BK243.out (by decide)) BK257.out (by decide)); rintro e w54 ⟨rfl, hy0, hb, hkp⟩; refine ⟨_, rfl, ?_⟩; have n0_ := Aside0.mk (blk_kept (by (with_reducible repeat (first | refine blk_drewN ?_ _ | refine blk_drew ?_ | refine blk_alloc ?_ _)); exact BK243.out) hkp (fun hs_ => (fun e_ => (e_.1.2) rfl) hs_)); have n1_ := Aside0.mk (Kd.S_mono (ok' := fun k_ => some k_ ≠ (.slice Ao48 t249.length co48 : Value).ownBlock ∧ some k_ ≠ (.slice Ao45 t254.length co45 : Value).ownBlock ∧ some k_ ≠ (.slice Ao47 t258.length co47 : Value).ownBlock ∧ some k_ ≠ (.slice Ao51 t264.length co51 : Value).ownBlock ∧ bzw37_ ≤ k_ ∧ k_ < bzw39_ ∧ k_ < bzw41_ ∧ k_ < bzw46_ ∧ k_ < bzw50_) (Kd.S_keptB ((Kd.S_mono (ok' := fun k_ => (((((((((True ∧ bzw37_ ≤ k_) ∧ some k_ ≠ (.slice Ao48 t249.length co48 : Value).ownBlock) ∧ k_ < bzw39_) ∧ some k_ ≠ (.slice Ao45 t254.length co45 : Value).ownBlock) ∧ k_ < bzw41_) ∧ some k_ ≠ (.slice Ao47 t258.length co47 : Value).ownBlock) ∧ k_ < bzw46_) ∧ some k_ ≠ (.slice Ao51 t264.length co51 : Value).ownBlock) ∧ k_ < bzw50_) ∧ ¬ ((((((((((True ∧ bzw41_ ≤ k_) ∧ some k_ ≠ (.slice Ao38 t246.length co38 : Value).ownBlock) ∧ some k_ ≠ (.slice Ao48 t249.length co48 : Value).ownBlock) ∧ some k_ ≠ (.slice Ao47 t258.length co47 : Value).ownBlock) ∧ k_ < bzw46_) ∧ some k_ ≠ (.slice Ao51 t264.length co51 : Value).ownBlock) ∧ k_ < bzw50_) ∧ k_ ≠ gb243) ∧ k_ ≠ gb257))) HO248.out (fun k_ hk_ => (⟨hk_, fun e_ => Nat.not_lt.2 (e_.1.1.1.1.1.1.1.1.2) (hk_.1.1.1.1.2)⟩ : _ ∧ _)))) hkp (fun k_ hk_ hs_ => (hk_.2) hs_)) (fun k_ hk_ => ⟨hk_.1.1.1.1.1.1.1.1.1.2, hk_.1.1.1.1.1.1.1.2, hk_.1.1.1.1.1.2, hk_.1.1.1.2, hk_.1.1.1.1.1.1.1.1.1.1.2, hk_.1.1.1.1.1.1.1.1.2, hk_.1.1.1.1.1.1.2, hk_.1.1.1.1.2, hk_.1.1.2⟩)); have n2_ := Aside0.mk (Kd.S_mono (ok' := fun k_ => some k_ ≠ (.slice Ao38 t246.length co38 : Value).ownBlock ∧ some k_ ≠ (.slice Ao45 t254.length co45 : Value).ownBlock ∧ some k_ ≠ (.slice Ao47 t258.length co47 : Value).ownBlock ∧ some k_ ≠ (.slice Ao51 t264.length co51 : Value).ownBlock ∧ bzw39_ ≤ k_ ∧ k_ < bzw41_ ∧ k_ < bzw46_ ∧ k_ < bzw50_) (Kd.S_keptB ((Kd.S_mono (ok' := fun k_ => ((((((((True ∧ bzw39_ ≤ k_) ∧ some k_ ≠ (.slice Ao38 t246.length co38 : Value).ownBlock) ∧ some k_ ≠ (.slice Ao45 t254.length co45 : Value).ownBlock) ∧ k_ < bzw41_) ∧ some k_ ≠ (.slice Ao47 t258.length co47 : Value).ownBlock) ∧ k_ < bzw46_) ∧ some k_ ≠ (.slice Ao51 t264.length co51 : Value).ownBlock) ∧ k_ < bzw50_) ∧ ¬ ((((((((((True ∧ bzw41_ ≤ k_) ∧ some k_ ≠ (.slice Ao38 t246.length co38 : Value).ownBlock) ∧ some k_ ≠ (.slice Ao48 t249.length co48 : Value).ownBlock) ∧ some k_ ≠ (.slice Ao47 t258.length co47 : Value).ownBlock) ∧ k_ < bzw46_) ∧ some k_ ≠ (.slice Ao51 t264.length co51 : Value).ownBlock) ∧ k_ < bzw50_) ∧ k_ ≠ gb243) ∧ k_ ≠ gb257))) HO251.out (fun k_ hk_ => (⟨hk_, fun e_ => Nat.not_lt.2 (e_.1.1.1.1.1.1.1.1.2) (hk_.1.1.1.1.2)⟩ : _ ∧ _)))) hkp (fun k_ hk_ hs_ => (hk_.2) hs_)) (fun k_ hk_ => ⟨hk_.1.1.1.1.1.1.1.1.2, hk_.1.1.1.1.1.1.1.2, hk_.1.1.1.1.1.2, hk_.1.1.1.2, hk_.1.1.1.1.1.1.1.1.1.2, hk_.1.1.1.1.1.1.2, hk_.1.1.1.1.2, hk_.1.1.2⟩)); have n3_ := Aside0.mk (hy0); have n4_ := Aside0.mk (blk_kept (by (with_reducible repeat (first | refine blk_drewN ?_ _ | refine blk_drew ?_ | refine blk_alloc ?_ _)); exact BK257.out) hkp (fun hs_ => (fun e_ => (e_.2) rfl) hs_)); have n5_ := Aside0.mk (Kd.S_mono (ok' := fun k_ => some k_ ≠ (.slice Ao38 t246.length co38 : Value).ownBlock ∧ some k_ ≠ (.slice Ao48 t249.length co48 : Value).ownBlock ∧ some k_ ≠ (.slice Ao45 t254.length co45 : Value).ownBlock ∧ some k_ ≠ (.slice Ao51 t264.length co51 : Value).ownBlock ∧ bzw46_ ≤ k_ ∧ k_ < bzw50_) (Kd.S_keptB ((Kd.S_mono (ok' := fun k_ => ((((((True ∧ bzw46_ ≤ k_) ∧ some k_ ≠ (.slice Ao38 t246.length co38 : Value).ownBlock) ∧ some k_ ≠ (.slice Ao48 t249.length co48 : Value).ownBlock) ∧ some k_ ≠ (.slice Ao45 t254.length co45 : Value).ownBlock) ∧ some k_ ≠ (.slice Ao51 t264.length co51 : Value).ownBlock) ∧ k_ < bzw50_) ∧ ¬ ((((((((((True ∧ bzw41_ ≤ k_) ∧ some k_ ≠ (.slice Ao38 t246.length co38 : Value).ownBlock) ∧ some k_ ≠ (.slice Ao48 t249.length co48 : Value).ownBlock) ∧ some k_ ≠ (.slice Ao47 t258.length co47 : Value).ownBlock) ∧ k_ < bzw46_) ∧ some k_ ≠ (.slice Ao51 t264.length co51 : Value).ownBlock) ∧ k_ < bzw50_) ∧ k_ ≠ gb243) ∧ k_ ≠ gb257))) HO260.out (fun k_ hk_ => (⟨hk_, fun e_ => Nat.not_lt.2 (hk_.1.1.1.1.1.2) (e_.1.1.1.1.2)⟩ : _ ∧ _)))) hkp (fun k_ hk_ hs_ => (hk_.2) hs_)) (fun k_ hk_ => ⟨hk_.1.1.1.1.1.1.2, hk_.1.1.1.1.1.2, hk_.1.1.1.1.2, hk_.1.1.1.2, hk_.1.1.1.1.1.1.1.2, hk_.1.1.2⟩)); have n6_ := Aside0.mk (Kd.S_mono (ok' := fun k_ => some k_ ≠ (.slice Ao38 t246.length co38 : Value).ownBlock ∧ some k_ ≠ (.slice Ao48 t249.length co48 : Value).ownBlock ∧ some k_ ≠ (.slice Ao45 t254.length co45 : Value).ownBlock ∧ some k_ ≠ (.slice Ao47 t258.length co47 : Value).ownBlock ∧ bzw50_ ≤ k_) (Kd.S_keptB ((Kd.S_mono (ok' := fun k_ => (((((True ∧ bzw50_ ≤ k_) ∧ some k_ ≠ (.slice Ao38 t246.length co38 : Value).ownBlock) ∧ some k_ ≠ (.slice Ao48 t249.length co48 : Value).ownBlock) ∧ some k_ ≠ (.slice Ao45 t254.length co45 : Value).ownBlock) ∧ some k_ ≠ (.slice Ao47 t258.length co47 : Value).ownBlock) ∧ ¬ ((((((((((True ∧ bzw41_ ≤ k_) ∧ some k_ ≠ (.slice Ao38 t246.length co38 : Value).ownBlock) ∧ some k_ ≠ (.slice Ao48 t249.length co48 : Value).ownBlock) ∧ some k_ ≠ (.slice Ao47 t258.length co47 : Value).ownBlock) ∧ k_ < bzw46_) ∧ some k_ ≠ (.slice Ao51 t264.length co51 : Value).ownBlock) ∧ k_ < bzw50_) ∧ k_ ≠ gb243) ∧ k_ ≠ gb257))) HO266.out (fun k_ hk_ => (⟨hk_, fun e_ => Nat.not_lt.2 (hk_.1.1.1.1.2) (e_.1.1.2)⟩ : _ ∧ _)))) hkp (fun k_ hk_ hs_ => (hk_.2) hs_)) (fun k_ hk_ => ⟨hk_.1.1.1.1.1.2, hk_.1.1.1.1.2, hk_.1.1.1.2, hk_.1.1.2, hk_.1.1.1.1.1.1.2⟩)); have n7_ := Aside0.mk (hb); clear BK243; clear HO248; clear HO251; clear HO256; clear BK257; clear HO260; clear HO266; clear HB; have BK243 := n0_; have HO248 := n1_; have HO251 := n2_; have HO256 := n3_; have BK257 := n4_; have HO260 := n5_; have HO266 := n6_; have HB := n7_; clear n0_ n1_ n2_ n3_ n4_ n5_ n6_ n7_; (try clear hb); (try clear hkp); (try clear hy0)) | (go_at_call 50; (with_reducible refine (laws_eqIntSS.calls k _ _ t258 _ _ t249 true _ ?side1 ?side2 ?side3 ?side4 A19.out).mono ?_); (case side1 => repeat (first | exact (Kd.S_reads' HO260.out).2.2 | (with_reducible refine Kd.C_alloc ?_ _) | (with_reducible refine Kd.C_drewN ?_ _) | (with_reducible refine Kd.C_drew ?_))); (case side2 => exact (Kd.S_reads' HO260.out).2.1); (case side3 => repeat (first | exact (Kd.S_reads' HO251.out).2.2 | (with_reducible refine Kd.C_alloc ?_ _) | (with_reducible refine Kd.C_drewN ?_ _) | (with_reducible refine Kd.C_drew ?_))); (case side4 => exact (Kd.S_reads' HO251.out).2.1); rintro e w' ⟨rfl, ⟨nd, rfl⟩⟩) | ((with_reducible refine gate_callee (f := 51) rfl ?_); refine goesL_ (some 64) rfl rfl Try.func51 (by kernel_rfl) rfl #[.slice Ao47 t258.length co47, .int .i64 1] rfl (by (try simp only [List.map_toArray, List.map_cons, List.map_nil]); first | done | rfl | (simp only [List.length_drop, List.length_take]; rfl)) ?_; (with_reducible refine (laws_markIntSS.calls k (fun k_ => (((some k_ ≠ (.slice Ao38 t246.length co38 : Value).ownBlock ∧ (some k_ ≠ (.slice Ao48 t249.length co48 : Value).ownBlock ∧ (some k_ ≠ (.slice Ao45 t254.length co45 : Value).ownBlock ∧ (some k_ ≠ (.slice Ao51 t264.length co51 : Value).ownBlock ∧ (bzw46_ ≤ k_ ∧ k_ < bzw50_))))) ∧ k_ ≠ gb243) ∧ k_ ≠ gb257)) (.slice Ao47 t258.length co47) t258 1 t271 t272 w _ ?side1 ?side2 A21.out).mono ?_); (case side1 => repeat (first | (with_reducible first | exact HB.out | apply below_alloc | apply pw_below_drewN | apply below_drew1 | refine below_set ?_ GE243.out | refine below_set ?_ GE257.out) | exact HB.out)); (case side2 => exact Kd.S_types (Kd.S_types (HO260.out) BK243.out (by decide)) BK257.out (by decide)); rintro e w55 ⟨rfl, hy0, hb, hkp⟩; refine ⟨_, rfl, ?_⟩; have n0_ := Aside0.mk (blk_kept (by (with_reducible repeat (first | refine blk_drewN ?_ _ | refine blk_drew ?_ | refine blk_alloc ?_ _)); exact BK243.out) hkp (fun hs_ => (fun e_ => (e_.1.2) rfl) hs_)); have n1_ := Aside0.mk (Kd.S_mono (ok' := fun k_ => some k_ ≠ (.slice Ao48 t249.length co48 : Value).ownBlock ∧ some k_ ≠ (.slice Ao45 t254.length co45 : Value).ownBlock ∧ some k_ ≠ (.slice Ao47 t258.length co47 : Value).ownBlock ∧ some k_ ≠ (.slice Ao51 t264.length co51 : Value).ownBlock ∧ bzw37_ ≤ k_ ∧ k_ < bzw39_ ∧ k_ < bzw41_ ∧ k_ < bzw46_ ∧ k_ < bzw50_) (Kd.S_keptB ((Kd.S_mono (ok' := fun k_ => (some k_ ≠ (.slice Ao48 t249.length co48 : Value).ownBlock ∧ (some k_ ≠ (.slice Ao45 t254.length co45 : Value).ownBlock ∧ (some k_ ≠ (.slice Ao47 t258.length co47 : Value).ownBlock ∧ (some k_ ≠ (.slice Ao51 t264.length co51 : Value).ownBlock ∧ (bzw37_ ≤ k_ ∧ (k_ < bzw39_ ∧ (k_ < bzw41_ ∧ (k_ < bzw46_ ∧ k_ < bzw50_)))))))) ∧ ¬ ((((some k_ ≠ (.slice Ao38 t246.length co38 : Value).ownBlock ∧ (some k_ ≠ (.slice Ao48 t249.length co48 : Value).ownBlock ∧ (some k_ ≠ (.slice Ao45 t254.length co45 : Value).ownBlock ∧ (some k_ ≠ (.slice Ao51 t264.length co51 : Value).ownBlock ∧ (bzw46_ ≤ k_ ∧ k_ < bzw50_))))) ∧ k_ ≠ gb243) ∧ k_ ≠ gb257))) HO248.out (fun k_ hk_ => (⟨hk_, fun e_ => Nat.not_lt.2 (e_.1.1.2.2.2.2.1) (hk_.2.2.2.2.2.2.2.1)⟩ : _ ∧ _)))) hkp (fun k_ hk_ hs_ => (hk_.2) hs_)) (fun k_ hk_ => ⟨hk_.1.1.1, hk_.1.1.2.1, hk_.1.1.2.2.1, hk_.1.1.2.2.2.1, hk_.1.1.2.2.2.2.1, hk_.1.1.2.2.2.2.2.1, hk_.1.1.2.2.2.2.2.2.1, hk_.1.1.2.2.2.2.2.2.2.1, hk_.1.1.2.2.2.2.2.2.2.2⟩)); have n2_ := Aside0.mk (Kd.S_mono (ok' := fun k_ => some k_ ≠ (.slice Ao38 t246.length co38 : Value).ownBlock ∧ some k_ ≠ (.slice Ao45 t254.length co45 : Value).ownBlock ∧ some k_ ≠ (.slice Ao47 t258.length co47 : Value).ownBlock ∧ some k_ ≠ (.slice Ao51 t264.length co51 : Value).ownBlock ∧ bzw39_ ≤ k_ ∧ k_ < bzw41_ ∧ k_ < bzw46_ ∧ k_ < bzw50_) (Kd.S_keptB ((Kd.S_mono (ok' := fun k_ => (some k_ ≠ (.slice Ao38 t246.length co38 : Value).ownBlock ∧ (some k_ ≠ (.slice Ao45 t254.length co45 : Value).ownBlock ∧ (some k_ ≠ (.slice Ao47 t258.length co47 : Value).ownBlock ∧ (some k_ ≠ (.slice Ao51 t264.length co51 : Value).ownBlock ∧ (bzw39_ ≤ k_ ∧ (k_ < bzw41_ ∧ (k_ < bzw46_ ∧ k_ < bzw50_))))))) ∧ ¬ ((((some k_ ≠ (.slice Ao38 t246.length co38 : Value).ownBlock ∧ (some k_ ≠ (.slice Ao48 t249.length co48 : Value).ownBlock ∧ (some k_ ≠ (.slice Ao45 t254.length co45 : Value).ownBlock ∧ (some k_ ≠ (.slice Ao51 t264.length co51 : Value).ownBlock ∧ (bzw46_ ≤ k_ ∧ k_ < bzw50_))))) ∧ k_ ≠ gb243) ∧ k_ ≠ gb257))) HO251.out (fun k_ hk_ => (⟨hk_, fun e_ => Nat.not_lt.2 (e_.1.1.2.2.2.2.1) (hk_.2.2.2.2.2.2.1)⟩ : _ ∧ _)))) hkp (fun k_ hk_ hs_ => (hk_.2) hs_)) (fun k_ hk_ => ⟨hk_.1.1.1, hk_.1.1.2.1, hk_.1.1.2.2.1, hk_.1.1.2.2.2.1, hk_.1.1.2.2.2.2.1, hk_.1.1.2.2.2.2.2.1, hk_.1.1.2.2.2.2.2.2.1, hk_.1.1.2.2.2.2.2.2.2⟩)); have n3_ := Aside0.mk (Kd.S_mono (ok' := fun k_ => some k_ ≠ (.slice Ao38 t246.length co38 : Value).ownBlock ∧ some k_ ≠ (.slice Ao48 t249.length co48 : Value).ownBlock ∧ some k_ ≠ (.slice Ao47 t258.length co47 : Value).ownBlock ∧ some k_ ≠ (.slice Ao51 t264.length co51 : Value).ownBlock ∧ k_ ≠ gb243 ∧ k_ ≠ gb257 ∧ bzw41_ ≤ k_ ∧ k_ < bzw46_ ∧ k_ < bzw50_) (Kd.S_keptB ((Kd.S_mono (ok' := fun k_ => (((((((((True ∧ bzw41_ ≤ k_) ∧ some k_ ≠ (.slice Ao38 t246.length co38 : Value).ownBlock) ∧ some k_ ≠ (.slice Ao48 t249.length co48 : Value).ownBlock) ∧ some k_ ≠ (.slice Ao47 t258.length co47 : Value).ownBlock) ∧ k_ < bzw46_) ∧ some k_ ≠ (.slice Ao51 t264.length co51 : Value).ownBlock) ∧ k_ < bzw50_) ∧ k_ ≠ gb243) ∧ k_ ≠ gb257) ∧ ¬ ((((some k_ ≠ (.slice Ao38 t246.length co38 : Value).ownBlock ∧ (some k_ ≠ (.slice Ao48 t249.length co48 : Value).ownBlock ∧ (some k_ ≠ (.slice Ao45 t254.length co45 : Value).ownBlock ∧ (some k_ ≠ (.slice Ao51 t264.length co51 : Value).ownBlock ∧ (bzw46_ ≤ k_ ∧ k_ < bzw50_))))) ∧ k_ ≠ gb243) ∧ k_ ≠ gb257))) HO256.out (fun k_ hk_ => (⟨hk_, fun e_ => Nat.not_lt.2 (e_.1.1.2.2.2.2.1) (hk_.1.1.1.1.2)⟩ : _ ∧ _)))) hkp (fun k_ hk_ hs_ => (hk_.2) hs_)) (fun k_ hk_ => ⟨hk_.1.1.1.1.1.1.1.1.1.2, hk_.1.1.1.1.1.1.1.1.2, hk_.1.1.1.1.1.1.1.2, hk_.1.1.1.1.1.2, hk_.1.1.1.2, hk_.1.1.2, hk_.1.1.1.1.1.1.1.1.1.1.2, hk_.1.1.1.1.1.1.2, hk_.1.1.1.1.2⟩)); have n4_ := Aside0.mk (blk_kept (by (with_reducible repeat (first | refine blk_drewN ?_ _ | refine blk_drew ?_ | refine blk_alloc ?_ _)); exact BK257.out) hkp (fun hs_ => (fun e_ => (e_.2) rfl) hs_)); have n5_ := Aside0.mk (hy0); have n6_ := Aside0.mk (Kd.S_mono (ok' := fun k_ => some k_ ≠ (.slice Ao38 t246.length co38 : Value).ownBlock ∧ some k_ ≠ (.slice Ao48 t249.length co48 : Value).ownBlock ∧ some k_ ≠ (.slice Ao45 t254.length co45 : Value).ownBlock ∧ some k_ ≠ (.slice Ao47 t258.length co47 : Value).ownBlock ∧ bzw50_ ≤ k_) (Kd.S_keptB ((Kd.S_mono (ok' := fun k_ => (some k_ ≠ (.slice Ao38 t246.length co38 : Value).ownBlock ∧ (some k_ ≠ (.slice Ao48 t249.length co48 : Value).ownBlock ∧ (some k_ ≠ (.slice Ao45 t254.length co45 : Value).ownBlock ∧ (some k_ ≠ (.slice Ao47 t258.length co47 : Value).ownBlock ∧ bzw50_ ≤ k_)))) ∧ ¬ ((((some k_ ≠ (.slice Ao38 t246.length co38 : Value).ownBlock ∧ (some k_ ≠ (.slice Ao48 t249.length co48 : Value).ownBlock ∧ (some k_ ≠ (.slice Ao45 t254.length co45 : Value).ownBlock ∧ (some k_ ≠ (.slice Ao51 t264.length co51 : Value).ownBlock ∧ (bzw46_ ≤ k_ ∧ k_ < bzw50_))))) ∧ k_ ≠ gb243) ∧ k_ ≠ gb257))) HO266.out (fun k_ hk_ => (⟨hk_, fun e_ => Nat.not_lt.2 (hk_.2.2.2.2) (e_.1.1.2.2.2.2.2)⟩ : _ ∧ _)))) hkp (fun k_ hk_ hs_ => (hk_.2) hs_)) (fun k_ hk_ => ⟨hk_.1.1.1, hk_.1.1.2.1, hk_.1.1.2.2.1, hk_.1.1.2.2.2.1, hk_.1.1.2.2.2.2⟩)); have n7_ := Aside0.mk (hb); clear BK243; clear HO248; clear HO251; clear HO256; clear BK257; clear HO260; clear HO266; clear HB; have BK243 := n0_; have HO248 := n1_; have HO251 := n2_; have HO256 := n3_; have BK257 := n4_; have HO260 := n5_; have HO266 := n6_; have HB := n7_; clear n0_ n1_ n2_ n3_ n4_ n5_ n6_ n7_; (try clear hb); (try clear hkp); (try clear hy0)) | ((with_reducible refine gate_callee (f := 52) rfl ?_); refine goesL_ (some 67) rfl rfl Try.func52 (by kernel_rfl) rfl #[.slice Ao47 t272.length co47, .int .i64 1] rfl (by (try simp only [List.map_toArray, List.map_cons, List.map_nil]); first | done | (rw [show t272.length = t258.length from (Kd.S_reads' HO260.out).1.symm] <;> rfl) | rfl | (simp only [List.length_drop, List.length_take]; rfl)) ?_; (with_reducible refine (laws_heldIntSS.calls k _ _ t272 1 t273 _ ?side1 ?side2 A22.out).mono ?_); (case side1 => repeat (first | exact (Kd.S_reads' HO260.out).2.2 | (with_reducible refine Kd.C_alloc ?_ _) | (with_reducible refine Kd.C_drewN ?_ _) | (with_reducible refine Kd.C_drew ?_))); (case side2 => rw [show t272.length = t258.length from (Kd.S_reads' HO260.out).1.symm]; exact (Kd.S_reads' HO260.out).2.1); rintro e w' ⟨rfl, ⟨nd, rfl⟩⟩; refine ⟨_, rfl, ?_⟩; have hcz56_0 : w55.cell? ⟨gb243, 0, none⟩ = some (.int .i64 a0_0) := (blk_cell BK243.out 0).trans rfl; have hcz56_1 : w55.cell? ⟨gb243, 1, none⟩ = some (.slice A0_1 l0_1.length c0_1) := (blk_cell BK243.out 1).trans rfl; have hfz56_0 := blk_frozen BK243.out 0; have hfz56_1 := blk_frozen BK243.out 1) | ((with_reducible refine gate_callee (f := 25) rfl ?_); refine goesL_ (some 75) rfl rfl Try.func25 (by kernel_rfl) rfl #[.agg #[.int .i64 a0_0, .slice A0_1 l0_1.length c0_1]] rfl (by (try simp only [List.map_toArray, List.map_cons, List.map_nil]); first | done | rfl | (simp only [List.length_drop, List.length_take]; rfl)) ?_; (with_reducible refine (laws_toStates.calls k a0_0 _ _ l0_1 t274 t275 _ ?side1 ?side2 A25.out).mono ?_); (case side1 => repeat (first | exact (Kd.C_below HR0_1.out (by repeat (first | (with_reducible first | exact HB.out | apply below_alloc | apply pw_below_drewN | apply below_drew1 | refine below_set ?_ GE243.out | refine below_set ?_ GE257.out) | exact HB.out))) | (with_reducible refine Kd.C_alloc ?_ _) | (with_reducible refine Kd.C_drewN ?_ _) | (with_reducible refine Kd.C_drew ?_))); (case side2 => exact HC0_1.out); rintro e w57 ⟨v276, rfl, ho0, hb⟩; refine ⟨_, rfl, ?_⟩; obtain ⟨bzw57_, hzow57_, hznw57_, hzbw57_⟩ := born_pair hb; have n0_ := Aside0.mk (Kd.S_mono (ok' := fun k_ => (((some k_ ≠ (.slice Ao48 t249.length co48 : Value).ownBlock ∧ (some k_ ≠ (.slice Ao45 t254.length co45 : Value).ownBlock ∧ (some k_ ≠ (.slice Ao47 t258.length co47 : Value).ownBlock ∧ (some k_ ≠ (.slice Ao51 t264.length co51 : Value).ownBlock ∧ (bzw37_ ≤ k_ ∧ (k_ < bzw39_ ∧ (k_ < bzw41_ ∧ (k_ < bzw46_ ∧ k_ < bzw50_)))))))) ∧ some k_ ≠ (v276 : Value).ownBlock) ∧ k_ < bzw57_)) (hzow57_ (by (with_reducible repeat (first | apply Kd.S_alloc | apply Kd.S_drewN | apply Kd.S_drew)); exact HO248.out)) (fun k_ hk_ => ⟨⟨hk_.1, fun e_ => Nat.not_le.2 hk_.2 (hzbw57_ _ (Kd.S_base ho0 k_ e_.symm))⟩, hk_.2⟩)); have n1_ := Aside0.mk (Kd.S_mono (ok' := fun k_ => (((some k_ ≠ (.slice Ao38 t246.length co38 : Value).ownBlock ∧ (some k_ ≠ (.slice Ao45 t254.length co45 : Value).ownBlock ∧ (some k_ ≠ (.slice Ao47 t258.length co47 : Value).ownBlock ∧ (some k_ ≠ (.slice Ao51 t264.length co51 : Value).ownBlock ∧ (bzw39_ ≤ k_ ∧ (k_ < bzw41_ ∧ (k_ < bzw46_ ∧ k_ < bzw50_))))))) ∧ some k_ ≠ (v276 : Value).ownBlock) ∧ k_ < bzw57_)) (hzow57_ (by (with_reducible repeat (first | apply Kd.S_alloc | apply Kd.S_drewN | apply Kd.S_drew)); exact HO251.out)) (fun k_ hk_ => ⟨⟨hk_.1, fun e_ => Nat.not_le.2 hk_.2 (hzbw57_ _ (Kd.S_base ho0 k_ e_.symm))⟩, hk_.2⟩)); have n2_ := Aside0.mk (Kd.S_mono (ok' := fun k_ => (((some k_ ≠ (.slice Ao38 t246.length co38 : Value).ownBlock ∧ (some k_ ≠ (.slice Ao48 t249.length co48 : Value).ownBlock ∧ (some k_ ≠ (.slice Ao47 t258.length co47 : Value).ownBlock ∧ (some k_ ≠ (.slice Ao51 t264.length co51 : Value).ownBlock ∧ (k_ ≠ gb243 ∧ (k_ ≠ gb257 ∧ (bzw41_ ≤ k_ ∧ (k_ < bzw46_ ∧ k_ < bzw50_)))))))) ∧ some k_ ≠ (v276 : Value).ownBlock) ∧ k_ < bzw57_)) (hzow57_ (by (with_reducible repeat (first | apply Kd.S_alloc | apply Kd.S_drewN | apply Kd.S_drew)); exact HO256.out)) (fun k_ hk_ => ⟨⟨hk_.1, fun e_ => Nat.not_le.2 hk_.2 (hzbw57_ _ (Kd.S_base ho0 k_ e_.symm))⟩, hk_.2⟩)); have n3_ := Aside0.mk (Kd.S_mono (ok' := fun k_ => (((((some k_ ≠ (.slice Ao38 t246.length co38 : Value).ownBlock ∧ (some k_ ≠ (.slice Ao48 t249.length co48 : Value).ownBlock ∧ (some k_ ≠ (.slice Ao45 t254.length co45 : Value).ownBlock ∧ (some k_ ≠ (.slice Ao51 t264.length co51 : Value).ownBlock ∧ (bzw46_ ≤ k_ ∧ k_ < bzw50_))))) ∧ k_ ≠ gb243) ∧ k_ ≠ gb257) ∧ some k_ ≠ (v276 : Value).ownBlock) ∧ k_ < bzw57_)) (hzow57_ (by (with_reducible repeat (first | apply Kd.S_alloc | apply Kd.S_drewN | apply Kd.S_drew)); exact HO260.out)) (fun k_ hk_ => ⟨⟨hk_.1, fun e_ => Nat.not_le.2 hk_.2 (hzbw57_ _ (Kd.S_base ho0 k_ e_.symm))⟩, hk_.2⟩)); have n4_ := Aside0.mk (Kd.S_mono (ok' := fun k_ => (((some k_ ≠ (.slice Ao38 t246.length co38 : Value).ownBlock ∧ (some k_ ≠ (.slice Ao48 t249.length co48 : Value).ownBlock ∧ (some k_ ≠ (.slice Ao45 t254.length co45 : Value).ownBlock ∧ (some k_ ≠ (.slice Ao47 t258.length co47 : Value).ownBlock ∧ bzw50_ ≤ k_)))) ∧ some k_ ≠ (v276 : Value).ownBlock) ∧ k_ < bzw57_)) (hzow57_ (by (with_reducible repeat (first | apply Kd.S_alloc | apply Kd.S_drewN | apply Kd.S_drew)); exact HO266.out)) (fun k_ hk_ => ⟨⟨hk_.1, fun e_ => Nat.not_le.2 hk_.2 (hzbw57_ _ (Kd.S_base ho0 k_ e_.symm))⟩, hk_.2⟩)); have n5_ := Aside0.mk (Kd.S_lower (Kd.S_new' (Kd.S_new' (Kd.S_new' (Kd.S_new' (Kd.S_new' (hznw57_ ho0) (Kd.S_lt (by (with_reducible repeat (first | apply Kd.S_alloc | apply Kd.S_drewN | apply Kd.S_drew)); exact HO248.out))) (Kd.S_lt (by (with_reducible repeat (first | apply Kd.S_alloc | apply Kd.S_drewN | apply Kd.S_drew)); exact HO251.out))) (Kd.S_lt (by (with_reducible repeat (first | apply Kd.S_alloc | apply Kd.S_drewN | apply Kd.S_drew)); exact HO256.out))) (Kd.S_lt (by (with_reducible repeat (first | apply Kd.S_alloc | apply Kd.S_drewN | apply Kd.S_drew)); exact HO260.out))) (Kd.S_lt (by (with_reducible repeat (first | apply Kd.S_alloc | apply Kd.S_drewN | apply Kd.S_drew)); exact HO266.out))) (below_size (by repeat (first | (with_reducible first | exact HB.out | apply below_alloc | apply pw_below_drewN | apply below_drew1 | refine below_set ?_ GE243.out | refine below_set ?_ GE257.out) | exact HB.out)))); have n6_ := Aside0.mk (blk_below (g := gb243) (o := .cells #[.int .i64 a0_0, .slice A0_1 l0_1.length c0_1] 37 (0, 0)) (by (with_reducible repeat (first | refine blk_drewN ?_ _ | refine blk_drew ?_ | refine blk_alloc ?_ _)); exact BK243.out) hb); have n7_ := Aside0.mk (blk_below (g := gb257) (o := .cells #[.int .i64 t253, .slice Ao45 t254.length co45] 40 (0, 0)) (by (with_reducible repeat (first | refine blk_drewN ?_ _ | refine blk_drew ?_ | refine blk_alloc ?_ _)); exact BK257.out) hb); have n8_ := Aside0.mk (below_step (by repeat (first | (with_reducible first | exact HB.out | apply below_alloc | apply pw_below_drewN | apply below_drew1 | refine below_set ?_ GE243.out | refine below_set ?_ GE257.out) | exact HB.out)) hb); clear HO248; clear HO251; clear HO256; clear HO260; clear HO266; clear BK243; clear BK257; clear HB; have HO248 := n0_; have HO251 := n1_; have HO256 := n2_; have HO260 := n3_; have HO266 := n4_; have HO277 := n5_; have BK243 := n6_; have BK257 := n7_; have HB := n8_; clear n0_ n1_ n2_ n3_ n4_ n5_ n6_ n7_ n8_; (try clear hb); (try clear hb2); (try clear hk); (try clear hi); (try clear ho0); obtain ⟨Ao58, co58, eo58⟩ := Kd.S_slice HO277.out; subst eo58) | ((with_reducible refine gate_callee (f := 49) rfl ?_); refine goesL_ (some 76) rfl rfl Try.func49 (by kernel_rfl) rfl #[.agg #[.int .i64 t274, .slice Ao58 t275.length co58]] rfl (by (try simp only [List.map_toArray, List.map_cons, List.map_nil]); first | done | rfl | (simp only [List.length_drop, List.length_take]; rfl)) ?_; (with_reducible refine (impl_StateClasses.calls k t274 _ _ t275 t278 t281 _ ?side1 ?side2 A26.out).mono ?_); (case side1 => repeat (first | exact (Kd.S_reads' HO277.out).2.2 | (with_reducible refine Kd.C_alloc ?_ _) | (with_reducible refine Kd.C_drewN ?_ _) | (with_reducible refine Kd.C_drew ?_))); (case side2 => exact (Kd.S_reads' HO277.out).2.1); rintro e w59 ⟨v279, rfl, ho0, hb⟩; refine ⟨_, rfl, ?_⟩; obtain ⟨bzw59_, hzow59_, hznw59_, hzbw59_⟩ := born_pair hb; have n0_ := Aside0.mk (Kd.S_mono (ok' := fun k_ => (((((some k_ ≠ (.slice Ao48 t249.length co48 : Value).ownBlock ∧ (some k_ ≠ (.slice Ao45 t254.length co45 : Value).ownBlock ∧ (some k_ ≠ (.slice Ao47 t258.length co47 : Value).ownBlock ∧ (some k_ ≠ (.slice Ao51 t264.length co51 : Value).ownBlock ∧ (bzw37_ ≤ k_ ∧ (k_ < bzw39_ ∧ (k_ < bzw41_ ∧ (k_ < bzw46_ ∧ k_ < bzw50_)))))))) ∧ some k_ ≠ (.slice Ao58 t275.length co58 : Value).ownBlock) ∧ k_ < bzw57_) ∧ some k_ ≠ (v279 : Value).ownBlock) ∧ k_ < bzw59_)) (hzow59_ (by (with_reducible repeat (first | apply Kd.S_alloc | apply Kd.S_drewN | apply Kd.S_drew)); exact HO248.out)) (fun k_ hk_ => ⟨⟨hk_.1, fun e_ => Nat.not_le.2 hk_.2 (hzbw59_ _ (Kd.S_base ho0 k_ e_.symm))⟩, hk_.2⟩)); have n1_ := Aside0.mk (Kd.S_mono (ok' := fun k_ => (((((some k_ ≠ (.slice Ao38 t246.length co38 : Value).ownBlock ∧ (some k_ ≠ (.slice Ao45 t254.length co45 : Value).ownBlock ∧ (some k_ ≠ (.slice Ao47 t258.length co47 : Value).ownBlock ∧ (some k_ ≠ (.slice Ao51 t264.length co51 : Value).ownBlock ∧ (bzw39_ ≤ k_ ∧ (k_ < bzw41_ ∧ (k_ < bzw46_ ∧ k_ < bzw50_))))))) ∧ some k_ ≠ (.slice Ao58 t275.length co58 : Value).ownBlock) ∧ k_ < bzw57_) ∧ some k_ ≠ (v279 : Value).ownBlock) ∧ k_ < bzw59_)) (hzow59_ (by (with_reducible repeat (first | apply Kd.S_alloc | apply Kd.S_drewN | apply Kd.S_drew)); exact HO251.out)) (fun k_ hk_ => ⟨⟨hk_.1, fun e_ => Nat.not_le.2 hk_.2 (hzbw59_ _ (Kd.S_base ho0 k_ e_.symm))⟩, hk_.2⟩)); have n2_ := Aside0.mk (Kd.S_mono (ok' := fun k_ => (((((some k_ ≠ (.slice Ao38 t246.length co38 : Value).ownBlock ∧ (some k_ ≠ (.slice Ao48 t249.length co48 : Value).ownBlock ∧ (some k_ ≠ (.slice Ao47 t258.length co47 : Value).ownBlock ∧ (some k_ ≠ (.slice Ao51 t264.length co51 : Value).ownBlock ∧ (k_ ≠ gb243 ∧ (k_ ≠ gb257 ∧ (bzw41_ ≤ k_ ∧ (k_ < bzw46_ ∧ k_ < bzw50_)))))))) ∧ some k_ ≠ (.slice Ao58 t275.length co58 : Value).ownBlock) ∧ k_ < bzw57_) ∧ some k_ ≠ (v279 : Value).ownBlock) ∧ k_ < bzw59_)) (hzow59_ (by (with_reducible repeat (first | apply Kd.S_alloc | apply Kd.S_drewN | apply Kd.S_drew)); exact HO256.out)) (fun k_ hk_ => ⟨⟨hk_.1, fun e_ => Nat.not_le.2 hk_.2 (hzbw59_ _ (Kd.S_base ho0 k_ e_.symm))⟩, hk_.2⟩)); have n3_ := Aside0.mk (Kd.S_mono (ok' := fun k_ => (((((((some k_ ≠ (.slice Ao38 t246.length co38 : Value).ownBlock ∧ (some k_ ≠ (.slice Ao48 t249.length co48 : Value).ownBlock ∧ (some k_ ≠ (.slice Ao45 t254.length co45 : Value).ownBlock ∧ (some k_ ≠ (.slice Ao51 t264.length co51 : Value).ownBlock ∧ (bzw46_ ≤ k_ ∧ k_ < bzw50_))))) ∧ k_ ≠ gb243) ∧ k_ ≠ gb257) ∧ some k_ ≠ (.slice Ao58 t275.length co58 : Value).ownBlock) ∧ k_ < bzw57_) ∧ some k_ ≠ (v279 : Value).ownBlock) ∧ k_ < bzw59_)) (hzow59_ (by (with_reducible repeat (first | apply Kd.S_alloc | apply Kd.S_drewN | apply Kd.S_drew)); exact HO260.out)) (fun k_ hk_ => ⟨⟨hk_.1, fun e_ => Nat.not_le.2 hk_.2 (hzbw59_ _ (Kd.S_base ho0 k_ e_.symm))⟩, hk_.2⟩)); have n4_ := Aside0.mk (Kd.S_mono (ok' := fun k_ => (((((some k_ ≠ (.slice Ao38 t246.length co38 : Value).ownBlock ∧ (some k_ ≠ (.slice Ao48 t249.length co48 : Value).ownBlock ∧ (some k_ ≠ (.slice Ao45 t254.length co45 : Value).ownBlock ∧ (some k_ ≠ (.slice Ao47 t258.length co47 : Value).ownBlock ∧ bzw50_ ≤ k_)))) ∧ some k_ ≠ (.slice Ao58 t275.length co58 : Value).ownBlock) ∧ k_ < bzw57_) ∧ some k_ ≠ (v279 : Value).ownBlock) ∧ k_ < bzw59_)) (hzow59_ (by (with_reducible repeat (first | apply Kd.S_alloc | apply Kd.S_drewN | apply Kd.S_drew)); exact HO266.out)) (fun k_ hk_ => ⟨⟨hk_.1, fun e_ => Nat.not_le.2 hk_.2 (hzbw59_ _ (Kd.S_base ho0 k_ e_.symm))⟩, hk_.2⟩)); have n5_ := Aside0.mk (Kd.S_mono (ok' := fun k_ => ((((((((True ∧ bzw57_ ≤ k_) ∧ some k_ ≠ (.slice Ao38 t246.length co38 : Value).ownBlock) ∧ some k_ ≠ (.slice Ao48 t249.length co48 : Value).ownBlock) ∧ some k_ ≠ (.slice Ao45 t254.length co45 : Value).ownBlock) ∧ some k_ ≠ (.slice Ao47 t258.length co47 : Value).ownBlock) ∧ some k_ ≠ (.slice Ao51 t264.length co51 : Value).ownBlock) ∧ some k_ ≠ (v279 : Value).ownBlock) ∧ k_ < bzw59_)) (hzow59_ (by (with_reducible repeat (first | apply Kd.S_alloc | apply Kd.S_drewN | apply Kd.S_drew)); exact HO277.out)) (fun k_ hk_ => ⟨⟨hk_.1, fun e_ => Nat.not_le.2 hk_.2 (hzbw59_ _ (Kd.S_base ho0 k_ e_.symm))⟩, hk_.2⟩)); have n6_ := Aside0.mk (Kd.S_lower (Kd.S_new' (Kd.S_new' (Kd.S_new' (Kd.S_new' (Kd.S_new' (Kd.S_new' (hznw59_ ho0) (Kd.S_lt (by (with_reducible repeat (first | apply Kd.S_alloc | apply Kd.S_drewN | apply Kd.S_drew)); exact HO248.out))) (Kd.S_lt (by (with_reducible repeat (first | apply Kd.S_alloc | apply Kd.S_drewN | apply Kd.S_drew)); exact HO251.out))) (Kd.S_lt (by (with_reducible repeat (first | apply Kd.S_alloc | apply Kd.S_drewN | apply Kd.S_drew)); exact HO256.out))) (Kd.S_lt (by (with_reducible repeat (first | apply Kd.S_alloc | apply Kd.S_drewN | apply Kd.S_drew)); exact HO260.out))) (Kd.S_lt (by (with_reducible repeat (first | apply Kd.S_alloc | apply Kd.S_drewN | apply Kd.S_drew)); exact HO266.out))) (Kd.S_lt (by (with_reducible repeat (first | apply Kd.S_alloc | apply Kd.S_drewN | apply Kd.S_drew)); exact HO277.out))) (below_size (by repeat (first | (with_reducible first | exact HB.out | apply below_alloc | apply pw_below_drewN | apply below_drew1 | refine below_set ?_ GE243.out | refine below_set ?_ GE257.out) | exact HB.out)))); have n7_ := Aside0.mk (blk_below (g := gb243) (o := .cells #[.int .i64 a0_0, .slice A0_1 l0_1.length c0_1] 37 (0, 0)) (by (with_reducible repeat (first | refine blk_drewN ?_ _ | refine blk_drew ?_ | refine blk_alloc ?_ _)); exact BK243.out) hb); have n8_ := Aside0.mk (blk_below (g := gb257) (o := .cells #[.int .i64 t253, .slice Ao45 t254.length co45] 40 (0, 0)) (by (with_reducible repeat (first | refine blk_drewN ?_ _ | refine blk_drew ?_ | refine blk_alloc ?_ _)); exact BK257.out) hb); have n9_ := Aside0.mk (below_step (by repeat (first | (with_reducible first | exact HB.out | apply below_alloc | apply pw_below_drewN | apply below_drew1 | refine below_set ?_ GE243.out | refine below_set ?_ GE257.out) | exact HB.out)) hb); clear HO248; clear HO251; clear HO256; clear HO260; clear HO266; clear HO277; clear BK243; clear BK257; clear HB; have HO248 := n0_; have HO251 := n1_; have HO256 := n2_; have HO260 := n3_; have HO266 := n4_; have HO277 := n5_; have HO280 := n6_; have BK243 := n7_; have BK257 := n8_; have HB := n9_; clear n0_ n1_ n2_ n3_ n4_ n5_ n6_ n7_ n8_ n9_; (try clear hb); (try clear hb2); (try clear hk); (try clear hi); (try clear ho0); obtain ⟨Ao60, co60, eo60⟩ := Kd.S_slice HO280.out; subst eo60) | ((with_reducible refine gate_callee (f := 50) rfl ?_); refine goesL_ (some 81) rfl rfl Try.func50 (by kernel_rfl) rfl #[.slice Ao60 t278.length co60, .slice Ao48 t249.length co48] rfl (by (try simp only [List.map_toArray, List.map_cons, List.map_nil]); first | done | rfl | (simp only [List.length_drop, List.length_take]; rfl)) ?_; (with_reducible refine (laws_eqIntSS.calls k _ _ t278 _ _ t249 true _ ?side1 ?side2 ?side3 ?side4 A27.out).mono ?_); (case side1 => repeat (first | exact (Kd.S_reads' HO280.out).2.2 | (with_reducible refine Kd.C_alloc ?_ _) | (with_reducible refine Kd.C_drewN ?_ _) | (with_reducible refine Kd.C_drew ?_))); (case side2 => exact (Kd.S_reads' HO280.out).2.1); (case side3 => repeat (first | exact (Kd.S_reads' HO251.out).2.2 | (with_reducible refine Kd.C_alloc ?_ _) | (with_reducible refine Kd.C_drewN ?_ _) | (with_reducible refine Kd.C_drew ?_))); (case side4 => exact (Kd.S_reads' HO251.out).2.1); rintro e w' ⟨rfl, ⟨nd, rfl⟩⟩; refine ⟨_, rfl, ?_⟩) | ((with_reducible refine gate_callee (f := 52) rfl ?_); refine goesL_ (some 90) rfl rfl Try.func52 (by kernel_rfl) rfl #[.slice Ao47 t272.length co47, .int .i64 1] rfl (by (try simp only [List.map_toArray, List.map_cons, List.map_nil]); first | done | (rw [show t272.length = t258.length from (Kd.S_reads' HO260.out).1.symm] <;> rfl) | rfl | (simp only [List.length_drop, List.length_take]; rfl)) ?_; (with_reducible refine (laws_heldIntSS.calls k _ _ t272 1 t283 _ ?side1 ?side2 A30.out).mono ?_); (case side1 => repeat (first | exact (Kd.S_reads' HO260.out).2.2 | (with_reducible refine Kd.C_alloc ?_ _) | (with_reducible refine Kd.C_drewN ?_ _) | (with_reducible refine Kd.C_drew ?_))); (case side2 => rw [show t272.length = t258.length from (Kd.S_reads' HO260.out).1.symm]; exact (Kd.S_reads' HO260.out).2.1); rintro e w' ⟨rfl, ⟨nd, rfl⟩⟩; refine ⟨_, rfl, ?_⟩))
                          go_ret
                          exact ⟨by first | rfl | (simp [errW_none, errW_some] <;> rfl) | (simp [*, errW_none, errW_some] <;> rfl), by repeat (first | (with_reducible first | exact HB.out | apply below_alloc | apply pw_below_drewN | apply below_drew1 | refine below_set ?_ GE243.out | refine below_set ?_ GE257.out) | exact HB.out)⟩
                        · rw [if_neg c32] at H
                          have c32b0 : (t283 == t271) = false := beq_eq_false_iff_ne.mpr c32
                          have c32b1 : (t283 != t271) = true := bne_iff_ne.mpr c32
                          exact absurd H (by simp)
                  · replace c28 := Bool.eq_false_iff.mpr c28
                    subst c28
                    have H1 : (some false) = some true := by first | (rw [if_neg (show ¬ (false = true) by decide)] at H; exact H) | (simpa using H)
                    clear H
                    have H := H1
                    clear H1
                    exact absurd H (by simp)
                · rw [if_neg c24] at H
                  have c24b0 : (t273 == t271) = false := beq_eq_false_iff_ne.mpr c24
                  have c24b1 : (t273 != t271) = true := bne_iff_ne.mpr c24
                  exact absurd H (by simp)
            · replace c20 := Bool.eq_false_iff.mpr c20
              subst c20
              have H1 : (some false) = some true := by first | (rw [if_neg (show ¬ (false = true) by decide)] at H; exact H) | (simpa using H)
              clear H
              have H := H1
              clear H1
              exact absurd H (by simp)
        · replace c16 := Bool.eq_false_iff.mpr c16
          subst c16
          have H1 : (some false) = some true := by first | (rw [if_neg (show ¬ (false = true) by decide)] at H; exact H) | (simpa using H)
          clear H
          have H := H1
          clear H1
          exact absurd H (by simp)
    · replace c12 := Bool.eq_false_iff.mpr c12
      subst c12
      have H1 : (some false) = some true := by first | (rw [if_neg (show ¬ (false = true) by decide)] at H; exact H) | (simpa using H)
      clear H
      have H := H1
      clear H1
      exact absurd H (by simp)

end Go.Proofs.Ytliiljjeebnfeaa.PFnExactStateClasses
