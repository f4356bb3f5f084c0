-- written by a program of this session (the kit's print with turns of the session's own)
import Derived.Test.YtlpegpmcnimfbaaPFnExactChanceToEndx0
import Derived.Test.YtlpegpmcnimfbaaPFnExactChanceToEndx6
import Derived.Test.YtlpegpmcnimfbaaPFnExactChanceToEndx7
namespace Go.Proofs.Ytlpegpmcnimfbaa.PFnExactChanceToEnd
open Go.RowKit Go.Proofs.YtlpegpmcnimfbaaW.PrintWords Go.Proofs.YtlpegpmcnimfbaaW.PrintLast Go.Proofs.YtlpegpmcnimfbaaW.PrintMore
attribute [local go_sem] Instr.field asAgg part max2_int min2_int max_two min_two max_three min_three max_four min_four
set_option linter.unusedVariables false
set_option linter.unusedSimpArgs false
def impl_States_inner.bad (k : Nat) (o : Int) (rows : List (List Int)) (goal i : Int) : Option Bool := if i = goal then some true else (impl_States_reached.f k o rows i (-1)).bind fun t => if 0 ≤ goal then (if goal < (t.length : Int) then some (!(rdOf false t goal)) else none) else none
def impl_States_inner.keep (k : Nat) (o : Int) (rows : List (List Int)) (goal : Int) : List Int → Option (List Int)
 | [] => some []
 | x :: xs => (impl_States_inner.bad k o rows goal x).bind fun b => (impl_States_inner.keep k o rows goal xs).bind fun r => some (if b then r else x :: r)
def impl_States_inner.f (k : Nat) (a0_0 : Int) (l0_1 : List (List Int)) (a1 : Int) (a2 : Int) : Option (List Int) := (impl_States_reached.f k a0_0 l0_1 a1 a2).bind fun t => (impl_members.f k t).bind fun l => if 0 < l.length then (if l.length ≤ 1000000 then impl_States_inner.keep k a0_0 l0_1 a2 l else none) else none
set_option maxHeartbeats 8000000 in
set_option maxRecDepth 100000 in
theorem impl_States_inner.lit (k : Nat) (o : Int) (A : Option Addr) (c : Nat) (rows : List (List Int)) (goal i : Int) (b : Bool) (B3 B5 : Nat) (W : World) (hc : Kd.C (Kd.slice 3 (Kd.int .i64)) W A rows.length rows) (hl : rows.length ≤ c) (g5 : W.cell? ⟨B5, 0, none⟩ = some (.int .i64 goal)) (g30 : W.cell? ⟨B3, 0, none⟩ = some (.int .i64 o)) (g31 : W.cell? ⟨B3, 1, none⟩ = some (.slice A rows.length c)) (h : impl_States_inner.bad k o rows goal i = some b) :
 Calls Try.prog 82 #[.int .i64 i, .pointer (some ⟨B5, 0, none⟩), .pointer (some ⟨B3, 0, none⟩)] W fun e w' => e = .returned (.bool b) ∧ Below W.heap.size W w' := by
 have hu29 := Try.underlying29
 unfold impl_States_inner.bad at h
 have HC := Aside0.mk hc
 have HL := Aside0.mk hl
 clear hc hl
 by_cases c1 : i = goal
 · rw [if_pos c1] at h
   obtain rfl := Option.some.inj h
   have c1b : (i == goal) = true := beq_iff_eq.mpr c1
   clear h c1
   go_enter Try.func82, Try.ntmps82
   go_wp2
   refine start_ (n := 13) (S := fun w' => w'.cell? ⟨B5, 0, none⟩ = some (.int .i64 goal) ∧ w'.cell? ⟨B3, 0, none⟩ = some (.int .i64 o) ∧ w'.cell? ⟨B3, 1, none⟩ = some (.slice A rows.length c)) (ds := []) #[false, false, false, false, false, false, false, false, false, false, false, false, false] (by kernel_rfl) rfl rfl ⟨g5, g30, g31⟩ (fun hHeld => ?_)
   have HC1 := Aside0.mk (Kd.C_drew HC.out)
   have HB0 := Aside0.mk (below_drew (Below.refl W.heap.size W))
   generalize W.drew = w1 at HC1 HB0 hHeld ⊢
   refine pure_ (i := 0) (N := some 5) (v := ?_) (a' := ?_) #[true, false, false, false, false, false, false, false, false, false, false, false, false] rfl rfl (by kernel_rfl) (fun _ _ _ h => h) (Or.inl ⟨by rfl, ?_⟩) ?_ ?_
   rotate_left
   · intro w'
     go_simp
     with_reducible rfl
   rotate_left
   · simp only [Act.put, List.setIfInBounds_toArray, List.set_cons_zero, List.set_cons_succ, i64_w, i32_w]
     rfl
   refine take_ (i := 1) (N := some 6) (v := ?_) (a' := ?_) #[true, true, false, false, false, false, false, false, false, false, false, false, false] rfl rfl (by kernel_rfl) (fun _ _ _ h => h) (Or.inl ⟨by rfl, ?_⟩) hHeld ?_ ?_
   rotate_left
   · rintro w' ⟨s0, s1, s2⟩
     go_simp
     with_reducible rfl
   rotate_left
   · simp only [Act.put, List.setIfInBounds_toArray, List.set_cons_zero, List.set_cons_succ, i64_w, i32_w]
     rfl
   refine pure_ (i := 2) (N := some 7) (v := ?_) (a' := ?_) #[true, true, true, false, false, false, false, false, false, false, false, false, false] rfl rfl (by kernel_rfl) (fun _ _ _ h => h) (Or.inl ⟨by rfl, ?_⟩) ?_ ?_
   rotate_left
   · intro w'
     go_simp
     with_reducible rfl
   rotate_left
   · simp only [Act.put, List.setIfInBounds_toArray, List.set_cons_zero, List.set_cons_succ, i64_w, i32_w]
     rfl
   refine pure_ (i := 3) (N := some 8) (v := ?_) (a' := ?_) #[true, true, true, true, false, false, false, false, false, false, false, false, false] rfl rfl (by kernel_rfl) (fun _ _ _ h => h) (Or.inl ⟨by rfl, ?_⟩) ?_ ?_
   rotate_left
   · intro w'
     go_simp
     with_reducible rfl
   rotate_left
   · simp only [Act.put, List.setIfInBounds_toArray, List.set_cons_zero, List.set_cons_succ, i64_w, i32_w]
     rfl
   refine pure_ (i := 4) (N := some 9) (v := undef) (a' := ?_) #[true, true, true, true, true, false, false, false, false, false, false, false, false] rfl rfl (by kernel_rfl) (fun _ _ _ h => h) (Or.inr ⟨by rfl, rfl⟩) ?_ ?_
   rotate_left
   · simp only [Act.put, List.setIfInBounds_toArray, List.set_cons_zero, List.set_cons_succ, i64_w, i32_w]
     rfl
   refine pure_ (i := 5) (N := some 10) (v := undef) (a' := ?_) #[true, true, true, true, true, true, false, false, false, false, false, false, false] rfl rfl (by kernel_rfl) (fun _ _ _ h => h) (Or.inr ⟨by rfl, rfl⟩) ?_ ?_
   rotate_left
   · simp only [Act.put, List.setIfInBounds_toArray, List.set_cons_zero, List.set_cons_succ, i64_w, i32_w]
     rfl
   refine pure_ (i := 6) (N := some 11) (v := undef) (a' := ?_) #[true, true, true, true, true, true, true, false, false, false, false, false, false] rfl rfl (by kernel_rfl) (fun _ _ _ h => h) (Or.inr ⟨by rfl, rfl⟩) ?_ ?_
   rotate_left
   · simp only [Act.put, List.setIfInBounds_toArray, List.set_cons_zero, List.set_cons_succ, i64_w, i32_w]
     rfl
   refine pure_ (i := 7) (N := some 12) (v := undef) (a' := ?_) #[true, true, true, true, true, true, true, true, false, false, false, false, false] rfl rfl (by kernel_rfl) (fun _ _ _ h => h) (Or.inr ⟨by rfl, rfl⟩) ?_ ?_
   rotate_left
   · simp only [Act.put, List.setIfInBounds_toArray, List.set_cons_zero, List.set_cons_succ, i64_w, i32_w]
     rfl
   refine pure_ (i := 8) (N := some 13) (v := undef) (a' := ?_) #[true, true, true, true, true, true, true, true, true, false, false, false, false] rfl rfl (by kernel_rfl) (fun _ _ _ h => h) (Or.inr ⟨by rfl, rfl⟩) ?_ ?_
   rotate_left
   · simp only [Act.put, List.setIfInBounds_toArray, List.set_cons_zero, List.set_cons_succ, i64_w, i32_w]
     rfl
   refine pure_ (i := 9) (N := some 14) (v := undef) (a' := ?_) #[true, true, true, true, true, true, true, true, true, true, false, false, false] rfl rfl (by kernel_rfl) (fun _ _ _ h => h) (Or.inr ⟨by rfl, rfl⟩) ?_ ?_
   rotate_left
   · simp only [Act.put, List.setIfInBounds_toArray, List.set_cons_zero, List.set_cons_succ, i64_w, i32_w]
     rfl
   refine pure_ (i := 10) (N := some 15) (v := undef) (a' := ?_) #[true, true, true, true, true, true, true, true, true, true, true, false, false] rfl rfl (by kernel_rfl) (fun _ _ _ h => h) (Or.inr ⟨by rfl, rfl⟩) ?_ ?_
   rotate_left
   · simp only [Act.put, List.setIfInBounds_toArray, List.set_cons_zero, List.set_cons_succ, i64_w, i32_w]
     rfl
   refine pure_ (i := 11) (N := some 16) (v := ?_) (a' := ?_) #[true, true, true, true, true, true, true, true, true, true, true, true, false] rfl rfl (by kernel_rfl) (fun _ _ _ h => h) (Or.inl ⟨by rfl, ?_⟩) ?_ ?_
   rotate_left
   · intro w'
     go_simp
     with_reducible rfl
   rotate_left
   · simp only [Act.put, List.setIfInBounds_toArray, List.set_cons_zero, List.set_cons_succ, i64_w, i32_w]
     rfl
   refine pure_ (i := 12) (N := some 4) (v := ?_) (a' := ?_) #[true, true, true, true, true, true, true, true, true, true, true, true, true] rfl rfl (by kernel_rfl) (fun _ _ _ h => h) (Or.inl ⟨by rfl, ?_⟩) ?_ ?_
   rotate_left
   · intro w'
     go_simp
     with_reducible rfl
   rotate_left
   · simp only [Act.put, List.setIfInBounds_toArray, List.set_cons_zero, List.set_cons_succ, i64_w, i32_w]
     rfl
   refine done_ (by kernel_rfl) ?_
   go_wp2
   go_ret
   exact ⟨rfl, HB0.out⟩
 · rw [if_neg c1] at h
   replace h := Option.bind_eq_some_iff.mp h
   obtain ⟨t, ht, h⟩ := h
   by_cases g0 : 0 ≤ goal
   · rw [if_pos g0] at h
     by_cases g1 : goal < (t.length : Int)
     · rw [if_pos g1] at h
       obtain rfl := Option.some.inj h
       have c1b : (i == goal) = false := beq_eq_false_iff_ne.mpr c1
       have HT := Aside0.mk ht
       clear h c1 ht
       go_enter Try.func82, Try.ntmps82
       go_wp2
       refine start_ (n := 13) (S := fun w' => w'.cell? ⟨B5, 0, none⟩ = some (.int .i64 goal) ∧ w'.cell? ⟨B3, 0, none⟩ = some (.int .i64 o) ∧ w'.cell? ⟨B3, 1, none⟩ = some (.slice A rows.length c)) (ds := []) #[false, false, false, false, false, false, false, false, false, false, false, false, false] (by kernel_rfl) rfl rfl ⟨g5, g30, g31⟩ (fun hHeld => ?_)
       have HC1 := Aside0.mk (Kd.C_drew HC.out)
       have HB0 := Aside0.mk (below_drew (Below.refl W.heap.size W))
       generalize W.drew = w1 at HC1 HB0 hHeld ⊢
       refine pure_ (i := 0) (N := some 5) (v := ?_) (a' := ?_) #[true, false, false, false, false, false, false, false, false, false, false, false, false] rfl rfl (by kernel_rfl) (fun _ _ _ h => h) (Or.inl ⟨by rfl, ?_⟩) ?_ ?_
       rotate_left
       · intro w'
         go_simp
         with_reducible rfl
       rotate_left
       · simp only [Act.put, List.setIfInBounds_toArray, List.set_cons_zero, List.set_cons_succ, i64_w, i32_w]
         rfl
       refine take_ (i := 1) (N := some 6) (v := ?_) (a' := ?_) #[true, true, false, false, false, false, false, false, false, false, false, false, false] rfl rfl (by kernel_rfl) (fun _ _ _ h => h) (Or.inl ⟨by rfl, ?_⟩) hHeld ?_ ?_
       rotate_left
       · rintro w' ⟨s0, s1, s2⟩
         go_simp
         with_reducible rfl
       rotate_left
       · simp only [Act.put, List.setIfInBounds_toArray, List.set_cons_zero, List.set_cons_succ, i64_w, i32_w]
         rfl
       refine pure_ (i := 2) (N := some 7) (v := ?_) (a' := ?_) #[true, true, true, false, false, false, false, false, false, false, false, false, false] rfl rfl (by kernel_rfl) (fun _ _ _ h => h) (Or.inl ⟨by rfl, ?_⟩) ?_ ?_
       rotate_left
       · intro w'
         go_simp
         with_reducible rfl
       rotate_left
       · simp only [Act.put, List.setIfInBounds_toArray, List.set_cons_zero, List.set_cons_succ, i64_w, i32_w]
         rfl
       refine pure_ (i := 3) (N := some 8) (v := ?_) (a' := ?_) #[true, true, true, true, false, false, false, false, false, false, false, false, false] rfl rfl (by kernel_rfl) (fun _ _ _ h => h) (Or.inl ⟨by rfl, ?_⟩) ?_ ?_
       rotate_left
       · intro w'
         go_simp
         with_reducible rfl
       rotate_left
       · simp only [Act.put, List.setIfInBounds_toArray, List.set_cons_zero, List.set_cons_succ, i64_w, i32_w]
         rfl
       refine take_ (i := 4) (N := some 9) (v := ?_) (a' := ?_) #[true, true, true, true, true, false, false, false, false, false, false, false, false] rfl rfl (by kernel_rfl) (fun _ _ _ h => h) (Or.inl ⟨by rfl, ?_⟩) hHeld ?_ ?_
       rotate_left
       · rintro w' ⟨s0, s1, s2⟩
         go_simp
         with_reducible rfl
       rotate_left
       · simp only [Act.put, List.setIfInBounds_toArray, List.set_cons_zero, List.set_cons_succ, i64_w, i32_w]
         rfl
       refine pure_ (i := 5) (N := some 10) (v := ?_) (a' := ?_) #[true, true, true, true, true, true, false, false, false, false, false, false, false] rfl rfl (by kernel_rfl) (fun _ _ _ h => h) (Or.inl ⟨by rfl, ?_⟩) ?_ ?_
       rotate_left
       · intro w'
         go_simp
         with_reducible rfl
       rotate_left
       · simp only [Act.put, List.setIfInBounds_toArray, List.set_cons_zero, List.set_cons_succ, i64_w, i32_w]
         rfl
       refine take_ (i := 7) (N := some 12) (v := ?_) (a' := ?_) #[true, true, true, true, true, true, false, true, false, false, false, false, false] rfl rfl (by kernel_rfl) (fun _ _ _ h => h) (Or.inl ⟨by rfl, ?_⟩) hHeld ?_ ?_
       rotate_left
       · rintro w' ⟨s0, s1, s2⟩
         go_simp
         with_reducible rfl
       rotate_left
       · simp only [Act.put, List.setIfInBounds_toArray, List.set_cons_zero, List.set_cons_succ, i64_w, i32_w]
         rfl
       refine one_ (i := 6) (N := some 11) #[true, true, true, true, true, true, true, true, false, false, false, false, false] rfl rfl (by kernel_rfl) (by decide) (fun K hK => ?_)
       refine goes_ Try.func66 (by kernel_rfl) rfl #[.agg #[.int .i64 o, .slice A rows.length c], .int .i64 i, .int .i64 (-1)] (by rfl) rfl rfl (by (try simp only [List.map_toArray, List.map_cons, List.map_nil]); first | done | rfl | (simp only [List.length_drop, List.length_take]; rfl)) ?_
       with_reducible refine (impl_States_reached.calls k o A c rows i (-1) t _ ?side1 ?side2 HT.out).mono ?_
       (case side1 => exact HC1.out)
       (case side2 => exact HL.out)
       rintro e w2 ⟨v, rfl, ho, hb⟩
       refine ⟨_, rfl, ?_⟩
       obtain ⟨go, co, rfl, gbo, glo, hcl⟩ := Kd.R_form ho (by omega)
       have HO := Aside0.mk ho
       have HBB := Aside0.mk hb
       have hrd : w2.cell? ⟨go, goal.toNat, none⟩ = some (.bool (rdOf false t goal)) := by
        obtain ⟨ce, _, hM, hcc, _⟩ := Kd.R_elem HO.out false goal g0 g1
        have h2 : ce = [.bool (t.getD goal.toNat false)] := hM
        have h3 := hcc 0 _ (by rw [h2]; rfl)
        rw [show Kd.bool.sz = 1 from rfl, Nat.mul_one, Nat.add_zero] at h3
        exact h3
       refine hK.out _ _ ⟨(hb.cell (World.block_lt_of_cell? _ _ hHeld.1)).trans hHeld.1, (hb.cell (World.block_lt_of_cell? _ _ hHeld.2.1)).trans hHeld.2.1, (hb.cell (World.block_lt_of_cell? _ _ hHeld.2.2)).trans hHeld.2.2⟩ (fun hHeld => ?_)
       clear hK K hb ho
       refine norm_ (a' := ?_) ?_ ?_
       rotate_left
       · show Act.put _ (some 11) _ = _
         simp only [Act.put, List.setIfInBounds_toArray, List.set_cons_zero, List.set_cons_succ, i64_w, i32_w]
         rfl
       have q0 : (0 ≤ goal) = True := eq_true g0
       have q1 : (goal < (t.length : Int)) = True := eq_true g1
       refine pure_ (i := 8) (N := some 13) (v := ?_) (a' := ?_) #[true, true, true, true, true, true, true, true, true, false, false, false, false] rfl rfl (by kernel_rfl) (fun _ _ _ h => h) (Or.inl ⟨by rfl, ?_⟩) ?_ ?_
       rotate_left
       · intro w'
         go_simp
         with_reducible rfl
       rotate_left
       · simp only [Act.put, List.setIfInBounds_toArray, List.set_cons_zero, List.set_cons_succ, i64_w, i32_w]
         rfl
       have hHeld2 := hHeld
       refine one_ (i := 9) (N := some 14) #[true, true, true, true, true, true, true, true, true, true, false, false, false] rfl rfl (by kernel_rfl) (by decide) (fun K hK => ?_)
       refine value_ (v := ?_) (w1 := ?_) (by rfl) rfl ?_ ?_
       rotate_left 2
       · go_simp
         refine And.intro ?_ ?_ <;> rfl
       refine hK.out _ _ hHeld2 (fun hHeld => ?_)
       clear hK K
       refine norm_ (a' := ?_) ?_ ?_
       rotate_left
       · show Act.put _ (some 14) _ = _
         simp only [Act.put, List.setIfInBounds_toArray, List.set_cons_zero, List.set_cons_succ, i64_w, i32_w]
         rfl
       refine pure_ (i := 10) (N := some 15) (v := ?_) (a' := ?_) #[true, true, true, true, true, true, true, true, true, true, true, false, false] rfl rfl (by kernel_rfl) (fun _ _ _ h => h) (Or.inl ⟨by rfl, ?_⟩) ?_ ?_
       rotate_left
       · intro w'
         go_simp
         with_reducible rfl
       rotate_left
       · simp only [Act.put, List.setIfInBounds_toArray, List.set_cons_zero, List.set_cons_succ, i64_w, i32_w]
         rfl
       refine pure_ (i := 11) (N := some 16) (v := ?_) (a' := ?_) #[true, true, true, true, true, true, true, true, true, true, true, true, false] rfl rfl (by kernel_rfl) (fun _ _ _ h => h) (Or.inl ⟨by rfl, ?_⟩) ?_ ?_
       rotate_left
       · intro w'
         go_simp
         with_reducible rfl
       rotate_left
       · simp only [Act.put, List.setIfInBounds_toArray, List.set_cons_zero, List.set_cons_succ, i64_w, i32_w]
         rfl
       refine pure_ (i := 12) (N := some 4) (v := ?_) (a' := ?_) #[true, true, true, true, true, true, true, true, true, true, true, true, true] rfl rfl (by kernel_rfl) (fun _ _ _ h => h) (Or.inl ⟨by rfl, ?_⟩) ?_ ?_
       rotate_left
       · intro w'
         go_simp
         with_reducible rfl
       rotate_left
       · simp only [Act.put, List.setIfInBounds_toArray, List.set_cons_zero, List.set_cons_succ, i64_w, i32_w]
         rfl
       refine done_ (by kernel_rfl) ?_
       go_wp2
       go_ret
       exact ⟨rfl, below_step HB0.out HBB.out⟩
     · rw [if_neg g1] at h; cases h
   · rw [if_neg g0] at h; cases h
theorem impl_States_inner.keep_spec {k : Nat} {o : Int} {rows : List (List Int)} {goal : Int} : ∀ (l r : List Int), impl_States_inner.keep k o rows goal l = some r →
 (∀ x ∈ l, ∃ b, impl_States_inner.bad k o rows goal x = some b) ∧ r = l.filter (fun x => !((impl_States_inner.bad k o rows goal x).getD true))
 | [], r, h => by
  obtain rfl := Option.some.inj h
  exact ⟨fun x hx => by simp at hx, rfl⟩
 | x :: xs, r, h => by
  obtain ⟨b, h1, h⟩ := Option.bind_eq_some_iff.mp h
  obtain ⟨q, h2, h⟩ := Option.bind_eq_some_iff.mp h
  obtain rfl := Option.some.inj h
  obtain ⟨h3, h4⟩ := impl_States_inner.keep_spec xs q h2
  refine ⟨fun y hy => ?_, ?_⟩
  · rcases List.mem_cons.1 hy with rfl | hy
    · exact ⟨b, h1⟩
    · exact h3 y hy
  · rw [List.filter_cons, h1, h4]
    cases b <;> simp
def impl_States_inner.Ans (p : Int → Bool) (l : List Int) (B3 B5 : Nat) (O3 O5 : Obj) (w : World) : Prop :=
 ∀ W : World, Below w.heap.size w W → W.heap[B3]? = some O3 → W.heap[B5]? = some O5 → ∀ x ∈ l, Calls Try.prog 82 #[.int .i64 x, .pointer (some ⟨B5, 0, none⟩), .pointer (some ⟨B3, 0, none⟩)] W fun e w' => e = .returned (.bool (p x)) ∧ Below W.heap.size W w'
set_option maxHeartbeats 8000000 in
set_option maxRecDepth 100000 in
theorem impl_States_inner.index (p : Int → Bool) (l : List Int) (B3 B5 : Nat) (O3 O5 : Obj) (w0 w : World) (g cap : Nat) (cs : Array Value) (ha : impl_States_inner.Ans p l B3 B5 O3 O5 w0) (hb : Below w0.heap.size w0 w) (h3 : w.heap[B3]? = some O3) (h5 : w.heap[B5]? = some O5) (hg : w.heap[g]? = some (.cells cs 3 (0, 0))) (hcs : ∀ (q : Nat) (x : Int), l[q]? = some x → cs[q]? = some (Value.int .i64 x)) (hlen : l.length ≤ 1000000) :
 Calls Try.prog 84 #[.slice (some ⟨g, 0, none⟩) l.length cap, .func (.func 82) #[] #[.pointer (some ⟨B5, 0, none⟩), .pointer (some ⟨B3, 0, none⟩)]] w fun e w' => (∃ x : Int, e = .returned (.int .i64 x) ∧ ((x = -1 ∧ ∀ y ∈ l, p y = false) ∨ ∃ (q : Nat) (y : Int), x = q ∧ l[q]? = some y ∧ p y = true ∧ ∀ z ∈ l.take q, p z = false)) ∧ Below w.heap.size w w' := by
 have eg : ∀ args w, (callFunc 82 args).run Try.prog w = .ok (.enter 82 args) w := enters_ Try.func82 (by kernel_rfl) rfl
 have HANS := Aside0.mk ha
 have H0 := Aside0.mk hb
 have H3 := Aside0.mk h3
 have H5 := Aside0.mk h5
 have HG := Aside0.mk hg
 have HCS := Aside0.mk hcs
 have HL := Aside0.mk hlen
 clear ha hb h3 h5 hg hcs hlen
 go_enter Try.func84, Try.ntmps84
 go_wp2
 go_loopg [5, 8] l.length (fun gg _ s8 wr => ∃ kk : Nat, kk ≤ l.length ∧ l.length - kk ≤ gg ∧ s8 = .int .i64 kk ∧ Aside0 (Below w.heap.size w wr) ∧ Aside0 (∀ x ∈ l.take kk, p x = false))
 case atStart => exact ⟨0, Nat.zero_le _, by omega, rfl, ⟨Below.refl _ w⟩, ⟨by simp⟩⟩
 case round =>
  obtain ⟨kk, hkk, hgg, rfl, BW, HA⟩ := hrel
  by_cases hlt : kk < l.length
  · have hltz : (kk : Int) < (l.length : Int) := by omega
    have p0 : 0 ≤ (kk : Int) := by omega
    have hel : l[kk]? = some l[kk] := List.getElem?_eq_getElem hlt
    have hmem : l[kk] ∈ l := List.getElem_mem hlt
    have hx : wr.cell? ⟨g, kk, none⟩ = some (.int .i64 l[kk]) := (blk_cell (blk_below HG.out BW.out) kk).trans (HCS.out kk _ hel)
    have hcall := HANS.out wr (below_step H0.out BW.out) (blk_below H3.out BW.out) (blk_below H5.out BW.out) l[kk] hmem
    generalize l[kk] = y at hx hcall hel
    have HE := Aside0.mk hel
    clear hel hmem
    replace p0 := eq_true p0
    replace hltz := eq_true hltz
    cases hq : p y with
    | true =>
     rw [hq] at hcall
     have HQ := Aside0.mk hq
     clear hq
     go_wp2_with (go_at_call 82; refine hcall.mono ?_; rintro e w' ⟨rfl, hb'⟩)
     go_ret
     exact ⟨⟨kk, rfl, .inr ⟨kk, y, rfl, HE.out, HQ.out, HA.out⟩⟩, below_step BW.out hb'⟩
    | false =>
     rw [hq] at hcall
     have HQ := Aside0.mk hq
     clear hq
     go_wp2_with (go_at_call 82; refine hcall.mono ?_; rintro e w' ⟨rfl, hb'⟩)
     go_roundg (l.length - (kk + 1))
     case measure => omega
     case rel =>
      refine ⟨kk + 1, by omega, by omega, by rw [show wrap64 ((kk : Int) + 1) = ((kk + 1 : Nat) : Int) from by have := HL.out; unfold wrap64; omega], ⟨below_step BW.out hb'⟩, ⟨fun x hx' => ?_⟩⟩
      rw [List.take_add_one, HE.out, Option.toList_some, List.mem_append, List.mem_singleton] at hx'
      rcases hx' with hx' | hx'
      · exact HA.out x hx'
      · rw [hx']; exact HQ.out
  · have hltz : ¬ (kk : Int) < (l.length : Int) := by omega
    have : kk = l.length := by omega
    subst this
    go_wp2
    go_ret
    exact ⟨⟨-1, rfl, .inl ⟨rfl, fun y hy => HA.out y (by rw [List.take_length]; exact hy)⟩⟩, BW.out⟩
theorem impl_States_inner.rowOpen {e base g cap : Nat} {ok : Nat → Prop} {w : World} {l : List Int} (h : Kd.R (Kd.int .i64) e w base ok (.slice (some ⟨g, 0, none⟩) l.length cap) l) :
 ∃ cs : Array Value, w.heap[g]? = some (.cells cs e (0, 0)) ∧ base ≤ g ∧ l.length ≤ cap ∧ cap ≤ maxLen ∧ cs.size = cap ∧ ∀ (q : Nat) (x : Int), l[q]? = some x → cs[q]? = some (Value.int .i64 x) := by
 obtain ⟨h0, inner, ⟨hl, ho⟩, hr⟩ := h
 have hsz : (Kd.int .i64).sz = 1 := rfl
 rcases ho with ⟨he, hn⟩ | ⟨g', cap', cur, he, hb, hc, h1, h2, h3, h4⟩
 · cases he
 · cases he
   rw [hsz, Nat.mul_one] at h3 h4
   refine ⟨cur, hc, hb, h1, h2, h3, fun q x hq => ?_⟩
   have h5 := hr.2 q x hq
   rw [hsz, Nat.mul_one] at h5
   have h6 : (inner.drop q).take 1 = [Value.int .i64 x] := h5
   have hql : q < l.length := (List.getElem?_eq_some_iff.1 hq).1
   have h7 : inner[q]? = some (Value.int .i64 x) := by
    have h8 : ((inner.drop q).take 1)[0]? = some (Value.int .i64 x) := by rw [h6]; rfl
    rw [List.getElem?_take_of_lt (by omega), List.getElem?_drop] at h8
    simpa using h8
   rw [← h4, List.getElem?_take_of_lt hql] at h7
   rw [← Array.getElem?_toList]
   exact h7
theorem impl_States_inner.rowShut {e base g cap : Nat} {w : World} {l : List Int} {cs : Array Value} (hg : w.heap[g]? = some (.cells cs e (0, 0))) (hb : base ≤ g) (h1 : l.length ≤ cap) (h2 : cap ≤ maxLen) (h3 : cs.size = cap) (h4 : ∀ (q : Nat) (x : Int), l[q]? = some x → cs[q]? = some (Value.int .i64 x)) :
 Kd.R (Kd.int .i64) e w base (fun _ => True) (.slice (some ⟨g, 0, none⟩) l.length cap) l := by
 have hsz : (Kd.int .i64).sz = 1 := rfl
 refine ⟨fun _ _ => trivial, l.map (Value.int .i64), ⟨by rw [hsz, List.length_map, Nat.mul_one], .inr ⟨g, cap, cs, rfl, hb, hg, h1, h2, by rw [hsz, Nat.mul_one]; exact h3, ?_⟩⟩, ?_⟩
 · rw [hsz, Nat.mul_one]
   apply List.ext_getElem?
   intro q
   by_cases hq : q < l.length
   · rw [List.getElem?_take_of_lt hq, Array.getElem?_toList, h4 q l[q] (List.getElem?_eq_getElem hq), List.getElem?_map, List.getElem?_eq_getElem hq]
     rfl
   · rw [List.getElem?_eq_none (by rw [List.length_take]; omega), List.getElem?_eq_none (by rw [List.length_map]; omega)]
 · refine ⟨by rw [hsz, List.length_map, Nat.mul_one], fun j p hj => ?_⟩
   rw [hsz, Nat.mul_one]
   obtain ⟨hjl, rfl⟩ := List.getElem?_eq_some_iff.1 hj
   show ((l.map (Value.int .i64)).drop j).take 1 = [Value.int .i64 l[j]]
   rw [List.drop_eq_getElem_cons (by rw [List.length_map]; exact hjl)]
   simp
theorem impl_States_inner.below_cells {w W : World} {g o : Nat} {vs : List Value} (h : Below w.heap.size w W) (hg : w.heap.size ≤ g) : Below w.heap.size w (W.setCells g o vs) := by
 obtain ⟨h1, h2, h3, h4⟩ := setCells_same g vs o W
 exact ⟨h1.trans h.os, h2.trans h.tape, h3.trans h.output, by rw [h4]; exact h.size, fun i hi => (setCells_far vs o i (by omega)).trans (h.block i hi)⟩
theorem impl_States_inner.kept_keep {p : Int → Bool} {l : List Int} {j : Nat} {y : Int} (hj : l[j]? = some y) (hp : p y = false) : (l.take (j + 1)).filter (fun x => !p x) = (l.take j).filter (fun x => !p x) ++ [y] := by
 rw [List.take_add_one, hj, Option.toList_some, List.filter_append]
 simp [hp]
theorem impl_States_inner.kept_skip {p : Int → Bool} {l : List Int} {j : Nat} {y : Int} (hj : l[j]? = some y) (hp : p y = true) : (l.take (j + 1)).filter (fun x => !p x) = (l.take j).filter (fun x => !p x) := by
 rw [List.take_add_one, hj, Option.toList_some, List.filter_append]
 simp [hp]
structure impl_States_inner.K (p : Int → Bool) (l : List Int) (cap : Nat) (i j : Nat) (cs : Array Value) : Prop where
 lt : i < j
 le : j ≤ l.length
 size : cs.size = cap
 len : ((l.take j).filter (fun x => !p x)).length = i
 low : ∀ (q : Nat) (x : Int), ((l.take j).filter (fun x => !p x))[q]? = some x → cs[q]? = some (Value.int .i64 x)
 high : ∀ (q : Nat) (x : Int), j ≤ q → l[q]? = some x → cs[q]? = some (Value.int .i64 x)
theorem impl_States_inner.K.keep {p : Int → Bool} {l : List Int} {cap i j : Nat} {cs : Array Value} (h : impl_States_inner.K p l cap i j cs) (hc : l.length ≤ cap) {y : Int} (hj : l[j]? = some y) (hp : p y = false) : impl_States_inner.K p l cap (i + 1) (j + 1) (cs.setIfInBounds i (.int .i64 y)) := by
 have hjl : j < l.length := (List.getElem?_eq_some_iff.1 hj).1
 have h1 := h.lt
 have h2 := h.size
 refine ⟨by omega, by omega, by simp [h2], by rw [impl_States_inner.kept_keep hj hp, List.length_append, h.len]; rfl, fun q x hq => ?_, fun q x hq hx => ?_⟩
 · rw [impl_States_inner.kept_keep hj hp] at hq
   rcases Nat.lt_or_ge q i with hlt | hge
   · rw [List.getElem?_append_left (by rw [h.len]; exact hlt)] at hq
     rw [Array.getElem?_setIfInBounds_ne (by omega)]
     exact h.low q x hq
   · rw [List.getElem?_append_right (by rw [h.len]; exact hge), h.len] at hq
     have e : q = i := by
      have h3 := (List.getElem?_eq_some_iff.1 hq).1
      simp at h3
      omega
     subst e
     rw [Nat.sub_self] at hq
     have e2 : y = x := by simpa using hq
     rw [Array.getElem?_setIfInBounds_self_of_lt (by omega), e2]
 · rw [Array.getElem?_setIfInBounds_ne (by omega)]
   exact h.high q x (by omega) hx
theorem impl_States_inner.K.skip {p : Int → Bool} {l : List Int} {cap i j : Nat} {cs : Array Value} (h : impl_States_inner.K p l cap i j cs) {y : Int} (hj : l[j]? = some y) (hp : p y = true) : impl_States_inner.K p l cap i (j + 1) cs := by
 have hjl : j < l.length := (List.getElem?_eq_some_iff.1 hj).1
 have h1 := h.lt
 refine ⟨by omega, by omega, h.size, by rw [impl_States_inner.kept_skip hj hp, h.len], fun q x hq => ?_, fun q x hq hx => h.high q x (by omega) hx⟩
 rw [impl_States_inner.kept_skip hj hp] at hq
 exact h.low q x hq
theorem impl_States_inner.filter_all {p : Int → Bool} : ∀ {l : List Int}, (∀ x ∈ l, p x = false) → l.filter (fun x => !p x) = l := fun h => List.filter_eq_self.2 (fun x hx => by rw [h x hx]; rfl)
set_option maxHeartbeats 8000000 in
set_option maxRecDepth 100000 in
theorem impl_States_inner.del (p : Int → Bool) (l : List Int) (B3 B5 : Nat) (O3 O5 : Obj) (w0 w : World) (g cap : Nat) (ok : Nat → Prop) (ha : impl_States_inner.Ans p l B3 B5 O3 O5 w0) (hb : Below w0.heap.size w0 w) (h3 : w.heap[B3]? = some O3) (h5 : w.heap[B5]? = some O5) (n3 : B3 ≠ g) (n5 : B5 ≠ g) (ho : Kd.R (Kd.int .i64) 3 w w0.heap.size ok (.slice (some ⟨g, 0, none⟩) l.length cap) l) (hlen : l.length ≤ 1000000) :
 Calls Try.prog 81 #[.slice (some ⟨g, 0, none⟩) l.length cap, .func (.func 82) #[] #[.pointer (some ⟨B5, 0, none⟩), .pointer (some ⟨B3, 0, none⟩)]] w fun e w' => ∃ v0_ : Value, e = .returned v0_ ∧ Kd.R (Kd.int .i64) 3 w' w0.heap.size (fun _ => True) v0_ (l.filter (fun x => !p x)) ∧ Below w0.heap.size w0 w' := by
 have eg : ∀ args w, (callFunc 82 args).run Try.prog w = .ok (.enter 82 args) w := enters_ Try.func82 (by kernel_rfl) rfl
 obtain ⟨cs0, hg, hbg, hcap, hcm, hsz, hcs⟩ := impl_States_inner.rowOpen ho
 have hidx := impl_States_inner.index p l B3 B5 O3 O5 w0 w g cap cs0 ha hb h3 h5 hg hcs hlen
 have HIDX := Aside0.mk hidx
 have HO := Aside0.mk ho
 have HANS := Aside0.mk ha
 have H0 := Aside0.mk hb
 have H3 := Aside0.mk h3
 have H5 := Aside0.mk h5
 have HG := Aside0.mk hg
 have HCS := Aside0.mk hcs
 have HL := Aside0.mk hlen
 have HBG := Aside0.mk hbg
 have HCM := Aside0.mk hcm
 have HSZ := Aside0.mk hsz
 have N3 := Aside0.mk n3
 have N5 := Aside0.mk n5
 clear ha hb h3 h5 hlen ho hidx hcs hbg hcm n3 n5 hsz hg
 by_cases hall : ∀ y ∈ l, p y = false
 · have HALL := Aside0.mk hall
   clear hall
   go_enter Try.func81, Try.ntmps81
   go_wp2_with (go_at_call 84; refine HIDX.out.mono ?_; rintro e w1 ⟨⟨x, rfl, hx⟩, hb1⟩; (obtain rfl : x = -1 := by rcases hx with ⟨h_, _⟩ | ⟨q, y, h_, h1_, h2_, _⟩; exact h_; rw [HALL.out y (List.mem_of_getElem? h1_)] at h2_; cases h2_); have HB1 := Aside0.mk hb1; clear hx hb1)
   go_ret
   exact ⟨_, rfl, by rw [impl_States_inner.filter_all HALL.out]; exact Kd.R_mono (Kd.R_below HO.out HB1.out) (fun _ _ => trivial), below_step H0.out HB1.out⟩
 · have HALL := Aside0.mk hall
   clear hall
   go_enter Try.func81, Try.ntmps81
   go_wp2_with (go_at_call 84; refine HIDX.out.mono ?_; rintro e w1 ⟨⟨x, rfl, hx⟩, hb1⟩; (obtain ⟨q, y, rfl, hq, hpq, hpre⟩ : ∃ (q : Nat) (y : Int), x = q ∧ l[q]? = some y ∧ p y = true ∧ ∀ z ∈ l.take q, p z = false := by rcases hx with ⟨_, h_⟩ | h_; exact absurd h_ HALL.out; exact h_); have hqn : ((q : Int) == -1) = false := beq_eq_false_iff_ne.mpr (by omega); have HB1 := Aside0.mk hb1; have HQ := Aside0.mk hq; have HPQ := Aside0.mk hpq; have HPRE := Aside0.mk hpre; clear hx hb1 hq hpq hpre)
   have hql : q < l.length := (List.getElem?_eq_some_iff.1 HQ.out).1
   have HG1 := Aside0.mk (blk_below HG.out HB1.out)
   have H31 := Aside0.mk (blk_below H3.out HB1.out)
   have H51 := Aside0.mk (blk_below H5.out HB1.out)
   have H01 := Aside0.mk (below_step H0.out HB1.out)
   clear HB1 H0 HG H3 H5 HIDX HO
   go_loopg [5, 6, 7] l.length (fun gg s5 s6 _ wr => ∃ (i j : Nat) (cs : Array Value), s5 = .int .i64 i ∧ s6 = .int .i64 j ∧ Aside0 (l.length - j ≤ gg) ∧ Aside0 (impl_States_inner.K p l cap i j cs) ∧ Aside0 (wr.heap[g]? = some (.cells cs 3 (0, 0))) ∧ Aside0 (wr.heap[B3]? = some O3) ∧ Aside0 (wr.heap[B5]? = some O5) ∧ Aside0 (Below w0.heap.size w0 wr))
   case atStart =>
    have eq1 : wrap64 ((q : Int) + 1) = ((q + 1 : Nat) : Int) := by have := HL.out; unfold wrap64; omega
    have hkq : (l.take q).filter (fun x => !p x) = l.take q := impl_States_inner.filter_all HPRE.out
    refine ⟨q, q + 1, cs0, rfl, by first | rfl | (rw [← eq1]; rfl) | (simp only [i64_w, eq1]), ⟨by omega⟩, ⟨⟨by omega, by omega, HSZ.out, ?_, fun a x ha => ?_, fun a x ha hx => HCS.out a x hx⟩⟩, ⟨by repeat (first | exact HG1.out | refine blk_drewN ?_ _ | refine blk_drew ?_)⟩, ⟨by repeat (first | exact H31.out | refine blk_drewN ?_ _ | refine blk_drew ?_)⟩, ⟨by repeat (first | exact H51.out | refine blk_drewN ?_ _ | refine blk_drew ?_)⟩, ⟨by repeat (first | exact H01.out | apply below_drew1 | apply pw_below_drewN)⟩⟩
    · rw [impl_States_inner.kept_skip HQ.out HPQ.out, hkq, List.length_take]
      omega
    · rw [impl_States_inner.kept_skip HQ.out HPQ.out, hkq] at ha
      rw [List.getElem?_take] at ha
      split at ha
      · exact HCS.out a x ha
      · cases ha
   case round =>
    clear HG1 H31 H51 H01
    obtain ⟨i, j, cs, rfl, rfl, HGG, HK, HG, H3, H5, H0⟩ := hrel
    have hij := HK.out.lt
    have hjl := HK.out.le
    by_cases hlt : j < l.length
    · have hltz : (j : Int) < (l.length : Int) := by omega
      have p0 : 0 ≤ (j : Int) := by omega
      have p1 : 0 ≤ (i : Int) := by omega
      have p2 : (i : Int) < (l.length : Int) := by omega
      have hel : l[j]? = some l[j] := List.getElem?_eq_getElem hlt
      have hmem : l[j] ∈ l := List.getElem_mem hlt
      have hx : wr.cell? ⟨g, j, none⟩ = some (.int .i64 l[j]) := (blk_cell HG.out j).trans (HK.out.high j _ (Nat.le_refl _) hel)
      have hcall := HANS.out wr H0.out H3.out H5.out l[j] hmem
      obtain ⟨old, hold⟩ : ∃ z, cs[i]? = some z := ⟨_, Array.getElem?_eq_getElem (by have := HK.out.size; omega)⟩
      have HOLD := Aside0.mk hold
      generalize l[j] = y at hx hcall hel
      have HE := Aside0.mk hel
      clear hel hmem hold
      replace p0 := eq_true p0
      replace p1 := eq_true p1
      replace p2 := eq_true p2
      replace hltz := eq_true hltz
      have ej : wrap64 ((j : Int) + 1) = ((j + 1 : Nat) : Int) := by have := HL.out; unfold wrap64; omega
      have ei : wrap64 ((i : Int) + 1) = ((i + 1 : Nat) : Int) := by have := HL.out; unfold wrap64; omega
      have EJ := Aside0.mk ej
      have EI := Aside0.mk ei
      clear ej ei
      cases hq : p y with
      | false =>
       rw [hq] at hcall
       have HQ1 := Aside0.mk hq
       clear hq
       go_wp2_with (go_at_call 82; refine hcall.mono ?_; rintro e w' ⟨rfl, hb'⟩; have HB2 := Aside0.mk hb'; clear hb'; have hci := (blk_cell (blk_below HG.out HB2.out) i).trans HOLD.out; have hfi := blk_frozen (blk_below HG.out HB2.out) i)
       go_roundg (l.length - (j + 1))
       case measure => have := HGG.out; omega
       case rel =>
        exact ⟨i + 1, j + 1, cs.setIfInBounds i (.int .i64 y), by first | rfl | rw [EI.out], by first | rfl | rw [EJ.out], ⟨by omega⟩, ⟨HK.out.keep hcap HE.out HQ1.out⟩, ⟨by repeat (first | exact blk_set (blk_below HG.out HB2.out) i _ | refine blk_drewN ?_ _ | refine blk_drew ?_)⟩, ⟨by repeat (first | exact (Below.heap_setCell _ _ _ _ N3.out).trans (blk_below H3.out HB2.out) | refine blk_drewN ?_ _ | refine blk_drew ?_)⟩, ⟨by repeat (first | exact (Below.heap_setCell _ _ _ _ N5.out).trans (blk_below H5.out HB2.out) | refine blk_drewN ?_ _ | refine blk_drew ?_)⟩, ⟨by repeat (first | exact below_set (below_step H0.out HB2.out) HBG.out | apply below_drew1 | apply pw_below_drewN)⟩⟩
      | true =>
       rw [hq] at hcall
       have HQ1 := Aside0.mk hq
       clear hq
       go_wp2_with (go_at_call 82; refine hcall.mono ?_; rintro e w' ⟨rfl, hb'⟩; have HB2 := Aside0.mk hb'; clear hb')
       go_roundg (l.length - (j + 1))
       case measure => have := HGG.out; omega
       case rel => exact ⟨i, j + 1, cs, rfl, by first | rfl | rw [EJ.out], ⟨by omega⟩, ⟨HK.out.skip HE.out HQ1.out⟩, ⟨blk_below HG.out HB2.out⟩, ⟨blk_below H3.out HB2.out⟩, ⟨blk_below H5.out HB2.out⟩, ⟨below_step H0.out HB2.out⟩⟩
    · obtain rfl : j = l.length := by omega
      have hltz : ¬ (l.length : Int) < (l.length : Int) := by omega
      have hcl : ∀ ty, (Builtin.clear_ #[26] ty #[.slice (some ⟨g, i, none⟩) (l.length - i) (cap - i)]).run Try.prog wr = .ok (.tuple #[]) (wr.setCells g i (List.replicate (l.length - i) (.int .i64 0))) :=
       fun ty => Go.Lib.run_clear_slice wr _ _ ty _ Try.underlying26 Try.zeroValue3 rfl rfl g i _ _ (by omega) (fun t ht => by rw [blk_cell HG.out]; have := HK.out.size; rw [Array.getElem?_eq_getElem (by omega)]; rfl) (fun t ht => blk_frozen HG.out _)
      have p1 : (0 ≤ (i : Int)) := by omega
      have p2 : ((i : Int) ≤ (l.length : Int)) := by omega
      have p3 : i ≤ l.length := by omega
      go_wp2
      go_ret
      obtain ⟨cs2, c1, c2, c3⟩ := setCells_row (List.replicate (l.length - i) (Value.int .i64 0)) i wr cs HG.out (by rw [List.length_replicate]; have := HK.out.size; omega)
      have hkl := HK.out.len
      have hlow := HK.out.low
      rw [List.take_length] at hkl hlow
      refine ⟨_, rfl, ?_, ?_⟩
      · have hR := impl_States_inner.rowShut (base := w0.heap.size) (cap := cap) (l := l.filter (fun x => !p x)) (cs := cs2) c1 HBG.out (by omega) HCM.out (by rw [c2]; exact HK.out.size) (fun q x hq => ?_)
        · rw [hkl] at hR
          exact hR
        have hqi : q < i := by have := (List.getElem?_eq_some_iff.1 hq).1; omega
        rw [← Array.getElem?_toList, c3, List.append_assoc, List.getElem?_append_left (by rw [List.length_take, Array.length_toList]; have := HK.out.size; omega), List.getElem?_take_of_lt hqi, Array.getElem?_toList]
        exact hlow q x hq
      · exact impl_States_inner.below_cells H0.out HBG.out
set_option maxHeartbeats 8000000 in
set_option maxRecDepth 100000 in
theorem impl_States_inner.calls (k : Nat) (a0_0 : Int) (A0_1 : Option Addr) (c0_1 : Nat) (l0_1 : List (List Int)) (a1 : Int) (a2 : Int) (r : List Int) (w : World) (hr0_1 : Kd.C (Kd.slice 3 (Kd.int .i64)) w A0_1 l0_1.length l0_1) (hc0_1 : l0_1.length ≤ c0_1) (h : impl_States_inner.f k a0_0 l0_1 a1 a2 = some r) :
 Calls Try.prog 67 #[.agg #[.int .i64 a0_0, .slice A0_1 l0_1.length c0_1], .int .i64 a1, .int .i64 a2] w fun e w' => ∃ v0_ : Value, e = .returned v0_ ∧ Kd.R (Kd.int .i64) 3 w' w.heap.size (fun _ => True) v0_ r ∧ Below w.heap.size w w' := by
 have hu29 := Try.underlying29
 unfold impl_States_inner.f at h
 replace h := Option.bind_eq_some_iff.mp h
 obtain ⟨t, h1, h⟩ := h
 replace h := Option.bind_eq_some_iff.mp h
 obtain ⟨l, h2, h⟩ := h
 by_cases c1 : 0 < l.length
 · rw [if_pos c1] at h
   by_cases c2 : l.length ≤ 1000000
   · rw [if_pos c2] at h
     obtain ⟨hbad, rfl⟩ := impl_States_inner.keep_spec l r h
     have HC := Aside0.mk hr0_1
     have HL := Aside0.mk hc0_1
     have HT := Aside0.mk h1
     have HM := Aside0.mk h2
     have HBAD := Aside0.mk hbad
     have C1 := Aside0.mk c1
     have C2 := Aside0.mk c2
     clear hr0_1 hc0_1 h1 h2 hbad h c1 c2
     go_enter Try.func67, Try.ntmps67
     go_wp2_with (first | ((with_reducible refine gate_dst (N := 3) rfl ?_); refine box_event ?hg (N := 3) ?hd (cs := #[.int .i64 a0_0, .slice A0_1 l0_1.length c0_1]) (t := 29) ?hr ?_; (case hd => rfl); (case hg => rfl); (case hr => first | (go_simp; done) | (go_simp; rfl)); intro B3 hg w3 hbox hb; have HX3 := Aside0.mk hbox; have HBa := Aside0.mk (below_step (by repeat (first | exact Below.refl _ _ | apply below_alloc | apply pw_below_drewN | apply below_drew1)) hb : Below w.heap.size w w3); have HL3 := Aside0.mk (blk_lt hbox); have HG3 := Aside0.mk (show w.heap.size ≤ B3 by rw [hg]; exact Nat.le_refl _); clear hg hbox hb) | ((with_reducible refine gate_dst (N := 5) rfl ?_); refine box_event ?hg (N := 5) ?hd (cs := #[.int .i64 a2]) (t := 3) ?hr ?_; (case hd => rfl); (case hg => rfl); (case hr => first | (go_simp; done) | (go_simp; rfl)); intro B5 hg w5 hbox hb; have HX5 := Aside0.mk hbox; have HX4 := Aside0.mk (blk_below (by repeat (first | exact HX3.out | refine blk_drewN ?_ _ | refine blk_drew ?_)) hb); have HBb := Aside0.mk (below_step (by repeat (first | exact HBa.out | apply below_alloc | apply pw_below_drewN | apply below_drew1)) hb); have hd30 := (blk_cell HX4.out 0).trans rfl; have hd31 := (blk_cell HX4.out 1).trans rfl; have hd50 := (blk_cell HX5.out 0).trans rfl; clear HX3 HBa hg hbox hb) | (go_at_call 66; (with_reducible refine (impl_States_reached.calls k a0_0 _ _ l0_1 a1 a2 t _ ?side1 ?side2 HT.out).mono ?_); (case side1 => exact Kd.C_below HC.out (by repeat (first | exact HBb.out | apply below_alloc | apply pw_below_drewN | apply below_drew1))); (case side2 => exact HL.out); rintro e w1 ⟨v1, rfl, ho, hb⟩; have HO1 := Aside0.mk ho; have HX6 := Aside0.mk (blk_below (by repeat (first | exact HX4.out | refine blk_drewN ?_ _ | refine blk_drew ?_)) hb); have HX7 := Aside0.mk (blk_below (by repeat (first | exact HX5.out | refine blk_drewN ?_ _ | refine blk_drew ?_)) hb); have HBc := Aside0.mk (below_step (by repeat (first | exact HBb.out | apply below_alloc | apply pw_below_drewN | apply below_drew1)) hb); clear ho hb HX4 HX5 HBb; obtain ⟨A1, n1, rfl⟩ := Kd.R_slice HO1.out) | (go_at_call 45; (with_reducible refine (impl_members.calls k _ _ t l _ ?side1 ?side2 HM.out).mono ?_); (case side1 => exact (Kd.R_reads' HO1.out).2.2); (case side2 => exact (Kd.R_reads' HO1.out).2.1); rintro e w2 ⟨v2, rfl, ho, hb⟩; obtain ⟨g, cap, rfl, hg1, hg2, hg3⟩ := Kd.R_form ho C1.out; have HO2 := Aside0.mk (Kd.R_lower ho HBc.out.size); have HX8 := Aside0.mk (blk_below HX6.out hb); have HX9 := Aside0.mk (blk_below HX7.out hb); have HNE3 := Aside0.mk (show B3 ≠ g by have h_ := blk_lt HX6.out; omega); have HNE5 := Aside0.mk (show B5 ≠ g by have h_ := blk_lt HX7.out; omega); have HBd := Aside0.mk (below_step HBc.out hb); clear ho hb hg1 hg2 hg3 HO1 HX6 HX7 HBc) | (go_at_call 81; (with_reducible refine (impl_States_inner.del (fun x => (impl_States_inner.bad k a0_0 l0_1 a2 x).getD true) l B3 B5 _ _ w _ g cap _ ?side1 HBd.out HX8.out HX9.out HNE3.out HNE5.out HO2.out C2.out).mono ?_); (case side1 => intro W hW h3 h5 x hx; obtain ⟨b, hb⟩ := HBAD.out x hx; have h_ := impl_States_inner.lit k a0_0 A0_1 c0_1 l0_1 a2 x b B3 B5 W (Kd.C_below HC.out hW) HL.out ((blk_cell h5 0).trans rfl) ((blk_cell h3 0).trans rfl) ((blk_cell h3 1).trans rfl) hb; simp only [hb, Option.getD_some]; exact h_); rintro e w9 ⟨v9, rfl, hr9, hb9⟩; have HR9 := Aside0.mk hr9; have HB9 := Aside0.mk hb9; clear hr9 hb9))
     go_ret
     exact ⟨_, rfl, HR9.out, HB9.out⟩
   · rw [if_neg c2] at h; cases h
 · rw [if_neg c1] at h; cases h
def impl_common.l0 : Nat → Int → Int → Option (Int)
 | 0, _, _ => none
 | k + 1, x0, x1 => if x1 = 0 then (some x0) else (impl_common.l0 k x1 (Int.tmod x0 x1))
def impl_common.f (k : Nat) (a0 : Int) (a1 : Int) : Option (Int) := impl_common.l0 k (mx a0 (wrap64 (-a0))) (mx a1 (wrap64 (-a1)))
set_option maxHeartbeats 8000000 in
set_option maxRecDepth 100000 in
theorem impl_common.calls (k : Nat) (a0 : Int) (a1 : Int) (r : Int) (w : World) (h : impl_common.f k a0 a1 = some r) :
 Calls Try.prog 46 #[.int .i64 a0, .int .i64 a1] w fun e w' => e = .returned (.int .i64 r) ∧ Below w.heap.size w w' := by
 have HB := Aside0.mk (Below.refl w.heap.size w)
 have H : (impl_common.l0 k (mx a0 (wrap64 (-a0))) (mx a1 (wrap64 (-a1)))) = some r := h
 clear h
 obtain ⟨ji3, hji3⟩ : ∃ j_ : Int, (mx a0 (wrap64 (-a0))) = j_ := ⟨_, rfl⟩
 replace H : (impl_common.l0 k ji3 (mx a1 (wrap64 (-a1)))) = some r := by first | (rw [hji3] at H; exact H) | (simp only [hji3] at H ⊢; exact H)
 have hji3_ : (if a0 < (wrap64 (-a0)) then (wrap64 (-a0)) else a0) = ji3 := hji3
 obtain ⟨ji4, hji4⟩ : ∃ j_ : Int, (mx a1 (wrap64 (-a1))) = j_ := ⟨_, rfl⟩
 replace H : (impl_common.l0 k ji3 ji4) = some r := by first | (rw [hji4] at H; exact H) | (simp only [hji4] at H ⊢; exact H)
 have hji4_ : (if a1 < (wrap64 (-a1)) then (wrap64 (-a1)) else a1) = ji4 := hji4
 have H' := Aside0.mk H
 clear H
 go_enter Try.func46, Try.ntmps46
 go_wp2
 repeat (go_quiet (fail); try go_wp2)
 go_loopg [0, 1] k (fun kq v0 v1 w' => ∃ (x0_1 : Int) (x1_1 : Int), v0 = .int .i64 x0_1 ∧ v1 = .int .i64 x1_1 ∧ Aside0 (impl_common.l0 kq x0_1 x1_1 = some r) ∧ Aside0 (kq ≤ k) ∧ Aside0 (Below w.heap.size w w'))
 case atStart => exact ⟨(ji3), (ji4), (by first | rfl | (simp; done) | (simp only [← hji3] <;> (first | rfl | simp)) | (simp [*]; done)), (by first | rfl | (simp; done) | (simp only [← hji4] <;> (first | rfl | simp)) | (simp [*]; done)), H', ⟨Nat.le_refl _⟩, ⟨by repeat (first | (with_reducible first | exact HB.out | apply below_alloc | apply pw_below_drewN | apply below_drew1) | exact HB.out)⟩⟩
 case round =>
  clear H'
  try clear p2
  try clear c4
  obtain ⟨x0_1, x1_1, rfl, rfl, HA, HK1, HB⟩ := hrel
  cases gk with
  | zero => exact absurd HA.out (by simp [impl_common.l0])
  | succ k1 =>
   have H := HA.out
   clear HA
   simp only [impl_common.l0] at H
   by_cases c5 : x1_1 = 0
   · rw [if_pos c5] at H
     have c5b0 : (x1_1 == 0) = true := beq_iff_eq.mpr c5
     have c5b1 : (x1_1 != 0) = false := bne_eq_false_iff_eq.mpr c5
     clear c5
     obtain rfl := Option.some.inj H
     go_wp2
     repeat (go_quiet (fail); try go_wp2)
     go_ret
     exact ⟨by first | rfl | (simp [errW_none, errW_some] <;> rfl) | (simp only [← hji3, ← hji4]; first | rfl | (simp [errW_none, errW_some] <;> rfl)) | (simp [*, errW_none, errW_some] <;> rfl), by repeat (first | (with_reducible first | exact HB.out | apply below_alloc | apply pw_below_drewN | apply below_drew1) | exact HB.out)⟩
   · rw [if_neg c5] at H
     have c5b0 : (x1_1 == 0) = false := beq_eq_false_iff_ne.mpr c5
     have c5b1 : (x1_1 != 0) = true := bne_iff_ne.mpr c5
     have H' := Aside0.mk H
     clear H
     go_wp2
     repeat (go_quiet (fail); try go_wp2)
     (first | go_roundg k1 | (try subst hji3; try subst hji4; go_roundg k1))
     case measure => have := HK1.out; omega
     case rel => exact ⟨(x1_1), (Int.tmod x0_1 x1_1), (by first | rfl | (simp; done) | (simp [*]; done)), (by first | rfl | (simp; done) | (simp [*]; done)), H', ⟨by have := HK1.out; omega⟩, ⟨by repeat (first | (with_reducible first | exact HB.out | apply below_alloc | apply pw_below_drewN | apply below_drew1) | exact HB.out)⟩⟩
def impl_lowest.f (k : Nat) (a0 : Int) (a1 : Int) : Option (Int × Int) := (impl_common.f k a0 a1).bind fun t277 => (if a1 < 0 then (if (wrap64 (-t277)) = 0 then (none) else (some (wrap64 (Int.tdiv a0 (wrap64 (-t277))), wrap64 (Int.tdiv a1 (wrap64 (-t277)))))) else (if t277 = 0 then (none) else (some (wrap64 (Int.tdiv a0 t277), wrap64 (Int.tdiv a1 t277)))))
def impl_lowest.T4 : Bool × List (List Nat × List Nat) := (true, [([], []), ([], []), ([0, 1], [0, 1]), ([], []), ([], []), ([3, 4], [3, 4]), ([2, 5], [2, 5]), ([6, 0, 1, 2, 3, 4, 5, 6], [6])])
def impl_lowest.B4 : List Nat := [0, 0, 3, 0, 0, 24, 63, 127]
theorem impl_lowest.tab4 : rtab .any (opsOf Try.f56 4) = impl_lowest.T4 := by kernel_rfl
theorem impl_lowest.bits4 : waitsOk impl_lowest.T4.2 impl_lowest.B4 = true := by kernel_rfl
set_option maxHeartbeats 8000000 in
set_option maxRecDepth 100000 in
theorem impl_lowest.calls (k : Nat) (a0 : Int) (a1 : Int) (r1 : Int) (r2 : Int) (w : World) (h : impl_lowest.f k a0 a1 = some (r1, r2)) :
 Calls Try.prog 56 #[.int .i64 a0, .int .i64 a1] w fun e w' => e = .returned (.agg #[.int .i64 r1, .int .i64 r2]) ∧ Below w.heap.size w w' := by
 have hu67 := Try.underlying67
 have HB := Aside0.mk (Below.refl w.heap.size w)
 have H : ((impl_common.f k a0 a1).bind fun t277 => (if a1 < 0 then (if (wrap64 (-t277)) = 0 then (none) else (some (wrap64 (Int.tdiv a0 (wrap64 (-t277))), wrap64 (Int.tdiv a1 (wrap64 (-t277)))))) else (if t277 = 0 then (none) else (some (wrap64 (Int.tdiv a0 t277), wrap64 (Int.tdiv a1 t277)))))) = some (r1, r2) := h
 clear h
 replace H := Option.bind_eq_some_iff.mp H
 obtain ⟨t277, A30, H⟩ := H
 replace H : (if a1 < 0 then (if (wrap64 (-t277)) = 0 then (none) else (some (wrap64 (Int.tdiv a0 (wrap64 (-t277))), wrap64 (Int.tdiv a1 (wrap64 (-t277)))))) else (if t277 = 0 then (none) else (some (wrap64 (Int.tdiv a0 t277), wrap64 (Int.tdiv a1 t277))))) = some (r1, r2) := H
 have A3 := Aside0.mk A30
 clear A30
 by_cases c4 : a1 < 0
 · rw [if_pos c4] at H
   have c4b0 : decide (a1 < 0) = true := decide_eq_true c4
   clear c4
   by_cases c5 : (wrap64 (-t277)) = 0
   · rw [if_pos c5] at H
     exact absurd H (by simp)
   · rw [if_neg c5] at H
     have c5b0 : ((wrap64 (-t277)) == 0) = false := beq_eq_false_iff_ne.mpr c5
     have c5b1 : ((wrap64 (-t277)) != 0) = true := bne_iff_ne.mpr c5
     simp only [Option.some.injEq, Prod.mk.injEq] at H
     obtain ⟨rfl, rfl⟩ := H
     go_enter Try.func56, Try.ntmps56
     try go_wp2_with (first | ((with_reducible refine gate_dst (N := 4) rfl ?_); refine box_event ?hg (N := 4) ?hd (cs := #[.int .i64 0, .int .i64 0]) (t := 67) ?hr ?_; (case hd => rfl); (case hg => rfl); (case hr => first | (go_simp; done) | (go_simp; rfl)); intro gb276 hg w6 hbox hb; have n0_ := Aside0.mk (below_step (by repeat (first | (with_reducible first | exact HB.out | apply below_alloc | apply pw_below_drewN | apply below_drew1) | exact HB.out)) hb); have n1_ := Aside0.mk (hbox); have n2_ := Aside0.mk ((by rw [hg]; exact (below_size (by repeat (first | (with_reducible first | exact HB.out | apply below_alloc | apply pw_below_drewN | apply below_drew1) | exact HB.out))) : w.heap.size ≤ gb276)); have n3_ := Aside0.mk ((by rw [hg]; exact (below_size (by repeat (first | (with_reducible first | exact HB.out | apply below_alloc | apply pw_below_drewN | apply below_drew1) | exact HB.out))) : w.heap.size ≤ gb276)); clear HB; have HB := n0_; have BK276 := n1_; have GW276 := n2_; have GE276 := n3_; clear n0_ n1_ n2_ n3_; clear hb hbox hg) | ((with_reducible refine gate_callee (f := 46) rfl ?_); refine goesL_ (some 8) rfl rfl Try.func46 (by kernel_rfl) rfl #[.int .i64 a0, .int .i64 a1] rfl (by (try simp only [List.map_toArray, List.map_cons, List.map_nil]); first | done | rfl | (simp only [List.length_drop, List.length_take]; rfl)) ?_; (with_reducible refine (impl_common.calls k a0 a1 t277 _ A3.out).mono ?_); rintro e w7 ⟨rfl, hb⟩; refine ⟨_, rfl, ?_⟩; have n0_ := Aside0.mk (blk_below (g := gb276) (o := .cells #[.int .i64 0, .int .i64 0] 67 (0, 0)) (by (with_reducible repeat (first | refine blk_drewN ?_ _ | refine blk_drew ?_ | refine blk_alloc ?_ _)); exact BK276.out) hb); have n1_ := Aside0.mk (below_step (by repeat (first | (with_reducible first | exact HB.out | apply below_alloc | apply pw_below_drewN | apply below_drew1 | refine below_set ?_ GE276.out) | exact HB.out)) hb); clear BK276; clear HB; have BK276 := n0_; have HB := n1_; clear n0_ n1_; (try clear hb); (try clear hb2); (try clear hk); (try clear hi)))
     have n0_ := Aside0.mk (blk_drew BK276.out)
     have n1_ := Aside0.mk (below_drew1 HB.out)
     clear BK276
     clear HB
     have BK276 := n0_
     have HB := n1_
     clear n0_ n1_
     refine start_ (n := 8) (S := fun w' => True) (ds := []) #[false, false, false, false, false, false, false, false] (by kernel_rfl) rfl rfl trivial (fun hHeld => ?_); refine with_tabW impl_lowest.tab4 impl_lowest.bits4 (fun HT_ HW_ => ?_)
     generalize w7.drew = w8 at BK276 HB hHeld ⊢
     refine pure_ (i := 0) (N := some 13) (v := ?_) (a' := ?_) #[true, false, false, false, false, false, false, false] rfl rfl (any_of HT_.out (by kernel_rfl)) (fun _ _ _ h => h) (Or.inl ⟨by rfl, ?_⟩) ?_ ?_
     rotate_left
     · intro w'
       go_simp
       with_reducible rfl
     rotate_left
     · simp only [Act.put, List.setIfInBounds_toArray, List.set_cons_zero, List.set_cons_succ, i64_w, i32_w]
       rfl
     refine pure_ (i := 1) (N := some 14) (v := ?_) (a' := ?_) #[true, true, false, false, false, false, false, false] rfl rfl (any_of HT_.out (by kernel_rfl)) (fun _ _ _ h => h) (Or.inl ⟨by rfl, ?_⟩) ?_ ?_
     rotate_left
     · intro w'
       go_simp
       with_reducible rfl
     rotate_left
     · simp only [Act.put, List.setIfInBounds_toArray, List.set_cons_zero, List.set_cons_succ, i64_w, i32_w]
       rfl
     refine pure_ (i := 2) (N := some 15) (v := ?_) (a' := ?_) #[true, true, true, false, false, false, false, false] rfl rfl (any_of HT_.out (by kernel_rfl)) (fun _ _ _ h => h) (Or.inl ⟨by rfl, ?_⟩) ?_ ?_
     rotate_left
     · intro w'
       go_simp
       with_reducible rfl
     rotate_left
     · simp only [Act.put, List.setIfInBounds_toArray, List.set_cons_zero, List.set_cons_succ, i64_w, i32_w]
       rfl
     refine pure_ (i := 3) (N := some 16) (v := ?_) (a' := ?_) #[true, true, true, true, false, false, false, false] rfl rfl (any_of HT_.out (by kernel_rfl)) (fun _ _ _ h => h) (Or.inl ⟨by rfl, ?_⟩) ?_ ?_
     rotate_left
     · intro w'
       go_simp
       with_reducible rfl
     rotate_left
     · simp only [Act.put, List.setIfInBounds_toArray, List.set_cons_zero, List.set_cons_succ, i64_w, i32_w]
       rfl
     refine pure_ (i := 4) (N := some 17) (v := ?_) (a' := ?_) #[true, true, true, true, true, false, false, false] rfl rfl (any_of HT_.out (by kernel_rfl)) (fun _ _ _ h => h) (Or.inl ⟨by rfl, ?_⟩) ?_ ?_
     rotate_left
     · intro w'
       go_simp
       with_reducible rfl
     rotate_left
     · simp only [Act.put, List.setIfInBounds_toArray, List.set_cons_zero, List.set_cons_succ, i64_w, i32_w]
       rfl
     refine pure_ (i := 5) (N := some 18) (v := ?_) (a' := ?_) #[true, true, true, true, true, true, false, false] rfl rfl (any_of HT_.out (by kernel_rfl)) (fun _ _ _ h => h) (Or.inl ⟨by rfl, ?_⟩) ?_ ?_
     rotate_left
     · intro w'
       go_simp
       with_reducible rfl
     rotate_left
     · simp only [Act.put, List.setIfInBounds_toArray, List.set_cons_zero, List.set_cons_succ, i64_w, i32_w]
       rfl
     refine pure_ (i := 6) (N := some 19) (v := ?_) (a' := ?_) #[true, true, true, true, true, true, true, false] rfl rfl (any_of HT_.out (by kernel_rfl)) (fun _ _ _ h => h) (Or.inl ⟨by rfl, ?_⟩) ?_ ?_
     rotate_left
     · intro w'
       go_simp
       with_reducible rfl
     rotate_left
     · simp only [Act.put, List.setIfInBounds_toArray, List.set_cons_zero, List.set_cons_succ, i64_w, i32_w]
       rfl
     refine one_ (i := 7) (N := none) #[true, true, true, true, true, true, true, true] rfl rfl (one_of HT_.out (by kernel_rfl)) (by decide) (fun K hK => ?_)
     have hs9 : w8.cell? ⟨gb276, 0, none⟩ = some (.int .i64 0) := (blk_cell BK276.out 0).trans rfl
     have hfs9 := blk_frozen BK276.out 0
     have hs10 : w8.cell? ⟨gb276, 1, none⟩ = some (.int .i64 0) := (blk_cell BK276.out 1).trans rfl
     have hfs10 := blk_frozen BK276.out 1
     refine skip_ (w1 := ?_) (by rfl) rfl ?_ ?_
     rotate_left
     · go_simp
       rfl
     refine hK.out _ _ trivial (fun hHeld => ?_)
     clear hK K
     refine done_ (done_of HT_.out (by kernel_rfl)) ?_
     try go_wp2
     refine bodyPost_ret (results_cell_row rfl _ _ gb276 67 #[.int .i64 (wrap64 (Int.tdiv a0 (wrap64 (-t277)))), .int .i64 (wrap64 (Int.tdiv a1 (wrap64 (-t277))))] (0, 0) _ rfl (by (with_reducible repeat (first | refine blk_drewN ?_ _ | refine blk_drew ?_ | refine blk_alloc ?_ _)); refine blk_put (cs := #[.int .i64 (wrap64 (Int.tdiv a0 (wrap64 (-t277)))), .int .i64 0]) ?_ 1 _ rfl; (with_reducible repeat (first | refine blk_drewN ?_ _ | refine blk_drew ?_ | refine blk_alloc ?_ _)); refine blk_put (cs := #[.int .i64 0, .int .i64 0]) ?_ 0 _ rfl; (with_reducible repeat (first | refine blk_drewN ?_ _ | refine blk_drew ?_ | refine blk_alloc ?_ _)); exact BK276.out) Try.underlying67 rfl (by kernel_rfl)) rfl ?_
     exact ⟨by first | rfl | (simp [errW_none, errW_some] <;> rfl) | (simp [*, errW_none, errW_some] <;> rfl), by repeat (first | (with_reducible first | exact HB.out | apply below_alloc | apply pw_below_drewN | apply below_drew1 | refine below_set ?_ GE276.out) | exact HB.out)⟩
 · rw [if_neg c4] at H
   have c4b0 : decide (a1 < 0) = false := decide_eq_false c4
   clear c4
   by_cases c11 : t277 = 0
   · rw [if_pos c11] at H
     exact absurd H (by simp)
   · rw [if_neg c11] at H
     have c11b0 : (t277 == 0) = false := beq_eq_false_iff_ne.mpr c11
     have c11b1 : (t277 != 0) = true := bne_iff_ne.mpr c11
     simp only [Option.some.injEq, Prod.mk.injEq] at H
     obtain ⟨rfl, rfl⟩ := H
     go_enter Try.func56, Try.ntmps56
     try go_wp2_with (first | ((with_reducible refine gate_dst (N := 4) rfl ?_); refine box_event ?hg (N := 4) ?hd (cs := #[.int .i64 0, .int .i64 0]) (t := 67) ?hr ?_; (case hd => rfl); (case hg => rfl); (case hr => first | (go_simp; done) | (go_simp; rfl)); intro gb276 hg w12 hbox hb; have n0_ := Aside0.mk (below_step (by repeat (first | (with_reducible first | exact HB.out | apply below_alloc | apply pw_below_drewN | apply below_drew1) | exact HB.out)) hb); have n1_ := Aside0.mk (hbox); have n2_ := Aside0.mk ((by rw [hg]; exact (below_size (by repeat (first | (with_reducible first | exact HB.out | apply below_alloc | apply pw_below_drewN | apply below_drew1) | exact HB.out))) : w.heap.size ≤ gb276)); have n3_ := Aside0.mk ((by rw [hg]; exact (below_size (by repeat (first | (with_reducible first | exact HB.out | apply below_alloc | apply pw_below_drewN | apply below_drew1) | exact HB.out))) : w.heap.size ≤ gb276)); clear HB; have HB := n0_; have BK276 := n1_; have GW276 := n2_; have GE276 := n3_; clear n0_ n1_ n2_ n3_; clear hb hbox hg) | ((with_reducible refine gate_callee (f := 46) rfl ?_); refine goesL_ (some 8) rfl rfl Try.func46 (by kernel_rfl) rfl #[.int .i64 a0, .int .i64 a1] rfl (by (try simp only [List.map_toArray, List.map_cons, List.map_nil]); first | done | rfl | (simp only [List.length_drop, List.length_take]; rfl)) ?_; (with_reducible refine (impl_common.calls k a0 a1 t277 _ A3.out).mono ?_); rintro e w13 ⟨rfl, hb⟩; refine ⟨_, rfl, ?_⟩; have n0_ := Aside0.mk (blk_below (g := gb276) (o := .cells #[.int .i64 0, .int .i64 0] 67 (0, 0)) (by (with_reducible repeat (first | refine blk_drewN ?_ _ | refine blk_drew ?_ | refine blk_alloc ?_ _)); exact BK276.out) hb); have n1_ := Aside0.mk (below_step (by repeat (first | (with_reducible first | exact HB.out | apply below_alloc | apply pw_below_drewN | apply below_drew1 | refine below_set ?_ GE276.out) | exact HB.out)) hb); clear BK276; clear HB; have BK276 := n0_; have HB := n1_; clear n0_ n1_; (try clear hb); (try clear hb2); (try clear hk); (try clear hi)))
     have n0_ := Aside0.mk (blk_drew BK276.out)
     have n1_ := Aside0.mk (below_drew1 HB.out)
     clear BK276
     clear HB
     have BK276 := n0_
     have HB := n1_
     clear n0_ n1_
     refine start_ (n := 8) (S := fun w' => True) (ds := []) #[false, false, false, false, false, false, false, false] (by kernel_rfl) rfl rfl trivial (fun hHeld => ?_); refine with_tabW impl_lowest.tab4 impl_lowest.bits4 (fun HT_ HW_ => ?_)
     generalize w13.drew = w14 at BK276 HB hHeld ⊢
     refine pure_ (i := 0) (N := some 13) (v := ?_) (a' := ?_) #[true, false, false, false, false, false, false, false] rfl rfl (any_of HT_.out (by kernel_rfl)) (fun _ _ _ h => h) (Or.inl ⟨by rfl, ?_⟩) ?_ ?_
     rotate_left
     · intro w'
       go_simp
       with_reducible rfl
     rotate_left
     · simp only [Act.put, List.setIfInBounds_toArray, List.set_cons_zero, List.set_cons_succ, i64_w, i32_w]
       rfl
     refine pure_ (i := 1) (N := some 14) (v := ?_) (a' := ?_) #[true, true, false, false, false, false, false, false] rfl rfl (any_of HT_.out (by kernel_rfl)) (fun _ _ _ h => h) (Or.inl ⟨by rfl, ?_⟩) ?_ ?_
     rotate_left
     · intro w'
       go_simp
       with_reducible rfl
     rotate_left
     · simp only [Act.put, List.setIfInBounds_toArray, List.set_cons_zero, List.set_cons_succ, i64_w, i32_w]
       rfl
     refine pure_ (i := 2) (N := some 15) (v := ?_) (a' := ?_) #[true, true, true, false, false, false, false, false] rfl rfl (any_of HT_.out (by kernel_rfl)) (fun _ _ _ h => h) (Or.inl ⟨by rfl, ?_⟩) ?_ ?_
     rotate_left
     · intro w'
       go_simp
       with_reducible rfl
     rotate_left
     · simp only [Act.put, List.setIfInBounds_toArray, List.set_cons_zero, List.set_cons_succ, i64_w, i32_w]
       rfl
     refine pure_ (i := 3) (N := some 16) (v := ?_) (a' := ?_) #[true, true, true, true, false, false, false, false] rfl rfl (any_of HT_.out (by kernel_rfl)) (fun _ _ _ h => h) (Or.inl ⟨by rfl, ?_⟩) ?_ ?_
     rotate_left
     · intro w'
       go_simp
       with_reducible rfl
     rotate_left
     · simp only [Act.put, List.setIfInBounds_toArray, List.set_cons_zero, List.set_cons_succ, i64_w, i32_w]
       rfl
     refine pure_ (i := 4) (N := some 17) (v := ?_) (a' := ?_) #[true, true, true, true, true, false, false, false] rfl rfl (any_of HT_.out (by kernel_rfl)) (fun _ _ _ h => h) (Or.inl ⟨by rfl, ?_⟩) ?_ ?_
     rotate_left
     · intro w'
       go_simp
       with_reducible rfl
     rotate_left
     · simp only [Act.put, List.setIfInBounds_toArray, List.set_cons_zero, List.set_cons_succ, i64_w, i32_w]
       rfl
     refine pure_ (i := 5) (N := some 18) (v := ?_) (a' := ?_) #[true, true, true, true, true, true, false, false] rfl rfl (any_of HT_.out (by kernel_rfl)) (fun _ _ _ h => h) (Or.inl ⟨by rfl, ?_⟩) ?_ ?_
     rotate_left
     · intro w'
       go_simp
       with_reducible rfl
     rotate_left
     · simp only [Act.put, List.setIfInBounds_toArray, List.set_cons_zero, List.set_cons_succ, i64_w, i32_w]
       rfl
     refine pure_ (i := 6) (N := some 19) (v := ?_) (a' := ?_) #[true, true, true, true, true, true, true, false] rfl rfl (any_of HT_.out (by kernel_rfl)) (fun _ _ _ h => h) (Or.inl ⟨by rfl, ?_⟩) ?_ ?_
     rotate_left
     · intro w'
       go_simp
       with_reducible rfl
     rotate_left
     · simp only [Act.put, List.setIfInBounds_toArray, List.set_cons_zero, List.set_cons_succ, i64_w, i32_w]
       rfl
     refine one_ (i := 7) (N := none) #[true, true, true, true, true, true, true, true] rfl rfl (one_of HT_.out (by kernel_rfl)) (by decide) (fun K hK => ?_)
     have hs15 : w14.cell? ⟨gb276, 0, none⟩ = some (.int .i64 0) := (blk_cell BK276.out 0).trans rfl
     have hfs15 := blk_frozen BK276.out 0
     have hs16 : w14.cell? ⟨gb276, 1, none⟩ = some (.int .i64 0) := (blk_cell BK276.out 1).trans rfl
     have hfs16 := blk_frozen BK276.out 1
     refine skip_ (w1 := ?_) (by rfl) rfl ?_ ?_
     rotate_left
     · go_simp
       rfl
     refine hK.out _ _ trivial (fun hHeld => ?_)
     clear hK K
     refine done_ (done_of HT_.out (by kernel_rfl)) ?_
     try go_wp2
     refine bodyPost_ret (results_cell_row rfl _ _ gb276 67 #[.int .i64 (wrap64 (Int.tdiv a0 t277)), .int .i64 (wrap64 (Int.tdiv a1 t277))] (0, 0) _ rfl (by (with_reducible repeat (first | refine blk_drewN ?_ _ | refine blk_drew ?_ | refine blk_alloc ?_ _)); refine blk_put (cs := #[.int .i64 (wrap64 (Int.tdiv a0 t277)), .int .i64 0]) ?_ 1 _ rfl; (with_reducible repeat (first | refine blk_drewN ?_ _ | refine blk_drew ?_ | refine blk_alloc ?_ _)); refine blk_put (cs := #[.int .i64 0, .int .i64 0]) ?_ 0 _ rfl; (with_reducible repeat (first | refine blk_drewN ?_ _ | refine blk_drew ?_ | refine blk_alloc ?_ _)); exact BK276.out) Try.underlying67 rfl (by kernel_rfl)) rfl ?_
     exact ⟨by first | rfl | (simp [errW_none, errW_some] <;> rfl) | (simp [*, errW_none, errW_some] <;> rfl), by repeat (first | (with_reducible first | exact HB.out | apply below_alloc | apply pw_below_drewN | apply below_drew1 | refine below_set ?_ GE276.out) | exact HB.out)⟩
end Go.Proofs.Ytlpegpmcnimfbaa.PFnExactChanceToEnd
