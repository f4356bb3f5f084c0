-- written by a program of this session (the kit's print with turns of the session's own)
import Derived.Test.YtlpegpmcnimfbaaPFnExactSharesOfStatesx0
import Derived.Test.YtlpegpmcnimfbaaPFnExactSharesOfStatesx9
namespace Go.Proofs.Ytlpegpmcnimfbaa.PFnExactSharesOfStates
open Go.RowKit Go.Proofs.YtlpegpmcnimfbaaW.PrintWords Go.Proofs.YtlpegpmcnimfbaaW.PrintLast Go.Proofs.YtlpegpmcnimfbaaW.PrintMore
attribute [local go_sem] Instr.field asAgg part max2_int min2_int max_two min_two max_three min_three max_four min_four
set_option linter.unusedVariables false
set_option linter.unusedSimpArgs false
def impl_solved.l3 : Nat → S67 → List S67 → Int → Int → List S67 → Option (List S67)
 | 0, _, _, _, _, _ => none
 | k + 1, b, p, n, c, x => if c < n then (if 0 ≤ c then ((impl_frac_times.f k b.f0 b.f1 (rd_T67 p c).f0 (rd_T67 p c).f1).bind fun t => (impl_frac_minus.f k (rd_T67 x c).f0 (rd_T67 x c).f1 t.1 t.2).bind fun u => impl_solved.l3 k b p n (wrap64 (c + 1)) (x.set c.toNat ⟨u.1, u.2⟩)) else none) else some x
def impl_solved.l2 : Nat → Int → Int → Int → List (List S67) → Option (List (List S67))
 | 0, _, _, _, _ => none
 | k + 1, n, i, j, T => if j < n then (if 0 ≤ j then (if j = i then impl_solved.l2 k n i (wrap64 (j + 1)) T else (if (rd_T67 (T.getD j.toNat []) i).f0 = 0 then impl_solved.l2 k n i (wrap64 (j + 1)) T else ((impl_frac_over.f k (rd_T67 (T.getD j.toNat []) i).f0 (rd_T67 (T.getD j.toNat []) i).f1 (rd_T67 (T.getD i.toNat []) i).f0 (rd_T67 (T.getD i.toNat []) i).f1).bind fun b => (impl_solved.l3 k ⟨b.1, b.2⟩ (T.getD i.toNat []) ((T.getD j.toNat []).length : Int) 0 (T.getD j.toNat [])).bind fun y => impl_solved.l2 k n i (wrap64 (j + 1)) (T.set j.toNat y)))) else none) else some T
def impl_solved.l0 : Nat → Int → Int → List (List S67) → Option (List (List S67))
 | 0, _, _, _ => none
 | k + 1, n, i, T => if i < n then (if 0 ≤ i then (if (rd_T67 (T.getD i.toNat []) i).f0 = 0 then none else ((impl_solved.l2 k n i 0 T).bind fun T' => impl_solved.l0 k n (wrap64 (i + 1)) T')) else none) else some T
def impl_solved.l4 : Nat → Int → List (List S67) → Int → List S67 → Option (List S67)
 | 0, _, _, _, _ => none
 | k + 1, n, T, i, x => if i < n then (if 0 ≤ i then ((impl_frac_over.f k (rd_T67 (T.getD i.toNat []) n).f0 (rd_T67 (T.getD i.toNat []) n).f1 (rd_T67 (T.getD i.toNat []) i).f0 (rd_T67 (T.getD i.toNat []) i).f1).bind fun u => impl_solved.l4 k n T (wrap64 (i + 1)) (x.set i.toNat ⟨u.1, u.2⟩)) else none) else some x
def impl_solved.f (k : Nat) (l0 : List (List S67)) : Option (List S67) := if (∀ x ∈ l0, x.length = l0.length + 1) then (if 0 < l0.length then (if l0.length ≤ 1000000 then ((impl_solved.l0 k (l0.length : Int) 0 l0).bind fun T => impl_solved.l4 k (l0.length : Int) T 0 (List.replicate l0.length z67)) else none) else none) else none
structure impl_solved.M (w : World) (g : Nat) (tc : Array Value) (gr : Nat → Nat) (n : Nat) (T : List (List S67)) : Prop where
 tab : w.heap[g]? = some (.cells tc 65 (0, 0))
 len : T.length = n
 row : ∀ k, k < n → ∃ cs : Array Value, w.heap[gr k]? = some (.cells cs 67 (0, 0)) ∧ (T.getD k []).length = n + 1 ∧ ∀ c, c < n + 1 → cs[c * 2]? = some (.int .i64 (rd_T67 (T.getD k []) (c : Int)).f0) ∧ cs[c * 2 + 1]? = some (.int .i64 (rd_T67 (T.getD k []) (c : Int)).f1)
structure impl_solved.St (base : Nat) (ok : Nat → Prop) (g : Nat) (tc : Array Value) (gr cp : Nat → Nat) (n : Nat) : Prop where
 hd : ∀ k, k < n → tc[k]? = some (.slice (some ⟨gr k, 0, none⟩) (n + 1) (cp k))
 ne : ∀ k, k < n → gr k ≠ g
 inj : ∀ j k, j < n → k < n → gr j = gr k → j = k
 ge : base ≤ g
 ger : ∀ k, k < n → base ≤ gr k
 pg : ok g
 pr : ∀ k, k < n → ok (gr k)
theorem impl_solved.open {w : World} {base : Nat} {ok : Nat → Prop} {u : Value} {T : List (List S67)} (h : Kd.S (Kd.slice 67 k67) 65 w base ok u T) (hn : 0 < T.length) (hl : ∀ x ∈ T, x.length = T.length + 1) :
 ∃ (g cap : Nat) (tc : Array Value) (gr cp : Nat → Nat), u = .slice (some ⟨g, 0, none⟩) T.length cap ∧ impl_solved.St base ok g tc gr cp T.length ∧ impl_solved.M w g tc gr T.length T := by
 obtain ⟨f, h0, inner, ⟨hlen, ho⟩, hr⟩ := h
 rw [List.length_zipIdx] at hlen ho
 rcases ho with ⟨_, hz⟩ | ⟨g, cap, tc, rfl, hb, hh, h1, h2, h3, h4⟩
 · omega
 · have hel : ∀ k, k < T.length → ∃ (gk ck : Nat) (cs : Array Value), tc[k]? = some (.slice (some ⟨gk, 0, none⟩) (T.length + 1) ck) ∧ base ≤ gk ∧ ok gk ∧ f gk = k ∧ gk ≠ g ∧ w.heap[gk]? = some (.cells cs 67 (0, 0)) ∧ (T.getD k []).length = T.length + 1 ∧ ∀ c, c < T.length + 1 → cs[c * 2]? = some (.int .i64 (rd_T67 (T.getD k []) (c : Int)).f0) ∧ cs[c * 2 + 1]? = some (.int .i64 (rd_T67 (T.getD k []) (c : Int)).f1) := by
    intro k hk
    have hTk : T[k]? = some T[k] := List.getElem?_eq_getElem hk
    have hgd : T.getD k [] = T[k] := by rw [List.getD_eq_getElem?_getD, hTk]; rfl
    have hlk : T[k].length = T.length + 1 := hl _ (List.getElem_mem hk)
    obtain ⟨v, hv, hR⟩ := hr.2 k (T[k], k) (Kd.zip_at hTk)
    obtain ⟨hR0, inn, ⟨il, io⟩, ir⟩ := hR
    rcases io with ⟨_, hz⟩ | ⟨gk, ck, cs, rfl, kb, kh, k1, k2, k3, k4⟩
    · simp only at hz hlk
      omega
    · have hcell : tc[k]? = some (.slice (some ⟨gk, 0, none⟩) T[k].length ck) := by
       have e : inner[k]? = some (.slice (some ⟨gk, 0, none⟩) T[k].length ck) := by
        have e1 : ((inner.drop (k * 1)).take 1)[0]? = some (Value.slice (some ⟨gk, 0, none⟩) T[k].length ck) := by
         have e2 : (inner.drop (k * (Kd.tag f (Kd.slice 67 k67)).sz)).take (Kd.tag f (Kd.slice 67 k67)).sz = [Value.slice (some ⟨gk, 0, none⟩) T[k].length ck] := hv
         rw [show (Kd.tag f (Kd.slice 67 k67)).sz = 1 from rfl] at e2
         rw [e2]; rfl
        rw [List.getElem?_take_of_lt (by omega), List.getElem?_drop] at e1
        simpa using e1
       rw [← h4, List.getElem?_take_of_lt (by rw [show (Kd.tag f (Kd.slice 67 k67)).sz = 1 from rfl]; omega)] at e
       rw [← Array.getElem?_toList]
       exact e
      have hok := hR0 gk rfl
      refine ⟨gk, ck, cs, by rw [hcell, hlk], kb, hok.1.1, hok.2, fun e => hok.1.2 (by rw [e]; rfl), kh, by rw [hgd]; exact hlk, fun c hc => ?_⟩
      have hc' : c < T[k].length := by omega
      have hck : T[k][c]? = some T[k][c] := List.getElem?_eq_getElem hc'
      have hm := k67_openM (ir.2 c T[k][c] hck)
      rw [show (k67).sz = 2 from rfl] at hm
      rw [show (k67).sz = 2 from rfl] at il k4
      have hrd : rd_T67 (T.getD k []) (c : Int) = T[k][c] := by
       rw [hgd]
       show T[k].getD (c : Int).toNat _ = _
       rw [Int.toNat_natCast, List.getD_eq_getElem?_getD, hck]
       rfl
      have hi : ∀ q, q < 2 → inn[c * 2 + q]? = [Value.int .i64 T[k][c].f0, .int .i64 T[k][c].f1][q]? := by
       intro q hq
       rw [← hm, List.getElem?_take_of_lt hq, List.getElem?_drop]
      have hcs : ∀ q, q < 2 → cs[c * 2 + q]? = [Value.int .i64 T[k][c].f0, .int .i64 T[k][c].f1][q]? := by
       intro q hq
       rw [← hi q hq, ← k4, List.getElem?_take_of_lt (show c * 2 + q < T[k].length * 2 by omega), Array.getElem?_toList]
      rw [hrd]
      exact ⟨hcs 0 (by decide), hcs 1 (by decide)⟩
   have hel' : ∀ k, ∃ (gk ck : Nat), k < T.length → ∃ cs : Array Value, tc[k]? = some (.slice (some ⟨gk, 0, none⟩) (T.length + 1) ck) ∧ base ≤ gk ∧ ok gk ∧ f gk = k ∧ gk ≠ g ∧ w.heap[gk]? = some (.cells cs 67 (0, 0)) ∧ (T.getD k []).length = T.length + 1 ∧ ∀ c, c < T.length + 1 → cs[c * 2]? = some (.int .i64 (rd_T67 (T.getD k []) (c : Int)).f0) ∧ cs[c * 2 + 1]? = some (.int .i64 (rd_T67 (T.getD k []) (c : Int)).f1) := by
    intro k
    by_cases hk : k < T.length
    · obtain ⟨gk, ck, h⟩ := hel k hk
      exact ⟨gk, ck, fun _ => h⟩
    · exact ⟨0, 0, fun h => absurd h hk⟩
   have hch := fun k => Classical.choose_spec (Classical.choose_spec (hel' k))
   refine ⟨g, cap, tc, fun k => Classical.choose (hel' k), fun k => Classical.choose (Classical.choose_spec (hel' k)), rfl, ⟨fun k hk => ?_, fun k hk => ?_, fun j k hj hk e => ?_, hb, fun k hk => ?_, h0 g rfl, fun k hk => ?_⟩, ⟨hh, rfl, fun k hk => ?_⟩⟩
   · obtain ⟨cs, a1, a2, a3, a4, a5, a6⟩ := hch k hk; exact a1
   · obtain ⟨cs, a1, a2, a3, a4, a5, a6⟩ := hch k hk; exact a5
   · obtain ⟨cs, a1, a2, a3, a4, a5, a6⟩ := hch k hk
     obtain ⟨cs', b1, b2, b3, b4, b5, b6⟩ := hch j hj
     have e' : Classical.choose (hel' j) = Classical.choose (hel' k) := e
     rw [← a4, ← b4, e']
   · obtain ⟨cs, a1, a2, a3, a4, a5, a6⟩ := hch k hk; exact a2
   · obtain ⟨cs, a1, a2, a3, a4, a5, a6⟩ := hch k hk; exact a3
   · obtain ⟨cs, a1, a2, a3, a4, a5, a6, a7⟩ := hch k hk; exact ⟨cs, a6, a7⟩
section
variable {w w' : World} {g n : Nat} {tc : Array Value} {gr cp : Nat → Nat} {T : List (List S67)} {base : Nat} {ok : Nat → Prop}
theorem impl_solved.M.step (h : impl_solved.M w g tc gr n T) (hg : w'.heap[g]? = w.heap[g]?) (hr : ∀ k, k < n → w'.heap[gr k]? = w.heap[gr k]?) : impl_solved.M w' g tc gr n T :=
 ⟨hg.trans h.tab, h.len, fun k hk => by obtain ⟨cs, h1, h2⟩ := h.row k hk; exact ⟨cs, (hr k hk).trans h1, h2⟩⟩
theorem impl_solved.M.below (h : impl_solved.M w g tc gr n T) (hb : Below w.heap.size w w') : impl_solved.M w' g tc gr n T :=
 h.step (hb.block g (blk_lt h.tab)) (fun k hk => by obtain ⟨cs, h1, h2⟩ := h.row k hk; exact hb.block _ (blk_lt h1))
theorem impl_solved.M.drew (h : impl_solved.M w g tc gr n T) : impl_solved.M w.drew g tc gr n T := h.step rfl (fun _ _ => rfl)
theorem impl_solved.M.drewN (h : impl_solved.M w g tc gr n T) (m : Nat) : impl_solved.M (w.drewN m) g tc gr n T := h.step rfl (fun _ _ => rfl)
theorem impl_solved.M.head (h : impl_solved.M w g tc gr n T) (s : impl_solved.St base ok g tc gr cp n) {k : Nat} (hk : k < n) : w.cell? ⟨g, k, none⟩ = some (.slice (some ⟨gr k, 0, none⟩) (n + 1) (cp k)) ∧ w.frozen? ⟨g, k, none⟩ = false :=
 ⟨(blk_cell h.tab k).trans (s.hd k hk), blk_frozen h.tab k⟩
theorem impl_solved.M.cell (h : impl_solved.M w g tc gr n T) {k c : Nat} (hk : k < n) (hc : c < n + 1) : w.cell? ⟨gr k, c * 2, none⟩ = some (.int .i64 (rd_T67 (T.getD k []) (c : Int)).f0) ∧ w.cell? ⟨gr k, c * 2 + 1, none⟩ = some (.int .i64 (rd_T67 (T.getD k []) (c : Int)).f1) := by
 obtain ⟨cs, h1, _, h3⟩ := h.row k hk
 exact ⟨(blk_cell h1 _).trans (h3 c hc).1, (blk_cell h1 _).trans (h3 c hc).2⟩
theorem impl_solved.M.frozen (h : impl_solved.M w g tc gr n T) {k c : Nat} (hk : k < n) : w.frozen? ⟨gr k, c, none⟩ = false := by
 obtain ⟨cs, h1, _, h3⟩ := h.row k hk
 exact blk_frozen h1 _
theorem impl_solved.M.lt (h : impl_solved.M w g tc gr n T) {k : Nat} (hk : k < n) : gr k < w.heap.size := by
 obtain ⟨cs, h1, _⟩ := h.row k hk
 exact blk_lt h1
theorem impl_solved.M.reset (h : impl_solved.M w g tc gr n T) (s : impl_solved.St base ok g tc gr cp n) {k : Nat} (hk : k < n) : impl_solved.M (w.setCell ⟨g, k, none⟩ (.slice (some ⟨gr k, 0, none⟩) (n + 1) (cp k))) g tc gr n T := by
 refine ⟨blk_put h.tab k _ ?_, h.len, fun j hj => ?_⟩
 · have := s.hd k hk
   obtain ⟨hlt, e⟩ := Array.getElem?_eq_some_iff.1 this
   apply Array.ext (by simp)
   intro q h1 h2
   rw [Array.getElem_setIfInBounds (by simpa using h1)]
   split
   · rename_i e2
     subst e2
     exact e.symm
   · rfl
 · obtain ⟨cs, h1, h2⟩ := h.row j hj
   exact ⟨cs, blk_far h1 (s.ne j hj) _, h2⟩
theorem impl_solved.M.set (h : impl_solved.M w g tc gr n T) (s : impl_solved.St base ok g tc gr cp n) {k c : Nat} (hk : k < n) (hc : c < n + 1) (a b : Int) :
 impl_solved.M ((w.setCell ⟨gr k, c * 2, none⟩ (.int .i64 a)).setCell ⟨gr k, c * 2 + 1, none⟩ (.int .i64 b)) g tc gr n (T.set k ((T.getD k []).set c ⟨a, b⟩)) := by
 have hT := h.len
 refine ⟨blk_far (blk_far h.tab (s.ne k hk).symm _) (s.ne k hk).symm _, by rw [List.length_set]; exact h.len, fun j hj => ?_⟩
 obtain ⟨cs, h1, h2, h3⟩ := h.row j hj
 by_cases e : j = k
 · subst e
   have eg : (T.set j ((T.getD j []).set c ⟨a, b⟩)).getD j [] = (T.getD j []).set c ⟨a, b⟩ := by
    rw [List.getD_eq_getElem?_getD, List.getElem?_set_self (by omega)]
    rfl
   rw [eg, List.length_set]
   refine ⟨_, blk_set (blk_set h1 _ _) _ _, h2, fun q hq => ?_⟩
   have h4 := h3 q hq
   have hcs : c * 2 + 1 < cs.size := by
    have h5 := (h3 c hc).2
    exact (Array.getElem?_eq_some_iff.1 h5).1
   by_cases eq : q = c
   · subst eq
     have er : rd_T67 ((T.getD j []).set q ⟨a, b⟩) (q : Int) = ⟨a, b⟩ := by
      show ((T.getD j []).set q ⟨a, b⟩).getD (q : Int).toNat _ = _
      rw [Int.toNat_natCast, List.getD_eq_getElem?_getD, List.getElem?_set_self (by omega)]
      rfl
     rw [er]
     constructor
     · rw [Array.getElem?_setIfInBounds_ne (by omega), Array.getElem?_setIfInBounds_self_of_lt (by omega)]
     · rw [Array.getElem?_setIfInBounds_self_of_lt (by simp; omega)]
   · have er : rd_T67 ((T.getD j []).set c ⟨a, b⟩) (q : Int) = rd_T67 (T.getD j []) (q : Int) := by
      show ((T.getD j []).set c ⟨a, b⟩).getD (q : Int).toNat _ = (T.getD j []).getD (q : Int).toNat _
      rw [Int.toNat_natCast, List.getD_eq_getElem?_getD, List.getElem?_set_ne (by omega), ← List.getD_eq_getElem?_getD]
     rw [er]
     constructor
     · rw [Array.getElem?_setIfInBounds_ne (by omega), Array.getElem?_setIfInBounds_ne (by omega)]; exact h4.1
     · rw [Array.getElem?_setIfInBounds_ne (by omega), Array.getElem?_setIfInBounds_ne (by omega)]; exact h4.2
 · have eg : (T.set k ((T.getD k []).set c ⟨a, b⟩)).getD j [] = T.getD j [] := by
    rw [List.getD_eq_getElem?_getD, List.getElem?_set_ne (by omega), ← List.getD_eq_getElem?_getD]
   rw [eg]
   exact ⟨cs, blk_far (blk_far h1 (fun e2 => e (s.inj j k hj hk e2)) _) (fun e2 => e (s.inj j k hj hk e2)) _, h2, h3⟩
end
theorem impl_solved.M.far {w : World} {g n : Nat} {tc : Array Value} {gr : Nat → Nat} {T : List (List S67)} (h : impl_solved.M w g tc gr n T) {p : Addr} (hg : g ≠ p.block) (hr : ∀ k, k < n → gr k ≠ p.block) (u : Value) : impl_solved.M (w.setCell p u) g tc gr n T :=
 h.step (Below.heap_setCell w p u g hg) (fun k hk => Below.heap_setCell w p u (gr k) (hr k hk))
theorem impl_solved.M.new {w W : World} {g n : Nat} {tc : Array Value} {gr : Nat → Nat} {T : List (List S67)} (h : impl_solved.M w g tc gr n T) {q : Nat} (hq : w.heap.size ≤ q) : g ≠ q ∧ ∀ k, k < n → gr k ≠ q :=
 ⟨by have := blk_lt h.tab; omega, fun k hk => by have := h.lt hk; omega⟩
theorem impl_solved.set_self {U : List (List S67)} {j : Nat} (hj : j < U.length) : U.set j (U.getD j []) = U := by
 rw [List.getD_eq_getElem?_getD, List.getElem?_eq_getElem hj]
 exact List.set_getElem_self hj
theorem impl_solved.set_get {U : List (List S67)} {j : Nat} (hj : j < U.length) (x : List S67) : (U.set j x).getD j [] = x := by
 rw [List.getD_eq_getElem?_getD, List.getElem?_set_self hj]
 rfl
theorem impl_solved.set_other {U : List (List S67)} {i j : Nat} (h : j ≠ i) (x : List S67) : (U.set j x).getD i [] = U.getD i [] := by
 rw [List.getD_eq_getElem?_getD, List.getElem?_set_ne h, ← List.getD_eq_getElem?_getD]
set_option maxHeartbeats 8000000 in
set_option maxRecDepth 100000 in
theorem impl_solved.calls (k : Nat) (P0_ : Nat → Prop) (u9000_ : Value) (l0 : List (List S67)) (r : List S67) (w0 w : World) (hB : Below w0.heap.size w0 w) (ho0 : Kd.S (Kd.slice 67 k67) 65 w w0.heap.size P0_ u9000_ l0) (h : impl_solved.f k l0 = some r) :
 Calls Try.prog 59 #[u9000_] w fun e w' => ∃ v0_ : Value, e = .returned v0_ ∧ Kd.R k67 67 w' w0.heap.size (fun k_ => (P0_ k_ ∨ w.heap.size ≤ k_)) v0_ r ∧ Below w0.heap.size w0 w' ∧ Kept w w' (fun k_ => P0_ k_) := by
 have hu67 := Try.underlying67
 unfold impl_solved.f at h
 by_cases c1 : (∀ x ∈ l0, x.length = l0.length + 1)
 · rw [if_pos c1] at h
   by_cases c2 : 0 < l0.length
   · rw [if_pos c2] at h
     by_cases c3 : l0.length ≤ 1000000
     · rw [if_pos c3] at h
       replace h := Option.bind_eq_some_iff.mp h
       obtain ⟨T1, hA, hF⟩ := h
       obtain ⟨g, cap, tc, gr, cp, rfl, hs, hm⟩ := impl_solved.open ho0 c2 c1
       generalize l0.length = n at c2 c3 hA hF hs hm ⊢
       have HS := Aside0.mk hs
       have HM := Aside0.mk hm
       have HA := Aside0.mk hA
       have HF := Aside0.mk hF
       have HB := Aside0.mk hB
       have HK := Aside0.mk (Kept.refl w (fun k_ => P0_ k_))
       clear hs hm hA hF hB ho0 c1
       go_enter Try.func59, Try.ntmps59
       go_wp2
       go_loopg [16] k (fun kq v16 w' => ∃ (i : Nat) (T : List (List S67)), v16 = .int .i64 i ∧ Aside0 (i ≤ n) ∧ Aside0 (impl_solved.l0 kq n i T = some T1) ∧ Aside0 (kq ≤ k) ∧ Aside0 (impl_solved.M w' g tc gr n T) ∧ Aside0 (Below w0.heap.size w0 w') ∧ Aside0 (Kept w w' (fun k_ => P0_ k_)))
       case atStart => exact ⟨0, l0, rfl, ⟨Nat.zero_le _⟩, HA, ⟨Nat.le_refl _⟩, ⟨by repeat (first | exact HM.out | apply impl_solved.M.drew | apply impl_solved.M.drewN)⟩, ⟨by repeat (first | exact HB.out | apply below_drew1 | apply pw_below_drewN | apply below_alloc)⟩, ⟨by repeat (first | exact HK.out | apply Kept.drewN | apply Kept.drew | apply Kept.alloc)⟩⟩
       case round =>
        clear HA HM HB HK
        obtain ⟨i, T, rfl, HI, HA, HQ, HM, HB, HK⟩ := hrel
        cases gk with
        | zero => exact absurd HA.out (by simp [impl_solved.l0])
        | succ k1 =>
         have H := HA.out
         clear HA
         simp only [impl_solved.l0] at H
         by_cases c4 : (i : Int) < (n : Int)
         · rw [if_pos c4, if_pos (by omega)] at H
           by_cases c5 : (rd_T67 (T.getD ((i : Int)).toNat []) (i : Int)).f0 = 0
           · rw [if_pos c5] at H; cases H
           · rw [if_neg c5] at H
             replace H := Option.bind_eq_some_iff.mp H
             obtain ⟨T2, h2, H⟩ := H
             have H2 := Aside0.mk h2
             have H' := Aside0.mk H
             have hin : i < n := by omega
             rw [Int.toNat_natCast] at c5
             obtain ⟨pv, hpv⟩ : ∃ z, z = (rd_T67 (T.getD i []) (i : Int)).f0 := ⟨_, rfl⟩
             have HP := Aside0.mk hpv
             rw [← hpv] at c5
             clear hpv
             have hx1 := (HM.out.head HS.out hin).1
             have hx2 := (HM.out.cell hin (show i < n + 1 by omega)).1
             rw [← HP.out] at hx2
             have c5b : (pv == 0) = false := beq_eq_false_iff_ne.mpr c5
             have p1 : (0 ≤ (i : Int)) = True := eq_true (by omega)
             have q1 : ((i : Int) < (n : Int)) = True := eq_true c4
             have q2 : ((i : Int) < (n : Int) + 1) = True := eq_true (by omega)
             have c4b : decide ((i : Int) < (n : Int)) = true := decide_eq_true c4
             clear h2 H c4 c5
             go_wp2
             go_loopg [5] 0 (fun kq v5 w' => v5 = .int .i64 i ∧ Aside0 (impl_solved.M w' g tc gr n T) ∧ Aside0 (Below w0.heap.size w0 w') ∧ Aside0 (Kept w w' (fun k_ => P0_ k_)))
             case atStart => exact ⟨rfl, ⟨by repeat (first | exact HM.out | apply impl_solved.M.drew | apply impl_solved.M.drewN)⟩, ⟨by repeat (first | exact HB.out | apply below_drew1 | apply pw_below_drewN | apply below_alloc)⟩, ⟨by repeat (first | exact HK.out | apply Kept.drewN | apply Kept.drew | apply Kept.alloc)⟩⟩
             case round =>
              clear hx1 hx2 HM HB HK
              obtain ⟨rfl, HM, HB, HK⟩ := hrel
              have hx1 := (HM.out.head HS.out hin).1
              have hx2 := (HM.out.cell hin (show i < n + 1 by omega)).1
              rw [← HP.out] at hx2
              go_wp2
              refine start_ (n := 16) (S := fun w' => w'.cell? ⟨g, i, none⟩ = some (.slice (some ⟨gr i, 0, none⟩) (n + 1) (cp i))) (ds := [15]) #[false, false, false, false, false, false, false, false, false, false, false, false, false, false, false, false] (by kernel_rfl) rfl rfl hx1 (fun hHeld => ?_)
              have HM1 := Aside0.mk HM.out.drew
              have HB1 := Aside0.mk (below_drew1 HB.out)
              have HK1 := Aside0.mk HK.out.drew
              clear HM HB HK hx1 hx2
              generalize wr.drew = w1 at HM1 HB1 HK1 hHeld ⊢
              refine pure_ (i := 0) (N := some 31) (v := ?_) (a' := ?_) #[true, false, false, false, false, false, false, false, false, false, false, false, false, false, false, false] rfl rfl (by kernel_rfl) (fun _ _ _ h => h) (Or.inl ⟨by rfl, ?_⟩) ?_ ?_
              rotate_left
              · intro w'
                go_simp
                with_reducible rfl
              rotate_left
              · simp only [Act.put, List.setIfInBounds_toArray, List.set_cons_zero, List.set_cons_succ, i64_w, i32_w]
                rfl
              refine pure_ (i := 1) (N := some 32) (v := ?_) (a' := ?_) #[true, true, false, false, false, false, false, false, false, false, false, false, false, false, false, false] rfl rfl (by kernel_rfl) (fun _ _ _ h => h) (Or.inl ⟨by rfl, ?_⟩) ?_ ?_
              rotate_left
              · intro w'
                go_simp
                with_reducible rfl
              rotate_left
              · simp only [Act.put, List.setIfInBounds_toArray, List.set_cons_zero, List.set_cons_succ, i64_w, i32_w]
                rfl
              refine pure_ (i := 2) (N := some 33) (v := ?_) (a' := ?_) #[true, true, true, false, false, false, false, false, false, false, false, false, false, false, false, false] rfl rfl (by kernel_rfl) (fun _ _ _ h => h) (Or.inl ⟨by rfl, ?_⟩) ?_ ?_
              rotate_left
              · intro w'
                go_simp
                with_reducible rfl
              rotate_left
              · simp only [Act.put, List.setIfInBounds_toArray, List.set_cons_zero, List.set_cons_succ, i64_w, i32_w]
                rfl
              refine pure_ (i := 3) (N := some 34) (v := ?_) (a' := ?_) #[true, true, true, true, false, false, false, false, false, false, false, false, false, false, false, false] rfl rfl (by kernel_rfl) (fun _ _ _ h => h) (Or.inl ⟨by rfl, ?_⟩) ?_ ?_
              rotate_left
              · intro w'
                go_simp
                with_reducible rfl
              rotate_left
              · simp only [Act.put, List.setIfInBounds_toArray, List.set_cons_zero, List.set_cons_succ, i64_w, i32_w]
                rfl
              refine pure_ (i := 4) (N := some 35) (v := ?_) (a' := ?_) #[true, true, true, true, true, false, false, false, false, false, false, false, false, false, false, false] rfl rfl (by kernel_rfl) (fun _ _ _ h => h) (Or.inl ⟨by rfl, ?_⟩) ?_ ?_
              rotate_left
              · intro w'
                go_simp
                with_reducible rfl
              rotate_left
              · simp only [Act.put, List.setIfInBounds_toArray, List.set_cons_zero, List.set_cons_succ, i64_w, i32_w]
                rfl
              refine pure_ (i := 5) (N := some 36) (v := ?_) (a' := ?_) #[true, true, true, true, true, true, false, false, false, false, false, false, false, false, false, false] rfl rfl (by kernel_rfl) (fun _ _ _ h => h) (Or.inl ⟨by rfl, ?_⟩) ?_ ?_
              rotate_left
              · intro w'
                go_simp
                with_reducible rfl
              rotate_left
              · simp only [Act.put, List.setIfInBounds_toArray, List.set_cons_zero, List.set_cons_succ, i64_w, i32_w]
                rfl
              refine pure_ (i := 6) (N := some 37) (v := ?_) (a' := ?_) #[true, true, true, true, true, true, true, false, false, false, false, false, false, false, false, false] rfl rfl (by kernel_rfl) (fun _ _ _ h => h) (Or.inl ⟨by rfl, ?_⟩) ?_ ?_
              rotate_left
              · intro w'
                go_simp
                with_reducible rfl
              rotate_left
              · simp only [Act.put, List.setIfInBounds_toArray, List.set_cons_zero, List.set_cons_succ, i64_w, i32_w]
                rfl
              refine take_ (i := 7) (N := some 38) (v := ?_) (a' := ?_) #[true, true, true, true, true, true, true, true, false, false, false, false, false, false, false, false] rfl rfl (by kernel_rfl) (fun _ _ _ h => h) (Or.inl ⟨by rfl, ?_⟩) hHeld ?_ ?_
              rotate_left
              · rintro w' s0
                go_simp
                with_reducible rfl
              rotate_left
              · simp only [Act.put, List.setIfInBounds_toArray, List.set_cons_zero, List.set_cons_succ, i64_w, i32_w]
                rfl
              refine pure_ (i := 8) (N := some 39) (v := ?_) (a' := ?_) #[true, true, true, true, true, true, true, true, true, false, false, false, false, false, false, false] rfl rfl (by kernel_rfl) (fun _ _ _ h => h) (Or.inl ⟨by rfl, ?_⟩) ?_ ?_
              rotate_left
              · intro w'
                go_simp
                with_reducible rfl
              rotate_left
              · simp only [Act.put, List.setIfInBounds_toArray, List.set_cons_zero, List.set_cons_succ, i64_w, i32_w]
                rfl
              refine pure_ (i := 9) (N := some 40) (v := ?_) (a' := ?_) #[true, true, true, true, true, true, true, true, true, true, false, false, false, false, false, false] rfl rfl (by kernel_rfl) (fun _ _ _ h => h) (Or.inl ⟨by rfl, ?_⟩) ?_ ?_
              rotate_left
              · intro w'
                go_simp
                with_reducible rfl
              rotate_left
              · simp only [Act.put, List.setIfInBounds_toArray, List.set_cons_zero, List.set_cons_succ, i64_w, i32_w]
                rfl
              refine pure_ (i := 10) (N := some 41) (v := ?_) (a' := ?_) #[true, true, true, true, true, true, true, true, true, true, true, false, false, false, false, false] rfl rfl (by kernel_rfl) (fun _ _ _ h => h) (Or.inl ⟨by rfl, ?_⟩) ?_ ?_
              rotate_left
              · intro w'
                go_simp
                with_reducible rfl
              rotate_left
              · simp only [Act.put, List.setIfInBounds_toArray, List.set_cons_zero, List.set_cons_succ, i64_w, i32_w]
                rfl
              refine take_ (i := 11) (N := some 42) (v := ?_) (a' := ?_) #[true, true, true, true, true, true, true, true, true, true, true, true, false, false, false, false] rfl rfl (by kernel_rfl) (fun _ _ _ h => h) (Or.inl ⟨by rfl, ?_⟩) hHeld ?_ ?_
              rotate_left
              · rintro w' s0
                go_simp
                with_reducible rfl
              rotate_left
              · simp only [Act.put, List.setIfInBounds_toArray, List.set_cons_zero, List.set_cons_succ, i64_w, i32_w]
                rfl
              refine pure_ (i := 12) (N := some 43) (v := ?_) (a' := ?_) #[true, true, true, true, true, true, true, true, true, true, true, true, true, false, false, false] rfl rfl (by kernel_rfl) (fun _ _ _ h => h) (Or.inl ⟨by rfl, ?_⟩) ?_ ?_
              rotate_left
              · intro w'
                go_simp
                with_reducible rfl
              rotate_left
              · simp only [Act.put, List.setIfInBounds_toArray, List.set_cons_zero, List.set_cons_succ, i64_w, i32_w]
                rfl
              refine one_ (i := 13) (N := none) #[true, true, true, true, true, true, true, true, true, true, true, true, true, true, false, false] rfl rfl (by kernel_rfl) (by decide) (fun K hK => ?_)
              have hf1 := (HM1.out.head HS.out hin).2
              refine skip_ (w1 := ?_) (by rfl) rfl ?_ ?_
              rotate_left
              · go_simp
                rfl
              have HM2 := Aside0.mk (HM1.out.reset HS.out hin)
              have HB2 := Aside0.mk (below_set (j := i) (v := .slice (some ⟨gr i, 0, none⟩) (n + 1) (cp i)) HB1.out HS.out.ge)
              have HK2 := Aside0.mk (HK1.out.setCell (p := ⟨g, i, none⟩) (Or.inl HS.out.pg) (.slice (some ⟨gr i, 0, none⟩) (n + 1) (cp i)))
              clear HM1 HB1 HK1 hf1
              generalize (w1.setCell ⟨g, i, none⟩ (.slice (some ⟨gr i, 0, none⟩) (n + 1) (cp i))) = w2 at HM2 HB2 HK2 ⊢
              refine hK.out _ _ (HM2.out.head HS.out hin).1 (fun hHeld => ?_)
              clear hK K
              refine pure_ (i := 14) (N := some 44) (v := ?_) (a' := ?_) #[true, true, true, true, true, true, true, true, true, true, true, true, true, true, true, false] rfl rfl (by kernel_rfl) (fun _ _ _ h => h) (Or.inl ⟨by rfl, ?_⟩) ?_ ?_
              rotate_left
              · intro w'
                go_simp
                with_reducible rfl
              rotate_left
              · simp only [Act.put, List.setIfInBounds_toArray, List.set_cons_zero, List.set_cons_succ, i64_w, i32_w]
                rfl
              refine last_ (i := 15) (N := none) #[true, true, true, true, true, true, true, true, true, true, true, true, true, true, true, true] rfl rfl (by kernel_rfl) (by decide) (fun K hK => ?_)
              have hf1 := (HM2.out.head HS.out hin).2
              have hx1 := (HM2.out.head HS.out hin).1
              refine skip_ (w1 := ?_) (by rfl) rfl ?_ ?_
              rotate_left
              · go_simp
                rfl
              have HM := Aside0.mk (HM2.out.reset HS.out hin)
              have HB := Aside0.mk (below_set (j := i) (v := .slice (some ⟨gr i, 0, none⟩) (n + 1) (cp i)) HB2.out HS.out.ge)
              have HK := Aside0.mk (HK2.out.setCell (p := ⟨g, i, none⟩) (Or.inl HS.out.pg) (.slice (some ⟨gr i, 0, none⟩) (n + 1) (cp i)))
              clear HM2 HB2 HK2 hf1 hx1 hHeld
              generalize (w2.setCell ⟨g, i, none⟩ (.slice (some ⟨gr i, 0, none⟩) (n + 1) (cp i))) = w3 at HM HB HK ⊢
              refine hK.out _ _ ?_
              clear hK K
              refine done_ (by kernel_rfl) ?_
              go_wp2
              go_loopg [47] k1 (fun kq v47 w' => ∃ (j : Nat) (U : List (List S67)), v47 = .int .i64 j ∧ Aside0 (j ≤ n) ∧ Aside0 (impl_solved.l2 kq n i j U = some T2) ∧ Aside0 (kq ≤ k1) ∧ Aside0 (impl_solved.M w' g tc gr n U) ∧ Aside0 (Below w0.heap.size w0 w') ∧ Aside0 (Kept w w' (fun k_ => P0_ k_)))
              case atStart => exact ⟨0, T, rfl, ⟨Nat.zero_le _⟩, H2, ⟨Nat.le_refl _⟩, ⟨by repeat (first | exact HM.out | apply impl_solved.M.drew | apply impl_solved.M.drewN)⟩, ⟨by repeat (first | exact HB.out | apply below_drew1 | apply pw_below_drewN | apply below_alloc)⟩, ⟨by repeat (first | exact HK.out | apply Kept.drewN | apply Kept.drew | apply Kept.alloc)⟩⟩
              case round =>
               clear H2 HM HB HK HP
               obtain ⟨j, U, rfl, HJ, HA2, HQ2, HM, HB, HK⟩ := hrel
               cases gk with
               | zero => exact absurd HA2.out (by simp [impl_solved.l2])
               | succ k2 =>
                have H := HA2.out
                clear HA2
                simp only [impl_solved.l2] at H
                by_cases c6 : (j : Int) < (n : Int)
                · rw [if_pos c6, if_pos (by omega)] at H
                  have hjn : j < n := by omega
                  have hy1 := (HM.out.head HS.out hjn).1
                  have p6 : (0 ≤ (j : Int)) = True := eq_true (by omega)
                  have q6 : ((j : Int) < (n : Int)) = True := eq_true c6
                  have c6b : decide ((j : Int) < (n : Int)) = true := decide_eq_true c6
                  have ej : wrap64 ((j : Int) + 1) = ((j + 1 : Nat) : Int) := by unfold wrap64; omega
                  rw [ej] at H
                  have EJ := Aside0.mk ej
                  clear c6
                  by_cases c7 : (j : Int) = (i : Int)
                  · rw [if_pos c7] at H
                    have H3 := Aside0.mk H
                    have c7b : ((j : Int) == (i : Int)) = true := beq_iff_eq.mpr c7
                    clear c7 H ej
                    go_wp2
                    go_roundg k2
                    case measure => have := HQ2.out; omega
                    case rel => exact ⟨j + 1, U, by first | rfl | (rw [EJ.out]; rfl), ⟨hjn⟩, H3, ⟨by have := HQ2.out; omega⟩, ⟨by repeat (first | exact HM.out | apply impl_solved.M.drew | apply impl_solved.M.drewN)⟩, ⟨by repeat (first | exact HB.out | apply below_drew1 | apply pw_below_drewN | apply below_alloc)⟩, ⟨by repeat (first | exact HK.out | apply Kept.drewN | apply Kept.drew | apply Kept.alloc)⟩⟩
                  · rw [if_neg c7] at H
                    have c7b : ((j : Int) == (i : Int)) = false := beq_eq_false_iff_ne.mpr c7
                    have hji : j ≠ i := fun e => c7 (by rw [e])
                    rw [Int.toNat_natCast, Int.toNat_natCast] at H
                    have hy2 := (HM.out.cell hjn (show i < n + 1 by omega))
                    have hy3 := (HM.out.cell hin (show i < n + 1 by omega))
                    obtain ⟨ra, hra⟩ : ∃ z, z = rd_T67 (U.getD j []) (i : Int) := ⟨_, rfl⟩
                    obtain ⟨pa, hpa⟩ : ∃ z, z = rd_T67 (U.getD i []) (i : Int) := ⟨_, rfl⟩
                    rw [← hra] at hy2 H
                    rw [← hpa] at hy3 H
                    obtain ⟨hy2a, hy2b⟩ := hy2
                    obtain ⟨hy3a, hy3b⟩ := hy3
                    have hx1 := (HM.out.head HS.out hin).1
                    have HRA := Aside0.mk hra
                    have HPA := Aside0.mk hpa
                    clear hra hpa c7
                    by_cases c8 : ra.f0 = 0
                    · rw [if_pos c8] at H
                      have H3 := Aside0.mk H
                      have c8b : (ra.f0 == 0) = true := beq_iff_eq.mpr c8
                      clear c8 H ej
                      go_wp2
                      go_roundg k2
                      case measure => have := HQ2.out; omega
                      case rel => exact ⟨j + 1, U, by first | rfl | (rw [EJ.out]; rfl), ⟨hjn⟩, H3, ⟨by have := HQ2.out; omega⟩, ⟨by repeat (first | exact HM.out | apply impl_solved.M.drew | apply impl_solved.M.drewN)⟩, ⟨by repeat (first | exact HB.out | apply below_drew1 | apply pw_below_drewN | apply below_alloc)⟩, ⟨by repeat (first | exact HK.out | apply Kept.drewN | apply Kept.drew | apply Kept.alloc)⟩⟩
                    · rw [if_neg c8] at H
                      have c8b : (ra.f0 == 0) = false := beq_eq_false_iff_ne.mpr c8
                      replace H := Option.bind_eq_some_iff.mp H
                      obtain ⟨⟨b0, b1⟩, hb1, H⟩ := H
                      replace H := Option.bind_eq_some_iff.mp H
                      obtain ⟨y, hy, H⟩ := H
                      have HBY := Aside0.mk hb1
                      have HY := Aside0.mk hy
                      have H3 := Aside0.mk H
                      clear hb1 hy H c8 ej
                      go_wp2
                      refine start_ (n := 14) (S := fun w' => w'.cell? ⟨gr j, i * 2, none⟩ = some (.int .i64 ra.f0) ∧ w'.cell? ⟨gr j, i * 2 + 1, none⟩ = some (.int .i64 ra.f1) ∧ w'.cell? ⟨g, i, none⟩ = some (.slice (some ⟨gr i, 0, none⟩) (n + 1) (cp i)) ∧ w'.cell? ⟨gr i, i * 2, none⟩ = some (.int .i64 pa.f0) ∧ w'.cell? ⟨gr i, i * 2 + 1, none⟩ = some (.int .i64 pa.f1)) (ds := [13]) #[false, false, false, false, false, false, false, false, false, false, false, false, false, false] (by kernel_rfl) rfl rfl ⟨hy2a, hy2b, hx1, hy3a, hy3b⟩ (fun hHeld => ?_)
                      have HM1 := Aside0.mk HM.out.drew
                      have HB1 := Aside0.mk (below_drew1 HB.out)
                      have HK1 := Aside0.mk HK.out.drew
                      clear HM HB HK hx1 hy2a hy2b hy3a hy3b hy1
                      generalize wr.drew = w1 at HM1 HB1 HK1 hHeld ⊢
                      refine pure_ (i := 0) (N := some 63) (v := ?_) (a' := ?_) #[true, false, false, false, false, false, false, false, false, false, false, false, false, false] rfl rfl (by kernel_rfl) (fun _ _ _ h => h) (Or.inl ⟨by rfl, ?_⟩) ?_ ?_
                      rotate_left
                      · intro w'
                        go_simp
                        with_reducible rfl
                      rotate_left
                      · simp only [Act.put, List.setIfInBounds_toArray, List.set_cons_zero, List.set_cons_succ, i64_w, i32_w]
                        rfl
                      refine pure_ (i := 1) (N := some 64) (v := ?_) (a' := ?_) #[true, true, false, false, false, false, false, false, false, false, false, false, false, false] rfl rfl (by kernel_rfl) (fun _ _ _ h => h) (Or.inl ⟨by rfl, ?_⟩) ?_ ?_
                      rotate_left
                      · intro w'
                        go_simp
                        with_reducible rfl
                      rotate_left
                      · simp only [Act.put, List.setIfInBounds_toArray, List.set_cons_zero, List.set_cons_succ, i64_w, i32_w]
                        rfl
                      refine pure_ (i := 2) (N := some 65) (v := ?_) (a' := ?_) #[true, true, true, false, false, false, false, false, false, false, false, false, false, false] rfl rfl (by kernel_rfl) (fun _ _ _ h => h) (Or.inl ⟨by rfl, ?_⟩) ?_ ?_
                      rotate_left
                      · intro w'
                        go_simp
                        with_reducible rfl
                      rotate_left
                      · simp only [Act.put, List.setIfInBounds_toArray, List.set_cons_zero, List.set_cons_succ, i64_w, i32_w]
                        rfl
                      refine take_ (i := 3) (N := some 66) (v := ?_) (a' := ?_) #[true, true, true, true, false, false, false, false, false, false, false, false, false, false] rfl rfl (by kernel_rfl) (fun _ _ _ h => h) (Or.inl ⟨by rfl, ?_⟩) hHeld ?_ ?_
                      rotate_left
                      · rintro w' ⟨s0, s1, s2, s3, s4⟩
                        go_simp
                        with_reducible rfl
                      rotate_left
                      · simp only [Act.put, List.setIfInBounds_toArray, List.set_cons_zero, List.set_cons_succ, i64_w, i32_w]
                        rfl
                      refine pure_ (i := 4) (N := some 67) (v := ?_) (a' := ?_) #[true, true, true, true, true, false, false, false, false, false, false, false, false, false] rfl rfl (by kernel_rfl) (fun _ _ _ h => h) (Or.inl ⟨by rfl, ?_⟩) ?_ ?_
                      rotate_left
                      · intro w'
                        go_simp
                        with_reducible rfl
                      rotate_left
                      · simp only [Act.put, List.setIfInBounds_toArray, List.set_cons_zero, List.set_cons_succ, i64_w, i32_w]
                        rfl
                      refine pure_ (i := 5) (N := some 68) (v := ?_) (a' := ?_) #[true, true, true, true, true, true, false, false, false, false, false, false, false, false] rfl rfl (by kernel_rfl) (fun _ _ _ h => h) (Or.inl ⟨by rfl, ?_⟩) ?_ ?_
                      rotate_left
                      · intro w'
                        go_simp
                        with_reducible rfl
                      rotate_left
                      · simp only [Act.put, List.setIfInBounds_toArray, List.set_cons_zero, List.set_cons_succ, i64_w, i32_w]
                        rfl
                      refine pure_ (i := 6) (N := some 69) (v := ?_) (a' := ?_) #[true, true, true, true, true, true, true, false, false, false, false, false, false, false] rfl rfl (by kernel_rfl) (fun _ _ _ h => h) (Or.inl ⟨by rfl, ?_⟩) ?_ ?_
                      rotate_left
                      · intro w'
                        go_simp
                        with_reducible rfl
                      rotate_left
                      · simp only [Act.put, List.setIfInBounds_toArray, List.set_cons_zero, List.set_cons_succ, i64_w, i32_w]
                        rfl
                      refine take_ (i := 7) (N := some 70) (v := ?_) (a' := ?_) #[true, true, true, true, true, true, true, true, false, false, false, false, false, false] rfl rfl (by kernel_rfl) (fun _ _ _ h => h) (Or.inl ⟨by rfl, ?_⟩) hHeld ?_ ?_
                      rotate_left
                      · rintro w' ⟨s0, s1, s2, s3, s4⟩
                        go_simp
                        with_reducible rfl
                      rotate_left
                      · simp only [Act.put, List.setIfInBounds_toArray, List.set_cons_zero, List.set_cons_succ, i64_w, i32_w]
                        rfl
                      refine pure_ (i := 8) (N := some 71) (v := ?_) (a' := ?_) #[true, true, true, true, true, true, true, true, true, false, false, false, false, false] rfl rfl (by kernel_rfl) (fun _ _ _ h => h) (Or.inl ⟨by rfl, ?_⟩) ?_ ?_
                      rotate_left
                      · intro w'
                        go_simp
                        with_reducible rfl
                      rotate_left
                      · simp only [Act.put, List.setIfInBounds_toArray, List.set_cons_zero, List.set_cons_succ, i64_w, i32_w]
                        rfl
                      refine pure_ (i := 9) (N := some 72) (v := ?_) (a' := ?_) #[true, true, true, true, true, true, true, true, true, true, false, false, false, false] rfl rfl (by kernel_rfl) (fun _ _ _ h => h) (Or.inl ⟨by rfl, ?_⟩) ?_ ?_
                      rotate_left
                      · intro w'
                        go_simp
                        with_reducible rfl
                      rotate_left
                      · simp only [Act.put, List.setIfInBounds_toArray, List.set_cons_zero, List.set_cons_succ, i64_w, i32_w]
                        rfl
                      refine take_ (i := 10) (N := some 73) (v := ?_) (a' := ?_) #[true, true, true, true, true, true, true, true, true, true, true, false, false, false] rfl rfl (by kernel_rfl) (fun _ _ _ h => h) (Or.inl ⟨by rfl, ?_⟩) hHeld ?_ ?_
                      rotate_left
                      · rintro w' ⟨s0, s1, s2, s3, s4⟩
                        go_simp
                        with_reducible rfl
                      rotate_left
                      · simp only [Act.put, List.setIfInBounds_toArray, List.set_cons_zero, List.set_cons_succ, i64_w, i32_w]
                        rfl
                      refine join_ (σ := Nat) 1 #[true, true, true, true, true, true, true, true, true, true, true, true, true, false] (fun gb => [(74, .agg #[.int .i64 b0, .int .i64 b1]), (8, .pointer (some ⟨gb, 0, none⟩))]) (fun gb w' => w'.heap[gb]? = some (.cells #[.int .i64 0, .int .i64 0] 67 (0, 0)) ∧ Below w1.heap.size w1 w' ∧ w1.heap.size ≤ gb) (fun gb w2 hF => ?_) (fun hcont => ?_)
                      rotate_left
                      · refine two_ (i := 11) (j := 12) #[true, true, true, true, true, true, true, true, true, true, true, true, false, false] #[true, true, true, true, true, true, true, true, true, true, true, false, true, false] rfl rfl rfl rfl (by kernel_rfl) (by decide) (by decide) (fun K hK => ?_) (fun K hK => ?_)
                        · refine goes_ Try.func78 (by kernel_rfl) rfl #[.agg #[.int .i64 ra.f0, .int .i64 ra.f1], .agg #[.int .i64 pa.f0, .int .i64 pa.f1]] (by rfl) rfl rfl (by (try simp only [List.map_toArray, List.map_cons, List.map_nil]); first | done | rfl | (simp only [List.length_drop, List.length_take]; rfl)) ?_
                          with_reducible refine (impl_frac_over.calls k2 ra.f0 ra.f1 pa.f0 pa.f1 b0 b1 _ HBY.out).mono ?_
                          rintro e w2 ⟨rfl, hb⟩
                          refine ⟨_, rfl, ?_⟩
                          have HBB := Aside0.mk hb
                          refine hK.out _ _ ⟨(hb.cell (World.block_lt_of_cell? _ _ hHeld.1)).trans hHeld.1, (hb.cell (World.block_lt_of_cell? _ _ hHeld.2.1)).trans hHeld.2.1, (hb.cell (World.block_lt_of_cell? _ _ hHeld.2.2.1)).trans hHeld.2.2.1, (hb.cell (World.block_lt_of_cell? _ _ hHeld.2.2.2.1)).trans hHeld.2.2.2.1, (hb.cell (World.block_lt_of_cell? _ _ hHeld.2.2.2.2)).trans hHeld.2.2.2.2⟩ (fun hHeld => ?_)
                          clear hK K hb
                          refine one_ (i := 12) (N := some 8) #[true, true, true, true, true, true, true, true, true, true, true, true, true, false] rfl rfl (by kernel_rfl) (by decide) (fun K hK => ?_)
                          refine value_ (v := ?_) (w1 := ?_) (by rfl) rfl ?_ ?_
                          rotate_left 2
                          · go_simp
                            refine And.intro ?_ ?_ <;> rfl
                          refine hK.out _ _ ⟨((below_alloc (Below.refl _ _) _).cell (World.block_lt_of_cell? _ _ hHeld.1)).trans hHeld.1, ((below_alloc (Below.refl _ _) _).cell (World.block_lt_of_cell? _ _ hHeld.2.1)).trans hHeld.2.1, ((below_alloc (Below.refl _ _) _).cell (World.block_lt_of_cell? _ _ hHeld.2.2.1)).trans hHeld.2.2.1, ((below_alloc (Below.refl _ _) _).cell (World.block_lt_of_cell? _ _ hHeld.2.2.2.1)).trans hHeld.2.2.2.1, ((below_alloc (Below.refl _ _) _).cell (World.block_lt_of_cell? _ _ hHeld.2.2.2.2)).trans hHeld.2.2.2.2⟩ (fun hHeld => ?_)
                          clear hK K
                          refine norm_ (a' := putAll _ [(74, .agg #[.int .i64 b0, .int .i64 b1]), (8, .pointer (some ⟨w2.heap.size, 0, none⟩))]) ?_ (hcont w2.heap.size _ ⟨blk_new _ _, below_alloc HBB.out _, HBB.out.size⟩)
                          simp only [putAll, Act.put, List.setIfInBounds_toArray, List.set_cons_zero, List.set_cons_succ, i64_w, i32_w]
                          rfl
                        · refine value_ (v := ?_) (w1 := ?_) (by rfl) rfl ?_ ?_
                          rotate_left 2
                          · go_simp
                            refine And.intro ?_ ?_ <;> rfl
                          refine hK.out _ _ ⟨((below_alloc (Below.refl _ _) _).cell (World.block_lt_of_cell? _ _ hHeld.1)).trans hHeld.1, ((below_alloc (Below.refl _ _) _).cell (World.block_lt_of_cell? _ _ hHeld.2.1)).trans hHeld.2.1, ((below_alloc (Below.refl _ _) _).cell (World.block_lt_of_cell? _ _ hHeld.2.2.1)).trans hHeld.2.2.1, ((below_alloc (Below.refl _ _) _).cell (World.block_lt_of_cell? _ _ hHeld.2.2.2.1)).trans hHeld.2.2.2.1, ((below_alloc (Below.refl _ _) _).cell (World.block_lt_of_cell? _ _ hHeld.2.2.2.2)).trans hHeld.2.2.2.2⟩ (fun hHeld => ?_)
                          clear hK K
                          refine one_ (i := 11) (N := some 74) #[true, true, true, true, true, true, true, true, true, true, true, true, true, false] rfl rfl (by kernel_rfl) (by decide) (fun K hK => ?_)
                          refine goes_ Try.func78 (by kernel_rfl) rfl #[.agg #[.int .i64 ra.f0, .int .i64 ra.f1], .agg #[.int .i64 pa.f0, .int .i64 pa.f1]] (by rfl) rfl rfl (by (try simp only [List.map_toArray, List.map_cons, List.map_nil]); first | done | rfl | (simp only [List.length_drop, List.length_take]; rfl)) ?_
                          with_reducible refine (impl_frac_over.calls k2 ra.f0 ra.f1 pa.f0 pa.f1 b0 b1 _ HBY.out).mono ?_
                          rintro e w2 ⟨rfl, hb⟩
                          refine ⟨_, rfl, ?_⟩
                          have HBB := Aside0.mk hb
                          refine hK.out _ _ ⟨(hb.cell (World.block_lt_of_cell? _ _ hHeld.1)).trans hHeld.1, (hb.cell (World.block_lt_of_cell? _ _ hHeld.2.1)).trans hHeld.2.1, (hb.cell (World.block_lt_of_cell? _ _ hHeld.2.2.1)).trans hHeld.2.2.1, (hb.cell (World.block_lt_of_cell? _ _ hHeld.2.2.2.1)).trans hHeld.2.2.2.1, (hb.cell (World.block_lt_of_cell? _ _ hHeld.2.2.2.2)).trans hHeld.2.2.2.2⟩ (fun hHeld => ?_)
                          clear hK K hb
                          refine norm_ (a' := putAll _ [(74, .agg #[.int .i64 b0, .int .i64 b1]), (8, .pointer (some ⟨w1.heap.size, 0, none⟩))]) ?_ (hcont w1.heap.size _ ⟨blk_below (blk_new _ _) HBB.out, below_step (below_alloc (Below.refl _ _) _) HBB.out, Nat.le_refl _⟩)
                          simp only [putAll, Act.put, List.setIfInBounds_toArray, List.set_cons_zero, List.set_cons_succ, i64_w, i32_w]
                          rfl
                      obtain ⟨hblk, hbel, hle⟩ := hF
                      have HM2 := Aside0.mk (HM1.out.below hbel)
                      have HB2 := Aside0.mk (below_step HB1.out hbel)
                      have HK2 := Aside0.mk (HK1.out.below hbel)
                      have hnew := Aside0.mk (impl_solved.M.new (W := w1) HM1.out hle)
                      have hgb := Aside0.mk (Nat.le_trans HB1.out.size hle)
                      have hgb2 := Aside0.mk (Nat.le_trans HK1.out.1 hle)
                      have hc0 := (blk_cell hblk 0).trans rfl
                      have hc1 := (blk_cell hblk 1).trans rfl
                      have hf0 := blk_frozen hblk 0
                      have hf1 := blk_frozen hblk 1
                      have HBL := Aside0.mk hblk
                      clear hblk hbel hle HM1 HB1 HK1 hHeld
                      refine norm_ (a' := ?_) ?_ ?_
                      rotate_left
                      · simp only [putAll, Act.put, List.setIfInBounds_toArray, List.set_cons_zero, List.set_cons_succ, i64_w, i32_w]
                        rfl
                      refine last_ (i := 13) (N := none) #[true, true, true, true, true, true, true, true, true, true, true, true, true, true] rfl rfl (by kernel_rfl) (by decide) (fun K hK => ?_)
                      refine skip_ (w1 := ?_) (by rfl) rfl ?_ ?_
                      rotate_left
                      · go_simp
                        rfl
                      have HM := Aside0.mk ((HM2.out.far (p := ⟨gb, 0, none⟩) hnew.out.1 hnew.out.2 (.int .i64 b0)).far (p := ⟨gb, 1, none⟩) hnew.out.1 hnew.out.2 (.int .i64 b1))
                      have HB := Aside0.mk (below_set (j := 1) (v := .int .i64 b1) (below_set (j := 0) (v := .int .i64 b0) HB2.out hgb.out) hgb.out)
                      have HK := Aside0.mk ((HK2.out.setCell (p := ⟨gb, 0, none⟩) (Or.inr hgb2.out) (.int .i64 b0)).setCell (p := ⟨gb, 1, none⟩) (Or.inr hgb2.out) (.int .i64 b1))
                      have HG := Aside0.mk (blk_put (cs' := #[.int .i64 b0, .int .i64 b1]) (blk_put (cs' := #[.int .i64 b0, .int .i64 0]) HBL.out 0 (.int .i64 b0) rfl) 1 (.int .i64 b1) rfl)
                      clear HM2 HB2 HK2 hc0 hc1 hf0 hf1 HBL
                      generalize ((w2.setCell ⟨gb, 0, none⟩ (.int .i64 b0)).setCell ⟨gb, 1, none⟩ (.int .i64 b1)) = w3 at HM HB HK HG ⊢
                      refine hK.out _ _ ?_
                      clear hK K
                      refine done_ (by kernel_rfl) ?_
                      go_wp2
                      have HL := Aside0.mk (show (U.getD j []).length = n + 1 from (HM.out.row j hjn).choose_spec.2.1)
                      go_loopg [77] k2 (fun kq v77 w' => ∃ (c : Nat) (x : List S67), v77 = .int .i64 c ∧ Aside0 (c ≤ n + 1) ∧ Aside0 (x.length = n + 1) ∧ Aside0 (impl_solved.l3 kq ⟨b0, b1⟩ (U.getD i []) ((n : Int) + 1) c x = some y) ∧ Aside0 (kq ≤ k2) ∧ Aside0 (impl_solved.M w' g tc gr n (U.set j x)) ∧ Aside0 (w'.heap[gb]? = some (.cells #[.int .i64 b0, .int .i64 b1] 67 (0, 0))) ∧ Aside0 (Below w0.heap.size w0 w') ∧ Aside0 (Kept w w' (fun k_ => P0_ k_)))
                      case atStart =>
                       have hjU : j < U.length := by have := HM.out.len; omega
                       exact ⟨0, U.getD j [], rfl, ⟨Nat.zero_le _⟩, HL, ⟨by have h_ := HY.out; rw [HL.out] at h_; exact h_⟩, ⟨Nat.le_refl _⟩, ⟨by rw [impl_solved.set_self hjU]; repeat (first | exact HM.out | apply impl_solved.M.drew | apply impl_solved.M.drewN)⟩, ⟨by repeat (first | exact HG.out | refine blk_drewN ?_ _ | refine blk_drew ?_ | refine blk_alloc ?_ _)⟩, ⟨by repeat (first | exact HB.out | apply below_drew1 | apply pw_below_drewN | apply below_alloc)⟩, ⟨by repeat (first | exact HK.out | apply Kept.drewN | apply Kept.drew | apply Kept.alloc)⟩⟩
                      case round =>
                       have HLU := Aside0.mk HM.out.len
                       clear HM HB HK HG HY HL HBY
                       obtain ⟨c, x, rfl, HC, HX, HA3, HQ3, HM, HG, HB, HK⟩ := hrel
                       cases gk with
                       | zero => exact absurd HA3.out (by simp [impl_solved.l3])
                       | succ k3 =>
                        have H := HA3.out
                        clear HA3
                        simp only [impl_solved.l3] at H
                        by_cases c9 : (c : Int) < (n : Int) + 1
                        · rw [if_pos c9, if_pos (by omega)] at H
                          have hcn : c < n + 1 := by omega
                          replace H := Option.bind_eq_some_iff.mp H
                          obtain ⟨⟨t0, t1⟩, ht, H⟩ := H
                          replace H := Option.bind_eq_some_iff.mp H
                          obtain ⟨⟨v0, v1⟩, hv, H⟩ := H
                          have ec : wrap64 ((c : Int) + 1) = ((c + 1 : Nat) : Int) := by unfold wrap64; omega
                          rw [ec, Int.toNat_natCast] at H
                          have H4 := Aside0.mk H
                          have hjU : j < U.length := by have := HLU.out; omega
                          have hz1 := HM.out.cell hjn hcn
                          have hz2 := HM.out.cell hin hcn
                          rw [impl_solved.set_get hjU x] at hz1
                          rw [impl_solved.set_other hji x] at hz2
                          obtain ⟨xa, hxa⟩ : ∃ z, z = rd_T67 x (c : Int) := ⟨_, rfl⟩
                          obtain ⟨pc, hpc⟩ : ∃ z, z = rd_T67 (U.getD i []) (c : Int) := ⟨_, rfl⟩
                          rw [← hxa] at hz1 hv
                          rw [← hpc] at hz2 ht
                          have HT := Aside0.mk ht
                          have HV := Aside0.mk hv
                          obtain ⟨hz1a, hz1b⟩ := hz1
                          obtain ⟨hz2a, hz2b⟩ := hz2
                          have hx1 := (HM.out.head HS.out hin).1
                          have p9 : (0 ≤ (c : Int)) = True := eq_true (by omega)
                          have q9 : ((c : Int) < (n : Int) + 1) = True := eq_true c9
                          have c9b : decide ((c : Int) < (n : Int) + 1) = true := decide_eq_true c9
                          have hb0 := (blk_cell HG.out 0).trans rfl
                          have hb1 := (blk_cell HG.out 1).trans rfl
                          have EC := Aside0.mk ec
                          clear ht hv H hxa hpc c9 ec
                          go_wp2
                          refine start_ (n := 18) (S := fun w' => w'.cell? ⟨gr j, c * 2, none⟩ = some (.int .i64 xa.f0) ∧ w'.cell? ⟨gr j, c * 2 + 1, none⟩ = some (.int .i64 xa.f1) ∧ w'.cell? ⟨gb, 0, none⟩ = some (.int .i64 b0) ∧ w'.cell? ⟨gb, 1, none⟩ = some (.int .i64 b1) ∧ w'.cell? ⟨g, i, none⟩ = some (.slice (some ⟨gr i, 0, none⟩) (n + 1) (cp i)) ∧ w'.cell? ⟨gr i, c * 2, none⟩ = some (.int .i64 pc.f0) ∧ w'.cell? ⟨gr i, c * 2 + 1, none⟩ = some (.int .i64 pc.f1)) (ds := [17]) #[false, false, false, false, false, false, false, false, false, false, false, false, false, false, false, false, false, false] (by kernel_rfl) rfl rfl ⟨hz1a, hz1b, hb0, hb1, hx1, hz2a, hz2b⟩ (fun hHeld => ?_)
                          have HM1 := Aside0.mk HM.out.drew
                          have HG1 := Aside0.mk (blk_drew HG.out)
                          have HB1 := Aside0.mk (below_drew1 HB.out)
                          have HK1 := Aside0.mk HK.out.drew
                          clear HM HG HB HK hx1 hz1a hz1b hz2a hz2b hb0 hb1
                          generalize wr.drew = w1 at HM1 HG1 HB1 HK1 hHeld ⊢
                          refine pure_ (i := 0) (N := some 80) (v := ?_) (a' := ?_) #[true, false, false, false, false, false, false, false, false, false, false, false, false, false, false, false, false, false] rfl rfl (by kernel_rfl) (fun _ _ _ h => h) (Or.inl ⟨by rfl, ?_⟩) ?_ ?_
                          rotate_left
                          · intro w'
                            go_simp
                            with_reducible rfl
                          rotate_left
                          · simp only [Act.put, List.setIfInBounds_toArray, List.set_cons_zero, List.set_cons_succ, i64_w, i32_w]
                            rfl
                          refine pure_ (i := 1) (N := some 81) (v := ?_) (a' := ?_) #[true, true, false, false, false, false, false, false, false, false, false, false, false, false, false, false, false, false] rfl rfl (by kernel_rfl) (fun _ _ _ h => h) (Or.inl ⟨by rfl, ?_⟩) ?_ ?_
                          rotate_left
                          · intro w'
                            go_simp
                            with_reducible rfl
                          rotate_left
                          · simp only [Act.put, List.setIfInBounds_toArray, List.set_cons_zero, List.set_cons_succ, i64_w, i32_w]
                            rfl
                          refine pure_ (i := 2) (N := some 82) (v := ?_) (a' := ?_) #[true, true, true, false, false, false, false, false, false, false, false, false, false, false, false, false, false, false] rfl rfl (by kernel_rfl) (fun _ _ _ h => h) (Or.inl ⟨by rfl, ?_⟩) ?_ ?_
                          rotate_left
                          · intro w'
                            go_simp
                            with_reducible rfl
                          rotate_left
                          · simp only [Act.put, List.setIfInBounds_toArray, List.set_cons_zero, List.set_cons_succ, i64_w, i32_w]
                            rfl
                          refine pure_ (i := 3) (N := some 83) (v := ?_) (a' := ?_) #[true, true, true, true, false, false, false, false, false, false, false, false, false, false, false, false, false, false] rfl rfl (by kernel_rfl) (fun _ _ _ h => h) (Or.inl ⟨by rfl, ?_⟩) ?_ ?_
                          rotate_left
                          · intro w'
                            go_simp
                            with_reducible rfl
                          rotate_left
                          · simp only [Act.put, List.setIfInBounds_toArray, List.set_cons_zero, List.set_cons_succ, i64_w, i32_w]
                            rfl
                          refine pure_ (i := 4) (N := some 84) (v := ?_) (a' := ?_) #[true, true, true, true, true, false, false, false, false, false, false, false, false, false, false, false, false, false] rfl rfl (by kernel_rfl) (fun _ _ _ h => h) (Or.inl ⟨by rfl, ?_⟩) ?_ ?_
                          rotate_left
                          · intro w'
                            go_simp
                            with_reducible rfl
                          rotate_left
                          · simp only [Act.put, List.setIfInBounds_toArray, List.set_cons_zero, List.set_cons_succ, i64_w, i32_w]
                            rfl
                          refine take_ (i := 5) (N := some 85) (v := ?_) (a' := ?_) #[true, true, true, true, true, true, false, false, false, false, false, false, false, false, false, false, false, false] rfl rfl (by kernel_rfl) (fun _ _ _ h => h) (Or.inl ⟨by rfl, ?_⟩) hHeld ?_ ?_
                          rotate_left
                          · rintro w' ⟨s0, s1, s2, s3, s4, s5, s6⟩
                            go_simp
                            with_reducible rfl
                          rotate_left
                          · simp only [Act.put, List.setIfInBounds_toArray, List.set_cons_zero, List.set_cons_succ, i64_w, i32_w]
                            rfl
                          refine take_ (i := 6) (N := some 86) (v := ?_) (a' := ?_) #[true, true, true, true, true, true, true, false, false, false, false, false, false, false, false, false, false, false] rfl rfl (by kernel_rfl) (fun _ _ _ h => h) (Or.inl ⟨by rfl, ?_⟩) hHeld ?_ ?_
                          rotate_left
                          · rintro w' ⟨s0, s1, s2, s3, s4, s5, s6⟩
                            go_simp
                            with_reducible rfl
                          rotate_left
                          · simp only [Act.put, List.setIfInBounds_toArray, List.set_cons_zero, List.set_cons_succ, i64_w, i32_w]
                            rfl
                          refine pure_ (i := 7) (N := some 87) (v := ?_) (a' := ?_) #[true, true, true, true, true, true, true, true, false, false, false, false, false, false, false, false, false, false] rfl rfl (by kernel_rfl) (fun _ _ _ h => h) (Or.inl ⟨by rfl, ?_⟩) ?_ ?_
                          rotate_left
                          · intro w'
                            go_simp
                            with_reducible rfl
                          rotate_left
                          · simp only [Act.put, List.setIfInBounds_toArray, List.set_cons_zero, List.set_cons_succ, i64_w, i32_w]
                            rfl
                          refine pure_ (i := 8) (N := some 88) (v := ?_) (a' := ?_) #[true, true, true, true, true, true, true, true, true, false, false, false, false, false, false, false, false, false] rfl rfl (by kernel_rfl) (fun _ _ _ h => h) (Or.inl ⟨by rfl, ?_⟩) ?_ ?_
                          rotate_left
                          · intro w'
                            go_simp
                            with_reducible rfl
                          rotate_left
                          · simp only [Act.put, List.setIfInBounds_toArray, List.set_cons_zero, List.set_cons_succ, i64_w, i32_w]
                            rfl
                          refine pure_ (i := 9) (N := some 89) (v := ?_) (a' := ?_) #[true, true, true, true, true, true, true, true, true, true, false, false, false, false, false, false, false, false] rfl rfl (by kernel_rfl) (fun _ _ _ h => h) (Or.inl ⟨by rfl, ?_⟩) ?_ ?_
                          rotate_left
                          · intro w'
                            go_simp
                            with_reducible rfl
                          rotate_left
                          · simp only [Act.put, List.setIfInBounds_toArray, List.set_cons_zero, List.set_cons_succ, i64_w, i32_w]
                            rfl
                          refine take_ (i := 10) (N := some 90) (v := ?_) (a' := ?_) #[true, true, true, true, true, true, true, true, true, true, true, false, false, false, false, false, false, false] rfl rfl (by kernel_rfl) (fun _ _ _ h => h) (Or.inl ⟨by rfl, ?_⟩) hHeld ?_ ?_
                          rotate_left
                          · rintro w' ⟨s0, s1, s2, s3, s4, s5, s6⟩
                            go_simp
                            with_reducible rfl
                          rotate_left
                          · simp only [Act.put, List.setIfInBounds_toArray, List.set_cons_zero, List.set_cons_succ, i64_w, i32_w]
                            rfl
                          refine pure_ (i := 11) (N := some 91) (v := ?_) (a' := ?_) #[true, true, true, true, true, true, true, true, true, true, true, true, false, false, false, false, false, false] rfl rfl (by kernel_rfl) (fun _ _ _ h => h) (Or.inl ⟨by rfl, ?_⟩) ?_ ?_
                          rotate_left
                          · intro w'
                            go_simp
                            with_reducible rfl
                          rotate_left
                          · simp only [Act.put, List.setIfInBounds_toArray, List.set_cons_zero, List.set_cons_succ, i64_w, i32_w]
                            rfl
                          refine pure_ (i := 12) (N := some 92) (v := ?_) (a' := ?_) #[true, true, true, true, true, true, true, true, true, true, true, true, true, false, false, false, false, false] rfl rfl (by kernel_rfl) (fun _ _ _ h => h) (Or.inl ⟨by rfl, ?_⟩) ?_ ?_
                          rotate_left
                          · intro w'
                            go_simp
                            with_reducible rfl
                          rotate_left
                          · simp only [Act.put, List.setIfInBounds_toArray, List.set_cons_zero, List.set_cons_succ, i64_w, i32_w]
                            rfl
                          refine take_ (i := 13) (N := some 93) (v := ?_) (a' := ?_) #[true, true, true, true, true, true, true, true, true, true, true, true, true, true, false, false, false, false] rfl rfl (by kernel_rfl) (fun _ _ _ h => h) (Or.inl ⟨by rfl, ?_⟩) hHeld ?_ ?_
                          rotate_left
                          · rintro w' ⟨s0, s1, s2, s3, s4, s5, s6⟩
                            go_simp
                            with_reducible rfl
                          rotate_left
                          · simp only [Act.put, List.setIfInBounds_toArray, List.set_cons_zero, List.set_cons_succ, i64_w, i32_w]
                            rfl
                          refine one_ (i := 14) (N := some 94) #[true, true, true, true, true, true, true, true, true, true, true, true, true, true, true, false, false, false] rfl rfl (by kernel_rfl) (by decide) (fun K hK => ?_)
                          refine goes_ Try.func79 (by kernel_rfl) rfl #[.agg #[.int .i64 b0, .int .i64 b1], .agg #[.int .i64 pc.f0, .int .i64 pc.f1]] (by rfl) rfl rfl (by (try simp only [List.map_toArray, List.map_cons, List.map_nil]); first | done | rfl | (simp only [List.length_drop, List.length_take]; rfl)) ?_
                          with_reducible refine (impl_frac_times.calls k3 b0 b1 pc.f0 pc.f1 t0 t1 _ HT.out).mono ?_
                          rintro e w2 ⟨rfl, hb⟩
                          refine ⟨_, rfl, ?_⟩
                          have n0_ := Aside0.mk (HM1.out.below hb)
                          have n1_ := Aside0.mk (blk_below HG1.out hb)
                          have n2_ := Aside0.mk (below_step HB1.out hb)
                          have n3_ := Aside0.mk (HK1.out.below hb)
                          clear HM1 HG1 HB1 HK1
                          have HM1 := n0_
                          have HG1 := n1_
                          have HB1 := n2_
                          have HK1 := n3_
                          clear n0_ n1_ n2_ n3_
                          refine hK.out _ _ ⟨(hb.cell (World.block_lt_of_cell? _ _ hHeld.1)).trans hHeld.1, (hb.cell (World.block_lt_of_cell? _ _ hHeld.2.1)).trans hHeld.2.1, (hb.cell (World.block_lt_of_cell? _ _ hHeld.2.2.1)).trans hHeld.2.2.1, (hb.cell (World.block_lt_of_cell? _ _ hHeld.2.2.2.1)).trans hHeld.2.2.2.1, (hb.cell (World.block_lt_of_cell? _ _ hHeld.2.2.2.2.1)).trans hHeld.2.2.2.2.1, (hb.cell (World.block_lt_of_cell? _ _ hHeld.2.2.2.2.2.1)).trans hHeld.2.2.2.2.2.1, (hb.cell (World.block_lt_of_cell? _ _ hHeld.2.2.2.2.2.2)).trans hHeld.2.2.2.2.2.2⟩ (fun hHeld => ?_)
                          clear hK K hb
                          refine norm_ (a' := ?_) ?_ ?_
                          rotate_left
                          · show Act.put _ (some 94) _ = _
                            simp only [Act.put, List.setIfInBounds_toArray, List.set_cons_zero, List.set_cons_succ, i64_w, i32_w]
                            rfl
                          refine one_ (i := 15) (N := some 95) #[true, true, true, true, true, true, true, true, true, true, true, true, true, true, true, true, false, false] rfl rfl (by kernel_rfl) (by decide) (fun K hK => ?_)
                          refine goes_ Try.func57 (by kernel_rfl) rfl #[.agg #[.int .i64 xa.f0, .int .i64 xa.f1], .agg #[.int .i64 t0, .int .i64 t1]] (by rfl) rfl rfl (by (try simp only [List.map_toArray, List.map_cons, List.map_nil]); first | done | rfl | (simp only [List.length_drop, List.length_take]; rfl)) ?_
                          with_reducible refine (impl_frac_minus.calls k3 xa.f0 xa.f1 t0 t1 v0 v1 _ HV.out).mono ?_
                          rintro e w3 ⟨rfl, hb⟩
                          refine ⟨_, rfl, ?_⟩
                          have n0_ := Aside0.mk (HM1.out.below hb)
                          have n1_ := Aside0.mk (blk_below HG1.out hb)
                          have n2_ := Aside0.mk (below_step HB1.out hb)
                          have n3_ := Aside0.mk (HK1.out.below hb)
                          clear HM1 HG1 HB1 HK1
                          have HM1 := n0_
                          have HG1 := n1_
                          have HB1 := n2_
                          have HK1 := n3_
                          clear n0_ n1_ n2_ n3_
                          refine hK.out _ _ ⟨(hb.cell (World.block_lt_of_cell? _ _ hHeld.1)).trans hHeld.1, (hb.cell (World.block_lt_of_cell? _ _ hHeld.2.1)).trans hHeld.2.1, (hb.cell (World.block_lt_of_cell? _ _ hHeld.2.2.1)).trans hHeld.2.2.1, (hb.cell (World.block_lt_of_cell? _ _ hHeld.2.2.2.1)).trans hHeld.2.2.2.1, (hb.cell (World.block_lt_of_cell? _ _ hHeld.2.2.2.2.1)).trans hHeld.2.2.2.2.1, (hb.cell (World.block_lt_of_cell? _ _ hHeld.2.2.2.2.2.1)).trans hHeld.2.2.2.2.2.1, (hb.cell (World.block_lt_of_cell? _ _ hHeld.2.2.2.2.2.2)).trans hHeld.2.2.2.2.2.2⟩ (fun hHeld => ?_)
                          clear hK K hb
                          refine norm_ (a' := ?_) ?_ ?_
                          rotate_left
                          · show Act.put _ (some 95) _ = _
                            simp only [Act.put, List.setIfInBounds_toArray, List.set_cons_zero, List.set_cons_succ, i64_w, i32_w]
                            rfl
                          refine pure_ (i := 16) (N := some 96) (v := ?_) (a' := ?_) #[true, true, true, true, true, true, true, true, true, true, true, true, true, true, true, true, true, false] rfl rfl (by kernel_rfl) (fun _ _ _ h => h) (Or.inl ⟨by rfl, ?_⟩) ?_ ?_
                          rotate_left
                          · intro w'
                            go_simp
                            with_reducible rfl
                          rotate_left
                          · simp only [Act.put, List.setIfInBounds_toArray, List.set_cons_zero, List.set_cons_succ, i64_w, i32_w]
                            rfl
                          have hc0 := hHeld.1
                          have hc1 := hHeld.2.1
                          have hf0 := HM1.out.frozen (c := c * 2) hjn
                          have hf1 := HM1.out.frozen (c := c * 2 + 1) hjn
                          refine last_ (i := 17) (N := none) #[true, true, true, true, true, true, true, true, true, true, true, true, true, true, true, true, true, true] rfl rfl (by kernel_rfl) (by decide) (fun K hK => ?_)
                          refine skip_ (w1 := ?_) (by rfl) rfl ?_ ?_
                          rotate_left
                          · go_simp
                            rfl
                          have HM := Aside0.mk (HM1.out.set HS.out hjn hcn v0 v1)
                          have hne : gb ≠ gr j := fun e_ => hnew.out.2 j hjn e_.symm
                          have HG := Aside0.mk (blk_far (p := ⟨gr j, c * 2 + 1, none⟩) (blk_far (p := ⟨gr j, c * 2, none⟩) HG1.out hne (.int .i64 v0)) hne (.int .i64 v1))
                          have HB := Aside0.mk (below_set (j := c * 2 + 1) (v := .int .i64 v1) (below_set (j := c * 2) (v := .int .i64 v0) HB1.out (HS.out.ger j hjn)) (HS.out.ger j hjn))
                          have HK := Aside0.mk ((HK1.out.setCell (p := ⟨gr j, c * 2, none⟩) (Or.inl (HS.out.pr j hjn)) (.int .i64 v0)).setCell (p := ⟨gr j, c * 2 + 1, none⟩) (Or.inl (HS.out.pr j hjn)) (.int .i64 v1))
                          clear HM1 HG1 HB1 HK1 hc0 hc1 hf0 hf1 hHeld hne
                          generalize ((w3.setCell ⟨gr j, c * 2, none⟩ (.int .i64 v0)).setCell ⟨gr j, c * 2 + 1, none⟩ (.int .i64 v1)) = w4 at HM HG HB HK ⊢
                          refine hK.out _ _ ?_
                          clear hK K
                          refine done_ (by kernel_rfl) ?_
                          go_wp2
                          go_roundg k3
                          case measure => have := HQ3.out; omega
                          case rel =>
                           have eU : (U.set j x).set j (((U.set j x).getD j []).set c ⟨v0, v1⟩) = U.set j (x.set c ⟨v0, v1⟩) := by rw [impl_solved.set_get hjU x, List.set_set]
                           exact ⟨c + 1, x.set c ⟨v0, v1⟩, by first | rfl | (rw [EC.out]; rfl), ⟨hcn⟩, ⟨by rw [List.length_set]; exact HX.out⟩, H4, ⟨by have := HQ3.out; omega⟩, ⟨by rw [← eU]; repeat (first | exact HM.out | apply impl_solved.M.drew | apply impl_solved.M.drewN)⟩, ⟨by repeat (first | exact HG.out | refine blk_drewN ?_ _ | refine blk_drew ?_ | refine blk_alloc ?_ _)⟩, ⟨by repeat (first | exact HB.out | apply below_drew1 | apply pw_below_drewN | apply below_alloc)⟩, ⟨by repeat (first | exact HK.out | apply Kept.drewN | apply Kept.drew | apply Kept.alloc)⟩⟩
                        · rw [if_neg c9] at H
                          have c9b : decide ((c : Int) < (n : Int) + 1) = false := decide_eq_false c9
                          obtain rfl := Option.some.inj H
                          go_wp2
                          go_roundg k2
                          case measure => have := HQ2.out; omega
                          case rel => exact ⟨j + 1, U.set j x, by first | rfl | (rw [EJ.out]; rfl), ⟨hjn⟩, H3, ⟨by have := HQ2.out; omega⟩, ⟨by repeat (first | exact HM.out | apply impl_solved.M.drew | apply impl_solved.M.drewN)⟩, ⟨by repeat (first | exact HB.out | apply below_drew1 | apply pw_below_drewN | apply below_alloc)⟩, ⟨by repeat (first | exact HK.out | apply Kept.drewN | apply Kept.drew | apply Kept.alloc)⟩⟩
                · rw [if_neg c6] at H
                  have c6b : decide ((j : Int) < (n : Int)) = false := decide_eq_false c6
                  have c6n : ((j : Int) < (n : Int)) = False := eq_false c6
                  have c6m : (j < n) = False := eq_false (by omega)
                  obtain rfl := Option.some.inj H
                  have ei : wrap64 ((i : Int) + 1) = ((i + 1 : Nat) : Int) := by unfold wrap64; omega
                  have H5 := Aside0.mk (show impl_solved.l0 k1 n ((i + 1 : Nat) : Int) U = some T1 by rw [← ei]; exact H'.out)
                  have EI := Aside0.mk ei
                  clear c6 ei
                  go_wp2
                  go_roundg k1
                  case measure => have := HQ.out; omega
                  case rel => exact ⟨i + 1, U, by first | rfl | (rw [EI.out]; rfl), ⟨hin⟩, H5, ⟨by have := HQ.out; omega⟩, ⟨by repeat (first | exact HM.out | apply impl_solved.M.drew | apply impl_solved.M.drewN)⟩, ⟨by repeat (first | exact HB.out | apply below_drew1 | apply pw_below_drewN | apply below_alloc)⟩, ⟨by repeat (first | exact HK.out | apply Kept.drewN | apply Kept.drew | apply Kept.alloc)⟩⟩
         · rw [if_neg c4] at H
           have c4b : decide ((i : Int) < (n : Int)) = false := decide_eq_false c4
           have c4n : ((i : Int) < (n : Int)) = False := eq_false c4
           have c4m : (i < n) = False := eq_false (by omega)
           obtain rfl := Option.some.inj H
           have hn0 : (0 ≤ (n : Int)) = True := eq_true (by omega)
           have hn0b : decide (0 ≤ (n : Int)) = true := decide_eq_true (by omega)
           have hnl : decide (((n : Int)).toNat ≤ 17592186044416) = true := decide_eq_true (by omega)
           obtain ⟨xs, hxs⟩ : ∃ z : List S67, z = List.replicate n z67 := ⟨_, rfl⟩
           have HXS := Aside0.mk hxs
           clear c4 hxs
           go_wp2_with (first | ((with_reducible refine gate_dst (N := 101) rfl ?_); refine Kd.R_make k67 _ 67 rfl (N := 101) rfl 65 _ _ rfl (n : Int) rfl rfl Try.underlying65 (.agg #[(.int .i64 0), (.int .i64 0)]) 16 info67 rfl (by decide) (by omega) z67 (ok := fun _ => True) (okp := fun _ => True) (k67_mkM _ _ _ z67) (fun _ hk => hk) trivial (dT_) (Nat.le_trans (Nat.mul_le_mul_right _ (dT_ : ((n : Int)).toNat ≤ 17592186044416)) (by omega)) (Below.refl _ _) (Nat.le_refl _) ?_; intro vo w5 ho hb hg_ hnew_; clear hg_ hnew_; have HW5 := Aside0.mk hb; have HO := Aside0.mk ho; clear hb ho))
           have HMr := Aside0.mk (HM.out.below HW5.out)
           have HBr := Aside0.mk (below_step HB.out HW5.out)
           have HKr := Aside0.mk (HK.out.below HW5.out)
           have hwr := Aside0.mk HB.out.size
           have hwk := Aside0.mk HK.out.1
           have hlt := Aside0.mk (blk_lt HM.out.tab)
           have hltr := Aside0.mk (fun k (hk : k < n) => HM.out.lt hk)
           obtain ⟨sz, hsz⟩ : ∃ z, z = wr.heap.size := ⟨_, rfl⟩
           have HOz : Aside0 (Kd.R k67 67 w5 sz (fun _ => True) vo (List.replicate n z67)) := ⟨by rw [hsz]; exact HO.out⟩
           have hwrz := Aside0.mk (show w0.heap.size ≤ sz by rw [hsz]; exact hwr.out)
           have hwkz := Aside0.mk (show w.heap.size ≤ sz by rw [hsz]; exact hwk.out)
           have hltz := Aside0.mk (show g < sz by rw [hsz]; exact hlt.out)
           have hltrz := Aside0.mk (show ∀ k, k < n → gr k < sz by rw [hsz]; exact hltr.out)
           clear HM HB HK HO hwr hwk hlt hltr hsz
           have HO := HOz
           have hwr := hwrz
           have hwk := hwkz
           have hlt := hltz
           have hltr := hltrz
           clear HOz hwrz hwkz hltz hltrz
           have HM := HMr
           have HB := HBr
           have HK := HKr
           clear HMr HBr HKr HW5
           go_loopg [104] k (fun kq v104 w' => ∃ (q : Nat) (x : List S67), v104 = .int .i64 q ∧ Aside0 (q ≤ n) ∧ Aside0 (x.length = n) ∧ Aside0 (impl_solved.l4 kq n T q x = some r) ∧ Aside0 (kq ≤ k) ∧ Aside0 (impl_solved.M w' g tc gr n T) ∧ Aside0 (Kd.R k67 67 w' sz (fun _ => True) vo x) ∧ Aside0 (Below w0.heap.size w0 w') ∧ Aside0 (Kept w w' (fun k_ => P0_ k_)))
           case atStart => exact ⟨0, List.replicate n z67, rfl, ⟨Nat.zero_le _⟩, ⟨List.length_replicate⟩, HF, ⟨Nat.le_refl _⟩, ⟨by repeat (first | exact HM.out | apply impl_solved.M.drew | apply impl_solved.M.drewN)⟩, ⟨by (with_reducible repeat (first | apply Kd.R_alloc | apply Kd.R_drewN | apply Kd.R_drew)); exact HO.out⟩, ⟨by repeat (first | exact HB.out | apply below_drew1 | apply pw_below_drewN | apply below_alloc)⟩, ⟨by repeat (first | exact HK.out | apply Kept.drewN | apply Kept.drew | apply Kept.alloc)⟩⟩
           case round =>
            clear HM HB HK HO HF HXS
            obtain ⟨q, x, rfl, HQ4, HX, HA4, HK4, HM, HO, HB, HK⟩ := hrel
            cases gk with
            | zero => exact absurd HA4.out (by simp [impl_solved.l4])
            | succ k5 =>
             have H := HA4.out
             clear HA4
             simp only [impl_solved.l4] at H
             by_cases c10 : (q : Int) < (n : Int)
             · rw [if_pos c10, if_pos (by omega)] at H
               have hqn : q < n := by omega
               replace H := Option.bind_eq_some_iff.mp H
               obtain ⟨⟨t0, t1⟩, ht, H⟩ := H
               have eq : wrap64 ((q : Int) + 1) = ((q + 1 : Nat) : Int) := by unfold wrap64; omega
               rw [eq, Int.toNat_natCast] at H
               have H4 := Aside0.mk H
               have EQ := Aside0.mk eq
               have hz0 := (HM.out.head HS.out hqn).1
               have hz1 := HM.out.cell hqn (show n < n + 1 by omega)
               have hz2 := HM.out.cell hqn (show q < n + 1 by omega)
               rw [Int.toNat_natCast] at ht
               obtain ⟨xa, hxa⟩ : ∃ z, z = rd_T67 (T.getD q []) (n : Int) := ⟨_, rfl⟩
               obtain ⟨xb, hxb⟩ : ∃ z, z = rd_T67 (T.getD q []) (q : Int) := ⟨_, rfl⟩
               rw [← hxa] at hz1 ht
               rw [← hxb] at hz2 ht
               have HT := Aside0.mk ht
               obtain ⟨hz1a, hz1b⟩ := hz1
               obtain ⟨hz2a, hz2b⟩ := hz2
               have p10 : (0 ≤ (q : Int)) = True := eq_true (by omega)
               have q10 : ((q : Int) < (n : Int)) = True := eq_true c10
               have c10b : decide ((q : Int) < (n : Int)) = true := decide_eq_true c10
               have q11 : ((q : Int) < (n : Int) + 1) = True := eq_true (by omega)
               have q12 : ((n : Int) < (n : Int) + 1) = True := eq_true (by omega)
               clear ht H hxa hxb c10 eq
               obtain ⟨go, co, eo, gbo, glo, clo, HGo⟩ := Kd.R_form HO.out (by have := HX.out; omega)
               have e_ := eo
               rw [HX.out] at e_
               subst e_
               clear eo
               go_wp2
               refine start_ (n := 13) (S := fun w' => w'.cell? ⟨gr q, n * 2, none⟩ = some (.int .i64 xa.f0) ∧ w'.cell? ⟨gr q, n * 2 + 1, none⟩ = some (.int .i64 xa.f1) ∧ w'.cell? ⟨gr q, q * 2, none⟩ = some (.int .i64 xb.f0) ∧ w'.cell? ⟨gr q, q * 2 + 1, none⟩ = some (.int .i64 xb.f1)) (ds := [12]) #[false, false, false, false, false, false, false, false, false, false, false, false, false] (by kernel_rfl) rfl rfl ⟨hz1a, hz1b, hz2a, hz2b⟩ (fun hHeld => ?_)
               have HM1 := Aside0.mk HM.out.drew
               have HO1 := Aside0.mk (Kd.R_drew HO.out)
               have HB1 := Aside0.mk (below_drew1 HB.out)
               have HK1 := Aside0.mk HK.out.drew
               clear HM HO HB HK hz0 hz1a hz1b hz2a hz2b HGo
               generalize wr.drew = w1 at HM1 HO1 HB1 HK1 hHeld ⊢
               refine pure_ (i := 0) (N := some 109) (v := ?_) (a' := ?_) #[true, false, false, false, false, false, false, false, false, false, false, false, false] rfl rfl (by kernel_rfl) (fun _ _ _ h => h) (Or.inl ⟨by rfl, ?_⟩) ?_ ?_
               rotate_left
               · intro w'
                 go_simp
                 with_reducible rfl
               rotate_left
               · simp only [Act.put, List.setIfInBounds_toArray, List.set_cons_zero, List.set_cons_succ, i64_w, i32_w]
                 rfl
               refine pure_ (i := 1) (N := some 110) (v := ?_) (a' := ?_) #[true, true, false, false, false, false, false, false, false, false, false, false, false] rfl rfl (by kernel_rfl) (fun _ _ _ h => h) (Or.inl ⟨by rfl, ?_⟩) ?_ ?_
               rotate_left
               · intro w'
                 go_simp
                 with_reducible rfl
               rotate_left
               · simp only [Act.put, List.setIfInBounds_toArray, List.set_cons_zero, List.set_cons_succ, i64_w, i32_w]
                 rfl
               refine pure_ (i := 2) (N := some 111) (v := ?_) (a' := ?_) #[true, true, true, false, false, false, false, false, false, false, false, false, false] rfl rfl (by kernel_rfl) (fun _ _ _ h => h) (Or.inl ⟨by rfl, ?_⟩) ?_ ?_
               rotate_left
               · intro w'
                 go_simp
                 with_reducible rfl
               rotate_left
               · simp only [Act.put, List.setIfInBounds_toArray, List.set_cons_zero, List.set_cons_succ, i64_w, i32_w]
                 rfl
               refine pure_ (i := 3) (N := some 112) (v := ?_) (a' := ?_) #[true, true, true, true, false, false, false, false, false, false, false, false, false] rfl rfl (by kernel_rfl) (fun _ _ _ h => h) (Or.inl ⟨by rfl, ?_⟩) ?_ ?_
               rotate_left
               · intro w'
                 go_simp
                 with_reducible rfl
               rotate_left
               · simp only [Act.put, List.setIfInBounds_toArray, List.set_cons_zero, List.set_cons_succ, i64_w, i32_w]
                 rfl
               refine pure_ (i := 4) (N := some 113) (v := ?_) (a' := ?_) #[true, true, true, true, true, false, false, false, false, false, false, false, false] rfl rfl (by kernel_rfl) (fun _ _ _ h => h) (Or.inl ⟨by rfl, ?_⟩) ?_ ?_
               rotate_left
               · intro w'
                 go_simp
                 with_reducible rfl
               rotate_left
               · simp only [Act.put, List.setIfInBounds_toArray, List.set_cons_zero, List.set_cons_succ, i64_w, i32_w]
                 rfl
               refine take_ (i := 5) (N := some 114) (v := ?_) (a' := ?_) #[true, true, true, true, true, true, false, false, false, false, false, false, false] rfl rfl (by kernel_rfl) (fun _ _ _ h => h) (Or.inl ⟨by rfl, ?_⟩) hHeld ?_ ?_
               rotate_left
               · rintro w' ⟨s0, s1, s2, s3⟩
                 go_simp
                 with_reducible rfl
               rotate_left
               · simp only [Act.put, List.setIfInBounds_toArray, List.set_cons_zero, List.set_cons_succ, i64_w, i32_w]
                 rfl
               refine pure_ (i := 6) (N := some 115) (v := ?_) (a' := ?_) #[true, true, true, true, true, true, true, false, false, false, false, false, false] rfl rfl (by kernel_rfl) (fun _ _ _ h => h) (Or.inl ⟨by rfl, ?_⟩) ?_ ?_
               rotate_left
               · intro w'
                 go_simp
                 with_reducible rfl
               rotate_left
               · simp only [Act.put, List.setIfInBounds_toArray, List.set_cons_zero, List.set_cons_succ, i64_w, i32_w]
                 rfl
               refine pure_ (i := 7) (N := some 116) (v := ?_) (a' := ?_) #[true, true, true, true, true, true, true, true, false, false, false, false, false] rfl rfl (by kernel_rfl) (fun _ _ _ h => h) (Or.inl ⟨by rfl, ?_⟩) ?_ ?_
               rotate_left
               · intro w'
                 go_simp
                 with_reducible rfl
               rotate_left
               · simp only [Act.put, List.setIfInBounds_toArray, List.set_cons_zero, List.set_cons_succ, i64_w, i32_w]
                 rfl
               refine pure_ (i := 8) (N := some 117) (v := ?_) (a' := ?_) #[true, true, true, true, true, true, true, true, true, false, false, false, false] rfl rfl (by kernel_rfl) (fun _ _ _ h => h) (Or.inl ⟨by rfl, ?_⟩) ?_ ?_
               rotate_left
               · intro w'
                 go_simp
                 with_reducible rfl
               rotate_left
               · simp only [Act.put, List.setIfInBounds_toArray, List.set_cons_zero, List.set_cons_succ, i64_w, i32_w]
                 rfl
               refine take_ (i := 9) (N := some 118) (v := ?_) (a' := ?_) #[true, true, true, true, true, true, true, true, true, true, false, false, false] rfl rfl (by kernel_rfl) (fun _ _ _ h => h) (Or.inl ⟨by rfl, ?_⟩) hHeld ?_ ?_
               rotate_left
               · rintro w' ⟨s0, s1, s2, s3⟩
                 go_simp
                 with_reducible rfl
               rotate_left
               · simp only [Act.put, List.setIfInBounds_toArray, List.set_cons_zero, List.set_cons_succ, i64_w, i32_w]
                 rfl
               refine one_ (i := 10) (N := some 119) #[true, true, true, true, true, true, true, true, true, true, true, false, false] rfl rfl (by kernel_rfl) (by decide) (fun K hK => ?_)
               refine goes_ Try.func78 (by kernel_rfl) rfl #[.agg #[.int .i64 xa.f0, .int .i64 xa.f1], .agg #[.int .i64 xb.f0, .int .i64 xb.f1]] (by rfl) rfl rfl (by (try simp only [List.map_toArray, List.map_cons, List.map_nil]); first | done | rfl | (simp only [List.length_drop, List.length_take]; rfl)) ?_
               with_reducible refine (impl_frac_over.calls k5 xa.f0 xa.f1 xb.f0 xb.f1 t0 t1 _ HT.out).mono ?_
               rintro e w2 ⟨rfl, hb⟩
               refine ⟨_, rfl, ?_⟩
               have HM2 := Aside0.mk (HM1.out.below hb)
               have HO2 := Aside0.mk (Kd.R_below HO1.out hb)
               have HB2 := Aside0.mk (below_step HB1.out hb)
               have HK2 := Aside0.mk (HK1.out.below hb)
               clear HM1 HO1 HB1 HK1
               refine hK.out _ _ ⟨(hb.cell (World.block_lt_of_cell? _ _ hHeld.1)).trans hHeld.1, (hb.cell (World.block_lt_of_cell? _ _ hHeld.2.1)).trans hHeld.2.1, (hb.cell (World.block_lt_of_cell? _ _ hHeld.2.2.1)).trans hHeld.2.2.1, (hb.cell (World.block_lt_of_cell? _ _ hHeld.2.2.2)).trans hHeld.2.2.2⟩ (fun hHeld => ?_)
               clear hK K hb
               refine norm_ (a' := ?_) ?_ ?_
               rotate_left
               · show Act.put _ (some 119) _ = _
                 simp only [Act.put, List.setIfInBounds_toArray, List.set_cons_zero, List.set_cons_succ, i64_w, i32_w]
                 rfl
               refine pure_ (i := 11) (N := some 120) (v := ?_) (a' := ?_) #[true, true, true, true, true, true, true, true, true, true, true, true, false] rfl rfl (by kernel_rfl) (fun _ _ _ h => h) (Or.inl ⟨by rfl, ?_⟩) ?_ ?_
               rotate_left
               · intro w'
                 go_simp
                 with_reducible rfl
               rotate_left
               · simp only [Act.put, List.setIfInBounds_toArray, List.set_cons_zero, List.set_cons_succ, i64_w, i32_w]
                 rfl
               obtain ⟨ce, hcl, hMe, hcc, hfr⟩ := Kd.R_elem HO2.out z67 (q : Int) (by omega) (by have := HX.out; omega)
               obtain rfl := k67_openM hMe
               have hc0 : World.cell? w2 ⟨go, q * 2, none⟩ = _ := hcc 0 _ rfl
               have hc1 : World.cell? w2 ⟨go, q * 2 + 1, none⟩ = _ := hcc 1 _ rfl
               have hf0 : World.frozen? w2 ⟨go, q * 2, none⟩ = false := hfr 0
               have hf1 : World.frozen? w2 ⟨go, q * 2 + 1, none⟩ = false := hfr 1
               have HP := (Kd.R_seg HO2.out (q : Int) (by omega) (by have := HX.out; omega) (seg := [.int .i64 t0, .int .i64 t1]) (j := 0) hcl hcc (show 2 ≤ 2 from by decide) (x' := (⟨t0, t1⟩ : S67)) (k67_mkM _ _ _ (⟨t0, t1⟩ : S67)) (fun _ hk => hk)).1
               have HO3 := Aside0.mk HP
               clear HP hcl hcc hfr
               refine last_ (i := 12) (N := none) #[true, true, true, true, true, true, true, true, true, true, true, true, true] rfl rfl (by kernel_rfl) (by decide) (fun K hK => ?_)
               refine skip_ (w1 := ?_) (by rfl) rfl ?_ ?_
               rotate_left
               · go_simp
                 rfl
               have hn1 : g ≠ go := by have := hlt.out; omega
               have hn2 : ∀ k, k < n → gr k ≠ go := fun k hk => by have := hltr.out k hk; omega
               have HM := Aside0.mk ((HM2.out.far (p := ⟨go, q * 2, none⟩) hn1 hn2 (.int .i64 t0)).far (p := ⟨go, q * 2 + 1, none⟩) hn1 hn2 (.int .i64 t1))
               have hg0 : w0.heap.size ≤ go := Nat.le_trans hwr.out gbo
               have hg1 : w.heap.size ≤ go := Nat.le_trans hwk.out gbo
               have HB := Aside0.mk (below_set (j := q * 2 + 1) (v := .int .i64 t1) (below_set (j := q * 2) (v := .int .i64 t0) HB2.out hg0) hg0)
               have HK := Aside0.mk ((HK2.out.setCell (p := ⟨go, q * 2, none⟩) (Or.inr hg1) (.int .i64 t0)).setCell (p := ⟨go, q * 2 + 1, none⟩) (Or.inr hg1) (.int .i64 t1))
               have HO : Aside0 (Kd.R k67 67 ((w2.setCell ⟨go, q * 2, none⟩ (.int .i64 t0)).setCell ⟨go, q * 2 + 1, none⟩ (.int .i64 t1)) sz (fun _ => True) (.slice (some ⟨go, 0, none⟩) n co) (x.set q (⟨t0, t1⟩ : S67))) := ⟨by have h_ := HO3.out; rw [Int.toNat_natCast] at h_; exact h_⟩
               clear HM2 HB2 HK2 HO2 HO3 hc0 hc1 hf0 hf1 hHeld
               generalize ((w2.setCell ⟨go, q * 2, none⟩ (.int .i64 t0)).setCell ⟨go, q * 2 + 1, none⟩ (.int .i64 t1)) = w4 at HM HB HK HO ⊢
               refine hK.out _ _ ?_
               clear hK K
               refine done_ (by kernel_rfl) ?_
               go_wp2
               go_roundg k5
               case measure => have := HK4.out; omega
               case rel => exact ⟨q + 1, x.set q ⟨t0, t1⟩, by first | rfl | (rw [EQ.out]; rfl), ⟨hqn⟩, ⟨by rw [List.length_set]; exact HX.out⟩, H4, ⟨by have := HK4.out; omega⟩, ⟨by repeat (first | exact HM.out | apply impl_solved.M.drew | apply impl_solved.M.drewN)⟩, ⟨by (with_reducible repeat (first | apply Kd.R_alloc | apply Kd.R_drewN | apply Kd.R_drew)); exact HO.out⟩, ⟨by repeat (first | exact HB.out | apply below_drew1 | apply pw_below_drewN | apply below_alloc)⟩, ⟨by repeat (first | exact HK.out | apply Kept.drewN | apply Kept.drew | apply Kept.alloc)⟩⟩
             · rw [if_neg c10] at H
               have c10b : decide ((q : Int) < (n : Int)) = false := decide_eq_false c10
               have c10n : ((q : Int) < (n : Int)) = False := eq_false c10
               have c10m : (q < n) = False := eq_false (by omega)
               obtain rfl := Option.some.inj H
               clear c10
               go_wp2
               go_ret
               exact ⟨_, rfl, Kd.R_mono (Kd.R_lower (Kd.R_bound (by (with_reducible repeat (first | apply Kd.R_alloc | apply Kd.R_drewN | apply Kd.R_drew)); exact HO.out)) hwr.out) (fun k_ hk_ => .inr (Nat.le_trans hwk.out hk_.2.1)), by repeat (first | exact HB.out | apply below_drew1 | apply pw_below_drewN | apply below_alloc), by repeat (first | exact HK.out | apply Kept.drewN | apply Kept.drew | apply Kept.alloc)⟩
     · rw [if_neg c3] at h; cases h
   · rw [if_neg c2] at h; cases h
 · rw [if_neg c1] at h; cases h
end Go.Proofs.Ytlpegpmcnimfbaa.PFnExactSharesOfStates
