/- For all arguments the program and the reference return the same from SharesOfStates: the plain statement over numbers and lists, and its proof. -/
import Derived.Test.YtlpegpmcnimfbaaPFnExactSharesOfStatesx1
import Derived.Test.YtlpegpmcnimfbaaPFnExactSharesOfStatesx2
import Derived.Test.YtlpegpmcnimfbaaPFnExactSharesOfStatesx3
import Derived.Test.YtlpegpmcnimfbaaPFnExactSharesOfStatesx4
import Derived.Test.YtlpegpmcnimfbaaPFnExactSharesOfStatesx5
import Derived.Test.YtlpegpmcnimfbaaPFnExactSharesOfStatesx6
import Derived.Test.YtlpegpmcnimfbaaPFnExactSharesOfStatesx7
import Derived.Test.YtlpegpmcnimfbaaPFnExactSharesOfStatesx8
import Derived.Test.YtlpegpmcnimfbaaPFnExactSharesOfStatesx9
import Derived.Test.YtlpegpmcnimfbaaPFnExactSharesOfStatesx10
import Derived.Test.YtlpegpmcnimfbaaPFnExactSharesOfStatesx11
import Derived.Test.YtlpegpmcnimfbaaPFnExactSharesOfStatesx12
namespace Go.Proofs.Ytlpegpmcnimfbaa.Pure
open Go.RowKit Go.Proofs.Ytlpegpmcnimfbaa.PFnExactSharesOfStates Go.Proofs.YtlpegpmcnimfbaaW.PrintWords Go.Proofs.YtlpegpmcnimfbaaW.PrintLast Go.Proofs.YtlpegpmcnimfbaaW.PrintMore
set_option linter.unusedVariables false
set_option linter.unusedSimpArgs false
set_option maxRecDepth 100000
theorem iP_ {c : Prop} [Decidable c] {α : Sort _} {a b : α} (h : c := by omega) : (if c then a else b) = a := if_pos h
theorem iN_ {c : Prop} [Decidable c] {α : Sort _} {a b : α} (h : ¬ c := by omega) : (if c then a else b) = b := if_neg h
def sm : Nat → (Nat → Rat) → Rat
 | 0, _ => 0
 | n + 1, f => sm n f + f n
theorem sm_congr {n : Nat} {f g : Nat → Rat} (h : ∀ c, c < n → f c = g c) : sm n f = sm n g := by
 induction n with
 | zero => rfl
 | succ n ih => rw [sm, sm, ih (fun c hc => h c (by omega)), h n (by omega)]
theorem sm_zero {n : Nat} {f : Nat → Rat} (h : ∀ c, c < n → f c = 0) : sm n f = 0 := by
 induction n with
 | zero => rfl
 | succ n ih => rw [sm, ih (fun c hc => h c (by omega)), h n (by omega)]; exact Rat.add_zero 0
theorem sm_add (n : Nat) (f g : Nat → Rat) : sm n (fun c => f c + g c) = sm n f + sm n g := by
 induction n with
 | zero => simp only [sm]; grind
 | succ n ih => simp only [sm, ih]; grind
theorem sm_mul (n : Nat) (q : Rat) (f : Nat → Rat) : sm n (fun c => q * f c) = q * sm n f := by
 induction n with
 | zero => simp only [sm]; grind
 | succ n ih => simp only [sm, ih]; grind
theorem sm_le {n : Nat} {f g : Nat → Rat} (h : ∀ c, c < n → f c ≤ g c) : sm n f ≤ sm n g := by
 induction n with
 | zero => exact Rat.le_refl
 | succ n ih =>
  have h1 := ih (fun c hc => h c (by omega))
  have h2 := h n (by omega)
  simp only [sm]
  grind
theorem sm_one {n : Nat} {f : Nat → Rat} {c : Nat} (hc : c < n) (h : ∀ j, j < n → j ≠ c → f j = 0) : sm n f = f c := by
 induction n with
 | zero => omega
 | succ n ih =>
  rw [sm]
  by_cases e : c = n
  · subst e
    rw [sm_zero (fun j hj => h j (by omega) (by omega))]
    grind
  · rw [ih (by omega) (fun j hj => h j (by omega)), h n (by omega) (by omega)]
    grind
theorem sm_two {n i c : Nat} {f : Nat → Rat} (hi : i ≤ c) (hc : c < n) (h : ∀ j, i ≤ j → j < n → j ≠ c → f j = 0) : sm n f = sm i f + f c := by
 induction n with
 | zero => omega
 | succ n ih =>
  rw [sm]
  by_cases e : c = n
  · subst e
    have : sm c f = sm i f := by
     clear ih hc
     have hk : ∀ k, i ≤ k → k ≤ c → sm k f = sm i f := by
      intro k
      induction k with
      | zero =>
       intro h1 _
       have : i = 0 := by omega
       subst this
       rfl
      | succ k ih =>
       intro h1 h2
       by_cases e : i = k + 1
       · rw [e]
       · rw [sm, ih (by omega) (by omega), h k (by omega) (by omega) (by omega)]
         grind
     exact hk c hi (Nat.le_refl _)
    rw [this]
  · rw [ih (by omega) (fun j h1 h2 => h j h1 (by omega)), h n (by omega) (by omega) (by omega)]
    grind
def Rm (A : Nat → Nat → Rat) : Nat → Nat → Nat → Rat
 | 0, k, c => A k c
 | i + 1, k, c => if k = i then Rm A i i c else Rm A i k c - (Rm A i k i / Rm A i i i) * Rm A i i c
theorem Rm_succ_ne (A : Nat → Nat → Rat) {i k : Nat} (h : k ≠ i) (c : Nat) : Rm A (i + 1) k c = Rm A i k c - (Rm A i k i / Rm A i i i) * Rm A i i c := by
 rw [Rm, if_neg h]
theorem Rm_succ_eq (A : Nat → Nat → Rat) (i c : Nat) : Rm A (i + 1) i c = Rm A i i c := by
 rw [Rm, if_pos rfl]
theorem sm_comb (m : Nat) (x y v : Nat → Rat) (q : Rat) : sm m (fun c => (x c - q * y c) * v c) = sm m (fun c => x c * v c) - q * sm m (fun c => y c * v c) := by
 induction m with
 | zero => simp only [sm]; grind
 | succ n ih => simp only [sm, ih]; grind
theorem Rm_orth (A : Nat → Nat → Rat) (m : Nat) (v : Nat → Rat) : ∀ i, (∀ k, k < i → sm m (fun c => A k c * v c) = 0) →
 (∀ k, k < i → sm m (fun c => Rm A i k c * v c) = 0) ∧ ∀ k, i ≤ k → sm m (fun c => Rm A i k c * v c) = sm m (fun c => A k c * v c) := by
 intro i
 induction i with
 | zero => exact fun _ => ⟨fun k hk => by omega, fun k _ => rfl⟩
 | succ i ih =>
  intro h
  obtain ⟨h1, h2⟩ := ih (fun k hk => h k (by omega))
  have h3 : sm m (fun c => Rm A i i c * v c) = 0 := (h2 i (Nat.le_refl _)).trans (h i (by omega))
  have h4 : ∀ k, k ≠ i → sm m (fun c => Rm A (i + 1) k c * v c) = sm m (fun c => Rm A i k c * v c) := by
   intro k hk
   rw [sm_congr (g := fun c => (Rm A i k c - (Rm A i k i / Rm A i i i) * Rm A i i c) * v c) (fun c _ => by rw [Rm_succ_ne A hk]), sm_comb, h3]
   grind
  refine ⟨fun k hk => ?_, fun k hk => ?_⟩
  · by_cases e : k = i
    · subst e
      rw [← h3]
      exact sm_congr fun c _ => by rw [Rm_succ_eq]
    · rw [h4 k e]; exact h1 k (by omega)
  · rw [h4 k (by omega)]; exact h2 k (by omega)
theorem Rm_back (A : Nat → Nat → Rat) (m : Nat) (v : Nat → Rat) : ∀ i, (∀ k, k < i → sm m (fun c => Rm A i k c * v c) = 0) → ∀ k, k < i → sm m (fun c => A k c * v c) = 0 := by
 intro i
 induction i with
 | zero => intro _ k hk; omega
 | succ i ih =>
  intro h
  have h3 : sm m (fun c => Rm A i i c * v c) = 0 := by
   rw [← h i (by omega)]
   exact sm_congr fun c _ => by rw [Rm_succ_eq]
  have h4 : ∀ k, k < i → sm m (fun c => A k c * v c) = 0 := ih (fun k hk => by
   have := h k (by omega)
   rw [sm_congr (g := fun c => (Rm A i k c - (Rm A i k i / Rm A i i i) * Rm A i i c) * v c) (fun c _ => by rw [Rm_succ_ne A (by omega)]), sm_comb, h3] at this
   grind)
  intro k hk
  by_cases e : k = i
  · subst e
    rw [← (Rm_orth A m v k h4).2 k (Nat.le_refl _)]
    exact h3
  · exact h4 k (by omega)
theorem Rm_zero (A : Nat → Nat → Rat) : ∀ i, (∀ j, j < i → Rm A j j j ≠ 0) → (∀ k j, j < i → k ≠ j → Rm A i k j = 0) ∧ ∀ j, j < i → Rm A i j j = Rm A j j j := by
 intro i
 induction i with
 | zero => exact fun _ => ⟨fun k j hj => by omega, fun j hj => by omega⟩
 | succ i ih =>
  intro h
  obtain ⟨h1, h2⟩ := ih (fun j hj => h j (by omega))
  refine ⟨fun k j hj hk => ?_, fun j hj => ?_⟩
  · by_cases e : k = i
    · subst e
      rw [Rm_succ_eq]
      exact h1 _ _ (by omega) hk
    · rw [Rm_succ_ne A e]
      by_cases ej : j = i
      · subst ej
        have := h j (by omega)
        rw [Rat.div_mul_cancel this]
        grind
      · rw [h1 k j (by omega) hk, h1 i j (by omega) (by omega)]
        grind
  · by_cases e : j = i
    · subst e
      rw [Rm_succ_eq]
    · rw [Rm_succ_ne A e, h1 i j (by omega) (by omega), h2 j (by omega)]
      grind
def smi : Nat → (Nat → Int) → Int
 | 0, _ => 0
 | n + 1, f => smi n f + f n
def dt : Nat → (Nat → Nat → Int) → Int
 | 0, _ => 1
 | n + 1, f => smi (n + 1) (fun k => (if k % 2 = 0 then 1 else -1) * f 0 k * dt n (fun i j => f (i + 1) (if j < k then j else j + 1)))
def cr (n : Nat) (f : Nat → Nat → Int) (b : Nat → Int) (j : Nat) : Int := dt n (fun r s => if s = j then b r else f r s)
theorem dt1 (f : Nat → Nat → Int) : dt 1 f = f 0 0 := by
 simp [dt, smi]
theorem dt2 (f : Nat → Nat → Int) : dt 2 f = f 0 0 * f 1 1 - f 0 1 * f 1 0 := by
 simp [dt, smi]
 grind
theorem dt3 (f : Nat → Nat → Int) : dt 3 f = f 0 0 * (f 1 1 * f 2 2 - f 1 2 * f 2 1) - f 0 1 * (f 1 0 * f 2 2 - f 1 2 * f 2 0) + f 0 2 * (f 1 0 * f 2 1 - f 1 1 * f 2 0) := by
 simp [dt, smi]
 grind
def d3 (a b c d e f g h i : Int) : Int := a * (e * i - f * h) - b * (d * i - f * g) + c * (d * h - e * g)
theorem dt4 (f : Nat → Nat → Int) : dt 4 f = f 0 0 * d3 (f 1 1) (f 1 2) (f 1 3) (f 2 1) (f 2 2) (f 2 3) (f 3 1) (f 3 2) (f 3 3)
 - f 0 1 * d3 (f 1 0) (f 1 2) (f 1 3) (f 2 0) (f 2 2) (f 2 3) (f 3 0) (f 3 2) (f 3 3)
 + f 0 2 * d3 (f 1 0) (f 1 1) (f 1 3) (f 2 0) (f 2 1) (f 2 3) (f 3 0) (f 3 1) (f 3 3)
 - f 0 3 * d3 (f 1 0) (f 1 1) (f 1 2) (f 2 0) (f 2 1) (f 2 2) (f 3 0) (f 3 1) (f 3 2) := by
 rw [dt]
 simp only [smi, dt3, d3]
 simp
 grind
theorem lt_cases4 {i : Nat} (h : i ≤ 4) : i = 0 ∨ i = 1 ∨ i = 2 ∨ i = 3 ∨ i = 4 := by omega
theorem cramer (i : Nat) (hi : i ≤ 4) (f : Nat → Nat → Int) (b : Nat → Int) (k : Nat) (hk : k < i) : smi i (fun j => f k j * cr i f b j) = dt i f * b k := by
 rcases lt_cases4 hi with rfl | rfl | rfl | rfl | rfl
 · omega
 · obtain rfl : k = 0 := by omega
   simp [smi, cr, dt1]
 · have : k = 0 ∨ k = 1 := by omega
   rcases this with rfl | rfl <;>
   · simp [smi, cr, dt2]
     grind
 · have : k = 0 ∨ k = 1 ∨ k = 2 := by omega
   rcases this with rfl | rfl | rfl <;>
   · simp [smi, cr, dt3]
     grind
 · have : k = 0 ∨ k = 1 ∨ k = 2 ∨ k = 3 := by omega
   rcases this with rfl | rfl | rfl | rfl <;>
   · simp [smi, cr, dt4, d3]
     grind
theorem last_row (i : Nat) (hi : i ≤ 3) (f : Nat → Nat → Int) : f i i * dt i f - smi i (fun j => f i j * cr i f (fun r => f r i) j) = dt (i + 1) f := by
 rcases lt_cases4 (i := i) (by omega) with rfl | rfl | rfl | rfl | rfl
 · simp [smi, dt]
 · simp [smi, cr, dt1, dt2]
   grind
 · simp [smi, cr, dt2, dt3]
   grind
 · simp [smi, cr, dt3, dt4, d3]
   grind
 · omega
theorem cast_smi (n : Nat) (f : Nat → Int) : ((smi n f : Int) : Rat) = sm n (fun c => (f c : Rat)) := by
 induction n with
 | zero => rfl
 | succ n ih => rw [smi, sm, Rat.intCast_add, ih]
def Am (T : Nat → Nat → Int) (s : Nat → Int) (k c : Nat) : Rat := (T k c : Rat) / (s k : Rat)
def xc (T : Nat → Nat → Int) (i c j : Nat) : Int := cr i T (fun r => T r c) j
theorem stage {T : Nat → Nat → Int} {s : Nat → Int} {m i c : Nat} (hi : i ≤ 4) (hs : ∀ k, s k ≠ 0) (hp : ∀ j, j < i → Rm (Am T s) j j j ≠ 0) (hc : i ≤ c) (hm : c < m) :
 (∀ k, k < i → Rm (Am T s) i k c * (dt i T : Rat) = Rm (Am T s) k k k * (xc T i c k : Rat)) ∧
 ∀ k, i ≤ k → Rm (Am T s) i k c * (dt i T : Rat) * (s k : Rat) = ((T k c * dt i T - smi i (fun j => T k j * xc T i c j) : Int) : Rat) := by
 have hs' : ∀ k, ((s k : Int) : Rat) ≠ 0 := fun k h => hs k (Rat.intCast_inj.1 h)
 obtain ⟨v, hv⟩ : ∃ v : Nat → Rat, v = fun j => if j < i then (xc T i c j : Rat) else if j = c then -(dt i T : Rat) else 0 := ⟨_, rfl⟩
 have v1 : ∀ j, j < i → v j = (xc T i c j : Rat) := fun j hj => by rw [hv]; exact if_pos hj
 have v2 : v c = -(dt i T : Rat) := by rw [hv]; show (if c < i then _ else _) = _; rw [iN_, if_pos rfl]
 have v3 : ∀ j, i ≤ j → j < m → j ≠ c → v j = 0 := fun j h1 h2 h3 => by rw [hv]; show (if j < i then _ else _) = _; rw [iN_, if_neg h3]
 have hA : ∀ k, sm m (fun j => Am T s k j * v j) * (s k : Rat) = ((smi i (fun j => T k j * xc T i c j) - T k c * dt i T : Int) : Rat) := by
  intro k
  rw [sm_two hc hm (fun j h1 h2 h3 => by rw [v3 j h1 h2 h3]; exact Rat.mul_zero _), v2, Rat.intCast_sub, cast_smi, Rat.intCast_mul]
  have e1 : sm i (fun j => Am T s k j * v j) * (s k : Rat) = sm i (fun j => ((T k j * xc T i c j : Int) : Rat)) := by
   rw [Rat.mul_comm, ← sm_mul]
   refine sm_congr fun j hj => ?_
   rw [v1 j hj, Rat.intCast_mul]
   have := hs' k
   unfold Am
   grind
  have e2 : Am T s k c * (s k : Rat) = (T k c : Rat) := by
   have := hs' k
   unfold Am
   grind
  rw [Rat.add_mul, e1]
  have e3 : Am T s k c * -(dt i T : Rat) * (s k : Rat) = - (Am T s k c * (s k : Rat) * (dt i T : Rat)) := by grind
  rw [e3, e2]
  grind
 have hO : ∀ k, k < i → sm m (fun j => Am T s k j * v j) = 0 := by
  intro k hk
  have h := hA k
  rw [show smi i (fun j => T k j * xc T i c j) = dt i T * T k c from cramer i hi T (fun r => T r c) k hk] at h
  have h0 : ((dt i T * T k c - T k c * dt i T : Int) : Rat) = 0 := by rw [show dt i T * T k c - T k c * dt i T = 0 from by grind]; rfl
  rw [h0] at h
  rcases Rat.mul_eq_zero.1 h with h | h
  · exact h
  · exact absurd h (hs' k)
 obtain ⟨r1, r2⟩ := Rm_orth (Am T s) m v i hO
 obtain ⟨z1, z2⟩ := Rm_zero (Am T s) i hp
 refine ⟨fun k hk => ?_, fun k hk => ?_⟩
 · have h := r1 k hk
   rw [sm_two hc hm (fun j h1 h2 h3 => by rw [v3 j h1 h2 h3]; exact Rat.mul_zero _), sm_one hk (fun j h1 h2 => by rw [z1 k j h1 (by omega)]; exact Rat.zero_mul _), v1 k hk, v2, z2 k hk] at h
   grind
 · have h := r2 k hk
   rw [sm_two hc hm (fun j h1 h2 h3 => by rw [v3 j h1 h2 h3]; exact Rat.mul_zero _), sm_zero (fun j h1 => by rw [z1 k j h1 (by omega)]; exact Rat.zero_mul _), v2] at h
   have h5 := hA k
   rw [← h] at h5
   rw [Rat.intCast_sub] at h5 ⊢
   grind
theorem pivot_dt {T : Nat → Nat → Int} {s : Nat → Int} {i : Nat} (hi : i ≤ 3) (hs : ∀ k, s k ≠ 0) (hp : ∀ j, j < i → Rm (Am T s) j j j ≠ 0) :
 Rm (Am T s) i i i * (dt i T : Rat) * (s i : Rat) = (dt (i + 1) T : Rat) := by
 rw [(stage (m := i + 1) (by omega) hs hp (Nat.le_refl _) (by omega)).2 i (Nat.le_refl _), ← last_row i hi T]
 rfl
structure Mm (n : Nat) (T : Nat → Nat → Int) : Prop where
 off : ∀ r c, r < n → c < n → r ≠ c → T r c ≤ 0
 top : ∀ r, r < n → T r r ≤ 10
 max : ∀ i, i < n → ∀ v : Nat → Rat, v i = 1 → (∀ k, k ≤ i → sm (i + 1) (fun j => (T k j : Rat) * v j) ≤ 0) → False
theorem Mm.pivots {n : Nat} {T : Nat → Nat → Int} (h : Mm n T) {s : Nat → Int} (hs : ∀ k, 0 < s k) : ∀ i, i ≤ n →
 (∀ j, j < i → 0 < Rm (Am T s) j j j) ∧ (∀ k c, k < n → c < n → k ≠ c → i ≤ c → Rm (Am T s) i k c ≤ 0) ∧ ∀ k, k < n → i ≤ k → Rm (Am T s) i k k ≤ Am T s k k := by
 have hs' : ∀ k, 0 < ((s k : Int) : Rat) := fun k => by have := hs k; exact_mod_cast this
 intro i
 induction i with
 | zero =>
  intro _
  refine ⟨fun j hj => by omega, fun k c hk hc hkc _ => ?_, fun k _ _ => Rat.le_refl⟩
  show Am T s k c ≤ 0
  have h1 : ((T k c : Int) : Rat) ≤ 0 := by exact_mod_cast h.off k c hk hc hkc
  have h2 := hs' k
  have h3 : Am T s k c * (s k : Rat) = (T k c : Rat) := by unfold Am; grind
  rcases Rat.le_total (a := Am T s k c) (b := 0) with h4 | h4
  · exact h4
  · have := Rat.mul_nonneg h4 (Rat.le_of_lt h2)
    have h5 : Am T s k c * (s k : Rat) = 0 := by grind
    rcases Rat.mul_eq_zero.1 h5 with h6 | h6 <;> grind
 | succ i ih =>
  intro hi
  obtain ⟨h1, h2, h3⟩ := ih (by omega)
  obtain ⟨z1, z2⟩ := Rm_zero (Am T s) i (fun j hj => by have := h1 j hj; grind)
  have hp : 0 < Rm (Am T s) i i i := by
   by_cases hc : 0 < Rm (Am T s) i i i
   · exact hc
   · exfalso
     obtain ⟨v, hv⟩ : ∃ v : Nat → Rat, v = fun j => if j < i then -(Rm (Am T s) i j i / Rm (Am T s) i j j) else 1 := ⟨_, rfl⟩
     have v1 : ∀ j, j < i → v j = -(Rm (Am T s) i j i / Rm (Am T s) i j j) := fun j hj => by rw [hv]; exact if_pos hj
     have v2 : v i = 1 := by rw [hv]; exact iN_
     have ho : ∀ k, k < i → sm (i + 1) (fun j => Rm (Am T s) i k j * v j) = 0 := by
      intro k hk
      rw [sm, sm_one hk (fun j hj hjk => by rw [z1 k j hj (by omega)]; exact Rat.zero_mul _), v1 k hk, v2]
      have := h1 k hk
      rw [← z2 k hk] at this
      grind
     have hb := Rm_back (Am T s) (i + 1) v i ho
     have hl : sm (i + 1) (fun j => Am T s i j * v j) = Rm (Am T s) i i i := by
      rw [← (Rm_orth (Am T s) (i + 1) v i hb).2 i (Nat.le_refl _), sm, sm_zero (fun j hj => by rw [z1 i j hj (by omega)]; exact Rat.zero_mul _), v2]
      grind
     have hT : ∀ k, sm (i + 1) (fun j => (T k j : Rat) * v j) = (s k : Rat) * sm (i + 1) (fun j => Am T s k j * v j) := by
      intro k
      rw [← sm_mul]
      refine sm_congr fun j _ => ?_
      have := hs' k
      unfold Am
      grind
     refine h.max i (by omega) v v2 fun k hk => ?_
     rw [hT k]
     by_cases e : k = i
     · subst e
       rw [hl]
       have h4 := hs' k
       have h5 : 0 ≤ - Rm (Am T s) k k k := by grind
       have := Rat.mul_nonneg (Rat.le_of_lt h4) h5
       grind
     · rw [hb k (by omega)]
       grind
  have hq : ∀ k c, k < n → c < n → k ≠ i → i < c → Rm (Am T s) (i + 1) k c ≤ Rm (Am T s) i k c := by
   intro k c hk hc hki hic
   rw [Rm_succ_ne _ hki]
   have a1 := h2 k i hk (by omega) hki (Nat.le_refl _)
   have a2 := h2 i c (by omega) hc (by omega) (by omega)
   have a3 : 0 ≤ -Rm (Am T s) i k i / Rm (Am T s) i i i := by
    rw [Rat.div_def]
    exact Rat.mul_nonneg (by grind) (Rat.le_of_lt (Rat.inv_pos.2 hp))
   have a4 := Rat.mul_nonneg a3 (show 0 ≤ -Rm (Am T s) i i c by grind)
   grind
  refine ⟨fun j hj => ?_, fun k c hk hc hkc hic => ?_, fun k hk hik => ?_⟩
  · by_cases e : j = i
    · subst e; exact hp
    · exact h1 j (by omega)
  · by_cases e : k = i
    · subst e
      rw [Rm_succ_eq]
      exact h2 _ _ hk hc hkc (by omega)
    · exact Rat.le_trans (hq k c hk hc e (by omega)) (h2 k c hk hc hkc (by omega))
  · exact Rat.le_trans (hq k k hk hk (by omega) (by omega)) (h3 k hk (by omega))
theorem Mm.dts {n : Nat} {T : Nat → Nat → Int} (h : Mm n T) : ∀ i, i ≤ n → i ≤ 4 → 0 < dt i T ∧ dt i T ≤ 10 ^ i := by
 intro i
 induction i with
 | zero => intro _ _; simp [dt]
 | succ i ih =>
  intro hi h4
  obtain ⟨d1, d2⟩ := ih (by omega) (by omega)
  obtain ⟨p1, _, _⟩ := h.pivots (s := fun _ => 1) (fun _ => by decide) (i + 1) hi
  obtain ⟨_, _, p3⟩ := h.pivots (s := fun _ => 1) (fun _ => by decide) i (by omega)
  have e := pivot_dt (T := T) (s := fun _ => 1) (i := i) (by omega) (fun _ => by decide) (fun j hj => by have := p1 j (by omega); grind)
  have q1 := p1 i (by omega)
  have q2 := p3 i (by omega) (Nat.le_refl _)
  have q3 : Am T (fun _ => 1) i i = (T i i : Rat) := by unfold Am; grind
  have q4 : ((T i i : Int) : Rat) ≤ 10 := by exact_mod_cast h.top i (by omega)
  have e1 : Rm (Am T fun _ => 1) i i i * (dt i T : Rat) = (dt (i + 1) T : Rat) := by rw [← e]; grind
  have dd : 0 < (dt i T : Rat) := by exact_mod_cast d1
  constructor
  · have := Rat.mul_pos q1 dd
    rw [e1] at this
    exact_mod_cast this
  · have h5 : 0 ≤ (10 - Rm (Am T fun _ => 1) i i i) := by grind
    have h6 := Rat.mul_nonneg h5 (Rat.le_of_lt dd)
    have h7 : (dt (i + 1) T : Rat) ≤ 10 * (dt i T : Rat) := by grind
    have h8 : dt (i + 1) T ≤ 10 * dt i T := by exact_mod_cast h7
    have : (10 : Int) ^ (i + 1) = 10 * 10 ^ i := by rw [Int.pow_succ, Int.mul_comm]
    omega
theorem smi_congr {n : Nat} {f g : Nat → Int} (h : ∀ c, c < n → f c = g c) : smi n f = smi n g := by
 induction n with
 | zero => rfl
 | succ n ih => rw [smi, smi, ih (fun c hc => h c (by omega)), h n (by omega)]
theorem smi_le {n : Nat} {f g : Nat → Int} (h : ∀ c, c < n → f c ≤ g c) : smi n f ≤ smi n g := by
 induction n with
 | zero => exact Int.le_refl _
 | succ n ih =>
  have h1 := ih (fun c hc => h c (by omega))
  have h2 := h n (by omega)
  simp only [smi]
  omega
theorem smi_zero (N : Nat) : smi N (fun _ => 0) = 0 := by
 induction N with
 | zero => rfl
 | succ n ih => rw [smi, ih]; rfl
theorem smi_part {N x : Nat} (hx : x < N) (f : Nat → Int) : smi N f = f x + smi N (fun z => if z = x then 0 else f z) := by
 induction N with
 | zero => omega
 | succ n ih =>
  simp only [smi]
  by_cases e : x = n
  · subst e
    rw [if_pos rfl, smi_congr (g := fun z => if z = x then 0 else f z) (fun c hc => by rw [iN_])]
    omega
  · rw [ih (by omega), if_neg (fun h => e h.symm)]
    omega
theorem sub_sum {N : Nat} : ∀ (n : Nat) (b : Nat → Nat) (f : Nat → Int), (∀ j, j < n → b j < N) → (∀ i j, i < n → j < n → b i = b j → i = j) → (∀ z, z < N → 0 ≤ f z) → smi n (fun j => f (b j)) ≤ smi N f := by
 intro n
 induction n with
 | zero =>
  intro b f _ _ h
  have := smi_le (n := N) (f := fun _ => 0) (g := f) h
  rw [smi_zero] at this
  exact this
 | succ n ih =>
  intro b f hb hi hf
  rw [smi_part (hb n (by omega)) f, smi]
  have := ih b (fun z => if z = b n then 0 else f z) (fun j hj => hb j (by omega)) (fun i j h1 h2 => hi i j (by omega) (by omega)) (fun z hz => by
   show (0 : Int) ≤ if z = b n then 0 else f z
   split
   · exact Int.le_refl _
   · exact hf z hz)
  rw [smi_congr (g := fun j => f (b j)) (fun c hc => if_neg (fun e => by have := hi c n (by omega) (by omega) e; omega))] at this
  omega
structure Chn (N : Nat) (o : Int) (s : Nat → Nat → Int) : Prop where
 pos : 0 < o
 top : o ≤ 10
 nn : ∀ x z, 0 ≤ s x z
 sum : ∀ x, x < N → smi N (s x) = o
theorem Chn.le {N : Nat} {o : Int} {s : Nat → Nat → Int} (h : Chn N o s) {x z : Nat} (hx : x < N) (hz : z < N) : s x z ≤ o := by
 have := sub_sum (N := N) 1 (fun _ => z) (s x) (fun _ _ => hz) (fun i j _ _ _ => by omega) (fun z _ => h.nn x z)
 have e := h.sum x hx
 simp only [smi] at this
 omega
def Leads (N : Nat) (s : Nat → Nat → Int) (x g : Nat) : Prop := ∀ P : Nat → Prop, P x → (∀ y z, P y → y < N → z < N → 0 < s y z → P z) → P g
theorem max_of (n : Nat) (v : Nat → Rat) : ∃ r, r ≤ n ∧ ∀ j, j ≤ n → v j ≤ v r := by
 induction n with
 | zero =>
  refine ⟨0, Nat.le_refl _, fun j hj => ?_⟩
  obtain rfl : j = 0 := by omega
  exact Rat.le_refl
 | succ n ih =>
  obtain ⟨r, h1, h2⟩ := ih
  rcases Rat.le_total (a := v r) (b := v (n + 1)) with h | h
  · refine ⟨n + 1, Nat.le_refl _, fun j hj => ?_⟩
    by_cases e : j = n + 1
    · rw [e]; exact Rat.le_refl
    · exact Rat.le_trans (h2 j (by omega)) h
  · refine ⟨r, by omega, fun j hj => ?_⟩
    by_cases e : j = n + 1
    · rw [e]; exact h
    · exact h2 j (by omega)
def tb (o : Int) (s : Nat → Nat → Int) (b : Nat → Nat) (r c : Nat) : Int := if r = c then o - s (b r) (b c) else - s (b r) (b c)
theorem tb_row (o : Int) (s : Nat → Nat → Int) (b : Nat → Nat) (m k : Nat) (hk : k < m) (v : Nat → Rat) :
 sm m (fun j => (tb o s b k j : Rat) * v j) = (o : Rat) * v k - sm m (fun j => (s (b k) (b j) : Rat) * v j) := by
 have e : ∀ j, (tb o s b k j : Rat) * v j = (if j = k then (o : Rat) * v k else 0) + (-1) * ((s (b k) (b j) : Rat) * v j) := by
  intro j
  unfold tb
  by_cases h : k = j
  · subst h
    rw [if_pos rfl, if_pos rfl, Rat.intCast_sub]
    grind
  · rw [if_neg h, if_neg (fun e => h e.symm), Rat.intCast_neg]
    grind
 rw [sm_congr (fun j _ => e j), sm_add, sm_mul, sm_one (c := k) hk (fun j _ h => if_neg h), if_pos rfl]
 grind
theorem chain_max {N : Nat} {o : Int} {s : Nat → Nat → Int} (hc : Chn N o s) {n : Nat} {b : Nat → Nat} {g : Nat} (hb : ∀ j, j < n → b j < N) (hi : ∀ i j, i < n → j < n → b i = b j → i = j) (hg : ∀ j, j < n → b j ≠ g) (hl : ∀ j, j < n → Leads N s (b j) g) :
 Mm n (tb o s b) := by
 refine ⟨fun r c hr hcc h => ?_, fun r hr => ?_, fun i hin v hv h => ?_⟩
 · rw [tb, if_neg h]
   have := hc.nn (b r) (b c)
   omega
 · rw [tb, if_pos rfl]
   have := hc.nn (b r) (b r)
   have := hc.top
   omega
 · obtain ⟨r, hr, hm⟩ := max_of i v
   have hpos : 0 < v r := by
    have := hm i (Nat.le_refl _)
    grind
   refine absurd (hl r (by omega) (fun x => ∃ q, q ≤ i ∧ b q = x ∧ v q = v r) ⟨r, hr, rfl, rfl⟩ ?_) ?_
   · rintro y z ⟨q, hq, rfl, hqv⟩ hy hz hyz
     have h1 := h q hq
     rw [tb_row o s b (i + 1) q (by omega) v] at h1
     by_cases hz' : ∃ j, j ≤ i ∧ b j = z
     · obtain ⟨j, hj, rfl⟩ := hz'
       refine ⟨j, hj, rfl, ?_⟩
       have h2 : sm (i + 1) (fun c => (s (b q) (b c) : Rat) * v c) ≤ sm (i + 1) (fun c => (s (b q) (b c) : Rat) * v r - if c = j then (s (b q) (b j) : Rat) * (v r - v j) else 0) := by
        refine sm_le fun c hcc => ?_
        have a1 : (0 : Rat) ≤ (s (b q) (b c) : Rat) := by exact_mod_cast hc.nn (b q) (b c)
        have a2 := hm c (by omega)
        have a3 := Rat.mul_nonneg a1 (show 0 ≤ v r - v c by grind)
        by_cases e : c = j
        · subst e; rw [if_pos rfl]; grind
        · rw [if_neg e]; grind
       have h3 : sm (i + 1) (fun c => (s (b q) (b c) : Rat) * v r - if c = j then (s (b q) (b j) : Rat) * (v r - v j) else 0) = (smi (i + 1) (fun c => s (b q) (b c)) : Rat) * v r - (s (b q) (b j) : Rat) * (v r - v j) := by
        rw [sm_congr (g := fun c => v r * (s (b q) (b c) : Rat) + (-1) * (if c = j then (s (b q) (b j) : Rat) * (v r - v j) else 0)) (fun c _ => by grind), sm_add, sm_mul, sm_mul, sm_one (c := j) (by omega) (fun j' _ h => if_neg h), if_pos rfl, cast_smi]
        grind
       have h4 : smi (i + 1) (fun c => s (b q) (b c)) ≤ o := by
        rw [← hc.sum (b q) hy]
        exact sub_sum (i + 1) b (s (b q)) (fun j hj => hb j (by omega)) (fun i' j' h1 h2 => hi i' j' (by omega) (by omega)) (fun z _ => hc.nn _ z)
       have h5 : ((smi (i + 1) (fun c => s (b q) (b c)) : Int) : Rat) ≤ (o : Rat) := by exact_mod_cast h4
       have h6 := Rat.mul_nonneg (show (0 : Rat) ≤ (o : Rat) - ((smi (i + 1) (fun c => s (b q) (b c)) : Int) : Rat) by grind) (Rat.le_of_lt hpos)
       have h7 : (0 : Rat) < (s (b q) (b j) : Rat) := by exact_mod_cast hyz
       have h8 := hm j hj
       rcases Rat.le_total (a := v r) (b := v j) with h9 | h9
       · exact Rat.le_antisymm h8 h9
       · have h10 : (s (b q) (b j) : Rat) * (v r - v j) ≤ 0 := by
          rw [h3] at h2
          rw [hqv] at h1
          clear h3 hm hv h h8 h9
          generalize (s (b q) (b j) : Rat) * (v r - v j) = A at h2 ⊢
          generalize sm (i + 1) (fun c => (s (b q) (b c) : Rat) * v c) = B at h1 h2
          generalize ((smi (i + 1) (fun c => s (b q) (b c)) : Int) : Rat) = C at h2 h6
          grind
         have h11 := Rat.mul_nonneg (Rat.le_of_lt h7) (show 0 ≤ v r - v j by grind)
         have h12 : (s (b q) (b j) : Rat) * (v r - v j) = 0 := Rat.le_antisymm h10 h11
         rcases Rat.mul_eq_zero.1 h12 with h13 | h13
         · grind
         · grind
     · exfalso
       have h2 : sm (i + 1) (fun c => (s (b q) (b c) : Rat) * v c) ≤ sm (i + 1) (fun c => v r * (s (b q) (b c) : Rat)) := by
        refine sm_le fun c hcc => ?_
        have a1 : (0 : Rat) ≤ (s (b q) (b c) : Rat) := by exact_mod_cast hc.nn (b q) (b c)
        have a2 := hm c (by omega)
        have a3 := Rat.mul_nonneg a1 (show 0 ≤ v r - v c by grind)
        grind
       rw [sm_mul, ← cast_smi] at h2
       have h4 : smi (i + 1) (fun c => s (b q) (b c)) + s (b q) z ≤ o := by
        rw [← hc.sum (b q) hy]
        have := sub_sum (i + 2) (fun j => if j ≤ i then b j else z) (s (b q)) (fun j hj => by
         show (if j ≤ i then b j else z) < N
         split
         · exact hb j (by omega)
         · exact hz) (fun i' j' h1 h2 e => by
         by_cases c1 : i' ≤ i <;> by_cases c2 : j' ≤ i
         · simp only [c1, c2, if_true] at e
           exact hi i' j' (by omega) (by omega) e
         · simp only [c1, c2, if_true, if_false] at e
           exact absurd ⟨i', c1, e⟩ hz'
         · simp only [c1, c2, if_true, if_false] at e
           exact absurd ⟨j', c2, e.symm⟩ hz'
         · omega) (fun z _ => hc.nn _ z)
        rw [smi, iN_, smi_congr (g := fun c => s (b q) (b c)) (fun c hcc => by simp [show c ≤ i by omega])] at this
        exact this
       have h5 : ((smi (i + 1) (fun c => s (b q) (b c)) : Int) : Rat) + (s (b q) z : Rat) ≤ (o : Rat) := by exact_mod_cast h4
       have h7 : (0 : Rat) < (s (b q) z : Rat) := by exact_mod_cast hyz
       have h8 := Rat.mul_pos (show (0 : Rat) < (o : Rat) - ((smi (i + 1) (fun c => s (b q) (b c)) : Int) : Rat) by grind) hpos
       rw [hqv] at h1
       clear hm hv h
       generalize sm (i + 1) (fun c => (s (b q) (b c) : Rat) * v c) = B at h1 h2
       generalize ((smi (i + 1) (fun c => s (b q) (b c)) : Int) : Rat) = C at h2 h8
       grind
   · rintro ⟨q, hq, e, _⟩
     exact hg q (by omega) e
theorem dt_tr : ∀ n, n ≤ 4 → ∀ f : Nat → Nat → Int, dt n (fun r c => f c r) = dt n f := by
 intro n hn f
 rcases lt_cases4 hn with rfl | rfl | rfl | rfl | rfl
 · rfl
 · simp [dt1]
 · simp [dt2]
   grind
 · simp [dt3]
   grind
 · simp [dt4, d3]
   grind
theorem dt_ng : ∀ n, n ≤ 4 → ∀ f : Nat → Nat → Int, dt n (fun r c => - f r c) = (if n % 2 = 0 then 1 else -1) * dt n f := by
 intro n hn f
 rcases lt_cases4 hn with rfl | rfl | rfl | rfl | rfl
 · simp [dt]
 · simp [dt1]
 · simp [dt2]
   grind
 · simp [dt3]
   grind
 · simp [dt4, d3]
   grind
theorem dt_congr : ∀ (n : Nat) {f g : Nat → Nat → Int}, (∀ r c, r < n → c < n → f r c = g r c) → dt n f = dt n g := by
 intro n
 induction n with
 | zero => intro f g _; rfl
 | succ n ih =>
  intro f g h
  rw [dt, dt]
  refine smi_congr fun k hk => ?_
  rw [h 0 k (by omega) hk, ih (fun r c hr hc => h _ _ (by omega) (by split <;> omega))]
def skp (j a : Nat) : Nat := if a < j then a else a + 1
theorem minor_turn (m : Nat) (hm : m ≤ 4) (Q : Nat → Nat → Int) (h : ∀ c, c ≤ m → smi (m + 1) (Q c) = 0) (j : Nat) (hj : j < m) :
 dt m (fun r c => if c = j then Q m r else Q c r) = - dt m (fun a b => Q (skp j a) (skp j b)) := by
 have h0 : ∀ c, c ≤ m → Q c j = - (smi (m + 1) (fun z => if z = j then 0 else Q c z)) := by
  intro c hc
  have h1 := h c hc
  rw [smi_part (show j < m + 1 by omega) (Q c)] at h1
  omega
 have hm' : m = 1 ∨ m = 2 ∨ m = 3 ∨ m = 4 := by omega
 rcases hm' with rfl | rfl | rfl | rfl
 · obtain rfl : j = 0 := by omega
   have e0 := h0 0 (by omega)
   have e1 := h0 1 (by omega)
   simp [smi] at e0 e1
   simp [dt1, skp]
   grind
 · have hj' : j = 0 ∨ j = 1 := by omega
   have e0 := h0 0 (by omega)
   have e1 := h0 1 (by omega)
   have e2 := h0 2 (by omega)
   rcases hj' with rfl | rfl <;>
   · simp [smi] at e0 e1 e2
     simp [dt2, skp]
     try simp only [e0, e1, e2]
     grind
 · have hj' : j = 0 ∨ j = 1 ∨ j = 2 := by omega
   have e0 := h0 0 (by omega)
   have e1 := h0 1 (by omega)
   have e2 := h0 2 (by omega)
   have e3 := h0 3 (by omega)
   rcases hj' with rfl | rfl | rfl <;>
   · simp [smi] at e0 e1 e2 e3
     simp [dt3, skp]
     try simp only [e0, e1, e2, e3]
     grind
 · have hj' : j = 0 ∨ j = 1 ∨ j = 2 ∨ j = 3 := by omega
   have e0 := h0 0 (by omega)
   have e1 := h0 1 (by omega)
   have e2 := h0 2 (by omega)
   have e3 := h0 3 (by omega)
   have e4 := h0 4 (by omega)
   rcases hj' with rfl | rfl | rfl | rfl <;>
   · simp [smi] at e0 e1 e2 e3 e4
     simp [dt4, d3, skp]
     try simp only [e0, e1, e2, e3, e4]
     grind
theorem w64 {x : Int} (h0 : -9223372036854775808 ≤ x) (h1 : x ≤ 9223372036854775807) : wrap64 x = x := by
 unfold wrap64
 omega
structure Low (a b n d : Int) : Prop where
 pos : 0 < b
 ne : d ≠ 0
 eq : a * d = n * b
 cop : Int.gcd a b = 1
theorem dvd_of_cop {a b d : Int} (hc : Int.gcd a b = 1) (h : b ∣ a * d) : b ∣ d := by
 rw [← Int.natAbs_dvd_natAbs] at h ⊢
 rw [Int.natAbs_mul] at h
 exact Nat.Coprime.dvd_of_dvd_mul_left (k := b.natAbs) (m := a.natAbs) (n := d.natAbs) (by
  rw [Nat.Coprime, Nat.gcd_comm]; exact hc) (by exact h)
theorem Low.fac {a b n d : Int} (h : Low a b n d) : ∃ g, g ≠ 0 ∧ n = a * g ∧ d = b * g := by
 have hb : b ∣ d := dvd_of_cop h.cop ⟨n, by rw [h.eq, Int.mul_comm]⟩
 obtain ⟨g, rfl⟩ := hb
 have hp := h.pos
 refine ⟨g, fun e => h.ne (by rw [e, Int.mul_zero]), ?_, rfl⟩
 have he := h.eq
 have : b * n = b * (a * g) := by rw [Int.mul_comm b n, ← he, Int.mul_left_comm]
 exact Int.eq_of_mul_eq_mul_left (by omega) this
theorem natAbs_le_of_mul {a g : Int} (hg : g ≠ 0) : a.natAbs ≤ (a * g).natAbs := by
 rw [Int.natAbs_mul]
 exact Nat.le_mul_of_pos_right _ (by omega)
theorem Low.num_le {a b n d : Int} (h : Low a b n d) : a.natAbs ≤ n.natAbs := by
 obtain ⟨g, hg, rfl, _⟩ := h.fac
 exact natAbs_le_of_mul hg
theorem Low.den_le {a b n d : Int} (h : Low a b n d) : b.natAbs ≤ d.natAbs := by
 obtain ⟨g, hg, _, rfl⟩ := h.fac
 exact natAbs_le_of_mul hg
theorem Low.unique {a b a' b' n d n' d' : Int} (h : Low a b n d) (h' : Low a' b' n' d') (e : n * d' = n' * d) : a = a' ∧ b = b' := by
 have hp := h.pos
 have hp' := h'.pos
 have hx : a * b' = a' * b := by
  have hd := h.ne
  have hd' := h'.ne
  have h1 := h.eq
  have h2 := h'.eq
  have : (d * d') * (a * b') = (d * d') * (a' * b) := by grind
  exact Int.eq_of_mul_eq_mul_left (Int.mul_ne_zero hd hd') this
 have h1 : b ∣ b' := dvd_of_cop h.cop ⟨a', by rw [hx, Int.mul_comm]⟩
 have h2 : b' ∣ b := dvd_of_cop h'.cop ⟨a, by rw [← hx, Int.mul_comm]⟩
 have hb : b = b' := Int.le_antisymm (Int.le_of_dvd hp' h1) (Int.le_of_dvd hp h2)
 subst hb
 exact ⟨Int.eq_of_mul_eq_mul_right (by omega) hx, rfl⟩
theorem low_div {n d g : Int} (hd : d ≠ 0) (hg : g.natAbs = Int.gcd n d) (hs : 0 < d * g) : Low (n.tdiv g) (d.tdiv g) n d := by
 have hg0 : g ≠ 0 := by rintro rfl; omega
 obtain ⟨x, rfl⟩ : g ∣ n := by rw [← Int.natAbs_dvd_natAbs, hg]; exact Nat.gcd_dvd_left _ _
 obtain ⟨y, rfl⟩ : g ∣ d := by rw [← Int.natAbs_dvd_natAbs, hg]; exact Nat.gcd_dvd_right _ _
 rw [Int.mul_tdiv_cancel_left _ hg0, Int.mul_tdiv_cancel_left _ hg0]
 refine ⟨?_, hd, by grind, ?_⟩
 · have h1 : 0 < y * (g * g) := by rw [show y * (g * g) = g * y * g from by grind]; exact hs
   have h2 : 0 < g * g := by
    rcases Int.lt_trichotomy g 0 with h | h | h
    · exact Int.mul_pos_of_neg_of_neg h h
    · exact absurd h hg0
    · exact Int.mul_pos h h
   rcases Int.lt_or_le 0 y with h | h
   · exact h
   · have := Int.mul_nonpos_of_nonpos_of_nonneg h (Int.le_of_lt h2)
     omega
 · rw [Int.gcd_mul_left] at hg
   have : g.natAbs ≠ 0 := by omega
   exact Nat.eq_of_mul_eq_mul_left (Nat.pos_of_ne_zero this) (by omega)
theorem Low.zero {a b d : Int} (h : Low a b 0 d) : a = 0 ∧ b = 1 := by
 have := h.num_le
 have ha : a = 0 := by omega
 subst ha
 have := h.cop
 have hp := h.pos
 simp at this
 omega
theorem Ev.some {α : Type} {g : Nat → Option α} {r : α} (h : ∀ k, g k = Option.some r) : Ev g r := ⟨0, fun k _ => h k⟩
theorem tmod_nn {a b : Int} (ha : 0 ≤ a) (hb : 0 < b) : 0 ≤ Int.tmod a b ∧ Int.tmod a b < b ∧ Int.tmod a b = a % b := by
 rw [Int.tmod_eq_emod_of_nonneg ha]
 exact ⟨Int.emod_nonneg _ (by omega), Int.emod_lt_of_pos _ hb, rfl⟩
theorem gcd_step {a b : Int} (ha : 0 ≤ a) (hb : 0 < b) : Int.gcd b (Int.tmod a b) = Int.gcd a b := by
 rw [(tmod_nn ha hb).2.2, Int.gcd_comm a b]
 have h : a = a % b + b * (a / b) := by rw [Int.emod_add_mul_ediv]
 conv => rhs; rw [h]
 rw [Int.gcd_add_mul_left_right]
theorem common_l0 : ∀ (k : Nat) (a b : Int), 0 ≤ a → 0 ≤ b → b < k → impl_common.l0 k a b = some ((Int.gcd a b : Nat) : Int) := by
 intro k
 induction k with
 | zero => intro a b ha hb hk; omega
 | succ k ih =>
  intro a b ha hb hk
  simp only [impl_common.l0]
  by_cases h : b = 0
  · subst h
    rw [if_pos rfl, Int.gcd_zero_right]
    congr 1
    omega
  · rw [if_neg h]
    have hb' : 0 < b := by omega
    have h3 := tmod_nn ha hb'
    rw [ih b (Int.tmod a b) hb h3.1 (by omega), gcd_step ha hb']
theorem mx_abs {a : Int} (h0 : -9223372036854775808 < a) (h1 : a ≤ 9223372036854775807) : mx a (wrap64 (-a)) = (a.natAbs : Int) := by
 rw [w64 (by omega) (by omega)]
 unfold mx
 split <;> omega
theorem common_ev {a b : Int} (ha : a.natAbs ≤ 9223372036854775807) (hb : b.natAbs ≤ 9223372036854775807) :
 Ev (fun k => impl_common.f k a b) ((Int.gcd a b : Nat) : Int) := by
 refine ⟨b.natAbs + 1, fun k hk => ?_⟩
 show impl_common.f k a b = _
 unfold impl_common.f
 rw [mx_abs (by omega) (by omega), mx_abs (by omega) (by omega), common_l0 k _ _ (by omega) (by omega) (by omega)]
 simp [Int.gcd]
theorem lowest_ev {n d : Int} (hn : n.natAbs ≤ 9223372036854775807) (hd : d.natAbs ≤ 9223372036854775807) (h0 : d ≠ 0) :
 ∃ a b, Low a b n d ∧ ∃ K, ∀ k, K ≤ k → impl_lowest.f k n d = some (a, b) := by
 have hg : Int.gcd n d ≠ 0 := by
  intro h
  exact h0 (Int.gcd_eq_zero_iff.1 h).2
 have hle : Int.gcd n d ≤ d.natAbs := Nat.le_of_dvd (by omega) (Nat.gcd_dvd_right _ _)
 rcases Int.lt_or_gt_of_ne h0 with h | h
 · have L := low_div (n := n) (d := d) (g := -((Int.gcd n d : Nat) : Int)) h0 (by omega) (Int.mul_pos_of_neg_of_neg h (by omega))
   have hx := L.num_le
   have hy := L.den_le
   refine ⟨_, _, L, ?_⟩
   show Ev (fun k => impl_lowest.f k n d) _
   refine Ev.congr (fun k => by unfold impl_lowest.f; rfl) (Ev.bind (common_ev hn hd) (Ev.some fun k => ?_))
   rw [if_pos h, w64 (x := -((Int.gcd n d : Nat) : Int)) (by omega) (by omega), iN_, w64 (by omega) (by omega), w64 (by omega) (by omega)]
 · have L := low_div (n := n) (d := d) (g := ((Int.gcd n d : Nat) : Int)) h0 (by omega) (Int.mul_pos h (by omega))
   have hx := L.num_le
   have hy := L.den_le
   refine ⟨_, _, L, ?_⟩
   show Ev (fun k => impl_lowest.f k n d) _
   refine Ev.congr (fun k => by unfold impl_lowest.f; rfl) (Ev.bind (common_ev hn hd) (Ev.some fun k => ?_))
   rw [iN_, iN_, w64 (by omega) (by omega), w64 (by omega) (by omega)]
theorem rat_num (q : Rat) : (q.num : Rat) = q * ((q.den : Int) : Rat) := by
 have h := Rat.num_divInt_den q
 have hd : (((q.den : Int) : Rat)) ≠ 0 := fun e => q.den_nz (by have := Rat.intCast_inj.1 (e.trans (show (0 : Rat) = ((0 : Int) : Rat) from rfl)); omega)
 rw [Rat.divInt_eq_div] at h
 have h2 : ((q.num : Rat) / ((q.den : Int) : Rat)) * ((q.den : Int) : Rat) = q * ((q.den : Int) : Rat) := by rw [h]
 rw [← h2, Rat.div_mul_cancel hd]
theorem low_of_rat {q : Rat} {n d : Int} (hd : d ≠ 0) (h : q * (d : Rat) = (n : Rat)) : Low q.num (q.den : Int) n d := by
 refine ⟨by have := q.den_nz; omega, hd, ?_, q.reduced⟩
 have h1 := rat_num q
 have h2 : ((q.num * d : Int) : Rat) = ((n * (q.den : Int) : Int) : Rat) := by
  rw [Rat.intCast_mul, Rat.intCast_mul, h1, ← h]
  grind
 exact Rat.intCast_inj.1 h2
structure Bd (q : Rat) (N D : Nat) : Prop where
 num : q.num.natAbs ≤ N
 den : q.den ≤ D
theorem bd_of {q : Rat} {n d : Int} {N D : Nat} (hd : d ≠ 0) (h : q * (d : Rat) = (n : Rat)) (hn : n.natAbs ≤ N) (hD : d.natAbs ≤ D) : Bd q N D := by
 have L := low_of_rat hd h
 have h1 := L.num_le
 have h2 := L.den_le
 exact ⟨by omega, by simp at h2; omega⟩
theorem Bd.mono {q : Rat} {N D N' D' : Nat} (h : Bd q N D) (h1 : N ≤ N') (h2 : D ≤ D') : Bd q N' D' := ⟨Nat.le_trans h.num h1, Nat.le_trans h.den h2⟩
theorem bd_zero : Bd 0 0 1 := ⟨by decide, by decide⟩
theorem bd_one : Bd 1 1 1 := ⟨by decide, by decide⟩
theorem lowest_rat {n d : Int} {q : Rat} (hn : n.natAbs ≤ 9223372036854775807) (hd : d.natAbs ≤ 9223372036854775807) (h0 : d ≠ 0) (h : q * (d : Rat) = (n : Rat)) :
 ∃ K, ∀ k, K ≤ k → impl_lowest.f k n d = some (q.num, (q.den : Int)) := by
 obtain ⟨a, b, L, K, e⟩ := lowest_ev hn hd h0
 obtain ⟨rfl, rfl⟩ := (low_of_rat h0 h).unique L rfl
 exact ⟨K, e⟩
theorem rat_den_ne (q : Rat) : (((q.den : Int) : Rat)) ≠ 0 := fun e => q.den_nz (by have := Rat.intCast_inj.1 (e.trans (show (0 : Rat) = ((0 : Int) : Rat) from rfl)); omega)
theorem den_int_ne (q : Rat) : (q.den : Int) ≠ 0 := by have := q.den_nz; omega
theorem mul_le_of {x y : Int} {A B : Nat} (hx : x.natAbs ≤ A) (hy : y.natAbs ≤ B) : (x * y).natAbs ≤ A * B := by
 rw [Int.natAbs_mul]
 exact Nat.mul_le_mul hx hy
theorem times_rat {a b : Rat} {N D N' D' : Nat} (ha : Bd a N D) (hb : Bd b N' D') (h1 : N * N' ≤ 9223372036854775807) (h2 : D * D' ≤ 9223372036854775807) :
 ∃ K, ∀ k, K ≤ k → impl_frac_times.f k a.num (a.den : Int) b.num (b.den : Int) = some ((a * b).num, ((a * b).den : Int)) := by
 have m1 := mul_le_of ha.num hb.num
 have m2 := mul_le_of (x := (a.den : Int)) (y := (b.den : Int)) (A := D) (B := D') (by simpa using ha.den) (by simpa using hb.den)
 obtain ⟨K, e⟩ := lowest_rat (q := a * b) (n := a.num * b.num) (d := (a.den : Int) * (b.den : Int)) (by omega) (by omega) (Int.mul_ne_zero (den_int_ne a) (den_int_ne b)) (by
  rw [Rat.intCast_mul, Rat.intCast_mul, rat_num a, rat_num b]
  grind)
 refine ⟨K, fun k hk => ?_⟩
 simp only [impl_frac_times.f]
 rw [w64 (by omega) (by omega), w64 (by omega) (by omega), e k hk]
 rfl
theorem over_rat {a b : Rat} {N D N' D' : Nat} (hb0 : b ≠ 0) (ha : Bd a N D) (hb : Bd b N' D') (h1 : N * D' ≤ 9223372036854775807) (h2 : D * N' ≤ 9223372036854775807) :
 ∃ K, ∀ k, K ≤ k → impl_frac_over.f k a.num (a.den : Int) b.num (b.den : Int) = some ((a / b).num, ((a / b).den : Int)) := by
 have m1 := mul_le_of (y := (b.den : Int)) (B := D') ha.num (by simpa using hb.den)
 have m2 := mul_le_of (x := (a.den : Int)) (A := D) (by simpa using ha.den) hb.num
 have hbn : b.num ≠ 0 := fun e => hb0 (by
  have h := rat_num b
  rw [e] at h
  rcases Rat.mul_eq_zero.1 h.symm with h | h
  · exact h
  · exact absurd h (rat_den_ne b))
 obtain ⟨K, e⟩ := lowest_rat (q := a / b) (n := a.num * (b.den : Int)) (d := (a.den : Int) * b.num) (by omega) (by omega) (Int.mul_ne_zero (den_int_ne a) hbn) (by
  rw [Rat.intCast_mul, Rat.intCast_mul, rat_num a, rat_num b]
  grind)
 refine ⟨K, fun k hk => ?_⟩
 simp only [impl_frac_over.f]
 rw [w64 (by omega) (by omega), w64 (by omega) (by omega), e k hk]
 rfl
theorem minus_rat {a b : Rat} {N D N' D' : Nat} (ha : Bd a N D) (hb : Bd b N' D') (h1 : N * D' + N' * D ≤ 9223372036854775807) (h2 : D * D' ≤ 9223372036854775807) :
 ∃ K, ∀ k, K ≤ k → impl_frac_minus.f k a.num (a.den : Int) b.num (b.den : Int) = some ((a - b).num, ((a - b).den : Int)) := by
 have m1 := mul_le_of (y := (b.den : Int)) (B := D') ha.num (by simpa using hb.den)
 have m3 := mul_le_of (y := (a.den : Int)) (B := D) hb.num (by simpa using ha.den)
 have m2 := mul_le_of (x := (a.den : Int)) (y := (b.den : Int)) (A := D) (B := D') (by simpa using ha.den) (by simpa using hb.den)
 obtain ⟨K, e⟩ := lowest_rat (q := a - b) (n := a.num * (b.den : Int) - b.num * (a.den : Int)) (d := (a.den : Int) * (b.den : Int)) (by omega) (by omega) (Int.mul_ne_zero (den_int_ne a) (den_int_ne b)) (by
  rw [Rat.intCast_sub, Rat.intCast_mul, Rat.intCast_mul, Rat.intCast_mul, rat_num a, rat_num b]
  grind)
 refine ⟨K, fun k hk => ?_⟩
 simp only [impl_frac_minus.f]
 rw [w64 (x := a.num * (b.den : Int)) (by omega) (by omega), w64 (x := b.num * (a.den : Int)) (by omega) (by omega), w64 (x := (a.den : Int) * (b.den : Int)) (by omega) (by omega), w64 (by omega) (by omega), e k hk]
 rfl
theorem rd_get {xs : List Int} {j : Nat} (h : j < xs.length) : rd xs (j : Int) = xs[j] := by
 unfold rd
 rw [Int.toNat_natCast, List.getD_eq_getElem?_getD, List.getElem?_eq_getElem h]
 rfl
theorem rd1_get {xs : List (List Int)} {j : Nat} (h : j < xs.length) : rd_L1 xs (j : Int) = xs[j] := by
 unfold rd_L1
 rw [Int.toNat_natCast, List.getD_eq_getElem?_getD, List.getElem?_eq_getElem h]
 rfl
def qn (q : Rat) : S67 := ⟨q.num, (q.den : Int)⟩
def rowq (m : Nat) (g : Nat → Rat) : List S67 := (List.range m).map (fun c => qn (g c))
theorem rowq_len (m : Nat) (g : Nat → Rat) : (rowq m g).length = m := by simp [rowq]
theorem rowq_get {m c : Nat} (h : c < m) (g : Nat → Rat) : rd_T67 (rowq m g) (c : Int) = qn (g c) := by
 show (rowq m g).getD (c : Int).toNat _ = _
 rw [Int.toNat_natCast, List.getD_eq_getElem?_getD, rowq, List.getElem?_map, List.getElem?_range h]
 rfl
theorem rowq_congr {m : Nat} {g g' : Nat → Rat} (h : ∀ c, c < m → g c = g' c) : rowq m g = rowq m g' := by
 unfold rowq
 refine List.map_congr_left fun c hc => ?_
 rw [h c (List.mem_range.1 hc)]
theorem rowq_set {m c : Nat} (g : Nat → Rat) (v : Rat) : (rowq m g).set c (qn v) = rowq m (fun c' => if c' = c then v else g c') := by
 apply List.ext_getElem?
 intro q
 unfold rowq
 rw [List.getElem?_set]
 by_cases e : c = q
 · subst e
   rw [if_pos rfl]
   by_cases h : c < m
   · rw [if_pos (by simpa using h), List.getElem?_map, List.getElem?_range h]
     simp
   · rw [if_neg (by simpa using h), List.getElem?_map, List.getElem?_eq_none (by simp; omega)]
     rfl
 · rw [if_neg e, List.getElem?_map, List.getElem?_map]
   by_cases h : q < m
   · rw [List.getElem?_range h]
     simp [show q ≠ c from fun e2 => e e2.symm]
   · rw [List.getElem?_eq_none (by simp; omega)]
     rfl
def matq (n m : Nat) (F : Nat → Nat → Rat) : List (List S67) := (List.range n).map (fun k => rowq m (F k))
theorem matq_len (n m : Nat) (F : Nat → Nat → Rat) : (matq n m F).length = n := by simp [matq]
theorem matq_get {n m k : Nat} (h : k < n) (F : Nat → Nat → Rat) : (matq n m F).getD k [] = rowq m (F k) := by
 rw [List.getD_eq_getElem?_getD, matq, List.getElem?_map, List.getElem?_range h]
 rfl
theorem matq_congr {n m : Nat} {F F' : Nat → Nat → Rat} (h : ∀ k c, k < n → c < m → F k c = F' k c) : matq n m F = matq n m F' := by
 unfold matq
 refine List.map_congr_left fun k hk => ?_
 exact rowq_congr fun c hc => h k c (List.mem_range.1 hk) hc
theorem matq_set {n m j : Nat} (F : Nat → Nat → Rat) (g : Nat → Rat) : (matq n m F).set j (rowq m g) = matq n m (fun k => if k = j then g else F k) := by
 apply List.ext_getElem?
 intro q
 unfold matq
 rw [List.getElem?_set]
 by_cases e : j = q
 · subst e
   rw [if_pos rfl]
   by_cases h : j < n
   · rw [if_pos (by simpa using h), List.getElem?_map, List.getElem?_range h]
     simp
   · rw [if_neg (by simpa using h), List.getElem?_map, List.getElem?_eq_none (by simp; omega)]
     rfl
 · rw [if_neg e, List.getElem?_map, List.getElem?_map]
   by_cases h : q < n
   · rw [List.getElem?_range h]
     simp [show q ≠ j from fun e2 => e e2.symm]
   · rw [List.getElem?_eq_none (by simp; omega)]
     rfl
def Fo (x y : Rat) : Prop := ∃ N D N' D' : Nat, Bd x N D ∧ Bd y N' D' ∧ N * D' ≤ 9223372036854775807 ∧ D * N' ≤ 9223372036854775807
def Ft (x y : Rat) : Prop := ∃ N D N' D' : Nat, Bd x N D ∧ Bd y N' D' ∧ N * N' ≤ 9223372036854775807 ∧ D * D' ≤ 9223372036854775807
def Fm (x y : Rat) : Prop := ∃ N D N' D' : Nat, Bd x N D ∧ Bd y N' D' ∧ N * D' + N' * D ≤ 9223372036854775807 ∧ D * D' ≤ 9223372036854775807
theorem nsucc {n : Nat} (h : n ≤ 1000000) : wrap64 ((n : Int) + 1) = ((n + 1 : Nat) : Int) := by
 rw [w64 (by omega) (by omega)]
 omega
theorem qn_zero {q : Rat} : (qn q).f0 = 0 ↔ q = 0 := Rat.num_eq_zero
theorem solved_l3 {m : Nat} (hm : m ≤ 1000) (b : Rat) (P X : Nat → Rat) (h1 : ∀ c, c < m → Ft b (P c)) (h2 : ∀ c, c < m → Fm (X c) (b * P c)) :
 ∀ (d c : Nat), c + d = m → ∃ K, ∀ k, K ≤ k → impl_solved.l3 k (qn b) (rowq m P) (m : Int) c (rowq m (fun q => if q < c then X q - b * P q else X q)) = some (rowq m (fun q => X q - b * P q)) := by
 intro d
 induction d with
 | zero =>
  intro c hc
  refine ⟨1, fun k hk => ?_⟩
  obtain ⟨k, rfl⟩ : ∃ q, k = q + 1 := ⟨k - 1, by omega⟩
  rw [impl_solved.l3, iN_]
  congr 1
  exact rowq_congr fun q hq => iP_
 | succ d ih =>
  intro c hc
  obtain ⟨K0, e0⟩ := ih (c + 1) (by omega)
  have hcm : c < m := by omega
  obtain ⟨N, D, N', D', b1, b2, b3, b4⟩ := h1 c hcm
  obtain ⟨K1, e1⟩ := times_rat b1 b2 b3 b4
  obtain ⟨N, D, N', D', b1, b2, b3, b4⟩ := h2 c hcm
  obtain ⟨K2, e2⟩ := minus_rat b1 b2 b3 b4
  refine ⟨K0 + K1 + K2 + 1, fun k hk => ?_⟩
  obtain ⟨k, rfl⟩ : ∃ q, k = q + 1 := ⟨k - 1, by omega⟩
  have e1' := e1 k (by omega)
  have e2' := e2 k (by omega)
  have e0' := e0 k (by omega)
  have ex : rd_T67 (rowq m (fun q => if q < c then X q - b * P q else X q)) (c : Int) = qn (X c) := by
   rw [rowq_get hcm, iN_]
  rw [impl_solved.l3, iP_, iP_, rowq_get hcm P, ex]
  show ((impl_frac_times.f k b.num (b.den : Int) (P c).num ((P c).den : Int)).bind _) = _
  rw [e1']
  simp only [Option.bind_some]
  show ((impl_frac_minus.f k (X c).num ((X c).den : Int) (b * P c).num ((b * P c).den : Int)).bind _) = _
  rw [e2']
  simp only [Option.bind_some]
  rw [nsucc (by omega), Int.toNat_natCast]
  have es : (rowq m (fun q => if q < c then X q - b * P q else X q)).set c (⟨(X c - b * P c).num, ((X c - b * P c).den : Int)⟩ : S67) = rowq m (fun q => if q < c + 1 then X q - b * P q else X q) := by
   rw [show (⟨(X c - b * P c).num, ((X c - b * P c).den : Int)⟩ : S67) = qn (X c - b * P c) from rfl, rowq_set]
   refine rowq_congr fun q hq => ?_
   by_cases e : q = c
   · subst e
     rw [if_pos rfl, iP_]
   · rw [if_neg e]
     by_cases h : q < c
     · rw [if_pos h, iP_]
     · rw [if_neg h, iN_]
  rw [es]
  exact e0'
structure Sfit (A : Nat → Nat → Rat) (n i : Nat) : Prop where
 piv : Rm A i i i ≠ 0
 over : ∀ j, j < n → j ≠ i → Fo (Rm A i j i) (Rm A i i i)
 times : ∀ j c, j < n → j ≠ i → c < n + 1 → Ft (Rm A i j i / Rm A i i i) (Rm A i i c)
 minus : ∀ j c, j < n → j ≠ i → c < n + 1 → Fm (Rm A i j c) (Rm A i j i / Rm A i i i * Rm A i i c)
theorem solved_l2 {A : Nat → Nat → Rat} {n i : Nat} (hn : n ≤ 100) (hi : i < n) (h : Sfit A n i) :
 ∀ (d j : Nat), j + d = n → ∃ K, ∀ k, K ≤ k → impl_solved.l2 k (n : Int) (i : Int) (j : Int) (matq n (n + 1) (fun q c => if q < j then Rm A (i + 1) q c else Rm A i q c)) = some (matq n (n + 1) (Rm A (i + 1))) := by
 intro d
 induction d with
 | zero =>
  intro j hj
  refine ⟨1, fun k hk => ?_⟩
  obtain ⟨k, rfl⟩ : ∃ q, k = q + 1 := ⟨k - 1, by omega⟩
  rw [impl_solved.l2, iN_]
  congr 1
  exact matq_congr fun q c hq _ => iP_
 | succ d ih =>
  intro j hj
  obtain ⟨K0, e0⟩ := ih (j + 1) (by omega)
  have hjn : j < n := by omega
  have gj : (matq n (n + 1) (fun q c => if q < j then Rm A (i + 1) q c else Rm A i q c)).getD j [] = rowq (n + 1) (Rm A i j) := by
   rw [matq_get hjn]
   exact rowq_congr fun c _ => iN_
  have same : (∀ c, c < n + 1 → Rm A (i + 1) j c = Rm A i j c) → matq n (n + 1) (fun q c => if q < j then Rm A (i + 1) q c else Rm A i q c) = matq n (n + 1) (fun q c => if q < j + 1 then Rm A (i + 1) q c else Rm A i q c) := by
   intro hs
   refine matq_congr fun q c hq hc => ?_
   by_cases e : q = j
   · subst e
     rw [iN_, iP_, hs c hc]
   · by_cases h : q < j
     · rw [if_pos h, iP_]
     · rw [if_neg h, iN_]
  by_cases cji : j = i
  · refine ⟨K0 + 1, fun k hk => ?_⟩
    obtain ⟨k, rfl⟩ : ∃ q, k = q + 1 := ⟨k - 1, by omega⟩
    rw [impl_solved.l2, iP_, iP_, iP_, nsucc (by omega), same (fun c _ => by rw [cji, Rm_succ_eq])]
    exact e0 k (by omega)
  · have gi : (matq n (n + 1) (fun q c => if q < j then Rm A (i + 1) q c else Rm A i q c)).getD i [] = rowq (n + 1) (Rm A i i) := by
     rw [matq_get hi]
     refine rowq_congr fun c _ => ?_
     split
     · rw [Rm_succ_eq]
     · rfl
    by_cases cz : Rm A i j i = 0
    · refine ⟨K0 + 1, fun k hk => ?_⟩
      obtain ⟨k, rfl⟩ : ∃ q, k = q + 1 := ⟨k - 1, by omega⟩
      rw [impl_solved.l2, iP_, iP_, iN_, Int.toNat_natCast, gj, rowq_get (by omega), if_pos (qn_zero.2 cz), nsucc (by omega), same (fun c _ => by rw [Rm_succ_ne A cji, cz]; grind)]
      exact e0 k (by omega)
    · obtain ⟨N, D, N', D', b1, b2, b3, b4⟩ := h.over j hjn cji
      obtain ⟨K1, e1⟩ := over_rat h.piv b1 b2 b3 b4
      obtain ⟨K2, e2⟩ := solved_l3 (m := n + 1) (by omega) (Rm A i j i / Rm A i i i) (Rm A i i) (Rm A i j) (fun c hc => h.times j c hjn cji hc) (fun c hc => h.minus j c hjn cji hc) (n + 1) 0 (by omega)
      refine ⟨K0 + K1 + K2 + 1, fun k hk => ?_⟩
      obtain ⟨k, rfl⟩ : ∃ q, k = q + 1 := ⟨k - 1, by omega⟩
      rw [impl_solved.l2, iP_, iP_, iN_, Int.toNat_natCast, Int.toNat_natCast, gj, gi, rowq_get (by omega), rowq_get (by omega), if_neg (fun e => cz (qn_zero.1 e))]
      have e1' := e1 k (by omega)
      have e2' := e2 k (by omega)
      have e0' := e0 k (by omega)
      show ((impl_frac_over.f k (Rm A i j i).num ((Rm A i j i).den : Int) (Rm A i i i).num ((Rm A i i i).den : Int)).bind _) = _
      rw [e1']
      simp only [Option.bind_some]
      rw [rowq_len, show (⟨(Rm A i j i / Rm A i i i).num, ((Rm A i j i / Rm A i i i).den : Int)⟩ : S67) = qn (Rm A i j i / Rm A i i i) from rfl]
      rw [show rowq (n + 1) (Rm A i j) = rowq (n + 1) (fun q => if q < 0 then Rm A i j q - Rm A i j i / Rm A i i i * Rm A i i q else Rm A i j q) from rowq_congr fun c _ => (iN_).symm]
      rw [show ((0 : Int)) = ((0 : Nat) : Int) from rfl, e2']
      simp only [Option.bind_some]
      rw [nsucc (by omega), matq_set]
      have em : matq n (n + 1) (fun k => if k = j then (fun q => Rm A i j q - Rm A i j i / Rm A i i i * Rm A i i q) else (fun c => if k < j then Rm A (i + 1) k c else Rm A i k c)) = matq n (n + 1) (fun q c => if q < j + 1 then Rm A (i + 1) q c else Rm A i q c) := by
       refine matq_congr fun q c hq hc => ?_
       by_cases e : q = j
       · subst e
         rw [if_pos rfl, iP_, Rm_succ_ne A cji]
       · rw [if_neg e]
         by_cases h : q < j
         · rw [if_pos h, iP_]
         · rw [if_neg h, iN_]
      rw [em]
      exact e0'
theorem solved_l0 {A : Nat → Nat → Rat} {n : Nat} (hn : n ≤ 100) (h : ∀ i, i < n → Sfit A n i) :
 ∀ (d i : Nat), i + d = n → ∃ K, ∀ k, K ≤ k → impl_solved.l0 k (n : Int) (i : Int) (matq n (n + 1) (Rm A i)) = some (matq n (n + 1) (Rm A n)) := by
 intro d
 induction d with
 | zero =>
  intro i hi
  refine ⟨1, fun k hk => ?_⟩
  obtain ⟨k, rfl⟩ : ∃ q, k = q + 1 := ⟨k - 1, by omega⟩
  rw [impl_solved.l0, iN_, show i = n by omega]
 | succ d ih =>
  intro i hi
  obtain ⟨K0, e0⟩ := ih (i + 1) (by omega)
  have hin : i < n := by omega
  obtain ⟨K1, e1⟩ := solved_l2 hn hin (h i hin) n 0 (by omega)
  refine ⟨K0 + K1 + 1, fun k hk => ?_⟩
  obtain ⟨k, rfl⟩ : ∃ q, k = q + 1 := ⟨k - 1, by omega⟩
  have e1' := e1 k (by omega)
  rw [show matq n (n + 1) (fun q c => if q < 0 then Rm A (i + 1) q c else Rm A i q c) = matq n (n + 1) (Rm A i) from matq_congr fun q c _ _ => iN_] at e1'
  rw [impl_solved.l0, iP_, iP_, Int.toNat_natCast, matq_get hin, rowq_get (by omega), if_neg (fun e => (h i hin).piv (qn_zero.1 e)), show ((0 : Int)) = ((0 : Nat) : Int) from rfl, e1']
  simp only [Option.bind_some]
  rw [nsucc (by omega)]
  exact e0 k (by omega)
theorem solved_l4 {B : Nat → Nat → Rat} {n : Nat} (hn : n ≤ 100) (h0 : ∀ i, i < n → B i i ≠ 0) (h : ∀ i, i < n → Fo (B i n) (B i i)) :
 ∀ (d i : Nat), i + d = n → ∃ K, ∀ k, K ≤ k → ∀ x : List S67, x.length = n → (∀ q, q < i → x[q]? = some (qn (B q n / B q q))) → impl_solved.l4 k (n : Int) (matq n (n + 1) B) (i : Int) x = some (rowq n (fun q => B q n / B q q)) := by
 intro d
 induction d with
 | zero =>
  intro i hi
  refine ⟨1, fun k hk x hx hq => ?_⟩
  obtain ⟨k, rfl⟩ : ∃ q, k = q + 1 := ⟨k - 1, by omega⟩
  rw [impl_solved.l4, iN_]
  congr 1
  apply List.ext_getElem?
  intro q
  by_cases e : q < n
  · rw [hq q (by omega), rowq, List.getElem?_map, List.getElem?_range e]
    rfl
  · rw [List.getElem?_eq_none (by omega), List.getElem?_eq_none (by rw [rowq_len]; omega)]
 | succ d ih =>
  intro i hi
  obtain ⟨K0, e0⟩ := ih (i + 1) (by omega)
  have hin : i < n := by omega
  obtain ⟨N, D, N', D', b1, b2, b3, b4⟩ := h i hin
  obtain ⟨K1, e1⟩ := over_rat (h0 i hin) b1 b2 b3 b4
  refine ⟨K0 + K1 + 1, fun k hk x hx hq => ?_⟩
  obtain ⟨k, rfl⟩ : ∃ q, k = q + 1 := ⟨k - 1, by omega⟩
  have e1' := e1 k (by omega)
  rw [impl_solved.l4, iP_, iP_, Int.toNat_natCast, matq_get hin, rowq_get (by omega), rowq_get (by omega)]
  show ((impl_frac_over.f k (B i n).num ((B i n).den : Int) (B i i).num ((B i i).den : Int)).bind _) = _
  rw [e1']
  simp only [Option.bind_some]
  rw [nsucc (by omega)]
  refine e0 k (by omega) _ (by rw [List.length_set]; exact hx) (fun q hqi => ?_)
  by_cases e : q = i
  · subst e
    rw [List.getElem?_set_self (by omega)]
    rfl
  · rw [List.getElem?_set_ne (by omega)]
    exact hq q (by omega)
theorem solved_ev {A : Nat → Nat → Rat} {n : Nat} (hn : n ≤ 100) (hp : 0 < n) (h : ∀ i, i < n → Sfit A n i) (h4 : ∀ i, i < n → Fo (Rm A n i n) (Rm A n i i)) :
 ∃ K, ∀ k, K ≤ k → impl_solved.f k (matq n (n + 1) A) = some (rowq n (fun q => Rm A n q n / Rm A n q q)) := by
 obtain ⟨z1, z2⟩ := Rm_zero A n (fun j hj => (h j hj).piv)
 obtain ⟨K0, e0⟩ := solved_l0 hn h n 0 (by omega)
 obtain ⟨K1, e1⟩ := solved_l4 (B := Rm A n) hn (fun i hi => by rw [z2 i hi]; exact (h i hi).piv) h4 n 0 (by omega)
 refine ⟨K0 + K1, fun k hk => ?_⟩
 have e0' := e0 k (by omega)
 have hall : ∀ x ∈ matq n (n + 1) A, x.length = n + 1 := by
  intro x hx
  unfold matq at hx
  obtain ⟨q, _, rfl⟩ := List.mem_map.1 hx
  exact rowq_len _ _
 unfold impl_solved.f
 rw [matq_len, if_pos hall, if_pos hp, iP_, show ((0 : Int)) = ((0 : Nat) : Int) from rfl, show matq n (n + 1) A = matq n (n + 1) (Rm A 0) from rfl, e0']
 simp only [Option.bind_some]
 exact e1 k (by omega) _ List.length_replicate (fun q hq => by omega)
def bnd : Nat → Nat
 | 0 => 1
 | n + 1 => (n + 1) * (10 * bnd n)
theorem smi_abs {n B : Nat} {f : Nat → Int} (h : ∀ c, c < n → (f c).natAbs ≤ B) : (smi n f).natAbs ≤ n * B := by
 induction n with
 | zero => simp [smi]
 | succ n ih =>
  have h1 := ih (fun c hc => h c (by omega))
  have h2 := h n (by omega)
  rw [smi, Nat.succ_mul]
  omega
theorem dt_abs : ∀ (n : Nat) (f : Nat → Nat → Int), (∀ r s, r < n → s < n → (f r s).natAbs ≤ 10) → (dt n f).natAbs ≤ bnd n := by
 intro n
 induction n with
 | zero => intro f _; simp [dt, bnd]
 | succ n ih =>
  intro f h
  rw [dt, bnd]
  refine smi_abs fun k hk => ?_
  have h1 := ih (fun i j => f (i + 1) (if j < k then j else j + 1)) (fun r s hr hs => h _ _ (by omega) (by split <;> omega))
  have h2 := h 0 k (by omega) hk
  rw [Int.natAbs_mul, Int.natAbs_mul]
  have h3 : (if k % 2 = 0 then (1 : Int) else -1).natAbs = 1 := by split <;> rfl
  rw [h3, Nat.one_mul]
  exact Nat.mul_le_mul h2 h1
theorem xc_abs {T : Nat → Nat → Int} {n i c j : Nat} (he : ∀ k c, k < n → c < n + 1 → (T k c).natAbs ≤ 10) (hi : i ≤ n) (hc : c < n + 1) : (xc T i c j).natAbs ≤ bnd i := by
 unfold xc cr
 refine dt_abs i _ fun r s hr hs => ?_
 show (if s = j then T r c else T r s).natAbs ≤ 10
 split
 · exact he r c (by omega) hc
 · exact he r s (by omega) (by omega)
theorem Bd.mul {a b : Rat} {N D N' D' : Nat} (ha : Bd a N D) (hb : Bd b N' D') : Bd (a * b) (N * N') (D * D') := by
 refine bd_of (n := a.num * b.num) (d := (a.den : Int) * (b.den : Int)) (Int.mul_ne_zero (den_int_ne a) (den_int_ne b)) ?_ (mul_le_of ha.num hb.num) (mul_le_of (by simpa using ha.den) (by simpa using hb.den))
 rw [Rat.intCast_mul, Rat.intCast_mul, rat_num a, rat_num b]
 grind
theorem castne {z : Int} (h : z ≠ 0) : ((z : Int) : Rat) ≠ 0 := fun e => h (Rat.intCast_inj.1 e)
section
variable {T : Nat → Nat → Int} {s : Nat → Int} {n i : Nat}
theorem row_up (hi : i ≤ 4) (hin : i ≤ n) (hs : ∀ k, s k ≠ 0) (hp : ∀ j, j < i → Rm (Am T s) j j j ≠ 0) (he : ∀ k c, k < n → c < n + 1 → (T k c).natAbs ≤ 10)
 (hd : ∀ j, j ≤ i → dt j T ≠ 0 ∧ (dt j T).natAbs ≤ 10 ^ j) {k c : Nat} (hk : k < i) (hc : i ≤ c) (hcn : c < n + 1) (hsk : (s k).natAbs ≤ 10) : Bd (Rm (Am T s) i k c) (10 ^ (k + 1) * bnd i) (10 ^ i * (10 ^ k * 10)) := by
 have h1 := (stage (m := n + 1) hi hs hp hc hcn).1 k hk
 have h2 := pivot_dt (T := T) (s := s) (i := k) (by omega) hs (fun j hj => hp j (by omega))
 refine bd_of (n := dt (k + 1) T * xc T i c k) (d := dt i T * (dt k T * s k)) (Int.mul_ne_zero (hd i (Nat.le_refl _)).1 (Int.mul_ne_zero (hd k (by omega)).1 (hs k))) ?_
  (mul_le_of (hd (k + 1) (by omega)).2 (xc_abs he hin hcn)) (mul_le_of (hd i (Nat.le_refl _)).2 (mul_le_of (hd k (by omega)).2 hsk))
 rw [Rat.intCast_mul, Rat.intCast_mul, Rat.intCast_mul, ← h2]
 grind
def mt (T : Nat → Nat → Int) (i k c : Nat) : Int := T k c * dt i T - smi i (fun j => T k j * xc T i c j)
theorem mt_abs (he : ∀ k c, k < n → c < n + 1 → (T k c).natAbs ≤ 10) (hin : i ≤ n) (hd : (dt i T).natAbs ≤ 10 ^ i) {k c : Nat} (hk : k < n) (hcn : c < n + 1) : (mt T i k c).natAbs ≤ 10 * 10 ^ i + i * (10 * bnd i) := by
 unfold mt
 have h1 : (T k c * dt i T).natAbs ≤ 10 * 10 ^ i := mul_le_of (he k c hk hcn) hd
 have h2 : (smi i (fun j => T k j * xc T i c j)).natAbs ≤ i * (10 * bnd i) := smi_abs fun j hj => mul_le_of (he k j hk (by omega)) (xc_abs he hin hcn)
 omega
theorem row_low (hi : i ≤ 4) (hin : i ≤ n) (hs : ∀ k, s k ≠ 0) (hp : ∀ j, j < i → Rm (Am T s) j j j ≠ 0) (he : ∀ k c, k < n → c < n + 1 → (T k c).natAbs ≤ 10)
 (hd : dt i T ≠ 0 ∧ (dt i T).natAbs ≤ 10 ^ i) {k c : Nat} (hk : i ≤ k) (hkn : k < n) (hc : i ≤ c) (hcn : c < n + 1) (hsk : (s k).natAbs ≤ 10) : Bd (Rm (Am T s) i k c) (10 * 10 ^ i + i * (10 * bnd i)) (10 ^ i * 10) := by
 have h1 := (stage (m := n + 1) hi hs hp hc hcn).2 k hk
 refine bd_of (n := mt T i k c) (d := dt i T * s k) (Int.mul_ne_zero hd.1 (hs k)) ?_ (mt_abs he hin hd.2 hkn hcn) (mul_le_of hd.2 hsk)
 rw [Rat.intCast_mul]
 unfold mt
 rw [← h1]
 grind
theorem piv_bd (hs : ∀ k, s k ≠ 0) {k : Nat} (hk : k ≤ 3) (hp : ∀ j, j < k → Rm (Am T s) j j j ≠ 0) (hd : ∀ j, j ≤ k + 1 → dt j T ≠ 0 ∧ (dt j T).natAbs ≤ 10 ^ j) (hsk : (s k).natAbs ≤ 10) : Bd (Rm (Am T s) k k k) (10 ^ (k + 1)) (10 ^ k * 10) := by
 have h2 := pivot_dt (T := T) (s := s) (i := k) hk hs hp
 refine bd_of (n := dt (k + 1) T) (d := dt k T * s k) (Int.mul_ne_zero (hd k (by omega)).1 (hs k)) ?_ (hd (k + 1) (by omega)).2 (mul_le_of (hd k (by omega)).2 hsk)
 rw [Rat.intCast_mul, ← h2]
 grind
theorem pow10 {a b : Nat} (h : a ≤ b) : 10 ^ a ≤ 10 ^ b := Nat.pow_le_pow_right (by decide) h
theorem bnd_le : ∀ {i : Nat}, i ≤ 3 → bnd i ≤ 6000 := by
 intro i h
 have : i = 0 ∨ i = 1 ∨ i = 2 ∨ i = 3 := by omega
 rcases this with rfl | rfl | rfl | rfl <;> decide
theorem ent_bd (hi : i ≤ 3) (hin : i < n) (hs : ∀ k, s k ≠ 0) (hs10 : ∀ k, (s k).natAbs ≤ 10) (hp : ∀ j, j < i → Rm (Am T s) j j j ≠ 0) (he : ∀ k c, k < n → c < n + 1 → (T k c).natAbs ≤ 10)
 (hd : ∀ j, j ≤ i + 1 → dt j T ≠ 0 ∧ (dt j T).natAbs ≤ 10 ^ j) {k c : Nat} (hk : k < n) (hc : c < n + 1) : Bd (Rm (Am T s) i k c) 6000000 1000000 := by
 obtain ⟨z1, z2⟩ := Rm_zero (Am T s) i hp
 by_cases h : i ≤ c
 · by_cases hki : k < i
   · refine (row_up (n := n) (by omega) (by omega) hs hp he (fun j hj => hd j (by omega)) hki h hc (hs10 k)).mono ?_ ?_
     · exact Nat.le_trans (Nat.mul_le_mul (pow10 (show k + 1 ≤ 3 by omega)) (bnd_le hi)) (by decide)
     · exact Nat.le_trans (Nat.mul_le_mul (pow10 hi) (Nat.mul_le_mul (pow10 (show k ≤ 2 by omega)) (Nat.le_refl 10))) (by decide)
   · refine (row_low (n := n) (by omega) (by omega) hs hp he (hd i (by omega)) (by omega) hk h hc (hs10 k)).mono ?_ ?_
     · exact Nat.le_trans (Nat.add_le_add (Nat.mul_le_mul (Nat.le_refl 10) (pow10 hi)) (Nat.mul_le_mul hi (Nat.mul_le_mul (Nat.le_refl 10) (bnd_le hi)))) (by decide)
     · exact Nat.le_trans (Nat.mul_le_mul (pow10 hi) (Nat.le_refl 10)) (by decide)
 · by_cases e : k = c
   · subst e
     rw [z2 k (by omega)]
     refine (piv_bd hs (by omega) (fun j hj => hp j (by omega)) (fun j hj => hd j (by omega)) (hs10 k)).mono ?_ ?_
     · exact Nat.le_trans (pow10 (show k + 1 ≤ 3 by omega)) (by decide)
     · exact Nat.le_trans (Nat.mul_le_mul (pow10 (show k ≤ 2 by omega)) (Nat.le_refl 10)) (by decide)
   · rw [z1 k c (by omega) e]
     exact bd_zero.mono (by decide) (by decide)
theorem piv_row (hi : i ≤ 3) (hin : i < n) (hs : ∀ k, s k ≠ 0) (hs10 : ∀ k, (s k).natAbs ≤ 10) (hp : ∀ j, j < i → Rm (Am T s) j j j ≠ 0) (he : ∀ k c, k < n → c < n + 1 → (T k c).natAbs ≤ 10)
 (hd : ∀ j, j ≤ i + 1 → dt j T ≠ 0 ∧ (dt j T).natAbs ≤ 10 ^ j) {c : Nat} (hc : c < n + 1) : Bd (Rm (Am T s) i i c) 190000 10000 := by
 obtain ⟨z1, z2⟩ := Rm_zero (Am T s) i hp
 by_cases h : i ≤ c
 · refine (row_low (n := n) (by omega) (by omega) hs hp he (hd i (by omega)) (Nat.le_refl _) hin h hc (hs10 i)).mono ?_ ?_
   · exact Nat.le_trans (Nat.add_le_add (Nat.mul_le_mul (Nat.le_refl 10) (pow10 hi)) (Nat.mul_le_mul hi (Nat.mul_le_mul (Nat.le_refl 10) (bnd_le hi)))) (by decide)
   · exact Nat.le_trans (Nat.mul_le_mul (pow10 hi) (Nat.le_refl 10)) (by decide)
 · rw [z1 i c (by omega) (by omega)]
   exact bd_zero.mono (by decide) (by decide)
theorem by_bd (hi : i ≤ 3) (hin : i < n) (hs : ∀ k, s k ≠ 0) (hs10 : ∀ k, (s k).natAbs ≤ 10) (hsi : ∀ j, j < i → s j = s i) (hp : ∀ j, j ≤ i → Rm (Am T s) j j j ≠ 0) (he : ∀ k c, k < n → c < n + 1 → (T k c).natAbs ≤ 10)
 (hd : ∀ j, j ≤ i + 1 → dt j T ≠ 0 ∧ (dt j T).natAbs ≤ 10 ^ j) {j : Nat} (hj : j < n) (hji : j ≠ i) : Bd (Rm (Am T s) i j i / Rm (Am T s) i i i) 6000000 1000000 := by
 have hpi := pivot_dt (T := T) (s := s) (i := i) hi hs (fun j hj => hp j (by omega))
 have hpn := hp i (Nat.le_refl _)
 have ds := castne (hd i (by omega)).1
 have ss := castne (hs i)
 by_cases h : j < i
 · have h1 := (stage (T := T) (s := s) (m := n + 1) (by omega) hs (fun j hj => hp j (by omega)) (Nat.le_refl i) (by omega)).1 j h
   have h2 := pivot_dt (T := T) (s := s) (i := j) (by omega) hs (fun q hq => hp q (by omega))
   have sj := hsi j h
   refine (bd_of (n := dt (j + 1) T * xc T i i j) (d := dt (i + 1) T * dt j T) (N := 10 ^ (j + 1) * bnd i) (D := 10 ^ (i + 1) * 10 ^ j) (Int.mul_ne_zero (hd (i + 1) (by omega)).1 (hd j (by omega)).1) ?_ (mul_le_of (hd (j + 1) (by omega)).2 (xc_abs he (by omega) (by omega))) (mul_le_of (hd (i + 1) (by omega)).2 (hd j (by omega)).2)).mono ?_ ?_
   · rw [Rat.intCast_mul, Rat.intCast_mul, ← hpi, ← h2, sj]
     have e : Rm (Am T s) i j i / Rm (Am T s) i i i * (Rm (Am T s) i i i * (dt i T : Rat) * (s i : Rat) * (dt j T : Rat)) = (Rm (Am T s) i j i * (dt i T : Rat)) * ((s i : Rat) * (dt j T : Rat)) := by grind
     rw [e, h1]
     grind
   · exact Nat.le_trans (Nat.mul_le_mul (pow10 (show j + 1 ≤ 3 by omega)) (bnd_le hi)) (by decide)
   · exact Nat.le_trans (Nat.mul_le_mul (pow10 (show i + 1 ≤ 4 by omega)) (pow10 (show j ≤ 2 by omega))) (by decide)
 · have h1 := (stage (T := T) (s := s) (m := n + 1) (by omega) hs (fun j hj => hp j (by omega)) (Nat.le_refl i) (by omega)).2 j (by omega)
   refine (bd_of (n := mt T i j i * s i) (d := dt (i + 1) T * s j) (N := (10 * 10 ^ i + i * (10 * bnd i)) * 10) (D := 10 ^ (i + 1) * 10) (Int.mul_ne_zero (hd (i + 1) (by omega)).1 (hs j)) ?_ (mul_le_of (mt_abs he (by omega) (hd i (by omega)).2 hj (by omega)) (hs10 i)) (mul_le_of (hd (i + 1) (by omega)).2 (hs10 j))).mono ?_ ?_
   · rw [Rat.intCast_mul, Rat.intCast_mul, ← hpi]
     unfold mt
     rw [← h1]
     grind
   · exact Nat.le_trans (Nat.mul_le_mul (Nat.add_le_add (Nat.mul_le_mul (Nat.le_refl 10) (pow10 hi)) (Nat.mul_le_mul hi (Nat.mul_le_mul (Nat.le_refl 10) (bnd_le hi)))) (Nat.le_refl 10)) (by decide)
   · exact Nat.le_trans (Nat.mul_le_mul (pow10 (show i + 1 ≤ 4 by omega)) (Nat.le_refl 10)) (by decide)
theorem stage_fit (hi : i ≤ 3) (hin : i < n) (hs : ∀ k, s k ≠ 0) (hs10 : ∀ k, (s k).natAbs ≤ 10) (hsi : ∀ j, j < i → s j = s i) (hp : ∀ j, j ≤ i → Rm (Am T s) j j j ≠ 0) (he : ∀ k c, k < n → c < n + 1 → (T k c).natAbs ≤ 10)
 (hd : ∀ j, j ≤ i + 1 → dt j T ≠ 0 ∧ (dt j T).natAbs ≤ 10 ^ j) : Sfit (Am T s) n i := by
 have hp' : ∀ j, j < i → Rm (Am T s) j j j ≠ 0 := fun j hj => hp j (by omega)
 refine ⟨hp i (Nat.le_refl _), fun j hj hji => ?_, fun j c hj hji hc => ?_, fun j c hj hji hc => ?_⟩
 · exact ⟨_, _, _, _, ent_bd hi hin hs hs10 hp' he hd hj (by omega), piv_row hi hin hs hs10 hp' he hd (by omega), by decide, by decide⟩
 · exact ⟨_, _, _, _, by_bd hi hin hs hs10 hsi hp he hd hj hji, piv_row hi hin hs hs10 hp' he hd hc, by decide, by decide⟩
 · exact ⟨_, _, _, _, ent_bd hi hin hs hs10 hp' he hd hj hc, (by_bd hi hin hs hs10 hsi hp he hd hj hji).mul (piv_row hi hin hs hs10 hp' he hd hc), by decide, by decide⟩
end
theorem skp_ne {j a : Nat} : skp j a ≠ j := by unfold skp; split <;> omega
theorem skp_inj {j a b : Nat} (h : skp j a = skp j b) : a = b := by
 unfold skp at h
 split at h <;> split at h <;> omega
theorem skp_lt {j a m : Nat} (hj : j ≤ m) (ha : a < m) : skp j a < m + 1 := by unfold skp; split <;> omega
def idn (x : Nat) : Nat := x
def qs (o : Int) (s : Nat → Nat → Int) (r c : Nat) : Int := tb o s idn r c
theorem qs_row {N : Nat} {o : Int} {s : Nat → Nat → Int} (h : Chn N o s) {c : Nat} (hc : c < N) : smi N (qs o s c) = 0 := by
 have h1 := h.sum c hc
 have e : ∀ z, z < N → qs o s c z = (if z = c then o else 0) + (-1) * s c z := by
  intro z _
  unfold qs tb idn
  by_cases e : c = z
  · rw [if_pos e, if_pos e.symm]; omega
  · rw [if_neg e, if_neg (fun h => e h.symm)]; omega
 have sa : ∀ (n : Nat) (f g : Nat → Int), smi n (fun z => f z + (-1) * g z) = smi n f - smi n g := by
  intro n f g
  induction n with
  | zero => rfl
  | succ n ih => rw [smi, smi, smi, ih]; omega
 rw [smi_congr e, sa, h1, smi_part hc]
 rw [if_pos rfl, smi_congr (g := fun _ => 0) (fun z _ => by
  by_cases e : z = c
  · rw [if_pos e]
  · rw [if_neg e, if_neg e]), smi_zero]
 omega
def wt (o : Int) (s : Nat → Nat → Int) (m j : Nat) : Int := dt m (fun a b => qs o s (skp j a) (skp j b))
section
variable {m : Nat} {o : Int} {s : Nat → Nat → Int}
theorem wt_pos (hm : m ≤ 4) (h : Chn (m + 1) o s) (hl : ∀ x g, x < m + 1 → g < m + 1 → Leads (m + 1) s x g) {j : Nat} (hj : j ≤ m) : 0 < wt o s m j ∧ wt o s m j ≤ 10 ^ m := by
 have hM := chain_max (n := m) (b := skp j) (g := j) h (fun a ha => skp_lt hj ha) (fun a b _ _ e => skp_inj e) (fun a _ => skp_ne) (fun a ha => hl _ _ (skp_lt hj ha) (by omega))
 have := hM.dts m (Nat.le_refl _) hm
 have e : wt o s m j = dt m (tb o s (skp j)) := dt_congr m (fun r c _ _ => by
  unfold qs tb idn
  by_cases e : r = c
  · rw [if_pos (by rw [e]), if_pos e]
  · rw [if_neg (fun h => e (skp_inj h)), if_neg e])
 rw [e]
 exact this
theorem qs_dt (hm : m ≤ 4) (h : Chn (m + 1) o s) (hl : ∀ x g, x < m + 1 → g < m + 1 → Leads (m + 1) s x g) {i : Nat} (hi : i ≤ m) : 0 < dt i (qs o s) ∧ dt i (qs o s) ≤ 10 ^ i := by
 have hM := chain_max (n := m) (b := idn) (g := m) h (fun a ha => by unfold idn; omega) (fun a b _ _ e => e) (fun a ha => by unfold idn; omega) (fun a ha => hl _ _ (by unfold idn; omega) (by omega))
 exact hM.dts i hi (by omega)
def tsh (o : Int) (s : Nat → Nat → Int) (m r c : Nat) : Int := if r < m then (if c ≤ m then - qs o s c r else 0) else 1
def ssh (o : Int) (m r : Nat) : Int := if r < m then o else 1
def sgm (m : Nat) : Int := if m % 2 = 0 then 1 else -1
theorem sgm_sq (m : Nat) : sgm m = 1 ∨ sgm m = -1 := by unfold sgm; split <;> simp
theorem tsh_dt (hm : m ≤ 4) {i : Nat} (hi : i ≤ m) : dt i (tsh o s m) = sgm i * dt i (qs o s) := by
 rw [dt_congr i (g := fun r c => - qs o s c r) (fun r c hr hc => by unfold tsh; rw [iP_, iP_]), dt_ng i (by omega) (fun r c => qs o s c r), dt_tr i (by omega) (qs o s)]
 rfl
theorem wt_last : wt o s m m = dt m (qs o s) := dt_congr m (fun r c hr hc => by
 have e1 : skp m r = r := by unfold skp; rw [if_pos hr]
 have e2 : skp m c = c := by unfold skp; rw [if_pos hc]
 rw [e1, e2])
theorem tsh_xc (hm : m ≤ 4) (h : Chn (m + 1) o s) {j : Nat} (hj : j < m) : xc (tsh o s m) m m j = sgm m * (- wt o s m j) := by
 unfold xc cr
 rw [dt_congr m (g := fun r c => - (if c = j then qs o s m r else qs o s c r)) (fun r c hr hc => by
  unfold tsh
  by_cases e : c = j
  · rw [if_pos e, if_pos e]
    show (if r < m then (if m ≤ m then - qs o s m r else 0) else 1) = _
    rw [if_pos hr, if_pos (Nat.le_refl _)]
  · rw [if_neg e, if_neg e, if_pos hr, iP_]), dt_ng m hm (fun r c => if c = j then qs o s m r else qs o s c r), minor_turn m hm (qs o s) (fun c hc => qs_row h (by omega)) j hj]
 rfl
theorem ssh_ne (h : Chn (m + 1) o s) (k : Nat) : ssh o m k ≠ 0 := by
 have := h.pos
 unfold ssh
 split <;> omega
theorem ssh_10 (h : Chn (m + 1) o s) (k : Nat) : (ssh o m k).natAbs ≤ 10 := by
 have := h.pos
 have := h.top
 unfold ssh
 split <;> omega
theorem tsh_10 (h : Chn (m + 1) o s) (k c : Nat) (hk : k < m + 1) (hc : c < m + 1 + 1) : (tsh o s m k c).natAbs ≤ 10 := by
 have := h.pos
 have := h.top
 unfold tsh
 split
 · split
   · have h1 := h.nn c k
     have h2 := h.le (x := c) (z := k) (by omega) hk
     unfold qs tb idn
     split <;> omega
   · decide
 · decide
theorem tsh_dts (hm : m ≤ 4) (h : Chn (m + 1) o s) (hl : ∀ x g, x < m + 1 → g < m + 1 → Leads (m + 1) s x g) {i : Nat} (hi : i ≤ m) : dt i (tsh o s m) ≠ 0 ∧ (dt i (tsh o s m)).natAbs ≤ 10 ^ i := by
 obtain ⟨h1, h2⟩ := qs_dt hm h hl hi
 rw [tsh_dt hm hi]
 have e : ((10 ^ i : Nat) : Int) = (10 : Int) ^ i := by simp
 rcases sgm_sq i with e1 | e1 <;> rw [e1] <;> constructor <;> omega
theorem tsh_piv (hm : m ≤ 4) (h : Chn (m + 1) o s) (hl : ∀ x g, x < m + 1 → g < m + 1 → Leads (m + 1) s x g) : ∀ i, i < m → Rm (Am (tsh o s m) (ssh o m)) i i i ≠ 0 := by
 intro i
 induction i using Nat.strongRecOn with
 | _ i ih =>
  intro hi hz
  have e := pivot_dt (T := tsh o s m) (s := ssh o m) (i := i) (by omega) (ssh_ne h) (fun j hj => ih j hj (by omega))
  rw [hz] at e
  have := castne (tsh_dts hm h hl (i := i + 1) (by omega)).1
  grind
theorem tsh_rhs (hm : m ≤ 4) (h : Chn (m + 1) o s) : ∀ i, i ≤ m → (∀ k, k < m → Rm (Am (tsh o s m) (ssh o m)) i k (m + 1) = 0) ∧ Rm (Am (tsh o s m) (ssh o m)) i m (m + 1) = 1 := by
 intro i
 induction i with
 | zero =>
  intro _
  refine ⟨fun k hk => ?_, ?_⟩
  · show Am _ _ k (m + 1) = 0
    unfold Am tsh
    rw [if_pos hk, iN_]
    show ((0 : Int) : Rat) / _ = 0
    rw [Rat.intCast_zero, Rat.div_def, Rat.zero_mul]
  · show Am _ _ m (m + 1) = 1
    unfold Am tsh ssh
    rw [iN_, iN_]
    show (1 : Rat) / (1 : Rat) = 1
    grind
 | succ i ih =>
  intro hi
  obtain ⟨h1, h2⟩ := ih (by omega)
  have h3 := h1 i (by omega)
  refine ⟨fun k hk => ?_, ?_⟩
  · by_cases e : k = i
    · subst e; rw [Rm_succ_eq]; exact h3
    · rw [Rm_succ_ne _ e, h1 k hk, h3]; grind
  · rw [Rm_succ_ne _ (by omega), h2, h3]; grind
def wsum (o : Int) (s : Nat → Nat → Int) (m : Nat) : Int := smi (m + 1) (wt o s m)
theorem wsum_pos (hm : m ≤ 4) (h : Chn (m + 1) o s) (hl : ∀ x g, x < m + 1 → g < m + 1 → Leads (m + 1) s x g) : 0 < wsum o s m ∧ wsum o s m ≤ 50000 := by
 have hw : ∀ j, j < m + 1 → 0 < wt o s m j ∧ wt o s m j ≤ 10000 := fun j hj => by
  obtain ⟨h1, h2⟩ := wt_pos hm h hl (j := j) (by omega)
  have : (10 : Int) ^ m ≤ 10 ^ 4 := by exact_mod_cast pow10 hm
  exact ⟨h1, Int.le_trans h2 this⟩
 have key : ∀ n, n ≤ m + 1 → 0 ≤ smi n (wt o s m) ∧ smi n (wt o s m) ≤ 10000 * n ∧ (0 < n → 0 < smi n (wt o s m)) := by
  intro n
  induction n with
  | zero => intro _; simp [smi]
  | succ n ih =>
   intro hn
   obtain ⟨a1, a2, a3⟩ := ih (by omega)
   obtain ⟨b1, b2⟩ := hw n (by omega)
   rw [smi]
   refine ⟨by omega, by omega, fun _ => by omega⟩
 obtain ⟨k1, k2, k3⟩ := key (m + 1) (Nat.le_refl _)
 unfold wsum
 exact ⟨k3 (by omega), by omega⟩
theorem tsh_last (hm : m ≤ 4) (h : Chn (m + 1) o s) (hl : ∀ x g, x < m + 1 → g < m + 1 → Leads (m + 1) s x g) :
 (∀ k, k < m → Rm (Am (tsh o s m) (ssh o m)) m k m * (wt o s m m : Rat) = - (Rm (Am (tsh o s m) (ssh o m)) k k k * (wt o s m k : Rat))) ∧ Rm (Am (tsh o s m) (ssh o m)) m m m * (wt o s m m : Rat) = (wsum o s m : Rat) := by
 obtain ⟨s1, s2⟩ := stage (T := tsh o s m) (s := ssh o m) (m := m + 2) (i := m) (c := m) hm (ssh_ne h) (tsh_piv hm h hl) (Nat.le_refl _) (by omega)
 have ed : dt m (tsh o s m) = sgm m * wt o s m m := by rw [tsh_dt hm (Nat.le_refl _), wt_last]
 have hsg : ((sgm m : Int) : Rat) = 1 ∨ ((sgm m : Int) : Rat) = -1 := by
  rcases sgm_sq m with e | e <;> rw [e]
  · exact .inl rfl
  · exact .inr rfl
 refine ⟨fun k hk => ?_, ?_⟩
 · have e := s1 k hk
   rw [ed, tsh_xc hm h hk, Rat.intCast_mul, Rat.intCast_mul, Rat.intCast_neg] at e
   rcases hsg with e1 | e1 <;> rw [e1] at e <;> grind
 · have e := s2 m (Nat.le_refl _)
   have e2 : smi m (fun j => tsh o s m m j * xc (tsh o s m) m m j) = sgm m * (- smi m (wt o s m)) := by
    have sn : ∀ n, n ≤ m → smi n (fun j => tsh o s m m j * xc (tsh o s m) m m j) = sgm m * (- smi n (wt o s m)) := by
     intro n
     induction n with
     | zero => intro _; simp [smi]
     | succ n ih =>
      intro hn
      rw [smi, smi, ih (by omega), tsh_xc hm h (by omega), show tsh o s m m n = 1 from by unfold tsh; rw [iN_]]
      grind
    exact sn m (Nat.le_refl _)
   have e3 : tsh o s m m m = 1 := by unfold tsh; rw [iN_]
   have e4 : ssh o m m = 1 := by unfold ssh; rw [iN_]
   have e5 : wsum o s m = smi m (wt o s m) + wt o s m m := rfl
   rw [e2, e3, e4, ed] at e
   rw [e5, Rat.intCast_add]
   have e6 : ((1 * (sgm m * wt o s m m) - sgm m * -smi m (wt o s m) : Int) : Rat) = ((sgm m : Int) : Rat) * ((wt o s m m : Rat) + (smi m (wt o s m) : Rat)) := by
    rw [show (1 * (sgm m * wt o s m m) - sgm m * -smi m (wt o s m) : Int) = sgm m * (wt o s m m + smi m (wt o s m)) from by grind, Rat.intCast_mul, Rat.intCast_add]
   rw [e6, Rat.intCast_mul] at e
   rcases hsg with e1 | e1 <;> rw [e1] at e <;> grind
end
def sqi (n : Nat) (f : Nat → Nat → Int) : List (List Int) := (List.range n).map (fun i => (List.range n).map (f i))
theorem sqi_len (n : Nat) (f : Nat → Nat → Int) : (sqi n f).length = n := by simp [sqi]
theorem rowi_get {n c : Nat} (h : c < n) (g : Nat → Int) : rd ((List.range n).map g) (c : Int) = g c := by
 rw [rd_get (by simpa using h)]
 simp
theorem sqi_get {n i : Nat} (h : i < n) (f : Nat → Nat → Int) : rd_L1 (sqi n f) (i : Int) = (List.range n).map (f i) := by
 rw [rd1_get (by rw [sqi_len]; exact h)]
 simp [sqi]
theorem cutrow {n c : Nat} (h : c < n + 1) (g : Nat → Int) : ((List.range (n + 1)).map g).take c ++ ((List.range (n + 1)).map g).drop (c + 1) = (List.range n).map (fun j => g (if j < c then j else j + 1)) := by
 apply List.ext_getElem?
 intro q
 by_cases hq : q < c
 · rw [List.getElem?_append_left (by simp; omega), List.getElem?_take_of_lt hq, List.getElem?_map, List.getElem?_map, List.getElem?_range (by omega), List.getElem?_range (by omega)]
   simp [hq]
 · rw [List.getElem?_append_right (by simp; omega), List.getElem?_drop, List.length_take, List.length_map, List.length_range, show min c (n + 1) = c by omega]
   by_cases hn : q < n
   · rw [List.getElem?_map, List.getElem?_map, List.getElem?_range (by omega), List.getElem?_range hn]
     simp only [Option.map_some, if_neg hq]
     rw [show c + 1 + (q - c) = q + 1 by omega]
   · rw [List.getElem?_eq_none (by simp; omega), List.getElem?_eq_none (by simp; omega)]
theorem det_l1 {n c : Nat} (hn : n ≤ 10) (hc : c < n + 1) (f : Nat → Nat → Int) (x0 : List (List Int)) (x3 x4 x6 : Int) (x15 : List Int) (x16 x17 : Int) :
 ∀ (d i : Nat), i + d = n → ∀ k,
  spec_saDet.l1 (k + d + 1) x0 x3 x4 (c : Int) x6 ((List.range i).map (fun r => (List.range n).map (fun j => f (r + 1) (if j < c then j else j + 1)))) x15 x16 x17 ((sqi (n + 1) f).drop 1) (n : Int) (i : Int) =
  spec_saDet.l1 (k + 1) x0 x3 x4 (c : Int) x6 (sqi n (fun r j => f (r + 1) (if j < c then j else j + 1))) x15 x16 x17 ((sqi (n + 1) f).drop 1) (n : Int) (n : Int) := by
 have hl : ((sqi (n + 1) f).drop 1).length = n := by rw [List.length_drop, sqi_len]; omega
 intro d
 induction d with
 | zero =>
  intro i hi k
  rw [show i = n by omega]
  rfl
 | succ d ih =>
  intro i hi k
  have hin : i < n := by omega
  have er : rd_L1 ((sqi (n + 1) f).drop 1) (i : Int) = (List.range (n + 1)).map (f (i + 1)) := by
   rw [rd1_get (by omega)]
   simp [sqi]
  rw [show k + (d + 1) + 1 = (k + d + 1) + 1 from by omega, spec_saDet.l1, iP_, iP_, iP_, iP_, er, if_pos (by simp; omega)]
  rw [show spec_l1Own.f (((List.range (n + 1)).map (f (i + 1))).take ((c : Int)).toNat) = some ((((List.range (n + 1)).map (f (i + 1))).take c)) from by unfold spec_l1Own.f; simp; omega, Option.bind_some]
  rw [w64 (x := (c : Int) + 1) (by omega) (by omega), iP_, if_pos (by simp; omega), if_pos (by simp; omega), if_pos (by simp; omega), show ((c : Int) + 1).toNat = c + 1 by omega, cutrow hc, w64 (x := (i : Int) + 1) (by omega) (by omega)]
  have := ih (i + 1) (by omega) k
  rw [List.range_succ, List.map_append] at this
  exact this
theorem bnd_mono4 {n : Nat} (h : n ≤ 4) : bnd n ≤ 240000 := by
 have : n = 0 ∨ n = 1 ∨ n = 2 ∨ n = 3 ∨ n = 4 := by omega
 rcases this with rfl | rfl | rfl | rfl | rfl <;> decide
def sg (c : Nat) : Int := if c % 2 = 0 then 1 else -1
theorem sg_succ (c : Nat) : sg (c + 1) = -sg c := by
 unfold sg
 by_cases h : c % 2 = 0
 · rw [if_pos h, iN_]
 · rw [if_neg h, iP_]
   rfl
theorem sg_abs (c : Nat) : (sg c).natAbs = 1 := by
 unfold sg
 split <;> rfl
theorem det_ev : ∀ (n : Nat), n ≤ 4 → ∀ f : Nat → Nat → Int, (∀ r s, r < n → s < n → (f r s).natAbs ≤ 10) → ∃ K, ∀ k, K ≤ k → spec_saDet.f k (sqi n f) = some (dt n f) := by
 intro n
 induction n with
 | zero =>
  intro _ f _
  refine ⟨1, fun k hk => ?_⟩
  obtain ⟨k, rfl⟩ : ∃ q, k = q + 1 := ⟨k - 1, by omega⟩
  rw [spec_saDet.f, if_pos (by simp [sqi])]
  rfl
 | succ n ih =>
  intro hn f hf
  have hb : bnd (n + 1) ≤ 240000 := bnd_mono4 hn
  have hb' : (n + 1) * (10 * bnd n) ≤ 240000 := hb
  have hterm : ∀ c, c < n + 1 → (sg c * f 0 c * dt n (fun i j => f (i + 1) (if j < c then j else j + 1))).natAbs ≤ 10 * bnd n := by
   intro c hc
   rw [Int.natAbs_mul, Int.natAbs_mul, sg_abs, Nat.one_mul]
   exact Nat.mul_le_mul (hf 0 c (by omega) hc) (dt_abs n _ (fun r s hr hs => hf _ _ (by omega) (by split <;> omega)))
  have hsum : ∀ c, c ≤ n + 1 → (smi c (fun c => sg c * f 0 c * dt n (fun i j => f (i + 1) (if j < c then j else j + 1)))).natAbs ≤ 240000 := by
   intro c hc
   have h1 := smi_abs (n := c) (B := 10 * bnd n) (fun q hq => hterm q (by omega))
   have h2 : c * (10 * bnd n) ≤ (n + 1) * (10 * bnd n) := Nat.mul_le_mul hc (Nat.le_refl _)
   omega
  have key : ∀ (d c : Nat), c + d = n + 1 → ∃ K, ∀ k, K ≤ k → spec_saDet.l0 k (sqi (n + 1) f) (smi c (fun c => sg c * f 0 c * dt n (fun i j => f (i + 1) (if j < c then j else j + 1)))) (sg c) ((List.range (n + 1)).map (f 0)) ((n : Int) + 1) (c : Int) = some (dt (n + 1) f) := by
   intro d
   induction d with
   | zero =>
    intro c hc
    refine ⟨1, fun k hk => ?_⟩
    obtain ⟨k, rfl⟩ : ∃ q, k = q + 1 := ⟨k - 1, by omega⟩
    rw [spec_saDet.l0, iN_, show c = n + 1 by omega]
    rfl
   | succ d ihd =>
    intro c hc
    have hcn : c < n + 1 := by omega
    obtain ⟨K0, e0⟩ := ihd (c + 1) (by omega)
    obtain ⟨K1, e1⟩ := ih (by omega) (fun r j => f (r + 1) (if j < c then j else j + 1)) (fun r s hr hs => hf _ _ (by omega) (by split <;> omega))
    refine ⟨K0 + K1 + n + 3, fun k hk => ?_⟩
    obtain ⟨k, rfl⟩ : ∃ q, k = (q + n + 1) + 1 := ⟨k - n - 2, by omega⟩
    have e0' := e0 k (by omega)
    have e1' := e1 k (by omega)
    have hlen : ((sqi (n + 1) f).drop 1).length = n := by rw [List.length_drop, sqi_len]; omega
    have h5 := det_l1 (n := n) (c := c) (by omega) hcn f (sqi (n + 1) f) (smi c (fun c => sg c * f 0 c * dt n (fun i j => f (i + 1) (if j < c then j else j + 1)))) (sg c) (f 0 c) ((List.range (n + 1)).map (f 0)) ((n : Int) + 1) (c : Int) n 0 (by omega) k
    rw [List.range_zero, List.map_nil] at h5
    have h6 := hterm c hcn
    have h7 := hsum c (by omega)
    have h8 := hsum (c + 1) (by omega)
    have h9 := sg_abs c
    have h10 := hf 0 c (by omega) hcn
    have h11 : (sg c * f 0 c).natAbs ≤ 10 := by rw [Int.natAbs_mul, h9]; omega
    rw [spec_saDet.l0, iP_, iP_, if_pos (by simp; omega), if_pos (by rw [sqi_len]; omega), Option.bind_some, rowi_get hcn, hlen, show ((0 : Int)) = ((0 : Nat) : Int) from rfl, h5, spec_saDet.l1, iN_, w64 (x := -sg c) (by omega) (by omega), w64 (x := (c : Int) + 1) (by omega) (by omega), ← sg_succ, show (c : Int) + 1 = ((c + 1 : Nat) : Int) from rfl]
    rw [smi] at h8
    by_cases hz : f 0 c = 0
    · rw [if_pos hz]
      have es : smi (c + 1) (fun c => sg c * f 0 c * dt n (fun i j => f (i + 1) (if j < c then j else j + 1))) = smi c (fun c => sg c * f 0 c * dt n (fun i j => f (i + 1) (if j < c then j else j + 1))) := by
       rw [smi, hz]
       simp
      rw [es] at e0'
      exact e0'
    · rw [if_neg hz, e1', Option.bind_some, w64 (x := sg c * f 0 c) (by omega) (by omega), w64 (x := sg c * f 0 c * dt n _) (by omega) (by omega), w64 (by omega) (by omega)]
      rw [smi] at e0'
      exact e0'
  obtain ⟨K, e⟩ := key (n + 1) 0 (by omega)
  refine ⟨K + 1, fun k hk => ?_⟩
  obtain ⟨k, rfl⟩ : ∃ q, k = q + 1 := ⟨k - 1, by omega⟩
  have e' := e k (by omega)
  rw [spec_saDet.f, if_neg (by rw [sqi_len]; omega), if_pos (by rw [sqi_len]; omega), show ((0 : Int)) = ((0 : Nat) : Int) from rfl, sqi_get (by omega)]
  simp only [List.length_map, List.length_range]
  exact e'
def GoodRow (n : Nat) (o : Int) (row : List Int) : Prop := row.length = n ∧ (∀ x ∈ row, 0 ≤ x) ∧ row.sum = o
def Good (o : Int) (rows : List (List Int)) : Prop := 1 ≤ o ∧ o ≤ 10 ∧ 1 ≤ rows.length ∧ rows.length ≤ 5 ∧ ∀ row ∈ rows, GoodRow rows.length o row
theorem sum_nonneg : ∀ (l : List Int), (∀ x ∈ l, 0 ≤ x) → 0 ≤ l.sum
 | [], _ => by simp
 | x :: l, h => by
  have h1 := h x (by simp)
  have h2 := sum_nonneg l (fun y hy => h y (by simp [hy]))
  simp only [List.sum_cons]
  omega
theorem le_sum : ∀ (l : List Int), (∀ x ∈ l, 0 ≤ x) → ∀ x ∈ l, x ≤ l.sum
 | [], _, x, hx => by simp at hx
 | y :: l, h, x, hx => by
  have h1 := h y (by simp)
  have h2 := sum_nonneg l (fun z hz => h z (by simp [hz]))
  simp only [List.sum_cons]
  rcases List.mem_cons.1 hx with rfl | hx
  · omega
  · have := le_sum l (fun z hz => h z (by simp [hz])) x hx
    omega
def Edge (rows : List (List Int)) (i k : Nat) : Prop := 0 < (rows.getD i []).getD k 0
inductive RC (rows : List (List Int)) (cl : Int) (s : Nat) : Nat → Prop
 | base : RC rows cl s s
 | step (i k : Nat) : RC rows cl s i → (i : Int) ≠ cl → k < rows.length → Edge rows i k → RC rows cl s k
structure Qu (rows : List (List Int)) (cl : Int) (s : Nat) (q : List Nat) : Prop where
 nd : q.Nodup
 lt : ∀ v ∈ q, v < rows.length
 rc : ∀ v ∈ q, RC rows cl s v
 mem : s ∈ q
theorem Qu.len {rows : List (List Int)} {cl : Int} {s : Nat} {q : List Nat} (h : Qu rows cl s q) : q.length ≤ rows.length := by
 have h1 := List.Nodup.length_le_of_subset h.nd (l₂ := List.range rows.length) (fun v hv => List.mem_range.2 (h.lt v hv))
 simpa using h1
def Through (rows : List (List Int)) (cl : Int) (q : List Nat) (i : Nat) : Prop := ∀ a, a < i → ∀ v, q[a]? = some v → (v : Int) ≠ cl → ∀ k, k < rows.length → Edge rows v k → k ∈ q
theorem Through.more {rows : List (List Int)} {cl : Int} {q q' : List Nat} {i : Nat} (h : Through rows cl q i) (hi : i ≤ q.length) (hp : q <+: q') : Through rows cl q' i := by
 intro a ha v hv hc k hk he
 obtain ⟨t, rfl⟩ := hp
 rw [List.getElem?_append_left (by omega)] at hv
 exact List.mem_append_left _ (h a ha v hv hc k hk he)
theorem Qu.all {rows : List (List Int)} {cl : Int} {s : Nat} {q : List Nat} (h : Qu rows cl s q) (ht : Through rows cl q q.length) (v : Nat) : RC rows cl s v ↔ v ∈ q := by
 constructor
 · intro hr
   induction hr with
   | base => exact h.mem
   | step i k _ hc hk he ih =>
    obtain ⟨a, ha, hv⟩ := List.getElem_of_mem ih
    exact ht a ha i (by rw [List.getElem?_eq_getElem ha, hv]) hc k hk he
 · exact h.rc v
theorem rd_nats {q : List Nat} {i : Nat} (h : i < q.length) : rd (q.map (fun v : Nat => (v : Int))) (i : Int) = (q[i] : Int) := by
 rw [rd_get (by simpa using h)]
 simp
theorem rdOf_get {xs : List Bool} {j : Nat} (h : j < xs.length) : rdOf false xs (j : Int) = xs[j] := by
 unfold rdOf
 rw [Int.toNat_natCast, List.getD_eq_getElem?_getD, List.getElem?_eq_getElem h]
 rfl
theorem edge_get {rows : List (List Int)} {i k : Nat} (hi : i < rows.length) (hk : k < rows[i].length) : Edge rows i k ↔ 0 < rows[i][k] := by
 unfold Edge
 simp [List.getD_eq_getElem?_getD, hi, hk]
def sx (rows : List (List Int)) (x z : Nat) : Int := (rows.getD x []).getD z 0
theorem sx_rd {rows : List (List Int)} {x z : Nat} : rd (rd_L1 rows (x : Int)) (z : Int) = sx rows x z := by
 unfold rd rd_L1 sx
 rw [Int.toNat_natCast, Int.toNat_natCast]
theorem good_row {o : Int} {rows : List (List Int)} (hg : Good o rows) {x : Nat} (hx : x < rows.length) : GoodRow rows.length o (rows.getD x []) := by
 have e : rows.getD x [] = rows[x] := by rw [List.getD_eq_getElem?_getD, List.getElem?_eq_getElem hx]; rfl
 rw [e]
 exact hg.2.2.2.2 _ (List.getElem_mem hx)
theorem smi_list : ∀ (l : List Int), smi l.length (fun z => l.getD z 0) = l.sum := by
 intro l
 have h : ∀ (l : List Int) (n : Nat), n ≤ l.length → smi n (fun z => l.getD z 0) = (l.take n).sum := by
  intro l n
  induction n with
  | zero => intro _; simp [smi]
  | succ n ih =>
   intro hn
   rw [smi, ih (by omega), List.take_add_one, List.sum_append, List.getD_eq_getElem?_getD, List.getElem?_eq_getElem (by omega)]
   simp
 rw [h l l.length (Nat.le_refl _), List.take_length]
theorem sx_chn {o : Int} {rows : List (List Int)} (hg : Good o rows) : Chn rows.length o (sx rows) := by
 refine ⟨by have := hg.1; omega, hg.2.1, fun x z => ?_, fun x hx => ?_⟩
 · unfold sx
   by_cases hx : x < rows.length
   · obtain ⟨h1, h2, h3⟩ := good_row hg hx
     by_cases hz : z < (rows.getD x []).length
     · rw [List.getD_eq_getElem?_getD, List.getElem?_eq_getElem hz]
       exact h2 _ (List.getElem_mem hz)
     · rw [List.getD_eq_getElem?_getD, List.getElem?_eq_none (by omega)]
       exact Int.le_refl _
   · rw [show rows.getD x [] = [] from by rw [List.getD_eq_getElem?_getD, List.getElem?_eq_none (by omega)]; rfl]
     simp
 · obtain ⟨h1, h2, h3⟩ := good_row hg hx
   have := smi_list (rows.getD x [])
   rw [h1, h3] at this
   exact this
theorem rc_leads {rows : List (List Int)} {x g : Nat} (hx : x < rows.length) (h : RC rows (-1) x g) : Leads rows.length (sx rows) x g := by
 intro P hP hs
 have : P g ∧ g < rows.length := by
  induction h with
  | base => exact ⟨hP, hx⟩
  | step i k _ _ hk he ih => exact ⟨hs i k ih.1 ih.2 hk he, hk⟩
 exact this.1
theorem rng_snoc {α : Type} (n : Nat) (g : Nat → α) : (List.range n).map g ++ [g n] = (List.range (n + 1)).map g := by
 rw [List.range_succ, List.map_append]
 rfl
theorem lcm_fold {W a b : Nat} (hW : 0 < W) (ha : a ∣ W) (hb : b ∣ W) : (W / a) / Nat.gcd (W / a) (W / b) * (W / b) = W / Nat.gcd a b := by
 have ha0 : 0 < a := Nat.pos_of_dvd_of_pos ha hW
 have hb0 : 0 < b := Nat.pos_of_dvd_of_pos hb hW
 have hd0 : 0 < Nat.gcd a b := Nat.gcd_pos_of_pos_left _ ha0
 obtain ⟨d, hd⟩ : ∃ d, d = Nat.gcd a b := ⟨_, rfl⟩
 obtain ⟨a', ea⟩ : d ∣ a := by rw [hd]; exact Nat.gcd_dvd_left _ _
 obtain ⟨b', eb⟩ : d ∣ b := by rw [hd]; exact Nat.gcd_dvd_right _ _
 rw [← hd] at hd0
 have hc : Nat.Coprime a' b' := by
  have h1 : Nat.gcd (d * a') (d * b') = d * 1 := by rw [← ea, ← eb, ← hd, Nat.mul_one]
  rw [Nat.gcd_mul_left] at h1
  exact Nat.eq_of_mul_eq_mul_left hd0 h1
 obtain ⟨p, ep⟩ := ha
 obtain ⟨q, eq⟩ := hb
 have e1 : a' * p = b' * q := by
  have : d * (a' * p) = d * (b' * q) := by rw [← Nat.mul_assoc, ← Nat.mul_assoc, ← ea, ← eb, ← ep, ← eq]
  exact Nat.eq_of_mul_eq_mul_left hd0 this
 obtain ⟨t, et⟩ : b' ∣ p := Nat.Coprime.dvd_of_dvd_mul_left (Nat.Coprime.symm hc) ⟨q, e1⟩
 have hb0' : 0 < b' := Nat.pos_of_ne_zero (fun h => by rw [h, Nat.mul_zero] at eb; omega)
 have e2 : q = a' * t := by
  have : b' * q = b' * (a' * t) := by rw [← e1, et]; grind
  exact Nat.eq_of_mul_eq_mul_left hb0' this
 have hp : W / a = p := by rw [ep]; exact Nat.mul_div_cancel_left p ha0
 have hq : W / b = q := by rw [eq]; exact Nat.mul_div_cancel_left q hb0
 have ht : 0 < t := Nat.pos_of_ne_zero (fun h => by rw [h, Nat.mul_zero] at et; rw [et, Nat.mul_zero] at ep; omega)
 have hg : Nat.gcd p q = t := by
  rw [et, e2, Nat.gcd_mul_right, Nat.gcd_comm, show Nat.gcd a' b' = 1 from hc, Nat.one_mul]
 rw [← hd, hp, hq, hg, et, Nat.mul_div_cancel b' ht, e2, ep, ea, et]
 rw [show d * a' * (b' * t) = d * (b' * (a' * t)) from by grind, Nat.mul_div_cancel_left _ hd0]
theorem val_fold {w W g : Nat} (hw : 0 < w) (hW : 0 < W) (h1 : g ∣ w) (h2 : g ∣ W) : (w / Nat.gcd w W) * ((W / g) / (W / Nat.gcd w W)) = w / g := by
 obtain ⟨b, hb⟩ : ∃ b, b = Nat.gcd w W := ⟨_, rfl⟩
 have hb0 : 0 < b := by rw [hb]; exact Nat.gcd_pos_of_pos_left _ hw
 obtain ⟨w', ew⟩ : b ∣ w := by rw [hb]; exact Nat.gcd_dvd_left _ _
 obtain ⟨W', eW⟩ : b ∣ W := by rw [hb]; exact Nat.gcd_dvd_right _ _
 obtain ⟨c, ec⟩ : g ∣ b := by rw [hb]; exact Nat.dvd_gcd h1 h2
 have hg0 : 0 < g := Nat.pos_of_ne_zero (fun h => by rw [h, Nat.zero_mul] at ec; omega)
 have hW0 : 0 < W' := Nat.pos_of_ne_zero (fun h => by rw [h, Nat.mul_zero] at eW; omega)
 rw [← hb]
 have q1 : w / b = w' := by rw [ew]; exact Nat.mul_div_cancel_left w' hb0
 have q2 : W / b = W' := by rw [eW]; exact Nat.mul_div_cancel_left W' hb0
 have q3 : W / g = c * W' := by rw [eW, ec, Nat.mul_assoc]; exact Nat.mul_div_cancel_left _ hg0
 have q4 : w / g = c * w' := by rw [ew, ec, Nat.mul_assoc]; exact Nat.mul_div_cancel_left _ hg0
 rw [q1, q2, q3, q4, Nat.mul_div_cancel c hW0, Nat.mul_comm]
def gf (w : Nat → Nat) : Nat → Nat
 | 0 => 0
 | j + 1 => Nat.gcd (gf w j) (w j)
theorem gf_dvd (w : Nat → Nat) : ∀ n q, q < n → gf w n ∣ w q := by
 intro n
 induction n with
 | zero => intro q hq; omega
 | succ n ih =>
  intro q hq
  by_cases e : q = n
  · subst e; exact Nat.gcd_dvd_right _ _
  · exact Nat.dvd_trans (Nat.gcd_dvd_left _ _) (ih q (by omega))
theorem gf_pos (w : Nat → Nat) (n : Nat) (hn : 0 < n) (h : ∀ q, q < n → 0 < w q) : 0 < gf w n := by
 obtain ⟨n, rfl⟩ : ∃ m, n = m + 1 := ⟨n - 1, by omega⟩
 exact Nat.gcd_pos_of_pos_right _ (h n (by omega))
theorem gf_step {W : Nat} (hW : 0 < W) (w : Nat → Nat) (i : Nat) :
 (W / Nat.gcd (gf w i) W) / Nat.gcd (W / Nat.gcd (gf w i) W) (W / Nat.gcd (w i) W) * (W / Nat.gcd (w i) W) = W / Nat.gcd (gf w (i + 1)) W := by
 rw [lcm_fold hW (Nat.gcd_dvd_right _ _) (Nat.gcd_dvd_right _ _)]
 congr 1
 apply Nat.dvd_antisymm
 · refine Nat.dvd_gcd (Nat.dvd_gcd ?_ ?_) ?_
   · exact Nat.dvd_trans (Nat.gcd_dvd_left _ _) (Nat.gcd_dvd_left _ _)
   · exact Nat.dvd_trans (Nat.gcd_dvd_right _ _) (Nat.gcd_dvd_left _ _)
   · exact Nat.dvd_trans (Nat.gcd_dvd_left _ _) (Nat.gcd_dvd_right _ _)
 · refine Nat.dvd_gcd (Nat.dvd_gcd ?_ ?_) (Nat.dvd_gcd ?_ ?_)
   · exact Nat.dvd_trans (Nat.gcd_dvd_left _ _) (Nat.gcd_dvd_left _ _)
   · exact Nat.gcd_dvd_right _ _
   · exact Nat.dvd_trans (Nat.gcd_dvd_left _ _) (Nat.gcd_dvd_right _ _)
   · exact Nat.gcd_dvd_right _ _
theorem share_low {w W : Nat} (hw : 0 < w) (hW : 0 < W) : Low ((w / Nat.gcd w W : Nat) : Int) ((W / Nat.gcd w W : Nat) : Int) (w : Int) (W : Int) := by
 have hb0 : 0 < Nat.gcd w W := Nat.gcd_pos_of_pos_left _ hw
 have h := low_div (n := (w : Int)) (d := (W : Int)) (g := ((Nat.gcd w W : Nat) : Int)) (by omega) (by simp [Int.gcd]) (Int.mul_pos (by omega) (by omega))
 rw [Int.tdiv_eq_ediv_of_nonneg (by omega), Int.tdiv_eq_ediv_of_nonneg (by omega)] at h
 exact_mod_cast h
theorem saComm_l0 : ∀ (k : Nat) (a b : Int), 0 ≤ a → 0 ≤ b → b < k → spec_saCommon.l0 k a b = some ((Int.gcd a b : Nat) : Int) := by
 intro k
 induction k with
 | zero => intro a b ha hb hk; omega
 | succ k ih =>
  intro a b ha hb hk
  rw [spec_saCommon.l0]
  by_cases h : 0 < b
  · have := tmod_nn ha h
    rw [if_pos h, iN_, ih b (Int.tmod a b) hb this.1 (by omega), gcd_step ha h]
  · obtain rfl : b = 0 := by omega
    rw [iN_]
    congr 1
    rw [Int.gcd_zero_right]
    omega
def cut (j c : Nat) : Nat := if c ≤ j then c else c - 1
theorem skp_cut {j c : Nat} (h : c ≠ j) : skp j (cut j c) = c := by
 by_cases q : c < j
 · rw [show cut j c = c from iP_]
   exact if_pos q
 · rw [show cut j c = c - 1 from iN_]
   unfold skp
   rw [iN_]
   omega
section
variable {o : Int} {rows : List (List Int)} {m : Nat}
theorem qs_vals (hg : Good o rows) {i c : Nat} (hi : i < rows.length) (hc : c < rows.length) : (qs o (sx rows) i c).natAbs ≤ 10 := by
 have h := sx_chn hg
 have h1 := h.nn i c
 have h2 := h.le hi hc
 have h3 := h.top
 have h4 := h.pos
 unfold qs tb idn
 split <;> omega
theorem shs_l2 (hg : Good o rows) (hm : rows.length = m + 1) {i j : Nat} (hi : i < rows.length) (hj : j < rows.length)
 (x5 : List Int) (x6 x7 : Int) (x9 : List (List Int)) (h9 : x9.length ≤ 10) (x27 x28 x33 : Int) :
 ∀ d c, c + d = m + 1 → ∀ k, spec_SharesOfStates.l2 (k + d + 1) x5 x6 x7 j x9 i ((List.range (cut j c)).map (fun b => qs o (sx rows) i (skp j b))) x27 x28 x33 i (rows.length : Int) c o rows =
  spec_SharesOfStates.l1 k x5 x6 x7 j (x9 ++ [(List.range m).map (fun b => qs o (sx rows) i (skp j b))]) x27 x28 x33 ((i + 1 : Nat) : Int) o rows := by
 have h := sx_chn hg
 have hrow := (good_row hg hi).1
 have erl : rd_L1 rows (i : Int) = rows.getD i [] := by
  unfold rd_L1
  rw [Int.toNat_natCast]
 have h4 := h.top
 have h5 := h.pos
 have hn5 := hg.2.2.2.1
 intro d
 induction d with
 | zero =>
  intro c hc k
  rw [spec_SharesOfStates.l2, iN_, iP_, show wrap64 ((i : Int) + 1) = ((i + 1 : Nat) : Int) from nsucc (by omega), show cut j c = m from by unfold cut; rw [iN_]; omega]
 | succ d ih =>
  intro c hc k
  have hcl : c < rows.length := by omega
  have e := ih (c + 1) (by omega) k
  have h1 := h.nn i c
  have h2 := h.le hi hcl
  rw [show k + (d + 1) + 1 = (k + d + 1) + 1 from by omega, spec_SharesOfStates.l2, iP_, nsucc (by omega)]
  by_cases hcj : c = j
  · rw [iP_]
    have : cut j (c + 1) = cut j c := by
     unfold cut
     rw [iN_, iP_]
     omega
    rw [this] at e
    exact e
  · have hcut : cut j (c + 1) = cut j c + 1 := by
     unfold cut
     by_cases q : c < j
     · rw [iP_, iP_]
     · rw [iN_, iN_]; omega
    have hsk : skp j (cut j c) = c := skp_cut hcj
    have hsn : (List.range (cut j c)).map (fun b => qs o (sx rows) i (skp j b)) ++ [qs o (sx rows) i c] = (List.range (cut j (c + 1))).map (fun b => qs o (sx rows) i (skp j b)) := by
     rw [hcut, ← rng_snoc (cut j c) (fun b => qs o (sx rows) i (skp j b)), hsk]
    rw [← hsn] at e
    have hll : (List.map (fun b => qs o (sx rows) i (skp j b)) (List.range (cut j c))).length < 17592186044416 := by
     rw [List.length_map, List.length_range]
     unfold cut
     split <;> omega
    rw [iN_, iP_, iP_, iP_, erl, iP_, ← erl, sx_rd, if_pos hll, if_pos hll]
    by_cases hic : i = c
    · subst hic
      rw [if_pos rfl, w64 (x := -sx rows i i) (by omega) (by omega), w64 (x := -sx rows i i + o) (by omega) (by omega)]
      rw [show qs o (sx rows) i i = -sx rows i i + o from by unfold qs tb idn; rw [if_pos rfl]; omega] at e
      exact e
    · rw [iN_, w64 (x := -sx rows i c) (by omega) (by omega)]
      rw [show qs o (sx rows) i c = -sx rows i c from by unfold qs tb idn; rw [if_neg hic]] at e
      exact e
theorem shs_l1 (hg : Good o rows) (hm : rows.length = m + 1) {j : Nat} (hj : j < rows.length) (x5 : List Int) (h5 : x5.length ≤ 10) (x6 x7 : Int) (h7 : 0 ≤ x7) (hw : 0 ≤ wt o (sx rows) m j) {R : List Int × Int × Bool}
 (hn : ∃ K, ∀ k, K ≤ k → spec_SharesOfStates.l0 k (x5 ++ [wt o (sx rows) m j]) (wrap64 (x6 + wt o (sx rows) m j)) ((Int.gcd x7 (wt o (sx rows) m j) : Nat) : Int) (rows.length : Int) ((j + 1 : Nat) : Int) o rows = some R) :
 ∀ d i, i + d = m + 1 → ∃ K, ∀ k, K ≤ k → spec_SharesOfStates.l1 k x5 x6 x7 j ((List.range (cut j i)).map (fun a => (List.range m).map (fun b => qs o (sx rows) (skp j a) (skp j b)))) (rows.length : Int) j (rows.length : Int) i o rows = some R := by
 have hn5 := hg.2.2.2.1
 intro d
 induction d with
 | zero =>
  intro i hi
  obtain ⟨K0, e0⟩ := hn
  obtain ⟨K1, e1⟩ := det_ev m (by omega) (fun a b => qs o (sx rows) (skp j a) (skp j b)) (fun r s hr hs => qs_vals hg (by have := skp_lt (j := j) (show j ≤ m by omega) hr; omega) (by have := skp_lt (j := j) (show j ≤ m by omega) hs; omega))
  refine ⟨K0 + K1 + (wt o (sx rows) m j).toNat + 2, fun k hk => ?_⟩
  obtain ⟨k, rfl⟩ : ∃ q, k = q + 1 := ⟨k - 1, by omega⟩
  have ec : cut j i = m := by unfold cut; rw [iN_]; omega
  have e1' : spec_saDet.f k ((List.range m).map (fun a => (List.range m).map (fun b => qs o (sx rows) (skp j a) (skp j b)))) = some (wt o (sx rows) m j) := e1 k (by omega)
  rw [spec_SharesOfStates.l1, iN_, ec, e1', Option.bind_some, iP_, show spec_saCommon.f k x7 (wt o (sx rows) m j) = some ((Int.gcd x7 (wt o (sx rows) m j) : Nat) : Int) from saComm_l0 k _ _ h7 hw (by omega), Option.bind_some, nsucc (by omega)]
  exact e0 k (by omega)
 | succ d ih =>
  intro i hi
  obtain ⟨K0, e0⟩ := ih (i + 1) (by omega)
  by_cases hij : i = j
  · refine ⟨K0 + 1, fun k hk => ?_⟩
    obtain ⟨k, rfl⟩ : ∃ q, k = q + 1 := ⟨k - 1, by omega⟩
    have := e0 k (by omega)
    rw [show cut j (i + 1) = cut j i from by unfold cut; rw [iN_, iP_]; omega] at this
    rw [spec_SharesOfStates.l1, iP_, iP_, nsucc (by omega)]
    exact this
  · have hcut : cut j (i + 1) = cut j i + 1 := by
     unfold cut
     by_cases q : i < j
     · rw [iP_, iP_]
     · rw [iN_, iN_]; omega
    have hsk : skp j (cut j i) = i := skp_cut hij
    have hcl : cut j i ≤ 10 := by unfold cut; split <;> omega
    refine ⟨K0 + m + 4, fun k hk => ?_⟩
    obtain ⟨k, rfl⟩ : ∃ q, k = (q + (m + 1) + 1) + 1 := ⟨k - m - 3, by omega⟩
    have := e0 k (by omega)
    rw [hcut, ← rng_snoc, hsk] at this
    rw [spec_SharesOfStates.l1, iP_, iN_]
    have e2 := shs_l2 hg hm (i := i) (j := j) (by omega) hj x5 x6 x7 ((List.range (cut j i)).map (fun a => (List.range m).map (fun b => qs o (sx rows) (skp j a) (skp j b)))) (by rw [List.length_map, List.length_range]; exact hcl) (rows.length : Int) j (rows.length : Int) (m + 1) 0 (by omega) k
    exact e2.trans this
end
section
variable {m : Nat} {o : Int} {s : Nat → Nat → Int}
theorem ratio_bd {a b : Int} {N D : Nat} (hb : b ≠ 0) (ha : a.natAbs ≤ N) (hd : b.natAbs ≤ D) : Bd ((a : Rat) / (b : Rat)) N D := by
 have := castne hb
 exact bd_of hb (by grind) ha hd
theorem bd_neg {q : Rat} {N D : Nat} (h : Bd q N D) : Bd (-q) N D := ⟨by simpa using h.num, by simpa using h.den⟩
theorem wt_bd (hm : m ≤ 4) (h : Chn (m + 1) o s) (hl : ∀ x g, x < m + 1 → g < m + 1 → Leads (m + 1) s x g) {j : Nat} (hj : j ≤ m) : 0 < wt o s m j ∧ (wt o s m j).natAbs ≤ 10000 := by
 obtain ⟨h1, h2⟩ := wt_pos hm h hl hj
 have : (10 : Int) ^ m ≤ 10 ^ 4 := by exact_mod_cast pow10 hm
 exact ⟨h1, by omega⟩
theorem tsh_vals (hm : m ≤ 4) (h : Chn (m + 1) o s) (hl : ∀ x g, x < m + 1 → g < m + 1 → Leads (m + 1) s x g) :
 (∀ k, k < m → Rm (Am (tsh o s m) (ssh o m)) m k m = - (Rm (Am (tsh o s m) (ssh o m)) k k k * ((wt o s m k : Rat) / (wt o s m m : Rat)))) ∧ Rm (Am (tsh o s m) (ssh o m)) m m m = (wsum o s m : Rat) / (wt o s m m : Rat) := by
 obtain ⟨h1, h2⟩ := tsh_last hm h hl
 have hw := castne (show wt o s m m ≠ 0 by have := (wt_bd hm h hl (Nat.le_refl m)).1; omega)
 refine ⟨fun k hk => ?_, ?_⟩
 · have := h1 k hk
   grind
 · grind
theorem tsh_pbd (hm : m ≤ 4) (h : Chn (m + 1) o s) (hl : ∀ x g, x < m + 1 → g < m + 1 → Leads (m + 1) s x g) {k : Nat} (hk : k < m) : Bd (Rm (Am (tsh o s m) (ssh o m)) k k k) 10000 10000 := by
 refine (piv_bd (ssh_ne h) (by omega) (fun j hj => tsh_piv hm h hl j (by omega)) (fun j hj => tsh_dts hm h hl (by omega)) (ssh_10 h k)).mono ?_ ?_
 · exact Nat.le_trans (pow10 (show k + 1 ≤ 4 by omega)) (by decide)
 · exact Nat.le_trans (Nat.mul_le_mul (pow10 (show k ≤ 3 by omega)) (Nat.le_refl 10)) (by decide)
theorem tsh_fit (hm : m ≤ 4) (h : Chn (m + 1) o s) (hl : ∀ x g, x < m + 1 → g < m + 1 → Leads (m + 1) s x g) : ∀ i, i < m + 1 → Sfit (Am (tsh o s m) (ssh o m)) (m + 1) i := by
 intro i hi
 by_cases him : i < m
 · exact stage_fit (by omega) hi (ssh_ne h) (ssh_10 h) (fun j hj => by unfold ssh; rw [iP_, if_pos him]) (fun j hj => tsh_piv hm h hl j (by omega)) (fun k c hk hc => tsh_10 h k c hk hc) (fun j hj => tsh_dts hm h hl (by omega))
 · obtain rfl : i = m := by omega
   obtain ⟨v1, v2⟩ := tsh_vals hm h hl
   obtain ⟨r1, r2⟩ := tsh_rhs hm h i (Nat.le_refl _)
   obtain ⟨z1, z2⟩ := Rm_zero (Am (tsh o s i) (ssh o i)) i (tsh_piv hm h hl)
   obtain ⟨w1, w2⟩ := wt_bd hm h hl (Nat.le_refl i)
   obtain ⟨W1, W2⟩ := wsum_pos hm h hl
   have hw := castne (show wt o s i i ≠ 0 by omega)
   have hW := castne (show wsum o s i ≠ 0 by omega)
   have bM : Bd (Rm (Am (tsh o s i) (ssh o i)) i i i) 50000 10000 := by
    rw [v2]
    exact ratio_bd (by omega) (by omega) w2
   have bX : ∀ j, j < i → Bd (Rm (Am (tsh o s i) (ssh o i)) i j i) 100000000 100000000 := by
    intro j hj
    rw [v1 j hj]
    exact bd_neg ((tsh_pbd hm h hl hj).mul (ratio_bd (by omega) (wt_bd hm h hl (show j ≤ i by omega)).2 w2))
   have hby : ∀ j, j < i → Rm (Am (tsh o s i) (ssh o i)) i j i / Rm (Am (tsh o s i) (ssh o i)) i i i = - (Rm (Am (tsh o s i) (ssh o i)) j j j * ((wt o s i j : Rat) / (wsum o s i : Rat))) := by
    intro j hj
    rw [v1 j hj, v2]
    grind
   have bB : ∀ j, j < i → Bd (Rm (Am (tsh o s i) (ssh o i)) i j i / Rm (Am (tsh o s i) (ssh o i)) i i i) 100000000 500000000 := by
    intro j hj
    rw [hby j hj]
    exact bd_neg ((tsh_pbd hm h hl hj).mul (ratio_bd (by omega) (wt_bd hm h hl (show j ≤ i by omega)).2 (show (wsum o s i).natAbs ≤ 50000 by omega)))
   have hne : Rm (Am (tsh o s i) (ssh o i)) i i i ≠ 0 := by
    rw [v2]
    intro e
    have : (wsum o s i : Rat) = 0 := by grind
    exact hW this
   refine ⟨hne, fun j hj hji => ?_, fun j c hj hji hc => ?_, fun j c hj hji hc => ?_⟩
   · exact ⟨_, _, _, _, bX j (by omega), bM, by decide, by decide⟩
   · by_cases c1 : c < i
     · rw [z1 i c c1 (by omega)]
       exact ⟨_, _, _, _, bB j (by omega), bd_zero, by decide, by decide⟩
     · by_cases c2 : c = i
       · subst c2
         exact ⟨_, _, _, _, bB j (by omega), bM, by decide, by decide⟩
       · obtain rfl : c = i + 1 := by omega
         rw [r2]
         exact ⟨_, _, _, _, bB j (by omega), bd_one, by decide, by decide⟩
   · by_cases c1 : c < i
     · rw [z1 i c c1 (by omega), Rat.mul_zero]
       by_cases e : j = c
       · subst e
         rw [z2 j c1]
         exact ⟨_, _, _, _, tsh_pbd hm h hl c1, bd_zero, by decide, by decide⟩
       · rw [z1 j c c1 e]
         exact ⟨_, _, _, _, bd_zero, bd_zero, by decide, by decide⟩
     · by_cases c2 : c = i
       · subst c2
         rw [Rat.div_mul_cancel hne]
         exact ⟨_, _, _, _, bX j (by omega), bX j (by omega), by decide, by decide⟩
       · obtain rfl : c = i + 1 := by omega
         rw [r2, r1 j (by omega), Rat.mul_one]
         exact ⟨_, _, _, _, bd_zero, bB j (by omega), by decide, by decide⟩
theorem shares_solved (hm : m ≤ 4) (h : Chn (m + 1) o s) (hl : ∀ x g, x < m + 1 → g < m + 1 → Leads (m + 1) s x g) :
 ∃ K, ∀ k, K ≤ k → impl_solved.f k (matq (m + 1) (m + 2) (Am (tsh o s m) (ssh o m))) = some (rowq (m + 1) (fun q => (wt o s m q : Rat) / (wsum o s m : Rat))) := by
 obtain ⟨v1, v2⟩ := tsh_vals hm h hl
 obtain ⟨r1, r2⟩ := tsh_rhs hm h m (Nat.le_refl _)
 obtain ⟨z1, z2⟩ := Rm_zero (Am (tsh o s m) (ssh o m)) m (tsh_piv hm h hl)
 obtain ⟨w1, w2⟩ := wt_bd hm h hl (Nat.le_refl m)
 obtain ⟨W1, W2⟩ := wsum_pos hm h hl
 have hw := castne (show wt o s m m ≠ 0 by omega)
 have hW := castne (show wsum o s m ≠ 0 by omega)
 have e1 : ∀ k, k < m → Rm (Am (tsh o s m) (ssh o m)) (m + 1) k (m + 1) = Rm (Am (tsh o s m) (ssh o m)) k k k * ((wt o s m k : Rat) / (wsum o s m : Rat)) := by
  intro k hk
  rw [Rm_succ_ne _ (by omega), r1 k hk, r2, v1 k hk, v2]
  grind
 have e2 : ∀ k, k < m → Rm (Am (tsh o s m) (ssh o m)) (m + 1) k k = Rm (Am (tsh o s m) (ssh o m)) k k k := by
  intro k hk
  rw [Rm_succ_ne _ (by omega), z1 m k hk (by omega), z2 k hk]
  grind
 have e3 : Rm (Am (tsh o s m) (ssh o m)) (m + 1) m (m + 1) = 1 := by rw [Rm_succ_eq]; exact r2
 have e4 : Rm (Am (tsh o s m) (ssh o m)) (m + 1) m m = (wsum o s m : Rat) / (wt o s m m : Rat) := by rw [Rm_succ_eq]; exact v2
 obtain ⟨K, E⟩ := solved_ev (A := Am (tsh o s m) (ssh o m)) (n := m + 1) (by omega) (by omega) (tsh_fit hm h hl) (fun i hi => by
  by_cases c : i < m
  · rw [e1 i c, e2 i c]
    exact ⟨_, _, _, _, (tsh_pbd hm h hl c).mul (ratio_bd (by omega) (wt_bd hm h hl (show i ≤ m by omega)).2 (show (wsum o s m).natAbs ≤ 50000 by omega)), tsh_pbd hm h hl c, by decide, by decide⟩
  · obtain rfl : i = m := by omega
    rw [e3, e4]
    exact ⟨_, _, _, _, bd_one, ratio_bd (by omega) (show (wsum o s i).natAbs ≤ 50000 by omega) w2, by decide, by decide⟩)
 refine ⟨K, fun k hk => ?_⟩
 rw [E k hk]
 congr 1
 refine rowq_congr fun q hq => ?_
 by_cases c : q < m
 · rw [e1 q c, e2 q c]
   have := tsh_piv hm h hl q c
   grind
 · obtain rfl : q = m := by omega
   rw [e3, e4]
   grind
end
section
variable {o : Int} {rows : List (List Int)} {m : Nat}
def wn (o : Int) (rows : List (List Int)) (m q : Nat) : Nat := (wt o (sx rows) m q).natAbs
def gn (o : Int) (rows : List (List Int)) (m : Nat) : Nat := gf (wn o rows m) (m + 1)
def vq (o : Int) (rows : List (List Int)) (m q : Nat) : Int := ((wn o rows m q / gn o rows m : Nat) : Int)
def vs (o : Int) (rows : List (List Int)) (m : Nat) : Int := (((wsum o (sx rows) m).natAbs / gn o rows m : Nat) : Int)
theorem tdiv_nat {a : Int} (h : 0 ≤ a) (g : Nat) : Int.tdiv a (g : Int) = ((a.natAbs / g : Nat) : Int) := by
 obtain ⟨n, rfl⟩ := Int.eq_ofNat_of_zero_le h
 rw [Int.tdiv_eq_ediv_of_nonneg h]
 rfl
theorem smi_bd (hm : m ≤ 4) (hg : Good o rows) (hr : rows.length = m + 1) (hl : ∀ x g, x < m + 1 → g < m + 1 → Leads (m + 1) (sx rows) x g) : ∀ n, n ≤ m + 1 → 0 ≤ smi n (wt o (sx rows) m) ∧ smi n (wt o (sx rows) m) ≤ 10000 * n := by
 have h : Chn (m + 1) o (sx rows) := hr ▸ sx_chn hg
 intro n
 induction n with
 | zero => intro _; simp [smi]
 | succ n ih =>
  intro hn
  obtain ⟨a1, a2⟩ := ih (by omega)
  obtain ⟨b1, b2⟩ := wt_bd hm h hl (show n ≤ m by omega)
  rw [smi]
  exact ⟨by omega, by omega⟩
theorem gn_pos (hm : m ≤ 4) (hg : Good o rows) (hr : rows.length = m + 1) (hl : ∀ x g, x < m + 1 → g < m + 1 → Leads (m + 1) (sx rows) x g) : 0 < gn o rows m := by
 have h : Chn (m + 1) o (sx rows) := hr ▸ sx_chn hg
 exact gf_pos _ _ (by omega) (fun q hq => by have := (wt_bd hm h hl (show q ≤ m by omega)).1; unfold wn; omega)
theorem shs_l3 (hm : m ≤ 4) (hg : Good o rows) (hr : rows.length = m + 1) (hl : ∀ x g, x < m + 1 → g < m + 1 → Leads (m + 1) (sx rows) x g) :
 ∀ d i, i + d = m + 1 → ∀ k, spec_SharesOfStates.l3 (k + d + 1) ((List.range (m + 1)).map (fun q => if q < i then vq o rows m q else wt o (sx rows) m q)) (wsum o (sx rows) m) (gn o rows m : Int) ((m + 1 : Nat) : Int) i = some ((List.range (m + 1)).map (vq o rows m), vs o rows m, true) := by
 have h : Chn (m + 1) o (sx rows) := hr ▸ sx_chn hg
 have hg0 := gn_pos hm hg hr hl
 obtain ⟨W1, W2⟩ := wsum_pos hm h hl
 intro d
 induction d with
 | zero =>
  intro i hi k
  have e1 : Int.tdiv (wsum o (sx rows) m) (gn o rows m : Int) = vs o rows m := tdiv_nat (by omega) _
  have e2 : vs o rows m ≤ 50000 ∧ 0 ≤ vs o rows m := by
   unfold vs
   have := Nat.div_le_self (wsum o (sx rows) m).natAbs (gn o rows m)
   generalize (wsum o (sx rows) m).natAbs / gn o rows m = z at this ⊢
   exact ⟨by omega, by omega⟩
  rw [spec_SharesOfStates.l3, iN_, iN_, e1, w64 (by omega) (by omega)]
  have e3 : (List.range (m + 1)).map (fun q => if q < i then vq o rows m q else wt o (sx rows) m q) = (List.range (m + 1)).map (vq o rows m) := by
   refine List.map_congr_left fun q hq => ?_
   have := List.mem_range.1 hq
   exact iP_
  rw [e3]
 | succ d ih =>
  intro i hi k
  have e := ih (i + 1) (by omega) k
  obtain ⟨b1, b2⟩ := wt_bd hm h hl (show i ≤ m by omega)
  have e1 : Int.tdiv (wt o (sx rows) m i) (gn o rows m : Int) = vq o rows m i := tdiv_nat (by omega) _
  have e2 : vq o rows m i ≤ 10000 ∧ 0 ≤ vq o rows m i := by
   unfold vq
   have := Nat.div_le_self (wn o rows m i) (gn o rows m)
   have : wn o rows m i ≤ 10000 := by unfold wn; omega
   generalize wn o rows m i / gn o rows m = z at *
   exact ⟨by omega, by omega⟩
  have er : rd ((List.range (m + 1)).map (fun q => if q < i then vq o rows m q else wt o (sx rows) m q)) (i : Int) = wt o (sx rows) m i := by
   rw [rowi_get (by omega)]
   exact iN_
  rw [show k + (d + 1) + 1 = (k + d + 1) + 1 from by omega, spec_SharesOfStates.l3, iP_, iP_, if_pos (by simp; omega), iN_, er, e1, w64 (x := vq o rows m i) (by omega) (by omega), nsucc (by omega), Int.toNat_natCast]
  have es : ((List.range (m + 1)).map (fun q => if q < i then vq o rows m q else wt o (sx rows) m q)).set i (vq o rows m i) = (List.range (m + 1)).map (fun q => if q < i + 1 then vq o rows m q else wt o (sx rows) m q) := by
   apply List.ext_getElem?
   intro q
   by_cases eq : q = i
   · subst eq
     rw [List.getElem?_set_self (by simp; omega), List.getElem?_map, List.getElem?_range (by omega)]
     simp
   · rw [List.getElem?_set_ne (by omega), List.getElem?_map, List.getElem?_map]
     by_cases hq : q < m + 1
     · rw [List.getElem?_range hq, Option.map_some, Option.map_some]
       by_cases c : q < i
       · rw [if_pos c, iP_]
       · rw [if_neg c, iN_]
     · rw [List.getElem?_eq_none (by simp; omega)]
       rfl
  rw [es]
  exact e
theorem shs_l0 (hm : m ≤ 4) (hg : Good o rows) (hr : rows.length = m + 1) (hl : ∀ x g, x < m + 1 → g < m + 1 → Leads (m + 1) (sx rows) x g) :
 ∀ d j, j + d = m + 1 → ∃ K, ∀ k, K ≤ k → spec_SharesOfStates.l0 k ((List.range j).map (wt o (sx rows) m)) (smi j (wt o (sx rows) m)) (gf (wn o rows m) j : Int) (rows.length : Int) j o rows = some ((List.range (m + 1)).map (vq o rows m), vs o rows m, true) := by
 have h : Chn (m + 1) o (sx rows) := hr ▸ sx_chn hg
 intro d
 induction d with
 | zero =>
  intro j hj
  obtain rfl : j = m + 1 := by omega
  refine ⟨m + 4, fun k hk => ?_⟩
  obtain ⟨k, rfl⟩ : ∃ q, k = (q + (m + 1) + 1) + 1 := ⟨k - m - 3, by omega⟩
  have e := shs_l3 hm hg hr hl (m + 1) 0 (by omega) k
  rw [spec_SharesOfStates.l0, iN_, List.length_map, List.length_range]
  rw [show (List.range (m + 1)).map (fun q => if q < 0 then vq o rows m q else wt o (sx rows) m q) = (List.range (m + 1)).map (wt o (sx rows) m) from List.map_congr_left fun q _ => iN_] at e
  exact e
 | succ d ih =>
  intro j hj
  obtain ⟨K0, e0⟩ := ih (j + 1) (by omega)
  obtain ⟨b1, b2⟩ := wt_bd hm h hl (show j ≤ m by omega)
  obtain ⟨s1, s2⟩ := smi_bd hm hg hr hl j (by omega)
  obtain ⟨K1, e1⟩ := shs_l1 hg hr (j := j) (by omega) ((List.range j).map (wt o (sx rows) m)) (by simp; omega) (smi j (wt o (sx rows) m)) (gf (wn o rows m) j : Int) (by omega) (by omega) (R := ((List.range (m + 1)).map (vq o rows m), vs o rows m, true)) (by
   refine ⟨K0, fun k hk => ?_⟩
   have := e0 k hk
   rw [← rng_snoc, smi, gf] at this
   rw [w64 (by omega) (by omega)]
   exact this) (m + 1) 0 (by omega)
  refine ⟨K1 + 1, fun k hk => ?_⟩
  obtain ⟨k, rfl⟩ : ∃ q, k = q + 1 := ⟨k - 1, by omega⟩
  have := e1 k (by omega)
  rw [show cut j 0 = 0 from iP_] at this
  rw [spec_SharesOfStates.l0, iP_]
  exact this
end
section
variable {o : Int} {rows : List (List Int)} {m : Nat}
def A0 (o : Int) (s : Nat → Nat → Int) (m r c : Nat) : Rat := if c ≤ m then Am (tsh o s m) (ssh o m) r c else 0
theorem shi_l1 (hg : Good o rows) (hm : rows.length = m + 1) {r : Nat} (hr : r < rows.length) (x6 : List (List S67)) (h6 : x6.length ≤ 10) :
 ∀ d c, c + d = m + 1 → ∃ K, ∀ k, K ≤ k → ∀ x8 : List S67, x8.length = m + 2 → (∀ q, q < c → x8[q]? = some (qn (A0 o (sx rows) m r q))) →
  impl_SharesOfStates.l1 (k + d + 1) (rows.length : Int) x6 r x8 (rows.length : Int) r (rows.length : Int) c o rows =
  impl_SharesOfStates.l0 k (rows.length : Int) (x6 ++ [rowq (m + 2) (A0 o (sx rows) m r)]) (rows.length : Int) ((r + 1 : Nat) : Int) o rows := by
 have h := sx_chn hg
 have h4 := h.top
 have h5 := h.pos
 have hn5 := hg.2.2.2.1
 have ho0 : ((o : Int) : Rat) ≠ 0 := castne (by omega)
 intro d
 induction d with
 | zero =>
  intro c hc
  refine ⟨0, fun k _ x8 h8 hq => ?_⟩
  rw [impl_SharesOfStates.l1, iN_, show impl_whole.f 0 = some ((0 : Int), (1 : Int)) from rfl, Option.bind_some, iP_, iP_, iP_, nsucc (by omega)]
  have ex : x8.set ((rows.length : Int)).toNat (⟨0, 1⟩ : S67) = rowq (m + 2) (A0 o (sx rows) m r) := by
   apply List.ext_getElem?
   intro q
   rw [Int.toNat_natCast, hm]
   by_cases eq : q = m + 1
   · subst eq
     rw [List.getElem?_set_self (by omega), rowq, List.getElem?_map, List.getElem?_range (by omega), Option.map_some, show A0 o (sx rows) m r (m + 1) = 0 from iN_]
     rfl
   · rw [List.getElem?_set_ne (by omega)]
     by_cases hlt : q < m + 1
     · rw [hq q (by omega), rowq, List.getElem?_map, List.getElem?_range (by omega)]
       rfl
     · rw [List.getElem?_eq_none (by omega), List.getElem?_eq_none (by rw [rowq_len]; omega)]
  rw [ex]
 | succ d ih =>
  intro c hc
  obtain ⟨K0, e0⟩ := ih (c + 1) (by omega)
  have hcl : c < rows.length := by omega
  have hrow := (good_row hg hcl).1
  have erl : rd_L1 rows (c : Int) = rows.getD c [] := by
   unfold rd_L1
   rw [Int.toNat_natCast]
  have hs0 := h.nn c r
  have hs1 := h.le hcl hr
  obtain ⟨K1, e1⟩ := lowest_rat (n := sx rows c r) (d := o) (q := (sx rows c r : Rat) / (o : Rat)) (by omega) (by omega) (by omega) (by grind)
  have b1 : Bd ((sx rows c r : Rat) / (o : Rat)) 10 10 := bd_of (n := sx rows c r) (d := o) (by omega) (by grind) (by omega) (by omega)
  obtain ⟨K2, e2⟩ := minus_rat b1 bd_one (by decide) (by decide)
  refine ⟨K0 + K1 + K2, fun k hk x8 h8 hq => ?_⟩
  have e1' := e1 (k + d + 1) (by omega)
  have e2' := e2 (k + d + 1) (by omega)
  have key : ∀ w : Rat, w = A0 o (sx rows) m r c → ∀ y : List S67, y.length = m + 2 → (∀ q, q < c → y[q]? = some (qn (A0 o (sx rows) m r q))) → impl_SharesOfStates.l1 (k + d + 1) (rows.length : Int) x6 r (y.set c (qn w)) (rows.length : Int) r (rows.length : Int) (wrap64 ((c : Int) + 1)) o rows =
   impl_SharesOfStates.l0 k (rows.length : Int) (x6 ++ [rowq (m + 2) (A0 o (sx rows) m r)]) (rows.length : Int) ((r + 1 : Nat) : Int) o rows := by
   intro w hw y hy hqy
   rw [nsucc (by omega)]
   refine e0 k (by omega) _ (by rw [List.length_set]; exact hy) (fun q hqc => ?_)
   by_cases e : q = c
   · subst e
     rw [List.getElem?_set_self (by omega), hw]
   · rw [List.getElem?_set_ne (by omega)]
     exact hqy q (by omega)
  rw [show k + (d + 1) + 1 = (k + d + 1) + 1 from by omega, impl_SharesOfStates.l1, iP_, iP_, iP_, iP_, erl, iP_, ← erl, sx_rd, e1', Option.bind_some, iP_, Option.bind_some, Int.toNat_natCast, w64 (x := (rows.length : Int) - 1) (by omega) (by omega)]
  have e1n : (1 : Rat).num = 1 := rfl
  have e1d : (((1 : Rat).den : Nat) : Int) = 1 := rfl
  have ewh : impl_whole.f 1 = some ((1 : Int), (1 : Int)) := rfl
  by_cases ecr : c = r
  · subst ecr
    rw [if_pos rfl]
    have er : rd_T67 (x8.set c (⟨((sx rows c c : Rat) / (o : Rat)).num, (((sx rows c c : Rat) / (o : Rat)).den : Int)⟩ : S67)) (c : Int) = qn ((sx rows c c : Rat) / (o : Rat)) := by
     show (x8.set c _).getD (c : Int).toNat _ = _
     rw [Int.toNat_natCast, List.getD_eq_getElem?_getD, List.getElem?_set_self (by omega)]
     rfl
    rw [e1n, e1d] at e2'
    have e2'' : impl_frac_minus.f (k + d + 1) (qn ((sx rows c c : Rat) / (o : Rat))).f0 (qn ((sx rows c c : Rat) / (o : Rat))).f1 1 1 = some (((sx rows c c : Rat) / (o : Rat) - 1).num, (((sx rows c c : Rat) / (o : Rat) - 1).den : Int)) := e2'
    rw [ewh, Option.bind_some, er, e2'', Option.bind_some, Option.bind_some, List.set_set]
    by_cases ecm : c = m
    · rw [iP_, Option.bind_some, List.set_set]
      refine key 1 ?_ x8 h8 hq
      unfold A0 Am tsh ssh
      rw [iP_, iN_, iN_]
      grind
    · rw [iN_]
      refine key ((sx rows c c : Rat) / (o : Rat) - 1) ?_ x8 h8 hq
      unfold A0 Am tsh ssh qs tb idn
      rw [iP_, iP_, iP_, if_pos rfl, iP_, Rat.intCast_neg, Rat.intCast_sub]
      grind
  · rw [iN_]
    by_cases ecm : r = m
    · rw [iP_, ewh, Option.bind_some, List.set_set]
      refine key 1 ?_ x8 h8 hq
      unfold A0 Am tsh ssh
      rw [iP_, iN_, iN_]
      grind
    · rw [iN_]
      refine key ((sx rows c r : Rat) / (o : Rat)) ?_ x8 h8 hq
      unfold A0 Am tsh ssh qs tb idn
      rw [iP_, iP_, iP_, if_neg ecr, iP_, Int.neg_neg]
end
section
variable {o : Int} {rows : List (List Int)} {m : Nat}
def xq (o : Int) (rows : List (List Int)) (m q : Nat) : Rat := (wt o (sx rows) m q : Rat) / (wsum o (sx rows) m : Rat)
def Wn (o : Int) (rows : List (List Int)) (m : Nat) : Nat := (wsum o (sx rows) m).natAbs
def fq (o : Int) (rows : List (List Int)) (m i : Nat) : Nat := Wn o rows m / Nat.gcd (gf (wn o rows m) i) (Wn o rows m)
theorem tdiv_nn (a b : Nat) : Int.tdiv (a : Int) (b : Int) = ((a / b : Nat) : Int) := by
 rw [Int.tdiv_eq_ediv_of_nonneg (by omega)]
 rfl
theorem xq_low (hm : m ≤ 4) (hg : Good o rows) (hr : rows.length = m + 1) (hl : ∀ x g, x < m + 1 → g < m + 1 → Leads (m + 1) (sx rows) x g) {q : Nat} (hq : q ≤ m) :
 (xq o rows m q).num = ((wn o rows m q / Nat.gcd (wn o rows m q) (Wn o rows m) : Nat) : Int) ∧ ((xq o rows m q).den : Int) = ((Wn o rows m / Nat.gcd (wn o rows m q) (Wn o rows m) : Nat) : Int) ∧ 0 < wn o rows m q ∧ wn o rows m q ≤ 10000 ∧ 0 < Wn o rows m ∧ Wn o rows m ≤ 50000 := by
 have h : Chn (m + 1) o (sx rows) := hr ▸ sx_chn hg
 obtain ⟨W1, W2⟩ := wsum_pos hm h hl
 obtain ⟨b1, b2⟩ := wt_bd hm h hl hq
 have e1 : ((wn o rows m q : Nat) : Int) = wt o (sx rows) m q := by unfold wn; omega
 have e2 : ((Wn o rows m : Nat) : Int) = wsum o (sx rows) m := by unfold Wn; omega
 have p1 : 0 < wn o rows m q := by omega
 have p2 : 0 < Wn o rows m := by omega
 have L := share_low p1 p2
 have hW := castne (show wsum o (sx rows) m ≠ 0 by omega)
 have L2 : Low (xq o rows m q).num ((xq o rows m q).den : Int) (wn o rows m q : Int) (Wn o rows m : Int) := low_of_rat (by omega) (by rw [e1, e2]; unfold xq; grind)
 obtain ⟨h1, h2⟩ := L2.unique L rfl
 exact ⟨h1, h2, p1, by omega, p2, by omega⟩
theorem fq_zero (o : Int) (rows : List (List Int)) (m : Nat) (h : 0 < Wn o rows m) : fq o rows m 0 = 1 := by
 unfold fq gf
 rw [Nat.gcd_zero_left]
 exact Nat.div_self h
theorem fq_last (hm : m ≤ 4) (hg : Good o rows) (hr : rows.length = m + 1) (hl : ∀ x g, x < m + 1 → g < m + 1 → Leads (m + 1) (sx rows) x g) : gn o rows m ∣ Wn o rows m ∧ fq o rows m (m + 1) = Wn o rows m / gn o rows m := by
 have h : Chn (m + 1) o (sx rows) := hr ▸ sx_chn hg
 have key : ∀ n, n ≤ m + 1 → (gn o rows m : Int) ∣ smi n (wt o (sx rows) m) := by
  intro n
  induction n with
  | zero => intro _; exact ⟨0, by simp [smi]⟩
  | succ n ih =>
   intro hn
   rw [smi]
   refine Int.dvd_add (ih (by omega)) ?_
   have : gn o rows m ∣ wn o rows m n := gf_dvd _ _ n (by omega)
   exact Int.natAbs_dvd_natAbs.1 this
 have hd : gn o rows m ∣ Wn o rows m := Int.natAbs_dvd_natAbs.2 (key (m + 1) (Nat.le_refl _))
 refine ⟨hd, ?_⟩
 unfold fq
 rw [show Nat.gcd (gf (wn o rows m) (m + 1)) (Wn o rows m) = gn o rows m from Nat.gcd_eq_left hd]
theorem shi_l3 (hm : m ≤ 4) (hg : Good o rows) (hr : rows.length = m + 1) (hl : ∀ x g, x < m + 1 → g < m + 1 → Leads (m + 1) (sx rows) x g) :
 ∀ d i, i + d = m + 1 → ∀ k, impl_SharesOfStates.l3 (k + d + 1) (vs o rows m) ((List.range i).map (vq o rows m)) (rowq (m + 1) (xq o rows m)) ((m + 1 : Nat) : Int) i = some ((List.range (m + 1)).map (vq o rows m), vs o rows m, true) := by
 have h : Chn (m + 1) o (sx rows) := hr ▸ sx_chn hg
 intro d
 induction d with
 | zero =>
  intro i hi k
  obtain rfl : i = m + 1 := by omega
  rw [impl_SharesOfStates.l3, iN_]
 | succ d ih =>
  intro i hi k
  have e := ih (i + 1) (by omega) k
  obtain ⟨x1, x2, p1, p2, p3, p4⟩ := xq_low hm hg hr hl (show i ≤ m by omega)
  obtain ⟨d1, d2⟩ := fq_last hm hg hr hl
  have d3 : gn o rows m ∣ wn o rows m i := gf_dvd _ _ i (by omega)
  have hv := val_fold p1 p3 d3 d1
  have hden : ((xq o rows m i).den : Int) ≠ 0 := den_int_ne _
  have evs : vs o rows m = ((Wn o rows m / gn o rows m : Nat) : Int) := rfl
  have q1 : Int.tdiv (vs o rows m) ((xq o rows m i).den : Int) = (((Wn o rows m / gn o rows m) / (Wn o rows m / Nat.gcd (wn o rows m i) (Wn o rows m)) : Nat) : Int) := by rw [evs, x2, tdiv_nn]
  have q2 : ((Wn o rows m / gn o rows m) / (Wn o rows m / Nat.gcd (wn o rows m i) (Wn o rows m)) : Nat) ≤ 50000 := Nat.le_trans (Nat.div_le_self _ _) (Nat.le_trans (Nat.div_le_self _ _) p4)
  have q3 : (xq o rows m i).num * (((Wn o rows m / gn o rows m) / (Wn o rows m / Nat.gcd (wn o rows m i) (Wn o rows m)) : Nat) : Int) = vq o rows m i := by
   rw [x1, ← Int.natCast_mul, hv]
   rfl
  have q4 : vq o rows m i ≤ 10000 ∧ 0 ≤ vq o rows m i := by
   unfold vq
   have := Nat.div_le_self (wn o rows m i) (gn o rows m)
   generalize wn o rows m i / gn o rows m = z at *
   exact ⟨by omega, by omega⟩
  generalize (Wn o rows m / gn o rows m) / (Wn o rows m / Nat.gcd (wn o rows m i) (Wn o rows m)) = E at q1 q2 q3
  rw [show k + (d + 1) + 1 = (k + d + 1) + 1 from by omega, impl_SharesOfStates.l3, iP_, iP_, if_pos (by rw [rowq_len]; omega), rowq_get (by omega), show (qn (xq o rows m i)).f1 = ((xq o rows m i).den : Int) from rfl, show (qn (xq o rows m i)).f0 = (xq o rows m i).num from rfl, if_neg hden, if_pos (by simp; omega), nsucc (by omega)]
  rw [q1, w64 (x := (E : Int)) (by omega) (by omega), q3, w64 (by omega) (by omega), rng_snoc]
  exact e
theorem shi_l2 (hm : m ≤ 4) (hg : Good o rows) (hr : rows.length = m + 1) (hl : ∀ x g, x < m + 1 → g < m + 1 → Leads (m + 1) (sx rows) x g) :
 ∀ d i, i + d = m + 1 → ∃ K, ∀ k, K ≤ k → impl_SharesOfStates.l2 k (rowq (m + 1) (xq o rows m)) (fq o rows m i : Int) (rowq (m + 1) (xq o rows m)) ((m + 1 : Nat) : Int) i = some ((List.range (m + 1)).map (vq o rows m), vs o rows m, true) := by
 intro d
 induction d with
 | zero =>
  intro i hi
  obtain rfl : i = m + 1 := by omega
  refine ⟨m + 5, fun k hk => ?_⟩
  obtain ⟨k, rfl⟩ : ∃ q, k = (q + (m + 1) + 1) + 1 := ⟨k - m - 3, by omega⟩
  have e := shi_l3 hm hg hr hl (m + 1) 0 (by omega) k
  rw [impl_SharesOfStates.l2, iN_, rowq_len, (fq_last hm hg hr hl).2]
  exact e
 | succ d ih =>
  intro i hi
  obtain ⟨K0, e0⟩ := ih (i + 1) (by omega)
  obtain ⟨x1, x2, p1, p2, p3, p4⟩ := xq_low hm hg hr hl (show i ≤ m by omega)
  have hden : ((xq o rows m i).den : Int) ≠ 0 := den_int_ne _
  have f1 : fq o rows m i ≤ 50000 := Nat.le_trans (Nat.div_le_self _ _) p4
  have f2 : fq o rows m (i + 1) ≤ 50000 := Nat.le_trans (Nat.div_le_self _ _) p4
  have f3 : Wn o rows m / Nat.gcd (wn o rows m i) (Wn o rows m) ≤ 50000 := Nat.le_trans (Nat.div_le_self _ _) p4
  have hs : fq o rows m i / Nat.gcd (fq o rows m i) (Wn o rows m / Nat.gcd (wn o rows m i) (Wn o rows m)) * (Wn o rows m / Nat.gcd (wn o rows m i) (Wn o rows m)) = fq o rows m (i + 1) := gf_step p3 (wn o rows m) i
  generalize Wn o rows m / Nat.gcd (wn o rows m i) (Wn o rows m) = D at *
  obtain ⟨K1, e1⟩ := common_ev (a := (fq o rows m i : Int)) (b := (D : Int)) (by omega) (by omega)
  have hgd : Nat.gcd (fq o rows m i) D ≠ 0 := fun e => by have := (Nat.gcd_eq_zero_iff.1 e).2; omega
  have f4 := Nat.div_le_self (fq o rows m i) (Nat.gcd (fq o rows m i) D)
  refine ⟨K0 + K1 + 1, fun k hk => ?_⟩
  obtain ⟨k, rfl⟩ : ∃ q, k = q + 1 := ⟨k - 1, by omega⟩
  have e1' : impl_common.f k (fq o rows m i : Int) (D : Int) = some ((Nat.gcd (fq o rows m i) D : Nat) : Int) := e1 k (by omega)
  rw [impl_SharesOfStates.l2, iP_, iP_, if_pos (by rw [rowq_len]; omega), rowq_get (by omega), show (qn (xq o rows m i)).f1 = ((xq o rows m i).den : Int) from rfl, x2, e1', Option.bind_some, iN_, tdiv_nn, nsucc (by omega)]
  generalize fq o rows m i / Nat.gcd (fq o rows m i) D = E at *
  rw [w64 (x := (E : Int)) (by omega) (by omega), ← Int.natCast_mul, hs, w64 (by omega) (by omega)]
  exact e0 k (by omega)
theorem shi_l0 (hm : m ≤ 4) (hg : Good o rows) (hr : rows.length = m + 1) (hl : ∀ x g, x < m + 1 → g < m + 1 → Leads (m + 1) (sx rows) x g) :
 ∀ d i, i + d = m + 1 → ∃ K, ∀ k, K ≤ k → impl_SharesOfStates.l0 k (rows.length : Int) (matq i (m + 2) (A0 o (sx rows) m)) (rows.length : Int) i o rows = some ((List.range (m + 1)).map (vq o rows m), vs o rows m, true) := by
 have h : Chn (m + 1) o (sx rows) := hr ▸ sx_chn hg
 intro d
 induction d with
 | zero =>
  intro i hi
  obtain rfl : i = m + 1 := by omega
  obtain ⟨K1, e1⟩ := shares_solved hm h hl
  obtain ⟨K2, e2⟩ := shi_l2 hm hg hr hl (m + 1) 0 (by omega)
  have p3 := (xq_low hm hg hr hl (Nat.zero_le m)).2.2.2.2.1
  rw [fq_zero o rows m p3] at e2
  refine ⟨K1 + K2 + 1, fun k hk => ?_⟩
  obtain ⟨k, rfl⟩ : ∃ q, k = q + 1 := ⟨k - 1, by omega⟩
  have e1' := e1 k (by omega)
  have e2' := e2 k (by omega)
  have w1 : wrap64 ((rows.length : Int) - 1) = (m : Int) := by rw [w64 (by omega) (by omega)]; omega
  have er : rd_L4 (matq (m + 1) (m + 2) (A0 o (sx rows) m)) (m : Int) = rowq (m + 2) (A0 o (sx rows) m m) := by
   unfold rd_L4
   rw [Int.toNat_natCast, matq_get (by omega)]
  have es : (matq (m + 1) (m + 2) (A0 o (sx rows) m)).set m ((rowq (m + 2) (A0 o (sx rows) m m)).set (m + 1) (⟨1, 1⟩ : S67)) = matq (m + 1) (m + 2) (Am (tsh o (sx rows) m) (ssh o m)) := by
   rw [show (⟨1, 1⟩ : S67) = qn 1 from rfl, rowq_set, matq_set]
   refine matq_congr fun r c hrr hcc => ?_
   by_cases e : r = m
   · subst e
     rw [if_pos rfl]
     by_cases ec : c = r + 1
     · rw [if_pos ec]
       unfold Am tsh ssh
       rw [iN_, iN_]
       grind
     · rw [if_neg ec]
       exact iP_
   · rw [if_neg e]
     by_cases ec : c ≤ m
     · exact if_pos ec
     · unfold A0 Am tsh
       rw [if_neg ec, iP_, iN_]
       grind
  rw [impl_SharesOfStates.l0, iN_, w1, iP_, if_pos (by rw [matq_len]; omega), show impl_whole.f 1 = some ((1 : Int), (1 : Int)) from rfl, Option.bind_some, iP_, er, if_pos (by rw [rowq_len]; omega), Int.toNat_natCast, Int.toNat_natCast, hr, es, e1', Option.bind_some, rowq_len]
  exact e2'
 | succ d ih =>
  intro i hi
  obtain ⟨K0, e0⟩ := ih (i + 1) (by omega)
  obtain ⟨K1, e1⟩ := shi_l1 hg hr (r := i) (by omega) (matq i (m + 2) (A0 o (sx rows) m)) (by rw [matq_len]; omega) (m + 1) 0 (by omega)
  refine ⟨K0 + K1 + m + 4, fun k hk => ?_⟩
  obtain ⟨k, rfl⟩ : ∃ q, k = (q + (m + 1) + 1) + 1 := ⟨k - m - 3, by omega⟩
  have e1' := e1 k (by omega) (List.replicate (m + 2) z67) List.length_replicate (fun q hq => by omega)
  have em : matq i (m + 2) (A0 o (sx rows) m) ++ [rowq (m + 2) (A0 o (sx rows) m i)] = matq (i + 1) (m + 2) (A0 o (sx rows) m) := by
   unfold matq
   rw [List.range_succ, List.map_append]
   rfl
  rw [em] at e1'
  have w1 : wrap64 ((rows.length : Int) + 1) = ((m + 2 : Nat) : Int) := by rw [w64 (by omega) (by omega)]; omega
  rw [impl_SharesOfStates.l0, iP_, w1, iP_, Int.toNat_natCast, iP_]
  exact e1'.trans (e0 k (by omega))
end
theorem szSS_l0 (rows : List (List Int)) (hl : rows.length ≤ 9223372036854775807) (hr : ∀ r ∈ rows, r.length ≤ 9223372036854775807) : ∀ (m j : Nat) (left : Int), j + m = rows.length → 0 ≤ left → left ≤ 1048576 →
 ∃ r, (∃ K, ∀ k, K ≤ k → laws_szIntSS.l0 k rows left j = some r) ∧ (0 ≤ r → ∀ i (h : i < rows.length), j ≤ i → (rows[i].length : Int) ≤ left) := by
 intro m
 induction m with
 | zero =>
  intro j left hj h0 h1
  refine ⟨left, ⟨1, fun k hk => ?_⟩, fun _ i h hi => by omega⟩
  obtain ⟨k, rfl⟩ : ∃ m, k = m + 1 := ⟨k - 1, by omega⟩
  simp only [laws_szIntSS.l0]
  rw [iN_]
 | succ m ih =>
  intro j left hj h0 h1
  have hlt : j < rows.length := by omega
  have hrr := hr _ (List.getElem_mem hlt)
  by_cases hc : left - (rows[j].length : Int) < 0
  · refine ⟨-1, ⟨1, fun k hk => ?_⟩, fun h => by omega⟩
    obtain ⟨k, rfl⟩ : ∃ m, k = m + 1 := ⟨k - 1, by omega⟩
    simp only [laws_szIntSS.l0, laws_szIntS.f]
    rw [iP_, iP_, rd1_get hlt, w64 (x := left - (rows[j].length : Int)) (by omega) (by omega), if_pos hc]
    rfl
  · obtain ⟨r, ⟨K, E⟩, h⟩ := ih (j + 1) (left - (rows[j].length : Int)) (by omega) (by omega) (by omega)
    refine ⟨r, ⟨K + 1, fun k hk => ?_⟩, fun h2 i hi hji => ?_⟩
    · obtain ⟨k, rfl⟩ : ∃ m, k = m + 1 := ⟨k - 1, by omega⟩
      simp only [laws_szIntSS.l0, laws_szIntS.f]
      rw [iP_, iP_, rd1_get hlt, w64 (x := left - (rows[j].length : Int)) (by omega) (by omega), if_neg hc]
      simp only [Option.bind_some]
      rw [if_neg hc, w64 (x := (j : Int) + 1) (by omega) (by omega)]
      exact E k (by omega)
    · by_cases hij : i = j
      · subst hij; omega
      · have := h h2 i hi (by omega)
        omega
theorem szStates_ev (o : Int) (rows : List (List Int)) (hl : rows.length ≤ 9223372036854775807) (hr : ∀ r ∈ rows, r.length ≤ 9223372036854775807) :
 ∃ r, (∃ K, ∀ k, K ≤ k → laws_szStates.f k o rows 1048576 = some r) ∧ (0 ≤ r → rows.length ≤ 1048576 ∧ ∀ x ∈ rows, x.length ≤ 1048576) := by
 by_cases hc : 1048576 - (rows.length : Int) < 0
 · refine ⟨-1, ⟨0, fun k _ => ?_⟩, fun h => by omega⟩
   simp only [laws_szStates.f, laws_szIntSS.f]
   rw [w64 (x := 1048576 - (rows.length : Int)) (by omega) (by omega), if_pos hc]
   rfl
 · obtain ⟨r, ⟨K, E⟩, h⟩ := szSS_l0 rows hl hr rows.length 0 (1048576 - (rows.length : Int)) (by omega) (by omega) (by omega)
   by_cases hr0 : r < 0
   · refine ⟨-1, ⟨K, fun k hk => ?_⟩, fun h => by omega⟩
     simp only [laws_szStates.f, laws_szIntSS.f]
     rw [w64 (x := 1048576 - (rows.length : Int)) (by omega) (by omega), if_neg hc, show laws_szIntSS.l0 k rows (1048576 - (rows.length : Int)) 0 = some r from E k hk]
     simp only [Option.bind_some]
     rw [if_pos hr0]
   · refine ⟨r, ⟨K, fun k hk => ?_⟩, fun h0 => ⟨by omega, fun x hx => ?_⟩⟩
     · simp only [laws_szStates.f, laws_szIntSS.f]
       rw [w64 (x := 1048576 - (rows.length : Int)) (by omega) (by omega), if_neg hc, show laws_szIntSS.l0 k rows (1048576 - (rows.length : Int)) 0 = some r from E k hk]
       simp only [Option.bind_some]
       rw [if_neg hr0]
     · obtain ⟨i, hi, rfl⟩ := List.getElem_of_mem hx
       have := h h0 i hi (by omega)
       omega
theorem toIntS_l0 (xs : List Int) (hx : xs.length ≤ 1048576) : ∀ (m j k : Nat) (ys : List Int), m < k → j + m = xs.length → ys.length = xs.length → ys.take j = xs.take j →
 laws_toIntS.l0 k xs ys j = some xs := by
 intro m
 induction m with
 | zero =>
  intro j k ys hk hj hy ht
  obtain ⟨k, rfl⟩ : ∃ m, k = m + 1 := ⟨k - 1, by omega⟩
  simp only [laws_toIntS.l0]
  rw [iN_]
  rw [List.take_of_length_le (by omega), List.take_of_length_le (by omega)] at ht
  rw [ht]
 | succ m ih =>
  intro j k ys hk hj hy ht
  obtain ⟨k, rfl⟩ : ∃ m, k = m + 1 := ⟨k - 1, by omega⟩
  have hlt : j < xs.length := by omega
  simp only [laws_toIntS.l0]
  rw [iP_, iP_, iP_, rd_get hlt, w64 (x := (j : Int) + 1) (by omega) (by omega), show (j : Int) + 1 = ((j + 1 : Nat) : Int) from by omega, Int.toNat_natCast]
  refine ih (j + 1) k _ (by omega) (by omega) (by rw [List.length_set]; exact hy) ?_
  rw [List.take_add_one, List.take_add_one, List.take_set_of_le (by omega), ht, List.getElem?_set_self (by omega), List.getElem?_eq_getElem hlt]
theorem toIntS_is (xs : List Int) (hx : xs.length ≤ 1048576) (k : Nat) (hk : xs.length < k) : laws_toIntS.f k xs = some xs := by
 unfold laws_toIntS.f
 rw [iP_, iP_]
 exact toIntS_l0 xs hx xs.length 0 k _ hk (by omega) (by simp) rfl
theorem toIntSS_l0 (xs : List (List Int)) (hx : xs.length ≤ 1048576) (hr : ∀ r ∈ xs, r.length ≤ 1048576) : ∀ (m j k : Nat) (ys : List (List Int)), m + 1048578 < k → j + m = xs.length → ys.length = xs.length → ys.take j = xs.take j →
 laws_toIntSS.l0 k xs ys j = some xs := by
 intro m
 induction m with
 | zero =>
  intro j k ys hk hj hy ht
  obtain ⟨k, rfl⟩ : ∃ m, k = m + 1 := ⟨k - 1, by omega⟩
  simp only [laws_toIntSS.l0]
  rw [iN_]
  rw [List.take_of_length_le (by omega), List.take_of_length_le (by omega)] at ht
  rw [ht]
 | succ m ih =>
  intro j k ys hk hj hy ht
  obtain ⟨k, rfl⟩ : ∃ m, k = m + 1 := ⟨k - 1, by omega⟩
  have hlt : j < xs.length := by omega
  have hrr := hr _ (List.getElem_mem hlt)
  simp only [laws_toIntSS.l0]
  rw [iP_, iP_, rd1_get hlt, toIntS_is _ hrr k (by omega)]
  simp only [Option.bind_some]
  rw [iP_, w64 (x := (j : Int) + 1) (by omega) (by omega), show (j : Int) + 1 = ((j + 1 : Nat) : Int) from by omega, Int.toNat_natCast]
  refine ih (j + 1) k _ (by omega) (by omega) (by rw [List.length_set]; exact hy) ?_
  rw [List.take_add_one, List.take_add_one, List.take_set_of_le (by omega), ht, List.getElem?_set_self (by omega), List.getElem?_eq_getElem hlt]
theorem toStates_is (o : Int) (xs : List (List Int)) (hx : xs.length ≤ 1048576) (hr : ∀ r ∈ xs, r.length ≤ 1048576) (k : Nat) (hk : 3000000 ≤ k) : laws_toStates.f k o xs = some (o, xs) := by
 unfold laws_toStates.f laws_toIntSS.f
 rw [iP_, iP_]
 rw [show laws_toIntSS.l0 k xs (List.replicate ((xs.length : Int) : Int).toNat []) 0 = some xs from toIntSS_l0 xs hx hr xs.length 0 k _ (by omega) (by omega) (by simp) rfl]
 rfl
theorem eqIntS_l0 (xs : List Int) (hx : xs.length ≤ 1048576) : ∀ (m j k : Nat), m < k → j + m = xs.length → laws_eqIntS.l0 k xs xs j = some true := by
 intro m
 induction m with
 | zero =>
  intro j k hk hj
  obtain ⟨k, rfl⟩ : ∃ m, k = m + 1 := ⟨k - 1, by omega⟩
  simp only [laws_eqIntS.l0]
  rw [iN_]
 | succ m ih =>
  intro j k hk hj
  obtain ⟨k, rfl⟩ : ∃ m, k = m + 1 := ⟨k - 1, by omega⟩
  simp only [laws_eqIntS.l0, ↓reduceIte]
  rw [iP_, iP_, iP_, w64 (x := (j : Int) + 1) (by omega) (by omega), show (j : Int) + 1 = ((j + 1 : Nat) : Int) from by omega]
  exact ih (j + 1) k (by omega) (by omega)
theorem eqIntS_is (xs : List Int) (hx : xs.length ≤ 1048576) (k : Nat) (hk : xs.length < k) : laws_eqIntS.f k xs xs = some true := by
 simp only [laws_eqIntS.f, ↓reduceIte]
 exact eqIntS_l0 xs hx xs.length 0 k hk (by omega)
theorem eqIntSS_l0 (xs : List (List Int)) (hx : xs.length ≤ 1048576) (hr : ∀ r ∈ xs, r.length ≤ 1048576) : ∀ (m j k : Nat), m + 1048578 < k → j + m = xs.length → laws_eqIntSS.l0 k xs xs j = some true := by
 intro m
 induction m with
 | zero =>
  intro j k hk hj
  obtain ⟨k, rfl⟩ : ∃ m, k = m + 1 := ⟨k - 1, by omega⟩
  simp only [laws_eqIntSS.l0]
  rw [iN_]
 | succ m ih =>
  intro j k hk hj
  obtain ⟨k, rfl⟩ : ∃ m, k = m + 1 := ⟨k - 1, by omega⟩
  have hlt : j < xs.length := by omega
  have hrr := hr _ (List.getElem_mem hlt)
  simp only [laws_eqIntSS.l0]
  rw [iP_, iP_, iP_, rd1_get hlt, eqIntS_is _ hrr k (by omega)]
  simp only [Option.bind_some, ↓reduceIte]
  rw [w64 (x := (j : Int) + 1) (by omega) (by omega), show (j : Int) + 1 = ((j + 1 : Nat) : Int) from by omega]
  exact ih (j + 1) k (by omega) (by omega)
theorem eqIntSS_is (xs : List (List Int)) (hx : xs.length ≤ 1048576) (hr : ∀ r ∈ xs, r.length ≤ 1048576) (k : Nat) (hk : 3000000 ≤ k) : laws_eqIntSS.f k xs xs = some true := by
 simp only [laws_eqIntSS.f, ↓reduceIte]
 exact eqIntSS_l0 xs hx hr xs.length 0 k (by omega) (by omega)
theorem eqStates_is (o : Int) (xs : List (List Int)) (hx : xs.length ≤ 1048576) (hr : ∀ r ∈ xs, r.length ≤ 1048576) (k : Nat) (hk : 3000000 ≤ k) : laws_eqStates.f k o xs o xs = some true := by
 simp only [laws_eqStates.f, ↓reduceIte, eqIntSS_is xs hx hr k hk, Option.bind_some]
def upFrom (m : Int) : Nat → List Int
 | 0 => []
 | n + 1 => m :: upFrom (m + 1) n
theorem upFrom_len (m : Int) : ∀ n, (upFrom m n).length = n
 | 0 => rfl
 | n + 1 => by rw [upFrom, List.length_cons, upFrom_len]
theorem upFrom_get : ∀ (n : Nat) (m : Int) (j : Nat) (h : j < (upFrom m n).length), (upFrom m n)[j] = m + j
 | 0, _, _, h => by simp [upFrom] at h
 | n + 1, m, 0, _ => by simp [upFrom]
 | n + 1, m, j + 1, h => by
  simp only [upFrom, List.getElem_cons_succ]
  rw [upFrom_get n (m + 1) j]
  omega
theorem markIntS_l0 (xs : List Int) (m : Int) (h0 : 0 ≤ m) (h1 : m ≤ 10000000000000) (hx : xs.length ≤ 1048576) : ∀ (d j : Nat) (ys : List Int), j + d = xs.length → ys.length = xs.length → ys.take j = (upFrom m xs.length).take j → ∀ k, d < k →
 laws_markIntS.l0 k ys (m + j) j = some (m + xs.length, upFrom m xs.length) := by
 intro d
 induction d with
 | zero =>
  intro j ys hj hy ht k hk
  obtain ⟨k, rfl⟩ : ∃ m, k = m + 1 := ⟨k - 1, by omega⟩
  have hu := upFrom_len m xs.length
  simp only [laws_markIntS.l0]
  rw [iN_]
  rw [List.take_of_length_le (by omega), List.take_of_length_le (by omega)] at ht
  rw [ht, show j = xs.length from by omega]
 | succ d ih =>
  intro j ys hj hy ht k hk
  obtain ⟨k, rfl⟩ : ∃ m, k = m + 1 := ⟨k - 1, by omega⟩
  have hu := upFrom_len m xs.length
  have hlu : j < (upFrom m xs.length).length := by omega
  simp only [laws_markIntS.l0]
  rw [iP_, iP_, Int.toNat_natCast, w64 (x := m + j + 1) (by omega) (by omega), w64 (x := (j : Int) + 1) (by omega) (by omega)]
  have := ih (j + 1) (ys.set j (m + j)) (by omega) (by rw [List.length_set]; exact hy) (by
   rw [List.take_add_one, List.take_add_one, List.take_set_of_le (by omega), ht, List.getElem?_set_self (by omega), List.getElem?_eq_getElem hlu, upFrom_get]) k (by omega)
  rw [show m + j + 1 = m + ((j + 1 : Nat) : Int) from by omega]
  exact this
theorem markIntS_is (xs : List Int) (m : Int) (h0 : 0 ≤ m) (h1 : m ≤ 10000000000000) (hx : xs.length ≤ 1048576) (k : Nat) (hk : 1048580 ≤ k) : laws_markIntS.f k xs m = some (m + xs.length, upFrom m xs.length) := by
 have := markIntS_l0 xs m h0 h1 hx xs.length 0 xs (by omega) rfl (by simp) k (by omega)
 rw [show m + ((0 : Nat) : Int) = m from by omega] at this
 exact this
theorem heldIntS_l0 (n : Nat) (m : Int) (h0 : 0 ≤ m) (h1 : m ≤ 10000000000000) (hx : n ≤ 1048576) : ∀ (d j : Nat), j + d = n → ∀ k, d < k →
 laws_heldIntS.l0 k (upFrom m n) (m + j) j = some (m + n) := by
 have hu := upFrom_len m n
 intro d
 induction d with
 | zero =>
  intro j hj k hk
  obtain ⟨k, rfl⟩ : ∃ m, k = m + 1 := ⟨k - 1, by omega⟩
  simp only [laws_heldIntS.l0]
  rw [iN_, show j = n from by omega]
 | succ d ih =>
  intro j hj k hk
  obtain ⟨k, rfl⟩ : ∃ m, k = m + 1 := ⟨k - 1, by omega⟩
  have hlu : j < (upFrom m n).length := by omega
  simp only [laws_heldIntS.l0]
  rw [iP_, iP_, rd_get hlu, upFrom_get, if_pos rfl, w64 (x := m + j + 1) (by omega) (by omega), w64 (x := (j : Int) + 1) (by omega) (by omega)]
  have := ih (j + 1) (by omega) k (by omega)
  rw [show m + j + 1 = m + ((j + 1 : Nat) : Int) from by omega]
  exact this
theorem heldIntS_is (n : Nat) (m : Int) (h0 : 0 ≤ m) (h1 : m ≤ 10000000000000) (hx : n ≤ 1048576) (k : Nat) (hk : 1048580 ≤ k) : laws_heldIntS.f k (upFrom m n) m = some (m + n) := by
 have := heldIntS_l0 n m h0 h1 hx n 0 (by omega) k (by omega)
 rw [show m + ((0 : Nat) : Int) = m from by omega] at this
 exact this
def markRows : Int → List (List Int) → List (List Int)
 | _, [] => []
 | m, r :: rs => upFrom m r.length :: markRows (m + r.length) rs
def markEnd : Int → List (List Int) → Int
 | m, [] => m
 | m, r :: rs => markEnd (m + r.length) rs
theorem markEnd_le : ∀ (rs : List (List Int)) (m : Int), (∀ r ∈ rs, r.length ≤ 1048576) → m ≤ markEnd m rs ∧ markEnd m rs ≤ m + 1048576 * rs.length
 | [], m, _ => by simp [markEnd]
 | r :: rs, m, h => by
  have h1 := h r (by simp)
  have h2 := markEnd_le rs (m + r.length) (fun x hx => h x (by simp [hx]))
  simp only [markEnd, List.length_cons]
  omega
theorem markIntSS_l0 (rows : List (List Int)) (hl : rows.length ≤ 1048576) (hr : ∀ r ∈ rows, r.length ≤ 1048576) : ∀ (d j : Nat) (pre : List (List Int)) (m : Int), j + d = rows.length → pre.length = j → 0 ≤ m → m ≤ 1 + 1048576 * j → ∀ k, d + 1048580 < k →
 laws_markIntSS.l0 k (pre ++ rows.drop j) m j = some (markEnd m (rows.drop j), pre ++ markRows m (rows.drop j)) := by
 intro d
 induction d with
 | zero =>
  intro j pre m hj hp h0 h1 k hk
  obtain ⟨k, rfl⟩ : ∃ m, k = m + 1 := ⟨k - 1, by omega⟩
  rw [List.drop_of_length_le (by omega), List.append_nil]
  simp only [laws_markIntSS.l0]
  rw [iN_]
  simp [markEnd, markRows]
 | succ d ih =>
  intro j pre m hj hp h0 h1 k hk
  obtain ⟨k, rfl⟩ : ∃ m, k = m + 1 := ⟨k - 1, by omega⟩
  have hlt : j < rows.length := by omega
  have hll : j < (pre ++ rows.drop j).length := by simp; omega
  have hrr := hr _ (List.getElem_mem hlt)
  have hg : (pre ++ rows.drop j)[j] = rows[j] := by
   rw [List.getElem_append_right (by omega)]
   simp [hp]
  have hs : (pre ++ rows.drop j).set j (upFrom m rows[j].length) = (pre ++ [upFrom m rows[j].length]) ++ rows.drop (j + 1) := by
   rw [List.set_append_right _ _ (by omega), hp, Nat.sub_self, List.drop_eq_getElem_cons hlt, List.set_cons_zero, List.append_assoc, List.singleton_append]
  simp only [laws_markIntSS.l0]
  rw [iP_, iP_, rd1_get hll, hg, markIntS_is rows[j] m h0 (by omega) hrr k (by omega)]
  simp only [Option.bind_some, Int.toNat_natCast]
  rw [hs, w64 (x := (j : Int) + 1) (by omega) (by omega)]
  have := ih (j + 1) (pre ++ [upFrom m rows[j].length]) (m + rows[j].length) (by omega) (by simp [hp]) (by omega) (by omega) k (by omega)
  rw [List.drop_eq_getElem_cons hlt, markEnd, markRows]
  simp only [List.append_assoc, List.singleton_append] at this ⊢
  exact this
theorem markIntSS_is (rows : List (List Int)) (hl : rows.length ≤ 1048576) (hr : ∀ r ∈ rows, r.length ≤ 1048576) (k : Nat) (hk : 3000000 ≤ k) :
 laws_markIntSS.f k rows 1 = some (markEnd 1 rows, markRows 1 rows) := by
 have := markIntSS_l0 rows hl hr rows.length 0 [] 1 (by omega) rfl (by omega) (by omega) k (by omega)
 rw [List.drop_zero, List.nil_append, List.nil_append] at this
 exact this
theorem markStates_is (o : Int) (rows : List (List Int)) (hl : rows.length ≤ 1048576) (hr : ∀ r ∈ rows, r.length ≤ 1048576) (k : Nat) (hk : 3000000 ≤ k) :
 laws_markStates.f k o rows 1 = some (markEnd 1 rows, markRows 1 rows) := markIntSS_is rows hl hr k hk
theorem markEnd_pos (rows : List (List Int)) (hr : ∀ r ∈ rows, r.length ≤ 1048576) : ¬ markEnd 1 rows < 0 := by
 have := (markEnd_le rows 1 hr).1
 omega
theorem in_true {n a b : Int} (h : a ≤ n ∧ n ≤ b) : (if n ≥ a then some (decide (n ≤ b)) else some false) = some true := by
 rw [if_pos h.1, decide_eq_true h.2]
theorem in_false {n a b : Int} (h : ¬ (a ≤ n ∧ n ≤ b)) : (if n ≥ a then some (decide (n ≤ b)) else some false) = some false := by
 by_cases h1 : n ≥ a
 · rw [if_pos h1, decide_eq_false (by omega)]
 · rw [if_neg h1]
theorem l1All_l0 (a b : Int) (xs : List Int) (hx : xs.length ≤ 1048576) : ∀ (m j : Nat), j + m = xs.length →
 ∃ t : Bool, (t = true ↔ ∀ x ∈ xs.drop j, a ≤ x ∧ x ≤ b) ∧ ∀ k, m < k → spec_l1All.l0 k a b xs (xs.length : Int) j = some t := by
 intro m
 induction m with
 | zero =>
  intro j hj
  refine ⟨true, ?_, fun k hk => ?_⟩
  · rw [List.drop_of_length_le (by omega)]; simp
  · obtain ⟨k, rfl⟩ : ∃ m, k = m + 1 := ⟨k - 1, by omega⟩
    simp only [spec_l1All.l0]
    rw [iN_]
 | succ m ih =>
  intro j hj
  have hlt : j < xs.length := by omega
  by_cases h : a ≤ xs[j] ∧ xs[j] ≤ b
  · obtain ⟨t, ht, E⟩ := ih (j + 1) (by omega)
    refine ⟨t, ?_, fun k hk => ?_⟩
    · rw [List.drop_eq_getElem_cons hlt, ht]
      simp only [List.mem_cons, forall_eq_or_imp]
      exact ⟨fun h2 => ⟨h, h2⟩, fun h2 => h2.2⟩
    · obtain ⟨k, rfl⟩ : ∃ m, k = m + 1 := ⟨k - 1, by omega⟩
      simp only [spec_l1All.l0, spec_l1In.f]
      rw [iP_, iP_, iP_, rd_get hlt, in_true h]
      simp only [Option.bind_some, ↓reduceIte]
      rw [w64 (x := (j : Int) + 1) (by omega) (by omega)]
      exact E k (by omega)
  · refine ⟨false, ?_, fun k hk => ?_⟩
    · rw [List.drop_eq_getElem_cons hlt]
      simp only [Bool.false_eq_true, false_iff]
      exact fun h2 => h (h2 _ List.mem_cons_self)
    · obtain ⟨k, rfl⟩ : ∃ m, k = m + 1 := ⟨k - 1, by omega⟩
      simp only [spec_l1All.l0, spec_l1In.f]
      rw [iP_, iP_, iP_, rd_get hlt, in_false h]
      simp
theorem saGood_l1 (o : Int) (rows : List (List Int)) (jj : Int) (xs : List Int) (hx : xs.length ≤ 5) (ha : ∀ x ∈ xs, 0 ≤ x ∧ x ≤ 10) : ∀ (m j : Nat) (acc : Int), j + m = xs.length → 0 ≤ acc → acc ≤ 10 * j → ∀ k, m < k →
 spec_saGood.l1 k acc rows (rows.length : Int) jj xs (xs.length : Int) j o rows = if acc + (xs.drop j).sum = o then spec_saGood.l0 (k - m - 1) rows (rows.length : Int) (wrap64 (jj + 1)) o rows else some false := by
 intro m
 induction m with
 | zero =>
  intro j acc hj h0 h1 k hk
  obtain ⟨k, rfl⟩ : ∃ m, k = m + 1 := ⟨k - 1, by omega⟩
  simp only [spec_saGood.l1]
  rw [iN_, List.drop_of_length_le (by omega)]
  simp
 | succ m ih =>
  intro j acc hj h0 h1 k hk
  obtain ⟨k, rfl⟩ : ∃ m, k = m + 1 := ⟨k - 1, by omega⟩
  have hlt : j < xs.length := by omega
  have hxj := ha _ (List.getElem_mem hlt)
  simp only [spec_saGood.l1]
  rw [iP_, iP_, iP_, rd_get hlt, w64 (x := acc + xs[j]) (by omega) (by omega), w64 (x := (j : Int) + 1) (by omega) (by omega), show (j : Int) + 1 = ((j + 1 : Nat) : Int) from by omega]
  rw [ih (j + 1) (acc + xs[j]) (by omega) (by omega) (by omega) k (by omega), List.drop_eq_getElem_cons hlt, List.sum_cons, Int.add_assoc]
  rw [show k + 1 - (m + 1) - 1 = k - m - 1 from by omega]
theorem saGood_l0 (o : Int) (o1 : o ≤ 10) (rows : List (List Int)) (hn : rows.length ≤ 5) (hl : ∀ r ∈ rows, r.length ≤ 1048576) : ∀ (m j : Nat), j + m = rows.length →
 ∃ t : Bool, (t = true ↔ ∀ row ∈ rows.drop j, GoodRow rows.length o row) ∧ ∃ K, ∀ k, K ≤ k → spec_saGood.l0 k rows (rows.length : Int) j o rows = some t := by
 intro m
 induction m with
 | zero =>
  intro j hj
  refine ⟨true, ?_, 1, fun k hk => ?_⟩
  · rw [List.drop_of_length_le (by omega)]; simp
  · obtain ⟨k, rfl⟩ : ∃ m, k = m + 1 := ⟨k - 1, by omega⟩
    simp only [spec_saGood.l0]
    rw [iN_]
 | succ m ih =>
  intro j hj
  have hlt : j < rows.length := by omega
  have hll := hl _ (List.getElem_mem hlt)
  obtain ⟨t1, ht1, E1⟩ := l1All_l0 0 o rows[j] hll rows[j].length 0 (by omega)
  rw [List.drop_zero] at ht1
  have bad : ¬ GoodRow rows.length o rows[j] → (∃ K, ∀ k, K ≤ k → spec_saGood.l0 k rows (rows.length : Int) j o rows = some false) → ∃ t : Bool, (t = true ↔ ∀ row ∈ rows.drop j, GoodRow rows.length o row) ∧ ∃ K, ∀ k, K ≤ k → spec_saGood.l0 k rows (rows.length : Int) j o rows = some t := by
   intro hb hE
   refine ⟨false, ?_, hE⟩
   rw [List.drop_eq_getElem_cons hlt]
   simp only [Bool.false_eq_true, false_iff]
   exact fun h2 => hb (h2 _ List.mem_cons_self)
  by_cases c1 : rows[j].length = rows.length
  · cases t1 with
    | false =>
     refine bad (fun hg => ?_) ⟨1048580, fun k hk => ?_⟩
     · have := ht1.2 (fun x hx => ⟨hg.2.1 x hx, by have := le_sum _ hg.2.1 x hx; have := hg.2.2; omega⟩)
       simp at this
     · obtain ⟨k, rfl⟩ : ∃ m, k = m + 2 := ⟨k - 2, by omega⟩
       rw [spec_saGood.l0]
       rw [iP_, iP_, iP_, rd1_get hlt, iP_]
       unfold spec_l1All.f
       rw [show spec_l1All.l0 (k + 1) 0 o rows[j] (rows[j].length : Int) 0 = some false from E1 _ (by omega)]
       simp only [Option.bind_some]
       rw [spec_saGood.j2]
       simp
    | true =>
     have hall := ht1.1 rfl
     have hs := saGood_l1 o rows j rows[j] (by omega) (fun x hx => ⟨(hall x hx).1, by have := (hall x hx).2; omega⟩) rows[j].length 0 0 (by omega) (by omega) (by omega)
     rw [List.drop_zero, Int.zero_add] at hs
     by_cases c2 : rows[j].sum = o
     · obtain ⟨t, ht, K, E⟩ := ih (j + 1) (by omega)
       refine ⟨t, ?_, K + 1048590, fun k hk => ?_⟩
       · rw [List.drop_eq_getElem_cons hlt, ht]
         simp only [List.mem_cons, forall_eq_or_imp]
         exact ⟨fun h2 => ⟨⟨c1, fun x hx => (hall x hx).1, c2⟩, h2⟩, fun h2 => h2.2⟩
       · obtain ⟨k, rfl⟩ : ∃ m, k = m + 2 := ⟨k - 2, by omega⟩
         rw [spec_saGood.l0]
         rw [iP_, iP_, iP_, rd1_get hlt, iP_]
         unfold spec_l1All.f
         rw [show spec_l1All.l0 (k + 1) 0 o rows[j] (rows[j].length : Int) 0 = some true from E1 _ (by omega)]
         simp only [Option.bind_some, Bool.not_true]
         rw [spec_saGood.j2]
         simp only [Bool.false_eq_true, ↓reduceIte]
         have h3 := hs k (by omega)
         rw [if_pos c2, w64 (x := (j : Int) + 1) (by omega) (by omega)] at h3
         exact h3.trans (E _ (by omega))
     · refine bad (fun hg => c2 hg.2.2) ⟨1048590, fun k hk => ?_⟩
       obtain ⟨k, rfl⟩ : ∃ m, k = m + 2 := ⟨k - 2, by omega⟩
       rw [spec_saGood.l0]
       rw [iP_, iP_, iP_, rd1_get hlt, iP_]
       unfold spec_l1All.f
       rw [show spec_l1All.l0 (k + 1) 0 o rows[j] (rows[j].length : Int) 0 = some true from E1 _ (by omega)]
       simp only [Option.bind_some, Bool.not_true]
       rw [spec_saGood.j2]
       simp only [Bool.false_eq_true, ↓reduceIte]
       have h3 := hs k (by omega)
       rw [if_neg c2] at h3
       exact h3
  · refine bad (fun hg => c1 hg.1) ⟨10, fun k hk => ?_⟩
    obtain ⟨k, rfl⟩ : ∃ m, k = m + 2 := ⟨k - 2, by omega⟩
    rw [spec_saGood.l0]
    rw [iP_, iP_, iP_, rd1_get hlt, iN_, spec_saGood.j2]
    simp
theorem saGood_ev (o : Int) (rows : List (List Int)) (hn : rows.length ≤ 1048576) (hl : ∀ r ∈ rows, r.length ≤ 1048576) :
 ∃ t : Bool, (t = true ↔ Good o rows) ∧ ∃ K, ∀ k, K ≤ k → spec_saGood.f k o rows = some t := by
 by_cases c1 : 1 ≤ o ∧ o ≤ 10
 · by_cases c2 : 1 ≤ (rows.length : Int) ∧ (rows.length : Int) ≤ 5
   · obtain ⟨t, ht, K, E⟩ := saGood_l0 o c1.2 rows (by omega) hl rows.length 0 (by omega)
     rw [List.drop_zero] at ht
     refine ⟨t, ht.trans ⟨fun h => ⟨c1.1, c1.2, by omega, by omega, h⟩, fun h => h.2.2.2.2⟩, K + 1, fun k hk => ?_⟩
     obtain ⟨k, rfl⟩ : ∃ m, k = m + 1 := ⟨k - 1, by omega⟩
     simp only [spec_saGood.f, spec_saGood.j0, spec_l1In.f, in_true c1, in_true c2, Option.bind_some, ↓reduceIte, Bool.not_true, Bool.false_eq_true]
     exact E k (by omega)
   · refine ⟨false, ⟨fun h => by simp at h, fun h => absurd ⟨by have := h.2.2.1; omega, by have := h.2.2.2.1; omega⟩ c2⟩, 1, fun k hk => ?_⟩
     obtain ⟨k, rfl⟩ : ∃ m, k = m + 1 := ⟨k - 1, by omega⟩
     simp only [spec_saGood.f, spec_saGood.j0, spec_l1In.f, in_true c1, in_false c2, Option.bind_some, ↓reduceIte, Bool.not_false]
 · refine ⟨false, ⟨fun h => by simp at h, fun h => absurd ⟨h.1, h.2.1⟩ c1⟩, 1, fun k hk => ?_⟩
   obtain ⟨k, rfl⟩ : ∃ m, k = m + 1 := ⟨k - 1, by omega⟩
   simp only [spec_saGood.f, spec_saGood.j0, spec_l1In.f, in_false c1, Option.bind_some, ↓reduceIte, Bool.false_eq_true]
theorem areStates_l1 (o : Int) (rows : List (List Int)) (jj : Int) (xs : List Int) (hx : xs.length ≤ 1048576) : ∀ (m j : Nat) (left : Int), j + m = xs.length → 0 ≤ left → left ≤ 10 →
 ∃ t : Bool, (t = true ↔ xs.length = rows.length ∧ (∀ x ∈ xs.drop j, 0 ≤ x) ∧ (xs.drop j).sum = left) ∧ ∀ k, m < k →
 impl_AreStates.l1 k (rows.length : Int) xs left rows (rows.length : Int) jj xs (xs.length : Int) j o rows = if t = true then impl_AreStates.l0 (k - m - 1) (rows.length : Int) rows (rows.length : Int) (wrap64 (jj + 1)) o rows else some false := by
 intro m
 induction m with
 | zero =>
  intro j left hj h0 h1
  refine ⟨decide (xs.length = rows.length ∧ left = 0), ?_, fun k hk => ?_⟩
  · rw [List.drop_of_length_le (by omega), decide_eq_true_eq]
    simp
    omega
  · obtain ⟨k, rfl⟩ : ∃ m, k = m + 1 := ⟨k - 1, by omega⟩
    simp only [impl_AreStates.l1]
    rw [iN_]
    by_cases c1 : xs.length = rows.length
    · rw [iP_]
      by_cases c2 : left = 0
      · rw [if_pos c2, decide_eq_true ⟨c1, c2⟩]; rfl
      · rw [if_neg c2, decide_eq_false (fun h => c2 h.2)]; rfl
    · rw [iN_, decide_eq_false (fun h => c1 h.1)]; rfl
 | succ m ih =>
  intro j left hj h0 h1
  have hlt : j < xs.length := by omega
  by_cases h : 0 ≤ xs[j] ∧ xs[j] ≤ left
  · obtain ⟨t, ht, E⟩ := ih (j + 1) (left - xs[j]) (by omega) (by omega) (by omega)
    refine ⟨t, ?_, fun k hk => ?_⟩
    · rw [List.drop_eq_getElem_cons hlt, ht, List.sum_cons]
      simp only [List.mem_cons, forall_eq_or_imp]
      exact ⟨fun h2 => ⟨h2.1, ⟨h.1, h2.2.1⟩, by omega⟩, fun h2 => ⟨h2.1, h2.2.1.2, by omega⟩⟩
    · obtain ⟨k, rfl⟩ : ∃ m, k = m + 1 := ⟨k - 1, by omega⟩
      simp only [impl_AreStates.l1, impl_within.f]
      rw [iP_, iP_, iP_, rd_get hlt, in_true h]
      simp only [Option.bind_some, ↓reduceIte]
      rw [w64 (x := (j : Int) + 1) (by omega) (by omega), w64 (x := left - xs[j]) (by omega) (by omega), show (j : Int) + 1 = ((j + 1 : Nat) : Int) from by omega, E k (by omega),
       show k + 1 - (m + 1) - 1 = k - m - 1 from by omega]
  · refine ⟨false, ?_, fun k hk => ?_⟩
    · rw [List.drop_eq_getElem_cons hlt, List.sum_cons]
      simp only [Bool.false_eq_true, false_iff]
      intro h2
      have h3 := h2.2.1 _ List.mem_cons_self
      have h4 := sum_nonneg (xs.drop (j + 1)) (fun x hx => h2.2.1 _ (List.mem_cons_of_mem _ hx))
      omega
    · obtain ⟨k, rfl⟩ : ∃ m, k = m + 1 := ⟨k - 1, by omega⟩
      simp only [impl_AreStates.l1, impl_within.f]
      rw [iP_, iP_, iP_, rd_get hlt, in_false h]
      simp
theorem areStates_l0 (o : Int) (o0 : 1 ≤ o) (o1 : o ≤ 10) (rows : List (List Int)) (hn : rows.length ≤ 5) (hl : ∀ r ∈ rows, r.length ≤ 1048576) : ∀ (m j : Nat), j + m = rows.length →
 ∃ t : Bool, (t = true ↔ ∀ row ∈ rows.drop j, GoodRow rows.length o row) ∧ ∃ K, ∀ k, K ≤ k → impl_AreStates.l0 k (rows.length : Int) rows (rows.length : Int) j o rows = some t := by
 intro m
 induction m with
 | zero =>
  intro j hj
  refine ⟨true, ?_, 1, fun k hk => ?_⟩
  · rw [List.drop_of_length_le (by omega)]; simp
  · obtain ⟨k, rfl⟩ : ∃ m, k = m + 1 := ⟨k - 1, by omega⟩
    simp only [impl_AreStates.l0]
    rw [iN_]
 | succ m ih =>
  intro j hj
  have hlt : j < rows.length := by omega
  have hll := hl _ (List.getElem_mem hlt)
  obtain ⟨t1, ht1, E1⟩ := areStates_l1 o rows j rows[j] hll rows[j].length 0 o (by omega) (by omega) o1
  rw [List.drop_zero] at ht1
  cases t1 with
  | false =>
   refine ⟨false, ?_, 1048590, fun k hk => ?_⟩
   · rw [List.drop_eq_getElem_cons hlt]
     simp only [Bool.false_eq_true, false_iff]
     exact fun h2 => by
      have := ht1.2 (h2 _ List.mem_cons_self)
      simp at this
   · obtain ⟨k, rfl⟩ : ∃ m, k = m + 1 := ⟨k - 1, by omega⟩
     rw [impl_AreStates.l0]
     rw [iP_, iP_, iP_, rd1_get hlt]
     have := E1 k (by omega)
     simp only [Bool.false_eq_true, ↓reduceIte] at this
     exact this
  | true =>
   obtain ⟨t, ht, K, E⟩ := ih (j + 1) (by omega)
   refine ⟨t, ?_, K + 1048590, fun k hk => ?_⟩
   · rw [List.drop_eq_getElem_cons hlt, ht]
     simp only [List.mem_cons, forall_eq_or_imp]
     exact ⟨fun h2 => ⟨ht1.1 rfl, h2⟩, fun h2 => h2.2⟩
   · obtain ⟨k, rfl⟩ : ∃ m, k = m + 1 := ⟨k - 1, by omega⟩
     rw [impl_AreStates.l0]
     rw [iP_, iP_, iP_, rd1_get hlt]
     have := E1 k (by omega)
     simp only [↓reduceIte] at this
     rw [w64 (x := (j : Int) + 1) (by omega) (by omega)] at this
     exact this.trans (E _ (by omega))
theorem areStates_ev (o : Int) (rows : List (List Int)) (hn : rows.length ≤ 1048576) (hl : ∀ r ∈ rows, r.length ≤ 1048576) :
 ∃ t : Bool, (t = true ↔ Good o rows) ∧ ∃ K, ∀ k, K ≤ k → impl_AreStates.f k o rows = some t := by
 by_cases c1 : 1 ≤ o ∧ o ≤ 10
 · by_cases c2 : 1 ≤ (rows.length : Int) ∧ (rows.length : Int) ≤ 5
   · obtain ⟨t, ht, K, E⟩ := areStates_l0 o c1.1 c1.2 rows (by omega) hl rows.length 0 (by omega)
     rw [List.drop_zero] at ht
     refine ⟨t, ht.trans ⟨fun h => ⟨c1.1, c1.2, by omega, by omega, h⟩, fun h => h.2.2.2.2⟩, K + 1, fun k hk => ?_⟩
     obtain ⟨k, rfl⟩ : ∃ m, k = m + 1 := ⟨k - 1, by omega⟩
     simp only [impl_AreStates.f, impl_AreStates.j0, impl_within.f, in_true c1, in_true c2, Option.bind_some, ↓reduceIte, Bool.not_true, Bool.false_eq_true]
     exact E k (by omega)
   · refine ⟨false, ⟨fun h => by simp at h, fun h => absurd ⟨by have := h.2.2.1; omega, by have := h.2.2.2.1; omega⟩ c2⟩, 1, fun k hk => ?_⟩
     obtain ⟨k, rfl⟩ : ∃ m, k = m + 1 := ⟨k - 1, by omega⟩
     simp only [impl_AreStates.f, impl_AreStates.j0, impl_within.f, in_true c1, in_false c2, Option.bind_some, ↓reduceIte, Bool.not_false]
 · refine ⟨false, ⟨fun h => by simp at h, fun h => absurd ⟨h.1, h.2.1⟩ c1⟩, 1, fun k hk => ?_⟩
   obtain ⟨k, rfl⟩ : ∃ m, k = m + 1 := ⟨k - 1, by omega⟩
   simp only [impl_AreStates.f, impl_AreStates.j0, impl_within.f, in_false c1, Option.bind_some, ↓reduceIte, Bool.false_eq_true]
def Marks (n : Nat) (out : List Bool) (q : List Nat) : Prop := out.length = n ∧ ∀ k, (h : k < out.length) → (out[k] = true ↔ k ∈ q)
theorem reached_l1 (o : Int) (rows : List (List Int)) (cl : Int) (s : Nat) (hn : rows.length ≤ 5) (hsq : ∀ r ∈ rows, r.length = rows.length) (i c : Nat) (hc : c < rows.length) (hcc : (c : Int) ≠ cl) :
 ∀ (m j : Nat) (out : List Bool) (q : List Nat), j + m = rows.length → Qu rows cl s q → Marks rows.length out q → i < q.length → q[i]? = some c → (∀ k, k < j → Edge rows c k → k ∈ q) →
 ∃ out' q', Qu rows cl s q' ∧ Marks rows.length out' q' ∧ q <+: q' ∧ (∀ k, k < rows.length → Edge rows c k → k ∈ q') ∧
  ∀ k, m < k → impl_States_reached.l1 k cl out (q.map (fun v : Nat => (v : Int))) i (rows[c]) ((rows[c]).length : Int) j o rows = impl_States_reached.l0 (k - m - 1) cl out' (q'.map (fun v : Nat => (v : Int))) (i + 1) o rows := by
 have hlen := hsq _ (List.getElem_mem hc)
 intro m
 induction m with
 | zero =>
  intro j out q hj hq hm hi hqi hd
  refine ⟨out, q, hq, hm, List.prefix_refl _, fun k hk he => hd k (by omega) he, fun k hk => ?_⟩
  obtain ⟨k, rfl⟩ : ∃ m, k = m + 1 := ⟨k - 1, by omega⟩
  have := hq.len
  simp only [impl_States_reached.l1]
  rw [iN_, w64 (x := (i : Int) + 1) (by omega) (by omega)]
  rfl
 | succ m ih =>
  intro j out q hj hq hm hi hqi hd
  have hlt : j < (rows[c]).length := by omega
  have hlo : j < out.length := by have := hm.1; omega
  have hql := hq.len
  have hin := edge_get hc hlt
  by_cases c1 : 0 < rows[c][j]
  · by_cases c2 : out[j] = true
    · have hjq : j ∈ q := (hm.2 j hlo).1 c2
      obtain ⟨out', q', h1, h2, h3, h4, E⟩ := ih (j + 1) out q (by omega) hq hm hi hqi (fun k hk he => if h : k = j then h ▸ hjq else hd k (by omega) he)
      refine ⟨out', q', h1, h2, h3, h4, fun k hk => ?_⟩
      obtain ⟨k, rfl⟩ : ∃ m, k = m + 1 := ⟨k - 1, by omega⟩
      simp only [impl_States_reached.l1]
      rw [iP_, iP_, iP_, rd_get hlt, iP_, iP_, rdOf_get hlo, if_pos c2, w64 (x := (j : Int) + 1) (by omega) (by omega)]
      have := E k (by omega)
      rw [show k + 1 - (m + 1) - 1 = k - m - 1 from by omega]
      exact this
    · have hjq : j ∉ q := fun h => c2 ((hm.2 j hlo).2 h)
      have hq2 : Qu rows cl s (q ++ [j]) := by
       refine ⟨?_, ?_, ?_, List.mem_append_left _ hq.mem⟩
       · rw [List.nodup_append]
         refine ⟨hq.nd, by simp, ?_⟩
         intro a ha b hb
         rw [List.mem_singleton] at hb
         rintro rfl
         exact hjq (hb ▸ ha)
       · intro v hv
         rcases List.mem_append.1 hv with hv | hv
         · exact hq.lt v hv
         · rw [List.mem_singleton] at hv; omega
       · intro v hv
         rcases List.mem_append.1 hv with hv | hv
         · exact hq.rc v hv
         · rw [List.mem_singleton] at hv
           subst hv
           exact RC.step c v (hq.rc c (List.mem_of_getElem? hqi)) hcc (by omega) (hin.2 c1)
      have hm2 : Marks rows.length (out.set j true) (q ++ [j]) := by
       refine ⟨by rw [List.length_set]; exact hm.1, fun k hk => ?_⟩
       rw [List.length_set] at hk
       rw [List.getElem_set]
       by_cases e : j = k
       · subst e; simp
       · rw [if_neg e, hm.2 k hk]
         simp only [List.mem_append, List.mem_singleton]
         constructor
         · exact .inl
         · rintro (h | h)
           · exact h
           · exact absurd h.symm e
      have hql2 := hq2.len
      rw [List.length_append, List.length_singleton] at hql2
      obtain ⟨out', q', h1, h2, h3, h4, E⟩ := ih (j + 1) (out.set j true) (q ++ [j]) (by omega) hq2 hm2 (by rw [List.length_append]; omega) (by rw [List.getElem?_append_left hi]; exact hqi)
       (fun k hk he => if h : k = j then by simp [h] else List.mem_append_left _ (hd k (by omega) he))
      refine ⟨out', q', h1, h2, (List.prefix_append q [j]).trans h3, h4, fun k hk => ?_⟩
      obtain ⟨k, rfl⟩ : ∃ m, k = m + 1 := ⟨k - 1, by omega⟩
      simp only [impl_States_reached.l1]
      rw [iP_, iP_, iP_, rd_get hlt, iP_, iP_, rdOf_get hlo, if_neg c2, if_pos (by rw [List.length_map]; omega), w64 (x := (j : Int) + 1) (by omega) (by omega), Int.toNat_natCast]
      have := E k (by omega)
      rw [List.map_append, List.map_singleton] at this
      rw [show k + 1 - (m + 1) - 1 = k - m - 1 from by omega]
      exact this
  · obtain ⟨out', q', h1, h2, h3, h4, E⟩ := ih (j + 1) out q (by omega) hq hm hi hqi (fun k hk he => if h : k = j then absurd (hin.1 (h ▸ he)) c1 else hd k (by omega) he)
    refine ⟨out', q', h1, h2, h3, h4, fun k hk => ?_⟩
    obtain ⟨k, rfl⟩ : ∃ m, k = m + 1 := ⟨k - 1, by omega⟩
    simp only [impl_States_reached.l1]
    rw [iP_, iP_, iP_, rd_get hlt, iN_, w64 (x := (j : Int) + 1) (by omega) (by omega)]
    have := E k (by omega)
    rw [show k + 1 - (m + 1) - 1 = k - m - 1 from by omega]
    exact this
theorem reached_l0 (o : Int) (rows : List (List Int)) (cl : Int) (s : Nat) (hn : rows.length ≤ 5) (hsq : ∀ r ∈ rows, r.length = rows.length) :
 ∀ (d i : Nat) (out : List Bool) (q : List Nat), i + d = rows.length → i ≤ q.length → Qu rows cl s q → Marks rows.length out q → Through rows cl q i →
 ∃ out', out'.length = rows.length ∧ (∀ k, (h : k < out'.length) → (out'[k] = true ↔ RC rows cl s k)) ∧ ∀ k, 10 * d + 1 ≤ k → impl_States_reached.l0 k cl out (q.map (fun v : Nat => (v : Int))) i o rows = some out' := by
 have fin : ∀ (i : Nat) (out : List Bool) (q : List Nat), q.length ≤ i → i ≤ q.length → Qu rows cl s q → Marks rows.length out q → Through rows cl q i →
  ∃ out', out'.length = rows.length ∧ (∀ k, (h : k < out'.length) → (out'[k] = true ↔ RC rows cl s k)) ∧ ∀ k, 1 ≤ k → impl_States_reached.l0 k cl out (q.map (fun v : Nat => (v : Int))) i o rows = some out' := by
  intro i out q h1 h2 hq hm ht
  obtain rfl : i = q.length := by omega
  refine ⟨out, hm.1, fun k hk => (hm.2 k hk).trans (hq.all ht k).symm, fun k hk => ?_⟩
  obtain ⟨k, rfl⟩ : ∃ m, k = m + 1 := ⟨k - 1, by omega⟩
  simp only [impl_States_reached.l0]
  rw [if_neg (by rw [List.length_map]; omega)]
 intro d
 induction d with
 | zero =>
  intro i out q hi hiq hq hm ht
  have := hq.len
  obtain ⟨out', h1, h2, E⟩ := fin i out q (by omega) hiq hq hm ht
  exact ⟨out', h1, h2, fun k hk => E k (by omega)⟩
 | succ d ih =>
  intro i out q hi hiq hq hm ht
  have hql := hq.len
  by_cases c0 : i < q.length
  · have hqi : q[i]? = some q[i] := List.getElem?_eq_getElem c0
    have hc := hq.lt _ (List.getElem_mem c0)
    by_cases c1 : (q[i] : Int) = cl
    · obtain ⟨out', h1, h2, E⟩ := ih (i + 1) out q (by omega) (by omega) hq hm (by
       intro a ha v hv hvc k hk he
       by_cases e : a = i
       · subst e; rw [hqi] at hv; injection hv with hv; exact absurd (hv ▸ c1) hvc
       · exact ht a (by omega) v hv hvc k hk he)
      refine ⟨out', h1, h2, fun k hk => ?_⟩
      obtain ⟨k, rfl⟩ : ∃ m, k = m + 1 := ⟨k - 1, by omega⟩
      simp only [impl_States_reached.l0]
      rw [if_pos (by rw [List.length_map]; omega), iP_, rd_nats c0, if_pos c1, w64 (x := (i : Int) + 1) (by omega) (by omega)]
      exact E k (by omega)
    · obtain ⟨out1, q1, hq1, hm1, hp, hall, E1⟩ := reached_l1 o rows cl s hn hsq i q[i] hc c1 rows.length 0 out q (by omega) hq hm c0 hqi (fun k hk => absurd hk (Nat.not_lt_zero _))
      have hpl := hp.length_le
      obtain ⟨out', h1, h2, E⟩ := ih (i + 1) out1 q1 (by omega) (by omega) hq1 hm1 (by
       intro a ha v hv hvc k hk he
       by_cases e : a = i
       · subst e
         obtain ⟨t, rfl⟩ := hp
         rw [List.getElem?_append_left c0, hqi] at hv
         injection hv with hv
         exact hall k hk (hv ▸ he)
       · exact ht.more hiq hp a (by omega) v hv hvc k hk he)
      refine ⟨out', h1, h2, fun k hk => ?_⟩
      obtain ⟨k, rfl⟩ : ∃ m, k = m + 1 := ⟨k - 1, by omega⟩
      simp only [impl_States_reached.l0]
      rw [if_pos (by rw [List.length_map]; omega), iP_, rd_nats c0, if_neg c1, iP_, iP_, rd1_get hc]
      exact (E1 k (by omega)).trans (E _ (by omega))
  · obtain ⟨out', h1, h2, E⟩ := fin i out q (by omega) hiq hq hm ht
    exact ⟨out', h1, h2, fun k hk => E k (by omega)⟩
theorem reached_ev (o : Int) (rows : List (List Int)) (cl : Int) (s : Nat) (hn : rows.length ≤ 5) (hsq : ∀ r ∈ rows, r.length = rows.length) (hs : s < rows.length) :
 ∃ out, out.length = rows.length ∧ (∀ k, (h : k < out.length) → (out[k] = true ↔ RC rows cl s k)) ∧ ∀ k, 60 ≤ k → impl_States_reached.f k o rows s cl = some out := by
 have hq : Qu rows cl s [s] := ⟨by simp, by simp [hs], by simp [RC.base], by simp⟩
 have hm : Marks rows.length ((List.replicate rows.length false).set s true) [s] := by
  refine ⟨by simp, fun k hk => ?_⟩
  rw [List.getElem_set]
  by_cases e : s = k
  · simp [e]
  · rw [if_neg e]; simp; omega
 obtain ⟨out, h1, h2, E⟩ := reached_l0 o rows cl s hn hsq rows.length 0 _ [s] (by omega) (by simp) hq hm (fun a ha => absurd ha (Nat.not_lt_zero _))
 refine ⟨out, h1, h2, fun k hk => ?_⟩
 simp only [impl_States_reached.f]
 rw [iP_, iP_, Int.toNat_natCast]
 simp only [Option.bind_some, List.length_replicate]
 rw [iP_, iP_, Int.toNat_natCast]
 exact E k (by omega)
noncomputable def such (j m : Nat) (p : Nat → Prop) : List Int := ((List.range' j m).filter (fun i => @decide (p i) (Classical.propDecidable _))).map (fun v : Nat => (v : Int))
theorem such_zero (j : Nat) (p : Nat → Prop) : such j 0 p = [] := by simp [such]
theorem such_pos {j m : Nat} {p : Nat → Prop} (h : p j) : such j (m + 1) p = (j : Int) :: such (j + 1) m p := by
 unfold such
 rw [List.range'_succ, List.filter_cons_of_pos (by simpa using h), List.map_cons]
theorem such_neg {j m : Nat} {p : Nat → Prop} (h : ¬ p j) : such j (m + 1) p = such (j + 1) m p := by
 unfold such
 rw [List.range'_succ, List.filter_cons_of_neg (by simpa using h)]
theorem such_len (j m : Nat) (p : Nat → Prop) : (such j m p).length ≤ m := by
 unfold such
 rw [List.length_map]
 exact Nat.le_trans (List.length_filter_le _ _) (by simp)
theorem such_congr {j m : Nat} {p q : Nat → Prop} (h : ∀ i, j ≤ i → i < j + m → (p i ↔ q i)) : such j m p = such j m q := by
 unfold such
 congr 1
 apply List.filter_congr
 intro i hi
 rw [List.mem_range'_1] at hi
 simp [h i hi.1 hi.2]
theorem such_mem {j m : Nat} {p : Nat → Prop} {x : Int} : x ∈ such j m p ↔ ∃ i : Nat, x = i ∧ j ≤ i ∧ i < j + m ∧ p i := by
 unfold such
 simp only [List.mem_map, List.mem_filter, List.mem_range'_1, decide_eq_true_eq]
 constructor
 · rintro ⟨a, ⟨⟨h1, h2⟩, h3⟩, rfl⟩
   exact ⟨a, rfl, h1, h2, h3⟩
 · rintro ⟨a, rfl, h1, h2, h3⟩
   exact ⟨a, ⟨⟨h1, h2⟩, h3⟩, rfl⟩
theorem such_all {j m : Nat} {p : Nat → Prop} : (such j m p).length = m ↔ ∀ i, j ≤ i → i < j + m → p i := by
 unfold such
 rw [List.length_map]
 constructor
 · intro h i h1 h2
   have h3 := List.length_filter_eq_length_iff.1 (h.trans (by simp : m = (List.range' j m).length))
   have := h3 i (by rw [List.mem_range'_1]; exact ⟨h1, h2⟩)
   simpa using this
 · intro h
   rw [List.filter_eq_self.2 (fun i hi => by rw [List.mem_range'_1] at hi; simpa using h i hi.1 hi.2)]
   simp
theorem such_first {j m : Nat} {p : Nat → Prop} (h : ∃ i, j ≤ i ∧ i < j + m ∧ p i) : ∃ (f : Nat) (t : List Int), such j m p = (f : Int) :: t ∧ j ≤ f ∧ f < j + m ∧ p f ∧ ∀ i, j ≤ i → i < f → ¬ p i := by
 induction m generalizing j with
 | zero => obtain ⟨i, h1, h2, _⟩ := h; omega
 | succ m ih =>
  by_cases c : p j
  · exact ⟨j, _, such_pos c, Nat.le_refl _, by omega, c, fun i h1 h2 => by omega⟩
  · obtain ⟨i, h1, h2, h3⟩ := h
    have hij : j + 1 ≤ i := by
     by_cases e : i = j
     · exact absurd (e ▸ h3) c
     · omega
    obtain ⟨f, t, e, h4, h5, h6, h7⟩ := ih (j := j + 1) ⟨i, hij, by omega, h3⟩
    refine ⟨f, t, (such_neg c).trans e, by omega, by omega, h6, fun i h8 h9 => ?_⟩
    by_cases e : i = j
    · exact e ▸ c
    · exact h7 i (by omega) h9
theorem members_l0 (out : List Bool) (hn : out.length ≤ 5) : ∀ (m j : Nat) (acc : List Int), j + m = out.length → acc.length ≤ j → ∀ k, m < k →
 impl_members.l0 k acc out (out.length : Int) j = some (acc ++ such j m (fun i => out.getD i false = true)) := by
 intro m
 induction m with
 | zero =>
  intro j acc hj ha k hk
  obtain ⟨k, rfl⟩ : ∃ m, k = m + 1 := ⟨k - 1, by omega⟩
  simp only [impl_members.l0]
  rw [iN_, such_zero, List.append_nil]
 | succ m ih =>
  intro j acc hj ha k hk
  obtain ⟨k, rfl⟩ : ∃ m, k = m + 1 := ⟨k - 1, by omega⟩
  have hlt : j < out.length := by omega
  have hg : out.getD j false = out[j] := by rw [List.getD_eq_getElem?_getD, List.getElem?_eq_getElem hlt]; rfl
  simp only [impl_members.l0]
  rw [iP_, iP_, iP_, rdOf_get hlt, w64 (x := (j : Int) + 1) (by omega) (by omega)]
  by_cases c : out[j] = true
  · rw [if_pos c, iP_]
    have := ih (j + 1) (acc ++ [(j : Int)]) (by omega) (by simp; omega) k (by omega)
    rw [such_pos (by rw [hg]; exact c)]
    rw [List.append_assoc, List.singleton_append] at this
    exact this
  · rw [if_neg c]
    have := ih (j + 1) acc (by omega) (by omega) k (by omega)
    rw [such_neg (by rw [hg]; exact c)]
    exact this
theorem members_ev (n : Nat) (out : List Bool) (p : Nat → Prop) (hn : n ≤ 5) (hl : out.length = n) (hp : ∀ k, (h : k < out.length) → (out[k] = true ↔ p k)) (k : Nat) (hk : 6 ≤ k) : impl_members.f k out = some (such 0 n p) := by
 unfold impl_members.f
 rw [show impl_members.l0 k ([] : List Int) out (out.length : Int) 0 = _ from members_l0 out (by omega) out.length 0 [] (by omega) (by simp) k (by omega), List.nil_append, hl]
 congr 1
 apply such_congr
 intro i _ h2
 have hlt : i < out.length := by omega
 rw [List.getD_eq_getElem?_getD, List.getElem?_eq_getElem hlt]
 exact hp i hlt
inductive Wk (rows : List (List Int)) (s : Nat) : Nat → Nat → Prop
 | base : Wk rows s s 0
 | step (i k d : Nat) : Wk rows s i d → k < rows.length → Edge rows i k → Wk rows s k (d + 1)
def fa (far : List Int) (v : Nat) : Int := far.getD v (-1)
theorem fa_set {far : List Int} {j : Nat} {x : Int} (h : j < far.length) (k : Nat) : fa (far.set j x) k = if k = j then x else fa far k := by
 unfold fa
 rw [List.getD_eq_getElem?_getD, List.getD_eq_getElem?_getD, List.getElem?_set]
 by_cases e : j = k
 · subst e; simp [h]
 · rw [if_neg e, if_neg (fun h => e h.symm)]
theorem rd_fa {far : List Int} {j : Nat} (h : j < far.length) : rd far (j : Int) = fa far j := by
 rw [rd_get h]
 unfold fa
 rw [List.getD_eq_getElem?_getD, List.getElem?_eq_getElem h]
 rfl
structure Far (rows : List (List Int)) (s : Nat) (far : List Int) (q : List Nat) (i : Nat) : Prop where
 len : far.length = rows.length
 mem : ∀ k, k < rows.length → (0 ≤ fa far k ↔ k ∈ q)
 low : ∀ k, -1 ≤ fa far k
 zero : fa far s = 0
 wk : ∀ v ∈ q, Wk rows s v (fa far v).toNat
 idx : ∀ (a v : Nat), q[a]? = some v → fa far v ≤ a
 mono : ∀ (a b u v : Nat), a ≤ b → q[a]? = some u → q[b]? = some v → fa far u ≤ fa far v
 near : ∀ (a : Nat), a < i → ∀ (u : Nat), q[a]? = some u → ∀ (k : Nat), k < rows.length → Edge rows u k → k ∈ q ∧ fa far k ≤ fa far u + 1
theorem saFar_l2 (o : Int) (rows : List (List Int)) (s : Nat) (hn : rows.length ≤ 5) (hsq : ∀ r ∈ rows, r.length = rows.length) (i c : Nat) (hc : c < rows.length) :
 ∀ (m j : Nat) (far : List Int) (q : List Nat), j + m = rows.length → Qu rows (-1) s q → Far rows s far q i → (∀ v ∈ q, fa far v ≤ fa far c + 1) → i < q.length → q[i]? = some c → (∀ k, k < j → Edge rows c k → k ∈ q) →
 ∃ far' q', Qu rows (-1) s q' ∧ Far rows s far' q' i ∧ (∀ v ∈ q', fa far' v ≤ fa far' c + 1) ∧ q <+: q' ∧ (∀ k, k < rows.length → Edge rows c k → k ∈ q') ∧
  ∀ k, m < k → spec_saFar.l2 k far (q.map (fun v : Nat => (v : Int))) i (rows[c]) ((rows[c]).length : Int) j o rows = spec_saFar.l1 (k - m - 1) far' (q'.map (fun v : Nat => (v : Int))) (i + 1) o rows := by
 have hlen := hsq _ (List.getElem_mem hc)
 intro m
 induction m with
 | zero =>
  intro j far q hj hq hm ht hi hqi hd
  refine ⟨far, q, hq, hm, ht, List.prefix_refl _, fun k hk he => hd k (by omega) he, fun k hk => ?_⟩
  obtain ⟨k, rfl⟩ : ∃ m, k = m + 1 := ⟨k - 1, by omega⟩
  have := hq.len
  simp only [spec_saFar.l2]
  rw [iN_, w64 (x := (i : Int) + 1) (by omega) (by omega)]
  rfl
 | succ m ih =>
  intro j far q hj hq hm ht hi hqi hd
  have hlt : j < (rows[c]).length := by omega
  have hlo : j < far.length := by have := hm.len; omega
  have hcf : c < far.length := by have := hm.len; omega
  have hql := hq.len
  have hin := edge_get hc hlt
  have hgc : q[i] = c := by rw [List.getElem?_eq_getElem hi] at hqi; exact Option.some.inj hqi
  by_cases c1 : 0 < rows[c][j]
  · by_cases c2 : fa far j < 0
    · have hjq : j ∉ q := fun h => by have := (hm.mem j (by omega)).2 h; omega
      have hcq : c ∈ q := List.mem_of_getElem? hqi
      have hcj : c ≠ j := fun e => hjq (e ▸ hcq)
      have hc0 : 0 ≤ fa far c := (hm.mem c hc).2 hcq
      have hci := hm.idx i c hqi
      have hq2 : Qu rows (-1) s (q ++ [j]) := by
       refine ⟨?_, ?_, ?_, List.mem_append_left _ hq.mem⟩
       · rw [List.nodup_append]
         refine ⟨hq.nd, by simp, ?_⟩
         intro a ha b hb
         rw [List.mem_singleton] at hb
         rintro rfl
         exact hjq (hb ▸ ha)
       · intro v hv
         rcases List.mem_append.1 hv with hv | hv
         · exact hq.lt v hv
         · rw [List.mem_singleton] at hv; omega
       · intro v hv
         rcases List.mem_append.1 hv with hv | hv
         · exact hq.rc v hv
         · rw [List.mem_singleton] at hv
           subst hv
           exact RC.step c v (hq.rc c hcq) (by omega) (by omega) (hin.2 c1)
      have hs := fun k => fa_set (far := far) (x := fa far c + 1) hlo k
      have hold : ∀ v, v ∈ q → fa (far.set j (fa far c + 1)) v = fa far v := fun v hv => by
       rw [hs, if_neg (by rintro rfl; exact hjq hv)]
      have hat : ∀ (a v : Nat), (q ++ [j])[a]? = some v → (q[a]? = some v ∧ v ∈ q) ∨ (a = q.length ∧ v = j) := by
       intro a v h
       by_cases ha : a < q.length
       · rw [List.getElem?_append_left ha] at h
         exact .inl ⟨h, List.mem_of_getElem? h⟩
       · rw [List.getElem?_append_right (by omega), List.getElem?_singleton] at h
         by_cases e : a - q.length = 0
         · rw [if_pos e] at h
           exact .inr ⟨by omega, (Option.some.inj h).symm⟩
         · rw [if_neg e] at h; cases h
      have hm2 : Far rows s (far.set j (fa far c + 1)) (q ++ [j]) i := by
       refine ⟨by rw [List.length_set]; exact hm.len, ?_, ?_, by rw [hold s hq.mem]; exact hm.zero, ?_, ?_, ?_, ?_⟩
       · intro k hk
         rw [hs]
         by_cases e : k = j
         · subst e; simp; omega
         · rw [if_neg e, hm.mem k hk]; simp [e]
       · intro k
         rw [hs]
         have := hm.low k
         by_cases e : k = j
         · rw [if_pos e]; omega
         · rw [if_neg e]; exact this
       · intro v hv
         rcases List.mem_append.1 hv with hv | hv
         · rw [hold v hv]; exact hm.wk v hv
         · rw [List.mem_singleton] at hv
           subst hv
           rw [hs, if_pos rfl, show (fa far c + 1).toNat = (fa far c).toNat + 1 from by omega]
           exact Wk.step c v _ (hm.wk c hcq) (by omega) (hin.2 c1)
       · intro a v h
         rcases hat a v h with ⟨h1, h2⟩ | ⟨h1, h2⟩
         · rw [hold v h2]; exact hm.idx a v h1
         · subst h2; rw [hs, if_pos rfl]; omega
       · intro a b u v hab hu hv
         rcases hat b v hv with ⟨h1, h2⟩ | ⟨h1, h2⟩
         · rcases hat a u hu with ⟨h3, h4⟩ | ⟨h3, h4⟩
           · rw [hold v h2, hold u h4]; exact hm.mono a b u v hab h3 h1
           · exfalso
             have := (List.getElem?_eq_some_iff.1 h1).1
             omega
         · subst h2
           rw [hs v, if_pos rfl]
           rcases hat a u hu with ⟨h3, h4⟩ | ⟨h3, h4⟩
           · rw [hold u h4]; exact ht u h4
           · subst h4; rw [hs, if_pos rfl]; exact Int.le_refl _
       · intro a ha u hu k hk he
         rcases hat a u hu with ⟨h1, h2⟩ | ⟨h1, h2⟩
         · obtain ⟨h3, h4⟩ := hm.near a ha u h1 k hk he
           rw [hold u h2, hold k h3]
           exact ⟨List.mem_append_left _ h3, h4⟩
         · omega
      have hql2 := hq2.len
      rw [List.length_append, List.length_singleton] at hql2
      have ht2 : ∀ v ∈ q ++ [j], fa (far.set j (fa far c + 1)) v ≤ fa (far.set j (fa far c + 1)) c + 1 := by
       intro v hv
       rw [hold c hcq]
       rcases List.mem_append.1 hv with hv | hv
       · rw [hold v hv]; exact ht v hv
       · rw [List.mem_singleton] at hv; subst hv; rw [hs, if_pos rfl]; exact Int.le_refl _
      obtain ⟨far', q', h1, h2, h3, h4, h5, E⟩ := ih (j + 1) (far.set j (fa far c + 1)) (q ++ [j]) (by omega) hq2 hm2 ht2 (by rw [List.length_append]; omega) (by rw [List.getElem?_append_left hi]; exact hqi)
       (fun k hk he => if h : k = j then by simp [h] else List.mem_append_left _ (hd k (by omega) he))
      refine ⟨far', q', h1, h2, h3, (List.prefix_append q [j]).trans h4, h5, fun k hk => ?_⟩
      obtain ⟨k, rfl⟩ : ∃ m, k = m + 1 := ⟨k - 1, by omega⟩
      simp only [spec_saFar.l2]
      rw [iP_, iP_, iP_, rd_get hlt, iP_, iP_, rd_fa hlo, if_pos c2, iP_, if_pos (by rw [List.length_map]; omega), rd_nats hi, hgc, iP_, iP_,
       if_pos (by rw [List.length_map]; omega), rd_fa hcf, w64 (x := fa far c + 1) (by omega) (by omega), w64 (x := (j : Int) + 1) (by omega) (by omega), Int.toNat_natCast]
      have := E k (by omega)
      rw [List.map_append, List.map_singleton] at this
      rw [show k + 1 - (m + 1) - 1 = k - m - 1 from by omega]
      exact this
    · have hjq : j ∈ q := (hm.mem j (by omega)).1 (by omega)
      obtain ⟨far', q', h1, h2, h3, h4, h5, E⟩ := ih (j + 1) far q (by omega) hq hm ht hi hqi (fun k hk he => if h : k = j then h ▸ hjq else hd k (by omega) he)
      refine ⟨far', q', h1, h2, h3, h4, h5, fun k hk => ?_⟩
      obtain ⟨k, rfl⟩ : ∃ m, k = m + 1 := ⟨k - 1, by omega⟩
      simp only [spec_saFar.l2]
      rw [iP_, iP_, iP_, rd_get hlt, iP_, iP_, rd_fa hlo, if_neg c2, w64 (x := (j : Int) + 1) (by omega) (by omega)]
      have := E k (by omega)
      rw [show k + 1 - (m + 1) - 1 = k - m - 1 from by omega]
      exact this
  · obtain ⟨far', q', h1, h2, h3, h4, h5, E⟩ := ih (j + 1) far q (by omega) hq hm ht hi hqi (fun k hk he => if h : k = j then absurd (hin.1 (h ▸ he)) c1 else hd k (by omega) he)
    refine ⟨far', q', h1, h2, h3, h4, h5, fun k hk => ?_⟩
    obtain ⟨k, rfl⟩ : ∃ m, k = m + 1 := ⟨k - 1, by omega⟩
    simp only [spec_saFar.l2]
    rw [iP_, iP_, iP_, rd_get hlt, iN_, w64 (x := (j : Int) + 1) (by omega) (by omega)]
    have := E k (by omega)
    rw [show k + 1 - (m + 1) - 1 = k - m - 1 from by omega]
    exact this
theorem saFar_l1 (o : Int) (rows : List (List Int)) (s : Nat) (hn : rows.length ≤ 5) (hsq : ∀ r ∈ rows, r.length = rows.length) :
 ∀ (d i : Nat) (far : List Int) (q : List Nat), i + d = rows.length → i ≤ q.length → Qu rows (-1) s q → Far rows s far q i → Through rows (-1) q i → (∀ c, q[i]? = some c → ∀ v ∈ q, fa far v ≤ fa far c + 1) →
 ∃ far' q', Qu rows (-1) s q' ∧ Far rows s far' q' q'.length ∧ Through rows (-1) q' q'.length ∧ ∀ k, 10 * d + 1 ≤ k → spec_saFar.l1 k far (q.map (fun v : Nat => (v : Int))) i o rows = some far' := by
 have fin : ∀ (i : Nat) (far : List Int) (q : List Nat), q.length ≤ i → i ≤ q.length → Qu rows (-1) s q → Far rows s far q i → Through rows (-1) q i →
  ∃ far' q', Qu rows (-1) s q' ∧ Far rows s far' q' q'.length ∧ Through rows (-1) q' q'.length ∧ ∀ k, 1 ≤ k → spec_saFar.l1 k far (q.map (fun v : Nat => (v : Int))) i o rows = some far' := by
  intro i far q h1 h2 hq hm ht
  obtain rfl : i = q.length := by omega
  refine ⟨far, q, hq, hm, ht, fun k hk => ?_⟩
  obtain ⟨k, rfl⟩ : ∃ m, k = m + 1 := ⟨k - 1, by omega⟩
  simp only [spec_saFar.l1]
  rw [if_neg (by rw [List.length_map]; omega)]
 intro d
 induction d with
 | zero =>
  intro i far q hi hiq hq hm ht _
  have := hq.len
  obtain ⟨far', q', h1, h2, h3, E⟩ := fin i far q (by omega) hiq hq hm ht
  exact ⟨far', q', h1, h2, h3, fun k hk => E k (by omega)⟩
 | succ d ih =>
  intro i far q hi hiq hq hm ht htop
  have hql := hq.len
  by_cases c0 : i < q.length
  · have hqi : q[i]? = some q[i] := List.getElem?_eq_getElem c0
    have hc := hq.lt _ (List.getElem_mem c0)
    obtain ⟨far1, q1, hq1, hm1, ht1, hp, hall, E1⟩ := saFar_l2 o rows s hn hsq i q[i] hc rows.length 0 far q (by omega) hq hm (htop _ hqi) c0 hqi (fun k hk => absurd hk (Nat.not_lt_zero _))
    have hpl := hp.length_le
    have hqi1 : q1[i]? = some q[i] := by
     obtain ⟨t, rfl⟩ := hp
     rw [List.getElem?_append_left c0]; exact hqi
    have hm2 : Far rows s far1 q1 (i + 1) := by
     refine ⟨hm1.len, hm1.mem, hm1.low, hm1.zero, hm1.wk, hm1.idx, hm1.mono, ?_⟩
     intro a ha u hu k hk he
     by_cases e : a = i
     · subst e
       rw [hqi1] at hu
       injection hu with hu
       subst hu
       have := hall k hk he
       exact ⟨this, ht1 k this⟩
     · exact hm1.near a (by omega) u hu k hk he
    have hth : Through rows (-1) q1 (i + 1) := by
     intro a ha v hv hvc k hk he
     by_cases e : a = i
     · subst e
       rw [hqi1] at hv
       injection hv with hv
       exact hall k hk (hv ▸ he)
     · exact ht.more hiq hp a (by omega) v hv hvc k hk he
    obtain ⟨far', q', h1, h2, h3, E⟩ := ih (i + 1) far1 q1 (by omega) (by omega) hq1 hm2 hth (by
     intro c hc' v hv
     have h5 := ht1 v hv
     have h6 := hm1.mono i (i + 1) q[i] c (by omega) hqi1 hc'
     omega)
    refine ⟨far', q', h1, h2, h3, fun k hk => ?_⟩
    obtain ⟨k, rfl⟩ : ∃ m, k = m + 1 := ⟨k - 1, by omega⟩
    simp only [spec_saFar.l1]
    rw [if_pos (by rw [List.length_map]; omega), iP_, rd_nats c0, iP_, iP_, rd1_get hc]
    exact (E1 k (by omega)).trans (E _ (by omega))
  · obtain ⟨far', q', h1, h2, h3, E⟩ := fin i far q (by omega) hiq hq hm ht
    exact ⟨far', q', h1, h2, h3, fun k hk => E k (by omega)⟩
structure IsFar (rows : List (List Int)) (s : Nat) (far : List Int) : Prop where
 len : far.length = rows.length
 low : ∀ k, -1 ≤ fa far k
 high : ∀ k, k < rows.length → fa far k < rows.length
 mem : ∀ k, k < rows.length → (0 ≤ fa far k ↔ RC rows (-1) s k)
 wk : ∀ k, k < rows.length → 0 ≤ fa far k → Wk rows s k (fa far k).toNat
 near : ∀ u k, u < rows.length → k < rows.length → 0 ≤ fa far u → Edge rows u k → 0 ≤ fa far k ∧ fa far k ≤ fa far u + 1
 zero : fa far s = 0
theorem saFar_l0 (o : Int) (rows : List (List Int)) (s : Nat) (hn : rows.length ≤ 5) (hsq : ∀ r ∈ rows, r.length = rows.length) (hs : s < rows.length) :
 ∀ (m j : Nat) (far : List Int), j + m = rows.length → far.length = rows.length → (∀ k, k < j → fa far k = -1) →
 ∃ far', IsFar rows s far' ∧ ∀ k, m + 60 < k → spec_saFar.l0 k s far (rows.length : Int) j o rows = some far' := by
 intro m
 induction m with
 | zero =>
  intro j far hj hl hd
  have hq : Qu rows (-1) s [s] := ⟨by simp, by simp [hs], by simp [RC.base], by simp⟩
  have hset := fun k => fa_set (far := far) (j := s) (x := 0) (by omega) k
  have hout : ∀ k, rows.length ≤ k → fa far k = -1 := by
   intro k hk
   unfold fa
   rw [List.getD_eq_getElem?_getD, List.getElem?_eq_none (by omega)]
   rfl
  have hold : ∀ k, fa far k = -1 := fun k => if h : k < rows.length then hd k (by omega) else hout k (by omega)
  have hone : ∀ (a v : Nat), ([s] : List Nat)[a]? = some v → a = 0 ∧ v = s := by
   intro a v h
   rw [List.getElem?_singleton] at h
   by_cases e : a = 0
   · rw [if_pos e] at h; exact ⟨e, (Option.some.inj h).symm⟩
   · rw [if_neg e] at h; cases h
  have hm : Far rows s (far.set s 0) [s] 0 := by
   refine ⟨by rw [List.length_set]; exact hl, ?_, ?_, by rw [hset, if_pos rfl], ?_, ?_, ?_, ?_⟩
   · intro k hk
     rw [hset]
     by_cases e : k = s
     · simp [e]
     · rw [if_neg e, hold]; simp [e]
   · intro k
     rw [hset]
     by_cases e : k = s
     · rw [if_pos e]; omega
     · rw [if_neg e, hold]; omega
   · intro v hv
     rw [List.mem_singleton] at hv
     subst hv
     rw [hset, if_pos rfl]
     exact Wk.base
   · intro a v h
     obtain ⟨rfl, rfl⟩ := hone a v h
     rw [hset, if_pos rfl]; simp
   · intro a b u v _ hu hv
     obtain ⟨_, rfl⟩ := hone a u hu
     obtain ⟨_, rfl⟩ := hone b v hv
     exact Int.le_refl _
   · intro a ha; omega
  obtain ⟨far', q', h1, h2, h3, E⟩ := saFar_l1 o rows s hn hsq rows.length 0 (far.set s 0) [s] (by omega) (by simp) hq hm (fun a ha => absurd ha (Nat.not_lt_zero _)) (by
   intro c hc v hv
   obtain ⟨_, rfl⟩ := hone 0 c hc
   rw [List.mem_singleton] at hv
   subst hv
   omega)
  have hmem : ∀ k, k < rows.length → (0 ≤ fa far' k ↔ k ∈ q') := h2.mem
  have hq' := h1.len
  refine ⟨far', ⟨h2.len, h2.low, ?_, ?_, ?_, ?_, ?_⟩, fun k hk => ?_⟩
  · intro k hk
    by_cases c : 0 ≤ fa far' k
    · obtain ⟨a, ha, hv⟩ := List.getElem_of_mem ((hmem k hk).1 c)
      have := h2.idx a k (by rw [List.getElem?_eq_getElem ha, hv])
      omega
    · omega
  · intro k hk
    rw [hmem k hk, h1.all h3]
  · intro k hk h
    exact h2.wk k ((hmem k hk).1 h)
  · intro u k hu hk h he
    obtain ⟨a, ha, hv⟩ := List.getElem_of_mem ((hmem u hu).1 h)
    obtain ⟨h5, h6⟩ := h2.near a ha u (by rw [List.getElem?_eq_getElem ha, hv]) k hk he
    exact ⟨(hmem k hk).2 h5, h6⟩
  · exact h2.zero
  · obtain ⟨k, rfl⟩ : ∃ m, k = m + 1 := ⟨k - 1, by omega⟩
    simp only [spec_saFar.l0]
    rw [iN_, iP_, iP_, Int.toNat_natCast]
    exact E k (by omega)
 | succ m ih =>
  intro j far hj hl hd
  obtain ⟨far', h1, E⟩ := ih (j + 1) (far.set j (-1)) (by omega) (by rw [List.length_set]; exact hl) (fun k hk => by
   rw [fa_set (by omega)]
   by_cases e : k = j
   · rw [if_pos e]
   · rw [if_neg e]; exact hd k (by omega))
  refine ⟨far', h1, fun k hk => ?_⟩
  obtain ⟨k, rfl⟩ : ∃ m, k = m + 1 := ⟨k - 1, by omega⟩
  simp only [spec_saFar.l0]
  rw [iP_, iP_, iP_, w64 (x := (j : Int) + 1) (by omega) (by omega), Int.toNat_natCast]
  exact E k (by omega)
theorem saFar_ev (o : Int) (rows : List (List Int)) (s : Nat) (hn : rows.length ≤ 5) (hsq : ∀ r ∈ rows, r.length = rows.length) (hs : s < rows.length) :
 ∃ far, IsFar rows s far ∧ ∀ k, 80 ≤ k → spec_saFar.f k o rows s = some far := by
 obtain ⟨far, h1, E⟩ := saFar_l0 o rows s hn hsq hs rows.length 0 (List.replicate rows.length 0) (by omega) (by simp) (fun k hk => absurd hk (Nat.not_lt_zero _))
 refine ⟨far, h1, fun k hk => ?_⟩
 simp only [spec_saFar.f]
 rw [iP_, iP_, Int.toNat_natCast]
 simp only [Option.bind_some, List.length_replicate]
 exact E k (by omega)
def Both (rows : List (List Int)) (s i : Nat) : Prop := RC rows (-1) s i ∧ RC rows (-1) i s
theorem saClass_l0 (o : Int) (rows : List (List Int)) (s : Nat) (hn : rows.length ≤ 5) (hsq : ∀ r ∈ rows, r.length = rows.length) (hs : s < rows.length) (far : List Int) (hf : IsFar rows s far) :
 ∀ (m j : Nat) (acc : List Int), j + m = rows.length → acc.length ≤ j → ∀ k, m + 80 < k →
 spec_saClass.l0 k s acc far (rows.length : Int) j o rows = some (acc ++ such j m (Both rows s)) := by
 intro m
 induction m with
 | zero =>
  intro j acc hj ha k hk
  obtain ⟨k, rfl⟩ : ∃ m, k = m + 1 := ⟨k - 1, by omega⟩
  simp only [spec_saClass.l0]
  rw [iN_, such_zero, List.append_nil]
 | succ m ih =>
  intro j acc hj ha k hk
  obtain ⟨k, rfl⟩ : ∃ m, k = m + 1 := ⟨k - 1, by omega⟩
  have hlt : j < far.length := by have := hf.len; omega
  have hm := hf.mem j (by omega)
  obtain ⟨far2, hf2, E2⟩ := saFar_ev o rows j hn hsq (by omega)
  have hlt2 : s < far2.length := by have := hf2.len; omega
  have hm2 := hf2.mem s hs
  have h1 := fun acc' h => ih (j + 1) acc' (by omega) h k (by omega)
  simp only [spec_saClass.l0]
  rw [iP_, iP_, iP_, rd_fa hlt, w64 (x := (j : Int) + 1) (by omega) (by omega), E2 k (by omega)]
  simp only [Option.bind_some]
  rw [rd_fa hlt2]
  by_cases c1 : 0 ≤ fa far j
  · by_cases c2 : 0 ≤ fa far2 s
    · rw [iP_, iP_, iP_, iP_, iP_, such_pos ⟨hm.1 c1, hm2.1 c2⟩]
      have := h1 (acc ++ [(j : Int)]) (by simp; omega)
      rw [List.append_assoc, List.singleton_append] at this
      exact this
    · rw [iP_, iP_, iP_, iN_, such_neg (fun h => c2 (hm2.2 h.2))]
      exact h1 acc (by omega)
  · rw [iN_, such_neg (fun h => c1 (hm.2 h.1))]
    exact h1 acc (by omega)
theorem saClass_ev (o : Int) (rows : List (List Int)) (s : Nat) (hn : rows.length ≤ 5) (hsq : ∀ r ∈ rows, r.length = rows.length) (hs : s < rows.length) (k : Nat) (hk : 90 ≤ k) :
 spec_saClass.f k o rows s = some (such 0 rows.length (Both rows s)) := by
 obtain ⟨far, hf, E⟩ := saFar_ev o rows s hn hsq hs
 unfold spec_saClass.f
 rw [E k (by omega)]
 simp only [Option.bind_some]
 rw [hf.len]
 have := saClass_l0 o rows s hn hsq hs far hf rows.length 0 [] (by omega) (by simp) k (by omega)
 rw [List.nil_append] at this
 exact this
theorem class_l0 (o : Int) (rows : List (List Int)) (s : Nat) (hn : rows.length ≤ 5) (hsq : ∀ r ∈ rows, r.length = rows.length) (hs : s < rows.length) (out : List Bool) (hl : out.length = rows.length) (hp : ∀ k, (h : k < out.length) → (out[k] = true ↔ RC rows (-1) s k)) (mem : List Int) (hmem : mem.length ≤ 5) :
 ∀ (m j : Nat) (pre acc : List Int), j + m = rows.length → acc.length ≤ j → mem = pre ++ such j m (fun i => RC rows (-1) s i) → ∀ k, m + 80 < k →
 impl_States_class.l0 k s out acc mem (mem.length : Int) pre.length o rows = some (acc ++ such j m (Both rows s), ((acc ++ such j m (Both rows s)).length : Int) == ((such 0 rows.length (fun i => RC rows (-1) s i)).length : Int)) := by
 intro m
 induction m with
 | zero =>
  intro j pre acc hj ha hpre k hk
  obtain ⟨k, rfl⟩ : ∃ m, k = m + 1 := ⟨k - 1, by omega⟩
  rw [such_zero, List.append_nil] at hpre
  subst hpre
  simp only [impl_States_class.l0]
  rw [iN_, such_zero, List.append_nil, members_ev rows.length out _ hn hl hp k (by omega)]
  rfl
 | succ m ih =>
  intro j pre acc hj ha hpre k hk
  by_cases c1 : RC rows (-1) s j
  · rw [such_pos c1] at hpre
    obtain ⟨k, rfl⟩ : ∃ m, k = m + 1 := ⟨k - 1, by omega⟩
    have hlt : pre.length < mem.length := by rw [hpre]; simp
    have hget : mem[pre.length] = (j : Int) := by
     have : mem[pre.length]? = some (j : Int) := by rw [hpre]; simp
     rw [List.getElem?_eq_getElem hlt] at this
     exact Option.some.inj this
    obtain ⟨out2, hl2, hp2, E2⟩ := reached_ev o rows (-1) j hn hsq (by omega)
    have hlt2 : s < out2.length := by omega
    have h1 := fun acc' h => ih (j + 1) (pre ++ [(j : Int)]) acc' (by omega) h (by rw [hpre, List.append_assoc, List.singleton_append]) k (by omega)
    rw [List.length_append, List.length_singleton] at h1
    simp only [impl_States_class.l0]
    rw [iP_, iP_, iP_, rd_get hlt, hget, E2 k (by omega)]
    simp only [Option.bind_some]
    rw [iP_, iP_, rdOf_get hlt2, w64 (x := (pre.length : Int) + 1) (by omega) (by omega)]
    by_cases c2 : out2[s] = true
    · rw [if_pos c2, iP_, such_pos ⟨c1, (hp2 s hlt2).1 c2⟩]
      have := h1 (acc ++ [(j : Int)]) (by simp; omega)
      rw [List.append_assoc, List.singleton_append] at this
      exact this
    · rw [if_neg c2, such_neg (fun h => c2 ((hp2 s hlt2).2 h.2))]
      exact h1 acc (by omega)
  · rw [such_neg c1] at hpre
    have h1 := ih (j + 1) pre acc (by omega) (by omega) hpre k (by omega)
    rw [such_neg (fun h => c1 h.1)]
    exact h1
theorem class_ev (o : Int) (rows : List (List Int)) (s : Nat) (hn : rows.length ≤ 5) (hsq : ∀ r ∈ rows, r.length = rows.length) (hs : s < rows.length) (k : Nat) (hk : 90 ≤ k) :
 impl_States_class.f k o rows s = some (such 0 rows.length (Both rows s), ((such 0 rows.length (Both rows s)).length : Int) == ((such 0 rows.length (fun i => RC rows (-1) s i)).length : Int)) := by
 obtain ⟨out, hl, hp, E⟩ := reached_ev o rows (-1) s hn hsq hs
 unfold impl_States_class.f
 rw [E k (by omega)]
 simp only [Option.bind_some]
 rw [members_ev rows.length out _ hn hl hp k (by omega)]
 simp only [Option.bind_some]
 have := class_l0 o rows s hn hsq hs out hl hp (such 0 rows.length (fun i => RC rows (-1) s i)) (Nat.le_trans (such_len _ _ _) hn) rows.length 0 [] [] (by omega) (by simp) (by simp) k (by omega)
 rw [List.nil_append] at this
 exact this
theorem RC.trans {rows : List (List Int)} {cl : Int} {a b c : Nat} (h1 : RC rows cl a b) (h2 : RC rows cl b c) : RC rows cl a c := by
 induction h2 with
 | base => exact h1
 | step i k _ hc hk he ih => exact RC.step i k ih hc hk he
theorem Both.symm {rows : List (List Int)} {a b : Nat} (h : Both rows a b) : Both rows b a := ⟨h.2, h.1⟩
theorem Both.trans {rows : List (List Int)} {a b c : Nat} (h1 : Both rows a b) (h2 : Both rows b c) : Both rows a c := ⟨h1.1.trans h2.1, h2.2.trans h1.2⟩
theorem Both.refl (rows : List (List Int)) (a : Nat) : Both rows a a := ⟨RC.base, RC.base⟩
def Fst (rows : List (List Int)) (i : Nat) : Prop := ∀ j, j < i → ¬ Both rows i j
theorem class_first (rows : List (List Int)) (i : Nat) (hi : i < rows.length) : 0 < (such 0 rows.length (Both rows i)).length ∧ (rd (such 0 rows.length (Both rows i)) 0 = i ↔ Fst rows i) := by
 obtain ⟨f, t, e, h1, h2, h3, h4⟩ := such_first (j := 0) (m := rows.length) (p := Both rows i) ⟨i, by omega, by omega, Both.refl _ _⟩
 rw [e]
 refine ⟨by simp, ?_⟩
 have : rd ((f : Int) :: t) 0 = f := by simp [rd]
 rw [this]
 constructor
 · intro hfi j hj
   have : f = i := by omega
   subst this
   exact h4 j (by omega) hj
 · intro hF
   by_cases c : f < i
   · exact absurd h3 (hF f c)
   · by_cases c2 : i < f
     · exact absurd (Both.refl rows i) (h4 i (by omega) c2)
     · omega
noncomputable def classList (rows : List (List Int)) (j m : Nat) : List (List Int) := ((List.range' j m).filter (fun i => @decide (Fst rows i) (Classical.propDecidable _))).map (fun i => such 0 rows.length (Both rows i))
theorem classList_pos {rows : List (List Int)} {j m : Nat} (h : Fst rows j) : classList rows j (m + 1) = such 0 rows.length (Both rows j) :: classList rows (j + 1) m := by
 unfold classList
 rw [List.range'_succ, List.filter_cons_of_pos (by simpa using h), List.map_cons]
theorem classList_neg {rows : List (List Int)} {j m : Nat} (h : ¬ Fst rows j) : classList rows j (m + 1) = classList rows (j + 1) m := by
 unfold classList
 rw [List.range'_succ, List.filter_cons_of_neg (by simpa using h)]
theorem classes_l0 (o : Int) (rows : List (List Int)) (hn : rows.length ≤ 5) (hsq : ∀ r ∈ rows, r.length = rows.length) :
 ∀ (m j : Nat) (acc : List (List Int)), j + m = rows.length → acc.length ≤ j → ∀ k, m + 90 < k →
 impl_States_classes.l0 k acc (rows.length : Int) j o rows = some (acc ++ classList rows j m) := by
 intro m
 induction m with
 | zero =>
  intro j acc hj ha k hk
  obtain ⟨k, rfl⟩ : ∃ m, k = m + 1 := ⟨k - 1, by omega⟩
  simp only [impl_States_classes.l0]
  rw [iN_]
  simp [classList]
 | succ m ih =>
  intro j acc hj ha k hk
  obtain ⟨k, rfl⟩ : ∃ m, k = m + 1 := ⟨k - 1, by omega⟩
  have h1 := fun acc' h => ih (j + 1) acc' (by omega) h k (by omega)
  obtain ⟨h2, h3⟩ := class_first rows j (by omega)
  simp only [impl_States_classes.l0]
  rw [iP_, class_ev o rows j hn hsq (by omega) k (by omega)]
  simp only [Option.bind_some]
  rw [iP_, w64 (x := (j : Int) + 1) (by omega) (by omega)]
  by_cases c : Fst rows j
  · rw [if_pos (h3.2 c), iP_, classList_pos c]
    have := h1 (acc ++ [such 0 rows.length (Both rows j)]) (by simp; omega)
    rw [List.append_assoc, List.singleton_append] at this
    exact this
  · rw [if_neg (fun h => c (h3.1 h)), classList_neg c]
    exact h1 acc (by omega)
theorem classes_ev (o : Int) (rows : List (List Int)) (hn : rows.length ≤ 5) (hsq : ∀ r ∈ rows, r.length = rows.length) (k : Nat) (hk : 100 ≤ k) :
 impl_States_classes.f k o rows = some (classList rows 0 rows.length) := by
 unfold impl_States_classes.f
 have := classes_l0 o rows hn hsq rows.length 0 [] (by omega) (by simp) k (by omega)
 rw [List.nil_append] at this
 exact this
theorem one_class (rows : List (List Int)) (hn : 1 ≤ rows.length) : (classList rows 0 rows.length).length = 1 ↔ (such 0 rows.length (Both rows 0)).length = rows.length := by
 have hF : Fst rows 0 := fun j hj => by omega
 have hl : (classList rows 0 rows.length).length = (such 0 rows.length (Fst rows)).length := by simp [classList, such]
 rw [hl, such_all]
 obtain ⟨n, hn1⟩ : ∃ n, rows.length = n + 1 := ⟨rows.length - 1, by omega⟩
 rw [hn1, such_pos hF]
 simp only [List.length_cons, Nat.add_eq_right, List.length_eq_zero_iff]
 constructor
 · intro h
   have h0 : ∀ i, 1 ≤ i → i < n + 1 → ¬ Fst rows i := by
    intro i h1 h2 h3
    have : (i : Int) ∈ such (0 + 1) n (Fst rows) := such_mem.2 ⟨i, rfl, by omega, by omega, h3⟩
    rw [h] at this
    cases this
   intro i
   induction i using Nat.strongRecOn with
   | _ i ih =>
    intro h1 h2
    by_cases e : i = 0
    · subst e; exact Both.refl _ _
    · have h3 := h0 i (by omega) (by omega)
      unfold Fst at h3
      simp only [Classical.not_forall] at h3
      obtain ⟨j, hj, h4⟩ := h3
      have h5 : Both rows i j := Classical.not_not.1 h4
      exact (ih j hj (by omega) (by omega)).trans h5.symm
 · intro h
   rw [List.eq_nil_iff_forall_not_mem]
   intro x hx
   obtain ⟨i, _, h1, h2, h3⟩ := such_mem.1 hx
   exact h3 0 (by omega) (h i (by omega) (by omega)).symm
theorem shares_good {o : Int} {rows : List (List Int)} (hg : Good o rows) (hc : (such 0 rows.length (Both rows 0)).length = rows.length) :
 ∃ t : List Int × Int × Bool, t.1.length ≤ 1048576 ∧ ∃ K, ∀ k, K ≤ k → spec_SharesOfStates.l0 k ([] : List Int) 0 0 (rows.length : Int) 0 o rows = some t ∧ impl_SharesOfStates.l0 k (rows.length : Int) ([] : List (List S67)) (rows.length : Int) 0 o rows = some t := by
 obtain ⟨m, hm⟩ : ∃ m, rows.length = m + 1 := ⟨rows.length - 1, by have := hg.2.2.1; omega⟩
 have hn5 := hg.2.2.2.1
 have hall : ∀ i, i < rows.length → Both rows 0 i := fun i hi => such_all.1 hc i (Nat.zero_le _) (by omega)
 have hl : ∀ x g, x < m + 1 → g < m + 1 → Leads (m + 1) (sx rows) x g := fun x g hx hgg => by
  have h1 := (hall x (by omega)).2
  have h2 := (hall g (by omega)).1
  rw [← hm]
  exact rc_leads (by omega) (h1.trans h2)
 obtain ⟨K1, e1⟩ := shs_l0 (by omega) hg hm hl (m + 1) 0 (by omega)
 obtain ⟨K2, e2⟩ := shi_l0 (by omega) hg hm hl (m + 1) 0 (by omega)
 exact ⟨((List.range (m + 1)).map (vq o rows m), vs o rows m, true), by simp; omega, K1 + K2, fun k hk => ⟨e1 k (by omega), e2 k (by omega)⟩⟩
theorem shares_same (o : Int) (rows : List (List Int)) (h1 : rows.length ≤ 1048576) (h2 : ∀ r ∈ rows, r.length ≤ 1048576) :
 ∃ (t : List Int) (u : Int) (v : Bool), t.length ≤ 1048576 ∧ ∃ K, ∀ k, K ≤ k → spec_SharesOfStates.f k o rows = some (t, u, v) ∧ impl_SharesOfStates.f k o rows = some (t, u, v) := by
 obtain ⟨t1, ht1, K2, E2⟩ := saGood_ev o rows h1 h2
 obtain ⟨t2, ht2, K3, E3⟩ := areStates_ev o rows h1 h2
 have ht : t1 = t2 := by rw [Bool.eq_iff_iff, ht1, ht2]
 subst ht
 have hbad : ∀ k, 2 ≤ k → spec_SharesOfStates.j0 k true o rows = some (([] : List Int), 0, false) ∧ impl_SharesOfStates.j0 k true o rows = some (([] : List Int), 0, false) := by
  intro k hk
  obtain ⟨k, rfl⟩ : ∃ q, k = q + 1 := ⟨k - 1, by omega⟩
  exact ⟨by rw [spec_SharesOfStates.j0, if_pos rfl], by rw [impl_SharesOfStates.j0, if_pos rfl]⟩
 cases t1 with
 | false =>
  refine ⟨[], 0, false, by simp, K2 + K3 + 2, fun k hk => ⟨?_, ?_⟩⟩
  · rw [spec_SharesOfStates.f, E2 k (by omega), Option.bind_some, if_neg (by decide)]
    exact (hbad k (by omega)).1
  · rw [impl_SharesOfStates.f, E3 k (by omega), Option.bind_some, if_neg (by decide)]
    exact (hbad k (by omega)).2
 | true =>
  have hg := ht1.1 rfl
  obtain ⟨g1, g2, g3, g4, g5⟩ := id hg
  have hsq : ∀ r ∈ rows, r.length = rows.length := fun r hr => (g5 r hr).1
  have one := one_class rows g3
  have eS : ∀ k, 200 ≤ k → spec_saOne.f k o rows = some (((such 0 rows.length (Both rows 0)).length : Int) == (rows.length : Int)) := by
   intro k hk
   rw [spec_saOne.f, show spec_saClass.f k o rows 0 = _ from saClass_ev o rows 0 g4 hsq (by omega) k (by omega)]
   rfl
  by_cases hc : (such 0 rows.length (Both rows 0)).length = rows.length
  · obtain ⟨⟨t, u, v⟩, hl, K, e⟩ := shares_good hg hc
    refine ⟨t, u, v, hl, K2 + K3 + K + 202, fun k hk => ⟨?_, ?_⟩⟩
    · rw [spec_SharesOfStates.f, E2 k (by omega), Option.bind_some, if_pos rfl, eS k (by omega), Option.bind_some, show (((such 0 rows.length (Both rows 0)).length : Int) == (rows.length : Int)) = true from by rw [beq_iff_eq]; omega]
      obtain ⟨k, rfl⟩ : ∃ q, k = q + 1 := ⟨k - 1, by omega⟩
      rw [spec_SharesOfStates.j0, if_neg (by decide)]
      exact (e k (by omega)).1
    · rw [impl_SharesOfStates.f, E3 k (by omega), Option.bind_some, if_pos rfl, classes_ev o rows g4 hsq k (by omega), Option.bind_some, one.2 hc]
      obtain ⟨k, rfl⟩ : ∃ q, k = q + 1 := ⟨k - 1, by omega⟩
      rw [impl_SharesOfStates.j0, if_neg (by decide)]
      exact (e k (by omega)).2
  · refine ⟨[], 0, false, by simp, K2 + K3 + 202, fun k hk => ⟨?_, ?_⟩⟩
    · rw [spec_SharesOfStates.f, E2 k (by omega), Option.bind_some, if_pos rfl, eS k (by omega), Option.bind_some, show (((such 0 rows.length (Both rows 0)).length : Int) == (rows.length : Int)) = false from by rw [beq_eq_false_iff_ne]; omega]
      exact (hbad k (by omega)).1
    · have hne : (classList rows 0 rows.length).length ≠ 1 := fun e => hc (one.1 e)
      rw [impl_SharesOfStates.f, E3 k (by omega), Option.bind_some, if_pos rfl, classes_ev o rows g4 hsq k (by omega), Option.bind_some, show (((classList rows 0 rows.length).length : Int) != 1) = true from by rw [bne_iff_ne]; omega]
      exact (hbad k (by omega)).2
theorem FnExactSharesOfStates (o : Int) (rows : List (List Int)) (wo : (Lit.int .i64 o).wf = true) (wr : ∀ r ∈ rows, ∀ x ∈ r, (Lit.int .i64 x).wf = true) (hl : rows.length ≤ maxLen) (hr : ∀ r ∈ rows, r.length ≤ maxLen) : ∃ k, laws_FnExactSharesOfStates.f k o rows = some true := by
 obtain ⟨r, ⟨K1, E1⟩, h⟩ := szStates_ev o rows (by unfold maxLen at hl; omega) (fun r h => by have := hr r h; unfold maxLen at this; omega)
 by_cases h0 : r < 0
 · refine ⟨K1, ?_⟩
   simp only [laws_FnExactSharesOfStates.f, E1 K1 (by omega), Option.bind_some]
   rw [if_pos h0]
 · obtain ⟨h1, h2⟩ := h (by omega)
   obtain ⟨t, u, v, ht, K6, q⟩ := shares_same o rows h1 h2
   obtain ⟨k, hk1, hk2, hk3⟩ : ∃ k, K1 ≤ k ∧ K6 ≤ k ∧ 5000000 ≤ k := ⟨K1 + K6 + 5000000, by omega, by omega, by omega⟩
   have hp := markEnd_pos rows h2
   have hb : ¬ (1 : Int) + (t : List Int).length < 0 := by omega
   obtain ⟨qa, qb⟩ := q (k + 3) (by omega)
   have qc := (q (k + 1) (by omega)).2
   refine ⟨k + 3, ?_⟩
   rw [laws_FnExactSharesOfStates.f, E1 (k + 3) (by omega), Option.bind_some, if_neg h0, toStates_is o rows h1 h2 (k + 3) (by omega), Option.bind_some, qa, Option.bind_some, Option.bind_some, qb, Option.bind_some, eqIntS_is t ht (k + 3) (by omega), Option.bind_some, if_pos rfl, if_pos rfl]
   rw [laws_FnExactSharesOfStates.j0, bne_self_eq_false, if_neg (by decide), toStates_is o rows h1 h2 (k + 2) (by omega), Option.bind_some, eqStates_is o rows h1 h2 (k + 2) (by omega), Option.bind_some, if_pos rfl, markStates_is o rows h1 h2 (k + 2) (by omega), Option.bind_some, if_neg hp, eqIntS_is t ht (k + 2) (by omega), Option.bind_some, if_pos rfl, if_pos rfl]
   rw [laws_FnExactSharesOfStates.j1, if_neg (by decide), markIntS_is t 1 (by omega) (by omega) ht (k + 1) (by omega), Option.bind_some, heldIntS_is t.length 1 (by omega) (by omega) ht (k + 1) (by omega), Option.bind_some, if_neg hb, if_pos rfl, toStates_is o rows h1 h2 (k + 1) (by omega), Option.bind_some, qc, Option.bind_some, eqIntS_is t ht (k + 1) (by omega), Option.bind_some, if_pos rfl, if_pos rfl]
   rw [laws_FnExactSharesOfStates.j2, bne_self_eq_false, if_neg (by decide), heldIntS_is t.length 1 (by omega) (by omega) ht k (by omega), Option.bind_some, if_neg hb, if_pos rfl]
end Go.Proofs.Ytlpegpmcnimfbaa.Pure
