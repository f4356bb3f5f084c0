/- For all arguments the program and the reference return the same from ChanceToEnd: the plain statement over numbers and lists, and its proof. -/
import Derived.Test.YtlpegpmcnimfbaaPFnExactChanceToEndx1
import Derived.Test.YtlpegpmcnimfbaaPFnExactChanceToEndx2
import Derived.Test.YtlpegpmcnimfbaaPFnExactChanceToEndx3
import Derived.Test.YtlpegpmcnimfbaaPFnExactChanceToEndx4
import Derived.Test.YtlpegpmcnimfbaaPFnExactChanceToEndx5
import Derived.Test.YtlpegpmcnimfbaaPFnExactChanceToEndx6
import Derived.Test.YtlpegpmcnimfbaaPFnExactChanceToEndx7
import Derived.Test.YtlpegpmcnimfbaaPFnExactChanceToEndx8
import Derived.Test.YtlpegpmcnimfbaaPFnExactChanceToEndx9
import Derived.Test.YtlpegpmcnimfbaaPFnExactChanceToEndx10
import Derived.Test.YtlpegpmcnimfbaaPFnExactChanceToEndx11
import Derived.Test.YtlpegpmcnimfbaaPFnExactChanceToEndx12
import Derived.Test.YtlpegpmcnimfbaaPFnExactChanceToEndx13
import Derived.Test.YtlpegpmcnimfbaaPFnExactChanceToEndx14
import Derived.Test.YtlpegpmcnimfbaaPFnExactChanceToEndx15
namespace Go.Proofs.Ytlpegpmcnimfbaa.Pure
open Go.RowKit Go.Proofs.Ytlpegpmcnimfbaa.PFnExactChanceToEnd Go.Proofs.YtlpegpmcnimfbaaW.PrintWords Go.Proofs.YtlpegpmcnimfbaaW.PrintLast Go.Proofs.YtlpegpmcnimfbaaW.PrintMore
set_option linter.unusedVariables false
set_option linter.unusedSimpArgs false
set_option maxRecDepth 100000
theorem w64 {x : Int} (h0 : -9223372036854775808 ≤ x) (h1 : x ≤ 9223372036854775807) : wrap64 x = x := by
 unfold wrap64
 omega
structure Low (a b n d : Int) : Prop where
 pos : 0 < b
 ne : d ≠ 0
 eq : a * d = n * b
 cop : Int.gcd a b = 1
theorem dvd_of_cop {a b d : Int} (hc : Int.gcd a b = 1) (h : b ∣ a * d) : b ∣ d := by
 rw [← Int.natAbs_dvd_natAbs] at h ⊢
 rw [Int.natAbs_mul] at h
 exact Nat.Coprime.dvd_of_dvd_mul_left (k := b.natAbs) (m := a.natAbs) (n := d.natAbs) (by
  rw [Nat.Coprime, Nat.gcd_comm]; exact hc) (by exact h)
theorem Low.fac {a b n d : Int} (h : Low a b n d) : ∃ g, g ≠ 0 ∧ n = a * g ∧ d = b * g := by
 have hb : b ∣ d := dvd_of_cop h.cop ⟨n, by rw [h.eq, Int.mul_comm]⟩
 obtain ⟨g, rfl⟩ := hb
 have hp := h.pos
 refine ⟨g, fun e => h.ne (by rw [e, Int.mul_zero]), ?_, rfl⟩
 have he := h.eq
 have : b * n = b * (a * g) := by rw [Int.mul_comm b n, ← he, Int.mul_left_comm]
 exact Int.eq_of_mul_eq_mul_left (by omega) this
theorem natAbs_le_of_mul {a g : Int} (hg : g ≠ 0) : a.natAbs ≤ (a * g).natAbs := by
 rw [Int.natAbs_mul]
 exact Nat.le_mul_of_pos_right _ (by omega)
theorem Low.num_le {a b n d : Int} (h : Low a b n d) : a.natAbs ≤ n.natAbs := by
 obtain ⟨g, hg, rfl, _⟩ := h.fac
 exact natAbs_le_of_mul hg
theorem Low.den_le {a b n d : Int} (h : Low a b n d) : b.natAbs ≤ d.natAbs := by
 obtain ⟨g, hg, _, rfl⟩ := h.fac
 exact natAbs_le_of_mul hg
theorem Low.unique {a b a' b' n d n' d' : Int} (h : Low a b n d) (h' : Low a' b' n' d') (e : n * d' = n' * d) : a = a' ∧ b = b' := by
 have hp := h.pos
 have hp' := h'.pos
 have hx : a * b' = a' * b := by
  have hd := h.ne
  have hd' := h'.ne
  have h1 := h.eq
  have h2 := h'.eq
  have : (d * d') * (a * b') = (d * d') * (a' * b) := by grind
  exact Int.eq_of_mul_eq_mul_left (Int.mul_ne_zero hd hd') this
 have h1 : b ∣ b' := dvd_of_cop h.cop ⟨a', by rw [hx, Int.mul_comm]⟩
 have h2 : b' ∣ b := dvd_of_cop h'.cop ⟨a, by rw [← hx, Int.mul_comm]⟩
 have hb : b = b' := Int.le_antisymm (Int.le_of_dvd hp' h1) (Int.le_of_dvd hp h2)
 subst hb
 exact ⟨Int.eq_of_mul_eq_mul_right (by omega) hx, rfl⟩
theorem low_div {n d g : Int} (hd : d ≠ 0) (hg : g.natAbs = Int.gcd n d) (hs : 0 < d * g) : Low (n.tdiv g) (d.tdiv g) n d := by
 have hg0 : g ≠ 0 := by rintro rfl; omega
 obtain ⟨x, rfl⟩ : g ∣ n := by rw [← Int.natAbs_dvd_natAbs, hg]; exact Nat.gcd_dvd_left _ _
 obtain ⟨y, rfl⟩ : g ∣ d := by rw [← Int.natAbs_dvd_natAbs, hg]; exact Nat.gcd_dvd_right _ _
 rw [Int.mul_tdiv_cancel_left _ hg0, Int.mul_tdiv_cancel_left _ hg0]
 refine ⟨?_, hd, by grind, ?_⟩
 · have h1 : 0 < y * (g * g) := by rw [show y * (g * g) = g * y * g from by grind]; exact hs
   have h2 : 0 < g * g := by
    rcases Int.lt_trichotomy g 0 with h | h | h
    · exact Int.mul_pos_of_neg_of_neg h h
    · exact absurd h hg0
    · exact Int.mul_pos h h
   rcases Int.lt_or_le 0 y with h | h
   · exact h
   · have := Int.mul_nonpos_of_nonpos_of_nonneg h (Int.le_of_lt h2)
     omega
 · rw [Int.gcd_mul_left] at hg
   have : g.natAbs ≠ 0 := by omega
   exact Nat.eq_of_mul_eq_mul_left (Nat.pos_of_ne_zero this) (by omega)
theorem Low.zero {a b d : Int} (h : Low a b 0 d) : a = 0 ∧ b = 1 := by
 have := h.num_le
 have ha : a = 0 := by omega
 subst ha
 have := h.cop
 have hp := h.pos
 simp at this
 omega
theorem Ev.some {α : Type} {g : Nat → Option α} {r : α} (h : ∀ k, g k = Option.some r) : Ev g r := ⟨0, fun k _ => h k⟩
theorem tmod_nn {a b : Int} (ha : 0 ≤ a) (hb : 0 < b) : 0 ≤ Int.tmod a b ∧ Int.tmod a b < b ∧ Int.tmod a b = a % b := by
 rw [Int.tmod_eq_emod_of_nonneg ha]
 exact ⟨Int.emod_nonneg _ (by omega), Int.emod_lt_of_pos _ hb, rfl⟩
theorem gcd_step {a b : Int} (ha : 0 ≤ a) (hb : 0 < b) : Int.gcd b (Int.tmod a b) = Int.gcd a b := by
 rw [(tmod_nn ha hb).2.2, Int.gcd_comm a b]
 have h : a = a % b + b * (a / b) := by rw [Int.emod_add_mul_ediv]
 conv => rhs; rw [h]
 rw [Int.gcd_add_mul_left_right]
theorem common_l0 : ∀ (k : Nat) (a b : Int), 0 ≤ a → 0 ≤ b → b < k → impl_common.l0 k a b = some ((Int.gcd a b : Nat) : Int) := by
 intro k
 induction k with
 | zero => intro a b ha hb hk; omega
 | succ k ih =>
  intro a b ha hb hk
  simp only [impl_common.l0]
  by_cases h : b = 0
  · subst h
    rw [if_pos rfl, Int.gcd_zero_right]
    congr 1
    omega
  · rw [if_neg h]
    have hb' : 0 < b := by omega
    have h3 := tmod_nn ha hb'
    rw [ih b (Int.tmod a b) hb h3.1 (by omega), gcd_step ha hb']
theorem mx_abs {a : Int} (h0 : -9223372036854775808 < a) (h1 : a ≤ 9223372036854775807) : mx a (wrap64 (-a)) = (a.natAbs : Int) := by
 rw [w64 (by omega) (by omega)]
 unfold mx
 split <;> omega
theorem common_ev {a b : Int} (ha : a.natAbs ≤ 9223372036854775807) (hb : b.natAbs ≤ 9223372036854775807) :
 Ev (fun k => impl_common.f k a b) ((Int.gcd a b : Nat) : Int) := by
 refine ⟨b.natAbs + 1, fun k hk => ?_⟩
 show impl_common.f k a b = _
 unfold impl_common.f
 rw [mx_abs (by omega) (by omega), mx_abs (by omega) (by omega), common_l0 k _ _ (by omega) (by omega) (by omega)]
 simp [Int.gcd]
theorem lowest_ev {n d : Int} (hn : n.natAbs ≤ 9223372036854775807) (hd : d.natAbs ≤ 9223372036854775807) (h0 : d ≠ 0) :
 ∃ a b, Low a b n d ∧ ∃ K, ∀ k, K ≤ k → impl_lowest.f k n d = some (a, b) := by
 have hg : Int.gcd n d ≠ 0 := by
  intro h
  exact h0 (Int.gcd_eq_zero_iff.1 h).2
 have hle : Int.gcd n d ≤ d.natAbs := Nat.le_of_dvd (by omega) (Nat.gcd_dvd_right _ _)
 rcases Int.lt_or_gt_of_ne h0 with h | h
 · have L := low_div (n := n) (d := d) (g := -((Int.gcd n d : Nat) : Int)) h0 (by omega) (Int.mul_pos_of_neg_of_neg h (by omega))
   have hx := L.num_le
   have hy := L.den_le
   refine ⟨_, _, L, ?_⟩
   show Ev (fun k => impl_lowest.f k n d) _
   refine Ev.congr (fun k => by unfold impl_lowest.f; rfl) (Ev.bind (common_ev hn hd) (Ev.some fun k => ?_))
   rw [if_pos h, w64 (x := -((Int.gcd n d : Nat) : Int)) (by omega) (by omega), if_neg (by omega), w64 (by omega) (by omega), w64 (by omega) (by omega)]
 · have L := low_div (n := n) (d := d) (g := ((Int.gcd n d : Nat) : Int)) h0 (by omega) (Int.mul_pos h (by omega))
   have hx := L.num_le
   have hy := L.den_le
   refine ⟨_, _, L, ?_⟩
   show Ev (fun k => impl_lowest.f k n d) _
   refine Ev.congr (fun k => by unfold impl_lowest.f; rfl) (Ev.bind (common_ev hn hd) (Ev.some fun k => ?_))
   rw [if_neg (by omega), if_neg (by omega), w64 (by omega) (by omega), w64 (by omega) (by omega)]
theorem rat_num (q : Rat) : (q.num : Rat) = q * ((q.den : Int) : Rat) := by
 have h := Rat.num_divInt_den q
 have hd : (((q.den : Int) : Rat)) ≠ 0 := fun e => q.den_nz (by have := Rat.intCast_inj.1 (e.trans (show (0 : Rat) = ((0 : Int) : Rat) from rfl)); omega)
 rw [Rat.divInt_eq_div] at h
 have h2 : ((q.num : Rat) / ((q.den : Int) : Rat)) * ((q.den : Int) : Rat) = q * ((q.den : Int) : Rat) := by rw [h]
 rw [← h2, Rat.div_mul_cancel hd]
theorem low_of_rat {q : Rat} {n d : Int} (hd : d ≠ 0) (h : q * (d : Rat) = (n : Rat)) : Low q.num (q.den : Int) n d := by
 refine ⟨by have := q.den_nz; omega, hd, ?_, q.reduced⟩
 have h1 := rat_num q
 have h2 : ((q.num * d : Int) : Rat) = ((n * (q.den : Int) : Int) : Rat) := by
  rw [Rat.intCast_mul, Rat.intCast_mul, h1, ← h]
  grind
 exact Rat.intCast_inj.1 h2
structure Bd (q : Rat) (N D : Nat) : Prop where
 num : q.num.natAbs ≤ N
 den : q.den ≤ D
theorem bd_of {q : Rat} {n d : Int} {N D : Nat} (hd : d ≠ 0) (h : q * (d : Rat) = (n : Rat)) (hn : n.natAbs ≤ N) (hD : d.natAbs ≤ D) : Bd q N D := by
 have L := low_of_rat hd h
 have h1 := L.num_le
 have h2 := L.den_le
 exact ⟨by omega, by simp at h2; omega⟩
theorem Bd.mono {q : Rat} {N D N' D' : Nat} (h : Bd q N D) (h1 : N ≤ N') (h2 : D ≤ D') : Bd q N' D' := ⟨Nat.le_trans h.num h1, Nat.le_trans h.den h2⟩
theorem bd_zero : Bd 0 0 1 := ⟨by decide, by decide⟩
theorem bd_one : Bd 1 1 1 := ⟨by decide, by decide⟩
theorem lowest_rat {n d : Int} {q : Rat} (hn : n.natAbs ≤ 9223372036854775807) (hd : d.natAbs ≤ 9223372036854775807) (h0 : d ≠ 0) (h : q * (d : Rat) = (n : Rat)) :
 ∃ K, ∀ k, K ≤ k → impl_lowest.f k n d = some (q.num, (q.den : Int)) := by
 obtain ⟨a, b, L, K, e⟩ := lowest_ev hn hd h0
 obtain ⟨rfl, rfl⟩ := (low_of_rat h0 h).unique L rfl
 exact ⟨K, e⟩
theorem rat_den_ne (q : Rat) : (((q.den : Int) : Rat)) ≠ 0 := fun e => q.den_nz (by have := Rat.intCast_inj.1 (e.trans (show (0 : Rat) = ((0 : Int) : Rat) from rfl)); omega)
theorem den_int_ne (q : Rat) : (q.den : Int) ≠ 0 := by have := q.den_nz; omega
theorem mul_le_of {x y : Int} {A B : Nat} (hx : x.natAbs ≤ A) (hy : y.natAbs ≤ B) : (x * y).natAbs ≤ A * B := by
 rw [Int.natAbs_mul]
 exact Nat.mul_le_mul hx hy
theorem times_rat {a b : Rat} {N D N' D' : Nat} (ha : Bd a N D) (hb : Bd b N' D') (h1 : N * N' ≤ 9223372036854775807) (h2 : D * D' ≤ 9223372036854775807) :
 ∃ K, ∀ k, K ≤ k → impl_frac_times.f k a.num (a.den : Int) b.num (b.den : Int) = some ((a * b).num, ((a * b).den : Int)) := by
 have m1 := mul_le_of ha.num hb.num
 have m2 := mul_le_of (x := (a.den : Int)) (y := (b.den : Int)) (A := D) (B := D') (by simpa using ha.den) (by simpa using hb.den)
 obtain ⟨K, e⟩ := lowest_rat (q := a * b) (n := a.num * b.num) (d := (a.den : Int) * (b.den : Int)) (by omega) (by omega) (Int.mul_ne_zero (den_int_ne a) (den_int_ne b)) (by
  rw [Rat.intCast_mul, Rat.intCast_mul, rat_num a, rat_num b]
  grind)
 refine ⟨K, fun k hk => ?_⟩
 simp only [impl_frac_times.f]
 rw [w64 (by omega) (by omega), w64 (by omega) (by omega), e k hk]
 rfl
theorem over_rat {a b : Rat} {N D N' D' : Nat} (hb0 : b ≠ 0) (ha : Bd a N D) (hb : Bd b N' D') (h1 : N * D' ≤ 9223372036854775807) (h2 : D * N' ≤ 9223372036854775807) :
 ∃ K, ∀ k, K ≤ k → impl_frac_over.f k a.num (a.den : Int) b.num (b.den : Int) = some ((a / b).num, ((a / b).den : Int)) := by
 have m1 := mul_le_of (y := (b.den : Int)) (B := D') ha.num (by simpa using hb.den)
 have m2 := mul_le_of (x := (a.den : Int)) (A := D) (by simpa using ha.den) hb.num
 have hbn : b.num ≠ 0 := fun e => hb0 (by
  have h := rat_num b
  rw [e] at h
  rcases Rat.mul_eq_zero.1 h.symm with h | h
  · exact h
  · exact absurd h (rat_den_ne b))
 obtain ⟨K, e⟩ := lowest_rat (q := a / b) (n := a.num * (b.den : Int)) (d := (a.den : Int) * b.num) (by omega) (by omega) (Int.mul_ne_zero (den_int_ne a) hbn) (by
  rw [Rat.intCast_mul, Rat.intCast_mul, rat_num a, rat_num b]
  grind)
 refine ⟨K, fun k hk => ?_⟩
 simp only [impl_frac_over.f]
 rw [w64 (by omega) (by omega), w64 (by omega) (by omega), e k hk]
 rfl
theorem minus_rat {a b : Rat} {N D N' D' : Nat} (ha : Bd a N D) (hb : Bd b N' D') (h1 : N * D' + N' * D ≤ 9223372036854775807) (h2 : D * D' ≤ 9223372036854775807) :
 ∃ K, ∀ k, K ≤ k → impl_frac_minus.f k a.num (a.den : Int) b.num (b.den : Int) = some ((a - b).num, ((a - b).den : Int)) := by
 have m1 := mul_le_of (y := (b.den : Int)) (B := D') ha.num (by simpa using hb.den)
 have m3 := mul_le_of (y := (a.den : Int)) (B := D) hb.num (by simpa using ha.den)
 have m2 := mul_le_of (x := (a.den : Int)) (y := (b.den : Int)) (A := D) (B := D') (by simpa using ha.den) (by simpa using hb.den)
 obtain ⟨K, e⟩ := lowest_rat (q := a - b) (n := a.num * (b.den : Int) - b.num * (a.den : Int)) (d := (a.den : Int) * (b.den : Int)) (by omega) (by omega) (Int.mul_ne_zero (den_int_ne a) (den_int_ne b)) (by
  rw [Rat.intCast_sub, Rat.intCast_mul, Rat.intCast_mul, Rat.intCast_mul, rat_num a, rat_num b]
  grind)
 refine ⟨K, fun k hk => ?_⟩
 simp only [impl_frac_minus.f]
 rw [w64 (x := a.num * (b.den : Int)) (by omega) (by omega), w64 (x := b.num * (a.den : Int)) (by omega) (by omega), w64 (x := (a.den : Int) * (b.den : Int)) (by omega) (by omega), w64 (by omega) (by omega), e k hk]
 rfl
def sm : Nat → (Nat → Rat) → Rat
 | 0, _ => 0
 | n + 1, f => sm n f + f n
theorem sm_congr {n : Nat} {f g : Nat → Rat} (h : ∀ c, c < n → f c = g c) : sm n f = sm n g := by
 induction n with
 | zero => rfl
 | succ n ih => rw [sm, sm, ih (fun c hc => h c (by omega)), h n (by omega)]
theorem sm_zero {n : Nat} {f : Nat → Rat} (h : ∀ c, c < n → f c = 0) : sm n f = 0 := by
 induction n with
 | zero => rfl
 | succ n ih => rw [sm, ih (fun c hc => h c (by omega)), h n (by omega)]; exact Rat.add_zero 0
theorem sm_add (n : Nat) (f g : Nat → Rat) : sm n (fun c => f c + g c) = sm n f + sm n g := by
 induction n with
 | zero => simp only [sm]; grind
 | succ n ih => simp only [sm, ih]; grind
theorem sm_mul (n : Nat) (q : Rat) (f : Nat → Rat) : sm n (fun c => q * f c) = q * sm n f := by
 induction n with
 | zero => simp only [sm]; grind
 | succ n ih => simp only [sm, ih]; grind
theorem sm_le {n : Nat} {f g : Nat → Rat} (h : ∀ c, c < n → f c ≤ g c) : sm n f ≤ sm n g := by
 induction n with
 | zero => exact Rat.le_refl
 | succ n ih =>
  have h1 := ih (fun c hc => h c (by omega))
  have h2 := h n (by omega)
  simp only [sm]
  grind
theorem sm_one {n : Nat} {f : Nat → Rat} {c : Nat} (hc : c < n) (h : ∀ j, j < n → j ≠ c → f j = 0) : sm n f = f c := by
 induction n with
 | zero => omega
 | succ n ih =>
  rw [sm]
  by_cases e : c = n
  · subst e
    rw [sm_zero (fun j hj => h j (by omega) (by omega))]
    grind
  · rw [ih (by omega) (fun j hj => h j (by omega)), h n (by omega) (by omega)]
    grind
theorem sm_two {n i c : Nat} {f : Nat → Rat} (hi : i ≤ c) (hc : c < n) (h : ∀ j, i ≤ j → j < n → j ≠ c → f j = 0) : sm n f = sm i f + f c := by
 induction n with
 | zero => omega
 | succ n ih =>
  rw [sm]
  by_cases e : c = n
  · subst e
    have : sm c f = sm i f := by
     clear ih hc
     have hk : ∀ k, i ≤ k → k ≤ c → sm k f = sm i f := by
      intro k
      induction k with
      | zero =>
       intro h1 _
       have : i = 0 := by omega
       subst this
       rfl
      | succ k ih =>
       intro h1 h2
       by_cases e : i = k + 1
       · rw [e]
       · rw [sm, ih (by omega) (by omega), h k (by omega) (by omega) (by omega)]
         grind
     exact hk c hi (Nat.le_refl _)
    rw [this]
  · rw [ih (by omega) (fun j h1 h2 => h j h1 (by omega)), h n (by omega) (by omega) (by omega)]
    grind
def Rm (A : Nat → Nat → Rat) : Nat → Nat → Nat → Rat
 | 0, k, c => A k c
 | i + 1, k, c => if k = i then Rm A i i c else Rm A i k c - (Rm A i k i / Rm A i i i) * Rm A i i c
theorem Rm_succ_ne (A : Nat → Nat → Rat) {i k : Nat} (h : k ≠ i) (c : Nat) : Rm A (i + 1) k c = Rm A i k c - (Rm A i k i / Rm A i i i) * Rm A i i c := by
 rw [Rm, if_neg h]
theorem Rm_succ_eq (A : Nat → Nat → Rat) (i c : Nat) : Rm A (i + 1) i c = Rm A i i c := by
 rw [Rm, if_pos rfl]
theorem sm_comb (m : Nat) (x y v : Nat → Rat) (q : Rat) : sm m (fun c => (x c - q * y c) * v c) = sm m (fun c => x c * v c) - q * sm m (fun c => y c * v c) := by
 induction m with
 | zero => simp only [sm]; grind
 | succ n ih => simp only [sm, ih]; grind
theorem Rm_orth (A : Nat → Nat → Rat) (m : Nat) (v : Nat → Rat) : ∀ i, (∀ k, k < i → sm m (fun c => A k c * v c) = 0) →
 (∀ k, k < i → sm m (fun c => Rm A i k c * v c) = 0) ∧ ∀ k, i ≤ k → sm m (fun c => Rm A i k c * v c) = sm m (fun c => A k c * v c) := by
 intro i
 induction i with
 | zero => exact fun _ => ⟨fun k hk => by omega, fun k _ => rfl⟩
 | succ i ih =>
  intro h
  obtain ⟨h1, h2⟩ := ih (fun k hk => h k (by omega))
  have h3 : sm m (fun c => Rm A i i c * v c) = 0 := (h2 i (Nat.le_refl _)).trans (h i (by omega))
  have h4 : ∀ k, k ≠ i → sm m (fun c => Rm A (i + 1) k c * v c) = sm m (fun c => Rm A i k c * v c) := by
   intro k hk
   rw [sm_congr (g := fun c => (Rm A i k c - (Rm A i k i / Rm A i i i) * Rm A i i c) * v c) (fun c _ => by rw [Rm_succ_ne A hk]), sm_comb, h3]
   grind
  refine ⟨fun k hk => ?_, fun k hk => ?_⟩
  · by_cases e : k = i
    · subst e
      rw [← h3]
      exact sm_congr fun c _ => by rw [Rm_succ_eq]
    · rw [h4 k e]; exact h1 k (by omega)
  · rw [h4 k (by omega)]; exact h2 k (by omega)
theorem Rm_back (A : Nat → Nat → Rat) (m : Nat) (v : Nat → Rat) : ∀ i, (∀ k, k < i → sm m (fun c => Rm A i k c * v c) = 0) → ∀ k, k < i → sm m (fun c => A k c * v c) = 0 := by
 intro i
 induction i with
 | zero => intro _ k hk; omega
 | succ i ih =>
  intro h
  have h3 : sm m (fun c => Rm A i i c * v c) = 0 := by
   rw [← h i (by omega)]
   exact sm_congr fun c _ => by rw [Rm_succ_eq]
  have h4 : ∀ k, k < i → sm m (fun c => A k c * v c) = 0 := ih (fun k hk => by
   have := h k (by omega)
   rw [sm_congr (g := fun c => (Rm A i k c - (Rm A i k i / Rm A i i i) * Rm A i i c) * v c) (fun c _ => by rw [Rm_succ_ne A (by omega)]), sm_comb, h3] at this
   grind)
  intro k hk
  by_cases e : k = i
  · subst e
    rw [← (Rm_orth A m v k h4).2 k (Nat.le_refl _)]
    exact h3
  · exact h4 k (by omega)
theorem Rm_zero (A : Nat → Nat → Rat) : ∀ i, (∀ j, j < i → Rm A j j j ≠ 0) → (∀ k j, j < i → k ≠ j → Rm A i k j = 0) ∧ ∀ j, j < i → Rm A i j j = Rm A j j j := by
 intro i
 induction i with
 | zero => exact fun _ => ⟨fun k j hj => by omega, fun j hj => by omega⟩
 | succ i ih =>
  intro h
  obtain ⟨h1, h2⟩ := ih (fun j hj => h j (by omega))
  refine ⟨fun k j hj hk => ?_, fun j hj => ?_⟩
  · by_cases e : k = i
    · subst e
      rw [Rm_succ_eq]
      exact h1 _ _ (by omega) hk
    · rw [Rm_succ_ne A e]
      by_cases ej : j = i
      · subst ej
        have := h j (by omega)
        rw [Rat.div_mul_cancel this]
        grind
      · rw [h1 k j (by omega) hk, h1 i j (by omega) (by omega)]
        grind
  · by_cases e : j = i
    · subst e
      rw [Rm_succ_eq]
    · rw [Rm_succ_ne A e, h1 i j (by omega) (by omega), h2 j (by omega)]
      grind
theorem rd_get {xs : List Int} {j : Nat} (h : j < xs.length) : rd xs (j : Int) = xs[j] := by
 unfold rd
 rw [Int.toNat_natCast, List.getD_eq_getElem?_getD, List.getElem?_eq_getElem h]
 rfl
theorem rd1_get {xs : List (List Int)} {j : Nat} (h : j < xs.length) : rd_L1 xs (j : Int) = xs[j] := by
 unfold rd_L1
 rw [Int.toNat_natCast, List.getD_eq_getElem?_getD, List.getElem?_eq_getElem h]
 rfl
def qn (q : Rat) : S67 := ⟨q.num, (q.den : Int)⟩
def rowq (m : Nat) (g : Nat → Rat) : List S67 := (List.range m).map (fun c => qn (g c))
theorem rowq_len (m : Nat) (g : Nat → Rat) : (rowq m g).length = m := by simp [rowq]
theorem rowq_get {m c : Nat} (h : c < m) (g : Nat → Rat) : rd_T67 (rowq m g) (c : Int) = qn (g c) := by
 show (rowq m g).getD (c : Int).toNat _ = _
 rw [Int.toNat_natCast, List.getD_eq_getElem?_getD, rowq, List.getElem?_map, List.getElem?_range h]
 rfl
theorem rowq_congr {m : Nat} {g g' : Nat → Rat} (h : ∀ c, c < m → g c = g' c) : rowq m g = rowq m g' := by
 unfold rowq
 refine List.map_congr_left fun c hc => ?_
 rw [h c (List.mem_range.1 hc)]
theorem rowq_set {m c : Nat} (g : Nat → Rat) (v : Rat) : (rowq m g).set c (qn v) = rowq m (fun c' => if c' = c then v else g c') := by
 apply List.ext_getElem?
 intro q
 unfold rowq
 rw [List.getElem?_set]
 by_cases e : c = q
 · subst e
   rw [if_pos rfl]
   by_cases h : c < m
   · rw [if_pos (by simpa using h), List.getElem?_map, List.getElem?_range h]
     simp
   · rw [if_neg (by simpa using h), List.getElem?_map, List.getElem?_eq_none (by simp; omega)]
     rfl
 · rw [if_neg e, List.getElem?_map, List.getElem?_map]
   by_cases h : q < m
   · rw [List.getElem?_range h]
     simp [show q ≠ c from fun e2 => e e2.symm]
   · rw [List.getElem?_eq_none (by simp; omega)]
     rfl
def matq (n m : Nat) (F : Nat → Nat → Rat) : List (List S67) := (List.range n).map (fun k => rowq m (F k))
theorem matq_len (n m : Nat) (F : Nat → Nat → Rat) : (matq n m F).length = n := by simp [matq]
theorem matq_get {n m k : Nat} (h : k < n) (F : Nat → Nat → Rat) : (matq n m F).getD k [] = rowq m (F k) := by
 rw [List.getD_eq_getElem?_getD, matq, List.getElem?_map, List.getElem?_range h]
 rfl
theorem matq_congr {n m : Nat} {F F' : Nat → Nat → Rat} (h : ∀ k c, k < n → c < m → F k c = F' k c) : matq n m F = matq n m F' := by
 unfold matq
 refine List.map_congr_left fun k hk => ?_
 exact rowq_congr fun c hc => h k c (List.mem_range.1 hk) hc
theorem matq_set {n m j : Nat} (F : Nat → Nat → Rat) (g : Nat → Rat) : (matq n m F).set j (rowq m g) = matq n m (fun k => if k = j then g else F k) := by
 apply List.ext_getElem?
 intro q
 unfold matq
 rw [List.getElem?_set]
 by_cases e : j = q
 · subst e
   rw [if_pos rfl]
   by_cases h : j < n
   · rw [if_pos (by simpa using h), List.getElem?_map, List.getElem?_range h]
     simp
   · rw [if_neg (by simpa using h), List.getElem?_map, List.getElem?_eq_none (by simp; omega)]
     rfl
 · rw [if_neg e, List.getElem?_map, List.getElem?_map]
   by_cases h : q < n
   · rw [List.getElem?_range h]
     simp [show q ≠ j from fun e2 => e e2.symm]
   · rw [List.getElem?_eq_none (by simp; omega)]
     rfl
def Fo (x y : Rat) : Prop := ∃ N D N' D' : Nat, Bd x N D ∧ Bd y N' D' ∧ N * D' ≤ 9223372036854775807 ∧ D * N' ≤ 9223372036854775807
def Ft (x y : Rat) : Prop := ∃ N D N' D' : Nat, Bd x N D ∧ Bd y N' D' ∧ N * N' ≤ 9223372036854775807 ∧ D * D' ≤ 9223372036854775807
def Fm (x y : Rat) : Prop := ∃ N D N' D' : Nat, Bd x N D ∧ Bd y N' D' ∧ N * D' + N' * D ≤ 9223372036854775807 ∧ D * D' ≤ 9223372036854775807
theorem nsucc {n : Nat} (h : n ≤ 1000000) : wrap64 ((n : Int) + 1) = ((n + 1 : Nat) : Int) := by
 rw [w64 (by omega) (by omega)]
 omega
theorem qn_zero {q : Rat} : (qn q).f0 = 0 ↔ q = 0 := Rat.num_eq_zero
theorem solved_l3 {m : Nat} (hm : m ≤ 1000) (b : Rat) (P X : Nat → Rat) (h1 : ∀ c, c < m → Ft b (P c)) (h2 : ∀ c, c < m → Fm (X c) (b * P c)) :
 ∀ (d c : Nat), c + d = m → ∃ K, ∀ k, K ≤ k → impl_solved.l3 k (qn b) (rowq m P) (m : Int) c (rowq m (fun q => if q < c then X q - b * P q else X q)) = some (rowq m (fun q => X q - b * P q)) := by
 intro d
 induction d with
 | zero =>
  intro c hc
  refine ⟨1, fun k hk => ?_⟩
  obtain ⟨k, rfl⟩ : ∃ q, k = q + 1 := ⟨k - 1, by omega⟩
  rw [impl_solved.l3, if_neg (by omega)]
  congr 1
  exact rowq_congr fun q hq => if_pos (by omega)
 | succ d ih =>
  intro c hc
  obtain ⟨K0, e0⟩ := ih (c + 1) (by omega)
  have hcm : c < m := by omega
  obtain ⟨N, D, N', D', b1, b2, b3, b4⟩ := h1 c hcm
  obtain ⟨K1, e1⟩ := times_rat b1 b2 b3 b4
  obtain ⟨N, D, N', D', b1, b2, b3, b4⟩ := h2 c hcm
  obtain ⟨K2, e2⟩ := minus_rat b1 b2 b3 b4
  refine ⟨K0 + K1 + K2 + 1, fun k hk => ?_⟩
  obtain ⟨k, rfl⟩ : ∃ q, k = q + 1 := ⟨k - 1, by omega⟩
  have e1' := e1 k (by omega)
  have e2' := e2 k (by omega)
  have e0' := e0 k (by omega)
  have ex : rd_T67 (rowq m (fun q => if q < c then X q - b * P q else X q)) (c : Int) = qn (X c) := by
   rw [rowq_get hcm, if_neg (by omega)]
  rw [impl_solved.l3, if_pos (by omega), if_pos (by omega), rowq_get hcm P, ex]
  show ((impl_frac_times.f k b.num (b.den : Int) (P c).num ((P c).den : Int)).bind _) = _
  rw [e1']
  simp only [Option.bind_some]
  show ((impl_frac_minus.f k (X c).num ((X c).den : Int) (b * P c).num ((b * P c).den : Int)).bind _) = _
  rw [e2']
  simp only [Option.bind_some]
  rw [nsucc (by omega), Int.toNat_natCast]
  have es : (rowq m (fun q => if q < c then X q - b * P q else X q)).set c (⟨(X c - b * P c).num, ((X c - b * P c).den : Int)⟩ : S67) = rowq m (fun q => if q < c + 1 then X q - b * P q else X q) := by
   rw [show (⟨(X c - b * P c).num, ((X c - b * P c).den : Int)⟩ : S67) = qn (X c - b * P c) from rfl, rowq_set]
   refine rowq_congr fun q hq => ?_
   by_cases e : q = c
   · subst e
     rw [if_pos rfl, if_pos (by omega)]
   · rw [if_neg e]
     by_cases h : q < c
     · rw [if_pos h, if_pos (by omega)]
     · rw [if_neg h, if_neg (by omega)]
  rw [es]
  exact e0'
structure Sfit (A : Nat → Nat → Rat) (n i : Nat) : Prop where
 piv : Rm A i i i ≠ 0
 over : ∀ j, j < n → j ≠ i → Fo (Rm A i j i) (Rm A i i i)
 times : ∀ j c, j < n → j ≠ i → c < n + 1 → Ft (Rm A i j i / Rm A i i i) (Rm A i i c)
 minus : ∀ j c, j < n → j ≠ i → c < n + 1 → Fm (Rm A i j c) (Rm A i j i / Rm A i i i * Rm A i i c)
theorem solved_l2 {A : Nat → Nat → Rat} {n i : Nat} (hn : n ≤ 100) (hi : i < n) (h : Sfit A n i) :
 ∀ (d j : Nat), j + d = n → ∃ K, ∀ k, K ≤ k → impl_solved.l2 k (n : Int) (i : Int) (j : Int) (matq n (n + 1) (fun q c => if q < j then Rm A (i + 1) q c else Rm A i q c)) = some (matq n (n + 1) (Rm A (i + 1))) := by
 intro d
 induction d with
 | zero =>
  intro j hj
  refine ⟨1, fun k hk => ?_⟩
  obtain ⟨k, rfl⟩ : ∃ q, k = q + 1 := ⟨k - 1, by omega⟩
  rw [impl_solved.l2, if_neg (by omega)]
  congr 1
  exact matq_congr fun q c hq _ => if_pos (by omega)
 | succ d ih =>
  intro j hj
  obtain ⟨K0, e0⟩ := ih (j + 1) (by omega)
  have hjn : j < n := by omega
  have gj : (matq n (n + 1) (fun q c => if q < j then Rm A (i + 1) q c else Rm A i q c)).getD j [] = rowq (n + 1) (Rm A i j) := by
   rw [matq_get hjn]
   exact rowq_congr fun c _ => if_neg (by omega)
  have same : (∀ c, c < n + 1 → Rm A (i + 1) j c = Rm A i j c) → matq n (n + 1) (fun q c => if q < j then Rm A (i + 1) q c else Rm A i q c) = matq n (n + 1) (fun q c => if q < j + 1 then Rm A (i + 1) q c else Rm A i q c) := by
   intro hs
   refine matq_congr fun q c hq hc => ?_
   by_cases e : q = j
   · subst e
     rw [if_neg (by omega), if_pos (by omega), hs c hc]
   · by_cases h : q < j
     · rw [if_pos h, if_pos (by omega)]
     · rw [if_neg h, if_neg (by omega)]
  by_cases cji : j = i
  · refine ⟨K0 + 1, fun k hk => ?_⟩
    obtain ⟨k, rfl⟩ : ∃ q, k = q + 1 := ⟨k - 1, by omega⟩
    rw [impl_solved.l2, if_pos (by omega), if_pos (by omega), if_pos (by omega), nsucc (by omega), same (fun c _ => by rw [cji, Rm_succ_eq])]
    exact e0 k (by omega)
  · have gi : (matq n (n + 1) (fun q c => if q < j then Rm A (i + 1) q c else Rm A i q c)).getD i [] = rowq (n + 1) (Rm A i i) := by
     rw [matq_get hi]
     refine rowq_congr fun c _ => ?_
     split
     · rw [Rm_succ_eq]
     · rfl
    by_cases cz : Rm A i j i = 0
    · refine ⟨K0 + 1, fun k hk => ?_⟩
      obtain ⟨k, rfl⟩ : ∃ q, k = q + 1 := ⟨k - 1, by omega⟩
      rw [impl_solved.l2, if_pos (by omega), if_pos (by omega), if_neg (by omega), Int.toNat_natCast, gj, rowq_get (by omega), if_pos (qn_zero.2 cz), nsucc (by omega), same (fun c _ => by rw [Rm_succ_ne A cji, cz]; grind)]
      exact e0 k (by omega)
    · obtain ⟨N, D, N', D', b1, b2, b3, b4⟩ := h.over j hjn cji
      obtain ⟨K1, e1⟩ := over_rat h.piv b1 b2 b3 b4
      obtain ⟨K2, e2⟩ := solved_l3 (m := n + 1) (by omega) (Rm A i j i / Rm A i i i) (Rm A i i) (Rm A i j) (fun c hc => h.times j c hjn cji hc) (fun c hc => h.minus j c hjn cji hc) (n + 1) 0 (by omega)
      refine ⟨K0 + K1 + K2 + 1, fun k hk => ?_⟩
      obtain ⟨k, rfl⟩ : ∃ q, k = q + 1 := ⟨k - 1, by omega⟩
      rw [impl_solved.l2, if_pos (by omega), if_pos (by omega), if_neg (by omega), Int.toNat_natCast, Int.toNat_natCast, gj, gi, rowq_get (by omega), rowq_get (by omega), if_neg (fun e => cz (qn_zero.1 e))]
      have e1' := e1 k (by omega)
      have e2' := e2 k (by omega)
      have e0' := e0 k (by omega)
      show ((impl_frac_over.f k (Rm A i j i).num ((Rm A i j i).den : Int) (Rm A i i i).num ((Rm A i i i).den : Int)).bind _) = _
      rw [e1']
      simp only [Option.bind_some]
      rw [rowq_len, show (⟨(Rm A i j i / Rm A i i i).num, ((Rm A i j i / Rm A i i i).den : Int)⟩ : S67) = qn (Rm A i j i / Rm A i i i) from rfl]
      rw [show rowq (n + 1) (Rm A i j) = rowq (n + 1) (fun q => if q < 0 then Rm A i j q - Rm A i j i / Rm A i i i * Rm A i i q else Rm A i j q) from rowq_congr fun c _ => (if_neg (by omega)).symm]
      rw [show ((0 : Int)) = ((0 : Nat) : Int) from rfl, e2']
      simp only [Option.bind_some]
      rw [nsucc (by omega), matq_set]
      have em : matq n (n + 1) (fun k => if k = j then (fun q => Rm A i j q - Rm A i j i / Rm A i i i * Rm A i i q) else (fun c => if k < j then Rm A (i + 1) k c else Rm A i k c)) = matq n (n + 1) (fun q c => if q < j + 1 then Rm A (i + 1) q c else Rm A i q c) := by
       refine matq_congr fun q c hq hc => ?_
       by_cases e : q = j
       · subst e
         rw [if_pos rfl, if_pos (by omega), Rm_succ_ne A cji]
       · rw [if_neg e]
         by_cases h : q < j
         · rw [if_pos h, if_pos (by omega)]
         · rw [if_neg h, if_neg (by omega)]
      rw [em]
      exact e0'
theorem solved_l0 {A : Nat → Nat → Rat} {n : Nat} (hn : n ≤ 100) (h : ∀ i, i < n → Sfit A n i) :
 ∀ (d i : Nat), i + d = n → ∃ K, ∀ k, K ≤ k → impl_solved.l0 k (n : Int) (i : Int) (matq n (n + 1) (Rm A i)) = some (matq n (n + 1) (Rm A n)) := by
 intro d
 induction d with
 | zero =>
  intro i hi
  refine ⟨1, fun k hk => ?_⟩
  obtain ⟨k, rfl⟩ : ∃ q, k = q + 1 := ⟨k - 1, by omega⟩
  rw [impl_solved.l0, if_neg (by omega), show i = n by omega]
 | succ d ih =>
  intro i hi
  obtain ⟨K0, e0⟩ := ih (i + 1) (by omega)
  have hin : i < n := by omega
  obtain ⟨K1, e1⟩ := solved_l2 hn hin (h i hin) n 0 (by omega)
  refine ⟨K0 + K1 + 1, fun k hk => ?_⟩
  obtain ⟨k, rfl⟩ : ∃ q, k = q + 1 := ⟨k - 1, by omega⟩
  have e1' := e1 k (by omega)
  rw [show matq n (n + 1) (fun q c => if q < 0 then Rm A (i + 1) q c else Rm A i q c) = matq n (n + 1) (Rm A i) from matq_congr fun q c _ _ => if_neg (by omega)] at e1'
  rw [impl_solved.l0, if_pos (by omega), if_pos (by omega), Int.toNat_natCast, matq_get hin, rowq_get (by omega), if_neg (fun e => (h i hin).piv (qn_zero.1 e)), show ((0 : Int)) = ((0 : Nat) : Int) from rfl, e1']
  simp only [Option.bind_some]
  rw [nsucc (by omega)]
  exact e0 k (by omega)
theorem solved_l4 {B : Nat → Nat → Rat} {n : Nat} (hn : n ≤ 100) (h0 : ∀ i, i < n → B i i ≠ 0) (h : ∀ i, i < n → Fo (B i n) (B i i)) :
 ∀ (d i : Nat), i + d = n → ∃ K, ∀ k, K ≤ k → ∀ x : List S67, x.length = n → (∀ q, q < i → x[q]? = some (qn (B q n / B q q))) → impl_solved.l4 k (n : Int) (matq n (n + 1) B) (i : Int) x = some (rowq n (fun q => B q n / B q q)) := by
 intro d
 induction d with
 | zero =>
  intro i hi
  refine ⟨1, fun k hk x hx hq => ?_⟩
  obtain ⟨k, rfl⟩ : ∃ q, k = q + 1 := ⟨k - 1, by omega⟩
  rw [impl_solved.l4, if_neg (by omega)]
  congr 1
  apply List.ext_getElem?
  intro q
  by_cases e : q < n
  · rw [hq q (by omega), rowq, List.getElem?_map, List.getElem?_range e]
    rfl
  · rw [List.getElem?_eq_none (by omega), List.getElem?_eq_none (by rw [rowq_len]; omega)]
 | succ d ih =>
  intro i hi
  obtain ⟨K0, e0⟩ := ih (i + 1) (by omega)
  have hin : i < n := by omega
  obtain ⟨N, D, N', D', b1, b2, b3, b4⟩ := h i hin
  obtain ⟨K1, e1⟩ := over_rat (h0 i hin) b1 b2 b3 b4
  refine ⟨K0 + K1 + 1, fun k hk x hx hq => ?_⟩
  obtain ⟨k, rfl⟩ : ∃ q, k = q + 1 := ⟨k - 1, by omega⟩
  have e1' := e1 k (by omega)
  rw [impl_solved.l4, if_pos (by omega), if_pos (by omega), Int.toNat_natCast, matq_get hin, rowq_get (by omega), rowq_get (by omega)]
  show ((impl_frac_over.f k (B i n).num ((B i n).den : Int) (B i i).num ((B i i).den : Int)).bind _) = _
  rw [e1']
  simp only [Option.bind_some]
  rw [nsucc (by omega)]
  refine e0 k (by omega) _ (by rw [List.length_set]; exact hx) (fun q hqi => ?_)
  by_cases e : q = i
  · subst e
    rw [List.getElem?_set_self (by omega)]
    rfl
  · rw [List.getElem?_set_ne (by omega)]
    exact hq q (by omega)
theorem solved_ev {A : Nat → Nat → Rat} {n : Nat} (hn : n ≤ 100) (hp : 0 < n) (h : ∀ i, i < n → Sfit A n i) (h4 : ∀ i, i < n → Fo (Rm A n i n) (Rm A n i i)) :
 ∃ K, ∀ k, K ≤ k → impl_solved.f k (matq n (n + 1) A) = some (rowq n (fun q => Rm A n q n / Rm A n q q)) := by
 obtain ⟨z1, z2⟩ := Rm_zero A n (fun j hj => (h j hj).piv)
 obtain ⟨K0, e0⟩ := solved_l0 hn h n 0 (by omega)
 obtain ⟨K1, e1⟩ := solved_l4 (B := Rm A n) hn (fun i hi => by rw [z2 i hi]; exact (h i hi).piv) h4 n 0 (by omega)
 refine ⟨K0 + K1, fun k hk => ?_⟩
 have e0' := e0 k (by omega)
 have hall : ∀ x ∈ matq n (n + 1) A, x.length = n + 1 := by
  intro x hx
  unfold matq at hx
  obtain ⟨q, _, rfl⟩ := List.mem_map.1 hx
  exact rowq_len _ _
 unfold impl_solved.f
 rw [matq_len, if_pos hall, if_pos hp, if_pos (by omega), show ((0 : Int)) = ((0 : Nat) : Int) from rfl, show matq n (n + 1) A = matq n (n + 1) (Rm A 0) from rfl, e0']
 simp only [Option.bind_some]
 exact e1 k (by omega) _ List.length_replicate (fun q hq => by omega)
def smi : Nat → (Nat → Int) → Int
 | 0, _ => 0
 | n + 1, f => smi n f + f n
def dt : Nat → (Nat → Nat → Int) → Int
 | 0, _ => 1
 | n + 1, f => smi (n + 1) (fun k => (if k % 2 = 0 then 1 else -1) * f 0 k * dt n (fun i j => f (i + 1) (if j < k then j else j + 1)))
def cr (n : Nat) (f : Nat → Nat → Int) (b : Nat → Int) (j : Nat) : Int := dt n (fun r s => if s = j then b r else f r s)
theorem dt1 (f : Nat → Nat → Int) : dt 1 f = f 0 0 := by
 simp [dt, smi]
theorem dt2 (f : Nat → Nat → Int) : dt 2 f = f 0 0 * f 1 1 - f 0 1 * f 1 0 := by
 simp [dt, smi]
 grind
theorem dt3 (f : Nat → Nat → Int) : dt 3 f = f 0 0 * (f 1 1 * f 2 2 - f 1 2 * f 2 1) - f 0 1 * (f 1 0 * f 2 2 - f 1 2 * f 2 0) + f 0 2 * (f 1 0 * f 2 1 - f 1 1 * f 2 0) := by
 simp [dt, smi]
 grind
def d3 (a b c d e f g h i : Int) : Int := a * (e * i - f * h) - b * (d * i - f * g) + c * (d * h - e * g)
theorem dt4 (f : Nat → Nat → Int) : dt 4 f = f 0 0 * d3 (f 1 1) (f 1 2) (f 1 3) (f 2 1) (f 2 2) (f 2 3) (f 3 1) (f 3 2) (f 3 3)
 - f 0 1 * d3 (f 1 0) (f 1 2) (f 1 3) (f 2 0) (f 2 2) (f 2 3) (f 3 0) (f 3 2) (f 3 3)
 + f 0 2 * d3 (f 1 0) (f 1 1) (f 1 3) (f 2 0) (f 2 1) (f 2 3) (f 3 0) (f 3 1) (f 3 3)
 - f 0 3 * d3 (f 1 0) (f 1 1) (f 1 2) (f 2 0) (f 2 1) (f 2 2) (f 3 0) (f 3 1) (f 3 2) := by
 rw [dt]
 simp only [smi, dt3, d3]
 simp
 grind
theorem lt_cases4 {i : Nat} (h : i ≤ 4) : i = 0 ∨ i = 1 ∨ i = 2 ∨ i = 3 ∨ i = 4 := by omega
theorem cramer (i : Nat) (hi : i ≤ 4) (f : Nat → Nat → Int) (b : Nat → Int) (k : Nat) (hk : k < i) : smi i (fun j => f k j * cr i f b j) = dt i f * b k := by
 rcases lt_cases4 hi with rfl | rfl | rfl | rfl | rfl
 · omega
 · obtain rfl : k = 0 := by omega
   simp [smi, cr, dt1]
 · have : k = 0 ∨ k = 1 := by omega
   rcases this with rfl | rfl <;>
   · simp [smi, cr, dt2]
     grind
 · have : k = 0 ∨ k = 1 ∨ k = 2 := by omega
   rcases this with rfl | rfl | rfl <;>
   · simp [smi, cr, dt3]
     grind
 · have : k = 0 ∨ k = 1 ∨ k = 2 ∨ k = 3 := by omega
   rcases this with rfl | rfl | rfl | rfl <;>
   · simp [smi, cr, dt4, d3]
     grind
theorem last_row (i : Nat) (hi : i ≤ 3) (f : Nat → Nat → Int) : f i i * dt i f - smi i (fun j => f i j * cr i f (fun r => f r i) j) = dt (i + 1) f := by
 rcases lt_cases4 (i := i) (by omega) with rfl | rfl | rfl | rfl | rfl
 · simp [smi, dt]
 · simp [smi, cr, dt1, dt2]
   grind
 · simp [smi, cr, dt2, dt3]
   grind
 · simp [smi, cr, dt3, dt4, d3]
   grind
 · omega
theorem cast_smi (n : Nat) (f : Nat → Int) : ((smi n f : Int) : Rat) = sm n (fun c => (f c : Rat)) := by
 induction n with
 | zero => rfl
 | succ n ih => rw [smi, sm, Rat.intCast_add, ih]
def Am (T : Nat → Nat → Int) (s : Nat → Int) (k c : Nat) : Rat := (T k c : Rat) / (s k : Rat)
def xc (T : Nat → Nat → Int) (i c j : Nat) : Int := cr i T (fun r => T r c) j
theorem stage {T : Nat → Nat → Int} {s : Nat → Int} {m i c : Nat} (hi : i ≤ 4) (hs : ∀ k, s k ≠ 0) (hp : ∀ j, j < i → Rm (Am T s) j j j ≠ 0) (hc : i ≤ c) (hm : c < m) :
 (∀ k, k < i → Rm (Am T s) i k c * (dt i T : Rat) = Rm (Am T s) k k k * (xc T i c k : Rat)) ∧
 ∀ k, i ≤ k → Rm (Am T s) i k c * (dt i T : Rat) * (s k : Rat) = ((T k c * dt i T - smi i (fun j => T k j * xc T i c j) : Int) : Rat) := by
 have hs' : ∀ k, ((s k : Int) : Rat) ≠ 0 := fun k h => hs k (Rat.intCast_inj.1 h)
 obtain ⟨v, hv⟩ : ∃ v : Nat → Rat, v = fun j => if j < i then (xc T i c j : Rat) else if j = c then -(dt i T : Rat) else 0 := ⟨_, rfl⟩
 have v1 : ∀ j, j < i → v j = (xc T i c j : Rat) := fun j hj => by rw [hv]; exact if_pos hj
 have v2 : v c = -(dt i T : Rat) := by rw [hv]; show (if c < i then _ else _) = _; rw [if_neg (by omega), if_pos rfl]
 have v3 : ∀ j, i ≤ j → j < m → j ≠ c → v j = 0 := fun j h1 h2 h3 => by rw [hv]; show (if j < i then _ else _) = _; rw [if_neg (by omega), if_neg h3]
 have hA : ∀ k, sm m (fun j => Am T s k j * v j) * (s k : Rat) = ((smi i (fun j => T k j * xc T i c j) - T k c * dt i T : Int) : Rat) := by
  intro k
  rw [sm_two hc hm (fun j h1 h2 h3 => by rw [v3 j h1 h2 h3]; exact Rat.mul_zero _), v2, Rat.intCast_sub, cast_smi, Rat.intCast_mul]
  have e1 : sm i (fun j => Am T s k j * v j) * (s k : Rat) = sm i (fun j => ((T k j * xc T i c j : Int) : Rat)) := by
   rw [Rat.mul_comm, ← sm_mul]
   refine sm_congr fun j hj => ?_
   rw [v1 j hj, Rat.intCast_mul]
   have := hs' k
   unfold Am
   grind
  have e2 : Am T s k c * (s k : Rat) = (T k c : Rat) := by
   have := hs' k
   unfold Am
   grind
  rw [Rat.add_mul, e1]
  have e3 : Am T s k c * -(dt i T : Rat) * (s k : Rat) = - (Am T s k c * (s k : Rat) * (dt i T : Rat)) := by grind
  rw [e3, e2]
  grind
 have hO : ∀ k, k < i → sm m (fun j => Am T s k j * v j) = 0 := by
  intro k hk
  have h := hA k
  rw [show smi i (fun j => T k j * xc T i c j) = dt i T * T k c from cramer i hi T (fun r => T r c) k hk] at h
  have h0 : ((dt i T * T k c - T k c * dt i T : Int) : Rat) = 0 := by rw [show dt i T * T k c - T k c * dt i T = 0 from by grind]; rfl
  rw [h0] at h
  rcases Rat.mul_eq_zero.1 h with h | h
  · exact h
  · exact absurd h (hs' k)
 obtain ⟨r1, r2⟩ := Rm_orth (Am T s) m v i hO
 obtain ⟨z1, z2⟩ := Rm_zero (Am T s) i hp
 refine ⟨fun k hk => ?_, fun k hk => ?_⟩
 · have h := r1 k hk
   rw [sm_two hc hm (fun j h1 h2 h3 => by rw [v3 j h1 h2 h3]; exact Rat.mul_zero _), sm_one hk (fun j h1 h2 => by rw [z1 k j h1 (by omega)]; exact Rat.zero_mul _), v1 k hk, v2, z2 k hk] at h
   grind
 · have h := r2 k hk
   rw [sm_two hc hm (fun j h1 h2 h3 => by rw [v3 j h1 h2 h3]; exact Rat.mul_zero _), sm_zero (fun j h1 => by rw [z1 k j h1 (by omega)]; exact Rat.zero_mul _), v2] at h
   have h5 := hA k
   rw [← h] at h5
   rw [Rat.intCast_sub] at h5 ⊢
   grind
theorem pivot_dt {T : Nat → Nat → Int} {s : Nat → Int} {i : Nat} (hi : i ≤ 3) (hs : ∀ k, s k ≠ 0) (hp : ∀ j, j < i → Rm (Am T s) j j j ≠ 0) :
 Rm (Am T s) i i i * (dt i T : Rat) * (s i : Rat) = (dt (i + 1) T : Rat) := by
 rw [(stage (m := i + 1) (by omega) hs hp (Nat.le_refl _) (by omega)).2 i (Nat.le_refl _), ← last_row i hi T]
 rfl
structure Mm (n : Nat) (T : Nat → Nat → Int) : Prop where
 off : ∀ r c, r < n → c < n → r ≠ c → T r c ≤ 0
 top : ∀ r, r < n → T r r ≤ 10
 max : ∀ i, i < n → ∀ v : Nat → Rat, v i = 1 → (∀ k, k ≤ i → sm (i + 1) (fun j => (T k j : Rat) * v j) ≤ 0) → False
theorem Mm.pivots {n : Nat} {T : Nat → Nat → Int} (h : Mm n T) {s : Nat → Int} (hs : ∀ k, 0 < s k) : ∀ i, i ≤ n →
 (∀ j, j < i → 0 < Rm (Am T s) j j j) ∧ (∀ k c, k < n → c < n → k ≠ c → i ≤ c → Rm (Am T s) i k c ≤ 0) ∧ ∀ k, k < n → i ≤ k → Rm (Am T s) i k k ≤ Am T s k k := by
 have hs' : ∀ k, 0 < ((s k : Int) : Rat) := fun k => by have := hs k; exact_mod_cast this
 intro i
 induction i with
 | zero =>
  intro _
  refine ⟨fun j hj => by omega, fun k c hk hc hkc _ => ?_, fun k _ _ => Rat.le_refl⟩
  show Am T s k c ≤ 0
  have h1 : ((T k c : Int) : Rat) ≤ 0 := by exact_mod_cast h.off k c hk hc hkc
  have h2 := hs' k
  have h3 : Am T s k c * (s k : Rat) = (T k c : Rat) := by unfold Am; grind
  rcases Rat.le_total (a := Am T s k c) (b := 0) with h4 | h4
  · exact h4
  · have := Rat.mul_nonneg h4 (Rat.le_of_lt h2)
    have h5 : Am T s k c * (s k : Rat) = 0 := by grind
    rcases Rat.mul_eq_zero.1 h5 with h6 | h6 <;> grind
 | succ i ih =>
  intro hi
  obtain ⟨h1, h2, h3⟩ := ih (by omega)
  obtain ⟨z1, z2⟩ := Rm_zero (Am T s) i (fun j hj => by have := h1 j hj; grind)
  have hp : 0 < Rm (Am T s) i i i := by
   by_cases hc : 0 < Rm (Am T s) i i i
   · exact hc
   · exfalso
     obtain ⟨v, hv⟩ : ∃ v : Nat → Rat, v = fun j => if j < i then -(Rm (Am T s) i j i / Rm (Am T s) i j j) else 1 := ⟨_, rfl⟩
     have v1 : ∀ j, j < i → v j = -(Rm (Am T s) i j i / Rm (Am T s) i j j) := fun j hj => by rw [hv]; exact if_pos hj
     have v2 : v i = 1 := by rw [hv]; exact if_neg (by omega)
     have ho : ∀ k, k < i → sm (i + 1) (fun j => Rm (Am T s) i k j * v j) = 0 := by
      intro k hk
      rw [sm, sm_one hk (fun j hj hjk => by rw [z1 k j hj (by omega)]; exact Rat.zero_mul _), v1 k hk, v2]
      have := h1 k hk
      rw [← z2 k hk] at this
      grind
     have hb := Rm_back (Am T s) (i + 1) v i ho
     have hl : sm (i + 1) (fun j => Am T s i j * v j) = Rm (Am T s) i i i := by
      rw [← (Rm_orth (Am T s) (i + 1) v i hb).2 i (Nat.le_refl _), sm, sm_zero (fun j hj => by rw [z1 i j hj (by omega)]; exact Rat.zero_mul _), v2]
      grind
     have hT : ∀ k, sm (i + 1) (fun j => (T k j : Rat) * v j) = (s k : Rat) * sm (i + 1) (fun j => Am T s k j * v j) := by
      intro k
      rw [← sm_mul]
      refine sm_congr fun j _ => ?_
      have := hs' k
      unfold Am
      grind
     refine h.max i (by omega) v v2 fun k hk => ?_
     rw [hT k]
     by_cases e : k = i
     · subst e
       rw [hl]
       have h4 := hs' k
       have h5 : 0 ≤ - Rm (Am T s) k k k := by grind
       have := Rat.mul_nonneg (Rat.le_of_lt h4) h5
       grind
     · rw [hb k (by omega)]
       grind
  have hq : ∀ k c, k < n → c < n → k ≠ i → i < c → Rm (Am T s) (i + 1) k c ≤ Rm (Am T s) i k c := by
   intro k c hk hc hki hic
   rw [Rm_succ_ne _ hki]
   have a1 := h2 k i hk (by omega) hki (Nat.le_refl _)
   have a2 := h2 i c (by omega) hc (by omega) (by omega)
   have a3 : 0 ≤ -Rm (Am T s) i k i / Rm (Am T s) i i i := by
    rw [Rat.div_def]
    exact Rat.mul_nonneg (by grind) (Rat.le_of_lt (Rat.inv_pos.2 hp))
   have a4 := Rat.mul_nonneg a3 (show 0 ≤ -Rm (Am T s) i i c by grind)
   grind
  refine ⟨fun j hj => ?_, fun k c hk hc hkc hic => ?_, fun k hk hik => ?_⟩
  · by_cases e : j = i
    · subst e; exact hp
    · exact h1 j (by omega)
  · by_cases e : k = i
    · subst e
      rw [Rm_succ_eq]
      exact h2 _ _ hk hc hkc (by omega)
    · exact Rat.le_trans (hq k c hk hc e (by omega)) (h2 k c hk hc hkc (by omega))
  · exact Rat.le_trans (hq k k hk hk (by omega) (by omega)) (h3 k hk (by omega))
theorem Mm.dts {n : Nat} {T : Nat → Nat → Int} (h : Mm n T) : ∀ i, i ≤ n → i ≤ 4 → 0 < dt i T ∧ dt i T ≤ 10 ^ i := by
 intro i
 induction i with
 | zero => intro _ _; simp [dt]
 | succ i ih =>
  intro hi h4
  obtain ⟨d1, d2⟩ := ih (by omega) (by omega)
  obtain ⟨p1, _, _⟩ := h.pivots (s := fun _ => 1) (fun _ => by decide) (i + 1) hi
  obtain ⟨_, _, p3⟩ := h.pivots (s := fun _ => 1) (fun _ => by decide) i (by omega)
  have e := pivot_dt (T := T) (s := fun _ => 1) (i := i) (by omega) (fun _ => by decide) (fun j hj => by have := p1 j (by omega); grind)
  have q1 := p1 i (by omega)
  have q2 := p3 i (by omega) (Nat.le_refl _)
  have q3 : Am T (fun _ => 1) i i = (T i i : Rat) := by unfold Am; grind
  have q4 : ((T i i : Int) : Rat) ≤ 10 := by exact_mod_cast h.top i (by omega)
  have e1 : Rm (Am T fun _ => 1) i i i * (dt i T : Rat) = (dt (i + 1) T : Rat) := by rw [← e]; grind
  have dd : 0 < (dt i T : Rat) := by exact_mod_cast d1
  constructor
  · have := Rat.mul_pos q1 dd
    rw [e1] at this
    exact_mod_cast this
  · have h5 : 0 ≤ (10 - Rm (Am T fun _ => 1) i i i) := by grind
    have h6 := Rat.mul_nonneg h5 (Rat.le_of_lt dd)
    have h7 : (dt (i + 1) T : Rat) ≤ 10 * (dt i T : Rat) := by grind
    have h8 : dt (i + 1) T ≤ 10 * dt i T := by exact_mod_cast h7
    have : (10 : Int) ^ (i + 1) = 10 * 10 ^ i := by rw [Int.pow_succ, Int.mul_comm]
    omega
def bnd : Nat → Nat
 | 0 => 1
 | n + 1 => (n + 1) * (10 * bnd n)
theorem smi_abs {n B : Nat} {f : Nat → Int} (h : ∀ c, c < n → (f c).natAbs ≤ B) : (smi n f).natAbs ≤ n * B := by
 induction n with
 | zero => simp [smi]
 | succ n ih =>
  have h1 := ih (fun c hc => h c (by omega))
  have h2 := h n (by omega)
  rw [smi, Nat.succ_mul]
  omega
theorem dt_abs : ∀ (n : Nat) (f : Nat → Nat → Int), (∀ r s, r < n → s < n → (f r s).natAbs ≤ 10) → (dt n f).natAbs ≤ bnd n := by
 intro n
 induction n with
 | zero => intro f _; simp [dt, bnd]
 | succ n ih =>
  intro f h
  rw [dt, bnd]
  refine smi_abs fun k hk => ?_
  have h1 := ih (fun i j => f (i + 1) (if j < k then j else j + 1)) (fun r s hr hs => h _ _ (by omega) (by split <;> omega))
  have h2 := h 0 k (by omega) hk
  rw [Int.natAbs_mul, Int.natAbs_mul]
  have h3 : (if k % 2 = 0 then (1 : Int) else -1).natAbs = 1 := by split <;> rfl
  rw [h3, Nat.one_mul]
  exact Nat.mul_le_mul h2 h1
theorem xc_abs {T : Nat → Nat → Int} {n i c j : Nat} (he : ∀ k c, k < n → c < n + 1 → (T k c).natAbs ≤ 10) (hi : i ≤ n) (hc : c < n + 1) : (xc T i c j).natAbs ≤ bnd i := by
 unfold xc cr
 refine dt_abs i _ fun r s hr hs => ?_
 show (if s = j then T r c else T r s).natAbs ≤ 10
 split
 · exact he r c (by omega) hc
 · exact he r s (by omega) (by omega)
theorem Bd.mul {a b : Rat} {N D N' D' : Nat} (ha : Bd a N D) (hb : Bd b N' D') : Bd (a * b) (N * N') (D * D') := by
 refine bd_of (n := a.num * b.num) (d := (a.den : Int) * (b.den : Int)) (Int.mul_ne_zero (den_int_ne a) (den_int_ne b)) ?_ (mul_le_of ha.num hb.num) (mul_le_of (by simpa using ha.den) (by simpa using hb.den))
 rw [Rat.intCast_mul, Rat.intCast_mul, rat_num a, rat_num b]
 grind
theorem castne {z : Int} (h : z ≠ 0) : ((z : Int) : Rat) ≠ 0 := fun e => h (Rat.intCast_inj.1 e)
section
variable {T : Nat → Nat → Int} {s : Nat → Int} {n i : Nat}
theorem row_up (hi : i ≤ 4) (hin : i ≤ n) (hs : ∀ k, s k ≠ 0) (hp : ∀ j, j < i → Rm (Am T s) j j j ≠ 0) (he : ∀ k c, k < n → c < n + 1 → (T k c).natAbs ≤ 10)
 (hd : ∀ j, j ≤ i → dt j T ≠ 0 ∧ (dt j T).natAbs ≤ 10 ^ j) {k c : Nat} (hk : k < i) (hc : i ≤ c) (hcn : c < n + 1) (hsk : (s k).natAbs ≤ 10) : Bd (Rm (Am T s) i k c) (10 ^ (k + 1) * bnd i) (10 ^ i * (10 ^ k * 10)) := by
 have h1 := (stage (m := n + 1) hi hs hp hc hcn).1 k hk
 have h2 := pivot_dt (T := T) (s := s) (i := k) (by omega) hs (fun j hj => hp j (by omega))
 refine bd_of (n := dt (k + 1) T * xc T i c k) (d := dt i T * (dt k T * s k)) (Int.mul_ne_zero (hd i (Nat.le_refl _)).1 (Int.mul_ne_zero (hd k (by omega)).1 (hs k))) ?_
  (mul_le_of (hd (k + 1) (by omega)).2 (xc_abs he hin hcn)) (mul_le_of (hd i (Nat.le_refl _)).2 (mul_le_of (hd k (by omega)).2 hsk))
 rw [Rat.intCast_mul, Rat.intCast_mul, Rat.intCast_mul, ← h2]
 grind
def mt (T : Nat → Nat → Int) (i k c : Nat) : Int := T k c * dt i T - smi i (fun j => T k j * xc T i c j)
theorem mt_abs (he : ∀ k c, k < n → c < n + 1 → (T k c).natAbs ≤ 10) (hin : i ≤ n) (hd : (dt i T).natAbs ≤ 10 ^ i) {k c : Nat} (hk : k < n) (hcn : c < n + 1) : (mt T i k c).natAbs ≤ 10 * 10 ^ i + i * (10 * bnd i) := by
 unfold mt
 have h1 : (T k c * dt i T).natAbs ≤ 10 * 10 ^ i := mul_le_of (he k c hk hcn) hd
 have h2 : (smi i (fun j => T k j * xc T i c j)).natAbs ≤ i * (10 * bnd i) := smi_abs fun j hj => mul_le_of (he k j hk (by omega)) (xc_abs he hin hcn)
 omega
theorem row_low (hi : i ≤ 4) (hin : i ≤ n) (hs : ∀ k, s k ≠ 0) (hp : ∀ j, j < i → Rm (Am T s) j j j ≠ 0) (he : ∀ k c, k < n → c < n + 1 → (T k c).natAbs ≤ 10)
 (hd : dt i T ≠ 0 ∧ (dt i T).natAbs ≤ 10 ^ i) {k c : Nat} (hk : i ≤ k) (hkn : k < n) (hc : i ≤ c) (hcn : c < n + 1) (hsk : (s k).natAbs ≤ 10) : Bd (Rm (Am T s) i k c) (10 * 10 ^ i + i * (10 * bnd i)) (10 ^ i * 10) := by
 have h1 := (stage (m := n + 1) hi hs hp hc hcn).2 k hk
 refine bd_of (n := mt T i k c) (d := dt i T * s k) (Int.mul_ne_zero hd.1 (hs k)) ?_ (mt_abs he hin hd.2 hkn hcn) (mul_le_of hd.2 hsk)
 rw [Rat.intCast_mul]
 unfold mt
 rw [← h1]
 grind
theorem piv_bd (hs : ∀ k, s k ≠ 0) {k : Nat} (hk : k ≤ 3) (hp : ∀ j, j < k → Rm (Am T s) j j j ≠ 0) (hd : ∀ j, j ≤ k + 1 → dt j T ≠ 0 ∧ (dt j T).natAbs ≤ 10 ^ j) (hsk : (s k).natAbs ≤ 10) : Bd (Rm (Am T s) k k k) (10 ^ (k + 1)) (10 ^ k * 10) := by
 have h2 := pivot_dt (T := T) (s := s) (i := k) hk hs hp
 refine bd_of (n := dt (k + 1) T) (d := dt k T * s k) (Int.mul_ne_zero (hd k (by omega)).1 (hs k)) ?_ (hd (k + 1) (by omega)).2 (mul_le_of (hd k (by omega)).2 hsk)
 rw [Rat.intCast_mul, ← h2]
 grind
theorem pow10 {a b : Nat} (h : a ≤ b) : 10 ^ a ≤ 10 ^ b := Nat.pow_le_pow_right (by decide) h
theorem bnd_le : ∀ {i : Nat}, i ≤ 3 → bnd i ≤ 6000 := by
 intro i h
 have : i = 0 ∨ i = 1 ∨ i = 2 ∨ i = 3 := by omega
 rcases this with rfl | rfl | rfl | rfl <;> decide
theorem ent_bd (hi : i ≤ 3) (hin : i < n) (hs : ∀ k, s k ≠ 0) (hs10 : ∀ k, (s k).natAbs ≤ 10) (hp : ∀ j, j < i → Rm (Am T s) j j j ≠ 0) (he : ∀ k c, k < n → c < n + 1 → (T k c).natAbs ≤ 10)
 (hd : ∀ j, j ≤ i + 1 → dt j T ≠ 0 ∧ (dt j T).natAbs ≤ 10 ^ j) {k c : Nat} (hk : k < n) (hc : c < n + 1) : Bd (Rm (Am T s) i k c) 6000000 1000000 := by
 obtain ⟨z1, z2⟩ := Rm_zero (Am T s) i hp
 by_cases h : i ≤ c
 · by_cases hki : k < i
   · refine (row_up (n := n) (by omega) (by omega) hs hp he (fun j hj => hd j (by omega)) hki h hc (hs10 k)).mono ?_ ?_
     · exact Nat.le_trans (Nat.mul_le_mul (pow10 (show k + 1 ≤ 3 by omega)) (bnd_le hi)) (by decide)
     · exact Nat.le_trans (Nat.mul_le_mul (pow10 hi) (Nat.mul_le_mul (pow10 (show k ≤ 2 by omega)) (Nat.le_refl 10))) (by decide)
   · refine (row_low (n := n) (by omega) (by omega) hs hp he (hd i (by omega)) (by omega) hk h hc (hs10 k)).mono ?_ ?_
     · exact Nat.le_trans (Nat.add_le_add (Nat.mul_le_mul (Nat.le_refl 10) (pow10 hi)) (Nat.mul_le_mul hi (Nat.mul_le_mul (Nat.le_refl 10) (bnd_le hi)))) (by decide)
     · exact Nat.le_trans (Nat.mul_le_mul (pow10 hi) (Nat.le_refl 10)) (by decide)
 · by_cases e : k = c
   · subst e
     rw [z2 k (by omega)]
     refine (piv_bd hs (by omega) (fun j hj => hp j (by omega)) (fun j hj => hd j (by omega)) (hs10 k)).mono ?_ ?_
     · exact Nat.le_trans (pow10 (show k + 1 ≤ 3 by omega)) (by decide)
     · exact Nat.le_trans (Nat.mul_le_mul (pow10 (show k ≤ 2 by omega)) (Nat.le_refl 10)) (by decide)
   · rw [z1 k c (by omega) e]
     exact bd_zero.mono (by decide) (by decide)
theorem piv_row (hi : i ≤ 3) (hin : i < n) (hs : ∀ k, s k ≠ 0) (hs10 : ∀ k, (s k).natAbs ≤ 10) (hp : ∀ j, j < i → Rm (Am T s) j j j ≠ 0) (he : ∀ k c, k < n → c < n + 1 → (T k c).natAbs ≤ 10)
 (hd : ∀ j, j ≤ i + 1 → dt j T ≠ 0 ∧ (dt j T).natAbs ≤ 10 ^ j) {c : Nat} (hc : c < n + 1) : Bd (Rm (Am T s) i i c) 190000 10000 := by
 obtain ⟨z1, z2⟩ := Rm_zero (Am T s) i hp
 by_cases h : i ≤ c
 · refine (row_low (n := n) (by omega) (by omega) hs hp he (hd i (by omega)) (Nat.le_refl _) hin h hc (hs10 i)).mono ?_ ?_
   · exact Nat.le_trans (Nat.add_le_add (Nat.mul_le_mul (Nat.le_refl 10) (pow10 hi)) (Nat.mul_le_mul hi (Nat.mul_le_mul (Nat.le_refl 10) (bnd_le hi)))) (by decide)
   · exact Nat.le_trans (Nat.mul_le_mul (pow10 hi) (Nat.le_refl 10)) (by decide)
 · rw [z1 i c (by omega) (by omega)]
   exact bd_zero.mono (by decide) (by decide)
theorem by_bd (hi : i ≤ 3) (hin : i < n) (hs : ∀ k, s k ≠ 0) (hs10 : ∀ k, (s k).natAbs ≤ 10) (hsi : ∀ j, j < i → s j = s i) (hp : ∀ j, j ≤ i → Rm (Am T s) j j j ≠ 0) (he : ∀ k c, k < n → c < n + 1 → (T k c).natAbs ≤ 10)
 (hd : ∀ j, j ≤ i + 1 → dt j T ≠ 0 ∧ (dt j T).natAbs ≤ 10 ^ j) {j : Nat} (hj : j < n) (hji : j ≠ i) : Bd (Rm (Am T s) i j i / Rm (Am T s) i i i) 6000000 1000000 := by
 have hpi := pivot_dt (T := T) (s := s) (i := i) hi hs (fun j hj => hp j (by omega))
 have hpn := hp i (Nat.le_refl _)
 have ds := castne (hd i (by omega)).1
 have ss := castne (hs i)
 by_cases h : j < i
 · have h1 := (stage (T := T) (s := s) (m := n + 1) (by omega) hs (fun j hj => hp j (by omega)) (Nat.le_refl i) (by omega)).1 j h
   have h2 := pivot_dt (T := T) (s := s) (i := j) (by omega) hs (fun q hq => hp q (by omega))
   have sj := hsi j h
   refine (bd_of (n := dt (j + 1) T * xc T i i j) (d := dt (i + 1) T * dt j T) (N := 10 ^ (j + 1) * bnd i) (D := 10 ^ (i + 1) * 10 ^ j) (Int.mul_ne_zero (hd (i + 1) (by omega)).1 (hd j (by omega)).1) ?_ (mul_le_of (hd (j + 1) (by omega)).2 (xc_abs he (by omega) (by omega))) (mul_le_of (hd (i + 1) (by omega)).2 (hd j (by omega)).2)).mono ?_ ?_
   · rw [Rat.intCast_mul, Rat.intCast_mul, ← hpi, ← h2, sj]
     have e : Rm (Am T s) i j i / Rm (Am T s) i i i * (Rm (Am T s) i i i * (dt i T : Rat) * (s i : Rat) * (dt j T : Rat)) = (Rm (Am T s) i j i * (dt i T : Rat)) * ((s i : Rat) * (dt j T : Rat)) := by grind
     rw [e, h1]
     grind
   · exact Nat.le_trans (Nat.mul_le_mul (pow10 (show j + 1 ≤ 3 by omega)) (bnd_le hi)) (by decide)
   · exact Nat.le_trans (Nat.mul_le_mul (pow10 (show i + 1 ≤ 4 by omega)) (pow10 (show j ≤ 2 by omega))) (by decide)
 · have h1 := (stage (T := T) (s := s) (m := n + 1) (by omega) hs (fun j hj => hp j (by omega)) (Nat.le_refl i) (by omega)).2 j (by omega)
   refine (bd_of (n := mt T i j i * s i) (d := dt (i + 1) T * s j) (N := (10 * 10 ^ i + i * (10 * bnd i)) * 10) (D := 10 ^ (i + 1) * 10) (Int.mul_ne_zero (hd (i + 1) (by omega)).1 (hs j)) ?_ (mul_le_of (mt_abs he (by omega) (hd i (by omega)).2 hj (by omega)) (hs10 i)) (mul_le_of (hd (i + 1) (by omega)).2 (hs10 j))).mono ?_ ?_
   · rw [Rat.intCast_mul, Rat.intCast_mul, ← hpi]
     unfold mt
     rw [← h1]
     grind
   · exact Nat.le_trans (Nat.mul_le_mul (Nat.add_le_add (Nat.mul_le_mul (Nat.le_refl 10) (pow10 hi)) (Nat.mul_le_mul hi (Nat.mul_le_mul (Nat.le_refl 10) (bnd_le hi)))) (Nat.le_refl 10)) (by decide)
   · exact Nat.le_trans (Nat.mul_le_mul (pow10 (show i + 1 ≤ 4 by omega)) (Nat.le_refl 10)) (by decide)
theorem stage_fit (hi : i ≤ 3) (hin : i < n) (hs : ∀ k, s k ≠ 0) (hs10 : ∀ k, (s k).natAbs ≤ 10) (hsi : ∀ j, j < i → s j = s i) (hp : ∀ j, j ≤ i → Rm (Am T s) j j j ≠ 0) (he : ∀ k c, k < n → c < n + 1 → (T k c).natAbs ≤ 10)
 (hd : ∀ j, j ≤ i + 1 → dt j T ≠ 0 ∧ (dt j T).natAbs ≤ 10 ^ j) : Sfit (Am T s) n i := by
 have hp' : ∀ j, j < i → Rm (Am T s) j j j ≠ 0 := fun j hj => hp j (by omega)
 refine ⟨hp i (Nat.le_refl _), fun j hj hji => ?_, fun j c hj hji hc => ?_, fun j c hj hji hc => ?_⟩
 · exact ⟨_, _, _, _, ent_bd hi hin hs hs10 hp' he hd hj (by omega), piv_row hi hin hs hs10 hp' he hd (by omega), by decide, by decide⟩
 · exact ⟨_, _, _, _, by_bd hi hin hs hs10 hsi hp he hd hj hji, piv_row hi hin hs hs10 hp' he hd hc, by decide, by decide⟩
 · exact ⟨_, _, _, _, ent_bd hi hin hs hs10 hp' he hd hj hc, (by_bd hi hin hs hs10 hsi hp he hd hj hji).mul (piv_row hi hin hs hs10 hp' he hd hc), by decide, by decide⟩
end
theorem smi_congr {n : Nat} {f g : Nat → Int} (h : ∀ c, c < n → f c = g c) : smi n f = smi n g := by
 induction n with
 | zero => rfl
 | succ n ih => rw [smi, smi, ih (fun c hc => h c (by omega)), h n (by omega)]
theorem smi_le {n : Nat} {f g : Nat → Int} (h : ∀ c, c < n → f c ≤ g c) : smi n f ≤ smi n g := by
 induction n with
 | zero => exact Int.le_refl _
 | succ n ih =>
  have h1 := ih (fun c hc => h c (by omega))
  have h2 := h n (by omega)
  simp only [smi]
  omega
theorem smi_zero (N : Nat) : smi N (fun _ => 0) = 0 := by
 induction N with
 | zero => rfl
 | succ n ih => rw [smi, ih]; rfl
theorem smi_part {N x : Nat} (hx : x < N) (f : Nat → Int) : smi N f = f x + smi N (fun z => if z = x then 0 else f z) := by
 induction N with
 | zero => omega
 | succ n ih =>
  simp only [smi]
  by_cases e : x = n
  · subst e
    rw [if_pos rfl, smi_congr (g := fun z => if z = x then 0 else f z) (fun c hc => by rw [if_neg (by omega)])]
    omega
  · rw [ih (by omega), if_neg (fun h => e h.symm)]
    omega
theorem sub_sum {N : Nat} : ∀ (n : Nat) (b : Nat → Nat) (f : Nat → Int), (∀ j, j < n → b j < N) → (∀ i j, i < n → j < n → b i = b j → i = j) → (∀ z, z < N → 0 ≤ f z) → smi n (fun j => f (b j)) ≤ smi N f := by
 intro n
 induction n with
 | zero =>
  intro b f _ _ h
  have := smi_le (n := N) (f := fun _ => 0) (g := f) h
  rw [smi_zero] at this
  exact this
 | succ n ih =>
  intro b f hb hi hf
  rw [smi_part (hb n (by omega)) f, smi]
  have := ih b (fun z => if z = b n then 0 else f z) (fun j hj => hb j (by omega)) (fun i j h1 h2 => hi i j (by omega) (by omega)) (fun z hz => by
   show (0 : Int) ≤ if z = b n then 0 else f z
   split
   · exact Int.le_refl _
   · exact hf z hz)
  rw [smi_congr (g := fun j => f (b j)) (fun c hc => if_neg (fun e => by have := hi c n (by omega) (by omega) e; omega))] at this
  omega
structure Chn (N : Nat) (o : Int) (s : Nat → Nat → Int) : Prop where
 pos : 0 < o
 top : o ≤ 10
 nn : ∀ x z, 0 ≤ s x z
 sum : ∀ x, x < N → smi N (s x) = o
theorem Chn.le {N : Nat} {o : Int} {s : Nat → Nat → Int} (h : Chn N o s) {x z : Nat} (hx : x < N) (hz : z < N) : s x z ≤ o := by
 have := sub_sum (N := N) 1 (fun _ => z) (s x) (fun _ _ => hz) (fun i j _ _ _ => by omega) (fun z _ => h.nn x z)
 have e := h.sum x hx
 simp only [smi] at this
 omega
def Leads (N : Nat) (s : Nat → Nat → Int) (x g : Nat) : Prop := ∀ P : Nat → Prop, P x → (∀ y z, P y → y < N → z < N → 0 < s y z → P z) → P g
theorem max_of (n : Nat) (v : Nat → Rat) : ∃ r, r ≤ n ∧ ∀ j, j ≤ n → v j ≤ v r := by
 induction n with
 | zero =>
  refine ⟨0, Nat.le_refl _, fun j hj => ?_⟩
  obtain rfl : j = 0 := by omega
  exact Rat.le_refl
 | succ n ih =>
  obtain ⟨r, h1, h2⟩ := ih
  rcases Rat.le_total (a := v r) (b := v (n + 1)) with h | h
  · refine ⟨n + 1, Nat.le_refl _, fun j hj => ?_⟩
    by_cases e : j = n + 1
    · rw [e]; exact Rat.le_refl
    · exact Rat.le_trans (h2 j (by omega)) h
  · refine ⟨r, by omega, fun j hj => ?_⟩
    by_cases e : j = n + 1
    · rw [e]; exact h
    · exact h2 j (by omega)
def tb (o : Int) (s : Nat → Nat → Int) (b : Nat → Nat) (r c : Nat) : Int := if r = c then o - s (b r) (b c) else - s (b r) (b c)
theorem tb_row (o : Int) (s : Nat → Nat → Int) (b : Nat → Nat) (m k : Nat) (hk : k < m) (v : Nat → Rat) :
 sm m (fun j => (tb o s b k j : Rat) * v j) = (o : Rat) * v k - sm m (fun j => (s (b k) (b j) : Rat) * v j) := by
 have e : ∀ j, (tb o s b k j : Rat) * v j = (if j = k then (o : Rat) * v k else 0) + (-1) * ((s (b k) (b j) : Rat) * v j) := by
  intro j
  unfold tb
  by_cases h : k = j
  · subst h
    rw [if_pos rfl, if_pos rfl, Rat.intCast_sub]
    grind
  · rw [if_neg h, if_neg (fun e => h e.symm), Rat.intCast_neg]
    grind
 rw [sm_congr (fun j _ => e j), sm_add, sm_mul, sm_one (c := k) hk (fun j _ h => if_neg h), if_pos rfl]
 grind
theorem chain_max {N : Nat} {o : Int} {s : Nat → Nat → Int} (hc : Chn N o s) {n : Nat} {b : Nat → Nat} {g : Nat} (hb : ∀ j, j < n → b j < N) (hi : ∀ i j, i < n → j < n → b i = b j → i = j) (hg : ∀ j, j < n → b j ≠ g) (hl : ∀ j, j < n → Leads N s (b j) g) :
 Mm n (tb o s b) := by
 refine ⟨fun r c hr hcc h => ?_, fun r hr => ?_, fun i hin v hv h => ?_⟩
 · rw [tb, if_neg h]
   have := hc.nn (b r) (b c)
   omega
 · rw [tb, if_pos rfl]
   have := hc.nn (b r) (b r)
   have := hc.top
   omega
 · obtain ⟨r, hr, hm⟩ := max_of i v
   have hpos : 0 < v r := by
    have := hm i (Nat.le_refl _)
    grind
   refine absurd (hl r (by omega) (fun x => ∃ q, q ≤ i ∧ b q = x ∧ v q = v r) ⟨r, hr, rfl, rfl⟩ ?_) ?_
   · rintro y z ⟨q, hq, rfl, hqv⟩ hy hz hyz
     have h1 := h q hq
     rw [tb_row o s b (i + 1) q (by omega) v] at h1
     by_cases hz' : ∃ j, j ≤ i ∧ b j = z
     · obtain ⟨j, hj, rfl⟩ := hz'
       refine ⟨j, hj, rfl, ?_⟩
       have h2 : sm (i + 1) (fun c => (s (b q) (b c) : Rat) * v c) ≤ sm (i + 1) (fun c => (s (b q) (b c) : Rat) * v r - if c = j then (s (b q) (b j) : Rat) * (v r - v j) else 0) := by
        refine sm_le fun c hcc => ?_
        have a1 : (0 : Rat) ≤ (s (b q) (b c) : Rat) := by exact_mod_cast hc.nn (b q) (b c)
        have a2 := hm c (by omega)
        have a3 := Rat.mul_nonneg a1 (show 0 ≤ v r - v c by grind)
        by_cases e : c = j
        · subst e; rw [if_pos rfl]; grind
        · rw [if_neg e]; grind
       have h3 : sm (i + 1) (fun c => (s (b q) (b c) : Rat) * v r - if c = j then (s (b q) (b j) : Rat) * (v r - v j) else 0) = (smi (i + 1) (fun c => s (b q) (b c)) : Rat) * v r - (s (b q) (b j) : Rat) * (v r - v j) := by
        rw [sm_congr (g := fun c => v r * (s (b q) (b c) : Rat) + (-1) * (if c = j then (s (b q) (b j) : Rat) * (v r - v j) else 0)) (fun c _ => by grind), sm_add, sm_mul, sm_mul, sm_one (c := j) (by omega) (fun j' _ h => if_neg h), if_pos rfl, cast_smi]
        grind
       have h4 : smi (i + 1) (fun c => s (b q) (b c)) ≤ o := by
        rw [← hc.sum (b q) hy]
        exact sub_sum (i + 1) b (s (b q)) (fun j hj => hb j (by omega)) (fun i' j' h1 h2 => hi i' j' (by omega) (by omega)) (fun z _ => hc.nn _ z)
       have h5 : ((smi (i + 1) (fun c => s (b q) (b c)) : Int) : Rat) ≤ (o : Rat) := by exact_mod_cast h4
       have h6 := Rat.mul_nonneg (show (0 : Rat) ≤ (o : Rat) - ((smi (i + 1) (fun c => s (b q) (b c)) : Int) : Rat) by grind) (Rat.le_of_lt hpos)
       have h7 : (0 : Rat) < (s (b q) (b j) : Rat) := by exact_mod_cast hyz
       have h8 := hm j hj
       rcases Rat.le_total (a := v r) (b := v j) with h9 | h9
       · exact Rat.le_antisymm h8 h9
       · have h10 : (s (b q) (b j) : Rat) * (v r - v j) ≤ 0 := by
          rw [h3] at h2
          rw [hqv] at h1
          clear h3 hm hv h h8 h9
          generalize (s (b q) (b j) : Rat) * (v r - v j) = A at h2 ⊢
          generalize sm (i + 1) (fun c => (s (b q) (b c) : Rat) * v c) = B at h1 h2
          generalize ((smi (i + 1) (fun c => s (b q) (b c)) : Int) : Rat) = C at h2 h6
          grind
         have h11 := Rat.mul_nonneg (Rat.le_of_lt h7) (show 0 ≤ v r - v j by grind)
         have h12 : (s (b q) (b j) : Rat) * (v r - v j) = 0 := Rat.le_antisymm h10 h11
         rcases Rat.mul_eq_zero.1 h12 with h13 | h13
         · grind
         · grind
     · exfalso
       have h2 : sm (i + 1) (fun c => (s (b q) (b c) : Rat) * v c) ≤ sm (i + 1) (fun c => v r * (s (b q) (b c) : Rat)) := by
        refine sm_le fun c hcc => ?_
        have a1 : (0 : Rat) ≤ (s (b q) (b c) : Rat) := by exact_mod_cast hc.nn (b q) (b c)
        have a2 := hm c (by omega)
        have a3 := Rat.mul_nonneg a1 (show 0 ≤ v r - v c by grind)
        grind
       rw [sm_mul, ← cast_smi] at h2
       have h4 : smi (i + 1) (fun c => s (b q) (b c)) + s (b q) z ≤ o := by
        rw [← hc.sum (b q) hy]
        have := sub_sum (i + 2) (fun j => if j ≤ i then b j else z) (s (b q)) (fun j hj => by
         show (if j ≤ i then b j else z) < N
         split
         · exact hb j (by omega)
         · exact hz) (fun i' j' h1 h2 e => by
         by_cases c1 : i' ≤ i <;> by_cases c2 : j' ≤ i
         · simp only [c1, c2, if_true] at e
           exact hi i' j' (by omega) (by omega) e
         · simp only [c1, c2, if_true, if_false] at e
           exact absurd ⟨i', c1, e⟩ hz'
         · simp only [c1, c2, if_true, if_false] at e
           exact absurd ⟨j', c2, e.symm⟩ hz'
         · omega) (fun z _ => hc.nn _ z)
        rw [smi, if_neg (by omega), smi_congr (g := fun c => s (b q) (b c)) (fun c hcc => by simp [show c ≤ i by omega])] at this
        exact this
       have h5 : ((smi (i + 1) (fun c => s (b q) (b c)) : Int) : Rat) + (s (b q) z : Rat) ≤ (o : Rat) := by exact_mod_cast h4
       have h7 : (0 : Rat) < (s (b q) z : Rat) := by exact_mod_cast hyz
       have h8 := Rat.mul_pos (show (0 : Rat) < (o : Rat) - ((smi (i + 1) (fun c => s (b q) (b c)) : Int) : Rat) by grind) hpos
       rw [hqv] at h1
       clear hm hv h
       generalize sm (i + 1) (fun c => (s (b q) (b c) : Rat) * v c) = B at h1 h2
       generalize ((smi (i + 1) (fun c => s (b q) (b c)) : Int) : Rat) = C at h2 h8
       grind
   · rintro ⟨q, hq, e, _⟩
     exact hg q (by omega) e
theorem Mm.congr {n : Nat} {T T' : Nat → Nat → Int} (h : Mm n T) (e : ∀ k c, k < n → c < n → T' k c = T k c) : Mm n T' := by
 refine ⟨fun r c hr hc hrc => by rw [e r c hr hc]; exact h.off r c hr hc hrc, fun r hr => by rw [e r r hr hr]; exact h.top r hr, fun i hi v hv hk => h.max i hi v hv fun k hki => ?_⟩
 rw [sm_congr (g := fun j => (T' k j : Rat) * v j) (fun j hj => by rw [e k j (by omega) (by omega)])]
 exact hk k hki
theorem Mm.last {n : Nat} {T : Nat → Nat → Int} (h : Mm n T) {s : Nat → Int} (hs : ∀ k, 0 < s k) (hr : ∀ k, k < n → 0 ≤ T k n) : ∀ i, i ≤ n → ∀ k, k < n → 0 ≤ Rm (Am T s) i k n := by
 intro i
 induction i with
 | zero =>
  intro _ k hk
  show 0 ≤ Am T s k n
  have h1 : (0 : Rat) ≤ (T k n : Rat) := by exact_mod_cast hr k hk
  have h2 : (0 : Rat) < (s k : Rat) := by exact_mod_cast hs k
  unfold Am
  rw [Rat.div_def]
  exact Rat.mul_nonneg h1 (Rat.le_of_lt (Rat.inv_pos.2 h2))
 | succ i ih =>
  intro hi k hk
  have h0 := ih (by omega)
  by_cases e : k = i
  · subst e
    rw [Rm_succ_eq]
    exact h0 _ hk
  · rw [Rm_succ_ne _ e]
    obtain ⟨_, p2, _⟩ := h.pivots hs i (by omega)
    obtain ⟨p1, _, _⟩ := h.pivots hs (i + 1) hi
    have a1 := p2 k i hk (by omega) e (Nat.le_refl _)
    have a2 := p1 i (by omega)
    have a3 : 0 ≤ -Rm (Am T s) i k i / Rm (Am T s) i i i := by
     rw [Rat.div_def]
     exact Rat.mul_nonneg (by grind) (Rat.le_of_lt (Rat.inv_pos.2 a2))
    have a4 := Rat.mul_nonneg a3 (h0 i (by omega))
    have a5 := h0 k hk
    grind
theorem solves {A : Nat → Nat → Rat} {n : Nat} (hp : ∀ j, j < n → Rm A j j j ≠ 0) {y : Nat → Rat} (hy : ∀ k, k < n → sm n (fun j => A k j * y j) = A k n) :
 ∀ q, q < n → Rm A n q n / Rm A n q q = y q := by
 intro q hq
 obtain ⟨z1, z2⟩ := Rm_zero A n hp
 obtain ⟨v, hv⟩ : ∃ v : Nat → Rat, v = fun j => if j < n then y j else -1 := ⟨_, rfl⟩
 have v1 : ∀ j, j < n → v j = y j := fun j hj => by rw [hv]; exact if_pos hj
 have v2 : v n = -1 := by rw [hv]; exact if_neg (by omega)
 have ho : ∀ k, k < n → sm (n + 1) (fun c => A k c * v c) = 0 := by
  intro k hk
  rw [sm, sm_congr (g := fun j => A k j * y j) (fun j hj => by rw [v1 j hj]), hy k hk, v2]
  grind
 have h := (Rm_orth A (n + 1) v n ho).1 q hq
 rw [sm, sm_one hq (fun j hj hjq => by rw [z1 q j hj (by omega)]; exact Rat.zero_mul _), v1 q hq, v2] at h
 have hne : Rm A n q q ≠ 0 := by rw [z2 q hq]; exact hp q hq
 have h2 : Rm A n q n = Rm A n q q * y q := by grind
 rw [h2]
 grind
theorem bnd4 {n : Nat} (h : n ≤ 4) : bnd n ≤ 240000 := by
 have : n = 0 ∨ n = 1 ∨ n = 2 ∨ n = 3 ∨ n = 4 := by omega
 rcases this with rfl | rfl | rfl | rfl | rfl <;> decide
theorem hit_solved {n : Nat} {T : Nat → Nat → Int} {o : Int} (hn : n ≤ 4) (hp : 0 < n) (h : Mm n T) (o1 : 1 ≤ o) (o2 : o ≤ 10) (he : ∀ k c, k < n → c < n + 1 → (T k c).natAbs ≤ 10) :
 ∃ X : Nat → Rat, (∃ K, ∀ k, K ≤ k → impl_solved.f k (matq n (n + 1) (Am T (fun _ => o))) = some (rowq n X)) ∧ ∀ y : Nat → Rat, (∀ k, k < n → sm n (fun j => (T k j : Rat) * y j) = (T k n : Rat)) → ∀ q, q < n → X q = y q := by
 have hpv := h.pivots (s := fun _ => o) (fun _ => by omega) n (Nat.le_refl _)
 have hp0 : ∀ j, j < n → Rm (Am T fun _ => o) j j j ≠ 0 := fun j hj => by have := hpv.1 j hj; grind
 have hd : ∀ j, j ≤ n → dt j T ≠ 0 ∧ (dt j T).natAbs ≤ 10 ^ j := fun j hj => by
  have := h.dts j hj (by omega)
  have e : ((10 ^ j : Nat) : Int) = (10 : Int) ^ j := by simp
  omega
 have hs : ∀ _k : Nat, o ≠ 0 := fun _ => by omega
 have hs10 : ∀ _k : Nat, o.natAbs ≤ 10 := fun _ => by omega
 refine ⟨fun q => Rm (Am T fun _ => o) n q n / Rm (Am T fun _ => o) n q q, ?_, fun y hy q hq => ?_⟩
 · refine solved_ev (by omega) hp (fun i hi => stage_fit (by omega) hi hs hs10 (fun _ _ => rfl) (fun j hj => hp0 j (by omega)) he (fun j hj => hd j (by omega))) (fun q hq => ?_)
   refine ⟨2400000000, 100000000, 10000, 10000, (row_up (n := n) hn (Nat.le_refl _) hs hp0 he hd hq (Nat.le_refl _) (by omega) (hs10 q)).mono (N' := 2400000000) (D' := 100000000) ?_ ?_, ?_, ?_, ?_⟩
   · exact Nat.le_trans (Nat.mul_le_mul (pow10 (show q + 1 ≤ 4 by omega)) (bnd4 hn)) (by decide)
   · exact Nat.le_trans (Nat.mul_le_mul (pow10 hn) (Nat.mul_le_mul (pow10 (show q ≤ 3 by omega)) (Nat.le_refl 10))) (by decide)
   · rw [(Rm_zero (Am T fun _ => o) n hp0).2 q hq]
     refine (piv_bd hs (by omega) (fun j hj => hp0 j (by omega)) (fun j hj => hd j (by omega)) (hs10 q)).mono (N' := 10000) (D' := 10000) ?_ ?_
     · exact Nat.le_trans (pow10 (show q + 1 ≤ 4 by omega)) (by decide)
     · exact Nat.le_trans (Nat.mul_le_mul (pow10 (show q ≤ 3 by omega)) (Nat.le_refl 10)) (by decide)
   · decide
   · decide
 · refine solves hp0 (fun k hk => ?_) q hq
   have ho : ((o : Int) : Rat) ≠ 0 := castne (by omega)
   have := hy k hk
   have e : sm n (fun j => Am T (fun _ => o) k j * y j) = (1 / (o : Rat)) * sm n (fun j => (T k j : Rat) * y j) := by
    rw [← sm_mul]
    refine sm_congr fun j _ => ?_
    unfold Am
    grind
   rw [e, this]
   unfold Am
   grind
theorem det_solves {n : Nat} {T : Nat → Nat → Int} (hn : n ≤ 4) (hd : dt n T ≠ 0) (b : Nat → Int) : ∀ k, k < n → sm n (fun j => (T k j : Rat) * ((cr n T b j : Rat) / (dt n T : Rat))) = (b k : Rat) := by
 intro k hk
 have h := cramer n hn T b k hk
 have h2 : ((smi n (fun j => T k j * cr n T b j) : Int) : Rat) = ((dt n T * b k : Int) : Rat) := by rw [h]
 rw [cast_smi, Rat.intCast_mul] at h2
 have hd' := castne hd
 have e : sm n (fun j => (T k j : Rat) * ((cr n T b j : Rat) / (dt n T : Rat))) = (1 / (dt n T : Rat)) * sm n (fun j => ((T k j * cr n T b j : Int) : Rat)) := by
  rw [← sm_mul]
  refine sm_congr fun j _ => ?_
  rw [Rat.intCast_mul]
  grind
 rw [e, h2]
 grind
theorem sol_nonneg {n : Nat} {T : Nat → Nat → Int} (h : Mm n T) (hr : ∀ k, k < n → 0 ≤ T k n) {y : Nat → Rat} (hy : ∀ k, k < n → sm n (fun j => (T k j : Rat) * y j) = (T k n : Rat)) : ∀ q, q < n → 0 ≤ y q := by
 intro q hq
 have hpv := h.pivots (s := fun _ => 1) (fun _ => by decide) n (Nat.le_refl _)
 have hp0 : ∀ j, j < n → Rm (Am T fun _ => 1) j j j ≠ 0 := fun j hj => by have := hpv.1 j hj; grind
 have e1 : ∀ k c, Am T (fun _ => 1) k c = (T k c : Rat) := fun k c => by unfold Am; grind
 have es := solves hp0 (y := y) (fun k hk => by rw [e1, ← hy k hk]; exact sm_congr fun j _ => by rw [e1]) q hq
 rw [← es]
 have h1 := h.last (s := fun _ => 1) (fun _ => by decide) hr n (Nat.le_refl _) q hq
 have h2 := hpv.1 q hq
 rw [(Rm_zero (Am T fun _ => 1) n hp0).2 q hq, Rat.div_def]
 exact Rat.mul_nonneg h1 (Rat.le_of_lt (Rat.inv_pos.2 h2))
def GoodRow (n : Nat) (o : Int) (row : List Int) : Prop := row.length = n ∧ (∀ x ∈ row, 0 ≤ x) ∧ row.sum = o
def Good (o : Int) (rows : List (List Int)) : Prop := 1 ≤ o ∧ o ≤ 10 ∧ 1 ≤ rows.length ∧ rows.length ≤ 5 ∧ ∀ row ∈ rows, GoodRow rows.length o row
theorem sum_nonneg : ∀ (l : List Int), (∀ x ∈ l, 0 ≤ x) → 0 ≤ l.sum
 | [], _ => by simp
 | x :: l, h => by
  have h1 := h x (by simp)
  have h2 := sum_nonneg l (fun y hy => h y (by simp [hy]))
  simp only [List.sum_cons]
  omega
theorem le_sum : ∀ (l : List Int), (∀ x ∈ l, 0 ≤ x) → ∀ x ∈ l, x ≤ l.sum
 | [], _, x, hx => by simp at hx
 | y :: l, h, x, hx => by
  have h1 := h y (by simp)
  have h2 := sum_nonneg l (fun z hz => h z (by simp [hz]))
  simp only [List.sum_cons]
  rcases List.mem_cons.1 hx with rfl | hx
  · omega
  · have := le_sum l (fun z hz => h z (by simp [hz])) x hx
    omega
def Edge (rows : List (List Int)) (i k : Nat) : Prop := 0 < (rows.getD i []).getD k 0
inductive RC (rows : List (List Int)) (cl : Int) (s : Nat) : Nat → Prop
 | base : RC rows cl s s
 | step (i k : Nat) : RC rows cl s i → (i : Int) ≠ cl → k < rows.length → Edge rows i k → RC rows cl s k
structure Qu (rows : List (List Int)) (cl : Int) (s : Nat) (q : List Nat) : Prop where
 nd : q.Nodup
 lt : ∀ v ∈ q, v < rows.length
 rc : ∀ v ∈ q, RC rows cl s v
 mem : s ∈ q
theorem Qu.len {rows : List (List Int)} {cl : Int} {s : Nat} {q : List Nat} (h : Qu rows cl s q) : q.length ≤ rows.length := by
 have h1 := List.Nodup.length_le_of_subset h.nd (l₂ := List.range rows.length) (fun v hv => List.mem_range.2 (h.lt v hv))
 simpa using h1
def Through (rows : List (List Int)) (cl : Int) (q : List Nat) (i : Nat) : Prop := ∀ a, a < i → ∀ v, q[a]? = some v → (v : Int) ≠ cl → ∀ k, k < rows.length → Edge rows v k → k ∈ q
theorem Through.more {rows : List (List Int)} {cl : Int} {q q' : List Nat} {i : Nat} (h : Through rows cl q i) (hi : i ≤ q.length) (hp : q <+: q') : Through rows cl q' i := by
 intro a ha v hv hc k hk he
 obtain ⟨t, rfl⟩ := hp
 rw [List.getElem?_append_left (by omega)] at hv
 exact List.mem_append_left _ (h a ha v hv hc k hk he)
theorem Qu.all {rows : List (List Int)} {cl : Int} {s : Nat} {q : List Nat} (h : Qu rows cl s q) (ht : Through rows cl q q.length) (v : Nat) : RC rows cl s v ↔ v ∈ q := by
 constructor
 · intro hr
   induction hr with
   | base => exact h.mem
   | step i k _ hc hk he ih =>
    obtain ⟨a, ha, hv⟩ := List.getElem_of_mem ih
    exact ht a ha i (by rw [List.getElem?_eq_getElem ha, hv]) hc k hk he
 · exact h.rc v
theorem rd_nats {q : List Nat} {i : Nat} (h : i < q.length) : rd (q.map (fun v : Nat => (v : Int))) (i : Int) = (q[i] : Int) := by
 rw [rd_get (by simpa using h)]
 simp
theorem rdOf_get {xs : List Bool} {j : Nat} (h : j < xs.length) : rdOf false xs (j : Int) = xs[j] := by
 unfold rdOf
 rw [Int.toNat_natCast, List.getD_eq_getElem?_getD, List.getElem?_eq_getElem h]
 rfl
theorem edge_get {rows : List (List Int)} {i k : Nat} (hi : i < rows.length) (hk : k < rows[i].length) : Edge rows i k ↔ 0 < rows[i][k] := by
 unfold Edge
 simp [List.getD_eq_getElem?_getD, hi, hk]
def sx (rows : List (List Int)) (x z : Nat) : Int := (rows.getD x []).getD z 0
theorem sx_rd {rows : List (List Int)} {x z : Nat} : rd (rd_L1 rows (x : Int)) (z : Int) = sx rows x z := by
 unfold rd rd_L1 sx
 rw [Int.toNat_natCast, Int.toNat_natCast]
theorem good_row {o : Int} {rows : List (List Int)} (hg : Good o rows) {x : Nat} (hx : x < rows.length) : GoodRow rows.length o (rows.getD x []) := by
 have e : rows.getD x [] = rows[x] := by rw [List.getD_eq_getElem?_getD, List.getElem?_eq_getElem hx]; rfl
 rw [e]
 exact hg.2.2.2.2 _ (List.getElem_mem hx)
theorem smi_list : ∀ (l : List Int), smi l.length (fun z => l.getD z 0) = l.sum := by
 intro l
 have h : ∀ (l : List Int) (n : Nat), n ≤ l.length → smi n (fun z => l.getD z 0) = (l.take n).sum := by
  intro l n
  induction n with
  | zero => intro _; simp [smi]
  | succ n ih =>
   intro hn
   rw [smi, ih (by omega), List.take_add_one, List.sum_append, List.getD_eq_getElem?_getD, List.getElem?_eq_getElem (by omega)]
   simp
 rw [h l l.length (Nat.le_refl _), List.take_length]
theorem sx_chn {o : Int} {rows : List (List Int)} (hg : Good o rows) : Chn rows.length o (sx rows) := by
 refine ⟨by have := hg.1; omega, hg.2.1, fun x z => ?_, fun x hx => ?_⟩
 · unfold sx
   by_cases hx : x < rows.length
   · obtain ⟨h1, h2, h3⟩ := good_row hg hx
     by_cases hz : z < (rows.getD x []).length
     · rw [List.getD_eq_getElem?_getD, List.getElem?_eq_getElem hz]
       exact h2 _ (List.getElem_mem hz)
     · rw [List.getD_eq_getElem?_getD, List.getElem?_eq_none (by omega)]
       exact Int.le_refl _
   · rw [show rows.getD x [] = [] from by rw [List.getD_eq_getElem?_getD, List.getElem?_eq_none (by omega)]; rfl]
     simp
 · obtain ⟨h1, h2, h3⟩ := good_row hg hx
   have := smi_list (rows.getD x [])
   rw [h1, h3] at this
   exact this
theorem rc_leads {rows : List (List Int)} {x g : Nat} (hx : x < rows.length) (h : RC rows (-1) x g) : Leads rows.length (sx rows) x g := by
 intro P hP hs
 have : P g ∧ g < rows.length := by
  induction h with
  | base => exact ⟨hP, hx⟩
  | step i k _ _ hk he ih => exact ⟨hs i k ih.1 ih.2 hk he, hk⟩
 exact this.1
theorem rng_snoc {α : Type} (n : Nat) (g : Nat → α) : (List.range n).map g ++ [g n] = (List.range (n + 1)).map g := by
 rw [List.range_succ, List.map_append]
 rfl
theorem mem_cast {q : List Nat} {v : Nat} : ((v : Int) ∈ q.map (fun v : Nat => (v : Int))) ↔ v ∈ q := by
 simp only [List.mem_map]
 constructor
 · rintro ⟨a, ha, e⟩
   have : a = v := by omega
   exact this ▸ ha
 · exact fun h => ⟨v, h, rfl⟩
theorem plus_rat {a b : Rat} {N D N' D' : Nat} (ha : Bd a N D) (hb : Bd b N' D') (h1 : N * D' + N' * D ≤ 9223372036854775807) (h2 : D * D' ≤ 9223372036854775807) :
 ∃ K, ∀ k, K ≤ k → impl_frac_plus.f k a.num (a.den : Int) b.num (b.den : Int) = some ((a + b).num, ((a + b).den : Int)) := by
 have m1 := mul_le_of (y := (b.den : Int)) (B := D') ha.num (by simpa using hb.den)
 have m3 := mul_le_of (y := (a.den : Int)) (B := D) hb.num (by simpa using ha.den)
 have m2 := mul_le_of (x := (a.den : Int)) (y := (b.den : Int)) (A := D) (B := D') (by simpa using ha.den) (by simpa using hb.den)
 obtain ⟨K, e⟩ := lowest_rat (q := a + b) (n := a.num * (b.den : Int) + b.num * (a.den : Int)) (d := (a.den : Int) * (b.den : Int)) (by omega) (by omega) (Int.mul_ne_zero (den_int_ne a) (den_int_ne b)) (by
  rw [Rat.intCast_add, Rat.intCast_mul, Rat.intCast_mul, Rat.intCast_mul, rat_num a, rat_num b]
  grind)
 refine ⟨K, fun k hk => ?_⟩
 simp only [impl_frac_plus.f]
 rw [w64 (x := a.num * (b.den : Int)) (by omega) (by omega), w64 (x := b.num * (a.den : Int)) (by omega) (by omega), w64 (x := (a.den : Int) * (b.den : Int)) (by omega) (by omega), w64 (by omega) (by omega), e k hk]
 rfl
def bl (L : List Nat) (r : Nat) : Nat := L.getD r 0
theorem bl_get {L : List Nat} {r : Nat} (h : r < L.length) : bl L r = L[r] := by
 unfold bl
 rw [List.getD_eq_getElem?_getD, List.getElem?_eq_getElem h]
 rfl
theorem bl_mem {L : List Nat} {r : Nat} (h : r < L.length) : bl L r ∈ L := by rw [bl_get h]; exact List.getElem_mem h
theorem bl_inj {L : List Nat} (hn : L.Nodup) {i j : Nat} (hi : i < L.length) (hj : j < L.length) (e : bl L i = bl L j) : i = j := by
 rw [bl_get hi, bl_get hj] at e
 rcases Nat.lt_trichotomy i j with h | h | h
 · exact absurd e (List.pairwise_iff_getElem.1 hn i j hi hj h)
 · exact h
 · exact absurd e.symm (List.pairwise_iff_getElem.1 hn j i hj hi h)
theorem bl_rd {L : List Nat} {r : Nat} (h : r < L.length) : rd (L.map (fun v : Nat => (v : Int))) (r : Int) = (bl L r : Int) := by
 rw [rd_get (by simpa using h), bl_get h]
 simp
def tr (o : Int) (s : Nat → Nat → Int) (L : List Nat) (rhs : Nat → Int) (k c : Nat) : Int := if c < L.length then tb o s (bl L) k c else rhs k
theorem hit_l1 {o : Int} {rows : List (List Int)} (hg : Good o rows) {L : List Nat} (hL : ∀ x ∈ L, x < rows.length) (hnd : L.Nodup) (hn4 : L.length ≤ 5) {g : Nat} (hgN : g < rows.length) {u v : Rat} (hu : Bd u 1 1) (hv : Bd v 1 1) {rhs : Nat → Int} {i : Nat} (hi : i < L.length)
 (hr : (u + v * ((sx rows (bl L i) g : Rat) / (o : Rat))) * (o : Rat) = (rhs i : Rat)) (x11 : List (List S67)) (hx11 : x11.length ≤ 10) :
 ∀ (d c : Nat), c + d = L.length → ∃ K, ∀ k, K ≤ k → ∀ x14 : List S67, x14.length = L.length + 1 → (∀ q, q < c → x14[q]? = some (qn (Am (tr o (sx rows) L rhs) (fun _ => o) i q))) →
  impl_States_hit.l1 (k + d + 1) (L.map (fun v : Nat => (v : Int))) g x11 (bl L i : Int) x14 (L.map (fun v : Nat => (v : Int))) (L.length : Int) (i : Int) (L.map (fun v : Nat => (v : Int))) (L.length : Int) (c : Int) o rows u.num (u.den : Int) v.num (v.den : Int) =
  impl_States_hit.l0 k (L.map (fun v : Nat => (v : Int))) g (x11 ++ [rowq (L.length + 1) (Am (tr o (sx rows) L rhs) (fun _ => o) i)]) (L.map (fun v : Nat => (v : Int))) (L.length : Int) ((i + 1 : Nat) : Int) o rows u.num (u.den : Int) v.num (v.den : Int) := by
 have hc := sx_chn hg
 have hbi := hL _ (bl_mem hi)
 have hrow := (good_row hg hbi).1
 have ho0 : ((o : Int) : Rat) ≠ 0 := castne (by have := hc.pos; omega)
 have ho1 := hc.pos
 have ho2 := hc.top
 have erl : rd_L1 rows (bl L i : Int) = rows.getD (bl L i) [] := by
  unfold rd_L1
  rw [Int.toNat_natCast]
 intro d
 induction d with
 | zero =>
  intro c hcl
  have hs0 := hc.nn (bl L i) g
  have hs1 := hc.le hbi hgN
  obtain ⟨K1, e1⟩ := lowest_rat (n := sx rows (bl L i) g) (d := o) (q := (sx rows (bl L i) g : Rat) / (o : Rat)) (by omega) (by omega) (by omega) (by grind)
  have b1 : Bd ((sx rows (bl L i) g : Rat) / (o : Rat)) 10 10 := bd_of (n := sx rows (bl L i) g) (d := o) (by omega) (by grind) (by omega) (by omega)
  obtain ⟨K2, e2⟩ := times_rat hv b1 (by decide) (by decide)
  obtain ⟨K3, e3⟩ := plus_rat hu (hv.mul b1) (by decide) (by decide)
  refine ⟨K1 + K2 + K3, fun k hk x14 hx14 hq => ?_⟩
  have e1' := e1 k (by omega)
  have e2' := e2 k (by omega)
  have e3' := e3 k (by omega)
  rw [impl_States_hit.l1, if_neg (by omega), if_pos (by omega), if_pos (by omega), if_pos (by omega), erl, if_pos (by omega), ← erl, sx_rd, Nat.add_zero, e1']
  simp only [Option.bind_some]
  rw [e2']
  simp only [Option.bind_some]
  rw [e3']
  simp only [Option.bind_some]
  rw [List.length_map, if_pos (by omega), if_pos (by omega), if_pos (by omega), nsucc (by omega)]
  have ex : x14.set ((L.length : Int)).toNat (⟨(u + v * ((sx rows (bl L i) g : Rat) / (o : Rat))).num, ((u + v * ((sx rows (bl L i) g : Rat) / (o : Rat))).den : Int)⟩ : S67) = rowq (L.length + 1) (Am (tr o (sx rows) L rhs) (fun _ => o) i) := ?_
  · rw [ex]
  apply List.ext_getElem?
  intro q
  rw [Int.toNat_natCast]
  by_cases eq : q = L.length
  · subst eq
    rw [List.getElem?_set_self (by omega), rowq, List.getElem?_map, List.getElem?_range (by omega)]
    have ev : u + v * ((sx rows (bl L i) g : Rat) / (o : Rat)) = Am (tr o (sx rows) L rhs) (fun _ => o) i L.length := by
     unfold Am tr
     rw [if_neg (by omega), ← hr]
     grind
    rw [ev]
    rfl
  · rw [List.getElem?_set_ne (by omega)]
    by_cases hlt : q < L.length
    · rw [hq q (by omega), rowq, List.getElem?_map, List.getElem?_range (by omega)]
      rfl
    · rw [List.getElem?_eq_none (by omega), List.getElem?_eq_none (by rw [rowq_len]; omega)]
 | succ d ih =>
  intro c hcl
  obtain ⟨K0, e0⟩ := ih (c + 1) (by omega)
  have hcL : c < L.length := by omega
  have hbc := hL _ (bl_mem hcL)
  have hs0 := hc.nn (bl L i) (bl L c)
  have hs1 := hc.le hbi hbc
  obtain ⟨K1, e1⟩ := lowest_rat (n := -sx rows (bl L i) (bl L c)) (d := o) (q := -(sx rows (bl L i) (bl L c) : Rat) / (o : Rat)) (by omega) (by omega) (by omega) (by rw [Rat.intCast_neg]; grind)
  have b1 : Bd (-(sx rows (bl L i) (bl L c) : Rat) / (o : Rat)) 10 10 := bd_of (n := -sx rows (bl L i) (bl L c)) (d := o) (by omega) (by rw [Rat.intCast_neg]; grind) (by omega) (by omega)
  obtain ⟨K2, e2⟩ := plus_rat b1 bd_one (by decide) (by decide)
  refine ⟨K0 + K1 + K2, fun k hk x14 hx14 hq => ?_⟩
  have e1' := e1 (k + d + 1) (by omega)
  have e2' := e2 (k + d + 1) (by omega)
  rw [show k + (d + 1) + 1 = (k + d + 1) + 1 from by omega, impl_States_hit.l1, if_pos (by omega), if_pos (by omega), List.length_map, if_pos (by omega), if_pos (by omega), if_pos (by omega), bl_rd hcL, if_pos (by omega), erl, if_pos (by omega), ← erl, sx_rd, w64 (x := -sx rows (bl L i) (bl L c)) (by omega) (by omega), e1']
  simp only [Option.bind_some]
  rw [if_pos (by omega), Int.toNat_natCast]
  have key : ∀ w : Rat, w = Am (tr o (sx rows) L rhs) (fun _ => o) i c → ∀ y : List S67, y.length = L.length + 1 → (∀ q, q < c → y[q]? = some (qn (Am (tr o (sx rows) L rhs) (fun _ => o) i q))) → impl_States_hit.l1 (k + d + 1) (L.map (fun v : Nat => (v : Int))) g x11 (bl L i : Int) (y.set c (qn w)) (L.map (fun v : Nat => (v : Int))) (L.length : Int) (i : Int) (L.map (fun v : Nat => (v : Int))) (L.length : Int) (wrap64 ((c : Int) + 1)) o rows u.num (u.den : Int) v.num (v.den : Int) = impl_States_hit.l0 k (L.map (fun v : Nat => (v : Int))) g (x11 ++ [rowq (L.length + 1) (Am (tr o (sx rows) L rhs) (fun _ => o) i)]) (L.map (fun v : Nat => (v : Int))) (L.length : Int) ((i + 1 : Nat) : Int) o rows u.num (u.den : Int) v.num (v.den : Int) := by
   intro w hw y hy hqy
   rw [nsucc (by omega)]
   refine e0 k (by omega) _ (by rw [List.length_set]; exact hy) (fun q hqc => ?_)
   by_cases e : q = c
   · subst e
     rw [List.getElem?_set_self (by omega), hw]
   · rw [List.getElem?_set_ne (by omega)]
     exact hqy q (by omega)
  by_cases eic : i = c
  · subst eic
    rw [if_pos rfl]
    rw [show impl_whole.f 1 = some ((1 : Int), (1 : Int)) from rfl, Option.bind_some]
    have er : rd_T67 (x14.set i (⟨(-(sx rows (bl L i) (bl L i) : Rat) / (o : Rat)).num, ((-(sx rows (bl L i) (bl L i) : Rat) / (o : Rat)).den : Int)⟩ : S67)) (i : Int) = qn (-(sx rows (bl L i) (bl L i) : Rat) / (o : Rat)) := by
     show (x14.set i _).getD (i : Int).toNat _ = _
     rw [Int.toNat_natCast, List.getD_eq_getElem?_getD, List.getElem?_set_self (by omega)]
     rfl
    rw [er]
    have e1n : (1 : Rat).num = 1 := rfl
    have e1d : (((1 : Rat).den : Nat) : Int) = 1 := rfl
    rw [e1n, e1d] at e2'
    have e2'' : impl_frac_plus.f (k + d + 1) (qn (-(sx rows (bl L i) (bl L i) : Rat) / (o : Rat))).f0 (qn (-(sx rows (bl L i) (bl L i) : Rat) / (o : Rat))).f1 1 1 = some ((-(sx rows (bl L i) (bl L i) : Rat) / (o : Rat) + 1).num, ((-(sx rows (bl L i) (bl L i) : Rat) / (o : Rat) + 1).den : Int)) := e2'
    rw [e2'', Option.bind_some, List.set_set]
    refine key (-(sx rows (bl L i) (bl L i) : Rat) / (o : Rat) + 1) ?_ x14 hx14 hq
    unfold Am tr tb
    rw [if_pos hi, if_pos rfl, Rat.intCast_sub]
    grind
  · rw [if_neg (fun e => eic (bl_inj hnd hi hcL (by omega)))]
    refine key (-(sx rows (bl L i) (bl L c) : Rat) / (o : Rat)) ?_ x14 hx14 hq
    unfold Am tr tb
    rw [if_pos hcL, if_neg eic, Rat.intCast_neg]
theorem hit_l0 {o : Int} {rows : List (List Int)} (hg : Good o rows) {L : List Nat} (hL : ∀ x ∈ L, x < rows.length) (hnd : L.Nodup) (hn4 : L.length ≤ 5) {g : Nat} (hgN : g < rows.length) {u v : Rat} (hu : Bd u 1 1) (hv : Bd v 1 1) {rhs : Nat → Int}
 (hr : ∀ i, i < L.length → (u + v * ((sx rows (bl L i) g : Rat) / (o : Rat))) * (o : Rat) = (rhs i : Rat)) {R : List S67} (hs : ∃ K, ∀ k, K ≤ k → impl_solved.f k (matq L.length (L.length + 1) (Am (tr o (sx rows) L rhs) (fun _ => o))) = some R) :
 ∀ (d i : Nat), i + d = L.length → ∃ K, ∀ k, K ≤ k → impl_States_hit.l0 k (L.map (fun v : Nat => (v : Int))) g (matq i (L.length + 1) (Am (tr o (sx rows) L rhs) (fun _ => o))) (L.map (fun v : Nat => (v : Int))) (L.length : Int) (i : Int) o rows u.num (u.den : Int) v.num (v.den : Int) = some R := by
 intro d
 induction d with
 | zero =>
  intro i hi
  obtain ⟨K, e⟩ := hs
  refine ⟨K + 1, fun k hk => ?_⟩
  obtain ⟨k, rfl⟩ : ∃ q, k = q + 1 := ⟨k - 1, by omega⟩
  rw [impl_States_hit.l0, if_neg (by omega), show i = L.length from by omega, e k (by omega)]
  rfl
 | succ d ih =>
  intro i hi
  obtain ⟨K0, e0⟩ := ih (i + 1) (by omega)
  have hil : i < L.length := by omega
  obtain ⟨K1, e1⟩ := hit_l1 hg hL hnd hn4 hgN hu hv hil (hr i hil) (matq i (L.length + 1) (Am (tr o (sx rows) L rhs) (fun _ => o))) (by rw [matq_len]; omega) L.length 0 (by omega)
  refine ⟨K0 + K1 + L.length + 2, fun k hk => ?_⟩
  obtain ⟨k, rfl⟩ : ∃ q, k = q + L.length + 1 + 1 := ⟨k - L.length - 2, by omega⟩
  have e1' := e1 k (by omega) (List.replicate (L.length + 1) z67) List.length_replicate (fun q hq => by omega)
  rw [impl_States_hit.l0, if_pos (by omega), if_pos (by omega), List.length_map, if_pos (by omega), nsucc (by omega), if_pos (by omega), Int.toNat_natCast, if_pos (by omega), bl_rd hil, show ((0 : Int)) = ((0 : Nat) : Int) from rfl, e1']
  have em : matq i (L.length + 1) (Am (tr o (sx rows) L rhs) (fun _ => o)) ++ [rowq (L.length + 1) (Am (tr o (sx rows) L rhs) (fun _ => o) i)] = matq (i + 1) (L.length + 1) (Am (tr o (sx rows) L rhs) (fun _ => o)) := by
   unfold matq
   rw [List.range_succ, List.map_append]
   rfl
  rw [em]
  exact e0 k (by omega)
theorem hit_ev {o : Int} {rows : List (List Int)} (hg : Good o rows) {L : List Nat} (hL : ∀ x ∈ L, x < rows.length) (hnd : L.Nodup) (hn4 : L.length ≤ 5) {g : Nat} (hgN : g < rows.length) {u v : Rat} (hu : Bd u 1 1) (hv : Bd v 1 1) {rhs : Nat → Int}
 (hr : ∀ i, i < L.length → (u + v * ((sx rows (bl L i) g : Rat) / (o : Rat))) * (o : Rat) = (rhs i : Rat)) {R : List S67} (hs : ∃ K, ∀ k, K ≤ k → impl_solved.f k (matq L.length (L.length + 1) (Am (tr o (sx rows) L rhs) (fun _ => o))) = some R) :
 ∃ K, ∀ k, K ≤ k → impl_States_hit.f k o rows (L.map (fun v : Nat => (v : Int))) g u.num (u.den : Int) v.num (v.den : Int) = some R := by
 obtain ⟨K, e⟩ := hit_l0 hg hL hnd hn4 hgN hu hv hr hs L.length 0 (by omega)
 refine ⟨K, fun k hk => ?_⟩
 have := e k hk
 unfold impl_States_hit.f
 rw [List.length_map]
 exact this
def sqi (n : Nat) (f : Nat → Nat → Int) : List (List Int) := (List.range n).map (fun i => (List.range n).map (f i))
theorem sqi_len (n : Nat) (f : Nat → Nat → Int) : (sqi n f).length = n := by simp [sqi]
theorem rowi_get {n c : Nat} (h : c < n) (g : Nat → Int) : rd ((List.range n).map g) (c : Int) = g c := by
 rw [rd_get (by simpa using h)]
 simp
theorem sqi_get {n i : Nat} (h : i < n) (f : Nat → Nat → Int) : rd_L1 (sqi n f) (i : Int) = (List.range n).map (f i) := by
 rw [rd1_get (by rw [sqi_len]; exact h)]
 simp [sqi]
theorem cutrow {n c : Nat} (h : c < n + 1) (g : Nat → Int) : ((List.range (n + 1)).map g).take c ++ ((List.range (n + 1)).map g).drop (c + 1) = (List.range n).map (fun j => g (if j < c then j else j + 1)) := by
 apply List.ext_getElem?
 intro q
 by_cases hq : q < c
 · rw [List.getElem?_append_left (by simp; omega), List.getElem?_take_of_lt hq, List.getElem?_map, List.getElem?_map, List.getElem?_range (by omega), List.getElem?_range (by omega)]
   simp [hq]
 · rw [List.getElem?_append_right (by simp; omega), List.getElem?_drop, List.length_take, List.length_map, List.length_range, show min c (n + 1) = c by omega]
   by_cases hn : q < n
   · rw [List.getElem?_map, List.getElem?_map, List.getElem?_range (by omega), List.getElem?_range hn]
     simp only [Option.map_some, if_neg hq]
     rw [show c + 1 + (q - c) = q + 1 by omega]
   · rw [List.getElem?_eq_none (by simp; omega), List.getElem?_eq_none (by simp; omega)]
theorem det_l1 {n c : Nat} (hn : n ≤ 10) (hc : c < n + 1) (f : Nat → Nat → Int) (x0 : List (List Int)) (x3 x4 x6 : Int) (x15 : List Int) (x16 x17 : Int) :
 ∀ (d i : Nat), i + d = n → ∀ k,
  spec_saDet.l1 (k + d + 1) x0 x3 x4 (c : Int) x6 ((List.range i).map (fun r => (List.range n).map (fun j => f (r + 1) (if j < c then j else j + 1)))) x15 x16 x17 ((sqi (n + 1) f).drop 1) (n : Int) (i : Int) =
  spec_saDet.l1 (k + 1) x0 x3 x4 (c : Int) x6 (sqi n (fun r j => f (r + 1) (if j < c then j else j + 1))) x15 x16 x17 ((sqi (n + 1) f).drop 1) (n : Int) (n : Int) := by
 have hl : ((sqi (n + 1) f).drop 1).length = n := by rw [List.length_drop, sqi_len]; omega
 intro d
 induction d with
 | zero =>
  intro i hi k
  rw [show i = n by omega]
  rfl
 | succ d ih =>
  intro i hi k
  have hin : i < n := by omega
  have er : rd_L1 ((sqi (n + 1) f).drop 1) (i : Int) = (List.range (n + 1)).map (f (i + 1)) := by
   rw [rd1_get (by omega)]
   simp [sqi]
  rw [show k + (d + 1) + 1 = (k + d + 1) + 1 from by omega, spec_saDet.l1, if_pos (by omega), if_pos (by omega), if_pos (by omega), if_pos (by omega), er, if_pos (by simp; omega)]
  rw [show spec_l1Own.f (((List.range (n + 1)).map (f (i + 1))).take ((c : Int)).toNat) = some ((((List.range (n + 1)).map (f (i + 1))).take c)) from by unfold spec_l1Own.f; simp; omega, Option.bind_some]
  rw [w64 (x := (c : Int) + 1) (by omega) (by omega), if_pos (by omega), if_pos (by simp; omega), if_pos (by simp; omega), if_pos (by simp; omega), show ((c : Int) + 1).toNat = c + 1 by omega, cutrow hc, w64 (x := (i : Int) + 1) (by omega) (by omega)]
  have := ih (i + 1) (by omega) k
  rw [List.range_succ, List.map_append] at this
  exact this
theorem bnd_mono4 {n : Nat} (h : n ≤ 4) : bnd n ≤ 240000 := by
 have : n = 0 ∨ n = 1 ∨ n = 2 ∨ n = 3 ∨ n = 4 := by omega
 rcases this with rfl | rfl | rfl | rfl | rfl <;> decide
def sg (c : Nat) : Int := if c % 2 = 0 then 1 else -1
theorem sg_succ (c : Nat) : sg (c + 1) = -sg c := by
 unfold sg
 by_cases h : c % 2 = 0
 · rw [if_pos h, if_neg (by omega)]
 · rw [if_neg h, if_pos (by omega)]
   rfl
theorem sg_abs (c : Nat) : (sg c).natAbs = 1 := by
 unfold sg
 split <;> rfl
theorem det_ev : ∀ (n : Nat), n ≤ 4 → ∀ f : Nat → Nat → Int, (∀ r s, r < n → s < n → (f r s).natAbs ≤ 10) → ∃ K, ∀ k, K ≤ k → spec_saDet.f k (sqi n f) = some (dt n f) := by
 intro n
 induction n with
 | zero =>
  intro _ f _
  refine ⟨1, fun k hk => ?_⟩
  obtain ⟨k, rfl⟩ : ∃ q, k = q + 1 := ⟨k - 1, by omega⟩
  rw [spec_saDet.f, if_pos (by simp [sqi])]
  rfl
 | succ n ih =>
  intro hn f hf
  have hb : bnd (n + 1) ≤ 240000 := bnd_mono4 hn
  have hb' : (n + 1) * (10 * bnd n) ≤ 240000 := hb
  have hterm : ∀ c, c < n + 1 → (sg c * f 0 c * dt n (fun i j => f (i + 1) (if j < c then j else j + 1))).natAbs ≤ 10 * bnd n := by
   intro c hc
   rw [Int.natAbs_mul, Int.natAbs_mul, sg_abs, Nat.one_mul]
   exact Nat.mul_le_mul (hf 0 c (by omega) hc) (dt_abs n _ (fun r s hr hs => hf _ _ (by omega) (by split <;> omega)))
  have hsum : ∀ c, c ≤ n + 1 → (smi c (fun c => sg c * f 0 c * dt n (fun i j => f (i + 1) (if j < c then j else j + 1)))).natAbs ≤ 240000 := by
   intro c hc
   have h1 := smi_abs (n := c) (B := 10 * bnd n) (fun q hq => hterm q (by omega))
   have h2 : c * (10 * bnd n) ≤ (n + 1) * (10 * bnd n) := Nat.mul_le_mul hc (Nat.le_refl _)
   omega
  have key : ∀ (d c : Nat), c + d = n + 1 → ∃ K, ∀ k, K ≤ k → spec_saDet.l0 k (sqi (n + 1) f) (smi c (fun c => sg c * f 0 c * dt n (fun i j => f (i + 1) (if j < c then j else j + 1)))) (sg c) ((List.range (n + 1)).map (f 0)) ((n : Int) + 1) (c : Int) = some (dt (n + 1) f) := by
   intro d
   induction d with
   | zero =>
    intro c hc
    refine ⟨1, fun k hk => ?_⟩
    obtain ⟨k, rfl⟩ : ∃ q, k = q + 1 := ⟨k - 1, by omega⟩
    rw [spec_saDet.l0, if_neg (by omega), show c = n + 1 by omega]
    rfl
   | succ d ihd =>
    intro c hc
    have hcn : c < n + 1 := by omega
    obtain ⟨K0, e0⟩ := ihd (c + 1) (by omega)
    obtain ⟨K1, e1⟩ := ih (by omega) (fun r j => f (r + 1) (if j < c then j else j + 1)) (fun r s hr hs => hf _ _ (by omega) (by split <;> omega))
    refine ⟨K0 + K1 + n + 3, fun k hk => ?_⟩
    obtain ⟨k, rfl⟩ : ∃ q, k = (q + n + 1) + 1 := ⟨k - n - 2, by omega⟩
    have e0' := e0 k (by omega)
    have e1' := e1 k (by omega)
    have hlen : ((sqi (n + 1) f).drop 1).length = n := by rw [List.length_drop, sqi_len]; omega
    have h5 := det_l1 (n := n) (c := c) (by omega) hcn f (sqi (n + 1) f) (smi c (fun c => sg c * f 0 c * dt n (fun i j => f (i + 1) (if j < c then j else j + 1)))) (sg c) (f 0 c) ((List.range (n + 1)).map (f 0)) ((n : Int) + 1) (c : Int) n 0 (by omega) k
    rw [List.range_zero, List.map_nil] at h5
    have h6 := hterm c hcn
    have h7 := hsum c (by omega)
    have h8 := hsum (c + 1) (by omega)
    have h9 := sg_abs c
    have h10 := hf 0 c (by omega) hcn
    have h11 : (sg c * f 0 c).natAbs ≤ 10 := by rw [Int.natAbs_mul, h9]; omega
    rw [spec_saDet.l0, if_pos (by omega), if_pos (by omega), if_pos (by simp; omega), if_pos (by rw [sqi_len]; omega), Option.bind_some, rowi_get hcn, hlen, show ((0 : Int)) = ((0 : Nat) : Int) from rfl, h5, spec_saDet.l1, if_neg (by omega), w64 (x := -sg c) (by omega) (by omega), w64 (x := (c : Int) + 1) (by omega) (by omega), ← sg_succ, show (c : Int) + 1 = ((c + 1 : Nat) : Int) from rfl]
    rw [smi] at h8
    by_cases hz : f 0 c = 0
    · rw [if_pos hz]
      have es : smi (c + 1) (fun c => sg c * f 0 c * dt n (fun i j => f (i + 1) (if j < c then j else j + 1))) = smi c (fun c => sg c * f 0 c * dt n (fun i j => f (i + 1) (if j < c then j else j + 1))) := by
       rw [smi, hz]
       simp
      rw [es] at e0'
      exact e0'
    · rw [if_neg hz, e1', Option.bind_some, w64 (x := sg c * f 0 c) (by omega) (by omega), w64 (x := sg c * f 0 c * dt n _) (by omega) (by omega), w64 (by omega) (by omega)]
      rw [smi] at e0'
      exact e0'
  obtain ⟨K, e⟩ := key (n + 1) 0 (by omega)
  refine ⟨K + 1, fun k hk => ?_⟩
  obtain ⟨k, rfl⟩ : ∃ q, k = q + 1 := ⟨k - 1, by omega⟩
  have e' := e k (by omega)
  rw [spec_saDet.f, if_neg (by rw [sqi_len]; omega), if_pos (by rw [sqi_len]; omega), show ((0 : Int)) = ((0 : Nat) : Int) from rfl, sqi_get (by omega)]
  simp only [List.length_map, List.length_range]
  exact e'
theorem cnLow_l0 : ∀ (k : Nat) (n d a b : Int), 0 ≤ a → 0 ≤ b → b < k → 0 < Int.gcd a b → n.natAbs ≤ 9223372036854775807 → d.natAbs ≤ 9223372036854775807 →
 spec_cnLow.l0 k n d a b = some (wrap64 (Int.tdiv n ((Int.gcd a b : Nat) : Int)), wrap64 (Int.tdiv d ((Int.gcd a b : Nat) : Int))) := by
 intro k
 induction k with
 | zero => intro n d a b ha hb hk; omega
 | succ k ih =>
  intro n d a b ha hb hk hg hn hd
  simp only [spec_cnLow.l0]
  by_cases h : b = 0
  · subst h
    rw [Int.gcd_zero_right] at hg ⊢
    rw [if_neg (by omega), if_neg (by omega), show ((a.natAbs : Nat) : Int) = a from by omega]
  · have hb' : 0 < b := by omega
    have h3 := tmod_nn ha hb'
    rw [if_pos hb', if_neg h, ih n d b (Int.tmod a b) hb h3.1 (by omega) (by rw [gcd_step ha hb']; exact hg) hn hd, gcd_step ha hb']
theorem cnLow_ev {n d : Int} (h0 : 0 ≤ n) (hn : n ≤ 9223372036854775807) (h1 : 0 < d) (hd : d ≤ 9223372036854775807) :
 ∃ a b, Low a b n d ∧ ∃ K, ∀ k, K ≤ k → spec_cnLow.f k n d = some (a, b) := by
 have hg : Int.gcd n d ≠ 0 := by
  intro h
  have := (Int.gcd_eq_zero_iff.1 h).2
  omega
 have L := low_div (n := n) (d := d) (g := ((Int.gcd n d : Nat) : Int)) (by omega) (by omega) (Int.mul_pos h1 (by omega))
 have hx := L.num_le
 have hy := L.den_le
 refine ⟨_, _, L, d.natAbs + 1, fun k hk => ?_⟩
 unfold spec_cnLow.f
 rw [cnLow_l0 k n d n d h0 (by omega) (by omega) (by omega) (by omega) (by omega), w64 (by omega) (by omega), w64 (by omega) (by omega)]
theorem cnLow_is {a b n d n' d' : Int} (L : Low a b n' d') (h0 : 0 ≤ n) (hn : n ≤ 9223372036854775807) (h1 : 0 < d) (hd : d ≤ 9223372036854775807) (e : n' * d = n * d') :
 ∃ K, ∀ k, K ≤ k → spec_cnLow.f k n d = some (a, b) := by
 obtain ⟨a', b', L', E⟩ := cnLow_ev h0 hn h1 hd
 obtain ⟨rfl, rfl⟩ := L.unique L' e
 exact E
def tch (o : Int) (s : Nat → Nat → Int) (L : List Nat) (col : Nat → Int) (a : Nat) (i k : Nat) : Int := if k = a then col i else tb o s (bl L) i k
theorem solve_l1 {o : Int} {rows : List (List Int)} (hg : Good o rows) {L : List Nat} (hL : ∀ x ∈ L, x < rows.length) (hnd : L.Nodup) (hn4 : L.length ≤ 5) {a : Nat} (ha : a < L.length) (col : Nat → Int) {cl : List Int} (hcl : cl = (List.range L.length).map col) {i : Nat} (hi : i < L.length)
 (x10 x11 : List (List Int)) (h10 : x10.length ≤ 10) (h11 : x11.length ≤ 10) :
 ∀ (d c : Nat), c + d = L.length → ∀ k,
  spec_saSolve.l1 (k + d + 1) (L.map (fun v : Nat => (v : Int))) cl (bl L a : Int) x10 x11 (i : Int) (bl L i : Int) ((List.range c).map (tb o (sx rows) (bl L) i)) ((List.range c).map (tch o (sx rows) L col a i)) (L.map (fun v : Nat => (v : Int))) (L.length : Int) (i : Int) (L.map (fun v : Nat => (v : Int))) (L.length : Int) (c : Int) o rows =
  spec_saSolve.l0 k (L.map (fun v : Nat => (v : Int))) cl (bl L a : Int) (x10 ++ [(List.range L.length).map (tb o (sx rows) (bl L) i)]) (x11 ++ [(List.range L.length).map (tch o (sx rows) L col a i)]) (L.map (fun v : Nat => (v : Int))) (L.length : Int) ((i + 1 : Nat) : Int) o rows := by
 have hc := sx_chn hg
 have hbi := hL _ (bl_mem hi)
 have hrow := (good_row hg hbi).1
 have ho1 := hc.pos
 have ho2 := hc.top
 have erl : rd_L1 rows (bl L i : Int) = rows.getD (bl L i) [] := by
  unfold rd_L1
  rw [Int.toNat_natCast]
 have hcll : cl.length = L.length := by rw [hcl]; simp
 have hci : rd cl (i : Int) = col i := by rw [hcl, rowi_get hi]
 intro d
 induction d with
 | zero =>
  intro c hcc k
  rw [Nat.add_zero, spec_saSolve.l1, if_neg (by omega), if_pos (by omega), if_pos (by omega), nsucc (by omega), show c = L.length by omega]
 | succ d ih =>
  intro c hcc k
  have hcL : c < L.length := by omega
  have hbc := hL _ (bl_mem hcL)
  have hs0 := hc.nn (bl L i) (bl L c)
  have hs1 := hc.le hbi hbc
  have h1 := ih (c + 1) (by omega) k
  rw [← rng_snoc, ← rng_snoc] at h1
  rw [show k + (d + 1) + 1 = (k + d + 1) + 1 from by omega, spec_saSolve.l1, if_pos (by omega), if_pos (by omega), List.length_map, if_pos (by omega), if_pos (by omega), if_pos (by omega), bl_rd hcL, if_pos (by omega), erl, if_pos (by omega), ← erl, sx_rd, nsucc (n := c) (by omega)]
  rw [w64 (x := -sx rows (bl L i) (bl L c)) (by omega) (by omega)]
  have eT : tb o (sx rows) (bl L) i c = if i = c then o - sx rows (bl L i) (bl L c) else -sx rows (bl L i) (bl L c) := rfl
  by_cases eic : (i : Int) = (c : Int)
  · have eic' : i = c := by omega
    rw [if_pos eic, if_pos (by simp; omega), Option.bind_some, w64 (x := -sx rows (bl L i) (bl L c) + o) (by omega) (by omega)]
    have e1 : -sx rows (bl L i) (bl L c) + o = tb o (sx rows) (bl L) i c := by rw [eT, if_pos eic']; omega
    rw [e1]
    by_cases eca : c = a
    · rw [if_pos (by rw [eca]), if_pos (by omega), if_pos (by omega), if_pos (by simp; omega), hci]
      have e2 : tch o (sx rows) L col a i c = col i := if_pos eca
      rw [e2] at h1
      exact h1
    · rw [if_neg (fun e => eca (bl_inj hnd hcL ha (by omega))), if_pos (by simp; omega)]
      have e2 : tch o (sx rows) L col a i c = tb o (sx rows) (bl L) i c := if_neg eca
      rw [e2] at h1
      exact h1
  · have eic' : i ≠ c := fun e => eic (by rw [e])
    rw [if_neg eic, if_pos (by simp; omega), Option.bind_some]
    have e1 : -sx rows (bl L i) (bl L c) = tb o (sx rows) (bl L) i c := by rw [eT, if_neg eic']
    rw [e1]
    by_cases eca : c = a
    · rw [if_pos (by rw [eca]), if_pos (by omega), if_pos (by omega), if_pos (by simp; omega), hci]
      have e2 : tch o (sx rows) L col a i c = col i := if_pos eca
      rw [e2] at h1
      exact h1
    · rw [if_neg (fun e => eca (bl_inj hnd hcL ha (by omega))), if_pos (by simp; omega)]
      have e2 : tch o (sx rows) L col a i c = tb o (sx rows) (bl L) i c := if_neg eca
      rw [e2] at h1
      exact h1
theorem solve_l0 {o : Int} {rows : List (List Int)} (hg : Good o rows) {L : List Nat} (hL : ∀ x ∈ L, x < rows.length) (hnd : L.Nodup) (hn4 : L.length ≤ 5) {a : Nat} (ha : a < L.length) (col : Nat → Int) {cl : List Int} (hcl : cl = (List.range L.length).map col) {D1 D2 : Int} {p q : Int}
 (h1 : ∃ K, ∀ k, K ≤ k → spec_saDet.f k (sqi L.length (tb o (sx rows) (bl L))) = some D1) (h2 : ∃ K, ∀ k, K ≤ k → spec_saDet.f k (sqi L.length (tch o (sx rows) L col a)) = some D2) (h3 : ∃ K, ∀ k, K ≤ k → spec_cnLow.f k D2 D1 = some (p, q)) :
 ∀ (d i : Nat), i + d = L.length → ∃ K, ∀ k, K ≤ k →
  spec_saSolve.l0 k (L.map (fun v : Nat => (v : Int))) cl (bl L a : Int) ((List.range i).map (fun r => (List.range L.length).map (tb o (sx rows) (bl L) r))) ((List.range i).map (fun r => (List.range L.length).map (tch o (sx rows) L col a r))) (L.map (fun v : Nat => (v : Int))) (L.length : Int) (i : Int) o rows = some (p, q) := by
 intro d
 induction d with
 | zero =>
  intro i hi
  obtain ⟨K1, e1⟩ := h1
  obtain ⟨K2, e2⟩ := h2
  obtain ⟨K3, e3⟩ := h3
  refine ⟨K1 + K2 + K3 + 1, fun k hk => ?_⟩
  obtain ⟨k, rfl⟩ : ∃ q, k = q + 1 := ⟨k - 1, by omega⟩
  have e1' := e1 k (by omega)
  have e2' := e2 k (by omega)
  unfold sqi at e1' e2'
  rw [spec_saSolve.l0, if_neg (by omega), show i = L.length by omega, e2', Option.bind_some, e1', Option.bind_some, e3 k (by omega), Option.bind_some]
 | succ d ih =>
  intro i hi
  obtain ⟨K0, e0⟩ := ih (i + 1) (by omega)
  have hiL : i < L.length := by omega
  refine ⟨K0 + L.length + 3, fun k hk => ?_⟩
  obtain ⟨k, rfl⟩ : ∃ q, k = (q + L.length + 1) + 1 := ⟨k - L.length - 2, by omega⟩
  have h5 := solve_l1 hg hL hnd hn4 ha col hcl hiL ((List.range i).map (fun r => (List.range L.length).map (tb o (sx rows) (bl L) r))) ((List.range i).map (fun r => (List.range L.length).map (tch o (sx rows) L col a r))) (by simp; omega) (by simp; omega) L.length 0 (by omega) k
  rw [List.range_zero, List.map_nil, List.map_nil] at h5
  rw [spec_saSolve.l0, if_pos (by omega), if_pos (by omega), List.length_map, if_pos (by omega), bl_rd hiL, show ((0 : Int)) = ((0 : Nat) : Int) from rfl, h5]
  have e0' := e0 k (by omega)
  rw [← rng_snoc, ← rng_snoc] at e0'
  exact e0'
theorem tb_abs {o : Int} {rows : List (List Int)} (hg : Good o rows) {L : List Nat} (hL : ∀ x ∈ L, x < rows.length) {r c : Nat} (hr : r < L.length) (hc : c < L.length) : (tb o (sx rows) (bl L) r c).natAbs ≤ 10 := by
 have h := sx_chn hg
 have h1 := h.nn (bl L r) (bl L c)
 have h2 := h.le (hL _ (bl_mem hr)) (hL _ (bl_mem hc))
 have h3 := h.top
 unfold tb
 split <;> omega
theorem solve_ev {o : Int} {rows : List (List Int)} (hg : Good o rows) {L : List Nat} (hL : ∀ x ∈ L, x < rows.length) (hnd : L.Nodup) (hn4 : L.length ≤ 4) {a : Nat} (ha : a < L.length) (col : Nat → Int) (hcol : ∀ k, k < L.length → 0 ≤ col k ∧ col k ≤ 10) (hm : Mm L.length (tb o (sx rows) (bl L))) :
 ∃ y : Nat → Rat, (∀ k, k < L.length → sm L.length (fun j => (tb o (sx rows) (bl L) k j : Rat) * y j) = (col k : Rat)) ∧ (∀ q, q < L.length → 0 ≤ y q) ∧
  ∃ K, ∀ k, K ≤ k → spec_saSolve.f k o rows (L.map (fun v : Nat => (v : Int))) ((List.range L.length).map col) (bl L a : Int) = some ((y a).num, ((y a).den : Int)) := by
 obtain ⟨d1, d2⟩ := hm.dts L.length (Nat.le_refl _) hn4
 have hd : dt L.length (tb o (sx rows) (bl L)) ≠ 0 := by omega
 obtain ⟨y, hy⟩ : ∃ y : Nat → Rat, y = fun j => ((cr L.length (tb o (sx rows) (bl L)) col j : Int) : Rat) / ((dt L.length (tb o (sx rows) (bl L)) : Int) : Rat) := ⟨_, rfl⟩
 have hsol : ∀ k, k < L.length → sm L.length (fun j => (tb o (sx rows) (bl L) k j : Rat) * y j) = (col k : Rat) := by
  rw [hy]
  exact det_solves hn4 hd col
 have hnn : ∀ q, q < L.length → 0 ≤ y q := by
  have hm2 : Mm L.length (fun k c => if c < L.length then tb o (sx rows) (bl L) k c else col k) := hm.congr (fun k c _ hc => if_pos hc)
  refine sol_nonneg hm2 (fun k hk => by rw [if_neg (by omega)]; exact (hcol k hk).1) (fun k hk => ?_)
  rw [if_neg (by omega), ← hsol k hk]
  exact sm_congr fun j hj => by rw [if_pos hj]
 refine ⟨y, hsol, hnn, ?_⟩
 have e1 := det_ev L.length hn4 (tb o (sx rows) (bl L)) (fun r s hr hs => tb_abs hg hL hr hs)
 have e2 := det_ev L.length hn4 (tch o (sx rows) L col a) (fun r s hr hs => by
  unfold tch
  split
  · have := hcol r hr; omega
  · exact tb_abs hg hL hr hs)
 have ecr : dt L.length (tch o (sx rows) L col a) = cr L.length (tb o (sx rows) (bl L)) col a := rfl
 have hya : y a * ((dt L.length (tb o (sx rows) (bl L)) : Int) : Rat) = ((dt L.length (tch o (sx rows) L col a) : Int) : Rat) := by
  rw [hy, ecr]
  have := castne hd
  grind
 have hn0 : 0 ≤ dt L.length (tch o (sx rows) L col a) := by
  have h1 := Rat.mul_nonneg (hnn a ha) (show (0 : Rat) ≤ ((dt L.length (tb o (sx rows) (bl L)) : Int) : Rat) by exact_mod_cast Int.le_of_lt d1)
  rw [hya] at h1
  exact_mod_cast h1
 have hb1 := dt_abs L.length (tch o (sx rows) L col a) (fun r s hr hs => by
  unfold tch
  split
  · have := hcol r hr; omega
  · exact tb_abs hg hL hr hs)
 have hb2 := dt_abs L.length (tb o (sx rows) (bl L)) (fun r s hr hs => tb_abs hg hL hr hs)
 have hb3 := bnd_mono4 hn4
 have e3 := cnLow_is (low_of_rat hd hya) hn0 (by omega) d1 (by omega) (by rfl)
 obtain ⟨K, e⟩ := solve_l0 hg hL hnd (by omega) ha col rfl e1 e2 e3 L.length 0 (by omega)
 refine ⟨K, fun k hk => ?_⟩
 have := e k hk
 rw [List.range_zero, List.map_nil, List.map_nil] at this
 unfold spec_saSolve.f
 rw [List.length_map]
 exact this
def Marks (n : Nat) (out : List Bool) (q : List Nat) : Prop := out.length = n ∧ ∀ k, (h : k < out.length) → (out[k] = true ↔ k ∈ q)
theorem reached_l1 (o : Int) (rows : List (List Int)) (cl : Int) (s : Nat) (hn : rows.length ≤ 5) (hsq : ∀ r ∈ rows, r.length = rows.length) (i c : Nat) (hc : c < rows.length) (hcc : (c : Int) ≠ cl) :
 ∀ (m j : Nat) (out : List Bool) (q : List Nat), j + m = rows.length → Qu rows cl s q → Marks rows.length out q → i < q.length → q[i]? = some c → (∀ k, k < j → Edge rows c k → k ∈ q) →
 ∃ out' q', Qu rows cl s q' ∧ Marks rows.length out' q' ∧ q <+: q' ∧ (∀ k, k < rows.length → Edge rows c k → k ∈ q') ∧
  ∀ k, m < k → impl_States_reached.l1 k cl out (q.map (fun v : Nat => (v : Int))) i (rows[c]) ((rows[c]).length : Int) j o rows = impl_States_reached.l0 (k - m - 1) cl out' (q'.map (fun v : Nat => (v : Int))) (i + 1) o rows := by
 have hlen := hsq _ (List.getElem_mem hc)
 intro m
 induction m with
 | zero =>
  intro j out q hj hq hm hi hqi hd
  refine ⟨out, q, hq, hm, List.prefix_refl _, fun k hk he => hd k (by omega) he, fun k hk => ?_⟩
  obtain ⟨k, rfl⟩ : ∃ m, k = m + 1 := ⟨k - 1, by omega⟩
  have := hq.len
  simp only [impl_States_reached.l1]
  rw [if_neg (by omega), w64 (x := (i : Int) + 1) (by omega) (by omega)]
  rfl
 | succ m ih =>
  intro j out q hj hq hm hi hqi hd
  have hlt : j < (rows[c]).length := by omega
  have hlo : j < out.length := by have := hm.1; omega
  have hql := hq.len
  have hin := edge_get hc hlt
  by_cases c1 : 0 < rows[c][j]
  · by_cases c2 : out[j] = true
    · have hjq : j ∈ q := (hm.2 j hlo).1 c2
      obtain ⟨out', q', h1, h2, h3, h4, E⟩ := ih (j + 1) out q (by omega) hq hm hi hqi (fun k hk he => if h : k = j then h ▸ hjq else hd k (by omega) he)
      refine ⟨out', q', h1, h2, h3, h4, fun k hk => ?_⟩
      obtain ⟨k, rfl⟩ : ∃ m, k = m + 1 := ⟨k - 1, by omega⟩
      simp only [impl_States_reached.l1]
      rw [if_pos (by omega), if_pos (by omega), if_pos (by omega), rd_get hlt, if_pos (by omega), if_pos (by omega), rdOf_get hlo, if_pos c2, w64 (x := (j : Int) + 1) (by omega) (by omega)]
      have := E k (by omega)
      rw [show k + 1 - (m + 1) - 1 = k - m - 1 from by omega]
      exact this
    · have hjq : j ∉ q := fun h => c2 ((hm.2 j hlo).2 h)
      have hq2 : Qu rows cl s (q ++ [j]) := by
       refine ⟨?_, ?_, ?_, List.mem_append_left _ hq.mem⟩
       · rw [List.nodup_append]
         refine ⟨hq.nd, by simp, ?_⟩
         intro a ha b hb
         rw [List.mem_singleton] at hb
         rintro rfl
         exact hjq (hb ▸ ha)
       · intro v hv
         rcases List.mem_append.1 hv with hv | hv
         · exact hq.lt v hv
         · rw [List.mem_singleton] at hv; omega
       · intro v hv
         rcases List.mem_append.1 hv with hv | hv
         · exact hq.rc v hv
         · rw [List.mem_singleton] at hv
           subst hv
           exact RC.step c v (hq.rc c (List.mem_of_getElem? hqi)) hcc (by omega) (hin.2 c1)
      have hm2 : Marks rows.length (out.set j true) (q ++ [j]) := by
       refine ⟨by rw [List.length_set]; exact hm.1, fun k hk => ?_⟩
       rw [List.length_set] at hk
       rw [List.getElem_set]
       by_cases e : j = k
       · subst e; simp
       · rw [if_neg e, hm.2 k hk]
         simp only [List.mem_append, List.mem_singleton]
         constructor
         · exact .inl
         · rintro (h | h)
           · exact h
           · exact absurd h.symm e
      have hql2 := hq2.len
      rw [List.length_append, List.length_singleton] at hql2
      obtain ⟨out', q', h1, h2, h3, h4, E⟩ := ih (j + 1) (out.set j true) (q ++ [j]) (by omega) hq2 hm2 (by rw [List.length_append]; omega) (by rw [List.getElem?_append_left hi]; exact hqi)
       (fun k hk he => if h : k = j then by simp [h] else List.mem_append_left _ (hd k (by omega) he))
      refine ⟨out', q', h1, h2, (List.prefix_append q [j]).trans h3, h4, fun k hk => ?_⟩
      obtain ⟨k, rfl⟩ : ∃ m, k = m + 1 := ⟨k - 1, by omega⟩
      simp only [impl_States_reached.l1]
      rw [if_pos (by omega), if_pos (by omega), if_pos (by omega), rd_get hlt, if_pos (by omega), if_pos (by omega), rdOf_get hlo, if_neg c2, if_pos (by rw [List.length_map]; omega), w64 (x := (j : Int) + 1) (by omega) (by omega), Int.toNat_natCast]
      have := E k (by omega)
      rw [List.map_append, List.map_singleton] at this
      rw [show k + 1 - (m + 1) - 1 = k - m - 1 from by omega]
      exact this
  · obtain ⟨out', q', h1, h2, h3, h4, E⟩ := ih (j + 1) out q (by omega) hq hm hi hqi (fun k hk he => if h : k = j then absurd (hin.1 (h ▸ he)) c1 else hd k (by omega) he)
    refine ⟨out', q', h1, h2, h3, h4, fun k hk => ?_⟩
    obtain ⟨k, rfl⟩ : ∃ m, k = m + 1 := ⟨k - 1, by omega⟩
    simp only [impl_States_reached.l1]
    rw [if_pos (by omega), if_pos (by omega), if_pos (by omega), rd_get hlt, if_neg (by omega), w64 (x := (j : Int) + 1) (by omega) (by omega)]
    have := E k (by omega)
    rw [show k + 1 - (m + 1) - 1 = k - m - 1 from by omega]
    exact this
theorem reached_l0 (o : Int) (rows : List (List Int)) (cl : Int) (s : Nat) (hn : rows.length ≤ 5) (hsq : ∀ r ∈ rows, r.length = rows.length) :
 ∀ (d i : Nat) (out : List Bool) (q : List Nat), i + d = rows.length → i ≤ q.length → Qu rows cl s q → Marks rows.length out q → Through rows cl q i →
 ∃ out', out'.length = rows.length ∧ (∀ k, (h : k < out'.length) → (out'[k] = true ↔ RC rows cl s k)) ∧ ∀ k, 10 * d + 1 ≤ k → impl_States_reached.l0 k cl out (q.map (fun v : Nat => (v : Int))) i o rows = some out' := by
 have fin : ∀ (i : Nat) (out : List Bool) (q : List Nat), q.length ≤ i → i ≤ q.length → Qu rows cl s q → Marks rows.length out q → Through rows cl q i →
  ∃ out', out'.length = rows.length ∧ (∀ k, (h : k < out'.length) → (out'[k] = true ↔ RC rows cl s k)) ∧ ∀ k, 1 ≤ k → impl_States_reached.l0 k cl out (q.map (fun v : Nat => (v : Int))) i o rows = some out' := by
  intro i out q h1 h2 hq hm ht
  obtain rfl : i = q.length := by omega
  refine ⟨out, hm.1, fun k hk => (hm.2 k hk).trans (hq.all ht k).symm, fun k hk => ?_⟩
  obtain ⟨k, rfl⟩ : ∃ m, k = m + 1 := ⟨k - 1, by omega⟩
  simp only [impl_States_reached.l0]
  rw [if_neg (by rw [List.length_map]; omega)]
 intro d
 induction d with
 | zero =>
  intro i out q hi hiq hq hm ht
  have := hq.len
  obtain ⟨out', h1, h2, E⟩ := fin i out q (by omega) hiq hq hm ht
  exact ⟨out', h1, h2, fun k hk => E k (by omega)⟩
 | succ d ih =>
  intro i out q hi hiq hq hm ht
  have hql := hq.len
  by_cases c0 : i < q.length
  · have hqi : q[i]? = some q[i] := List.getElem?_eq_getElem c0
    have hc := hq.lt _ (List.getElem_mem c0)
    by_cases c1 : (q[i] : Int) = cl
    · obtain ⟨out', h1, h2, E⟩ := ih (i + 1) out q (by omega) (by omega) hq hm (by
       intro a ha v hv hvc k hk he
       by_cases e : a = i
       · subst e; rw [hqi] at hv; injection hv with hv; exact absurd (hv ▸ c1) hvc
       · exact ht a (by omega) v hv hvc k hk he)
      refine ⟨out', h1, h2, fun k hk => ?_⟩
      obtain ⟨k, rfl⟩ : ∃ m, k = m + 1 := ⟨k - 1, by omega⟩
      simp only [impl_States_reached.l0]
      rw [if_pos (by rw [List.length_map]; omega), if_pos (by omega), rd_nats c0, if_pos c1, w64 (x := (i : Int) + 1) (by omega) (by omega)]
      exact E k (by omega)
    · obtain ⟨out1, q1, hq1, hm1, hp, hall, E1⟩ := reached_l1 o rows cl s hn hsq i q[i] hc c1 rows.length 0 out q (by omega) hq hm c0 hqi (fun k hk => absurd hk (Nat.not_lt_zero _))
      have hpl := hp.length_le
      obtain ⟨out', h1, h2, E⟩ := ih (i + 1) out1 q1 (by omega) (by omega) hq1 hm1 (by
       intro a ha v hv hvc k hk he
       by_cases e : a = i
       · subst e
         obtain ⟨t, rfl⟩ := hp
         rw [List.getElem?_append_left c0, hqi] at hv
         injection hv with hv
         exact hall k hk (hv ▸ he)
       · exact ht.more hiq hp a (by omega) v hv hvc k hk he)
      refine ⟨out', h1, h2, fun k hk => ?_⟩
      obtain ⟨k, rfl⟩ : ∃ m, k = m + 1 := ⟨k - 1, by omega⟩
      simp only [impl_States_reached.l0]
      rw [if_pos (by rw [List.length_map]; omega), if_pos (by omega), rd_nats c0, if_neg c1, if_pos (by omega), if_pos (by omega), rd1_get hc]
      exact (E1 k (by omega)).trans (E _ (by omega))
  · obtain ⟨out', h1, h2, E⟩ := fin i out q (by omega) hiq hq hm ht
    exact ⟨out', h1, h2, fun k hk => E k (by omega)⟩
theorem reached_ev (o : Int) (rows : List (List Int)) (cl : Int) (s : Nat) (hn : rows.length ≤ 5) (hsq : ∀ r ∈ rows, r.length = rows.length) (hs : s < rows.length) :
 ∃ out, out.length = rows.length ∧ (∀ k, (h : k < out.length) → (out[k] = true ↔ RC rows cl s k)) ∧ ∀ k, 60 ≤ k → impl_States_reached.f k o rows s cl = some out := by
 have hq : Qu rows cl s [s] := ⟨by simp, by simp [hs], by simp [RC.base], by simp⟩
 have hm : Marks rows.length ((List.replicate rows.length false).set s true) [s] := by
  refine ⟨by simp, fun k hk => ?_⟩
  rw [List.getElem_set]
  by_cases e : s = k
  · simp [e]
  · rw [if_neg e]; simp; omega
 obtain ⟨out, h1, h2, E⟩ := reached_l0 o rows cl s hn hsq rows.length 0 _ [s] (by omega) (by simp) hq hm (fun a ha => absurd ha (Nat.not_lt_zero _))
 refine ⟨out, h1, h2, fun k hk => ?_⟩
 simp only [impl_States_reached.f]
 rw [if_pos (by omega), if_pos (by omega), Int.toNat_natCast]
 simp only [Option.bind_some, List.length_replicate]
 rw [if_pos (by omega), if_pos (by omega), Int.toNat_natCast]
 exact E k (by omega)
noncomputable def such (j m : Nat) (p : Nat → Prop) : List Int := ((List.range' j m).filter (fun i => @decide (p i) (Classical.propDecidable _))).map (fun v : Nat => (v : Int))
theorem such_zero (j : Nat) (p : Nat → Prop) : such j 0 p = [] := by simp [such]
theorem such_pos {j m : Nat} {p : Nat → Prop} (h : p j) : such j (m + 1) p = (j : Int) :: such (j + 1) m p := by
 unfold such
 rw [List.range'_succ, List.filter_cons_of_pos (by simpa using h), List.map_cons]
theorem such_neg {j m : Nat} {p : Nat → Prop} (h : ¬ p j) : such j (m + 1) p = such (j + 1) m p := by
 unfold such
 rw [List.range'_succ, List.filter_cons_of_neg (by simpa using h)]
theorem such_len (j m : Nat) (p : Nat → Prop) : (such j m p).length ≤ m := by
 unfold such
 rw [List.length_map]
 exact Nat.le_trans (List.length_filter_le _ _) (by simp)
theorem such_congr {j m : Nat} {p q : Nat → Prop} (h : ∀ i, j ≤ i → i < j + m → (p i ↔ q i)) : such j m p = such j m q := by
 unfold such
 congr 1
 apply List.filter_congr
 intro i hi
 rw [List.mem_range'_1] at hi
 simp [h i hi.1 hi.2]
theorem such_mem {j m : Nat} {p : Nat → Prop} {x : Int} : x ∈ such j m p ↔ ∃ i : Nat, x = i ∧ j ≤ i ∧ i < j + m ∧ p i := by
 unfold such
 simp only [List.mem_map, List.mem_filter, List.mem_range'_1, decide_eq_true_eq]
 constructor
 · rintro ⟨a, ⟨⟨h1, h2⟩, h3⟩, rfl⟩
   exact ⟨a, rfl, h1, h2, h3⟩
 · rintro ⟨a, rfl, h1, h2, h3⟩
   exact ⟨a, ⟨⟨h1, h2⟩, h3⟩, rfl⟩
theorem members_l0 (out : List Bool) (hn : out.length ≤ 5) : ∀ (m j : Nat) (acc : List Int), j + m = out.length → acc.length ≤ j → ∀ k, m < k →
 impl_members.l0 k acc out (out.length : Int) j = some (acc ++ such j m (fun i => out.getD i false = true)) := by
 intro m
 induction m with
 | zero =>
  intro j acc hj ha k hk
  obtain ⟨k, rfl⟩ : ∃ m, k = m + 1 := ⟨k - 1, by omega⟩
  simp only [impl_members.l0]
  rw [if_neg (by omega), such_zero, List.append_nil]
 | succ m ih =>
  intro j acc hj ha k hk
  obtain ⟨k, rfl⟩ : ∃ m, k = m + 1 := ⟨k - 1, by omega⟩
  have hlt : j < out.length := by omega
  have hg : out.getD j false = out[j] := by rw [List.getD_eq_getElem?_getD, List.getElem?_eq_getElem hlt]; rfl
  simp only [impl_members.l0]
  rw [if_pos (by omega), if_pos (by omega), if_pos (by omega), rdOf_get hlt, w64 (x := (j : Int) + 1) (by omega) (by omega)]
  by_cases c : out[j] = true
  · rw [if_pos c, if_pos (by omega)]
    have := ih (j + 1) (acc ++ [(j : Int)]) (by omega) (by simp; omega) k (by omega)
    rw [such_pos (by rw [hg]; exact c)]
    rw [List.append_assoc, List.singleton_append] at this
    exact this
  · rw [if_neg c]
    have := ih (j + 1) acc (by omega) (by omega) k (by omega)
    rw [such_neg (by rw [hg]; exact c)]
    exact this
theorem members_ev (n : Nat) (out : List Bool) (p : Nat → Prop) (hn : n ≤ 5) (hl : out.length = n) (hp : ∀ k, (h : k < out.length) → (out[k] = true ↔ p k)) (k : Nat) (hk : 6 ≤ k) : impl_members.f k out = some (such 0 n p) := by
 unfold impl_members.f
 rw [show impl_members.l0 k ([] : List Int) out (out.length : Int) 0 = _ from members_l0 out (by omega) out.length 0 [] (by omega) (by simp) k (by omega), List.nil_append, hl]
 congr 1
 apply such_congr
 intro i _ h2
 have hlt : i < out.length := by omega
 rw [List.getD_eq_getElem?_getD, List.getElem?_eq_getElem hlt]
 exact hp i hlt
noncomputable def sn (n : Nat) (p : Nat → Prop) : List Nat := (List.range' 0 n).filter (fun i => @decide (p i) (Classical.propDecidable _))
theorem such_sn (n : Nat) (p : Nat → Prop) : such 0 n p = (sn n p).map (fun v : Nat => (v : Int)) := rfl
theorem sn_mem {n : Nat} {p : Nat → Prop} {x : Nat} : x ∈ sn n p ↔ x < n ∧ p x := by
 unfold sn
 simp only [List.mem_filter, List.mem_range'_1, decide_eq_true_eq]
 constructor
 · rintro ⟨⟨_, h1⟩, h2⟩
   exact ⟨by omega, h2⟩
 · rintro ⟨h1, h2⟩
   exact ⟨⟨by omega, by omega⟩, h2⟩
theorem sn_nodup (n : Nat) (p : Nat → Prop) : (sn n p).Nodup := by
 unfold sn
 exact List.Nodup.sublist List.filter_sublist List.nodup_range'
theorem sn_congr {n : Nat} {p q : Nat → Prop} (h : ∀ i, i < n → (p i ↔ q i)) : sn n p = sn n q := by
 unfold sn
 apply List.filter_congr
 intro i hi
 rw [List.mem_range'_1] at hi
 simp [h i (by omega)]
theorem sn_filter (n : Nat) (p : Nat → Prop) (q : Nat → Bool) : (sn n p).filter q = sn n (fun i => p i ∧ q i = true) := by
 unfold sn
 rw [List.filter_filter]
 apply List.filter_congr
 intro i _
 by_cases h : p i <;> cases hq : q i <;> simp [h, hq]
theorem keep_is {k : Nat} {o : Int} {rows : List (List Int)} {goal : Int} {q : Int → Bool} : ∀ l : List Int, (∀ x ∈ l, impl_States_inner.bad k o rows goal x = some (!q x)) → impl_States_inner.keep k o rows goal l = some (l.filter q)
 | [], _ => rfl
 | x :: xs, h => by
  rw [impl_States_inner.keep, h x (by simp), Option.bind_some, keep_is xs (fun y hy => h y (by simp [hy])), Option.bind_some, List.filter_cons]
  cases q x <;> rfl
theorem inner_ev (o : Int) (rows : List (List Int)) (f g : Nat) (hn : rows.length ≤ 5) (hsq : ∀ r ∈ rows, r.length = rows.length) (hf : f < rows.length) (hg : g < rows.length) (k : Nat) (hk : 100 ≤ k) :
 impl_States_inner.f k o rows f g = some (such 0 rows.length (fun i => RC rows g f i ∧ i ≠ g ∧ RC rows (-1) i g)) := by
 obtain ⟨out, hl, hp, E⟩ := reached_ev o rows (g : Int) f hn hsq hf
 unfold impl_States_inner.f
 rw [E k (by omega), Option.bind_some, members_ev rows.length out _ hn hl hp k (by omega), Option.bind_some]
 have hlen := such_len 0 rows.length (RC rows g f)
 have hpos : 0 < (such 0 rows.length (RC rows g f)).length := List.length_pos_of_mem (such_mem.2 ⟨f, rfl, by omega, by omega, RC.base⟩)
 rw [if_pos hpos, if_pos (by omega)]
 have hbad : ∀ x ∈ such 0 rows.length (RC rows g f), impl_States_inner.bad k o rows g x = some (!(@decide (x.toNat ≠ g ∧ RC rows (-1) x.toNat g) (Classical.propDecidable _))) := by
  intro x hx
  obtain ⟨i, rfl, _, hi, hr⟩ := such_mem.1 hx
  rw [Int.toNat_natCast]
  unfold impl_States_inner.bad
  by_cases e : (i : Int) = (g : Int)
  · have e' : i = g := by omega
    rw [if_pos e]
    simp [e']
  · have e' : i ≠ g := fun h => e (by rw [h])
    obtain ⟨out2, hl2, hp2, E2⟩ := reached_ev o rows (-1) i hn hsq (by omega)
    rw [if_neg e, E2 k (by omega), Option.bind_some, if_pos (by omega), if_pos (by omega), rdOf_get (by omega)]
    have h3 := hp2 g (by omega)
    cases h4 : out2[g]'(by omega) with
    | true => simp [e', h3.1 h4]
    | false =>
     have : ¬ RC rows (-1) i g := fun h => by rw [h3.2 h] at h4; cases h4
     simp [e', this]
 rw [keep_is _ hbad, such_sn, such_sn, List.filter_map]
 congr 2
 rw [sn_filter]
 refine sn_congr fun i hi => ?_
 simp
theorem in_true {n a b : Int} (h : a ≤ n ∧ n ≤ b) : (if n ≥ a then some (decide (n ≤ b)) else some false) = some true := by
 rw [if_pos h.1, decide_eq_true h.2]
theorem in_false {n a b : Int} (h : ¬ (a ≤ n ∧ n ≤ b)) : (if n ≥ a then some (decide (n ≤ b)) else some false) = some false := by
 by_cases h1 : n ≥ a
 · rw [if_pos h1, decide_eq_false (by omega)]
 · rw [if_neg h1]
theorem l1All_l0 (a b : Int) (xs : List Int) (hx : xs.length ≤ 1048576) : ∀ (m j : Nat), j + m = xs.length →
 ∃ t : Bool, (t = true ↔ ∀ x ∈ xs.drop j, a ≤ x ∧ x ≤ b) ∧ ∀ k, m < k → spec_l1All.l0 k a b xs (xs.length : Int) j = some t := by
 intro m
 induction m with
 | zero =>
  intro j hj
  refine ⟨true, ?_, fun k hk => ?_⟩
  · rw [List.drop_of_length_le (by omega)]; simp
  · obtain ⟨k, rfl⟩ : ∃ m, k = m + 1 := ⟨k - 1, by omega⟩
    simp only [spec_l1All.l0]
    rw [if_neg (by omega)]
 | succ m ih =>
  intro j hj
  have hlt : j < xs.length := by omega
  by_cases h : a ≤ xs[j] ∧ xs[j] ≤ b
  · obtain ⟨t, ht, E⟩ := ih (j + 1) (by omega)
    refine ⟨t, ?_, fun k hk => ?_⟩
    · rw [List.drop_eq_getElem_cons hlt, ht]
      simp only [List.mem_cons, forall_eq_or_imp]
      exact ⟨fun h2 => ⟨h, h2⟩, fun h2 => h2.2⟩
    · obtain ⟨k, rfl⟩ : ∃ m, k = m + 1 := ⟨k - 1, by omega⟩
      simp only [spec_l1All.l0, spec_l1In.f]
      rw [if_pos (by omega), if_pos (by omega), if_pos (by omega), rd_get hlt, in_true h]
      simp only [Option.bind_some, ↓reduceIte]
      rw [w64 (x := (j : Int) + 1) (by omega) (by omega)]
      exact E k (by omega)
  · refine ⟨false, ?_, fun k hk => ?_⟩
    · rw [List.drop_eq_getElem_cons hlt]
      simp only [Bool.false_eq_true, false_iff]
      exact fun h2 => h (h2 _ List.mem_cons_self)
    · obtain ⟨k, rfl⟩ : ∃ m, k = m + 1 := ⟨k - 1, by omega⟩
      simp only [spec_l1All.l0, spec_l1In.f]
      rw [if_pos (by omega), if_pos (by omega), if_pos (by omega), rd_get hlt, in_false h]
      simp
theorem saGood_l1 (o : Int) (rows : List (List Int)) (jj : Int) (xs : List Int) (hx : xs.length ≤ 5) (ha : ∀ x ∈ xs, 0 ≤ x ∧ x ≤ 10) : ∀ (m j : Nat) (acc : Int), j + m = xs.length → 0 ≤ acc → acc ≤ 10 * j → ∀ k, m < k →
 spec_saGood.l1 k acc rows (rows.length : Int) jj xs (xs.length : Int) j o rows = if acc + (xs.drop j).sum = o then spec_saGood.l0 (k - m - 1) rows (rows.length : Int) (wrap64 (jj + 1)) o rows else some false := by
 intro m
 induction m with
 | zero =>
  intro j acc hj h0 h1 k hk
  obtain ⟨k, rfl⟩ : ∃ m, k = m + 1 := ⟨k - 1, by omega⟩
  simp only [spec_saGood.l1]
  rw [if_neg (by omega), List.drop_of_length_le (by omega)]
  simp
 | succ m ih =>
  intro j acc hj h0 h1 k hk
  obtain ⟨k, rfl⟩ : ∃ m, k = m + 1 := ⟨k - 1, by omega⟩
  have hlt : j < xs.length := by omega
  have hxj := ha _ (List.getElem_mem hlt)
  simp only [spec_saGood.l1]
  rw [if_pos (by omega), if_pos (by omega), if_pos (by omega), rd_get hlt, w64 (x := acc + xs[j]) (by omega) (by omega), w64 (x := (j : Int) + 1) (by omega) (by omega), show (j : Int) + 1 = ((j + 1 : Nat) : Int) from by omega]
  rw [ih (j + 1) (acc + xs[j]) (by omega) (by omega) (by omega) k (by omega), List.drop_eq_getElem_cons hlt, List.sum_cons, Int.add_assoc]
  rw [show k + 1 - (m + 1) - 1 = k - m - 1 from by omega]
theorem saGood_l0 (o : Int) (o1 : o ≤ 10) (rows : List (List Int)) (hn : rows.length ≤ 5) (hl : ∀ r ∈ rows, r.length ≤ 1048576) : ∀ (m j : Nat), j + m = rows.length →
 ∃ t : Bool, (t = true ↔ ∀ row ∈ rows.drop j, GoodRow rows.length o row) ∧ ∃ K, ∀ k, K ≤ k → spec_saGood.l0 k rows (rows.length : Int) j o rows = some t := by
 intro m
 induction m with
 | zero =>
  intro j hj
  refine ⟨true, ?_, 1, fun k hk => ?_⟩
  · rw [List.drop_of_length_le (by omega)]; simp
  · obtain ⟨k, rfl⟩ : ∃ m, k = m + 1 := ⟨k - 1, by omega⟩
    simp only [spec_saGood.l0]
    rw [if_neg (by omega)]
 | succ m ih =>
  intro j hj
  have hlt : j < rows.length := by omega
  have hll := hl _ (List.getElem_mem hlt)
  obtain ⟨t1, ht1, E1⟩ := l1All_l0 0 o rows[j] hll rows[j].length 0 (by omega)
  rw [List.drop_zero] at ht1
  have bad : ¬ GoodRow rows.length o rows[j] → (∃ K, ∀ k, K ≤ k → spec_saGood.l0 k rows (rows.length : Int) j o rows = some false) → ∃ t : Bool, (t = true ↔ ∀ row ∈ rows.drop j, GoodRow rows.length o row) ∧ ∃ K, ∀ k, K ≤ k → spec_saGood.l0 k rows (rows.length : Int) j o rows = some t := by
   intro hb hE
   refine ⟨false, ?_, hE⟩
   rw [List.drop_eq_getElem_cons hlt]
   simp only [Bool.false_eq_true, false_iff]
   exact fun h2 => hb (h2 _ List.mem_cons_self)
  by_cases c1 : rows[j].length = rows.length
  · cases t1 with
    | false =>
     refine bad (fun hg => ?_) ⟨1048580, fun k hk => ?_⟩
     · have := ht1.2 (fun x hx => ⟨hg.2.1 x hx, by have := le_sum _ hg.2.1 x hx; have := hg.2.2; omega⟩)
       simp at this
     · obtain ⟨k, rfl⟩ : ∃ m, k = m + 2 := ⟨k - 2, by omega⟩
       rw [spec_saGood.l0]
       rw [if_pos (by omega), if_pos (by omega), if_pos (by omega), rd1_get hlt, if_pos (by omega)]
       unfold spec_l1All.f
       rw [show spec_l1All.l0 (k + 1) 0 o rows[j] (rows[j].length : Int) 0 = some false from E1 _ (by omega)]
       simp only [Option.bind_some]
       rw [spec_saGood.j2]
       simp
    | true =>
     have hall := ht1.1 rfl
     have hs := saGood_l1 o rows j rows[j] (by omega) (fun x hx => ⟨(hall x hx).1, by have := (hall x hx).2; omega⟩) rows[j].length 0 0 (by omega) (by omega) (by omega)
     rw [List.drop_zero, Int.zero_add] at hs
     by_cases c2 : rows[j].sum = o
     · obtain ⟨t, ht, K, E⟩ := ih (j + 1) (by omega)
       refine ⟨t, ?_, K + 1048590, fun k hk => ?_⟩
       · rw [List.drop_eq_getElem_cons hlt, ht]
         simp only [List.mem_cons, forall_eq_or_imp]
         exact ⟨fun h2 => ⟨⟨c1, fun x hx => (hall x hx).1, c2⟩, h2⟩, fun h2 => h2.2⟩
       · obtain ⟨k, rfl⟩ : ∃ m, k = m + 2 := ⟨k - 2, by omega⟩
         rw [spec_saGood.l0]
         rw [if_pos (by omega), if_pos (by omega), if_pos (by omega), rd1_get hlt, if_pos (by omega)]
         unfold spec_l1All.f
         rw [show spec_l1All.l0 (k + 1) 0 o rows[j] (rows[j].length : Int) 0 = some true from E1 _ (by omega)]
         simp only [Option.bind_some, Bool.not_true]
         rw [spec_saGood.j2]
         simp only [Bool.false_eq_true, ↓reduceIte]
         have h3 := hs k (by omega)
         rw [if_pos c2, w64 (x := (j : Int) + 1) (by omega) (by omega)] at h3
         exact h3.trans (E _ (by omega))
     · refine bad (fun hg => c2 hg.2.2) ⟨1048590, fun k hk => ?_⟩
       obtain ⟨k, rfl⟩ : ∃ m, k = m + 2 := ⟨k - 2, by omega⟩
       rw [spec_saGood.l0]
       rw [if_pos (by omega), if_pos (by omega), if_pos (by omega), rd1_get hlt, if_pos (by omega)]
       unfold spec_l1All.f
       rw [show spec_l1All.l0 (k + 1) 0 o rows[j] (rows[j].length : Int) 0 = some true from E1 _ (by omega)]
       simp only [Option.bind_some, Bool.not_true]
       rw [spec_saGood.j2]
       simp only [Bool.false_eq_true, ↓reduceIte]
       have h3 := hs k (by omega)
       rw [if_neg c2] at h3
       exact h3
  · refine bad (fun hg => c1 hg.1) ⟨10, fun k hk => ?_⟩
    obtain ⟨k, rfl⟩ : ∃ m, k = m + 2 := ⟨k - 2, by omega⟩
    rw [spec_saGood.l0]
    rw [if_pos (by omega), if_pos (by omega), if_pos (by omega), rd1_get hlt, if_neg (by omega), spec_saGood.j2]
    simp
theorem saGood_ev (o : Int) (rows : List (List Int)) (hn : rows.length ≤ 1048576) (hl : ∀ r ∈ rows, r.length ≤ 1048576) :
 ∃ t : Bool, (t = true ↔ Good o rows) ∧ ∃ K, ∀ k, K ≤ k → spec_saGood.f k o rows = some t := by
 by_cases c1 : 1 ≤ o ∧ o ≤ 10
 · by_cases c2 : 1 ≤ (rows.length : Int) ∧ (rows.length : Int) ≤ 5
   · obtain ⟨t, ht, K, E⟩ := saGood_l0 o c1.2 rows (by omega) hl rows.length 0 (by omega)
     rw [List.drop_zero] at ht
     refine ⟨t, ht.trans ⟨fun h => ⟨c1.1, c1.2, by omega, by omega, h⟩, fun h => h.2.2.2.2⟩, K + 1, fun k hk => ?_⟩
     obtain ⟨k, rfl⟩ : ∃ m, k = m + 1 := ⟨k - 1, by omega⟩
     simp only [spec_saGood.f, spec_saGood.j0, spec_l1In.f, in_true c1, in_true c2, Option.bind_some, ↓reduceIte, Bool.not_true, Bool.false_eq_true]
     exact E k (by omega)
   · refine ⟨false, ⟨fun h => by simp at h, fun h => absurd ⟨by have := h.2.2.1; omega, by have := h.2.2.2.1; omega⟩ c2⟩, 1, fun k hk => ?_⟩
     obtain ⟨k, rfl⟩ : ∃ m, k = m + 1 := ⟨k - 1, by omega⟩
     simp only [spec_saGood.f, spec_saGood.j0, spec_l1In.f, in_true c1, in_false c2, Option.bind_some, ↓reduceIte, Bool.not_false]
 · refine ⟨false, ⟨fun h => by simp at h, fun h => absurd ⟨h.1, h.2.1⟩ c1⟩, 1, fun k hk => ?_⟩
   obtain ⟨k, rfl⟩ : ∃ m, k = m + 1 := ⟨k - 1, by omega⟩
   simp only [spec_saGood.f, spec_saGood.j0, spec_l1In.f, in_false c1, Option.bind_some, ↓reduceIte, Bool.false_eq_true]
theorem saAsked_ev (o : Int) (rows : List (List Int)) (a b : Int) (h1 : rows.length ≤ 1048576) (h2 : ∀ r ∈ rows, r.length ≤ 1048576) :
 ∃ t : Bool, (t = true ↔ Good o rows ∧ (0 ≤ a ∧ a < rows.length) ∧ 0 ≤ b ∧ b < rows.length) ∧ ∃ K, ∀ k, K ≤ k → spec_saAsked.f k o rows a b = some t := by
 obtain ⟨t, ht, K, E⟩ := saGood_ev o rows h1 h2
 have e1 : wrap64 ((rows.length : Int) - 1) = (rows.length : Int) - 1 := w64 (by omega) (by omega)
 cases t with
 | false =>
  refine ⟨false, ⟨fun h => by simp at h, fun h => by have := ht.2 h.1; simp at this⟩, K, fun k hk => ?_⟩
  simp [spec_saAsked.f, E k hk]
 | true =>
  have hg := ht.1 rfl
  by_cases c1 : 0 ≤ a ∧ a ≤ (rows.length : Int) - 1
  · by_cases c2 : 0 ≤ b ∧ b ≤ (rows.length : Int) - 1
    · refine ⟨true, ⟨fun _ => ⟨hg, ⟨c1.1, by omega⟩, c2.1, by omega⟩, fun _ => rfl⟩, K, fun k hk => ?_⟩
      simp only [spec_saAsked.f, spec_l1In.f, E k hk, Option.bind_some, ↓reduceIte, e1, in_true c1, in_true c2]
    · refine ⟨false, ⟨fun h => by simp at h, fun h => absurd ⟨h.2.2.1, by omega⟩ c2⟩, K, fun k hk => ?_⟩
      simp only [spec_saAsked.f, spec_l1In.f, E k hk, Option.bind_some, ↓reduceIte, e1, in_true c1, in_false c2]
  · refine ⟨false, ⟨fun h => by simp at h, fun h => absurd ⟨h.2.1.1, by omega⟩ c1⟩, K, fun k hk => ?_⟩
    simp only [spec_saAsked.f, spec_l1In.f, E k hk, Option.bind_some, ↓reduceIte, e1, in_false c1, Bool.false_eq_true]
theorem areStates_l1 (o : Int) (rows : List (List Int)) (jj : Int) (xs : List Int) (hx : xs.length ≤ 1048576) : ∀ (m j : Nat) (left : Int), j + m = xs.length → 0 ≤ left → left ≤ 10 →
 ∃ t : Bool, (t = true ↔ xs.length = rows.length ∧ (∀ x ∈ xs.drop j, 0 ≤ x) ∧ (xs.drop j).sum = left) ∧ ∀ k, m < k →
 impl_AreStates.l1 k (rows.length : Int) xs left rows (rows.length : Int) jj xs (xs.length : Int) j o rows = if t = true then impl_AreStates.l0 (k - m - 1) (rows.length : Int) rows (rows.length : Int) (wrap64 (jj + 1)) o rows else some false := by
 intro m
 induction m with
 | zero =>
  intro j left hj h0 h1
  refine ⟨decide (xs.length = rows.length ∧ left = 0), ?_, fun k hk => ?_⟩
  · rw [List.drop_of_length_le (by omega), decide_eq_true_eq]
    simp
    omega
  · obtain ⟨k, rfl⟩ : ∃ m, k = m + 1 := ⟨k - 1, by omega⟩
    simp only [impl_AreStates.l1]
    rw [if_neg (by omega)]
    by_cases c1 : xs.length = rows.length
    · rw [if_pos (by omega)]
      by_cases c2 : left = 0
      · rw [if_pos c2, decide_eq_true ⟨c1, c2⟩]; rfl
      · rw [if_neg c2, decide_eq_false (fun h => c2 h.2)]; rfl
    · rw [if_neg (by omega), decide_eq_false (fun h => c1 h.1)]; rfl
 | succ m ih =>
  intro j left hj h0 h1
  have hlt : j < xs.length := by omega
  by_cases h : 0 ≤ xs[j] ∧ xs[j] ≤ left
  · obtain ⟨t, ht, E⟩ := ih (j + 1) (left - xs[j]) (by omega) (by omega) (by omega)
    refine ⟨t, ?_, fun k hk => ?_⟩
    · rw [List.drop_eq_getElem_cons hlt, ht, List.sum_cons]
      simp only [List.mem_cons, forall_eq_or_imp]
      exact ⟨fun h2 => ⟨h2.1, ⟨h.1, h2.2.1⟩, by omega⟩, fun h2 => ⟨h2.1, h2.2.1.2, by omega⟩⟩
    · obtain ⟨k, rfl⟩ : ∃ m, k = m + 1 := ⟨k - 1, by omega⟩
      simp only [impl_AreStates.l1, impl_within.f]
      rw [if_pos (by omega), if_pos (by omega), if_pos (by omega), rd_get hlt, in_true h]
      simp only [Option.bind_some, ↓reduceIte]
      rw [w64 (x := (j : Int) + 1) (by omega) (by omega), w64 (x := left - xs[j]) (by omega) (by omega), show (j : Int) + 1 = ((j + 1 : Nat) : Int) from by omega, E k (by omega),
       show k + 1 - (m + 1) - 1 = k - m - 1 from by omega]
  · refine ⟨false, ?_, fun k hk => ?_⟩
    · rw [List.drop_eq_getElem_cons hlt, List.sum_cons]
      simp only [Bool.false_eq_true, false_iff]
      intro h2
      have h3 := h2.2.1 _ List.mem_cons_self
      have h4 := sum_nonneg (xs.drop (j + 1)) (fun x hx => h2.2.1 _ (List.mem_cons_of_mem _ hx))
      omega
    · obtain ⟨k, rfl⟩ : ∃ m, k = m + 1 := ⟨k - 1, by omega⟩
      simp only [impl_AreStates.l1, impl_within.f]
      rw [if_pos (by omega), if_pos (by omega), if_pos (by omega), rd_get hlt, in_false h]
      simp
theorem areStates_l0 (o : Int) (o0 : 1 ≤ o) (o1 : o ≤ 10) (rows : List (List Int)) (hn : rows.length ≤ 5) (hl : ∀ r ∈ rows, r.length ≤ 1048576) : ∀ (m j : Nat), j + m = rows.length →
 ∃ t : Bool, (t = true ↔ ∀ row ∈ rows.drop j, GoodRow rows.length o row) ∧ ∃ K, ∀ k, K ≤ k → impl_AreStates.l0 k (rows.length : Int) rows (rows.length : Int) j o rows = some t := by
 intro m
 induction m with
 | zero =>
  intro j hj
  refine ⟨true, ?_, 1, fun k hk => ?_⟩
  · rw [List.drop_of_length_le (by omega)]; simp
  · obtain ⟨k, rfl⟩ : ∃ m, k = m + 1 := ⟨k - 1, by omega⟩
    simp only [impl_AreStates.l0]
    rw [if_neg (by omega)]
 | succ m ih =>
  intro j hj
  have hlt : j < rows.length := by omega
  have hll := hl _ (List.getElem_mem hlt)
  obtain ⟨t1, ht1, E1⟩ := areStates_l1 o rows j rows[j] hll rows[j].length 0 o (by omega) (by omega) o1
  rw [List.drop_zero] at ht1
  cases t1 with
  | false =>
   refine ⟨false, ?_, 1048590, fun k hk => ?_⟩
   · rw [List.drop_eq_getElem_cons hlt]
     simp only [Bool.false_eq_true, false_iff]
     exact fun h2 => by
      have := ht1.2 (h2 _ List.mem_cons_self)
      simp at this
   · obtain ⟨k, rfl⟩ : ∃ m, k = m + 1 := ⟨k - 1, by omega⟩
     rw [impl_AreStates.l0]
     rw [if_pos (by omega), if_pos (by omega), if_pos (by omega), rd1_get hlt]
     have := E1 k (by omega)
     simp only [Bool.false_eq_true, ↓reduceIte] at this
     exact this
  | true =>
   obtain ⟨t, ht, K, E⟩ := ih (j + 1) (by omega)
   refine ⟨t, ?_, K + 1048590, fun k hk => ?_⟩
   · rw [List.drop_eq_getElem_cons hlt, ht]
     simp only [List.mem_cons, forall_eq_or_imp]
     exact ⟨fun h2 => ⟨ht1.1 rfl, h2⟩, fun h2 => h2.2⟩
   · obtain ⟨k, rfl⟩ : ∃ m, k = m + 1 := ⟨k - 1, by omega⟩
     rw [impl_AreStates.l0]
     rw [if_pos (by omega), if_pos (by omega), if_pos (by omega), rd1_get hlt]
     have := E1 k (by omega)
     simp only [↓reduceIte] at this
     rw [w64 (x := (j : Int) + 1) (by omega) (by omega)] at this
     exact this.trans (E _ (by omega))
theorem areStates_ev (o : Int) (rows : List (List Int)) (hn : rows.length ≤ 1048576) (hl : ∀ r ∈ rows, r.length ≤ 1048576) :
 ∃ t : Bool, (t = true ↔ Good o rows) ∧ ∃ K, ∀ k, K ≤ k → impl_AreStates.f k o rows = some t := by
 by_cases c1 : 1 ≤ o ∧ o ≤ 10
 · by_cases c2 : 1 ≤ (rows.length : Int) ∧ (rows.length : Int) ≤ 5
   · obtain ⟨t, ht, K, E⟩ := areStates_l0 o c1.1 c1.2 rows (by omega) hl rows.length 0 (by omega)
     rw [List.drop_zero] at ht
     refine ⟨t, ht.trans ⟨fun h => ⟨c1.1, c1.2, by omega, by omega, h⟩, fun h => h.2.2.2.2⟩, K + 1, fun k hk => ?_⟩
     obtain ⟨k, rfl⟩ : ∃ m, k = m + 1 := ⟨k - 1, by omega⟩
     simp only [impl_AreStates.f, impl_AreStates.j0, impl_within.f, in_true c1, in_true c2, Option.bind_some, ↓reduceIte, Bool.not_true, Bool.false_eq_true]
     exact E k (by omega)
   · refine ⟨false, ⟨fun h => by simp at h, fun h => absurd ⟨by have := h.2.2.1; omega, by have := h.2.2.2.1; omega⟩ c2⟩, 1, fun k hk => ?_⟩
     obtain ⟨k, rfl⟩ : ∃ m, k = m + 1 := ⟨k - 1, by omega⟩
     simp only [impl_AreStates.f, impl_AreStates.j0, impl_within.f, in_true c1, in_false c2, Option.bind_some, ↓reduceIte, Bool.not_false]
 · refine ⟨false, ⟨fun h => by simp at h, fun h => absurd ⟨h.1, h.2.1⟩ c1⟩, 1, fun k hk => ?_⟩
   obtain ⟨k, rfl⟩ : ∃ m, k = m + 1 := ⟨k - 1, by omega⟩
   simp only [impl_AreStates.f, impl_AreStates.j0, impl_within.f, in_false c1, Option.bind_some, ↓reduceIte, Bool.false_eq_true]
theorem areWith_bad {n : Nat} (hn : n ≤ 1048576) (i : Int) : impl_areWith.bad n i = false ↔ 0 ≤ i ∧ i < n := by
 unfold impl_areWith.bad
 rw [w64 (by omega) (by omega)]
 by_cases h : i ≥ 0
 · rw [if_pos h]
   simp
   omega
 · rw [if_neg h]
   simp
   omega
theorem areWith_ev (o : Int) (rows : List (List Int)) (l : List Int) (h1 : rows.length ≤ 1048576) (h2 : ∀ r ∈ rows, r.length ≤ 1048576) (hl : l.length ≤ 1048576) :
 ∃ t : Bool, (t = true ↔ Good o rows ∧ ∀ a ∈ l, 0 ≤ a ∧ a < rows.length) ∧ ∃ K, ∀ k, K ≤ k → impl_areWith.f k o rows l = some t := by
 obtain ⟨t, ht, K, E⟩ := areStates_ev o rows h1 h2
 cases t with
 | false =>
  refine ⟨false, ⟨fun h => by simp at h, fun h => by have := ht.2 h.1; simp at this⟩, K, fun k hk => ?_⟩
  simp [impl_areWith.f, E k hk]
 | true =>
  have hg := ht.1 rfl
  refine ⟨!(l.any (impl_areWith.bad rows.length)), ?_, K, fun k hk => ?_⟩
  · simp only [Bool.not_eq_true', List.any_eq_false, Bool.not_eq_true]
    constructor
    · exact fun h => ⟨hg, fun a ha => (areWith_bad h1 a).1 (h a ha)⟩
    · exact fun h a ha => (areWith_bad h1 a).2 (h.2 a ha)
  · simp only [impl_areWith.f, E k hk, Option.bind_some, ↓reduceIte]
    rw [if_pos (by omega)]
theorem asked2_ev (o : Int) (rows : List (List Int)) (a b : Int) (h1 : rows.length ≤ 1048576) (h2 : ∀ r ∈ rows, r.length ≤ 1048576) :
 ∃ t : Bool, (t = true ↔ Good o rows ∧ (0 ≤ a ∧ a < rows.length) ∧ 0 ≤ b ∧ b < rows.length) ∧ ∃ K, ∀ k, K ≤ k → impl_areWith.f k o rows [a, b] = some t := by
 obtain ⟨t, ht, K, E⟩ := areWith_ev o rows [a, b] h1 h2 (by simp)
 refine ⟨t, ht.trans ?_, K, E⟩
 simp
theorem index_at {L : List Nat} (hnd : L.Nodup) (hl : L.length ≤ 100) {a : Nat} (ha : a < L.length) (k : Nat) (hk : 200 ≤ k) : slices_Index_int_int.f k (L.map (fun v : Nat => (v : Int))) (bl L a : Int) = some (a : Int) := by
 have key : ∀ (d j : Nat), j + d = a → ∀ k, d < k → slices_Index_int_int.l0 k (L.map (fun v : Nat => (v : Int))) (bl L a : Int) (L.length : Int) (j : Int) = some (a : Int) := by
  intro d
  induction d with
  | zero =>
   intro j hj k hk
   obtain ⟨k, rfl⟩ : ∃ q, k = q + 1 := ⟨k - 1, by omega⟩
   rw [slices_Index_int_int.l0, if_pos (by omega), if_pos (by omega), if_pos (by rw [List.length_map]; omega), bl_rd (by omega), if_pos (by rw [show j = a by omega]), show j = a by omega]
  | succ d ih =>
   intro j hj k hk
   obtain ⟨k, rfl⟩ : ∃ q, k = q + 1 := ⟨k - 1, by omega⟩
   have := ih (j + 1) (by omega) k (by omega)
   rw [slices_Index_int_int.l0, if_pos (by omega), if_pos (by omega), if_pos (by rw [List.length_map]; omega), bl_rd (by omega), if_neg (fun e => by have := bl_inj hnd ha (show j < L.length by omega) (by omega); omega), nsucc (by omega)]
   exact this
 have := key a 0 (by omega) k (by omega)
 unfold slices_Index_int_int.f
 rw [List.length_map]
 exact this
theorem index_not {L : List Nat} (hl : L.length ≤ 100) {x : Nat} (hx : x ∉ L) (k : Nat) (hk : 200 ≤ k) : slices_Index_int_int.f k (L.map (fun v : Nat => (v : Int))) (x : Int) = some (-1) := by
 have key : ∀ (d j : Nat), j + d = L.length → ∀ k, d < k → slices_Index_int_int.l0 k (L.map (fun v : Nat => (v : Int))) (x : Int) (L.length : Int) (j : Int) = some (-1) := by
  intro d
  induction d with
  | zero =>
   intro j hj k hk
   obtain ⟨k, rfl⟩ : ∃ q, k = q + 1 := ⟨k - 1, by omega⟩
   rw [slices_Index_int_int.l0, if_neg (by omega)]
  | succ d ih =>
   intro j hj k hk
   obtain ⟨k, rfl⟩ : ∃ q, k = q + 1 := ⟨k - 1, by omega⟩
   have := ih (j + 1) (by omega) k (by omega)
   have hm := bl_mem (L := L) (r := j) (by omega)
   rw [slices_Index_int_int.l0, if_pos (by omega), if_pos (by omega), if_pos (by rw [List.length_map]; omega), bl_rd (by omega), if_neg (fun (e : (x : Int) = (bl L j : Int)) => hx (show x ∈ L from (show x = bl L j by omega) ▸ hm)), nsucc (by omega)]
   exact this
 have := key L.length 0 (by omega) k (by omega)
 unfold slices_Index_int_int.f
 rw [List.length_map]
 exact this
theorem bl_of_mem {L : List Nat} {x : Nat} (h : x ∈ L) : ∃ a, a < L.length ∧ bl L a = x := by
 obtain ⟨a, ha, e⟩ := List.getElem_of_mem h
 exact ⟨a, ha, by rw [bl_get ha, e]⟩
structure Liv (rows : List (List Int)) (g : Nat) (L : List Nat) : Prop where
 lt : ∀ x ∈ L, x < rows.length
 nd : L.Nodup
 ne : ∀ x ∈ L, x ≠ g
 rc : ∀ x ∈ L, RC rows (-1) x g
theorem Liv.len {rows : List (List Int)} {g : Nat} {L : List Nat} (h : Liv rows g L) (hg : g < rows.length) : L.length + 1 ≤ rows.length := by
 have h1 := List.Nodup.length_le_of_subset (l₁ := g :: L) (l₂ := List.range rows.length) (by
  rw [List.nodup_cons]
  exact ⟨fun hm => h.ne g hm rfl, h.nd⟩) (fun v hv => by
  rcases List.mem_cons.1 hv with rfl | hv
  · exact List.mem_range.2 hg
  · exact List.mem_range.2 (h.lt v hv))
 simpa using h1
theorem Liv.mm {o : Int} {rows : List (List Int)} (hgd : Good o rows) {g : Nat} {L : List Nat} (h : Liv rows g L) : Mm L.length (tb o (sx rows) (bl L)) :=
 chain_max (sx_chn hgd) (fun j hj => h.lt _ (bl_mem hj)) (fun i j hi hj e => bl_inj h.nd hi hj e) (fun j hj => h.ne _ (bl_mem hj)) (fun j hj => rc_leads (h.lt _ (bl_mem hj)) (h.rc _ (bl_mem hj)))
theorem hit_is {o : Int} {rows : List (List Int)} (hgd : Good o rows) {g : Nat} (hg : g < rows.length) {L : List Nat} (h : Liv rows g L) (hp : 0 < L.length) {u v : Rat} (hu : Bd u 1 1) (hv : Bd v 1 1) {rhs : Nat → Int} (hrhs : ∀ k, k < L.length → (rhs k).natAbs ≤ 10)
 (hr : ∀ i, i < L.length → (u + v * ((sx rows (bl L i) g : Rat) / (o : Rat))) * (o : Rat) = (rhs i : Rat)) {y : Nat → Rat} (hy : ∀ k, k < L.length → sm L.length (fun j => (tb o (sx rows) (bl L) k j : Rat) * y j) = (rhs k : Rat)) :
 ∃ K, ∀ k, K ≤ k → impl_States_hit.f k o rows (L.map (fun v : Nat => (v : Int))) g u.num (u.den : Int) v.num (v.den : Int) = some (rowq L.length y) := by
 have hlen := h.len hg
 have hn5 := hgd.2.2.2.1
 have ho1 := hgd.1
 have ho2 := hgd.2.1
 have hm2 : Mm L.length (tr o (sx rows) L rhs) := (h.mm hgd).congr (fun k c _ hc => if_pos hc)
 obtain ⟨X, hX, hXy⟩ := hit_solved (by omega) hp hm2 ho1 ho2 (fun k c hk hc => by
  unfold tr
  split
  · exact tb_abs hgd h.lt hk (by omega)
  · exact hrhs k hk)
 have e : rowq L.length X = rowq L.length y := rowq_congr (hXy y (fun k hk => by
  have e1 : tr o (sx rows) L rhs k L.length = rhs k := if_neg (by omega)
  rw [e1, ← hy k hk]
  exact sm_congr fun j hj => by rw [show tr o (sx rows) L rhs k j = tb o (sx rows) (bl L) k j from if_pos hj]))
 rw [e] at hX
 exact hit_ev hgd h.lt h.nd (by omega) hg hu hv hr hX
theorem l1Has_l0 (a : Int) (xs : List Int) (hx : xs.length ≤ 1048576) : ∀ (m j : Nat), j + m = xs.length →
 ∃ t : Bool, (t = true ↔ a ∈ xs.drop j) ∧ ∀ k, m < k → spec_l1Has.l0 k a xs (xs.length : Int) j = some t := by
 intro m
 induction m with
 | zero =>
  intro j hj
  refine ⟨false, ?_, fun k hk => ?_⟩
  · rw [List.drop_of_length_le (by omega)]; simp
  · obtain ⟨k, rfl⟩ : ∃ m, k = m + 1 := ⟨k - 1, by omega⟩
    simp only [spec_l1Has.l0]
    rw [if_neg (by omega)]
 | succ m ih =>
  intro j hj
  have hlt : j < xs.length := by omega
  by_cases h : xs[j] = a
  · refine ⟨true, ?_, fun k hk => ?_⟩
    · rw [List.drop_eq_getElem_cons hlt, h]; simp
    · obtain ⟨k, rfl⟩ : ∃ m, k = m + 1 := ⟨k - 1, by omega⟩
      simp only [spec_l1Has.l0]
      rw [if_pos (by omega), if_pos (by omega), if_pos (by omega), rd_get hlt, if_pos h]
  · obtain ⟨t, ht, E⟩ := ih (j + 1) (by omega)
    refine ⟨t, ?_, fun k hk => ?_⟩
    · rw [List.drop_eq_getElem_cons hlt, ht]
      simp only [List.mem_cons]
      exact ⟨Or.inr, fun h2 => h2.resolve_left (fun e => h e.symm)⟩
    · obtain ⟨k, rfl⟩ : ∃ m, k = m + 1 := ⟨k - 1, by omega⟩
      simp only [spec_l1Has.l0]
      rw [if_pos (by omega), if_pos (by omega), if_pos (by omega), rd_get hlt, if_neg h, w64 (x := (j : Int) + 1) (by omega) (by omega)]
      exact E k (by omega)
theorem l1Has_is (xs : List Int) (a : Int) (hx : xs.length ≤ 1048576) (k : Nat) (hk : xs.length < k) : spec_l1Has.f k xs a = some (decide (a ∈ xs)) := by
 obtain ⟨t, ht, E⟩ := l1Has_l0 a xs hx xs.length 0 (by omega)
 rw [List.drop_zero] at ht
 have : decide (a ∈ xs) = t := by rw [Bool.eq_iff_iff, ht]; simp
 rw [this]
 exact E k hk
inductive Wk (rows : List (List Int)) (s : Nat) : Nat → Nat → Prop
 | base : Wk rows s s 0
 | step (i k d : Nat) : Wk rows s i d → k < rows.length → Edge rows i k → Wk rows s k (d + 1)
def fa (far : List Int) (v : Nat) : Int := far.getD v (-1)
theorem fa_set {far : List Int} {j : Nat} {x : Int} (h : j < far.length) (k : Nat) : fa (far.set j x) k = if k = j then x else fa far k := by
 unfold fa
 rw [List.getD_eq_getElem?_getD, List.getD_eq_getElem?_getD, List.getElem?_set]
 by_cases e : j = k
 · subst e; simp [h]
 · rw [if_neg e, if_neg (fun h => e h.symm)]
theorem rd_fa {far : List Int} {j : Nat} (h : j < far.length) : rd far (j : Int) = fa far j := by
 rw [rd_get h]
 unfold fa
 rw [List.getD_eq_getElem?_getD, List.getElem?_eq_getElem h]
 rfl
structure Far (rows : List (List Int)) (s : Nat) (far : List Int) (q : List Nat) (i : Nat) : Prop where
 len : far.length = rows.length
 mem : ∀ k, k < rows.length → (0 ≤ fa far k ↔ k ∈ q)
 low : ∀ k, -1 ≤ fa far k
 zero : fa far s = 0
 wk : ∀ v ∈ q, Wk rows s v (fa far v).toNat
 idx : ∀ (a v : Nat), q[a]? = some v → fa far v ≤ a
 mono : ∀ (a b u v : Nat), a ≤ b → q[a]? = some u → q[b]? = some v → fa far u ≤ fa far v
 near : ∀ (a : Nat), a < i → ∀ (u : Nat), q[a]? = some u → ∀ (k : Nat), k < rows.length → Edge rows u k → k ∈ q ∧ fa far k ≤ fa far u + 1
theorem saFar_l2 (o : Int) (rows : List (List Int)) (s : Nat) (hn : rows.length ≤ 5) (hsq : ∀ r ∈ rows, r.length = rows.length) (i c : Nat) (hc : c < rows.length) :
 ∀ (m j : Nat) (far : List Int) (q : List Nat), j + m = rows.length → Qu rows (-1) s q → Far rows s far q i → (∀ v ∈ q, fa far v ≤ fa far c + 1) → i < q.length → q[i]? = some c → (∀ k, k < j → Edge rows c k → k ∈ q) →
 ∃ far' q', Qu rows (-1) s q' ∧ Far rows s far' q' i ∧ (∀ v ∈ q', fa far' v ≤ fa far' c + 1) ∧ q <+: q' ∧ (∀ k, k < rows.length → Edge rows c k → k ∈ q') ∧
  ∀ k, m < k → spec_saFar.l2 k far (q.map (fun v : Nat => (v : Int))) i (rows[c]) ((rows[c]).length : Int) j o rows = spec_saFar.l1 (k - m - 1) far' (q'.map (fun v : Nat => (v : Int))) (i + 1) o rows := by
 have hlen := hsq _ (List.getElem_mem hc)
 intro m
 induction m with
 | zero =>
  intro j far q hj hq hm ht hi hqi hd
  refine ⟨far, q, hq, hm, ht, List.prefix_refl _, fun k hk he => hd k (by omega) he, fun k hk => ?_⟩
  obtain ⟨k, rfl⟩ : ∃ m, k = m + 1 := ⟨k - 1, by omega⟩
  have := hq.len
  simp only [spec_saFar.l2]
  rw [if_neg (by omega), w64 (x := (i : Int) + 1) (by omega) (by omega)]
  rfl
 | succ m ih =>
  intro j far q hj hq hm ht hi hqi hd
  have hlt : j < (rows[c]).length := by omega
  have hlo : j < far.length := by have := hm.len; omega
  have hcf : c < far.length := by have := hm.len; omega
  have hql := hq.len
  have hin := edge_get hc hlt
  have hgc : q[i] = c := by rw [List.getElem?_eq_getElem hi] at hqi; exact Option.some.inj hqi
  by_cases c1 : 0 < rows[c][j]
  · by_cases c2 : fa far j < 0
    · have hjq : j ∉ q := fun h => by have := (hm.mem j (by omega)).2 h; omega
      have hcq : c ∈ q := List.mem_of_getElem? hqi
      have hcj : c ≠ j := fun e => hjq (e ▸ hcq)
      have hc0 : 0 ≤ fa far c := (hm.mem c hc).2 hcq
      have hci := hm.idx i c hqi
      have hq2 : Qu rows (-1) s (q ++ [j]) := by
       refine ⟨?_, ?_, ?_, List.mem_append_left _ hq.mem⟩
       · rw [List.nodup_append]
         refine ⟨hq.nd, by simp, ?_⟩
         intro a ha b hb
         rw [List.mem_singleton] at hb
         rintro rfl
         exact hjq (hb ▸ ha)
       · intro v hv
         rcases List.mem_append.1 hv with hv | hv
         · exact hq.lt v hv
         · rw [List.mem_singleton] at hv; omega
       · intro v hv
         rcases List.mem_append.1 hv with hv | hv
         · exact hq.rc v hv
         · rw [List.mem_singleton] at hv
           subst hv
           exact RC.step c v (hq.rc c hcq) (by omega) (by omega) (hin.2 c1)
      have hs := fun k => fa_set (far := far) (x := fa far c + 1) hlo k
      have hold : ∀ v, v ∈ q → fa (far.set j (fa far c + 1)) v = fa far v := fun v hv => by
       rw [hs, if_neg (by rintro rfl; exact hjq hv)]
      have hat : ∀ (a v : Nat), (q ++ [j])[a]? = some v → (q[a]? = some v ∧ v ∈ q) ∨ (a = q.length ∧ v = j) := by
       intro a v h
       by_cases ha : a < q.length
       · rw [List.getElem?_append_left ha] at h
         exact .inl ⟨h, List.mem_of_getElem? h⟩
       · rw [List.getElem?_append_right (by omega), List.getElem?_singleton] at h
         by_cases e : a - q.length = 0
         · rw [if_pos e] at h
           exact .inr ⟨by omega, (Option.some.inj h).symm⟩
         · rw [if_neg e] at h; cases h
      have hm2 : Far rows s (far.set j (fa far c + 1)) (q ++ [j]) i := by
       refine ⟨by rw [List.length_set]; exact hm.len, ?_, ?_, by rw [hold s hq.mem]; exact hm.zero, ?_, ?_, ?_, ?_⟩
       · intro k hk
         rw [hs]
         by_cases e : k = j
         · subst e; simp; omega
         · rw [if_neg e, hm.mem k hk]; simp [e]
       · intro k
         rw [hs]
         have := hm.low k
         by_cases e : k = j
         · rw [if_pos e]; omega
         · rw [if_neg e]; exact this
       · intro v hv
         rcases List.mem_append.1 hv with hv | hv
         · rw [hold v hv]; exact hm.wk v hv
         · rw [List.mem_singleton] at hv
           subst hv
           rw [hs, if_pos rfl, show (fa far c + 1).toNat = (fa far c).toNat + 1 from by omega]
           exact Wk.step c v _ (hm.wk c hcq) (by omega) (hin.2 c1)
       · intro a v h
         rcases hat a v h with ⟨h1, h2⟩ | ⟨h1, h2⟩
         · rw [hold v h2]; exact hm.idx a v h1
         · subst h2; rw [hs, if_pos rfl]; omega
       · intro a b u v hab hu hv
         rcases hat b v hv with ⟨h1, h2⟩ | ⟨h1, h2⟩
         · rcases hat a u hu with ⟨h3, h4⟩ | ⟨h3, h4⟩
           · rw [hold v h2, hold u h4]; exact hm.mono a b u v hab h3 h1
           · exfalso
             have := (List.getElem?_eq_some_iff.1 h1).1
             omega
         · subst h2
           rw [hs v, if_pos rfl]
           rcases hat a u hu with ⟨h3, h4⟩ | ⟨h3, h4⟩
           · rw [hold u h4]; exact ht u h4
           · subst h4; rw [hs, if_pos rfl]; exact Int.le_refl _
       · intro a ha u hu k hk he
         rcases hat a u hu with ⟨h1, h2⟩ | ⟨h1, h2⟩
         · obtain ⟨h3, h4⟩ := hm.near a ha u h1 k hk he
           rw [hold u h2, hold k h3]
           exact ⟨List.mem_append_left _ h3, h4⟩
         · omega
      have hql2 := hq2.len
      rw [List.length_append, List.length_singleton] at hql2
      have ht2 : ∀ v ∈ q ++ [j], fa (far.set j (fa far c + 1)) v ≤ fa (far.set j (fa far c + 1)) c + 1 := by
       intro v hv
       rw [hold c hcq]
       rcases List.mem_append.1 hv with hv | hv
       · rw [hold v hv]; exact ht v hv
       · rw [List.mem_singleton] at hv; subst hv; rw [hs, if_pos rfl]; exact Int.le_refl _
      obtain ⟨far', q', h1, h2, h3, h4, h5, E⟩ := ih (j + 1) (far.set j (fa far c + 1)) (q ++ [j]) (by omega) hq2 hm2 ht2 (by rw [List.length_append]; omega) (by rw [List.getElem?_append_left hi]; exact hqi)
       (fun k hk he => if h : k = j then by simp [h] else List.mem_append_left _ (hd k (by omega) he))
      refine ⟨far', q', h1, h2, h3, (List.prefix_append q [j]).trans h4, h5, fun k hk => ?_⟩
      obtain ⟨k, rfl⟩ : ∃ m, k = m + 1 := ⟨k - 1, by omega⟩
      simp only [spec_saFar.l2]
      rw [if_pos (by omega), if_pos (by omega), if_pos (by omega), rd_get hlt, if_pos (by omega), if_pos (by omega), rd_fa hlo, if_pos c2, if_pos (by omega), if_pos (by rw [List.length_map]; omega), rd_nats hi, hgc, if_pos (by omega), if_pos (by omega),
       if_pos (by rw [List.length_map]; omega), rd_fa hcf, w64 (x := fa far c + 1) (by omega) (by omega), w64 (x := (j : Int) + 1) (by omega) (by omega), Int.toNat_natCast]
      have := E k (by omega)
      rw [List.map_append, List.map_singleton] at this
      rw [show k + 1 - (m + 1) - 1 = k - m - 1 from by omega]
      exact this
    · have hjq : j ∈ q := (hm.mem j (by omega)).1 (by omega)
      obtain ⟨far', q', h1, h2, h3, h4, h5, E⟩ := ih (j + 1) far q (by omega) hq hm ht hi hqi (fun k hk he => if h : k = j then h ▸ hjq else hd k (by omega) he)
      refine ⟨far', q', h1, h2, h3, h4, h5, fun k hk => ?_⟩
      obtain ⟨k, rfl⟩ : ∃ m, k = m + 1 := ⟨k - 1, by omega⟩
      simp only [spec_saFar.l2]
      rw [if_pos (by omega), if_pos (by omega), if_pos (by omega), rd_get hlt, if_pos (by omega), if_pos (by omega), rd_fa hlo, if_neg c2, w64 (x := (j : Int) + 1) (by omega) (by omega)]
      have := E k (by omega)
      rw [show k + 1 - (m + 1) - 1 = k - m - 1 from by omega]
      exact this
  · obtain ⟨far', q', h1, h2, h3, h4, h5, E⟩ := ih (j + 1) far q (by omega) hq hm ht hi hqi (fun k hk he => if h : k = j then absurd (hin.1 (h ▸ he)) c1 else hd k (by omega) he)
    refine ⟨far', q', h1, h2, h3, h4, h5, fun k hk => ?_⟩
    obtain ⟨k, rfl⟩ : ∃ m, k = m + 1 := ⟨k - 1, by omega⟩
    simp only [spec_saFar.l2]
    rw [if_pos (by omega), if_pos (by omega), if_pos (by omega), rd_get hlt, if_neg (by omega), w64 (x := (j : Int) + 1) (by omega) (by omega)]
    have := E k (by omega)
    rw [show k + 1 - (m + 1) - 1 = k - m - 1 from by omega]
    exact this
theorem saFar_l1 (o : Int) (rows : List (List Int)) (s : Nat) (hn : rows.length ≤ 5) (hsq : ∀ r ∈ rows, r.length = rows.length) :
 ∀ (d i : Nat) (far : List Int) (q : List Nat), i + d = rows.length → i ≤ q.length → Qu rows (-1) s q → Far rows s far q i → Through rows (-1) q i → (∀ c, q[i]? = some c → ∀ v ∈ q, fa far v ≤ fa far c + 1) →
 ∃ far' q', Qu rows (-1) s q' ∧ Far rows s far' q' q'.length ∧ Through rows (-1) q' q'.length ∧ ∀ k, 10 * d + 1 ≤ k → spec_saFar.l1 k far (q.map (fun v : Nat => (v : Int))) i o rows = some far' := by
 have fin : ∀ (i : Nat) (far : List Int) (q : List Nat), q.length ≤ i → i ≤ q.length → Qu rows (-1) s q → Far rows s far q i → Through rows (-1) q i →
  ∃ far' q', Qu rows (-1) s q' ∧ Far rows s far' q' q'.length ∧ Through rows (-1) q' q'.length ∧ ∀ k, 1 ≤ k → spec_saFar.l1 k far (q.map (fun v : Nat => (v : Int))) i o rows = some far' := by
  intro i far q h1 h2 hq hm ht
  obtain rfl : i = q.length := by omega
  refine ⟨far, q, hq, hm, ht, fun k hk => ?_⟩
  obtain ⟨k, rfl⟩ : ∃ m, k = m + 1 := ⟨k - 1, by omega⟩
  simp only [spec_saFar.l1]
  rw [if_neg (by rw [List.length_map]; omega)]
 intro d
 induction d with
 | zero =>
  intro i far q hi hiq hq hm ht _
  have := hq.len
  obtain ⟨far', q', h1, h2, h3, E⟩ := fin i far q (by omega) hiq hq hm ht
  exact ⟨far', q', h1, h2, h3, fun k hk => E k (by omega)⟩
 | succ d ih =>
  intro i far q hi hiq hq hm ht htop
  have hql := hq.len
  by_cases c0 : i < q.length
  · have hqi : q[i]? = some q[i] := List.getElem?_eq_getElem c0
    have hc := hq.lt _ (List.getElem_mem c0)
    obtain ⟨far1, q1, hq1, hm1, ht1, hp, hall, E1⟩ := saFar_l2 o rows s hn hsq i q[i] hc rows.length 0 far q (by omega) hq hm (htop _ hqi) c0 hqi (fun k hk => absurd hk (Nat.not_lt_zero _))
    have hpl := hp.length_le
    have hqi1 : q1[i]? = some q[i] := by
     obtain ⟨t, rfl⟩ := hp
     rw [List.getElem?_append_left c0]; exact hqi
    have hm2 : Far rows s far1 q1 (i + 1) := by
     refine ⟨hm1.len, hm1.mem, hm1.low, hm1.zero, hm1.wk, hm1.idx, hm1.mono, ?_⟩
     intro a ha u hu k hk he
     by_cases e : a = i
     · subst e
       rw [hqi1] at hu
       injection hu with hu
       subst hu
       have := hall k hk he
       exact ⟨this, ht1 k this⟩
     · exact hm1.near a (by omega) u hu k hk he
    have hth : Through rows (-1) q1 (i + 1) := by
     intro a ha v hv hvc k hk he
     by_cases e : a = i
     · subst e
       rw [hqi1] at hv
       injection hv with hv
       exact hall k hk (hv ▸ he)
     · exact ht.more hiq hp a (by omega) v hv hvc k hk he
    obtain ⟨far', q', h1, h2, h3, E⟩ := ih (i + 1) far1 q1 (by omega) (by omega) hq1 hm2 hth (by
     intro c hc' v hv
     have h5 := ht1 v hv
     have h6 := hm1.mono i (i + 1) q[i] c (by omega) hqi1 hc'
     omega)
    refine ⟨far', q', h1, h2, h3, fun k hk => ?_⟩
    obtain ⟨k, rfl⟩ : ∃ m, k = m + 1 := ⟨k - 1, by omega⟩
    simp only [spec_saFar.l1]
    rw [if_pos (by rw [List.length_map]; omega), if_pos (by omega), rd_nats c0, if_pos (by omega), if_pos (by omega), rd1_get hc]
    exact (E1 k (by omega)).trans (E _ (by omega))
  · obtain ⟨far', q', h1, h2, h3, E⟩ := fin i far q (by omega) hiq hq hm ht
    exact ⟨far', q', h1, h2, h3, fun k hk => E k (by omega)⟩
structure IsFar (rows : List (List Int)) (s : Nat) (far : List Int) : Prop where
 len : far.length = rows.length
 low : ∀ k, -1 ≤ fa far k
 high : ∀ k, k < rows.length → fa far k < rows.length
 mem : ∀ k, k < rows.length → (0 ≤ fa far k ↔ RC rows (-1) s k)
 wk : ∀ k, k < rows.length → 0 ≤ fa far k → Wk rows s k (fa far k).toNat
 near : ∀ u k, u < rows.length → k < rows.length → 0 ≤ fa far u → Edge rows u k → 0 ≤ fa far k ∧ fa far k ≤ fa far u + 1
 zero : fa far s = 0
theorem saFar_l0 (o : Int) (rows : List (List Int)) (s : Nat) (hn : rows.length ≤ 5) (hsq : ∀ r ∈ rows, r.length = rows.length) (hs : s < rows.length) :
 ∀ (m j : Nat) (far : List Int), j + m = rows.length → far.length = rows.length → (∀ k, k < j → fa far k = -1) →
 ∃ far', IsFar rows s far' ∧ ∀ k, m + 60 < k → spec_saFar.l0 k s far (rows.length : Int) j o rows = some far' := by
 intro m
 induction m with
 | zero =>
  intro j far hj hl hd
  have hq : Qu rows (-1) s [s] := ⟨by simp, by simp [hs], by simp [RC.base], by simp⟩
  have hset := fun k => fa_set (far := far) (j := s) (x := 0) (by omega) k
  have hout : ∀ k, rows.length ≤ k → fa far k = -1 := by
   intro k hk
   unfold fa
   rw [List.getD_eq_getElem?_getD, List.getElem?_eq_none (by omega)]
   rfl
  have hold : ∀ k, fa far k = -1 := fun k => if h : k < rows.length then hd k (by omega) else hout k (by omega)
  have hone : ∀ (a v : Nat), ([s] : List Nat)[a]? = some v → a = 0 ∧ v = s := by
   intro a v h
   rw [List.getElem?_singleton] at h
   by_cases e : a = 0
   · rw [if_pos e] at h; exact ⟨e, (Option.some.inj h).symm⟩
   · rw [if_neg e] at h; cases h
  have hm : Far rows s (far.set s 0) [s] 0 := by
   refine ⟨by rw [List.length_set]; exact hl, ?_, ?_, by rw [hset, if_pos rfl], ?_, ?_, ?_, ?_⟩
   · intro k hk
     rw [hset]
     by_cases e : k = s
     · simp [e]
     · rw [if_neg e, hold]; simp [e]
   · intro k
     rw [hset]
     by_cases e : k = s
     · rw [if_pos e]; omega
     · rw [if_neg e, hold]; omega
   · intro v hv
     rw [List.mem_singleton] at hv
     subst hv
     rw [hset, if_pos rfl]
     exact Wk.base
   · intro a v h
     obtain ⟨rfl, rfl⟩ := hone a v h
     rw [hset, if_pos rfl]; simp
   · intro a b u v _ hu hv
     obtain ⟨_, rfl⟩ := hone a u hu
     obtain ⟨_, rfl⟩ := hone b v hv
     exact Int.le_refl _
   · intro a ha; omega
  obtain ⟨far', q', h1, h2, h3, E⟩ := saFar_l1 o rows s hn hsq rows.length 0 (far.set s 0) [s] (by omega) (by simp) hq hm (fun a ha => absurd ha (Nat.not_lt_zero _)) (by
   intro c hc v hv
   obtain ⟨_, rfl⟩ := hone 0 c hc
   rw [List.mem_singleton] at hv
   subst hv
   omega)
  have hmem : ∀ k, k < rows.length → (0 ≤ fa far' k ↔ k ∈ q') := h2.mem
  have hq' := h1.len
  refine ⟨far', ⟨h2.len, h2.low, ?_, ?_, ?_, ?_, ?_⟩, fun k hk => ?_⟩
  · intro k hk
    by_cases c : 0 ≤ fa far' k
    · obtain ⟨a, ha, hv⟩ := List.getElem_of_mem ((hmem k hk).1 c)
      have := h2.idx a k (by rw [List.getElem?_eq_getElem ha, hv])
      omega
    · omega
  · intro k hk
    rw [hmem k hk, h1.all h3]
  · intro k hk h
    exact h2.wk k ((hmem k hk).1 h)
  · intro u k hu hk h he
    obtain ⟨a, ha, hv⟩ := List.getElem_of_mem ((hmem u hu).1 h)
    obtain ⟨h5, h6⟩ := h2.near a ha u (by rw [List.getElem?_eq_getElem ha, hv]) k hk he
    exact ⟨(hmem k hk).2 h5, h6⟩
  · exact h2.zero
  · obtain ⟨k, rfl⟩ : ∃ m, k = m + 1 := ⟨k - 1, by omega⟩
    simp only [spec_saFar.l0]
    rw [if_neg (by omega), if_pos (by omega), if_pos (by omega), Int.toNat_natCast]
    exact E k (by omega)
 | succ m ih =>
  intro j far hj hl hd
  obtain ⟨far', h1, E⟩ := ih (j + 1) (far.set j (-1)) (by omega) (by rw [List.length_set]; exact hl) (fun k hk => by
   rw [fa_set (by omega)]
   by_cases e : k = j
   · rw [if_pos e]
   · rw [if_neg e]; exact hd k (by omega))
  refine ⟨far', h1, fun k hk => ?_⟩
  obtain ⟨k, rfl⟩ : ∃ m, k = m + 1 := ⟨k - 1, by omega⟩
  simp only [spec_saFar.l0]
  rw [if_pos (by omega), if_pos (by omega), if_pos (by omega), w64 (x := (j : Int) + 1) (by omega) (by omega), Int.toNat_natCast]
  exact E k (by omega)
theorem saFar_ev (o : Int) (rows : List (List Int)) (s : Nat) (hn : rows.length ≤ 5) (hsq : ∀ r ∈ rows, r.length = rows.length) (hs : s < rows.length) :
 ∃ far, IsFar rows s far ∧ ∀ k, 80 ≤ k → spec_saFar.f k o rows s = some far := by
 obtain ⟨far, h1, E⟩ := saFar_l0 o rows s hn hsq hs rows.length 0 (List.replicate rows.length 0) (by omega) (by simp) (fun k hk => absurd hk (Nat.not_lt_zero _))
 refine ⟨far, h1, fun k hk => ?_⟩
 simp only [spec_saFar.f]
 rw [if_pos (by omega), if_pos (by omega), Int.toNat_natCast]
 simp only [Option.bind_some, List.length_replicate]
 exact E k (by omega)
theorem sm_shift : ∀ (n : Nat) (f : Nat → Rat), sm (n + 1) f = f 0 + sm n (fun j => f (j + 1)) := by
 intro n
 induction n with
 | zero => intro f; simp only [sm]; grind
 | succ n ih =>
  intro f
  rw [sm, ih f, sm]
  grind
theorem sm_part {N x : Nat} (hx : x < N) (f : Nat → Rat) : sm N f = f x + sm N (fun z => if z = x then 0 else f z) := by
 induction N with
 | zero => omega
 | succ n ih =>
  simp only [sm]
  by_cases e : x = n
  · subst e
    rw [if_pos rfl, sm_congr (g := fun z => if z = x then 0 else f z) (fun c hc => by rw [if_neg (by omega)])]
    grind
  · rw [ih (by omega), if_neg (fun h => e h.symm)]
    grind
theorem sm_list {N : Nat} (F : Nat → Rat) : ∀ L : List Nat, L.Nodup → (∀ x ∈ L, x < N) → sm L.length (fun j => F (bl L j)) = sm N (fun w => if w ∈ L then F w else 0)
 | [], _, _ => by
  rw [sm_zero (n := N) (fun c _ => if_neg (by simp))]
  rfl
 | x :: L, hn, hl => by
  rw [List.nodup_cons] at hn
  rw [List.length_cons, sm_shift, sm_part (hl x (by simp))]
  have e1 : F (bl (x :: L) 0) = F x := rfl
  have e2 : sm L.length (fun j => F (bl (x :: L) (j + 1))) = sm L.length (fun j => F (bl L j)) := sm_congr fun j _ => by
   unfold bl
   rw [List.getD_cons_succ]
  rw [e1, e2, sm_list F L hn.2 (fun y hy => hl y (by simp [hy])), if_pos (by simp)]
  congr 1
  refine sm_congr fun w _ => ?_
  by_cases e : w = x
  · rw [if_pos e, if_neg (e ▸ hn.1)]
  · rw [if_neg e]
    by_cases h : w ∈ L
    · rw [if_pos h, if_pos (by simp [h])]
    · rw [if_neg h, if_neg (by simp [h, e])]
theorem tb_states {o : Int} {rows : List (List Int)} {L : List Nat} (hn : L.Nodup) (hl : ∀ x ∈ L, x < rows.length) (z : Nat → Rat) {k : Nat} (hk : k < L.length) :
 sm L.length (fun j => (tb o (sx rows) (bl L) k j : Rat) * z (bl L j)) = (o : Rat) * z (bl L k) - sm rows.length (fun w => if w ∈ L then (sx rows (bl L k) w : Rat) * z w else 0) := by
 rw [tb_row o (sx rows) (bl L) L.length k hk (fun j => z (bl L j)), sm_list (fun w => (sx rows (bl L k) w : Rat) * z w) L hn hl]
def zof (L : List Nat) (y : Nat → Rat) (w : Nat) : Rat := sm L.length (fun j => if bl L j = w then y j else 0)
theorem zof_at {L : List Nat} (hn : L.Nodup) (y : Nat → Rat) {j : Nat} (hj : j < L.length) : zof L y (bl L j) = y j := by
 unfold zof
 rw [sm_one (c := j) hj (fun i hi e => if_neg (fun e2 => e (bl_inj hn hi hj e2))), if_pos rfl]
noncomputable def Lg (rows : List (List Int)) (g : Nat) : List Nat := sn rows.length (fun i => i ≠ g ∧ RC rows (-1) i g)
theorem Lg_liv {rows : List (List Int)} {g : Nat} : Liv rows g (Lg rows g) :=
 ⟨fun x hx => (sn_mem.1 hx).1, sn_nodup _ _, fun x hx => (sn_mem.1 hx).2.1, fun x hx => (sn_mem.1 hx).2.2⟩
structure Vis (o : Int) (rows : List (List Int)) (g : Nat) (z : Nat → Rat) : Prop where
 eq : ∀ x ∈ Lg rows g, (o : Rat) * z x - sm rows.length (fun w => if w ∈ Lg rows g then (sx rows x w : Rat) * z w else 0) = (sx rows x g : Rat)
 nn : ∀ x ∈ Lg rows g, 0 ≤ z x
theorem saVisit_l0 {o : Int} {rows : List (List Int)} (hgd : Good o rows) {f g : Nat} (hg : g < rows.length) {p q : Int}
 (hfin : ∃ K, ∀ k, K ≤ k → spec_saVisit.l0 k f g ((Lg rows g).map (fun v : Nat => (v : Int))) ((Lg rows g).map (fun x => sx rows x g)) (rows.length : Int) (rows.length : Int) o rows = some (p, q)) :
 ∀ (m j : Nat) (pre : List Nat), j + m = rows.length → pre.length ≤ j → pre ++ (List.range' j m).filter (fun i => @decide (i ≠ g ∧ RC rows (-1) i g) (Classical.propDecidable _)) = Lg rows g →
  ∃ K, ∀ k, K ≤ k → spec_saVisit.l0 k f g (pre.map (fun v : Nat => (v : Int))) (pre.map (fun x => sx rows x g)) (rows.length : Int) (j : Int) o rows = some (p, q) := by
 have hn5 := hgd.2.2.2.1
 have hsq : ∀ r ∈ rows, r.length = rows.length := fun r hr => (hgd.2.2.2.2 r hr).1
 intro m
 induction m with
 | zero =>
  intro j pre hj _ he
  rw [List.range'_zero, List.filter_nil, List.append_nil] at he
  rw [he, show j = rows.length by omega]
  exact hfin
 | succ m ih =>
  intro j pre hj hpl he
  rw [List.range'_succ] at he
  by_cases c1 : j = g
  · rw [List.filter_cons_of_neg (by simp [c1])] at he
    obtain ⟨K, e⟩ := ih (j + 1) pre (by omega) (by omega) he
    refine ⟨K + 1, fun k hk => ?_⟩
    obtain ⟨k, rfl⟩ : ∃ q, k = q + 1 := ⟨k - 1, by omega⟩
    rw [spec_saVisit.l0, if_pos (by omega), if_pos (by rw [c1]), nsucc (by omega)]
    exact e k (by omega)
  · obtain ⟨far, hf, E2⟩ := saFar_ev o rows j hn5 hsq (by omega)
    have hfl := hf.len
    have hfm := hf.mem g hg
    by_cases c2 : RC rows (-1) j g
    · rw [List.filter_cons_of_pos (by simp [c1, c2])] at he
      obtain ⟨K, e⟩ := ih (j + 1) (pre ++ [j]) (by omega) (by simp; omega) (by rw [List.append_assoc, List.singleton_append]; exact he)
      refine ⟨K + 200, fun k hk => ?_⟩
      obtain ⟨k, rfl⟩ : ∃ q, k = q + 1 := ⟨k - 1, by omega⟩
      have e' := e k (by omega)
      rw [List.map_append, List.map_append, List.map_singleton, List.map_singleton] at e'
      have hrl := (good_row hgd (x := j) (by omega)).1
      have erl : rd_L1 rows (j : Int) = rows.getD j [] := by unfold rd_L1; rw [Int.toNat_natCast]
      rw [spec_saVisit.l0, if_pos (by omega), if_neg (by omega), E2 k (by omega), Option.bind_some, if_pos (by omega), if_pos (by omega), rd_fa (by omega), if_pos (hfm.2 c2), if_pos (by simp; omega), if_pos (by omega), if_pos (by omega), erl, if_pos (by omega), ← erl, if_pos (by simp; omega), sx_rd, nsucc (by omega)]
      exact e'
    · rw [List.filter_cons_of_neg (by simp [c2])] at he
      obtain ⟨K, e⟩ := ih (j + 1) pre (by omega) (by omega) he
      refine ⟨K + 200, fun k hk => ?_⟩
      obtain ⟨k, rfl⟩ : ∃ q, k = q + 1 := ⟨k - 1, by omega⟩
      rw [spec_saVisit.l0, if_pos (by omega), if_neg (by omega), E2 k (by omega), Option.bind_some, if_pos (by omega), if_pos (by omega), rd_fa (by omega), if_neg (fun h => c2 (hfm.1 h)), nsucc (by omega)]
      exact e k (by omega)
theorem map_range {L : List Nat} (F : Nat → Int) : L.map F = (List.range L.length).map (fun r => F (bl L r)) := by
 apply List.ext_getElem?
 intro q
 by_cases h : q < L.length
 · rw [List.getElem?_map, List.getElem?_map, List.getElem?_range h, List.getElem?_eq_getElem h]
   simp [bl_get h]
 · rw [List.getElem?_eq_none (by simp; omega), List.getElem?_eq_none (by simp; omega)]
theorem vis_spec {o : Int} {rows : List (List Int)} (hgd : Good o rows) {g : Nat} (hg : g < rows.length) :
 ∃ z : Nat → Rat, Vis o rows g z ∧ ∀ f ∈ Lg rows g, ∃ K, ∀ k, K ≤ k → spec_saSolve.f k o rows ((Lg rows g).map (fun v : Nat => (v : Int))) ((Lg rows g).map (fun x => sx rows x g)) f = some ((z f).num, ((z f).den : Int)) := by
 have hn5 := hgd.2.2.2.1
 have hlen := (Lg_liv (rows := rows) (g := g)).len hg
 have hc := sx_chn hgd
 obtain ⟨y, hy⟩ : ∃ y : Nat → Rat, y = fun j => ((cr (Lg rows g).length (tb o (sx rows) (bl (Lg rows g))) (fun r => sx rows (bl (Lg rows g) r) g) j : Int) : Rat) / ((dt (Lg rows g).length (tb o (sx rows) (bl (Lg rows g))) : Int) : Rat) := ⟨_, rfl⟩
 have hcol : ∀ k, k < (Lg rows g).length → 0 ≤ sx rows (bl (Lg rows g) k) g ∧ sx rows (bl (Lg rows g) k) g ≤ 10 := fun k hk => ⟨hc.nn _ _, Int.le_trans (hc.le (Lg_liv.lt _ (bl_mem hk)) hg) hc.top⟩
 have hmm := (Lg_liv (rows := rows) (g := g)).mm hgd
 have hd : dt (Lg rows g).length (tb o (sx rows) (bl (Lg rows g))) ≠ 0 := by
  have := (hmm.dts _ (Nat.le_refl _) (by omega)).1
  omega
 have hsol : ∀ k, k < (Lg rows g).length → sm (Lg rows g).length (fun j => (tb o (sx rows) (bl (Lg rows g)) k j : Rat) * y j) = (sx rows (bl (Lg rows g) k) g : Rat) := by
  rw [hy]
  exact det_solves (by omega) hd _
 have huniq : ∀ y' : Nat → Rat, (∀ k, k < (Lg rows g).length → sm (Lg rows g).length (fun j => (tb o (sx rows) (bl (Lg rows g)) k j : Rat) * y' j) = (sx rows (bl (Lg rows g) k) g : Rat)) → ∀ q, q < (Lg rows g).length → y' q = y q := by
  intro y' hy' q hq
  have hm2 : Mm (Lg rows g).length (tr o (sx rows) (Lg rows g) (fun r => sx rows (bl (Lg rows g) r) g)) := hmm.congr (fun k c _ hc => if_pos hc)
  obtain ⟨X, _, hX⟩ := hit_solved (by omega) (by omega) hm2 hgd.1 hgd.2.1 (fun k c hk hc => by
   unfold tr
   split
   · exact tb_abs hgd Lg_liv.lt hk (by omega)
   · have := hcol k hk
     show (sx rows (bl (Lg rows g) k) g).natAbs ≤ 10
     omega)
  have conv : ∀ v : Nat → Rat, (∀ k, k < (Lg rows g).length → sm (Lg rows g).length (fun j => (tb o (sx rows) (bl (Lg rows g)) k j : Rat) * v j) = (sx rows (bl (Lg rows g) k) g : Rat)) → ∀ k, k < (Lg rows g).length → sm (Lg rows g).length (fun j => (tr o (sx rows) (Lg rows g) (fun r => sx rows (bl (Lg rows g) r) g) k j : Rat) * v j) = (tr o (sx rows) (Lg rows g) (fun r => sx rows (bl (Lg rows g) r) g) k (Lg rows g).length : Rat) := by
   intro v hv k hk
   rw [show tr o (sx rows) (Lg rows g) (fun r => sx rows (bl (Lg rows g) r) g) k (Lg rows g).length = sx rows (bl (Lg rows g) k) g from if_neg (by omega), ← hv k hk]
   exact sm_congr fun j hj => by rw [show tr o (sx rows) (Lg rows g) (fun r => sx rows (bl (Lg rows g) r) g) k j = tb o (sx rows) (bl (Lg rows g)) k j from if_pos hj]
  rw [← hX y' (conv y' hy') q hq, hX y (conv y hsol) q hq]
 have hz : ∀ j, j < (Lg rows g).length → zof (Lg rows g) y (bl (Lg rows g) j) = y j := fun j hj => zof_at Lg_liv.nd y hj
 have hm3 : Mm (Lg rows g).length (fun k c => if c < (Lg rows g).length then tb o (sx rows) (bl (Lg rows g)) k c else sx rows (bl (Lg rows g) k) g) := hmm.congr (fun k c _ hc => if_pos hc)
 have hnn : ∀ q, q < (Lg rows g).length → 0 ≤ y q := sol_nonneg hm3 (fun k hk => by rw [if_neg (by omega)]; exact (hcol k hk).1) (fun k hk => by
  rw [if_neg (by omega), ← hsol k hk]
  exact sm_congr fun j hj => by rw [if_pos hj])
 refine ⟨zof (Lg rows g) y, ⟨fun x hx => ?_, fun x hx => ?_⟩, fun f hf => ?_⟩
 · obtain ⟨a, ha, rfl⟩ := bl_of_mem hx
   rw [← tb_states Lg_liv.nd Lg_liv.lt (zof (Lg rows g) y) ha, ← hsol a ha]
   exact sm_congr fun j hj => by rw [hz j hj]
 · obtain ⟨a, ha, rfl⟩ := bl_of_mem hx
   rw [hz a ha]
   exact hnn a ha
 · obtain ⟨a, ha, rfl⟩ := bl_of_mem hf
   obtain ⟨y', hy', _, K, E⟩ := solve_ev hgd Lg_liv.lt Lg_liv.nd (by omega) ha (fun r => sx rows (bl (Lg rows g) r) g) hcol hmm
   refine ⟨K, fun k hk => ?_⟩
   rw [map_range (fun x => sx rows x g), E k hk, hz a ha, huniq y' hy' a ha]
theorem vis_impl {o : Int} {rows : List (List Int)} (hgd : Good o rows) {f g : Nat} (hf : f < rows.length) (hg : g < rows.length) (hfg : f ≠ g) {z : Nat → Rat} (hz : Vis o rows g z) (hr : RC rows (-1) f g) :
 ∃ K, ∀ k, K ≤ k → impl_States_visit.f k o rows f g = some ((z f).num, ((z f).den : Int)) := by
 have hn5 := hgd.2.2.2.1
 have hsq : ∀ r ∈ rows, r.length = rows.length := fun r hr => (hgd.2.2.2.2 r hr).1
 obtain ⟨L, hL⟩ : ∃ L, L = sn rows.length (fun i => RC rows g f i ∧ i ≠ g ∧ RC rows (-1) i g) := ⟨_, rfl⟩
 have hm : ∀ x, x ∈ L ↔ x < rows.length ∧ RC rows g f x ∧ x ≠ g ∧ RC rows (-1) x g := fun x => by rw [hL]; exact sn_mem
 have hliv : Liv rows g L := ⟨fun x hx => ((hm x).1 hx).1, by rw [hL]; exact sn_nodup _ _, fun x hx => ((hm x).1 hx).2.2.1, fun x hx => ((hm x).1 hx).2.2.2⟩
 have hfL : f ∈ L := (hm f).2 ⟨hf, RC.base, hfg, hr⟩
 obtain ⟨a, ha, hba⟩ := bl_of_mem hfL
 have hlen := hliv.len hg
 have hc := sx_chn hgd
 have ho : ((o : Int) : Rat) ≠ 0 := castne (by have := hgd.1; omega)
 have hsub : ∀ x ∈ L, x ∈ Lg rows g := fun x hx => sn_mem.2 ⟨hliv.lt x hx, hliv.ne x hx, hliv.rc x hx⟩
 have hy : ∀ k, k < L.length → sm L.length (fun j => (tb o (sx rows) (bl L) k j : Rat) * z (bl L j)) = (sx rows (bl L k) g : Rat) := by
  intro k hk
  have hx := bl_mem hk
  rw [tb_states hliv.nd hliv.lt z hk, ← hz.eq _ (hsub _ hx)]
  congr 1
  refine sm_congr fun w hw => ?_
  by_cases h1 : w ∈ L
  · rw [if_pos h1, if_pos (hsub w h1)]
  · rw [if_neg h1]
    by_cases h2 : w ∈ Lg rows g
    · rw [if_pos h2]
      have h3 := (sn_mem.1 h2).2
      obtain ⟨q1, q2, q3, q4⟩ := (hm _).1 hx
      have h4 : sx rows (bl L k) w = 0 := by
       have h5 := hc.nn (bl L k) w
       by_cases h6 : 0 < sx rows (bl L k) w
       · exact absurd ((hm w).2 ⟨hw, RC.step _ _ q2 (by omega) hw h6, h3.1, h3.2⟩) h1
       · omega
      rw [h4]
      grind
    · rw [if_neg h2]
 obtain ⟨K4, E4⟩ := hit_is hgd hg hliv (by omega) (u := 0) (v := 1) (bd_zero.mono (by decide) (by decide)) bd_one (rhs := fun k => sx rows (bl L k) g) (fun k hk => by
  have h1 := hc.nn (bl L k) g
  have h2 := hc.le (hliv.lt _ (bl_mem hk)) hg
  have h3 := hc.top
  show (sx rows (bl L k) g).natAbs ≤ 10
  omega) (fun i hi => by grind) hy
 refine ⟨K4 + 500, fun k hk => ?_⟩
 have eI : such 0 rows.length (fun i => RC rows g f i ∧ i ≠ g ∧ RC rows (-1) i g) = L.map (fun v : Nat => (v : Int)) := by rw [hL]; rfl
 have e4 := E4 k (by omega)
 rw [show (1 : Rat).num = 1 from rfl, show (((1 : Rat).den : Nat) : Int) = 1 from rfl, show (0 : Rat).num = 0 from rfl, show (((0 : Rat).den : Nat) : Int) = 1 from rfl] at e4
 have e7 := index_at hliv.nd (by omega) ha k (by omega)
 rw [hba] at e7
 have hfg' : ¬ ((f : Int) = (g : Int)) := fun e => hfg (by omega)
 unfold impl_States_visit.f
 rw [if_neg hfg', inner_ev o rows f g hn5 hsq hf hg k (by omega), Option.bind_some, eI, e7, Option.bind_some, if_neg (by omega), show impl_whole.f 0 = some ((0 : Int), (1 : Int)) from rfl, Option.bind_some, show impl_whole.f 1 = some ((1 : Int), (1 : Int)) from rfl, Option.bind_some, e4, Option.bind_some, if_pos (by omega), rowq_len, if_pos (by omega), rowq_get ha, hba]
 rfl
theorem vis_char {o : Int} {rows : List (List Int)} (hgd : Good o rows) {g : Nat} (hg : g < rows.length) :
 ∃ z : Nat → Rat, Vis o rows g z ∧ ∀ f, f < rows.length → ∃ q : Rat, (∃ K, ∀ k, K ≤ k → spec_saVisit.f k o rows f g = some (q.num, (q.den : Int)) ∧ impl_States_visit.f k o rows f g = some (q.num, (q.den : Int))) ∧
  ((f = g ∧ q = 1) ∨ (f ≠ g ∧ ¬ RC rows (-1) f g ∧ q = 0) ∨ (f ∈ Lg rows g ∧ q = z f)) := by
 have hn5 := hgd.2.2.2.1
 have hsq : ∀ r ∈ rows, r.length = rows.length := fun r hr => (hgd.2.2.2.2 r hr).1
 obtain ⟨z, hz, hs⟩ := vis_spec hgd hg
 refine ⟨z, hz, fun f hf => ?_⟩
 by_cases hfg : f = g
 · subst hfg
   refine ⟨1, ⟨0, fun k _ => ⟨?_, ?_⟩⟩, .inl ⟨rfl, rfl⟩⟩
   · unfold spec_saVisit.f
     rw [if_pos rfl]
     rfl
   · unfold impl_States_visit.f
     rw [if_pos rfl]
     rfl
 · have hfg' : ¬ ((f : Int) = (g : Int)) := fun e => hfg (by omega)
   have hll := (Lg_liv (rows := rows) (g := g)).len hg
   have hpre : ([] : List Nat) ++ (List.range' 0 rows.length).filter (fun i => @decide (i ≠ g ∧ RC rows (-1) i g) (Classical.propDecidable _)) = Lg rows g := rfl
   by_cases hr : RC rows (-1) f g
   · have hfL : f ∈ Lg rows g := sn_mem.2 ⟨hf, hfg, hr⟩
     obtain ⟨K1, E1⟩ := hs f hfL
     obtain ⟨K2, E2⟩ := vis_impl hgd hf hg hfg hz hr
     obtain ⟨K3, E3⟩ := saVisit_l0 hgd (f := f) hg (p := (z f).num) (q := ((z f).den : Int)) ⟨K1 + 100, fun k hk => by
      obtain ⟨k, rfl⟩ : ∃ q, k = q + 1 := ⟨k - 1, by omega⟩
      rw [spec_saVisit.l0, if_neg (by omega), l1Has_is _ _ (by simp; omega) _ (by simp; omega), Option.bind_some, decide_eq_true (mem_cast.2 hfL), if_pos rfl, E1 k (by omega), Option.bind_some]⟩ rows.length 0 [] (by omega) (by simp) hpre
     refine ⟨z f, ⟨K2 + K3, fun k hk => ⟨?_, E2 k (by omega)⟩⟩, .inr (.inr ⟨hfL, rfl⟩)⟩
     have := E3 k (by omega)
     unfold spec_saVisit.f
     rw [if_neg hfg']
     exact this
   · have hfL : f ∉ Lg rows g := fun h => hr (sn_mem.1 h).2.2
     obtain ⟨K3, E3⟩ := saVisit_l0 hgd (f := f) hg (p := 0) (q := 1) ⟨100, fun k hk => by
      obtain ⟨k, rfl⟩ : ∃ q, k = q + 1 := ⟨k - 1, by omega⟩
      rw [spec_saVisit.l0, if_neg (by omega), l1Has_is _ _ (by simp; omega) _ (by simp; omega), Option.bind_some, decide_eq_false (fun h => hfL (mem_cast.1 h)), if_neg (by decide)]⟩ rows.length 0 [] (by omega) (by simp) hpre
     refine ⟨0, ⟨K3 + 500, fun k hk => ⟨?_, ?_⟩⟩, .inr (.inl ⟨hfg, hr, rfl⟩)⟩
     · have := E3 k (by omega)
       unfold spec_saVisit.f
       rw [if_neg hfg']
       exact this
     · have hnot : f ∉ sn rows.length (fun i => RC rows g f i ∧ i ≠ g ∧ RC rows (-1) i g) := fun h => hr (sn_mem.1 h).2.2.2
       have hlen : (sn rows.length (fun i => RC rows g f i ∧ i ≠ g ∧ RC rows (-1) i g)).length ≤ 5 := by
        have := such_len 0 rows.length (fun i => RC rows g f i ∧ i ≠ g ∧ RC rows (-1) i g)
        rw [such_sn, List.length_map] at this
        omega
       unfold impl_States_visit.f
       rw [if_neg hfg', inner_ev o rows f g hn5 hsq hf hg k (by omega), Option.bind_some, such_sn, index_not (by omega) hnot k (by omega), Option.bind_some, if_pos (by decide)]
       rfl
theorem szSS_l0 (rows : List (List Int)) (hl : rows.length ≤ 9223372036854775807) (hr : ∀ r ∈ rows, r.length ≤ 9223372036854775807) : ∀ (m j : Nat) (left : Int), j + m = rows.length → 0 ≤ left → left ≤ 1048576 →
 ∃ r, (∃ K, ∀ k, K ≤ k → laws_szIntSS.l0 k rows left j = some r) ∧ (0 ≤ r → ∀ i (h : i < rows.length), j ≤ i → (rows[i].length : Int) ≤ left) := by
 intro m
 induction m with
 | zero =>
  intro j left hj h0 h1
  refine ⟨left, ⟨1, fun k hk => ?_⟩, fun _ i h hi => by omega⟩
  obtain ⟨k, rfl⟩ : ∃ m, k = m + 1 := ⟨k - 1, by omega⟩
  simp only [laws_szIntSS.l0]
  rw [if_neg (by omega)]
 | succ m ih =>
  intro j left hj h0 h1
  have hlt : j < rows.length := by omega
  have hrr := hr _ (List.getElem_mem hlt)
  by_cases hc : left - (rows[j].length : Int) < 0
  · refine ⟨-1, ⟨1, fun k hk => ?_⟩, fun h => by omega⟩
    obtain ⟨k, rfl⟩ : ∃ m, k = m + 1 := ⟨k - 1, by omega⟩
    simp only [laws_szIntSS.l0, laws_szIntS.f]
    rw [if_pos (by omega), if_pos (by omega), rd1_get hlt, w64 (x := left - (rows[j].length : Int)) (by omega) (by omega), if_pos hc]
    rfl
  · obtain ⟨r, ⟨K, E⟩, h⟩ := ih (j + 1) (left - (rows[j].length : Int)) (by omega) (by omega) (by omega)
    refine ⟨r, ⟨K + 1, fun k hk => ?_⟩, fun h2 i hi hji => ?_⟩
    · obtain ⟨k, rfl⟩ : ∃ m, k = m + 1 := ⟨k - 1, by omega⟩
      simp only [laws_szIntSS.l0, laws_szIntS.f]
      rw [if_pos (by omega), if_pos (by omega), rd1_get hlt, w64 (x := left - (rows[j].length : Int)) (by omega) (by omega), if_neg hc]
      simp only [Option.bind_some]
      rw [if_neg hc, w64 (x := (j : Int) + 1) (by omega) (by omega)]
      exact E k (by omega)
    · by_cases hij : i = j
      · subst hij; omega
      · have := h h2 i hi (by omega)
        omega
theorem szStates_ev (o : Int) (rows : List (List Int)) (hl : rows.length ≤ 9223372036854775807) (hr : ∀ r ∈ rows, r.length ≤ 9223372036854775807) :
 ∃ r, (∃ K, ∀ k, K ≤ k → laws_szStates.f k o rows 1048576 = some r) ∧ (0 ≤ r → rows.length ≤ 1048576 ∧ ∀ x ∈ rows, x.length ≤ 1048576) := by
 by_cases hc : 1048576 - (rows.length : Int) < 0
 · refine ⟨-1, ⟨0, fun k _ => ?_⟩, fun h => by omega⟩
   simp only [laws_szStates.f, laws_szIntSS.f]
   rw [w64 (x := 1048576 - (rows.length : Int)) (by omega) (by omega), if_pos hc]
   rfl
 · obtain ⟨r, ⟨K, E⟩, h⟩ := szSS_l0 rows hl hr rows.length 0 (1048576 - (rows.length : Int)) (by omega) (by omega) (by omega)
   by_cases hr0 : r < 0
   · refine ⟨-1, ⟨K, fun k hk => ?_⟩, fun h => by omega⟩
     simp only [laws_szStates.f, laws_szIntSS.f]
     rw [w64 (x := 1048576 - (rows.length : Int)) (by omega) (by omega), if_neg hc, show laws_szIntSS.l0 k rows (1048576 - (rows.length : Int)) 0 = some r from E k hk]
     simp only [Option.bind_some]
     rw [if_pos hr0]
   · refine ⟨r, ⟨K, fun k hk => ?_⟩, fun h0 => ⟨by omega, fun x hx => ?_⟩⟩
     · simp only [laws_szStates.f, laws_szIntSS.f]
       rw [w64 (x := 1048576 - (rows.length : Int)) (by omega) (by omega), if_neg hc, show laws_szIntSS.l0 k rows (1048576 - (rows.length : Int)) 0 = some r from E k hk]
       simp only [Option.bind_some]
       rw [if_neg hr0]
     · obtain ⟨i, hi, rfl⟩ := List.getElem_of_mem hx
       have := h h0 i hi (by omega)
       omega
theorem toIntS_l0 (xs : List Int) (hx : xs.length ≤ 1048576) : ∀ (m j k : Nat) (ys : List Int), m < k → j + m = xs.length → ys.length = xs.length → ys.take j = xs.take j →
 laws_toIntS.l0 k xs ys j = some xs := by
 intro m
 induction m with
 | zero =>
  intro j k ys hk hj hy ht
  obtain ⟨k, rfl⟩ : ∃ m, k = m + 1 := ⟨k - 1, by omega⟩
  simp only [laws_toIntS.l0]
  rw [if_neg (by omega)]
  rw [List.take_of_length_le (by omega), List.take_of_length_le (by omega)] at ht
  rw [ht]
 | succ m ih =>
  intro j k ys hk hj hy ht
  obtain ⟨k, rfl⟩ : ∃ m, k = m + 1 := ⟨k - 1, by omega⟩
  have hlt : j < xs.length := by omega
  simp only [laws_toIntS.l0]
  rw [if_pos (by omega), if_pos (by omega), if_pos (by omega), rd_get hlt, w64 (x := (j : Int) + 1) (by omega) (by omega), show (j : Int) + 1 = ((j + 1 : Nat) : Int) from by omega, Int.toNat_natCast]
  refine ih (j + 1) k _ (by omega) (by omega) (by rw [List.length_set]; exact hy) ?_
  rw [List.take_add_one, List.take_add_one, List.take_set_of_le (by omega), ht, List.getElem?_set_self (by omega), List.getElem?_eq_getElem hlt]
theorem toIntS_is (xs : List Int) (hx : xs.length ≤ 1048576) (k : Nat) (hk : xs.length < k) : laws_toIntS.f k xs = some xs := by
 unfold laws_toIntS.f
 rw [if_pos (by omega), if_pos (by omega)]
 exact toIntS_l0 xs hx xs.length 0 k _ hk (by omega) (by simp) rfl
theorem toIntSS_l0 (xs : List (List Int)) (hx : xs.length ≤ 1048576) (hr : ∀ r ∈ xs, r.length ≤ 1048576) : ∀ (m j k : Nat) (ys : List (List Int)), m + 1048578 < k → j + m = xs.length → ys.length = xs.length → ys.take j = xs.take j →
 laws_toIntSS.l0 k xs ys j = some xs := by
 intro m
 induction m with
 | zero =>
  intro j k ys hk hj hy ht
  obtain ⟨k, rfl⟩ : ∃ m, k = m + 1 := ⟨k - 1, by omega⟩
  simp only [laws_toIntSS.l0]
  rw [if_neg (by omega)]
  rw [List.take_of_length_le (by omega), List.take_of_length_le (by omega)] at ht
  rw [ht]
 | succ m ih =>
  intro j k ys hk hj hy ht
  obtain ⟨k, rfl⟩ : ∃ m, k = m + 1 := ⟨k - 1, by omega⟩
  have hlt : j < xs.length := by omega
  have hrr := hr _ (List.getElem_mem hlt)
  simp only [laws_toIntSS.l0]
  rw [if_pos (by omega), if_pos (by omega), rd1_get hlt, toIntS_is _ hrr k (by omega)]
  simp only [Option.bind_some]
  rw [if_pos (by omega), w64 (x := (j : Int) + 1) (by omega) (by omega), show (j : Int) + 1 = ((j + 1 : Nat) : Int) from by omega, Int.toNat_natCast]
  refine ih (j + 1) k _ (by omega) (by omega) (by rw [List.length_set]; exact hy) ?_
  rw [List.take_add_one, List.take_add_one, List.take_set_of_le (by omega), ht, List.getElem?_set_self (by omega), List.getElem?_eq_getElem hlt]
theorem toStates_is (o : Int) (xs : List (List Int)) (hx : xs.length ≤ 1048576) (hr : ∀ r ∈ xs, r.length ≤ 1048576) (k : Nat) (hk : 3000000 ≤ k) : laws_toStates.f k o xs = some (o, xs) := by
 unfold laws_toStates.f laws_toIntSS.f
 rw [if_pos (by omega), if_pos (by omega)]
 rw [show laws_toIntSS.l0 k xs (List.replicate ((xs.length : Int) : Int).toNat []) 0 = some xs from toIntSS_l0 xs hx hr xs.length 0 k _ (by omega) (by omega) (by simp) rfl]
 rfl
theorem eqIntS_l0 (xs : List Int) (hx : xs.length ≤ 1048576) : ∀ (m j k : Nat), m < k → j + m = xs.length → laws_eqIntS.l0 k xs xs j = some true := by
 intro m
 induction m with
 | zero =>
  intro j k hk hj
  obtain ⟨k, rfl⟩ : ∃ m, k = m + 1 := ⟨k - 1, by omega⟩
  simp only [laws_eqIntS.l0]
  rw [if_neg (by omega)]
 | succ m ih =>
  intro j k hk hj
  obtain ⟨k, rfl⟩ : ∃ m, k = m + 1 := ⟨k - 1, by omega⟩
  simp only [laws_eqIntS.l0, ↓reduceIte]
  rw [if_pos (by omega), if_pos (by omega), if_pos (by omega), w64 (x := (j : Int) + 1) (by omega) (by omega), show (j : Int) + 1 = ((j + 1 : Nat) : Int) from by omega]
  exact ih (j + 1) k (by omega) (by omega)
theorem eqIntS_is (xs : List Int) (hx : xs.length ≤ 1048576) (k : Nat) (hk : xs.length < k) : laws_eqIntS.f k xs xs = some true := by
 simp only [laws_eqIntS.f, ↓reduceIte]
 exact eqIntS_l0 xs hx xs.length 0 k hk (by omega)
theorem eqIntSS_l0 (xs : List (List Int)) (hx : xs.length ≤ 1048576) (hr : ∀ r ∈ xs, r.length ≤ 1048576) : ∀ (m j k : Nat), m + 1048578 < k → j + m = xs.length → laws_eqIntSS.l0 k xs xs j = some true := by
 intro m
 induction m with
 | zero =>
  intro j k hk hj
  obtain ⟨k, rfl⟩ : ∃ m, k = m + 1 := ⟨k - 1, by omega⟩
  simp only [laws_eqIntSS.l0]
  rw [if_neg (by omega)]
 | succ m ih =>
  intro j k hk hj
  obtain ⟨k, rfl⟩ : ∃ m, k = m + 1 := ⟨k - 1, by omega⟩
  have hlt : j < xs.length := by omega
  have hrr := hr _ (List.getElem_mem hlt)
  simp only [laws_eqIntSS.l0]
  rw [if_pos (by omega), if_pos (by omega), if_pos (by omega), rd1_get hlt, eqIntS_is _ hrr k (by omega)]
  simp only [Option.bind_some, ↓reduceIte]
  rw [w64 (x := (j : Int) + 1) (by omega) (by omega), show (j : Int) + 1 = ((j + 1 : Nat) : Int) from by omega]
  exact ih (j + 1) k (by omega) (by omega)
theorem eqIntSS_is (xs : List (List Int)) (hx : xs.length ≤ 1048576) (hr : ∀ r ∈ xs, r.length ≤ 1048576) (k : Nat) (hk : 3000000 ≤ k) : laws_eqIntSS.f k xs xs = some true := by
 simp only [laws_eqIntSS.f, ↓reduceIte]
 exact eqIntSS_l0 xs hx hr xs.length 0 k (by omega) (by omega)
theorem eqStates_is (o : Int) (xs : List (List Int)) (hx : xs.length ≤ 1048576) (hr : ∀ r ∈ xs, r.length ≤ 1048576) (k : Nat) (hk : 3000000 ≤ k) : laws_eqStates.f k o xs o xs = some true := by
 simp only [laws_eqStates.f, ↓reduceIte, eqIntSS_is xs hx hr k hk, Option.bind_some]
theorem toEnd_same (o : Int) (rows : List (List Int)) (a b : Int) (h1 : rows.length ≤ 1048576) (h2 : ∀ r ∈ rows, r.length ≤ 1048576) :
 ∃ t : Int × Int × Bool, ∃ K, ∀ k, K ≤ k → spec_ChanceToEnd.f k o rows a b = some t ∧ impl_ChanceToEnd.f k o rows a b = some t := by
 obtain ⟨t1, ht1, K2, E2⟩ := saAsked_ev o rows a b h1 h2
 obtain ⟨t2, ht2, K3, E3⟩ := asked2_ev o rows a b h1 h2
 have ht : t1 = t2 := by rw [Bool.eq_iff_iff, ht1, ht2]
 subst ht
 cases t1 with
 | false =>
  refine ⟨(0, 0, false), K2 + K3 + 1, fun k hk => ⟨?_, ?_⟩⟩
  · unfold spec_ChanceToEnd.f
    rw [E2 k (by omega), Option.bind_some, if_neg (by decide)]
  · obtain ⟨k, rfl⟩ : ∃ q, k = q + 1 := ⟨k - 1, by omega⟩
    unfold impl_ChanceToEnd.f
    rw [E3 _ (by omega), Option.bind_some, if_neg (by decide), impl_ChanceToEnd.j0, if_pos rfl]
 | true =>
  obtain ⟨hg, ga, gb⟩ := ht1.1 rfl
  obtain ⟨f, rfl⟩ := Int.eq_ofNat_of_zero_le ga.1
  obtain ⟨g, rfl⟩ := Int.eq_ofNat_of_zero_le gb.1
  obtain ⟨z, _, hc⟩ := vis_char hg (g := g) (by omega)
  obtain ⟨q, ⟨K4, E4⟩, _⟩ := hc f (by omega)
  have hrl := (good_row hg (x := g) (by omega)).1
  have erl : rd_L1 rows (g : Int) = rows.getD g [] := by unfold rd_L1; rw [Int.toNat_natCast]
  by_cases he : sx rows g g = o
  · refine ⟨(q.num, (q.den : Int), true), K2 + K3 + K4 + 1, fun k hk => ⟨?_, ?_⟩⟩
    · unfold spec_ChanceToEnd.f spec_saEnd.f
      rw [E2 k (by omega), Option.bind_some, if_pos rfl, if_pos (by omega), if_pos (by omega), erl, if_pos (by omega), ← erl, sx_rd, Option.bind_some, if_pos (beq_iff_eq.2 he), (E4 k (by omega)).1, Option.bind_some]
    · obtain ⟨k, rfl⟩ : ∃ q, k = q + 1 := ⟨k - 1, by omega⟩
      unfold impl_ChanceToEnd.f
      rw [E3 _ (by omega), Option.bind_some, if_pos rfl, if_pos (by omega), if_pos (by omega), erl, if_pos (by omega), ← erl, sx_rd, bne_eq_false_iff_eq.2 he, impl_ChanceToEnd.j0, if_neg (by decide), (E4 k (by omega)).2, Option.bind_some]
      rfl
  · refine ⟨(0, 0, false), K2 + K3 + K4 + 1, fun k hk => ⟨?_, ?_⟩⟩
    · unfold spec_ChanceToEnd.f spec_saEnd.f
      rw [E2 k (by omega), Option.bind_some, if_pos rfl, if_pos (by omega), if_pos (by omega), erl, if_pos (by omega), ← erl, sx_rd, Option.bind_some, if_neg (fun h => he (beq_iff_eq.1 h))]
    · obtain ⟨k, rfl⟩ : ∃ q, k = q + 1 := ⟨k - 1, by omega⟩
      unfold impl_ChanceToEnd.f
      rw [E3 _ (by omega), Option.bind_some, if_pos rfl, if_pos (by omega), if_pos (by omega), erl, if_pos (by omega), ← erl, sx_rd, bne_iff_ne.2 he, impl_ChanceToEnd.j0, if_pos rfl]
theorem FnExactChanceToEnd (o : Int) (rows : List (List Int)) (a b : Int) (wo : (Lit.int .i64 o).wf = true) (wr : ∀ r ∈ rows, ∀ x ∈ r, (Lit.int .i64 x).wf = true) (hl : rows.length ≤ maxLen) (hr : ∀ r ∈ rows, r.length ≤ maxLen) (wa : (Lit.int .i64 a).wf = true) (wb : (Lit.int .i64 b).wf = true) : ∃ k, laws_FnExactChanceToEnd.f k o rows a b = some true := by
 obtain ⟨r, ⟨K1, E1⟩, h⟩ := szStates_ev o rows (by unfold maxLen at hl; omega) (fun r h => by have := hr r h; unfold maxLen at this; omega)
 by_cases h0 : r < 0
 · refine ⟨K1, ?_⟩
   simp only [laws_FnExactChanceToEnd.f, E1 K1 (by omega), Option.bind_some]
   rw [if_pos h0]
 · obtain ⟨h1, h2⟩ := h (by omega)
   obtain ⟨⟨t, u, v⟩, K6, q⟩ := toEnd_same o rows a b h1 h2
   obtain ⟨k, hk1, hk2, hk3⟩ : ∃ k, K1 ≤ k ∧ K6 ≤ k ∧ 3000100 ≤ k := ⟨K1 + K6 + 3000100, by omega, by omega, by omega⟩
   obtain ⟨q1, q2⟩ := q (k + 1) (by omega)
   refine ⟨k + 1, ?_⟩
   simp only [laws_FnExactChanceToEnd.f, E1 (k + 1) (by omega), toStates_is o rows h1 h2 (k + 1) (by omega), q1, q2, Option.bind_some]
   rw [if_neg h0]
   simp only [laws_FnExactChanceToEnd.j0, toStates_is o rows h1 h2 k (by omega), eqStates_is o rows h1 h2 k (by omega), Option.bind_some]
   simp
end Go.Proofs.Ytlpegpmcnimfbaa.Pure
