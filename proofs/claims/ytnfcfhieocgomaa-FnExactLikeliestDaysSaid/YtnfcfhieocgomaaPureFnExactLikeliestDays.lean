/- For all arguments the program and the reference return the same from LikeliestDays: the plain statement over numbers and lists, and its proof. -/
import Derived.Test.YtnfcfhieocgomaaPFnExactLikeliestDaysx1
import Derived.Test.YtnfcfhieocgomaaPFnExactLikeliestDaysx2
import Derived.Test.YtnfcfhieocgomaaPFnExactLikeliestDaysx3
import Derived.Test.YtnfcfhieocgomaaPFnExactLikeliestDaysx4
namespace Go.Proofs.Ytnfcfhieocgomaa.Pure
open Go.RowKit Go.Proofs.Ytnfcfhieocgomaa.PFnExactLikeliestDays Go.Proofs.YtnfcfhieocgomaaW.PrintWords Go.Proofs.YtnfcfhieocgomaaW.PrintLast Go.Proofs.YtnfcfhieocgomaaW.PrintMore
set_option linter.unusedVariables false
set_option linter.unusedSimpArgs false
set_option maxRecDepth 100000
theorem w64 {x : Int} (h0 : -9223372036854775808 ≤ x) (h1 : x ≤ 9223372036854775807) : wrap64 x = x := by
  unfold wrap64
  omega

theorem mul_fits {x y A B : Int} (hx : x.natAbs ≤ A.natAbs) (hy : y.natAbs ≤ B.natAbs) : (x * y).natAbs ≤ (A * B).natAbs := by
  rw [Int.natAbs_mul, Int.natAbs_mul]
  exact Nat.mul_le_mul hx hy

/-- A product of numbers of at most nine digits. -/
theorem mul9 {x y : Int} (hx : x.natAbs ≤ 1000000000) (hy : y.natAbs ≤ 1000000000) : (x * y).natAbs ≤ 1000000000000000000 := by
  rw [Int.natAbs_mul]
  exact Nat.le_trans (Nat.mul_le_mul hx hy) (by decide)

theorem wf_range {a : Int} (h : (Lit.int .i64 a).wf = true) : -9223372036854775808 ≤ a ∧ a ≤ 9223372036854775807 := by
  simp [Lit.wf, IntKind.min, IntKind.max, IntKind.signed, IntKind.bits] at h
  omega

/-- Is a chain: as both tell it. -/
theorem cnGood_is (w d o : Int) : spec_cnGood.f w d o = some (decide (1 ≤ o ∧ o ≤ 10 ∧ 0 ≤ w ∧ w ≤ o ∧ 0 ≤ d ∧ d ≤ o)) := by
  unfold spec_cnGood.f spec_l1In.f
  by_cases h1 : 1 ≤ o ∧ o ≤ 10 ∧ 0 ≤ w ∧ w ≤ o ∧ 0 ≤ d ∧ d ≤ o
  · rw [decide_eq_true h1]
    obtain ⟨h1, h2, h3, h4, h5, h6⟩ := h1
    simp [*]
  · rw [decide_eq_false h1]
    grind

theorem isChain_is (w d o : Int) : impl_IsChain.f w d o = some (decide (1 ≤ o ∧ o ≤ 10 ∧ 0 ≤ w ∧ w ≤ o ∧ 0 ≤ d ∧ d ≤ o)) := by
  unfold impl_IsChain.f impl_within.f
  by_cases h1 : 1 ≤ o ∧ o ≤ 10 ∧ 0 ≤ w ∧ w ≤ o ∧ 0 ≤ d ∧ d ≤ o
  · rw [decide_eq_true h1]
    obtain ⟨h1, h2, h3, h4, h5, h6⟩ := h1
    simp [*]
  · rw [decide_eq_false h1]
    grind

/-- Is a text one day? -/
def isD (s : ByteArray) : Bool := if s.toList = [100] then true else s.toList == [119]

theorem isDay_is (s : ByteArray) : impl_isDay.f s = some (isD s) := by
  unfold impl_isDay.f isD
  by_cases h : s.toList = [100]
  · rw [if_pos h, if_pos h]
  · rw [if_neg h, if_neg h]

theorem day_cases {s : ByteArray} (h : isD s = true) : s = ⟨#[100]⟩ ∨ s = ⟨#[119]⟩ := by
  unfold isD at h
  rw [ByteArray.toList_eq] at h
  by_cases h1 : s.data.toList = [100]
  · left
    apply ByteArray.ext
    apply Array.toList_inj.1
    exact h1
  · right
    rw [if_neg h1, beq_iff_eq] at h
    apply ByteArray.ext
    apply Array.toList_inj.1
    exact h

theorem sizeD : ((⟨#[100]⟩ : ByteArray).size : Int) = 1 := rfl
theorem sizeW : ((⟨#[119]⟩ : ByteArray).size : Int) = 1 := rfl
theorem btD : bt (⟨#[100]⟩ : ByteArray) 0 = 100 := rfl
theorem btW : bt (⟨#[119]⟩ : ByteArray) 0 = 119 := rfl
theorem listD : (⟨#[100]⟩ : ByteArray).toList = [100] := by rw [ByteArray.toList_eq]
theorem listW : (⟨#[119]⟩ : ByteArray).toList = [119] := by rw [ByteArray.toList_eq]

theorem cnDay_is (w d o : Int) (s : ByteArray) : spec_cnDay.f w d o s = some (decide (1 ≤ o ∧ o ≤ 10 ∧ 0 ≤ w ∧ w ≤ o ∧ 0 ≤ d ∧ d ≤ o) && isD s) := by
  unfold spec_cnDay.f
  rw [cnGood_is]
  by_cases c : 1 ≤ o ∧ o ≤ 10 ∧ 0 ≤ w ∧ w ≤ o ∧ 0 ≤ d ∧ d ≤ o
  · rw [decide_eq_true c]
    simp only [Option.bind_some, ↓reduceIte, Bool.true_and]
    unfold isD
    by_cases h : s.toList = [100]
    · rw [if_pos h, if_pos h]
    · rw [if_neg h, if_neg h]
  · rw [decide_eq_false c]
    simp

/-- (a, b) is n / d in lowest terms. -/
structure Low (a b n d : Int) : Prop where
  pos : 0 < b
  ne : d ≠ 0
  eq : a * d = n * b
  cop : Int.gcd a b = 1

theorem dvd_of_cop {a b d : Int} (hc : Int.gcd a b = 1) (h : b ∣ a * d) : b ∣ d := by
  rw [← Int.natAbs_dvd_natAbs] at h ⊢
  rw [Int.natAbs_mul] at h
  exact Nat.Coprime.dvd_of_dvd_mul_left (k := b.natAbs) (m := a.natAbs) (n := d.natAbs) (by
    rw [Nat.Coprime, Nat.gcd_comm]; exact hc) (by exact h)

theorem Low.fac {a b n d : Int} (h : Low a b n d) : ∃ g, g ≠ 0 ∧ n = a * g ∧ d = b * g := by
  have hb : b ∣ d := dvd_of_cop h.cop ⟨n, by rw [h.eq, Int.mul_comm]⟩
  obtain ⟨g, rfl⟩ := hb
  have hp := h.pos
  refine ⟨g, fun e => h.ne (by rw [e, Int.mul_zero]), ?_, rfl⟩
  have he := h.eq
  have : b * n = b * (a * g) := by rw [Int.mul_comm b n, ← he, Int.mul_left_comm]
  exact Int.eq_of_mul_eq_mul_left (by omega) this

theorem natAbs_le_of_mul {a g : Int} (hg : g ≠ 0) : a.natAbs ≤ (a * g).natAbs := by
  rw [Int.natAbs_mul]
  exact Nat.le_mul_of_pos_right _ (by omega)

theorem Low.num_le {a b n d : Int} (h : Low a b n d) : a.natAbs ≤ n.natAbs := by
  obtain ⟨g, hg, rfl, _⟩ := h.fac
  exact natAbs_le_of_mul hg

theorem Low.den_le {a b n d : Int} (h : Low a b n d) : b.natAbs ≤ d.natAbs := by
  obtain ⟨g, hg, _, rfl⟩ := h.fac
  exact natAbs_le_of_mul hg

theorem Low.unique {a b a' b' n d n' d' : Int} (h : Low a b n d) (h' : Low a' b' n' d') (e : n * d' = n' * d) : a = a' ∧ b = b' := by
  have hp := h.pos
  have hp' := h'.pos
  have hx : a * b' = a' * b := by
    have hd := h.ne
    have hd' := h'.ne
    have h1 := h.eq
    have h2 := h'.eq
    have : (d * d') * (a * b') = (d * d') * (a' * b) := by grind
    exact Int.eq_of_mul_eq_mul_left (Int.mul_ne_zero hd hd') this
  have h1 : b ∣ b' := dvd_of_cop h.cop ⟨a', by rw [hx, Int.mul_comm]⟩
  have h2 : b' ∣ b := dvd_of_cop h'.cop ⟨a, by rw [← hx, Int.mul_comm]⟩
  have hb : b = b' := Int.le_antisymm (Int.le_of_dvd hp' h1) (Int.le_of_dvd hp h2)
  subst hb
  exact ⟨Int.eq_of_mul_eq_mul_right (by omega) hx, rfl⟩

/-- Change of the told fraction. -/
theorem Low.turn {a b n d n' d' : Int} (h : Low a b n d) (hd : d' ≠ 0) (e : n * d' = n' * d) : Low a b n' d' := by
  refine ⟨h.pos, hd, ?_, h.cop⟩
  have h1 := h.eq
  have h0 := h.ne
  have : d * (a * d') = d * (n' * b) := by grind
  exact Int.eq_of_mul_eq_mul_left h0 this

/-- What a division by the greatest common divisor, with the denominator's sign, gives. -/
theorem low_div {n d g : Int} (hd : d ≠ 0) (hg : g.natAbs = Int.gcd n d) (hs : 0 < d * g) : Low (n.tdiv g) (d.tdiv g) n d := by
  have hg0 : g ≠ 0 := by rintro rfl; omega
  obtain ⟨x, rfl⟩ : g ∣ n := by rw [← Int.natAbs_dvd_natAbs, hg]; exact Nat.gcd_dvd_left _ _
  obtain ⟨y, rfl⟩ : g ∣ d := by rw [← Int.natAbs_dvd_natAbs, hg]; exact Nat.gcd_dvd_right _ _
  rw [Int.mul_tdiv_cancel_left _ hg0, Int.mul_tdiv_cancel_left _ hg0]
  refine ⟨?_, hd, by grind, ?_⟩
  · have h1 : 0 < y * (g * g) := by rw [show y * (g * g) = g * y * g from by grind]; exact hs
    have h2 : 0 < g * g := by
      rcases Int.lt_trichotomy g 0 with h | h | h
      · exact Int.mul_pos_of_neg_of_neg h h
      · exact absurd h hg0
      · exact Int.mul_pos h h
    rcases Int.lt_or_le 0 y with h | h
    · exact h
    · have := Int.mul_nonpos_of_nonpos_of_nonneg h (Int.le_of_lt h2)
      omega
  · rw [Int.gcd_mul_left] at hg
    have : g.natAbs ≠ 0 := by omega
    exact Nat.eq_of_mul_eq_mul_left (Nat.pos_of_ne_zero this) (by omega)

theorem Low.zero {a b d : Int} (h : Low a b 0 d) : a = 0 ∧ b = 1 := by
  have := h.num_le
  have ha : a = 0 := by omega
  subst ha
  have := h.cop
  have hp := h.pos
  simp at this
  omega

theorem Ev.some {α : Type} {g : Nat → Option α} {r : α} (h : ∀ k, g k = Option.some r) : Ev g r := ⟨0, fun k _ => h k⟩

theorem tmod_nn {a b : Int} (ha : 0 ≤ a) (hb : 0 < b) : 0 ≤ Int.tmod a b ∧ Int.tmod a b < b ∧ Int.tmod a b = a % b := by
  rw [Int.tmod_eq_emod_of_nonneg ha]
  exact ⟨Int.emod_nonneg _ (by omega), Int.emod_lt_of_pos _ hb, rfl⟩

theorem gcd_step {a b : Int} (ha : 0 ≤ a) (hb : 0 < b) : Int.gcd b (Int.tmod a b) = Int.gcd a b := by
  rw [(tmod_nn ha hb).2.2, Int.gcd_comm a b]
  have h : a = a % b + b * (a / b) := by rw [Int.emod_add_mul_ediv]
  conv => rhs; rw [h]
  rw [Int.gcd_add_mul_left_right]

theorem common_l0 : ∀ (k : Nat) (a b : Int), 0 ≤ a → 0 ≤ b → b < k → impl_common.l0 k a b = some ((Int.gcd a b : Nat) : Int) := by
  intro k
  induction k with
  | zero => intro a b ha hb hk; omega
  | succ k ih =>
    intro a b ha hb hk
    simp only [impl_common.l0]
    by_cases h : b = 0
    · subst h
      rw [if_pos rfl, Int.gcd_zero_right]
      congr 1
      omega
    · rw [if_neg h]
      have hb' : 0 < b := by omega
      have h3 := tmod_nn ha hb'
      rw [ih b (Int.tmod a b) hb h3.1 (by omega), gcd_step ha hb']

theorem mx_abs {a : Int} (h0 : -9223372036854775808 < a) (h1 : a ≤ 9223372036854775807) : mx a (wrap64 (-a)) = (a.natAbs : Int) := by
  rw [w64 (by omega) (by omega)]
  unfold mx
  split <;> omega

theorem common_ev {a b : Int} (ha : a.natAbs ≤ 9223372036854775807) (hb : b.natAbs ≤ 9223372036854775807) :
    Ev (fun k => impl_common.f k a b) ((Int.gcd a b : Nat) : Int) := by
  refine ⟨b.natAbs + 1, fun k hk => ?_⟩
  show impl_common.f k a b = _
  unfold impl_common.f
  rw [mx_abs (by omega) (by omega), mx_abs (by omega) (by omega), common_l0 k _ _ (by omega) (by omega) (by omega)]
  simp [Int.gcd]

/-- What lowest returns. -/
theorem lowest_ev {n d : Int} (hn : n.natAbs ≤ 9223372036854775807) (hd : d.natAbs ≤ 9223372036854775807) (h0 : d ≠ 0) :
    ∃ a b, Low a b n d ∧ ∃ K, ∀ k, K ≤ k → impl_lowest.f k n d = some (a, b) := by
  have hg : Int.gcd n d ≠ 0 := by
    intro h
    exact h0 (Int.gcd_eq_zero_iff.1 h).2
  have hle : Int.gcd n d ≤ d.natAbs := Nat.le_of_dvd (by omega) (Nat.gcd_dvd_right _ _)
  rcases Int.lt_or_gt_of_ne h0 with h | h
  · have L := low_div (n := n) (d := d) (g := -((Int.gcd n d : Nat) : Int)) h0 (by omega) (Int.mul_pos_of_neg_of_neg h (by omega))
    have hx := L.num_le
    have hy := L.den_le
    refine ⟨_, _, L, ?_⟩
    show Ev (fun k => impl_lowest.f k n d) _
    refine Ev.congr (fun k => by unfold impl_lowest.f; rfl) (Ev.bind (common_ev hn hd) (Ev.some fun k => ?_))
    rw [if_pos h, w64 (x := -((Int.gcd n d : Nat) : Int)) (by omega) (by omega), if_neg (by omega), w64 (by omega) (by omega), w64 (by omega) (by omega)]
  · have L := low_div (n := n) (d := d) (g := ((Int.gcd n d : Nat) : Int)) h0 (by omega) (Int.mul_pos h (by omega))
    have hx := L.num_le
    have hy := L.den_le
    refine ⟨_, _, L, ?_⟩
    show Ev (fun k => impl_lowest.f k n d) _
    refine Ev.congr (fun k => by unfold impl_lowest.f; rfl) (Ev.bind (common_ev hn hd) (Ev.some fun k => ?_))
    rw [if_neg (by omega), if_neg (by omega), w64 (by omega) (by omega), w64 (by omega) (by omega)]

/-- The chance that a day (100: dry) follows another, in parts of o. -/
def nextX (w d o a b : Int) : Int := if a = 100 then (if b = 100 then o - w else w) else (if b = 100 then d else o - d)

theorem next_ev {w d o a b : Int} (c : 1 ≤ o ∧ o ≤ 10 ∧ 0 ≤ w ∧ w ≤ o ∧ 0 ≤ d ∧ d ≤ o) (ha : a = 100 ∨ a = 119) (hb : b = 100 ∨ b = 119) :
    0 ≤ nextX w d o a b ∧ nextX w d o a b ≤ o ∧ ∃ p q, Low p q (nextX w d o a b) o ∧ ∃ K, ∀ k, K ≤ k → impl_Chain_next.f k w d o a b = some (p, q) := by
  have hf : 0 ≤ nextX w d o a b ∧ nextX w d o a b ≤ o := by
    unfold nextX
    rcases ha with rfl | rfl <;> rcases hb with rfl | rfl <;> simp <;> omega
  refine ⟨hf.1, hf.2, ?_⟩
  obtain ⟨p, q, L, K, E⟩ := lowest_ev (n := nextX w d o a b) (d := o) (by omega) (by omega) (by omega)
  refine ⟨p, q, L, K, fun k hk => ?_⟩
  replace E := E k hk
  rcases ha with rfl | rfl <;> rcases hb with rfl | rfl
  · rw [show nextX w d o 100 100 = o - w from rfl] at E
    simp (disch := omega) only [impl_Chain_next.f, impl_Chain_leave.f, ↓reduceIte, Option.bind_some, w64, E]
  · rw [show nextX w d o 100 119 = w from rfl] at E
    simp (disch := omega) only [impl_Chain_next.f, impl_Chain_leave.f, ↓reduceIte, if_neg, Option.bind_some, w64, E]
  · rw [show nextX w d o 119 100 = d from rfl] at E
    simp (disch := omega) only [impl_Chain_next.f, impl_Chain_leave.f, ↓reduceIte, if_neg, Option.bind_some, w64, E]
  · rw [show nextX w d o 119 119 = o - d from rfl] at E
    simp (disch := omega) only [impl_Chain_next.f, impl_Chain_leave.f, ↓reduceIte, if_neg, Option.bind_some, w64, E]

theorem cnNext_is {w d o a b : Int} (c : 1 ≤ o ∧ o ≤ 10 ∧ 0 ≤ w ∧ w ≤ o ∧ 0 ≤ d ∧ d ≤ o) (ha : a = 100 ∨ a = 119) (hb : b = 100 ∨ b = 119) (k : Nat) :
    spec_cnNext.f (k + 1) w d o a b = some (nextX w d o a b) := by
  rcases ha with rfl | rfl <;> rcases hb with rfl | rfl <;> simp (disch := omega) [spec_cnNext.f, spec_cnNext.j0, nextX, w64]

theorem cnNext_ev {w d o a b : Int} (c : 1 ≤ o ∧ o ≤ 10 ∧ 0 ≤ w ∧ w ≤ o ∧ 0 ≤ d ∧ d ≤ o) (ha : a = 100 ∨ a = 119) (hb : b = 100 ∨ b = 119) {k : Nat} (hk : 1 ≤ k) :
    spec_cnNext.f k w d o a b = some (nextX w d o a b) := by
  obtain ⟨k, rfl⟩ : ∃ m, k = m + 1 := ⟨k - 1, by omega⟩
  exact cnNext_is c ha hb k

/-- What times returns. -/
theorem times_ev {a b n d a' b' n' d' : Int} (L : Low a b n d) (L' : Low a' b' n' d')
    (hn : n.natAbs ≤ 1000000000) (hd : d.natAbs ≤ 1000000000) (hn' : n'.natAbs ≤ 1000000000) (hd' : d'.natAbs ≤ 1000000000) :
    ∃ p q, Low p q (n * n') (d * d') ∧ ∃ K, ∀ k, K ≤ k → impl_frac_times.f k a b a' b' = some (p, q) := by
  have h1 := L.num_le
  have h2 := L.den_le
  have h3 := L'.num_le
  have h4 := L'.den_le
  have m1 := mul9 (x := a) (y := a') (by omega) (by omega)
  have m2 := mul9 (x := b) (y := b') (by omega) (by omega)
  have hb := Int.mul_pos L.pos L'.pos
  obtain ⟨p, q, M, E⟩ := lowest_ev (n := a * a') (d := b * b') (by omega) (by omega) (by omega)
  refine ⟨p, q, M.turn (Int.mul_ne_zero L.ne L'.ne) ?_, ?_⟩
  · have e1 := L.eq
    have e2 := L'.eq
    grind
  · show Ev (fun k => impl_frac_times.f k a b a' b') (p, q)
    refine Ev.congr (fun k => by unfold impl_frac_times.f; rw [w64 (by omega) (by omega), w64 (by omega) (by omega)]) (Ev.bind E (Ev.some fun k => rfl))

theorem low_one (n : Int) : Low n 1 n 1 := ⟨by decide, by decide, rfl, by simp⟩

/-- In parts of o ^ n: the chance that n days behind a dry (a wet) day a dry one (g: a wet one) is there. -/
def laterX (w d o : Int) (g : Bool) : Nat → Int × Int
  | 0 => if g then (0, 1) else (1, 0)
  | n + 1 => ((o - w) * (laterX w d o g n).1 + w * (laterX w d o g n).2, d * (laterX w d o g n).1 + (o - d) * (laterX w d o g n).2)

theorem laterX_fit {w d o : Int} (w0 : 0 ≤ w) (w1 : w ≤ o) (d0 : 0 ≤ d) (d1 : d ≤ o) (g : Bool) : ∀ n, 0 ≤ (laterX w d o g n).1 ∧ (laterX w d o g n).1 ≤ o ^ n ∧ 0 ≤ (laterX w d o g n).2 ∧ (laterX w d o g n).2 ≤ o ^ n
  | 0 => by cases g <;> simp [laterX]
  | n + 1 => by
    obtain ⟨h1, h2, h3, h4⟩ := laterX_fit w0 w1 d0 d1 g n
    simp only [laterX]
    have a1 := Int.mul_nonneg (a := o - w) (by omega) h1
    have a2 := Int.mul_nonneg (a := w) (by omega) h3
    have a3 := Int.mul_nonneg (a := d) (by omega) h1
    have a4 := Int.mul_nonneg (a := o - d) (by omega) h3
    have b1 := Int.mul_le_mul_of_nonneg_left h2 (show 0 ≤ o - w by omega)
    have b2 := Int.mul_le_mul_of_nonneg_left h4 w0
    have b3 := Int.mul_le_mul_of_nonneg_left h2 d0
    have b4 := Int.mul_le_mul_of_nonneg_left h4 (show 0 ≤ o - d by omega)
    have e1 : (o - w) * o ^ n + w * o ^ n = o ^ (n + 1) := by rw [Int.pow_succ]; grind
    have e2 : d * o ^ n + (o - d) * o ^ n = o ^ (n + 1) := by rw [Int.pow_succ]; grind
    refine ⟨by omega, by omega, by omega, by omega⟩

theorem pow10 {o : Int} (h0 : 1 ≤ o) (h1 : o ≤ 10) {n : Nat} (hn : n ≤ 8) : 1 ≤ o ^ n ∧ o ^ n ≤ 100000000 := by
  have := (by decide +kernel : ∀ i : Fin 10, ∀ j : Fin 9, (1 : Int) ≤ ((i.val : Int) + 1) ^ j.val ∧ ((i.val : Int) + 1) ^ j.val ≤ 100000000) ⟨(o - 1).toNat, by omega⟩ ⟨n, by omega⟩
  rw [show (((o - 1).toNat : Nat) : Int) + 1 = o from by omega] at this
  exact this

theorem in_true {n a b : Int} (h : a ≤ n ∧ n ≤ b) : (if n ≥ a then some (decide (n ≤ b)) else some false) = some true := by
  rw [if_pos h.1, decide_eq_true h.2]
theorem in_false {n a b : Int} (h : ¬ (a ≤ n ∧ n ≤ b)) : (if n ≥ a then some (decide (n ≤ b)) else some false) = some false := by
  by_cases h1 : n ≥ a
  · rw [if_pos h1, decide_eq_false (by omega)]
  · rw [if_neg h1]

/-- Each text with one sign more. -/
def dbl (a b : ByteArray) (l : List ByteArray) : List ByteArray := l.flatMap fun s => [s ++ a, s ++ b]
/-- All texts of n signs, in order. -/
def txt (a b : ByteArray) : Nat → List ByteArray
  | 0 => [⟨#[]⟩]
  | n + 1 => dbl a b (txt a b n)

theorem dbl_length (a b : ByteArray) (l : List ByteArray) : (dbl a b l).length = 2 * l.length := by
  induction l with
  | nil => rfl
  | cons x l ih => simp [dbl] at *; omega

theorem txt_length (a b : ByteArray) : ∀ n, (txt a b n).length = 2 ^ n
  | 0 => rfl
  | n + 1 => by rw [txt, dbl_length, txt_length a b n, Nat.pow_succ, Nat.mul_comm]

theorem txt_mem {a b : ByteArray} {P : Nat → ByteArray → Prop} (h0 : P 0 ⟨#[]⟩) (ha : ∀ n s, P n s → P (n + 1) (s ++ a)) (hb : ∀ n s, P n s → P (n + 1) (s ++ b)) : ∀ n, ∀ s ∈ txt a b n, P n s
  | 0, s, h => by
    simp [txt] at h
    subst h
    exact h0
  | n + 1, s, h => by
    simp only [txt, dbl, List.mem_flatMap] at h
    obtain ⟨t, ht, hs⟩ := h
    have := txt_mem h0 ha hb n t ht
    simp at hs
    rcases hs with rfl | rfl
    · exact ha _ _ this
    · exact hb _ _ this

theorem txt_size {a b : ByteArray} (ha : a.size = 1) (hb : b.size = 1) (n : Nat) : ∀ s ∈ txt a b n, s.size = n :=
  txt_mem (P := fun n s => s.size = n) rfl (fun n s h => by rw [ByteArray.size_append]; omega) (fun n s h => by rw [ByteArray.size_append]; omega) n

theorem rdOf_get {xs : List ByteArray} {j : Nat} (h : j < xs.length) : rdOf ByteArray.empty xs (j : Int) = xs[j] := by
  unfold rdOf
  rw [Int.toNat_natCast, List.getD_eq_getElem?_getD, List.getElem?_eq_getElem h]
  rfl

theorem dbl_drop {a b : ByteArray} {xs : List ByteArray} {j : Nat} (h : j < xs.length) : dbl a b (xs.drop j) = [xs[j] ++ a, xs[j] ++ b] ++ dbl a b (xs.drop (j + 1)) := by
  rw [List.drop_eq_getElem_cons h]
  rfl

theorem texts_l1 {a b : ByteArray} (ha : a.size = 1) (hb : b.size = 1) {x y : Int} (xs : List ByteArray) (hx : xs.length ≤ 10000) (hz : ∀ s ∈ xs, s.size ≤ 1000) : ∀ (m j k : Nat) (acc : List ByteArray), m < k → j + m = xs.length → acc.length ≤ 2 * j →
    impl_texts.l1 k a b acc x y xs (xs.length : Int) j = impl_texts.l0 (k - m - 1) a b (acc ++ dbl a b (xs.drop j)) x (wrap64 (y + 1)) := by
  intro m
  induction m with
  | zero =>
    intro j k acc hk hj hc
    obtain ⟨k, rfl⟩ : ∃ m, k = m + 1 := ⟨k - 1, by omega⟩
    simp only [impl_texts.l1]
    rw [if_neg (by omega), List.drop_of_length_le (by omega)]
    simp [dbl]
  | succ m ih =>
    intro j k acc hk hj hc
    obtain ⟨k, rfl⟩ : ∃ m, k = m + 1 := ⟨k - 1, by omega⟩
    have hlt : j < xs.length := by omega
    have hs := hz _ (List.getElem_mem hlt)
    simp only [impl_texts.l1]
    rw [rdOf_get hlt, if_pos (by omega), if_pos (by omega), if_pos (by omega), if_pos (by omega), if_pos (by omega)]
    simp only [Option.bind_some, List.length_cons, List.length_nil]
    rw [if_pos (by omega), w64 (x := (j : Int) + 1) (by omega) (by omega), show (j : Int) + 1 = ((j + 1 : Nat) : Int) from by omega, ih (j + 1) k _ (by omega) (by omega) (by simp; omega)]
    rw [show k + 1 - (m + 1) - 1 = k - m - 1 from by omega, dbl_drop hlt, ← List.append_assoc]

theorem texts_l0 {a b : ByteArray} (ha : a.size = 1) (hb : b.size = 1) (n : Nat) (hn : n ≤ 8) : ∀ (m j : Nat), j + m = n →
    ∃ K, ∀ k, K ≤ k → impl_texts.l0 k a b (txt a b j) n j = some (txt a b n) := by
  intro m
  induction m with
  | zero =>
    intro j hj
    refine ⟨1, fun k hk => ?_⟩
    obtain ⟨k, rfl⟩ : ∃ m, k = m + 1 := ⟨k - 1, by omega⟩
    simp only [impl_texts.l0]
    rw [if_neg (by omega), show j = n from by omega]
  | succ m ih =>
    intro j hj
    obtain ⟨K, E⟩ := ih (j + 1) (by omega)
    have hp : 2 ^ j ≤ 256 := Nat.pow_le_pow_right (n := 2) (by decide) (show j ≤ 8 by omega)
    have hl := txt_length a b j
    refine ⟨K + (txt a b j).length + 2, fun k hk => ?_⟩
    obtain ⟨k, rfl⟩ : ∃ m, k = m + 1 := ⟨k - 1, by omega⟩
    simp only [impl_texts.l0]
    have h := texts_l1 ha hb (x := n) (y := j) (txt a b j) (by omega) (fun s hs => by have := txt_size ha hb j s hs; omega) (txt a b j).length 0 k [] (by omega) (by omega) (by simp)
    rw [List.drop_zero, List.nil_append, w64 (x := (j : Int) + 1) (by omega) (by omega), show (j : Int) + 1 = ((j + 1 : Nat) : Int) from by omega] at h
    rw [if_pos (by omega)]
    exact h.trans (E _ (by omega))

theorem texts_ev {a b : ByteArray} (ha : a.size = 1) (hb : b.size = 1) (n : Nat) (hn : n ≤ 8) : ∃ K, ∀ k, K ≤ k → impl_texts.f k a b n = some (txt a b n) :=
  texts_l0 ha hb n hn n 0 (by omega)

theorem cnAll_l1 {x : Int} (xs : List ByteArray) (hx : xs.length ≤ 10000) (hz : ∀ s ∈ xs, s.size ≤ 1000) : ∀ (m j k : Nat) (acc : List ByteArray), m < k → j + m = xs.length → acc.length ≤ 2 * j →
    spec_cnAll.l1 k x acc xs (xs.length : Int) j = spec_cnAll.l0 (k - m - 1) (wrap64 (x - 1)) (acc ++ dbl ⟨#[100]⟩ ⟨#[119]⟩ (xs.drop j)) := by
  intro m
  induction m with
  | zero =>
    intro j k acc hk hj hc
    obtain ⟨k, rfl⟩ : ∃ m, k = m + 1 := ⟨k - 1, by omega⟩
    simp only [spec_cnAll.l1]
    rw [if_neg (by omega), List.drop_of_length_le (by omega)]
    simp [dbl]
  | succ m ih =>
    intro j k acc hk hj hc
    obtain ⟨k, rfl⟩ : ∃ m, k = m + 1 := ⟨k - 1, by omega⟩
    have hlt : j < xs.length := by omega
    have hs := hz _ (List.getElem_mem hlt)
    simp only [spec_cnAll.l1]
    rw [rdOf_get hlt, if_pos (by omega), if_pos (by omega), if_pos (by omega), if_pos (by omega)]
    simp only [Option.bind_some, List.length_cons, List.length_nil]
    rw [if_pos (by omega), w64 (x := (j : Int) + 1) (by omega) (by omega), show (j : Int) + 1 = ((j + 1 : Nat) : Int) from by omega, ih (j + 1) k _ (by omega) (by omega) (by simp; omega)]
    rw [show k + 1 - (m + 1) - 1 = k - m - 1 from by omega, dbl_drop hlt, ← List.append_assoc]

theorem cnAll_l0 (n : Nat) (hn : n ≤ 8) : ∀ (m j : Nat), j + m = n →
    ∃ K, ∀ k, K ≤ k → spec_cnAll.l0 k m (txt ⟨#[100]⟩ ⟨#[119]⟩ j) = some (txt ⟨#[100]⟩ ⟨#[119]⟩ n) := by
  intro m
  induction m with
  | zero =>
    intro j hj
    refine ⟨1, fun k hk => ?_⟩
    obtain ⟨k, rfl⟩ : ∃ m, k = m + 1 := ⟨k - 1, by omega⟩
    simp only [spec_cnAll.l0]
    rw [if_neg (by omega), show j = n from by omega]
  | succ m ih =>
    intro j hj
    obtain ⟨K, E⟩ := ih (j + 1) (by omega)
    have hp : 2 ^ j ≤ 256 := Nat.pow_le_pow_right (n := 2) (by decide) (show j ≤ 8 by omega)
    have hl := txt_length ⟨#[100]⟩ ⟨#[119]⟩ j
    refine ⟨K + (txt ⟨#[100]⟩ ⟨#[119]⟩ j).length + 2, fun k hk => ?_⟩
    obtain ⟨k, rfl⟩ : ∃ m, k = m + 1 := ⟨k - 1, by omega⟩
    simp only [spec_cnAll.l0]
    have h := cnAll_l1 (x := ((m + 1 : Nat) : Int)) (txt ⟨#[100]⟩ ⟨#[119]⟩ j) (by omega) (fun s hs => by have := txt_size (a := ⟨#[100]⟩) (b := ⟨#[119]⟩) rfl rfl j s hs; omega) (txt ⟨#[100]⟩ ⟨#[119]⟩ j).length 0 k [] (by omega) (by omega) (by simp)
    rw [List.drop_zero, List.nil_append, w64 (x := ((m + 1 : Nat) : Int) - 1) (by omega) (by omega), show ((m + 1 : Nat) : Int) - 1 = (m : Int) from by omega] at h
    rw [if_pos (by omega)]
    exact h.trans (E _ (by omega))

/-- Days alone. -/
def AllDays (s : ByteArray) : Prop := ∀ i : Nat, i < s.size → bt s i = 100 ∨ bt s i = 119

theorem bt_append (s t : ByteArray) (i : Nat) (h : i < (s ++ t).size) : bt (s ++ t) i = if i < s.size then bt s i else bt t ((i - s.size : Nat) : Int) := by
  unfold bt
  simp only [Int.toNat_natCast]
  rw [dif_pos h]
  by_cases h1 : i < s.size
  · rw [if_pos h1, dif_pos h1, ByteArray.getElem_append_left h1]
  · rw [ByteArray.size_append] at h
    rw [if_neg h1, dif_pos (by omega), ByteArray.getElem_append_right (by omega)]

theorem allDays_append {s t : ByteArray} (hs : AllDays s) (ht : AllDays t) : AllDays (s ++ t) := by
  intro i hi
  rw [bt_append s t i hi]
  rw [ByteArray.size_append] at hi
  by_cases h1 : i < s.size
  · rw [if_pos h1]; exact hs i h1
  · rw [if_neg h1]; exact ht _ (by omega)

theorem allDays_D : AllDays ⟨#[100]⟩ := by
  intro i hi
  obtain rfl : i = 0 := by simp [ByteArray.size] at hi; omega
  exact .inl btD
theorem allDays_W : AllDays ⟨#[119]⟩ := by
  intro i hi
  obtain rfl : i = 0 := by simp [ByteArray.size] at hi; omega
  exact .inr btW
theorem txt_allDays (n : Nat) : ∀ s ∈ txt ⟨#[100]⟩ ⟨#[119]⟩ n, AllDays s :=
  txt_mem (P := fun _ s => AllDays s) (fun i hi => by simp [ByteArray.size] at hi) (fun _ _ h => allDays_append h allDays_D) (fun _ _ h => allDays_append h allDays_W) n

/-- The product of the chances from sign j on, m of them, in parts of o ^ m. -/
def folX (w d o : Int) (s : ByteArray) (j : Nat) : Nat → Int
  | 0 => 1
  | m + 1 => folX w d o s j m * nextX w d o (bt s ((j + m : Nat) : Int)) (bt s ((j + m + 1 : Nat) : Int))

theorem nextX_fit {w d o a b : Int} (c : 1 ≤ o ∧ o ≤ 10 ∧ 0 ≤ w ∧ w ≤ o ∧ 0 ≤ d ∧ d ≤ o) : 0 ≤ nextX w d o a b ∧ nextX w d o a b ≤ o := by
  unfold nextX
  split <;> split <;> omega

theorem folX_fit {w d o : Int} (c : 1 ≤ o ∧ o ≤ 10 ∧ 0 ≤ w ∧ w ≤ o ∧ 0 ≤ d ∧ d ≤ o) (s : ByteArray) (j : Nat) : ∀ m, 0 ≤ folX w d o s j m ∧ folX w d o s j m ≤ o ^ m
  | 0 => by simp [folX]
  | m + 1 => by
    obtain ⟨h1, h2⟩ := folX_fit c s j m
    obtain ⟨h3, h4⟩ := nextX_fit (a := bt s ((j + m : Nat) : Int)) (b := bt s ((j + m + 1 : Nat) : Int)) c
    simp only [folX]
    rw [Int.pow_succ]
    exact ⟨Int.mul_nonneg h1 h3, Int.mul_le_mul h2 h4 h3 (Int.pow_nonneg (by omega))⟩

theorem follow_ev {w d o : Int} (c : 1 ≤ o ∧ o ≤ 10 ∧ 0 ≤ w ∧ w ≤ o ∧ 0 ≤ d ∧ d ≤ o) {s : ByteArray} (hs : AllDays s) {n : Nat} (hz : s.size = n + 1) (hn : n ≤ 8) : ∀ (m j k : Nat), m + 1 < k → j + m = n →
    spec_cnFollow.l0 k s (folX w d o s 0 j) (o ^ j) ((j : Int) + 1) w d o = some (folX w d o s 0 n, o ^ n) := by
  intro m
  induction m with
  | zero =>
    intro j k hk hj
    obtain ⟨k, rfl⟩ : ∃ m, k = m + 1 := ⟨k - 1, by omega⟩
    simp only [spec_cnFollow.l0]
    rw [if_neg (by omega), show j = n from by omega]
  | succ m ih =>
    intro j k hk hj
    obtain ⟨k, rfl⟩ : ∃ m, k = m + 1 := ⟨k - 1, by omega⟩
    have f := folX_fit c s 0 j
    have f2 := folX_fit c s 0 (j + 1)
    have b := pow10 c.1 c.2.1 (n := j) (by omega)
    have b2 := pow10 c.1 c.2.1 (n := j + 1) (by omega)
    simp only [spec_cnFollow.l0]
    rw [if_pos (by omega), w64 (x := (j : Int) + 1 - 1) (by omega) (by omega), if_pos (by omega), if_pos (by omega), if_pos (by omega), show (j : Int) + 1 - 1 = (j : Int) from by omega,
      show (j : Int) + 1 = ((j + 1 : Nat) : Int) from by omega, cnNext_ev c (hs j (by omega)) (hs (j + 1) (by omega)) (k := k) (by omega)]
    simp only [Option.bind_some]
    have e : folX w d o s 0 j * nextX w d o (bt s (j : Int)) (bt s ((j + 1 : Nat) : Int)) = folX w d o s 0 (j + 1) := by
      simp only [folX, Nat.zero_add]
    rw [e, ← Int.pow_succ, w64 (x := folX w d o s 0 (j + 1)) (by omega) (by omega), w64 (x := o ^ (j + 1)) (by omega) (by omega), w64 (x := ((j + 1 : Nat) : Int) + 1) (by omega) (by omega)]
    exact ih (j + 1) k (by omega) (by omega)

theorem ofDays_ev {w d o : Int} (c : 1 ≤ o ∧ o ≤ 10 ∧ 0 ≤ w ∧ w ≤ o ∧ 0 ≤ d ∧ d ≤ o) {s : ByteArray} (hs : AllDays s) {n : Nat} (hz : s.size = n + 1) (hn : n ≤ 8) : ∀ (m j : Nat) (p q : Int), j + m = n → Low p q (folX w d o s 0 j) (o ^ j) →
    ∃ r v, Low r v (folX w d o s 0 n) (o ^ n) ∧ ∃ K, ∀ k, K ≤ k → impl_Chain_ofDays.l0 k s ((j : Int) + 1) w d o p q = some (r, v) := by
  intro m
  induction m with
  | zero =>
    intro j p q hj L
    obtain rfl : j = n := by omega
    refine ⟨p, q, L, 1, fun k hk => ?_⟩
    obtain ⟨k, rfl⟩ : ∃ m, k = m + 1 := ⟨k - 1, by omega⟩
    simp only [impl_Chain_ofDays.l0]
    rw [if_neg (by omega)]
  | succ m ih =>
    intro j p q hj L
    obtain ⟨n0, n1, a1, a2, N, K1, E1⟩ := next_ev c (hs j (by omega)) (hs (j + 1) (by omega))
    have f := folX_fit c s 0 j
    have b := pow10 c.1 c.2.1 (n := j) (by omega)
    obtain ⟨p2, q2, L2, K2, E2⟩ := times_ev L N (by omega) (by omega) (by omega) (by omega)
    have e : folX w d o s 0 j * nextX w d o (bt s (j : Int)) (bt s ((j + 1 : Nat) : Int)) = folX w d o s 0 (j + 1) := by
      simp only [folX, Nat.zero_add]
    rw [e, ← Int.pow_succ] at L2
    obtain ⟨r, v, L3, K3, E3⟩ := ih (j + 1) p2 q2 (by omega) L2
    refine ⟨r, v, L3, K1 + K2 + K3 + 1, fun k hk => ?_⟩
    obtain ⟨k, rfl⟩ : ∃ m, k = m + 1 := ⟨k - 1, by omega⟩
    simp only [impl_Chain_ofDays.l0]
    rw [if_pos (by omega), w64 (x := (j : Int) + 1 - 1) (by omega) (by omega), if_pos (by omega), if_pos (by omega), if_pos (by omega), show (j : Int) + 1 - 1 = (j : Int) from by omega,
      show (j : Int) + 1 = ((j + 1 : Nat) : Int) from by omega, E1 k (by omega)]
    simp only [Option.bind_some]
    rw [E2 k (by omega)]
    simp only [Option.bind_some]
    rw [w64 (x := ((j + 1 : Nat) : Int) + 1) (by omega) (by omega)]
    exact E3 k (by omega)

/-- Two chances in parts of one number. -/
theorem low_more {p q x r v y D : Int} (L : Low p q x D) (M : Low r v y D) (hD : 0 < D) : (p * v > r * q) ↔ x > y := by
  have h1 := L.eq
  have h2 := M.eq
  have qp := L.pos
  have vp := M.pos
  have e1 : p * v * D = x * (q * v) := by grind
  have e2 : r * q * D = y * (q * v) := by grind
  have hqv : 0 < q * v := Int.mul_pos qp vp
  constructor
  · intro h
    have : r * q * D < p * v * D := Int.mul_lt_mul_of_pos_right h hD
    rw [e1, e2] at this
    exact Int.lt_of_mul_lt_mul_right this (Int.le_of_lt hqv)
  · intro h
    have : y * (q * v) < x * (q * v) := Int.mul_lt_mul_of_pos_right h hqv
    rw [← e1, ← e2] at this
    exact Int.lt_of_mul_lt_mul_right this (Int.le_of_lt hD)

theorem likely_loops {w d o : Int} (c : 1 ≤ o ∧ o ≤ 10 ∧ 0 ≤ w ∧ w ≤ o ∧ 0 ≤ d ∧ d ≤ o) {s : ByteArray} (hs : AllDays s) (hz : s.size = 1) {n : Nat} (hn : n ≤ 8) (xs : List ByteArray) (hx : xs.length ≤ 10000) (ha : ∀ t ∈ xs, AllDays t ∧ t.size = n) :
    ∀ (m j : Nat) (best : ByteArray) (most M p q : Int), j + m = xs.length → (∀ x, 0 ≤ x → (x > M ↔ x > most)) → Low p q M (o ^ n) → -1 * o ^ n ≤ M → M ≤ o ^ n →
    ∃ r, (∃ K, ∀ k, K ≤ k → spec_LikeliestDays.l0 k s most best xs (xs.length : Int) j w d o = some (r, true)) ∧
      ∃ K, ∀ k, K ≤ k → impl_LikeliestDays.l0 k s best xs (xs.length : Int) j w d o p q = some (r, true) := by
  intro m
  induction m with
  | zero =>
    intro j best most M p q hj hM L hm hm2
    refine ⟨best, ⟨1, fun k hk => ?_⟩, 1, fun k hk => ?_⟩
    · obtain ⟨k, rfl⟩ : ∃ m, k = m + 1 := ⟨k - 1, by omega⟩
      simp only [spec_LikeliestDays.l0]
      rw [if_neg (by omega)]
    · obtain ⟨k, rfl⟩ : ∃ m, k = m + 1 := ⟨k - 1, by omega⟩
      simp only [impl_LikeliestDays.l0]
      rw [if_neg (by omega)]
  | succ m ih =>
    intro j best most M p q hj hM L hm hm2
    have hlt : j < xs.length := by omega
    obtain ⟨ht1, ht2⟩ := ha _ (List.getElem_mem hlt)
    have hst := allDays_append hs ht1
    have hsz : (s ++ xs[j]).size = n + 1 := by rw [ByteArray.size_append]; omega
    have f := folX_fit c (s ++ xs[j]) 0 n
    have b := pow10 c.1 c.2.1 (n := n) hn
    have F := fun k hk => follow_ev c hst hsz hn n 0 k hk (by omega)
    obtain ⟨p2, q2, L2, K2, E2⟩ := ofDays_ev c hst hsz hn n 0 1 1 (by omega) (by simpa [folX] using low_one 1)
    simp only [folX, Int.pow_zero] at F
    generalize folX w d o (s ++ xs[j]) 0 n = x at F f L2
    have hmore : impl_frac_isMore.f p2 q2 p q = some (decide (x > most)) := by
      unfold impl_frac_isMore.f
      have l1 := L.num_le
      have l2 := L.den_le
      have l3 := L2.num_le
      have l4 := L2.den_le
      have m1 := mul9 (x := p2) (y := q) (by omega) (by omega)
      have m2 := mul9 (x := p) (y := q2) (by omega) (by omega)
      rw [w64 (x := p2 * q) (by omega) (by omega), w64 (x := p * q2) (by omega) (by omega)]
      congr 1
      exact decide_eq_decide.2 ((low_more L2 L (by omega)).trans (hM x f.1))
    have step : ∀ (best' : ByteArray) (most' M' p' q' : Int), (∀ x, 0 ≤ x → (x > M' ↔ x > most')) → Low p' q' M' (o ^ n) → -1 * o ^ n ≤ M' → M' ≤ o ^ n →
        (∀ k, n + 2 ≤ k → spec_LikeliestDays.l0 (k + 1) s most best xs (xs.length : Int) j w d o = spec_LikeliestDays.l0 k s most' best' xs (xs.length : Int) ((j + 1 : Nat) : Int) w d o) →
        (∀ k, K2 ≤ k → impl_LikeliestDays.l0 (k + 1) s best xs (xs.length : Int) j w d o p q = impl_LikeliestDays.l0 k s best' xs (xs.length : Int) ((j + 1 : Nat) : Int) w d o p' q') →
        ∃ r, (∃ K, ∀ k, K ≤ k → spec_LikeliestDays.l0 k s most best xs (xs.length : Int) j w d o = some (r, true)) ∧
          ∃ K, ∀ k, K ≤ k → impl_LikeliestDays.l0 k s best xs (xs.length : Int) j w d o p q = some (r, true) := by
      intro best' most' M' p' q' hM' L' h1 h2 e1 e2
      obtain ⟨r, ⟨K3, E3⟩, K4, E4⟩ := ih (j + 1) best' most' M' p' q' (by omega) hM' L' h1 h2
      refine ⟨r, ⟨K3 + n + 3, fun k hk => ?_⟩, K4 + K2 + 1, fun k hk => ?_⟩
      · obtain ⟨k, rfl⟩ : ∃ m, k = m + 1 := ⟨k - 1, by omega⟩
        rw [e1 k (by omega), E3 k (by omega)]
      · obtain ⟨k, rfl⟩ : ∃ m, k = m + 1 := ⟨k - 1, by omega⟩
        rw [e2 k (by omega), E4 k (by omega)]
    have u1 : ∀ k, n + 2 ≤ k → spec_LikeliestDays.l0 (k + 1) s most best xs (xs.length : Int) j w d o = if x > most then spec_LikeliestDays.l0 k s x xs[j] xs (xs.length : Int) ((j + 1 : Nat) : Int) w d o else spec_LikeliestDays.l0 k s most best xs (xs.length : Int) ((j + 1 : Nat) : Int) w d o := by
      intro k hk
      simp only [spec_LikeliestDays.l0]
      rw [rdOf_get hlt, if_pos (by omega), if_pos (by omega), if_pos (by omega), if_pos (by omega), w64 (x := (j : Int) + 1) (by omega) (by omega), show (j : Int) + 1 = ((j + 1 : Nat) : Int) from by omega]
      unfold spec_cnFollow.f
      have := F k (by omega)
      rw [show ((0 : Nat) : Int) + 1 = 1 from rfl] at this
      rw [this]
      simp only [Option.bind_some]
    have u2 : ∀ k, K2 ≤ k → impl_LikeliestDays.l0 (k + 1) s best xs (xs.length : Int) j w d o p q = if x > most then impl_LikeliestDays.l0 k s xs[j] xs (xs.length : Int) ((j + 1 : Nat) : Int) w d o p2 q2 else impl_LikeliestDays.l0 k s best xs (xs.length : Int) ((j + 1 : Nat) : Int) w d o p q := by
      intro k hk
      simp only [impl_LikeliestDays.l0]
      rw [rdOf_get hlt, if_pos (by omega), if_pos (by omega), if_pos (by omega), if_pos (by omega), w64 (x := (j : Int) + 1) (by omega) (by omega), show (j : Int) + 1 = ((j + 1 : Nat) : Int) from by omega]
      unfold impl_Chain_ofDays.f impl_whole.f
      have := E2 k hk
      rw [show ((0 : Nat) : Int) + 1 = 1 from rfl] at this
      simp only [Option.bind_some, this, hmore, decide_eq_true_eq]
    by_cases h : x > most
    · exact step xs[j] x x p2 q2 (fun _ _ => Iff.rfl) L2 (by omega) (by omega) (fun k hk => by rw [u1 k hk, if_pos h]) (fun k hk => by rw [u2 k hk, if_pos h])
    · exact step best most M p q hM L hm hm2 (fun k hk => by rw [u1 k hk, if_neg h]) (fun k hk => by rw [u2 k hk, if_neg h])


theorem FnExactLikeliestDays (w d o : Int) (s : ByteArray) (n : Int) (ww : (Lit.int .i64 w).wf = true) (wd : (Lit.int .i64 d).wf = true) (wo : (Lit.int .i64 o).wf = true) (ws : s.size ≤ 140737488351232) (wn : (Lit.int .i64 n).wf = true) : ∃ k, laws_FnExactLikeliestDays.f k w d o s n = some true := by
  have g1 := cnDay_is w d o s
  have g2 := isChain_is w d o
  have g3 := isDay_is s
  by_cases c : 1 ≤ o ∧ o ≤ 10 ∧ 0 ≤ w ∧ w ≤ o ∧ 0 ≤ d ∧ d ≤ o
  · rw [decide_eq_true c] at g1 g2
    cases hs : isD s with
    | false =>
      rw [hs] at g1 g3
      refine ⟨3, ?_⟩
      simp only [laws_FnExactLikeliestDays.f, laws_toChain.f, spec_LikeliestDays.f, impl_LikeliestDays.f, spec_LikeliestDays.j0, impl_LikeliestDays.j0, g1, g2, g3, Option.bind_some, Bool.true_and, ↓reduceIte, Bool.false_eq_true]
      simp
    | true =>
      rw [hs] at g1 g3
      by_cases hn : 1 ≤ n ∧ n ≤ 8
      · have i1 := in_true hn
        obtain ⟨n, rfl⟩ : ∃ m : Nat, n = m := ⟨n.toNat, by omega⟩
        have zs : s.size = 1 := by rcases day_cases hs with rfl | rfl <;> rfl
        have hda : AllDays s := by
          rcases day_cases hs with rfl | rfl
          · exact allDays_D
          · exact allDays_W
        have b3 := pow10 c.1 c.2.1 (n := n) (by omega)
        have hp : 2 ^ n ≤ 256 := Nat.pow_le_pow_right (n := 2) (by decide) (show n ≤ 8 by omega)
        obtain ⟨K1, E1⟩ := texts_ev (a := ⟨#[100]⟩) (b := ⟨#[119]⟩) rfl rfl n (by omega)
        obtain ⟨K2, E2⟩ := cnAll_l0 n (by omega) n 0 (by omega)
        obtain ⟨r, ⟨K3, E3⟩, K4, E4⟩ := likely_loops c hda zs (n := n) (by omega) (txt ⟨#[100]⟩ ⟨#[119]⟩ n) (by rw [txt_length]; omega) (fun t ht => ⟨txt_allDays n t ht, txt_size (a := ⟨#[100]⟩) (b := ⟨#[119]⟩) rfl rfl n t ht⟩)
          (txt ⟨#[100]⟩ ⟨#[119]⟩ n).length 0 ⟨#[]⟩ (-1) (-1 * o ^ n) (-1) 1 (by omega) (fun x hx => by omega) ((low_one (-1)).turn (by omega) (by omega)) (by omega) (by omega)
        refine ⟨K1 + K2 + K3 + K4 + 1, ?_⟩
        have q1 : spec_LikeliestDays.f (K1 + K2 + K3 + K4 + 1) w d o s n = some (r, true) := by
          simp only [spec_LikeliestDays.f, spec_LikeliestDays.j0, spec_l1In.f, spec_cnAll.f, g1, i1, Option.bind_some, Bool.true_and, ↓reduceIte, Bool.false_eq_true, Bool.not_true]
          have e := E2 (K1 + K2 + K3 + K4) (by omega)
          rw [show txt ⟨#[100]⟩ ⟨#[119]⟩ 0 = [⟨#[]⟩] from rfl] at e
          rw [e]
          exact E3 _ (by omega)
        have q2 : impl_LikeliestDays.f (K1 + K2 + K3 + K4 + 1) w d o s n = some (r, true) := by
          simp only [impl_LikeliestDays.f, impl_LikeliestDays.j0, impl_within.f, impl_whole.f, g2, g3, i1, Option.bind_some, ↓reduceIte, Bool.false_eq_true, Bool.not_true]
          rw [E1 _ (by omega)]
          exact E4 _ (by omega)
        simp only [laws_FnExactLikeliestDays.f, laws_toChain.f, Option.bind_some, q1, q2]
        simp
      · have i1 := in_false hn
        refine ⟨3, ?_⟩
        simp only [laws_FnExactLikeliestDays.f, laws_toChain.f, spec_LikeliestDays.f, impl_LikeliestDays.f, spec_LikeliestDays.j0, impl_LikeliestDays.j0, spec_l1In.f, impl_within.f, g1, g2, g3, i1, Option.bind_some, Bool.true_and, ↓reduceIte, Bool.false_eq_true, Bool.not_false]
        simp
  · rw [decide_eq_false c] at g1 g2
    refine ⟨3, ?_⟩
    simp only [laws_FnExactLikeliestDays.f, laws_toChain.f, spec_LikeliestDays.f, impl_LikeliestDays.f, spec_LikeliestDays.j0, impl_LikeliestDays.j0, g1, g2, Option.bind_some, Bool.false_and, ↓reduceIte, Bool.false_eq_true]
    simp

end Go.Proofs.Ytnfcfhieocgomaa.Pure
