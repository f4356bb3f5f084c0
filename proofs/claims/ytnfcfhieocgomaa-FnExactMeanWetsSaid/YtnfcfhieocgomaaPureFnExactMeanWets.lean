/- For all arguments the program and the reference return the same from MeanWets: the plain statement over numbers and lists, and its proof. -/
import Derived.Test.YtnfcfhieocgomaaPFnExactMeanWetsx1
import Derived.Test.YtnfcfhieocgomaaPFnExactMeanWetsx2
import Derived.Test.YtnfcfhieocgomaaPFnExactMeanWetsx3
import Derived.Test.YtnfcfhieocgomaaPFnExactMeanWetsx4
namespace Go.Proofs.Ytnfcfhieocgomaa.Pure
open Go.RowKit Go.Proofs.Ytnfcfhieocgomaa.PFnExactMeanWets Go.Proofs.YtnfcfhieocgomaaW.PrintWords Go.Proofs.YtnfcfhieocgomaaW.PrintLast Go.Proofs.YtnfcfhieocgomaaW.PrintMore
set_option linter.unusedVariables false
set_option linter.unusedSimpArgs false
set_option maxRecDepth 100000
theorem w64 {x : Int} (h0 : -9223372036854775808 ≤ x) (h1 : x ≤ 9223372036854775807) : wrap64 x = x := by
  unfold wrap64
  omega

theorem mul_fits {x y A B : Int} (hx : x.natAbs ≤ A.natAbs) (hy : y.natAbs ≤ B.natAbs) : (x * y).natAbs ≤ (A * B).natAbs := by
  rw [Int.natAbs_mul, Int.natAbs_mul]
  exact Nat.mul_le_mul hx hy

/-- A product of numbers of at most nine digits. -/
theorem mul9 {x y : Int} (hx : x.natAbs ≤ 1000000000) (hy : y.natAbs ≤ 1000000000) : (x * y).natAbs ≤ 1000000000000000000 := by
  rw [Int.natAbs_mul]
  exact Nat.le_trans (Nat.mul_le_mul hx hy) (by decide)

theorem wf_range {a : Int} (h : (Lit.int .i64 a).wf = true) : -9223372036854775808 ≤ a ∧ a ≤ 9223372036854775807 := by
  simp [Lit.wf, IntKind.min, IntKind.max, IntKind.signed, IntKind.bits] at h
  omega

/-- Is a chain: as both tell it. -/
theorem cnGood_is (w d o : Int) : spec_cnGood.f w d o = some (decide (1 ≤ o ∧ o ≤ 10 ∧ 0 ≤ w ∧ w ≤ o ∧ 0 ≤ d ∧ d ≤ o)) := by
  unfold spec_cnGood.f spec_l1In.f
  by_cases h1 : 1 ≤ o ∧ o ≤ 10 ∧ 0 ≤ w ∧ w ≤ o ∧ 0 ≤ d ∧ d ≤ o
  · rw [decide_eq_true h1]
    obtain ⟨h1, h2, h3, h4, h5, h6⟩ := h1
    simp [*]
  · rw [decide_eq_false h1]
    grind

theorem isChain_is (w d o : Int) : impl_IsChain.f w d o = some (decide (1 ≤ o ∧ o ≤ 10 ∧ 0 ≤ w ∧ w ≤ o ∧ 0 ≤ d ∧ d ≤ o)) := by
  unfold impl_IsChain.f impl_within.f
  by_cases h1 : 1 ≤ o ∧ o ≤ 10 ∧ 0 ≤ w ∧ w ≤ o ∧ 0 ≤ d ∧ d ≤ o
  · rw [decide_eq_true h1]
    obtain ⟨h1, h2, h3, h4, h5, h6⟩ := h1
    simp [*]
  · rw [decide_eq_false h1]
    grind

/-- Is a text one day? -/
def isD (s : ByteArray) : Bool := if s.toList = [100] then true else s.toList == [119]

theorem isDay_is (s : ByteArray) : impl_isDay.f s = some (isD s) := by
  unfold impl_isDay.f isD
  by_cases h : s.toList = [100]
  · rw [if_pos h, if_pos h]
  · rw [if_neg h, if_neg h]

theorem day_cases {s : ByteArray} (h : isD s = true) : s = ⟨#[100]⟩ ∨ s = ⟨#[119]⟩ := by
  unfold isD at h
  rw [ByteArray.toList_eq] at h
  by_cases h1 : s.data.toList = [100]
  · left
    apply ByteArray.ext
    apply Array.toList_inj.1
    exact h1
  · right
    rw [if_neg h1, beq_iff_eq] at h
    apply ByteArray.ext
    apply Array.toList_inj.1
    exact h

theorem sizeD : ((⟨#[100]⟩ : ByteArray).size : Int) = 1 := rfl
theorem sizeW : ((⟨#[119]⟩ : ByteArray).size : Int) = 1 := rfl
theorem btD : bt (⟨#[100]⟩ : ByteArray) 0 = 100 := rfl
theorem btW : bt (⟨#[119]⟩ : ByteArray) 0 = 119 := rfl
theorem listD : (⟨#[100]⟩ : ByteArray).toList = [100] := by rw [ByteArray.toList_eq]
theorem listW : (⟨#[119]⟩ : ByteArray).toList = [119] := by rw [ByteArray.toList_eq]

theorem cnDay_is (w d o : Int) (s : ByteArray) : spec_cnDay.f w d o s = some (decide (1 ≤ o ∧ o ≤ 10 ∧ 0 ≤ w ∧ w ≤ o ∧ 0 ≤ d ∧ d ≤ o) && isD s) := by
  unfold spec_cnDay.f
  rw [cnGood_is]
  by_cases c : 1 ≤ o ∧ o ≤ 10 ∧ 0 ≤ w ∧ w ≤ o ∧ 0 ≤ d ∧ d ≤ o
  · rw [decide_eq_true c]
    simp only [Option.bind_some, ↓reduceIte, Bool.true_and]
    unfold isD
    by_cases h : s.toList = [100]
    · rw [if_pos h, if_pos h]
    · rw [if_neg h, if_neg h]
  · rw [decide_eq_false c]
    simp

/-- (a, b) is n / d in lowest terms. -/
structure Low (a b n d : Int) : Prop where
  pos : 0 < b
  ne : d ≠ 0
  eq : a * d = n * b
  cop : Int.gcd a b = 1

theorem dvd_of_cop {a b d : Int} (hc : Int.gcd a b = 1) (h : b ∣ a * d) : b ∣ d := by
  rw [← Int.natAbs_dvd_natAbs] at h ⊢
  rw [Int.natAbs_mul] at h
  exact Nat.Coprime.dvd_of_dvd_mul_left (k := b.natAbs) (m := a.natAbs) (n := d.natAbs) (by
    rw [Nat.Coprime, Nat.gcd_comm]; exact hc) (by exact h)

theorem Low.fac {a b n d : Int} (h : Low a b n d) : ∃ g, g ≠ 0 ∧ n = a * g ∧ d = b * g := by
  have hb : b ∣ d := dvd_of_cop h.cop ⟨n, by rw [h.eq, Int.mul_comm]⟩
  obtain ⟨g, rfl⟩ := hb
  have hp := h.pos
  refine ⟨g, fun e => h.ne (by rw [e, Int.mul_zero]), ?_, rfl⟩
  have he := h.eq
  have : b * n = b * (a * g) := by rw [Int.mul_comm b n, ← he, Int.mul_left_comm]
  exact Int.eq_of_mul_eq_mul_left (by omega) this

theorem natAbs_le_of_mul {a g : Int} (hg : g ≠ 0) : a.natAbs ≤ (a * g).natAbs := by
  rw [Int.natAbs_mul]
  exact Nat.le_mul_of_pos_right _ (by omega)

theorem Low.num_le {a b n d : Int} (h : Low a b n d) : a.natAbs ≤ n.natAbs := by
  obtain ⟨g, hg, rfl, _⟩ := h.fac
  exact natAbs_le_of_mul hg

theorem Low.den_le {a b n d : Int} (h : Low a b n d) : b.natAbs ≤ d.natAbs := by
  obtain ⟨g, hg, _, rfl⟩ := h.fac
  exact natAbs_le_of_mul hg

theorem Low.unique {a b a' b' n d n' d' : Int} (h : Low a b n d) (h' : Low a' b' n' d') (e : n * d' = n' * d) : a = a' ∧ b = b' := by
  have hp := h.pos
  have hp' := h'.pos
  have hx : a * b' = a' * b := by
    have hd := h.ne
    have hd' := h'.ne
    have h1 := h.eq
    have h2 := h'.eq
    have : (d * d') * (a * b') = (d * d') * (a' * b) := by grind
    exact Int.eq_of_mul_eq_mul_left (Int.mul_ne_zero hd hd') this
  have h1 : b ∣ b' := dvd_of_cop h.cop ⟨a', by rw [hx, Int.mul_comm]⟩
  have h2 : b' ∣ b := dvd_of_cop h'.cop ⟨a, by rw [← hx, Int.mul_comm]⟩
  have hb : b = b' := Int.le_antisymm (Int.le_of_dvd hp' h1) (Int.le_of_dvd hp h2)
  subst hb
  exact ⟨Int.eq_of_mul_eq_mul_right (by omega) hx, rfl⟩

/-- Change of the told fraction. -/
theorem Low.turn {a b n d n' d' : Int} (h : Low a b n d) (hd : d' ≠ 0) (e : n * d' = n' * d) : Low a b n' d' := by
  refine ⟨h.pos, hd, ?_, h.cop⟩
  have h1 := h.eq
  have h0 := h.ne
  have : d * (a * d') = d * (n' * b) := by grind
  exact Int.eq_of_mul_eq_mul_left h0 this

/-- What a division by the greatest common divisor, with the denominator's sign, gives. -/
theorem low_div {n d g : Int} (hd : d ≠ 0) (hg : g.natAbs = Int.gcd n d) (hs : 0 < d * g) : Low (n.tdiv g) (d.tdiv g) n d := by
  have hg0 : g ≠ 0 := by rintro rfl; omega
  obtain ⟨x, rfl⟩ : g ∣ n := by rw [← Int.natAbs_dvd_natAbs, hg]; exact Nat.gcd_dvd_left _ _
  obtain ⟨y, rfl⟩ : g ∣ d := by rw [← Int.natAbs_dvd_natAbs, hg]; exact Nat.gcd_dvd_right _ _
  rw [Int.mul_tdiv_cancel_left _ hg0, Int.mul_tdiv_cancel_left _ hg0]
  refine ⟨?_, hd, by grind, ?_⟩
  · have h1 : 0 < y * (g * g) := by rw [show y * (g * g) = g * y * g from by grind]; exact hs
    have h2 : 0 < g * g := by
      rcases Int.lt_trichotomy g 0 with h | h | h
      · exact Int.mul_pos_of_neg_of_neg h h
      · exact absurd h hg0
      · exact Int.mul_pos h h
    rcases Int.lt_or_le 0 y with h | h
    · exact h
    · have := Int.mul_nonpos_of_nonpos_of_nonneg h (Int.le_of_lt h2)
      omega
  · rw [Int.gcd_mul_left] at hg
    have : g.natAbs ≠ 0 := by omega
    exact Nat.eq_of_mul_eq_mul_left (Nat.pos_of_ne_zero this) (by omega)

theorem Low.zero {a b d : Int} (h : Low a b 0 d) : a = 0 ∧ b = 1 := by
  have := h.num_le
  have ha : a = 0 := by omega
  subst ha
  have := h.cop
  have hp := h.pos
  simp at this
  omega

theorem Ev.some {α : Type} {g : Nat → Option α} {r : α} (h : ∀ k, g k = Option.some r) : Ev g r := ⟨0, fun k _ => h k⟩

theorem tmod_nn {a b : Int} (ha : 0 ≤ a) (hb : 0 < b) : 0 ≤ Int.tmod a b ∧ Int.tmod a b < b ∧ Int.tmod a b = a % b := by
  rw [Int.tmod_eq_emod_of_nonneg ha]
  exact ⟨Int.emod_nonneg _ (by omega), Int.emod_lt_of_pos _ hb, rfl⟩

theorem gcd_step {a b : Int} (ha : 0 ≤ a) (hb : 0 < b) : Int.gcd b (Int.tmod a b) = Int.gcd a b := by
  rw [(tmod_nn ha hb).2.2, Int.gcd_comm a b]
  have h : a = a % b + b * (a / b) := by rw [Int.emod_add_mul_ediv]
  conv => rhs; rw [h]
  rw [Int.gcd_add_mul_left_right]

theorem cnLow_l0 : ∀ (k : Nat) (n d a b : Int), 0 ≤ a → 0 ≤ b → b < k → 0 < Int.gcd a b → n.natAbs ≤ 9223372036854775807 → d.natAbs ≤ 9223372036854775807 →
    spec_cnLow.l0 k n d a b = some (wrap64 (Int.tdiv n ((Int.gcd a b : Nat) : Int)), wrap64 (Int.tdiv d ((Int.gcd a b : Nat) : Int))) := by
  intro k
  induction k with
  | zero => intro n d a b ha hb hk; omega
  | succ k ih =>
    intro n d a b ha hb hk hg hn hd
    simp only [spec_cnLow.l0]
    by_cases h : b = 0
    · subst h
      rw [Int.gcd_zero_right] at hg ⊢
      rw [if_neg (by omega), if_neg (by omega), show ((a.natAbs : Nat) : Int) = a from by omega]
    · have hb' : 0 < b := by omega
      have h3 := tmod_nn ha hb'
      rw [if_pos hb', if_neg h, ih n d b (Int.tmod a b) hb h3.1 (by omega) (by rw [gcd_step ha hb']; exact hg) hn hd, gcd_step ha hb']

/-- What cnLow returns of a fraction that is not negative. -/
theorem cnLow_ev {n d : Int} (h0 : 0 ≤ n) (hn : n ≤ 9223372036854775807) (h1 : 0 < d) (hd : d ≤ 9223372036854775807) :
    ∃ a b, Low a b n d ∧ ∃ K, ∀ k, K ≤ k → spec_cnLow.f k n d = some (a, b) := by
  have hg : Int.gcd n d ≠ 0 := by
    intro h
    have := (Int.gcd_eq_zero_iff.1 h).2
    omega
  have L := low_div (n := n) (d := d) (g := ((Int.gcd n d : Nat) : Int)) (by omega) (by omega) (Int.mul_pos h1 (by omega))
  have hx := L.num_le
  have hy := L.den_le
  refine ⟨_, _, L, d.natAbs + 1, fun k hk => ?_⟩
  unfold spec_cnLow.f
  rw [cnLow_l0 k n d n d h0 (by omega) (by omega) (by omega) (by omega) (by omega), w64 (by omega) (by omega), w64 (by omega) (by omega)]

/-- .. so it is what any other way to the lowest terms gives. -/
theorem cnLow_is {a b n d n' d' : Int} (L : Low a b n' d') (h0 : 0 ≤ n) (hn : n ≤ 9223372036854775807) (h1 : 0 < d) (hd : d ≤ 9223372036854775807) (e : n' * d = n * d') :
    ∃ K, ∀ k, K ≤ k → spec_cnLow.f k n d = some (a, b) := by
  obtain ⟨a', b', L', E⟩ := cnLow_ev h0 hn h1 hd
  obtain ⟨rfl, rfl⟩ := L.unique L' e
  exact E

theorem common_l0 : ∀ (k : Nat) (a b : Int), 0 ≤ a → 0 ≤ b → b < k → impl_common.l0 k a b = some ((Int.gcd a b : Nat) : Int) := by
  intro k
  induction k with
  | zero => intro a b ha hb hk; omega
  | succ k ih =>
    intro a b ha hb hk
    simp only [impl_common.l0]
    by_cases h : b = 0
    · subst h
      rw [if_pos rfl, Int.gcd_zero_right]
      congr 1
      omega
    · rw [if_neg h]
      have hb' : 0 < b := by omega
      have h3 := tmod_nn ha hb'
      rw [ih b (Int.tmod a b) hb h3.1 (by omega), gcd_step ha hb']

theorem mx_abs {a : Int} (h0 : -9223372036854775808 < a) (h1 : a ≤ 9223372036854775807) : mx a (wrap64 (-a)) = (a.natAbs : Int) := by
  rw [w64 (by omega) (by omega)]
  unfold mx
  split <;> omega

theorem common_ev {a b : Int} (ha : a.natAbs ≤ 9223372036854775807) (hb : b.natAbs ≤ 9223372036854775807) :
    Ev (fun k => impl_common.f k a b) ((Int.gcd a b : Nat) : Int) := by
  refine ⟨b.natAbs + 1, fun k hk => ?_⟩
  show impl_common.f k a b = _
  unfold impl_common.f
  rw [mx_abs (by omega) (by omega), mx_abs (by omega) (by omega), common_l0 k _ _ (by omega) (by omega) (by omega)]
  simp [Int.gcd]

/-- What lowest returns. -/
theorem lowest_ev {n d : Int} (hn : n.natAbs ≤ 9223372036854775807) (hd : d.natAbs ≤ 9223372036854775807) (h0 : d ≠ 0) :
    ∃ a b, Low a b n d ∧ ∃ K, ∀ k, K ≤ k → impl_lowest.f k n d = some (a, b) := by
  have hg : Int.gcd n d ≠ 0 := by
    intro h
    exact h0 (Int.gcd_eq_zero_iff.1 h).2
  have hle : Int.gcd n d ≤ d.natAbs := Nat.le_of_dvd (by omega) (Nat.gcd_dvd_right _ _)
  rcases Int.lt_or_gt_of_ne h0 with h | h
  · have L := low_div (n := n) (d := d) (g := -((Int.gcd n d : Nat) : Int)) h0 (by omega) (Int.mul_pos_of_neg_of_neg h (by omega))
    have hx := L.num_le
    have hy := L.den_le
    refine ⟨_, _, L, ?_⟩
    show Ev (fun k => impl_lowest.f k n d) _
    refine Ev.congr (fun k => by unfold impl_lowest.f; rfl) (Ev.bind (common_ev hn hd) (Ev.some fun k => ?_))
    rw [if_pos h, w64 (x := -((Int.gcd n d : Nat) : Int)) (by omega) (by omega), if_neg (by omega), w64 (by omega) (by omega), w64 (by omega) (by omega)]
  · have L := low_div (n := n) (d := d) (g := ((Int.gcd n d : Nat) : Int)) h0 (by omega) (Int.mul_pos h (by omega))
    have hx := L.num_le
    have hy := L.den_le
    refine ⟨_, _, L, ?_⟩
    show Ev (fun k => impl_lowest.f k n d) _
    refine Ev.congr (fun k => by unfold impl_lowest.f; rfl) (Ev.bind (common_ev hn hd) (Ev.some fun k => ?_))
    rw [if_neg (by omega), if_neg (by omega), w64 (by omega) (by omega), w64 (by omega) (by omega)]

/-- The chance that a day (100: dry) follows another, in parts of o. -/
def nextX (w d o a b : Int) : Int := if a = 100 then (if b = 100 then o - w else w) else (if b = 100 then d else o - d)

theorem next_ev {w d o a b : Int} (c : 1 ≤ o ∧ o ≤ 10 ∧ 0 ≤ w ∧ w ≤ o ∧ 0 ≤ d ∧ d ≤ o) (ha : a = 100 ∨ a = 119) (hb : b = 100 ∨ b = 119) :
    0 ≤ nextX w d o a b ∧ nextX w d o a b ≤ o ∧ ∃ p q, Low p q (nextX w d o a b) o ∧ ∃ K, ∀ k, K ≤ k → impl_Chain_next.f k w d o a b = some (p, q) := by
  have hf : 0 ≤ nextX w d o a b ∧ nextX w d o a b ≤ o := by
    unfold nextX
    rcases ha with rfl | rfl <;> rcases hb with rfl | rfl <;> simp <;> omega
  refine ⟨hf.1, hf.2, ?_⟩
  obtain ⟨p, q, L, K, E⟩ := lowest_ev (n := nextX w d o a b) (d := o) (by omega) (by omega) (by omega)
  refine ⟨p, q, L, K, fun k hk => ?_⟩
  replace E := E k hk
  rcases ha with rfl | rfl <;> rcases hb with rfl | rfl
  · rw [show nextX w d o 100 100 = o - w from rfl] at E
    simp (disch := omega) only [impl_Chain_next.f, impl_Chain_leave.f, ↓reduceIte, Option.bind_some, w64, E]
  · rw [show nextX w d o 100 119 = w from rfl] at E
    simp (disch := omega) only [impl_Chain_next.f, impl_Chain_leave.f, ↓reduceIte, if_neg, Option.bind_some, w64, E]
  · rw [show nextX w d o 119 100 = d from rfl] at E
    simp (disch := omega) only [impl_Chain_next.f, impl_Chain_leave.f, ↓reduceIte, if_neg, Option.bind_some, w64, E]
  · rw [show nextX w d o 119 119 = o - d from rfl] at E
    simp (disch := omega) only [impl_Chain_next.f, impl_Chain_leave.f, ↓reduceIte, if_neg, Option.bind_some, w64, E]

/-- What plus returns. -/
theorem plus_ev {a b n d a' b' n' d' : Int} (L : Low a b n d) (L' : Low a' b' n' d')
    (hn : n.natAbs ≤ 1000000000) (hd : d.natAbs ≤ 1000000000) (hn' : n'.natAbs ≤ 1000000000) (hd' : d'.natAbs ≤ 1000000000) :
    ∃ p q, Low p q (n * d' + n' * d) (d * d') ∧ ∃ K, ∀ k, K ≤ k → impl_frac_plus.f k a b a' b' = some (p, q) := by
  have h1 := L.num_le
  have h2 := L.den_le
  have h3 := L'.num_le
  have h4 := L'.den_le
  have m1 := mul9 (x := a) (y := b') (by omega) (by omega)
  have m2 := mul9 (x := b) (y := b') (by omega) (by omega)
  have m3 := mul9 (x := a') (y := b) (by omega) (by omega)
  have hb := Int.mul_pos L.pos L'.pos
  obtain ⟨p, q, M, E⟩ := lowest_ev (n := a * b' + a' * b) (d := b * b') (by omega) (by omega) (by omega)
  refine ⟨p, q, M.turn (Int.mul_ne_zero L.ne L'.ne) ?_, ?_⟩
  · have e1 := L.eq
    have e2 := L'.eq
    grind
  · show Ev (fun k => impl_frac_plus.f k a b a' b') (p, q)
    refine Ev.congr (fun k => by unfold impl_frac_plus.f; rw [w64 (x := a * b') (by omega) (by omega), w64 (x := a' * b) (by omega) (by omega), w64 (x := b * b') (by omega) (by omega), w64 (by omega) (by omega)]) (Ev.bind E (Ev.some fun k => rfl))

/-- What times returns. -/
theorem times_ev {a b n d a' b' n' d' : Int} (L : Low a b n d) (L' : Low a' b' n' d')
    (hn : n.natAbs ≤ 1000000000) (hd : d.natAbs ≤ 1000000000) (hn' : n'.natAbs ≤ 1000000000) (hd' : d'.natAbs ≤ 1000000000) :
    ∃ p q, Low p q (n * n') (d * d') ∧ ∃ K, ∀ k, K ≤ k → impl_frac_times.f k a b a' b' = some (p, q) := by
  have h1 := L.num_le
  have h2 := L.den_le
  have h3 := L'.num_le
  have h4 := L'.den_le
  have m1 := mul9 (x := a) (y := a') (by omega) (by omega)
  have m2 := mul9 (x := b) (y := b') (by omega) (by omega)
  have hb := Int.mul_pos L.pos L'.pos
  obtain ⟨p, q, M, E⟩ := lowest_ev (n := a * a') (d := b * b') (by omega) (by omega) (by omega)
  refine ⟨p, q, M.turn (Int.mul_ne_zero L.ne L'.ne) ?_, ?_⟩
  · have e1 := L.eq
    have e2 := L'.eq
    grind
  · show Ev (fun k => impl_frac_times.f k a b a' b') (p, q)
    refine Ev.congr (fun k => by unfold impl_frac_times.f; rw [w64 (by omega) (by omega), w64 (by omega) (by omega)]) (Ev.bind E (Ev.some fun k => rfl))

theorem low_one (n : Int) : Low n 1 n 1 := ⟨by decide, by decide, rfl, by simp⟩

/-- In parts of o ^ n: the chance that n days behind a dry (a wet) day a dry one (g: a wet one) is there. -/
def laterX (w d o : Int) (g : Bool) : Nat → Int × Int
  | 0 => if g then (0, 1) else (1, 0)
  | n + 1 => ((o - w) * (laterX w d o g n).1 + w * (laterX w d o g n).2, d * (laterX w d o g n).1 + (o - d) * (laterX w d o g n).2)

theorem laterX_fit {w d o : Int} (w0 : 0 ≤ w) (w1 : w ≤ o) (d0 : 0 ≤ d) (d1 : d ≤ o) (g : Bool) : ∀ n, 0 ≤ (laterX w d o g n).1 ∧ (laterX w d o g n).1 ≤ o ^ n ∧ 0 ≤ (laterX w d o g n).2 ∧ (laterX w d o g n).2 ≤ o ^ n
  | 0 => by cases g <;> simp [laterX]
  | n + 1 => by
    obtain ⟨h1, h2, h3, h4⟩ := laterX_fit w0 w1 d0 d1 g n
    simp only [laterX]
    have a1 := Int.mul_nonneg (a := o - w) (by omega) h1
    have a2 := Int.mul_nonneg (a := w) (by omega) h3
    have a3 := Int.mul_nonneg (a := d) (by omega) h1
    have a4 := Int.mul_nonneg (a := o - d) (by omega) h3
    have b1 := Int.mul_le_mul_of_nonneg_left h2 (show 0 ≤ o - w by omega)
    have b2 := Int.mul_le_mul_of_nonneg_left h4 w0
    have b3 := Int.mul_le_mul_of_nonneg_left h2 d0
    have b4 := Int.mul_le_mul_of_nonneg_left h4 (show 0 ≤ o - d by omega)
    have e1 : (o - w) * o ^ n + w * o ^ n = o ^ (n + 1) := by rw [Int.pow_succ]; grind
    have e2 : d * o ^ n + (o - d) * o ^ n = o ^ (n + 1) := by rw [Int.pow_succ]; grind
    refine ⟨by omega, by omega, by omega, by omega⟩

theorem pow10 {o : Int} (h0 : 1 ≤ o) (h1 : o ≤ 10) {n : Nat} (hn : n ≤ 8) : 1 ≤ o ^ n ∧ o ^ n ≤ 100000000 := by
  have := (by decide +kernel : ∀ i : Fin 10, ∀ j : Fin 9, (1 : Int) ≤ ((i.val : Int) + 1) ^ j.val ∧ ((i.val : Int) + 1) ^ j.val ≤ 100000000) ⟨(o - 1).toNat, by omega⟩ ⟨n, by omega⟩
  rw [show (((o - 1).toNat : Nat) : Int) + 1 = o from by omega] at this
  exact this

theorem other_d : impl_otherDay.f 100 = some 119 := rfl
theorem other_w : impl_otherDay.f 119 = some 100 := rfl

/-- What later returns, from a dry and from a wet day. -/
theorem later_ev {w d o g : Int} (c : 1 ≤ o ∧ o ≤ 10 ∧ 0 ≤ w ∧ w ≤ o ∧ 0 ≤ d ∧ d ≤ o) (hg : g = 100 ∨ g = 119) : ∀ n : Nat, n ≤ 8 →
    ∃ p q r s, Low p q (laterX w d o (g == 119) n).1 (o ^ n) ∧ Low r s (laterX w d o (g == 119) n).2 (o ^ n) ∧
      ∃ K, ∀ k, K ≤ k → impl_Chain_later.f k w d o 100 g n = some (p, q) ∧ impl_Chain_later.f k w d o 119 g n = some (r, s) := by
  intro n
  induction n with
  | zero =>
    intro _
    rcases hg with rfl | rfl
    · refine ⟨1, 1, 0, 1, by simpa [laterX] using low_one 1, by simpa [laterX] using low_one 0, 1, fun k hk => ?_⟩
      obtain ⟨k, rfl⟩ : ∃ m, k = m + 1 := ⟨k - 1, by omega⟩
      simp [impl_Chain_later.f, impl_whole.f]
    · refine ⟨0, 1, 1, 1, by simpa [laterX] using low_one 0, by simpa [laterX] using low_one 1, 1, fun k hk => ?_⟩
      obtain ⟨k, rfl⟩ : ∃ m, k = m + 1 := ⟨k - 1, by omega⟩
      simp [impl_Chain_later.f, impl_whole.f]
  | succ n ih =>
    intro hn
    obtain ⟨p, q, r, s, L1, L2, K, E⟩ := ih (by omega)
    obtain ⟨f1, f2, f3, f4⟩ := laterX_fit c.2.2.1 c.2.2.2.1 c.2.2.2.2.1 c.2.2.2.2.2 (g == 119) n
    obtain ⟨b1, b2⟩ := pow10 c.1 c.2.1 (n := n) (by omega)
    obtain ⟨b3, b4⟩ := pow10 c.1 c.2.1 (n := n + 1) hn
    obtain ⟨n0, n1, a1, a2, N1, Kn1, En1⟩ := next_ev (a := 100) (b := 100) c (by simp) (by simp)
    obtain ⟨n2, n3, a3, a4, N2, Kn2, En2⟩ := next_ev (a := 100) (b := 119) c (by simp) (by simp)
    obtain ⟨n4, n5, a5, a6, N3, Kn3, En3⟩ := next_ev (a := 119) (b := 100) c (by simp) (by simp)
    obtain ⟨n6, n7, a7, a8, N4, Kn4, En4⟩ := next_ev (a := 119) (b := 119) c (by simp) (by simp)
    obtain ⟨c1, c2, M1, Km1, Em1⟩ := times_ev N1 L1 (by omega) (by omega) (by omega) (by omega)
    obtain ⟨c3, c4, M2, Km2, Em2⟩ := times_ev N2 L2 (by omega) (by omega) (by omega) (by omega)
    obtain ⟨c5, c6, M3, Km3, Em3⟩ := times_ev N4 L2 (by omega) (by omega) (by omega) (by omega)
    obtain ⟨c7, c8, M4, Km4, Em4⟩ := times_ev N3 L1 (by omega) (by omega) (by omega) (by omega)
    have e : o * o ^ n = o ^ (n + 1) := by rw [Int.pow_succ, Int.mul_comm]
    rw [e] at M1 M2 M3 M4
    have u1 := mul_fits (x := nextX w d o 100 100) (A := 10) (y := (laterX w d o (g == 119) n).1) (B := 10000000) (by omega) (by have := (pow10 c.1 c.2.1 (n := n) (by omega)).2; have := (by decide +kernel : ∀ i : Fin 10, ∀ j : Fin 8, ((i.val : Int) + 1) ^ j.val ≤ 10000000) ⟨(o - 1).toNat, by omega⟩ ⟨n, by omega⟩; rw [show (((o - 1).toNat : Nat) : Int) + 1 = o from by omega] at this; simp only at this; omega)
    have b5 : o ^ n ≤ 10000000 := by
      have := (by decide +kernel : ∀ i : Fin 10, ∀ j : Fin 8, ((i.val : Int) + 1) ^ j.val ≤ 10000000) ⟨(o - 1).toNat, by omega⟩ ⟨n, by omega⟩
      rw [show (((o - 1).toNat : Nat) : Int) + 1 = o from by omega] at this
      exact this
    have u2 := mul_fits (x := nextX w d o 100 119) (A := 10) (y := (laterX w d o (g == 119) n).2) (B := 10000000) (by omega) (by omega)
    have u3 := mul_fits (x := nextX w d o 119 119) (A := 10) (y := (laterX w d o (g == 119) n).2) (B := 10000000) (by omega) (by omega)
    have u4 := mul_fits (x := nextX w d o 119 100) (A := 10) (y := (laterX w d o (g == 119) n).1) (B := 10000000) (by omega) (by omega)
    obtain ⟨x1, x2, P1, Kp1, Ep1⟩ := plus_ev M1 M2 (by omega) (by omega) (by omega) (by omega)
    obtain ⟨x3, x4, P2, Kp2, Ep2⟩ := plus_ev M3 M4 (by omega) (by omega) (by omega) (by omega)
    refine ⟨x1, x2, x3, x4, P1.turn (by omega) ?_, P2.turn (by omega) ?_, K + Kn1 + Kn2 + Kn3 + Kn4 + Km1 + Km2 + Km3 + Km4 + Kp1 + Kp2 + 1, fun k hk => ?_⟩
    · show (nextX w d o 100 100 * _ * _ + nextX w d o 100 119 * _ * _) * _ = ((o - w) * _ + w * _) * _
      rw [show nextX w d o 100 100 = o - w from rfl, show nextX w d o 100 119 = w from rfl]
      grind
    · show (nextX w d o 119 119 * _ * _ + nextX w d o 119 100 * _ * _) * _ = (d * _ + (o - d) * _) * _
      rw [show nextX w d o 119 119 = o - d from rfl, show nextX w d o 119 100 = d from rfl]
      grind
    · obtain ⟨k, rfl⟩ : ∃ m, k = m + 1 := ⟨k - 1, by omega⟩
      obtain ⟨e1, e2⟩ := E k (by omega)
      have hx : wrap64 (((n + 1 : Nat) : Int) - 1) = (n : Int) := by rw [w64 (by omega) (by omega)]; omega
      have hz : ¬ ((n + 1 : Nat) : Int) = 0 := by omega
      constructor
      · simp only [impl_Chain_later.f, if_neg hz, hx, other_d, e1, e2, En1 k (by omega), En2 k (by omega), Em1 k (by omega), Em2 k (by omega), Ep1 k (by omega), Option.bind_some]
      · simp only [impl_Chain_later.f, if_neg hz, hx, other_w, e1, e2, En3 k (by omega), En4 k (by omega), Em3 k (by omega), Em4 k (by omega), Ep2 k (by omega), Option.bind_some]

theorem cnLater_l0 {w d o : Int} (c : 1 ≤ o ∧ o ≤ 10 ∧ 0 ≤ w ∧ w ≤ o ∧ 0 ≤ d ∧ d ≤ o) : ∀ (n k : Nat) (x y z : Int), n < k → n ≤ 8 → 0 ≤ x → 0 ≤ y → (x + y) * o ^ n ≤ 100000000 → 0 < z → z * o ^ n ≤ 100000000 →
    spec_cnLater.l0 k n x y z w d o = some (x * (laterX w d o false n).1 + y * (laterX w d o false n).2, x * (laterX w d o true n).1 + y * (laterX w d o true n).2, z * o ^ n) := by
  intro n
  induction n with
  | zero =>
    intro k x y z hk hn hx hy hxy hz hzz
    obtain ⟨k, rfl⟩ : ∃ m, k = m + 1 := ⟨k - 1, by omega⟩
    simp only [spec_cnLater.l0]
    rw [if_neg (by omega)]
    simp [laterX]
  | succ n ih =>
    intro k x y z hk hn hx hy hxy hz hzz
    obtain ⟨k, rfl⟩ : ∃ m, k = m + 1 := ⟨k - 1, by omega⟩
    obtain ⟨c1, c2, c3, c4, c5, c6⟩ := c
    have hp := (pow10 c1 c2 (n := n) (by omega)).1
    rw [show o ^ (n + 1) = o * o ^ n from by rw [Int.pow_succ, Int.mul_comm]] at hxy hzz ⊢
    have p1 := Int.mul_nonneg hx (show 0 ≤ o - w by omega)
    have p2 := Int.mul_nonneg hx c3
    have p3 := Int.mul_nonneg hy (show 0 ≤ o - d by omega)
    have p4 := Int.mul_nonneg hy c5
    have e1 : (x + y) * (o * o ^ n) = (x * (o - w) + y * d + (x * w + y * (o - d))) * o ^ n := by grind
    have e2 : z * (o * o ^ n) = z * o * o ^ n := by grind
    rw [e1] at hxy
    rw [e2] at hzz
    have q1 : (x * (o - w) + y * d + (x * w + y * (o - d))) * 1 ≤ (x * (o - w) + y * d + (x * w + y * (o - d))) * o ^ n := Int.mul_le_mul_of_nonneg_left hp (by omega)
    have q2 : 0 < z * o := Int.mul_pos hz (by omega)
    have q3 : z * o * 1 ≤ z * o * o ^ n := Int.mul_le_mul_of_nonneg_left hp (by omega)
    simp only [spec_cnLater.l0]
    rw [if_pos (by omega), w64 (x := ((n + 1 : Nat) : Int) - 1) (by omega) (by omega), w64 (x := o - w) (by omega) (by omega), w64 (x := o - d) (by omega) (by omega), w64 (x := x * (o - w)) (by omega) (by omega), w64 (x := y * d) (by omega) (by omega),
      w64 (x := x * w) (by omega) (by omega), w64 (x := y * (o - d)) (by omega) (by omega), w64 (x := z * o) (by omega) (by omega), w64 (x := x * (o - w) + y * d) (by omega) (by omega), w64 (x := x * w + y * (o - d)) (by omega) (by omega)]
    rw [show ((n + 1 : Nat) : Int) - 1 = (n : Int) from by omega, ih k _ _ _ (by omega) (by omega) (by omega) (by omega) hxy q2 hzz, e2]
    simp only [laterX]
    congr 2
    · grind
    · congr 1
      grind

theorem cnLater_is {w d o : Int} (c : 1 ≤ o ∧ o ≤ 10 ∧ 0 ≤ w ∧ w ≤ o ∧ 0 ≤ d ∧ d ≤ o) (n k : Nat) (hk : n + 2 ≤ k) (hn : n ≤ 8) :
    spec_cnLater.f k w d o 100 n = some ((laterX w d o false n).1, (laterX w d o true n).1, o ^ n) ∧ spec_cnLater.f k w d o 119 n = some ((laterX w d o false n).2, (laterX w d o true n).2, o ^ n) := by
  obtain ⟨k, rfl⟩ : ∃ m, k = m + 1 := ⟨k - 1, by omega⟩
  have hp := pow10 c.1 c.2.1 hn
  constructor
  · simp only [spec_cnLater.f]
    rw [if_neg (by decide)]
    simp only [spec_cnLater.j0]
    rw [cnLater_l0 c n k 1 0 1 (by omega) hn (by omega) (by omega) (by omega) (by omega) (by omega)]
    simp
  · simp only [spec_cnLater.f, ↓reduceIte]
    simp only [spec_cnLater.j0]
    rw [cnLater_l0 c n k 0 1 1 (by omega) hn (by omega) (by omega) (by omega) (by omega) (by omega)]
    simp

theorem in_true {n a b : Int} (h : a ≤ n ∧ n ≤ b) : (if n ≥ a then some (decide (n ≤ b)) else some false) = some true := by
  rw [if_pos h.1, decide_eq_true h.2]
theorem in_false {n a b : Int} (h : ¬ (a ≤ n ∧ n ≤ b)) : (if n ≥ a then some (decide (n ≤ b)) else some false) = some false := by
  by_cases h1 : n ≥ a
  · rw [if_pos h1, decide_eq_false (by omega)]
  · rw [if_neg h1]

/-- The sum of the first chances, in parts of o ^ n. -/
def sumX (o : Int) (f : Nat → Int) : Nat → Int
  | 0 => 0
  | n + 1 => sumX o f n * o + f (n + 1)

theorem sumX_fit {o : Int} {f : Nat → Int} (o0 : 1 ≤ o) (hf : ∀ n, 0 ≤ f n ∧ f n ≤ o ^ n) : ∀ n, 0 ≤ sumX o f n ∧ sumX o f n ≤ n * o ^ n
  | 0 => by simp [sumX]
  | n + 1 => by
    obtain ⟨h1, h2⟩ := sumX_fit o0 hf n
    obtain ⟨h3, h4⟩ := hf (n + 1)
    simp only [sumX]
    have m1 := Int.mul_nonneg h1 (show 0 ≤ o by omega)
    have m2 := Int.mul_le_mul_of_nonneg_right h2 (show 0 ≤ o by omega)
    have e : ((n + 1 : Nat) : Int) * o ^ (n + 1) = n * o ^ n * o + o ^ (n + 1) := by
      rw [Int.pow_succ, show ((n + 1 : Nat) : Int) = (n : Int) + 1 from by omega]
      grind
    omega

theorem sumX_le {o : Int} {f : Nat → Int} (o0 : 1 ≤ o) (o1 : o ≤ 10) (hf : ∀ n, 0 ≤ f n ∧ f n ≤ o ^ n) {n : Nat} (hn : n ≤ 8) : 0 ≤ sumX o f n ∧ sumX o f n ≤ 800000000 := by
  obtain ⟨h1, h2⟩ := sumX_fit o0 hf n
  have b := pow10 o0 o1 hn
  have m1 := mul_fits (x := (n : Int)) (A := 8) (y := o ^ n) (B := 100000000) (by omega) (by omega)
  omega

theorem cnWets_l0 {w d o a : Int} {s : ByteArray} {f : Nat → Int} {m : Nat} (hs : 0 < (s.size : Int)) (hb : bt s 0 = a) (o0 : 1 ≤ o) (o1 : o ≤ 10) (hf : ∀ n, 0 ≤ f n ∧ f n ≤ o ^ n) (hm : m ≤ 8)
    (H : ∀ n k : Nat, n + 2 ≤ k → n ≤ 8 → ∃ z, spec_cnLater.f k w d o a n = some (z, f n, o ^ n)) :
    ∀ (n j k : Nat), n + 12 ≤ k → j + n = m →
    spec_MeanWets.l0 k s m (sumX o f j) (o ^ j) ((j : Int) + 1) w d o = (spec_cnLow.f (k - n - 1) (sumX o f m) (o ^ m)).bind fun x => some (x.1, x.2, true) := by
  intro n
  induction n with
  | zero =>
    intro j k hk hjm
    obtain ⟨k, rfl⟩ : ∃ m, k = m + 1 := ⟨k - 1, by omega⟩
    simp only [spec_MeanWets.l0]
    rw [if_neg (by omega), show j = m from by omega]
    rfl
  | succ n ih =>
    intro j k hk hjm
    obtain ⟨k, rfl⟩ : ∃ m, k = m + 1 := ⟨k - 1, by omega⟩
    obtain ⟨z, hz⟩ := H (j + 1) k (by omega) (by omega)
    have b1 := pow10 o0 o1 (n := j) (by omega)
    have b2 := sumX_le o0 o1 hf (n := j) (by omega)
    have b3 := sumX_le o0 o1 hf (n := j + 1) (by omega)
    have hd : Int.tdiv (o ^ (j + 1)) (o ^ j) = o := by
      rw [Int.pow_succ, Int.mul_tdiv_cancel_left _ (by omega)]
    have m1 := mul_fits (x := sumX o f j) (A := 800000000) (y := o) (B := 10) (by omega) (by omega)
    simp only [spec_MeanWets.l0]
    rw [if_pos (by omega), if_pos hs, hb, show (j : Int) + 1 = ((j + 1 : Nat) : Int) from by omega, hz]
    simp only [Option.bind_some]
    rw [if_neg (by omega), hd, w64 (x := o) (by omega) (by omega), w64 (x := sumX o f j * o) (by omega) (by omega), show sumX o f j * o + f (j + 1) = sumX o f (j + 1) from rfl, w64 (x := sumX o f (j + 1)) (by omega) (by omega),
      w64 (x := ((j + 1 : Nat) : Int) + 1) (by omega) (by omega), ih (j + 1) k (by omega) (by omega)]
    rw [show k + 1 - (n + 1) - 1 = k - n - 1 from by omega]

theorem wets_l0 {w d o a : Int} {s : ByteArray} {f : Nat → Int} {m : Nat} (hs : 0 < (s.size : Int)) (hb : bt s 0 = a) (o0 : 1 ≤ o) (o1 : o ≤ 10) (hf : ∀ n, 0 ≤ f n ∧ f n ≤ o ^ n) (hm : m ≤ 8)
    (H : ∀ n : Nat, n ≤ 8 → ∃ p q, Low p q (f n) (o ^ n) ∧ ∃ K, ∀ k, K ≤ k → impl_Chain_later.f k w d o a 119 n = some (p, q)) :
    ∀ (n j : Nat) (p q : Int), j + n = m → Low p q (sumX o f j) (o ^ j) →
    ∃ r v, Low r v (sumX o f m) (o ^ m) ∧ ∃ K, ∀ k, K ≤ k → impl_MeanWets.l0 k s m j w d o p q = some (r, v, true) := by
  intro n
  induction n with
  | zero =>
    intro j p q hjm L
    obtain rfl : j = m := by omega
    refine ⟨p, q, L, 1, fun k hk => ?_⟩
    obtain ⟨k, rfl⟩ : ∃ m, k = m + 1 := ⟨k - 1, by omega⟩
    simp only [impl_MeanWets.l0]
    rw [if_neg (by omega)]
    rfl
  | succ n ih =>
    intro j p q hjm L
    obtain ⟨p1, q1, L1, K1, E1⟩ := H (j + 1) (by omega)
    have b1 := pow10 o0 o1 (n := j) (by omega)
    have b2 := sumX_le o0 o1 hf (n := j) (by omega)
    have b4 := hf (j + 1)
    have b3 := pow10 o0 o1 (n := j + 1) (by omega)
    obtain ⟨p2, q2, L2, K2, E2⟩ := plus_ev L L1 (by omega) (by omega) (by omega) (by omega)
    have L3 : Low p2 q2 (sumX o f (j + 1)) (o ^ (j + 1)) := L2.turn (by omega) (by
      simp only [sumX]
      rw [Int.pow_succ]
      grind)
    obtain ⟨r, v, L4, K4, E4⟩ := ih (j + 1) p2 q2 (by omega) L3
    refine ⟨r, v, L4, K1 + K2 + K4 + 1, fun k hk => ?_⟩
    obtain ⟨k, rfl⟩ : ∃ m, k = m + 1 := ⟨k - 1, by omega⟩
    simp only [impl_MeanWets.l0]
    rw [if_pos (by omega), if_pos hs, hb, w64 (x := (j : Int) + 1) (by omega) (by omega), show (j : Int) + 1 = ((j + 1 : Nat) : Int) from by omega, E1 k (by omega)]
    simp only [Option.bind_some]
    rw [E2 k (by omega)]
    simp only [Option.bind_some]
    exact E4 k (by omega)

theorem FnExactMeanWets (w d o : Int) (s : ByteArray) (n : Int) (ww : (Lit.int .i64 w).wf = true) (wd : (Lit.int .i64 d).wf = true) (wo : (Lit.int .i64 o).wf = true) (ws : s.size ≤ 140737488351232) (wn : (Lit.int .i64 n).wf = true) : ∃ k, laws_FnExactMeanWets.f k w d o s n = some true := by
  have g1 := cnDay_is w d o s
  have g2 := isChain_is w d o
  have g3 := isDay_is s
  by_cases c : 1 ≤ o ∧ o ≤ 10 ∧ 0 ≤ w ∧ w ≤ o ∧ 0 ≤ d ∧ d ≤ o
  · rw [decide_eq_true c] at g1 g2
    cases hs : isD s with
    | false =>
      rw [hs] at g1 g3
      refine ⟨3, ?_⟩
      simp only [laws_FnExactMeanWets.f, laws_toChain.f, spec_MeanWets.f, impl_MeanWets.f, spec_MeanWets.j0, impl_MeanWets.j0, g1, g2, g3, Option.bind_some, Bool.true_and, ↓reduceIte, Bool.false_eq_true]
      simp
    | true =>
      rw [hs] at g1 g3
      by_cases hn : 0 ≤ n ∧ n ≤ 8
      · have i1 := in_true hn
        obtain ⟨n, rfl⟩ : ∃ m : Nat, n = m := ⟨n.toNat, by omega⟩
        have zs : (s.size : Int) = 1 := by rcases day_cases hs with rfl | rfl <;> rfl
        have zp : 0 < (s.size : Int) := by omega
        have key : ∃ f : Nat → Int, (∀ n, 0 ≤ f n ∧ f n ≤ o ^ n) ∧ (∀ n k : Nat, n + 2 ≤ k → n ≤ 8 → ∃ z, spec_cnLater.f k w d o (bt s 0) n = some (z, f n, o ^ n)) ∧
            ∀ n : Nat, n ≤ 8 → ∃ p q, Low p q (f n) (o ^ n) ∧ ∃ K, ∀ k, K ≤ k → impl_Chain_later.f k w d o (bt s 0) 119 n = some (p, q) := by
          rcases day_cases hs with rfl | rfl
          · refine ⟨fun n => (laterX w d o true n).1, fun n => ?_, fun n k hk hn => ⟨_, (cnLater_is c n k hk hn).1⟩, fun n hn => ?_⟩
            · obtain ⟨f1, f2, f3, f4⟩ := laterX_fit c.2.2.1 c.2.2.2.1 c.2.2.2.2.1 c.2.2.2.2.2 true n
              exact ⟨f1, f2⟩
            · obtain ⟨p, q, r, v, L1, L2, K, E⟩ := later_ev (g := 119) c (by simp) n hn
              exact ⟨p, q, L1, K, fun k hk => (E k hk).1⟩
          · refine ⟨fun n => (laterX w d o true n).2, fun n => ?_, fun n k hk hn => ⟨_, (cnLater_is c n k hk hn).2⟩, fun n hn => ?_⟩
            · obtain ⟨f1, f2, f3, f4⟩ := laterX_fit c.2.2.1 c.2.2.2.1 c.2.2.2.2.1 c.2.2.2.2.2 true n
              exact ⟨f3, f4⟩
            · obtain ⟨p, q, r, v, L1, L2, K, E⟩ := later_ev (g := 119) c (by simp) n hn
              exact ⟨r, v, L2, K, fun k hk => (E k hk).2⟩
        obtain ⟨f, hf, H1, H2⟩ := key
        obtain ⟨r, v, L, K, E⟩ := wets_l0 (m := n) zp rfl c.1 c.2.1 hf (by omega) H2 n 0 0 1 (by omega) (by simpa [sumX] using low_one 0)
        have b2 := sumX_le c.1 c.2.1 hf (n := n) (by omega)
        have b3 := pow10 c.1 c.2.1 (n := n) (by omega)
        obtain ⟨K', E'⟩ := cnLow_is L b2.1 (by omega) (by omega) (by omega) rfl
        refine ⟨K + K' + n + 20, ?_⟩
        have q1 : spec_MeanWets.f (K + K' + n + 20) w d o s n = some (r, v, true) := by
          simp only [spec_MeanWets.f, spec_MeanWets.j0, spec_l1In.f, g1, i1, Option.bind_some, Bool.true_and, ↓reduceIte, Bool.false_eq_true, Bool.not_true]
          have := cnWets_l0 (m := n) zp rfl c.1 c.2.1 hf (by omega) H1 n 0 (K + K' + n + 19) (by omega) (by omega)
          rw [show sumX o f 0 = 0 from rfl, Int.pow_zero, show ((0 : Nat) : Int) + 1 = 1 from rfl, E' _ (by omega)] at this
          exact this
        have q2 : impl_MeanWets.f (K + K' + n + 20) w d o s n = some (r, v, true) := by
          simp only [impl_MeanWets.f, impl_MeanWets.j0, impl_within.f, impl_whole.f, g2, g3, i1, Option.bind_some, ↓reduceIte, Bool.false_eq_true, Bool.not_true]
          exact E _ (by omega)
        simp only [laws_FnExactMeanWets.f, laws_toChain.f, Option.bind_some, q1, q2]
        simp
      · have i1 := in_false hn
        refine ⟨3, ?_⟩
        simp only [laws_FnExactMeanWets.f, laws_toChain.f, spec_MeanWets.f, impl_MeanWets.f, spec_MeanWets.j0, impl_MeanWets.j0, spec_l1In.f, impl_within.f, g1, g2, g3, i1, Option.bind_some, Bool.true_and, ↓reduceIte, Bool.false_eq_true, Bool.not_false]
        simp
  · rw [decide_eq_false c] at g1 g2
    refine ⟨3, ?_⟩
    simp only [laws_FnExactMeanWets.f, laws_toChain.f, spec_MeanWets.f, impl_MeanWets.f, spec_MeanWets.j0, impl_MeanWets.j0, g1, g2, Option.bind_some, Bool.false_and, ↓reduceIte, Bool.false_eq_true]
    simp

end Go.Proofs.Ytnfcfhieocgomaa.Pure
