/- For all arguments the program and the reference return the same from MeanUntil: the plain statement over numbers and lists, and its proof. -/
import Derived.Test.YtnfcfhieocgomaaPFnExactMeanUntilx1
import Derived.Test.YtnfcfhieocgomaaPFnExactMeanUntilx2
import Derived.Test.YtnfcfhieocgomaaPFnExactMeanUntilx3
import Derived.Test.YtnfcfhieocgomaaPFnExactMeanUntilx4
namespace Go.Proofs.Ytnfcfhieocgomaa.Pure
open Go.RowKit Go.Proofs.Ytnfcfhieocgomaa.PFnExactMeanUntil Go.Proofs.YtnfcfhieocgomaaW.PrintWords Go.Proofs.YtnfcfhieocgomaaW.PrintLast Go.Proofs.YtnfcfhieocgomaaW.PrintMore
set_option linter.unusedVariables false
set_option linter.unusedSimpArgs false
set_option maxRecDepth 100000
theorem w64 {x : Int} (h0 : -9223372036854775808 ≤ x) (h1 : x ≤ 9223372036854775807) : wrap64 x = x := by
  unfold wrap64
  omega

theorem mul_fits {x y A B : Int} (hx : x.natAbs ≤ A.natAbs) (hy : y.natAbs ≤ B.natAbs) : (x * y).natAbs ≤ (A * B).natAbs := by
  rw [Int.natAbs_mul, Int.natAbs_mul]
  exact Nat.mul_le_mul hx hy

/-- A product of numbers of at most nine digits. -/
theorem mul9 {x y : Int} (hx : x.natAbs ≤ 1000000000) (hy : y.natAbs ≤ 1000000000) : (x * y).natAbs ≤ 1000000000000000000 := by
  rw [Int.natAbs_mul]
  exact Nat.le_trans (Nat.mul_le_mul hx hy) (by decide)

theorem wf_range {a : Int} (h : (Lit.int .i64 a).wf = true) : -9223372036854775808 ≤ a ∧ a ≤ 9223372036854775807 := by
  simp [Lit.wf, IntKind.min, IntKind.max, IntKind.signed, IntKind.bits] at h
  omega

/-- Is a chain: as both tell it. -/
theorem cnGood_is (w d o : Int) : spec_cnGood.f w d o = some (decide (1 ≤ o ∧ o ≤ 10 ∧ 0 ≤ w ∧ w ≤ o ∧ 0 ≤ d ∧ d ≤ o)) := by
  unfold spec_cnGood.f spec_l1In.f
  by_cases h1 : 1 ≤ o ∧ o ≤ 10 ∧ 0 ≤ w ∧ w ≤ o ∧ 0 ≤ d ∧ d ≤ o
  · rw [decide_eq_true h1]
    obtain ⟨h1, h2, h3, h4, h5, h6⟩ := h1
    simp [*]
  · rw [decide_eq_false h1]
    grind

theorem isChain_is (w d o : Int) : impl_IsChain.f w d o = some (decide (1 ≤ o ∧ o ≤ 10 ∧ 0 ≤ w ∧ w ≤ o ∧ 0 ≤ d ∧ d ≤ o)) := by
  unfold impl_IsChain.f impl_within.f
  by_cases h1 : 1 ≤ o ∧ o ≤ 10 ∧ 0 ≤ w ∧ w ≤ o ∧ 0 ≤ d ∧ d ≤ o
  · rw [decide_eq_true h1]
    obtain ⟨h1, h2, h3, h4, h5, h6⟩ := h1
    simp [*]
  · rw [decide_eq_false h1]
    grind

/-- Is a text one day? -/
def isD (s : ByteArray) : Bool := if s.toList = [100] then true else s.toList == [119]

theorem isDay_is (s : ByteArray) : impl_isDay.f s = some (isD s) := by
  unfold impl_isDay.f isD
  by_cases h : s.toList = [100]
  · rw [if_pos h, if_pos h]
  · rw [if_neg h, if_neg h]

theorem day_cases {s : ByteArray} (h : isD s = true) : s = ⟨#[100]⟩ ∨ s = ⟨#[119]⟩ := by
  unfold isD at h
  rw [ByteArray.toList_eq] at h
  by_cases h1 : s.data.toList = [100]
  · left
    apply ByteArray.ext
    apply Array.toList_inj.1
    exact h1
  · right
    rw [if_neg h1, beq_iff_eq] at h
    apply ByteArray.ext
    apply Array.toList_inj.1
    exact h

theorem sizeD : ((⟨#[100]⟩ : ByteArray).size : Int) = 1 := rfl
theorem sizeW : ((⟨#[119]⟩ : ByteArray).size : Int) = 1 := rfl
theorem btD : bt (⟨#[100]⟩ : ByteArray) 0 = 100 := rfl
theorem btW : bt (⟨#[119]⟩ : ByteArray) 0 = 119 := rfl
theorem listD : (⟨#[100]⟩ : ByteArray).toList = [100] := by rw [ByteArray.toList_eq]
theorem listW : (⟨#[119]⟩ : ByteArray).toList = [119] := by rw [ByteArray.toList_eq]

theorem cnDay_is (w d o : Int) (s : ByteArray) : spec_cnDay.f w d o s = some (decide (1 ≤ o ∧ o ≤ 10 ∧ 0 ≤ w ∧ w ≤ o ∧ 0 ≤ d ∧ d ≤ o) && isD s) := by
  unfold spec_cnDay.f
  rw [cnGood_is]
  by_cases c : 1 ≤ o ∧ o ≤ 10 ∧ 0 ≤ w ∧ w ≤ o ∧ 0 ≤ d ∧ d ≤ o
  · rw [decide_eq_true c]
    simp only [Option.bind_some, ↓reduceIte, Bool.true_and]
    unfold isD
    by_cases h : s.toList = [100]
    · rw [if_pos h, if_pos h]
    · rw [if_neg h, if_neg h]
  · rw [decide_eq_false c]
    simp

/-- (a, b) is n / d in lowest terms. -/
structure Low (a b n d : Int) : Prop where
  pos : 0 < b
  ne : d ≠ 0
  eq : a * d = n * b
  cop : Int.gcd a b = 1

theorem dvd_of_cop {a b d : Int} (hc : Int.gcd a b = 1) (h : b ∣ a * d) : b ∣ d := by
  rw [← Int.natAbs_dvd_natAbs] at h ⊢
  rw [Int.natAbs_mul] at h
  exact Nat.Coprime.dvd_of_dvd_mul_left (k := b.natAbs) (m := a.natAbs) (n := d.natAbs) (by
    rw [Nat.Coprime, Nat.gcd_comm]; exact hc) (by exact h)

theorem Low.fac {a b n d : Int} (h : Low a b n d) : ∃ g, g ≠ 0 ∧ n = a * g ∧ d = b * g := by
  have hb : b ∣ d := dvd_of_cop h.cop ⟨n, by rw [h.eq, Int.mul_comm]⟩
  obtain ⟨g, rfl⟩ := hb
  have hp := h.pos
  refine ⟨g, fun e => h.ne (by rw [e, Int.mul_zero]), ?_, rfl⟩
  have he := h.eq
  have : b * n = b * (a * g) := by rw [Int.mul_comm b n, ← he, Int.mul_left_comm]
  exact Int.eq_of_mul_eq_mul_left (by omega) this

theorem natAbs_le_of_mul {a g : Int} (hg : g ≠ 0) : a.natAbs ≤ (a * g).natAbs := by
  rw [Int.natAbs_mul]
  exact Nat.le_mul_of_pos_right _ (by omega)

theorem Low.num_le {a b n d : Int} (h : Low a b n d) : a.natAbs ≤ n.natAbs := by
  obtain ⟨g, hg, rfl, _⟩ := h.fac
  exact natAbs_le_of_mul hg

theorem Low.den_le {a b n d : Int} (h : Low a b n d) : b.natAbs ≤ d.natAbs := by
  obtain ⟨g, hg, _, rfl⟩ := h.fac
  exact natAbs_le_of_mul hg

theorem Low.unique {a b a' b' n d n' d' : Int} (h : Low a b n d) (h' : Low a' b' n' d') (e : n * d' = n' * d) : a = a' ∧ b = b' := by
  have hp := h.pos
  have hp' := h'.pos
  have hx : a * b' = a' * b := by
    have hd := h.ne
    have hd' := h'.ne
    have h1 := h.eq
    have h2 := h'.eq
    have : (d * d') * (a * b') = (d * d') * (a' * b) := by grind
    exact Int.eq_of_mul_eq_mul_left (Int.mul_ne_zero hd hd') this
  have h1 : b ∣ b' := dvd_of_cop h.cop ⟨a', by rw [hx, Int.mul_comm]⟩
  have h2 : b' ∣ b := dvd_of_cop h'.cop ⟨a, by rw [← hx, Int.mul_comm]⟩
  have hb : b = b' := Int.le_antisymm (Int.le_of_dvd hp' h1) (Int.le_of_dvd hp h2)
  subst hb
  exact ⟨Int.eq_of_mul_eq_mul_right (by omega) hx, rfl⟩

/-- Change of the told fraction. -/
theorem Low.turn {a b n d n' d' : Int} (h : Low a b n d) (hd : d' ≠ 0) (e : n * d' = n' * d) : Low a b n' d' := by
  refine ⟨h.pos, hd, ?_, h.cop⟩
  have h1 := h.eq
  have h0 := h.ne
  have : d * (a * d') = d * (n' * b) := by grind
  exact Int.eq_of_mul_eq_mul_left h0 this

/-- What a division by the greatest common divisor, with the denominator's sign, gives. -/
theorem low_div {n d g : Int} (hd : d ≠ 0) (hg : g.natAbs = Int.gcd n d) (hs : 0 < d * g) : Low (n.tdiv g) (d.tdiv g) n d := by
  have hg0 : g ≠ 0 := by rintro rfl; omega
  obtain ⟨x, rfl⟩ : g ∣ n := by rw [← Int.natAbs_dvd_natAbs, hg]; exact Nat.gcd_dvd_left _ _
  obtain ⟨y, rfl⟩ : g ∣ d := by rw [← Int.natAbs_dvd_natAbs, hg]; exact Nat.gcd_dvd_right _ _
  rw [Int.mul_tdiv_cancel_left _ hg0, Int.mul_tdiv_cancel_left _ hg0]
  refine ⟨?_, hd, by grind, ?_⟩
  · have h1 : 0 < y * (g * g) := by rw [show y * (g * g) = g * y * g from by grind]; exact hs
    have h2 : 0 < g * g := by
      rcases Int.lt_trichotomy g 0 with h | h | h
      · exact Int.mul_pos_of_neg_of_neg h h
      · exact absurd h hg0
      · exact Int.mul_pos h h
    rcases Int.lt_or_le 0 y with h | h
    · exact h
    · have := Int.mul_nonpos_of_nonpos_of_nonneg h (Int.le_of_lt h2)
      omega
  · rw [Int.gcd_mul_left] at hg
    have : g.natAbs ≠ 0 := by omega
    exact Nat.eq_of_mul_eq_mul_left (Nat.pos_of_ne_zero this) (by omega)

theorem Low.zero {a b d : Int} (h : Low a b 0 d) : a = 0 ∧ b = 1 := by
  have := h.num_le
  have ha : a = 0 := by omega
  subst ha
  have := h.cop
  have hp := h.pos
  simp at this
  omega

theorem Ev.some {α : Type} {g : Nat → Option α} {r : α} (h : ∀ k, g k = Option.some r) : Ev g r := ⟨0, fun k _ => h k⟩

theorem tmod_nn {a b : Int} (ha : 0 ≤ a) (hb : 0 < b) : 0 ≤ Int.tmod a b ∧ Int.tmod a b < b ∧ Int.tmod a b = a % b := by
  rw [Int.tmod_eq_emod_of_nonneg ha]
  exact ⟨Int.emod_nonneg _ (by omega), Int.emod_lt_of_pos _ hb, rfl⟩

theorem gcd_step {a b : Int} (ha : 0 ≤ a) (hb : 0 < b) : Int.gcd b (Int.tmod a b) = Int.gcd a b := by
  rw [(tmod_nn ha hb).2.2, Int.gcd_comm a b]
  have h : a = a % b + b * (a / b) := by rw [Int.emod_add_mul_ediv]
  conv => rhs; rw [h]
  rw [Int.gcd_add_mul_left_right]

theorem common_l0 : ∀ (k : Nat) (a b : Int), 0 ≤ a → 0 ≤ b → b < k → impl_common.l0 k a b = some ((Int.gcd a b : Nat) : Int) := by
  intro k
  induction k with
  | zero => intro a b ha hb hk; omega
  | succ k ih =>
    intro a b ha hb hk
    simp only [impl_common.l0]
    by_cases h : b = 0
    · subst h
      rw [if_pos rfl, Int.gcd_zero_right]
      congr 1
      omega
    · rw [if_neg h]
      have hb' : 0 < b := by omega
      have h3 := tmod_nn ha hb'
      rw [ih b (Int.tmod a b) hb h3.1 (by omega), gcd_step ha hb']

theorem mx_abs {a : Int} (h0 : -9223372036854775808 < a) (h1 : a ≤ 9223372036854775807) : mx a (wrap64 (-a)) = (a.natAbs : Int) := by
  rw [w64 (by omega) (by omega)]
  unfold mx
  split <;> omega

theorem common_ev {a b : Int} (ha : a.natAbs ≤ 9223372036854775807) (hb : b.natAbs ≤ 9223372036854775807) :
    Ev (fun k => impl_common.f k a b) ((Int.gcd a b : Nat) : Int) := by
  refine ⟨b.natAbs + 1, fun k hk => ?_⟩
  show impl_common.f k a b = _
  unfold impl_common.f
  rw [mx_abs (by omega) (by omega), mx_abs (by omega) (by omega), common_l0 k _ _ (by omega) (by omega) (by omega)]
  simp [Int.gcd]

/-- What lowest returns. -/
theorem lowest_ev {n d : Int} (hn : n.natAbs ≤ 9223372036854775807) (hd : d.natAbs ≤ 9223372036854775807) (h0 : d ≠ 0) :
    ∃ a b, Low a b n d ∧ ∃ K, ∀ k, K ≤ k → impl_lowest.f k n d = some (a, b) := by
  have hg : Int.gcd n d ≠ 0 := by
    intro h
    exact h0 (Int.gcd_eq_zero_iff.1 h).2
  have hle : Int.gcd n d ≤ d.natAbs := Nat.le_of_dvd (by omega) (Nat.gcd_dvd_right _ _)
  rcases Int.lt_or_gt_of_ne h0 with h | h
  · have L := low_div (n := n) (d := d) (g := -((Int.gcd n d : Nat) : Int)) h0 (by omega) (Int.mul_pos_of_neg_of_neg h (by omega))
    have hx := L.num_le
    have hy := L.den_le
    refine ⟨_, _, L, ?_⟩
    show Ev (fun k => impl_lowest.f k n d) _
    refine Ev.congr (fun k => by unfold impl_lowest.f; rfl) (Ev.bind (common_ev hn hd) (Ev.some fun k => ?_))
    rw [if_pos h, w64 (x := -((Int.gcd n d : Nat) : Int)) (by omega) (by omega), if_neg (by omega), w64 (by omega) (by omega), w64 (by omega) (by omega)]
  · have L := low_div (n := n) (d := d) (g := ((Int.gcd n d : Nat) : Int)) h0 (by omega) (Int.mul_pos h (by omega))
    have hx := L.num_le
    have hy := L.den_le
    refine ⟨_, _, L, ?_⟩
    show Ev (fun k => impl_lowest.f k n d) _
    refine Ev.congr (fun k => by unfold impl_lowest.f; rfl) (Ev.bind (common_ev hn hd) (Ev.some fun k => ?_))
    rw [if_neg (by omega), if_neg (by omega), w64 (by omega) (by omega), w64 (by omega) (by omega)]

theorem cnLow_l0 : ∀ (k : Nat) (n d a b : Int), 0 ≤ a → 0 ≤ b → b < k → 0 < Int.gcd a b → n.natAbs ≤ 9223372036854775807 → d.natAbs ≤ 9223372036854775807 →
    spec_cnLow.l0 k n d a b = some (wrap64 (Int.tdiv n ((Int.gcd a b : Nat) : Int)), wrap64 (Int.tdiv d ((Int.gcd a b : Nat) : Int))) := by
  intro k
  induction k with
  | zero => intro n d a b ha hb hk; omega
  | succ k ih =>
    intro n d a b ha hb hk hg hn hd
    simp only [spec_cnLow.l0]
    by_cases h : b = 0
    · subst h
      rw [Int.gcd_zero_right] at hg ⊢
      rw [if_neg (by omega), if_neg (by omega), show ((a.natAbs : Nat) : Int) = a from by omega]
    · have hb' : 0 < b := by omega
      have h3 := tmod_nn ha hb'
      rw [if_pos hb', if_neg h, ih n d b (Int.tmod a b) hb h3.1 (by omega) (by rw [gcd_step ha hb']; exact hg) hn hd, gcd_step ha hb']

/-- What cnLow returns of a fraction that is not negative. -/
theorem cnLow_ev {n d : Int} (h0 : 0 ≤ n) (hn : n ≤ 9223372036854775807) (h1 : 0 < d) (hd : d ≤ 9223372036854775807) :
    ∃ a b, Low a b n d ∧ ∃ K, ∀ k, K ≤ k → spec_cnLow.f k n d = some (a, b) := by
  have hg : Int.gcd n d ≠ 0 := by
    intro h
    have := (Int.gcd_eq_zero_iff.1 h).2
    omega
  have L := low_div (n := n) (d := d) (g := ((Int.gcd n d : Nat) : Int)) (by omega) (by omega) (Int.mul_pos h1 (by omega))
  have hx := L.num_le
  have hy := L.den_le
  refine ⟨_, _, L, d.natAbs + 1, fun k hk => ?_⟩
  unfold spec_cnLow.f
  rw [cnLow_l0 k n d n d h0 (by omega) (by omega) (by omega) (by omega) (by omega), w64 (by omega) (by omega), w64 (by omega) (by omega)]

/-- .. so it is what any other way to the lowest terms gives. -/
theorem cnLow_is {a b n d n' d' : Int} (L : Low a b n' d') (h0 : 0 ≤ n) (hn : n ≤ 9223372036854775807) (h1 : 0 < d) (hd : d ≤ 9223372036854775807) (e : n' * d = n * d') :
    ∃ K, ∀ k, K ≤ k → spec_cnLow.f k n d = some (a, b) := by
  obtain ⟨a', b', L', E⟩ := cnLow_ev h0 hn h1 hd
  obtain ⟨rfl, rfl⟩ := L.unique L' e
  exact E

/-- What plus returns. -/
theorem plus_ev {a b n d a' b' n' d' : Int} (L : Low a b n d) (L' : Low a' b' n' d')
    (hn : n.natAbs ≤ 1000000000) (hd : d.natAbs ≤ 1000000000) (hn' : n'.natAbs ≤ 1000000000) (hd' : d'.natAbs ≤ 1000000000) :
    ∃ p q, Low p q (n * d' + n' * d) (d * d') ∧ ∃ K, ∀ k, K ≤ k → impl_frac_plus.f k a b a' b' = some (p, q) := by
  have h1 := L.num_le
  have h2 := L.den_le
  have h3 := L'.num_le
  have h4 := L'.den_le
  have m1 := mul9 (x := a) (y := b') (by omega) (by omega)
  have m2 := mul9 (x := b) (y := b') (by omega) (by omega)
  have m3 := mul9 (x := a') (y := b) (by omega) (by omega)
  have hb := Int.mul_pos L.pos L'.pos
  obtain ⟨p, q, M, E⟩ := lowest_ev (n := a * b' + a' * b) (d := b * b') (by omega) (by omega) (by omega)
  refine ⟨p, q, M.turn (Int.mul_ne_zero L.ne L'.ne) ?_, ?_⟩
  · have e1 := L.eq
    have e2 := L'.eq
    grind
  · show Ev (fun k => impl_frac_plus.f k a b a' b') (p, q)
    refine Ev.congr (fun k => by unfold impl_frac_plus.f; rw [w64 (x := a * b') (by omega) (by omega), w64 (x := a' * b) (by omega) (by omega), w64 (x := b * b') (by omega) (by omega), w64 (by omega) (by omega)]) (Ev.bind E (Ev.some fun k => rfl))

theorem low_one (n : Int) : Low n 1 n 1 := ⟨by decide, by decide, rfl, by simp⟩

theorem FnExactMeanUntil (w d o : Int) (s t : ByteArray) (ww : (Lit.int .i64 w).wf = true) (wd : (Lit.int .i64 d).wf = true) (wo : (Lit.int .i64 o).wf = true) (ws : s.size ≤ 140737488351232) (wt : t.size ≤ 140737488351232) : ∃ k, laws_FnExactMeanUntil.f k w d o s t = some true := by
  have g1 := cnDay_is w d o s
  have g4 := cnDay_is w d o t
  have g2 := isChain_is w d o
  have g3 := isDay_is s
  have g5 := isDay_is t
  by_cases c : 1 ≤ o ∧ o ≤ 10 ∧ 0 ≤ w ∧ w ≤ o ∧ 0 ≤ d ∧ d ≤ o
  · rw [decide_eq_true c] at g1 g2 g4
    cases hs : isD s with
    | false =>
      rw [hs] at g1 g3
      refine ⟨3, ?_⟩
      simp only [laws_FnExactMeanUntil.f, laws_toChain.f, spec_MeanUntil.f, impl_MeanUntil.f, spec_MeanUntil.j0, impl_MeanUntil.j0, g1, g2, g3, Option.bind_some, Bool.true_and, ↓reduceIte, Bool.false_eq_true]
      simp
    | true =>
      cases ht : isD t with
      | false =>
        rw [hs] at g1 g3
        rw [ht] at g4 g5
        refine ⟨3, ?_⟩
        simp only [laws_FnExactMeanUntil.f, laws_toChain.f, spec_MeanUntil.f, impl_MeanUntil.f, spec_MeanUntil.j0, impl_MeanUntil.j0, g1, g2, g3, g4, g5, Option.bind_some, Bool.true_and, ↓reduceIte, Bool.false_eq_true, Bool.not_false]
        simp
      | true =>
        rw [hs] at g1 g3
        rw [ht] at g4 g5
        have zs : (s.size : Int) = 1 := by rcases day_cases hs with rfl | rfl <;> rfl
        obtain ⟨b, hb⟩ : ∃ b, bt s 0 = b := ⟨_, rfl⟩
        obtain ⟨l, r, hl, hr, hlr⟩ : ∃ l r, (if b = 100 then some w else some d) = some l ∧ ((if b = 100 then some 119 else some 100).bind fun q => if q = (100 : Int) then some w else some d) = some r ∧ (l = w ∧ r = d ∨ l = d ∧ r = w) := by
          by_cases h : b = 100
          · exact ⟨w, d, by simp [h], by simp [h], .inl ⟨rfl, rfl⟩⟩
          · exact ⟨d, w, by simp [h], by simp [h], .inr ⟨rfl, rfl⟩⟩
        have hl0 : 0 ≤ l ∧ l ≤ o ∧ 0 ≤ r ∧ r ≤ o ∧ w + d = l + r := by omega
        obtain ⟨l0, l1, r0, r1, hsum⟩ := hl0
        have zp : 0 < (s.size : Int) := by omega
        have cn : spec_cnLeave.f w d o b = some l := hl
        have cl : impl_Chain_leave.f w d o b = some l := hl
        have cr : (impl_otherDay.f b).bind (fun q => impl_Chain_leave.f w d o q) = some r := hr
        by_cases he : s.toList = t.toList
        · have q1 : ∀ k, spec_MeanUntil.f (k + 1) w d o s t = if l = 0 then some (1, 1, true) else if r = 0 then some (0, 0, false) else (spec_cnLow.f k (r + l) r).bind fun x => some (x.1, x.2, true) := by
            intro k
            simp only [spec_MeanUntil.f, spec_MeanUntil.j0, g1, g4, hb, cn, he, Option.bind_some, Bool.true_and, ↓reduceIte, Bool.false_eq_true, Bool.not_true]
            rw [if_pos (by omega), w64 (x := w + d) (by omega) (by omega), w64 (x := w + d - l) (by omega) (by omega), w64 (x := w + d - l + l) (by omega) (by omega), show w + d - l + l = r + l from by omega, show w + d - l = r from by omega]
          have q2 : ∀ k, impl_MeanUntil.f (k + 2) w d o s t = if l = 0 then some (1, 1, true) else (if r = 0 then some (0, 0, false) else ((impl_lowest.f k l r).bind fun x => (impl_frac_plus.f k 1 1 x.1 x.2).bind fun y => some (y.1, y.2, true))) := by
            intro k
            simp only [impl_MeanUntil.f, impl_MeanUntil.j0, impl_MeanUntil.j1, g2, g3, g5, hb, cl, he, impl_whole.f, impl_frac_told.f, Option.bind_some, Bool.true_and, ↓reduceIte, Bool.false_eq_true, Bool.not_true]
            rw [if_pos zp]
            by_cases h0 : l = 0
            · rw [if_pos h0, if_pos h0]
            · rw [if_neg h0, if_neg h0, if_pos zp, ← Option.bind_assoc, cr]
              first | done | (simp only [Option.bind_some]; done) | (simp only [Option.bind_some]; rfl)
          by_cases h0 : l = 0
          · refine ⟨2, ?_⟩
            simp only [laws_FnExactMeanUntil.f, laws_toChain.f, Option.bind_some, q1, q2, if_pos h0]
            simp
          · by_cases h1 : r = 0
            · refine ⟨2, ?_⟩
              simp only [laws_FnExactMeanUntil.f, laws_toChain.f, Option.bind_some, q1, q2, if_neg h0, if_pos h1]
              simp
            · obtain ⟨p, q, L, K, E⟩ := lowest_ev (n := l) (d := r) (by omega) (by omega) (by omega)
              obtain ⟨p2, q2', L2, K2, E2⟩ := plus_ev (low_one 1) L (by omega) (by omega) (by omega) (by omega)
              obtain ⟨K', E'⟩ := cnLow_is L2 (n := r + l) (d := r) (by omega) (by omega) (by omega) (by omega) (by grind)
              refine ⟨K + K2 + K' + 2, ?_⟩
              simp only [laws_FnExactMeanUntil.f, laws_toChain.f, Option.bind_some, q1, q2, if_neg h0, if_neg h1, E (K + K2 + K') (by omega), E2 (K + K2 + K') (by omega), E' (K + K2 + K' + 1) (by omega)]
              simp
        · have q1 : ∀ k, spec_MeanUntil.f (k + 2) w d o s t = if l = 0 then some (0, 0, false) else (spec_cnLow.f k o l).bind fun x => some (x.1, x.2, true) := by
            intro k
            simp only [spec_MeanUntil.f, spec_MeanUntil.j0, spec_MeanRun.f, spec_MeanRun.j0, g1, g4, hb, cn, he, Option.bind_some, Bool.true_and, ↓reduceIte, Bool.false_eq_true, Bool.not_true]
            rw [if_pos zp]
            by_cases h0 : l = 0
            · subst h0; simp
            · have hf : (l == 0) = false := by simpa using h0
              simp only [hf, h0, if_pos zp, ↓reduceIte, Bool.false_eq_true]
              rw [Option.bind_assoc]
              rfl
          have q2 : ∀ k, impl_MeanUntil.f (k + 2) w d o s t = if l = 0 then some (0, 0, false) else ((impl_lowest.f k o l).bind fun x => some (x.1, x.2, true)) := by
            intro k
            simp only [impl_MeanUntil.f, impl_MeanUntil.j0, impl_MeanUntil.j1, g2, g3, g5, hb, cl, he, impl_whole.f, impl_frac_told.f, Option.bind_some, Bool.true_and, ↓reduceIte, Bool.false_eq_true, Bool.not_true]
            rw [if_pos (by omega)]
            by_cases h0 : l = 0
            · subst h0; simp
            · have hf : (l == 0) = false := by simpa using h0
              simp only [hf, h0, ↓reduceIte, Bool.false_eq_true]
          by_cases h0 : l = 0
          · refine ⟨2, ?_⟩
            simp only [laws_FnExactMeanUntil.f, laws_toChain.f, Option.bind_some, q1, q2, if_pos h0]
            simp
          · obtain ⟨p, q, L, K, E⟩ := lowest_ev (n := o) (d := l) (by omega) (by omega) h0
            obtain ⟨K', E'⟩ := cnLow_is L (n := o) (d := l) (by omega) (by omega) (by omega) (by omega) rfl
            refine ⟨K + K' + 2, ?_⟩
            simp only [laws_FnExactMeanUntil.f, laws_toChain.f, Option.bind_some, q1, q2, if_neg h0, E (K + K') (by omega), E' (K + K') (by omega)]
            simp
  · rw [decide_eq_false c] at g1 g2 g4
    refine ⟨3, ?_⟩
    simp only [laws_FnExactMeanUntil.f, laws_toChain.f, spec_MeanUntil.f, impl_MeanUntil.f, spec_MeanUntil.j0, impl_MeanUntil.j0, g1, g2, Option.bind_some, Bool.false_and, ↓reduceIte, Bool.false_eq_true]
    simp

end Go.Proofs.Ytnfcfhieocgomaa.Pure
