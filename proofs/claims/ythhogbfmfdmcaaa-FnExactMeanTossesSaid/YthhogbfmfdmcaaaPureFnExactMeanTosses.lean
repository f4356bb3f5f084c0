/- For all arguments the program and the reference return the same from MeanTosses: the plain statement over numbers and lists, and its proof. -/
import Derived.Test.YthhogbfmfdmcaaaPFnExactMeanTossesx1
import Derived.Test.YthhogbfmfdmcaaaPFnExactMeanTossesx2
namespace Go.Proofs.Ythhogbfmfdmcaaa.Pure
open Go.RowKit Go.Proofs.Ythhogbfmfdmcaaa.PFnExactMeanTosses Go.Proofs.YthhogbfmfdmcaaaW.PrintWords Go.Proofs.YthhogbfmfdmcaaaW.PrintLast Go.Proofs.YthhogbfmfdmcaaaW.PrintMore
set_option linter.unusedVariables false
set_option linter.unusedSimpArgs false
set_option maxRecDepth 100000
theorem w64 {x : Int} (h0 : -9223372036854775808 ≤ x) (h1 : x ≤ 9223372036854775807) : wrap64 x = x := by
  unfold wrap64
  omega

theorem mul_fits {x y A B : Int} (hx : x.natAbs ≤ A.natAbs) (hy : y.natAbs ≤ B.natAbs) : (x * y).natAbs ≤ (A * B).natAbs := by
  rw [Int.natAbs_mul, Int.natAbs_mul]
  exact Nat.mul_le_mul hx hy

/-- A product of numbers of at most nine digits. -/
theorem mul9 {x y : Int} (hx : x.natAbs ≤ 1000000000) (hy : y.natAbs ≤ 1000000000) : (x * y).natAbs ≤ 1000000000000000000 := by
  rw [Int.natAbs_mul]
  exact Nat.le_trans (Nat.mul_le_mul hx hy) (by decide)

theorem wf_range {a : Int} (h : (Lit.int .i64 a).wf = true) : -9223372036854775808 ≤ a ∧ a ≤ 9223372036854775807 := by
  simp [Lit.wf, IntKind.min, IntKind.max, IntKind.signed, IntKind.bits] at h
  omega

/-- (a, b) is n / d in lowest terms. -/
structure Low (a b n d : Int) : Prop where
  pos : 0 < b
  ne : d ≠ 0
  eq : a * d = n * b
  cop : Int.gcd a b = 1

theorem dvd_of_cop {a b d : Int} (hc : Int.gcd a b = 1) (h : b ∣ a * d) : b ∣ d := by
  rw [← Int.natAbs_dvd_natAbs] at h ⊢
  rw [Int.natAbs_mul] at h
  exact Nat.Coprime.dvd_of_dvd_mul_left (k := b.natAbs) (m := a.natAbs) (n := d.natAbs) (by
    rw [Nat.Coprime, Nat.gcd_comm]; exact hc) (by exact h)

theorem Low.fac {a b n d : Int} (h : Low a b n d) : ∃ g, g ≠ 0 ∧ n = a * g ∧ d = b * g := by
  have hb : b ∣ d := dvd_of_cop h.cop ⟨n, by rw [h.eq, Int.mul_comm]⟩
  obtain ⟨g, rfl⟩ := hb
  have hp := h.pos
  refine ⟨g, fun e => h.ne (by rw [e, Int.mul_zero]), ?_, rfl⟩
  have he := h.eq
  have : b * n = b * (a * g) := by rw [Int.mul_comm b n, ← he, Int.mul_left_comm]
  exact Int.eq_of_mul_eq_mul_left (by omega) this

theorem natAbs_le_of_mul {a g : Int} (hg : g ≠ 0) : a.natAbs ≤ (a * g).natAbs := by
  rw [Int.natAbs_mul]
  exact Nat.le_mul_of_pos_right _ (by omega)

theorem Low.num_le {a b n d : Int} (h : Low a b n d) : a.natAbs ≤ n.natAbs := by
  obtain ⟨g, hg, rfl, _⟩ := h.fac
  exact natAbs_le_of_mul hg

theorem Low.den_le {a b n d : Int} (h : Low a b n d) : b.natAbs ≤ d.natAbs := by
  obtain ⟨g, hg, _, rfl⟩ := h.fac
  exact natAbs_le_of_mul hg

theorem Low.unique {a b a' b' n d n' d' : Int} (h : Low a b n d) (h' : Low a' b' n' d') (e : n * d' = n' * d) : a = a' ∧ b = b' := by
  have hp := h.pos
  have hp' := h'.pos
  have hx : a * b' = a' * b := by
    have hd := h.ne
    have hd' := h'.ne
    have h1 := h.eq
    have h2 := h'.eq
    have : (d * d') * (a * b') = (d * d') * (a' * b) := by grind
    exact Int.eq_of_mul_eq_mul_left (Int.mul_ne_zero hd hd') this
  have h1 : b ∣ b' := dvd_of_cop h.cop ⟨a', by rw [hx, Int.mul_comm]⟩
  have h2 : b' ∣ b := dvd_of_cop h'.cop ⟨a, by rw [← hx, Int.mul_comm]⟩
  have hb : b = b' := Int.le_antisymm (Int.le_of_dvd hp' h1) (Int.le_of_dvd hp h2)
  subst hb
  exact ⟨Int.eq_of_mul_eq_mul_right (by omega) hx, rfl⟩

/-- Change of the told fraction. -/
theorem Low.turn {a b n d n' d' : Int} (h : Low a b n d) (hd : d' ≠ 0) (e : n * d' = n' * d) : Low a b n' d' := by
  refine ⟨h.pos, hd, ?_, h.cop⟩
  have h1 := h.eq
  have h0 := h.ne
  have : d * (a * d') = d * (n' * b) := by grind
  exact Int.eq_of_mul_eq_mul_left h0 this

/-- What a division by the greatest common divisor, with the denominator's sign, gives. -/
theorem low_div {n d g : Int} (hd : d ≠ 0) (hg : g.natAbs = Int.gcd n d) (hs : 0 < d * g) : Low (n.tdiv g) (d.tdiv g) n d := by
  have hg0 : g ≠ 0 := by rintro rfl; omega
  obtain ⟨x, rfl⟩ : g ∣ n := by rw [← Int.natAbs_dvd_natAbs, hg]; exact Nat.gcd_dvd_left _ _
  obtain ⟨y, rfl⟩ : g ∣ d := by rw [← Int.natAbs_dvd_natAbs, hg]; exact Nat.gcd_dvd_right _ _
  rw [Int.mul_tdiv_cancel_left _ hg0, Int.mul_tdiv_cancel_left _ hg0]
  refine ⟨?_, hd, by grind, ?_⟩
  · have h1 : 0 < y * (g * g) := by rw [show y * (g * g) = g * y * g from by grind]; exact hs
    have h2 : 0 < g * g := by
      rcases Int.lt_trichotomy g 0 with h | h | h
      · exact Int.mul_pos_of_neg_of_neg h h
      · exact absurd h hg0
      · exact Int.mul_pos h h
    rcases Int.lt_or_le 0 y with h | h
    · exact h
    · have := Int.mul_nonpos_of_nonpos_of_nonneg h (Int.le_of_lt h2)
      omega
  · rw [Int.gcd_mul_left] at hg
    have : g.natAbs ≠ 0 := by omega
    exact Nat.eq_of_mul_eq_mul_left (Nat.pos_of_ne_zero this) (by omega)

theorem Low.zero {a b d : Int} (h : Low a b 0 d) : a = 0 ∧ b = 1 := by
  have := h.num_le
  have ha : a = 0 := by omega
  subst ha
  have := h.cop
  have hp := h.pos
  simp at this
  omega

theorem Ev.some {α : Type} {g : Nat → Option α} {r : α} (h : ∀ k, g k = Option.some r) : Ev g r := ⟨0, fun k _ => h k⟩

theorem tmod_nn {a b : Int} (ha : 0 ≤ a) (hb : 0 < b) : 0 ≤ Int.tmod a b ∧ Int.tmod a b < b ∧ Int.tmod a b = a % b := by
  rw [Int.tmod_eq_emod_of_nonneg ha]
  exact ⟨Int.emod_nonneg _ (by omega), Int.emod_lt_of_pos _ hb, rfl⟩

theorem gcd_step {a b : Int} (ha : 0 ≤ a) (hb : 0 < b) : Int.gcd b (Int.tmod a b) = Int.gcd a b := by
  rw [(tmod_nn ha hb).2.2, Int.gcd_comm a b]
  have h : a = a % b + b * (a / b) := by rw [Int.emod_add_mul_ediv]
  conv => rhs; rw [h]
  rw [Int.gcd_add_mul_left_right]

theorem common_l0 : ∀ (k : Nat) (a b : Int), 0 ≤ a → 0 ≤ b → b < k → impl_common.l0 k a b = some ((Int.gcd a b : Nat) : Int) := by
  intro k
  induction k with
  | zero => intro a b ha hb hk; omega
  | succ k ih =>
    intro a b ha hb hk
    simp only [impl_common.l0]
    by_cases h : b = 0
    · subst h
      rw [if_pos rfl, Int.gcd_zero_right]
      congr 1
      omega
    · rw [if_neg h]
      have hb' : 0 < b := by omega
      have h3 := tmod_nn ha hb'
      rw [ih b (Int.tmod a b) hb h3.1 (by omega), gcd_step ha hb']

theorem mx_abs {a : Int} (h0 : -9223372036854775808 < a) (h1 : a ≤ 9223372036854775807) : mx a (wrap64 (-a)) = (a.natAbs : Int) := by
  rw [w64 (by omega) (by omega)]
  unfold mx
  split <;> omega

theorem common_ev {a b : Int} (ha : a.natAbs ≤ 9223372036854775807) (hb : b.natAbs ≤ 9223372036854775807) :
    Ev (fun k => impl_common.f k a b) ((Int.gcd a b : Nat) : Int) := by
  refine ⟨b.natAbs + 1, fun k hk => ?_⟩
  show impl_common.f k a b = _
  unfold impl_common.f
  rw [mx_abs (by omega) (by omega), mx_abs (by omega) (by omega), common_l0 k _ _ (by omega) (by omega) (by omega)]
  simp [Int.gcd]

/-- What lowest returns. -/
theorem lowest_ev {n d : Int} (hn : n.natAbs ≤ 9223372036854775807) (hd : d.natAbs ≤ 9223372036854775807) (h0 : d ≠ 0) :
    ∃ a b, Low a b n d ∧ Ev (fun k => impl_lowest.f k n d) (a, b) := by
  have hg : Int.gcd n d ≠ 0 := by
    intro h
    exact h0 (Int.gcd_eq_zero_iff.1 h).2
  have hle : Int.gcd n d ≤ d.natAbs := Nat.le_of_dvd (by omega) (Nat.gcd_dvd_right _ _)
  rcases Int.lt_or_gt_of_ne h0 with h | h
  · have L := low_div (n := n) (d := d) (g := -((Int.gcd n d : Nat) : Int)) h0 (by omega) (Int.mul_pos_of_neg_of_neg h (by omega))
    have hx := L.num_le
    have hy := L.den_le
    refine ⟨_, _, L, ?_⟩
    refine Ev.congr (fun k => by unfold impl_lowest.f; rfl) (Ev.bind (common_ev hn hd) (Ev.some fun k => ?_))
    rw [if_pos h, w64 (x := -((Int.gcd n d : Nat) : Int)) (by omega) (by omega), if_neg (by omega), w64 (by omega) (by omega), w64 (by omega) (by omega)]
  · have L := low_div (n := n) (d := d) (g := ((Int.gcd n d : Nat) : Int)) h0 (by omega) (Int.mul_pos h (by omega))
    have hx := L.num_le
    have hy := L.den_le
    refine ⟨_, _, L, ?_⟩
    refine Ev.congr (fun k => by unfold impl_lowest.f; rfl) (Ev.bind (common_ev hn hd) (Ev.some fun k => ?_))
    rw [if_neg (by omega), if_neg (by omega), w64 (by omega) (by omega), w64 (by omega) (by omega)]

/-- What times returns. -/
theorem times_ev {a b n d a' b' n' d' : Int} (L : Low a b n d) (L' : Low a' b' n' d')
    (hn : n.natAbs ≤ 1000000000) (hd : d.natAbs ≤ 1000000000) (hn' : n'.natAbs ≤ 1000000000) (hd' : d'.natAbs ≤ 1000000000) :
    ∃ p q, Low p q (n * n') (d * d') ∧ Ev (fun k => impl_frac_times.f k a b a' b') (p, q) := by
  have h1 := L.num_le
  have h2 := L.den_le
  have h3 := L'.num_le
  have h4 := L'.den_le
  have m1 := mul9 (x := a) (y := a') (by omega) (by omega)
  have m2 := mul9 (x := b) (y := b') (by omega) (by omega)
  have hb := Int.mul_pos L.pos L'.pos
  obtain ⟨p, q, M, E⟩ := lowest_ev (n := a * a') (d := b * b') (by omega) (by omega) (by omega)
  refine ⟨p, q, M.turn (Int.mul_ne_zero L.ne L'.ne) ?_, ?_⟩
  · have e1 := L.eq
    have e2 := L'.eq
    grind
  · refine Ev.congr (fun k => by unfold impl_frac_times.f; rw [w64 (by omega) (by omega), w64 (by omega) (by omega)]) (Ev.bind E (Ev.some fun k => rfl))

theorem low_one (n : Int) : Low n 1 n 1 := ⟨by decide, by decide, rfl, by simp⟩

/-- Is a coin: as both tell it. -/
theorem ptCoin_is (h o : Int) (b : o ≤ 9223372036854775807) (b' : -9223372036854775808 ≤ o) : spec_ptCoin.f h o = some (decide (2 ≤ o ∧ o ≤ 10 ∧ 1 ≤ h ∧ h ≤ o - 1)) := by
  unfold spec_ptCoin.f spec_l1In.f
  by_cases h1 : o ≥ 2
  · rw [if_pos h1, w64 (by omega) (by omega)]
    simp only [Option.bind_some, decide_eq_true_eq]
    by_cases h2 : o ≤ 10
    · rw [if_pos h2]
      by_cases h3 : h ≥ 1
      · rw [if_pos h3]
        exact congrArg some (decide_eq_decide.2 (by omega))
      · rw [if_neg h3]
        exact congrArg some (decide_eq_false (by omega)).symm
    · rw [if_neg h2]
      exact congrArg some (decide_eq_false (by omega)).symm
  · rw [if_neg h1]
    exact congrArg some (decide_eq_false (by omega)).symm

theorem isCoin_is (h o : Int) (b : o ≤ 9223372036854775807) (b' : -9223372036854775808 ≤ o) : impl_IsCoin.f h o = some (decide (2 ≤ o ∧ o ≤ 10 ∧ 1 ≤ h ∧ h ≤ o - 1)) := by
  rw [← ptCoin_is h o b b']
  unfold impl_IsCoin.f impl_within.f spec_ptCoin.f spec_l1In.f
  rfl

theorem ofToss_h {h o : Int} (h0 : 2 ≤ o) (h1 : o ≤ 10) (h2 : 1 ≤ h) (h3 : h ≤ o - 1) :
    ∃ a b, Low a b h o ∧ ∃ K, ∀ k, K ≤ k → impl_Coin_ofToss.f k h o 104 = some (a, b) := by
  obtain ⟨a, b, L, K, E⟩ := lowest_ev (n := h) (d := o) (by omega) (by omega) (by omega)
  refine ⟨a, b, L, K, fun k hk => ?_⟩
  simp (disch := omega) only [impl_Coin_ofToss.f, ↓reduceIte, E, Option.bind_some]

theorem ofToss_t {h o c : Int} (h0 : 2 ≤ o) (h1 : o ≤ 10) (h2 : 1 ≤ h) (h3 : h ≤ o - 1) (hc : c ≠ 104) :
    ∃ a b, Low a b (o - h) o ∧ ∃ K, ∀ k, K ≤ k → impl_Coin_ofToss.f k h o c = some (a, b) := by
  obtain ⟨a, b, L, K, E⟩ := lowest_ev (n := o - h) (d := o) (by omega) (by omega) (by omega)
  refine ⟨a, b, L, K, fun k hk => ?_⟩
  simp (disch := omega) only [impl_Coin_ofToss.f, if_neg, w64, E, Option.bind_some]

theorem gives_ev {h o : Int} (h0 : 2 ≤ o) (h1 : o ≤ 10) (h2 : 1 ≤ h) (h3 : h ≤ o - 1) :
    ∃ a b, Low a b (2 * h * (o - h)) (o * o) ∧ ∃ K, ∀ k, K ≤ k → impl_Coin_gives.f k h o = some (a, b) := by
  obtain ⟨a1, b1, L1, K1, E1⟩ := ofToss_h h0 h1 h2 h3
  obtain ⟨a2, b2, L2, K2, E2⟩ := times_ev (low_one 1) L1 (by omega) (by omega) (by omega) (by omega)
  obtain ⟨a3, b3, L3, K3, E3⟩ := ofToss_t (c := 116) h0 h1 h2 h3 (by decide)
  have m1 := mul_fits (x := h) (A := 10) (y := o - h) (B := 10) (by omega) (by omega)
  have m2 := mul_fits (x := o) (A := 10) (y := o) (B := 10) (by omega) (by omega)
  obtain ⟨a4, b4, L4, K4, E4⟩ := times_ev L2 L3 (by omega) (by omega) (by omega) (by omega)
  rw [Int.one_mul, Int.one_mul] at L4
  obtain ⟨a5, b5, L5, K5, E5⟩ := times_ev L4 (low_one 2) (by omega) (by omega) (by omega) (by omega)
  refine ⟨a5, b5, ?_, K1 + K2 + K3 + K4 + K5 + 3, fun k hk => ?_⟩
  · refine L5.turn (Int.mul_ne_zero (by omega) (by omega)) ?_
    grind
  · have hs : ((⟨#[104, 116]⟩ : ByteArray).size : Int) = 2 := rfl
    have hb0 : bt (⟨#[104, 116]⟩ : ByteArray) 0 = 104 := rfl
    have hb1 : bt (⟨#[104, 116]⟩ : ByteArray) (0 + 1) = 116 := rfl
    obtain ⟨m, rfl⟩ : ∃ m, k = m + 3 := ⟨k - 3, by omega⟩
    simp (disch := omega) only [impl_Coin_gives.f, impl_Coin_ofAll.f, impl_whole.f, impl_Coin_ofAll.l0, hs, hb0, hb1, if_pos, if_neg, w64, E1, E2, E3, E4, E5, Option.bind_some]

theorem cnLow_l0 : ∀ (k : Nat) (n d a b : Int), 0 ≤ a → 0 ≤ b → b < k → 0 < Int.gcd a b → n.natAbs ≤ 9223372036854775807 → d.natAbs ≤ 9223372036854775807 →
    spec_cnLow.l0 k n d a b = some (wrap64 (Int.tdiv n ((Int.gcd a b : Nat) : Int)), wrap64 (Int.tdiv d ((Int.gcd a b : Nat) : Int))) := by
  intro k
  induction k with
  | zero => intro n d a b ha hb hk; omega
  | succ k ih =>
    intro n d a b ha hb hk hg hn hd
    simp only [spec_cnLow.l0]
    by_cases h : b = 0
    · subst h
      rw [Int.gcd_zero_right] at hg ⊢
      rw [if_neg (by omega), if_neg (by omega), show ((a.natAbs : Nat) : Int) = a from by omega]
    · have hb' : 0 < b := by omega
      have h3 := tmod_nn ha hb'
      rw [if_pos hb', if_neg h, ih n d b (Int.tmod a b) hb h3.1 (by omega) (by rw [gcd_step ha hb']; exact hg) hn hd, gcd_step ha hb']

/-- What cnLow returns of a fraction that is not negative. -/
theorem cnLow_ev {n d : Int} (h0 : 0 ≤ n) (hn : n ≤ 9223372036854775807) (h1 : 0 < d) (hd : d ≤ 9223372036854775807) :
    ∃ a b, Low a b n d ∧ Ev (fun k => spec_cnLow.f k n d) (a, b) := by
  have hg : Int.gcd n d ≠ 0 := by
    intro h
    have := (Int.gcd_eq_zero_iff.1 h).2
    omega
  have L := low_div (n := n) (d := d) (g := ((Int.gcd n d : Nat) : Int)) (by omega) (by omega) (Int.mul_pos h1 (by omega))
  have hx := L.num_le
  have hy := L.den_le
  refine ⟨_, _, L, d.natAbs + 1, fun k hk => ?_⟩
  show spec_cnLow.f k n d = _
  unfold spec_cnLow.f
  rw [cnLow_l0 k n d n d h0 (by omega) (by omega) (by omega) (by omega) (by omega), w64 (by omega) (by omega), w64 (by omega) (by omega)]

/-- .. so it is what any other way to the lowest terms gives. -/
theorem cnLow_is {a b n d n' d' : Int} (L : Low a b n' d') (h0 : 0 ≤ n) (hn : n ≤ 9223372036854775807) (h1 : 0 < d) (hd : d ≤ 9223372036854775807) (e : n' * d = n * d') :
    Ev (fun k => spec_cnLow.f k n d) (a, b) := by
  obtain ⟨a', b', L', E⟩ := cnLow_ev h0 hn h1 hd
  obtain ⟨rfl, rfl⟩ := L.unique L' e
  exact E

/-- What over returns. -/
theorem over_ev {a b n d a' b' n' d' : Int} (L : Low a b n d) (L' : Low a' b' n' d') (h0 : n' ≠ 0)
    (hn : n.natAbs ≤ 1000000000) (hd : d.natAbs ≤ 1000000000) (hn' : n'.natAbs ≤ 1000000000) (hd' : d'.natAbs ≤ 1000000000) :
    ∃ p q, Low p q (n * d') (d * n') ∧ Ev (fun k => impl_frac_over.f k a b a' b') (p, q) := by
  have h1 := L.num_le
  have h2 := L.den_le
  have h3 := L'.num_le
  have h4 := L'.den_le
  have m1 := mul9 (x := a) (y := b') (by omega) (by omega)
  have m2 := mul9 (x := b) (y := a') (by omega) (by omega)
  have p1 := L.pos
  have p2 := L'.pos
  have e1 := L.eq
  have e2 := L'.eq
  have ha' : a' ≠ 0 := by
    rintro rfl
    rw [Int.zero_mul] at e2
    exact Int.mul_ne_zero h0 (by omega) e2.symm
  obtain ⟨p, q, M, E⟩ := lowest_ev (n := a * b') (d := b * a') (by omega) (by omega) (Int.mul_ne_zero (by omega) ha')
  refine ⟨p, q, M.turn (Int.mul_ne_zero L.ne h0) ?_, ?_⟩
  · grind
  · refine Ev.congr (fun k => by unfold impl_frac_over.f; rw [w64 (by omega) (by omega), w64 (by omega) (by omega)]) (Ev.bind E (Ev.some fun k => rfl))

theorem FnExactMeanTosses (h o : Int) (wh : (Lit.int .i64 h).wf = true) (wo : (Lit.int .i64 o).wf = true) : ∃ k, laws_FnExactMeanTosses.f k h o = some true := by
  have bo := wf_range wo
  have c1 := ptCoin_is h o bo.2 bo.1
  have c2 := isCoin_is h o bo.2 bo.1
  by_cases hc : 2 ≤ o ∧ o ≤ 10 ∧ 1 ≤ h ∧ h ≤ o - 1
  · rw [decide_eq_true hc] at c1 c2
    obtain ⟨h0, h1, h2, h3⟩ := hc
    have m1 := mul_fits (x := h) (A := 10) (y := o - h) (B := 10) (by omega) (by omega)
    have m2 := mul_fits (x := o) (A := 10) (y := o) (B := 10) (by omega) (by omega)
    have m3 := mul_fits (x := 2 * h) (A := 20) (y := o - h) (B := 10) (by omega) (by omega)
    have p1 := Int.mul_pos (a := h) (b := o - h) (by omega) (by omega)
    have p2 := Int.mul_pos (a := o) (b := o) (by omega) (by omega)
    have p3 := Int.mul_pos (a := 2 * h) (b := o - h) (by omega) (by omega)
    obtain ⟨a, b, L, K, E⟩ := gives_ev h0 h1 h2 h3
    obtain ⟨a2, b2, L2, K2, E2⟩ := over_ev (low_one 2) L (by omega) (by omega) (by omega) (by omega) (by omega)
    obtain ⟨K', E'⟩ := cnLow_is L2 (n := o * o) (d := h * (o - h)) (by omega) (by omega) p1 (by omega) (by grind)
    refine ⟨K + K2 + K', ?_⟩
    simp (disch := omega) only [laws_FnExactMeanTosses.f, laws_toCoin.f, spec_MeanTosses.f, impl_MeanTosses.f, impl_whole.f, impl_frac_told.f, c1, c2, w64, E, E2, E', Option.bind_some, ↓reduceIte]
    rfl
  · rw [decide_eq_false hc] at c1 c2
    refine ⟨0, ?_⟩
    simp (disch := omega) only [laws_FnExactMeanTosses.f, laws_toCoin.f, spec_MeanTosses.f, impl_MeanTosses.f, c1, c2, Option.bind_some, ↓reduceIte]
    rfl

end Go.Proofs.Ythhogbfmfdmcaaa.Pure
