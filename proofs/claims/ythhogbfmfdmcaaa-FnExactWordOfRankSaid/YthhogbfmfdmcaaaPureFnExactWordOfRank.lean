/- For all arguments the program and the reference return the same from WordOfRank: the plain statement over numbers and lists, and its proof. -/
import Derived.Test.YthhogbfmfdmcaaaPFnExactWordOfRankx1
namespace Go.Proofs.Ythhogbfmfdmcaaa.Pure
open Go.RowKit Go.Proofs.Ythhogbfmfdmcaaa.PFnExactWordOfRank Go.Proofs.YthhogbfmfdmcaaaW.PrintWords Go.Proofs.YthhogbfmfdmcaaaW.PrintLast Go.Proofs.YthhogbfmfdmcaaaW.PrintMore
set_option linter.unusedVariables false
set_option linter.unusedSimpArgs false
set_option maxRecDepth 100000
theorem w64 {x : Int} (h0 : -9223372036854775808 ≤ x) (h1 : x ≤ 9223372036854775807) : wrap64 x = x := by
  unfold wrap64
  omega

theorem mul_fits {x y A B : Int} (hx : x.natAbs ≤ A.natAbs) (hy : y.natAbs ≤ B.natAbs) : (x * y).natAbs ≤ (A * B).natAbs := by
  rw [Int.natAbs_mul, Int.natAbs_mul]
  exact Nat.mul_le_mul hx hy

/-- A product of numbers of at most nine digits. -/
theorem mul9 {x y : Int} (hx : x.natAbs ≤ 1000000000) (hy : y.natAbs ≤ 1000000000) : (x * y).natAbs ≤ 1000000000000000000 := by
  rw [Int.natAbs_mul]
  exact Nat.le_trans (Nat.mul_le_mul hx hy) (by decide)

theorem wf_range {a : Int} (h : (Lit.int .i64 a).wf = true) : -9223372036854775808 ≤ a ∧ a ≤ 9223372036854775807 := by
  simp [Lit.wf, IntKind.min, IntKind.max, IntKind.signed, IntKind.bits] at h
  omega

theorem long_out {m n : Int} (h : ¬ (1 ≤ m ∧ m ≤ 26 ∧ 1 ≤ n ∧ n ≤ 8)) : spec_woLong.f m n = some false ∧ impl_areLong.f m n = some false := by
  unfold spec_woLong.f impl_areLong.f spec_woAlphabet.f spec_l1In.f impl_within.f
  constructor
  · grind
  · grind

theorem long_in {m n : Int} (h : 1 ≤ m ∧ m ≤ 26 ∧ 1 ≤ n ∧ n ≤ 8) : spec_woLong.f m n = some true ∧ impl_areLong.f m n = some true := by
  unfold spec_woLong.f impl_areLong.f spec_woAlphabet.f spec_l1In.f impl_within.f
  constructor
  · grind
  · grind

/-- (a, b) is n / d in lowest terms. -/
structure Low (a b n d : Int) : Prop where
  pos : 0 < b
  ne : d ≠ 0
  eq : a * d = n * b
  cop : Int.gcd a b = 1

theorem dvd_of_cop {a b d : Int} (hc : Int.gcd a b = 1) (h : b ∣ a * d) : b ∣ d := by
  rw [← Int.natAbs_dvd_natAbs] at h ⊢
  rw [Int.natAbs_mul] at h
  exact Nat.Coprime.dvd_of_dvd_mul_left (k := b.natAbs) (m := a.natAbs) (n := d.natAbs) (by
    rw [Nat.Coprime, Nat.gcd_comm]; exact hc) (by exact h)

theorem Low.fac {a b n d : Int} (h : Low a b n d) : ∃ g, g ≠ 0 ∧ n = a * g ∧ d = b * g := by
  have hb : b ∣ d := dvd_of_cop h.cop ⟨n, by rw [h.eq, Int.mul_comm]⟩
  obtain ⟨g, rfl⟩ := hb
  have hp := h.pos
  refine ⟨g, fun e => h.ne (by rw [e, Int.mul_zero]), ?_, rfl⟩
  have he := h.eq
  have : b * n = b * (a * g) := by rw [Int.mul_comm b n, ← he, Int.mul_left_comm]
  exact Int.eq_of_mul_eq_mul_left (by omega) this

theorem natAbs_le_of_mul {a g : Int} (hg : g ≠ 0) : a.natAbs ≤ (a * g).natAbs := by
  rw [Int.natAbs_mul]
  exact Nat.le_mul_of_pos_right _ (by omega)

theorem Low.num_le {a b n d : Int} (h : Low a b n d) : a.natAbs ≤ n.natAbs := by
  obtain ⟨g, hg, rfl, _⟩ := h.fac
  exact natAbs_le_of_mul hg

theorem Low.den_le {a b n d : Int} (h : Low a b n d) : b.natAbs ≤ d.natAbs := by
  obtain ⟨g, hg, _, rfl⟩ := h.fac
  exact natAbs_le_of_mul hg

theorem Low.unique {a b a' b' n d n' d' : Int} (h : Low a b n d) (h' : Low a' b' n' d') (e : n * d' = n' * d) : a = a' ∧ b = b' := by
  have hp := h.pos
  have hp' := h'.pos
  have hx : a * b' = a' * b := by
    have hd := h.ne
    have hd' := h'.ne
    have h1 := h.eq
    have h2 := h'.eq
    have : (d * d') * (a * b') = (d * d') * (a' * b) := by grind
    exact Int.eq_of_mul_eq_mul_left (Int.mul_ne_zero hd hd') this
  have h1 : b ∣ b' := dvd_of_cop h.cop ⟨a', by rw [hx, Int.mul_comm]⟩
  have h2 : b' ∣ b := dvd_of_cop h'.cop ⟨a, by rw [← hx, Int.mul_comm]⟩
  have hb : b = b' := Int.le_antisymm (Int.le_of_dvd hp' h1) (Int.le_of_dvd hp h2)
  subst hb
  exact ⟨Int.eq_of_mul_eq_mul_right (by omega) hx, rfl⟩

/-- Change of the told fraction. -/
theorem Low.turn {a b n d n' d' : Int} (h : Low a b n d) (hd : d' ≠ 0) (e : n * d' = n' * d) : Low a b n' d' := by
  refine ⟨h.pos, hd, ?_, h.cop⟩
  have h1 := h.eq
  have h0 := h.ne
  have : d * (a * d') = d * (n' * b) := by grind
  exact Int.eq_of_mul_eq_mul_left h0 this

/-- What a division by the greatest common divisor, with the denominator's sign, gives. -/
theorem low_div {n d g : Int} (hd : d ≠ 0) (hg : g.natAbs = Int.gcd n d) (hs : 0 < d * g) : Low (n.tdiv g) (d.tdiv g) n d := by
  have hg0 : g ≠ 0 := by rintro rfl; omega
  obtain ⟨x, rfl⟩ : g ∣ n := by rw [← Int.natAbs_dvd_natAbs, hg]; exact Nat.gcd_dvd_left _ _
  obtain ⟨y, rfl⟩ : g ∣ d := by rw [← Int.natAbs_dvd_natAbs, hg]; exact Nat.gcd_dvd_right _ _
  rw [Int.mul_tdiv_cancel_left _ hg0, Int.mul_tdiv_cancel_left _ hg0]
  refine ⟨?_, hd, by grind, ?_⟩
  · have h1 : 0 < y * (g * g) := by rw [show y * (g * g) = g * y * g from by grind]; exact hs
    have h2 : 0 < g * g := by
      rcases Int.lt_trichotomy g 0 with h | h | h
      · exact Int.mul_pos_of_neg_of_neg h h
      · exact absurd h hg0
      · exact Int.mul_pos h h
    rcases Int.lt_or_le 0 y with h | h
    · exact h
    · have := Int.mul_nonpos_of_nonpos_of_nonneg h (Int.le_of_lt h2)
      omega
  · rw [Int.gcd_mul_left] at hg
    have : g.natAbs ≠ 0 := by omega
    exact Nat.eq_of_mul_eq_mul_left (Nat.pos_of_ne_zero this) (by omega)

theorem Low.zero {a b d : Int} (h : Low a b 0 d) : a = 0 ∧ b = 1 := by
  have := h.num_le
  have ha : a = 0 := by omega
  subst ha
  have := h.cop
  have hp := h.pos
  simp at this
  omega

theorem tmod_nn {a b : Int} (ha : 0 ≤ a) (hb : 0 < b) : 0 ≤ Int.tmod a b ∧ Int.tmod a b < b ∧ Int.tmod a b = a % b := by
  rw [Int.tmod_eq_emod_of_nonneg ha]
  exact ⟨Int.emod_nonneg _ (by omega), Int.emod_lt_of_pos _ hb, rfl⟩

theorem gcd_step {a b : Int} (ha : 0 ≤ a) (hb : 0 < b) : Int.gcd b (Int.tmod a b) = Int.gcd a b := by
  rw [(tmod_nn ha hb).2.2, Int.gcd_comm a b]
  have h : a = a % b + b * (a / b) := by rw [Int.emod_add_mul_ediv]
  conv => rhs; rw [h]
  rw [Int.gcd_add_mul_left_right]

/-- The letters of a word with a rank. -/
def digs (m : Int) : Nat → Int → List Int
  | 0, _ => []
  | n + 1, r => digs m n (r / m) ++ [97 + r % m]

theorem digs_length (m : Int) : ∀ (n : Nat) (r : Int), (digs m n r).length = n
  | 0, _ => rfl
  | n + 1, r => by simp [digs, digs_length m n]

theorem abc_cut : ∀ i : Fin 26, (⟨#[97, 98, 99, 100, 101, 102, 103, 104, 105, 106, 107, 108, 109, 110, 111, 112, 113, 114, 115, 116, 117, 118, 119, 120, 121, 122]⟩ : ByteArray).extract i.val (i.val + 1) = strOfNums [97 + (i.val : Int)] := by decide +kernel

theorem abc_at : ∀ i : Fin 26, bt (⟨#[97, 98, 99, 100, 101, 102, 103, 104, 105, 106, 107, 108, 109, 110, 111, 112, 113, 114, 115, 116, 117, 118, 119, 120, 121, 122]⟩ : ByteArray) (i.val : Int) = 97 + (i.val : Int) := by decide +kernel

theorem strOfNums_append (xs ys : List Int) : strOfNums xs ++ strOfNums ys = strOfNums (xs ++ ys) := by
  unfold strOfNums
  apply ByteArray.ext
  simp

theorem woOf_l0 (m : Int) (h0 : 1 ≤ m) (h1 : m ≤ 26) : ∀ (n k : Nat) (r : Int) (out : List Int), n < k → 0 ≤ r → r ≤ 9223372036854775807 → n + out.length ≤ 1000 →
    spec_woOf.l0 k m n r (strOfNums out) = some (strOfNums (digs m n r ++ out)) := by
  intro n
  induction n with
  | zero =>
    intro k r out hk hr hr2 ho
    obtain ⟨k, rfl⟩ : ∃ j, k = j + 1 := ⟨k - 1, by omega⟩
    simp only [spec_woOf.l0]
    rw [if_neg (by omega)]
    rfl
  | succ n ih =>
    intro k r out hk hr hr2 ho
    obtain ⟨k, rfl⟩ : ∃ j, k = j + 1 := ⟨k - 1, by omega⟩
    have ht := tmod_nn hr (show 0 < m by omega)
    have hq : Int.tdiv r m = r / m := Int.tdiv_eq_ediv_of_nonneg hr
    have hq0 : 0 ≤ r / m := Int.ediv_nonneg hr (by omega)
    have hq1 : r / m ≤ r := Int.ediv_le_self m hr
    obtain ⟨d, hd⟩ : ∃ d : Fin 26, (d.val : Int) = r % m := ⟨⟨(r % m).toNat, by omega⟩, by simp only; omega⟩
    have hc := abc_cut d
    simp only [spec_woOf.l0]
    rw [ht.2.2, ← hd] 
    rw [ht.2.2, ← hd] at ht
    rw [w64 (x := (d.val : Int) + 1) (by omega) (by omega), show ((d.val : Int)).toNat = d.val from by omega, show ((d.val : Int) + 1).toNat = d.val + 1 from by omega, hc, strOfNums_append, hq,
      w64 (x := r / m) (by omega) (by omega), w64 (x := ((n + 1 : Nat) : Int) - 1) (by omega) (by omega)]
    rw [if_pos (by omega), if_neg (by omega), if_pos (by omega), if_pos (by omega), if_pos (by omega), if_pos (by rw [strOfNums_size, strOfNums_size]; simp; omega)]
    rw [show ((n + 1 : Nat) : Int) - 1 = (n : Int) from by omega, ih k (r / m) ([97 + (d.val : Int)] ++ out) (by omega) (by omega) (by omega) (by simp; omega)]
    simp [digs, hd]

theorem wordAt_l0 (m : Int) (h0 : 1 ≤ m) (h1 : m ≤ 26) : ∀ (n k : Nat) (r : Int) (xs : List Int), n < k → 0 ≤ r → r ≤ 9223372036854775807 → n ≤ xs.length → xs.length ≤ 1000 →
    impl_wordAt.l0 k m r xs ((n : Int) - 1) = some (strOfNums (digs m n r ++ xs.drop n)) := by
  intro n
  induction n with
  | zero =>
    intro k r xs hk hr hr2 ho hx
    obtain ⟨k, rfl⟩ : ∃ j, k = j + 1 := ⟨k - 1, by omega⟩
    simp only [impl_wordAt.l0]
    rw [if_neg (by omega)]
    rfl
  | succ n ih =>
    intro k r xs hk hr hr2 ho hx
    obtain ⟨k, rfl⟩ : ∃ j, k = j + 1 := ⟨k - 1, by omega⟩
    have ht := tmod_nn hr (show 0 < m by omega)
    have hq : Int.tdiv r m = r / m := Int.tdiv_eq_ediv_of_nonneg hr
    have hq0 : 0 ≤ r / m := Int.ediv_nonneg hr (by omega)
    have hq1 : r / m ≤ r := Int.ediv_le_self m hr
    obtain ⟨d, hd⟩ : ∃ d : Fin 26, (d.val : Int) = r % m := ⟨⟨(r % m).toNat, by omega⟩, by simp only; omega⟩
    have hc := abc_at d
    simp only [impl_wordAt.l0]
    rw [ht.2.2, ← hd]
    rw [ht.2.2, ← hd] at ht
    rw [hc, hq, w64 (x := r / m) (by omega) (by omega), show ((n + 1 : Nat) : Int) - 1 = (n : Int) from by omega, w64 (x := (n : Int) - 1) (by omega) (by omega)]
    rw [if_pos (by omega), if_neg (by omega), if_pos (by omega), if_pos (by omega), if_pos (by omega), if_pos (by omega)]
    rw [ih k (r / m) (xs.set (n : Int).toNat (97 + (d.val : Int))) (by omega) (by omega) (by omega) (by rw [List.length_set]; omega) (by rw [List.length_set]; omega)]
    rw [show ((n : Int)).toNat = n from by omega]
    congr 2
    rw [digs, List.append_assoc, ← hd]
    congr 1
    rw [List.drop_eq_getElem_cons (by rw [List.length_set]; omega), List.getElem_set_self, List.drop_set_of_lt (by omega)]
    rfl

theorem woPower_l0 (m : Int) (h0 : 1 ≤ m) : ∀ (n k : Nat) (p : Int), n < k → n ≤ 1000 → 0 < p → p * m ^ n ≤ 9223372036854775807 →
    spec_woPower.l0 k m n p = some (p * m ^ n) := by
  intro n
  induction n with
  | zero =>
    intro k p hk hn hp h
    obtain ⟨k, rfl⟩ : ∃ j, k = j + 1 := ⟨k - 1, by omega⟩
    simp only [spec_woPower.l0]
    rw [if_neg (by omega)]
    simp
  | succ n ih =>
    intro k p hk hn hp h
    obtain ⟨k, rfl⟩ : ∃ j, k = j + 1 := ⟨k - 1, by omega⟩
    have e : p * m ^ (n + 1) = p * m * m ^ n := by rw [Int.pow_succ]; grind
    rw [e] at h ⊢
    have h3 : 0 < p * m := Int.mul_pos hp (by omega)
    have h4 : 0 < m ^ n := Int.pow_pos (by omega)
    have h5 : p * m * 1 ≤ p * m * m ^ n := Int.mul_le_mul_of_nonneg_left (by omega) (by omega)
    simp only [spec_woPower.l0]
    rw [if_pos (by omega), w64 (x := ((n + 1 : Nat) : Int) - 1) (by omega) (by omega), w64 (x := p * m) (by omega) (by omega), show ((n + 1 : Nat) : Int) - 1 = (n : Int) from by omega]
    exact ih k (p * m) (by omega) (by omega) h3 h

theorem power_l0 (m : Int) (h0 : 1 ≤ m) : ∀ (n k j : Nat) (p : Int), n < k → n + j ≤ 1000 → 0 < p → p * m ^ n ≤ 9223372036854775807 →
    impl_power.l0 k m p ((n + j : Nat) : Int) j = some (p * m ^ n) := by
  intro n
  induction n with
  | zero =>
    intro k j p hk hj hp h
    obtain ⟨k, rfl⟩ : ∃ j, k = j + 1 := ⟨k - 1, by omega⟩
    simp only [impl_power.l0]
    rw [if_neg (by omega)]
    simp
  | succ n ih =>
    intro k j p hk hj hp h
    obtain ⟨k, rfl⟩ : ∃ j, k = j + 1 := ⟨k - 1, by omega⟩
    have e : p * m ^ (n + 1) = p * m * m ^ n := by rw [Int.pow_succ]; grind
    rw [e] at h ⊢
    have h3 : 0 < p * m := Int.mul_pos hp (by omega)
    have h4 : 0 < m ^ n := Int.pow_pos (by omega)
    have h5 : p * m * 1 ≤ p * m * m ^ n := Int.mul_le_mul_of_nonneg_left (by omega) (by omega)
    simp only [impl_power.l0]
    rw [if_pos (by omega), w64 (x := (j : Int) + 1) (by omega) (by omega), w64 (x := p * m) (by omega) (by omega), show (j : Int) + 1 = ((j + 1 : Nat) : Int) from by omega, show n + 1 + j = n + (j + 1) from by omega]
    exact ih k (j + 1) (p * m) (by omega) (by omega) h3 h

theorem pow26 : ∀ i : Fin 27, ∀ j : Fin 9, (i.val : Int) ^ j.val ≤ 1000000000000 := by decide +kernel

theorem FnExactWordOfRank : laws_FnExactWordOfRank.Pure := by
  intro m n r wm wn wr
  have br := wf_range wr
  by_cases h : 1 ≤ m ∧ m ≤ 26 ∧ 1 ≤ n ∧ n ≤ 8
  · obtain ⟨c1, c2⟩ := long_in h
    obtain ⟨h0, h1, h2, h3⟩ := h
    obtain ⟨n, rfl⟩ : ∃ j : Nat, n = (j : Int) := ⟨n.toNat, by omega⟩
    have hp := pow26 ⟨m.toNat, by omega⟩ ⟨n, by omega⟩
    rw [show ((m.toNat : Nat) : Int) = m from by omega] at hp
    simp only at hp
    have p1 : spec_woPower.f 20 m n = some (m ^ n) := by
      unfold spec_woPower.f
      rw [woPower_l0 m h0 n 20 1 (by omega) (by omega) (by omega) (by omega), Int.one_mul]
    have p2 : impl_power.f 20 m n = some (m ^ n) := by
      unfold impl_power.f
      have := power_l0 m h0 n 20 0 1 (by omega) (by omega) (by omega) (by omega)
      rw [Int.one_mul] at this
      exact this
    have hpos : 0 < m ^ n := Int.pow_pos (by omega)
    refine ⟨20, ?_⟩
    simp only [laws_FnExactWordOfRank.f, spec_WordOfRank.f, impl_WordOfRank.f, c1, c2, p1, p2, Option.bind_some, ↓reduceIte]
    rw [w64 (x := m ^ n - 1) (by omega) (by omega)]
    unfold spec_l1In.f impl_within.f
    by_cases hr : r ≥ 0
    · rw [if_pos hr]
      by_cases hr2 : r ≤ m ^ n - 1
      · have e1 : spec_woOf.f 20 m n r = some (strOfNums (digs m n r)) := by
          unfold spec_woOf.f
          have := woOf_l0 m h0 h1 n 20 r [] (by omega) hr (by omega) (by simp; omega)
          rw [List.append_nil] at this
          exact this
        have e2 : impl_wordAt.f 20 m n r = some (strOfNums (digs m n r)) := by
          unfold impl_wordAt.f
          rw [if_pos (by omega), if_pos (by omega), w64 (x := (n : Int) - 1) (by omega) (by omega)]
          have := wordAt_l0 m h0 h1 n 20 r (List.replicate n 0) (by omega) hr (by omega) (by simp) (by simp; omega)
          rw [List.drop_of_length_le (by simp), List.append_nil] at this
          exact this
        rw [decide_eq_true hr2]
        simp only [Option.bind_some, e1, e2, ↓reduceIte]
        simp
      · rw [decide_eq_false hr2]
        simp
    · rw [if_neg hr]
      simp
  · refine ⟨0, ?_⟩
    simp only [laws_FnExactWordOfRank.f, spec_WordOfRank.f, impl_WordOfRank.f, (long_out h).1, (long_out h).2, Option.bind_some]
    simp

end Go.Proofs.Ythhogbfmfdmcaaa.Pure
