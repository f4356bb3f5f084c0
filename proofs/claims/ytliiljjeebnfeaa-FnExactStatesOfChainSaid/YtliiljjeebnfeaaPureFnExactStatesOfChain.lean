/- For all arguments the program and the reference return the same from StatesOfChain: the plain statement over numbers and lists, and its proof. -/
import Derived.Test.YtliiljjeebnfeaaPFnExactStatesOfChainx1
import Derived.Test.YtliiljjeebnfeaaPFnExactStatesOfChainx2
namespace Go.Proofs.Ytliiljjeebnfeaa.Pure
open Go.RowKit Go.Proofs.Ytliiljjeebnfeaa.PFnExactStatesOfChain Go.Proofs.YtliiljjeebnfeaaW.PrintWords Go.Proofs.YtliiljjeebnfeaaW.PrintLast Go.Proofs.YtliiljjeebnfeaaW.PrintMore
set_option linter.unusedVariables false
set_option linter.unusedSimpArgs false
set_option maxRecDepth 100000
theorem w64 {x : Int} (h0 : -9223372036854775808 ≤ x) (h1 : x ≤ 9223372036854775807) : wrap64 x = x := by
  unfold wrap64
  omega

theorem mul_fits {x y A B : Int} (hx : x.natAbs ≤ A.natAbs) (hy : y.natAbs ≤ B.natAbs) : (x * y).natAbs ≤ (A * B).natAbs := by
  rw [Int.natAbs_mul, Int.natAbs_mul]
  exact Nat.mul_le_mul hx hy

/-- A product of numbers of at most nine digits. -/
theorem mul9 {x y : Int} (hx : x.natAbs ≤ 1000000000) (hy : y.natAbs ≤ 1000000000) : (x * y).natAbs ≤ 1000000000000000000 := by
  rw [Int.natAbs_mul]
  exact Nat.le_trans (Nat.mul_le_mul hx hy) (by decide)

theorem wf_range {a : Int} (h : (Lit.int .i64 a).wf = true) : -9223372036854775808 ≤ a ∧ a ≤ 9223372036854775807 := by
  simp [Lit.wf, IntKind.min, IntKind.max, IntKind.signed, IntKind.bits] at h
  omega

/-- Is a chain: as both tell it. -/
theorem cnGood_is (w d o : Int) : spec_cnGood.f w d o = some (decide (1 ≤ o ∧ o ≤ 10 ∧ 0 ≤ w ∧ w ≤ o ∧ 0 ≤ d ∧ d ≤ o)) := by
  unfold spec_cnGood.f spec_l1In.f
  by_cases h1 : 1 ≤ o ∧ o ≤ 10 ∧ 0 ≤ w ∧ w ≤ o ∧ 0 ≤ d ∧ d ≤ o
  · rw [decide_eq_true h1]
    obtain ⟨h1, h2, h3, h4, h5, h6⟩ := h1
    simp [*]
  · rw [decide_eq_false h1]
    grind

theorem isChain_is (w d o : Int) : impl_IsChain.f w d o = some (decide (1 ≤ o ∧ o ≤ 10 ∧ 0 ≤ w ∧ w ≤ o ∧ 0 ≤ d ∧ d ≤ o)) := by
  unfold impl_IsChain.f impl_within.f
  by_cases h1 : 1 ≤ o ∧ o ≤ 10 ∧ 0 ≤ w ∧ w ≤ o ∧ 0 ≤ d ∧ d ≤ o
  · rw [decide_eq_true h1]
    obtain ⟨h1, h2, h3, h4, h5, h6⟩ := h1
    simp [*]
  · rw [decide_eq_false h1]
    grind

theorem rd_get {xs : List Int} {j : Nat} (h : j < xs.length) : rd xs (j : Int) = xs[j] := by
  unfold rd
  rw [Int.toNat_natCast, List.getD_eq_getElem?_getD, List.getElem?_eq_getElem h]
  rfl

theorem rd1_get {xs : List (List Int)} {j : Nat} (h : j < xs.length) : rd_L1 xs (j : Int) = xs[j] := by
  unfold rd_L1
  rw [Int.toNat_natCast, List.getD_eq_getElem?_getD, List.getElem?_eq_getElem h]
  rfl

theorem eqIntS_l0 (xs : List Int) (hx : xs.length ≤ 1048576) : ∀ (m j k : Nat), m < k → j + m = xs.length → laws_eqIntS.l0 k xs xs j = some true := by
  intro m
  induction m with
  | zero =>
    intro j k hk hj
    obtain ⟨k, rfl⟩ : ∃ m, k = m + 1 := ⟨k - 1, by omega⟩
    simp only [laws_eqIntS.l0]
    rw [if_neg (by omega)]
  | succ m ih =>
    intro j k hk hj
    obtain ⟨k, rfl⟩ : ∃ m, k = m + 1 := ⟨k - 1, by omega⟩
    simp only [laws_eqIntS.l0, ↓reduceIte]
    rw [if_pos (by omega), if_pos (by omega), if_pos (by omega), w64 (x := (j : Int) + 1) (by omega) (by omega), show (j : Int) + 1 = ((j + 1 : Nat) : Int) from by omega]
    exact ih (j + 1) k (by omega) (by omega)

theorem eqIntS_is (xs : List Int) (hx : xs.length ≤ 1048576) (k : Nat) (hk : xs.length < k) : laws_eqIntS.f k xs xs = some true := by
  simp only [laws_eqIntS.f, ↓reduceIte]
  exact eqIntS_l0 xs hx xs.length 0 k hk (by omega)

theorem eqIntSS_l0 (xs : List (List Int)) (hx : xs.length ≤ 1048576) (hr : ∀ r ∈ xs, r.length ≤ 1048576) : ∀ (m j k : Nat), m + 1048578 < k → j + m = xs.length → laws_eqIntSS.l0 k xs xs j = some true := by
  intro m
  induction m with
  | zero =>
    intro j k hk hj
    obtain ⟨k, rfl⟩ : ∃ m, k = m + 1 := ⟨k - 1, by omega⟩
    simp only [laws_eqIntSS.l0]
    rw [if_neg (by omega)]
  | succ m ih =>
    intro j k hk hj
    obtain ⟨k, rfl⟩ : ∃ m, k = m + 1 := ⟨k - 1, by omega⟩
    have hlt : j < xs.length := by omega
    have hrr := hr _ (List.getElem_mem hlt)
    simp only [laws_eqIntSS.l0]
    rw [if_pos (by omega), if_pos (by omega), if_pos (by omega), rd1_get hlt, eqIntS_is _ hrr k (by omega)]
    simp only [Option.bind_some, ↓reduceIte]
    rw [w64 (x := (j : Int) + 1) (by omega) (by omega), show (j : Int) + 1 = ((j + 1 : Nat) : Int) from by omega]
    exact ih (j + 1) k (by omega) (by omega)

theorem eqIntSS_is (xs : List (List Int)) (hx : xs.length ≤ 1048576) (hr : ∀ r ∈ xs, r.length ≤ 1048576) (k : Nat) (hk : 3000000 ≤ k) : laws_eqIntSS.f k xs xs = some true := by
  simp only [laws_eqIntSS.f, ↓reduceIte]
  exact eqIntSS_l0 xs hx hr xs.length 0 k (by omega) (by omega)

theorem eqStates_is (o : Int) (xs : List (List Int)) (hx : xs.length ≤ 1048576) (hr : ∀ r ∈ xs, r.length ≤ 1048576) (k : Nat) (hk : 3000000 ≤ k) : laws_eqStates.f k o xs o xs = some true := by
  simp only [laws_eqStates.f, ↓reduceIte, eqIntSS_is xs hx hr k hk, Option.bind_some]

/-- The numbers from m on. -/
def upFrom (m : Int) : Nat → List Int
  | 0 => []
  | n + 1 => m :: upFrom (m + 1) n
theorem upFrom_len (m : Int) : ∀ n, (upFrom m n).length = n
  | 0 => rfl
  | n + 1 => by rw [upFrom, List.length_cons, upFrom_len]
theorem upFrom_get : ∀ (n : Nat) (m : Int) (j : Nat) (h : j < (upFrom m n).length), (upFrom m n)[j] = m + j
  | 0, _, _, h => by simp [upFrom] at h
  | n + 1, m, 0, _ => by simp [upFrom]
  | n + 1, m, j + 1, h => by
    simp only [upFrom, List.getElem_cons_succ]
    rw [upFrom_get n (m + 1) j]
    omega

theorem markIntS_l0 (xs : List Int) (m : Int) (h0 : 0 ≤ m) (h1 : m ≤ 10000000000000) (hx : xs.length ≤ 1048576) : ∀ (d j : Nat) (ys : List Int), j + d = xs.length → ys.length = xs.length → ys.take j = (upFrom m xs.length).take j → ∀ k, d < k →
    laws_markIntS.l0 k ys (m + j) j = some (m + xs.length, upFrom m xs.length) := by
  intro d
  induction d with
  | zero =>
    intro j ys hj hy ht k hk
    obtain ⟨k, rfl⟩ : ∃ m, k = m + 1 := ⟨k - 1, by omega⟩
    have hu := upFrom_len m xs.length
    simp only [laws_markIntS.l0]
    rw [if_neg (by omega)]
    rw [List.take_of_length_le (by omega), List.take_of_length_le (by omega)] at ht
    rw [ht, show j = xs.length from by omega]
  | succ d ih =>
    intro j ys hj hy ht k hk
    obtain ⟨k, rfl⟩ : ∃ m, k = m + 1 := ⟨k - 1, by omega⟩
    have hu := upFrom_len m xs.length
    have hlu : j < (upFrom m xs.length).length := by omega
    simp only [laws_markIntS.l0]
    rw [if_pos (by omega), if_pos (by omega), Int.toNat_natCast, w64 (x := m + j + 1) (by omega) (by omega), w64 (x := (j : Int) + 1) (by omega) (by omega)]
    have := ih (j + 1) (ys.set j (m + j)) (by omega) (by rw [List.length_set]; exact hy) (by
      rw [List.take_add_one, List.take_add_one, List.take_set_of_le (by omega), ht, List.getElem?_set_self (by omega), List.getElem?_eq_getElem hlu, upFrom_get]) k (by omega)
    rw [show m + j + 1 = m + ((j + 1 : Nat) : Int) from by omega]
    exact this

theorem markIntS_is (xs : List Int) (m : Int) (h0 : 0 ≤ m) (h1 : m ≤ 10000000000000) (hx : xs.length ≤ 1048576) (k : Nat) (hk : 1048580 ≤ k) : laws_markIntS.f k xs m = some (m + xs.length, upFrom m xs.length) := by
  have := markIntS_l0 xs m h0 h1 hx xs.length 0 xs (by omega) rfl (by simp) k (by omega)
  rw [show m + ((0 : Nat) : Int) = m from by omega] at this
  exact this

theorem heldIntS_l0 (n : Nat) (m : Int) (h0 : 0 ≤ m) (h1 : m ≤ 10000000000000) (hx : n ≤ 1048576) : ∀ (d j : Nat), j + d = n → ∀ k, d < k →
    laws_heldIntS.l0 k (upFrom m n) (m + j) j = some (m + n) := by
  have hu := upFrom_len m n
  intro d
  induction d with
  | zero =>
    intro j hj k hk
    obtain ⟨k, rfl⟩ : ∃ m, k = m + 1 := ⟨k - 1, by omega⟩
    simp only [laws_heldIntS.l0]
    rw [if_neg (by omega), show j = n from by omega]
  | succ d ih =>
    intro j hj k hk
    obtain ⟨k, rfl⟩ : ∃ m, k = m + 1 := ⟨k - 1, by omega⟩
    have hlu : j < (upFrom m n).length := by omega
    simp only [laws_heldIntS.l0]
    rw [if_pos (by omega), if_pos (by omega), rd_get hlu, upFrom_get, if_pos rfl, w64 (x := m + j + 1) (by omega) (by omega), w64 (x := (j : Int) + 1) (by omega) (by omega)]
    have := ih (j + 1) (by omega) k (by omega)
    rw [show m + j + 1 = m + ((j + 1 : Nat) : Int) from by omega]
    exact this

theorem heldIntS_is (n : Nat) (m : Int) (h0 : 0 ≤ m) (h1 : m ≤ 10000000000000) (hx : n ≤ 1048576) (k : Nat) (hk : 1048580 ≤ k) : laws_heldIntS.f k (upFrom m n) m = some (m + n) := by
  have := heldIntS_l0 n m h0 h1 hx n 0 (by omega) k (by omega)
  rw [show m + ((0 : Nat) : Int) = m from by omega] at this
  exact this

/-- The rows, marked from m on. -/
def markRows : Int → List (List Int) → List (List Int)
  | _, [] => []
  | m, r :: rs => upFrom m r.length :: markRows (m + r.length) rs
def markEnd : Int → List (List Int) → Int
  | m, [] => m
  | m, r :: rs => markEnd (m + r.length) rs

theorem markEnd_le : ∀ (rs : List (List Int)) (m : Int), (∀ r ∈ rs, r.length ≤ 1048576) → m ≤ markEnd m rs ∧ markEnd m rs ≤ m + 1048576 * rs.length
  | [], m, _ => by simp [markEnd]
  | r :: rs, m, h => by
    have h1 := h r (by simp)
    have h2 := markEnd_le rs (m + r.length) (fun x hx => h x (by simp [hx]))
    simp only [markEnd, List.length_cons]
    omega

theorem markIntSS_l0 (rows : List (List Int)) (hl : rows.length ≤ 1048576) (hr : ∀ r ∈ rows, r.length ≤ 1048576) : ∀ (d j : Nat) (pre : List (List Int)) (m : Int), j + d = rows.length → pre.length = j → 0 ≤ m → m ≤ 1 + 1048576 * j → ∀ k, d + 1048580 < k →
    laws_markIntSS.l0 k (pre ++ rows.drop j) m j = some (markEnd m (rows.drop j), pre ++ markRows m (rows.drop j)) := by
  intro d
  induction d with
  | zero =>
    intro j pre m hj hp h0 h1 k hk
    obtain ⟨k, rfl⟩ : ∃ m, k = m + 1 := ⟨k - 1, by omega⟩
    rw [List.drop_of_length_le (by omega), List.append_nil]
    simp only [laws_markIntSS.l0]
    rw [if_neg (by omega)]
    simp [markEnd, markRows]
  | succ d ih =>
    intro j pre m hj hp h0 h1 k hk
    obtain ⟨k, rfl⟩ : ∃ m, k = m + 1 := ⟨k - 1, by omega⟩
    have hlt : j < rows.length := by omega
    have hll : j < (pre ++ rows.drop j).length := by simp; omega
    have hrr := hr _ (List.getElem_mem hlt)
    have hg : (pre ++ rows.drop j)[j] = rows[j] := by
      rw [List.getElem_append_right (by omega)]
      simp [hp]
    have hs : (pre ++ rows.drop j).set j (upFrom m rows[j].length) = (pre ++ [upFrom m rows[j].length]) ++ rows.drop (j + 1) := by
      rw [List.set_append_right _ _ (by omega), hp, Nat.sub_self, List.drop_eq_getElem_cons hlt, List.set_cons_zero, List.append_assoc, List.singleton_append]
    simp only [laws_markIntSS.l0]
    rw [if_pos (by omega), if_pos (by omega), rd1_get hll, hg, markIntS_is rows[j] m h0 (by omega) hrr k (by omega)]
    simp only [Option.bind_some, Int.toNat_natCast]
    rw [hs, w64 (x := (j : Int) + 1) (by omega) (by omega)]
    have := ih (j + 1) (pre ++ [upFrom m rows[j].length]) (m + rows[j].length) (by omega) (by simp [hp]) (by omega) (by omega) k (by omega)
    rw [List.drop_eq_getElem_cons hlt, markEnd, markRows]
    simp only [List.append_assoc, List.singleton_append] at this ⊢
    exact this

theorem markIntSS_is (rows : List (List Int)) (hl : rows.length ≤ 1048576) (hr : ∀ r ∈ rows, r.length ≤ 1048576) (k : Nat) (hk : 3000000 ≤ k) :
    laws_markIntSS.f k rows 1 = some (markEnd 1 rows, markRows 1 rows) := by
  have := markIntSS_l0 rows hl hr rows.length 0 [] 1 (by omega) rfl (by omega) (by omega) k (by omega)
  rw [List.drop_zero, List.nil_append, List.nil_append] at this
  exact this

theorem markStates_is (o : Int) (rows : List (List Int)) (hl : rows.length ≤ 1048576) (hr : ∀ r ∈ rows, r.length ≤ 1048576) (k : Nat) (hk : 3000000 ≤ k) :
    laws_markStates.f k o rows 1 = some (markEnd 1 rows, markRows 1 rows) := markIntSS_is rows hl hr k hk
theorem markEnd_pos (rows : List (List Int)) (hr : ∀ r ∈ rows, r.length ≤ 1048576) : ¬ markEnd 1 rows < 0 := by
  have := (markEnd_le rows 1 hr).1
  omega

theorem markRows_len : ∀ (rs : List (List Int)) (m : Int), (markRows m rs).length = rs.length
  | [], _ => rfl
  | r :: rs, m => by rw [markRows, List.length_cons, markRows_len, List.length_cons]

theorem heldIntSS_l0 (all : List (List Int)) : ∀ (rs : List (List Int)) (j : Nat) (m : Int), all.drop j = markRows m rs → j + rs.length = all.length → all.length ≤ 1048576 → (∀ r ∈ rs, r.length ≤ 1048576) → 0 ≤ m → m ≤ 1 + 1048576 * j → ∀ k, rs.length + 1048590 < k →
    laws_heldIntSS.l0 k all m j = some (markEnd m rs)
  | [], j, m, ha, hj, hl, hr, h0, h1, k, hk => by
    obtain ⟨k, rfl⟩ : ∃ m, k = m + 1 := ⟨k - 1, by omega⟩
    simp only [List.length_nil] at hj
    simp only [laws_heldIntSS.l0]
    rw [if_neg (by omega)]
    rfl
  | r :: rs, j, m, ha, hj, hl, hr, h0, h1, k, hk => by
    obtain ⟨k, rfl⟩ : ∃ m, k = m + 1 := ⟨k - 1, by omega⟩
    simp only [List.length_cons] at hj hk
    have hlt : j < all.length := by omega
    have hrr := hr r (by simp)
    rw [List.drop_eq_getElem_cons hlt, markRows] at ha
    injection ha with ha1 ha2
    have h2 := heldIntS_is r.length m h0 (by omega) hrr k (by omega)
    simp only [laws_heldIntSS.l0]
    rw [if_pos (by omega), if_pos (by omega), rd1_get hlt, ha1, h2]
    simp only [Option.bind_some]
    rw [if_neg (by omega), w64 (x := (j : Int) + 1) (by omega) (by omega)]
    have := heldIntSS_l0 all rs (j + 1) (m + r.length) ha2 (by omega) hl (fun x hx => hr x (by simp [hx])) (by omega) (by omega) k (by omega)
    rw [markEnd]
    exact this

theorem heldIntSS_is (rows : List (List Int)) (hl : rows.length ≤ 1048576) (hr : ∀ r ∈ rows, r.length ≤ 1048576) (k : Nat) (hk : 3000000 ≤ k) :
    laws_heldIntSS.f k (markRows 1 rows) 1 = some (markEnd 1 rows) :=
  heldIntSS_l0 (markRows 1 rows) rows 0 1 rfl (by rw [markRows_len]; omega) (by rw [markRows_len]; exact hl) hr (by omega) (by omega) k (by omega)

theorem statesOfChain_law (w d o : Int) (x : Int) (t : List (List Int)) (u : Bool) (ht : t.length ≤ 1048576) (ht2 : ∀ r ∈ t, r.length ≤ 1048576) (q1 : spec_StatesOfChain.f w d o = some (x, t, u)) (q2 : impl_StatesOfChain.f w d o = some (x, t, u)) : laws_FnExactStatesOfChain.f 4000000 w d o = some true := by
  have hb := markEnd_pos t ht2
  simp only [laws_FnExactStatesOfChain.f, laws_toChain.f, q1, q2, eqStates_is x t ht ht2 4000000 (by omega), markStates_is x t ht ht2 4000000 (by omega), laws_heldStates.f, heldIntSS_is t ht ht2 4000000 (by omega), Option.bind_some, ↓reduceIte, bne_self_eq_false, Bool.false_eq_true, if_neg hb]

theorem FnExactStatesOfChain (w d o : Int) (ww : (Lit.int .i64 w).wf = true) (wd : (Lit.int .i64 d).wf = true) (wo : (Lit.int .i64 o).wf = true) : ∃ k, laws_FnExactStatesOfChain.f k w d o = some true := by
  have g1 := cnGood_is w d o
  have g2 := isChain_is w d o
  refine ⟨4000000, ?_⟩
  by_cases c : 1 ≤ o ∧ o ≤ 10 ∧ 0 ≤ w ∧ w ≤ o ∧ 0 ≤ d ∧ d ≤ o
  · rw [decide_eq_true c] at g1 g2
    refine statesOfChain_law w d o o [[wrap64 (o - w), w], [d, wrap64 (o - d)]] true (by simp) (by simp) ?_ ?_
    · simp only [spec_StatesOfChain.f, g1, Option.bind_some, ↓reduceIte]
    · simp only [impl_StatesOfChain.f, g2, Option.bind_some, ↓reduceIte]
  · rw [decide_eq_false c] at g1 g2
    refine statesOfChain_law w d o 0 [] false (by simp) (by simp) ?_ ?_
    · simp [spec_StatesOfChain.f, g1]
    · simp [impl_StatesOfChain.f, g2]

end Go.Proofs.Ytliiljjeebnfeaa.Pure
