/- For all arguments the program and the reference return the same from StateClasses: the plain statement over numbers and lists, and its proof. -/
import Derived.Test.YtliiljjeebnfeaaPFnExactStateClassesx1
import Derived.Test.YtliiljjeebnfeaaPFnExactStateClassesx2
import Derived.Test.YtliiljjeebnfeaaPFnExactStateClassesx3
import Derived.Test.YtliiljjeebnfeaaPFnExactStateClassesx4
import Derived.Test.YtliiljjeebnfeaaPFnExactStateClassesx5
import Derived.Test.YtliiljjeebnfeaaPFnExactStateClassesx6
import Derived.Test.YtliiljjeebnfeaaPFnExactStateClassesx7
namespace Go.Proofs.Ytliiljjeebnfeaa.Pure
open Go.RowKit Go.Proofs.Ytliiljjeebnfeaa.PFnExactStateClasses Go.Proofs.YtliiljjeebnfeaaW.PrintWords Go.Proofs.YtliiljjeebnfeaaW.PrintLast Go.Proofs.YtliiljjeebnfeaaW.PrintMore
set_option linter.unusedVariables false
set_option linter.unusedSimpArgs false
set_option maxRecDepth 100000
theorem w64 {x : Int} (h0 : -9223372036854775808 ≤ x) (h1 : x ≤ 9223372036854775807) : wrap64 x = x := by
  unfold wrap64
  omega

theorem mul_fits {x y A B : Int} (hx : x.natAbs ≤ A.natAbs) (hy : y.natAbs ≤ B.natAbs) : (x * y).natAbs ≤ (A * B).natAbs := by
  rw [Int.natAbs_mul, Int.natAbs_mul]
  exact Nat.mul_le_mul hx hy

/-- A product of numbers of at most nine digits. -/
theorem mul9 {x y : Int} (hx : x.natAbs ≤ 1000000000) (hy : y.natAbs ≤ 1000000000) : (x * y).natAbs ≤ 1000000000000000000 := by
  rw [Int.natAbs_mul]
  exact Nat.le_trans (Nat.mul_le_mul hx hy) (by decide)

theorem wf_range {a : Int} (h : (Lit.int .i64 a).wf = true) : -9223372036854775808 ≤ a ∧ a ≤ 9223372036854775807 := by
  simp [Lit.wf, IntKind.min, IntKind.max, IntKind.signed, IntKind.bits] at h
  omega

theorem rd_get {xs : List Int} {j : Nat} (h : j < xs.length) : rd xs (j : Int) = xs[j] := by
  unfold rd
  rw [Int.toNat_natCast, List.getD_eq_getElem?_getD, List.getElem?_eq_getElem h]
  rfl

theorem rd1_get {xs : List (List Int)} {j : Nat} (h : j < xs.length) : rd_L1 xs (j : Int) = xs[j] := by
  unfold rd_L1
  rw [Int.toNat_natCast, List.getD_eq_getElem?_getD, List.getElem?_eq_getElem h]
  rfl

theorem szSS_l0 (rows : List (List Int)) (hl : rows.length ≤ 9223372036854775807) (hr : ∀ r ∈ rows, r.length ≤ 9223372036854775807) : ∀ (m j : Nat) (left : Int), j + m = rows.length → 0 ≤ left → left ≤ 1048576 →
    ∃ r, (∃ K, ∀ k, K ≤ k → laws_szIntSS.l0 k rows left j = some r) ∧ (0 ≤ r → ∀ i (h : i < rows.length), j ≤ i → (rows[i].length : Int) ≤ left) := by
  intro m
  induction m with
  | zero =>
    intro j left hj h0 h1
    refine ⟨left, ⟨1, fun k hk => ?_⟩, fun _ i h hi => by omega⟩
    obtain ⟨k, rfl⟩ : ∃ m, k = m + 1 := ⟨k - 1, by omega⟩
    simp only [laws_szIntSS.l0]
    rw [if_neg (by omega)]
  | succ m ih =>
    intro j left hj h0 h1
    have hlt : j < rows.length := by omega
    have hrr := hr _ (List.getElem_mem hlt)
    by_cases hc : left - (rows[j].length : Int) < 0
    · refine ⟨-1, ⟨1, fun k hk => ?_⟩, fun h => by omega⟩
      obtain ⟨k, rfl⟩ : ∃ m, k = m + 1 := ⟨k - 1, by omega⟩
      simp only [laws_szIntSS.l0, laws_szIntS.f]
      rw [if_pos (by omega), if_pos (by omega), rd1_get hlt, w64 (x := left - (rows[j].length : Int)) (by omega) (by omega), if_pos hc]
      rfl
    · obtain ⟨r, ⟨K, E⟩, h⟩ := ih (j + 1) (left - (rows[j].length : Int)) (by omega) (by omega) (by omega)
      refine ⟨r, ⟨K + 1, fun k hk => ?_⟩, fun h2 i hi hji => ?_⟩
      · obtain ⟨k, rfl⟩ : ∃ m, k = m + 1 := ⟨k - 1, by omega⟩
        simp only [laws_szIntSS.l0, laws_szIntS.f]
        rw [if_pos (by omega), if_pos (by omega), rd1_get hlt, w64 (x := left - (rows[j].length : Int)) (by omega) (by omega), if_neg hc]
        simp only [Option.bind_some]
        rw [if_neg hc, w64 (x := (j : Int) + 1) (by omega) (by omega)]
        exact E k (by omega)
      · by_cases hij : i = j
        · subst hij; omega
        · have := h h2 i hi (by omega)
          omega

theorem szStates_ev (o : Int) (rows : List (List Int)) (hl : rows.length ≤ 9223372036854775807) (hr : ∀ r ∈ rows, r.length ≤ 9223372036854775807) :
    ∃ r, (∃ K, ∀ k, K ≤ k → laws_szStates.f k o rows 1048576 = some r) ∧ (0 ≤ r → rows.length ≤ 1048576 ∧ ∀ x ∈ rows, x.length ≤ 1048576) := by
  by_cases hc : 1048576 - (rows.length : Int) < 0
  · refine ⟨-1, ⟨0, fun k _ => ?_⟩, fun h => by omega⟩
    simp only [laws_szStates.f, laws_szIntSS.f]
    rw [w64 (x := 1048576 - (rows.length : Int)) (by omega) (by omega), if_pos hc]
    rfl
  · obtain ⟨r, ⟨K, E⟩, h⟩ := szSS_l0 rows hl hr rows.length 0 (1048576 - (rows.length : Int)) (by omega) (by omega) (by omega)
    by_cases hr0 : r < 0
    · refine ⟨-1, ⟨K, fun k hk => ?_⟩, fun h => by omega⟩
      simp only [laws_szStates.f, laws_szIntSS.f]
      rw [w64 (x := 1048576 - (rows.length : Int)) (by omega) (by omega), if_neg hc, show laws_szIntSS.l0 k rows (1048576 - (rows.length : Int)) 0 = some r from E k hk]
      simp only [Option.bind_some]
      rw [if_pos hr0]
    · refine ⟨r, ⟨K, fun k hk => ?_⟩, fun h0 => ⟨by omega, fun x hx => ?_⟩⟩
      · simp only [laws_szStates.f, laws_szIntSS.f]
        rw [w64 (x := 1048576 - (rows.length : Int)) (by omega) (by omega), if_neg hc, show laws_szIntSS.l0 k rows (1048576 - (rows.length : Int)) 0 = some r from E k hk]
        simp only [Option.bind_some]
        rw [if_neg hr0]
      · obtain ⟨i, hi, rfl⟩ := List.getElem_of_mem hx
        have := h h0 i hi (by omega)
        omega

theorem toIntS_l0 (xs : List Int) (hx : xs.length ≤ 1048576) : ∀ (m j k : Nat) (ys : List Int), m < k → j + m = xs.length → ys.length = xs.length → ys.take j = xs.take j →
    laws_toIntS.l0 k xs ys j = some xs := by
  intro m
  induction m with
  | zero =>
    intro j k ys hk hj hy ht
    obtain ⟨k, rfl⟩ : ∃ m, k = m + 1 := ⟨k - 1, by omega⟩
    simp only [laws_toIntS.l0]
    rw [if_neg (by omega)]
    rw [List.take_of_length_le (by omega), List.take_of_length_le (by omega)] at ht
    rw [ht]
  | succ m ih =>
    intro j k ys hk hj hy ht
    obtain ⟨k, rfl⟩ : ∃ m, k = m + 1 := ⟨k - 1, by omega⟩
    have hlt : j < xs.length := by omega
    simp only [laws_toIntS.l0]
    rw [if_pos (by omega), if_pos (by omega), if_pos (by omega), rd_get hlt, w64 (x := (j : Int) + 1) (by omega) (by omega), show (j : Int) + 1 = ((j + 1 : Nat) : Int) from by omega, Int.toNat_natCast]
    refine ih (j + 1) k _ (by omega) (by omega) (by rw [List.length_set]; exact hy) ?_
    rw [List.take_add_one, List.take_add_one, List.take_set_of_le (by omega), ht, List.getElem?_set_self (by omega), List.getElem?_eq_getElem hlt]

theorem toIntS_is (xs : List Int) (hx : xs.length ≤ 1048576) (k : Nat) (hk : xs.length < k) : laws_toIntS.f k xs = some xs := by
  unfold laws_toIntS.f
  rw [if_pos (by omega), if_pos (by omega)]
  exact toIntS_l0 xs hx xs.length 0 k _ hk (by omega) (by simp) rfl

theorem toIntSS_l0 (xs : List (List Int)) (hx : xs.length ≤ 1048576) (hr : ∀ r ∈ xs, r.length ≤ 1048576) : ∀ (m j k : Nat) (ys : List (List Int)), m + 1048578 < k → j + m = xs.length → ys.length = xs.length → ys.take j = xs.take j →
    laws_toIntSS.l0 k xs ys j = some xs := by
  intro m
  induction m with
  | zero =>
    intro j k ys hk hj hy ht
    obtain ⟨k, rfl⟩ : ∃ m, k = m + 1 := ⟨k - 1, by omega⟩
    simp only [laws_toIntSS.l0]
    rw [if_neg (by omega)]
    rw [List.take_of_length_le (by omega), List.take_of_length_le (by omega)] at ht
    rw [ht]
  | succ m ih =>
    intro j k ys hk hj hy ht
    obtain ⟨k, rfl⟩ : ∃ m, k = m + 1 := ⟨k - 1, by omega⟩
    have hlt : j < xs.length := by omega
    have hrr := hr _ (List.getElem_mem hlt)
    simp only [laws_toIntSS.l0]
    rw [if_pos (by omega), if_pos (by omega), rd1_get hlt, toIntS_is _ hrr k (by omega)]
    simp only [Option.bind_some]
    rw [if_pos (by omega), w64 (x := (j : Int) + 1) (by omega) (by omega), show (j : Int) + 1 = ((j + 1 : Nat) : Int) from by omega, Int.toNat_natCast]
    refine ih (j + 1) k _ (by omega) (by omega) (by rw [List.length_set]; exact hy) ?_
    rw [List.take_add_one, List.take_add_one, List.take_set_of_le (by omega), ht, List.getElem?_set_self (by omega), List.getElem?_eq_getElem hlt]

theorem toStates_is (o : Int) (xs : List (List Int)) (hx : xs.length ≤ 1048576) (hr : ∀ r ∈ xs, r.length ≤ 1048576) (k : Nat) (hk : 3000000 ≤ k) : laws_toStates.f k o xs = some (o, xs) := by
  unfold laws_toStates.f laws_toIntSS.f
  rw [if_pos (by omega), if_pos (by omega)]
  rw [show laws_toIntSS.l0 k xs (List.replicate ((xs.length : Int) : Int).toNat []) 0 = some xs from toIntSS_l0 xs hx hr xs.length 0 k _ (by omega) (by omega) (by simp) rfl]
  rfl

theorem eqIntS_l0 (xs : List Int) (hx : xs.length ≤ 1048576) : ∀ (m j k : Nat), m < k → j + m = xs.length → laws_eqIntS.l0 k xs xs j = some true := by
  intro m
  induction m with
  | zero =>
    intro j k hk hj
    obtain ⟨k, rfl⟩ : ∃ m, k = m + 1 := ⟨k - 1, by omega⟩
    simp only [laws_eqIntS.l0]
    rw [if_neg (by omega)]
  | succ m ih =>
    intro j k hk hj
    obtain ⟨k, rfl⟩ : ∃ m, k = m + 1 := ⟨k - 1, by omega⟩
    simp only [laws_eqIntS.l0, ↓reduceIte]
    rw [if_pos (by omega), if_pos (by omega), if_pos (by omega), w64 (x := (j : Int) + 1) (by omega) (by omega), show (j : Int) + 1 = ((j + 1 : Nat) : Int) from by omega]
    exact ih (j + 1) k (by omega) (by omega)

theorem eqIntS_is (xs : List Int) (hx : xs.length ≤ 1048576) (k : Nat) (hk : xs.length < k) : laws_eqIntS.f k xs xs = some true := by
  simp only [laws_eqIntS.f, ↓reduceIte]
  exact eqIntS_l0 xs hx xs.length 0 k hk (by omega)

theorem eqIntSS_l0 (xs : List (List Int)) (hx : xs.length ≤ 1048576) (hr : ∀ r ∈ xs, r.length ≤ 1048576) : ∀ (m j k : Nat), m + 1048578 < k → j + m = xs.length → laws_eqIntSS.l0 k xs xs j = some true := by
  intro m
  induction m with
  | zero =>
    intro j k hk hj
    obtain ⟨k, rfl⟩ : ∃ m, k = m + 1 := ⟨k - 1, by omega⟩
    simp only [laws_eqIntSS.l0]
    rw [if_neg (by omega)]
  | succ m ih =>
    intro j k hk hj
    obtain ⟨k, rfl⟩ : ∃ m, k = m + 1 := ⟨k - 1, by omega⟩
    have hlt : j < xs.length := by omega
    have hrr := hr _ (List.getElem_mem hlt)
    simp only [laws_eqIntSS.l0]
    rw [if_pos (by omega), if_pos (by omega), if_pos (by omega), rd1_get hlt, eqIntS_is _ hrr k (by omega)]
    simp only [Option.bind_some, ↓reduceIte]
    rw [w64 (x := (j : Int) + 1) (by omega) (by omega), show (j : Int) + 1 = ((j + 1 : Nat) : Int) from by omega]
    exact ih (j + 1) k (by omega) (by omega)

theorem eqIntSS_is (xs : List (List Int)) (hx : xs.length ≤ 1048576) (hr : ∀ r ∈ xs, r.length ≤ 1048576) (k : Nat) (hk : 3000000 ≤ k) : laws_eqIntSS.f k xs xs = some true := by
  simp only [laws_eqIntSS.f, ↓reduceIte]
  exact eqIntSS_l0 xs hx hr xs.length 0 k (by omega) (by omega)

theorem eqStates_is (o : Int) (xs : List (List Int)) (hx : xs.length ≤ 1048576) (hr : ∀ r ∈ xs, r.length ≤ 1048576) (k : Nat) (hk : 3000000 ≤ k) : laws_eqStates.f k o xs o xs = some true := by
  simp only [laws_eqStates.f, ↓reduceIte, eqIntSS_is xs hx hr k hk, Option.bind_some]

/-- The numbers from m on. -/
def upFrom (m : Int) : Nat → List Int
  | 0 => []
  | n + 1 => m :: upFrom (m + 1) n
theorem upFrom_len (m : Int) : ∀ n, (upFrom m n).length = n
  | 0 => rfl
  | n + 1 => by rw [upFrom, List.length_cons, upFrom_len]
theorem upFrom_get : ∀ (n : Nat) (m : Int) (j : Nat) (h : j < (upFrom m n).length), (upFrom m n)[j] = m + j
  | 0, _, _, h => by simp [upFrom] at h
  | n + 1, m, 0, _ => by simp [upFrom]
  | n + 1, m, j + 1, h => by
    simp only [upFrom, List.getElem_cons_succ]
    rw [upFrom_get n (m + 1) j]
    omega

theorem markIntS_l0 (xs : List Int) (m : Int) (h0 : 0 ≤ m) (h1 : m ≤ 10000000000000) (hx : xs.length ≤ 1048576) : ∀ (d j : Nat) (ys : List Int), j + d = xs.length → ys.length = xs.length → ys.take j = (upFrom m xs.length).take j → ∀ k, d < k →
    laws_markIntS.l0 k ys (m + j) j = some (m + xs.length, upFrom m xs.length) := by
  intro d
  induction d with
  | zero =>
    intro j ys hj hy ht k hk
    obtain ⟨k, rfl⟩ : ∃ m, k = m + 1 := ⟨k - 1, by omega⟩
    have hu := upFrom_len m xs.length
    simp only [laws_markIntS.l0]
    rw [if_neg (by omega)]
    rw [List.take_of_length_le (by omega), List.take_of_length_le (by omega)] at ht
    rw [ht, show j = xs.length from by omega]
  | succ d ih =>
    intro j ys hj hy ht k hk
    obtain ⟨k, rfl⟩ : ∃ m, k = m + 1 := ⟨k - 1, by omega⟩
    have hu := upFrom_len m xs.length
    have hlu : j < (upFrom m xs.length).length := by omega
    simp only [laws_markIntS.l0]
    rw [if_pos (by omega), if_pos (by omega), Int.toNat_natCast, w64 (x := m + j + 1) (by omega) (by omega), w64 (x := (j : Int) + 1) (by omega) (by omega)]
    have := ih (j + 1) (ys.set j (m + j)) (by omega) (by rw [List.length_set]; exact hy) (by
      rw [List.take_add_one, List.take_add_one, List.take_set_of_le (by omega), ht, List.getElem?_set_self (by omega), List.getElem?_eq_getElem hlu, upFrom_get]) k (by omega)
    rw [show m + j + 1 = m + ((j + 1 : Nat) : Int) from by omega]
    exact this

theorem markIntS_is (xs : List Int) (m : Int) (h0 : 0 ≤ m) (h1 : m ≤ 10000000000000) (hx : xs.length ≤ 1048576) (k : Nat) (hk : 1048580 ≤ k) : laws_markIntS.f k xs m = some (m + xs.length, upFrom m xs.length) := by
  have := markIntS_l0 xs m h0 h1 hx xs.length 0 xs (by omega) rfl (by simp) k (by omega)
  rw [show m + ((0 : Nat) : Int) = m from by omega] at this
  exact this

theorem heldIntS_l0 (n : Nat) (m : Int) (h0 : 0 ≤ m) (h1 : m ≤ 10000000000000) (hx : n ≤ 1048576) : ∀ (d j : Nat), j + d = n → ∀ k, d < k →
    laws_heldIntS.l0 k (upFrom m n) (m + j) j = some (m + n) := by
  have hu := upFrom_len m n
  intro d
  induction d with
  | zero =>
    intro j hj k hk
    obtain ⟨k, rfl⟩ : ∃ m, k = m + 1 := ⟨k - 1, by omega⟩
    simp only [laws_heldIntS.l0]
    rw [if_neg (by omega), show j = n from by omega]
  | succ d ih =>
    intro j hj k hk
    obtain ⟨k, rfl⟩ : ∃ m, k = m + 1 := ⟨k - 1, by omega⟩
    have hlu : j < (upFrom m n).length := by omega
    simp only [laws_heldIntS.l0]
    rw [if_pos (by omega), if_pos (by omega), rd_get hlu, upFrom_get, if_pos rfl, w64 (x := m + j + 1) (by omega) (by omega), w64 (x := (j : Int) + 1) (by omega) (by omega)]
    have := ih (j + 1) (by omega) k (by omega)
    rw [show m + j + 1 = m + ((j + 1 : Nat) : Int) from by omega]
    exact this

theorem heldIntS_is (n : Nat) (m : Int) (h0 : 0 ≤ m) (h1 : m ≤ 10000000000000) (hx : n ≤ 1048576) (k : Nat) (hk : 1048580 ≤ k) : laws_heldIntS.f k (upFrom m n) m = some (m + n) := by
  have := heldIntS_l0 n m h0 h1 hx n 0 (by omega) k (by omega)
  rw [show m + ((0 : Nat) : Int) = m from by omega] at this
  exact this

/-- The rows, marked from m on. -/
def markRows : Int → List (List Int) → List (List Int)
  | _, [] => []
  | m, r :: rs => upFrom m r.length :: markRows (m + r.length) rs
def markEnd : Int → List (List Int) → Int
  | m, [] => m
  | m, r :: rs => markEnd (m + r.length) rs

theorem markEnd_le : ∀ (rs : List (List Int)) (m : Int), (∀ r ∈ rs, r.length ≤ 1048576) → m ≤ markEnd m rs ∧ markEnd m rs ≤ m + 1048576 * rs.length
  | [], m, _ => by simp [markEnd]
  | r :: rs, m, h => by
    have h1 := h r (by simp)
    have h2 := markEnd_le rs (m + r.length) (fun x hx => h x (by simp [hx]))
    simp only [markEnd, List.length_cons]
    omega

theorem markIntSS_l0 (rows : List (List Int)) (hl : rows.length ≤ 1048576) (hr : ∀ r ∈ rows, r.length ≤ 1048576) : ∀ (d j : Nat) (pre : List (List Int)) (m : Int), j + d = rows.length → pre.length = j → 0 ≤ m → m ≤ 1 + 1048576 * j → ∀ k, d + 1048580 < k →
    laws_markIntSS.l0 k (pre ++ rows.drop j) m j = some (markEnd m (rows.drop j), pre ++ markRows m (rows.drop j)) := by
  intro d
  induction d with
  | zero =>
    intro j pre m hj hp h0 h1 k hk
    obtain ⟨k, rfl⟩ : ∃ m, k = m + 1 := ⟨k - 1, by omega⟩
    rw [List.drop_of_length_le (by omega), List.append_nil]
    simp only [laws_markIntSS.l0]
    rw [if_neg (by omega)]
    simp [markEnd, markRows]
  | succ d ih =>
    intro j pre m hj hp h0 h1 k hk
    obtain ⟨k, rfl⟩ : ∃ m, k = m + 1 := ⟨k - 1, by omega⟩
    have hlt : j < rows.length := by omega
    have hll : j < (pre ++ rows.drop j).length := by simp; omega
    have hrr := hr _ (List.getElem_mem hlt)
    have hg : (pre ++ rows.drop j)[j] = rows[j] := by
      rw [List.getElem_append_right (by omega)]
      simp [hp]
    have hs : (pre ++ rows.drop j).set j (upFrom m rows[j].length) = (pre ++ [upFrom m rows[j].length]) ++ rows.drop (j + 1) := by
      rw [List.set_append_right _ _ (by omega), hp, Nat.sub_self, List.drop_eq_getElem_cons hlt, List.set_cons_zero, List.append_assoc, List.singleton_append]
    simp only [laws_markIntSS.l0]
    rw [if_pos (by omega), if_pos (by omega), rd1_get hll, hg, markIntS_is rows[j] m h0 (by omega) hrr k (by omega)]
    simp only [Option.bind_some, Int.toNat_natCast]
    rw [hs, w64 (x := (j : Int) + 1) (by omega) (by omega)]
    have := ih (j + 1) (pre ++ [upFrom m rows[j].length]) (m + rows[j].length) (by omega) (by simp [hp]) (by omega) (by omega) k (by omega)
    rw [List.drop_eq_getElem_cons hlt, markEnd, markRows]
    simp only [List.append_assoc, List.singleton_append] at this ⊢
    exact this

theorem markIntSS_is (rows : List (List Int)) (hl : rows.length ≤ 1048576) (hr : ∀ r ∈ rows, r.length ≤ 1048576) (k : Nat) (hk : 3000000 ≤ k) :
    laws_markIntSS.f k rows 1 = some (markEnd 1 rows, markRows 1 rows) := by
  have := markIntSS_l0 rows hl hr rows.length 0 [] 1 (by omega) rfl (by omega) (by omega) k (by omega)
  rw [List.drop_zero, List.nil_append, List.nil_append] at this
  exact this

theorem markStates_is (o : Int) (rows : List (List Int)) (hl : rows.length ≤ 1048576) (hr : ∀ r ∈ rows, r.length ≤ 1048576) (k : Nat) (hk : 3000000 ≤ k) :
    laws_markStates.f k o rows 1 = some (markEnd 1 rows, markRows 1 rows) := markIntSS_is rows hl hr k hk
theorem markEnd_pos (rows : List (List Int)) (hr : ∀ r ∈ rows, r.length ≤ 1048576) : ¬ markEnd 1 rows < 0 := by
  have := (markEnd_le rows 1 hr).1
  omega

theorem markRows_len : ∀ (rs : List (List Int)) (m : Int), (markRows m rs).length = rs.length
  | [], _ => rfl
  | r :: rs, m => by rw [markRows, List.length_cons, markRows_len, List.length_cons]

theorem heldIntSS_l0 (all : List (List Int)) : ∀ (rs : List (List Int)) (j : Nat) (m : Int), all.drop j = markRows m rs → j + rs.length = all.length → all.length ≤ 1048576 → (∀ r ∈ rs, r.length ≤ 1048576) → 0 ≤ m → m ≤ 1 + 1048576 * j → ∀ k, rs.length + 1048590 < k →
    laws_heldIntSS.l0 k all m j = some (markEnd m rs)
  | [], j, m, ha, hj, hl, hr, h0, h1, k, hk => by
    obtain ⟨k, rfl⟩ : ∃ m, k = m + 1 := ⟨k - 1, by omega⟩
    simp only [List.length_nil] at hj
    simp only [laws_heldIntSS.l0]
    rw [if_neg (by omega)]
    rfl
  | r :: rs, j, m, ha, hj, hl, hr, h0, h1, k, hk => by
    obtain ⟨k, rfl⟩ : ∃ m, k = m + 1 := ⟨k - 1, by omega⟩
    simp only [List.length_cons] at hj hk
    have hlt : j < all.length := by omega
    have hrr := hr r (by simp)
    rw [List.drop_eq_getElem_cons hlt, markRows] at ha
    injection ha with ha1 ha2
    have h2 := heldIntS_is r.length m h0 (by omega) hrr k (by omega)
    simp only [laws_heldIntSS.l0]
    rw [if_pos (by omega), if_pos (by omega), rd1_get hlt, ha1, h2]
    simp only [Option.bind_some]
    rw [if_neg (by omega), w64 (x := (j : Int) + 1) (by omega) (by omega)]
    have := heldIntSS_l0 all rs (j + 1) (m + r.length) ha2 (by omega) hl (fun x hx => hr x (by simp [hx])) (by omega) (by omega) k (by omega)
    rw [markEnd]
    exact this

theorem heldIntSS_is (rows : List (List Int)) (hl : rows.length ≤ 1048576) (hr : ∀ r ∈ rows, r.length ≤ 1048576) (k : Nat) (hk : 3000000 ≤ k) :
    laws_heldIntSS.f k (markRows 1 rows) 1 = some (markEnd 1 rows) :=
  heldIntSS_l0 (markRows 1 rows) rows 0 1 rfl (by rw [markRows_len]; omega) (by rw [markRows_len]; exact hl) hr (by omega) (by omega) k (by omega)

/-- A row of chances: n numbers from 0 on, o in all. -/
def GoodRow (n : Nat) (o : Int) (row : List Int) : Prop := row.length = n ∧ (∀ x ∈ row, 0 ≤ x) ∧ row.sum = o
/-- Valid states. -/
def Good (o : Int) (rows : List (List Int)) : Prop := 1 ≤ o ∧ o ≤ 10 ∧ 1 ≤ rows.length ∧ rows.length ≤ 5 ∧ ∀ row ∈ rows, GoodRow rows.length o row

theorem sum_nonneg : ∀ (l : List Int), (∀ x ∈ l, 0 ≤ x) → 0 ≤ l.sum
  | [], _ => by simp
  | x :: l, h => by
    have h1 := h x (by simp)
    have h2 := sum_nonneg l (fun y hy => h y (by simp [hy]))
    simp only [List.sum_cons]
    omega

theorem le_sum : ∀ (l : List Int), (∀ x ∈ l, 0 ≤ x) → ∀ x ∈ l, x ≤ l.sum
  | [], _, x, hx => by simp at hx
  | y :: l, h, x, hx => by
    have h1 := h y (by simp)
    have h2 := sum_nonneg l (fun z hz => h z (by simp [hz]))
    simp only [List.sum_cons]
    rcases List.mem_cons.1 hx with rfl | hx
    · omega
    · have := le_sum l (fun z hz => h z (by simp [hz])) x hx
      omega

theorem in_true {n a b : Int} (h : a ≤ n ∧ n ≤ b) : (if n ≥ a then some (decide (n ≤ b)) else some false) = some true := by
  rw [if_pos h.1, decide_eq_true h.2]
theorem in_false {n a b : Int} (h : ¬ (a ≤ n ∧ n ≤ b)) : (if n ≥ a then some (decide (n ≤ b)) else some false) = some false := by
  by_cases h1 : n ≥ a
  · rw [if_pos h1, decide_eq_false (by omega)]
  · rw [if_neg h1]

theorem l1All_l0 (a b : Int) (xs : List Int) (hx : xs.length ≤ 1048576) : ∀ (m j : Nat), j + m = xs.length →
    ∃ t : Bool, (t = true ↔ ∀ x ∈ xs.drop j, a ≤ x ∧ x ≤ b) ∧ ∀ k, m < k → spec_l1All.l0 k a b xs (xs.length : Int) j = some t := by
  intro m
  induction m with
  | zero =>
    intro j hj
    refine ⟨true, ?_, fun k hk => ?_⟩
    · rw [List.drop_of_length_le (by omega)]; simp
    · obtain ⟨k, rfl⟩ : ∃ m, k = m + 1 := ⟨k - 1, by omega⟩
      simp only [spec_l1All.l0]
      rw [if_neg (by omega)]
  | succ m ih =>
    intro j hj
    have hlt : j < xs.length := by omega
    by_cases h : a ≤ xs[j] ∧ xs[j] ≤ b
    · obtain ⟨t, ht, E⟩ := ih (j + 1) (by omega)
      refine ⟨t, ?_, fun k hk => ?_⟩
      · rw [List.drop_eq_getElem_cons hlt, ht]
        simp only [List.mem_cons, forall_eq_or_imp]
        exact ⟨fun h2 => ⟨h, h2⟩, fun h2 => h2.2⟩
      · obtain ⟨k, rfl⟩ : ∃ m, k = m + 1 := ⟨k - 1, by omega⟩
        simp only [spec_l1All.l0, spec_l1In.f]
        rw [if_pos (by omega), if_pos (by omega), if_pos (by omega), rd_get hlt, in_true h]
        simp only [Option.bind_some, ↓reduceIte]
        rw [w64 (x := (j : Int) + 1) (by omega) (by omega)]
        exact E k (by omega)
    · refine ⟨false, ?_, fun k hk => ?_⟩
      · rw [List.drop_eq_getElem_cons hlt]
        simp only [Bool.false_eq_true, false_iff]
        exact fun h2 => h (h2 _ List.mem_cons_self)
      · obtain ⟨k, rfl⟩ : ∃ m, k = m + 1 := ⟨k - 1, by omega⟩
        simp only [spec_l1All.l0, spec_l1In.f]
        rw [if_pos (by omega), if_pos (by omega), if_pos (by omega), rd_get hlt, in_false h]
        simp

theorem saGood_l1 (o : Int) (rows : List (List Int)) (jj : Int) (xs : List Int) (hx : xs.length ≤ 5) (ha : ∀ x ∈ xs, 0 ≤ x ∧ x ≤ 10) : ∀ (m j : Nat) (acc : Int), j + m = xs.length → 0 ≤ acc → acc ≤ 10 * j → ∀ k, m < k →
    spec_saGood.l1 k acc rows (rows.length : Int) jj xs (xs.length : Int) j o rows = if acc + (xs.drop j).sum = o then spec_saGood.l0 (k - m - 1) rows (rows.length : Int) (wrap64 (jj + 1)) o rows else some false := by
  intro m
  induction m with
  | zero =>
    intro j acc hj h0 h1 k hk
    obtain ⟨k, rfl⟩ : ∃ m, k = m + 1 := ⟨k - 1, by omega⟩
    simp only [spec_saGood.l1]
    rw [if_neg (by omega), List.drop_of_length_le (by omega)]
    simp
  | succ m ih =>
    intro j acc hj h0 h1 k hk
    obtain ⟨k, rfl⟩ : ∃ m, k = m + 1 := ⟨k - 1, by omega⟩
    have hlt : j < xs.length := by omega
    have hxj := ha _ (List.getElem_mem hlt)
    simp only [spec_saGood.l1]
    rw [if_pos (by omega), if_pos (by omega), if_pos (by omega), rd_get hlt, w64 (x := acc + xs[j]) (by omega) (by omega), w64 (x := (j : Int) + 1) (by omega) (by omega), show (j : Int) + 1 = ((j + 1 : Nat) : Int) from by omega]
    rw [ih (j + 1) (acc + xs[j]) (by omega) (by omega) (by omega) k (by omega), List.drop_eq_getElem_cons hlt, List.sum_cons, Int.add_assoc]
    rw [show k + 1 - (m + 1) - 1 = k - m - 1 from by omega]

theorem saGood_l0 (o : Int) (o1 : o ≤ 10) (rows : List (List Int)) (hn : rows.length ≤ 5) (hl : ∀ r ∈ rows, r.length ≤ 1048576) : ∀ (m j : Nat), j + m = rows.length →
    ∃ t : Bool, (t = true ↔ ∀ row ∈ rows.drop j, GoodRow rows.length o row) ∧ ∃ K, ∀ k, K ≤ k → spec_saGood.l0 k rows (rows.length : Int) j o rows = some t := by
  intro m
  induction m with
  | zero =>
    intro j hj
    refine ⟨true, ?_, 1, fun k hk => ?_⟩
    · rw [List.drop_of_length_le (by omega)]; simp
    · obtain ⟨k, rfl⟩ : ∃ m, k = m + 1 := ⟨k - 1, by omega⟩
      simp only [spec_saGood.l0]
      rw [if_neg (by omega)]
  | succ m ih =>
    intro j hj
    have hlt : j < rows.length := by omega
    have hll := hl _ (List.getElem_mem hlt)
    obtain ⟨t1, ht1, E1⟩ := l1All_l0 0 o rows[j] hll rows[j].length 0 (by omega)
    rw [List.drop_zero] at ht1
    have bad : ¬ GoodRow rows.length o rows[j] → (∃ K, ∀ k, K ≤ k → spec_saGood.l0 k rows (rows.length : Int) j o rows = some false) → ∃ t : Bool, (t = true ↔ ∀ row ∈ rows.drop j, GoodRow rows.length o row) ∧ ∃ K, ∀ k, K ≤ k → spec_saGood.l0 k rows (rows.length : Int) j o rows = some t := by
      intro hb hE
      refine ⟨false, ?_, hE⟩
      rw [List.drop_eq_getElem_cons hlt]
      simp only [Bool.false_eq_true, false_iff]
      exact fun h2 => hb (h2 _ List.mem_cons_self)
    by_cases c1 : rows[j].length = rows.length
    · cases t1 with
      | false =>
        refine bad (fun hg => ?_) ⟨1048580, fun k hk => ?_⟩
        · have := ht1.2 (fun x hx => ⟨hg.2.1 x hx, by have := le_sum _ hg.2.1 x hx; have := hg.2.2; omega⟩)
          simp at this
        · obtain ⟨k, rfl⟩ : ∃ m, k = m + 2 := ⟨k - 2, by omega⟩
          rw [spec_saGood.l0]
          rw [if_pos (by omega), if_pos (by omega), if_pos (by omega), rd1_get hlt, if_pos (by omega)]
          unfold spec_l1All.f
          rw [show spec_l1All.l0 (k + 1) 0 o rows[j] (rows[j].length : Int) 0 = some false from E1 _ (by omega)]
          simp only [Option.bind_some]
          rw [spec_saGood.j2]
          simp
      | true =>
        have hall := ht1.1 rfl
        have hs := saGood_l1 o rows j rows[j] (by omega) (fun x hx => ⟨(hall x hx).1, by have := (hall x hx).2; omega⟩) rows[j].length 0 0 (by omega) (by omega) (by omega)
        rw [List.drop_zero, Int.zero_add] at hs
        by_cases c2 : rows[j].sum = o
        · obtain ⟨t, ht, K, E⟩ := ih (j + 1) (by omega)
          refine ⟨t, ?_, K + 1048590, fun k hk => ?_⟩
          · rw [List.drop_eq_getElem_cons hlt, ht]
            simp only [List.mem_cons, forall_eq_or_imp]
            exact ⟨fun h2 => ⟨⟨c1, fun x hx => (hall x hx).1, c2⟩, h2⟩, fun h2 => h2.2⟩
          · obtain ⟨k, rfl⟩ : ∃ m, k = m + 2 := ⟨k - 2, by omega⟩
            rw [spec_saGood.l0]
            rw [if_pos (by omega), if_pos (by omega), if_pos (by omega), rd1_get hlt, if_pos (by omega)]
            unfold spec_l1All.f
            rw [show spec_l1All.l0 (k + 1) 0 o rows[j] (rows[j].length : Int) 0 = some true from E1 _ (by omega)]
            simp only [Option.bind_some, Bool.not_true]
            rw [spec_saGood.j2]
            simp only [Bool.false_eq_true, ↓reduceIte]
            have h3 := hs k (by omega)
            rw [if_pos c2, w64 (x := (j : Int) + 1) (by omega) (by omega)] at h3
            exact h3.trans (E _ (by omega))
        · refine bad (fun hg => c2 hg.2.2) ⟨1048590, fun k hk => ?_⟩
          obtain ⟨k, rfl⟩ : ∃ m, k = m + 2 := ⟨k - 2, by omega⟩
          rw [spec_saGood.l0]
          rw [if_pos (by omega), if_pos (by omega), if_pos (by omega), rd1_get hlt, if_pos (by omega)]
          unfold spec_l1All.f
          rw [show spec_l1All.l0 (k + 1) 0 o rows[j] (rows[j].length : Int) 0 = some true from E1 _ (by omega)]
          simp only [Option.bind_some, Bool.not_true]
          rw [spec_saGood.j2]
          simp only [Bool.false_eq_true, ↓reduceIte]
          have h3 := hs k (by omega)
          rw [if_neg c2] at h3
          exact h3
    · refine bad (fun hg => c1 hg.1) ⟨10, fun k hk => ?_⟩
      obtain ⟨k, rfl⟩ : ∃ m, k = m + 2 := ⟨k - 2, by omega⟩
      rw [spec_saGood.l0]
      rw [if_pos (by omega), if_pos (by omega), if_pos (by omega), rd1_get hlt, if_neg (by omega), spec_saGood.j2]
      simp

theorem saGood_ev (o : Int) (rows : List (List Int)) (hn : rows.length ≤ 1048576) (hl : ∀ r ∈ rows, r.length ≤ 1048576) :
    ∃ t : Bool, (t = true ↔ Good o rows) ∧ ∃ K, ∀ k, K ≤ k → spec_saGood.f k o rows = some t := by
  by_cases c1 : 1 ≤ o ∧ o ≤ 10
  · by_cases c2 : 1 ≤ (rows.length : Int) ∧ (rows.length : Int) ≤ 5
    · obtain ⟨t, ht, K, E⟩ := saGood_l0 o c1.2 rows (by omega) hl rows.length 0 (by omega)
      rw [List.drop_zero] at ht
      refine ⟨t, ht.trans ⟨fun h => ⟨c1.1, c1.2, by omega, by omega, h⟩, fun h => h.2.2.2.2⟩, K + 1, fun k hk => ?_⟩
      obtain ⟨k, rfl⟩ : ∃ m, k = m + 1 := ⟨k - 1, by omega⟩
      simp only [spec_saGood.f, spec_saGood.j0, spec_l1In.f, in_true c1, in_true c2, Option.bind_some, ↓reduceIte, Bool.not_true, Bool.false_eq_true]
      exact E k (by omega)
    · refine ⟨false, ⟨fun h => by simp at h, fun h => absurd ⟨by have := h.2.2.1; omega, by have := h.2.2.2.1; omega⟩ c2⟩, 1, fun k hk => ?_⟩
      obtain ⟨k, rfl⟩ : ∃ m, k = m + 1 := ⟨k - 1, by omega⟩
      simp only [spec_saGood.f, spec_saGood.j0, spec_l1In.f, in_true c1, in_false c2, Option.bind_some, ↓reduceIte, Bool.not_false]
  · refine ⟨false, ⟨fun h => by simp at h, fun h => absurd ⟨h.1, h.2.1⟩ c1⟩, 1, fun k hk => ?_⟩
    obtain ⟨k, rfl⟩ : ∃ m, k = m + 1 := ⟨k - 1, by omega⟩
    simp only [spec_saGood.f, spec_saGood.j0, spec_l1In.f, in_false c1, Option.bind_some, ↓reduceIte, Bool.false_eq_true]

theorem areStates_l1 (o : Int) (rows : List (List Int)) (jj : Int) (xs : List Int) (hx : xs.length ≤ 1048576) : ∀ (m j : Nat) (left : Int), j + m = xs.length → 0 ≤ left → left ≤ 10 →
    ∃ t : Bool, (t = true ↔ xs.length = rows.length ∧ (∀ x ∈ xs.drop j, 0 ≤ x) ∧ (xs.drop j).sum = left) ∧ ∀ k, m < k →
    impl_AreStates.l1 k (rows.length : Int) xs left rows (rows.length : Int) jj xs (xs.length : Int) j o rows = if t = true then impl_AreStates.l0 (k - m - 1) (rows.length : Int) rows (rows.length : Int) (wrap64 (jj + 1)) o rows else some false := by
  intro m
  induction m with
  | zero =>
    intro j left hj h0 h1
    refine ⟨decide (xs.length = rows.length ∧ left = 0), ?_, fun k hk => ?_⟩
    · rw [List.drop_of_length_le (by omega), decide_eq_true_eq]
      simp
      omega
    · obtain ⟨k, rfl⟩ : ∃ m, k = m + 1 := ⟨k - 1, by omega⟩
      simp only [impl_AreStates.l1]
      rw [if_neg (by omega)]
      by_cases c1 : xs.length = rows.length
      · rw [if_pos (by omega)]
        by_cases c2 : left = 0
        · rw [if_pos c2, decide_eq_true ⟨c1, c2⟩]; rfl
        · rw [if_neg c2, decide_eq_false (fun h => c2 h.2)]; rfl
      · rw [if_neg (by omega), decide_eq_false (fun h => c1 h.1)]; rfl
  | succ m ih =>
    intro j left hj h0 h1
    have hlt : j < xs.length := by omega
    by_cases h : 0 ≤ xs[j] ∧ xs[j] ≤ left
    · obtain ⟨t, ht, E⟩ := ih (j + 1) (left - xs[j]) (by omega) (by omega) (by omega)
      refine ⟨t, ?_, fun k hk => ?_⟩
      · rw [List.drop_eq_getElem_cons hlt, ht, List.sum_cons]
        simp only [List.mem_cons, forall_eq_or_imp]
        exact ⟨fun h2 => ⟨h2.1, ⟨h.1, h2.2.1⟩, by omega⟩, fun h2 => ⟨h2.1, h2.2.1.2, by omega⟩⟩
      · obtain ⟨k, rfl⟩ : ∃ m, k = m + 1 := ⟨k - 1, by omega⟩
        simp only [impl_AreStates.l1, impl_within.f]
        rw [if_pos (by omega), if_pos (by omega), if_pos (by omega), rd_get hlt, in_true h]
        simp only [Option.bind_some, ↓reduceIte]
        rw [w64 (x := (j : Int) + 1) (by omega) (by omega), w64 (x := left - xs[j]) (by omega) (by omega), show (j : Int) + 1 = ((j + 1 : Nat) : Int) from by omega, E k (by omega),
          show k + 1 - (m + 1) - 1 = k - m - 1 from by omega]
    · refine ⟨false, ?_, fun k hk => ?_⟩
      · rw [List.drop_eq_getElem_cons hlt, List.sum_cons]
        simp only [Bool.false_eq_true, false_iff]
        intro h2
        have h3 := h2.2.1 _ List.mem_cons_self
        have h4 := sum_nonneg (xs.drop (j + 1)) (fun x hx => h2.2.1 _ (List.mem_cons_of_mem _ hx))
        omega
      · obtain ⟨k, rfl⟩ : ∃ m, k = m + 1 := ⟨k - 1, by omega⟩
        simp only [impl_AreStates.l1, impl_within.f]
        rw [if_pos (by omega), if_pos (by omega), if_pos (by omega), rd_get hlt, in_false h]
        simp

theorem areStates_l0 (o : Int) (o0 : 1 ≤ o) (o1 : o ≤ 10) (rows : List (List Int)) (hn : rows.length ≤ 5) (hl : ∀ r ∈ rows, r.length ≤ 1048576) : ∀ (m j : Nat), j + m = rows.length →
    ∃ t : Bool, (t = true ↔ ∀ row ∈ rows.drop j, GoodRow rows.length o row) ∧ ∃ K, ∀ k, K ≤ k → impl_AreStates.l0 k (rows.length : Int) rows (rows.length : Int) j o rows = some t := by
  intro m
  induction m with
  | zero =>
    intro j hj
    refine ⟨true, ?_, 1, fun k hk => ?_⟩
    · rw [List.drop_of_length_le (by omega)]; simp
    · obtain ⟨k, rfl⟩ : ∃ m, k = m + 1 := ⟨k - 1, by omega⟩
      simp only [impl_AreStates.l0]
      rw [if_neg (by omega)]
  | succ m ih =>
    intro j hj
    have hlt : j < rows.length := by omega
    have hll := hl _ (List.getElem_mem hlt)
    obtain ⟨t1, ht1, E1⟩ := areStates_l1 o rows j rows[j] hll rows[j].length 0 o (by omega) (by omega) o1
    rw [List.drop_zero] at ht1
    cases t1 with
    | false =>
      refine ⟨false, ?_, 1048590, fun k hk => ?_⟩
      · rw [List.drop_eq_getElem_cons hlt]
        simp only [Bool.false_eq_true, false_iff]
        exact fun h2 => by
          have := ht1.2 (h2 _ List.mem_cons_self)
          simp at this
      · obtain ⟨k, rfl⟩ : ∃ m, k = m + 1 := ⟨k - 1, by omega⟩
        rw [impl_AreStates.l0]
        rw [if_pos (by omega), if_pos (by omega), if_pos (by omega), rd1_get hlt]
        have := E1 k (by omega)
        simp only [Bool.false_eq_true, ↓reduceIte] at this
        exact this
    | true =>
      obtain ⟨t, ht, K, E⟩ := ih (j + 1) (by omega)
      refine ⟨t, ?_, K + 1048590, fun k hk => ?_⟩
      · rw [List.drop_eq_getElem_cons hlt, ht]
        simp only [List.mem_cons, forall_eq_or_imp]
        exact ⟨fun h2 => ⟨ht1.1 rfl, h2⟩, fun h2 => h2.2⟩
      · obtain ⟨k, rfl⟩ : ∃ m, k = m + 1 := ⟨k - 1, by omega⟩
        rw [impl_AreStates.l0]
        rw [if_pos (by omega), if_pos (by omega), if_pos (by omega), rd1_get hlt]
        have := E1 k (by omega)
        simp only [↓reduceIte] at this
        rw [w64 (x := (j : Int) + 1) (by omega) (by omega)] at this
        exact this.trans (E _ (by omega))

theorem areStates_ev (o : Int) (rows : List (List Int)) (hn : rows.length ≤ 1048576) (hl : ∀ r ∈ rows, r.length ≤ 1048576) :
    ∃ t : Bool, (t = true ↔ Good o rows) ∧ ∃ K, ∀ k, K ≤ k → impl_AreStates.f k o rows = some t := by
  by_cases c1 : 1 ≤ o ∧ o ≤ 10
  · by_cases c2 : 1 ≤ (rows.length : Int) ∧ (rows.length : Int) ≤ 5
    · obtain ⟨t, ht, K, E⟩ := areStates_l0 o c1.1 c1.2 rows (by omega) hl rows.length 0 (by omega)
      rw [List.drop_zero] at ht
      refine ⟨t, ht.trans ⟨fun h => ⟨c1.1, c1.2, by omega, by omega, h⟩, fun h => h.2.2.2.2⟩, K + 1, fun k hk => ?_⟩
      obtain ⟨k, rfl⟩ : ∃ m, k = m + 1 := ⟨k - 1, by omega⟩
      simp only [impl_AreStates.f, impl_AreStates.j0, impl_within.f, in_true c1, in_true c2, Option.bind_some, ↓reduceIte, Bool.not_true, Bool.false_eq_true]
      exact E k (by omega)
    · refine ⟨false, ⟨fun h => by simp at h, fun h => absurd ⟨by have := h.2.2.1; omega, by have := h.2.2.2.1; omega⟩ c2⟩, 1, fun k hk => ?_⟩
      obtain ⟨k, rfl⟩ : ∃ m, k = m + 1 := ⟨k - 1, by omega⟩
      simp only [impl_AreStates.f, impl_AreStates.j0, impl_within.f, in_true c1, in_false c2, Option.bind_some, ↓reduceIte, Bool.not_false]
  · refine ⟨false, ⟨fun h => by simp at h, fun h => absurd ⟨h.1, h.2.1⟩ c1⟩, 1, fun k hk => ?_⟩
    obtain ⟨k, rfl⟩ : ∃ m, k = m + 1 := ⟨k - 1, by omega⟩
    simp only [impl_AreStates.f, impl_AreStates.j0, impl_within.f, in_false c1, Option.bind_some, ↓reduceIte, Bool.false_eq_true]

/-- A step that may be. -/
def Edge (rows : List (List Int)) (i k : Nat) : Prop := 0 < (rows.getD i []).getD k 0
/-- Reached from s by steps from what isn't closed. -/
inductive RC (rows : List (List Int)) (cl : Int) (s : Nat) : Nat → Prop
  | base : RC rows cl s s
  | step (i k : Nat) : RC rows cl s i → (i : Int) ≠ cl → k < rows.length → Edge rows i k → RC rows cl s k

/-- What a queue of states says. -/
structure Qu (rows : List (List Int)) (cl : Int) (s : Nat) (q : List Nat) : Prop where
  nd : q.Nodup
  lt : ∀ v ∈ q, v < rows.length
  rc : ∀ v ∈ q, RC rows cl s v
  mem : s ∈ q

theorem Qu.len {rows : List (List Int)} {cl : Int} {s : Nat} {q : List Nat} (h : Qu rows cl s q) : q.length ≤ rows.length := by
  have h1 := List.Nodup.length_le_of_subset h.nd (l₂ := List.range rows.length) (fun v hv => List.mem_range.2 (h.lt v hv))
  simpa using h1

/-- The first i of the queue have been gone through. -/
def Through (rows : List (List Int)) (cl : Int) (q : List Nat) (i : Nat) : Prop := ∀ a, a < i → ∀ v, q[a]? = some v → (v : Int) ≠ cl → ∀ k, k < rows.length → Edge rows v k → k ∈ q

theorem Through.more {rows : List (List Int)} {cl : Int} {q q' : List Nat} {i : Nat} (h : Through rows cl q i) (hi : i ≤ q.length) (hp : q <+: q') : Through rows cl q' i := by
  intro a ha v hv hc k hk he
  obtain ⟨t, rfl⟩ := hp
  rw [List.getElem?_append_left (by omega)] at hv
  exact List.mem_append_left _ (h a ha v hv hc k hk he)

/-- The queue that has been gone through holds all that is reached. -/
theorem Qu.all {rows : List (List Int)} {cl : Int} {s : Nat} {q : List Nat} (h : Qu rows cl s q) (ht : Through rows cl q q.length) (v : Nat) : RC rows cl s v ↔ v ∈ q := by
  constructor
  · intro hr
    induction hr with
    | base => exact h.mem
    | step i k _ hc hk he ih =>
      obtain ⟨a, ha, hv⟩ := List.getElem_of_mem ih
      exact ht a ha i (by rw [List.getElem?_eq_getElem ha, hv]) hc k hk he
  · exact h.rc v

theorem rd_nats {q : List Nat} {i : Nat} (h : i < q.length) : rd (q.map (fun v : Nat => (v : Int))) (i : Int) = (q[i] : Int) := by
  rw [rd_get (by simpa using h)]
  simp

theorem rdOf_get {xs : List Bool} {j : Nat} (h : j < xs.length) : rdOf false xs (j : Int) = xs[j] := by
  unfold rdOf
  rw [Int.toNat_natCast, List.getD_eq_getElem?_getD, List.getElem?_eq_getElem h]
  rfl

theorem edge_get {rows : List (List Int)} {i k : Nat} (hi : i < rows.length) (hk : k < rows[i].length) : Edge rows i k ↔ 0 < rows[i][k] := by
  unfold Edge
  simp [List.getD_eq_getElem?_getD, hi, hk]

/-- What is marked is what is in the queue. -/
def Marks (n : Nat) (out : List Bool) (q : List Nat) : Prop := out.length = n ∧ ∀ k, (h : k < out.length) → (out[k] = true ↔ k ∈ q)

theorem reached_l1 (o : Int) (rows : List (List Int)) (cl : Int) (s : Nat) (hn : rows.length ≤ 5) (hsq : ∀ r ∈ rows, r.length = rows.length) (i c : Nat) (hc : c < rows.length) (hcc : (c : Int) ≠ cl) :
    ∀ (m j : Nat) (out : List Bool) (q : List Nat), j + m = rows.length → Qu rows cl s q → Marks rows.length out q → i < q.length → q[i]? = some c → (∀ k, k < j → Edge rows c k → k ∈ q) →
    ∃ out' q', Qu rows cl s q' ∧ Marks rows.length out' q' ∧ q <+: q' ∧ (∀ k, k < rows.length → Edge rows c k → k ∈ q') ∧
      ∀ k, m < k → impl_States_reached.l1 k cl out (q.map (fun v : Nat => (v : Int))) i (rows[c]) ((rows[c]).length : Int) j o rows = impl_States_reached.l0 (k - m - 1) cl out' (q'.map (fun v : Nat => (v : Int))) (i + 1) o rows := by
  have hlen := hsq _ (List.getElem_mem hc)
  intro m
  induction m with
  | zero =>
    intro j out q hj hq hm hi hqi hd
    refine ⟨out, q, hq, hm, List.prefix_refl _, fun k hk he => hd k (by omega) he, fun k hk => ?_⟩
    obtain ⟨k, rfl⟩ : ∃ m, k = m + 1 := ⟨k - 1, by omega⟩
    have := hq.len
    simp only [impl_States_reached.l1]
    rw [if_neg (by omega), w64 (x := (i : Int) + 1) (by omega) (by omega)]
    rfl
  | succ m ih =>
    intro j out q hj hq hm hi hqi hd
    have hlt : j < (rows[c]).length := by omega
    have hlo : j < out.length := by have := hm.1; omega
    have hql := hq.len
    have hin := edge_get hc hlt
    by_cases c1 : 0 < rows[c][j]
    · by_cases c2 : out[j] = true
      · have hjq : j ∈ q := (hm.2 j hlo).1 c2
        obtain ⟨out', q', h1, h2, h3, h4, E⟩ := ih (j + 1) out q (by omega) hq hm hi hqi (fun k hk he => if h : k = j then h ▸ hjq else hd k (by omega) he)
        refine ⟨out', q', h1, h2, h3, h4, fun k hk => ?_⟩
        obtain ⟨k, rfl⟩ : ∃ m, k = m + 1 := ⟨k - 1, by omega⟩
        simp only [impl_States_reached.l1]
        rw [if_pos (by omega), if_pos (by omega), if_pos (by omega), rd_get hlt, if_pos (by omega), if_pos (by omega), rdOf_get hlo, if_pos c2, w64 (x := (j : Int) + 1) (by omega) (by omega)]
        have := E k (by omega)
        rw [show k + 1 - (m + 1) - 1 = k - m - 1 from by omega]
        exact this
      · have hjq : j ∉ q := fun h => c2 ((hm.2 j hlo).2 h)
        have hq2 : Qu rows cl s (q ++ [j]) := by
          refine ⟨?_, ?_, ?_, List.mem_append_left _ hq.mem⟩
          · rw [List.nodup_append]
            refine ⟨hq.nd, by simp, ?_⟩
            intro a ha b hb
            rw [List.mem_singleton] at hb
            rintro rfl
            exact hjq (hb ▸ ha)
          · intro v hv
            rcases List.mem_append.1 hv with hv | hv
            · exact hq.lt v hv
            · rw [List.mem_singleton] at hv; omega
          · intro v hv
            rcases List.mem_append.1 hv with hv | hv
            · exact hq.rc v hv
            · rw [List.mem_singleton] at hv
              subst hv
              exact RC.step c v (hq.rc c (List.mem_of_getElem? hqi)) hcc (by omega) (hin.2 c1)
        have hm2 : Marks rows.length (out.set j true) (q ++ [j]) := by
          refine ⟨by rw [List.length_set]; exact hm.1, fun k hk => ?_⟩
          rw [List.length_set] at hk
          rw [List.getElem_set]
          by_cases e : j = k
          · subst e; simp
          · rw [if_neg e, hm.2 k hk]
            simp only [List.mem_append, List.mem_singleton]
            constructor
            · exact .inl
            · rintro (h | h)
              · exact h
              · exact absurd h.symm e
        have hql2 := hq2.len
        rw [List.length_append, List.length_singleton] at hql2
        obtain ⟨out', q', h1, h2, h3, h4, E⟩ := ih (j + 1) (out.set j true) (q ++ [j]) (by omega) hq2 hm2 (by rw [List.length_append]; omega) (by rw [List.getElem?_append_left hi]; exact hqi)
          (fun k hk he => if h : k = j then by simp [h] else List.mem_append_left _ (hd k (by omega) he))
        refine ⟨out', q', h1, h2, (List.prefix_append q [j]).trans h3, h4, fun k hk => ?_⟩
        obtain ⟨k, rfl⟩ : ∃ m, k = m + 1 := ⟨k - 1, by omega⟩
        simp only [impl_States_reached.l1]
        rw [if_pos (by omega), if_pos (by omega), if_pos (by omega), rd_get hlt, if_pos (by omega), if_pos (by omega), rdOf_get hlo, if_neg c2, if_pos (by rw [List.length_map]; omega), w64 (x := (j : Int) + 1) (by omega) (by omega), Int.toNat_natCast]
        have := E k (by omega)
        rw [List.map_append, List.map_singleton] at this
        rw [show k + 1 - (m + 1) - 1 = k - m - 1 from by omega]
        exact this
    · obtain ⟨out', q', h1, h2, h3, h4, E⟩ := ih (j + 1) out q (by omega) hq hm hi hqi (fun k hk he => if h : k = j then absurd (hin.1 (h ▸ he)) c1 else hd k (by omega) he)
      refine ⟨out', q', h1, h2, h3, h4, fun k hk => ?_⟩
      obtain ⟨k, rfl⟩ : ∃ m, k = m + 1 := ⟨k - 1, by omega⟩
      simp only [impl_States_reached.l1]
      rw [if_pos (by omega), if_pos (by omega), if_pos (by omega), rd_get hlt, if_neg (by omega), w64 (x := (j : Int) + 1) (by omega) (by omega)]
      have := E k (by omega)
      rw [show k + 1 - (m + 1) - 1 = k - m - 1 from by omega]
      exact this

theorem reached_l0 (o : Int) (rows : List (List Int)) (cl : Int) (s : Nat) (hn : rows.length ≤ 5) (hsq : ∀ r ∈ rows, r.length = rows.length) :
    ∀ (d i : Nat) (out : List Bool) (q : List Nat), i + d = rows.length → i ≤ q.length → Qu rows cl s q → Marks rows.length out q → Through rows cl q i →
    ∃ out', out'.length = rows.length ∧ (∀ k, (h : k < out'.length) → (out'[k] = true ↔ RC rows cl s k)) ∧ ∀ k, 10 * d + 1 ≤ k → impl_States_reached.l0 k cl out (q.map (fun v : Nat => (v : Int))) i o rows = some out' := by
  have fin : ∀ (i : Nat) (out : List Bool) (q : List Nat), q.length ≤ i → i ≤ q.length → Qu rows cl s q → Marks rows.length out q → Through rows cl q i →
      ∃ out', out'.length = rows.length ∧ (∀ k, (h : k < out'.length) → (out'[k] = true ↔ RC rows cl s k)) ∧ ∀ k, 1 ≤ k → impl_States_reached.l0 k cl out (q.map (fun v : Nat => (v : Int))) i o rows = some out' := by
    intro i out q h1 h2 hq hm ht
    obtain rfl : i = q.length := by omega
    refine ⟨out, hm.1, fun k hk => (hm.2 k hk).trans (hq.all ht k).symm, fun k hk => ?_⟩
    obtain ⟨k, rfl⟩ : ∃ m, k = m + 1 := ⟨k - 1, by omega⟩
    simp only [impl_States_reached.l0]
    rw [if_neg (by rw [List.length_map]; omega)]
  intro d
  induction d with
  | zero =>
    intro i out q hi hiq hq hm ht
    have := hq.len
    obtain ⟨out', h1, h2, E⟩ := fin i out q (by omega) hiq hq hm ht
    exact ⟨out', h1, h2, fun k hk => E k (by omega)⟩
  | succ d ih =>
    intro i out q hi hiq hq hm ht
    have hql := hq.len
    by_cases c0 : i < q.length
    · have hqi : q[i]? = some q[i] := List.getElem?_eq_getElem c0
      have hc := hq.lt _ (List.getElem_mem c0)
      by_cases c1 : (q[i] : Int) = cl
      · obtain ⟨out', h1, h2, E⟩ := ih (i + 1) out q (by omega) (by omega) hq hm (by
          intro a ha v hv hvc k hk he
          by_cases e : a = i
          · subst e; rw [hqi] at hv; injection hv with hv; exact absurd (hv ▸ c1) hvc
          · exact ht a (by omega) v hv hvc k hk he)
        refine ⟨out', h1, h2, fun k hk => ?_⟩
        obtain ⟨k, rfl⟩ : ∃ m, k = m + 1 := ⟨k - 1, by omega⟩
        simp only [impl_States_reached.l0]
        rw [if_pos (by rw [List.length_map]; omega), if_pos (by omega), rd_nats c0, if_pos c1, w64 (x := (i : Int) + 1) (by omega) (by omega)]
        exact E k (by omega)
      · obtain ⟨out1, q1, hq1, hm1, hp, hall, E1⟩ := reached_l1 o rows cl s hn hsq i q[i] hc c1 rows.length 0 out q (by omega) hq hm c0 hqi (fun k hk => absurd hk (Nat.not_lt_zero _))
        have hpl := hp.length_le
        obtain ⟨out', h1, h2, E⟩ := ih (i + 1) out1 q1 (by omega) (by omega) hq1 hm1 (by
          intro a ha v hv hvc k hk he
          by_cases e : a = i
          · subst e
            obtain ⟨t, rfl⟩ := hp
            rw [List.getElem?_append_left c0, hqi] at hv
            injection hv with hv
            exact hall k hk (hv ▸ he)
          · exact ht.more hiq hp a (by omega) v hv hvc k hk he)
        refine ⟨out', h1, h2, fun k hk => ?_⟩
        obtain ⟨k, rfl⟩ : ∃ m, k = m + 1 := ⟨k - 1, by omega⟩
        simp only [impl_States_reached.l0]
        rw [if_pos (by rw [List.length_map]; omega), if_pos (by omega), rd_nats c0, if_neg c1, if_pos (by omega), if_pos (by omega), rd1_get hc]
        exact (E1 k (by omega)).trans (E _ (by omega))
    · obtain ⟨out', h1, h2, E⟩ := fin i out q (by omega) hiq hq hm ht
      exact ⟨out', h1, h2, fun k hk => E k (by omega)⟩

theorem reached_ev (o : Int) (rows : List (List Int)) (cl : Int) (s : Nat) (hn : rows.length ≤ 5) (hsq : ∀ r ∈ rows, r.length = rows.length) (hs : s < rows.length) :
    ∃ out, out.length = rows.length ∧ (∀ k, (h : k < out.length) → (out[k] = true ↔ RC rows cl s k)) ∧ ∀ k, 60 ≤ k → impl_States_reached.f k o rows s cl = some out := by
  have hq : Qu rows cl s [s] := ⟨by simp, by simp [hs], by simp [RC.base], by simp⟩
  have hm : Marks rows.length ((List.replicate rows.length false).set s true) [s] := by
    refine ⟨by simp, fun k hk => ?_⟩
    rw [List.getElem_set]
    by_cases e : s = k
    · simp [e]
    · rw [if_neg e]; simp; omega
  obtain ⟨out, h1, h2, E⟩ := reached_l0 o rows cl s hn hsq rows.length 0 _ [s] (by omega) (by simp) hq hm (fun a ha => absurd ha (Nat.not_lt_zero _))
  refine ⟨out, h1, h2, fun k hk => ?_⟩
  simp only [impl_States_reached.f]
  rw [if_pos (by omega), if_pos (by omega), Int.toNat_natCast]
  simp only [Option.bind_some, List.length_replicate]
  rw [if_pos (by omega), if_pos (by omega), Int.toNat_natCast]
  exact E k (by omega)

/-- The numbers below n that are such, as Go's ints. -/
noncomputable def such (j m : Nat) (p : Nat → Prop) : List Int := ((List.range' j m).filter (fun i => @decide (p i) (Classical.propDecidable _))).map (fun v : Nat => (v : Int))

theorem such_zero (j : Nat) (p : Nat → Prop) : such j 0 p = [] := by simp [such]
theorem such_pos {j m : Nat} {p : Nat → Prop} (h : p j) : such j (m + 1) p = (j : Int) :: such (j + 1) m p := by
  unfold such
  rw [List.range'_succ, List.filter_cons_of_pos (by simpa using h), List.map_cons]
theorem such_neg {j m : Nat} {p : Nat → Prop} (h : ¬ p j) : such j (m + 1) p = such (j + 1) m p := by
  unfold such
  rw [List.range'_succ, List.filter_cons_of_neg (by simpa using h)]
theorem such_len (j m : Nat) (p : Nat → Prop) : (such j m p).length ≤ m := by
  unfold such
  rw [List.length_map]
  exact Nat.le_trans (List.length_filter_le _ _) (by simp)
theorem such_congr {j m : Nat} {p q : Nat → Prop} (h : ∀ i, j ≤ i → i < j + m → (p i ↔ q i)) : such j m p = such j m q := by
  unfold such
  congr 1
  apply List.filter_congr
  intro i hi
  rw [List.mem_range'_1] at hi
  simp [h i hi.1 hi.2]
theorem such_mem {j m : Nat} {p : Nat → Prop} {x : Int} : x ∈ such j m p ↔ ∃ i : Nat, x = i ∧ j ≤ i ∧ i < j + m ∧ p i := by
  unfold such
  simp only [List.mem_map, List.mem_filter, List.mem_range'_1, decide_eq_true_eq]
  constructor
  · rintro ⟨a, ⟨⟨h1, h2⟩, h3⟩, rfl⟩
    exact ⟨a, rfl, h1, h2, h3⟩
  · rintro ⟨a, rfl, h1, h2, h3⟩
    exact ⟨a, ⟨⟨h1, h2⟩, h3⟩, rfl⟩
theorem such_all {j m : Nat} {p : Nat → Prop} : (such j m p).length = m ↔ ∀ i, j ≤ i → i < j + m → p i := by
  unfold such
  rw [List.length_map]
  constructor
  · intro h i h1 h2
    have h3 := List.length_filter_eq_length_iff.1 (h.trans (by simp : m = (List.range' j m).length))
    have := h3 i (by rw [List.mem_range'_1]; exact ⟨h1, h2⟩)
    simpa using this
  · intro h
    rw [List.filter_eq_self.2 (fun i hi => by rw [List.mem_range'_1] at hi; simpa using h i hi.1 hi.2)]
    simp
/-- The first of such numbers. -/
theorem such_first {j m : Nat} {p : Nat → Prop} (h : ∃ i, j ≤ i ∧ i < j + m ∧ p i) : ∃ (f : Nat) (t : List Int), such j m p = (f : Int) :: t ∧ j ≤ f ∧ f < j + m ∧ p f ∧ ∀ i, j ≤ i → i < f → ¬ p i := by
  induction m generalizing j with
  | zero => obtain ⟨i, h1, h2, _⟩ := h; omega
  | succ m ih =>
    by_cases c : p j
    · exact ⟨j, _, such_pos c, Nat.le_refl _, by omega, c, fun i h1 h2 => by omega⟩
    · obtain ⟨i, h1, h2, h3⟩ := h
      have hij : j + 1 ≤ i := by
        by_cases e : i = j
        · exact absurd (e ▸ h3) c
        · omega
      obtain ⟨f, t, e, h4, h5, h6, h7⟩ := ih (j := j + 1) ⟨i, hij, by omega, h3⟩
      refine ⟨f, t, (such_neg c).trans e, by omega, by omega, h6, fun i h8 h9 => ?_⟩
      by_cases e : i = j
      · exact e ▸ c
      · exact h7 i (by omega) h9


theorem members_l0 (out : List Bool) (hn : out.length ≤ 5) : ∀ (m j : Nat) (acc : List Int), j + m = out.length → acc.length ≤ j → ∀ k, m < k →
    impl_members.l0 k acc out (out.length : Int) j = some (acc ++ such j m (fun i => out.getD i false = true)) := by
  intro m
  induction m with
  | zero =>
    intro j acc hj ha k hk
    obtain ⟨k, rfl⟩ : ∃ m, k = m + 1 := ⟨k - 1, by omega⟩
    simp only [impl_members.l0]
    rw [if_neg (by omega), such_zero, List.append_nil]
  | succ m ih =>
    intro j acc hj ha k hk
    obtain ⟨k, rfl⟩ : ∃ m, k = m + 1 := ⟨k - 1, by omega⟩
    have hlt : j < out.length := by omega
    have hg : out.getD j false = out[j] := by rw [List.getD_eq_getElem?_getD, List.getElem?_eq_getElem hlt]; rfl
    simp only [impl_members.l0]
    rw [if_pos (by omega), if_pos (by omega), if_pos (by omega), rdOf_get hlt, w64 (x := (j : Int) + 1) (by omega) (by omega)]
    by_cases c : out[j] = true
    · rw [if_pos c, if_pos (by omega)]
      have := ih (j + 1) (acc ++ [(j : Int)]) (by omega) (by simp; omega) k (by omega)
      rw [such_pos (by rw [hg]; exact c)]
      rw [List.append_assoc, List.singleton_append] at this
      exact this
    · rw [if_neg c]
      have := ih (j + 1) acc (by omega) (by omega) k (by omega)
      rw [such_neg (by rw [hg]; exact c)]
      exact this

theorem members_ev (n : Nat) (out : List Bool) (p : Nat → Prop) (hn : n ≤ 5) (hl : out.length = n) (hp : ∀ k, (h : k < out.length) → (out[k] = true ↔ p k)) (k : Nat) (hk : 6 ≤ k) : impl_members.f k out = some (such 0 n p) := by
  unfold impl_members.f
  rw [show impl_members.l0 k ([] : List Int) out (out.length : Int) 0 = _ from members_l0 out (by omega) out.length 0 [] (by omega) (by simp) k (by omega), List.nil_append, hl]
  congr 1
  apply such_congr
  intro i _ h2
  have hlt : i < out.length := by omega
  rw [List.getD_eq_getElem?_getD, List.getElem?_eq_getElem hlt]
  exact hp i hlt


/-- A walk of so many steps. -/
inductive Wk (rows : List (List Int)) (s : Nat) : Nat → Nat → Prop
  | base : Wk rows s s 0
  | step (i k d : Nat) : Wk rows s i d → k < rows.length → Edge rows i k → Wk rows s k (d + 1)

/-- How far a state is. -/
def fa (far : List Int) (v : Nat) : Int := far.getD v (-1)

theorem fa_set {far : List Int} {j : Nat} {x : Int} (h : j < far.length) (k : Nat) : fa (far.set j x) k = if k = j then x else fa far k := by
  unfold fa
  rw [List.getD_eq_getElem?_getD, List.getD_eq_getElem?_getD, List.getElem?_set]
  by_cases e : j = k
  · subst e; simp [h]
  · rw [if_neg e, if_neg (fun h => e h.symm)]

theorem rd_fa {far : List Int} {j : Nat} (h : j < far.length) : rd far (j : Int) = fa far j := by
  rw [rd_get h]
  unfold fa
  rw [List.getD_eq_getElem?_getD, List.getElem?_eq_getElem h]
  rfl

structure Far (rows : List (List Int)) (s : Nat) (far : List Int) (q : List Nat) (i : Nat) : Prop where
  len : far.length = rows.length
  mem : ∀ k, k < rows.length → (0 ≤ fa far k ↔ k ∈ q)
  low : ∀ k, -1 ≤ fa far k
  zero : fa far s = 0
  wk : ∀ v ∈ q, Wk rows s v (fa far v).toNat
  idx : ∀ (a v : Nat), q[a]? = some v → fa far v ≤ a
  mono : ∀ (a b u v : Nat), a ≤ b → q[a]? = some u → q[b]? = some v → fa far u ≤ fa far v
  near : ∀ (a : Nat), a < i → ∀ (u : Nat), q[a]? = some u → ∀ (k : Nat), k < rows.length → Edge rows u k → k ∈ q ∧ fa far k ≤ fa far u + 1

theorem saFar_l2 (o : Int) (rows : List (List Int)) (s : Nat) (hn : rows.length ≤ 5) (hsq : ∀ r ∈ rows, r.length = rows.length) (i c : Nat) (hc : c < rows.length) :
    ∀ (m j : Nat) (far : List Int) (q : List Nat), j + m = rows.length → Qu rows (-1) s q → Far rows s far q i → (∀ v ∈ q, fa far v ≤ fa far c + 1) → i < q.length → q[i]? = some c → (∀ k, k < j → Edge rows c k → k ∈ q) →
    ∃ far' q', Qu rows (-1) s q' ∧ Far rows s far' q' i ∧ (∀ v ∈ q', fa far' v ≤ fa far' c + 1) ∧ q <+: q' ∧ (∀ k, k < rows.length → Edge rows c k → k ∈ q') ∧
      ∀ k, m < k → spec_saFar.l2 k far (q.map (fun v : Nat => (v : Int))) i (rows[c]) ((rows[c]).length : Int) j o rows = spec_saFar.l1 (k - m - 1) far' (q'.map (fun v : Nat => (v : Int))) (i + 1) o rows := by
  have hlen := hsq _ (List.getElem_mem hc)
  intro m
  induction m with
  | zero =>
    intro j far q hj hq hm ht hi hqi hd
    refine ⟨far, q, hq, hm, ht, List.prefix_refl _, fun k hk he => hd k (by omega) he, fun k hk => ?_⟩
    obtain ⟨k, rfl⟩ : ∃ m, k = m + 1 := ⟨k - 1, by omega⟩
    have := hq.len
    simp only [spec_saFar.l2]
    rw [if_neg (by omega), w64 (x := (i : Int) + 1) (by omega) (by omega)]
    rfl
  | succ m ih =>
    intro j far q hj hq hm ht hi hqi hd
    have hlt : j < (rows[c]).length := by omega
    have hlo : j < far.length := by have := hm.len; omega
    have hcf : c < far.length := by have := hm.len; omega
    have hql := hq.len
    have hin := edge_get hc hlt
    have hgc : q[i] = c := by rw [List.getElem?_eq_getElem hi] at hqi; exact Option.some.inj hqi
    by_cases c1 : 0 < rows[c][j]
    · by_cases c2 : fa far j < 0
      · have hjq : j ∉ q := fun h => by have := (hm.mem j (by omega)).2 h; omega
        have hcq : c ∈ q := List.mem_of_getElem? hqi
        have hcj : c ≠ j := fun e => hjq (e ▸ hcq)
        have hc0 : 0 ≤ fa far c := (hm.mem c hc).2 hcq
        have hci := hm.idx i c hqi
        have hq2 : Qu rows (-1) s (q ++ [j]) := by
          refine ⟨?_, ?_, ?_, List.mem_append_left _ hq.mem⟩
          · rw [List.nodup_append]
            refine ⟨hq.nd, by simp, ?_⟩
            intro a ha b hb
            rw [List.mem_singleton] at hb
            rintro rfl
            exact hjq (hb ▸ ha)
          · intro v hv
            rcases List.mem_append.1 hv with hv | hv
            · exact hq.lt v hv
            · rw [List.mem_singleton] at hv; omega
          · intro v hv
            rcases List.mem_append.1 hv with hv | hv
            · exact hq.rc v hv
            · rw [List.mem_singleton] at hv
              subst hv
              exact RC.step c v (hq.rc c hcq) (by omega) (by omega) (hin.2 c1)
        have hs := fun k => fa_set (far := far) (x := fa far c + 1) hlo k
        have hold : ∀ v, v ∈ q → fa (far.set j (fa far c + 1)) v = fa far v := fun v hv => by
          rw [hs, if_neg (by rintro rfl; exact hjq hv)]
        have hat : ∀ (a v : Nat), (q ++ [j])[a]? = some v → (q[a]? = some v ∧ v ∈ q) ∨ (a = q.length ∧ v = j) := by
          intro a v h
          by_cases ha : a < q.length
          · rw [List.getElem?_append_left ha] at h
            exact .inl ⟨h, List.mem_of_getElem? h⟩
          · rw [List.getElem?_append_right (by omega), List.getElem?_singleton] at h
            by_cases e : a - q.length = 0
            · rw [if_pos e] at h
              exact .inr ⟨by omega, (Option.some.inj h).symm⟩
            · rw [if_neg e] at h; cases h
        have hm2 : Far rows s (far.set j (fa far c + 1)) (q ++ [j]) i := by
          refine ⟨by rw [List.length_set]; exact hm.len, ?_, ?_, by rw [hold s hq.mem]; exact hm.zero, ?_, ?_, ?_, ?_⟩
          · intro k hk
            rw [hs]
            by_cases e : k = j
            · subst e; simp; omega
            · rw [if_neg e, hm.mem k hk]; simp [e]
          · intro k
            rw [hs]
            have := hm.low k
            by_cases e : k = j
            · rw [if_pos e]; omega
            · rw [if_neg e]; exact this
          · intro v hv
            rcases List.mem_append.1 hv with hv | hv
            · rw [hold v hv]; exact hm.wk v hv
            · rw [List.mem_singleton] at hv
              subst hv
              rw [hs, if_pos rfl, show (fa far c + 1).toNat = (fa far c).toNat + 1 from by omega]
              exact Wk.step c v _ (hm.wk c hcq) (by omega) (hin.2 c1)
          · intro a v h
            rcases hat a v h with ⟨h1, h2⟩ | ⟨h1, h2⟩
            · rw [hold v h2]; exact hm.idx a v h1
            · subst h2; rw [hs, if_pos rfl]; omega
          · intro a b u v hab hu hv
            rcases hat b v hv with ⟨h1, h2⟩ | ⟨h1, h2⟩
            · rcases hat a u hu with ⟨h3, h4⟩ | ⟨h3, h4⟩
              · rw [hold v h2, hold u h4]; exact hm.mono a b u v hab h3 h1
              · exfalso
                have := (List.getElem?_eq_some_iff.1 h1).1
                omega
            · subst h2
              rw [hs v, if_pos rfl]
              rcases hat a u hu with ⟨h3, h4⟩ | ⟨h3, h4⟩
              · rw [hold u h4]; exact ht u h4
              · subst h4; rw [hs, if_pos rfl]; exact Int.le_refl _
          · intro a ha u hu k hk he
            rcases hat a u hu with ⟨h1, h2⟩ | ⟨h1, h2⟩
            · obtain ⟨h3, h4⟩ := hm.near a ha u h1 k hk he
              rw [hold u h2, hold k h3]
              exact ⟨List.mem_append_left _ h3, h4⟩
            · omega
        have hql2 := hq2.len
        rw [List.length_append, List.length_singleton] at hql2
        have ht2 : ∀ v ∈ q ++ [j], fa (far.set j (fa far c + 1)) v ≤ fa (far.set j (fa far c + 1)) c + 1 := by
          intro v hv
          rw [hold c hcq]
          rcases List.mem_append.1 hv with hv | hv
          · rw [hold v hv]; exact ht v hv
          · rw [List.mem_singleton] at hv; subst hv; rw [hs, if_pos rfl]; exact Int.le_refl _
        obtain ⟨far', q', h1, h2, h3, h4, h5, E⟩ := ih (j + 1) (far.set j (fa far c + 1)) (q ++ [j]) (by omega) hq2 hm2 ht2 (by rw [List.length_append]; omega) (by rw [List.getElem?_append_left hi]; exact hqi)
          (fun k hk he => if h : k = j then by simp [h] else List.mem_append_left _ (hd k (by omega) he))
        refine ⟨far', q', h1, h2, h3, (List.prefix_append q [j]).trans h4, h5, fun k hk => ?_⟩
        obtain ⟨k, rfl⟩ : ∃ m, k = m + 1 := ⟨k - 1, by omega⟩
        simp only [spec_saFar.l2]
        rw [if_pos (by omega), if_pos (by omega), if_pos (by omega), rd_get hlt, if_pos (by omega), if_pos (by omega), rd_fa hlo, if_pos c2, if_pos (by omega), if_pos (by rw [List.length_map]; omega), rd_nats hi, hgc, if_pos (by omega), if_pos (by omega),
          if_pos (by rw [List.length_map]; omega), rd_fa hcf, w64 (x := fa far c + 1) (by omega) (by omega), w64 (x := (j : Int) + 1) (by omega) (by omega), Int.toNat_natCast]
        have := E k (by omega)
        rw [List.map_append, List.map_singleton] at this
        rw [show k + 1 - (m + 1) - 1 = k - m - 1 from by omega]
        exact this
      · have hjq : j ∈ q := (hm.mem j (by omega)).1 (by omega)
        obtain ⟨far', q', h1, h2, h3, h4, h5, E⟩ := ih (j + 1) far q (by omega) hq hm ht hi hqi (fun k hk he => if h : k = j then h ▸ hjq else hd k (by omega) he)
        refine ⟨far', q', h1, h2, h3, h4, h5, fun k hk => ?_⟩
        obtain ⟨k, rfl⟩ : ∃ m, k = m + 1 := ⟨k - 1, by omega⟩
        simp only [spec_saFar.l2]
        rw [if_pos (by omega), if_pos (by omega), if_pos (by omega), rd_get hlt, if_pos (by omega), if_pos (by omega), rd_fa hlo, if_neg c2, w64 (x := (j : Int) + 1) (by omega) (by omega)]
        have := E k (by omega)
        rw [show k + 1 - (m + 1) - 1 = k - m - 1 from by omega]
        exact this
    · obtain ⟨far', q', h1, h2, h3, h4, h5, E⟩ := ih (j + 1) far q (by omega) hq hm ht hi hqi (fun k hk he => if h : k = j then absurd (hin.1 (h ▸ he)) c1 else hd k (by omega) he)
      refine ⟨far', q', h1, h2, h3, h4, h5, fun k hk => ?_⟩
      obtain ⟨k, rfl⟩ : ∃ m, k = m + 1 := ⟨k - 1, by omega⟩
      simp only [spec_saFar.l2]
      rw [if_pos (by omega), if_pos (by omega), if_pos (by omega), rd_get hlt, if_neg (by omega), w64 (x := (j : Int) + 1) (by omega) (by omega)]
      have := E k (by omega)
      rw [show k + 1 - (m + 1) - 1 = k - m - 1 from by omega]
      exact this

theorem saFar_l1 (o : Int) (rows : List (List Int)) (s : Nat) (hn : rows.length ≤ 5) (hsq : ∀ r ∈ rows, r.length = rows.length) :
    ∀ (d i : Nat) (far : List Int) (q : List Nat), i + d = rows.length → i ≤ q.length → Qu rows (-1) s q → Far rows s far q i → Through rows (-1) q i → (∀ c, q[i]? = some c → ∀ v ∈ q, fa far v ≤ fa far c + 1) →
    ∃ far' q', Qu rows (-1) s q' ∧ Far rows s far' q' q'.length ∧ Through rows (-1) q' q'.length ∧ ∀ k, 10 * d + 1 ≤ k → spec_saFar.l1 k far (q.map (fun v : Nat => (v : Int))) i o rows = some far' := by
  have fin : ∀ (i : Nat) (far : List Int) (q : List Nat), q.length ≤ i → i ≤ q.length → Qu rows (-1) s q → Far rows s far q i → Through rows (-1) q i →
      ∃ far' q', Qu rows (-1) s q' ∧ Far rows s far' q' q'.length ∧ Through rows (-1) q' q'.length ∧ ∀ k, 1 ≤ k → spec_saFar.l1 k far (q.map (fun v : Nat => (v : Int))) i o rows = some far' := by
    intro i far q h1 h2 hq hm ht
    obtain rfl : i = q.length := by omega
    refine ⟨far, q, hq, hm, ht, fun k hk => ?_⟩
    obtain ⟨k, rfl⟩ : ∃ m, k = m + 1 := ⟨k - 1, by omega⟩
    simp only [spec_saFar.l1]
    rw [if_neg (by rw [List.length_map]; omega)]
  intro d
  induction d with
  | zero =>
    intro i far q hi hiq hq hm ht _
    have := hq.len
    obtain ⟨far', q', h1, h2, h3, E⟩ := fin i far q (by omega) hiq hq hm ht
    exact ⟨far', q', h1, h2, h3, fun k hk => E k (by omega)⟩
  | succ d ih =>
    intro i far q hi hiq hq hm ht htop
    have hql := hq.len
    by_cases c0 : i < q.length
    · have hqi : q[i]? = some q[i] := List.getElem?_eq_getElem c0
      have hc := hq.lt _ (List.getElem_mem c0)
      obtain ⟨far1, q1, hq1, hm1, ht1, hp, hall, E1⟩ := saFar_l2 o rows s hn hsq i q[i] hc rows.length 0 far q (by omega) hq hm (htop _ hqi) c0 hqi (fun k hk => absurd hk (Nat.not_lt_zero _))
      have hpl := hp.length_le
      have hqi1 : q1[i]? = some q[i] := by
        obtain ⟨t, rfl⟩ := hp
        rw [List.getElem?_append_left c0]; exact hqi
      have hm2 : Far rows s far1 q1 (i + 1) := by
        refine ⟨hm1.len, hm1.mem, hm1.low, hm1.zero, hm1.wk, hm1.idx, hm1.mono, ?_⟩
        intro a ha u hu k hk he
        by_cases e : a = i
        · subst e
          rw [hqi1] at hu
          injection hu with hu
          subst hu
          have := hall k hk he
          exact ⟨this, ht1 k this⟩
        · exact hm1.near a (by omega) u hu k hk he
      have hth : Through rows (-1) q1 (i + 1) := by
        intro a ha v hv hvc k hk he
        by_cases e : a = i
        · subst e
          rw [hqi1] at hv
          injection hv with hv
          exact hall k hk (hv ▸ he)
        · exact ht.more hiq hp a (by omega) v hv hvc k hk he
      obtain ⟨far', q', h1, h2, h3, E⟩ := ih (i + 1) far1 q1 (by omega) (by omega) hq1 hm2 hth (by
        intro c hc' v hv
        have h5 := ht1 v hv
        have h6 := hm1.mono i (i + 1) q[i] c (by omega) hqi1 hc'
        omega)
      refine ⟨far', q', h1, h2, h3, fun k hk => ?_⟩
      obtain ⟨k, rfl⟩ : ∃ m, k = m + 1 := ⟨k - 1, by omega⟩
      simp only [spec_saFar.l1]
      rw [if_pos (by rw [List.length_map]; omega), if_pos (by omega), rd_nats c0, if_pos (by omega), if_pos (by omega), rd1_get hc]
      exact (E1 k (by omega)).trans (E _ (by omega))
    · obtain ⟨far', q', h1, h2, h3, E⟩ := fin i far q (by omega) hiq hq hm ht
      exact ⟨far', q', h1, h2, h3, fun k hk => E k (by omega)⟩

/-- What saFar tells. -/
structure IsFar (rows : List (List Int)) (s : Nat) (far : List Int) : Prop where
  len : far.length = rows.length
  low : ∀ k, -1 ≤ fa far k
  high : ∀ k, k < rows.length → fa far k < rows.length
  mem : ∀ k, k < rows.length → (0 ≤ fa far k ↔ RC rows (-1) s k)
  wk : ∀ k, k < rows.length → 0 ≤ fa far k → Wk rows s k (fa far k).toNat
  near : ∀ u k, u < rows.length → k < rows.length → 0 ≤ fa far u → Edge rows u k → 0 ≤ fa far k ∧ fa far k ≤ fa far u + 1
  zero : fa far s = 0

theorem saFar_l0 (o : Int) (rows : List (List Int)) (s : Nat) (hn : rows.length ≤ 5) (hsq : ∀ r ∈ rows, r.length = rows.length) (hs : s < rows.length) :
    ∀ (m j : Nat) (far : List Int), j + m = rows.length → far.length = rows.length → (∀ k, k < j → fa far k = -1) →
    ∃ far', IsFar rows s far' ∧ ∀ k, m + 60 < k → spec_saFar.l0 k s far (rows.length : Int) j o rows = some far' := by
  intro m
  induction m with
  | zero =>
    intro j far hj hl hd
    have hq : Qu rows (-1) s [s] := ⟨by simp, by simp [hs], by simp [RC.base], by simp⟩
    have hset := fun k => fa_set (far := far) (j := s) (x := 0) (by omega) k
    have hout : ∀ k, rows.length ≤ k → fa far k = -1 := by
      intro k hk
      unfold fa
      rw [List.getD_eq_getElem?_getD, List.getElem?_eq_none (by omega)]
      rfl
    have hold : ∀ k, fa far k = -1 := fun k => if h : k < rows.length then hd k (by omega) else hout k (by omega)
    have hone : ∀ (a v : Nat), ([s] : List Nat)[a]? = some v → a = 0 ∧ v = s := by
      intro a v h
      rw [List.getElem?_singleton] at h
      by_cases e : a = 0
      · rw [if_pos e] at h; exact ⟨e, (Option.some.inj h).symm⟩
      · rw [if_neg e] at h; cases h
    have hm : Far rows s (far.set s 0) [s] 0 := by
      refine ⟨by rw [List.length_set]; exact hl, ?_, ?_, by rw [hset, if_pos rfl], ?_, ?_, ?_, ?_⟩
      · intro k hk
        rw [hset]
        by_cases e : k = s
        · simp [e]
        · rw [if_neg e, hold]; simp [e]
      · intro k
        rw [hset]
        by_cases e : k = s
        · rw [if_pos e]; omega
        · rw [if_neg e, hold]; omega
      · intro v hv
        rw [List.mem_singleton] at hv
        subst hv
        rw [hset, if_pos rfl]
        exact Wk.base
      · intro a v h
        obtain ⟨rfl, rfl⟩ := hone a v h
        rw [hset, if_pos rfl]; simp
      · intro a b u v _ hu hv
        obtain ⟨_, rfl⟩ := hone a u hu
        obtain ⟨_, rfl⟩ := hone b v hv
        exact Int.le_refl _
      · intro a ha; omega
    obtain ⟨far', q', h1, h2, h3, E⟩ := saFar_l1 o rows s hn hsq rows.length 0 (far.set s 0) [s] (by omega) (by simp) hq hm (fun a ha => absurd ha (Nat.not_lt_zero _)) (by
      intro c hc v hv
      obtain ⟨_, rfl⟩ := hone 0 c hc
      rw [List.mem_singleton] at hv
      subst hv
      omega)
    have hmem : ∀ k, k < rows.length → (0 ≤ fa far' k ↔ k ∈ q') := h2.mem
    have hq' := h1.len
    refine ⟨far', ⟨h2.len, h2.low, ?_, ?_, ?_, ?_, ?_⟩, fun k hk => ?_⟩
    · intro k hk
      by_cases c : 0 ≤ fa far' k
      · obtain ⟨a, ha, hv⟩ := List.getElem_of_mem ((hmem k hk).1 c)
        have := h2.idx a k (by rw [List.getElem?_eq_getElem ha, hv])
        omega
      · omega
    · intro k hk
      rw [hmem k hk, h1.all h3]
    · intro k hk h
      exact h2.wk k ((hmem k hk).1 h)
    · intro u k hu hk h he
      obtain ⟨a, ha, hv⟩ := List.getElem_of_mem ((hmem u hu).1 h)
      obtain ⟨h5, h6⟩ := h2.near a ha u (by rw [List.getElem?_eq_getElem ha, hv]) k hk he
      exact ⟨(hmem k hk).2 h5, h6⟩
    · exact h2.zero
    · obtain ⟨k, rfl⟩ : ∃ m, k = m + 1 := ⟨k - 1, by omega⟩
      simp only [spec_saFar.l0]
      rw [if_neg (by omega), if_pos (by omega), if_pos (by omega), Int.toNat_natCast]
      exact E k (by omega)
  | succ m ih =>
    intro j far hj hl hd
    obtain ⟨far', h1, E⟩ := ih (j + 1) (far.set j (-1)) (by omega) (by rw [List.length_set]; exact hl) (fun k hk => by
      rw [fa_set (by omega)]
      by_cases e : k = j
      · rw [if_pos e]
      · rw [if_neg e]; exact hd k (by omega))
    refine ⟨far', h1, fun k hk => ?_⟩
    obtain ⟨k, rfl⟩ : ∃ m, k = m + 1 := ⟨k - 1, by omega⟩
    simp only [spec_saFar.l0]
    rw [if_pos (by omega), if_pos (by omega), if_pos (by omega), w64 (x := (j : Int) + 1) (by omega) (by omega), Int.toNat_natCast]
    exact E k (by omega)

theorem saFar_ev (o : Int) (rows : List (List Int)) (s : Nat) (hn : rows.length ≤ 5) (hsq : ∀ r ∈ rows, r.length = rows.length) (hs : s < rows.length) :
    ∃ far, IsFar rows s far ∧ ∀ k, 80 ≤ k → spec_saFar.f k o rows s = some far := by
  obtain ⟨far, h1, E⟩ := saFar_l0 o rows s hn hsq hs rows.length 0 (List.replicate rows.length 0) (by omega) (by simp) (fun k hk => absurd hk (Nat.not_lt_zero _))
  refine ⟨far, h1, fun k hk => ?_⟩
  simp only [spec_saFar.f]
  rw [if_pos (by omega), if_pos (by omega), Int.toNat_natCast]
  simp only [Option.bind_some, List.length_replicate]
  exact E k (by omega)

/-- Of one class. -/
def Both (rows : List (List Int)) (s i : Nat) : Prop := RC rows (-1) s i ∧ RC rows (-1) i s

theorem saClass_l0 (o : Int) (rows : List (List Int)) (s : Nat) (hn : rows.length ≤ 5) (hsq : ∀ r ∈ rows, r.length = rows.length) (hs : s < rows.length) (far : List Int) (hf : IsFar rows s far) :
    ∀ (m j : Nat) (acc : List Int), j + m = rows.length → acc.length ≤ j → ∀ k, m + 80 < k →
    spec_saClass.l0 k s acc far (rows.length : Int) j o rows = some (acc ++ such j m (Both rows s)) := by
  intro m
  induction m with
  | zero =>
    intro j acc hj ha k hk
    obtain ⟨k, rfl⟩ : ∃ m, k = m + 1 := ⟨k - 1, by omega⟩
    simp only [spec_saClass.l0]
    rw [if_neg (by omega), such_zero, List.append_nil]
  | succ m ih =>
    intro j acc hj ha k hk
    obtain ⟨k, rfl⟩ : ∃ m, k = m + 1 := ⟨k - 1, by omega⟩
    have hlt : j < far.length := by have := hf.len; omega
    have hm := hf.mem j (by omega)
    obtain ⟨far2, hf2, E2⟩ := saFar_ev o rows j hn hsq (by omega)
    have hlt2 : s < far2.length := by have := hf2.len; omega
    have hm2 := hf2.mem s hs
    have h1 := fun acc' h => ih (j + 1) acc' (by omega) h k (by omega)
    simp only [spec_saClass.l0]
    rw [if_pos (by omega), if_pos (by omega), if_pos (by omega), rd_fa hlt, w64 (x := (j : Int) + 1) (by omega) (by omega), E2 k (by omega)]
    simp only [Option.bind_some]
    rw [rd_fa hlt2]
    by_cases c1 : 0 ≤ fa far j
    · by_cases c2 : 0 ≤ fa far2 s
      · rw [if_pos (by omega), if_pos (by omega), if_pos (by omega), if_pos (by omega), if_pos (by omega), such_pos ⟨hm.1 c1, hm2.1 c2⟩]
        have := h1 (acc ++ [(j : Int)]) (by simp; omega)
        rw [List.append_assoc, List.singleton_append] at this
        exact this
      · rw [if_pos (by omega), if_pos (by omega), if_pos (by omega), if_neg (by omega), such_neg (fun h => c2 (hm2.2 h.2))]
        exact h1 acc (by omega)
    · rw [if_neg (by omega), such_neg (fun h => c1 (hm.2 h.1))]
      exact h1 acc (by omega)

theorem saClass_ev (o : Int) (rows : List (List Int)) (s : Nat) (hn : rows.length ≤ 5) (hsq : ∀ r ∈ rows, r.length = rows.length) (hs : s < rows.length) (k : Nat) (hk : 90 ≤ k) :
    spec_saClass.f k o rows s = some (such 0 rows.length (Both rows s)) := by
  obtain ⟨far, hf, E⟩ := saFar_ev o rows s hn hsq hs
  unfold spec_saClass.f
  rw [E k (by omega)]
  simp only [Option.bind_some]
  rw [hf.len]
  have := saClass_l0 o rows s hn hsq hs far hf rows.length 0 [] (by omega) (by simp) k (by omega)
  rw [List.nil_append] at this
  exact this


theorem class_l0 (o : Int) (rows : List (List Int)) (s : Nat) (hn : rows.length ≤ 5) (hsq : ∀ r ∈ rows, r.length = rows.length) (hs : s < rows.length) (out : List Bool) (hl : out.length = rows.length) (hp : ∀ k, (h : k < out.length) → (out[k] = true ↔ RC rows (-1) s k)) (mem : List Int) (hmem : mem.length ≤ 5) :
    ∀ (m j : Nat) (pre acc : List Int), j + m = rows.length → acc.length ≤ j → mem = pre ++ such j m (fun i => RC rows (-1) s i) → ∀ k, m + 80 < k →
    impl_States_class.l0 k s out acc mem (mem.length : Int) pre.length o rows = some (acc ++ such j m (Both rows s), ((acc ++ such j m (Both rows s)).length : Int) == ((such 0 rows.length (fun i => RC rows (-1) s i)).length : Int)) := by
  intro m
  induction m with
  | zero =>
    intro j pre acc hj ha hpre k hk
    obtain ⟨k, rfl⟩ : ∃ m, k = m + 1 := ⟨k - 1, by omega⟩
    rw [such_zero, List.append_nil] at hpre
    subst hpre
    simp only [impl_States_class.l0]
    rw [if_neg (by omega), such_zero, List.append_nil, members_ev rows.length out _ hn hl hp k (by omega)]
    rfl
  | succ m ih =>
    intro j pre acc hj ha hpre k hk
    by_cases c1 : RC rows (-1) s j
    · rw [such_pos c1] at hpre
      obtain ⟨k, rfl⟩ : ∃ m, k = m + 1 := ⟨k - 1, by omega⟩
      have hlt : pre.length < mem.length := by rw [hpre]; simp
      have hget : mem[pre.length] = (j : Int) := by
        have : mem[pre.length]? = some (j : Int) := by rw [hpre]; simp
        rw [List.getElem?_eq_getElem hlt] at this
        exact Option.some.inj this
      obtain ⟨out2, hl2, hp2, E2⟩ := reached_ev o rows (-1) j hn hsq (by omega)
      have hlt2 : s < out2.length := by omega
      have h1 := fun acc' h => ih (j + 1) (pre ++ [(j : Int)]) acc' (by omega) h (by rw [hpre, List.append_assoc, List.singleton_append]) k (by omega)
      rw [List.length_append, List.length_singleton] at h1
      simp only [impl_States_class.l0]
      rw [if_pos (by omega), if_pos (by omega), if_pos (by omega), rd_get hlt, hget, E2 k (by omega)]
      simp only [Option.bind_some]
      rw [if_pos (by omega), if_pos (by omega), rdOf_get hlt2, w64 (x := (pre.length : Int) + 1) (by omega) (by omega)]
      by_cases c2 : out2[s] = true
      · rw [if_pos c2, if_pos (by omega), such_pos ⟨c1, (hp2 s hlt2).1 c2⟩]
        have := h1 (acc ++ [(j : Int)]) (by simp; omega)
        rw [List.append_assoc, List.singleton_append] at this
        exact this
      · rw [if_neg c2, such_neg (fun h => c2 ((hp2 s hlt2).2 h.2))]
        exact h1 acc (by omega)
    · rw [such_neg c1] at hpre
      have h1 := ih (j + 1) pre acc (by omega) (by omega) hpre k (by omega)
      rw [such_neg (fun h => c1 h.1)]
      exact h1

theorem class_ev (o : Int) (rows : List (List Int)) (s : Nat) (hn : rows.length ≤ 5) (hsq : ∀ r ∈ rows, r.length = rows.length) (hs : s < rows.length) (k : Nat) (hk : 90 ≤ k) :
    impl_States_class.f k o rows s = some (such 0 rows.length (Both rows s), ((such 0 rows.length (Both rows s)).length : Int) == ((such 0 rows.length (fun i => RC rows (-1) s i)).length : Int)) := by
  obtain ⟨out, hl, hp, E⟩ := reached_ev o rows (-1) s hn hsq hs
  unfold impl_States_class.f
  rw [E k (by omega)]
  simp only [Option.bind_some]
  rw [members_ev rows.length out _ hn hl hp k (by omega)]
  simp only [Option.bind_some]
  have := class_l0 o rows s hn hsq hs out hl hp (such 0 rows.length (fun i => RC rows (-1) s i)) (Nat.le_trans (such_len _ _ _) hn) rows.length 0 [] [] (by omega) (by simp) (by simp) k (by omega)
  rw [List.nil_append] at this
  exact this

theorem RC.trans {rows : List (List Int)} {cl : Int} {a b c : Nat} (h1 : RC rows cl a b) (h2 : RC rows cl b c) : RC rows cl a c := by
  induction h2 with
  | base => exact h1
  | step i k _ hc hk he ih => exact RC.step i k ih hc hk he

theorem Both.symm {rows : List (List Int)} {a b : Nat} (h : Both rows a b) : Both rows b a := ⟨h.2, h.1⟩
theorem Both.trans {rows : List (List Int)} {a b c : Nat} (h1 : Both rows a b) (h2 : Both rows b c) : Both rows a c := ⟨h1.1.trans h2.1, h2.2.trans h1.2⟩
theorem Both.refl (rows : List (List Int)) (a : Nat) : Both rows a a := ⟨RC.base, RC.base⟩

/-- The first state of its class. -/
def Fst (rows : List (List Int)) (i : Nat) : Prop := ∀ j, j < i → ¬ Both rows i j

theorem class_first (rows : List (List Int)) (i : Nat) (hi : i < rows.length) : 0 < (such 0 rows.length (Both rows i)).length ∧ (rd (such 0 rows.length (Both rows i)) 0 = i ↔ Fst rows i) := by
  obtain ⟨f, t, e, h1, h2, h3, h4⟩ := such_first (j := 0) (m := rows.length) (p := Both rows i) ⟨i, by omega, by omega, Both.refl _ _⟩
  rw [e]
  refine ⟨by simp, ?_⟩
  have : rd ((f : Int) :: t) 0 = f := by simp [rd]
  rw [this]
  constructor
  · intro hfi j hj
    have : f = i := by omega
    subst this
    exact h4 j (by omega) hj
  · intro hF
    by_cases c : f < i
    · exact absurd h3 (hF f c)
    · by_cases c2 : i < f
      · exact absurd (Both.refl rows i) (h4 i (by omega) c2)
      · omega

noncomputable def classList (rows : List (List Int)) (j m : Nat) : List (List Int) := ((List.range' j m).filter (fun i => @decide (Fst rows i) (Classical.propDecidable _))).map (fun i => such 0 rows.length (Both rows i))

theorem classList_pos {rows : List (List Int)} {j m : Nat} (h : Fst rows j) : classList rows j (m + 1) = such 0 rows.length (Both rows j) :: classList rows (j + 1) m := by
  unfold classList
  rw [List.range'_succ, List.filter_cons_of_pos (by simpa using h), List.map_cons]
theorem classList_neg {rows : List (List Int)} {j m : Nat} (h : ¬ Fst rows j) : classList rows j (m + 1) = classList rows (j + 1) m := by
  unfold classList
  rw [List.range'_succ, List.filter_cons_of_neg (by simpa using h)]

theorem classes_l0 (o : Int) (rows : List (List Int)) (hn : rows.length ≤ 5) (hsq : ∀ r ∈ rows, r.length = rows.length) :
    ∀ (m j : Nat) (acc : List (List Int)), j + m = rows.length → acc.length ≤ j → ∀ k, m + 90 < k →
    impl_States_classes.l0 k acc (rows.length : Int) j o rows = some (acc ++ classList rows j m) := by
  intro m
  induction m with
  | zero =>
    intro j acc hj ha k hk
    obtain ⟨k, rfl⟩ : ∃ m, k = m + 1 := ⟨k - 1, by omega⟩
    simp only [impl_States_classes.l0]
    rw [if_neg (by omega)]
    simp [classList]
  | succ m ih =>
    intro j acc hj ha k hk
    obtain ⟨k, rfl⟩ : ∃ m, k = m + 1 := ⟨k - 1, by omega⟩
    have h1 := fun acc' h => ih (j + 1) acc' (by omega) h k (by omega)
    obtain ⟨h2, h3⟩ := class_first rows j (by omega)
    simp only [impl_States_classes.l0]
    rw [if_pos (by omega), class_ev o rows j hn hsq (by omega) k (by omega)]
    simp only [Option.bind_some]
    rw [if_pos (by omega), w64 (x := (j : Int) + 1) (by omega) (by omega)]
    by_cases c : Fst rows j
    · rw [if_pos (h3.2 c), if_pos (by omega), classList_pos c]
      have := h1 (acc ++ [such 0 rows.length (Both rows j)]) (by simp; omega)
      rw [List.append_assoc, List.singleton_append] at this
      exact this
    · rw [if_neg (fun h => c (h3.1 h)), classList_neg c]
      exact h1 acc (by omega)

theorem classes_ev (o : Int) (rows : List (List Int)) (hn : rows.length ≤ 5) (hsq : ∀ r ∈ rows, r.length = rows.length) (k : Nat) (hk : 100 ≤ k) :
    impl_States_classes.f k o rows = some (classList rows 0 rows.length) := by
  unfold impl_States_classes.f
  have := classes_l0 o rows hn hsq rows.length 0 [] (by omega) (by simp) k (by omega)
  rw [List.nil_append] at this
  exact this

/-- One class: all states are of the class of the first. -/
theorem one_class (rows : List (List Int)) (hn : 1 ≤ rows.length) : (classList rows 0 rows.length).length = 1 ↔ (such 0 rows.length (Both rows 0)).length = rows.length := by
  have hF : Fst rows 0 := fun j hj => by omega
  have hl : (classList rows 0 rows.length).length = (such 0 rows.length (Fst rows)).length := by simp [classList, such]
  rw [hl, such_all]
  obtain ⟨n, hn1⟩ : ∃ n, rows.length = n + 1 := ⟨rows.length - 1, by omega⟩
  rw [hn1, such_pos hF]
  simp only [List.length_cons, Nat.add_eq_right, List.length_eq_zero_iff]
  constructor
  · intro h
    have h0 : ∀ i, 1 ≤ i → i < n + 1 → ¬ Fst rows i := by
      intro i h1 h2 h3
      have : (i : Int) ∈ such (0 + 1) n (Fst rows) := such_mem.2 ⟨i, rfl, by omega, by omega, h3⟩
      rw [h] at this
      cases this
    intro i
    induction i using Nat.strongRecOn with
    | _ i ih =>
      intro h1 h2
      by_cases e : i = 0
      · subst e; exact Both.refl _ _
      · have h3 := h0 i (by omega) (by omega)
        unfold Fst at h3
        simp only [Classical.not_forall] at h3
        obtain ⟨j, hj, h4⟩ := h3
        have h5 : Both rows i j := Classical.not_not.1 h4
        exact (ih j hj (by omega) (by omega)).trans h5.symm
  · intro h
    rw [List.eq_nil_iff_forall_not_mem]
    intro x hx
    obtain ⟨i, _, h1, h2, h3⟩ := such_mem.1 hx
    exact h3 0 (by omega) (h i (by omega) (by omega)).symm

theorem stateClasses_l0 (o : Int) (rows : List (List Int)) (hn : rows.length ≤ 5) (hsq : ∀ r ∈ rows, r.length = rows.length) :
    ∀ (m j : Nat) (acc : List (List Int)), j + m = rows.length → acc.length ≤ j → ∀ k, m + 90 < k →
    spec_StateClasses.l0 k acc (rows.length : Int) j o rows = some (acc ++ classList rows j m, true) := by
  intro m
  induction m with
  | zero =>
    intro j acc hj ha k hk
    obtain ⟨k, rfl⟩ : ∃ m, k = m + 1 := ⟨k - 1, by omega⟩
    simp only [spec_StateClasses.l0]
    rw [if_neg (by omega)]
    simp [classList]
  | succ m ih =>
    intro j acc hj ha k hk
    obtain ⟨k, rfl⟩ : ∃ m, k = m + 1 := ⟨k - 1, by omega⟩
    have h1 := fun acc' h => ih (j + 1) acc' (by omega) h k (by omega)
    obtain ⟨h2, h3⟩ := class_first rows j (by omega)
    simp only [spec_StateClasses.l0]
    rw [if_pos (by omega), saClass_ev o rows j hn hsq (by omega) k (by omega)]
    simp only [Option.bind_some]
    rw [if_pos (by omega), w64 (x := (j : Int) + 1) (by omega) (by omega)]
    by_cases c : Fst rows j
    · rw [if_pos (h3.2 c), if_pos (by omega), classList_pos c]
      have := h1 (acc ++ [such 0 rows.length (Both rows j)]) (by simp; omega)
      rw [List.append_assoc, List.singleton_append] at this
      exact this
    · rw [if_neg (fun h => c (h3.1 h)), classList_neg c]
      exact h1 acc (by omega)

theorem classList_size (rows : List (List Int)) (j m : Nat) : (classList rows j m).length ≤ m ∧ ∀ r ∈ classList rows j m, r.length ≤ rows.length := by
  unfold classList
  constructor
  · rw [List.length_map]
    exact Nat.le_trans (List.length_filter_le _ _) (by simp)
  · intro r hr
    obtain ⟨i, _, rfl⟩ := List.mem_map.1 hr
    exact such_len _ _ _

theorem stateClasses_same (o : Int) (rows : List (List Int)) (h1 : rows.length ≤ 1048576) (h2 : ∀ r ∈ rows, r.length ≤ 1048576) :
    ∃ (t : List (List Int)) (u : Bool), t.length ≤ 1048576 ∧ (∀ r ∈ t, r.length ≤ 1048576) ∧ ∃ K, ∀ k, K ≤ k → spec_StateClasses.f k o rows = some (t, u) ∧ impl_StateClasses.f k o rows = some (t, u) := by
  obtain ⟨t1, ht1, K2, E2⟩ := saGood_ev o rows h1 h2
  obtain ⟨t2, ht2, K3, E3⟩ := areStates_ev o rows h1 h2
  have ht : t1 = t2 := by rw [Bool.eq_iff_iff, ht1, ht2]
  subst ht
  cases t1 with
  | false =>
    refine ⟨[], false, by simp, by simp, K2 + K3, fun k hk => ⟨?_, ?_⟩⟩
    · simp [spec_StateClasses.f, E2 k (by omega)]
    · simp [impl_StateClasses.f, E3 k (by omega)]
  | true =>
    obtain ⟨g1, g2, g3, g4, g5⟩ := ht1.1 rfl
    have hsq : ∀ r ∈ rows, r.length = rows.length := fun r hr => (g5 r hr).1
    obtain ⟨c1, c2⟩ := classList_size rows 0 rows.length
    refine ⟨classList rows 0 rows.length, true, by omega, fun r hr => by have := c2 r hr; omega, K2 + K3 + 400, fun k hk => ⟨?_, ?_⟩⟩
    · simp only [spec_StateClasses.f, E2 k (by omega), Option.bind_some, ↓reduceIte]
      have := stateClasses_l0 o rows g4 hsq rows.length 0 [] (by omega) (by simp) k (by omega)
      rw [List.nil_append] at this
      exact this
    · simp only [impl_StateClasses.f, E3 k (by omega), Option.bind_some, ↓reduceIte, classes_ev o rows g4 hsq k (by omega)]

theorem FnExactStateClasses (o : Int) (rows : List (List Int)) (wo : (Lit.int .i64 o).wf = true) (wr : ∀ r ∈ rows, ∀ x ∈ r, (Lit.int .i64 x).wf = true) (hl : rows.length ≤ maxLen) (hr : ∀ r ∈ rows, r.length ≤ maxLen) : ∃ k, laws_FnExactStateClasses.f k o rows = some true := by
  obtain ⟨r, ⟨K1, E1⟩, h⟩ := szStates_ev o rows (by unfold maxLen at hl; omega) (fun r h => by have := hr r h; unfold maxLen at this; omega)
  by_cases h0 : r < 0
  · refine ⟨K1, ?_⟩
    simp only [laws_FnExactStateClasses.f, E1 K1 (by omega), Option.bind_some]
    rw [if_pos h0]
  · obtain ⟨h1, h2⟩ := h (by omega)
    obtain ⟨t, u, ht, ht2, K6, q⟩ := stateClasses_same o rows h1 h2
    obtain ⟨k, hk1, hk2, hk3⟩ : ∃ k, K1 ≤ k ∧ K6 ≤ k ∧ 5000000 ≤ k := ⟨K1 + K6 + 5000000, by omega, by omega, by omega⟩
    have hp := markEnd_pos rows h2
    have hb := markEnd_pos t ht2
    refine ⟨k, ?_⟩
    simp only [laws_FnExactStateClasses.f, E1 k (by omega), toStates_is o rows h1 h2 k (by omega), (q k (by omega)).1, (q k (by omega)).2, eqIntSS_is t ht ht2 k (by omega), Option.bind_some, eqStates_is o rows h1 h2 k (by omega), markStates_is o rows h1 h2 k (by omega), markIntSS_is t ht ht2 k (by omega), heldIntSS_is t ht ht2 k (by omega), if_neg h0, if_neg hp, if_neg hb, ↓reduceIte, bne_self_eq_false, Bool.false_eq_true]

end Go.Proofs.Ytliiljjeebnfeaa.Pure
