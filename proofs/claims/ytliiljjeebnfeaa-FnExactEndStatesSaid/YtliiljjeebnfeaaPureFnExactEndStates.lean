/- For all arguments the program and the reference return the same from EndStates: the plain statement over numbers and lists, and its proof. -/
import Derived.Test.YtliiljjeebnfeaaPFnExactEndStatesx1
import Derived.Test.YtliiljjeebnfeaaPFnExactEndStatesx2
import Derived.Test.YtliiljjeebnfeaaPFnExactEndStatesx3
import Derived.Test.YtliiljjeebnfeaaPFnExactEndStatesx4
import Derived.Test.YtliiljjeebnfeaaPFnExactEndStatesx5
namespace Go.Proofs.Ytliiljjeebnfeaa.Pure
open Go.RowKit Go.Proofs.Ytliiljjeebnfeaa.PFnExactEndStates Go.Proofs.YtliiljjeebnfeaaW.PrintWords Go.Proofs.YtliiljjeebnfeaaW.PrintLast Go.Proofs.YtliiljjeebnfeaaW.PrintMore
set_option linter.unusedVariables false
set_option linter.unusedSimpArgs false
set_option maxRecDepth 100000
theorem w64 {x : Int} (h0 : -9223372036854775808 ≤ x) (h1 : x ≤ 9223372036854775807) : wrap64 x = x := by
  unfold wrap64
  omega

theorem mul_fits {x y A B : Int} (hx : x.natAbs ≤ A.natAbs) (hy : y.natAbs ≤ B.natAbs) : (x * y).natAbs ≤ (A * B).natAbs := by
  rw [Int.natAbs_mul, Int.natAbs_mul]
  exact Nat.mul_le_mul hx hy

/-- A product of numbers of at most nine digits. -/
theorem mul9 {x y : Int} (hx : x.natAbs ≤ 1000000000) (hy : y.natAbs ≤ 1000000000) : (x * y).natAbs ≤ 1000000000000000000 := by
  rw [Int.natAbs_mul]
  exact Nat.le_trans (Nat.mul_le_mul hx hy) (by decide)

theorem wf_range {a : Int} (h : (Lit.int .i64 a).wf = true) : -9223372036854775808 ≤ a ∧ a ≤ 9223372036854775807 := by
  simp [Lit.wf, IntKind.min, IntKind.max, IntKind.signed, IntKind.bits] at h
  omega

theorem rd_get {xs : List Int} {j : Nat} (h : j < xs.length) : rd xs (j : Int) = xs[j] := by
  unfold rd
  rw [Int.toNat_natCast, List.getD_eq_getElem?_getD, List.getElem?_eq_getElem h]
  rfl

theorem rd1_get {xs : List (List Int)} {j : Nat} (h : j < xs.length) : rd_L1 xs (j : Int) = xs[j] := by
  unfold rd_L1
  rw [Int.toNat_natCast, List.getD_eq_getElem?_getD, List.getElem?_eq_getElem h]
  rfl

theorem szSS_l0 (rows : List (List Int)) (hl : rows.length ≤ 9223372036854775807) (hr : ∀ r ∈ rows, r.length ≤ 9223372036854775807) : ∀ (m j : Nat) (left : Int), j + m = rows.length → 0 ≤ left → left ≤ 1048576 →
    ∃ r, (∃ K, ∀ k, K ≤ k → laws_szIntSS.l0 k rows left j = some r) ∧ (0 ≤ r → ∀ i (h : i < rows.length), j ≤ i → (rows[i].length : Int) ≤ left) := by
  intro m
  induction m with
  | zero =>
    intro j left hj h0 h1
    refine ⟨left, ⟨1, fun k hk => ?_⟩, fun _ i h hi => by omega⟩
    obtain ⟨k, rfl⟩ : ∃ m, k = m + 1 := ⟨k - 1, by omega⟩
    simp only [laws_szIntSS.l0]
    rw [if_neg (by omega)]
  | succ m ih =>
    intro j left hj h0 h1
    have hlt : j < rows.length := by omega
    have hrr := hr _ (List.getElem_mem hlt)
    by_cases hc : left - (rows[j].length : Int) < 0
    · refine ⟨-1, ⟨1, fun k hk => ?_⟩, fun h => by omega⟩
      obtain ⟨k, rfl⟩ : ∃ m, k = m + 1 := ⟨k - 1, by omega⟩
      simp only [laws_szIntSS.l0, laws_szIntS.f]
      rw [if_pos (by omega), if_pos (by omega), rd1_get hlt, w64 (x := left - (rows[j].length : Int)) (by omega) (by omega), if_pos hc]
      rfl
    · obtain ⟨r, ⟨K, E⟩, h⟩ := ih (j + 1) (left - (rows[j].length : Int)) (by omega) (by omega) (by omega)
      refine ⟨r, ⟨K + 1, fun k hk => ?_⟩, fun h2 i hi hji => ?_⟩
      · obtain ⟨k, rfl⟩ : ∃ m, k = m + 1 := ⟨k - 1, by omega⟩
        simp only [laws_szIntSS.l0, laws_szIntS.f]
        rw [if_pos (by omega), if_pos (by omega), rd1_get hlt, w64 (x := left - (rows[j].length : Int)) (by omega) (by omega), if_neg hc]
        simp only [Option.bind_some]
        rw [if_neg hc, w64 (x := (j : Int) + 1) (by omega) (by omega)]
        exact E k (by omega)
      · by_cases hij : i = j
        · subst hij; omega
        · have := h h2 i hi (by omega)
          omega

theorem szStates_ev (o : Int) (rows : List (List Int)) (hl : rows.length ≤ 9223372036854775807) (hr : ∀ r ∈ rows, r.length ≤ 9223372036854775807) :
    ∃ r, (∃ K, ∀ k, K ≤ k → laws_szStates.f k o rows 1048576 = some r) ∧ (0 ≤ r → rows.length ≤ 1048576 ∧ ∀ x ∈ rows, x.length ≤ 1048576) := by
  by_cases hc : 1048576 - (rows.length : Int) < 0
  · refine ⟨-1, ⟨0, fun k _ => ?_⟩, fun h => by omega⟩
    simp only [laws_szStates.f, laws_szIntSS.f]
    rw [w64 (x := 1048576 - (rows.length : Int)) (by omega) (by omega), if_pos hc]
    rfl
  · obtain ⟨r, ⟨K, E⟩, h⟩ := szSS_l0 rows hl hr rows.length 0 (1048576 - (rows.length : Int)) (by omega) (by omega) (by omega)
    by_cases hr0 : r < 0
    · refine ⟨-1, ⟨K, fun k hk => ?_⟩, fun h => by omega⟩
      simp only [laws_szStates.f, laws_szIntSS.f]
      rw [w64 (x := 1048576 - (rows.length : Int)) (by omega) (by omega), if_neg hc, show laws_szIntSS.l0 k rows (1048576 - (rows.length : Int)) 0 = some r from E k hk]
      simp only [Option.bind_some]
      rw [if_pos hr0]
    · refine ⟨r, ⟨K, fun k hk => ?_⟩, fun h0 => ⟨by omega, fun x hx => ?_⟩⟩
      · simp only [laws_szStates.f, laws_szIntSS.f]
        rw [w64 (x := 1048576 - (rows.length : Int)) (by omega) (by omega), if_neg hc, show laws_szIntSS.l0 k rows (1048576 - (rows.length : Int)) 0 = some r from E k hk]
        simp only [Option.bind_some]
        rw [if_neg hr0]
      · obtain ⟨i, hi, rfl⟩ := List.getElem_of_mem hx
        have := h h0 i hi (by omega)
        omega

theorem toIntS_l0 (xs : List Int) (hx : xs.length ≤ 1048576) : ∀ (m j k : Nat) (ys : List Int), m < k → j + m = xs.length → ys.length = xs.length → ys.take j = xs.take j →
    laws_toIntS.l0 k xs ys j = some xs := by
  intro m
  induction m with
  | zero =>
    intro j k ys hk hj hy ht
    obtain ⟨k, rfl⟩ : ∃ m, k = m + 1 := ⟨k - 1, by omega⟩
    simp only [laws_toIntS.l0]
    rw [if_neg (by omega)]
    rw [List.take_of_length_le (by omega), List.take_of_length_le (by omega)] at ht
    rw [ht]
  | succ m ih =>
    intro j k ys hk hj hy ht
    obtain ⟨k, rfl⟩ : ∃ m, k = m + 1 := ⟨k - 1, by omega⟩
    have hlt : j < xs.length := by omega
    simp only [laws_toIntS.l0]
    rw [if_pos (by omega), if_pos (by omega), if_pos (by omega), rd_get hlt, w64 (x := (j : Int) + 1) (by omega) (by omega), show (j : Int) + 1 = ((j + 1 : Nat) : Int) from by omega, Int.toNat_natCast]
    refine ih (j + 1) k _ (by omega) (by omega) (by rw [List.length_set]; exact hy) ?_
    rw [List.take_add_one, List.take_add_one, List.take_set_of_le (by omega), ht, List.getElem?_set_self (by omega), List.getElem?_eq_getElem hlt]

theorem toIntS_is (xs : List Int) (hx : xs.length ≤ 1048576) (k : Nat) (hk : xs.length < k) : laws_toIntS.f k xs = some xs := by
  unfold laws_toIntS.f
  rw [if_pos (by omega), if_pos (by omega)]
  exact toIntS_l0 xs hx xs.length 0 k _ hk (by omega) (by simp) rfl

theorem toIntSS_l0 (xs : List (List Int)) (hx : xs.length ≤ 1048576) (hr : ∀ r ∈ xs, r.length ≤ 1048576) : ∀ (m j k : Nat) (ys : List (List Int)), m + 1048578 < k → j + m = xs.length → ys.length = xs.length → ys.take j = xs.take j →
    laws_toIntSS.l0 k xs ys j = some xs := by
  intro m
  induction m with
  | zero =>
    intro j k ys hk hj hy ht
    obtain ⟨k, rfl⟩ : ∃ m, k = m + 1 := ⟨k - 1, by omega⟩
    simp only [laws_toIntSS.l0]
    rw [if_neg (by omega)]
    rw [List.take_of_length_le (by omega), List.take_of_length_le (by omega)] at ht
    rw [ht]
  | succ m ih =>
    intro j k ys hk hj hy ht
    obtain ⟨k, rfl⟩ : ∃ m, k = m + 1 := ⟨k - 1, by omega⟩
    have hlt : j < xs.length := by omega
    have hrr := hr _ (List.getElem_mem hlt)
    simp only [laws_toIntSS.l0]
    rw [if_pos (by omega), if_pos (by omega), rd1_get hlt, toIntS_is _ hrr k (by omega)]
    simp only [Option.bind_some]
    rw [if_pos (by omega), w64 (x := (j : Int) + 1) (by omega) (by omega), show (j : Int) + 1 = ((j + 1 : Nat) : Int) from by omega, Int.toNat_natCast]
    refine ih (j + 1) k _ (by omega) (by omega) (by rw [List.length_set]; exact hy) ?_
    rw [List.take_add_one, List.take_add_one, List.take_set_of_le (by omega), ht, List.getElem?_set_self (by omega), List.getElem?_eq_getElem hlt]

theorem toStates_is (o : Int) (xs : List (List Int)) (hx : xs.length ≤ 1048576) (hr : ∀ r ∈ xs, r.length ≤ 1048576) (k : Nat) (hk : 3000000 ≤ k) : laws_toStates.f k o xs = some (o, xs) := by
  unfold laws_toStates.f laws_toIntSS.f
  rw [if_pos (by omega), if_pos (by omega)]
  rw [show laws_toIntSS.l0 k xs (List.replicate ((xs.length : Int) : Int).toNat []) 0 = some xs from toIntSS_l0 xs hx hr xs.length 0 k _ (by omega) (by omega) (by simp) rfl]
  rfl

theorem eqIntS_l0 (xs : List Int) (hx : xs.length ≤ 1048576) : ∀ (m j k : Nat), m < k → j + m = xs.length → laws_eqIntS.l0 k xs xs j = some true := by
  intro m
  induction m with
  | zero =>
    intro j k hk hj
    obtain ⟨k, rfl⟩ : ∃ m, k = m + 1 := ⟨k - 1, by omega⟩
    simp only [laws_eqIntS.l0]
    rw [if_neg (by omega)]
  | succ m ih =>
    intro j k hk hj
    obtain ⟨k, rfl⟩ : ∃ m, k = m + 1 := ⟨k - 1, by omega⟩
    simp only [laws_eqIntS.l0, ↓reduceIte]
    rw [if_pos (by omega), if_pos (by omega), if_pos (by omega), w64 (x := (j : Int) + 1) (by omega) (by omega), show (j : Int) + 1 = ((j + 1 : Nat) : Int) from by omega]
    exact ih (j + 1) k (by omega) (by omega)

theorem eqIntS_is (xs : List Int) (hx : xs.length ≤ 1048576) (k : Nat) (hk : xs.length < k) : laws_eqIntS.f k xs xs = some true := by
  simp only [laws_eqIntS.f, ↓reduceIte]
  exact eqIntS_l0 xs hx xs.length 0 k hk (by omega)

theorem eqIntSS_l0 (xs : List (List Int)) (hx : xs.length ≤ 1048576) (hr : ∀ r ∈ xs, r.length ≤ 1048576) : ∀ (m j k : Nat), m + 1048578 < k → j + m = xs.length → laws_eqIntSS.l0 k xs xs j = some true := by
  intro m
  induction m with
  | zero =>
    intro j k hk hj
    obtain ⟨k, rfl⟩ : ∃ m, k = m + 1 := ⟨k - 1, by omega⟩
    simp only [laws_eqIntSS.l0]
    rw [if_neg (by omega)]
  | succ m ih =>
    intro j k hk hj
    obtain ⟨k, rfl⟩ : ∃ m, k = m + 1 := ⟨k - 1, by omega⟩
    have hlt : j < xs.length := by omega
    have hrr := hr _ (List.getElem_mem hlt)
    simp only [laws_eqIntSS.l0]
    rw [if_pos (by omega), if_pos (by omega), if_pos (by omega), rd1_get hlt, eqIntS_is _ hrr k (by omega)]
    simp only [Option.bind_some, ↓reduceIte]
    rw [w64 (x := (j : Int) + 1) (by omega) (by omega), show (j : Int) + 1 = ((j + 1 : Nat) : Int) from by omega]
    exact ih (j + 1) k (by omega) (by omega)

theorem eqIntSS_is (xs : List (List Int)) (hx : xs.length ≤ 1048576) (hr : ∀ r ∈ xs, r.length ≤ 1048576) (k : Nat) (hk : 3000000 ≤ k) : laws_eqIntSS.f k xs xs = some true := by
  simp only [laws_eqIntSS.f, ↓reduceIte]
  exact eqIntSS_l0 xs hx hr xs.length 0 k (by omega) (by omega)

theorem eqStates_is (o : Int) (xs : List (List Int)) (hx : xs.length ≤ 1048576) (hr : ∀ r ∈ xs, r.length ≤ 1048576) (k : Nat) (hk : 3000000 ≤ k) : laws_eqStates.f k o xs o xs = some true := by
  simp only [laws_eqStates.f, ↓reduceIte, eqIntSS_is xs hx hr k hk, Option.bind_some]

/-- The numbers from m on. -/
def upFrom (m : Int) : Nat → List Int
  | 0 => []
  | n + 1 => m :: upFrom (m + 1) n
theorem upFrom_len (m : Int) : ∀ n, (upFrom m n).length = n
  | 0 => rfl
  | n + 1 => by rw [upFrom, List.length_cons, upFrom_len]
theorem upFrom_get : ∀ (n : Nat) (m : Int) (j : Nat) (h : j < (upFrom m n).length), (upFrom m n)[j] = m + j
  | 0, _, _, h => by simp [upFrom] at h
  | n + 1, m, 0, _ => by simp [upFrom]
  | n + 1, m, j + 1, h => by
    simp only [upFrom, List.getElem_cons_succ]
    rw [upFrom_get n (m + 1) j]
    omega

theorem markIntS_l0 (xs : List Int) (m : Int) (h0 : 0 ≤ m) (h1 : m ≤ 10000000000000) (hx : xs.length ≤ 1048576) : ∀ (d j : Nat) (ys : List Int), j + d = xs.length → ys.length = xs.length → ys.take j = (upFrom m xs.length).take j → ∀ k, d < k →
    laws_markIntS.l0 k ys (m + j) j = some (m + xs.length, upFrom m xs.length) := by
  intro d
  induction d with
  | zero =>
    intro j ys hj hy ht k hk
    obtain ⟨k, rfl⟩ : ∃ m, k = m + 1 := ⟨k - 1, by omega⟩
    have hu := upFrom_len m xs.length
    simp only [laws_markIntS.l0]
    rw [if_neg (by omega)]
    rw [List.take_of_length_le (by omega), List.take_of_length_le (by omega)] at ht
    rw [ht, show j = xs.length from by omega]
  | succ d ih =>
    intro j ys hj hy ht k hk
    obtain ⟨k, rfl⟩ : ∃ m, k = m + 1 := ⟨k - 1, by omega⟩
    have hu := upFrom_len m xs.length
    have hlu : j < (upFrom m xs.length).length := by omega
    simp only [laws_markIntS.l0]
    rw [if_pos (by omega), if_pos (by omega), Int.toNat_natCast, w64 (x := m + j + 1) (by omega) (by omega), w64 (x := (j : Int) + 1) (by omega) (by omega)]
    have := ih (j + 1) (ys.set j (m + j)) (by omega) (by rw [List.length_set]; exact hy) (by
      rw [List.take_add_one, List.take_add_one, List.take_set_of_le (by omega), ht, List.getElem?_set_self (by omega), List.getElem?_eq_getElem hlu, upFrom_get]) k (by omega)
    rw [show m + j + 1 = m + ((j + 1 : Nat) : Int) from by omega]
    exact this

theorem markIntS_is (xs : List Int) (m : Int) (h0 : 0 ≤ m) (h1 : m ≤ 10000000000000) (hx : xs.length ≤ 1048576) (k : Nat) (hk : 1048580 ≤ k) : laws_markIntS.f k xs m = some (m + xs.length, upFrom m xs.length) := by
  have := markIntS_l0 xs m h0 h1 hx xs.length 0 xs (by omega) rfl (by simp) k (by omega)
  rw [show m + ((0 : Nat) : Int) = m from by omega] at this
  exact this

theorem heldIntS_l0 (n : Nat) (m : Int) (h0 : 0 ≤ m) (h1 : m ≤ 10000000000000) (hx : n ≤ 1048576) : ∀ (d j : Nat), j + d = n → ∀ k, d < k →
    laws_heldIntS.l0 k (upFrom m n) (m + j) j = some (m + n) := by
  have hu := upFrom_len m n
  intro d
  induction d with
  | zero =>
    intro j hj k hk
    obtain ⟨k, rfl⟩ : ∃ m, k = m + 1 := ⟨k - 1, by omega⟩
    simp only [laws_heldIntS.l0]
    rw [if_neg (by omega), show j = n from by omega]
  | succ d ih =>
    intro j hj k hk
    obtain ⟨k, rfl⟩ : ∃ m, k = m + 1 := ⟨k - 1, by omega⟩
    have hlu : j < (upFrom m n).length := by omega
    simp only [laws_heldIntS.l0]
    rw [if_pos (by omega), if_pos (by omega), rd_get hlu, upFrom_get, if_pos rfl, w64 (x := m + j + 1) (by omega) (by omega), w64 (x := (j : Int) + 1) (by omega) (by omega)]
    have := ih (j + 1) (by omega) k (by omega)
    rw [show m + j + 1 = m + ((j + 1 : Nat) : Int) from by omega]
    exact this

theorem heldIntS_is (n : Nat) (m : Int) (h0 : 0 ≤ m) (h1 : m ≤ 10000000000000) (hx : n ≤ 1048576) (k : Nat) (hk : 1048580 ≤ k) : laws_heldIntS.f k (upFrom m n) m = some (m + n) := by
  have := heldIntS_l0 n m h0 h1 hx n 0 (by omega) k (by omega)
  rw [show m + ((0 : Nat) : Int) = m from by omega] at this
  exact this

/-- The rows, marked from m on. -/
def markRows : Int → List (List Int) → List (List Int)
  | _, [] => []
  | m, r :: rs => upFrom m r.length :: markRows (m + r.length) rs
def markEnd : Int → List (List Int) → Int
  | m, [] => m
  | m, r :: rs => markEnd (m + r.length) rs

theorem markEnd_le : ∀ (rs : List (List Int)) (m : Int), (∀ r ∈ rs, r.length ≤ 1048576) → m ≤ markEnd m rs ∧ markEnd m rs ≤ m + 1048576 * rs.length
  | [], m, _ => by simp [markEnd]
  | r :: rs, m, h => by
    have h1 := h r (by simp)
    have h2 := markEnd_le rs (m + r.length) (fun x hx => h x (by simp [hx]))
    simp only [markEnd, List.length_cons]
    omega

theorem markIntSS_l0 (rows : List (List Int)) (hl : rows.length ≤ 1048576) (hr : ∀ r ∈ rows, r.length ≤ 1048576) : ∀ (d j : Nat) (pre : List (List Int)) (m : Int), j + d = rows.length → pre.length = j → 0 ≤ m → m ≤ 1 + 1048576 * j → ∀ k, d + 1048580 < k →
    laws_markIntSS.l0 k (pre ++ rows.drop j) m j = some (markEnd m (rows.drop j), pre ++ markRows m (rows.drop j)) := by
  intro d
  induction d with
  | zero =>
    intro j pre m hj hp h0 h1 k hk
    obtain ⟨k, rfl⟩ : ∃ m, k = m + 1 := ⟨k - 1, by omega⟩
    rw [List.drop_of_length_le (by omega), List.append_nil]
    simp only [laws_markIntSS.l0]
    rw [if_neg (by omega)]
    simp [markEnd, markRows]
  | succ d ih =>
    intro j pre m hj hp h0 h1 k hk
    obtain ⟨k, rfl⟩ : ∃ m, k = m + 1 := ⟨k - 1, by omega⟩
    have hlt : j < rows.length := by omega
    have hll : j < (pre ++ rows.drop j).length := by simp; omega
    have hrr := hr _ (List.getElem_mem hlt)
    have hg : (pre ++ rows.drop j)[j] = rows[j] := by
      rw [List.getElem_append_right (by omega)]
      simp [hp]
    have hs : (pre ++ rows.drop j).set j (upFrom m rows[j].length) = (pre ++ [upFrom m rows[j].length]) ++ rows.drop (j + 1) := by
      rw [List.set_append_right _ _ (by omega), hp, Nat.sub_self, List.drop_eq_getElem_cons hlt, List.set_cons_zero, List.append_assoc, List.singleton_append]
    simp only [laws_markIntSS.l0]
    rw [if_pos (by omega), if_pos (by omega), rd1_get hll, hg, markIntS_is rows[j] m h0 (by omega) hrr k (by omega)]
    simp only [Option.bind_some, Int.toNat_natCast]
    rw [hs, w64 (x := (j : Int) + 1) (by omega) (by omega)]
    have := ih (j + 1) (pre ++ [upFrom m rows[j].length]) (m + rows[j].length) (by omega) (by simp [hp]) (by omega) (by omega) k (by omega)
    rw [List.drop_eq_getElem_cons hlt, markEnd, markRows]
    simp only [List.append_assoc, List.singleton_append] at this ⊢
    exact this

theorem markIntSS_is (rows : List (List Int)) (hl : rows.length ≤ 1048576) (hr : ∀ r ∈ rows, r.length ≤ 1048576) (k : Nat) (hk : 3000000 ≤ k) :
    laws_markIntSS.f k rows 1 = some (markEnd 1 rows, markRows 1 rows) := by
  have := markIntSS_l0 rows hl hr rows.length 0 [] 1 (by omega) rfl (by omega) (by omega) k (by omega)
  rw [List.drop_zero, List.nil_append, List.nil_append] at this
  exact this

theorem markStates_is (o : Int) (rows : List (List Int)) (hl : rows.length ≤ 1048576) (hr : ∀ r ∈ rows, r.length ≤ 1048576) (k : Nat) (hk : 3000000 ≤ k) :
    laws_markStates.f k o rows 1 = some (markEnd 1 rows, markRows 1 rows) := markIntSS_is rows hl hr k hk
theorem markEnd_pos (rows : List (List Int)) (hr : ∀ r ∈ rows, r.length ≤ 1048576) : ¬ markEnd 1 rows < 0 := by
  have := (markEnd_le rows 1 hr).1
  omega

/-- A row of chances: n numbers from 0 on, o in all. -/
def GoodRow (n : Nat) (o : Int) (row : List Int) : Prop := row.length = n ∧ (∀ x ∈ row, 0 ≤ x) ∧ row.sum = o
/-- Valid states. -/
def Good (o : Int) (rows : List (List Int)) : Prop := 1 ≤ o ∧ o ≤ 10 ∧ 1 ≤ rows.length ∧ rows.length ≤ 5 ∧ ∀ row ∈ rows, GoodRow rows.length o row

theorem sum_nonneg : ∀ (l : List Int), (∀ x ∈ l, 0 ≤ x) → 0 ≤ l.sum
  | [], _ => by simp
  | x :: l, h => by
    have h1 := h x (by simp)
    have h2 := sum_nonneg l (fun y hy => h y (by simp [hy]))
    simp only [List.sum_cons]
    omega

theorem le_sum : ∀ (l : List Int), (∀ x ∈ l, 0 ≤ x) → ∀ x ∈ l, x ≤ l.sum
  | [], _, x, hx => by simp at hx
  | y :: l, h, x, hx => by
    have h1 := h y (by simp)
    have h2 := sum_nonneg l (fun z hz => h z (by simp [hz]))
    simp only [List.sum_cons]
    rcases List.mem_cons.1 hx with rfl | hx
    · omega
    · have := le_sum l (fun z hz => h z (by simp [hz])) x hx
      omega

theorem in_true {n a b : Int} (h : a ≤ n ∧ n ≤ b) : (if n ≥ a then some (decide (n ≤ b)) else some false) = some true := by
  rw [if_pos h.1, decide_eq_true h.2]
theorem in_false {n a b : Int} (h : ¬ (a ≤ n ∧ n ≤ b)) : (if n ≥ a then some (decide (n ≤ b)) else some false) = some false := by
  by_cases h1 : n ≥ a
  · rw [if_pos h1, decide_eq_false (by omega)]
  · rw [if_neg h1]

theorem l1All_l0 (a b : Int) (xs : List Int) (hx : xs.length ≤ 1048576) : ∀ (m j : Nat), j + m = xs.length →
    ∃ t : Bool, (t = true ↔ ∀ x ∈ xs.drop j, a ≤ x ∧ x ≤ b) ∧ ∀ k, m < k → spec_l1All.l0 k a b xs (xs.length : Int) j = some t := by
  intro m
  induction m with
  | zero =>
    intro j hj
    refine ⟨true, ?_, fun k hk => ?_⟩
    · rw [List.drop_of_length_le (by omega)]; simp
    · obtain ⟨k, rfl⟩ : ∃ m, k = m + 1 := ⟨k - 1, by omega⟩
      simp only [spec_l1All.l0]
      rw [if_neg (by omega)]
  | succ m ih =>
    intro j hj
    have hlt : j < xs.length := by omega
    by_cases h : a ≤ xs[j] ∧ xs[j] ≤ b
    · obtain ⟨t, ht, E⟩ := ih (j + 1) (by omega)
      refine ⟨t, ?_, fun k hk => ?_⟩
      · rw [List.drop_eq_getElem_cons hlt, ht]
        simp only [List.mem_cons, forall_eq_or_imp]
        exact ⟨fun h2 => ⟨h, h2⟩, fun h2 => h2.2⟩
      · obtain ⟨k, rfl⟩ : ∃ m, k = m + 1 := ⟨k - 1, by omega⟩
        simp only [spec_l1All.l0, spec_l1In.f]
        rw [if_pos (by omega), if_pos (by omega), if_pos (by omega), rd_get hlt, in_true h]
        simp only [Option.bind_some, ↓reduceIte]
        rw [w64 (x := (j : Int) + 1) (by omega) (by omega)]
        exact E k (by omega)
    · refine ⟨false, ?_, fun k hk => ?_⟩
      · rw [List.drop_eq_getElem_cons hlt]
        simp only [Bool.false_eq_true, false_iff]
        exact fun h2 => h (h2 _ List.mem_cons_self)
      · obtain ⟨k, rfl⟩ : ∃ m, k = m + 1 := ⟨k - 1, by omega⟩
        simp only [spec_l1All.l0, spec_l1In.f]
        rw [if_pos (by omega), if_pos (by omega), if_pos (by omega), rd_get hlt, in_false h]
        simp

theorem saGood_l1 (o : Int) (rows : List (List Int)) (jj : Int) (xs : List Int) (hx : xs.length ≤ 5) (ha : ∀ x ∈ xs, 0 ≤ x ∧ x ≤ 10) : ∀ (m j : Nat) (acc : Int), j + m = xs.length → 0 ≤ acc → acc ≤ 10 * j → ∀ k, m < k →
    spec_saGood.l1 k acc rows (rows.length : Int) jj xs (xs.length : Int) j o rows = if acc + (xs.drop j).sum = o then spec_saGood.l0 (k - m - 1) rows (rows.length : Int) (wrap64 (jj + 1)) o rows else some false := by
  intro m
  induction m with
  | zero =>
    intro j acc hj h0 h1 k hk
    obtain ⟨k, rfl⟩ : ∃ m, k = m + 1 := ⟨k - 1, by omega⟩
    simp only [spec_saGood.l1]
    rw [if_neg (by omega), List.drop_of_length_le (by omega)]
    simp
  | succ m ih =>
    intro j acc hj h0 h1 k hk
    obtain ⟨k, rfl⟩ : ∃ m, k = m + 1 := ⟨k - 1, by omega⟩
    have hlt : j < xs.length := by omega
    have hxj := ha _ (List.getElem_mem hlt)
    simp only [spec_saGood.l1]
    rw [if_pos (by omega), if_pos (by omega), if_pos (by omega), rd_get hlt, w64 (x := acc + xs[j]) (by omega) (by omega), w64 (x := (j : Int) + 1) (by omega) (by omega), show (j : Int) + 1 = ((j + 1 : Nat) : Int) from by omega]
    rw [ih (j + 1) (acc + xs[j]) (by omega) (by omega) (by omega) k (by omega), List.drop_eq_getElem_cons hlt, List.sum_cons, Int.add_assoc]
    rw [show k + 1 - (m + 1) - 1 = k - m - 1 from by omega]

theorem saGood_l0 (o : Int) (o1 : o ≤ 10) (rows : List (List Int)) (hn : rows.length ≤ 5) (hl : ∀ r ∈ rows, r.length ≤ 1048576) : ∀ (m j : Nat), j + m = rows.length →
    ∃ t : Bool, (t = true ↔ ∀ row ∈ rows.drop j, GoodRow rows.length o row) ∧ ∃ K, ∀ k, K ≤ k → spec_saGood.l0 k rows (rows.length : Int) j o rows = some t := by
  intro m
  induction m with
  | zero =>
    intro j hj
    refine ⟨true, ?_, 1, fun k hk => ?_⟩
    · rw [List.drop_of_length_le (by omega)]; simp
    · obtain ⟨k, rfl⟩ : ∃ m, k = m + 1 := ⟨k - 1, by omega⟩
      simp only [spec_saGood.l0]
      rw [if_neg (by omega)]
  | succ m ih =>
    intro j hj
    have hlt : j < rows.length := by omega
    have hll := hl _ (List.getElem_mem hlt)
    obtain ⟨t1, ht1, E1⟩ := l1All_l0 0 o rows[j] hll rows[j].length 0 (by omega)
    rw [List.drop_zero] at ht1
    have bad : ¬ GoodRow rows.length o rows[j] → (∃ K, ∀ k, K ≤ k → spec_saGood.l0 k rows (rows.length : Int) j o rows = some false) → ∃ t : Bool, (t = true ↔ ∀ row ∈ rows.drop j, GoodRow rows.length o row) ∧ ∃ K, ∀ k, K ≤ k → spec_saGood.l0 k rows (rows.length : Int) j o rows = some t := by
      intro hb hE
      refine ⟨false, ?_, hE⟩
      rw [List.drop_eq_getElem_cons hlt]
      simp only [Bool.false_eq_true, false_iff]
      exact fun h2 => hb (h2 _ List.mem_cons_self)
    by_cases c1 : rows[j].length = rows.length
    · cases t1 with
      | false =>
        refine bad (fun hg => ?_) ⟨1048580, fun k hk => ?_⟩
        · have := ht1.2 (fun x hx => ⟨hg.2.1 x hx, by have := le_sum _ hg.2.1 x hx; have := hg.2.2; omega⟩)
          simp at this
        · obtain ⟨k, rfl⟩ : ∃ m, k = m + 2 := ⟨k - 2, by omega⟩
          rw [spec_saGood.l0]
          rw [if_pos (by omega), if_pos (by omega), if_pos (by omega), rd1_get hlt, if_pos (by omega)]
          unfold spec_l1All.f
          rw [show spec_l1All.l0 (k + 1) 0 o rows[j] (rows[j].length : Int) 0 = some false from E1 _ (by omega)]
          simp only [Option.bind_some]
          rw [spec_saGood.j2]
          simp
      | true =>
        have hall := ht1.1 rfl
        have hs := saGood_l1 o rows j rows[j] (by omega) (fun x hx => ⟨(hall x hx).1, by have := (hall x hx).2; omega⟩) rows[j].length 0 0 (by omega) (by omega) (by omega)
        rw [List.drop_zero, Int.zero_add] at hs
        by_cases c2 : rows[j].sum = o
        · obtain ⟨t, ht, K, E⟩ := ih (j + 1) (by omega)
          refine ⟨t, ?_, K + 1048590, fun k hk => ?_⟩
          · rw [List.drop_eq_getElem_cons hlt, ht]
            simp only [List.mem_cons, forall_eq_or_imp]
            exact ⟨fun h2 => ⟨⟨c1, fun x hx => (hall x hx).1, c2⟩, h2⟩, fun h2 => h2.2⟩
          · obtain ⟨k, rfl⟩ : ∃ m, k = m + 2 := ⟨k - 2, by omega⟩
            rw [spec_saGood.l0]
            rw [if_pos (by omega), if_pos (by omega), if_pos (by omega), rd1_get hlt, if_pos (by omega)]
            unfold spec_l1All.f
            rw [show spec_l1All.l0 (k + 1) 0 o rows[j] (rows[j].length : Int) 0 = some true from E1 _ (by omega)]
            simp only [Option.bind_some, Bool.not_true]
            rw [spec_saGood.j2]
            simp only [Bool.false_eq_true, ↓reduceIte]
            have h3 := hs k (by omega)
            rw [if_pos c2, w64 (x := (j : Int) + 1) (by omega) (by omega)] at h3
            exact h3.trans (E _ (by omega))
        · refine bad (fun hg => c2 hg.2.2) ⟨1048590, fun k hk => ?_⟩
          obtain ⟨k, rfl⟩ : ∃ m, k = m + 2 := ⟨k - 2, by omega⟩
          rw [spec_saGood.l0]
          rw [if_pos (by omega), if_pos (by omega), if_pos (by omega), rd1_get hlt, if_pos (by omega)]
          unfold spec_l1All.f
          rw [show spec_l1All.l0 (k + 1) 0 o rows[j] (rows[j].length : Int) 0 = some true from E1 _ (by omega)]
          simp only [Option.bind_some, Bool.not_true]
          rw [spec_saGood.j2]
          simp only [Bool.false_eq_true, ↓reduceIte]
          have h3 := hs k (by omega)
          rw [if_neg c2] at h3
          exact h3
    · refine bad (fun hg => c1 hg.1) ⟨10, fun k hk => ?_⟩
      obtain ⟨k, rfl⟩ : ∃ m, k = m + 2 := ⟨k - 2, by omega⟩
      rw [spec_saGood.l0]
      rw [if_pos (by omega), if_pos (by omega), if_pos (by omega), rd1_get hlt, if_neg (by omega), spec_saGood.j2]
      simp

theorem saGood_ev (o : Int) (rows : List (List Int)) (hn : rows.length ≤ 1048576) (hl : ∀ r ∈ rows, r.length ≤ 1048576) :
    ∃ t : Bool, (t = true ↔ Good o rows) ∧ ∃ K, ∀ k, K ≤ k → spec_saGood.f k o rows = some t := by
  by_cases c1 : 1 ≤ o ∧ o ≤ 10
  · by_cases c2 : 1 ≤ (rows.length : Int) ∧ (rows.length : Int) ≤ 5
    · obtain ⟨t, ht, K, E⟩ := saGood_l0 o c1.2 rows (by omega) hl rows.length 0 (by omega)
      rw [List.drop_zero] at ht
      refine ⟨t, ht.trans ⟨fun h => ⟨c1.1, c1.2, by omega, by omega, h⟩, fun h => h.2.2.2.2⟩, K + 1, fun k hk => ?_⟩
      obtain ⟨k, rfl⟩ : ∃ m, k = m + 1 := ⟨k - 1, by omega⟩
      simp only [spec_saGood.f, spec_saGood.j0, spec_l1In.f, in_true c1, in_true c2, Option.bind_some, ↓reduceIte, Bool.not_true, Bool.false_eq_true]
      exact E k (by omega)
    · refine ⟨false, ⟨fun h => by simp at h, fun h => absurd ⟨by have := h.2.2.1; omega, by have := h.2.2.2.1; omega⟩ c2⟩, 1, fun k hk => ?_⟩
      obtain ⟨k, rfl⟩ : ∃ m, k = m + 1 := ⟨k - 1, by omega⟩
      simp only [spec_saGood.f, spec_saGood.j0, spec_l1In.f, in_true c1, in_false c2, Option.bind_some, ↓reduceIte, Bool.not_false]
  · refine ⟨false, ⟨fun h => by simp at h, fun h => absurd ⟨h.1, h.2.1⟩ c1⟩, 1, fun k hk => ?_⟩
    obtain ⟨k, rfl⟩ : ∃ m, k = m + 1 := ⟨k - 1, by omega⟩
    simp only [spec_saGood.f, spec_saGood.j0, spec_l1In.f, in_false c1, Option.bind_some, ↓reduceIte, Bool.false_eq_true]

theorem areStates_l1 (o : Int) (rows : List (List Int)) (jj : Int) (xs : List Int) (hx : xs.length ≤ 1048576) : ∀ (m j : Nat) (left : Int), j + m = xs.length → 0 ≤ left → left ≤ 10 →
    ∃ t : Bool, (t = true ↔ xs.length = rows.length ∧ (∀ x ∈ xs.drop j, 0 ≤ x) ∧ (xs.drop j).sum = left) ∧ ∀ k, m < k →
    impl_AreStates.l1 k (rows.length : Int) xs left rows (rows.length : Int) jj xs (xs.length : Int) j o rows = if t = true then impl_AreStates.l0 (k - m - 1) (rows.length : Int) rows (rows.length : Int) (wrap64 (jj + 1)) o rows else some false := by
  intro m
  induction m with
  | zero =>
    intro j left hj h0 h1
    refine ⟨decide (xs.length = rows.length ∧ left = 0), ?_, fun k hk => ?_⟩
    · rw [List.drop_of_length_le (by omega), decide_eq_true_eq]
      simp
      omega
    · obtain ⟨k, rfl⟩ : ∃ m, k = m + 1 := ⟨k - 1, by omega⟩
      simp only [impl_AreStates.l1]
      rw [if_neg (by omega)]
      by_cases c1 : xs.length = rows.length
      · rw [if_pos (by omega)]
        by_cases c2 : left = 0
        · rw [if_pos c2, decide_eq_true ⟨c1, c2⟩]; rfl
        · rw [if_neg c2, decide_eq_false (fun h => c2 h.2)]; rfl
      · rw [if_neg (by omega), decide_eq_false (fun h => c1 h.1)]; rfl
  | succ m ih =>
    intro j left hj h0 h1
    have hlt : j < xs.length := by omega
    by_cases h : 0 ≤ xs[j] ∧ xs[j] ≤ left
    · obtain ⟨t, ht, E⟩ := ih (j + 1) (left - xs[j]) (by omega) (by omega) (by omega)
      refine ⟨t, ?_, fun k hk => ?_⟩
      · rw [List.drop_eq_getElem_cons hlt, ht, List.sum_cons]
        simp only [List.mem_cons, forall_eq_or_imp]
        exact ⟨fun h2 => ⟨h2.1, ⟨h.1, h2.2.1⟩, by omega⟩, fun h2 => ⟨h2.1, h2.2.1.2, by omega⟩⟩
      · obtain ⟨k, rfl⟩ : ∃ m, k = m + 1 := ⟨k - 1, by omega⟩
        simp only [impl_AreStates.l1, impl_within.f]
        rw [if_pos (by omega), if_pos (by omega), if_pos (by omega), rd_get hlt, in_true h]
        simp only [Option.bind_some, ↓reduceIte]
        rw [w64 (x := (j : Int) + 1) (by omega) (by omega), w64 (x := left - xs[j]) (by omega) (by omega), show (j : Int) + 1 = ((j + 1 : Nat) : Int) from by omega, E k (by omega),
          show k + 1 - (m + 1) - 1 = k - m - 1 from by omega]
    · refine ⟨false, ?_, fun k hk => ?_⟩
      · rw [List.drop_eq_getElem_cons hlt, List.sum_cons]
        simp only [Bool.false_eq_true, false_iff]
        intro h2
        have h3 := h2.2.1 _ List.mem_cons_self
        have h4 := sum_nonneg (xs.drop (j + 1)) (fun x hx => h2.2.1 _ (List.mem_cons_of_mem _ hx))
        omega
      · obtain ⟨k, rfl⟩ : ∃ m, k = m + 1 := ⟨k - 1, by omega⟩
        simp only [impl_AreStates.l1, impl_within.f]
        rw [if_pos (by omega), if_pos (by omega), if_pos (by omega), rd_get hlt, in_false h]
        simp

theorem areStates_l0 (o : Int) (o0 : 1 ≤ o) (o1 : o ≤ 10) (rows : List (List Int)) (hn : rows.length ≤ 5) (hl : ∀ r ∈ rows, r.length ≤ 1048576) : ∀ (m j : Nat), j + m = rows.length →
    ∃ t : Bool, (t = true ↔ ∀ row ∈ rows.drop j, GoodRow rows.length o row) ∧ ∃ K, ∀ k, K ≤ k → impl_AreStates.l0 k (rows.length : Int) rows (rows.length : Int) j o rows = some t := by
  intro m
  induction m with
  | zero =>
    intro j hj
    refine ⟨true, ?_, 1, fun k hk => ?_⟩
    · rw [List.drop_of_length_le (by omega)]; simp
    · obtain ⟨k, rfl⟩ : ∃ m, k = m + 1 := ⟨k - 1, by omega⟩
      simp only [impl_AreStates.l0]
      rw [if_neg (by omega)]
  | succ m ih =>
    intro j hj
    have hlt : j < rows.length := by omega
    have hll := hl _ (List.getElem_mem hlt)
    obtain ⟨t1, ht1, E1⟩ := areStates_l1 o rows j rows[j] hll rows[j].length 0 o (by omega) (by omega) o1
    rw [List.drop_zero] at ht1
    cases t1 with
    | false =>
      refine ⟨false, ?_, 1048590, fun k hk => ?_⟩
      · rw [List.drop_eq_getElem_cons hlt]
        simp only [Bool.false_eq_true, false_iff]
        exact fun h2 => by
          have := ht1.2 (h2 _ List.mem_cons_self)
          simp at this
      · obtain ⟨k, rfl⟩ : ∃ m, k = m + 1 := ⟨k - 1, by omega⟩
        rw [impl_AreStates.l0]
        rw [if_pos (by omega), if_pos (by omega), if_pos (by omega), rd1_get hlt]
        have := E1 k (by omega)
        simp only [Bool.false_eq_true, ↓reduceIte] at this
        exact this
    | true =>
      obtain ⟨t, ht, K, E⟩ := ih (j + 1) (by omega)
      refine ⟨t, ?_, K + 1048590, fun k hk => ?_⟩
      · rw [List.drop_eq_getElem_cons hlt, ht]
        simp only [List.mem_cons, forall_eq_or_imp]
        exact ⟨fun h2 => ⟨ht1.1 rfl, h2⟩, fun h2 => h2.2⟩
      · obtain ⟨k, rfl⟩ : ∃ m, k = m + 1 := ⟨k - 1, by omega⟩
        rw [impl_AreStates.l0]
        rw [if_pos (by omega), if_pos (by omega), if_pos (by omega), rd1_get hlt]
        have := E1 k (by omega)
        simp only [↓reduceIte] at this
        rw [w64 (x := (j : Int) + 1) (by omega) (by omega)] at this
        exact this.trans (E _ (by omega))

theorem areStates_ev (o : Int) (rows : List (List Int)) (hn : rows.length ≤ 1048576) (hl : ∀ r ∈ rows, r.length ≤ 1048576) :
    ∃ t : Bool, (t = true ↔ Good o rows) ∧ ∃ K, ∀ k, K ≤ k → impl_AreStates.f k o rows = some t := by
  by_cases c1 : 1 ≤ o ∧ o ≤ 10
  · by_cases c2 : 1 ≤ (rows.length : Int) ∧ (rows.length : Int) ≤ 5
    · obtain ⟨t, ht, K, E⟩ := areStates_l0 o c1.1 c1.2 rows (by omega) hl rows.length 0 (by omega)
      rw [List.drop_zero] at ht
      refine ⟨t, ht.trans ⟨fun h => ⟨c1.1, c1.2, by omega, by omega, h⟩, fun h => h.2.2.2.2⟩, K + 1, fun k hk => ?_⟩
      obtain ⟨k, rfl⟩ : ∃ m, k = m + 1 := ⟨k - 1, by omega⟩
      simp only [impl_AreStates.f, impl_AreStates.j0, impl_within.f, in_true c1, in_true c2, Option.bind_some, ↓reduceIte, Bool.not_true, Bool.false_eq_true]
      exact E k (by omega)
    · refine ⟨false, ⟨fun h => by simp at h, fun h => absurd ⟨by have := h.2.2.1; omega, by have := h.2.2.2.1; omega⟩ c2⟩, 1, fun k hk => ?_⟩
      obtain ⟨k, rfl⟩ : ∃ m, k = m + 1 := ⟨k - 1, by omega⟩
      simp only [impl_AreStates.f, impl_AreStates.j0, impl_within.f, in_true c1, in_false c2, Option.bind_some, ↓reduceIte, Bool.not_false]
  · refine ⟨false, ⟨fun h => by simp at h, fun h => absurd ⟨h.1, h.2.1⟩ c1⟩, 1, fun k hk => ?_⟩
    obtain ⟨k, rfl⟩ : ∃ m, k = m + 1 := ⟨k - 1, by omega⟩
    simp only [impl_AreStates.f, impl_AreStates.j0, impl_within.f, in_false c1, Option.bind_some, ↓reduceIte, Bool.false_eq_true]

/-- The numbers below n that are such, as Go's ints. -/
noncomputable def such (j m : Nat) (p : Nat → Prop) : List Int := ((List.range' j m).filter (fun i => @decide (p i) (Classical.propDecidable _))).map (fun v : Nat => (v : Int))

theorem such_zero (j : Nat) (p : Nat → Prop) : such j 0 p = [] := by simp [such]
theorem such_pos {j m : Nat} {p : Nat → Prop} (h : p j) : such j (m + 1) p = (j : Int) :: such (j + 1) m p := by
  unfold such
  rw [List.range'_succ, List.filter_cons_of_pos (by simpa using h), List.map_cons]
theorem such_neg {j m : Nat} {p : Nat → Prop} (h : ¬ p j) : such j (m + 1) p = such (j + 1) m p := by
  unfold such
  rw [List.range'_succ, List.filter_cons_of_neg (by simpa using h)]
theorem such_len (j m : Nat) (p : Nat → Prop) : (such j m p).length ≤ m := by
  unfold such
  rw [List.length_map]
  exact Nat.le_trans (List.length_filter_le _ _) (by simp)
theorem such_congr {j m : Nat} {p q : Nat → Prop} (h : ∀ i, j ≤ i → i < j + m → (p i ↔ q i)) : such j m p = such j m q := by
  unfold such
  congr 1
  apply List.filter_congr
  intro i hi
  rw [List.mem_range'_1] at hi
  simp [h i hi.1 hi.2]
theorem such_mem {j m : Nat} {p : Nat → Prop} {x : Int} : x ∈ such j m p ↔ ∃ i : Nat, x = i ∧ j ≤ i ∧ i < j + m ∧ p i := by
  unfold such
  simp only [List.mem_map, List.mem_filter, List.mem_range'_1, decide_eq_true_eq]
  constructor
  · rintro ⟨a, ⟨⟨h1, h2⟩, h3⟩, rfl⟩
    exact ⟨a, rfl, h1, h2, h3⟩
  · rintro ⟨a, rfl, h1, h2, h3⟩
    exact ⟨a, ⟨⟨h1, h2⟩, h3⟩, rfl⟩
theorem such_all {j m : Nat} {p : Nat → Prop} : (such j m p).length = m ↔ ∀ i, j ≤ i → i < j + m → p i := by
  unfold such
  rw [List.length_map]
  constructor
  · intro h i h1 h2
    have h3 := List.length_filter_eq_length_iff.1 (h.trans (by simp : m = (List.range' j m).length))
    have := h3 i (by rw [List.mem_range'_1]; exact ⟨h1, h2⟩)
    simpa using this
  · intro h
    rw [List.filter_eq_self.2 (fun i hi => by rw [List.mem_range'_1] at hi; simpa using h i hi.1 hi.2)]
    simp
/-- The first of such numbers. -/
theorem such_first {j m : Nat} {p : Nat → Prop} (h : ∃ i, j ≤ i ∧ i < j + m ∧ p i) : ∃ (f : Nat) (t : List Int), such j m p = (f : Int) :: t ∧ j ≤ f ∧ f < j + m ∧ p f ∧ ∀ i, j ≤ i → i < f → ¬ p i := by
  induction m generalizing j with
  | zero => obtain ⟨i, h1, h2, _⟩ := h; omega
  | succ m ih =>
    by_cases c : p j
    · exact ⟨j, _, such_pos c, Nat.le_refl _, by omega, c, fun i h1 h2 => by omega⟩
    · obtain ⟨i, h1, h2, h3⟩ := h
      have hij : j + 1 ≤ i := by
        by_cases e : i = j
        · exact absurd (e ▸ h3) c
        · omega
      obtain ⟨f, t, e, h4, h5, h6, h7⟩ := ih (j := j + 1) ⟨i, hij, by omega, h3⟩
      refine ⟨f, t, (such_neg c).trans e, by omega, by omega, h6, fun i h8 h9 => ?_⟩
      by_cases e : i = j
      · exact e ▸ c
      · exact h7 i (by omega) h9


/-- An end. -/
def IsEnd (o : Int) (rows : List (List Int)) (i : Nat) : Prop := (rows.getD i []).getD i 0 = o
theorem rd_diag {rows : List (List Int)} {i : Nat} (h : i < rows.length) (h2 : i < rows[i].length) : rd (rd_L1 rows (i : Int)) (i : Int) = (rows.getD i []).getD i 0 := by
  rw [rd1_get h, rd_get h2]
  simp [List.getD_eq_getElem?_getD, h, h2]
theorem endStates_spec (o : Int) (rows : List (List Int)) (hn : rows.length ≤ 5) (hsq : ∀ r ∈ rows, r.length = rows.length) : ∀ (m j : Nat) (acc : List Int), j + m = rows.length → acc.length ≤ j → ∀ k, m < k →
    spec_EndStates.l0 k acc (rows.length : Int) j o rows = some (acc ++ such j m (IsEnd o rows), true) := by
  intro m
  induction m with
  | zero =>
    intro j acc hj ha k hk
    obtain ⟨k, rfl⟩ : ∃ m, k = m + 1 := ⟨k - 1, by omega⟩
    simp only [spec_EndStates.l0]
    rw [if_neg (by omega), such_zero, List.append_nil]
  | succ m ih =>
    intro j acc hj ha k hk
    obtain ⟨k, rfl⟩ : ∃ m, k = m + 1 := ⟨k - 1, by omega⟩
    have hlt : j < rows.length := by omega
    have hr := hsq _ (List.getElem_mem hlt)
    have h1 := fun acc' h => ih (j + 1) acc' (by omega) h k (by omega)
    simp only [spec_EndStates.l0, spec_saEnd.f]
    rw [if_pos (by omega), if_pos (by omega), if_pos (by omega), rd_diag hlt (by omega), rd1_get hlt, if_pos (by omega), w64 (x := (j : Int) + 1) (by omega) (by omega)]
    simp only [Option.bind_some]
    by_cases c1 : IsEnd o rows j
    · rw [if_pos (by rw [beq_iff_eq]; exact c1), if_pos (by omega), such_pos c1]
      have := h1 (acc ++ [(j : Int)]) (by simp; omega)
      rw [List.append_assoc, List.singleton_append] at this
      exact this
    · rw [if_neg (by rw [beq_iff_eq]; exact c1), such_neg c1]
      exact h1 acc (by omega)
theorem endStates_impl (o : Int) (rows : List (List Int)) (hn : rows.length ≤ 5) (hsq : ∀ r ∈ rows, r.length = rows.length) : ∀ (m j : Nat) (acc : List Int), j + m = rows.length → acc.length ≤ j → ∀ k, m < k →
    impl_EndStates.l0 k acc rows (rows.length : Int) j o rows = some (acc ++ such j m (IsEnd o rows), true) := by
  intro m
  induction m with
  | zero =>
    intro j acc hj ha k hk
    obtain ⟨k, rfl⟩ : ∃ m, k = m + 1 := ⟨k - 1, by omega⟩
    simp only [impl_EndStates.l0]
    rw [if_neg (by omega), such_zero, List.append_nil]
  | succ m ih =>
    intro j acc hj ha k hk
    obtain ⟨k, rfl⟩ : ∃ m, k = m + 1 := ⟨k - 1, by omega⟩
    have hlt : j < rows.length := by omega
    have hr := hsq _ (List.getElem_mem hlt)
    have h1 := fun acc' h => ih (j + 1) acc' (by omega) h k (by omega)
    simp only [impl_EndStates.l0]
    rw [if_pos (by omega), if_pos (by omega), if_pos (by omega), rd_diag hlt (by omega), rd1_get hlt, if_pos (by omega), w64 (x := (j : Int) + 1) (by omega) (by omega)]
    by_cases c1 : IsEnd o rows j
    · rw [if_pos (show (rows.getD j []).getD j 0 = o from c1), if_pos (by omega), such_pos c1]
      have := h1 (acc ++ [(j : Int)]) (by simp; omega)
      rw [List.append_assoc, List.singleton_append] at this
      exact this
    · rw [if_neg (show ¬ (rows.getD j []).getD j 0 = o from c1), such_neg c1]
      exact h1 acc (by omega)

theorem endStates_same (o : Int) (rows : List (List Int)) (h1 : rows.length ≤ 1048576) (h2 : ∀ r ∈ rows, r.length ≤ 1048576) :
    ∃ (t : List Int) (u : Bool), t.length ≤ 1048576 ∧ ∃ K, ∀ k, K ≤ k → spec_EndStates.f k o rows = some (t, u) ∧ impl_EndStates.f k o rows = some (t, u) := by
  obtain ⟨t1, ht1, K2, E2⟩ := saGood_ev o rows h1 h2
  obtain ⟨t2, ht2, K3, E3⟩ := areStates_ev o rows h1 h2
  have ht : t1 = t2 := by rw [Bool.eq_iff_iff, ht1, ht2]
  subst ht
  cases t1 with
  | false =>
    refine ⟨[], false, by simp, K2 + K3, fun k hk => ⟨?_, ?_⟩⟩
    · simp [spec_EndStates.f, E2 k (by omega)]
    · simp [impl_EndStates.f, E3 k (by omega)]
  | true =>
    obtain ⟨g1, g2, g3, g4, g5⟩ := ht1.1 rfl
    have hsq : ∀ r ∈ rows, r.length = rows.length := fun r hr => (g5 r hr).1
    refine ⟨such 0 rows.length (IsEnd o rows), true, Nat.le_trans (such_len _ _ _) (by omega), K2 + K3 + 20, fun k hk => ⟨?_, ?_⟩⟩
    · simp only [spec_EndStates.f, E2 k (by omega), Option.bind_some, ↓reduceIte]
      have := endStates_spec o rows g4 hsq rows.length 0 [] (by omega) (by simp) k (by omega)
      rw [List.nil_append] at this
      exact this
    · simp only [impl_EndStates.f, E3 k (by omega), Option.bind_some, ↓reduceIte]
      have := endStates_impl o rows g4 hsq rows.length 0 [] (by omega) (by simp) k (by omega)
      rw [List.nil_append] at this
      exact this

theorem FnExactEndStates (o : Int) (rows : List (List Int)) (wo : (Lit.int .i64 o).wf = true) (wr : ∀ r ∈ rows, ∀ x ∈ r, (Lit.int .i64 x).wf = true) (hl : rows.length ≤ maxLen) (hr : ∀ r ∈ rows, r.length ≤ maxLen) : ∃ k, laws_FnExactEndStates.f k o rows = some true := by
  obtain ⟨r, ⟨K1, E1⟩, h⟩ := szStates_ev o rows (by unfold maxLen at hl; omega) (fun r h => by have := hr r h; unfold maxLen at this; omega)
  by_cases h0 : r < 0
  · refine ⟨K1, ?_⟩
    simp only [laws_FnExactEndStates.f, E1 K1 (by omega), Option.bind_some]
    rw [if_pos h0]
  · obtain ⟨h1, h2⟩ := h (by omega)
    obtain ⟨t, u, ht, K6, q⟩ := endStates_same o rows h1 h2
    obtain ⟨k, hk1, hk2, hk3⟩ : ∃ k, K1 ≤ k ∧ K6 ≤ k ∧ 5000000 ≤ k := ⟨K1 + K6 + 5000000, by omega, by omega, by omega⟩
    have hp := markEnd_pos rows h2
    have hb : ¬ (1 : Int) + (t : List Int).length < 0 := by omega
    refine ⟨k + 3, ?_⟩
    simp only [laws_FnExactEndStates.f, E1 (k + 3) (by omega), toStates_is o rows h1 h2 (k + 3) (by omega), (q (k + 3) (by omega)).1, (q (k + 3) (by omega)).2, eqIntS_is t ht (k + 3) (by omega), Option.bind_some]
    rw [if_neg h0]
    simp only [↓reduceIte, bne_self_eq_false, laws_FnExactEndStates.j0, Bool.false_eq_true, toStates_is o rows h1 h2 (k + 2) (by omega), eqStates_is o rows h1 h2 (k + 2) (by omega), markStates_is o rows h1 h2 (k + 2) (by omega), eqIntS_is t ht (k + 2) (by omega), Option.bind_some, if_neg hp]
    simp only [↓reduceIte, laws_FnExactEndStates.j1, Bool.false_eq_true, bne_self_eq_false, markIntS_is t 1 (by omega) (by omega) ht (k + 1) (by omega), heldIntS_is t.length 1 (by omega) (by omega) ht (k + 1) (by omega), toStates_is o rows h1 h2 (k + 1) (by omega), (q (k + 1) (by omega)).2, eqIntS_is t ht (k + 1) (by omega), Option.bind_some, if_neg hb]
    simp only [↓reduceIte, laws_FnExactEndStates.j2, Bool.false_eq_true, bne_self_eq_false, heldIntS_is t.length 1 (by omega) (by omega) ht k (by omega), Option.bind_some, if_neg hb]

end Go.Proofs.Ytliiljjeebnfeaa.Pure
