/- For all arguments the program and the reference return the same from FirstWay: the plain statement over numbers and lists, and its proof. -/
import Derived.Test.YtlpegpmcnimfbaaPFnExactFirstWayx1
import Derived.Test.YtlpegpmcnimfbaaPFnExactFirstWayx2
import Derived.Test.YtlpegpmcnimfbaaPFnExactFirstWayx3
import Derived.Test.YtlpegpmcnimfbaaPFnExactFirstWayx4
import Derived.Test.YtlpegpmcnimfbaaPFnExactFirstWayx5
import Derived.Test.YtlpegpmcnimfbaaPFnExactFirstWayx6
import Derived.Test.YtlpegpmcnimfbaaPFnExactFirstWayx7
namespace Go.Proofs.Ytlpegpmcnimfbaa.Pure
open Go.RowKit Go.Proofs.Ytlpegpmcnimfbaa.PFnExactFirstWay Go.Proofs.YtlpegpmcnimfbaaW.PrintWords Go.Proofs.YtlpegpmcnimfbaaW.PrintLast Go.Proofs.YtlpegpmcnimfbaaW.PrintMore
set_option linter.unusedVariables false
set_option linter.unusedSimpArgs false
set_option maxRecDepth 100000
theorem w64 {x : Int} (h0 : -9223372036854775808 ≤ x) (h1 : x ≤ 9223372036854775807) : wrap64 x = x := by
  unfold wrap64
  omega

theorem mul_fits {x y A B : Int} (hx : x.natAbs ≤ A.natAbs) (hy : y.natAbs ≤ B.natAbs) : (x * y).natAbs ≤ (A * B).natAbs := by
  rw [Int.natAbs_mul, Int.natAbs_mul]
  exact Nat.mul_le_mul hx hy

/-- A product of numbers of at most nine digits. -/
theorem mul9 {x y : Int} (hx : x.natAbs ≤ 1000000000) (hy : y.natAbs ≤ 1000000000) : (x * y).natAbs ≤ 1000000000000000000 := by
  rw [Int.natAbs_mul]
  exact Nat.le_trans (Nat.mul_le_mul hx hy) (by decide)

theorem wf_range {a : Int} (h : (Lit.int .i64 a).wf = true) : -9223372036854775808 ≤ a ∧ a ≤ 9223372036854775807 := by
  simp [Lit.wf, IntKind.min, IntKind.max, IntKind.signed, IntKind.bits] at h
  omega

theorem rd_get {xs : List Int} {j : Nat} (h : j < xs.length) : rd xs (j : Int) = xs[j] := by
  unfold rd
  rw [Int.toNat_natCast, List.getD_eq_getElem?_getD, List.getElem?_eq_getElem h]
  rfl

theorem rd1_get {xs : List (List Int)} {j : Nat} (h : j < xs.length) : rd_L1 xs (j : Int) = xs[j] := by
  unfold rd_L1
  rw [Int.toNat_natCast, List.getD_eq_getElem?_getD, List.getElem?_eq_getElem h]
  rfl

theorem szSS_l0 (rows : List (List Int)) (hl : rows.length ≤ 9223372036854775807) (hr : ∀ r ∈ rows, r.length ≤ 9223372036854775807) : ∀ (m j : Nat) (left : Int), j + m = rows.length → 0 ≤ left → left ≤ 1048576 →
    ∃ r, (∃ K, ∀ k, K ≤ k → laws_szIntSS.l0 k rows left j = some r) ∧ (0 ≤ r → ∀ i (h : i < rows.length), j ≤ i → (rows[i].length : Int) ≤ left) := by
  intro m
  induction m with
  | zero =>
    intro j left hj h0 h1
    refine ⟨left, ⟨1, fun k hk => ?_⟩, fun _ i h hi => by omega⟩
    obtain ⟨k, rfl⟩ : ∃ m, k = m + 1 := ⟨k - 1, by omega⟩
    simp only [laws_szIntSS.l0]
    rw [if_neg (by omega)]
  | succ m ih =>
    intro j left hj h0 h1
    have hlt : j < rows.length := by omega
    have hrr := hr _ (List.getElem_mem hlt)
    by_cases hc : left - (rows[j].length : Int) < 0
    · refine ⟨-1, ⟨1, fun k hk => ?_⟩, fun h => by omega⟩
      obtain ⟨k, rfl⟩ : ∃ m, k = m + 1 := ⟨k - 1, by omega⟩
      simp only [laws_szIntSS.l0, laws_szIntS.f]
      rw [if_pos (by omega), if_pos (by omega), rd1_get hlt, w64 (x := left - (rows[j].length : Int)) (by omega) (by omega), if_pos hc]
      rfl
    · obtain ⟨r, ⟨K, E⟩, h⟩ := ih (j + 1) (left - (rows[j].length : Int)) (by omega) (by omega) (by omega)
      refine ⟨r, ⟨K + 1, fun k hk => ?_⟩, fun h2 i hi hji => ?_⟩
      · obtain ⟨k, rfl⟩ : ∃ m, k = m + 1 := ⟨k - 1, by omega⟩
        simp only [laws_szIntSS.l0, laws_szIntS.f]
        rw [if_pos (by omega), if_pos (by omega), rd1_get hlt, w64 (x := left - (rows[j].length : Int)) (by omega) (by omega), if_neg hc]
        simp only [Option.bind_some]
        rw [if_neg hc, w64 (x := (j : Int) + 1) (by omega) (by omega)]
        exact E k (by omega)
      · by_cases hij : i = j
        · subst hij; omega
        · have := h h2 i hi (by omega)
          omega

theorem szStates_ev (o : Int) (rows : List (List Int)) (hl : rows.length ≤ 9223372036854775807) (hr : ∀ r ∈ rows, r.length ≤ 9223372036854775807) :
    ∃ r, (∃ K, ∀ k, K ≤ k → laws_szStates.f k o rows 1048576 = some r) ∧ (0 ≤ r → rows.length ≤ 1048576 ∧ ∀ x ∈ rows, x.length ≤ 1048576) := by
  by_cases hc : 1048576 - (rows.length : Int) < 0
  · refine ⟨-1, ⟨0, fun k _ => ?_⟩, fun h => by omega⟩
    simp only [laws_szStates.f, laws_szIntSS.f]
    rw [w64 (x := 1048576 - (rows.length : Int)) (by omega) (by omega), if_pos hc]
    rfl
  · obtain ⟨r, ⟨K, E⟩, h⟩ := szSS_l0 rows hl hr rows.length 0 (1048576 - (rows.length : Int)) (by omega) (by omega) (by omega)
    by_cases hr0 : r < 0
    · refine ⟨-1, ⟨K, fun k hk => ?_⟩, fun h => by omega⟩
      simp only [laws_szStates.f, laws_szIntSS.f]
      rw [w64 (x := 1048576 - (rows.length : Int)) (by omega) (by omega), if_neg hc, show laws_szIntSS.l0 k rows (1048576 - (rows.length : Int)) 0 = some r from E k hk]
      simp only [Option.bind_some]
      rw [if_pos hr0]
    · refine ⟨r, ⟨K, fun k hk => ?_⟩, fun h0 => ⟨by omega, fun x hx => ?_⟩⟩
      · simp only [laws_szStates.f, laws_szIntSS.f]
        rw [w64 (x := 1048576 - (rows.length : Int)) (by omega) (by omega), if_neg hc, show laws_szIntSS.l0 k rows (1048576 - (rows.length : Int)) 0 = some r from E k hk]
        simp only [Option.bind_some]
        rw [if_neg hr0]
      · obtain ⟨i, hi, rfl⟩ := List.getElem_of_mem hx
        have := h h0 i hi (by omega)
        omega

theorem toIntS_l0 (xs : List Int) (hx : xs.length ≤ 1048576) : ∀ (m j k : Nat) (ys : List Int), m < k → j + m = xs.length → ys.length = xs.length → ys.take j = xs.take j →
    laws_toIntS.l0 k xs ys j = some xs := by
  intro m
  induction m with
  | zero =>
    intro j k ys hk hj hy ht
    obtain ⟨k, rfl⟩ : ∃ m, k = m + 1 := ⟨k - 1, by omega⟩
    simp only [laws_toIntS.l0]
    rw [if_neg (by omega)]
    rw [List.take_of_length_le (by omega), List.take_of_length_le (by omega)] at ht
    rw [ht]
  | succ m ih =>
    intro j k ys hk hj hy ht
    obtain ⟨k, rfl⟩ : ∃ m, k = m + 1 := ⟨k - 1, by omega⟩
    have hlt : j < xs.length := by omega
    simp only [laws_toIntS.l0]
    rw [if_pos (by omega), if_pos (by omega), if_pos (by omega), rd_get hlt, w64 (x := (j : Int) + 1) (by omega) (by omega), show (j : Int) + 1 = ((j + 1 : Nat) : Int) from by omega, Int.toNat_natCast]
    refine ih (j + 1) k _ (by omega) (by omega) (by rw [List.length_set]; exact hy) ?_
    rw [List.take_add_one, List.take_add_one, List.take_set_of_le (by omega), ht, List.getElem?_set_self (by omega), List.getElem?_eq_getElem hlt]

theorem toIntS_is (xs : List Int) (hx : xs.length ≤ 1048576) (k : Nat) (hk : xs.length < k) : laws_toIntS.f k xs = some xs := by
  unfold laws_toIntS.f
  rw [if_pos (by omega), if_pos (by omega)]
  exact toIntS_l0 xs hx xs.length 0 k _ hk (by omega) (by simp) rfl

theorem toIntSS_l0 (xs : List (List Int)) (hx : xs.length ≤ 1048576) (hr : ∀ r ∈ xs, r.length ≤ 1048576) : ∀ (m j k : Nat) (ys : List (List Int)), m + 1048578 < k → j + m = xs.length → ys.length = xs.length → ys.take j = xs.take j →
    laws_toIntSS.l0 k xs ys j = some xs := by
  intro m
  induction m with
  | zero =>
    intro j k ys hk hj hy ht
    obtain ⟨k, rfl⟩ : ∃ m, k = m + 1 := ⟨k - 1, by omega⟩
    simp only [laws_toIntSS.l0]
    rw [if_neg (by omega)]
    rw [List.take_of_length_le (by omega), List.take_of_length_le (by omega)] at ht
    rw [ht]
  | succ m ih =>
    intro j k ys hk hj hy ht
    obtain ⟨k, rfl⟩ : ∃ m, k = m + 1 := ⟨k - 1, by omega⟩
    have hlt : j < xs.length := by omega
    have hrr := hr _ (List.getElem_mem hlt)
    simp only [laws_toIntSS.l0]
    rw [if_pos (by omega), if_pos (by omega), rd1_get hlt, toIntS_is _ hrr k (by omega)]
    simp only [Option.bind_some]
    rw [if_pos (by omega), w64 (x := (j : Int) + 1) (by omega) (by omega), show (j : Int) + 1 = ((j + 1 : Nat) : Int) from by omega, Int.toNat_natCast]
    refine ih (j + 1) k _ (by omega) (by omega) (by rw [List.length_set]; exact hy) ?_
    rw [List.take_add_one, List.take_add_one, List.take_set_of_le (by omega), ht, List.getElem?_set_self (by omega), List.getElem?_eq_getElem hlt]

theorem toStates_is (o : Int) (xs : List (List Int)) (hx : xs.length ≤ 1048576) (hr : ∀ r ∈ xs, r.length ≤ 1048576) (k : Nat) (hk : 3000000 ≤ k) : laws_toStates.f k o xs = some (o, xs) := by
  unfold laws_toStates.f laws_toIntSS.f
  rw [if_pos (by omega), if_pos (by omega)]
  rw [show laws_toIntSS.l0 k xs (List.replicate ((xs.length : Int) : Int).toNat []) 0 = some xs from toIntSS_l0 xs hx hr xs.length 0 k _ (by omega) (by omega) (by simp) rfl]
  rfl

theorem eqIntS_l0 (xs : List Int) (hx : xs.length ≤ 1048576) : ∀ (m j k : Nat), m < k → j + m = xs.length → laws_eqIntS.l0 k xs xs j = some true := by
  intro m
  induction m with
  | zero =>
    intro j k hk hj
    obtain ⟨k, rfl⟩ : ∃ m, k = m + 1 := ⟨k - 1, by omega⟩
    simp only [laws_eqIntS.l0]
    rw [if_neg (by omega)]
  | succ m ih =>
    intro j k hk hj
    obtain ⟨k, rfl⟩ : ∃ m, k = m + 1 := ⟨k - 1, by omega⟩
    simp only [laws_eqIntS.l0, ↓reduceIte]
    rw [if_pos (by omega), if_pos (by omega), if_pos (by omega), w64 (x := (j : Int) + 1) (by omega) (by omega), show (j : Int) + 1 = ((j + 1 : Nat) : Int) from by omega]
    exact ih (j + 1) k (by omega) (by omega)

theorem eqIntS_is (xs : List Int) (hx : xs.length ≤ 1048576) (k : Nat) (hk : xs.length < k) : laws_eqIntS.f k xs xs = some true := by
  simp only [laws_eqIntS.f, ↓reduceIte]
  exact eqIntS_l0 xs hx xs.length 0 k hk (by omega)

theorem eqIntSS_l0 (xs : List (List Int)) (hx : xs.length ≤ 1048576) (hr : ∀ r ∈ xs, r.length ≤ 1048576) : ∀ (m j k : Nat), m + 1048578 < k → j + m = xs.length → laws_eqIntSS.l0 k xs xs j = some true := by
  intro m
  induction m with
  | zero =>
    intro j k hk hj
    obtain ⟨k, rfl⟩ : ∃ m, k = m + 1 := ⟨k - 1, by omega⟩
    simp only [laws_eqIntSS.l0]
    rw [if_neg (by omega)]
  | succ m ih =>
    intro j k hk hj
    obtain ⟨k, rfl⟩ : ∃ m, k = m + 1 := ⟨k - 1, by omega⟩
    have hlt : j < xs.length := by omega
    have hrr := hr _ (List.getElem_mem hlt)
    simp only [laws_eqIntSS.l0]
    rw [if_pos (by omega), if_pos (by omega), if_pos (by omega), rd1_get hlt, eqIntS_is _ hrr k (by omega)]
    simp only [Option.bind_some, ↓reduceIte]
    rw [w64 (x := (j : Int) + 1) (by omega) (by omega), show (j : Int) + 1 = ((j + 1 : Nat) : Int) from by omega]
    exact ih (j + 1) k (by omega) (by omega)

theorem eqIntSS_is (xs : List (List Int)) (hx : xs.length ≤ 1048576) (hr : ∀ r ∈ xs, r.length ≤ 1048576) (k : Nat) (hk : 3000000 ≤ k) : laws_eqIntSS.f k xs xs = some true := by
  simp only [laws_eqIntSS.f, ↓reduceIte]
  exact eqIntSS_l0 xs hx hr xs.length 0 k (by omega) (by omega)

theorem eqStates_is (o : Int) (xs : List (List Int)) (hx : xs.length ≤ 1048576) (hr : ∀ r ∈ xs, r.length ≤ 1048576) (k : Nat) (hk : 3000000 ≤ k) : laws_eqStates.f k o xs o xs = some true := by
  simp only [laws_eqStates.f, ↓reduceIte, eqIntSS_is xs hx hr k hk, Option.bind_some]

/-- The numbers from m on. -/
def upFrom (m : Int) : Nat → List Int
  | 0 => []
  | n + 1 => m :: upFrom (m + 1) n
theorem upFrom_len (m : Int) : ∀ n, (upFrom m n).length = n
  | 0 => rfl
  | n + 1 => by rw [upFrom, List.length_cons, upFrom_len]
theorem upFrom_get : ∀ (n : Nat) (m : Int) (j : Nat) (h : j < (upFrom m n).length), (upFrom m n)[j] = m + j
  | 0, _, _, h => by simp [upFrom] at h
  | n + 1, m, 0, _ => by simp [upFrom]
  | n + 1, m, j + 1, h => by
    simp only [upFrom, List.getElem_cons_succ]
    rw [upFrom_get n (m + 1) j]
    omega

theorem markIntS_l0 (xs : List Int) (m : Int) (h0 : 0 ≤ m) (h1 : m ≤ 10000000000000) (hx : xs.length ≤ 1048576) : ∀ (d j : Nat) (ys : List Int), j + d = xs.length → ys.length = xs.length → ys.take j = (upFrom m xs.length).take j → ∀ k, d < k →
    laws_markIntS.l0 k ys (m + j) j = some (m + xs.length, upFrom m xs.length) := by
  intro d
  induction d with
  | zero =>
    intro j ys hj hy ht k hk
    obtain ⟨k, rfl⟩ : ∃ m, k = m + 1 := ⟨k - 1, by omega⟩
    have hu := upFrom_len m xs.length
    simp only [laws_markIntS.l0]
    rw [if_neg (by omega)]
    rw [List.take_of_length_le (by omega), List.take_of_length_le (by omega)] at ht
    rw [ht, show j = xs.length from by omega]
  | succ d ih =>
    intro j ys hj hy ht k hk
    obtain ⟨k, rfl⟩ : ∃ m, k = m + 1 := ⟨k - 1, by omega⟩
    have hu := upFrom_len m xs.length
    have hlu : j < (upFrom m xs.length).length := by omega
    simp only [laws_markIntS.l0]
    rw [if_pos (by omega), if_pos (by omega), Int.toNat_natCast, w64 (x := m + j + 1) (by omega) (by omega), w64 (x := (j : Int) + 1) (by omega) (by omega)]
    have := ih (j + 1) (ys.set j (m + j)) (by omega) (by rw [List.length_set]; exact hy) (by
      rw [List.take_add_one, List.take_add_one, List.take_set_of_le (by omega), ht, List.getElem?_set_self (by omega), List.getElem?_eq_getElem hlu, upFrom_get]) k (by omega)
    rw [show m + j + 1 = m + ((j + 1 : Nat) : Int) from by omega]
    exact this

theorem markIntS_is (xs : List Int) (m : Int) (h0 : 0 ≤ m) (h1 : m ≤ 10000000000000) (hx : xs.length ≤ 1048576) (k : Nat) (hk : 1048580 ≤ k) : laws_markIntS.f k xs m = some (m + xs.length, upFrom m xs.length) := by
  have := markIntS_l0 xs m h0 h1 hx xs.length 0 xs (by omega) rfl (by simp) k (by omega)
  rw [show m + ((0 : Nat) : Int) = m from by omega] at this
  exact this

theorem heldIntS_l0 (n : Nat) (m : Int) (h0 : 0 ≤ m) (h1 : m ≤ 10000000000000) (hx : n ≤ 1048576) : ∀ (d j : Nat), j + d = n → ∀ k, d < k →
    laws_heldIntS.l0 k (upFrom m n) (m + j) j = some (m + n) := by
  have hu := upFrom_len m n
  intro d
  induction d with
  | zero =>
    intro j hj k hk
    obtain ⟨k, rfl⟩ : ∃ m, k = m + 1 := ⟨k - 1, by omega⟩
    simp only [laws_heldIntS.l0]
    rw [if_neg (by omega), show j = n from by omega]
  | succ d ih =>
    intro j hj k hk
    obtain ⟨k, rfl⟩ : ∃ m, k = m + 1 := ⟨k - 1, by omega⟩
    have hlu : j < (upFrom m n).length := by omega
    simp only [laws_heldIntS.l0]
    rw [if_pos (by omega), if_pos (by omega), rd_get hlu, upFrom_get, if_pos rfl, w64 (x := m + j + 1) (by omega) (by omega), w64 (x := (j : Int) + 1) (by omega) (by omega)]
    have := ih (j + 1) (by omega) k (by omega)
    rw [show m + j + 1 = m + ((j + 1 : Nat) : Int) from by omega]
    exact this

theorem heldIntS_is (n : Nat) (m : Int) (h0 : 0 ≤ m) (h1 : m ≤ 10000000000000) (hx : n ≤ 1048576) (k : Nat) (hk : 1048580 ≤ k) : laws_heldIntS.f k (upFrom m n) m = some (m + n) := by
  have := heldIntS_l0 n m h0 h1 hx n 0 (by omega) k (by omega)
  rw [show m + ((0 : Nat) : Int) = m from by omega] at this
  exact this

/-- The rows, marked from m on. -/
def markRows : Int → List (List Int) → List (List Int)
  | _, [] => []
  | m, r :: rs => upFrom m r.length :: markRows (m + r.length) rs
def markEnd : Int → List (List Int) → Int
  | m, [] => m
  | m, r :: rs => markEnd (m + r.length) rs

theorem markEnd_le : ∀ (rs : List (List Int)) (m : Int), (∀ r ∈ rs, r.length ≤ 1048576) → m ≤ markEnd m rs ∧ markEnd m rs ≤ m + 1048576 * rs.length
  | [], m, _ => by simp [markEnd]
  | r :: rs, m, h => by
    have h1 := h r (by simp)
    have h2 := markEnd_le rs (m + r.length) (fun x hx => h x (by simp [hx]))
    simp only [markEnd, List.length_cons]
    omega

theorem markIntSS_l0 (rows : List (List Int)) (hl : rows.length ≤ 1048576) (hr : ∀ r ∈ rows, r.length ≤ 1048576) : ∀ (d j : Nat) (pre : List (List Int)) (m : Int), j + d = rows.length → pre.length = j → 0 ≤ m → m ≤ 1 + 1048576 * j → ∀ k, d + 1048580 < k →
    laws_markIntSS.l0 k (pre ++ rows.drop j) m j = some (markEnd m (rows.drop j), pre ++ markRows m (rows.drop j)) := by
  intro d
  induction d with
  | zero =>
    intro j pre m hj hp h0 h1 k hk
    obtain ⟨k, rfl⟩ : ∃ m, k = m + 1 := ⟨k - 1, by omega⟩
    rw [List.drop_of_length_le (by omega), List.append_nil]
    simp only [laws_markIntSS.l0]
    rw [if_neg (by omega)]
    simp [markEnd, markRows]
  | succ d ih =>
    intro j pre m hj hp h0 h1 k hk
    obtain ⟨k, rfl⟩ : ∃ m, k = m + 1 := ⟨k - 1, by omega⟩
    have hlt : j < rows.length := by omega
    have hll : j < (pre ++ rows.drop j).length := by simp; omega
    have hrr := hr _ (List.getElem_mem hlt)
    have hg : (pre ++ rows.drop j)[j] = rows[j] := by
      rw [List.getElem_append_right (by omega)]
      simp [hp]
    have hs : (pre ++ rows.drop j).set j (upFrom m rows[j].length) = (pre ++ [upFrom m rows[j].length]) ++ rows.drop (j + 1) := by
      rw [List.set_append_right _ _ (by omega), hp, Nat.sub_self, List.drop_eq_getElem_cons hlt, List.set_cons_zero, List.append_assoc, List.singleton_append]
    simp only [laws_markIntSS.l0]
    rw [if_pos (by omega), if_pos (by omega), rd1_get hll, hg, markIntS_is rows[j] m h0 (by omega) hrr k (by omega)]
    simp only [Option.bind_some, Int.toNat_natCast]
    rw [hs, w64 (x := (j : Int) + 1) (by omega) (by omega)]
    have := ih (j + 1) (pre ++ [upFrom m rows[j].length]) (m + rows[j].length) (by omega) (by simp [hp]) (by omega) (by omega) k (by omega)
    rw [List.drop_eq_getElem_cons hlt, markEnd, markRows]
    simp only [List.append_assoc, List.singleton_append] at this ⊢
    exact this

theorem markIntSS_is (rows : List (List Int)) (hl : rows.length ≤ 1048576) (hr : ∀ r ∈ rows, r.length ≤ 1048576) (k : Nat) (hk : 3000000 ≤ k) :
    laws_markIntSS.f k rows 1 = some (markEnd 1 rows, markRows 1 rows) := by
  have := markIntSS_l0 rows hl hr rows.length 0 [] 1 (by omega) rfl (by omega) (by omega) k (by omega)
  rw [List.drop_zero, List.nil_append, List.nil_append] at this
  exact this

theorem markStates_is (o : Int) (rows : List (List Int)) (hl : rows.length ≤ 1048576) (hr : ∀ r ∈ rows, r.length ≤ 1048576) (k : Nat) (hk : 3000000 ≤ k) :
    laws_markStates.f k o rows 1 = some (markEnd 1 rows, markRows 1 rows) := markIntSS_is rows hl hr k hk
theorem markEnd_pos (rows : List (List Int)) (hr : ∀ r ∈ rows, r.length ≤ 1048576) : ¬ markEnd 1 rows < 0 := by
  have := (markEnd_le rows 1 hr).1
  omega

/-- A row of chances: n numbers from 0 on, o in all. -/
def GoodRow (n : Nat) (o : Int) (row : List Int) : Prop := row.length = n ∧ (∀ x ∈ row, 0 ≤ x) ∧ row.sum = o
/-- Valid states. -/
def Good (o : Int) (rows : List (List Int)) : Prop := 1 ≤ o ∧ o ≤ 10 ∧ 1 ≤ rows.length ∧ rows.length ≤ 5 ∧ ∀ row ∈ rows, GoodRow rows.length o row

theorem sum_nonneg : ∀ (l : List Int), (∀ x ∈ l, 0 ≤ x) → 0 ≤ l.sum
  | [], _ => by simp
  | x :: l, h => by
    have h1 := h x (by simp)
    have h2 := sum_nonneg l (fun y hy => h y (by simp [hy]))
    simp only [List.sum_cons]
    omega

theorem le_sum : ∀ (l : List Int), (∀ x ∈ l, 0 ≤ x) → ∀ x ∈ l, x ≤ l.sum
  | [], _, x, hx => by simp at hx
  | y :: l, h, x, hx => by
    have h1 := h y (by simp)
    have h2 := sum_nonneg l (fun z hz => h z (by simp [hz]))
    simp only [List.sum_cons]
    rcases List.mem_cons.1 hx with rfl | hx
    · omega
    · have := le_sum l (fun z hz => h z (by simp [hz])) x hx
      omega

theorem in_true {n a b : Int} (h : a ≤ n ∧ n ≤ b) : (if n ≥ a then some (decide (n ≤ b)) else some false) = some true := by
  rw [if_pos h.1, decide_eq_true h.2]
theorem in_false {n a b : Int} (h : ¬ (a ≤ n ∧ n ≤ b)) : (if n ≥ a then some (decide (n ≤ b)) else some false) = some false := by
  by_cases h1 : n ≥ a
  · rw [if_pos h1, decide_eq_false (by omega)]
  · rw [if_neg h1]

theorem l1All_l0 (a b : Int) (xs : List Int) (hx : xs.length ≤ 1048576) : ∀ (m j : Nat), j + m = xs.length →
    ∃ t : Bool, (t = true ↔ ∀ x ∈ xs.drop j, a ≤ x ∧ x ≤ b) ∧ ∀ k, m < k → spec_l1All.l0 k a b xs (xs.length : Int) j = some t := by
  intro m
  induction m with
  | zero =>
    intro j hj
    refine ⟨true, ?_, fun k hk => ?_⟩
    · rw [List.drop_of_length_le (by omega)]; simp
    · obtain ⟨k, rfl⟩ : ∃ m, k = m + 1 := ⟨k - 1, by omega⟩
      simp only [spec_l1All.l0]
      rw [if_neg (by omega)]
  | succ m ih =>
    intro j hj
    have hlt : j < xs.length := by omega
    by_cases h : a ≤ xs[j] ∧ xs[j] ≤ b
    · obtain ⟨t, ht, E⟩ := ih (j + 1) (by omega)
      refine ⟨t, ?_, fun k hk => ?_⟩
      · rw [List.drop_eq_getElem_cons hlt, ht]
        simp only [List.mem_cons, forall_eq_or_imp]
        exact ⟨fun h2 => ⟨h, h2⟩, fun h2 => h2.2⟩
      · obtain ⟨k, rfl⟩ : ∃ m, k = m + 1 := ⟨k - 1, by omega⟩
        simp only [spec_l1All.l0, spec_l1In.f]
        rw [if_pos (by omega), if_pos (by omega), if_pos (by omega), rd_get hlt, in_true h]
        simp only [Option.bind_some, ↓reduceIte]
        rw [w64 (x := (j : Int) + 1) (by omega) (by omega)]
        exact E k (by omega)
    · refine ⟨false, ?_, fun k hk => ?_⟩
      · rw [List.drop_eq_getElem_cons hlt]
        simp only [Bool.false_eq_true, false_iff]
        exact fun h2 => h (h2 _ List.mem_cons_self)
      · obtain ⟨k, rfl⟩ : ∃ m, k = m + 1 := ⟨k - 1, by omega⟩
        simp only [spec_l1All.l0, spec_l1In.f]
        rw [if_pos (by omega), if_pos (by omega), if_pos (by omega), rd_get hlt, in_false h]
        simp

theorem saGood_l1 (o : Int) (rows : List (List Int)) (jj : Int) (xs : List Int) (hx : xs.length ≤ 5) (ha : ∀ x ∈ xs, 0 ≤ x ∧ x ≤ 10) : ∀ (m j : Nat) (acc : Int), j + m = xs.length → 0 ≤ acc → acc ≤ 10 * j → ∀ k, m < k →
    spec_saGood.l1 k acc rows (rows.length : Int) jj xs (xs.length : Int) j o rows = if acc + (xs.drop j).sum = o then spec_saGood.l0 (k - m - 1) rows (rows.length : Int) (wrap64 (jj + 1)) o rows else some false := by
  intro m
  induction m with
  | zero =>
    intro j acc hj h0 h1 k hk
    obtain ⟨k, rfl⟩ : ∃ m, k = m + 1 := ⟨k - 1, by omega⟩
    simp only [spec_saGood.l1]
    rw [if_neg (by omega), List.drop_of_length_le (by omega)]
    simp
  | succ m ih =>
    intro j acc hj h0 h1 k hk
    obtain ⟨k, rfl⟩ : ∃ m, k = m + 1 := ⟨k - 1, by omega⟩
    have hlt : j < xs.length := by omega
    have hxj := ha _ (List.getElem_mem hlt)
    simp only [spec_saGood.l1]
    rw [if_pos (by omega), if_pos (by omega), if_pos (by omega), rd_get hlt, w64 (x := acc + xs[j]) (by omega) (by omega), w64 (x := (j : Int) + 1) (by omega) (by omega), show (j : Int) + 1 = ((j + 1 : Nat) : Int) from by omega]
    rw [ih (j + 1) (acc + xs[j]) (by omega) (by omega) (by omega) k (by omega), List.drop_eq_getElem_cons hlt, List.sum_cons, Int.add_assoc]
    rw [show k + 1 - (m + 1) - 1 = k - m - 1 from by omega]

theorem saGood_l0 (o : Int) (o1 : o ≤ 10) (rows : List (List Int)) (hn : rows.length ≤ 5) (hl : ∀ r ∈ rows, r.length ≤ 1048576) : ∀ (m j : Nat), j + m = rows.length →
    ∃ t : Bool, (t = true ↔ ∀ row ∈ rows.drop j, GoodRow rows.length o row) ∧ ∃ K, ∀ k, K ≤ k → spec_saGood.l0 k rows (rows.length : Int) j o rows = some t := by
  intro m
  induction m with
  | zero =>
    intro j hj
    refine ⟨true, ?_, 1, fun k hk => ?_⟩
    · rw [List.drop_of_length_le (by omega)]; simp
    · obtain ⟨k, rfl⟩ : ∃ m, k = m + 1 := ⟨k - 1, by omega⟩
      simp only [spec_saGood.l0]
      rw [if_neg (by omega)]
  | succ m ih =>
    intro j hj
    have hlt : j < rows.length := by omega
    have hll := hl _ (List.getElem_mem hlt)
    obtain ⟨t1, ht1, E1⟩ := l1All_l0 0 o rows[j] hll rows[j].length 0 (by omega)
    rw [List.drop_zero] at ht1
    have bad : ¬ GoodRow rows.length o rows[j] → (∃ K, ∀ k, K ≤ k → spec_saGood.l0 k rows (rows.length : Int) j o rows = some false) → ∃ t : Bool, (t = true ↔ ∀ row ∈ rows.drop j, GoodRow rows.length o row) ∧ ∃ K, ∀ k, K ≤ k → spec_saGood.l0 k rows (rows.length : Int) j o rows = some t := by
      intro hb hE
      refine ⟨false, ?_, hE⟩
      rw [List.drop_eq_getElem_cons hlt]
      simp only [Bool.false_eq_true, false_iff]
      exact fun h2 => hb (h2 _ List.mem_cons_self)
    by_cases c1 : rows[j].length = rows.length
    · cases t1 with
      | false =>
        refine bad (fun hg => ?_) ⟨1048580, fun k hk => ?_⟩
        · have := ht1.2 (fun x hx => ⟨hg.2.1 x hx, by have := le_sum _ hg.2.1 x hx; have := hg.2.2; omega⟩)
          simp at this
        · obtain ⟨k, rfl⟩ : ∃ m, k = m + 2 := ⟨k - 2, by omega⟩
          rw [spec_saGood.l0]
          rw [if_pos (by omega), if_pos (by omega), if_pos (by omega), rd1_get hlt, if_pos (by omega)]
          unfold spec_l1All.f
          rw [show spec_l1All.l0 (k + 1) 0 o rows[j] (rows[j].length : Int) 0 = some false from E1 _ (by omega)]
          simp only [Option.bind_some]
          rw [spec_saGood.j2]
          simp
      | true =>
        have hall := ht1.1 rfl
        have hs := saGood_l1 o rows j rows[j] (by omega) (fun x hx => ⟨(hall x hx).1, by have := (hall x hx).2; omega⟩) rows[j].length 0 0 (by omega) (by omega) (by omega)
        rw [List.drop_zero, Int.zero_add] at hs
        by_cases c2 : rows[j].sum = o
        · obtain ⟨t, ht, K, E⟩ := ih (j + 1) (by omega)
          refine ⟨t, ?_, K + 1048590, fun k hk => ?_⟩
          · rw [List.drop_eq_getElem_cons hlt, ht]
            simp only [List.mem_cons, forall_eq_or_imp]
            exact ⟨fun h2 => ⟨⟨c1, fun x hx => (hall x hx).1, c2⟩, h2⟩, fun h2 => h2.2⟩
          · obtain ⟨k, rfl⟩ : ∃ m, k = m + 2 := ⟨k - 2, by omega⟩
            rw [spec_saGood.l0]
            rw [if_pos (by omega), if_pos (by omega), if_pos (by omega), rd1_get hlt, if_pos (by omega)]
            unfold spec_l1All.f
            rw [show spec_l1All.l0 (k + 1) 0 o rows[j] (rows[j].length : Int) 0 = some true from E1 _ (by omega)]
            simp only [Option.bind_some, Bool.not_true]
            rw [spec_saGood.j2]
            simp only [Bool.false_eq_true, ↓reduceIte]
            have h3 := hs k (by omega)
            rw [if_pos c2, w64 (x := (j : Int) + 1) (by omega) (by omega)] at h3
            exact h3.trans (E _ (by omega))
        · refine bad (fun hg => c2 hg.2.2) ⟨1048590, fun k hk => ?_⟩
          obtain ⟨k, rfl⟩ : ∃ m, k = m + 2 := ⟨k - 2, by omega⟩
          rw [spec_saGood.l0]
          rw [if_pos (by omega), if_pos (by omega), if_pos (by omega), rd1_get hlt, if_pos (by omega)]
          unfold spec_l1All.f
          rw [show spec_l1All.l0 (k + 1) 0 o rows[j] (rows[j].length : Int) 0 = some true from E1 _ (by omega)]
          simp only [Option.bind_some, Bool.not_true]
          rw [spec_saGood.j2]
          simp only [Bool.false_eq_true, ↓reduceIte]
          have h3 := hs k (by omega)
          rw [if_neg c2] at h3
          exact h3
    · refine bad (fun hg => c1 hg.1) ⟨10, fun k hk => ?_⟩
      obtain ⟨k, rfl⟩ : ∃ m, k = m + 2 := ⟨k - 2, by omega⟩
      rw [spec_saGood.l0]
      rw [if_pos (by omega), if_pos (by omega), if_pos (by omega), rd1_get hlt, if_neg (by omega), spec_saGood.j2]
      simp

theorem saGood_ev (o : Int) (rows : List (List Int)) (hn : rows.length ≤ 1048576) (hl : ∀ r ∈ rows, r.length ≤ 1048576) :
    ∃ t : Bool, (t = true ↔ Good o rows) ∧ ∃ K, ∀ k, K ≤ k → spec_saGood.f k o rows = some t := by
  by_cases c1 : 1 ≤ o ∧ o ≤ 10
  · by_cases c2 : 1 ≤ (rows.length : Int) ∧ (rows.length : Int) ≤ 5
    · obtain ⟨t, ht, K, E⟩ := saGood_l0 o c1.2 rows (by omega) hl rows.length 0 (by omega)
      rw [List.drop_zero] at ht
      refine ⟨t, ht.trans ⟨fun h => ⟨c1.1, c1.2, by omega, by omega, h⟩, fun h => h.2.2.2.2⟩, K + 1, fun k hk => ?_⟩
      obtain ⟨k, rfl⟩ : ∃ m, k = m + 1 := ⟨k - 1, by omega⟩
      simp only [spec_saGood.f, spec_saGood.j0, spec_l1In.f, in_true c1, in_true c2, Option.bind_some, ↓reduceIte, Bool.not_true, Bool.false_eq_true]
      exact E k (by omega)
    · refine ⟨false, ⟨fun h => by simp at h, fun h => absurd ⟨by have := h.2.2.1; omega, by have := h.2.2.2.1; omega⟩ c2⟩, 1, fun k hk => ?_⟩
      obtain ⟨k, rfl⟩ : ∃ m, k = m + 1 := ⟨k - 1, by omega⟩
      simp only [spec_saGood.f, spec_saGood.j0, spec_l1In.f, in_true c1, in_false c2, Option.bind_some, ↓reduceIte, Bool.not_false]
  · refine ⟨false, ⟨fun h => by simp at h, fun h => absurd ⟨h.1, h.2.1⟩ c1⟩, 1, fun k hk => ?_⟩
    obtain ⟨k, rfl⟩ : ∃ m, k = m + 1 := ⟨k - 1, by omega⟩
    simp only [spec_saGood.f, spec_saGood.j0, spec_l1In.f, in_false c1, Option.bind_some, ↓reduceIte, Bool.false_eq_true]

theorem saAsked_ev (o : Int) (rows : List (List Int)) (a b : Int) (h1 : rows.length ≤ 1048576) (h2 : ∀ r ∈ rows, r.length ≤ 1048576) :
    ∃ t : Bool, (t = true ↔ Good o rows ∧ (0 ≤ a ∧ a < rows.length) ∧ 0 ≤ b ∧ b < rows.length) ∧ ∃ K, ∀ k, K ≤ k → spec_saAsked.f k o rows a b = some t := by
  obtain ⟨t, ht, K, E⟩ := saGood_ev o rows h1 h2
  have e1 : wrap64 ((rows.length : Int) - 1) = (rows.length : Int) - 1 := w64 (by omega) (by omega)
  cases t with
  | false =>
    refine ⟨false, ⟨fun h => by simp at h, fun h => by have := ht.2 h.1; simp at this⟩, K, fun k hk => ?_⟩
    simp [spec_saAsked.f, E k hk]
  | true =>
    have hg := ht.1 rfl
    by_cases c1 : 0 ≤ a ∧ a ≤ (rows.length : Int) - 1
    · by_cases c2 : 0 ≤ b ∧ b ≤ (rows.length : Int) - 1
      · refine ⟨true, ⟨fun _ => ⟨hg, ⟨c1.1, by omega⟩, c2.1, by omega⟩, fun _ => rfl⟩, K, fun k hk => ?_⟩
        simp only [spec_saAsked.f, spec_l1In.f, E k hk, Option.bind_some, ↓reduceIte, e1, in_true c1, in_true c2]
      · refine ⟨false, ⟨fun h => by simp at h, fun h => absurd ⟨h.2.2.1, by omega⟩ c2⟩, K, fun k hk => ?_⟩
        simp only [spec_saAsked.f, spec_l1In.f, E k hk, Option.bind_some, ↓reduceIte, e1, in_true c1, in_false c2]
    · refine ⟨false, ⟨fun h => by simp at h, fun h => absurd ⟨h.2.1.1, by omega⟩ c1⟩, K, fun k hk => ?_⟩
      simp only [spec_saAsked.f, spec_l1In.f, E k hk, Option.bind_some, ↓reduceIte, e1, in_false c1, Bool.false_eq_true]

theorem areStates_l1 (o : Int) (rows : List (List Int)) (jj : Int) (xs : List Int) (hx : xs.length ≤ 1048576) : ∀ (m j : Nat) (left : Int), j + m = xs.length → 0 ≤ left → left ≤ 10 →
    ∃ t : Bool, (t = true ↔ xs.length = rows.length ∧ (∀ x ∈ xs.drop j, 0 ≤ x) ∧ (xs.drop j).sum = left) ∧ ∀ k, m < k →
    impl_AreStates.l1 k (rows.length : Int) xs left rows (rows.length : Int) jj xs (xs.length : Int) j o rows = if t = true then impl_AreStates.l0 (k - m - 1) (rows.length : Int) rows (rows.length : Int) (wrap64 (jj + 1)) o rows else some false := by
  intro m
  induction m with
  | zero =>
    intro j left hj h0 h1
    refine ⟨decide (xs.length = rows.length ∧ left = 0), ?_, fun k hk => ?_⟩
    · rw [List.drop_of_length_le (by omega), decide_eq_true_eq]
      simp
      omega
    · obtain ⟨k, rfl⟩ : ∃ m, k = m + 1 := ⟨k - 1, by omega⟩
      simp only [impl_AreStates.l1]
      rw [if_neg (by omega)]
      by_cases c1 : xs.length = rows.length
      · rw [if_pos (by omega)]
        by_cases c2 : left = 0
        · rw [if_pos c2, decide_eq_true ⟨c1, c2⟩]; rfl
        · rw [if_neg c2, decide_eq_false (fun h => c2 h.2)]; rfl
      · rw [if_neg (by omega), decide_eq_false (fun h => c1 h.1)]; rfl
  | succ m ih =>
    intro j left hj h0 h1
    have hlt : j < xs.length := by omega
    by_cases h : 0 ≤ xs[j] ∧ xs[j] ≤ left
    · obtain ⟨t, ht, E⟩ := ih (j + 1) (left - xs[j]) (by omega) (by omega) (by omega)
      refine ⟨t, ?_, fun k hk => ?_⟩
      · rw [List.drop_eq_getElem_cons hlt, ht, List.sum_cons]
        simp only [List.mem_cons, forall_eq_or_imp]
        exact ⟨fun h2 => ⟨h2.1, ⟨h.1, h2.2.1⟩, by omega⟩, fun h2 => ⟨h2.1, h2.2.1.2, by omega⟩⟩
      · obtain ⟨k, rfl⟩ : ∃ m, k = m + 1 := ⟨k - 1, by omega⟩
        simp only [impl_AreStates.l1, impl_within.f]
        rw [if_pos (by omega), if_pos (by omega), if_pos (by omega), rd_get hlt, in_true h]
        simp only [Option.bind_some, ↓reduceIte]
        rw [w64 (x := (j : Int) + 1) (by omega) (by omega), w64 (x := left - xs[j]) (by omega) (by omega), show (j : Int) + 1 = ((j + 1 : Nat) : Int) from by omega, E k (by omega),
          show k + 1 - (m + 1) - 1 = k - m - 1 from by omega]
    · refine ⟨false, ?_, fun k hk => ?_⟩
      · rw [List.drop_eq_getElem_cons hlt, List.sum_cons]
        simp only [Bool.false_eq_true, false_iff]
        intro h2
        have h3 := h2.2.1 _ List.mem_cons_self
        have h4 := sum_nonneg (xs.drop (j + 1)) (fun x hx => h2.2.1 _ (List.mem_cons_of_mem _ hx))
        omega
      · obtain ⟨k, rfl⟩ : ∃ m, k = m + 1 := ⟨k - 1, by omega⟩
        simp only [impl_AreStates.l1, impl_within.f]
        rw [if_pos (by omega), if_pos (by omega), if_pos (by omega), rd_get hlt, in_false h]
        simp

theorem areStates_l0 (o : Int) (o0 : 1 ≤ o) (o1 : o ≤ 10) (rows : List (List Int)) (hn : rows.length ≤ 5) (hl : ∀ r ∈ rows, r.length ≤ 1048576) : ∀ (m j : Nat), j + m = rows.length →
    ∃ t : Bool, (t = true ↔ ∀ row ∈ rows.drop j, GoodRow rows.length o row) ∧ ∃ K, ∀ k, K ≤ k → impl_AreStates.l0 k (rows.length : Int) rows (rows.length : Int) j o rows = some t := by
  intro m
  induction m with
  | zero =>
    intro j hj
    refine ⟨true, ?_, 1, fun k hk => ?_⟩
    · rw [List.drop_of_length_le (by omega)]; simp
    · obtain ⟨k, rfl⟩ : ∃ m, k = m + 1 := ⟨k - 1, by omega⟩
      simp only [impl_AreStates.l0]
      rw [if_neg (by omega)]
  | succ m ih =>
    intro j hj
    have hlt : j < rows.length := by omega
    have hll := hl _ (List.getElem_mem hlt)
    obtain ⟨t1, ht1, E1⟩ := areStates_l1 o rows j rows[j] hll rows[j].length 0 o (by omega) (by omega) o1
    rw [List.drop_zero] at ht1
    cases t1 with
    | false =>
      refine ⟨false, ?_, 1048590, fun k hk => ?_⟩
      · rw [List.drop_eq_getElem_cons hlt]
        simp only [Bool.false_eq_true, false_iff]
        exact fun h2 => by
          have := ht1.2 (h2 _ List.mem_cons_self)
          simp at this
      · obtain ⟨k, rfl⟩ : ∃ m, k = m + 1 := ⟨k - 1, by omega⟩
        rw [impl_AreStates.l0]
        rw [if_pos (by omega), if_pos (by omega), if_pos (by omega), rd1_get hlt]
        have := E1 k (by omega)
        simp only [Bool.false_eq_true, ↓reduceIte] at this
        exact this
    | true =>
      obtain ⟨t, ht, K, E⟩ := ih (j + 1) (by omega)
      refine ⟨t, ?_, K + 1048590, fun k hk => ?_⟩
      · rw [List.drop_eq_getElem_cons hlt, ht]
        simp only [List.mem_cons, forall_eq_or_imp]
        exact ⟨fun h2 => ⟨ht1.1 rfl, h2⟩, fun h2 => h2.2⟩
      · obtain ⟨k, rfl⟩ : ∃ m, k = m + 1 := ⟨k - 1, by omega⟩
        rw [impl_AreStates.l0]
        rw [if_pos (by omega), if_pos (by omega), if_pos (by omega), rd1_get hlt]
        have := E1 k (by omega)
        simp only [↓reduceIte] at this
        rw [w64 (x := (j : Int) + 1) (by omega) (by omega)] at this
        exact this.trans (E _ (by omega))

theorem areStates_ev (o : Int) (rows : List (List Int)) (hn : rows.length ≤ 1048576) (hl : ∀ r ∈ rows, r.length ≤ 1048576) :
    ∃ t : Bool, (t = true ↔ Good o rows) ∧ ∃ K, ∀ k, K ≤ k → impl_AreStates.f k o rows = some t := by
  by_cases c1 : 1 ≤ o ∧ o ≤ 10
  · by_cases c2 : 1 ≤ (rows.length : Int) ∧ (rows.length : Int) ≤ 5
    · obtain ⟨t, ht, K, E⟩ := areStates_l0 o c1.1 c1.2 rows (by omega) hl rows.length 0 (by omega)
      rw [List.drop_zero] at ht
      refine ⟨t, ht.trans ⟨fun h => ⟨c1.1, c1.2, by omega, by omega, h⟩, fun h => h.2.2.2.2⟩, K + 1, fun k hk => ?_⟩
      obtain ⟨k, rfl⟩ : ∃ m, k = m + 1 := ⟨k - 1, by omega⟩
      simp only [impl_AreStates.f, impl_AreStates.j0, impl_within.f, in_true c1, in_true c2, Option.bind_some, ↓reduceIte, Bool.not_true, Bool.false_eq_true]
      exact E k (by omega)
    · refine ⟨false, ⟨fun h => by simp at h, fun h => absurd ⟨by have := h.2.2.1; omega, by have := h.2.2.2.1; omega⟩ c2⟩, 1, fun k hk => ?_⟩
      obtain ⟨k, rfl⟩ : ∃ m, k = m + 1 := ⟨k - 1, by omega⟩
      simp only [impl_AreStates.f, impl_AreStates.j0, impl_within.f, in_true c1, in_false c2, Option.bind_some, ↓reduceIte, Bool.not_false]
  · refine ⟨false, ⟨fun h => by simp at h, fun h => absurd ⟨h.1, h.2.1⟩ c1⟩, 1, fun k hk => ?_⟩
    obtain ⟨k, rfl⟩ : ∃ m, k = m + 1 := ⟨k - 1, by omega⟩
    simp only [impl_AreStates.f, impl_AreStates.j0, impl_within.f, in_false c1, Option.bind_some, ↓reduceIte, Bool.false_eq_true]

theorem areWith_bad {n : Nat} (hn : n ≤ 1048576) (i : Int) : impl_areWith.bad n i = false ↔ 0 ≤ i ∧ i < n := by
  unfold impl_areWith.bad
  rw [w64 (by omega) (by omega)]
  by_cases h : i ≥ 0
  · rw [if_pos h]
    simp
    omega
  · rw [if_neg h]
    simp
    omega

theorem areWith_ev (o : Int) (rows : List (List Int)) (l : List Int) (h1 : rows.length ≤ 1048576) (h2 : ∀ r ∈ rows, r.length ≤ 1048576) (hl : l.length ≤ 1048576) :
    ∃ t : Bool, (t = true ↔ Good o rows ∧ ∀ a ∈ l, 0 ≤ a ∧ a < rows.length) ∧ ∃ K, ∀ k, K ≤ k → impl_areWith.f k o rows l = some t := by
  obtain ⟨t, ht, K, E⟩ := areStates_ev o rows h1 h2
  cases t with
  | false =>
    refine ⟨false, ⟨fun h => by simp at h, fun h => by have := ht.2 h.1; simp at this⟩, K, fun k hk => ?_⟩
    simp [impl_areWith.f, E k hk]
  | true =>
    have hg := ht.1 rfl
    refine ⟨!(l.any (impl_areWith.bad rows.length)), ?_, K, fun k hk => ?_⟩
    · simp only [Bool.not_eq_true', List.any_eq_false, Bool.not_eq_true]
      constructor
      · exact fun h => ⟨hg, fun a ha => (areWith_bad h1 a).1 (h a ha)⟩
      · exact fun h a ha => (areWith_bad h1 a).2 (h.2 a ha)
    · simp only [impl_areWith.f, E k hk, Option.bind_some, ↓reduceIte]
      rw [if_pos (by omega)]

/-- Two states asked. -/
theorem asked2_ev (o : Int) (rows : List (List Int)) (a b : Int) (h1 : rows.length ≤ 1048576) (h2 : ∀ r ∈ rows, r.length ≤ 1048576) :
    ∃ t : Bool, (t = true ↔ Good o rows ∧ (0 ≤ a ∧ a < rows.length) ∧ 0 ≤ b ∧ b < rows.length) ∧ ∃ K, ∀ k, K ≤ k → impl_areWith.f k o rows [a, b] = some t := by
  obtain ⟨t, ht, K, E⟩ := areWith_ev o rows [a, b] h1 h2 (by simp)
  refine ⟨t, ht.trans ?_, K, E⟩
  simp

theorem asked1_ev (o : Int) (rows : List (List Int)) (a : Int) (h1 : rows.length ≤ 1048576) (h2 : ∀ r ∈ rows, r.length ≤ 1048576) :
    ∃ t : Bool, (t = true ↔ Good o rows ∧ (0 ≤ a ∧ a < rows.length) ∧ 0 ≤ a ∧ a < rows.length) ∧ ∃ K, ∀ k, K ≤ k → impl_areWith.f k o rows [a] = some t := by
  obtain ⟨t, ht, K, E⟩ := areWith_ev o rows [a] h1 h2 (by simp)
  refine ⟨t, ht.trans ?_, K, E⟩
  simp

/-- A step that may be. -/
def Edge (rows : List (List Int)) (i k : Nat) : Prop := 0 < (rows.getD i []).getD k 0
/-- Reached from s by steps from what isn't closed. -/
inductive RC (rows : List (List Int)) (cl : Int) (s : Nat) : Nat → Prop
  | base : RC rows cl s s
  | step (i k : Nat) : RC rows cl s i → (i : Int) ≠ cl → k < rows.length → Edge rows i k → RC rows cl s k

/-- What a queue of states says. -/
structure Qu (rows : List (List Int)) (cl : Int) (s : Nat) (q : List Nat) : Prop where
  nd : q.Nodup
  lt : ∀ v ∈ q, v < rows.length
  rc : ∀ v ∈ q, RC rows cl s v
  mem : s ∈ q

theorem Qu.len {rows : List (List Int)} {cl : Int} {s : Nat} {q : List Nat} (h : Qu rows cl s q) : q.length ≤ rows.length := by
  have h1 := List.Nodup.length_le_of_subset h.nd (l₂ := List.range rows.length) (fun v hv => List.mem_range.2 (h.lt v hv))
  simpa using h1

/-- The first i of the queue have been gone through. -/
def Through (rows : List (List Int)) (cl : Int) (q : List Nat) (i : Nat) : Prop := ∀ a, a < i → ∀ v, q[a]? = some v → (v : Int) ≠ cl → ∀ k, k < rows.length → Edge rows v k → k ∈ q

theorem Through.more {rows : List (List Int)} {cl : Int} {q q' : List Nat} {i : Nat} (h : Through rows cl q i) (hi : i ≤ q.length) (hp : q <+: q') : Through rows cl q' i := by
  intro a ha v hv hc k hk he
  obtain ⟨t, rfl⟩ := hp
  rw [List.getElem?_append_left (by omega)] at hv
  exact List.mem_append_left _ (h a ha v hv hc k hk he)

/-- The queue that has been gone through holds all that is reached. -/
theorem Qu.all {rows : List (List Int)} {cl : Int} {s : Nat} {q : List Nat} (h : Qu rows cl s q) (ht : Through rows cl q q.length) (v : Nat) : RC rows cl s v ↔ v ∈ q := by
  constructor
  · intro hr
    induction hr with
    | base => exact h.mem
    | step i k _ hc hk he ih =>
      obtain ⟨a, ha, hv⟩ := List.getElem_of_mem ih
      exact ht a ha i (by rw [List.getElem?_eq_getElem ha, hv]) hc k hk he
  · exact h.rc v

theorem rd_nats {q : List Nat} {i : Nat} (h : i < q.length) : rd (q.map (fun v : Nat => (v : Int))) (i : Int) = (q[i] : Int) := by
  rw [rd_get (by simpa using h)]
  simp

theorem rdOf_get {xs : List Bool} {j : Nat} (h : j < xs.length) : rdOf false xs (j : Int) = xs[j] := by
  unfold rdOf
  rw [Int.toNat_natCast, List.getD_eq_getElem?_getD, List.getElem?_eq_getElem h]
  rfl

theorem edge_get {rows : List (List Int)} {i k : Nat} (hi : i < rows.length) (hk : k < rows[i].length) : Edge rows i k ↔ 0 < rows[i][k] := by
  unfold Edge
  simp [List.getD_eq_getElem?_getD, hi, hk]

/-- A walk of so many steps. -/
inductive Wk (rows : List (List Int)) (s : Nat) : Nat → Nat → Prop
  | base : Wk rows s s 0
  | step (i k d : Nat) : Wk rows s i d → k < rows.length → Edge rows i k → Wk rows s k (d + 1)

/-- How far a state is. -/
def fa (far : List Int) (v : Nat) : Int := far.getD v (-1)


theorem fa_set {far : List Int} {j : Nat} {x : Int} (h : j < far.length) (k : Nat) : fa (far.set j x) k = if k = j then x else fa far k := by
  unfold fa
  rw [List.getD_eq_getElem?_getD, List.getD_eq_getElem?_getD, List.getElem?_set]
  by_cases e : j = k
  · subst e; simp [h]
  · rw [if_neg e, if_neg (fun h => e h.symm)]

theorem rd_fa {far : List Int} {j : Nat} (h : j < far.length) : rd far (j : Int) = fa far j := by
  rw [rd_get h]
  unfold fa
  rw [List.getD_eq_getElem?_getD, List.getElem?_eq_getElem h]
  rfl

structure Far (rows : List (List Int)) (s : Nat) (far : List Int) (q : List Nat) (i : Nat) : Prop where
  len : far.length = rows.length
  mem : ∀ k, k < rows.length → (0 ≤ fa far k ↔ k ∈ q)
  low : ∀ k, -1 ≤ fa far k
  zero : fa far s = 0
  wk : ∀ v ∈ q, Wk rows s v (fa far v).toNat
  idx : ∀ (a v : Nat), q[a]? = some v → fa far v ≤ a
  mono : ∀ (a b u v : Nat), a ≤ b → q[a]? = some u → q[b]? = some v → fa far u ≤ fa far v
  near : ∀ (a : Nat), a < i → ∀ (u : Nat), q[a]? = some u → ∀ (k : Nat), k < rows.length → Edge rows u k → k ∈ q ∧ fa far k ≤ fa far u + 1

theorem saFar_l2 (o : Int) (rows : List (List Int)) (s : Nat) (hn : rows.length ≤ 5) (hsq : ∀ r ∈ rows, r.length = rows.length) (i c : Nat) (hc : c < rows.length) :
    ∀ (m j : Nat) (far : List Int) (q : List Nat), j + m = rows.length → Qu rows (-1) s q → Far rows s far q i → (∀ v ∈ q, fa far v ≤ fa far c + 1) → i < q.length → q[i]? = some c → (∀ k, k < j → Edge rows c k → k ∈ q) →
    ∃ far' q', Qu rows (-1) s q' ∧ Far rows s far' q' i ∧ (∀ v ∈ q', fa far' v ≤ fa far' c + 1) ∧ q <+: q' ∧ (∀ k, k < rows.length → Edge rows c k → k ∈ q') ∧
      ∀ k, m < k → spec_saFar.l2 k far (q.map (fun v : Nat => (v : Int))) i (rows[c]) ((rows[c]).length : Int) j o rows = spec_saFar.l1 (k - m - 1) far' (q'.map (fun v : Nat => (v : Int))) (i + 1) o rows := by
  have hlen := hsq _ (List.getElem_mem hc)
  intro m
  induction m with
  | zero =>
    intro j far q hj hq hm ht hi hqi hd
    refine ⟨far, q, hq, hm, ht, List.prefix_refl _, fun k hk he => hd k (by omega) he, fun k hk => ?_⟩
    obtain ⟨k, rfl⟩ : ∃ m, k = m + 1 := ⟨k - 1, by omega⟩
    have := hq.len
    simp only [spec_saFar.l2]
    rw [if_neg (by omega), w64 (x := (i : Int) + 1) (by omega) (by omega)]
    rfl
  | succ m ih =>
    intro j far q hj hq hm ht hi hqi hd
    have hlt : j < (rows[c]).length := by omega
    have hlo : j < far.length := by have := hm.len; omega
    have hcf : c < far.length := by have := hm.len; omega
    have hql := hq.len
    have hin := edge_get hc hlt
    have hgc : q[i] = c := by rw [List.getElem?_eq_getElem hi] at hqi; exact Option.some.inj hqi
    by_cases c1 : 0 < rows[c][j]
    · by_cases c2 : fa far j < 0
      · have hjq : j ∉ q := fun h => by have := (hm.mem j (by omega)).2 h; omega
        have hcq : c ∈ q := List.mem_of_getElem? hqi
        have hcj : c ≠ j := fun e => hjq (e ▸ hcq)
        have hc0 : 0 ≤ fa far c := (hm.mem c hc).2 hcq
        have hci := hm.idx i c hqi
        have hq2 : Qu rows (-1) s (q ++ [j]) := by
          refine ⟨?_, ?_, ?_, List.mem_append_left _ hq.mem⟩
          · rw [List.nodup_append]
            refine ⟨hq.nd, by simp, ?_⟩
            intro a ha b hb
            rw [List.mem_singleton] at hb
            rintro rfl
            exact hjq (hb ▸ ha)
          · intro v hv
            rcases List.mem_append.1 hv with hv | hv
            · exact hq.lt v hv
            · rw [List.mem_singleton] at hv; omega
          · intro v hv
            rcases List.mem_append.1 hv with hv | hv
            · exact hq.rc v hv
            · rw [List.mem_singleton] at hv
              subst hv
              exact RC.step c v (hq.rc c hcq) (by omega) (by omega) (hin.2 c1)
        have hs := fun k => fa_set (far := far) (x := fa far c + 1) hlo k
        have hold : ∀ v, v ∈ q → fa (far.set j (fa far c + 1)) v = fa far v := fun v hv => by
          rw [hs, if_neg (by rintro rfl; exact hjq hv)]
        have hat : ∀ (a v : Nat), (q ++ [j])[a]? = some v → (q[a]? = some v ∧ v ∈ q) ∨ (a = q.length ∧ v = j) := by
          intro a v h
          by_cases ha : a < q.length
          · rw [List.getElem?_append_left ha] at h
            exact .inl ⟨h, List.mem_of_getElem? h⟩
          · rw [List.getElem?_append_right (by omega), List.getElem?_singleton] at h
            by_cases e : a - q.length = 0
            · rw [if_pos e] at h
              exact .inr ⟨by omega, (Option.some.inj h).symm⟩
            · rw [if_neg e] at h; cases h
        have hm2 : Far rows s (far.set j (fa far c + 1)) (q ++ [j]) i := by
          refine ⟨by rw [List.length_set]; exact hm.len, ?_, ?_, by rw [hold s hq.mem]; exact hm.zero, ?_, ?_, ?_, ?_⟩
          · intro k hk
            rw [hs]
            by_cases e : k = j
            · subst e; simp; omega
            · rw [if_neg e, hm.mem k hk]; simp [e]
          · intro k
            rw [hs]
            have := hm.low k
            by_cases e : k = j
            · rw [if_pos e]; omega
            · rw [if_neg e]; exact this
          · intro v hv
            rcases List.mem_append.1 hv with hv | hv
            · rw [hold v hv]; exact hm.wk v hv
            · rw [List.mem_singleton] at hv
              subst hv
              rw [hs, if_pos rfl, show (fa far c + 1).toNat = (fa far c).toNat + 1 from by omega]
              exact Wk.step c v _ (hm.wk c hcq) (by omega) (hin.2 c1)
          · intro a v h
            rcases hat a v h with ⟨h1, h2⟩ | ⟨h1, h2⟩
            · rw [hold v h2]; exact hm.idx a v h1
            · subst h2; rw [hs, if_pos rfl]; omega
          · intro a b u v hab hu hv
            rcases hat b v hv with ⟨h1, h2⟩ | ⟨h1, h2⟩
            · rcases hat a u hu with ⟨h3, h4⟩ | ⟨h3, h4⟩
              · rw [hold v h2, hold u h4]; exact hm.mono a b u v hab h3 h1
              · exfalso
                have := (List.getElem?_eq_some_iff.1 h1).1
                omega
            · subst h2
              rw [hs v, if_pos rfl]
              rcases hat a u hu with ⟨h3, h4⟩ | ⟨h3, h4⟩
              · rw [hold u h4]; exact ht u h4
              · subst h4; rw [hs, if_pos rfl]; exact Int.le_refl _
          · intro a ha u hu k hk he
            rcases hat a u hu with ⟨h1, h2⟩ | ⟨h1, h2⟩
            · obtain ⟨h3, h4⟩ := hm.near a ha u h1 k hk he
              rw [hold u h2, hold k h3]
              exact ⟨List.mem_append_left _ h3, h4⟩
            · omega
        have hql2 := hq2.len
        rw [List.length_append, List.length_singleton] at hql2
        have ht2 : ∀ v ∈ q ++ [j], fa (far.set j (fa far c + 1)) v ≤ fa (far.set j (fa far c + 1)) c + 1 := by
          intro v hv
          rw [hold c hcq]
          rcases List.mem_append.1 hv with hv | hv
          · rw [hold v hv]; exact ht v hv
          · rw [List.mem_singleton] at hv; subst hv; rw [hs, if_pos rfl]; exact Int.le_refl _
        obtain ⟨far', q', h1, h2, h3, h4, h5, E⟩ := ih (j + 1) (far.set j (fa far c + 1)) (q ++ [j]) (by omega) hq2 hm2 ht2 (by rw [List.length_append]; omega) (by rw [List.getElem?_append_left hi]; exact hqi)
          (fun k hk he => if h : k = j then by simp [h] else List.mem_append_left _ (hd k (by omega) he))
        refine ⟨far', q', h1, h2, h3, (List.prefix_append q [j]).trans h4, h5, fun k hk => ?_⟩
        obtain ⟨k, rfl⟩ : ∃ m, k = m + 1 := ⟨k - 1, by omega⟩
        simp only [spec_saFar.l2]
        rw [if_pos (by omega), if_pos (by omega), if_pos (by omega), rd_get hlt, if_pos (by omega), if_pos (by omega), rd_fa hlo, if_pos c2, if_pos (by omega), if_pos (by rw [List.length_map]; omega), rd_nats hi, hgc, if_pos (by omega), if_pos (by omega),
          if_pos (by rw [List.length_map]; omega), rd_fa hcf, w64 (x := fa far c + 1) (by omega) (by omega), w64 (x := (j : Int) + 1) (by omega) (by omega), Int.toNat_natCast]
        have := E k (by omega)
        rw [List.map_append, List.map_singleton] at this
        rw [show k + 1 - (m + 1) - 1 = k - m - 1 from by omega]
        exact this
      · have hjq : j ∈ q := (hm.mem j (by omega)).1 (by omega)
        obtain ⟨far', q', h1, h2, h3, h4, h5, E⟩ := ih (j + 1) far q (by omega) hq hm ht hi hqi (fun k hk he => if h : k = j then h ▸ hjq else hd k (by omega) he)
        refine ⟨far', q', h1, h2, h3, h4, h5, fun k hk => ?_⟩
        obtain ⟨k, rfl⟩ : ∃ m, k = m + 1 := ⟨k - 1, by omega⟩
        simp only [spec_saFar.l2]
        rw [if_pos (by omega), if_pos (by omega), if_pos (by omega), rd_get hlt, if_pos (by omega), if_pos (by omega), rd_fa hlo, if_neg c2, w64 (x := (j : Int) + 1) (by omega) (by omega)]
        have := E k (by omega)
        rw [show k + 1 - (m + 1) - 1 = k - m - 1 from by omega]
        exact this
    · obtain ⟨far', q', h1, h2, h3, h4, h5, E⟩ := ih (j + 1) far q (by omega) hq hm ht hi hqi (fun k hk he => if h : k = j then absurd (hin.1 (h ▸ he)) c1 else hd k (by omega) he)
      refine ⟨far', q', h1, h2, h3, h4, h5, fun k hk => ?_⟩
      obtain ⟨k, rfl⟩ : ∃ m, k = m + 1 := ⟨k - 1, by omega⟩
      simp only [spec_saFar.l2]
      rw [if_pos (by omega), if_pos (by omega), if_pos (by omega), rd_get hlt, if_neg (by omega), w64 (x := (j : Int) + 1) (by omega) (by omega)]
      have := E k (by omega)
      rw [show k + 1 - (m + 1) - 1 = k - m - 1 from by omega]
      exact this

theorem saFar_l1 (o : Int) (rows : List (List Int)) (s : Nat) (hn : rows.length ≤ 5) (hsq : ∀ r ∈ rows, r.length = rows.length) :
    ∀ (d i : Nat) (far : List Int) (q : List Nat), i + d = rows.length → i ≤ q.length → Qu rows (-1) s q → Far rows s far q i → Through rows (-1) q i → (∀ c, q[i]? = some c → ∀ v ∈ q, fa far v ≤ fa far c + 1) →
    ∃ far' q', Qu rows (-1) s q' ∧ Far rows s far' q' q'.length ∧ Through rows (-1) q' q'.length ∧ ∀ k, 10 * d + 1 ≤ k → spec_saFar.l1 k far (q.map (fun v : Nat => (v : Int))) i o rows = some far' := by
  have fin : ∀ (i : Nat) (far : List Int) (q : List Nat), q.length ≤ i → i ≤ q.length → Qu rows (-1) s q → Far rows s far q i → Through rows (-1) q i →
      ∃ far' q', Qu rows (-1) s q' ∧ Far rows s far' q' q'.length ∧ Through rows (-1) q' q'.length ∧ ∀ k, 1 ≤ k → spec_saFar.l1 k far (q.map (fun v : Nat => (v : Int))) i o rows = some far' := by
    intro i far q h1 h2 hq hm ht
    obtain rfl : i = q.length := by omega
    refine ⟨far, q, hq, hm, ht, fun k hk => ?_⟩
    obtain ⟨k, rfl⟩ : ∃ m, k = m + 1 := ⟨k - 1, by omega⟩
    simp only [spec_saFar.l1]
    rw [if_neg (by rw [List.length_map]; omega)]
  intro d
  induction d with
  | zero =>
    intro i far q hi hiq hq hm ht _
    have := hq.len
    obtain ⟨far', q', h1, h2, h3, E⟩ := fin i far q (by omega) hiq hq hm ht
    exact ⟨far', q', h1, h2, h3, fun k hk => E k (by omega)⟩
  | succ d ih =>
    intro i far q hi hiq hq hm ht htop
    have hql := hq.len
    by_cases c0 : i < q.length
    · have hqi : q[i]? = some q[i] := List.getElem?_eq_getElem c0
      have hc := hq.lt _ (List.getElem_mem c0)
      obtain ⟨far1, q1, hq1, hm1, ht1, hp, hall, E1⟩ := saFar_l2 o rows s hn hsq i q[i] hc rows.length 0 far q (by omega) hq hm (htop _ hqi) c0 hqi (fun k hk => absurd hk (Nat.not_lt_zero _))
      have hpl := hp.length_le
      have hqi1 : q1[i]? = some q[i] := by
        obtain ⟨t, rfl⟩ := hp
        rw [List.getElem?_append_left c0]; exact hqi
      have hm2 : Far rows s far1 q1 (i + 1) := by
        refine ⟨hm1.len, hm1.mem, hm1.low, hm1.zero, hm1.wk, hm1.idx, hm1.mono, ?_⟩
        intro a ha u hu k hk he
        by_cases e : a = i
        · subst e
          rw [hqi1] at hu
          injection hu with hu
          subst hu
          have := hall k hk he
          exact ⟨this, ht1 k this⟩
        · exact hm1.near a (by omega) u hu k hk he
      have hth : Through rows (-1) q1 (i + 1) := by
        intro a ha v hv hvc k hk he
        by_cases e : a = i
        · subst e
          rw [hqi1] at hv
          injection hv with hv
          exact hall k hk (hv ▸ he)
        · exact ht.more hiq hp a (by omega) v hv hvc k hk he
      obtain ⟨far', q', h1, h2, h3, E⟩ := ih (i + 1) far1 q1 (by omega) (by omega) hq1 hm2 hth (by
        intro c hc' v hv
        have h5 := ht1 v hv
        have h6 := hm1.mono i (i + 1) q[i] c (by omega) hqi1 hc'
        omega)
      refine ⟨far', q', h1, h2, h3, fun k hk => ?_⟩
      obtain ⟨k, rfl⟩ : ∃ m, k = m + 1 := ⟨k - 1, by omega⟩
      simp only [spec_saFar.l1]
      rw [if_pos (by rw [List.length_map]; omega), if_pos (by omega), rd_nats c0, if_pos (by omega), if_pos (by omega), rd1_get hc]
      exact (E1 k (by omega)).trans (E _ (by omega))
    · obtain ⟨far', q', h1, h2, h3, E⟩ := fin i far q (by omega) hiq hq hm ht
      exact ⟨far', q', h1, h2, h3, fun k hk => E k (by omega)⟩

/-- What saFar tells. -/
structure IsFar (rows : List (List Int)) (s : Nat) (far : List Int) : Prop where
  len : far.length = rows.length
  low : ∀ k, -1 ≤ fa far k
  high : ∀ k, k < rows.length → fa far k < rows.length
  mem : ∀ k, k < rows.length → (0 ≤ fa far k ↔ RC rows (-1) s k)
  wk : ∀ k, k < rows.length → 0 ≤ fa far k → Wk rows s k (fa far k).toNat
  near : ∀ u k, u < rows.length → k < rows.length → 0 ≤ fa far u → Edge rows u k → 0 ≤ fa far k ∧ fa far k ≤ fa far u + 1
  zero : fa far s = 0

theorem saFar_l0 (o : Int) (rows : List (List Int)) (s : Nat) (hn : rows.length ≤ 5) (hsq : ∀ r ∈ rows, r.length = rows.length) (hs : s < rows.length) :
    ∀ (m j : Nat) (far : List Int), j + m = rows.length → far.length = rows.length → (∀ k, k < j → fa far k = -1) →
    ∃ far', IsFar rows s far' ∧ ∀ k, m + 60 < k → spec_saFar.l0 k s far (rows.length : Int) j o rows = some far' := by
  intro m
  induction m with
  | zero =>
    intro j far hj hl hd
    have hq : Qu rows (-1) s [s] := ⟨by simp, by simp [hs], by simp [RC.base], by simp⟩
    have hset := fun k => fa_set (far := far) (j := s) (x := 0) (by omega) k
    have hout : ∀ k, rows.length ≤ k → fa far k = -1 := by
      intro k hk
      unfold fa
      rw [List.getD_eq_getElem?_getD, List.getElem?_eq_none (by omega)]
      rfl
    have hold : ∀ k, fa far k = -1 := fun k => if h : k < rows.length then hd k (by omega) else hout k (by omega)
    have hone : ∀ (a v : Nat), ([s] : List Nat)[a]? = some v → a = 0 ∧ v = s := by
      intro a v h
      rw [List.getElem?_singleton] at h
      by_cases e : a = 0
      · rw [if_pos e] at h; exact ⟨e, (Option.some.inj h).symm⟩
      · rw [if_neg e] at h; cases h
    have hm : Far rows s (far.set s 0) [s] 0 := by
      refine ⟨by rw [List.length_set]; exact hl, ?_, ?_, by rw [hset, if_pos rfl], ?_, ?_, ?_, ?_⟩
      · intro k hk
        rw [hset]
        by_cases e : k = s
        · simp [e]
        · rw [if_neg e, hold]; simp [e]
      · intro k
        rw [hset]
        by_cases e : k = s
        · rw [if_pos e]; omega
        · rw [if_neg e, hold]; omega
      · intro v hv
        rw [List.mem_singleton] at hv
        subst hv
        rw [hset, if_pos rfl]
        exact Wk.base
      · intro a v h
        obtain ⟨rfl, rfl⟩ := hone a v h
        rw [hset, if_pos rfl]; simp
      · intro a b u v _ hu hv
        obtain ⟨_, rfl⟩ := hone a u hu
        obtain ⟨_, rfl⟩ := hone b v hv
        exact Int.le_refl _
      · intro a ha; omega
    obtain ⟨far', q', h1, h2, h3, E⟩ := saFar_l1 o rows s hn hsq rows.length 0 (far.set s 0) [s] (by omega) (by simp) hq hm (fun a ha => absurd ha (Nat.not_lt_zero _)) (by
      intro c hc v hv
      obtain ⟨_, rfl⟩ := hone 0 c hc
      rw [List.mem_singleton] at hv
      subst hv
      omega)
    have hmem : ∀ k, k < rows.length → (0 ≤ fa far' k ↔ k ∈ q') := h2.mem
    have hq' := h1.len
    refine ⟨far', ⟨h2.len, h2.low, ?_, ?_, ?_, ?_, ?_⟩, fun k hk => ?_⟩
    · intro k hk
      by_cases c : 0 ≤ fa far' k
      · obtain ⟨a, ha, hv⟩ := List.getElem_of_mem ((hmem k hk).1 c)
        have := h2.idx a k (by rw [List.getElem?_eq_getElem ha, hv])
        omega
      · omega
    · intro k hk
      rw [hmem k hk, h1.all h3]
    · intro k hk h
      exact h2.wk k ((hmem k hk).1 h)
    · intro u k hu hk h he
      obtain ⟨a, ha, hv⟩ := List.getElem_of_mem ((hmem u hu).1 h)
      obtain ⟨h5, h6⟩ := h2.near a ha u (by rw [List.getElem?_eq_getElem ha, hv]) k hk he
      exact ⟨(hmem k hk).2 h5, h6⟩
    · exact h2.zero
    · obtain ⟨k, rfl⟩ : ∃ m, k = m + 1 := ⟨k - 1, by omega⟩
      simp only [spec_saFar.l0]
      rw [if_neg (by omega), if_pos (by omega), if_pos (by omega), Int.toNat_natCast]
      exact E k (by omega)
  | succ m ih =>
    intro j far hj hl hd
    obtain ⟨far', h1, E⟩ := ih (j + 1) (far.set j (-1)) (by omega) (by rw [List.length_set]; exact hl) (fun k hk => by
      rw [fa_set (by omega)]
      by_cases e : k = j
      · rw [if_pos e]
      · rw [if_neg e]; exact hd k (by omega))
    refine ⟨far', h1, fun k hk => ?_⟩
    obtain ⟨k, rfl⟩ : ∃ m, k = m + 1 := ⟨k - 1, by omega⟩
    simp only [spec_saFar.l0]
    rw [if_pos (by omega), if_pos (by omega), if_pos (by omega), w64 (x := (j : Int) + 1) (by omega) (by omega), Int.toNat_natCast]
    exact E k (by omega)

theorem saFar_ev (o : Int) (rows : List (List Int)) (s : Nat) (hn : rows.length ≤ 5) (hsq : ∀ r ∈ rows, r.length = rows.length) (hs : s < rows.length) :
    ∃ far, IsFar rows s far ∧ ∀ k, 80 ≤ k → spec_saFar.f k o rows s = some far := by
  obtain ⟨far, h1, E⟩ := saFar_l0 o rows s hn hsq hs rows.length 0 (List.replicate rows.length 0) (by omega) (by simp) (fun k hk => absurd hk (Nat.not_lt_zero _))
  refine ⟨far, h1, fun k hk => ?_⟩
  simp only [spec_saFar.f]
  rw [if_pos (by omega), if_pos (by omega), Int.toNat_natCast]
  simp only [Option.bind_some, List.length_replicate]
  exact E k (by omega)

theorem Ev.some {α : Type} {g : Nat → Option α} {r : α} (h : ∀ k, g k = Option.some r) : Ev g r := ⟨0, fun k _ => h k⟩

/-- The state of a search in breadth: ways (each with its end in q), whose ways they continue (par); the first i have been gone through, of the one at i what lies below j. -/
structure Bf (rows : List (List Int)) (s tg : Nat) (ways : List (List Int)) (q : List Nat) (par : Nat → Nat) (i j : Nat) : Prop where
  len : ways.length = q.length
  pos : 0 < q.length
  q0 : q.getD 0 0 = s
  w0 : ways.getD 0 [] = [(s : Int)]
  lt : ∀ v ∈ q, v < rows.length
  nd : q.Nodup
  st : ∀ a, 0 < a → a < q.length → par a < a ∧ par a ≤ i ∧ ways.getD a [] = ways.getD (par a) [] ++ [((q.getD a 0 : Nat) : Int)] ∧ Edge rows (q.getD (par a) 0) (q.getD a 0)
  mo : ∀ a b, 0 < a → a < b → b < q.length → par a ≤ par b ∧ (par a = par b → q.getD a 0 < q.getD b 0)
  sb : ∀ a, 0 < a → a < q.length → par a = i → q.getD a 0 < j
  cl : ∀ p, p < i → p < q.length → ∀ v, v < rows.length → Edge rows (q.getD p 0) v → ∃ a, a < q.length ∧ q.getD a 0 = v ∧ (a = 0 ∨ par a ≤ p)
  cj : ∀ v, v < j → v < rows.length → i < q.length → Edge rows (q.getD i 0) v → ∃ a, a < q.length ∧ q.getD a 0 = v ∧ (a = 0 ∨ par a ≤ i)
  nt : ∀ p, p < i → p < q.length → q.getD p 0 ≠ tg
  ii : i ≤ q.length

section
variable {rows : List (List Int)} {s tg : Nat} {ways : List (List Int)} {q : List Nat} {par : Nat → Nat} {i j : Nat}

theorem Bf.qlen (h : Bf rows s tg ways q par i j) : q.length ≤ rows.length := by
  have h1 := List.Nodup.length_le_of_subset h.nd (l₂ := List.range rows.length) (fun v hv => List.mem_range.2 (h.lt v hv))
  simpa using h1

theorem gd_mem {q : List Nat} {a : Nat} (h : a < q.length) : q.getD a 0 ∈ q := by
  rw [List.getD_eq_getElem?_getD, List.getElem?_eq_getElem h]
  exact List.getElem_mem _

theorem mem_gd {q : List Nat} {v : Nat} (h : v ∈ q) : ∃ a, a < q.length ∧ q.getD a 0 = v := by
  obtain ⟨a, ha, e⟩ := List.getElem_of_mem h
  exact ⟨a, ha, by rw [List.getD_eq_getElem?_getD, List.getElem?_eq_getElem ha]; exact e⟩

theorem gd_inj {q : List Nat} (h : q.Nodup) {a b : Nat} (ha : a < q.length) (hb : b < q.length) (e : q.getD a 0 = q.getD b 0) : a = b := by
  rw [List.getD_eq_getElem?_getD, List.getD_eq_getElem?_getD, List.getElem?_eq_getElem ha, List.getElem?_eq_getElem hb] at e
  have hp := List.pairwise_iff_getElem.1 h
  rcases Nat.lt_trichotomy a b with c | c | c
  · exact absurd e (hp a b ha hb c)
  · exact c
  · exact absurd e.symm (hp b a hb ha c)

theorem gd_app {α : Type} {q : List α} {d x : α} {a : Nat} (h : a < q.length) : (q ++ [x]).getD a d = q.getD a d := by
  rw [List.getD_eq_getElem?_getD, List.getD_eq_getElem?_getD, List.getElem?_append_left h]
theorem gd_end {α : Type} {q : List α} {d x : α} : (q ++ [x]).getD q.length d = x := by
  rw [List.getD_eq_getElem?_getD, List.getElem?_append_right (Nat.le_refl _), Nat.sub_self]
  rfl

/-- How long the ways are, and where they end. -/
theorem Bf.way (h : Bf rows s tg ways q par i j) : ∀ a, a < q.length → ∃ P, ways.getD a [] = P ++ [((q.getD a 0 : Nat) : Int)] ∧ P.length ≤ a := by
  intro a
  induction a using Nat.strongRecOn with
  | _ a ih =>
    intro ha
    by_cases e : a = 0
    · subst e
      exact ⟨[], by rw [h.w0, h.q0]; rfl, Nat.le_refl _⟩
    · obtain ⟨h1, _, h3, _⟩ := h.st a (by omega) ha
      obtain ⟨P, hP, hl⟩ := ih (par a) h1 (by omega)
      refine ⟨ways.getD (par a) [], h3, ?_⟩
      rw [hP, List.length_append]
      simp
      omega

/-- One state more. -/
theorem Bf.add (h : Bf rows s tg ways q par i j) (hi : i < q.length) (hj : j < rows.length) (hn : j ∉ q) (he : Edge rows (q.getD i 0) j) :
    Bf rows s tg (ways ++ [ways.getD i [] ++ [(j : Int)]]) (q ++ [j]) (fun a => if a = q.length then i else par a) i (j + 1) := by
  have hl : ∀ {a}, a < q.length → (q ++ [j]).getD a 0 = q.getD a 0 := fun h => gd_app h
  have hw : ∀ {a}, a < q.length → (ways ++ [ways.getD i [] ++ [(j : Int)]]).getD a [] = ways.getD a [] := fun {a} h' => gd_app (by rw [h.len]; exact h')
  have hwe : (ways ++ [ways.getD i [] ++ [(j : Int)]]).getD q.length [] = ways.getD i [] ++ [(j : Int)] := by rw [← h.len]; exact gd_end
  have hqe : (q ++ [j]).getD q.length 0 = j := gd_end
  have hL : (q ++ [j]).length = q.length + 1 := by simp
  refine ⟨by simp [h.len], by omega, by rw [hl h.pos]; exact h.q0, by rw [hw h.pos]; exact h.w0, ?_, ?_, ?_, ?_, ?_, ?_, ?_, ?_, by omega⟩
  · intro v hv
    rcases List.mem_append.1 hv with hv | hv
    · exact h.lt v hv
    · rw [List.mem_singleton.1 hv]; exact hj
  · rw [List.nodup_append]
    refine ⟨h.nd, by simp, fun x hx y hy e => ?_⟩
    rw [List.mem_singleton.1 hy] at e
    exact hn (e ▸ hx)
  · intro a h0 ha
    by_cases e : a = q.length
    · subst e
      simp only [↓reduceIte]
      rw [hwe, hqe, hw hi, hl hi]
      exact ⟨hi, Nat.le_refl _, rfl, he⟩
    · have ha' : a < q.length := by omega
      obtain ⟨h1, h2, h3, h4⟩ := h.st a h0 ha'
      simp only [if_neg e]
      rw [hw ha', hw (by omega), hl ha', hl (by omega)]
      exact ⟨h1, h2, h3, h4⟩
  · intro a b h0 hab hb
    by_cases e : b = q.length
    · subst e
      have ha' : a < q.length := hab
      simp only [↓reduceIte, if_neg (show ¬ a = q.length by omega)]
      rw [hqe, hl ha']
      obtain ⟨_, h2, _⟩ := h.st a h0 ha'
      exact ⟨h2, fun e' => h.sb a h0 ha' e'⟩
    · simp only [if_neg e, if_neg (show ¬ a = q.length by omega)]
      rw [hl (by omega), hl (by omega)]
      exact h.mo a b h0 hab (by omega)
  · intro a h0 ha hp
    by_cases e : a = q.length
    · subst e; rw [hqe]; omega
    · simp only [if_neg e] at hp
      rw [hl (by omega)]
      have := h.sb a h0 (by omega) hp
      omega
  · intro p hp hp' v hv he'
    rw [hl (by omega)] at he'
    obtain ⟨a, ha, hav, hpa⟩ := h.cl p hp (by omega) v hv he'
    refine ⟨a, by omega, by rw [hl ha]; exact hav, ?_⟩
    rw [if_neg (show ¬ a = q.length by omega)]
    exact hpa
  · intro v hv hv' _ he'
    rw [hl hi] at he'
    by_cases e : v = j
    · subst e
      exact ⟨q.length, by omega, hqe, Or.inr (by simp)⟩
    · obtain ⟨a, ha, hav, hpa⟩ := h.cj v (by omega) hv' hi he'
      refine ⟨a, by omega, by rw [hl ha]; exact hav, ?_⟩
      rw [if_neg (show ¬ a = q.length by omega)]
      exact hpa
  · intro p hp _
    rw [hl (by omega)]
    exact h.nt p hp (by omega)

/-- Nothing new at j. -/
theorem Bf.skip (h : Bf rows s tg ways q par i j) (hs : j ∈ q ∨ ¬ Edge rows (q.getD i 0) j) : Bf rows s tg ways q par i (j + 1) := by
  refine { h with sb := fun a h0 ha hp => Nat.lt_succ_of_lt (h.sb a h0 ha hp), cj := fun v hv hv' hi he => ?_ }
  by_cases e : v = j
  · subst e
    rcases hs with hs | hs
    · obtain ⟨a, ha, hav⟩ := mem_gd hs
      refine ⟨a, ha, hav, ?_⟩
      by_cases e0 : a = 0
      · exact Or.inl e0
      · exact Or.inr (h.st a (by omega) ha).2.1
    · exact absurd he hs
  · exact h.cj v (by omega) hv' hi he

/-- The next one. -/
theorem Bf.next (h : Bf rows s tg ways q par i rows.length) (hi : i < q.length) (ht : q.getD i 0 ≠ tg) : Bf rows s tg ways q par (i + 1) 0 := by
  refine { h with st := fun a h0 ha => ?_, sb := fun a h0 ha hp => ?_, cl := fun p hp hp' v hv he => ?_, cj := fun v hv => absurd hv (Nat.not_lt_zero _), nt := fun p hp hp' => ?_, ii := hi }
  · obtain ⟨h1, h2, h3⟩ := h.st a h0 ha
    exact ⟨h1, by omega, h3⟩
  · have := (h.st a h0 ha).2.1
    omega
  · by_cases e : p = i
    · subst e; exact h.cj v hv hv hp' he
    · exact h.cl p (by omega) hp' v hv he
  · by_cases e : p = i
    · subst e; exact ht
    · exact h.nt p (by omega) hp'

/-- The beginning. -/
theorem Bf.init (rows : List (List Int)) (s tg : Nat) (hs : s < rows.length) : Bf rows s tg [[(s : Int)]] [s] (fun _ => 0) 0 0 := by
  refine ⟨rfl, by simp, rfl, rfl, by simp [hs], by simp, fun a h0 ha => ?_, fun a b h0 hab hb => ?_, fun a h0 ha _ => ?_, fun p hp => absurd hp (Nat.not_lt_zero _), fun v hv => absurd hv (Nat.not_lt_zero _), fun p hp => absurd hp (Nat.not_lt_zero _), Nat.zero_le _⟩
  · simp at ha; omega
  · simp at hb; omega
  · simp at ha; omega

theorem Wk.front {rows : List (List Int)} {a b d : Nat} (h : Wk rows a b (d + 1)) : ∃ c, c < rows.length ∧ Edge rows a c ∧ Wk rows c b d := by
  suffices H : ∀ b t, Wk rows a b t → ∀ d, t = d + 1 → ∃ c, c < rows.length ∧ Edge rows a c ∧ Wk rows c b d from H b _ h d rfl
  intro b t ht
  induction ht with
  | base => intro d e; omega
  | step i k t hi hk he ih =>
    intro d e
    have e' : d = t := by omega
    subst e'
    match d, hi, ih with
    | 0, hi, _ =>
      cases hi
      exact ⟨k, hk, he, Wk.base⟩
    | d + 1, hi, ih =>
      obtain ⟨c, hc, hec, hw⟩ := ih d rfl
      exact ⟨c, hc, hec, Wk.step i k d hw hk he⟩

theorem Wk.cons {rows : List (List Int)} {a b c d : Nat} (hc : c < rows.length) (he : Edge rows a c) (h : Wk rows c b d) : Wk rows a b (d + 1) := by
  induction h with
  | base => exact Wk.step a c 0 Wk.base hc he
  | step i k t _ hk hek ih => exact Wk.step i k (t + 1) ih hk hek

/-- What lies on the way tg the state at i: its place, and the states behind it. -/
inductive Anc (q : List Nat) (par : Nat → Nat) (i : Nat) : Nat → List Nat → Prop
  | refl : Anc q par i i []
  | up (a : Nat) (r : List Nat) : Anc q par i a r → 0 < a → Anc q par i (par a) (q.getD a 0 :: r)

theorem Anc.le (h : Bf rows s tg ways q par i j) (hi : i < q.length) {a : Nat} {r : List Nat} (ha : Anc q par i a r) : a ≤ i ∧ ways.getD a [] ++ r.map (fun v : Nat => (v : Int)) = ways.getD i [] ∧ Wk rows (q.getD a 0) (q.getD i 0) r.length := by
  induction ha with
  | refl => exact ⟨Nat.le_refl _, by simp, Wk.base⟩
  | up a r _ h0 ih =>
    obtain ⟨h1, h2, h3⟩ := ih
    obtain ⟨g1, _, g3, g4⟩ := h.st a h0 (by omega)
    refine ⟨by omega, ?_, Wk.cons (h.lt _ (gd_mem (by omega))) g4 h3⟩
    rw [← h2, g3]
    simp

theorem Anc.root (h : Bf rows s tg ways q par i j) (hi : i < q.length) : ∃ r, Anc q par i 0 r := by
  suffices H : ∀ a r, Anc q par i a r → a < q.length → ∃ r', Anc q par i 0 r' from H i [] Anc.refl hi
  intro a
  induction a using Nat.strongRecOn with
  | _ a ih =>
    intro r ha hl
    by_cases e : a = 0
    · subst e; exact ⟨r, ha⟩
    · obtain ⟨g1, _⟩ := h.st a (by omega) hl
      exact ih (par a) g1 _ (Anc.up a r ha (by omega)) (by omega)

/-- Longer ways stand behind shorter ones. -/
theorem Bf.level (h : Bf rows s tg ways q par i j) : ∀ b a, a ≤ b → b < q.length → (ways.getD a []).length ≤ (ways.getD b []).length := by
  intro b
  induction b using Nat.strongRecOn with
  | _ b ih =>
    intro a hab hb
    by_cases e : a = b
    · subst e; exact Nat.le_refl _
    · have hb0 : 0 < b := by omega
      obtain ⟨g1, _, g3, _⟩ := h.st b hb0 hb
      by_cases e0 : a = 0
      · subst e0
        rw [h.w0, g3, List.length_append]
        simp
      · obtain ⟨f1, _, f3, _⟩ := h.st a (by omega) (by omega)
        have hm := (h.mo a b (by omega) (by omega) hb).1
        have := ih (par b) g1 (par a) hm (by omega)
        rw [g3, f3, List.length_append, List.length_append]
        exact Nat.add_le_add this (Nat.le_refl _)

/-- Where a state's successor stands. -/
theorem Bf.succ (h : Bf rows s tg ways q par i j) {p v : Nat} (hp : p < i) (hl : p < q.length) (hv : v < rows.length) (he : Edge rows (q.getD p 0) v) :
    ∃ a, a < q.length ∧ q.getD a 0 = v ∧ (a = 0 ∨ par a ≤ p) ∧ (ways.getD a []).length ≤ (ways.getD p []).length + 1 := by
  obtain ⟨a, ha, hav, hpa⟩ := h.cl p hp hl v hv he
  refine ⟨a, ha, hav, hpa, ?_⟩
  by_cases e : a = 0
  · subst e; rw [h.w0]; simp
  · obtain ⟨g1, _, g3, _⟩ := h.st a (by omega) ha
    have := h.level p (par a) (by rcases hpa with hpa | hpa <;> omega) hl
    rw [g3, List.length_append]
    exact Nat.add_le_add this (Nat.le_refl _)

/-- No walk is shorter than the way. -/
theorem Bf.short (h : Bf rows s tg ways q par i j) (hi : i < q.length) {b t : Nat} (hb : b < q.length) (hw : Wk rows (q.getD b 0) (q.getD i 0) t) : (ways.getD i []).length ≤ (ways.getD b []).length + t := by
  suffices H : ∀ v t, Wk rows (q.getD b 0) v t → (ways.getD i []).length ≤ (ways.getD b []).length + t ∨ ∃ c, c < i ∧ q.getD c 0 = v ∧ (ways.getD c []).length ≤ (ways.getD b []).length + t by
    rcases H _ _ hw with H | ⟨c, hc, hv, _⟩
    · exact H
    · have := gd_inj h.nd (by omega) hi hv
      omega
  intro v t hv
  induction hv with
  | base =>
    by_cases e : b < i
    · exact Or.inr ⟨b, e, rfl, Nat.le_refl _⟩
    · exact Or.inl (h.level b i (by omega) hb)
  | step u v t _ hvl he ih =>
    rcases ih with ih | ⟨c, hc, hcu, hcl⟩
    · exact Or.inl (by omega)
    · rw [← hcu] at he
      obtain ⟨a, ha, hav, _, hal⟩ := h.succ hc (by omega) hvl he
      by_cases e : a < i
      · exact Or.inr ⟨a, e, hav, by omega⟩
      · have := h.level a i (by omega) ha
        exact Or.inl (by omega)

/-- From what stands ahead of the way no walk is as short. -/
theorem Bf.ahead (h : Bf rows s tg ways q par i j) (hi : i < q.length) {a : Nat} {r : List Nat} (ha : Anc q par i a r) : ∀ b, b < a → ¬ Wk rows (q.getD b 0) (q.getD i 0) r.length := by
  induction ha with
  | refl =>
    intro b hb hw
    have hw' : Wk rows (q.getD b 0) (q.getD i 0) 0 := hw
    generalize he : q.getD i 0 = x at hw'
    cases hw'
    have := gd_inj h.nd (by omega) hi he.symm
    omega
  | up a r ha h0 ih =>
    intro b hb hw
    obtain ⟨hai, _⟩ := Anc.le h hi ha
    obtain ⟨g1, _⟩ := h.st a h0 (by omega)
    obtain ⟨v, hv, he, hw2⟩ := Wk.front (show Wk rows (q.getD b 0) (q.getD i 0) (r.length + 1) from hw)
    obtain ⟨c, hc, hcv, hpc, _⟩ := h.succ (by omega : b < i) (by omega) hv he
    have hca : c < a := by
      by_cases e : c = 0
      · omega
      · by_cases e2 : c < a
        · exact e2
        · have h3 : par c ≤ b := by omega
          by_cases e3 : a = c
          · subst e3; omega
          · have := (h.mo a c h0 (by omega) hc).1
            omega
    rw [← hcv] at hw2
    exact ih c hca hw2

/-- The least successor from which the rest of the way is as short: the one on the way. -/
theorem Bf.least (h : Bf rows s tg ways q par i j) (hi : i < q.length) {a : Nat} {r : List Nat} (ha : Anc q par i a r) (h0 : 0 < a) {v : Nat} (hv : v < q.getD a 0) (hvl : v < rows.length) (he : Edge rows (q.getD (par a) 0) v) : ¬ Wk rows v (q.getD i 0) r.length := by
  intro hw
  obtain ⟨hai, _⟩ := Anc.le h hi ha
  obtain ⟨g1, _⟩ := h.st a h0 (by omega)
  obtain ⟨c, hc, hcv, hpc, _⟩ := h.succ (by omega : par a < i) (by omega) hvl he
  have hca : c < a := by
    by_cases e : c = 0
    · omega
    · by_cases e2 : c < a
      · exact e2
      · have h3 : par c ≤ par a := by omega
        by_cases e3 : a = c
        · subst e3; omega
        · have h4 := h.mo a c h0 (by omega) hc
          have h5 := h4.2 (by omega)
          omega
  rw [← hcv] at hw
  exact h.ahead hi ha c hca hw
end

theorem rdL_gd (xs : List (List Int)) (j : Nat) : rd_L1 xs (j : Int) = xs.getD j [] := by
  unfold rd_L1
  rw [Int.toNat_natCast]
theorem rdI_gd (xs : List Int) (j : Nat) : rd xs (j : Int) = xs.getD j 0 := by
  unfold rd
  rw [Int.toNat_natCast]
theorem setI_gd {xs : List Int} {j : Nat} (h : j < xs.length) (b : Int) (v : Nat) : (xs.set j b).getD v 0 = if v = j then b else xs.getD v 0 := by
  rw [List.getD_eq_getElem?_getD, List.getD_eq_getElem?_getD, List.getElem?_set]
  by_cases e : j = v
  · subst e; simp [h]
  · rw [if_neg e, if_neg (fun h => e h.symm)]

theorem fw_l1 (o : Int) (rows : List (List Int)) (hn : rows.length ≤ 5) (hsq : ∀ r ∈ rows, r.length = rows.length) (s tg i c : Nat) (hc : c < rows.length) :
    ∀ (m j : Nat) (ways : List (List Int)) (seen : List Int) (q : List Nat) (par : Nat → Nat), j + m = rows.length → Bf rows s tg ways q par i j → i < q.length → q.getD i 0 = c → seen.length = rows.length → (∀ k, k < rows.length → (seen.getD k 0 = 0 ↔ k ∉ q)) →
      ∃ ways' seen' q' par', Bf rows s tg ways' q' par' i rows.length ∧ i < q'.length ∧ q'.getD i 0 = c ∧ seen'.length = rows.length ∧ (∀ k, k < rows.length → (seen'.getD k 0 = 0 ↔ k ∉ q')) ∧
        ∀ k, impl_FirstWay.l1 (k + m + 1) tg ways seen i rows[c] (rows[c].length : Int) (j : Int) o rows = impl_FirstWay.l0 k tg ways' seen' (wrap64 ((i : Int) + 1)) o rows := by
  intro m
  induction m with
  | zero =>
    intro j ways seen q par hj hb hi hq hl hs
    have hrl : rows[c].length = rows.length := hsq _ (List.getElem_mem _)
    refine ⟨ways, seen, q, par, by rw [show rows.length = j from by omega]; exact hb, hi, hq, hl, hs, fun k => ?_⟩
    rw [Nat.add_zero]
    simp only [impl_FirstWay.l1]
    rw [if_neg (by omega)]
  | succ m ih =>
    intro j ways seen q par hj hb hi hq hl hs
    have hrl : rows[c].length = rows.length := hsq _ (List.getElem_mem _)
    have hw : wrap64 ((j : Int) + 1) = ((j + 1 : Nat) : Int) := by rw [w64 (by omega) (by omega)]; omega
    have hql := hb.qlen
    have hwl := hb.len
    have hlt : j < rows[c].length := by omega
    have c1 : (j : Int) < (rows[c].length : Int) := by omega
    have c2 : (0 : Int) ≤ (j : Int) := Int.natCast_nonneg _
    have c3 : (j : Int) < (seen.length : Int) := by omega
    have c4 : (0 : Int) ≤ (i : Int) := Int.natCast_nonneg _
    have c5 : (i : Int) < (ways.length : Int) := by omega
    obtain ⟨P, hP, hPl⟩ := hb.way i hi
    have hPlen : (ways.getD i []).length = P.length + 1 := by rw [hP]; simp
    have c6 : 0 < (ways.getD i []).length := by omega
    have c7 : (ways.getD i []).length ≤ 1048576 := by omega
    have c8 : (ways.getD i []).length < 17592186044416 := by omega
    have c9 : ways.length < 5864062014805 := by omega
    by_cases e : Edge rows c j
    · have e' : rd rows[c] (j : Int) > 0 := by rw [rd_get hlt]; exact (edge_get hc hlt).1 e
      by_cases d : j ∈ q
      · obtain ⟨ways', seen', q', par', g1, g2, g3, g4, g5, g6⟩ := ih (j + 1) ways seen q par (by omega) (hb.skip (Or.inl d)) hi hq hl hs
        refine ⟨ways', seen', q', par', g1, g2, g3, g4, g5, fun k => ?_⟩
        have d' : ¬ rd seen (j : Int) = 0 := by rw [rdI_gd]; exact fun h => (hs j (by omega)).1 h d
        have hg := g6 k
        rw [show k + (m + 1) + 1 = (k + m + 1) + 1 from by omega]
        generalize k + m + 1 = K at hg ⊢
        simp only [impl_FirstWay.l1]
        rw [if_pos c1, if_pos c2, if_pos c1, if_pos e', if_pos c3, if_neg d', hw]
        exact hg
      · have hadd := hb.add hi (by omega) d (by rw [hq]; exact e)
        obtain ⟨ways', seen', q', par', g1, g2, g3, g4, g5, g6⟩ := ih (j + 1) (ways ++ [ways.getD i [] ++ [(j : Int)]]) (seen.set j 1) (q ++ [j]) _ (by omega) hadd (by simp; omega) (by rw [gd_app hi]; exact hq) (by simp [hl]) (fun k hk => by
          rw [setI_gd (by omega)]
          by_cases ek : k = j
          · subst ek; simp
          · rw [if_neg ek, hs k hk]
            simp [ek])
        refine ⟨ways', seen', q', par', g1, g2, g3, g4, g5, fun k => ?_⟩
        have d' : rd seen (j : Int) = 0 := by rw [rdI_gd]; exact (hs j (by omega)).2 d
        have hg := g6 k
        rw [show k + (m + 1) + 1 = (k + m + 1) + 1 from by omega]
        generalize k + m + 1 = K at hg ⊢
        simp only [impl_FirstWay.l1]
        rw [if_pos c1, if_pos c2, if_pos c1, if_pos e', if_pos c3, if_pos d', if_pos c4, if_pos c5, rdL_gd]
        simp only [slices_Clone_int_int.f]
        rw [if_pos c6, if_pos c7, Option.bind_some, if_pos c8, if_pos c9, hw, Int.toNat_natCast]
        exact hg
    · have e' : ¬ rd rows[c] (j : Int) > 0 := by rw [rd_get hlt]; exact fun h => e ((edge_get hc hlt).2 h)
      obtain ⟨ways', seen', q', par', g1, g2, g3, g4, g5, g6⟩ := ih (j + 1) ways seen q par (by omega) (hb.skip (Or.inr (by rw [hq]; exact e))) hi hq hl hs
      refine ⟨ways', seen', q', par', g1, g2, g3, g4, g5, fun k => ?_⟩
      have hg := g6 k
      rw [show k + (m + 1) + 1 = (k + m + 1) + 1 from by omega]
      generalize k + m + 1 = K at hg ⊢
      simp only [impl_FirstWay.l1]
      rw [if_pos c1, if_pos c2, if_pos c1, if_neg e', hw]
      exact hg

theorem ltc {a b : Nat} (h : a < b) : (a : Int) < (b : Int) := Int.ofNat_lt.2 h
theorem nnc (a : Nat) : (0 : Int) ≤ (a : Int) := Int.natCast_nonneg a
theorem wsucc {i : Nat} (h : i ≤ 100000) : wrap64 ((i : Int) + 1) = ((i + 1 : Nat) : Int) := by rw [w64 (by omega) (by omega)]; omega
theorem wpred {i : Nat} (h : i ≤ 100000) : wrap64 (((i + 1 : Nat) : Int) - 1) = (i : Int) := by rw [w64 (by omega) (by omega)]; omega
theorem wback {r : Nat} (h : r ≤ 100000) : wrap64 ((r : Int) + 1 - 1) = (r : Int) := by rw [w64 (by omega) (by omega)]; omega

/-- One way gone through: where it ends is read. -/
theorem fw_look (o : Int) (rows : List (List Int)) (tg : Int) (ways : List (List Int)) (seen : List Int) (i : Nat) (P : List Int) (c : Nat) (hi : i < ways.length) (hP : ways.getD i [] = P ++ [(c : Int)]) (hPl : P.length ≤ 1000) (k : Nat) :
    impl_FirstWay.l0 (k + 1) tg ways seen (i : Int) o rows = if (c : Int) = tg then some (ways.getD i [], true) else (if 0 ≤ (c : Int) then (if (c : Int) < (rows.length : Int) then impl_FirstWay.l1 k tg ways seen i (rd_L1 rows (c : Int)) ((rd_L1 rows (c : Int)).length : Int) 0 o rows else none) else none) := by
  have hPlen : (ways.getD i []).length = P.length + 1 := by rw [hP, List.length_append]; rfl
  have c4 : ((P.length : Nat) : Int) < ((ways.getD i []).length : Int) := ltc (by rw [hPlen]; exact Nat.lt_succ_self _)
  have e2 : rd (ways.getD i []) ((P.length : Nat) : Int) = (c : Int) := by
    rw [rdI_gd, hP]
    exact gd_end
  have e1 : wrap64 (((ways.getD i []).length : Int) - 1) = ((P.length : Nat) : Int) := by rw [hPlen]; exact wpred (Nat.le_trans hPl (by decide))
  simp only [impl_FirstWay.l0]
  rw [if_pos (ltc hi), if_pos (nnc i), rdL_gd, e1, if_pos (nnc _), if_pos c4, e2]

theorem fw_l0 (o : Int) (rows : List (List Int)) (hn : rows.length ≤ 5) (hsq : ∀ r ∈ rows, r.length = rows.length) (s tg : Nat) :
    ∀ (m i : Nat) (ways : List (List Int)) (seen : List Int) (q : List Nat) (par : Nat → Nat), i + m = rows.length → Bf rows s tg ways q par i 0 → seen.length = rows.length → (∀ k, k < rows.length → (seen.getD k 0 = 0 ↔ k ∉ q)) →
      (∃ ways' q' par' i', Bf rows s tg ways' q' par' i' 0 ∧ i' < q'.length ∧ q'.getD i' 0 = tg ∧ ∀ k, 10 * m + 10 ≤ k → impl_FirstWay.l0 k tg ways seen (i : Int) o rows = some (ways'.getD i' [], true)) ∨
      (∃ ways' q' par', Bf rows s tg ways' q' par' q'.length 0 ∧ ∀ k, 10 * m + 10 ≤ k → impl_FirstWay.l0 k tg ways seen (i : Int) o rows = some ([], false)) := by
  intro m
  have hend : ∀ (m i : Nat) (ways : List (List Int)) (seen : List Int), ways.length ≤ i → ∀ k, 10 * m + 10 ≤ k → impl_FirstWay.l0 k tg ways seen (i : Int) o rows = some ([], false) := by
    intro m i ways seen h k hk
    obtain ⟨k, rfl⟩ : ∃ r, k = r + 1 := ⟨k - 1, by omega⟩
    simp only [impl_FirstWay.l0]
    rw [if_neg (fun hc => Nat.not_lt.2 h (Int.ofNat_lt.1 hc))]
  induction m with
  | zero =>
    intro i ways seen q par hi hb hl hs
    have hql := hb.qlen
    have hii := hb.ii
    have hwl := hb.len
    have hq : q.length = i := by omega
    exact Or.inr ⟨ways, q, par, by rw [hq]; exact hb, hend 0 i ways seen (by omega)⟩
  | succ m ih =>
    intro i ways seen q par hi hb hl hs
    have hql := hb.qlen
    have hii := hb.ii
    have hwl := hb.len
    by_cases c : i < q.length
    · obtain ⟨P, hP, hPl⟩ := hb.way i c
      have hcl := hb.lt _ (gd_mem c)
      have hlook := fw_look o rows tg ways seen i P (q.getD i 0) (by omega) hP (by omega)
      by_cases d : q.getD i 0 = tg
      · refine Or.inl ⟨ways, q, par, i, hb, c, d, fun k hk => ?_⟩
        obtain ⟨k, rfl⟩ : ∃ r, k = r + 1 := ⟨k - 1, by omega⟩
        have hd : ((q.getD i 0 : Nat) : Int) = (tg : Int) := by rw [d]
        rw [hlook k, if_pos hd]
      · obtain ⟨ways', seen', q', par', g1, g2, g3, g4, g5, g6⟩ := fw_l1 o rows hn hsq s tg i (q.getD i 0) hcl rows.length 0 ways seen q par (by omega) hb c rfl hl hs
        have hnx := g1.next g2 (by rw [g3]; exact d)
        have hr : rd_L1 rows ((q.getD i 0 : Nat) : Int) = rows[q.getD i 0] := by
          rw [rdL_gd, List.getD_eq_getElem?_getD, List.getElem?_eq_getElem hcl]
          rfl
        have h100 : i ≤ 100000 := by omega
        have hstep : ∀ k, impl_FirstWay.l0 (k + rows.length + 1 + 1) tg ways seen (i : Int) o rows = impl_FirstWay.l0 k tg ways' seen' ((i + 1 : Nat) : Int) o rows := by
          intro k
          have hg := g6 k
          rw [hlook (k + rows.length + 1), if_neg (fun h => d (Int.ofNat_inj.1 h)), if_pos (nnc _), if_pos (ltc hcl), hr, ← wsucc h100]
          exact hg
        rcases ih (i + 1) ways' seen' q' par' (by omega) hnx g4 g5 with ⟨w1, q1, p1, i1, f1, f2, f3, f4⟩ | ⟨w1, q1, p1, f1, f4⟩
        · refine Or.inl ⟨w1, q1, p1, i1, f1, f2, f3, fun k hk => ?_⟩
          obtain ⟨k, rfl⟩ : ∃ r, k = r + rows.length + 1 + 1 := ⟨k - rows.length - 2, by omega⟩
          rw [hstep k]
          exact f4 k (by omega)
        · refine Or.inr ⟨w1, q1, p1, f1, fun k hk => ?_⟩
          obtain ⟨k, rfl⟩ : ∃ r, k = r + rows.length + 1 + 1 := ⟨k - rows.length - 2, by omega⟩
          rw [hstep k]
          exact f4 k (by omega)
    · have hq : q.length = i := by omega
      exact Or.inr ⟨ways, q, par, by rw [hq]; exact hb, hend (m + 1) i ways seen (by omega)⟩

theorem far_le {rows : List (List Int)} {s : Nat} {far : List Int} (hs : s < rows.length) (hf : IsFar rows s far) {v t : Nat} (h : Wk rows s v t) : v < rows.length ∧ 0 ≤ fa far v ∧ fa far v ≤ t := by
  induction h with
  | base => exact ⟨hs, by rw [hf.zero]; omega, by rw [hf.zero]; omega⟩
  | step u v t _ hv he ih =>
    obtain ⟨h1, h2, h3⟩ := ih
    obtain ⟨h4, h5⟩ := hf.near u v h1 hv h2 he
    exact ⟨hv, h4, by omega⟩

/-- One column looked at. -/
theorem fw_col (o : Int) (rows : List (List Int)) (tg : Nat) (acc : List Int) (y : Int) (r : Nat) (row : List Int) (j : Nat) (hj : j < row.length) (hr : r ≤ 100) (ha : acc.length ≤ 1000) (K : Nat) (far : List Int) (hfl : tg < far.length) (E : spec_saFar.f K o rows (j : Int) = some far) :
    spec_FirstWay.l1 (K + 1) tg acc y ((r : Int) + 1) row (row.length : Int) (j : Int) o rows = if rd row (j : Int) > 0 then (if rd far (tg : Int) = (r : Int) then spec_FirstWay.l0 K tg (acc ++ [(j : Int)]) j r o rows else spec_FirstWay.l1 K tg acc y ((r : Int) + 1) row (row.length : Int) (wrap64 ((j : Int) + 1)) o rows) else spec_FirstWay.l1 K tg acc y ((r : Int) + 1) row (row.length : Int) (wrap64 ((j : Int) + 1)) o rows := by
  have c9 : acc.length < 17592186044416 := Nat.lt_of_le_of_lt ha (by decide)
  have hwr : wrap64 ((r : Int) + 1 - 1) = (r : Int) := wback (Nat.le_trans hr (by decide))
  simp only [spec_FirstWay.l1]
  rw [if_pos (ltc hj), if_pos (nnc j), if_pos (ltc hj), E, Option.bind_some, if_pos (nnc tg), if_pos (ltc hfl), hwr, if_pos c9]

theorem fw_s1 (o : Int) (rows : List (List Int)) (hn : rows.length ≤ 5) (hsq : ∀ r ∈ rows, r.length = rows.length) (tg c y r : Nat) (htg : tg < rows.length) (hc : c < rows.length) (hy : y < rows.length) (he : Edge rows c y)
    (hy1 : Wk rows y tg r) (hy2 : ∀ t, Wk rows y tg t → r ≤ t) (hv : ∀ v, v < y → Edge rows c v → ¬ Wk rows v tg r) (hr : r ≤ 100) (acc : List Int) (ha : acc.length ≤ 1000) :
    ∀ (m j : Nat), j + m = y → ∀ k, 80 ≤ k →
      spec_FirstWay.l1 (k + m + 1) tg acc c ((r : Int) + 1) rows[c] (rows[c].length : Int) (j : Int) o rows = spec_FirstWay.l0 k tg (acc ++ [(y : Int)]) y r o rows := by
  have hrl : rows[c].length = rows.length := hsq _ (List.getElem_mem _)
  intro m
  induction m with
  | zero =>
    intro j hj k hk
    obtain rfl : j = y := by omega
    have hlt : j < rows[c].length := by omega
    obtain ⟨far, hf, E⟩ := saFar_ev o rows j hn hsq hy
    obtain ⟨_, f1, f2⟩ := far_le hy hf hy1
    have f3 := hy2 _ (hf.wk tg htg f1)
    have hfl := hf.len
    have hfa : rd far (tg : Int) = (r : Int) := by rw [rd_fa (by rw [hfl]; exact htg)]; omega
    have e' : rd rows[c] (j : Int) > 0 := by rw [rd_get hlt]; exact (edge_get hc hlt).1 he
    rw [Nat.add_zero, fw_col o rows tg acc c r rows[c] j hlt hr ha k far (by rw [hfl]; exact htg) (E k hk), if_pos e', if_pos hfa]
  | succ m ih =>
    intro j hj k hk
    have hlt : j < rows[c].length := by omega
    have hjy : j < y := by omega
    have hj5 : j ≤ 100000 := by omega
    have hg := ih (j + 1) (by omega) k hk
    obtain ⟨far, hf, E⟩ := saFar_ev o rows j hn hsq (Nat.lt_trans hjy hy)
    have hfl := hf.len
    have htf : tg < far.length := by rw [hfl]; exact htg
    rw [← wsucc hj5] at hg
    rw [show k + (m + 1) + 1 = (k + m + 1) + 1 from rfl, fw_col o rows tg acc c r rows[c] j hlt hr ha (k + m + 1) far htf (E _ (Nat.le_trans hk (by rw [Nat.add_assoc]; exact Nat.le_add_right _ _)))]
    by_cases e : Edge rows c j
    · have e' : rd rows[c] (j : Int) > 0 := by rw [rd_get hlt]; exact (edge_get hc hlt).1 e
      have hne : ¬ rd far (tg : Int) = (r : Int) := by
        rw [rd_fa htf]
        intro h
        have hwk := hf.wk tg htg (by rw [h]; exact nnc _)
        rw [h, Int.toNat_natCast] at hwk
        exact hv j hjy e hwk
      rw [if_pos e', if_neg hne]
      exact hg
    · have e' : ¬ rd rows[c] (j : Int) > 0 := by rw [rd_get hlt]; exact fun h => e ((edge_get hc hlt).2 h)
      rw [if_neg e']
      exact hg

theorem cadd (n : Nat) : ((n + 1 : Nat) : Int) = (n : Int) + 1 := by omega
theorem cpos (n : Nat) : (n : Int) + 1 > 0 := by omega
theorem fw_s0 (o : Int) (rows : List (List Int)) (hn : rows.length ≤ 5) (hsq : ∀ r ∈ rows, r.length = rows.length) {s tg i : Nat} {ways : List (List Int)} {q : List Nat} {par : Nat → Nat} (h : Bf rows s tg ways q par i 0) (hi : i < q.length) (ht : q.getD i 0 = tg) {a : Nat} {r : List Nat} (ha : Anc q par i a r) :
    ∀ k, 100 + 10 * r.length ≤ k → spec_FirstWay.l0 k tg (ways.getD a []) (q.getD a 0 : Nat) (r.length : Int) o rows = some (ways.getD i [], true) := by
  have htg : tg < rows.length := by rw [← ht]; exact h.lt _ (gd_mem hi)
  induction ha with
  | refl =>
    intro k hk
    obtain ⟨k, rfl⟩ : ∃ r, k = r + 1 := ⟨k - 1, by omega⟩
    simp only [spec_FirstWay.l0]
    rw [if_neg (by simp)]
  | up a r ha h0 ih =>
    intro k hk
    obtain ⟨hai, hw1, hw2⟩ := Anc.le h hi ha
    obtain ⟨g1, _, g3, g4⟩ := h.st a h0 (by omega)
    have hcl := h.lt _ (gd_mem (show par a < q.length by omega))
    have hyl := h.lt _ (gd_mem (show a < q.length by omega))
    have hlen : (ways.getD a []).length + r.length = (ways.getD i []).length := by rw [← hw1]; simp
    obtain ⟨P, hP, hPl⟩ := h.way i hi
    have hil : (ways.getD i []).length ≤ 6 := by
      have := h.qlen
      rw [hP]; simp; omega
    obtain ⟨P2, hP2, hPl2⟩ := h.way (par a) (by omega)
    have hpl : (ways.getD (par a) []).length ≤ 6 := by
      have := h.qlen
      rw [hP2]; simp; omega
    rw [ht] at hw2
    rw [List.length_cons] at hk ⊢
    have hs1 := fw_s1 o rows hn hsq tg (q.getD (par a) 0) (q.getD a 0) r.length htg hcl hyl g4 hw2
      (fun t hwt => by
        rw [← ht] at hwt
        have := h.short hi (show a < q.length by omega) hwt
        omega)
      (fun v hv he => by
        have := h.least hi ha h0 hv (by omega) he
        rw [ht] at this
        exact this) (by omega) (ways.getD (par a) []) (by omega) (q.getD a 0) 0 (by omega)
    obtain ⟨k, rfl⟩ : ∃ x, k = (x + q.getD a 0 + 1) + 1 := ⟨k - q.getD a 0 - 2, by omega⟩
    have hg := hs1 k (by omega)
    have hr : rd_L1 rows ((q.getD (par a) 0 : Nat) : Int) = rows[q.getD (par a) 0] := by
      rw [rdL_gd, List.getD_eq_getElem?_getD, List.getElem?_eq_getElem hcl]
      rfl
    have e1 : ((r.length + 1 : Nat) : Int) = (r.length : Int) + 1 := cadd _
    have c1 : (r.length : Int) + 1 > 0 := cpos _
    have c2 : (0 : Int) ≤ ((q.getD (par a) 0 : Nat) : Int) := Int.natCast_nonneg _
    have c3 : ((q.getD (par a) 0 : Nat) : Int) < (rows.length : Int) := ltc hcl
    rw [e1]
    generalize k + q.getD a 0 + 1 = K at hg ⊢
    simp only [spec_FirstWay.l0]
    rw [if_pos c1, if_pos c2, if_pos c3, hr]
    refine Eq.trans hg ?_
    rw [← g3]
    exact ih k (by omega)


theorem firstWay_same (o : Int) (rows : List (List Int)) (a b : Int) (h1 : rows.length ≤ 1048576) (h2 : ∀ r ∈ rows, r.length ≤ 1048576) :
    ∃ (t : List Int) (u : Bool), t.length ≤ 1048576 ∧ ∃ K, ∀ k, K ≤ k → spec_FirstWay.f k o rows a b = some (t, u) ∧ impl_FirstWay.f k o rows a b = some (t, u) := by
  obtain ⟨t1, ht1, K2, E2⟩ := saAsked_ev o rows a b h1 h2
  obtain ⟨t2, ht2, K3, E3⟩ := asked2_ev o rows a b h1 h2
  have ht : t1 = t2 := by rw [Bool.eq_iff_iff, ht1, ht2]
  subst ht
  cases t1 with
  | false =>
    refine ⟨[], false, by simp, K2 + K3 + 1, fun k hk => ⟨?_, ?_⟩⟩
    · obtain ⟨k, rfl⟩ : ∃ r, k = r + 1 := ⟨k - 1, by omega⟩
      simp [spec_FirstWay.f, E2 (k + 1) (by omega), spec_FirstWay.j0]
    · simp [impl_FirstWay.f, E3 k (by omega)]
  | true =>
    obtain ⟨⟨g1, g2, g3, g4, g5⟩, ga, gb⟩ := ht1.1 rfl
    have hsq : ∀ r ∈ rows, r.length = rows.length := fun r hr => (g5 r hr).1
    obtain ⟨s, rfl⟩ := Int.eq_ofNat_of_zero_le ga.1
    obtain ⟨tg, rfl⟩ := Int.eq_ofNat_of_zero_le gb.1
    have hs : s < rows.length := by omega
    have htg : tg < rows.length := by omega
    obtain ⟨far, hf, E4⟩ := saFar_ev o rows s g4 hsq hs
    have hfl := hf.len
    have hseen : ∀ k, k < rows.length → (((List.replicate rows.length (0 : Int)).set s 1).getD k 0 = 0 ↔ k ∉ [s]) := by
      intro k hk
      rw [setI_gd (by simpa using hs)]
      have hz : (List.replicate rows.length (0 : Int)).getD k 0 = 0 := by
        rw [List.getD_eq_getElem?_getD, List.getElem?_replicate]
        split <;> rfl
      by_cases e : k = s
      · subst e; simp
      · rw [if_neg e, hz]; simp [e]
    have himpl : ∀ k, K3 ≤ k → impl_FirstWay.f k o rows s tg = impl_FirstWay.l0 k tg [[(s : Int)]] ((List.replicate rows.length (0 : Int)).set s 1) 0 o rows := by
      intro k hk
      simp only [impl_FirstWay.f, E3 k hk, Option.bind_some, ↓reduceIte, impl_States_only.f]
      rw [if_pos (by omega), if_pos (by omega)]
      simp only [Int.toNat_natCast, Option.bind_some]
      rw [if_pos (by omega), if_pos (by simp; omega), Option.bind_some]
    rcases fw_l0 o rows g4 hsq s tg rows.length 0 [[(s : Int)]] _ [s] _ (by omega) (Bf.init rows s tg hs) (by simp) hseen with ⟨ways, q, par, i, f1, f2, f3, f4⟩ | ⟨ways, q, par, f1, f4⟩
    · obtain ⟨r, hr⟩ := Anc.root f1 f2
      obtain ⟨_, hw1, hw2⟩ := Anc.le f1 f2 hr
      rw [f3, f1.q0] at hw2
      obtain ⟨_, d1, d2⟩ := far_le hs hf hw2
      have d3 := f1.short f2 f1.pos (t := (fa far tg).toNat) (by rw [f3, f1.q0]; exact hf.wk tg htg d1)
      have hlen : (ways.getD 0 []).length + r.length = (ways.getD i []).length := by rw [← hw1]; simp
      have hD : fa far tg = (r.length : Int) := by omega
      obtain ⟨P, hP, hPl⟩ := f1.way i f2
      have hil : (ways.getD i []).length ≤ 6 := by
        have := f1.qlen
        rw [hP]; simp; omega
      refine ⟨ways.getD i [], true, by omega, K2 + K3 + 400, fun k hk => ⟨?_, ?_⟩⟩
      · obtain ⟨k, rfl⟩ : ∃ r, k = r + 1 := ⟨k - 1, by omega⟩
        simp only [spec_FirstWay.f, E2 (k + 1) (by omega), Option.bind_some, ↓reduceIte, E4 (k + 1) (by omega)]
        rw [if_pos (by omega), if_pos (by omega), rd_fa (by omega), hD, decide_eq_false (by omega)]
        simp only [spec_FirstWay.j0, Bool.false_eq_true, ↓reduceIte, E4 k (by omega), Option.bind_some]
        rw [if_pos (by omega), if_pos (by omega), rd_fa (by omega), hD]
        have := fw_s0 o rows g4 hsq f1 f2 f3 hr k (by omega)
        rw [f1.w0, f1.q0] at this
        exact this
      · rw [himpl k (by omega)]
        exact f4 k (by omega)
    · have hno : ¬ RC rows (-1) s tg := by
        intro hrc
        have hin : ∀ v, RC rows (-1) s v → v ∈ q := by
          intro v hv
          induction hv with
          | base => rw [← f1.q0]; exact gd_mem f1.pos
          | step u v _ _ hvl he ih =>
            obtain ⟨p, hp, hpu⟩ := mem_gd ih
            rw [← hpu] at he
            obtain ⟨c, hc, hcv, _⟩ := f1.cl p hp hp v hvl he
            rw [← hcv]; exact gd_mem hc
        obtain ⟨p, hp, hpt⟩ := mem_gd (hin tg hrc)
        exact f1.nt p hp hp hpt
      have hneg : fa far tg < 0 := by
        have := hf.mem tg htg
        by_cases c : 0 ≤ fa far tg
        · exact absurd (this.1 c) hno
        · omega
      refine ⟨[], false, by simp, K2 + K3 + 400, fun k hk => ⟨?_, ?_⟩⟩
      · obtain ⟨k, rfl⟩ : ∃ r, k = r + 1 := ⟨k - 1, by omega⟩
        simp only [spec_FirstWay.f, E2 (k + 1) (by omega), Option.bind_some, ↓reduceIte, E4 (k + 1) (by omega)]
        rw [if_pos (by omega), if_pos (by omega), rd_fa (by omega), decide_eq_true hneg]
        simp only [spec_FirstWay.j0, ↓reduceIte]
      · rw [himpl k (by omega)]
        exact f4 k (by omega)

theorem FnExactFirstWay (o : Int) (rows : List (List Int)) (a b : Int) (wo : (Lit.int .i64 o).wf = true) (wr : ∀ r ∈ rows, ∀ x ∈ r, (Lit.int .i64 x).wf = true) (hl : rows.length ≤ maxLen) (hr : ∀ r ∈ rows, r.length ≤ maxLen) (wa : (Lit.int .i64 a).wf = true) (wb : (Lit.int .i64 b).wf = true) : ∃ k, laws_FnExactFirstWay.f k o rows a b = some true := by
  obtain ⟨r, ⟨K1, E1⟩, h⟩ := szStates_ev o rows (by unfold maxLen at hl; omega) (fun r h => by have := hr r h; unfold maxLen at this; omega)
  by_cases h0 : r < 0
  · refine ⟨K1, ?_⟩
    simp only [laws_FnExactFirstWay.f, E1 K1 (by omega), Option.bind_some]
    rw [if_pos h0]
  · obtain ⟨h1, h2⟩ := h (by omega)
    obtain ⟨t, u, ht, K6, q⟩ := firstWay_same o rows a b h1 h2
    obtain ⟨k, hk1, hk2, hk3⟩ : ∃ k, K1 ≤ k ∧ K6 ≤ k ∧ 5000000 ≤ k := ⟨K1 + K6 + 5000000, by omega, by omega, by omega⟩
    have hp := markEnd_pos rows h2
    have hb : ¬ (1 : Int) + (t : List Int).length < 0 := by omega
    refine ⟨k + 3, ?_⟩
    simp only [laws_FnExactFirstWay.f, E1 (k + 3) (by omega), toStates_is o rows h1 h2 (k + 3) (by omega), (q (k + 3) (by omega)).1, (q (k + 3) (by omega)).2, eqIntS_is t ht (k + 3) (by omega), Option.bind_some]
    rw [if_neg h0]
    simp only [↓reduceIte, bne_self_eq_false, laws_FnExactFirstWay.j0, Bool.false_eq_true, toStates_is o rows h1 h2 (k + 2) (by omega), eqStates_is o rows h1 h2 (k + 2) (by omega), markStates_is o rows h1 h2 (k + 2) (by omega), eqIntS_is t ht (k + 2) (by omega), Option.bind_some, if_neg hp]
    simp only [↓reduceIte, laws_FnExactFirstWay.j1, Bool.false_eq_true, bne_self_eq_false, markIntS_is t 1 (by omega) (by omega) ht (k + 1) (by omega), heldIntS_is t.length 1 (by omega) (by omega) ht (k + 1) (by omega), toStates_is o rows h1 h2 (k + 1) (by omega), (q (k + 1) (by omega)).2, eqIntS_is t ht (k + 1) (by omega), Option.bind_some, if_neg hb]
    simp only [↓reduceIte, laws_FnExactFirstWay.j2, Bool.false_eq_true, bne_self_eq_false, heldIntS_is t.length 1 (by omega) (by omega) ht k (by omega), Option.bind_some, if_neg hb]

end Go.Proofs.Ytlpegpmcnimfbaa.Pure
