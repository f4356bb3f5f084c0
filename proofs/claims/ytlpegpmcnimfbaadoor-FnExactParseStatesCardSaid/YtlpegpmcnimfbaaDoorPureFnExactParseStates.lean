/- For all arguments the program and the reference return the same from ParseStates: the plain statement over numbers and lists, and its proof. -/
import Derived.Test.YtlpegpmcnimfbaaDoorPFnExactParseStatesx1
import Derived.Test.YtlpegpmcnimfbaaDoorPFnExactParseStatesx2
import Derived.Test.YtlpegpmcnimfbaaDoorPFnExactParseStatesx3
import Derived.Test.YtlpegpmcnimfbaaDoorPFnExactParseStatesx4
import Derived.Test.YtlpegpmcnimfbaaDoorPFnExactParseStatesx5
import Derived.Test.YtlpegpmcnimfbaaDoorPFnExactParseStatesx6
import Derived.Test.YtlpegpmcnimfbaaDoorPFnExactParseStatesx7
namespace Go.Proofs.YtlpegpmcnimfbaaDoor.Pure
open Go.RowKit Go.Proofs.YtlpegpmcnimfbaaDoor.PFnExactParseStates Go.Proofs.YtlpegpmcnimfbaaDoorW.PrintWords Go.Proofs.YtlpegpmcnimfbaaDoorW.PrintLast Go.Proofs.YtlpegpmcnimfbaaDoorW.PrintMore
set_option linter.unusedVariables false
set_option linter.unusedSimpArgs false
set_option maxRecDepth 100000
theorem w64 {x : Int} (h0 : -9223372036854775808 ≤ x) (h1 : x ≤ 9223372036854775807) : wrap64 x = x := by
  unfold wrap64
  omega

theorem mul_fits {x y A B : Int} (hx : x.natAbs ≤ A.natAbs) (hy : y.natAbs ≤ B.natAbs) : (x * y).natAbs ≤ (A * B).natAbs := by
  rw [Int.natAbs_mul, Int.natAbs_mul]
  exact Nat.mul_le_mul hx hy

/-- A product of numbers of at most nine digits. -/
theorem mul9 {x y : Int} (hx : x.natAbs ≤ 1000000000) (hy : y.natAbs ≤ 1000000000) : (x * y).natAbs ≤ 1000000000000000000 := by
  rw [Int.natAbs_mul]
  exact Nat.le_trans (Nat.mul_le_mul hx hy) (by decide)

theorem wf_range {a : Int} (h : (Lit.int .i64 a).wf = true) : -9223372036854775808 ≤ a ∧ a ≤ 9223372036854775807 := by
  simp [Lit.wf, IntKind.min, IntKind.max, IntKind.signed, IntKind.bits] at h
  omega

/-- A list of bytes, cut at each byte c. -/
def splitL (c : UInt8) : List UInt8 → List (List UInt8)
  | [] => [[]]
  | b :: l => if b = c then [] :: splitL c l else ((b :: (splitL c l).headD []) :: (splitL c l).tail)
theorem splitL_ne (c : UInt8) (l : List UInt8) : splitL c l ≠ [] := by
  cases l with
  | nil => simp [splitL]
  | cons b l =>
    rw [splitL]
    split <;> simp
theorem splitL_cons (c : UInt8) (l : List UInt8) : splitL c l = (splitL c l).headD [] :: (splitL c l).tail := by
  cases h : splitL c l with
  | nil => exact absurd h (splitL_ne c l)
  | cons a t => rfl

theorem splitK_one (c : UInt8) : ∀ s : List UInt8, Go.Lib.splitK [c] 0 (Go.Lib.count s [c]) s = splitL c s
  | [] => by
    rw [Go.Lib.count_one]
    rfl
  | b :: l => by
    by_cases h : b = c
    · subst h
      have hix : Go.Lib.index (b :: l) [b] = 0 := by simp [Go.Lib.index, List.isPrefixOf]
      rw [Go.Lib.count_cons_eq, Nat.add_comm, Go.Lib.splitK, hix, splitL, if_pos rfl]
      have := splitK_one b l
      simpa using this
    · have ih := splitK_one c l
      have hix : Go.Lib.index (b :: l) [c] = if Go.Lib.index l [c] == -1 then -1 else Go.Lib.index l [c] + 1 := by
        have hp : ([c] : List UInt8).isPrefixOf (b :: l) = false := by simp [List.isPrefixOf, Ne.symm h]
        rw [Go.Lib.index, hp]; simp
      rw [Go.Lib.count_cons_ne b c l h, splitL, if_neg h, ← ih]
      cases hn : Go.Lib.count l [c] with
      | zero => rfl
      | succ m =>
        rcases Go.Lib.index_spec l [c] with ⟨hi, _⟩ | ⟨i, hi, _⟩
        · rw [Go.Lib.count_miss hi] at hn; cases hn
        · have e : ¬ (Go.Lib.index l [c] == -1) = true := fun e => by have := beq_iff_eq.1 e; omega
          rw [if_neg e, hi] at hix
          have e1 : ¬ (Go.Lib.index (b :: l) [c] == -1) = true := fun e => by have := beq_iff_eq.1 e; omega
          rw [Go.Lib.splitK, if_neg e1, Go.Lib.splitK, if_neg e, hix, hi]
          have t1 : ((i : Int) + 1).toNat = i + 1 := by omega
          have t2 : ((i : Int)).toNat = i := by omega
          rw [t1, t2]
          simp

theorem ba_ext {a b : ByteArray} (h : a.data.toList = b.data.toList) : a = b := by
  obtain ⟨⟨a⟩⟩ := a
  obtain ⟨⟨b⟩⟩ := b
  simp only at h
  rw [h]
theorem ba_map {xs ys : List ByteArray} (h : xs.map (·.data.toList) = ys.map (·.data.toList)) : xs = ys := by
  induction xs generalizing ys with
  | nil => cases ys with
    | nil => rfl
    | cons _ _ => simp at h
  | cons a xs ih => cases ys with
    | nil => simp at h
    | cons b ys =>
      simp only [List.map_cons, List.cons.injEq] at h
      rw [ba_ext h.1, ih h.2]

/-- The words of a text. -/
def wordsOf (c : UInt8) (s : ByteArray) : List ByteArray := (splitL c s.data.toList).map fun l => ⟨l.toArray⟩
theorem wordsOf_data (c : UInt8) (s : ByteArray) : (wordsOf c s).map (·.data.toList) = splitL c s.data.toList := by
  unfold wordsOf
  rw [List.map_map]
  exact List.map_id' _

theorem split_is (c : UInt8) (s : ByteArray) (hs : s.size ≤ 1048576) : strings_Split.f s ⟨#[c]⟩ = some (wordsOf c s) := by
  unfold strings_Split.f
  rw [if_pos hs, if_pos (show 1 ≤ (⟨#[c]⟩ : ByteArray).size from Nat.le_refl 1)]
  congr 1
  apply ba_map
  rw [wordsOf_data, Go.Lib.splitB_data]
  exact splitK_one c s.data.toList

theorem splitL_len (c : UInt8) : ∀ l : List UInt8, (splitL c l).length ≤ l.length + 1
  | [] => by simp [splitL]
  | b :: l => by
    have := splitL_len c l
    rw [splitL]
    split
    · simp; omega
    · simp; omega
theorem splitL_each (c : UInt8) : ∀ (l : List UInt8), ∀ p ∈ splitL c l, p.length ≤ l.length
  | [], p, hp => by simp [splitL] at hp; subst hp; simp
  | b :: l, p, hp => by
    rw [splitL] at hp
    split at hp
    · rcases List.mem_cons.1 hp with rfl | hp
      · simp
      · have := splitL_each c l p hp
        simp; omega
    · have hc := splitL_cons c l
      rcases List.mem_cons.1 hp with rfl | hp
      · have := splitL_each c l ((splitL c l).headD []) (by rw [hc]; simp)
        simp only [List.length_cons]
        omega
      · have := splitL_each c l p (by rw [hc]; exact List.mem_cons_of_mem _ hp)
        simp only [List.length_cons]
        omega

theorem bt_at {s : ByteArray} {j : Nat} (h : j < s.data.toList.length) : bt s (j : Int) = (((s.data.toList[j]).toNat : Nat) : Int) := by
  have hs : j < s.size := by
    have : s.size = s.data.size := rfl
    rw [this, ← Array.length_toList]
    exact h
  unfold bt
  rw [dif_pos (by rw [Int.toNat_natCast]; exact hs)]
  simp only [Int.toNat_natCast]
  rfl
theorem ba_size (s : ByteArray) : s.size = s.data.toList.length := by
  have : s.size = s.data.size := rfl
  rw [this, Array.length_toList]

/-- The reference's cutting, from j on, a word begun at i. -/
theorem l1Split_l0 (c : UInt8) (s : ByteArray) (hs : s.size ≤ 1048576) : ∀ (m j i : Nat) (acc : List ByteArray), j + m = s.size → i ≤ j → acc.length ≤ j →
    ∃ W : List ByteArray, W.map (·.data.toList) = (((s.data.toList.drop i).take (j - i)) ++ (splitL c (s.data.toList.drop j)).headD []) :: (splitL c (s.data.toList.drop j)).tail ∧
      ∀ k, m < k → spec_l1Split.l0 k s (c.toNat : Int) acc (i : Int) (j : Int) = some (acc ++ W) := by
  have hL := ba_size s
  intro m
  induction m with
  | zero =>
    intro j i acc hj hi ha
    have hd : s.data.toList.drop j = [] := List.drop_of_length_le (by omega)
    refine ⟨[s.extract i s.size], ?_, fun k hk => ?_⟩
    · rw [hd]
      simp only [splitL, List.map_cons, List.map_nil, List.headD_cons, List.tail_cons, List.append_nil]
      rw [Go.Lib.extract_data, show j - i = s.size - i from by omega]
    · obtain ⟨k, rfl⟩ : ∃ m, k = m + 1 := ⟨k - 1, by omega⟩
      simp only [spec_l1Split.l0]
      rw [if_neg (by omega), if_pos (Int.natCast_nonneg i), if_pos (by omega), if_pos (by omega), Int.toNat_natCast]
  | succ m ih =>
    intro j i acc hj hi ha
    have hjl : j < s.data.toList.length := by omega
    have hjs : (j : Int) < (s.size : Int) := by omega
    have hw : wrap64 ((j : Int) + 1) = ((j + 1 : Nat) : Int) := by rw [w64 (by omega) (by omega)]; omega
    have hd : s.data.toList.drop j = s.data.toList[j] :: s.data.toList.drop (j + 1) := List.drop_eq_getElem_cons hjl
    have hb := bt_at hjl
    by_cases e : s.data.toList[j] = c
    · obtain ⟨W, hW, E⟩ := ih (j + 1) (j + 1) (acc ++ [s.extract i j]) (by omega) (Nat.le_refl _) (by simp; omega)
      refine ⟨s.extract i j :: W, ?_, fun k hk => ?_⟩
      · rw [hd, splitL, if_pos e, List.map_cons, hW, Go.Lib.extract_data]
        simp only [List.headD_cons, List.append_nil, List.tail_cons, Nat.sub_self, List.take_zero, List.nil_append]
        rw [← splitL_cons]
      · obtain ⟨k, rfl⟩ : ∃ m, k = m + 1 := ⟨k - 1, by omega⟩
        have hE := E k (by omega)
        have c1 : acc.length < 8796093022208 := by omega
        have e2 : bt s (j : Int) = (c.toNat : Int) := by rw [hb, e]
        simp only [spec_l1Split.l0]
        rw [if_pos hjs, if_pos (Int.natCast_nonneg j), if_pos e2, if_pos (Int.natCast_nonneg i), if_pos (Int.ofNat_le.2 hi), if_pos (Int.le_of_lt hjs), if_pos c1, hw, Int.toNat_natCast, Int.toNat_natCast, hE, List.append_assoc]
        rfl
    · obtain ⟨W, hW, E⟩ := ih (j + 1) i acc (by omega) (by omega) (by omega)
      refine ⟨W, ?_, fun k hk => ?_⟩
      · rw [hW, hd, splitL, if_neg e]
        simp only [List.headD_cons, List.tail_cons]
        have ht : (s.data.toList.drop i).take (j + 1 - i) = (s.data.toList.drop i).take (j - i) ++ [s.data.toList[j]] := by
          rw [show j + 1 - i = (j - i) + 1 from by omega, List.take_add_one, List.getElem?_drop, show i + (j - i) = j from by omega, List.getElem?_eq_getElem hjl]
          rfl
        rw [ht, List.append_assoc]
        rfl
      · obtain ⟨k, rfl⟩ : ∃ m, k = m + 1 := ⟨k - 1, by omega⟩
        have hE := E k (by omega)
        have e2 : ¬ bt s (j : Int) = (c.toNat : Int) := by
          rw [hb]
          intro h
          exact e (UInt8.toNat_inj.1 (Int.ofNat_inj.1 h))
        simp only [spec_l1Split.l0]
        rw [if_pos hjs, if_pos (Int.natCast_nonneg j), if_neg e2, hw]
        exact hE

theorem l1Split_is (c : UInt8) (s : ByteArray) (hs : s.size ≤ 1048576) (k : Nat) (hk : s.size < k) : spec_l1Split.f k s (c.toNat : Int) = some (wordsOf c s) := by
  obtain ⟨W, hW, E⟩ := l1Split_l0 c s hs s.size 0 0 [] (by omega) (Nat.le_refl _) (by simp)
  have e : W = wordsOf c s := by
    apply ba_map
    rw [hW, wordsOf_data, splitL_cons c s.data.toList]
    rfl
  have := E k hk
  rw [e, List.nil_append] at this
  exact this

/-- The number that a list of bytes spells as it is written; none for all else. -/
def num1 (l : List UInt8) : Option Int :=
  match Go.Lib.atoiAll l with
  | .ok n => if 0 ≤ n ∧ Go.Lib.itoa n = l then some n else none
  | _ => none
/-- The numbers of a list of words. -/
def numsW : List ByteArray → Option (List Int)
  | [] => some []
  | w :: ws => (num1 w.data.toList).bind fun n => (numsW ws).map fun ns => n :: ns

theorem num1_some {l : List UInt8} {n : Int} (h : num1 l = some n) : 0 ≤ n ∧ n ≤ 9223372036854775807 ∧ Go.Lib.atoiAll l = .ok n ∧ Go.Lib.itoa n = l ∧ l = Go.Lib.decDigits n.toNat := by
  unfold num1 at h
  split at h
  · rename_i v hv
    split at h
    · rename_i hc
      obtain rfl := Option.some.inj h
      obtain ⟨_, b2⟩ := Go.Lib.atoiAll_bounds hv
      refine ⟨hc.1, b2, hv, hc.2, ?_⟩
      rw [← hc.2]
      unfold Go.Lib.itoa
      rw [if_neg (by omega)]
    · cases h
  · cases h

theorem dec_small {n : Nat} (h : n < 10) : Go.Lib.decDigits n = [UInt8.ofNat (48 + n)] := by
  rw [Go.Lib.decDigits, dif_pos h]
theorem dec_ten : Go.Lib.decDigits 10 = [49, 48] := by
  rw [Go.Lib.decDigits, dif_neg (by decide), dec_small (by decide)]
  rfl
theorem num1_small {n : Nat} (h : n ≤ 10) : num1 (Go.Lib.decDigits n) = some (n : Int) := by
  have hi : ∀ m : Nat, Go.Lib.itoa (m : Int) = Go.Lib.decDigits m := fun m => by
    unfold Go.Lib.itoa
    rw [if_neg (by omega), Int.toNat_natCast]
  have key : ∀ m : Nat, Go.Lib.atoiAll (Go.Lib.decDigits m) = .ok (m : Int) → num1 (Go.Lib.decDigits m) = some (m : Int) := fun m hm => by
    unfold num1
    rw [hm]
    show (if 0 ≤ (m : Int) ∧ Go.Lib.itoa (m : Int) = Go.Lib.decDigits m then some (m : Int) else none) = some (m : Int)
    rw [if_pos ⟨Int.natCast_nonneg m, hi m⟩]
  apply key
  by_cases h10 : n = 10
  · subst h10
    rw [dec_ten]
    decide
  · have h9 : n < 10 := by omega
    rw [dec_small h9]
    match n, h9 with
    | 0, _ => decide
    | 1, _ => decide
    | 2, _ => decide
    | 3, _ => decide
    | 4, _ => decide
    | 5, _ => decide
    | 6, _ => decide
    | 7, _ => decide
    | 8, _ => decide
    | 9, _ => decide

theorem ba_toList_eq (a b : ByteArray) : (a.toList = b.toList) ↔ a.data.toList = b.data.toList := by
  rw [Go.Lib.toList_data, Go.Lib.toList_data]

theorem rdOf_get {ws : List ByteArray} {j : Nat} (h : j < ws.length) : rdOf ByteArray.empty ws (j : Int) = ws[j] := by
  unfold rdOf
  rw [Int.toNat_natCast, List.getD_eq_getElem?_getD, List.getElem?_eq_getElem h]
  rfl

/-- What readNumbers makes of the words. -/
theorem readNumbers_l0 (ws : List ByteArray) (hw : ∀ w ∈ ws, w.size ≤ 1048576) (hl : ws.length ≤ 2000000) : ∀ (m j : Nat) (acc : List Int), j + m = ws.length → acc.length ≤ j → ∀ k, m < k →
    impl_readNumbers.l0 k acc ws (ws.length : Int) (j : Int) = some (match numsW (ws.drop j) with | some ns => (acc ++ ns, true) | none => ([], false)) := by
  intro m
  induction m with
  | zero =>
    intro j acc hj ha k hk
    obtain ⟨k, rfl⟩ : ∃ m, k = m + 1 := ⟨k - 1, by omega⟩
    rw [List.drop_of_length_le (by omega)]
    simp only [impl_readNumbers.l0, numsW]
    rw [if_neg (by omega), List.append_nil]
  | succ m ih =>
    intro j acc hj ha k hk
    obtain ⟨k, rfl⟩ : ∃ m, k = m + 1 := ⟨k - 1, by omega⟩
    have hjl : j < ws.length := by omega
    have hjs : (j : Int) < (ws.length : Int) := Int.ofNat_lt.2 hjl
    have hw64 : wrap64 ((j : Int) + 1) = ((j + 1 : Nat) : Int) := by rw [w64 (by omega) (by omega)]; omega
    have c1 : acc.length < 17592186044416 := by omega
    have hsz : ws[j].size ≤ 1048576 := hw _ (List.getElem_mem _)
    rw [List.drop_eq_getElem_cons hjl]
    simp only [impl_readNumbers.l0, numsW]
    rw [if_pos hjs, if_pos (Int.natCast_nonneg j), if_pos hjs, rdOf_get hjl]
    unfold strconv_Atoi_56.f num1
    rw [if_pos hsz]
    cases ha1 : Go.Lib.atoiAll ws[j].data.toList with
    | «syntax» => simp
    | range => simp
    | ok v =>
      obtain ⟨b1, b2⟩ := Go.Lib.atoiAll_bounds ha1
      simp only [Option.bind_some, Option.isNone_none, ↓reduceIte]
      by_cases hv : v < 0
      · rw [if_pos hv, if_neg (by omega)]
        rfl
      · rw [if_neg hv]
        unfold strconv_Itoa_27.f
        rw [if_pos b1, if_pos b2]
        simp only [Option.bind_some]
        by_cases he : Go.Lib.itoa v = ws[j].data.toList
        · rw [if_pos ((ba_toList_eq _ _).2 he), if_pos c1, hw64, ih (j + 1) (acc ++ [v]) (by omega) (by simp; omega) k (by omega), if_pos ⟨by omega, he⟩]
          cases numsW (ws.drop (j + 1)) with
          | none => rfl
          | some ns => simp
        · rw [if_neg (fun h => he ((ba_toList_eq _ _).1 h)), if_neg (fun h => he h.2)]
          rfl

theorem wordsOf_len (c : UInt8) (s : ByteArray) (hs : s.size ≤ 1048576) : (wordsOf c s).length ≤ 2000000 := by
  have := splitL_len c s.data.toList
  have h2 := ba_size s
  unfold wordsOf
  rw [List.length_map]
  omega
theorem wordsOf_each (c : UInt8) (s : ByteArray) (hs : s.size ≤ 1048576) : ∀ w ∈ wordsOf c s, w.size ≤ 1048576 := by
  intro w hw
  unfold wordsOf at hw
  obtain ⟨l, hl, rfl⟩ := List.mem_map.1 hw
  have := splitL_each c s.data.toList l hl
  have h2 := ba_size s
  have h3 := ba_size (⟨l.toArray⟩ : ByteArray)
  have h4 : (⟨l.toArray⟩ : ByteArray).data.toList.length = l.length := by simp
  omega

/-- readNumbers, whole. -/
theorem readNumbers_is (s : ByteArray) (c : UInt8) (hs : s.size ≤ 1048576) (k : Nat) (hk : 2000000 < k) :
    impl_readNumbers.f k s ⟨#[c]⟩ = some (match numsW (wordsOf c s) with | some ns => (ns, true) | none => ([], false)) := by
  have h := readNumbers_l0 (wordsOf c s) (wordsOf_each c s hs) (wordsOf_len c s hs) (wordsOf c s).length 0 [] (by omega) (Nat.le_refl _) k (by have := wordsOf_len c s hs; omega)
  simp only [impl_readNumbers.f, split_is c s hs, Option.bind_some]
  rw [List.drop_zero] at h
  rw [show (0 : Int) = ((0 : Nat) : Int) from rfl, h]
  cases numsW (wordsOf c s) <;> rfl

theorem readBy_l0 (p : ByteArray) (hp : p.size ≤ 6) : ∀ (m j : Nat) (x : Int), j + m = p.size → 0 ≤ x → x < 10 ^ j →
    ∃ r : Int, (r = -1 ∨ x ≤ r) ∧ ∀ k, m < k → spec_l1Read.l0 k p x (j : Int) = some r := by
  have hL := ba_size p
  intro m
  induction m with
  | zero =>
    intro j x hj h0 h1
    refine ⟨x, Or.inr (Int.le_refl x), fun k hk => ?_⟩
    obtain ⟨k, rfl⟩ : ∃ m, k = m + 1 := ⟨k - 1, by omega⟩
    simp only [spec_l1Read.l0]
    rw [if_neg (by omega)]
  | succ m ih =>
    intro j x hj h0 h1
    have hjl : j < p.data.toList.length := by omega
    have hjs : (j : Int) < (p.size : Int) := by omega
    have hb := bt_at hjl
    have hj5 : j ≤ 5 := by omega
    have hpow : (10 : Int) ^ j ≤ 100000 := by
      match j, hj5 with
      | 0, _ => decide
      | 1, _ => decide
      | 2, _ => decide
      | 3, _ => decide
      | 4, _ => decide
      | 5, _ => decide
    have hx : x ≤ 100000 := Int.le_trans (Int.le_of_lt h1) hpow
    have hw : wrap64 ((j : Int) + 1) = ((j + 1 : Nat) : Int) := by rw [w64 (by omega) (by omega)]; omega
    generalize hB : ((p.data.toList[j]).toNat : Int) = B at hb
    by_cases e1 : B < 48
    · refine ⟨-1, Or.inl rfl, fun k hk => ?_⟩
      obtain ⟨k, rfl⟩ : ∃ m, k = m + 1 := ⟨k - 1, by omega⟩
      simp only [spec_l1Read.l0]
      rw [if_pos hjs, if_pos (Int.natCast_nonneg j), hb, if_pos e1]
    · by_cases e2 : B > 57
      · refine ⟨-1, Or.inl rfl, fun k hk => ?_⟩
        obtain ⟨k, rfl⟩ : ∃ m, k = m + 1 := ⟨k - 1, by omega⟩
        simp only [spec_l1Read.l0]
        rw [if_pos hjs, if_pos (Int.natCast_nonneg j), hb, if_neg e1, if_pos e2]
      · have e3 : wrap64 ((wrap64 (10 * x)) + ((B - 48) % 256)) = 10 * x + (B - 48) := by
          rw [w64 (x := 10 * x) (by omega) (by omega), w64 (by omega) (by omega)]
          omega
        have hlt : 10 * x + (B - 48) < 10 ^ (j + 1) := by
          rw [Int.pow_succ]
          generalize (10 : Int) ^ j = q at h1 ⊢
          omega
        obtain ⟨r, hr, E⟩ := ih (j + 1) (10 * x + (B - 48)) (by omega) (by omega) hlt
        refine ⟨r, hr.imp id (fun h => by omega), fun k hk => ?_⟩
        obtain ⟨k, rfl⟩ : ∃ m, k = m + 1 := ⟨k - 1, by omega⟩
        have hE := E k (by omega)
        simp only [spec_l1Read.l0]
        rw [if_pos hjs, if_pos (Int.natCast_nonneg j), hb, if_neg e1, if_neg e2, e3, hw]
        exact hE

theorem dec_nine {l : List UInt8} {n : Nat} (h : n ≤ 10) (e : l = Go.Lib.decDigits n) : (n < 10 ∧ l = [UInt8.ofNat (48 + n)]) ∨ (n = 10 ∧ l = [49, 48]) := by
  by_cases h10 : n = 10
  · exact Or.inr ⟨h10, by rw [e, h10, dec_ten]⟩
  · exact Or.inl ⟨by omega, by rw [e, dec_small (by omega)]⟩

/-- One digit read. -/
theorem readBy_step (p : ByteArray) (k j : Nat) (x : Int) (hj : j < p.data.toList.length) (hj6 : j ≤ 5) (h0 : 0 ≤ x) (h1 : x ≤ 100000) :
    spec_l1Read.l0 (k + 1) p x (j : Int) = if ((p.data.toList[j]).toNat : Int) < 48 then some (-1) else (if ((p.data.toList[j]).toNat : Int) > 57 then some (-1) else spec_l1Read.l0 k p (10 * x + (((p.data.toList[j]).toNat : Int) - 48)) ((j + 1 : Nat) : Int)) := by
  have hL := ba_size p
  have hjs : (j : Int) < (p.size : Int) := by omega
  have hb := bt_at hj
  have hw : wrap64 ((j : Int) + 1) = ((j + 1 : Nat) : Int) := by rw [w64 (by omega) (by omega)]; omega
  generalize hB : ((p.data.toList[j]).toNat : Int) = B at hb ⊢
  simp only [spec_l1Read.l0]
  rw [if_pos hjs, if_pos (Int.natCast_nonneg j), hb, hw]
  by_cases e1 : B < 48
  · rw [if_pos e1, if_pos e1]
  · by_cases e2 : B > 57
    · rw [if_neg e1, if_neg e1, if_pos e2, if_pos e2]
    · have e3 : wrap64 ((wrap64 (10 * x)) + ((B - 48) % 256)) = 10 * x + (B - 48) := by
        rw [w64 (x := 10 * x) (by omega) (by omega), w64 (by omega) (by omega)]
        omega
      rw [if_neg e1, if_neg e1, if_neg e2, if_neg e2, e3]
theorem readBy_end (p : ByteArray) (k : Nat) (x : Int) : spec_l1Read.l0 (k + 1) p x (p.size : Int) = some x := by
  simp only [spec_l1Read.l0]
  rw [if_neg (by omega)]

theorem u8_of {b : UInt8} {n : Nat} (h : (b.toNat : Int) - 48 = n) (h2 : n < 10) : b = UInt8.ofNat (48 + n) := by
  apply UInt8.toNat_inj.1
  have : (UInt8.ofNat (48 + n)).toNat = 48 + n := by
    rw [UInt8.toNat_ofNat']
    omega
  omega

theorem readBy_at (p : ByteArray) (k j : Nat) (x : Int) (b : UInt8) (hb : p.data.toList[j]? = some b) (hj6 : j ≤ 5) (h0 : 0 ≤ x) (h1 : x ≤ 100000) :
    spec_l1Read.l0 (k + 1) p x (j : Int) = if (b.toNat : Int) < 48 then some (-1) else (if (b.toNat : Int) > 57 then some (-1) else spec_l1Read.l0 k p (10 * x + ((b.toNat : Int) - 48)) ((j + 1 : Nat) : Int)) := by
  obtain ⟨hl, e⟩ := List.getElem?_eq_some_iff.1 hb
  rw [← e]
  exact readBy_step p k j x hl hj6 h0 h1

/-- What the reference reads in a word: the number, where it is small and written as it is written. -/
theorem l1Read_ev (p : ByteArray) : ∃ n : Int, (∀ k, 20 ≤ k → spec_l1Read.f k p = some n) ∧ (0 ≤ n → n ≤ 10 → num1 p.data.toList = some n) ∧ (∀ m, num1 p.data.toList = some m → m ≤ 10 → n = m) := by
  have hL := ba_size p
  have hin : ∀ a b c : Int, spec_l1In.f a b c = some (decide (b ≤ a ∧ a ≤ c)) := fun a b c => by
    unfold spec_l1In.f
    by_cases h : a ≥ b
    · rw [if_pos h]
      exact congrArg some (decide_eq_decide.2 (by omega))
    · rw [if_neg h]
      exact congrArg some (decide_eq_false (by omega)).symm
  have hsm : ∀ m, num1 p.data.toList = some m → m ≤ 10 → (∃ a : Nat, a < 10 ∧ m = a ∧ p.data.toList = [UInt8.ofNat (48 + a)]) ∨ (m = 10 ∧ p.data.toList = [49, 48]) := by
    intro m hm h10
    obtain ⟨h0, _, _, _, hd⟩ := num1_some hm
    rcases dec_nine (by omega) hd with ⟨h1, h2⟩ | ⟨h1, h2⟩
    · exact Or.inl ⟨m.toNat, h1, by omega, h2⟩
    · exact Or.inr ⟨by omega, h2⟩
  have hbad : ¬ (1 ≤ (p.size : Int) ∧ (p.size : Int) ≤ 6) → ∀ k, 20 ≤ k → spec_l1Read.f k p = some (-1) := by
    intro hs k hk
    obtain ⟨k, rfl⟩ : ∃ r, k = r + 1 := ⟨k - 1, by omega⟩
    simp only [spec_l1Read.f, hin, decide_eq_false hs, Option.bind_some, Bool.false_eq_true, ↓reduceIte, spec_l1Read.j0]
  have hf : ∀ b, p.data.toList[0]? = some b → p.size ≤ 6 → ∀ k, spec_l1Read.f k p = if (b.toNat : Int) = 48 then spec_l1Read.j0 k p (decide ((p.size : Int) > 1)) else spec_l1Read.j0 k p false := by
    intro b hb h6 k
    obtain ⟨hl, e⟩ := List.getElem?_eq_some_iff.1 hb
    have hs : 1 ≤ (p.size : Int) ∧ (p.size : Int) ≤ 6 := by omega
    have hpos : (0 : Int) < (p.size : Int) := by omega
    have hb0 := bt_at hl
    rw [e] at hb0
    have hb1 : bt p 0 = (b.toNat : Int) := hb0
    simp only [spec_l1Read.f, hin, decide_eq_true hs, Option.bind_some, ↓reduceIte]
    rw [if_pos hpos, hb1]
  have hj1 : ∀ k, spec_l1Read.j0 (k + 1) p true = some (-1) := fun k => by simp only [spec_l1Read.j0, ↓reduceIte]
  have hj0 : ∀ k, spec_l1Read.j0 (k + 1) p false = spec_l1Read.l0 k p 0 ((0 : Nat) : Int) := fun k => by simp only [spec_l1Read.j0, Bool.false_eq_true, ↓reduceIte]; rfl
  match hl : p.data.toList with
  | [] =>
    rw [hl] at hL
    simp only [List.length_nil] at hL
    refine ⟨-1, hbad (by omega), fun h => absurd h (by decide), fun m hm h10 => ?_⟩
    rw [← hl] at hm
    rcases hsm m hm h10 with ⟨a, _, _, he⟩ | ⟨_, he⟩ <;> rw [hl] at he <;> cases he
  | [b0] =>
    rw [hl] at hL
    simp only [List.length_cons, List.length_nil] at hL
    have hb0 : p.data.toList[0]? = some b0 := by rw [hl]; rfl
    have hval : ∀ k, 20 ≤ k → spec_l1Read.f k p = if (b0.toNat : Int) < 48 then some (-1) else (if (b0.toNat : Int) > 57 then some (-1) else some ((b0.toNat : Int) - 48)) := by
      intro k hk
      obtain ⟨k, rfl⟩ : ∃ r, k = r + 1 + 1 + 1 := ⟨k - 3, by omega⟩
      have hd : decide ((p.size : Int) > 1) = false := decide_eq_false (by omega)
      have he : ∀ x, spec_l1Read.l0 (k + 1) p x ((0 + 1 : Nat) : Int) = some x := fun x => by
        have := readBy_end p k x
        rw [show (p.size : Int) = ((0 + 1 : Nat) : Int) from by omega] at this
        exact this
      rw [hf b0 hb0 (by omega), hd, ite_self, hj0, readBy_at p (k + 1) 0 0 b0 hb0 (by omega) (Int.le_refl 0) (by decide), he]
      congr 2
      congr 1
      omega
    by_cases e1 : (b0.toNat : Int) < 48
    · refine ⟨-1, fun k hk => by rw [hval k hk, if_pos e1], fun h => absurd h (by decide), fun m hm h10 => ?_⟩
      rw [← hl] at hm
      rcases hsm m hm h10 with ⟨a, ha, _, he⟩ | ⟨_, he⟩
      · rw [hl] at he
        injection he with he
        have : (UInt8.ofNat (48 + a)).toNat = 48 + a := by rw [UInt8.toNat_ofNat']; omega
        rw [he] at e1
        omega
      · rw [hl] at he; cases he
    · by_cases e2 : (b0.toNat : Int) > 57
      · refine ⟨-1, fun k hk => by rw [hval k hk, if_neg e1, if_pos e2], fun h => absurd h (by decide), fun m hm h10 => ?_⟩
        rw [← hl] at hm
        rcases hsm m hm h10 with ⟨a, ha, _, he⟩ | ⟨_, he⟩
        · rw [hl] at he
          injection he with he
          have : (UInt8.ofNat (48 + a)).toNat = 48 + a := by rw [UInt8.toNat_ofNat']; omega
          rw [he] at e2
          omega
        · rw [hl] at he; cases he
      · obtain ⟨a, ha⟩ : ∃ a : Nat, (b0.toNat : Int) - 48 = a := ⟨b0.toNat - 48, by omega⟩
        have hb : b0 = UInt8.ofNat (48 + a) := u8_of ha (by omega)
        have hn : num1 [b0] = some ((b0.toNat : Int) - 48) := by
          rw [ha, hb, ← dec_small (by omega : a < 10)]
          exact num1_small (by omega)
        refine ⟨(b0.toNat : Int) - 48, fun k hk => by rw [hval k hk, if_neg e1, if_neg e2], fun _ _ => hn, fun m hm h10 => ?_⟩
        rw [hn] at hm
        exact Option.some.inj hm
  | [b0, b1] =>
    rw [hl] at hL
    simp only [List.length_cons, List.length_nil] at hL
    have hb0 : p.data.toList[0]? = some b0 := by rw [hl]; rfl
    have hb1 : p.data.toList[1]? = some b1 := by rw [hl]; rfl
    have hd : decide ((p.size : Int) > 1) = true := decide_eq_true (by omega)
    have hten : ∀ m, num1 [b0, b1] = some m → m ≤ 10 → m = 10 ∧ b0 = 49 ∧ b1 = 48 := by
      intro m hm h10
      rw [← hl] at hm
      rcases hsm m hm h10 with ⟨a, ha, _, he⟩ | ⟨h, he⟩
      · rw [hl] at he; cases he
      · rw [hl] at he
        injection he with he1 he2
        injection he2 with he2
        exact ⟨h, he1, he2⟩
    by_cases hz : (b0.toNat : Int) = 48
    · refine ⟨-1, fun k hk => ?_, fun h => absurd h (by decide), fun m hm h10 => ?_⟩
      · obtain ⟨k, rfl⟩ : ∃ r, k = r + 1 := ⟨k - 1, by omega⟩
        rw [hf b0 hb0 (by omega), if_pos hz, hd, hj1]
      · obtain ⟨_, h2, _⟩ := hten m hm h10
        rw [h2] at hz
        exact absurd hz (by decide)
    · have hval : ∀ k, 20 ≤ k → spec_l1Read.f k p = if (b0.toNat : Int) < 48 then some (-1) else (if (b0.toNat : Int) > 57 then some (-1) else (if (b1.toNat : Int) < 48 then some (-1) else (if (b1.toNat : Int) > 57 then some (-1) else some (10 * ((b0.toNat : Int) - 48) + ((b1.toNat : Int) - 48))))) := by
        intro k hk
        obtain ⟨k, rfl⟩ : ∃ r, k = r + 1 + 1 + 1 + 1 := ⟨k - 4, by omega⟩
        have he : ∀ x, spec_l1Read.l0 (k + 1) p x ((1 + 1 : Nat) : Int) = some x := fun x => by
          have := readBy_end p k x
          rw [show (p.size : Int) = ((1 + 1 : Nat) : Int) from by omega] at this
          exact this
        rw [hf b0 hb0 (by omega), if_neg hz, hj0, readBy_at p (k + 1 + 1) 0 0 b0 hb0 (by omega) (Int.le_refl 0) (by decide)]
        by_cases e1 : (b0.toNat : Int) < 48
        · rw [if_pos e1, if_pos e1]
        · by_cases e2 : (b0.toNat : Int) > 57
          · rw [if_neg e1, if_neg e1, if_pos e2, if_pos e2]
          · rw [if_neg e1, if_neg e1, if_neg e2, if_neg e2, show (0 + 1 : Nat) = 1 from rfl, readBy_at p (k + 1) 1 _ b1 hb1 (by omega) (by omega) (by omega), he, show 10 * (10 * (0 : Int) + ((b0.toNat : Int) - 48)) = 10 * ((b0.toNat : Int) - 48) from by omega]
      by_cases hv : ((b0.toNat : Int) < 48 ∨ (b0.toNat : Int) > 57) ∨ ((b1.toNat : Int) < 48 ∨ (b1.toNat : Int) > 57)
      · refine ⟨-1, fun k hk => ?_, fun h => absurd h (by decide), fun m hm h10 => ?_⟩
        · rw [hval k hk]
          repeat' split
          all_goals first | rfl | omega
        · obtain ⟨_, h2, h3⟩ := hten m hm h10
          have t1 : (49 : UInt8).toNat = 49 := rfl
          have t2 : (48 : UInt8).toNat = 48 := rfl
          rw [h2, h3, t1, t2] at hv
          omega
      · refine ⟨10 * ((b0.toNat : Int) - 48) + ((b1.toNat : Int) - 48), fun k hk => ?_, fun h0 h10 => ?_, fun m hm h10 => ?_⟩
        · rw [hval k hk, if_neg (by omega), if_neg (by omega), if_neg (by omega), if_neg (by omega)]
        · have h1 : b0 = 49 := UInt8.toNat_inj.1 (by have : (49 : UInt8).toNat = 49 := rfl; omega)
          have h2 : b1 = 48 := UInt8.toNat_inj.1 (by have : (48 : UInt8).toNat = 48 := rfl; omega)
          subst h1 h2
          rw [← dec_ten, num1_small (by decide)]
          rfl
        · obtain ⟨h1, h2, h3⟩ := hten m hm h10
          rw [h1, h2, h3]
          rfl
  | b0 :: b1 :: b2 :: r =>
    rw [hl] at hL
    simp only [List.length_cons] at hL
    have hb0 : p.data.toList[0]? = some b0 := by rw [hl]; rfl
    have hb1 : p.data.toList[1]? = some b1 := by rw [hl]; rfl
    have hb2 : p.data.toList[2]? = some b2 := by rw [hl]; rfl
    have hno : ∀ (n m : Int), num1 (b0 :: b1 :: b2 :: r) = some m → m ≤ 10 → n = m := by
      intro n m hm h10
      rw [← hl] at hm
      rcases hsm m hm h10 with ⟨a, ha, _, he⟩ | ⟨h, he⟩ <;> rw [hl] at he <;> cases he
    by_cases h6 : p.size ≤ 6
    · have hd : decide ((p.size : Int) > 1) = true := decide_eq_true (by omega)
      by_cases hz : (b0.toNat : Int) = 48
      · refine ⟨-1, fun k hk => ?_, fun h => absurd h (by decide), hno _⟩
        obtain ⟨k, rfl⟩ : ∃ r, k = r + 1 := ⟨k - 1, by omega⟩
        rw [hf b0 hb0 h6, if_pos hz, hd, hj1]
      · by_cases e0 : (b0.toNat : Int) < 48 ∨ (b0.toNat : Int) > 57
        · refine ⟨-1, fun k hk => ?_, fun h => absurd h (by decide), hno _⟩
          obtain ⟨k, rfl⟩ : ∃ r, k = r + 1 + 1 := ⟨k - 2, by omega⟩
          rw [hf b0 hb0 h6, if_neg hz, hj0, readBy_at p k 0 0 b0 hb0 (by omega) (Int.le_refl 0) (by decide)]
          repeat' split
          all_goals first | rfl | omega
        · by_cases e1 : (b1.toNat : Int) < 48 ∨ (b1.toNat : Int) > 57
          · refine ⟨-1, fun k hk => ?_, fun h => absurd h (by decide), hno _⟩
            obtain ⟨k, rfl⟩ : ∃ r, k = r + 1 + 1 + 1 := ⟨k - 3, by omega⟩
            rw [hf b0 hb0 h6, if_neg hz, hj0, readBy_at p (k + 1) 0 0 b0 hb0 (by omega) (Int.le_refl 0) (by decide), if_neg (by omega), if_neg (by omega), show (0 + 1 : Nat) = 1 from rfl, readBy_at p k 1 _ b1 hb1 (by omega) (by omega) (by omega)]
            repeat' split
            all_goals first | rfl | omega
          · by_cases e2 : (b2.toNat : Int) < 48 ∨ (b2.toNat : Int) > 57
            · refine ⟨-1, fun k hk => ?_, fun h => absurd h (by decide), hno _⟩
              obtain ⟨k, rfl⟩ : ∃ r, k = r + 1 + 1 + 1 + 1 := ⟨k - 4, by omega⟩
              rw [hf b0 hb0 h6, if_neg hz, hj0, readBy_at p (k + 1 + 1) 0 0 b0 hb0 (by omega) (Int.le_refl 0) (by decide), if_neg (by omega), if_neg (by omega), show (0 + 1 : Nat) = 1 from rfl, readBy_at p (k + 1) 1 _ b1 hb1 (by omega) (by omega) (by omega), if_neg (by omega), if_neg (by omega), show (1 + 1 : Nat) = 2 from rfl, readBy_at p k 2 _ b2 hb2 (by omega) (by omega) (by omega)]
              repeat' split
              all_goals first | rfl | omega
            · obtain ⟨v, hv, E⟩ := readBy_l0 p h6 (p.size - 3) 3 (10 * (10 * (10 * (0 : Int) + ((b0.toNat : Int) - 48)) + ((b1.toNat : Int) - 48)) + ((b2.toNat : Int) - 48)) (by omega) (by omega) (by
                have : (10 : Int) ^ 3 = 1000 := by decide
                rw [this]
                omega)
              refine ⟨v, fun k hk => ?_, fun h0 h10 => by rcases hv with hv | hv <;> omega, hno _⟩
              obtain ⟨k, rfl⟩ : ∃ r, k = r + 1 + 1 + 1 + 1 := ⟨k - 4, by omega⟩
              rw [hf b0 hb0 h6, if_neg hz, hj0, readBy_at p (k + 1 + 1) 0 0 b0 hb0 (by omega) (Int.le_refl 0) (by decide), if_neg (by omega), if_neg (by omega), show (0 + 1 : Nat) = 1 from rfl, readBy_at p (k + 1) 1 _ b1 hb1 (by omega) (by omega) (by omega), if_neg (by omega), if_neg (by omega), show (1 + 1 : Nat) = 2 from rfl, readBy_at p k 2 _ b2 hb2 (by omega) (by omega) (by omega), if_neg (by omega), if_neg (by omega), show (2 + 1 : Nat) = 3 from rfl]
              exact E k (by omega)
    · exact ⟨-1, hbad (by omega), fun h => absurd h (by decide), hno _⟩

theorem splitL_free {c : UInt8} : ∀ {l : List UInt8}, c ∉ l → splitL c l = [l]
  | [], _ => rfl
  | b :: l, h => by
    have h1 : ¬ b = c := fun e => h (by rw [e]; exact List.mem_cons_self)
    have h2 : c ∉ l := fun e => h (List.mem_cons_of_mem _ e)
    rw [splitL, if_neg h1, splitL_free h2]
    rfl
theorem splitL_app {c : UInt8} {r : List UInt8} : ∀ {p : List UInt8}, c ∉ p → splitL c (p ++ c :: r) = p :: splitL c r
  | [], _ => by rw [List.nil_append, splitL, if_pos rfl]
  | b :: p, h => by
    have h1 : ¬ b = c := fun e => h (by rw [e]; exact List.mem_cons_self)
    have h2 : c ∉ p := fun e => h (List.mem_cons_of_mem _ e)
    rw [List.cons_append, splitL, if_neg h1, splitL_app h2]
    rfl
theorem splitL_inv {c : UInt8} : ∀ {l p : List UInt8} {rest : List (List UInt8)}, splitL c l = p :: rest → (rest = [] ∧ l = p) ∨ ∃ r, l = p ++ c :: r ∧ splitL c r = rest
  | [], p, rest, h => by
    rw [splitL] at h
    injection h with h1 h2
    exact Or.inl ⟨h2.symm, h1⟩
  | b :: l, p, rest, h => by
    rw [splitL] at h
    by_cases e : b = c
    · rw [if_pos e] at h
      injection h with h1 h2
      exact Or.inr ⟨l, by rw [← h1, e]; rfl, h2⟩
    · rw [if_neg e] at h
      injection h with h1 h2
      rcases splitL_inv (splitL_cons c l) with ⟨h3, h4⟩ | ⟨r, h3, h4⟩
      · refine Or.inl ⟨by rw [← h2, h3], ?_⟩
        rw [← h1, ← h4]
      · refine Or.inr ⟨r, ?_, by rw [← h2, h4]⟩
        rw [← h1, List.cons_append, ← h3]
theorem splitL_two {c : UInt8} {l p q : List UInt8} (h : splitL c l = [p, q]) : l = p ++ c :: q := by
  rcases splitL_inv h with ⟨h1, _⟩ | ⟨r, h1, h2⟩
  · cases h1
  · rcases splitL_inv h2 with ⟨_, h3⟩ | ⟨r2, _, h4⟩
    · rw [h1, h3]
    · exact absurd h4 (splitL_ne c r2)

theorem dec_small_free {n : Nat} (h : n ≤ 10) {c : UInt8} (hc : c.toNat < 48 ∨ 57 < c.toNat) : c ∉ Go.Lib.decDigits n := by
  have hd : ∀ m : Nat, m < 10 → c ≠ UInt8.ofNat (48 + m) := fun m hm e => by
    have : (UInt8.ofNat (48 + m)).toNat = 48 + m := by rw [UInt8.toNat_ofNat']; omega
    rw [e, this] at hc
    omega
  by_cases h10 : n = 10
  · subst h10
    rw [dec_ten]
    intro hm
    rcases List.mem_cons.1 hm with e | hm
    · exact hd 1 (by decide) e
    · exact hd 0 (by decide) (List.mem_singleton.1 hm)
  · rw [dec_small (by omega)]
    intro hm
    exact hd n (by omega) (List.mem_singleton.1 hm)
theorem dec_small_len {n : Nat} (h : n ≤ 10) : (Go.Lib.decDigits n).length ≤ 2 ∧ 1 ≤ (Go.Lib.decDigits n).length := by
  by_cases h10 : n = 10
  · subst h10; rw [dec_ten]; decide
  · rw [dec_small (by omega)]; simp

theorem wordsOf_mk (c : UInt8) (s : ByteArray) {ls : List (List UInt8)} (h : splitL c s.data.toList = ls) : wordsOf c s = ls.map fun l => ⟨l.toArray⟩ := by
  unfold wordsOf
  rw [h]
theorem ba_dat (l : List UInt8) : (⟨l.toArray⟩ : ByteArray).data.toList = l := rfl

theorem cut_one {c : UInt8} {p r : List UInt8} (h : c ∉ p) : Go.Lib.cut (p ++ c :: r) [c] = (p, r, true) := by
  have hi : Go.Lib.index (p ++ c :: r) [c] = (p.length : Int) := by
    induction p with
    | nil => simp [Go.Lib.index, List.isPrefixOf]
    | cons b p ih =>
      have h1 : c ≠ b := fun e => h (by rw [e]; exact List.mem_cons_self)
      have h2 : c ∉ p := fun e => h (List.mem_cons_of_mem _ e)
      have hp : ([c] : List UInt8).isPrefixOf (b :: (p ++ c :: r)) = false := by simp [List.isPrefixOf, h1]
      have ih' := ih h2
      have hne : ¬ (Go.Lib.index (p ++ c :: r) [c] == -1) = true := fun e => by have := beq_iff_eq.1 e; omega
      rw [List.cons_append, Go.Lib.index, hp]
      simp only [Bool.false_eq_true, ↓reduceIte]
      rw [if_neg hne, ih', List.length_cons]
      omega
  unfold Go.Lib.cut
  rw [if_pos (by omega), hi, Int.toNat_natCast]
  simp
theorem cut_size (l sep : List UInt8) : (Go.Lib.cut l sep).1.length ≤ l.length ∧ (Go.Lib.cut l sep).2.1.length ≤ l.length := by
  unfold Go.Lib.cut
  split
  · simp; omega
  · simp
theorem numsW_len' : ∀ (ws : List ByteArray) (ns : List Int), numsW ws = some ns → ns.length = ws.length
  | [], ns, h => by
    simp only [numsW, Option.some.injEq] at h
    subst h
    rfl
  | w :: ws, ns, h => by
    simp only [numsW, Option.bind_eq_some_iff, Option.map_eq_some_iff] at h
    obtain ⟨n, _, ns', h2, rfl⟩ := h
    simp only [List.length_cons, numsW_len' ws ns' h2]

/-- Words, a sign between them. -/
def joinL (c : UInt8) : List (List UInt8) → List UInt8
  | [] => []
  | p :: ps => p ++ ps.flatMap (fun q => c :: q)
theorem joinL_two (c : UInt8) (p q : List UInt8) (ps : List (List UInt8)) : joinL c (p :: q :: ps) = p ++ c :: joinL c (q :: ps) := by
  simp [joinL]
theorem join_split (c : UInt8) (l : List UInt8) : joinL c (splitL c l) = l := by
  suffices H : ∀ (ps : List (List UInt8)) (l : List UInt8), splitL c l = ps → joinL c ps = l from H _ l rfl
  intro ps
  induction ps with
  | nil => intro l h; exact absurd h (splitL_ne c l)
  | cons p ps ih =>
    intro l h
    rcases splitL_inv h with ⟨h1, h2⟩ | ⟨r, h1, h2⟩
    · subst h1
      simp [joinL, h2]
    · cases ps with
      | nil => exact absurd h2 (splitL_ne c r)
      | cons q ps =>
        rw [joinL_two, ih r h2, h1]
theorem split_join (c : UInt8) : ∀ (ps : List (List UInt8)), ps ≠ [] → (∀ p ∈ ps, c ∉ p) → splitL c (joinL c ps) = ps
  | [], h, _ => absurd rfl h
  | [p], _, h => by
    have := splitL_free (h p List.mem_cons_self)
    simpa [joinL] using this
  | p :: q :: ps, _, h => by
    rw [joinL_two, splitL_app (h p List.mem_cons_self), split_join c (q :: ps) (by simp) (fun x hx => h x (List.mem_cons_of_mem _ hx))]

/-- A number's digits. -/
def dg (n : Int) : List UInt8 := Go.Lib.decDigits n.toNat
theorem dg_small {n : Int} (h0 : 0 ≤ n) (h1 : n ≤ 10) : num1 (dg n) = some n := by
  have := num1_small (n := n.toNat) (by omega)
  unfold dg
  rw [this]
  congr 1
  omega
theorem dg_free {n : Int} (h1 : n ≤ 10) {c : UInt8} (hc : c.toNat < 48 ∨ 57 < c.toNat) : c ∉ dg n := dec_small_free (by omega) hc
theorem dg_len {n : Int} (h1 : n ≤ 10) : (dg n).length ≤ 2 := (dec_small_len (by omega)).1
theorem numsW_dg : ∀ (ws : List ByteArray) (ns : List Int), numsW ws = some ns → ws.map (·.data.toList) = ns.map dg
  | [], ns, h => by
    simp only [numsW, Option.some.injEq] at h
    subst h
    rfl
  | w :: ws, ns, h => by
    simp only [numsW, Option.bind_eq_some_iff, Option.map_eq_some_iff] at h
    obtain ⟨n, h1, ns', h2, rfl⟩ := h
    rw [List.map_cons, List.map_cons, numsW_dg ws ns' h2, (num1_some h1).2.2.2.2]
    rfl
theorem numsW_of_dg : ∀ (ns : List Int), (∀ n ∈ ns, 0 ≤ n ∧ n ≤ 10) → ∀ ws : List ByteArray, ws.map (·.data.toList) = ns.map dg → numsW ws = some ns
  | [], _, ws, h => by
    cases ws with
    | nil => rfl
    | cons _ _ => simp at h
  | n :: ns, hn, ws, h => by
    cases ws with
    | nil => simp at h
    | cons w ws =>
      simp only [List.map_cons, List.cons.injEq] at h
      have h0 := hn n List.mem_cons_self
      simp only [numsW, h.1, dg_small h0.1 h0.2, Option.bind_some, numsW_of_dg ns (fun m hm => hn m (List.mem_cons_of_mem _ hm)) ws h.2, Option.map_some]

/-- The text of states. -/
def statesL (o : Int) (rows : List (List Int)) : List UInt8 := joinL 59 (dg o :: rows.map fun r => joinL 44 (r.map dg))

theorem join_free {c d : UInt8} (hd : d ≠ c) : ∀ (ps : List (List UInt8)), (∀ p ∈ ps, d ∉ p) → d ∉ joinL c ps
  | [], _ => by simp [joinL]
  | p :: ps, h => by
    intro hm
    rcases List.mem_append.1 hm with hm | hm
    · exact h p List.mem_cons_self hm
    · obtain ⟨q, hq, hm⟩ := List.mem_flatMap.1 hm
      rcases List.mem_cons.1 hm with hm | hm
      · exact hd hm
      · exact h q (List.mem_cons_of_mem _ hq) hm
/-- The parts of the text of states, and the words of a row. -/
theorem statesL_parts {o : Int} {rows : List (List Int)} (ho : o ≤ 10) (hr : ∀ r ∈ rows, ∀ x ∈ r, x ≤ 10) : splitL 59 (statesL o rows) = dg o :: rows.map fun r => joinL 44 (r.map dg) := by
  refine split_join 59 _ (by simp) (fun p hp => ?_)
  rcases List.mem_cons.1 hp with rfl | hp
  · exact dg_free ho (Or.inr (by decide))
  · obtain ⟨r, hr1, rfl⟩ := List.mem_map.1 hp
    refine join_free (by decide) _ (fun q hq => ?_)
    obtain ⟨x, hx, rfl⟩ := List.mem_map.1 hq
    exact dg_free (hr r hr1 x hx) (Or.inr (by decide))
theorem row_words {r : List Int} (h0 : r ≠ []) (hr : ∀ x ∈ r, x ≤ 10) : splitL 44 (joinL 44 (r.map dg)) = r.map dg := by
  refine split_join 44 _ (by simpa using h0) (fun p hp => ?_)
  obtain ⟨x, hx, rfl⟩ := List.mem_map.1 hp
  exact dg_free (hr x hx) (Or.inl (by decide))
theorem row_len {r : List Int} (hr : ∀ x ∈ r, x ≤ 10) : (joinL 44 (r.map dg)).length ≤ 3 * r.length := by
  have hf : ∀ (t : List Int), (∀ x ∈ t, x ≤ 10) → ((t.map dg).flatMap (fun q => (44 : UInt8) :: q)).length ≤ 3 * t.length := by
    intro t
    induction t with
    | nil => intro _; simp
    | cons x t ih =>
      intro h
      have h1 := dg_len (h x List.mem_cons_self)
      have h2 := ih (fun y hy => h y (List.mem_cons_of_mem _ hy))
      simp only [List.map_cons, List.flatMap_cons, List.length_append, List.length_cons]
      omega
  cases r with
  | nil => simp [joinL]
  | cons x t =>
    have h1 := dg_len (hr x List.mem_cons_self)
    have h2 := hf t (fun y hy => hr y (List.mem_cons_of_mem _ hy))
    simp only [List.map_cons, joinL, List.length_append, List.length_cons]
    omega
theorem statesL_len {o : Int} {rows : List (List Int)} (ho : o ≤ 10) (hn : rows.length ≤ 5) (hr : ∀ r ∈ rows, r.length ≤ 5 ∧ ∀ x ∈ r, x ≤ 10) : (statesL o rows).length ≤ 90 := by
  have h1 := dg_len ho
  have hf : ∀ (t : List (List Int)), (∀ r ∈ t, r.length ≤ 5 ∧ ∀ x ∈ r, x ≤ 10) → ((t.map fun r => joinL 44 (r.map dg)).flatMap (fun q => (59 : UInt8) :: q)).length ≤ 16 * t.length := by
    intro t
    induction t with
    | nil => intro _; simp
    | cons r t ih =>
      intro h
      obtain ⟨g1, g2⟩ := h r List.mem_cons_self
      have h1 := row_len g2
      have h2 := ih (fun y hy => h y (List.mem_cons_of_mem _ hy))
      simp only [List.map_cons, List.flatMap_cons, List.length_append, List.length_cons]
      omega
  have h2 := hf rows hr
  show (dg o ++ (rows.map fun r => joinL 44 (r.map dg)).flatMap (fun q => (59 : UInt8) :: q)).length ≤ 90
  rw [List.length_append]
  omega

theorem rd_get {xs : List Int} {j : Nat} (h : j < xs.length) : rd xs (j : Int) = xs[j] := by
  unfold rd
  rw [Int.toNat_natCast, List.getD_eq_getElem?_getD, List.getElem?_eq_getElem h]
  rfl

theorem rd1_get {xs : List (List Int)} {j : Nat} (h : j < xs.length) : rd_L1 xs (j : Int) = xs[j] := by
  unfold rd_L1
  rw [Int.toNat_natCast, List.getD_eq_getElem?_getD, List.getElem?_eq_getElem h]
  rfl

/-- A row of chances: n numbers from 0 on, o in all. -/
def GoodRow (n : Nat) (o : Int) (row : List Int) : Prop := row.length = n ∧ (∀ x ∈ row, 0 ≤ x) ∧ row.sum = o
/-- Valid states. -/
def Good (o : Int) (rows : List (List Int)) : Prop := 1 ≤ o ∧ o ≤ 10 ∧ 1 ≤ rows.length ∧ rows.length ≤ 5 ∧ ∀ row ∈ rows, GoodRow rows.length o row

theorem sum_nonneg : ∀ (l : List Int), (∀ x ∈ l, 0 ≤ x) → 0 ≤ l.sum
  | [], _ => by simp
  | x :: l, h => by
    have h1 := h x (by simp)
    have h2 := sum_nonneg l (fun y hy => h y (by simp [hy]))
    simp only [List.sum_cons]
    omega

theorem le_sum : ∀ (l : List Int), (∀ x ∈ l, 0 ≤ x) → ∀ x ∈ l, x ≤ l.sum
  | [], _, x, hx => by simp at hx
  | y :: l, h, x, hx => by
    have h1 := h y (by simp)
    have h2 := sum_nonneg l (fun z hz => h z (by simp [hz]))
    simp only [List.sum_cons]
    rcases List.mem_cons.1 hx with rfl | hx
    · omega
    · have := le_sum l (fun z hz => h z (by simp [hz])) x hx
      omega

theorem in_true {n a b : Int} (h : a ≤ n ∧ n ≤ b) : (if n ≥ a then some (decide (n ≤ b)) else some false) = some true := by
  rw [if_pos h.1, decide_eq_true h.2]
theorem in_false {n a b : Int} (h : ¬ (a ≤ n ∧ n ≤ b)) : (if n ≥ a then some (decide (n ≤ b)) else some false) = some false := by
  by_cases h1 : n ≥ a
  · rw [if_pos h1, decide_eq_false (by omega)]
  · rw [if_neg h1]

theorem l1All_l0 (a b : Int) (xs : List Int) (hx : xs.length ≤ 1048576) : ∀ (m j : Nat), j + m = xs.length →
    ∃ t : Bool, (t = true ↔ ∀ x ∈ xs.drop j, a ≤ x ∧ x ≤ b) ∧ ∀ k, m < k → spec_l1All.l0 k a b xs (xs.length : Int) j = some t := by
  intro m
  induction m with
  | zero =>
    intro j hj
    refine ⟨true, ?_, fun k hk => ?_⟩
    · rw [List.drop_of_length_le (by omega)]; simp
    · obtain ⟨k, rfl⟩ : ∃ m, k = m + 1 := ⟨k - 1, by omega⟩
      simp only [spec_l1All.l0]
      rw [if_neg (by omega)]
  | succ m ih =>
    intro j hj
    have hlt : j < xs.length := by omega
    by_cases h : a ≤ xs[j] ∧ xs[j] ≤ b
    · obtain ⟨t, ht, E⟩ := ih (j + 1) (by omega)
      refine ⟨t, ?_, fun k hk => ?_⟩
      · rw [List.drop_eq_getElem_cons hlt, ht]
        simp only [List.mem_cons, forall_eq_or_imp]
        exact ⟨fun h2 => ⟨h, h2⟩, fun h2 => h2.2⟩
      · obtain ⟨k, rfl⟩ : ∃ m, k = m + 1 := ⟨k - 1, by omega⟩
        simp only [spec_l1All.l0, spec_l1In.f]
        rw [if_pos (by omega), if_pos (by omega), if_pos (by omega), rd_get hlt, in_true h]
        simp only [Option.bind_some, ↓reduceIte]
        rw [w64 (x := (j : Int) + 1) (by omega) (by omega)]
        exact E k (by omega)
    · refine ⟨false, ?_, fun k hk => ?_⟩
      · rw [List.drop_eq_getElem_cons hlt]
        simp only [Bool.false_eq_true, false_iff]
        exact fun h2 => h (h2 _ List.mem_cons_self)
      · obtain ⟨k, rfl⟩ : ∃ m, k = m + 1 := ⟨k - 1, by omega⟩
        simp only [spec_l1All.l0, spec_l1In.f]
        rw [if_pos (by omega), if_pos (by omega), if_pos (by omega), rd_get hlt, in_false h]
        simp

theorem saGood_l1 (o : Int) (rows : List (List Int)) (jj : Int) (xs : List Int) (hx : xs.length ≤ 5) (ha : ∀ x ∈ xs, 0 ≤ x ∧ x ≤ 10) : ∀ (m j : Nat) (acc : Int), j + m = xs.length → 0 ≤ acc → acc ≤ 10 * j → ∀ k, m < k →
    spec_saGood.l1 k acc rows (rows.length : Int) jj xs (xs.length : Int) j o rows = if acc + (xs.drop j).sum = o then spec_saGood.l0 (k - m - 1) rows (rows.length : Int) (wrap64 (jj + 1)) o rows else some false := by
  intro m
  induction m with
  | zero =>
    intro j acc hj h0 h1 k hk
    obtain ⟨k, rfl⟩ : ∃ m, k = m + 1 := ⟨k - 1, by omega⟩
    simp only [spec_saGood.l1]
    rw [if_neg (by omega), List.drop_of_length_le (by omega)]
    simp
  | succ m ih =>
    intro j acc hj h0 h1 k hk
    obtain ⟨k, rfl⟩ : ∃ m, k = m + 1 := ⟨k - 1, by omega⟩
    have hlt : j < xs.length := by omega
    have hxj := ha _ (List.getElem_mem hlt)
    simp only [spec_saGood.l1]
    rw [if_pos (by omega), if_pos (by omega), if_pos (by omega), rd_get hlt, w64 (x := acc + xs[j]) (by omega) (by omega), w64 (x := (j : Int) + 1) (by omega) (by omega), show (j : Int) + 1 = ((j + 1 : Nat) : Int) from by omega]
    rw [ih (j + 1) (acc + xs[j]) (by omega) (by omega) (by omega) k (by omega), List.drop_eq_getElem_cons hlt, List.sum_cons, Int.add_assoc]
    rw [show k + 1 - (m + 1) - 1 = k - m - 1 from by omega]

theorem saGood_l0 (o : Int) (o1 : o ≤ 10) (rows : List (List Int)) (hn : rows.length ≤ 5) (hl : ∀ r ∈ rows, r.length ≤ 1048576) : ∀ (m j : Nat), j + m = rows.length →
    ∃ t : Bool, (t = true ↔ ∀ row ∈ rows.drop j, GoodRow rows.length o row) ∧ ∃ K, ∀ k, K ≤ k → spec_saGood.l0 k rows (rows.length : Int) j o rows = some t := by
  intro m
  induction m with
  | zero =>
    intro j hj
    refine ⟨true, ?_, 1, fun k hk => ?_⟩
    · rw [List.drop_of_length_le (by omega)]; simp
    · obtain ⟨k, rfl⟩ : ∃ m, k = m + 1 := ⟨k - 1, by omega⟩
      simp only [spec_saGood.l0]
      rw [if_neg (by omega)]
  | succ m ih =>
    intro j hj
    have hlt : j < rows.length := by omega
    have hll := hl _ (List.getElem_mem hlt)
    obtain ⟨t1, ht1, E1⟩ := l1All_l0 0 o rows[j] hll rows[j].length 0 (by omega)
    rw [List.drop_zero] at ht1
    have bad : ¬ GoodRow rows.length o rows[j] → (∃ K, ∀ k, K ≤ k → spec_saGood.l0 k rows (rows.length : Int) j o rows = some false) → ∃ t : Bool, (t = true ↔ ∀ row ∈ rows.drop j, GoodRow rows.length o row) ∧ ∃ K, ∀ k, K ≤ k → spec_saGood.l0 k rows (rows.length : Int) j o rows = some t := by
      intro hb hE
      refine ⟨false, ?_, hE⟩
      rw [List.drop_eq_getElem_cons hlt]
      simp only [Bool.false_eq_true, false_iff]
      exact fun h2 => hb (h2 _ List.mem_cons_self)
    by_cases c1 : rows[j].length = rows.length
    · cases t1 with
      | false =>
        refine bad (fun hg => ?_) ⟨1048580, fun k hk => ?_⟩
        · have := ht1.2 (fun x hx => ⟨hg.2.1 x hx, by have := le_sum _ hg.2.1 x hx; have := hg.2.2; omega⟩)
          simp at this
        · obtain ⟨k, rfl⟩ : ∃ m, k = m + 2 := ⟨k - 2, by omega⟩
          rw [spec_saGood.l0]
          rw [if_pos (by omega), if_pos (by omega), if_pos (by omega), rd1_get hlt, if_pos (by omega)]
          unfold spec_l1All.f
          rw [show spec_l1All.l0 (k + 1) 0 o rows[j] (rows[j].length : Int) 0 = some false from E1 _ (by omega)]
          simp only [Option.bind_some]
          rw [spec_saGood.j2]
          simp
      | true =>
        have hall := ht1.1 rfl
        have hs := saGood_l1 o rows j rows[j] (by omega) (fun x hx => ⟨(hall x hx).1, by have := (hall x hx).2; omega⟩) rows[j].length 0 0 (by omega) (by omega) (by omega)
        rw [List.drop_zero, Int.zero_add] at hs
        by_cases c2 : rows[j].sum = o
        · obtain ⟨t, ht, K, E⟩ := ih (j + 1) (by omega)
          refine ⟨t, ?_, K + 1048590, fun k hk => ?_⟩
          · rw [List.drop_eq_getElem_cons hlt, ht]
            simp only [List.mem_cons, forall_eq_or_imp]
            exact ⟨fun h2 => ⟨⟨c1, fun x hx => (hall x hx).1, c2⟩, h2⟩, fun h2 => h2.2⟩
          · obtain ⟨k, rfl⟩ : ∃ m, k = m + 2 := ⟨k - 2, by omega⟩
            rw [spec_saGood.l0]
            rw [if_pos (by omega), if_pos (by omega), if_pos (by omega), rd1_get hlt, if_pos (by omega)]
            unfold spec_l1All.f
            rw [show spec_l1All.l0 (k + 1) 0 o rows[j] (rows[j].length : Int) 0 = some true from E1 _ (by omega)]
            simp only [Option.bind_some, Bool.not_true]
            rw [spec_saGood.j2]
            simp only [Bool.false_eq_true, ↓reduceIte]
            have h3 := hs k (by omega)
            rw [if_pos c2, w64 (x := (j : Int) + 1) (by omega) (by omega)] at h3
            exact h3.trans (E _ (by omega))
        · refine bad (fun hg => c2 hg.2.2) ⟨1048590, fun k hk => ?_⟩
          obtain ⟨k, rfl⟩ : ∃ m, k = m + 2 := ⟨k - 2, by omega⟩
          rw [spec_saGood.l0]
          rw [if_pos (by omega), if_pos (by omega), if_pos (by omega), rd1_get hlt, if_pos (by omega)]
          unfold spec_l1All.f
          rw [show spec_l1All.l0 (k + 1) 0 o rows[j] (rows[j].length : Int) 0 = some true from E1 _ (by omega)]
          simp only [Option.bind_some, Bool.not_true]
          rw [spec_saGood.j2]
          simp only [Bool.false_eq_true, ↓reduceIte]
          have h3 := hs k (by omega)
          rw [if_neg c2] at h3
          exact h3
    · refine bad (fun hg => c1 hg.1) ⟨10, fun k hk => ?_⟩
      obtain ⟨k, rfl⟩ : ∃ m, k = m + 2 := ⟨k - 2, by omega⟩
      rw [spec_saGood.l0]
      rw [if_pos (by omega), if_pos (by omega), if_pos (by omega), rd1_get hlt, if_neg (by omega), spec_saGood.j2]
      simp

theorem saGood_ev (o : Int) (rows : List (List Int)) (hn : rows.length ≤ 1048576) (hl : ∀ r ∈ rows, r.length ≤ 1048576) :
    ∃ t : Bool, (t = true ↔ Good o rows) ∧ ∃ K, ∀ k, K ≤ k → spec_saGood.f k o rows = some t := by
  by_cases c1 : 1 ≤ o ∧ o ≤ 10
  · by_cases c2 : 1 ≤ (rows.length : Int) ∧ (rows.length : Int) ≤ 5
    · obtain ⟨t, ht, K, E⟩ := saGood_l0 o c1.2 rows (by omega) hl rows.length 0 (by omega)
      rw [List.drop_zero] at ht
      refine ⟨t, ht.trans ⟨fun h => ⟨c1.1, c1.2, by omega, by omega, h⟩, fun h => h.2.2.2.2⟩, K + 1, fun k hk => ?_⟩
      obtain ⟨k, rfl⟩ : ∃ m, k = m + 1 := ⟨k - 1, by omega⟩
      simp only [spec_saGood.f, spec_saGood.j0, spec_l1In.f, in_true c1, in_true c2, Option.bind_some, ↓reduceIte, Bool.not_true, Bool.false_eq_true]
      exact E k (by omega)
    · refine ⟨false, ⟨fun h => by simp at h, fun h => absurd ⟨by have := h.2.2.1; omega, by have := h.2.2.2.1; omega⟩ c2⟩, 1, fun k hk => ?_⟩
      obtain ⟨k, rfl⟩ : ∃ m, k = m + 1 := ⟨k - 1, by omega⟩
      simp only [spec_saGood.f, spec_saGood.j0, spec_l1In.f, in_true c1, in_false c2, Option.bind_some, ↓reduceIte, Bool.not_false]
  · refine ⟨false, ⟨fun h => by simp at h, fun h => absurd ⟨h.1, h.2.1⟩ c1⟩, 1, fun k hk => ?_⟩
    obtain ⟨k, rfl⟩ : ∃ m, k = m + 1 := ⟨k - 1, by omega⟩
    simp only [spec_saGood.f, spec_saGood.j0, spec_l1In.f, in_false c1, Option.bind_some, ↓reduceIte, Bool.false_eq_true]

theorem le_up {α : Type} {g : Nat → Option α} (hm : ∀ k, LeO (g k) (g (k + 1))) {n : Nat} {r : α} (h : g n = some r) : ∀ k, n ≤ k → g k = some r := by
  intro k hk
  induction k with
  | zero => rw [show n = 0 from by omega] at h; exact h
  | succ k ih =>
    by_cases c : n ≤ k
    · exact hm k r (ih c)
    · rw [show n = k + 1 from by omega] at h; exact h


theorem num_facts : ∀ n : Fin 11, spec_l1Num.f 3 (n.val : Int) = some ⟨(Go.Lib.decDigits n.val).toArray⟩ ∧ (Go.Lib.decDigits n.val).length ≤ 2 := by decide +kernel

/-- The digits of a number. -/
def ntL (y : Int) : List UInt8 := Go.Lib.decDigits y.toNat
def nt (y : Int) : ByteArray := ⟨(ntL y).toArray⟩

theorem nt_tl (y : Int) : (nt y).data.toList = ntL y := rfl
theorem ntL_len {y : Int} (h0 : 0 ≤ y) (h1 : y ≤ 10) : (ntL y).length ≤ 2 := (num_facts ⟨y.toNat, by omega⟩).2
theorem nt_size {y : Int} (h0 : 0 ≤ y) (h1 : y ≤ 10) : (nt y).size ≤ 2 := by
  have := ntL_len h0 h1
  show (ntL y).toArray.size ≤ 2
  simpa using this
theorem l1Num_is {y : Int} (h0 : 0 ≤ y) (h1 : y ≤ 10) (k : Nat) (hk : 3 ≤ k) : spec_l1Num.f k y = some (nt y) := by
  have h := (num_facts ⟨y.toNat, by omega⟩).1
  have e : ((⟨y.toNat, by omega⟩ : Fin 11).val : Int) = y := by show ((y.toNat : Nat) : Int) = y; omega
  rw [e] at h
  exact le_up (g := fun k => spec_l1Num.f k y) (fun k => spec_l1Num.mono y k) h k hk
theorem tl_app (a b : ByteArray) : (a ++ b).data.toList = a.data.toList ++ b.data.toList := by
  rw [ByteArray.data_append, Array.toList_append]
theorem tl_size (a : ByteArray) : a.size = a.data.toList.length := by
  show a.data.size = _
  rw [Array.length_toList]
theorem tl_ext {a b : ByteArray} (h : a.data.toList = b.data.toList) : a = b := by
  cases a; cases b
  simp only at h
  rw [Array.toList_inj] at h
  rw [h]

/-- A sign ahead of each word. -/
def jT (l : List (List UInt8)) : List UInt8 := l.flatMap (fun q => (44 : UInt8) :: q)
theorem jt_cons (x : List UInt8) (r : List (List UInt8)) : jT (x :: r) = 44 :: (x ++ jT r) := by simp [jT]

theorem saText_l1 (rows : List (List Int)) (i : Int) (row : List Int) (hlen : row.length ≤ 5) (hr : ∀ y ∈ row, 0 ≤ y ∧ y ≤ 10) :
    ∀ (m j : Nat) (acc : ByteArray), j + m = row.length → 1 ≤ j → acc.size + 3 * m ≤ 1000 → ∃ acc' : ByteArray, acc'.size ≤ acc.size + 3 * m ∧ acc'.data.toList = acc.data.toList ++ jT ((row.drop j).map ntL) ∧
      ∀ k, 5 ≤ k → spec_saText.l1 (k + m + 1) acc rows (rows.length : Int) i row (row.length : Int) (j : Int) = spec_saText.l0 k acc' rows (rows.length : Int) (wrap64 (i + 1)) := by
  intro m
  induction m with
  | zero =>
    intro j acc hj h1 hs
    refine ⟨acc, by omega, ?_, fun k hk => ?_⟩
    · rw [List.drop_eq_nil_of_le (by omega)]
      simp [jT]
    · rw [Nat.add_zero]
      simp only [spec_saText.l1]
      rw [if_neg (by omega)]
  | succ m ih =>
    intro j acc hj h1 hs
    have hlt : j < row.length := by omega
    have hy := hr row[j] (List.getElem_mem _)
    have hsz := nt_size hy.1 hy.2
    have hw : wrap64 ((j : Int) + 1) = ((j + 1 : Nat) : Int) := by rw [w64 (by omega) (by omega)]; omega
    have hsa : ((acc ++ (⟨#[44]⟩ : ByteArray)) ++ nt row[j]).size = acc.size + 1 + (nt row[j]).size := by
      rw [ByteArray.size_append, ByteArray.size_append]; rfl
    obtain ⟨acc', g1, g2, g3⟩ := ih (j + 1) ((acc ++ (⟨#[44]⟩ : ByteArray)) ++ nt row[j]) (by omega) (by omega) (by omega)
    refine ⟨acc', by omega, ?_, fun k hk => ?_⟩
    · rw [g2, tl_app, tl_app, nt_tl, List.drop_eq_getElem_cons hlt, List.map_cons, jt_cons, List.append_assoc, List.append_assoc]
      rfl
    · have hg := g3 k hk
      have hq : 5 ≤ k + m + 1 := by omega
      rw [show k + (m + 1) + 1 = (k + m + 1) + 1 from by omega]
      have c1 : (j : Int) < (row.length : Int) := by omega
      have c2 : (0 : Int) ≤ (j : Int) := Int.natCast_nonneg _
      have c3 : ¬ (j : Int) = 0 := by omega
      have c4 : acc.size + 1 ≤ 9223372036854775807 := by omega
      have c5 : acc.size + 1 + (nt row[j]).size ≤ 9223372036854775807 := by omega
      have c6 := l1Num_is hy.1 hy.2 (k + m + 1) (by omega)
      generalize k + m + 1 = K at hg hq c6 ⊢
      simp only [spec_saText.l1]
      rw [if_pos c1, if_pos c2, if_pos c1, if_neg c3, if_pos c4, rd_get hlt, c6, Option.bind_some, if_pos c5, hw]
      exact hg

/-- A row as text: a sign, the first number, and behind a sign each further one. -/
def rowL : List Int → List UInt8
  | [] => []
  | y :: t => 59 :: (ntL y ++ jT (t.map ntL))

theorem saText_row (rows : List (List Int)) (i : Int) (row : List Int) (hlen : row.length ≤ 5) (h0 : 1 ≤ row.length) (hr : ∀ y ∈ row, 0 ≤ y ∧ y ≤ 10) (acc : ByteArray) (hs : acc.size + 15 ≤ 1000) :
    ∃ acc' : ByteArray, acc'.size ≤ acc.size + 15 ∧ acc'.data.toList = acc.data.toList ++ rowL row ∧
      ∀ k, 5 ≤ k → spec_saText.l1 (k + row.length + 1) acc rows (rows.length : Int) i row (row.length : Int) 0 = spec_saText.l0 k acc' rows (rows.length : Int) (wrap64 (i + 1)) := by
  match row, hlen, h0, hr with
  | y :: t, hlen, _, hr =>
    have hy := hr y List.mem_cons_self
    have hsz := nt_size hy.1 hy.2
    have hlt : (y :: t).length = t.length + 1 := List.length_cons
    have hsa : ((acc ++ (⟨#[59]⟩ : ByteArray)) ++ nt y).size = acc.size + 1 + (nt y).size := by
      rw [ByteArray.size_append, ByteArray.size_append]; rfl
    obtain ⟨acc', g1, g2, g3⟩ := saText_l1 rows i (y :: t) hlen hr t.length 1 ((acc ++ (⟨#[59]⟩ : ByteArray)) ++ nt y) (by omega) (by omega) (by omega)
    refine ⟨acc', by omega, ?_, fun k hk => ?_⟩
    · rw [g2, tl_app, tl_app, nt_tl]
      simp [rowL]
    · have hg := g3 k hk
      rw [hlt, show k + (t.length + 1) + 1 = (k + t.length + 1) + 1 from by omega]
      rw [hlt] at hg
      have c1 : (0 : Int) < ((t.length + 1 : Nat) : Int) := by omega
      have c4 : acc.size + 1 ≤ 9223372036854775807 := by omega
      have c5 : acc.size + 1 + (nt y).size ≤ 9223372036854775807 := by omega
      have c6 := l1Num_is hy.1 hy.2 (k + t.length + 1) (by omega)
      have c7 : rd (y :: t) 0 = y := rfl
      have hw : wrap64 ((0 : Int) + 1) = ((1 : Nat) : Int) := by rw [w64 (by omega) (by omega)]; omega
      generalize k + t.length + 1 = K at hg c6 ⊢
      simp only [spec_saText.l1]
      rw [if_pos c1, if_pos (by omega), if_pos (by rw [hlt]; exact c1), if_pos trivial, if_pos c4, c7, c6, Option.bind_some, if_pos c5, hw]
      exact hg

theorem saText_l0 (rows : List (List Int)) (hn : rows.length ≤ 5) (h5 : ∀ r ∈ rows, r.length ≤ 5 ∧ 1 ≤ r.length ∧ ∀ y ∈ r, 0 ≤ y ∧ y ≤ 10) :
    ∀ (m j : Nat) (acc : ByteArray), j + m = rows.length → acc.size + 15 * m ≤ 900 → ∃ acc' : ByteArray, acc'.data.toList = acc.data.toList ++ (rows.drop j).flatMap rowL ∧
      ∀ k, 20 + 10 * m ≤ k → spec_saText.l0 k acc rows (rows.length : Int) (j : Int) = some acc' := by
  intro m
  induction m with
  | zero =>
    intro j acc hj hs
    refine ⟨acc, ?_, fun k hk => ?_⟩
    · rw [List.drop_eq_nil_of_le (by omega)]
      simp
    · obtain ⟨k, rfl⟩ : ∃ q, k = q + 1 := ⟨k - 1, by omega⟩
      simp only [spec_saText.l0]
      rw [if_neg (by omega)]
  | succ m ih =>
    intro j acc hj hs
    have hlt : j < rows.length := by omega
    obtain ⟨a1, a2, a3⟩ := h5 rows[j] (List.getElem_mem _)
    obtain ⟨acc1, g1, g2, g3⟩ := saText_row rows (j : Int) rows[j] a1 a2 a3 acc (by omega)
    obtain ⟨acc2, f2, f3⟩ := ih (j + 1) acc1 (by omega) (by omega)
    have hw : wrap64 ((j : Int) + 1) = ((j + 1 : Nat) : Int) := by rw [w64 (by omega) (by omega)]; omega
    refine ⟨acc2, ?_, fun k hk => ?_⟩
    · rw [f2, g2, List.drop_eq_getElem_cons hlt, List.flatMap_cons, List.append_assoc]
    · obtain ⟨k, rfl⟩ : ∃ q, k = (q + rows[j].length + 1) + 1 := ⟨k - rows[j].length - 2, by omega⟩
      have hg := g3 k (by omega)
      have hr : rd_L1 rows (j : Int) = rows[j] := by
        unfold rd_L1
        rw [Int.toNat_natCast, List.getD_eq_getElem?_getD, List.getElem?_eq_getElem hlt]
        rfl
      have c1 : (j : Int) < (rows.length : Int) := by omega
      have c2 : (0 : Int) ≤ (j : Int) := Int.natCast_nonneg _
      generalize k + rows[j].length + 1 = K at hg ⊢
      simp only [spec_saText.l0]
      rw [if_pos c1, if_pos c2, if_pos c1, hr, hg, hw]
      exact f3 k (by omega)


theorem areStates_l1 (o : Int) (rows : List (List Int)) (jj : Int) (xs : List Int) (hx : xs.length ≤ 1048576) : ∀ (m j : Nat) (left : Int), j + m = xs.length → 0 ≤ left → left ≤ 10 →
    ∃ t : Bool, (t = true ↔ xs.length = rows.length ∧ (∀ x ∈ xs.drop j, 0 ≤ x) ∧ (xs.drop j).sum = left) ∧ ∀ k, m < k →
    impl_AreStates.l1 k (rows.length : Int) xs left rows (rows.length : Int) jj xs (xs.length : Int) j o rows = if t = true then impl_AreStates.l0 (k - m - 1) (rows.length : Int) rows (rows.length : Int) (wrap64 (jj + 1)) o rows else some false := by
  intro m
  induction m with
  | zero =>
    intro j left hj h0 h1
    refine ⟨decide (xs.length = rows.length ∧ left = 0), ?_, fun k hk => ?_⟩
    · rw [List.drop_of_length_le (by omega), decide_eq_true_eq]
      simp
      omega
    · obtain ⟨k, rfl⟩ : ∃ m, k = m + 1 := ⟨k - 1, by omega⟩
      simp only [impl_AreStates.l1]
      rw [if_neg (by omega)]
      by_cases c1 : xs.length = rows.length
      · rw [if_pos (by omega)]
        by_cases c2 : left = 0
        · rw [if_pos c2, decide_eq_true ⟨c1, c2⟩]; rfl
        · rw [if_neg c2, decide_eq_false (fun h => c2 h.2)]; rfl
      · rw [if_neg (by omega), decide_eq_false (fun h => c1 h.1)]; rfl
  | succ m ih =>
    intro j left hj h0 h1
    have hlt : j < xs.length := by omega
    by_cases h : 0 ≤ xs[j] ∧ xs[j] ≤ left
    · obtain ⟨t, ht, E⟩ := ih (j + 1) (left - xs[j]) (by omega) (by omega) (by omega)
      refine ⟨t, ?_, fun k hk => ?_⟩
      · rw [List.drop_eq_getElem_cons hlt, ht, List.sum_cons]
        simp only [List.mem_cons, forall_eq_or_imp]
        exact ⟨fun h2 => ⟨h2.1, ⟨h.1, h2.2.1⟩, by omega⟩, fun h2 => ⟨h2.1, h2.2.1.2, by omega⟩⟩
      · obtain ⟨k, rfl⟩ : ∃ m, k = m + 1 := ⟨k - 1, by omega⟩
        simp only [impl_AreStates.l1, impl_within.f]
        rw [if_pos (by omega), if_pos (by omega), if_pos (by omega), rd_get hlt, in_true h]
        simp only [Option.bind_some, ↓reduceIte]
        rw [w64 (x := (j : Int) + 1) (by omega) (by omega), w64 (x := left - xs[j]) (by omega) (by omega), show (j : Int) + 1 = ((j + 1 : Nat) : Int) from by omega, E k (by omega),
          show k + 1 - (m + 1) - 1 = k - m - 1 from by omega]
    · refine ⟨false, ?_, fun k hk => ?_⟩
      · rw [List.drop_eq_getElem_cons hlt, List.sum_cons]
        simp only [Bool.false_eq_true, false_iff]
        intro h2
        have h3 := h2.2.1 _ List.mem_cons_self
        have h4 := sum_nonneg (xs.drop (j + 1)) (fun x hx => h2.2.1 _ (List.mem_cons_of_mem _ hx))
        omega
      · obtain ⟨k, rfl⟩ : ∃ m, k = m + 1 := ⟨k - 1, by omega⟩
        simp only [impl_AreStates.l1, impl_within.f]
        rw [if_pos (by omega), if_pos (by omega), if_pos (by omega), rd_get hlt, in_false h]
        simp

theorem areStates_l0 (o : Int) (o0 : 1 ≤ o) (o1 : o ≤ 10) (rows : List (List Int)) (hn : rows.length ≤ 5) (hl : ∀ r ∈ rows, r.length ≤ 1048576) : ∀ (m j : Nat), j + m = rows.length →
    ∃ t : Bool, (t = true ↔ ∀ row ∈ rows.drop j, GoodRow rows.length o row) ∧ ∃ K, ∀ k, K ≤ k → impl_AreStates.l0 k (rows.length : Int) rows (rows.length : Int) j o rows = some t := by
  intro m
  induction m with
  | zero =>
    intro j hj
    refine ⟨true, ?_, 1, fun k hk => ?_⟩
    · rw [List.drop_of_length_le (by omega)]; simp
    · obtain ⟨k, rfl⟩ : ∃ m, k = m + 1 := ⟨k - 1, by omega⟩
      simp only [impl_AreStates.l0]
      rw [if_neg (by omega)]
  | succ m ih =>
    intro j hj
    have hlt : j < rows.length := by omega
    have hll := hl _ (List.getElem_mem hlt)
    obtain ⟨t1, ht1, E1⟩ := areStates_l1 o rows j rows[j] hll rows[j].length 0 o (by omega) (by omega) o1
    rw [List.drop_zero] at ht1
    cases t1 with
    | false =>
      refine ⟨false, ?_, 1048590, fun k hk => ?_⟩
      · rw [List.drop_eq_getElem_cons hlt]
        simp only [Bool.false_eq_true, false_iff]
        exact fun h2 => by
          have := ht1.2 (h2 _ List.mem_cons_self)
          simp at this
      · obtain ⟨k, rfl⟩ : ∃ m, k = m + 1 := ⟨k - 1, by omega⟩
        rw [impl_AreStates.l0]
        rw [if_pos (by omega), if_pos (by omega), if_pos (by omega), rd1_get hlt]
        have := E1 k (by omega)
        simp only [Bool.false_eq_true, ↓reduceIte] at this
        exact this
    | true =>
      obtain ⟨t, ht, K, E⟩ := ih (j + 1) (by omega)
      refine ⟨t, ?_, K + 1048590, fun k hk => ?_⟩
      · rw [List.drop_eq_getElem_cons hlt, ht]
        simp only [List.mem_cons, forall_eq_or_imp]
        exact ⟨fun h2 => ⟨ht1.1 rfl, h2⟩, fun h2 => h2.2⟩
      · obtain ⟨k, rfl⟩ : ∃ m, k = m + 1 := ⟨k - 1, by omega⟩
        rw [impl_AreStates.l0]
        rw [if_pos (by omega), if_pos (by omega), if_pos (by omega), rd1_get hlt]
        have := E1 k (by omega)
        simp only [↓reduceIte] at this
        rw [w64 (x := (j : Int) + 1) (by omega) (by omega)] at this
        exact this.trans (E _ (by omega))

theorem areStates_ev (o : Int) (rows : List (List Int)) (hn : rows.length ≤ 1048576) (hl : ∀ r ∈ rows, r.length ≤ 1048576) :
    ∃ t : Bool, (t = true ↔ Good o rows) ∧ ∃ K, ∀ k, K ≤ k → impl_AreStates.f k o rows = some t := by
  by_cases c1 : 1 ≤ o ∧ o ≤ 10
  · by_cases c2 : 1 ≤ (rows.length : Int) ∧ (rows.length : Int) ≤ 5
    · obtain ⟨t, ht, K, E⟩ := areStates_l0 o c1.1 c1.2 rows (by omega) hl rows.length 0 (by omega)
      rw [List.drop_zero] at ht
      refine ⟨t, ht.trans ⟨fun h => ⟨c1.1, c1.2, by omega, by omega, h⟩, fun h => h.2.2.2.2⟩, K + 1, fun k hk => ?_⟩
      obtain ⟨k, rfl⟩ : ∃ m, k = m + 1 := ⟨k - 1, by omega⟩
      simp only [impl_AreStates.f, impl_AreStates.j0, impl_within.f, in_true c1, in_true c2, Option.bind_some, ↓reduceIte, Bool.not_true, Bool.false_eq_true]
      exact E k (by omega)
    · refine ⟨false, ⟨fun h => by simp at h, fun h => absurd ⟨by have := h.2.2.1; omega, by have := h.2.2.2.1; omega⟩ c2⟩, 1, fun k hk => ?_⟩
      obtain ⟨k, rfl⟩ : ∃ m, k = m + 1 := ⟨k - 1, by omega⟩
      simp only [impl_AreStates.f, impl_AreStates.j0, impl_within.f, in_true c1, in_false c2, Option.bind_some, ↓reduceIte, Bool.not_false]
  · refine ⟨false, ⟨fun h => by simp at h, fun h => absurd ⟨h.1, h.2.1⟩ c1⟩, 1, fun k hk => ?_⟩
    obtain ⟨k, rfl⟩ : ∃ m, k = m + 1 := ⟨k - 1, by omega⟩
    simp only [impl_AreStates.f, impl_AreStates.j0, impl_within.f, in_false c1, Option.bind_some, ↓reduceIte, Bool.false_eq_true]

noncomputable def rv (p : ByteArray) : Int := (l1Read_ev p).choose
theorem rv_ev (p : ByteArray) (k : Nat) (hk : 20 ≤ k) : spec_l1Read.f k p = some (rv p) := (l1Read_ev p).choose_spec.1 k hk
theorem rv_of {p : ByteArray} {m : Int} (h : num1 p.data.toList = some m) (h10 : m ≤ 10) : rv p = m := (l1Read_ev p).choose_spec.2.2 m h h10
/-- The numbers that the reference reads in a part. -/
noncomputable def rowv (p : ByteArray) : List Int := (wordsOf 44 p).map rv

theorem saParse_l1 (s : ByteArray) (t y ws : List ByteArray) (n i o : Int) (rows : List (List Int)) (hrows : rows.length ≤ 1000) (hl : ws.length ≤ 1000) :
    ∀ (m j : Nat) (acc : List Int), j + m = ws.length → acc.length ≤ j → ∀ k, 20 ≤ k →
      spec_saParse.l1 (k + m + 1) s acc t y n i ws (ws.length : Int) (j : Int) o rows = spec_saParse.l0 k s t y n (wrap64 (i + 1)) o (rows ++ [acc ++ (ws.drop j).map rv]) := by
  have c2 : rows.length < 5864062014805 := by omega
  intro m
  induction m with
  | zero =>
    intro j acc hj ha k hk
    rw [List.drop_of_length_le (by omega), Nat.add_zero]
    simp only [spec_saParse.l1, List.map_nil, List.append_nil]
    rw [if_neg (by omega), if_pos c2]
  | succ m ih =>
    intro j acc hj ha k hk
    have hjl : j < ws.length := by omega
    have hjs : (j : Int) < (ws.length : Int) := Int.ofNat_lt.2 hjl
    have hw : wrap64 ((j : Int) + 1) = ((j + 1 : Nat) : Int) := by rw [w64 (by omega) (by omega)]; omega
    have c1 : acc.length < 17592186044416 := by omega
    have hg := ih (j + 1) (acc ++ [rv ws[j]]) (by omega) (by simp; omega) k hk
    have hr := rv_ev ws[j] (k + m + 1) (by omega)
    rw [show k + (m + 1) + 1 = (k + m + 1) + 1 from by omega, List.drop_eq_getElem_cons hjl, List.map_cons]
    generalize k + m + 1 = K at hg hr ⊢
    simp only [spec_saParse.l1]
    rw [if_pos hjs, if_pos (Int.natCast_nonneg j), if_pos hjs, rdOf_get hjl, hr, Option.bind_some, if_pos c1, hw, hg]
    simp

/-- What is asked of what was read. -/
def finS (k : Nat) (s : ByteArray) (o : Int) (R : List (List Int)) : Option (Int × List (List Int) × Bool) :=
  (spec_saGood.f k o R).bind fun t148 => (if t148 = true then ((spec_saText.f k o R).bind fun t149 => (some (o, R, (t149.toList == s.toList)))) else (some (o, R, false)))

theorem saParse_l0 (s : ByteArray) (t y : List ByteArray) (hy : y.length ≤ 500) (hp : ∀ p ∈ y, p.size ≤ 90) (o : Int) (res : Int × List (List Int) × Bool) (K : Nat) :
    ∀ (m j : Nat) (rows : List (List Int)), j + m = y.length → rows.length ≤ j → (∀ k, K ≤ k → finS k s o (rows ++ (y.drop j).map rowv) = some res) → ∀ k, K + 200 * m + 200 ≤ k →
      spec_saParse.l0 k s t y (y.length : Int) (j : Int) o rows = some res := by
  intro m
  induction m with
  | zero =>
    intro j rows hj hr hf k hk
    obtain ⟨k, rfl⟩ : ∃ q, k = q + 1 := ⟨k - 1, by omega⟩
    have h := hf k (by omega)
    rw [List.drop_of_length_le (by omega), List.map_nil, List.append_nil] at h
    simp only [spec_saParse.l0]
    rw [if_neg (by omega)]
    exact h
  | succ m ih =>
    intro j rows hj hr hf k hk
    have hjl : j < y.length := by omega
    have hjs : (j : Int) < (y.length : Int) := Int.ofNat_lt.2 hjl
    have hw : wrap64 ((j : Int) + 1) = ((j + 1 : Nat) : Int) := by rw [w64 (by omega) (by omega)]; omega
    have hps := hp y[j] (List.getElem_mem _)
    have hwl : (wordsOf 44 y[j]).length ≤ 91 := by
      have := splitL_len 44 y[j].data.toList
      have h2 := ba_size y[j]
      unfold wordsOf
      rw [List.length_map]
      omega
    have hg := ih (j + 1) (rows ++ [rowv y[j]]) (by omega) (by simp; omega) (fun k hk => by
      have := hf k hk
      rw [List.drop_eq_getElem_cons hjl, List.map_cons] at this
      simpa using this)
    obtain ⟨k, rfl⟩ : ∃ q, k = (q + (wordsOf 44 y[j]).length + 1) + 1 := ⟨k - (wordsOf 44 y[j]).length - 2, by omega⟩
    have h1 := saParse_l1 s t y (wordsOf 44 y[j]) (y.length : Int) (j : Int) o rows (by omega) (by omega) (wordsOf 44 y[j]).length 0 [] (by omega) (Nat.le_refl _) k (by omega)
    have h2 : spec_l1Split.f (k + (wordsOf 44 y[j]).length + 1) y[j] 44 = some (wordsOf 44 y[j]) := l1Split_is 44 y[j] (by omega) _ (by omega)
    have h3 := hg k (by omega)
    generalize k + (wordsOf 44 y[j]).length + 1 = Q at h1 h2 ⊢
    simp only [spec_saParse.l0]
    rw [if_pos hjs, if_pos (Int.natCast_nonneg j), if_pos hjs, rdOf_get hjl, h2, Option.bind_some]
    refine Eq.trans h1 ?_
    rw [hw, List.nil_append, List.drop_zero]
    exact h3

theorem joinTail_is (l : List (List UInt8)) : jT l = l.flatMap (fun q => (44 : UInt8) :: q) := rfl
theorem rowL_is {r : List Int} (h : r ≠ []) : rowL r = 59 :: joinL 44 (r.map dg) := by
  cases r with
  | nil => exact absurd rfl h
  | cons x t =>
    simp only [rowL, joinTail_is, List.map_cons, joinL]
    rfl
theorem statesL_is {o : Int} {rows : List (List Int)} (h : ∀ r ∈ rows, r ≠ []) : ntL o ++ rows.flatMap rowL = statesL o rows := by
  have hf : ∀ t : List (List Int), (∀ r ∈ t, r ≠ []) → t.flatMap rowL = (t.map fun r => joinL 44 (r.map dg)).flatMap (fun q => (59 : UInt8) :: q) := by
    intro t
    induction t with
    | nil => intro _; rfl
    | cons r t ih =>
      intro h
      rw [List.flatMap_cons, rowL_is (h r List.mem_cons_self), ih (fun x hx => h x (List.mem_cons_of_mem _ hx)), List.map_cons, List.flatMap_cons]
  rw [hf rows h]
  rfl

theorem good_each {o : Int} {rows : List (List Int)} (hg : Good o rows) : ∀ r ∈ rows, r.length ≤ 5 ∧ 1 ≤ r.length ∧ ∀ y ∈ r, 0 ≤ y ∧ y ≤ 10 := by
  obtain ⟨o1, o2, n1, n2, hr⟩ := hg
  intro r hrm
  obtain ⟨h1, h2, h3⟩ := hr r hrm
  refine ⟨by omega, by omega, fun y hy => ⟨h2 y hy, ?_⟩⟩
  have hsum : ∀ (l : List Int), (∀ x ∈ l, 0 ≤ x) → ∀ y ∈ l, y ≤ l.sum := by
    intro l
    induction l with
    | nil => intro _ y hy; cases hy
    | cons x t ih =>
      intro h y hy
      have hx := h x List.mem_cons_self
      have ht := sum_nonneg t (fun z hz => h z (List.mem_cons_of_mem _ hz))
      rw [List.sum_cons]
      rcases List.mem_cons.1 hy with rfl | hy
      · omega
      · have := ih (fun z hz => h z (List.mem_cons_of_mem _ hz)) y hy
        omega
  have := hsum r h2 y hy
  omega

theorem finS_ev (s : ByteArray) (o : Int) (R : List (List Int)) (h1 : R.length ≤ 1048576) (h2 : ∀ r ∈ R, r.length ≤ 1048576) :
    ∃ u : Bool, (u = true ↔ Good o R ∧ statesL o R = s.data.toList) ∧ ∃ K, ∀ k, K ≤ k → finS k s o R = some (o, R, u) := by
  obtain ⟨t, ht, K, E⟩ := saGood_ev o R h1 h2
  cases t with
  | false =>
    refine ⟨false, ⟨fun h => by simp at h, fun h => by have := ht.2 h.1; simp at this⟩, K, fun k hk => ?_⟩
    simp [finS, E k hk]
  | true =>
    have hg := ht.1 rfl
    have h5 := good_each hg
    obtain ⟨o1, o2, n1, n2, _⟩ := hg
    have ho := nt_size (y := o) (by omega) o2
    obtain ⟨T, hT, ET⟩ := saText_l0 R n2 h5 R.length 0 (nt o) (by omega) (by omega)
    rw [List.drop_zero, nt_tl, statesL_is (fun r hr e => by have := (h5 r hr).2.1; rw [e] at this; simp at this)] at hT
    refine ⟨decide (statesL o R = s.data.toList), ⟨fun h => ⟨ht.1 rfl, of_decide_eq_true h⟩, fun h => decide_eq_true h.2⟩, K + 200, fun k hk => ?_⟩
    have e1 : spec_saText.f k o R = some T := by
      simp only [spec_saText.f, l1Num_is (y := o) (by omega) o2 k (by omega), Option.bind_some]
      exact ET k (by omega)
    have e2 : (T.toList == s.toList) = decide (statesL o R = s.data.toList) := by
      rw [Bool.eq_iff_iff, beq_iff_eq, decide_eq_true_iff, ba_toList_eq, hT]
    simp only [finS, E k (by omega), e1, Option.bind_some, ↓reduceIte, e2]

/-- The rows of the parts. -/
def numsP : List ByteArray → Option (List (List Int))
  | [] => some []
  | p :: ps => (numsW (wordsOf 44 p)).bind fun r => (numsP ps).map fun rs => r :: rs
theorem numsP_len : ∀ (ps : List ByteArray) (rs : List (List Int)), numsP ps = some rs → rs.length = ps.length ∧ ∀ (N : Nat), (∀ p ∈ ps, (wordsOf 44 p).length ≤ N) → ∀ r ∈ rs, r.length ≤ N
  | [], rs, h => by
    simp only [numsP, Option.some.injEq] at h
    subst h
    exact ⟨rfl, fun N _ r hr => by cases hr⟩
  | p :: ps, rs, h => by
    simp only [numsP, Option.bind_eq_some_iff, Option.map_eq_some_iff] at h
    obtain ⟨r, h1, rs', h2, rfl⟩ := h
    obtain ⟨g1, g2⟩ := numsP_len ps rs' h2
    refine ⟨by simp [g1], fun N hN x hx => ?_⟩
    rcases List.mem_cons.1 hx with rfl | hx
    · rw [numsW_len' _ _ h1]
      exact hN p List.mem_cons_self
    · exact g2 N (fun q hq => hN q (List.mem_cons_of_mem _ hq)) x hx
theorem numsP_data : ∀ (ps : List ByteArray) (rs : List (List Int)), numsP ps = some rs → ps.map (·.data.toList) = rs.map fun r => joinL 44 (r.map dg)
  | [], rs, h => by
    simp only [numsP, Option.some.injEq] at h
    subst h
    rfl
  | p :: ps, rs, h => by
    simp only [numsP, Option.bind_eq_some_iff, Option.map_eq_some_iff] at h
    obtain ⟨r, h1, rs', h2, rfl⟩ := h
    have h3 := numsW_dg _ _ h1
    rw [wordsOf_data] at h3
    rw [List.map_cons, List.map_cons, numsP_data ps rs' h2, ← h3, join_split]
theorem numsP_of : ∀ (rs : List (List Int)), (∀ r ∈ rs, r ≠ [] ∧ ∀ x ∈ r, 0 ≤ x ∧ x ≤ 10) → ∀ ps : List ByteArray, ps.map (·.data.toList) = (rs.map fun r => joinL 44 (r.map dg)) → numsP ps = some rs ∧ ps.map rowv = rs
  | [], _, ps, h => by
    cases ps with
    | nil => exact ⟨rfl, rfl⟩
    | cons _ _ => simp at h
  | r :: rs, hr, ps, h => by
    cases ps with
    | nil => simp at h
    | cons p ps =>
      simp only [List.map_cons, List.cons.injEq] at h
      obtain ⟨h0, h1⟩ := hr r List.mem_cons_self
      have hw : (wordsOf 44 p).map (·.data.toList) = r.map dg := by rw [wordsOf_data, h.1, row_words h0 (fun x hx => (h1 x hx).2)]
      have hn := numsW_of_dg r h1 _ hw
      obtain ⟨g1, g2⟩ := numsP_of rs (fun x hx => hr x (List.mem_cons_of_mem _ hx)) ps h.2
      refine ⟨by simp only [numsP, hn, g1, Option.bind_some, Option.map_some], ?_⟩
      rw [List.map_cons, g2]
      congr 1
      have hrv : ∀ (ws : List ByteArray) (ns : List Int), (∀ n ∈ ns, 0 ≤ n ∧ n ≤ 10) → ws.map (·.data.toList) = ns.map dg → ws.map rv = ns := by
        intro ws
        induction ws with
        | nil => intro ns _ h; cases ns with
          | nil => rfl
          | cons _ _ => simp at h
        | cons w ws ih => intro ns hn h; cases ns with
          | nil => simp at h
          | cons n ns =>
            simp only [List.map_cons, List.cons.injEq] at h
            have hb := hn n List.mem_cons_self
            rw [List.map_cons, ih ns (fun m hm => hn m (List.mem_cons_of_mem _ hm)) h.2, rv_of (m := n) (by rw [h.1]; exact dg_small hb.1 hb.2) hb.2]
      exact hrv _ _ h1 hw

def finI (k : Nat) (o : Int) (R : List (List Int)) : Option (Int × List (List Int) × Bool) :=
  (impl_AreStates.f k o R).bind fun t => (if t = true then (some (o, R, true)) else (some (0, ([] : List (List Int)), false)))

theorem parts_l0 (ps : List ByteArray) (hl : ps.length ≤ 1100000) (hp : ∀ p ∈ ps, p.size ≤ 1048576) (o : Int) (res : Int × List (List Int) × Bool) (K : Nat) :
    ∀ (m j : Nat) (rows : List (List Int)), j + m = ps.length → 1 ≤ j → rows.length ≤ j →
      ((∃ rs, numsP (ps.drop j) = some rs ∧ ∀ k, K ≤ k → finI k o (rows ++ rs) = some res) ∨ (numsP (ps.drop j) = none ∧ res = (0, [], false))) → ∀ k, K + 2 * m + 3000000 ≤ k →
      impl_ParseStates.l0 k ps (ps.length : Int) (j : Int) o rows = some res := by
  intro m
  induction m with
  | zero =>
    intro j rows hj h1 hr hf k hk
    obtain ⟨k, rfl⟩ : ∃ q, k = q + 1 := ⟨k - 1, by omega⟩
    rw [List.drop_of_length_le (by omega)] at hf
    simp only [impl_ParseStates.l0]
    rw [if_neg (by omega)]
    rcases hf with ⟨rs, e, hf⟩ | ⟨e, _⟩
    · simp only [numsP, Option.some.injEq] at e
      subst e
      have := hf k (by omega)
      rw [List.append_nil] at this
      exact this
    · simp [numsP] at e
  | succ m ih =>
    intro j rows hj h1 hr hf k hk
    obtain ⟨k, rfl⟩ : ∃ q, k = q + 1 + 1 := ⟨k - 2, by omega⟩
    have hjl : j < ps.length := by omega
    have hjs : (j : Int) < (ps.length : Int) := Int.ofNat_lt.2 hjl
    have hw : wrap64 ((j : Int) + 1) = ((j + 1 : Nat) : Int) := by rw [w64 (by omega) (by omega)]; omega
    have hj0 : ¬ (j : Int) = 0 := by omega
    have c1 : rows.length < 5864062014805 := by omega
    have hrn := readNumbers_is ps[j] 44 (hp _ (List.getElem_mem _)) (k + 1) (by omega)
    rw [List.drop_eq_getElem_cons hjl] at hf
    simp only [numsP] at hf
    simp only [impl_ParseStates.l0]
    rw [if_pos hjs, if_pos (Int.natCast_nonneg j), if_pos hjs, rdOf_get hjl, hrn, Option.bind_some]
    cases hn : numsW (wordsOf 44 ps[j]) with
    | none =>
      rw [hn] at hf
      rcases hf with ⟨rs, e, _⟩ | ⟨_, e⟩
      · simp at e
      · subst e
        simp [impl_ParseStates.j1]
    | some r =>
      rw [hn] at hf
      simp only [Option.bind_some] at hf
      have hg := ih (j + 1) (rows ++ [r]) (by omega) (by omega) (by simp; omega) (by
        rcases hf with ⟨rs, e, hf⟩ | ⟨e, e2⟩
        · obtain ⟨rs', e3, rfl⟩ := Option.map_eq_some_iff.1 e
          refine Or.inl ⟨rs', e3, fun k hk => ?_⟩
          have := hf k hk
          simpa using this
        · refine Or.inr ⟨?_, e2⟩
          cases h : numsP (ps.drop (j + 1)) with
          | none => rfl
          | some _ => rw [h] at e; simp at e) k (by omega)
      simp only [↓reduceIte]
      rw [if_neg hj0]
      simp only [impl_ParseStates.j1, Bool.false_eq_true, ↓reduceIte]
      rw [if_neg hj0, if_pos c1, hw]
      exact hg

theorem le_total : ∀ (ps : List (List UInt8)), ∀ p ∈ ps, p.length ≤ (ps.map List.length).sum
  | q :: ps, p, hp => by
    rw [List.map_cons, List.sum_cons]
    rcases List.mem_cons.1 hp with rfl | hp
    · omega
    · have := le_total ps p hp
      omega

theorem finI_ev (o : Int) (R : List (List Int)) (h1 : R.length ≤ 1048576) (h2 : ∀ r ∈ R, r.length ≤ 1048576) :
    ∃ u : Bool, (u = true ↔ Good o R) ∧ ∃ K, ∀ k, K ≤ k → finI k o R = some (if u = true then (o, R, true) else (0, [], false)) := by
  obtain ⟨t, ht, K, E⟩ := areStates_ev o R h1 h2
  refine ⟨t, ht, K, fun k hk => ?_⟩
  simp only [finI, E k hk, Option.bind_some]
  cases t <;> rfl

theorem eqIntS_l0 (xs : List Int) (hx : xs.length ≤ 1048576) : ∀ (m j k : Nat), m < k → j + m = xs.length → laws_eqIntS.l0 k xs xs j = some true := by
  intro m
  induction m with
  | zero =>
    intro j k hk hj
    obtain ⟨k, rfl⟩ : ∃ m, k = m + 1 := ⟨k - 1, by omega⟩
    simp only [laws_eqIntS.l0]
    rw [if_neg (by omega)]
  | succ m ih =>
    intro j k hk hj
    obtain ⟨k, rfl⟩ : ∃ m, k = m + 1 := ⟨k - 1, by omega⟩
    simp only [laws_eqIntS.l0, ↓reduceIte]
    rw [if_pos (by omega), if_pos (by omega), if_pos (by omega), w64 (x := (j : Int) + 1) (by omega) (by omega), show (j : Int) + 1 = ((j + 1 : Nat) : Int) from by omega]
    exact ih (j + 1) k (by omega) (by omega)

theorem eqIntS_is (xs : List Int) (hx : xs.length ≤ 1048576) (k : Nat) (hk : xs.length < k) : laws_eqIntS.f k xs xs = some true := by
  simp only [laws_eqIntS.f, ↓reduceIte]
  exact eqIntS_l0 xs hx xs.length 0 k hk (by omega)

theorem eqIntSS_l0 (xs : List (List Int)) (hx : xs.length ≤ 1048576) (hr : ∀ r ∈ xs, r.length ≤ 1048576) : ∀ (m j k : Nat), m + 1048578 < k → j + m = xs.length → laws_eqIntSS.l0 k xs xs j = some true := by
  intro m
  induction m with
  | zero =>
    intro j k hk hj
    obtain ⟨k, rfl⟩ : ∃ m, k = m + 1 := ⟨k - 1, by omega⟩
    simp only [laws_eqIntSS.l0]
    rw [if_neg (by omega)]
  | succ m ih =>
    intro j k hk hj
    obtain ⟨k, rfl⟩ : ∃ m, k = m + 1 := ⟨k - 1, by omega⟩
    have hlt : j < xs.length := by omega
    have hrr := hr _ (List.getElem_mem hlt)
    simp only [laws_eqIntSS.l0]
    rw [if_pos (by omega), if_pos (by omega), if_pos (by omega), rd1_get hlt, eqIntS_is _ hrr k (by omega)]
    simp only [Option.bind_some, ↓reduceIte]
    rw [w64 (x := (j : Int) + 1) (by omega) (by omega), show (j : Int) + 1 = ((j + 1 : Nat) : Int) from by omega]
    exact ih (j + 1) k (by omega) (by omega)

theorem eqIntSS_is (xs : List (List Int)) (hx : xs.length ≤ 1048576) (hr : ∀ r ∈ xs, r.length ≤ 1048576) (k : Nat) (hk : 3000000 ≤ k) : laws_eqIntSS.f k xs xs = some true := by
  simp only [laws_eqIntSS.f, ↓reduceIte]
  exact eqIntSS_l0 xs hx hr xs.length 0 k (by omega) (by omega)

theorem eqStates_is (o : Int) (xs : List (List Int)) (hx : xs.length ≤ 1048576) (hr : ∀ r ∈ xs, r.length ≤ 1048576) (k : Nat) (hk : 3000000 ≤ k) : laws_eqStates.f k o xs o xs = some true := by
  simp only [laws_eqStates.f, ↓reduceIte, eqIntSS_is xs hx hr k hk, Option.bind_some]

/-- The numbers from m on. -/
def upFrom (m : Int) : Nat → List Int
  | 0 => []
  | n + 1 => m :: upFrom (m + 1) n
theorem upFrom_len (m : Int) : ∀ n, (upFrom m n).length = n
  | 0 => rfl
  | n + 1 => by rw [upFrom, List.length_cons, upFrom_len]
theorem upFrom_get : ∀ (n : Nat) (m : Int) (j : Nat) (h : j < (upFrom m n).length), (upFrom m n)[j] = m + j
  | 0, _, _, h => by simp [upFrom] at h
  | n + 1, m, 0, _ => by simp [upFrom]
  | n + 1, m, j + 1, h => by
    simp only [upFrom, List.getElem_cons_succ]
    rw [upFrom_get n (m + 1) j]
    omega

theorem markIntS_l0 (xs : List Int) (m : Int) (h0 : 0 ≤ m) (h1 : m ≤ 10000000000000) (hx : xs.length ≤ 1048576) : ∀ (d j : Nat) (ys : List Int), j + d = xs.length → ys.length = xs.length → ys.take j = (upFrom m xs.length).take j → ∀ k, d < k →
    laws_markIntS.l0 k ys (m + j) j = some (m + xs.length, upFrom m xs.length) := by
  intro d
  induction d with
  | zero =>
    intro j ys hj hy ht k hk
    obtain ⟨k, rfl⟩ : ∃ m, k = m + 1 := ⟨k - 1, by omega⟩
    have hu := upFrom_len m xs.length
    simp only [laws_markIntS.l0]
    rw [if_neg (by omega)]
    rw [List.take_of_length_le (by omega), List.take_of_length_le (by omega)] at ht
    rw [ht, show j = xs.length from by omega]
  | succ d ih =>
    intro j ys hj hy ht k hk
    obtain ⟨k, rfl⟩ : ∃ m, k = m + 1 := ⟨k - 1, by omega⟩
    have hu := upFrom_len m xs.length
    have hlu : j < (upFrom m xs.length).length := by omega
    simp only [laws_markIntS.l0]
    rw [if_pos (by omega), if_pos (by omega), Int.toNat_natCast, w64 (x := m + j + 1) (by omega) (by omega), w64 (x := (j : Int) + 1) (by omega) (by omega)]
    have := ih (j + 1) (ys.set j (m + j)) (by omega) (by rw [List.length_set]; exact hy) (by
      rw [List.take_add_one, List.take_add_one, List.take_set_of_le (by omega), ht, List.getElem?_set_self (by omega), List.getElem?_eq_getElem hlu, upFrom_get]) k (by omega)
    rw [show m + j + 1 = m + ((j + 1 : Nat) : Int) from by omega]
    exact this

theorem markIntS_is (xs : List Int) (m : Int) (h0 : 0 ≤ m) (h1 : m ≤ 10000000000000) (hx : xs.length ≤ 1048576) (k : Nat) (hk : 1048580 ≤ k) : laws_markIntS.f k xs m = some (m + xs.length, upFrom m xs.length) := by
  have := markIntS_l0 xs m h0 h1 hx xs.length 0 xs (by omega) rfl (by simp) k (by omega)
  rw [show m + ((0 : Nat) : Int) = m from by omega] at this
  exact this

theorem heldIntS_l0 (n : Nat) (m : Int) (h0 : 0 ≤ m) (h1 : m ≤ 10000000000000) (hx : n ≤ 1048576) : ∀ (d j : Nat), j + d = n → ∀ k, d < k →
    laws_heldIntS.l0 k (upFrom m n) (m + j) j = some (m + n) := by
  have hu := upFrom_len m n
  intro d
  induction d with
  | zero =>
    intro j hj k hk
    obtain ⟨k, rfl⟩ : ∃ m, k = m + 1 := ⟨k - 1, by omega⟩
    simp only [laws_heldIntS.l0]
    rw [if_neg (by omega), show j = n from by omega]
  | succ d ih =>
    intro j hj k hk
    obtain ⟨k, rfl⟩ : ∃ m, k = m + 1 := ⟨k - 1, by omega⟩
    have hlu : j < (upFrom m n).length := by omega
    simp only [laws_heldIntS.l0]
    rw [if_pos (by omega), if_pos (by omega), rd_get hlu, upFrom_get, if_pos rfl, w64 (x := m + j + 1) (by omega) (by omega), w64 (x := (j : Int) + 1) (by omega) (by omega)]
    have := ih (j + 1) (by omega) k (by omega)
    rw [show m + j + 1 = m + ((j + 1 : Nat) : Int) from by omega]
    exact this

theorem heldIntS_is (n : Nat) (m : Int) (h0 : 0 ≤ m) (h1 : m ≤ 10000000000000) (hx : n ≤ 1048576) (k : Nat) (hk : 1048580 ≤ k) : laws_heldIntS.f k (upFrom m n) m = some (m + n) := by
  have := heldIntS_l0 n m h0 h1 hx n 0 (by omega) k (by omega)
  rw [show m + ((0 : Nat) : Int) = m from by omega] at this
  exact this

/-- The rows, marked from m on. -/
def markRows : Int → List (List Int) → List (List Int)
  | _, [] => []
  | m, r :: rs => upFrom m r.length :: markRows (m + r.length) rs
def markEnd : Int → List (List Int) → Int
  | m, [] => m
  | m, r :: rs => markEnd (m + r.length) rs

theorem markEnd_le : ∀ (rs : List (List Int)) (m : Int), (∀ r ∈ rs, r.length ≤ 1048576) → m ≤ markEnd m rs ∧ markEnd m rs ≤ m + 1048576 * rs.length
  | [], m, _ => by simp [markEnd]
  | r :: rs, m, h => by
    have h1 := h r (by simp)
    have h2 := markEnd_le rs (m + r.length) (fun x hx => h x (by simp [hx]))
    simp only [markEnd, List.length_cons]
    omega

theorem markIntSS_l0 (rows : List (List Int)) (hl : rows.length ≤ 1048576) (hr : ∀ r ∈ rows, r.length ≤ 1048576) : ∀ (d j : Nat) (pre : List (List Int)) (m : Int), j + d = rows.length → pre.length = j → 0 ≤ m → m ≤ 1 + 1048576 * j → ∀ k, d + 1048580 < k →
    laws_markIntSS.l0 k (pre ++ rows.drop j) m j = some (markEnd m (rows.drop j), pre ++ markRows m (rows.drop j)) := by
  intro d
  induction d with
  | zero =>
    intro j pre m hj hp h0 h1 k hk
    obtain ⟨k, rfl⟩ : ∃ m, k = m + 1 := ⟨k - 1, by omega⟩
    rw [List.drop_of_length_le (by omega), List.append_nil]
    simp only [laws_markIntSS.l0]
    rw [if_neg (by omega)]
    simp [markEnd, markRows]
  | succ d ih =>
    intro j pre m hj hp h0 h1 k hk
    obtain ⟨k, rfl⟩ : ∃ m, k = m + 1 := ⟨k - 1, by omega⟩
    have hlt : j < rows.length := by omega
    have hll : j < (pre ++ rows.drop j).length := by simp; omega
    have hrr := hr _ (List.getElem_mem hlt)
    have hg : (pre ++ rows.drop j)[j] = rows[j] := by
      rw [List.getElem_append_right (by omega)]
      simp [hp]
    have hs : (pre ++ rows.drop j).set j (upFrom m rows[j].length) = (pre ++ [upFrom m rows[j].length]) ++ rows.drop (j + 1) := by
      rw [List.set_append_right _ _ (by omega), hp, Nat.sub_self, List.drop_eq_getElem_cons hlt, List.set_cons_zero, List.append_assoc, List.singleton_append]
    simp only [laws_markIntSS.l0]
    rw [if_pos (by omega), if_pos (by omega), rd1_get hll, hg, markIntS_is rows[j] m h0 (by omega) hrr k (by omega)]
    simp only [Option.bind_some, Int.toNat_natCast]
    rw [hs, w64 (x := (j : Int) + 1) (by omega) (by omega)]
    have := ih (j + 1) (pre ++ [upFrom m rows[j].length]) (m + rows[j].length) (by omega) (by simp [hp]) (by omega) (by omega) k (by omega)
    rw [List.drop_eq_getElem_cons hlt, markEnd, markRows]
    simp only [List.append_assoc, List.singleton_append] at this ⊢
    exact this

theorem markIntSS_is (rows : List (List Int)) (hl : rows.length ≤ 1048576) (hr : ∀ r ∈ rows, r.length ≤ 1048576) (k : Nat) (hk : 3000000 ≤ k) :
    laws_markIntSS.f k rows 1 = some (markEnd 1 rows, markRows 1 rows) := by
  have := markIntSS_l0 rows hl hr rows.length 0 [] 1 (by omega) rfl (by omega) (by omega) k (by omega)
  rw [List.drop_zero, List.nil_append, List.nil_append] at this
  exact this

theorem markStates_is (o : Int) (rows : List (List Int)) (hl : rows.length ≤ 1048576) (hr : ∀ r ∈ rows, r.length ≤ 1048576) (k : Nat) (hk : 3000000 ≤ k) :
    laws_markStates.f k o rows 1 = some (markEnd 1 rows, markRows 1 rows) := markIntSS_is rows hl hr k hk
theorem markEnd_pos (rows : List (List Int)) (hr : ∀ r ∈ rows, r.length ≤ 1048576) : ¬ markEnd 1 rows < 0 := by
  have := (markEnd_le rows 1 hr).1
  omega

theorem markRows_len : ∀ (rs : List (List Int)) (m : Int), (markRows m rs).length = rs.length
  | [], _ => rfl
  | r :: rs, m => by rw [markRows, List.length_cons, markRows_len, List.length_cons]

theorem heldIntSS_l0 (all : List (List Int)) : ∀ (rs : List (List Int)) (j : Nat) (m : Int), all.drop j = markRows m rs → j + rs.length = all.length → all.length ≤ 1048576 → (∀ r ∈ rs, r.length ≤ 1048576) → 0 ≤ m → m ≤ 1 + 1048576 * j → ∀ k, rs.length + 1048590 < k →
    laws_heldIntSS.l0 k all m j = some (markEnd m rs)
  | [], j, m, ha, hj, hl, hr, h0, h1, k, hk => by
    obtain ⟨k, rfl⟩ : ∃ m, k = m + 1 := ⟨k - 1, by omega⟩
    simp only [List.length_nil] at hj
    simp only [laws_heldIntSS.l0]
    rw [if_neg (by omega)]
    rfl
  | r :: rs, j, m, ha, hj, hl, hr, h0, h1, k, hk => by
    obtain ⟨k, rfl⟩ : ∃ m, k = m + 1 := ⟨k - 1, by omega⟩
    simp only [List.length_cons] at hj hk
    have hlt : j < all.length := by omega
    have hrr := hr r (by simp)
    rw [List.drop_eq_getElem_cons hlt, markRows] at ha
    injection ha with ha1 ha2
    have h2 := heldIntS_is r.length m h0 (by omega) hrr k (by omega)
    simp only [laws_heldIntSS.l0]
    rw [if_pos (by omega), if_pos (by omega), rd1_get hlt, ha1, h2]
    simp only [Option.bind_some]
    rw [if_neg (by omega), w64 (x := (j : Int) + 1) (by omega) (by omega)]
    have := heldIntSS_l0 all rs (j + 1) (m + r.length) ha2 (by omega) hl (fun x hx => hr x (by simp [hx])) (by omega) (by omega) k (by omega)
    rw [markEnd]
    exact this

theorem heldIntSS_is (rows : List (List Int)) (hl : rows.length ≤ 1048576) (hr : ∀ r ∈ rows, r.length ≤ 1048576) (k : Nat) (hk : 3000000 ≤ k) :
    laws_heldIntSS.f k (markRows 1 rows) 1 = some (markEnd 1 rows) :=
  heldIntSS_l0 (markRows 1 rows) rows 0 1 rfl (by rw [markRows_len]; omega) (by rw [markRows_len]; exact hl) hr (by omega) (by omega) k (by omega)

theorem splitL_tot (c : UInt8) : ∀ l : List UInt8, ((splitL c l).map List.length).sum + (splitL c l).length = l.length + 1
  | [] => by simp [splitL]
  | b :: l => by
    have ih := splitL_tot c l
    rw [splitL]
    split
    · simp only [List.map_cons, List.sum_cons, List.length_cons, List.length_nil]
      omega
    · rw [splitL_cons c l] at ih
      simp only [List.map_cons, List.sum_cons, List.length_cons] at ih ⊢
      omega

theorem parseStates_same (s : ByteArray) (hs : s.size ≤ 1048576) : ∃ (x : Int) (t : List (List Int)) (u : Bool), t.length ≤ 1048576 ∧ (∀ r ∈ t, r.length ≤ 1048576) ∧ ∃ K, ∀ k, K ≤ k → spec_ParseStates.f k s = some (x, t, u) ∧ impl_ParseStates.f k s = some (x, t, u) := by
  have hL := ba_size s
  have hdata := wordsOf_data 59 s
  have htot := splitL_tot 59 s.data.toList
  obtain ⟨p0, y, hW⟩ : ∃ p0 y, wordsOf 59 s = p0 :: y := by
    cases h : wordsOf 59 s with
    | nil =>
      rw [h] at hdata
      exact absurd hdata.symm (splitL_ne 59 _)
    | cons a t => exact ⟨a, t, rfl⟩
  have hW2 : splitL 59 s.data.toList = p0.data.toList :: y.map (·.data.toList) := by rw [← hdata, hW]; rfl
  rw [hW2] at htot
  simp only [List.map_cons, List.sum_cons, List.length_cons, List.length_map] at htot
  have hyl : y.length ≤ s.size := by omega
  have hyp : ∀ p ∈ y, p.size + y.length ≤ s.size := fun p hp => by
    have := le_total (y.map (·.data.toList)) p.data.toList (List.mem_map.2 ⟨p, hp, rfl⟩)
    rw [ba_size]
    omega
  have hp0 : p0.size ≤ s.size := by rw [ba_size p0]; omega
  have hrow : ∀ p ∈ y, (wordsOf 44 p).length ≤ 1048576 := fun p hp => by
    have h1 := hyp p hp
    have h2 : 0 < y.length := List.length_pos_of_mem hp
    have h3 := splitL_len 44 p.data.toList
    have h4 := ba_size p
    unfold wordsOf
    rw [List.length_map]
    omega
  -- the reference
  have hspec : ∃ K, ∀ k, K ≤ k → spec_ParseStates.f k s = some (0, [], false) ∨ ∃ o R, Good o R ∧ statesL o R = s.data.toList ∧ spec_ParseStates.f k s = some (o, R, true) := by
    by_cases h90 : (s.size : Int) > 90
    · refine ⟨0, fun k hk => Or.inl ?_⟩
      simp only [spec_ParseStates.f, spec_saParse.f]
      rw [if_pos h90]
      rfl
    · obtain ⟨u, hu, K, E⟩ := finS_ev s (rv p0) (y.map rowv) (by rw [List.length_map]; omega) (fun r hr => by
        obtain ⟨p, hp, rfl⟩ := List.mem_map.1 hr
        unfold rowv
        rw [List.length_map]
        exact hrow p hp)
      have h0 := saParse_l0 s (wordsOf 59 s) y (by omega) (fun p hp => by have := hyp p hp; omega) (rv p0) _ K y.length 0 [] (by omega) (Nat.le_refl _) (fun k hk => by
        rw [List.drop_zero, List.nil_append]
        exact E k hk)
      refine ⟨K + 200 * y.length + 300, fun k hk => ?_⟩
      have a1 : spec_l1Split.f k s 59 = some (wordsOf 59 s) := l1Split_is 59 s hs k (by omega)
      have a2 := rv_ev p0 k (by omega)
      have a3 := h0 k (by omega)
      have d0 : rdOf ByteArray.empty (p0 :: y) 0 = p0 := rfl
      have e : spec_ParseStates.f k s = if u = true then some (rv p0, y.map rowv, true) else some (0, [], false) := by
        rw [hW] at a1 a3
        simp only [spec_ParseStates.f, spec_saParse.f, a1, Option.bind_some, d0, a2, List.length_cons]
        rw [if_neg h90, if_pos (by omega), if_pos (by omega), show (p0 :: y).drop 1 = y from rfl]
        have a4 : spec_saParse.l0 k s (p0 :: y) y (y.length : Int) 0 (rv p0) [] = some (rv p0, y.map rowv, u) := a3
        rw [a4]
        cases u <;> rfl
      rw [e]
      cases u with
      | false => exact Or.inl rfl
      | true =>
        obtain ⟨g1, g2⟩ := hu.1 rfl
        exact Or.inr ⟨_, _, g1, g2, rfl⟩
  -- the program
  have hpsl : (wordsOf 59 s).length ≤ 1100000 := by rw [hW, List.length_cons]; omega
  have hps : ∀ p ∈ wordsOf 59 s, p.size ≤ 1048576 := wordsOf_each 59 s hs
  have hstart : ∀ k, 3000000 ≤ k → impl_ParseStates.f (k + 1) s = match numsW (wordsOf 44 p0) with
      | some ns => if (ns.length : Int) = 1 then impl_ParseStates.l0 (k - 1) (wordsOf 59 s) ((wordsOf 59 s).length : Int) 1 (rd ns 0) [] else some (0, [], false)
      | none => some (0, [], false) := by
    intro k hk
    obtain ⟨k, rfl⟩ : ∃ q, k = q + 1 := ⟨k - 1, by omega⟩
    have hrn := readNumbers_is p0 44 (by omega) (k + 1) (by omega)
    have hpos : (0 : Int) < (((wordsOf 59 s).length : Nat) : Int) := by rw [hW, List.length_cons]; omega
    have d0 : rdOf ByteArray.empty (wordsOf 59 s) 0 = p0 := by rw [hW]; rfl
    simp only [impl_ParseStates.f, split_is 59 s hs, Option.bind_some]
    simp only [impl_ParseStates.l0]
    rw [if_pos hpos, if_pos (Int.le_refl 0), if_pos hpos, d0, hrn, Option.bind_some]
    cases numsW (wordsOf 44 p0) with
    | none => simp [impl_ParseStates.j1]
    | some ns =>
      simp only [↓reduceIte]
      by_cases h1 : (ns.length : Int) = 1
      · have hb : (((ns.length : Nat) : Int) != 1) = false := by rw [h1]; rfl
        have hw : wrap64 ((0 : Int) + 1) = 1 := by rw [w64 (by omega) (by omega)]; rfl
        simp only [impl_ParseStates.j1, hb, Bool.false_eq_true, ↓reduceIte]
        rw [if_pos h1, if_pos (by omega), hw]
        rfl
      · have hb : (((ns.length : Nat) : Int) != 1) = true := bne_iff_ne.2 h1
        simp only [impl_ParseStates.j1, hb, ↓reduceIte]
        rw [if_neg h1]
  by_cases hyes : ∃ o R, Good o R ∧ statesL o R = s.data.toList
  · obtain ⟨o, R, hg, hT⟩ := hyes
    have hge := good_each hg
    have hg2 := hg
    obtain ⟨o1, o2, n1, n2, _⟩ := hg
    have hparts := statesL_parts (o := o) (rows := R) o2 (fun r hr x hx => ((hge r hr).2.2 x hx).2)
    rw [hT, hW2] at hparts
    injection hparts with hq0 hq1
    have hne : ∀ r ∈ R, r ≠ [] ∧ ∀ x ∈ r, 0 ≤ x ∧ x ≤ 10 := fun r hr => ⟨fun e => by have := (hge r hr).2.1; rw [e] at this; simp at this, (hge r hr).2.2⟩
    obtain ⟨hnp, hrv⟩ := numsP_of R hne y hq1
    have hn0 : numsW (wordsOf 44 p0) = some [o] := by
      refine numsW_of_dg [o] (fun n hn => ?_) _ ?_
      · rw [List.mem_singleton.1 hn]; omega
      · rw [wordsOf_data, hq0, splitL_free (dg_free o2 (Or.inl (by decide)))]
        rfl
    have hrv0 : rv p0 = o := rv_of (by rw [hq0]; exact dg_small (by omega) o2) o2
    have hlen := statesL_len (o := o) (rows := R) o2 n2 (fun r hr => ⟨(hge r hr).1, fun x hx => ((hge r hr).2.2 x hx).2⟩)
    rw [hT] at hlen
    have hRl : ∀ r ∈ R, r.length ≤ 1048576 := fun r hr => by have := (hge r hr).1; omega
    obtain ⟨u, hu, K, E⟩ := finS_ev s o R (by omega) hRl
    obtain ⟨v, hv, K2, E2⟩ := finI_ev o R (by omega) hRl
    have hut := hu.2 ⟨hg2, hT⟩
    have hvt := hv.2 hg2
    subst hut hvt
    have h0 := saParse_l0 s (wordsOf 59 s) y (by omega) (fun p hp => by have := hyp p hp; omega) o _ K y.length 0 [] (by omega) (Nat.le_refl _) (fun k hk => by
      rw [List.drop_zero, List.nil_append, hrv]
      exact E k hk)
    have h1 := parts_l0 (wordsOf 59 s) hpsl hps o (o, R, true) K2 y.length 1 [] (by rw [hW, List.length_cons]; omega) (Nat.le_refl _) (Nat.zero_le _) (Or.inl ⟨R, by rw [hW]; exact hnp, fun k hk => by
      rw [List.nil_append]
      exact E2 k hk⟩)
    refine ⟨o, R, true, by omega, hRl, K + K2 + 200 * y.length + 4000000, fun k hk => ⟨?_, ?_⟩⟩
    · have a1 : spec_l1Split.f k s 59 = some (wordsOf 59 s) := l1Split_is 59 s hs k (by omega)
      have a2 := rv_ev p0 k (by omega)
      have a3 := h0 k (by omega)
      have d0 : rdOf ByteArray.empty (p0 :: y) 0 = p0 := rfl
      rw [hW] at a1 a3
      rw [hrv0] at a2
      simp only [spec_ParseStates.f, spec_saParse.f, a1, Option.bind_some, d0, a2, List.length_cons]
      rw [if_neg (by omega), if_pos (by omega), if_pos (by omega), show (p0 :: y).drop 1 = y from rfl]
      have a4 : spec_saParse.l0 k s (p0 :: y) y (y.length : Int) 0 o [] = some (o, R, true) := a3
      rw [a4]
      rfl
    · obtain ⟨k, rfl⟩ : ∃ q, k = q + 1 := ⟨k - 1, by omega⟩
      rw [hstart k (by omega), hn0]
      show (if ((([o] : List Int).length : Nat) : Int) = 1 then _ else _) = _
      rw [if_pos (show ((([o] : List Int).length : Nat) : Int) = 1 from rfl)]
      exact h1 (k - 1) (by omega)
  · refine ⟨0, [], false, by simp, by simp, ?_⟩
    obtain ⟨K, hK⟩ := hspec
    have himpl : ∃ K2, ∀ k, K2 ≤ k → impl_ParseStates.f (k + 1) s = some (0, [], false) := by
      cases hn : numsW (wordsOf 44 p0) with
      | none =>
        refine ⟨3000000, fun k hk => ?_⟩
        rw [hstart k hk, hn]
      | some ns =>
        by_cases h1 : (ns.length : Int) = 1
        · have hgo : ∃ K3, ∀ k, K3 + 2 * y.length + 3000000 ≤ k → impl_ParseStates.l0 k (wordsOf 59 s) ((wordsOf 59 s).length : Int) 1 (rd ns 0) [] = some (0, [], false) := by
            cases hq : numsP y with
            | none =>
              exact ⟨0, parts_l0 (wordsOf 59 s) hpsl hps (rd ns 0) (0, [], false) 0 y.length 1 [] (by rw [hW, List.length_cons]; omega) (Nat.le_refl _) (Nat.zero_le _) (Or.inr ⟨by rw [hW]; exact hq, rfl⟩)⟩
            | some R =>
              obtain ⟨l1, l2⟩ := numsP_len _ _ hq
              have l3 := l2 1048576 hrow
              obtain ⟨v, hv, K2, E2⟩ := finI_ev (rd ns 0) R (by omega) l3
              have hvf : v = false := by
                cases v with
                | false => rfl
                | true =>
                  exfalso
                  obtain ⟨n, rfl⟩ : ∃ n, ns = [n] := by
                    match ns, h1 with
                    | [n], _ => exact ⟨n, rfl⟩
                    | [], h1 => simp at h1
                    | _ :: _ :: _, h1 => simp at h1; omega
                  refine hyes ⟨n, R, hv.1 rfl, ?_⟩
                  have e0 := numsW_dg _ _ hn
                  rw [wordsOf_data] at e0
                  have e1 : p0.data.toList = dg n := by
                    have := join_split 44 p0.data.toList
                    rw [e0] at this
                    simpa [joinL] using this.symm
                  have e2 := numsP_data _ _ hq
                  have e3 := join_split 59 s.data.toList
                  rw [hW2, e1, e2] at e3
                  exact e3
              subst hvf
              exact ⟨K2, parts_l0 (wordsOf 59 s) hpsl hps (rd ns 0) (0, [], false) K2 y.length 1 [] (by rw [hW, List.length_cons]; omega) (Nat.le_refl _) (Nat.zero_le _) (Or.inl ⟨R, by rw [hW]; exact hq, fun k hk => by
                rw [List.nil_append]
                exact E2 k hk⟩)⟩
          obtain ⟨K3, hgo⟩ := hgo
          refine ⟨K3 + 2 * y.length + 3000001, fun k hk => ?_⟩
          rw [hstart k (by omega), hn]
          show (if (ns.length : Int) = 1 then _ else _) = _
          rw [if_pos h1]
          exact hgo (k - 1) (by omega)
        · refine ⟨3000000, fun k hk => ?_⟩
          rw [hstart k hk, hn]
          show (if (ns.length : Int) = 1 then _ else _) = _
          rw [if_neg h1]
    obtain ⟨K2, himpl⟩ := himpl
    refine ⟨K + K2 + 1, fun k hk => ⟨?_, ?_⟩⟩
    · rcases hK k (by omega) with h | ⟨o, R, g1, g2, _⟩
      · exact h
      · exact absurd ⟨o, R, g1, g2⟩ hyes
    · obtain ⟨k, rfl⟩ : ∃ q, k = q + 1 := ⟨k - 1, by omega⟩
      exact himpl k (by omega)

theorem FnExactParseStates (t : ByteArray) (ht : t.size ≤ 140737488351232) : ∃ k, laws_FnExactParseStates.f k t = some true := by
  by_cases h : (t.size : Int) > 1048576
  · refine ⟨0, ?_⟩
    simp only [laws_FnExactParseStates.f]
    rw [if_pos h]
  · obtain ⟨x, R, u, hR, hR2, K, q⟩ := parseStates_same t (by omega)
    obtain ⟨k, hk1, hk3⟩ : ∃ k, K ≤ k ∧ 5000000 ≤ k := ⟨K + 5000000, by omega, by omega⟩
    obtain ⟨q1, q2⟩ := q k hk1
    have hb := markEnd_pos R hR2
    have e3 := eqStates_is x R hR hR2 k (by omega)
    have e7 := markStates_is x R hR hR2 k (by omega)
    have e8 := heldIntSS_is R hR hR2 k (by omega)
    have e9 : laws_heldStates.f k x (markRows 1 R) 1 = some (markEnd 1 R) := by
      simp only [laws_heldStates.f, e8, Option.bind_some]
      rw [if_neg hb]
    refine ⟨k, ?_⟩
    simp only [laws_FnExactParseStates.f, q1, q2, e3, Option.bind_some]
    rw [if_neg h]
    simp only [if_true, bne_self_eq_false, Bool.false_eq_true, if_false, e7, e9, e3, Option.bind_some]
    rw [if_neg hb]
    rw [if_neg hb]

end Go.Proofs.YtlpegpmcnimfbaaDoor.Pure
