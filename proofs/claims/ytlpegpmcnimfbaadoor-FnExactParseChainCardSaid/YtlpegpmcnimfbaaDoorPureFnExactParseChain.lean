/- For all arguments the program and the reference return the same from ParseChain: the plain statement over numbers and lists, and its proof. -/
import Derived.Test.YtlpegpmcnimfbaaDoorPFnExactParseChainx1
import Derived.Test.YtlpegpmcnimfbaaDoorPFnExactParseChainx2
import Derived.Test.YtlpegpmcnimfbaaDoorPFnExactParseChainx3
import Derived.Test.YtlpegpmcnimfbaaDoorPFnExactParseChainx4
namespace Go.Proofs.YtlpegpmcnimfbaaDoor.Pure
open Go.RowKit Go.Proofs.YtlpegpmcnimfbaaDoor.PFnExactParseChain Go.Proofs.YtlpegpmcnimfbaaDoorW.PrintWords Go.Proofs.YtlpegpmcnimfbaaDoorW.PrintLast Go.Proofs.YtlpegpmcnimfbaaDoorW.PrintMore
set_option linter.unusedVariables false
set_option linter.unusedSimpArgs false
set_option maxRecDepth 100000
theorem w64 {x : Int} (h0 : -9223372036854775808 ≤ x) (h1 : x ≤ 9223372036854775807) : wrap64 x = x := by
  unfold wrap64
  omega

theorem mul_fits {x y A B : Int} (hx : x.natAbs ≤ A.natAbs) (hy : y.natAbs ≤ B.natAbs) : (x * y).natAbs ≤ (A * B).natAbs := by
  rw [Int.natAbs_mul, Int.natAbs_mul]
  exact Nat.mul_le_mul hx hy

/-- A product of numbers of at most nine digits. -/
theorem mul9 {x y : Int} (hx : x.natAbs ≤ 1000000000) (hy : y.natAbs ≤ 1000000000) : (x * y).natAbs ≤ 1000000000000000000 := by
  rw [Int.natAbs_mul]
  exact Nat.le_trans (Nat.mul_le_mul hx hy) (by decide)

theorem wf_range {a : Int} (h : (Lit.int .i64 a).wf = true) : -9223372036854775808 ≤ a ∧ a ≤ 9223372036854775807 := by
  simp [Lit.wf, IntKind.min, IntKind.max, IntKind.signed, IntKind.bits] at h
  omega

/-- A list of bytes, cut at each byte c. -/
def splitL (c : UInt8) : List UInt8 → List (List UInt8)
  | [] => [[]]
  | b :: l => if b = c then [] :: splitL c l else ((b :: (splitL c l).headD []) :: (splitL c l).tail)
theorem splitL_ne (c : UInt8) (l : List UInt8) : splitL c l ≠ [] := by
  cases l with
  | nil => simp [splitL]
  | cons b l =>
    rw [splitL]
    split <;> simp
theorem splitL_cons (c : UInt8) (l : List UInt8) : splitL c l = (splitL c l).headD [] :: (splitL c l).tail := by
  cases h : splitL c l with
  | nil => exact absurd h (splitL_ne c l)
  | cons a t => rfl

theorem splitK_one (c : UInt8) : ∀ s : List UInt8, Go.Lib.splitK [c] 0 (Go.Lib.count s [c]) s = splitL c s
  | [] => by
    rw [Go.Lib.count_one]
    rfl
  | b :: l => by
    by_cases h : b = c
    · subst h
      have hix : Go.Lib.index (b :: l) [b] = 0 := by simp [Go.Lib.index, List.isPrefixOf]
      rw [Go.Lib.count_cons_eq, Nat.add_comm, Go.Lib.splitK, hix, splitL, if_pos rfl]
      have := splitK_one b l
      simpa using this
    · have ih := splitK_one c l
      have hix : Go.Lib.index (b :: l) [c] = if Go.Lib.index l [c] == -1 then -1 else Go.Lib.index l [c] + 1 := by
        have hp : ([c] : List UInt8).isPrefixOf (b :: l) = false := by simp [List.isPrefixOf, Ne.symm h]
        rw [Go.Lib.index, hp]; simp
      rw [Go.Lib.count_cons_ne b c l h, splitL, if_neg h, ← ih]
      cases hn : Go.Lib.count l [c] with
      | zero => rfl
      | succ m =>
        rcases Go.Lib.index_spec l [c] with ⟨hi, _⟩ | ⟨i, hi, _⟩
        · rw [Go.Lib.count_miss hi] at hn; cases hn
        · have e : ¬ (Go.Lib.index l [c] == -1) = true := fun e => by have := beq_iff_eq.1 e; omega
          rw [if_neg e, hi] at hix
          have e1 : ¬ (Go.Lib.index (b :: l) [c] == -1) = true := fun e => by have := beq_iff_eq.1 e; omega
          rw [Go.Lib.splitK, if_neg e1, Go.Lib.splitK, if_neg e, hix, hi]
          have t1 : ((i : Int) + 1).toNat = i + 1 := by omega
          have t2 : ((i : Int)).toNat = i := by omega
          rw [t1, t2]
          simp

theorem ba_ext {a b : ByteArray} (h : a.data.toList = b.data.toList) : a = b := by
  obtain ⟨⟨a⟩⟩ := a
  obtain ⟨⟨b⟩⟩ := b
  simp only at h
  rw [h]
theorem ba_map {xs ys : List ByteArray} (h : xs.map (·.data.toList) = ys.map (·.data.toList)) : xs = ys := by
  induction xs generalizing ys with
  | nil => cases ys with
    | nil => rfl
    | cons _ _ => simp at h
  | cons a xs ih => cases ys with
    | nil => simp at h
    | cons b ys =>
      simp only [List.map_cons, List.cons.injEq] at h
      rw [ba_ext h.1, ih h.2]

/-- The words of a text. -/
def wordsOf (c : UInt8) (s : ByteArray) : List ByteArray := (splitL c s.data.toList).map fun l => ⟨l.toArray⟩
theorem wordsOf_data (c : UInt8) (s : ByteArray) : (wordsOf c s).map (·.data.toList) = splitL c s.data.toList := by
  unfold wordsOf
  rw [List.map_map]
  exact List.map_id' _

theorem split_is (c : UInt8) (s : ByteArray) (hs : s.size ≤ 1048576) : strings_Split.f s ⟨#[c]⟩ = some (wordsOf c s) := by
  unfold strings_Split.f
  rw [if_pos hs, if_pos (show 1 ≤ (⟨#[c]⟩ : ByteArray).size from Nat.le_refl 1)]
  congr 1
  apply ba_map
  rw [wordsOf_data, Go.Lib.splitB_data]
  exact splitK_one c s.data.toList

theorem splitL_len (c : UInt8) : ∀ l : List UInt8, (splitL c l).length ≤ l.length + 1
  | [] => by simp [splitL]
  | b :: l => by
    have := splitL_len c l
    rw [splitL]
    split
    · simp; omega
    · simp; omega
theorem splitL_each (c : UInt8) : ∀ (l : List UInt8), ∀ p ∈ splitL c l, p.length ≤ l.length
  | [], p, hp => by simp [splitL] at hp; subst hp; simp
  | b :: l, p, hp => by
    rw [splitL] at hp
    split at hp
    · rcases List.mem_cons.1 hp with rfl | hp
      · simp
      · have := splitL_each c l p hp
        simp; omega
    · have hc := splitL_cons c l
      rcases List.mem_cons.1 hp with rfl | hp
      · have := splitL_each c l ((splitL c l).headD []) (by rw [hc]; simp)
        simp only [List.length_cons]
        omega
      · have := splitL_each c l p (by rw [hc]; exact List.mem_cons_of_mem _ hp)
        simp only [List.length_cons]
        omega

theorem bt_at {s : ByteArray} {j : Nat} (h : j < s.data.toList.length) : bt s (j : Int) = (((s.data.toList[j]).toNat : Nat) : Int) := by
  have hs : j < s.size := by
    have : s.size = s.data.size := rfl
    rw [this, ← Array.length_toList]
    exact h
  unfold bt
  rw [dif_pos (by rw [Int.toNat_natCast]; exact hs)]
  simp only [Int.toNat_natCast]
  rfl
theorem ba_size (s : ByteArray) : s.size = s.data.toList.length := by
  have : s.size = s.data.size := rfl
  rw [this, Array.length_toList]

/-- The reference's cutting, from j on, a word begun at i. -/
theorem l1Split_l0 (c : UInt8) (s : ByteArray) (hs : s.size ≤ 1048576) : ∀ (m j i : Nat) (acc : List ByteArray), j + m = s.size → i ≤ j → acc.length ≤ j →
    ∃ W : List ByteArray, W.map (·.data.toList) = (((s.data.toList.drop i).take (j - i)) ++ (splitL c (s.data.toList.drop j)).headD []) :: (splitL c (s.data.toList.drop j)).tail ∧
      ∀ k, m < k → spec_l1Split.l0 k s (c.toNat : Int) acc (i : Int) (j : Int) = some (acc ++ W) := by
  have hL := ba_size s
  intro m
  induction m with
  | zero =>
    intro j i acc hj hi ha
    have hd : s.data.toList.drop j = [] := List.drop_of_length_le (by omega)
    refine ⟨[s.extract i s.size], ?_, fun k hk => ?_⟩
    · rw [hd]
      simp only [splitL, List.map_cons, List.map_nil, List.headD_cons, List.tail_cons, List.append_nil]
      rw [Go.Lib.extract_data, show j - i = s.size - i from by omega]
    · obtain ⟨k, rfl⟩ : ∃ m, k = m + 1 := ⟨k - 1, by omega⟩
      simp only [spec_l1Split.l0]
      rw [if_neg (by omega), if_pos (Int.natCast_nonneg i), if_pos (by omega), if_pos (by omega), Int.toNat_natCast]
  | succ m ih =>
    intro j i acc hj hi ha
    have hjl : j < s.data.toList.length := by omega
    have hjs : (j : Int) < (s.size : Int) := by omega
    have hw : wrap64 ((j : Int) + 1) = ((j + 1 : Nat) : Int) := by rw [w64 (by omega) (by omega)]; omega
    have hd : s.data.toList.drop j = s.data.toList[j] :: s.data.toList.drop (j + 1) := List.drop_eq_getElem_cons hjl
    have hb := bt_at hjl
    by_cases e : s.data.toList[j] = c
    · obtain ⟨W, hW, E⟩ := ih (j + 1) (j + 1) (acc ++ [s.extract i j]) (by omega) (Nat.le_refl _) (by simp; omega)
      refine ⟨s.extract i j :: W, ?_, fun k hk => ?_⟩
      · rw [hd, splitL, if_pos e, List.map_cons, hW, Go.Lib.extract_data]
        simp only [List.headD_cons, List.append_nil, List.tail_cons, Nat.sub_self, List.take_zero, List.nil_append]
        rw [← splitL_cons]
      · obtain ⟨k, rfl⟩ : ∃ m, k = m + 1 := ⟨k - 1, by omega⟩
        have hE := E k (by omega)
        have c1 : acc.length < 8796093022208 := by omega
        have e2 : bt s (j : Int) = (c.toNat : Int) := by rw [hb, e]
        simp only [spec_l1Split.l0]
        rw [if_pos hjs, if_pos (Int.natCast_nonneg j), if_pos e2, if_pos (Int.natCast_nonneg i), if_pos (Int.ofNat_le.2 hi), if_pos (Int.le_of_lt hjs), if_pos c1, hw, Int.toNat_natCast, Int.toNat_natCast, hE, List.append_assoc]
        rfl
    · obtain ⟨W, hW, E⟩ := ih (j + 1) i acc (by omega) (by omega) (by omega)
      refine ⟨W, ?_, fun k hk => ?_⟩
      · rw [hW, hd, splitL, if_neg e]
        simp only [List.headD_cons, List.tail_cons]
        have ht : (s.data.toList.drop i).take (j + 1 - i) = (s.data.toList.drop i).take (j - i) ++ [s.data.toList[j]] := by
          rw [show j + 1 - i = (j - i) + 1 from by omega, List.take_add_one, List.getElem?_drop, show i + (j - i) = j from by omega, List.getElem?_eq_getElem hjl]
          rfl
        rw [ht, List.append_assoc]
        rfl
      · obtain ⟨k, rfl⟩ : ∃ m, k = m + 1 := ⟨k - 1, by omega⟩
        have hE := E k (by omega)
        have e2 : ¬ bt s (j : Int) = (c.toNat : Int) := by
          rw [hb]
          intro h
          exact e (UInt8.toNat_inj.1 (Int.ofNat_inj.1 h))
        simp only [spec_l1Split.l0]
        rw [if_pos hjs, if_pos (Int.natCast_nonneg j), if_neg e2, hw]
        exact hE

theorem l1Split_is (c : UInt8) (s : ByteArray) (hs : s.size ≤ 1048576) (k : Nat) (hk : s.size < k) : spec_l1Split.f k s (c.toNat : Int) = some (wordsOf c s) := by
  obtain ⟨W, hW, E⟩ := l1Split_l0 c s hs s.size 0 0 [] (by omega) (Nat.le_refl _) (by simp)
  have e : W = wordsOf c s := by
    apply ba_map
    rw [hW, wordsOf_data, splitL_cons c s.data.toList]
    rfl
  have := E k hk
  rw [e, List.nil_append] at this
  exact this

/-- The number that a list of bytes spells as it is written; none for all else. -/
def num1 (l : List UInt8) : Option Int :=
  match Go.Lib.atoiAll l with
  | .ok n => if 0 ≤ n ∧ Go.Lib.itoa n = l then some n else none
  | _ => none
/-- The numbers of a list of words. -/
def numsW : List ByteArray → Option (List Int)
  | [] => some []
  | w :: ws => (num1 w.data.toList).bind fun n => (numsW ws).map fun ns => n :: ns

theorem num1_some {l : List UInt8} {n : Int} (h : num1 l = some n) : 0 ≤ n ∧ n ≤ 9223372036854775807 ∧ Go.Lib.atoiAll l = .ok n ∧ Go.Lib.itoa n = l ∧ l = Go.Lib.decDigits n.toNat := by
  unfold num1 at h
  split at h
  · rename_i v hv
    split at h
    · rename_i hc
      obtain rfl := Option.some.inj h
      obtain ⟨_, b2⟩ := Go.Lib.atoiAll_bounds hv
      refine ⟨hc.1, b2, hv, hc.2, ?_⟩
      rw [← hc.2]
      unfold Go.Lib.itoa
      rw [if_neg (by omega)]
    · cases h
  · cases h

theorem dec_small {n : Nat} (h : n < 10) : Go.Lib.decDigits n = [UInt8.ofNat (48 + n)] := by
  rw [Go.Lib.decDigits, dif_pos h]
theorem dec_ten : Go.Lib.decDigits 10 = [49, 48] := by
  rw [Go.Lib.decDigits, dif_neg (by decide), dec_small (by decide)]
  rfl
theorem num1_small {n : Nat} (h : n ≤ 10) : num1 (Go.Lib.decDigits n) = some (n : Int) := by
  have hi : ∀ m : Nat, Go.Lib.itoa (m : Int) = Go.Lib.decDigits m := fun m => by
    unfold Go.Lib.itoa
    rw [if_neg (by omega), Int.toNat_natCast]
  have key : ∀ m : Nat, Go.Lib.atoiAll (Go.Lib.decDigits m) = .ok (m : Int) → num1 (Go.Lib.decDigits m) = some (m : Int) := fun m hm => by
    unfold num1
    rw [hm]
    show (if 0 ≤ (m : Int) ∧ Go.Lib.itoa (m : Int) = Go.Lib.decDigits m then some (m : Int) else none) = some (m : Int)
    rw [if_pos ⟨Int.natCast_nonneg m, hi m⟩]
  apply key
  by_cases h10 : n = 10
  · subst h10
    rw [dec_ten]
    decide
  · have h9 : n < 10 := by omega
    rw [dec_small h9]
    match n, h9 with
    | 0, _ => decide
    | 1, _ => decide
    | 2, _ => decide
    | 3, _ => decide
    | 4, _ => decide
    | 5, _ => decide
    | 6, _ => decide
    | 7, _ => decide
    | 8, _ => decide
    | 9, _ => decide

theorem ba_toList_eq (a b : ByteArray) : (a.toList = b.toList) ↔ a.data.toList = b.data.toList := by
  rw [Go.Lib.toList_data, Go.Lib.toList_data]

theorem rdOf_get {ws : List ByteArray} {j : Nat} (h : j < ws.length) : rdOf ByteArray.empty ws (j : Int) = ws[j] := by
  unfold rdOf
  rw [Int.toNat_natCast, List.getD_eq_getElem?_getD, List.getElem?_eq_getElem h]
  rfl

/-- What readNumbers makes of the words. -/
theorem readNumbers_l0 (ws : List ByteArray) (hw : ∀ w ∈ ws, w.size ≤ 1048576) (hl : ws.length ≤ 2000000) : ∀ (m j : Nat) (acc : List Int), j + m = ws.length → acc.length ≤ j → ∀ k, m < k →
    impl_readNumbers.l0 k acc ws (ws.length : Int) (j : Int) = some (match numsW (ws.drop j) with | some ns => (acc ++ ns, true) | none => ([], false)) := by
  intro m
  induction m with
  | zero =>
    intro j acc hj ha k hk
    obtain ⟨k, rfl⟩ : ∃ m, k = m + 1 := ⟨k - 1, by omega⟩
    rw [List.drop_of_length_le (by omega)]
    simp only [impl_readNumbers.l0, numsW]
    rw [if_neg (by omega), List.append_nil]
  | succ m ih =>
    intro j acc hj ha k hk
    obtain ⟨k, rfl⟩ : ∃ m, k = m + 1 := ⟨k - 1, by omega⟩
    have hjl : j < ws.length := by omega
    have hjs : (j : Int) < (ws.length : Int) := Int.ofNat_lt.2 hjl
    have hw64 : wrap64 ((j : Int) + 1) = ((j + 1 : Nat) : Int) := by rw [w64 (by omega) (by omega)]; omega
    have c1 : acc.length < 17592186044416 := by omega
    have hsz : ws[j].size ≤ 1048576 := hw _ (List.getElem_mem _)
    rw [List.drop_eq_getElem_cons hjl]
    simp only [impl_readNumbers.l0, numsW]
    rw [if_pos hjs, if_pos (Int.natCast_nonneg j), if_pos hjs, rdOf_get hjl]
    unfold strconv_Atoi_56.f num1
    rw [if_pos hsz]
    cases ha1 : Go.Lib.atoiAll ws[j].data.toList with
    | «syntax» => simp
    | range => simp
    | ok v =>
      obtain ⟨b1, b2⟩ := Go.Lib.atoiAll_bounds ha1
      simp only [Option.bind_some, Option.isNone_none, ↓reduceIte]
      by_cases hv : v < 0
      · rw [if_pos hv, if_neg (by omega)]
        rfl
      · rw [if_neg hv]
        unfold strconv_Itoa_27.f
        rw [if_pos b1, if_pos b2]
        simp only [Option.bind_some]
        by_cases he : Go.Lib.itoa v = ws[j].data.toList
        · rw [if_pos ((ba_toList_eq _ _).2 he), if_pos c1, hw64, ih (j + 1) (acc ++ [v]) (by omega) (by simp; omega) k (by omega), if_pos ⟨by omega, he⟩]
          cases numsW (ws.drop (j + 1)) with
          | none => rfl
          | some ns => simp
        · rw [if_neg (fun h => he ((ba_toList_eq _ _).1 h)), if_neg (fun h => he h.2)]
          rfl

theorem wordsOf_len (c : UInt8) (s : ByteArray) (hs : s.size ≤ 1048576) : (wordsOf c s).length ≤ 2000000 := by
  have := splitL_len c s.data.toList
  have h2 := ba_size s
  unfold wordsOf
  rw [List.length_map]
  omega
theorem wordsOf_each (c : UInt8) (s : ByteArray) (hs : s.size ≤ 1048576) : ∀ w ∈ wordsOf c s, w.size ≤ 1048576 := by
  intro w hw
  unfold wordsOf at hw
  obtain ⟨l, hl, rfl⟩ := List.mem_map.1 hw
  have := splitL_each c s.data.toList l hl
  have h2 := ba_size s
  have h3 := ba_size (⟨l.toArray⟩ : ByteArray)
  have h4 : (⟨l.toArray⟩ : ByteArray).data.toList.length = l.length := by simp
  omega

/-- readNumbers, whole. -/
theorem readNumbers_is (s : ByteArray) (c : UInt8) (hs : s.size ≤ 1048576) (k : Nat) (hk : 2000000 < k) :
    impl_readNumbers.f k s ⟨#[c]⟩ = some (match numsW (wordsOf c s) with | some ns => (ns, true) | none => ([], false)) := by
  have h := readNumbers_l0 (wordsOf c s) (wordsOf_each c s hs) (wordsOf_len c s hs) (wordsOf c s).length 0 [] (by omega) (Nat.le_refl _) k (by have := wordsOf_len c s hs; omega)
  simp only [impl_readNumbers.f, split_is c s hs, Option.bind_some]
  rw [List.drop_zero] at h
  rw [show (0 : Int) = ((0 : Nat) : Int) from rfl, h]
  cases numsW (wordsOf c s) <;> rfl

theorem readBy_l0 (p : ByteArray) (hp : p.size ≤ 6) : ∀ (m j : Nat) (x : Int), j + m = p.size → 0 ≤ x → x < 10 ^ j →
    ∃ r : Int, (r = -1 ∨ x ≤ r) ∧ ∀ k, m < k → spec_l1Read.l0 k p x (j : Int) = some r := by
  have hL := ba_size p
  intro m
  induction m with
  | zero =>
    intro j x hj h0 h1
    refine ⟨x, Or.inr (Int.le_refl x), fun k hk => ?_⟩
    obtain ⟨k, rfl⟩ : ∃ m, k = m + 1 := ⟨k - 1, by omega⟩
    simp only [spec_l1Read.l0]
    rw [if_neg (by omega)]
  | succ m ih =>
    intro j x hj h0 h1
    have hjl : j < p.data.toList.length := by omega
    have hjs : (j : Int) < (p.size : Int) := by omega
    have hb := bt_at hjl
    have hj5 : j ≤ 5 := by omega
    have hpow : (10 : Int) ^ j ≤ 100000 := by
      match j, hj5 with
      | 0, _ => decide
      | 1, _ => decide
      | 2, _ => decide
      | 3, _ => decide
      | 4, _ => decide
      | 5, _ => decide
    have hx : x ≤ 100000 := Int.le_trans (Int.le_of_lt h1) hpow
    have hw : wrap64 ((j : Int) + 1) = ((j + 1 : Nat) : Int) := by rw [w64 (by omega) (by omega)]; omega
    generalize hB : ((p.data.toList[j]).toNat : Int) = B at hb
    by_cases e1 : B < 48
    · refine ⟨-1, Or.inl rfl, fun k hk => ?_⟩
      obtain ⟨k, rfl⟩ : ∃ m, k = m + 1 := ⟨k - 1, by omega⟩
      simp only [spec_l1Read.l0]
      rw [if_pos hjs, if_pos (Int.natCast_nonneg j), hb, if_pos e1]
    · by_cases e2 : B > 57
      · refine ⟨-1, Or.inl rfl, fun k hk => ?_⟩
        obtain ⟨k, rfl⟩ : ∃ m, k = m + 1 := ⟨k - 1, by omega⟩
        simp only [spec_l1Read.l0]
        rw [if_pos hjs, if_pos (Int.natCast_nonneg j), hb, if_neg e1, if_pos e2]
      · have e3 : wrap64 ((wrap64 (10 * x)) + ((B - 48) % 256)) = 10 * x + (B - 48) := by
          rw [w64 (x := 10 * x) (by omega) (by omega), w64 (by omega) (by omega)]
          omega
        have hlt : 10 * x + (B - 48) < 10 ^ (j + 1) := by
          rw [Int.pow_succ]
          generalize (10 : Int) ^ j = q at h1 ⊢
          omega
        obtain ⟨r, hr, E⟩ := ih (j + 1) (10 * x + (B - 48)) (by omega) (by omega) hlt
        refine ⟨r, hr.imp id (fun h => by omega), fun k hk => ?_⟩
        obtain ⟨k, rfl⟩ : ∃ m, k = m + 1 := ⟨k - 1, by omega⟩
        have hE := E k (by omega)
        simp only [spec_l1Read.l0]
        rw [if_pos hjs, if_pos (Int.natCast_nonneg j), hb, if_neg e1, if_neg e2, e3, hw]
        exact hE

theorem dec_nine {l : List UInt8} {n : Nat} (h : n ≤ 10) (e : l = Go.Lib.decDigits n) : (n < 10 ∧ l = [UInt8.ofNat (48 + n)]) ∨ (n = 10 ∧ l = [49, 48]) := by
  by_cases h10 : n = 10
  · exact Or.inr ⟨h10, by rw [e, h10, dec_ten]⟩
  · exact Or.inl ⟨by omega, by rw [e, dec_small (by omega)]⟩

/-- One digit read. -/
theorem readBy_step (p : ByteArray) (k j : Nat) (x : Int) (hj : j < p.data.toList.length) (hj6 : j ≤ 5) (h0 : 0 ≤ x) (h1 : x ≤ 100000) :
    spec_l1Read.l0 (k + 1) p x (j : Int) = if ((p.data.toList[j]).toNat : Int) < 48 then some (-1) else (if ((p.data.toList[j]).toNat : Int) > 57 then some (-1) else spec_l1Read.l0 k p (10 * x + (((p.data.toList[j]).toNat : Int) - 48)) ((j + 1 : Nat) : Int)) := by
  have hL := ba_size p
  have hjs : (j : Int) < (p.size : Int) := by omega
  have hb := bt_at hj
  have hw : wrap64 ((j : Int) + 1) = ((j + 1 : Nat) : Int) := by rw [w64 (by omega) (by omega)]; omega
  generalize hB : ((p.data.toList[j]).toNat : Int) = B at hb ⊢
  simp only [spec_l1Read.l0]
  rw [if_pos hjs, if_pos (Int.natCast_nonneg j), hb, hw]
  by_cases e1 : B < 48
  · rw [if_pos e1, if_pos e1]
  · by_cases e2 : B > 57
    · rw [if_neg e1, if_neg e1, if_pos e2, if_pos e2]
    · have e3 : wrap64 ((wrap64 (10 * x)) + ((B - 48) % 256)) = 10 * x + (B - 48) := by
        rw [w64 (x := 10 * x) (by omega) (by omega), w64 (by omega) (by omega)]
        omega
      rw [if_neg e1, if_neg e1, if_neg e2, if_neg e2, e3]
theorem readBy_end (p : ByteArray) (k : Nat) (x : Int) : spec_l1Read.l0 (k + 1) p x (p.size : Int) = some x := by
  simp only [spec_l1Read.l0]
  rw [if_neg (by omega)]

theorem u8_of {b : UInt8} {n : Nat} (h : (b.toNat : Int) - 48 = n) (h2 : n < 10) : b = UInt8.ofNat (48 + n) := by
  apply UInt8.toNat_inj.1
  have : (UInt8.ofNat (48 + n)).toNat = 48 + n := by
    rw [UInt8.toNat_ofNat']
    omega
  omega

theorem readBy_at (p : ByteArray) (k j : Nat) (x : Int) (b : UInt8) (hb : p.data.toList[j]? = some b) (hj6 : j ≤ 5) (h0 : 0 ≤ x) (h1 : x ≤ 100000) :
    spec_l1Read.l0 (k + 1) p x (j : Int) = if (b.toNat : Int) < 48 then some (-1) else (if (b.toNat : Int) > 57 then some (-1) else spec_l1Read.l0 k p (10 * x + ((b.toNat : Int) - 48)) ((j + 1 : Nat) : Int)) := by
  obtain ⟨hl, e⟩ := List.getElem?_eq_some_iff.1 hb
  rw [← e]
  exact readBy_step p k j x hl hj6 h0 h1

/-- What the reference reads in a word: the number, where it is small and written as it is written. -/
theorem l1Read_ev (p : ByteArray) : ∃ n : Int, (∀ k, 20 ≤ k → spec_l1Read.f k p = some n) ∧ (0 ≤ n → n ≤ 10 → num1 p.data.toList = some n) ∧ (∀ m, num1 p.data.toList = some m → m ≤ 10 → n = m) := by
  have hL := ba_size p
  have hin : ∀ a b c : Int, spec_l1In.f a b c = some (decide (b ≤ a ∧ a ≤ c)) := fun a b c => by
    unfold spec_l1In.f
    by_cases h : a ≥ b
    · rw [if_pos h]
      exact congrArg some (decide_eq_decide.2 (by omega))
    · rw [if_neg h]
      exact congrArg some (decide_eq_false (by omega)).symm
  have hsm : ∀ m, num1 p.data.toList = some m → m ≤ 10 → (∃ a : Nat, a < 10 ∧ m = a ∧ p.data.toList = [UInt8.ofNat (48 + a)]) ∨ (m = 10 ∧ p.data.toList = [49, 48]) := by
    intro m hm h10
    obtain ⟨h0, _, _, _, hd⟩ := num1_some hm
    rcases dec_nine (by omega) hd with ⟨h1, h2⟩ | ⟨h1, h2⟩
    · exact Or.inl ⟨m.toNat, h1, by omega, h2⟩
    · exact Or.inr ⟨by omega, h2⟩
  have hbad : ¬ (1 ≤ (p.size : Int) ∧ (p.size : Int) ≤ 6) → ∀ k, 20 ≤ k → spec_l1Read.f k p = some (-1) := by
    intro hs k hk
    obtain ⟨k, rfl⟩ : ∃ r, k = r + 1 := ⟨k - 1, by omega⟩
    simp only [spec_l1Read.f, hin, decide_eq_false hs, Option.bind_some, Bool.false_eq_true, ↓reduceIte, spec_l1Read.j0]
  have hf : ∀ b, p.data.toList[0]? = some b → p.size ≤ 6 → ∀ k, spec_l1Read.f k p = if (b.toNat : Int) = 48 then spec_l1Read.j0 k p (decide ((p.size : Int) > 1)) else spec_l1Read.j0 k p false := by
    intro b hb h6 k
    obtain ⟨hl, e⟩ := List.getElem?_eq_some_iff.1 hb
    have hs : 1 ≤ (p.size : Int) ∧ (p.size : Int) ≤ 6 := by omega
    have hpos : (0 : Int) < (p.size : Int) := by omega
    have hb0 := bt_at hl
    rw [e] at hb0
    have hb1 : bt p 0 = (b.toNat : Int) := hb0
    simp only [spec_l1Read.f, hin, decide_eq_true hs, Option.bind_some, ↓reduceIte]
    rw [if_pos hpos, hb1]
  have hj1 : ∀ k, spec_l1Read.j0 (k + 1) p true = some (-1) := fun k => by simp only [spec_l1Read.j0, ↓reduceIte]
  have hj0 : ∀ k, spec_l1Read.j0 (k + 1) p false = spec_l1Read.l0 k p 0 ((0 : Nat) : Int) := fun k => by simp only [spec_l1Read.j0, Bool.false_eq_true, ↓reduceIte]; rfl
  match hl : p.data.toList with
  | [] =>
    rw [hl] at hL
    simp only [List.length_nil] at hL
    refine ⟨-1, hbad (by omega), fun h => absurd h (by decide), fun m hm h10 => ?_⟩
    rw [← hl] at hm
    rcases hsm m hm h10 with ⟨a, _, _, he⟩ | ⟨_, he⟩ <;> rw [hl] at he <;> cases he
  | [b0] =>
    rw [hl] at hL
    simp only [List.length_cons, List.length_nil] at hL
    have hb0 : p.data.toList[0]? = some b0 := by rw [hl]; rfl
    have hval : ∀ k, 20 ≤ k → spec_l1Read.f k p = if (b0.toNat : Int) < 48 then some (-1) else (if (b0.toNat : Int) > 57 then some (-1) else some ((b0.toNat : Int) - 48)) := by
      intro k hk
      obtain ⟨k, rfl⟩ : ∃ r, k = r + 1 + 1 + 1 := ⟨k - 3, by omega⟩
      have hd : decide ((p.size : Int) > 1) = false := decide_eq_false (by omega)
      have he : ∀ x, spec_l1Read.l0 (k + 1) p x ((0 + 1 : Nat) : Int) = some x := fun x => by
        have := readBy_end p k x
        rw [show (p.size : Int) = ((0 + 1 : Nat) : Int) from by omega] at this
        exact this
      rw [hf b0 hb0 (by omega), hd, ite_self, hj0, readBy_at p (k + 1) 0 0 b0 hb0 (by omega) (Int.le_refl 0) (by decide), he]
      congr 2
      congr 1
      omega
    by_cases e1 : (b0.toNat : Int) < 48
    · refine ⟨-1, fun k hk => by rw [hval k hk, if_pos e1], fun h => absurd h (by decide), fun m hm h10 => ?_⟩
      rw [← hl] at hm
      rcases hsm m hm h10 with ⟨a, ha, _, he⟩ | ⟨_, he⟩
      · rw [hl] at he
        injection he with he
        have : (UInt8.ofNat (48 + a)).toNat = 48 + a := by rw [UInt8.toNat_ofNat']; omega
        rw [he] at e1
        omega
      · rw [hl] at he; cases he
    · by_cases e2 : (b0.toNat : Int) > 57
      · refine ⟨-1, fun k hk => by rw [hval k hk, if_neg e1, if_pos e2], fun h => absurd h (by decide), fun m hm h10 => ?_⟩
        rw [← hl] at hm
        rcases hsm m hm h10 with ⟨a, ha, _, he⟩ | ⟨_, he⟩
        · rw [hl] at he
          injection he with he
          have : (UInt8.ofNat (48 + a)).toNat = 48 + a := by rw [UInt8.toNat_ofNat']; omega
          rw [he] at e2
          omega
        · rw [hl] at he; cases he
      · obtain ⟨a, ha⟩ : ∃ a : Nat, (b0.toNat : Int) - 48 = a := ⟨b0.toNat - 48, by omega⟩
        have hb : b0 = UInt8.ofNat (48 + a) := u8_of ha (by omega)
        have hn : num1 [b0] = some ((b0.toNat : Int) - 48) := by
          rw [ha, hb, ← dec_small (by omega : a < 10)]
          exact num1_small (by omega)
        refine ⟨(b0.toNat : Int) - 48, fun k hk => by rw [hval k hk, if_neg e1, if_neg e2], fun _ _ => hn, fun m hm h10 => ?_⟩
        rw [hn] at hm
        exact Option.some.inj hm
  | [b0, b1] =>
    rw [hl] at hL
    simp only [List.length_cons, List.length_nil] at hL
    have hb0 : p.data.toList[0]? = some b0 := by rw [hl]; rfl
    have hb1 : p.data.toList[1]? = some b1 := by rw [hl]; rfl
    have hd : decide ((p.size : Int) > 1) = true := decide_eq_true (by omega)
    have hten : ∀ m, num1 [b0, b1] = some m → m ≤ 10 → m = 10 ∧ b0 = 49 ∧ b1 = 48 := by
      intro m hm h10
      rw [← hl] at hm
      rcases hsm m hm h10 with ⟨a, ha, _, he⟩ | ⟨h, he⟩
      · rw [hl] at he; cases he
      · rw [hl] at he
        injection he with he1 he2
        injection he2 with he2
        exact ⟨h, he1, he2⟩
    by_cases hz : (b0.toNat : Int) = 48
    · refine ⟨-1, fun k hk => ?_, fun h => absurd h (by decide), fun m hm h10 => ?_⟩
      · obtain ⟨k, rfl⟩ : ∃ r, k = r + 1 := ⟨k - 1, by omega⟩
        rw [hf b0 hb0 (by omega), if_pos hz, hd, hj1]
      · obtain ⟨_, h2, _⟩ := hten m hm h10
        rw [h2] at hz
        exact absurd hz (by decide)
    · have hval : ∀ k, 20 ≤ k → spec_l1Read.f k p = if (b0.toNat : Int) < 48 then some (-1) else (if (b0.toNat : Int) > 57 then some (-1) else (if (b1.toNat : Int) < 48 then some (-1) else (if (b1.toNat : Int) > 57 then some (-1) else some (10 * ((b0.toNat : Int) - 48) + ((b1.toNat : Int) - 48))))) := by
        intro k hk
        obtain ⟨k, rfl⟩ : ∃ r, k = r + 1 + 1 + 1 + 1 := ⟨k - 4, by omega⟩
        have he : ∀ x, spec_l1Read.l0 (k + 1) p x ((1 + 1 : Nat) : Int) = some x := fun x => by
          have := readBy_end p k x
          rw [show (p.size : Int) = ((1 + 1 : Nat) : Int) from by omega] at this
          exact this
        rw [hf b0 hb0 (by omega), if_neg hz, hj0, readBy_at p (k + 1 + 1) 0 0 b0 hb0 (by omega) (Int.le_refl 0) (by decide)]
        by_cases e1 : (b0.toNat : Int) < 48
        · rw [if_pos e1, if_pos e1]
        · by_cases e2 : (b0.toNat : Int) > 57
          · rw [if_neg e1, if_neg e1, if_pos e2, if_pos e2]
          · rw [if_neg e1, if_neg e1, if_neg e2, if_neg e2, show (0 + 1 : Nat) = 1 from rfl, readBy_at p (k + 1) 1 _ b1 hb1 (by omega) (by omega) (by omega), he, show 10 * (10 * (0 : Int) + ((b0.toNat : Int) - 48)) = 10 * ((b0.toNat : Int) - 48) from by omega]
      by_cases hv : ((b0.toNat : Int) < 48 ∨ (b0.toNat : Int) > 57) ∨ ((b1.toNat : Int) < 48 ∨ (b1.toNat : Int) > 57)
      · refine ⟨-1, fun k hk => ?_, fun h => absurd h (by decide), fun m hm h10 => ?_⟩
        · rw [hval k hk]
          repeat' split
          all_goals first | rfl | omega
        · obtain ⟨_, h2, h3⟩ := hten m hm h10
          have t1 : (49 : UInt8).toNat = 49 := rfl
          have t2 : (48 : UInt8).toNat = 48 := rfl
          rw [h2, h3, t1, t2] at hv
          omega
      · refine ⟨10 * ((b0.toNat : Int) - 48) + ((b1.toNat : Int) - 48), fun k hk => ?_, fun h0 h10 => ?_, fun m hm h10 => ?_⟩
        · rw [hval k hk, if_neg (by omega), if_neg (by omega), if_neg (by omega), if_neg (by omega)]
        · have h1 : b0 = 49 := UInt8.toNat_inj.1 (by have : (49 : UInt8).toNat = 49 := rfl; omega)
          have h2 : b1 = 48 := UInt8.toNat_inj.1 (by have : (48 : UInt8).toNat = 48 := rfl; omega)
          subst h1 h2
          rw [← dec_ten, num1_small (by decide)]
          rfl
        · obtain ⟨h1, h2, h3⟩ := hten m hm h10
          rw [h1, h2, h3]
          rfl
  | b0 :: b1 :: b2 :: r =>
    rw [hl] at hL
    simp only [List.length_cons] at hL
    have hb0 : p.data.toList[0]? = some b0 := by rw [hl]; rfl
    have hb1 : p.data.toList[1]? = some b1 := by rw [hl]; rfl
    have hb2 : p.data.toList[2]? = some b2 := by rw [hl]; rfl
    have hno : ∀ (n m : Int), num1 (b0 :: b1 :: b2 :: r) = some m → m ≤ 10 → n = m := by
      intro n m hm h10
      rw [← hl] at hm
      rcases hsm m hm h10 with ⟨a, ha, _, he⟩ | ⟨h, he⟩ <;> rw [hl] at he <;> cases he
    by_cases h6 : p.size ≤ 6
    · have hd : decide ((p.size : Int) > 1) = true := decide_eq_true (by omega)
      by_cases hz : (b0.toNat : Int) = 48
      · refine ⟨-1, fun k hk => ?_, fun h => absurd h (by decide), hno _⟩
        obtain ⟨k, rfl⟩ : ∃ r, k = r + 1 := ⟨k - 1, by omega⟩
        rw [hf b0 hb0 h6, if_pos hz, hd, hj1]
      · by_cases e0 : (b0.toNat : Int) < 48 ∨ (b0.toNat : Int) > 57
        · refine ⟨-1, fun k hk => ?_, fun h => absurd h (by decide), hno _⟩
          obtain ⟨k, rfl⟩ : ∃ r, k = r + 1 + 1 := ⟨k - 2, by omega⟩
          rw [hf b0 hb0 h6, if_neg hz, hj0, readBy_at p k 0 0 b0 hb0 (by omega) (Int.le_refl 0) (by decide)]
          repeat' split
          all_goals first | rfl | omega
        · by_cases e1 : (b1.toNat : Int) < 48 ∨ (b1.toNat : Int) > 57
          · refine ⟨-1, fun k hk => ?_, fun h => absurd h (by decide), hno _⟩
            obtain ⟨k, rfl⟩ : ∃ r, k = r + 1 + 1 + 1 := ⟨k - 3, by omega⟩
            rw [hf b0 hb0 h6, if_neg hz, hj0, readBy_at p (k + 1) 0 0 b0 hb0 (by omega) (Int.le_refl 0) (by decide), if_neg (by omega), if_neg (by omega), show (0 + 1 : Nat) = 1 from rfl, readBy_at p k 1 _ b1 hb1 (by omega) (by omega) (by omega)]
            repeat' split
            all_goals first | rfl | omega
          · by_cases e2 : (b2.toNat : Int) < 48 ∨ (b2.toNat : Int) > 57
            · refine ⟨-1, fun k hk => ?_, fun h => absurd h (by decide), hno _⟩
              obtain ⟨k, rfl⟩ : ∃ r, k = r + 1 + 1 + 1 + 1 := ⟨k - 4, by omega⟩
              rw [hf b0 hb0 h6, if_neg hz, hj0, readBy_at p (k + 1 + 1) 0 0 b0 hb0 (by omega) (Int.le_refl 0) (by decide), if_neg (by omega), if_neg (by omega), show (0 + 1 : Nat) = 1 from rfl, readBy_at p (k + 1) 1 _ b1 hb1 (by omega) (by omega) (by omega), if_neg (by omega), if_neg (by omega), show (1 + 1 : Nat) = 2 from rfl, readBy_at p k 2 _ b2 hb2 (by omega) (by omega) (by omega)]
              repeat' split
              all_goals first | rfl | omega
            · obtain ⟨v, hv, E⟩ := readBy_l0 p h6 (p.size - 3) 3 (10 * (10 * (10 * (0 : Int) + ((b0.toNat : Int) - 48)) + ((b1.toNat : Int) - 48)) + ((b2.toNat : Int) - 48)) (by omega) (by omega) (by
                have : (10 : Int) ^ 3 = 1000 := by decide
                rw [this]
                omega)
              refine ⟨v, fun k hk => ?_, fun h0 h10 => by rcases hv with hv | hv <;> omega, hno _⟩
              obtain ⟨k, rfl⟩ : ∃ r, k = r + 1 + 1 + 1 + 1 := ⟨k - 4, by omega⟩
              rw [hf b0 hb0 h6, if_neg hz, hj0, readBy_at p (k + 1 + 1) 0 0 b0 hb0 (by omega) (Int.le_refl 0) (by decide), if_neg (by omega), if_neg (by omega), show (0 + 1 : Nat) = 1 from rfl, readBy_at p (k + 1) 1 _ b1 hb1 (by omega) (by omega) (by omega), if_neg (by omega), if_neg (by omega), show (1 + 1 : Nat) = 2 from rfl, readBy_at p k 2 _ b2 hb2 (by omega) (by omega) (by omega), if_neg (by omega), if_neg (by omega), show (2 + 1 : Nat) = 3 from rfl]
              exact E k (by omega)
    · exact ⟨-1, hbad (by omega), fun h => absurd h (by decide), hno _⟩

theorem splitL_free {c : UInt8} : ∀ {l : List UInt8}, c ∉ l → splitL c l = [l]
  | [], _ => rfl
  | b :: l, h => by
    have h1 : ¬ b = c := fun e => h (by rw [e]; exact List.mem_cons_self)
    have h2 : c ∉ l := fun e => h (List.mem_cons_of_mem _ e)
    rw [splitL, if_neg h1, splitL_free h2]
    rfl
theorem splitL_app {c : UInt8} {r : List UInt8} : ∀ {p : List UInt8}, c ∉ p → splitL c (p ++ c :: r) = p :: splitL c r
  | [], _ => by rw [List.nil_append, splitL, if_pos rfl]
  | b :: p, h => by
    have h1 : ¬ b = c := fun e => h (by rw [e]; exact List.mem_cons_self)
    have h2 : c ∉ p := fun e => h (List.mem_cons_of_mem _ e)
    rw [List.cons_append, splitL, if_neg h1, splitL_app h2]
    rfl
theorem splitL_inv {c : UInt8} : ∀ {l p : List UInt8} {rest : List (List UInt8)}, splitL c l = p :: rest → (rest = [] ∧ l = p) ∨ ∃ r, l = p ++ c :: r ∧ splitL c r = rest
  | [], p, rest, h => by
    rw [splitL] at h
    injection h with h1 h2
    exact Or.inl ⟨h2.symm, h1⟩
  | b :: l, p, rest, h => by
    rw [splitL] at h
    by_cases e : b = c
    · rw [if_pos e] at h
      injection h with h1 h2
      exact Or.inr ⟨l, by rw [← h1, e]; rfl, h2⟩
    · rw [if_neg e] at h
      injection h with h1 h2
      rcases splitL_inv (splitL_cons c l) with ⟨h3, h4⟩ | ⟨r, h3, h4⟩
      · refine Or.inl ⟨by rw [← h2, h3], ?_⟩
        rw [← h1, ← h4]
      · refine Or.inr ⟨r, ?_, by rw [← h2, h4]⟩
        rw [← h1, List.cons_append, ← h3]
theorem splitL_two {c : UInt8} {l p q : List UInt8} (h : splitL c l = [p, q]) : l = p ++ c :: q := by
  rcases splitL_inv h with ⟨h1, _⟩ | ⟨r, h1, h2⟩
  · cases h1
  · rcases splitL_inv h2 with ⟨_, h3⟩ | ⟨r2, _, h4⟩
    · rw [h1, h3]
    · exact absurd h4 (splitL_ne c r2)

theorem dec_small_free {n : Nat} (h : n ≤ 10) {c : UInt8} (hc : c.toNat < 48 ∨ 57 < c.toNat) : c ∉ Go.Lib.decDigits n := by
  have hd : ∀ m : Nat, m < 10 → c ≠ UInt8.ofNat (48 + m) := fun m hm e => by
    have : (UInt8.ofNat (48 + m)).toNat = 48 + m := by rw [UInt8.toNat_ofNat']; omega
    rw [e, this] at hc
    omega
  by_cases h10 : n = 10
  · subst h10
    rw [dec_ten]
    intro hm
    rcases List.mem_cons.1 hm with e | hm
    · exact hd 1 (by decide) e
    · exact hd 0 (by decide) (List.mem_singleton.1 hm)
  · rw [dec_small (by omega)]
    intro hm
    exact hd n (by omega) (List.mem_singleton.1 hm)
theorem dec_small_len {n : Nat} (h : n ≤ 10) : (Go.Lib.decDigits n).length ≤ 2 ∧ 1 ≤ (Go.Lib.decDigits n).length := by
  by_cases h10 : n = 10
  · subst h10; rw [dec_ten]; decide
  · rw [dec_small (by omega)]; simp

theorem wordsOf_mk (c : UInt8) (s : ByteArray) {ls : List (List UInt8)} (h : splitL c s.data.toList = ls) : wordsOf c s = ls.map fun l => ⟨l.toArray⟩ := by
  unfold wordsOf
  rw [h]
theorem ba_dat (l : List UInt8) : (⟨l.toArray⟩ : ByteArray).data.toList = l := rfl

theorem cut_one {c : UInt8} {p r : List UInt8} (h : c ∉ p) : Go.Lib.cut (p ++ c :: r) [c] = (p, r, true) := by
  have hi : Go.Lib.index (p ++ c :: r) [c] = (p.length : Int) := by
    induction p with
    | nil => simp [Go.Lib.index, List.isPrefixOf]
    | cons b p ih =>
      have h1 : c ≠ b := fun e => h (by rw [e]; exact List.mem_cons_self)
      have h2 : c ∉ p := fun e => h (List.mem_cons_of_mem _ e)
      have hp : ([c] : List UInt8).isPrefixOf (b :: (p ++ c :: r)) = false := by simp [List.isPrefixOf, h1]
      have ih' := ih h2
      have hne : ¬ (Go.Lib.index (p ++ c :: r) [c] == -1) = true := fun e => by have := beq_iff_eq.1 e; omega
      rw [List.cons_append, Go.Lib.index, hp]
      simp only [Bool.false_eq_true, ↓reduceIte]
      rw [if_neg hne, ih', List.length_cons]
      omega
  unfold Go.Lib.cut
  rw [if_pos (by omega), hi, Int.toNat_natCast]
  simp
theorem cut_size (l sep : List UInt8) : (Go.Lib.cut l sep).1.length ≤ l.length ∧ (Go.Lib.cut l sep).2.1.length ≤ l.length := by
  unfold Go.Lib.cut
  split
  · simp; omega
  · simp
theorem numsW_len' : ∀ (ws : List ByteArray) (ns : List Int), numsW ws = some ns → ns.length = ws.length
  | [], ns, h => by
    simp only [numsW, Option.some.injEq] at h
    subst h
    rfl
  | w :: ws, ns, h => by
    simp only [numsW, Option.bind_eq_some_iff, Option.map_eq_some_iff] at h
    obtain ⟨n, _, ns', h2, rfl⟩ := h
    simp only [List.length_cons, numsW_len' ws ns' h2]

/-- Is a chain: as both tell it. -/
theorem cnGood_is (w d o : Int) : spec_cnGood.f w d o = some (decide (1 ≤ o ∧ o ≤ 10 ∧ 0 ≤ w ∧ w ≤ o ∧ 0 ≤ d ∧ d ≤ o)) := by
  unfold spec_cnGood.f spec_l1In.f
  by_cases h1 : 1 ≤ o ∧ o ≤ 10 ∧ 0 ≤ w ∧ w ≤ o ∧ 0 ≤ d ∧ d ≤ o
  · rw [decide_eq_true h1]
    obtain ⟨h1, h2, h3, h4, h5, h6⟩ := h1
    simp [*]
  · rw [decide_eq_false h1]
    grind

theorem isChain_is (w d o : Int) : impl_IsChain.f w d o = some (decide (1 ≤ o ∧ o ≤ 10 ∧ 0 ≤ w ∧ w ≤ o ∧ 0 ≤ d ∧ d ≤ o)) := by
  unfold impl_IsChain.f impl_within.f
  by_cases h1 : 1 ≤ o ∧ o ≤ 10 ∧ 0 ≤ w ∧ w ≤ o ∧ 0 ≤ d ∧ d ≤ o
  · rw [decide_eq_true h1]
    obtain ⟨h1, h2, h3, h4, h5, h6⟩ := h1
    simp [*]
  · rw [decide_eq_false h1]
    grind

/-- The text of a chain. -/
def chainL (w d o : Nat) : List UInt8 := Go.Lib.decDigits w ++ 45 :: (Go.Lib.decDigits d ++ 47 :: Go.Lib.decDigits o)
theorem itoa_nat (m : Nat) : Go.Lib.itoa (m : Int) = Go.Lib.decDigits m := by
  unfold Go.Lib.itoa
  rw [if_neg (by omega), Int.toNat_natCast]
theorem ba_sz (l : List UInt8) : (⟨l.toArray⟩ : ByteArray).size = l.length := by rw [ba_size]
theorem chainText_is (w d o : Nat) (hw : w ≤ 10) (hd : d ≤ 10) (ho : o ≤ 10) : ∃ t : ByteArray, impl_chainText.f w d o = some t ∧ t.data.toList = chainL w d o := by
  have e : ∀ m : Nat, m ≤ 10 → strconv_Itoa_27.f (m : Int) = some ⟨(Go.Lib.decDigits m).toArray⟩ := fun m hm => by
    unfold strconv_Itoa_27.f
    rw [if_pos (by omega), if_pos (by omega), itoa_nat]
  have lw := (dec_small_len hw).1
  have ld := (dec_small_len hd).1
  have lo := (dec_small_len ho).1
  have c1 : (Go.Lib.decDigits w).length + 1 ≤ 9223372036854775807 := by omega
  have c2 : (Go.Lib.decDigits w).length + 1 + (Go.Lib.decDigits d).length ≤ 9223372036854775807 := by omega
  have c3 : (Go.Lib.decDigits w).length + 1 + (Go.Lib.decDigits d).length + 1 ≤ 9223372036854775807 := by omega
  have c4 : (Go.Lib.decDigits w).length + 1 + (Go.Lib.decDigits d).length + 1 + (Go.Lib.decDigits o).length ≤ 9223372036854775807 := by omega
  refine ⟨_, by
    simp only [impl_chainText.f, e w hw, e d hd, e o ho, Option.bind_some, ba_sz]
    rw [if_pos c1, if_pos c2, if_pos c3, if_pos c4], ?_⟩
  simp only [ByteArray.data_append, Array.toList_append]
  unfold chainL
  simp

theorem numsW_one {l : List UInt8} {n : Int} (h : num1 l = some n) : numsW [⟨l.toArray⟩] = some [n] := by
  simp only [numsW, ba_dat, h, Option.bind_some, Option.map_some]
theorem numsW_two {l l2 : List UInt8} {n m : Int} (h : num1 l = some n) (h2 : num1 l2 = some m) : numsW [⟨l.toArray⟩, ⟨l2.toArray⟩] = some [n, m] := by
  simp only [numsW, ba_dat, h, h2, Option.bind_some, Option.map_some]

theorem parseChain_same (s : ByteArray) (hs : s.size ≤ 1048576) : ∃ (w d o : Int) (u : Bool), ∀ k, 3000000 ≤ k → spec_ParseChain.f k s = some (w, d, o, u) ∧ impl_ParseChain.f k s = some (w, d, o, u) := by
  have hL := ba_size s
  have hdata := wordsOf_data 47 s
  by_cases hyes : ∃ w d o : Nat, (1 ≤ o ∧ o ≤ 10 ∧ w ≤ o ∧ d ≤ o) ∧ s.data.toList = chainL w d o
  · obtain ⟨w, d, o, ⟨o1, o2, hw, hd⟩, hT⟩ := hyes
    have w10 : w ≤ 10 := by omega
    have d10 : d ≤ 10 := by omega
    have nw := num1_small w10
    have nd := num1_small d10
    have no := num1_small o2
    have f45w := dec_small_free w10 (c := 45) (Or.inl (by decide))
    have f47w := dec_small_free w10 (c := 47) (Or.inl (by decide))
    have f47d := dec_small_free d10 (c := 47) (Or.inl (by decide))
    have f45d := dec_small_free d10 (c := 45) (Or.inl (by decide))
    have f47o := dec_small_free o2 (c := 47) (Or.inl (by decide))
    have lw := (dec_small_len w10).1
    have ld := (dec_small_len d10).1
    have lo := (dec_small_len o2).1
    have hc : decide (1 ≤ (o : Int) ∧ (o : Int) ≤ 10 ∧ 0 ≤ (w : Int) ∧ (w : Int) ≤ (o : Int) ∧ 0 ≤ (d : Int) ∧ (d : Int) ≤ (o : Int)) = true := decide_eq_true (by omega)
    -- the reference's words
    have hsp47 : splitL 47 s.data.toList = [Go.Lib.decDigits w ++ 45 :: Go.Lib.decDigits d, Go.Lib.decDigits o] := by
      have e : chainL w d o = (Go.Lib.decDigits w ++ 45 :: Go.Lib.decDigits d) ++ 47 :: Go.Lib.decDigits o := by unfold chainL; simp
      rw [hT, e, splitL_app (by
        intro h
        rcases List.mem_append.1 h with h | h
        · exact f47w h
        · rcases List.mem_cons.1 h with h | h
          · exact absurd h (by decide)
          · exact f47d h), splitL_free f47o]
    have hW := wordsOf_mk 47 s hsp47
    have hW2 : wordsOf 45 ⟨(Go.Lib.decDigits w ++ 45 :: Go.Lib.decDigits d).toArray⟩ = [⟨(Go.Lib.decDigits w).toArray⟩, ⟨(Go.Lib.decDigits d).toArray⟩] :=
      wordsOf_mk 45 _ (by rw [ba_dat, splitL_app f45w, splitL_free f45d])
    have hlen : s.size ≤ 8 := by
      rw [hL, hT]
      unfold chainL
      simp only [List.length_append, List.length_cons]
      omega
    obtain ⟨rw_, e1, _, g1⟩ := l1Read_ev ⟨(Go.Lib.decDigits w).toArray⟩
    obtain ⟨rd_, e2, _, g2⟩ := l1Read_ev ⟨(Go.Lib.decDigits d).toArray⟩
    obtain ⟨ro_, e3, _, g3⟩ := l1Read_ev ⟨(Go.Lib.decDigits o).toArray⟩
    have q1 := g1 w nw (by omega)
    have q2 := g2 d nd (by omega)
    have q3 := g3 o no (by omega)
    subst q1 q2 q3
    -- the program's
    have hcut : strings_Cut.f s ⟨#[45]⟩ = some (⟨(Go.Lib.decDigits w).toArray⟩, ⟨(Go.Lib.decDigits d ++ 47 :: Go.Lib.decDigits o).toArray⟩, true) := by
      unfold strings_Cut.f
      rw [if_pos hs, hT]
      show some _ = some _
      have := cut_one (c := 45) (r := Go.Lib.decDigits d ++ 47 :: Go.Lib.decDigits o) f45w
      unfold chainL
      rw [show (⟨#[45]⟩ : ByteArray).data.toList = [45] from rfl, this]
    have sz1 : (⟨(Go.Lib.decDigits w).toArray⟩ : ByteArray).size ≤ 1048576 := by rw [ba_sz]; omega
    have sz2 : (⟨(Go.Lib.decDigits d ++ 47 :: Go.Lib.decDigits o).toArray⟩ : ByteArray).size ≤ 1048576 := by rw [ba_sz]; simp only [List.length_append, List.length_cons]; omega
    have hn1 : ∀ k, 3000000 ≤ k → impl_readNumbers.f k ⟨(Go.Lib.decDigits w).toArray⟩ ⟨#[47]⟩ = some ([(w : Int)], true) := fun k hk => by
      rw [readNumbers_is _ 47 sz1 k (by omega), wordsOf_mk 47 _ (by rw [ba_dat, splitL_free f47w])]
      show some (match numsW [⟨(Go.Lib.decDigits w).toArray⟩] with | some ns => (ns, true) | none => ([], false)) = _
      rw [numsW_one nw]
    have hn2 : ∀ k, 3000000 ≤ k → impl_readNumbers.f k ⟨(Go.Lib.decDigits d ++ 47 :: Go.Lib.decDigits o).toArray⟩ ⟨#[47]⟩ = some ([(d : Int), (o : Int)], true) := fun k hk => by
      rw [readNumbers_is _ 47 sz2 k (by omega), wordsOf_mk 47 _ (by rw [ba_dat, splitL_app f47d, splitL_free f47o])]
      show some (match numsW [⟨(Go.Lib.decDigits d).toArray⟩, ⟨(Go.Lib.decDigits o).toArray⟩] with | some ns => (ns, true) | none => ([], false)) = _
      rw [numsW_two nd no]
    obtain ⟨t, ht, htd⟩ := chainText_is w d o w10 d10 o2
    refine ⟨w, d, o, true, fun k hk => ⟨?_, ?_⟩⟩
    · obtain ⟨k, rfl⟩ : ∃ r, k = r + 1 := ⟨k - 1, by omega⟩
      have a1 := l1Split_is 47 s hs (k + 1) (by omega)
      have a2 := l1Split_is 45 ⟨(Go.Lib.decDigits w ++ 45 :: Go.Lib.decDigits d).toArray⟩ (by rw [ba_sz]; simp only [List.length_append, List.length_cons]; omega) k (by rw [ba_sz]; simp only [List.length_append, List.length_cons]; omega)
      rw [hW] at a1
      rw [hW2] at a2
      have b1 := e1 k (by omega)
      have b2 := e2 k (by omega)
      have b3 := e3 k (by omega)
      have d0 : ∀ x y : ByteArray, rdOf ByteArray.empty [x, y] 0 = x := fun _ _ => rfl
      have d1 : ∀ x y : ByteArray, rdOf ByteArray.empty [x, y] 1 = y := fun _ _ => rfl
      simp only [show (((47 : UInt8).toNat : Nat) : Int) = 47 from rfl, List.map_cons, List.map_nil] at a1
      simp only [show (((45 : UInt8).toNat : Nat) : Int) = 45 from rfl] at a2
      simp only [spec_ParseChain.f, spec_cnParse.f, a1, Option.bind_some]
      rw [if_neg (by omega)]
      simp only [spec_cnParse.j0, List.length_cons, List.length_nil, d0, d1, a2, b1, b2, b3, cnGood_is, hc, Option.bind_some]
      rfl
    · obtain ⟨k, rfl⟩ : ∃ r, k = r + 1 := ⟨k - 1, by omega⟩
      have c1 := hn1 (k + 1) hk
      have c2 := hn2 (k + 1) hk
      have hrd0 : rd [(w : Int)] 0 = (w : Int) := rfl
      simp only [impl_ParseChain.f, hcut, c1, impl_readPair.f, c2, Option.bind_some, ↓reduceIte, List.length_cons, List.length_nil]
      rw [if_pos (by decide), if_pos (by decide), if_pos (by decide)]
      simp only [Option.bind_some, Bool.not_true, impl_ParseChain.j0, Bool.false_eq_true, ↓reduceIte, List.length_cons, List.length_nil]
      rw [if_pos (by decide), hrd0, show rd [(d : Int), (o : Int)] 0 = (d : Int) from rfl, show rd [(d : Int), (o : Int)] 1 = (o : Int) from rfl, isChain_is, hc, ht]
      simp only [Option.bind_some, ↓reduceIte]
      rw [if_pos ((ba_toList_eq _ _).2 (by rw [htd, hT]))]
  · refine ⟨0, 0, 0, false, fun k hk => ⟨?_, ?_⟩⟩
    · obtain ⟨k, rfl⟩ : ∃ r, k = r + 1 := ⟨k - 1, by omega⟩
      have a1 : spec_l1Split.f (k + 1) s 47 = some (wordsOf 47 s) := l1Split_is 47 s hs (k + 1) (by omega)
      simp only [spec_ParseChain.f, spec_cnParse.f, a1, Option.bind_some]
      have hj : ∀ x, spec_cnParse.j0 (k + 1) x true = some (0, 0, 0, false) := fun x => by simp only [spec_cnParse.j0, ↓reduceIte]
      by_cases h8 : (s.size : Int) > 8
      · rw [if_pos h8, hj]
        rfl
      · rw [if_neg h8]
        by_cases h2 : (wordsOf 47 s).length = 2
        · obtain ⟨p0, p1, hW⟩ : ∃ p0 p1, wordsOf 47 s = [p0, p1] := by
            match h : wordsOf 47 s, h2 with
            | [a, b], _ => exact ⟨a, b, rfl⟩
            | [], h2 => simp at h2
            | [_], h2 => simp at h2
            | _ :: _ :: _ :: _, h2 => simp at h2
          have hs47 : splitL 47 s.data.toList = [p0.data.toList, p1.data.toList] := by rw [← hdata, hW]; rfl
          have hj1 := splitL_two hs47
          have hp0 : p0.size ≤ 1048576 := wordsOf_each 47 s hs p0 (by rw [hW]; exact List.mem_cons_self)
          have a2 : spec_l1Split.f k p0 45 = some (wordsOf 45 p0) := l1Split_is 45 p0 hp0 k (by omega)
          have d0 : ∀ x y : ByteArray, rdOf ByteArray.empty [x, y] 0 = x := fun _ _ => rfl
          have d1 : ∀ x y : ByteArray, rdOf ByteArray.empty [x, y] 1 = y := fun _ _ => rfl
          have hb2 : (((([p0, p1] : List ByteArray).length : Nat) : Int) != 2) = false := rfl
          rw [hW, hb2]
          simp only [spec_cnParse.j0, Bool.false_eq_true, ↓reduceIte, List.length_cons, List.length_nil, d0, d1, a2, Option.bind_some]
          rw [if_pos (by decide)]
          by_cases h3 : (wordsOf 45 p0).length = 2
          · obtain ⟨q0, q1, hV⟩ : ∃ q0 q1, wordsOf 45 p0 = [q0, q1] := by
              match h : wordsOf 45 p0, h3 with
              | [a, b], _ => exact ⟨a, b, rfl⟩
              | [], h2 => simp at h2
              | [_], h2 => simp at h2
              | _ :: _ :: _ :: _, h2 => simp at h2
            have hs45 : splitL 45 p0.data.toList = [q0.data.toList, q1.data.toList] := by rw [← wordsOf_data, hV]; rfl
            have hj2 := splitL_two hs45
            obtain ⟨n0, e0, f0, _⟩ := l1Read_ev q0
            obtain ⟨n1, e1, f1, _⟩ := l1Read_ev q1
            obtain ⟨n2, e2, f2, _⟩ := l1Read_ev p1
            have b0 := e0 k (by omega)
            have b1 := e1 k (by omega)
            have b2 := e2 k (by omega)
            rw [hV]
            simp only [List.length_cons, List.length_nil, d0, d1, b0, b1, b2, cnGood_is, Option.bind_some]
            by_cases hc : 1 ≤ n2 ∧ n2 ≤ 10 ∧ 0 ≤ n0 ∧ n0 ≤ n2 ∧ 0 ≤ n1 ∧ n1 ≤ n2
            · exfalso
              have m0 := (num1_some (f0 (by omega) (by omega))).2.2.2.2
              have m1 := (num1_some (f1 (by omega) (by omega))).2.2.2.2
              have m2 := (num1_some (f2 (by omega) (by omega))).2.2.2.2
              refine hyes ⟨n0.toNat, n1.toNat, n2.toNat, by omega, ?_⟩
              rw [hj1, hj2, m0, m1, m2]
              unfold chainL
              simp
            · rw [decide_eq_false hc]
              rfl
          · rw [if_neg (by omega)]
            rfl
        · have hne : (((wordsOf 47 s).length : Int) != 2) = true := bne_iff_ne.2 (by omega)
          rw [hne, hj]
          rfl
    · obtain ⟨k, rfl⟩ : ∃ r, k = r + 1 := ⟨k - 1, by omega⟩
      obtain ⟨c1, c2⟩ := cut_size s.data.toList [45]
      have hcut : strings_Cut.f s ⟨#[45]⟩ = some (⟨(Go.Lib.cut s.data.toList [45]).1.toArray⟩, ⟨(Go.Lib.cut s.data.toList [45]).2.1.toArray⟩, (Go.Lib.cut s.data.toList [45]).2.2) := by
        unfold strings_Cut.f
        rw [if_pos hs]
      generalize hA : (⟨(Go.Lib.cut s.data.toList [45]).1.toArray⟩ : ByteArray) = A at hcut
      generalize hB : (⟨(Go.Lib.cut s.data.toList [45]).2.1.toArray⟩ : ByteArray) = B at hcut
      have sA : A.size ≤ 1048576 := by rw [← hA, ba_sz]; omega
      have sB : B.size ≤ 1048576 := by rw [← hB, ba_sz]; omega
      have r1 := readNumbers_is A 47 sA (k + 1) (by omega)
      have r2 := readNumbers_is B 47 sB (k + 1) (by omega)
      have hj : ∀ x a b, impl_ParseChain.j0 (k + 1) s x a b true = some (0, 0, 0, false) := fun x a b => by simp only [impl_ParseChain.j0, ↓reduceIte]
      obtain ⟨a, b, u, hp⟩ : ∃ (a b : Int) (u : Bool), impl_readPair.f (k + 1) B ⟨#[47]⟩ = some (a, b, u) := by
        simp only [impl_readPair.f, r2, Option.bind_some]
        cases numsW (wordsOf 47 B) with
        | none => exact ⟨0, 0, false, by simp⟩
        | some ns =>
          simp only [↓reduceIte]
          by_cases hl : (ns.length : Int) = 2
          · rw [if_pos hl, if_pos (by omega), if_pos (by omega)]
            exact ⟨_, _, _, rfl⟩
          · rw [if_neg hl]
            exact ⟨_, _, _, rfl⟩
      simp only [impl_ParseChain.f, hcut, r1, hp, Option.bind_some]
      cases hn : numsW (wordsOf 47 A) with
      | none =>
        simp only [Bool.false_eq_true, ↓reduceIte]
        exact hj _ _ _
      | some ns =>
        have hlen := numsW_len' _ _ hn
        have hpos : 0 < ns.length := by
          rw [hlen]
          unfold wordsOf
          rw [List.length_map]
          have := splitL_ne 47 A.data.toList
          exact List.length_pos_iff.2 this
        simp only [↓reduceIte]
        cases u with
        | false => exact hj _ _ _
        | true =>
          simp only [Bool.not_true, impl_ParseChain.j0, Bool.false_eq_true, ↓reduceIte]
          rw [if_pos (by omega), isChain_is]
          by_cases hc : 1 ≤ b ∧ b ≤ 10 ∧ 0 ≤ rd ns 0 ∧ rd ns 0 ≤ b ∧ 0 ≤ a ∧ a ≤ b
          · rw [decide_eq_true hc]
            simp only [Option.bind_some, ↓reduceIte]
            generalize rd ns 0 = c at hc ⊢
            obtain ⟨w, rfl⟩ := Int.eq_ofNat_of_zero_le (by omega : 0 ≤ c)
            obtain ⟨d, rfl⟩ := Int.eq_ofNat_of_zero_le (by omega : 0 ≤ a)
            obtain ⟨o, rfl⟩ := Int.eq_ofNat_of_zero_le (by omega : 0 ≤ b)
            obtain ⟨t, ht, htd⟩ := chainText_is w d o (by omega) (by omega) (by omega)
            rw [ht]
            simp only [Option.bind_some]
            rw [if_neg (fun h => hyes ⟨w, d, o, by omega, by rw [← htd]; exact ((ba_toList_eq _ _).1 h).symm⟩)]
          · rw [decide_eq_false hc]
            rfl

theorem FnExactParseChain (t : ByteArray) (ht : t.size ≤ 140737488351232) : ∃ k, laws_FnExactParseChain.f k t = some true := by
  by_cases h : (t.size : Int) > 1048576
  · refine ⟨0, ?_⟩
    simp only [laws_FnExactParseChain.f]
    rw [if_pos h]
  · obtain ⟨a, b, c, u, hk⟩ := parseChain_same t (by omega)
    obtain ⟨h1, h2⟩ := hk 3000000 (Nat.le_refl _)
    refine ⟨3000000, ?_⟩
    simp only [laws_FnExactParseChain.f, h1, h2, Option.bind_some]
    rw [if_neg h]
    simp [laws_eqChain.f]

end Go.Proofs.YtlpegpmcnimfbaaDoor.Pure
