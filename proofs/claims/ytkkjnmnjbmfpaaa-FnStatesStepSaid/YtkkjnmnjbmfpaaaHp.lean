/- Words for what the walks of this claim say many times over: each is a step of the walk with its small proofs told once. -/
import Derived.Test.YtkkjnmnjbmfpaaaPFnStatesStepx0
namespace Go.Proofs.YtkkjnmnjbmfpaaaW.PrintMore
open Go.RowKit Go.Proofs.YtkkjnmnjbmfpaaaW.PrintWords Go.Proofs.YtkkjnmnjbmfpaaaW.PrintLast
set_option linter.unusedVariables false
def bsl : Bool → List Nat → List Bool
 | _, [] => []
 | b, n :: r => List.replicate n b ++ bsl (!b) r
def bs (l : List Nat) : Array Bool := (bsl true l).toArray
theorem bnd {α β : Type} {o : Option α} {f : α → Option β} {r : β} (h : o.bind f = some r) : ∃ x, Aside0 (o = some x) ∧ f x = some r := (Option.bind_eq_some_iff.mp h).imp fun _ q => ⟨⟨q.1⟩, q.2⟩
theorem ifT {α : Type} {d : Decidable (true = true)} {a b r : α} (h : (@ite α (true = true) d a b) = r) : a = r := by rw [if_pos rfl] at h; exact h
theorem ifF {α : Type} {d : Decidable (false = true)} {a b r : α} (h : (@ite α (false = true) d a b) = r) : b = r := by rw [if_neg Bool.false_ne_true] at h; exact h
theorem ifP {α : Type} {c : Prop} {d : Decidable c} {a z : Option α} {r : α} (h : (@ite (Option α) c d a z) = some r) (hz : z ≠ some r := by nofun) : c ∧ a = some r := by
 by_cases e : c
 · rw [if_pos e] at h; exact ⟨e, h⟩
 · rw [if_neg e] at h; exact absurd h hz
theorem ifN {α : Type} {c : Prop} {d : Decidable c} {b z : Option α} {r : α} (h : (@ite (Option α) c d z b) = some r) (hz : z ≠ some r := by nofun) : ¬ c ∧ b = some r := by
 by_cases e : c
 · rw [if_pos e] at h; exact absurd h hz
 · rw [if_neg e] at h; exact ⟨e, h⟩
theorem putL {l m : List Value} {d : _} {n : Nat} {v : Value} (h : l.set n v = m) : (Act.mk l.toArray d).put (some n) v = Act.mk m.toArray d := by subst h; simp only [Act.put, List.setIfInBounds_toArray]
theorem set0 {a v u : Value} {l : List Value} (h : v = u) : (a::l).set 0 v = u::l := h ▸ rfl
theorem set1 {a0 v : Value} {l m : List Value} {n : Nat} (h : l.set n v = m) : (a0::l).set (n + 1) v = a0::m := h ▸ rfl
theorem set6 {a0 a1 a2 a3 a4 a5 v : Value} {l m : List Value} {n : Nat} (h : l.set n v = m) : (a0::a1::a2::a3::a4::a5::l).set (n + 6) v = a0::a1::a2::a3::a4::a5::m := h ▸ rfl
theorem set36 {a0 a1 a2 a3 a4 a5 a6 a7 a8 a9 a10 a11 a12 a13 a14 a15 a16 a17 a18 a19 a20 a21 a22 a23 a24 a25 a26 a27 a28 a29 a30 a31 a32 a33 a34 a35 v : Value} {l m : List Value} {n : Nat} (h : l.set n v = m) : (a0::a1::a2::a3::a4::a5::a6::a7::a8::a9::a10::a11::a12::a13::a14::a15::a16::a17::a18::a19::a20::a21::a22::a23::a24::a25::a26::a27::a28::a29::a30::a31::a32::a33::a34::a35::l).set (n + 36) v = a0::a1::a2::a3::a4::a5::a6::a7::a8::a9::a10::a11::a12::a13::a14::a15::a16::a17::a18::a19::a20::a21::a22::a23::a24::a25::a26::a27::a28::a29::a30::a31::a32::a33::a34::a35::m := h ▸ rfl
theorem aP {p : Prop} (h : p := by first | (with_reducible (apply putL; (repeat apply set36); (repeat apply set6); (repeat apply set1); apply set0); (try simp only [i64_w, i32_w]); rfl) | (simp only [Act.put, List.setIfInBounds_toArray, List.set_cons_zero, List.set_cons_succ, i64_w, i32_w]; rfl)) : p := h
theorem evT {l : List Value} {d : List Deferred} {n : Nat} {u : Value} (h : l.getD n undef = u) : (Act.mk l.toArray d).eval (.tmp n) = u := by
 subst h
 simp [Act.eval, Array.getD, List.getD]
 split <;> simp_all
theorem gT0 {a z : Value} {l : List Value} : (a::l).getD 0 z = a := rfl
theorem gT1 {a0 z u : Value} {l : List Value} {n : Nat} (h : l.getD n z = u) : (a0::l).getD (n + 1) z = u := h
theorem gT6 {a0 a1 a2 a3 a4 a5 z u : Value} {l : List Value} {n : Nat} (h : l.getD n z = u) : (a0::a1::a2::a3::a4::a5::l).getD (n + 6) z = u := h
theorem gT36 {a0 a1 a2 a3 a4 a5 a6 a7 a8 a9 a10 a11 a12 a13 a14 a15 a16 a17 a18 a19 a20 a21 a22 a23 a24 a25 a26 a27 a28 a29 a30 a31 a32 a33 a34 a35 z u : Value} {l : List Value} {n : Nat} (h : l.getD n z = u) : (a0::a1::a2::a3::a4::a5::a6::a7::a8::a9::a10::a11::a12::a13::a14::a15::a16::a17::a18::a19::a20::a21::a22::a23::a24::a25::a26::a27::a28::a29::a30::a31::a32::a33::a34::a35::l).getD (n + 36) z = u := h
theorem oT {l : List Oper} {n : Nat} {o : Oper} (h : l[n]? = some o) : l.toArray[n]? = some o := by simpa using h
theorem oT0 {a : Oper} {l : List Oper} : (a::l)[0]? = some a := rfl
theorem oT1 {a0 u : Oper} {l : List Oper} {n : Nat} (h : l[n]? = some u) : (a0::l)[n + 1]? = some u := h
theorem oT6 {a0 a1 a2 a3 a4 a5 u : Oper} {l : List Oper} {n : Nat} (h : l[n]? = some u) : (a0::a1::a2::a3::a4::a5::l)[n + 6]? = some u := h
theorem oAA {l m k : List Oper} {n : Nat} {o : Oper} (h : (List.append l (List.append m k))[n]? = some o) : (List.append (List.append l m) k)[n]? = some o := by rw [show List.append (List.append l m) k = List.append l (List.append m k) from List.append_assoc l m k]; exact h
theorem oN {l : List Oper} {n : Nat} {o : Oper} (h : l[n]? = some o) : (List.append [] l)[n]? = some o := h
theorem oA0 {a : Oper} {l m : List Oper} : (List.append (a::l) m)[0]? = some a := rfl
theorem oA1 {a0 u : Oper} {l m : List Oper} {n : Nat} (h : (List.append l m)[n]? = some u) : (List.append (a0::l) m)[n + 1]? = some u := h
theorem oA6 {a0 a1 a2 a3 a4 a5 u : Oper} {l m : List Oper} {n : Nat} (h : (List.append l m)[n]? = some u) : (List.append (a0::a1::a2::a3::a4::a5::l) m)[n + 6]? = some u := h
theorem iO {p : Prop} (h : p := by first | (with_reducible (apply oT; (repeat first | apply oAA | apply oN | apply oA6 | apply oA1 | apply oT6 | apply oT1); first | exact oA0 | exact oT0)) | rfl) : p := h
theorem eV {p : Prop} (h : p := by with_reducible first | (apply evT; (repeat apply gT36); (repeat apply gT6); (repeat apply gT1); exact gT0) | exact rfl) : p := h
section
variable {P : Program} {a : Act} {dst : Option Tmp} {t t2 ty : TypeId} {x y z : Operand} {u v s : Value} {pos : String} {af : Array Edge} {g : Option (Nat × Bool)} {w : World}
theorem rvMv {r : _} (hx : a.eval x = u) (h : ∀ E : Operand → Value, E x = u → (execOp E ⟨dst, .move x, ty, pos, af, g⟩).run P w = r) : (execOp a.eval ⟨dst, .move x, ty, pos, af, g⟩).run P w = r := h _ hx
theorem rvBin {b : BinOp} {r : _} (hx : a.eval x = u) (hy : a.eval y = v) (h : ∀ E : Operand → Value, E x = u → E y = v → (execOp E ⟨dst, .binOp b t x y t2, ty, pos, af, g⟩).run P w = r) : (execOp a.eval ⟨dst, .binOp b t x y t2, ty, pos, af, g⟩).run P w = r := h _ hx hy
theorem rvPi {r : _} (hx : a.eval x = u) (hy : a.eval y = v) (hz : a.eval z = s) (h : ∀ E : Operand → Value, E x = u → E y = v → E z = s → (execOp E ⟨dst, .pick x y z, ty, pos, af, g⟩).run P w = r) : (execOp a.eval ⟨dst, .pick x y z, ty, pos, af, g⟩).run P w = r := h _ hx hy hz
theorem rvIx {r : _} (hx : a.eval x = u) (hy : a.eval y = v) (h : ∀ E : Operand → Value, E x = u → E y = v → (execOp E ⟨dst, .indexAddr t x y, ty, pos, af, g⟩).run P w = r) : (execOp a.eval ⟨dst, .indexAddr t x y, ty, pos, af, g⟩).run P w = r := h _ hx hy
theorem rvIy {r : _} (hx : a.eval x = u) (hy : a.eval y = v) (h : ∀ E : Operand → Value, E x = u → E y = v → (execOp E ⟨dst, .index t x y, ty, pos, af, g⟩).run P w = r) : (execOp a.eval ⟨dst, .index t x y, ty, pos, af, g⟩).run P w = r := h _ hx hy
theorem rvUn {b : UnOp} {r : _} (hx : a.eval x = u) (h : ∀ E : Operand → Value, E x = u → (execOp E ⟨dst, .unOp b t x, ty, pos, af, g⟩).run P w = r) : (execOp a.eval ⟨dst, .unOp b t x, ty, pos, af, g⟩).run P w = r := h _ hx
theorem rvCv {r : _} (hx : a.eval x = u) (h : ∀ E : Operand → Value, E x = u → (execOp E ⟨dst, .convert t t2 x, ty, pos, af, g⟩).run P w = r) : (execOp a.eval ⟨dst, .convert t t2 x, ty, pos, af, g⟩).run P w = r := h _ hx
theorem rvLd {r : _} (hx : a.eval x = u) (h : ∀ E : Operand → Value, E x = u → (execOp E ⟨dst, .load t x, ty, pos, af, g⟩).run P w = r) : (execOp a.eval ⟨dst, .load t x, ty, pos, af, g⟩).run P w = r := h _ hx
theorem rvFd {n : Nat} {r : _} (hx : a.eval x = u) (h : ∀ E : Operand → Value, E x = u → (execOp E ⟨dst, .field t x n, ty, pos, af, g⟩).run P w = r) : (execOp a.eval ⟨dst, .field t x n, ty, pos, af, g⟩).run P w = r := h _ hx
theorem rvFa {n : Nat} {r : _} (hx : a.eval x = u) (h : ∀ E : Operand → Value, E x = u → (execOp E ⟨dst, .fieldAddr t x n, ty, pos, af, g⟩).run P w = r) : (execOp a.eval ⟨dst, .fieldAddr t x n, ty, pos, af, g⟩).run P w = r := h _ hx
theorem rvEx {n : Nat} {r : _} (hx : a.eval x = u) (h : ∀ E : Operand → Value, E x = u → (execOp E ⟨dst, .extract x n, ty, pos, af, g⟩).run P w = r) : (execOp a.eval ⟨dst, .extract x n, ty, pos, af, g⟩).run P w = r := h _ hx
theorem rvAs {r : _} (hx : a.eval x = u) (h : ∀ E : Operand → Value, E x = u → (execOp E ⟨dst, .assign x, ty, pos, af, g⟩).run P w = r) : (execOp a.eval ⟨dst, .assign x, ty, pos, af, g⟩).run P w = r := h _ hx
theorem rvNc {r : _} (hx : a.eval x = u) (h : ∀ E : Operand → Value, E x = u → (execOp E ⟨dst, .nilCheck x, ty, pos, af, g⟩).run P w = r) : (execOp a.eval ⟨dst, .nilCheck x, ty, pos, af, g⟩).run P w = r := h _ hx
theorem rvBu {b : Builtin} {ats : Array TypeId} {r : _} (hx : a.eval x = u) (h : ∀ E : Operand → Value, E x = u → (execOp E ⟨dst, .call { callee := .builtin b, args := #[x], argTypes := ats }, ty, pos, af, g⟩).run P w = r) : (execOp a.eval ⟨dst, .call { callee := .builtin b, args := #[x], argTypes := ats }, ty, pos, af, g⟩).run P w = r := h _ hx
end
theorem vS {p : Prop} (h : p := by (try first | with_reducible refine rvMv eV ?_ | with_reducible refine rvBin eV eV ?_ | with_reducible refine rvPi eV eV eV ?_ | with_reducible refine rvIx eV eV ?_ | with_reducible refine rvIy eV eV ?_ | with_reducible refine rvUn eV ?_ | with_reducible refine rvCv eV ?_ | with_reducible refine rvLd eV ?_ | with_reducible refine rvFd eV ?_ | with_reducible refine rvFa eV ?_ | with_reducible refine rvEx eV ?_ | with_reducible refine rvAs eV ?_ | with_reducible refine rvNc eV ?_ | with_reducible refine rvBu eV ?_); (try intro E e_); (try intro e2_); (try intro e3_); go_simp; with_reducible rfl) : p := h
section
variable {P : Program} {md : Region.Mode} {ops : Array Oper} {Q : Exit → Act → World → Prop} {S : World → Prop} {ds : List Nat}
theorem pS (i : Nat) (N : Option Tmp) (l' : Array Bool) {oi : Oper} {v : Value} {fuel : Nat} {l : Array Bool} {a a' : Act} {w : World}
 (h : wpAnyLast P md ops Q S ds fuel l' a' w) (hi : ops[i]? = some oi := by exact iO) (hN : oi.dst = N := by rfl) (hc : anyB md ops l l' i = true := by exact any_of HT_.out (by kernel_rfl))
 (hw : Region.wanted oi (yielded ops a.tmps) = true := by rfl) (hv : ∀ w' : World, (execOp a.eval oi).run P w' = .ok (.value v) w' := by intro w'; exact vS)
 (ha : a.put N v = a' := by exact aP)
 (hQ : ∀ c a w, Q (.panic c) (a.put oi.dst v) w → Q (.panic c) a w := by exact fun _ _ _ h => h) : wpAnyLast P md ops Q S ds (fuel + 1) l a w :=
 pure_ l' hi hN hc hQ (Or.inl ⟨hw, hv⟩) ha h
theorem pU (i : Nat) (N : Option Tmp) (l' : Array Bool) {oi : Oper} {fuel : Nat} {l : Array Bool} {a a' : Act} {w : World}
 (h : wpAnyLast P md ops Q S ds fuel l' a' w) (hi : ops[i]? = some oi := by exact iO) (hN : oi.dst = N := by rfl) (hc : anyB md ops l l' i = true := by exact any_of HT_.out (by kernel_rfl))
 (hw : Region.wanted oi (yielded ops a.tmps) = false := by rfl)
 (ha : a.put N undef = a' := by exact aP)
 (hQ : ∀ c a w, Q (.panic c) (a.put oi.dst undef) w → Q (.panic c) a w := by exact fun _ _ _ h => h) : wpAnyLast P md ops Q S ds (fuel + 1) l a w :=
 pure_ l' hi hN hc hQ (Or.inr ⟨hw, rfl⟩) ha h
theorem tS (i : Nat) (N : Option Tmp) (l' : Array Bool) {oi : Oper} {v : Value} {fuel : Nat} {l : Array Bool} {a a' : Act} {w : World}
 (h : wpAnyLast P md ops Q S ds fuel l' a' w) (hi : ops[i]? = some oi := by exact iO) (hN : oi.dst = N := by rfl) (hc : takeB md ops ds l l' i = true := by exact take_ofW HT_.out HW_.out (by kernel_rfl))
 (hw : Region.wanted oi (yielded ops a.tmps) = true := by rfl) (hv : ∀ w' : World, S w' → (execOp a.eval oi).run P w' = .ok (.value v) w' := by rintro w' s_; (repeat obtain ⟨s0_, s_⟩ := s_); exact vS)
 (hS : S w := by exact hHeld)
 (ha : a.put N v = a' := by exact aP)
 (hQ : ∀ c a w, Q (.panic c) (a.put oi.dst v) w → Q (.panic c) a w := by exact fun _ _ _ h => h) : wpAnyLast P md ops Q S ds (fuel + 1) l a w :=
 take_ l' hi hN hc hQ (Or.inl ⟨hw, hv⟩) hS ha h
theorem oS (i : Nat) (N : Option Tmp) (l' : Array Bool) {oi : Oper} {fuel : Nat} {l : Array Bool} {a : Act} {w : World}
 (h : ∀ K : Act → World → Prop, Shut (∀ a' w', S w' → (S w' → wpAnyLast P md ops Q S ds fuel l' a' w') → K a' w') → if Region.wanted oi (yielded ops a.tmps) = true then Oper.wp P oi a w K Q else K (a.put N undef) w)
 (hi : ops[i]? = some oi := by exact iO) (hN : oi.dst = N := by rfl) (hc : readyB md ops l l' i = true := by exact one_of HT_.out (by kernel_rfl)) (hd : i ∉ ds := by decide) : wpAnyLast P md ops Q S ds (fuel + 1) l a w :=
 one_ l' hi hN hc hd h
theorem nS (N : Nat) {a a' : Act} {v : Value} {fuel : Nat} {l : Array Bool} {w : World} (h : wpAnyLast P md ops Q S ds fuel l a' w) (ha : a.put (some N) v = a' := by exact aP) : wpAnyLast P md ops Q S ds fuel l (a.put (some N) v) w := norm_ ha h
theorem gL {rest : List Oper} {oi : Oper} {a : Act} {w : World} (N : Tmp) {f : FuncId} {fn : Func} {as_ : Array Operand} {ts : Array TypeId} (hf : P.funcs[f]? = some fn) (args : Array Value)
 (h : Calls P f args w fun e w' => ∃ v, e = .returned v ∧ wpList P ops Q rest (a.put (some N) v) w')
 (hd : oi.dst = some N := by rfl) (hg : oi.guard = none := by rfl) (hname : (fn.name == "runtime.NumGoroutine") = false := by kernel_rfl) (hb : fn.body.isSome = true := by rfl)
 (hop : oi.op = .call { callee := .value (.func f), args := as_, argTypes := ts } := by rfl)
 (hargs : as_.map a.eval = args := by (try simp only [List.map_toArray, List.map_cons, List.map_nil]); first | done | rfl | (simp only [List.length_drop, List.length_take]; rfl)) : wpList P ops Q (oi :: rest) a w :=
 goesL_ (some N) hd hg hf hname hb args hop hargs h
theorem bE {rest : List Oper} {o : Oper} {a : Act} {W : World} (N : Tmp) (cs : Array Value) (t : TypeId)
 (h : ∀ g, g = W.heap.size → ∀ w1, w1.heap[g]? = some (.cells cs t (0, 0)) → Below W.heap.size W w1 → wpList P ops Q rest (a.put o.dst (.pointer (some ⟨g, 0, none⟩))) w1)
 (hd : o.dst = some N := by rfl) (hgd : o.guard = none := by rfl)
 (hrun : (execOp a.eval o).run P W = .ok (.value (.pointer (some ⟨W.heap.size, 0, none⟩))) (W.alloc (.cells cs t (0, 0))) := by first | (go_simp; done) | (go_simp; rfl)) : wpList P ops Q (o :: rest) a W :=
 box_event hgd hd hrun h
end
theorem bB {p : Prop} (h : p := by repeat (first | (with_reducible first | exact HB.out | apply below_alloc | apply pw_below_drewN | apply below_drew1 | apply below_set | exact Aside0.out (by assumption) | exact IsS58.ge (Aside0.out (by assumption))) | exact HB.out)) : p := h
theorem kB {w W W' : World} {g : Nat} {row : Option Nat} (x : Aside0 (KeepBut w W g row)) (h : KeepBut w W g row → KeepBut w W' g row := by intro x_; repeat (first | (with_reducible first | exact x_ | apply KeepBut.set_ | apply keep_drewN | apply keep_drew | apply keep_alloc | apply keep_far | exact Aside0.out (by assumption)) | exact x_)) : KeepBut w W' g row := h x.out
theorem iB {q p : Prop} (x : Aside0 q) (h : q → p := by intro x_; repeat (first | (with_reducible first | exact x_ | apply IsS58.alloc | apply IsS58.drewN | apply IsS58.drew | apply IsS58.set_1 | apply IsS58.set_2 | apply IsS58.far | exact Aside0.out (by assumption)) | exact x_)) : p := h x.out
theorem rP {q p : Prop} (x : Aside0 q) (h : q → p := by intro x_; (with_reducible repeat (first | apply Kd.R_alloc | apply Kd.R_drewN | apply Kd.R_drew | apply Kd.S_alloc | apply Kd.S_drewN | apply Kd.S_drew | apply Kd.N_alloc | apply Kd.N_drewN | apply Kd.N_drew)); exact x_) : p := h x.out
theorem rF {q p : Prop} (x : q) (h : q → p := by intro x_; (with_reducible repeat (first | apply Kd.R_alloc | apply Kd.R_drewN | apply Kd.R_drew)); exact x_) : p := h x
theorem sF {q p : Prop} (x : q) (h : q → p := by intro x_; (with_reducible repeat (first | apply Kd.S_alloc | apply Kd.S_drewN | apply Kd.S_drew)); exact x_) : p := h x
theorem bP {q p : Prop} (x : Aside0 q) (h : q → p := by intro x_; (with_reducible repeat (first | apply blk_drewN | apply blk_drew | apply blk_alloc)); exact x_) : p := h x.out
theorem aM {p : Prop} (h : p := by (try simp only [List.map_toArray, List.map_cons, List.map_nil]); first | done | rfl | (simp only [List.length_drop, List.length_take]; rfl)) : p := h
theorem dT {p : Prop} [Decidable p] (h : decide p = true := by first | (with_reducible assumption) | assumption) : p := of_decide_eq_true h
theorem sR {p : Prop} (h : p := by first | rfl | (simp; done) | (simp [*]; done)) : p := h
theorem cH {q p : Prop} (x : Aside0 q) (h : q → p := by intro x_; repeat (first | exact (Kd.C_below x_ HB.out) | (with_reducible refine Kd.C_alloc ?_ _) | (with_reducible refine Kd.C_drewN ?_ _) | (with_reducible refine Kd.C_drew ?_))) : p := h x.out
theorem cB {q p : Prop} (x : q) (h : q → p := by intro x_; repeat (first | exact x_ | (with_reducible refine Kd.C_alloc ?_ _) | (with_reducible refine Kd.C_drewN ?_ _) | (with_reducible refine Kd.C_drew ?_))) : p := h x
theorem eW {p : Prop} (h : p := by first | rfl | (simp [errW_none, errW_some] <;> rfl) | (simp [*, errW_none, errW_some] <;> rfl)) : p := h
theorem dW {p : Prop} (h : p := by repeat (first | exact Drawn0.refl _ | apply Drawn0.step)) : p := h
theorem nL {p : Prop} (h : p := by first | exact Kd.R_nil _ _ _ _ _ | exact Kd.S_nil _ _ _ _ _ | exact Kd.N_nil _ _ _ _ _ | exact Kd.V_nil _ _ _ _ _ | exact Kd.Q_nil _ _ _ _ _) : p := h
theorem oK {p : Prop} (h : p := by (try have k0_ := HK0.out); (try have k1_ := HK1.out); (try have k2_ := HK2.out); (try have k3_ := HK3.out); (try have k4_ := HK4.out); (try have k5_ := HK5.out); (try have k6_ := HK6.out); omega) : p := h
theorem cZ {w : World} {g : Nat} {a b : Value} {t : TypeId} (h : Aside0 (w.heap[g]? = some (.cells #[a, b] t (0, 0)))) : w.cell? ⟨g, 0, none⟩ = some a ∧ w.cell? ⟨g, 1, none⟩ = some b ∧ w.frozen? ⟨g, 0, none⟩ = false ∧ w.frozen? ⟨g, 1, none⟩ = false :=
 ⟨(blk_cell h.out 0).trans rfl, (blk_cell h.out 1).trans rfl, blk_frozen h.out 0, blk_frozen h.out 1⟩
theorem am {p : Prop} (h : p) : Aside0 p := ⟨h⟩
theorem kb {q : Prop} (x : Aside0 q) {w w1 : World} (hb : Below w.heap.size w w1) {g : Nat} {o : Obj} (h : q → w.heap[g]? = some o := by intro x_; (with_reducible repeat (first | apply blk_drewN | apply blk_drew | apply blk_alloc)); exact x_) : Aside0 (w1.heap[g]? = some o) := ⟨blk_below (h x.out) hb⟩
theorem kh {q : Prop} (x : Aside0 q) {w w1 : World} {g g' : Nat} (hk : KeepBut w w1 g none) (n : Aside0 (g' ≠ g)) {o : Obj} (h : q → w.heap[g']? = some o := by intro x_; (with_reducible repeat (first | apply blk_drewN | apply blk_drew | apply blk_alloc)); exact x_) : Aside0 (w1.heap[g']? = some o) := ⟨KeepBut.blk hk (h x.out) n.out (by simp)⟩
theorem kg {q : Prop} (x : Aside0 q) {w w1 : World} {g : Nat} {row : Option Nat} (hg : w.grownBy w1 row) (hne : some g ≠ row) {o : Obj} (h : q → w.heap[g]? = some o := by intro x_; (with_reducible repeat (first | apply blk_drewN | apply blk_drew | apply blk_alloc)); exact x_) : Aside0 (w1.heap[g]? = some o) := ⟨blk_grown (h x.out) hg hne⟩
theorem sB {w W w2 : World} (hb : Below W.heap.size W w2) (h : Below w.heap.size w W := by repeat (first | (with_reducible first | exact HB.out | apply below_alloc | apply pw_below_drewN | apply below_drew1 | apply below_set | exact Aside0.out (by assumption) | exact IsS58.ge (Aside0.out (by assumption))) | exact HB.out)) : Aside0 (Below w.heap.size w w2) := ⟨below_step h hb⟩
theorem gW {w W : World} {g : Nat} (hg : g = W.heap.size) (h : Below w.heap.size w W := by repeat (first | (with_reducible first | exact HB.out | apply below_alloc | apply pw_below_drewN | apply below_drew1 | apply below_set | exact Aside0.out (by assumption) | exact IsS58.ge (Aside0.out (by assumption))) | exact HB.out)) : Aside0 (w.heap.size ≤ g) := ⟨by rw [hg]; exact below_size h⟩
theorem gK {q : Prop} (x : Aside0 q) {w W : World} {g g' : Nat} (hg : g' = W.heap.size) (h : q → KeepBut w W g none := by intro x_; repeat (first | (with_reducible first | exact x_ | apply KeepBut.set_ | apply keep_drewN | apply keep_drew | apply keep_alloc | apply keep_far | exact Aside0.out (by assumption)) | exact x_)) : Aside0 (w.heap.size ≤ g') := ⟨by rw [hg]; exact keep_size (h x.out)⟩
theorem gE {x y z : Nat} (a : Aside0 (x ≤ y)) (b : Aside0 (y ≤ z)) : Aside0 (x ≤ z) := ⟨Nat.le_trans a.out b.out⟩
theorem nK {q : Prop} (x : Aside0 q) {W : World} {g g' : Nat} (hg : g' = W.heap.size) {o : Obj} (h : q → W.heap[g]? = some o := by intro x_; (with_reducible repeat (first | apply blk_drewN | apply blk_drew | apply blk_alloc)); exact x_) : Aside0 (g ≠ g') := ⟨by rw [hg]; exact Nat.ne_of_lt (blk_lt (h x.out))⟩
theorem mK {q : Prop} (x : Aside0 q) {W : World} {g g' : Nat} (hg : g' = W.heap.size) {o : Obj} (h : q → W.heap[g]? = some o := by intro x_; (with_reducible repeat (first | apply blk_drewN | apply blk_drew | apply blk_alloc)); exact x_) : Aside0 (g' ≠ g) := ⟨by rw [hg]; exact Nat.ne_of_gt (blk_lt (h x.out))⟩
theorem nI (g : Nat) {q : Prop} (x : Aside0 q) {W : World} {g' : Nat} (hg : g' = W.heap.size) (h : q → g < W.heap.size := by intro x_; exact IsS58.lt (iB ⟨x_⟩)) : Aside0 (g ≠ g') := ⟨by rw [hg]; exact Nat.ne_of_lt (h x.out)⟩
theorem mI (g : Nat) {q : Prop} (x : Aside0 q) {W : World} {g' : Nat} (hg : g' = W.heap.size) (h : q → g < W.heap.size := by intro x_; exact IsS58.lt (iB ⟨x_⟩)) : Aside0 (g' ≠ g) := ⟨by rw [hg]; exact Nat.ne_of_gt (h x.out)⟩
theorem born_pair {W w' : World} (hb : Below W.heap.size W w') : ∃ b : Nat, (∀ {α : Type} {d : Kd α} {e base : Nat} {ok : Nat → Prop} {v : Value} {xs : List α}, Kd.S d e W base ok v xs → Kd.S d e w' base (fun k_ => ok k_ ∧ k_ < b) v xs) ∧
 (∀ {α : Type} {d : Kd α} {e : Nat} {ok : Nat → Prop} {v : Value} {xs : List α}, Kd.S d e w' W.heap.size ok v xs → Kd.S d e w' W.heap.size (fun k_ => ok k_ ∧ b ≤ k_) v xs) ∧ ∀ k, W.heap.size ≤ k → b ≤ k :=
 ⟨W.heap.size, fun h => Kd.S_old h hb, fun h => Kd.S_mono (Kd.S_bound h) (fun _ hk => ⟨hk.1, hk.2.1⟩), fun _ h => h⟩
section
variable {α : Type} {d : Kd α} {e : Nat} {w w1 : World} {base : Nat} {ok : Nat → Prop} {u v : Value} {xs : List α} {q : Prop}
theorem lR (x : Aside0 q) (hb : Below w.heap.size w w1) (h : q → d.R e w base ok v xs := by intro x_; (with_reducible repeat (first | apply Kd.R_alloc | apply Kd.R_drewN | apply Kd.R_drew)); exact x_) : Aside0 (d.R e w1 base ok v xs) := ⟨Kd.R_below (h x.out) hb⟩
theorem lS (x : Aside0 q) (hb : Below w.heap.size w w1) (h : q → d.S e w base ok v xs := by intro x_; (with_reducible repeat (first | apply Kd.S_alloc | apply Kd.S_drewN | apply Kd.S_drew)); exact x_) : Aside0 (d.S e w1 base ok v xs) := ⟨Kd.S_below (h x.out) hb⟩
variable {β : Type} {d' : Kd β} {e' : Nat} {W W' : World} {ok' : Nat → Prop} {ys : List β}
theorem eR (x : Aside0 q) (y : d'.R e' W' W.heap.size ok' v ys) (hb : Below W.heap.size W w1) (h : q → d.R e W base ok u xs := by intro x_; (with_reducible repeat (first | apply Kd.R_alloc | apply Kd.R_drewN | apply Kd.R_drew)); exact x_) : Aside0 (d.R e w1 base (fun k => ok k ∧ some k ≠ v.ownBlock) u xs) := ⟨Kd.R_elder' (h x.out) (Kd.R_base y) hb⟩
theorem eS (x : Aside0 q) (y : d'.R e' W' W.heap.size ok' v ys) (hb : Below W.heap.size W w1) (h : q → d.S e W base ok u xs := by intro x_; (with_reducible repeat (first | apply Kd.S_alloc | apply Kd.S_drewN | apply Kd.S_drew)); exact x_) : Aside0 (d.S e w1 base (fun k => ok k ∧ some k ≠ v.ownBlock) u xs) := ⟨Kd.S_elder' (h x.out) (Kd.R_base y) hb⟩
end
end Go.Proofs.YtkkjnmnjbmfpaaaW.PrintMore
