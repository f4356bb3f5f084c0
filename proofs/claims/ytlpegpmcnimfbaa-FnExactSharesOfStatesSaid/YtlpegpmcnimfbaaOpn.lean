/- A slice of slices of ints that came in, read as the printed words read it. -/
import Derived.Test.YtlpegpmcnimfbaaWMore
import Derived.Deep.Matrix
import Derived.ProofKit
namespace Go.Proofs.Ytlpegpmcnimfbaa.Opn
open Go.ChangeShapes Go.WideShapes Go.Deep Go.RowKit Go.Proofs.YtlpegpmcnimfbaaW.PrintWords
variable {H : Type} {enc : TypeId × Value → H} {P : Program} {w : World} {base : Nat} {held : Bool}
theorem open_rows {t e q : TypeId} {fuel : Nat} {v : Value} {x : DataW H × List MemPlace} (ht : P.underlying t = some (.slice e)) (he : P.underlying e = some (.slice q)) (hq : P.underlying q = some (.int .i64))
 (ce : P.cellsOf e = 1) (cq : P.cellsOf q = 1) (h : DataW.trod enc P w base (fun _ => true) held fuel t [v] = some x) :
 ∃ (A : Option Addr) (cap : Nat) (l : List (List Int)), v = .slice A l.length cap ∧ Kd.C (Kd.slice q (Kd.int .i64)) w A l.length l ∧ l.length ≤ cap ∧ l.length ≤ maxLen ∧ (∀ r ∈ l, r.length ≤ maxLen) ∧ ∀ r ∈ l, ∀ n ∈ r, (Lit.int .i64 n).wf = true := by
 rcases open_int_rows ht he hq ce cq h with ⟨hcs, _⟩ | ⟨a, len, cap, A, L, C, Z, hcs, _, hl, hm, _, hr⟩
 · simp only [List.cons.injEq, and_true] at hcs
   subst hcs
   refine ⟨none, 0, [], rfl, ⟨rfl, by decide, fun hn => by simp at hn⟩, Nat.le_refl _, by simp [maxLen], fun r hr => by simp at hr, fun r hr => by simp at hr⟩
 · simp only [List.cons.injEq, and_true] at hcs
   subst hcs
   have hlen : ((List.range len).map fun r => (Z r).take (L r)).length = len := by simp
   refine ⟨some a, cap, (List.range len).map fun r => (Z r).take (L r), by rw [hlen], ⟨rfl, ?_, fun hn => ⟨a, rfl, fun j p hj => ?_⟩⟩, by rw [hlen]; exact hl, by rw [hlen]; omega, fun r hrr => ?_, fun r hrr n hn => ?_⟩
   · rw [hlen]
     have : maxLen = 9223372036854775807 := rfl
     omega
   · rw [hlen] at hn
     have hjl : j < len := by have := (List.getElem?_eq_some_iff.1 hj).1; rwa [hlen] at this
     simp only [List.getElem?_map, List.getElem?_range hjl, Option.map_some, Option.some.injEq] at hj
     subst hj
     obtain ⟨hcell, hLC, hC, hZ, hwf, hnil, hin⟩ := hr j (by omega)
     have hpl : ((Z j).take (L j)).length = L j := by rw [List.length_take]; omega
     refine ⟨[.slice (A j) (L j) (C j)], rfl, ⟨A j, C j, by rw [hpl], by rw [hpl]; exact hLC, ⟨rfl, ?_, fun hp => ?_⟩⟩, fun i u hu => ?_⟩
     · rw [hpl]
       have : maxLen = 9223372036854775807 := rfl
       omega
     · rw [hpl] at hp
       cases hA : A j with
       | none => have := hnil hA; omega
       | some a' =>
        refine ⟨a', rfl, fun i p hi => ⟨[.int .i64 p], rfl, rfl, fun i' u hu => ?_⟩⟩
        have hil : i < L j := by have := (List.getElem?_eq_some_iff.1 hi).1; rwa [hpl] at this
        rcases i' with _ | i'
        · simp only [List.getElem?_cons_zero, Option.some.injEq] at hu
          subst hu
          have h2 := (hin a' hA).2 i (by omega)
          rw [List.getElem?_take, if_pos hil] at hi
          rw [List.getD_eq_getElem?_getD, hi] at h2
          simpa [Kd.int, Kd.scalar] using h2
        · simp at hu
     · rcases i with _ | i
       · simp only [List.getElem?_cons_zero, Option.some.injEq] at hu
         subst hu
         simpa [Kd.slice] using hcell
       · simp at hu
   · simp only [List.mem_map, List.mem_range] at hrr
     obtain ⟨j, hj, rfl⟩ := hrr
     obtain ⟨hcell, hLC, hC, hZ, hwf, hnil, hin⟩ := hr j (by omega)
     rw [List.length_take]
     omega
   · simp only [List.mem_map, List.mem_range] at hrr
     obtain ⟨j, hj, rfl⟩ := hrr
     obtain ⟨hcell, hLC, hC, hZ, hwf, hnil, hin⟩ := hr j (by omega)
     exact hwf n (List.mem_of_mem_take hn)
end Go.Proofs.Ytlpegpmcnimfbaa.Opn
