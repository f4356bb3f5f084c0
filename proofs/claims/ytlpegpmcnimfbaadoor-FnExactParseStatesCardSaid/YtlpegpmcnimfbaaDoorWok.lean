/- What Go's library needs of a world: its variables hold what they were laid with. -/
import Derived.Test.YtlpegpmcnimfbaaDoorProg
import Derived.Lib.LaidTab
import Derived.Lib.ItoaNum
import Derived.Shelf.Strconv.Itoa3
import Derived.Below
import Derived.Lib.AppendIntMem
import Derived.KernelRfl
namespace Go.Proofs.YtlpegpmcnimfbaaDoorW.PrintMore
open Go.RowKit
structure WOk (w : World) : Prop where
  m : ∃ m, w.cell? ⟨0, 0, none⟩ = some (.int .i64 m)
  s : ∃ ev, w.cell? ⟨2, 0, none⟩ = some ev ∧ (ev = .nilIface ∨ ∃ te pe, ev = .iface te pe)
  r : ∃ ev, w.cell? ⟨3, 0, none⟩ = some ev ∧ (ev = .nilIface ∨ ∃ te pe, ev = .iface te pe)
  tab : Go.Lib.TabIs Tryd.prog w "internal/strconv.uint64pow10" .u64 Go.Lib.pow10Tab
theorem WOk.below {w w' : World} (h : WOk w) (hb : Below w.heap.size w w') : WOk w' := by
  have hc : ∀ {p : Addr} {u : Value}, w.cell? p = some u → w'.cell? p = some u := fun {p u} e => (hb.cell (World.block_lt_of_cell? w _ e)).trans e
  refine ⟨?_, ?_, ?_, ?_⟩
  · obtain ⟨m, hm⟩ := h.m
    exact ⟨m, hc hm⟩
  · obtain ⟨ev, he, h2⟩ := h.s
    exact ⟨ev, hc he, h2⟩
  · obtain ⟨ev, he, h2⟩ := h.r
    exact ⟨ev, hc he, h2⟩
  · have ht := h.tab
    unfold Go.Lib.TabIs World.var? at ht ⊢
    have hg : Tryd.prog.globalNamed "internal/strconv.uint64pow10" = some 1 := by kernel_rfl
    rw [hg, Option.bind_some] at ht ⊢
    have hlt : 1 < w.heap.size := by
      by_cases hl : 1 < w.heap.size
      · exact hl
      · have hn : w.heap[1]? = none := Array.getElem?_eq_none (Nat.le_of_not_lt hl)
        rw [hn] at ht
        cases ht
    rw [hb.block 1 hlt]
    exact ht
end Go.Proofs.YtlpegpmcnimfbaaDoorW.PrintMore
