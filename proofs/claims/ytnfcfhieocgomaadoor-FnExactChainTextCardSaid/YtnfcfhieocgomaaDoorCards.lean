/-
  DERIVED. GIVEN WITH THE SEED: THE CARDS: each row of YtnfcfhieocgomaaDoorRows.lean that lists a variable, with what it lists TIED to the program's text (the seventh form; the later family's looks); each row that meets fmt, with fmt's text TOLD by the authors' own Lean function (tested against real Go, not proved from fmt's source: count such statements apart). THE CARD IS WHAT COUNTS. Prove the row's statement (the work); the ties are given (YtnfcfhieocgomaaDoorTie.lean); close each card by the builder's one call (the guide's Derived/Test/ToyasCard.lean, 'card_holds'). Laid BY PROGRAM, IN A SANDBOX (cutbox-door.mjs). By AI agents, Wed Nov 11 2026. No macro, syntax, notation, axiom, sorry.
-/
import Derived.Test.YtnfcfhieocgomaaDoorRows
import GoSem.ClaimSeven
namespace Go.Proofs.YtnfcfhieocgomaaDoor
namespace Rows

/-- THE TIED CARD OF 'laws.FnExactCoinText'. -/
def fnExactCoinTextCard : Claim7 := { stood := { row := fnExactCoinTextRow, standIns := [], harness := (true, "775fba09e3f555ae3f5833cc286632f1b0c0ca0a22c75261e2d45cfee6af3853"), looks := false }, kinds := [], alts := [], laidByText := true, laidKinds := [.data, .data, .data], laidTests := true, laidLooks := .later }
def FnExactCoinTextCardSaid : Prop := Claim7.holds Tryd.pinned (.plain (OpenSpec.ofChange fnExactCoinTextSpec)) fnExactCoinTextCard

/-- THE TIED CARD OF 'laws.FnExactChainText'. -/
def fnExactChainTextCard : Claim7 := { stood := { row := fnExactChainTextRow, standIns := [], harness := (true, "775fba09e3f555ae3f5833cc286632f1b0c0ca0a22c75261e2d45cfee6af3853"), looks := false }, kinds := [], alts := [], laidByText := true, laidKinds := [.data, .data, .data], laidTests := true, laidLooks := .later }
def FnExactChainTextCardSaid : Prop := Claim7.holds Tryd.pinned (.plain (OpenSpec.ofChange fnExactChainTextSpec)) fnExactChainTextCard

/-- THE SECOND FORM's CARD OF 'laws.FnExactCoinText'. -/
def fnExactCoinTextUptoCard : Claim7 := { stood := { row := fnExactCoinTextUptoRow, standIns := [], harness := (true, "775fba09e3f555ae3f5833cc286632f1b0c0ca0a22c75261e2d45cfee6af3853"), looks := false }, kinds := [], alts := [], laidByText := true, laidKinds := [.data, .data, .data], laidTests := true, laidLooks := .later }
def FnExactCoinTextUptoCardSaid : Prop := Claim7.holds Tryd.pinned (.plain (OpenSpec.upto fnExactCoinTextSpec)) fnExactCoinTextUptoCard

/-- THE SECOND FORM's CARD OF 'laws.FnExactChainText'. -/
def fnExactChainTextUptoCard : Claim7 := { stood := { row := fnExactChainTextUptoRow, standIns := [], harness := (true, "775fba09e3f555ae3f5833cc286632f1b0c0ca0a22c75261e2d45cfee6af3853"), looks := false }, kinds := [], alts := [], laidByText := true, laidKinds := [.data, .data, .data], laidTests := true, laidLooks := .later }
def FnExactChainTextUptoCardSaid : Prop := Claim7.holds Tryd.pinned (.plain (OpenSpec.upto fnExactChainTextSpec)) fnExactChainTextUptoCard
end Rows
end Go.Proofs.YtnfcfhieocgomaaDoor
