/-
  DERIVED. GIVEN WITH THE SEED: THE CARDS: each row of YtlpegpmcnimfbaaDoorRows.lean that lists a variable, with what it lists TIED to the program's text (the seventh form; the later family's looks); each row that meets fmt, with fmt's text TOLD by the authors' own Lean function (tested against real Go, not proved from fmt's source: count such statements apart). THE CARD IS WHAT COUNTS. Prove the row's statement (the work); the ties are given (YtlpegpmcnimfbaaDoorTie.lean); close each card by the builder's one call (the guide's Derived/Test/ToyasCard.lean, 'card_holds'). Laid BY PROGRAM, IN A SANDBOX (cutbox-door.mjs). By AI agents, Wed Nov 11 2026. No macro, syntax, notation, axiom, sorry.
-/
import Derived.Test.YtlpegpmcnimfbaaDoorRows
import GoSem.ClaimSeven
namespace Go.Proofs.YtlpegpmcnimfbaaDoor
namespace Rows

/-- THE TIED CARD OF 'laws.FnExactStatesText'. -/
def fnExactStatesTextCard : Claim7 := { stood := { row := fnExactStatesTextRow, standIns := [], harness := (true, "8bf2720a1677cc05acb4db4176ffe5a7ab06c38dcb1b06de5d0fb6f185cf894c"), looks := true }, kinds := [], alts := [], laidByText := true, laidKinds := [.data, .data, .data], laidTests := true, laidLooks := .later }
def FnExactStatesTextCardSaid : Prop := Claim7.holds Tryd.pinned (.plain (OpenSpec.ofChange fnExactStatesTextSpec)) fnExactStatesTextCard

/-- THE TIED CARD OF 'laws.FnExactParseCoin'. -/
def fnExactParseCoinCard : Claim7 := { stood := { row := fnExactParseCoinRow, standIns := [], harness := (true, "8bf2720a1677cc05acb4db4176ffe5a7ab06c38dcb1b06de5d0fb6f185cf894c"), looks := true }, kinds := [], alts := [], laidByText := true, laidKinds := [.data, .data, .data, .data, .sentinel, .sentinel, .pinned], laidTests := true, laidLooks := .later }
def FnExactParseCoinCardSaid : Prop := Claim7.holds Tryd.pinned (.plain (OpenSpec.ofChange fnExactParseCoinSpec)) fnExactParseCoinCard

/-- THE TIED CARD OF 'laws.FnExactParseChain'. -/
def fnExactParseChainCard : Claim7 := { stood := { row := fnExactParseChainRow, standIns := [], harness := (true, "8bf2720a1677cc05acb4db4176ffe5a7ab06c38dcb1b06de5d0fb6f185cf894c"), looks := true }, kinds := [], alts := [], laidByText := true, laidKinds := [.data, .data, .data, .data, .sentinel, .sentinel, .pinned], laidTests := true, laidLooks := .later }
def FnExactParseChainCardSaid : Prop := Claim7.holds Tryd.pinned (.plain (OpenSpec.ofChange fnExactParseChainSpec)) fnExactParseChainCard

/-- THE TIED CARD OF 'laws.FnExactParseStates'. -/
def fnExactParseStatesCard : Claim7 := { stood := { row := fnExactParseStatesRow, standIns := [], harness := (true, "8bf2720a1677cc05acb4db4176ffe5a7ab06c38dcb1b06de5d0fb6f185cf894c"), looks := true }, kinds := [], alts := [], laidByText := true, laidKinds := [.data, .data, .data, .data, .sentinel, .sentinel, .pinned], laidTests := true, laidLooks := .later }
def FnExactParseStatesCardSaid : Prop := Claim7.holds Tryd.pinned (.plain (OpenSpec.ofChange fnExactParseStatesSpec)) fnExactParseStatesCard

/-- THE SECOND FORM's CARD OF 'laws.FnExactStatesText'. -/
def fnExactStatesTextUptoCard : Claim7 := { stood := { row := fnExactStatesTextUptoRow, standIns := [], harness := (true, "8bf2720a1677cc05acb4db4176ffe5a7ab06c38dcb1b06de5d0fb6f185cf894c"), looks := true }, kinds := [], alts := [], laidByText := true, laidKinds := [.data, .data, .data], laidTests := true, laidLooks := .later }
def FnExactStatesTextUptoCardSaid : Prop := Claim7.holds Tryd.pinned (.plain (OpenSpec.upto fnExactStatesTextSpec)) fnExactStatesTextUptoCard

/-- THE SECOND FORM's CARD OF 'laws.FnExactParseCoin'. -/
def fnExactParseCoinUptoCard : Claim7 := { stood := { row := fnExactParseCoinUptoRow, standIns := [], harness := (true, "8bf2720a1677cc05acb4db4176ffe5a7ab06c38dcb1b06de5d0fb6f185cf894c"), looks := true }, kinds := [], alts := [], laidByText := true, laidKinds := [.data, .data, .data, .data, .sentinel, .sentinel, .pinned], laidTests := true, laidLooks := .later }
def FnExactParseCoinUptoCardSaid : Prop := Claim7.holds Tryd.pinned (.plain (OpenSpec.upto fnExactParseCoinSpec)) fnExactParseCoinUptoCard

/-- THE SECOND FORM's CARD OF 'laws.FnExactParseChain'. -/
def fnExactParseChainUptoCard : Claim7 := { stood := { row := fnExactParseChainUptoRow, standIns := [], harness := (true, "8bf2720a1677cc05acb4db4176ffe5a7ab06c38dcb1b06de5d0fb6f185cf894c"), looks := true }, kinds := [], alts := [], laidByText := true, laidKinds := [.data, .data, .data, .data, .sentinel, .sentinel, .pinned], laidTests := true, laidLooks := .later }
def FnExactParseChainUptoCardSaid : Prop := Claim7.holds Tryd.pinned (.plain (OpenSpec.upto fnExactParseChainSpec)) fnExactParseChainUptoCard

/-- THE SECOND FORM's CARD OF 'laws.FnExactParseStates'. -/
def fnExactParseStatesUptoCard : Claim7 := { stood := { row := fnExactParseStatesUptoRow, standIns := [], harness := (true, "8bf2720a1677cc05acb4db4176ffe5a7ab06c38dcb1b06de5d0fb6f185cf894c"), looks := true }, kinds := [], alts := [], laidByText := true, laidKinds := [.data, .data, .data, .data, .sentinel, .sentinel, .pinned], laidTests := true, laidLooks := .later }
def FnExactParseStatesUptoCardSaid : Prop := Claim7.holds Tryd.pinned (.plain (OpenSpec.upto fnExactParseStatesSpec)) fnExactParseStatesUptoCard
end Rows
end Go.Proofs.YtlpegpmcnimfbaaDoor
