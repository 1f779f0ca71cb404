/-
  DERIVED. GIVEN WITH THE SEED: THE CARDS: each row of YtncobgjmochecaaDoorRows.lean that lists a variable, with what it lists TIED to the program's text (the seventh form; the later family's looks); each row that meets fmt, with fmt's text TOLD by the authors' own Lean function (tested against real Go, not proved from fmt's source: count such statements apart). THE CARD IS WHAT COUNTS. Prove the row's statement (the work); the ties are given (YtncobgjmochecaaDoorTie.lean); close each card by the builder's one call (the guide's Derived/Test/ToyasCard.lean, 'card_holds'). Laid BY PROGRAM, IN A SANDBOX (cutbox-door.mjs). By AI agents, Wed Nov 11 2026. No macro, syntax, notation, axiom, sorry.
-/
import Derived.Test.YtncobgjmochecaaDoorRows
import GoSem.ClaimSeven
namespace Go.Proofs.YtncobgjmochecaaDoor
namespace Rows

/-- THE TIED CARD OF 'laws.FnExactFormatList'. -/
def fnExactFormatListCard : Claim7 := { stood := { row := fnExactFormatListRow, standIns := [], harness := (true, "8698a97e022d717d2b6d1636e325e6f7d9898f88130997db1b7ad7ed42390a1f"), looks := false }, kinds := [], alts := [], laidByText := true, laidKinds := [.data, .data, .data], laidTests := true, laidLooks := .later }
def FnExactFormatListCardSaid : Prop := Claim7.holds Tryd.pinned (.plain (OpenSpec.ofChange fnExactFormatListSpec)) fnExactFormatListCard

/-- THE TIED CARD OF 'laws.FnExactFormatDialed'. -/
def fnExactFormatDialedCard : Claim7 := { stood := { row := fnExactFormatDialedRow, standIns := [], harness := (true, "8698a97e022d717d2b6d1636e325e6f7d9898f88130997db1b7ad7ed42390a1f"), looks := false }, kinds := [], alts := [], laidByText := true, laidKinds := [.data, .data, .data], laidTests := true, laidLooks := .later }
def FnExactFormatDialedCardSaid : Prop := Claim7.holds Tryd.pinned (.plain (OpenSpec.ofChange fnExactFormatDialedSpec)) fnExactFormatDialedCard

/-- THE SECOND FORM's CARD OF 'laws.FnExactFormatList'. -/
def fnExactFormatListUptoCard : Claim7 := { stood := { row := fnExactFormatListUptoRow, standIns := [], harness := (true, "8698a97e022d717d2b6d1636e325e6f7d9898f88130997db1b7ad7ed42390a1f"), looks := false }, kinds := [], alts := [], laidByText := true, laidKinds := [.data, .data, .data], laidTests := true, laidLooks := .later }
def FnExactFormatListUptoCardSaid : Prop := Claim7.holds Tryd.pinned (.plain (OpenSpec.upto fnExactFormatListSpec)) fnExactFormatListUptoCard

/-- THE SECOND FORM's CARD OF 'laws.FnExactFormatDialed'. -/
def fnExactFormatDialedUptoCard : Claim7 := { stood := { row := fnExactFormatDialedUptoRow, standIns := [], harness := (true, "8698a97e022d717d2b6d1636e325e6f7d9898f88130997db1b7ad7ed42390a1f"), looks := false }, kinds := [], alts := [], laidByText := true, laidKinds := [.data, .data, .data], laidTests := true, laidLooks := .later }
def FnExactFormatDialedUptoCardSaid : Prop := Claim7.holds Tryd.pinned (.plain (OpenSpec.upto fnExactFormatDialedSpec)) fnExactFormatDialedUptoCard
end Rows
end Go.Proofs.YtncobgjmochecaaDoor
