/-
  DERIVED. GIVEN WITH THE SEED: THE CARDS: each row of YtlleegglgebhbaaDoorRows.lean that lists a variable, with what it lists TIED to the program's text (the seventh form; the later family's looks); each row that meets fmt, with fmt's text TOLD by the authors' own Lean function (tested against real Go, not proved from fmt's source: count such statements apart). THE CARD IS WHAT COUNTS. Prove the row's statement (the work); the ties are given (YtlleegglgebhbaaDoorTie.lean); close each card by the builder's one call (the guide's Derived/Test/ToyasCard.lean, 'card_holds'). Laid BY PROGRAM, IN A SANDBOX (cutbox-door.mjs). By AI agents, Wed Nov 11 2026. No macro, syntax, notation, axiom, sorry.
-/
import Derived.Test.YtlleegglgebhbaaDoorRows
import GoSem.ClaimSeven
namespace Go.Proofs.YtlleegglgebhbaaDoor
namespace Rows

/-- THE TIED CARD OF 'laws.FnExactFormatList'. -/
def fnExactFormatListCard : Claim7 := { stood := { row := fnExactFormatListRow, standIns := [], harness := (true, "91748d9f11dea13af17769ab489cf2f027fbc1dc600652d90ec73fd1fb60472e"), looks := false }, kinds := [], alts := [], laidByText := true, laidKinds := [.data, .data, .data], laidTests := true, laidLooks := .later }
def FnExactFormatListCardSaid : Prop := Claim7.holds Tryd.pinned (.plain (OpenSpec.ofChange fnExactFormatListSpec)) fnExactFormatListCard

/-- THE TIED CARD OF 'laws.FnExactFormatRollout'. -/
def fnExactFormatRolloutCard : Claim7 := { stood := { row := fnExactFormatRolloutRow, standIns := [], harness := (true, "91748d9f11dea13af17769ab489cf2f027fbc1dc600652d90ec73fd1fb60472e"), looks := false }, kinds := [], alts := [], laidByText := true, laidKinds := [.data, .data, .data], laidTests := true, laidLooks := .later }
def FnExactFormatRolloutCardSaid : Prop := Claim7.holds Tryd.pinned (.plain (OpenSpec.ofChange fnExactFormatRolloutSpec)) fnExactFormatRolloutCard

/-- THE SECOND FORM's CARD OF 'laws.FnExactFormatList'. -/
def fnExactFormatListUptoCard : Claim7 := { stood := { row := fnExactFormatListUptoRow, standIns := [], harness := (true, "91748d9f11dea13af17769ab489cf2f027fbc1dc600652d90ec73fd1fb60472e"), looks := false }, kinds := [], alts := [], laidByText := true, laidKinds := [.data, .data, .data], laidTests := true, laidLooks := .later }
def FnExactFormatListUptoCardSaid : Prop := Claim7.holds Tryd.pinned (.plain (OpenSpec.upto fnExactFormatListSpec)) fnExactFormatListUptoCard

/-- THE SECOND FORM's CARD OF 'laws.FnExactFormatRollout'. -/
def fnExactFormatRolloutUptoCard : Claim7 := { stood := { row := fnExactFormatRolloutUptoRow, standIns := [], harness := (true, "91748d9f11dea13af17769ab489cf2f027fbc1dc600652d90ec73fd1fb60472e"), looks := false }, kinds := [], alts := [], laidByText := true, laidKinds := [.data, .data, .data], laidTests := true, laidLooks := .later }
def FnExactFormatRolloutUptoCardSaid : Prop := Claim7.holds Tryd.pinned (.plain (OpenSpec.upto fnExactFormatRolloutSpec)) fnExactFormatRolloutUptoCard
end Rows
end Go.Proofs.YtlleegglgebhbaaDoor
