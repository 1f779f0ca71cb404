/-
  DERIVED. GIVEN WITH THE SEED: THE CARDS: each row of YtcgnjpoingikcaaDoorRows.lean that lists a variable, with what it lists TIED to the program's text (the seventh form; the later family's looks); each row that meets fmt, with fmt's text TOLD by the authors' own Lean function (tested against real Go, not proved from fmt's source: count such statements apart). THE CARD IS WHAT COUNTS. Prove the row's statement (the work); the ties are given (YtcgnjpoingikcaaDoorTie.lean); close each card by the builder's one call (the guide's Derived/Test/ToyasCard.lean, 'card_holds'). Laid BY PROGRAM, IN A SANDBOX (cutbox-door.mjs). By AI agents, Wed Nov 11 2026. No macro, syntax, notation, axiom, sorry.
-/
import Derived.Test.YtcgnjpoingikcaaDoorRows
import GoSem.ClaimSeven
namespace Go.Proofs.YtcgnjpoingikcaaDoor
namespace Rows

/-- THE TIED CARD OF 'laws.FnExactFormatDeal'. -/
def fnExactFormatDealCard : Claim7 := { stood := { row := fnExactFormatDealRow, standIns := [], harness := (true, "0a93f144deaa0814dd888fa3a4a64057b600c95316c92f07472783e2aa8aeb59"), looks := false }, kinds := [], alts := [], laidByText := true, laidKinds := [.data, .data, .data], laidTests := true, laidLooks := .later }
def FnExactFormatDealCardSaid : Prop := Claim7.holds Tryd.pinned (.plain (OpenSpec.ofChange fnExactFormatDealSpec)) fnExactFormatDealCard

/-- THE TIED CARD OF 'laws.FnExactFormatDialed'. -/
def fnExactFormatDialedCard : Claim7 := { stood := { row := fnExactFormatDialedRow, standIns := [], harness := (true, "0a93f144deaa0814dd888fa3a4a64057b600c95316c92f07472783e2aa8aeb59"), looks := false }, kinds := [], alts := [], laidByText := true, laidKinds := [.data, .data, .data], laidTests := true, laidLooks := .later }
def FnExactFormatDialedCardSaid : Prop := Claim7.holds Tryd.pinned (.plain (OpenSpec.ofChange fnExactFormatDialedSpec)) fnExactFormatDialedCard

/-- THE TIED CARD OF 'laws.FnExactFormatEnd'. -/
def fnExactFormatEndCard : Claim7 := { stood := { row := fnExactFormatEndRow, standIns := [], harness := (true, "0a93f144deaa0814dd888fa3a4a64057b600c95316c92f07472783e2aa8aeb59"), looks := false }, kinds := [], alts := [], laidByText := true, laidKinds := [.data, .data, .data], laidTests := true, laidLooks := .later }
def FnExactFormatEndCardSaid : Prop := Claim7.holds Tryd.pinned (.plain (OpenSpec.ofChange fnExactFormatEndSpec)) fnExactFormatEndCard

/-- THE SECOND FORM's CARD OF 'laws.FnExactFormatDeal'. -/
def fnExactFormatDealUptoCard : Claim7 := { stood := { row := fnExactFormatDealUptoRow, standIns := [], harness := (true, "0a93f144deaa0814dd888fa3a4a64057b600c95316c92f07472783e2aa8aeb59"), looks := false }, kinds := [], alts := [], laidByText := true, laidKinds := [.data, .data, .data], laidTests := true, laidLooks := .later }
def FnExactFormatDealUptoCardSaid : Prop := Claim7.holds Tryd.pinned (.plain (OpenSpec.upto fnExactFormatDealSpec)) fnExactFormatDealUptoCard

/-- THE SECOND FORM's CARD OF 'laws.FnExactFormatDialed'. -/
def fnExactFormatDialedUptoCard : Claim7 := { stood := { row := fnExactFormatDialedUptoRow, standIns := [], harness := (true, "0a93f144deaa0814dd888fa3a4a64057b600c95316c92f07472783e2aa8aeb59"), looks := false }, kinds := [], alts := [], laidByText := true, laidKinds := [.data, .data, .data], laidTests := true, laidLooks := .later }
def FnExactFormatDialedUptoCardSaid : Prop := Claim7.holds Tryd.pinned (.plain (OpenSpec.upto fnExactFormatDialedSpec)) fnExactFormatDialedUptoCard

/-- THE SECOND FORM's CARD OF 'laws.FnExactFormatEnd'. -/
def fnExactFormatEndUptoCard : Claim7 := { stood := { row := fnExactFormatEndUptoRow, standIns := [], harness := (true, "0a93f144deaa0814dd888fa3a4a64057b600c95316c92f07472783e2aa8aeb59"), looks := false }, kinds := [], alts := [], laidByText := true, laidKinds := [.data, .data, .data], laidTests := true, laidLooks := .later }
def FnExactFormatEndUptoCardSaid : Prop := Claim7.holds Tryd.pinned (.plain (OpenSpec.upto fnExactFormatEndSpec)) fnExactFormatEndUptoCard
end Rows
end Go.Proofs.YtcgnjpoingikcaaDoor
