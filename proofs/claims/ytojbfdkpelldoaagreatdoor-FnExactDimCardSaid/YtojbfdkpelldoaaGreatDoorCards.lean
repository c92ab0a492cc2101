/-
  DERIVED. GIVEN WITH THE SEED: THE CARDS: each row of YtojbfdkpelldoaaGreatDoorRows.lean that lists a variable, with what it lists TIED to the program's text (the seventh form; the later family's looks); each row that meets fmt, with fmt's text TOLD by the authors' own Lean function (tested against real Go, not proved from fmt's source: count such statements apart). THE CARD IS WHAT COUNTS. Prove the row's statement (the work); the ties are given (YtojbfdkpelldoaaGreatDoorTie.lean); close each card by the builder's one call (the guide's Derived/Test/ToyasCard.lean, 'card_holds'). Laid BY PROGRAM, IN A SANDBOX (cutbox-door.mjs). By AI agents, Wed Nov 11 2026. No macro, syntax, notation, axiom, sorry.
-/
import Derived.Test.YtojbfdkpelldoaaGreatDoorRows
import GoSem.ClaimSeven
namespace Go.Proofs.YtojbfdkpelldoaaGreatDoor
namespace Rows

/-- THE TIED CARD OF 'laws.FnExactDim'. -/
def fnExactDimCard : Claim7 := { stood := { row := fnExactDimRow, standIns := [], harness := (true, "b082041513ef6e1299622cd995fc47df56fdc726678e10d6de33b2782234c84a"), looks := false }, kinds := [], alts := [], laidByText := true, laidKinds := [.data, .data, .data], laidTests := true, laidLooks := .later }
def FnExactDimCardSaid : Prop := Claim7.holds Tryz.pinned (.plain (OpenSpec.ofChange fnExactDimSpec)) fnExactDimCard

/-- THE SECOND FORM's CARD OF 'laws.FnExactDim'. -/
def fnExactDimUptoCard : Claim7 := { stood := { row := fnExactDimUptoRow, standIns := [], harness := (true, "b082041513ef6e1299622cd995fc47df56fdc726678e10d6de33b2782234c84a"), looks := false }, kinds := [], alts := [], laidByText := true, laidKinds := [.data, .data, .data], laidTests := true, laidLooks := .later }
def FnExactDimUptoCardSaid : Prop := Claim7.holds Tryz.pinned (.plain (OpenSpec.upto fnExactDimSpec)) fnExactDimUptoCard
end Rows
end Go.Proofs.YtojbfdkpelldoaaGreatDoor
