/-
  DERIVED. GIVEN WITH THE SEED: THE CARDS: each row of YtojbfdkpelldoaaDoorRows.lean that lists a variable, with what it lists TIED to the program's text (the seventh form; the later family's looks); each row that meets fmt, with fmt's text TOLD by the authors' own Lean function (tested against real Go, not proved from fmt's source: count such statements apart). THE CARD IS WHAT COUNTS. Prove the row's statement (the work); the ties are given (YtojbfdkpelldoaaDoorTie.lean); close each card by the builder's one call (the guide's Derived/Test/ToyasCard.lean, 'card_holds'). Laid BY PROGRAM, IN A SANDBOX (cutbox-door.mjs). By AI agents, Wed Nov 11 2026. No macro, syntax, notation, axiom, sorry.
-/
import Derived.Test.YtojbfdkpelldoaaDoorRows
import GoSem.ClaimSeven
namespace Go.Proofs.YtojbfdkpelldoaaDoor
namespace Rows

/-- THE TIED CARD OF 'laws.FnExactQText'. -/
def fnExactQTextCard : Claim7 := { stood := { row := fnExactQTextRow, standIns := [], harness := (true, "0b4fa56a8499d59a593cc078486ccf49251f0d733bc15ef15fd25763585898fc"), looks := false }, kinds := [], alts := [], laidByText := true, laidKinds := [.data, .data, .data], laidTests := true, laidLooks := .later }
def FnExactQTextCardSaid : Prop := Claim7.holds Tryd.pinned (.plain (OpenSpec.ofChange fnExactQTextSpec)) fnExactQTextCard

/-- THE SECOND FORM's CARD OF 'laws.FnExactQText'. -/
def fnExactQTextUptoCard : Claim7 := { stood := { row := fnExactQTextUptoRow, standIns := [], harness := (true, "0b4fa56a8499d59a593cc078486ccf49251f0d733bc15ef15fd25763585898fc"), looks := false }, kinds := [], alts := [], laidByText := true, laidKinds := [.data, .data, .data], laidTests := true, laidLooks := .later }
def FnExactQTextUptoCardSaid : Prop := Claim7.holds Tryd.pinned (.plain (OpenSpec.upto fnExactQTextSpec)) fnExactQTextUptoCard
end Rows
end Go.Proofs.YtojbfdkpelldoaaDoor
