/-
  DERIVED. GIVEN WITH THE SEED: THE CARDS: each row of YtofmkndhocinmaaGreatDoorRows.lean that lists a variable, with what it lists TIED to the program's text (the seventh form; the later family's looks); each row that meets fmt, with fmt's text TOLD by the authors' own Lean function (tested against real Go, not proved from fmt's source: count such statements apart). THE CARD IS WHAT COUNTS. Prove the row's statement (the work); the ties are given (YtofmkndhocinmaaGreatDoorTie.lean); close each card by the builder's one call (the guide's Derived/Test/ToyasCard.lean, 'card_holds'). Laid BY PROGRAM, IN A SANDBOX (cutbox-door.mjs). By AI agents, Wed Nov 11 2026. No macro, syntax, notation, axiom, sorry.
-/
import Derived.Test.YtofmkndhocinmaaGreatDoorRows
import GoSem.ClaimSeven
namespace Go.Proofs.YtofmkndhocinmaaGreatDoor
namespace Rows

/-- THE TIED CARD OF 'underpinlaw01.ExactShadow'. -/
def exactShadowCard : Claim7 := { stood := { row := exactShadowRow, standIns := [], harness := (true, "d390712dcdbd0f547454bd43ef6b28b9657e564b967769c16588969455067c54"), looks := false }, kinds := [], alts := [], laidByText := true, laidKinds := [.data, .pinned], laidTests := true, laidLooks := .later }
def ExactShadowCardSaid : Prop := Claim7.holds Tryz.pinned (.plain (OpenSpec.ofChange exactShadowSpec)) exactShadowCard

/-- THE SECOND FORM's CARD OF 'underpinlaw01.ExactShadow'. -/
def exactShadowUptoCard : Claim7 := { stood := { row := exactShadowUptoRow, standIns := [], harness := (true, "d390712dcdbd0f547454bd43ef6b28b9657e564b967769c16588969455067c54"), looks := false }, kinds := [], alts := [], laidByText := true, laidKinds := [.data, .pinned], laidTests := true, laidLooks := .later }
def ExactShadowUptoCardSaid : Prop := Claim7.holds Tryz.pinned (.plain (OpenSpec.upto exactShadowSpec)) exactShadowUptoCard
end Rows
end Go.Proofs.YtofmkndhocinmaaGreatDoor
