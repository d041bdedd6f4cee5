/-
  DERIVED. GIVEN WITH THE SEED: THE CARDS: each row of YtobdoblpnanclaaGreatDoorRows.lean that lists a variable, with what it lists TIED to the program's text (the seventh form; the later family's looks); each row that meets fmt, with fmt's text TOLD by the authors' own Lean function (tested against real Go, not proved from fmt's source: count such statements apart). THE CARD IS WHAT COUNTS. Prove the row's statement (the work); the ties are given (YtobdoblpnanclaaGreatDoorTie.lean); close each card by the builder's one call (the guide's Derived/Test/ToyasCard.lean, 'card_holds'). Laid BY PROGRAM, IN A SANDBOX (cutbox-door.mjs). By AI agents, Wed Nov 11 2026. No macro, syntax, notation, axiom, sorry.
-/
import Derived.Test.YtobdoblpnanclaaGreatDoorRows
import GoSem.ClaimSeven
namespace Go.Proofs.YtobdoblpnanclaaGreatDoor
namespace Rows

/-- THE TIED CARD OF 'underpinlaw01.ExactOne'. -/
def exactOneCard : Claim7 := { stood := { row := exactOneRow, standIns := [], harness := (true, "0fff7ef96726a6fd65036369f08e75e2411efa13ea43ca31894150697d003cfd"), looks := false }, kinds := [], alts := [], laidByText := true, laidKinds := [.data, .pinned], laidTests := true, laidLooks := .later }
def ExactOneCardSaid : Prop := Claim7.holds Tryz.pinned (.plain (OpenSpec.ofChange exactOneSpec)) exactOneCard

/-- THE SECOND FORM's CARD OF 'underpinlaw01.ExactOne'. -/
def exactOneUptoCard : Claim7 := { stood := { row := exactOneUptoRow, standIns := [], harness := (true, "0fff7ef96726a6fd65036369f08e75e2411efa13ea43ca31894150697d003cfd"), looks := false }, kinds := [], alts := [], laidByText := true, laidKinds := [.data, .pinned], laidTests := true, laidLooks := .later }
def ExactOneUptoCardSaid : Prop := Claim7.holds Tryz.pinned (.plain (OpenSpec.upto exactOneSpec)) exactOneUptoCard
end Rows
end Go.Proofs.YtobdoblpnanclaaGreatDoor
