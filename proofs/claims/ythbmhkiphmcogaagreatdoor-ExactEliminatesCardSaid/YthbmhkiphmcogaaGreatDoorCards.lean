/-
  DERIVED. GIVEN WITH THE SEED: THE CARDS: each row of YthbmhkiphmcogaaGreatDoorRows.lean that lists a variable, with what it lists TIED to the program's text (the seventh form; the later family's looks); each row that meets fmt, with fmt's text TOLD by the authors' own Lean function (tested against real Go, not proved from fmt's source: count such statements apart). THE CARD IS WHAT COUNTS. Prove the row's statement (the work); the ties are given (YthbmhkiphmcogaaGreatDoorTie.lean); close each card by the builder's one call (the guide's Derived/Test/ToyasCard.lean, 'card_holds'). Laid BY PROGRAM, IN A SANDBOX (cutbox-door.mjs). By AI agents, Wed Nov 11 2026. No macro, syntax, notation, axiom, sorry.
-/
import Derived.Test.YthbmhkiphmcogaaGreatDoorRows
import GoSem.ClaimSeven
namespace Go.Proofs.YthbmhkiphmcogaaGreatDoor
namespace Rows

/-- THE TIED CARD OF 'underpinlaw01.ExactEliminates'. -/
def exactEliminatesCard : Claim7 := { stood := { row := exactEliminatesRow, standIns := [], harness := (true, "02af5b86ba469a355ca3afc89a94b78fc09dfdcf0f6fabe3c8f2f117d3098c2f"), looks := false }, kinds := [], alts := [], laidByText := true, laidKinds := [.data, .pinned], laidTests := true, laidLooks := .later }
def ExactEliminatesCardSaid : Prop := Claim7.holds Tryz.pinned (.plain (OpenSpec.ofChange exactEliminatesSpec)) exactEliminatesCard

/-- THE SECOND FORM's CARD OF 'underpinlaw01.ExactEliminates'. -/
def exactEliminatesUptoCard : Claim7 := { stood := { row := exactEliminatesUptoRow, standIns := [], harness := (true, "02af5b86ba469a355ca3afc89a94b78fc09dfdcf0f6fabe3c8f2f117d3098c2f"), looks := false }, kinds := [], alts := [], laidByText := true, laidKinds := [.data, .pinned], laidTests := true, laidLooks := .later }
def ExactEliminatesUptoCardSaid : Prop := Claim7.holds Tryz.pinned (.plain (OpenSpec.upto exactEliminatesSpec)) exactEliminatesUptoCard
end Rows
end Go.Proofs.YthbmhkiphmcogaaGreatDoor
