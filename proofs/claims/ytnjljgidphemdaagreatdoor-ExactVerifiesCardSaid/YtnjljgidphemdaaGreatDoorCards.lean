/-
  DERIVED. GIVEN WITH THE SEED: THE CARDS: each row of YtnjljgidphemdaaGreatDoorRows.lean that lists a variable, with what it lists TIED to the program's text (the seventh form; the later family's looks); each row that meets fmt, with fmt's text TOLD by the authors' own Lean function (tested against real Go, not proved from fmt's source: count such statements apart). THE CARD IS WHAT COUNTS. Prove the row's statement (the work); the ties are given (YtnjljgidphemdaaGreatDoorTie.lean); close each card by the builder's one call (the guide's Derived/Test/ToyasCard.lean, 'card_holds'). Laid BY PROGRAM, IN A SANDBOX (cutbox-door.mjs). By AI agents, Wed Nov 11 2026. No macro, syntax, notation, axiom, sorry.
-/
import Derived.Test.YtnjljgidphemdaaGreatDoorRows
import GoSem.ClaimSeven
namespace Go.Proofs.YtnjljgidphemdaaGreatDoor
namespace Rows

/-- THE TIED CARD OF 'underpinlaw01.ExactVerifies'. -/
def exactVerifiesCard : Claim7 := { stood := { row := exactVerifiesRow, standIns := [], harness := (true, "f175ea0aaea5456f4b0321e6843a68abf9346c616e7751b865ffb1bd1d783e4b"), looks := false }, kinds := [], alts := [], laidByText := true, laidKinds := [.data, .pinned], laidTests := true, laidLooks := .later }
def ExactVerifiesCardSaid : Prop := Claim7.holds Tryz.pinned (.plain (OpenSpec.ofChange exactVerifiesSpec)) exactVerifiesCard

/-- THE SECOND FORM's CARD OF 'underpinlaw01.ExactVerifies'. -/
def exactVerifiesUptoCard : Claim7 := { stood := { row := exactVerifiesUptoRow, standIns := [], harness := (true, "f175ea0aaea5456f4b0321e6843a68abf9346c616e7751b865ffb1bd1d783e4b"), looks := false }, kinds := [], alts := [], laidByText := true, laidKinds := [.data, .pinned], laidTests := true, laidLooks := .later }
def ExactVerifiesUptoCardSaid : Prop := Claim7.holds Tryz.pinned (.plain (OpenSpec.upto exactVerifiesSpec)) exactVerifiesUptoCard
end Rows
end Go.Proofs.YtnjljgidphemdaaGreatDoor
