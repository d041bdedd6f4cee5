/-
  DERIVED. GIVEN WITH THE SEED: THE CARDS: each row of YtnmkalocbfdecaaGreatDoorRows.lean that lists a variable, with what it lists TIED to the program's text (the seventh form; the later family's looks); each row that meets fmt, with fmt's text TOLD by the authors' own Lean function (tested against real Go, not proved from fmt's source: count such statements apart). THE CARD IS WHAT COUNTS. Prove the row's statement (the work); the ties are given (YtnmkalocbfdecaaGreatDoorTie.lean); close each card by the builder's one call (the guide's Derived/Test/ToyasCard.lean, 'card_holds'). Laid BY PROGRAM, IN A SANDBOX (cutbox-door.mjs). By AI agents, Wed Nov 11 2026. No macro, syntax, notation, axiom, sorry.
-/
import Derived.Test.YtnmkalocbfdecaaGreatDoorRows
import GoSem.ClaimSeven
namespace Go.Proofs.YtnmkalocbfdecaaGreatDoor
namespace Rows

/-- THE TIED CARD OF 'underpinlaw01.ExactReckons'. -/
def exactReckonsCard : Claim7 := { stood := { row := exactReckonsRow, standIns := [], harness := (true, "30ae7730b51eca365f93c47c1ac6470153e16418ded63ecadea5b6cdf16fc7d6"), looks := false }, kinds := [], alts := [], laidByText := true, laidKinds := [.data, .pinned], laidTests := true, laidLooks := .later }
def ExactReckonsCardSaid : Prop := Claim7.holds Tryz.pinned (.plain (OpenSpec.ofChange exactReckonsSpec)) exactReckonsCard

/-- THE TIED CARD OF 'underpinlaw01.ExactArithmetic'. -/
def exactArithmeticCard : Claim7 := { stood := { row := exactArithmeticRow, standIns := [], harness := (true, "30ae7730b51eca365f93c47c1ac6470153e16418ded63ecadea5b6cdf16fc7d6"), looks := false }, kinds := [], alts := [], laidByText := true, laidKinds := [.data, .pinned], laidTests := true, laidLooks := .later }
def ExactArithmeticCardSaid : Prop := Claim7.holds Tryz.pinned (.plain (OpenSpec.ofChange exactArithmeticSpec)) exactArithmeticCard

/-- THE TIED CARD OF 'underpinlaw01.ExactDecimals'. -/
def exactDecimalsCard : Claim7 := { stood := { row := exactDecimalsRow, standIns := [], harness := (true, "30ae7730b51eca365f93c47c1ac6470153e16418ded63ecadea5b6cdf16fc7d6"), looks := false }, kinds := [], alts := [], laidByText := true, laidKinds := [.data, .pinned], laidTests := true, laidLooks := .later }
def ExactDecimalsCardSaid : Prop := Claim7.holds Tryz.pinned (.plain (OpenSpec.ofChange exactDecimalsSpec)) exactDecimalsCard

/-- THE TIED CARD OF 'underpinlaw01.ExactNumbers'. -/
def exactNumbersCard : Claim7 := { stood := { row := exactNumbersRow, standIns := [], harness := (true, "30ae7730b51eca365f93c47c1ac6470153e16418ded63ecadea5b6cdf16fc7d6"), looks := false }, kinds := [], alts := [], laidByText := true, laidKinds := [.data, .pinned], laidTests := true, laidLooks := .later }
def ExactNumbersCardSaid : Prop := Claim7.holds Tryz.pinned (.plain (OpenSpec.ofChange exactNumbersSpec)) exactNumbersCard

/-- THE SECOND FORM's CARD OF 'underpinlaw01.ExactReckons'. -/
def exactReckonsUptoCard : Claim7 := { stood := { row := exactReckonsUptoRow, standIns := [], harness := (true, "30ae7730b51eca365f93c47c1ac6470153e16418ded63ecadea5b6cdf16fc7d6"), looks := false }, kinds := [], alts := [], laidByText := true, laidKinds := [.data, .pinned], laidTests := true, laidLooks := .later }
def ExactReckonsUptoCardSaid : Prop := Claim7.holds Tryz.pinned (.plain (OpenSpec.upto exactReckonsSpec)) exactReckonsUptoCard

/-- THE SECOND FORM's CARD OF 'underpinlaw01.ExactArithmetic'. -/
def exactArithmeticUptoCard : Claim7 := { stood := { row := exactArithmeticUptoRow, standIns := [], harness := (true, "30ae7730b51eca365f93c47c1ac6470153e16418ded63ecadea5b6cdf16fc7d6"), looks := false }, kinds := [], alts := [], laidByText := true, laidKinds := [.data, .pinned], laidTests := true, laidLooks := .later }
def ExactArithmeticUptoCardSaid : Prop := Claim7.holds Tryz.pinned (.plain (OpenSpec.upto exactArithmeticSpec)) exactArithmeticUptoCard

/-- THE SECOND FORM's CARD OF 'underpinlaw01.ExactDecimals'. -/
def exactDecimalsUptoCard : Claim7 := { stood := { row := exactDecimalsUptoRow, standIns := [], harness := (true, "30ae7730b51eca365f93c47c1ac6470153e16418ded63ecadea5b6cdf16fc7d6"), looks := false }, kinds := [], alts := [], laidByText := true, laidKinds := [.data, .pinned], laidTests := true, laidLooks := .later }
def ExactDecimalsUptoCardSaid : Prop := Claim7.holds Tryz.pinned (.plain (OpenSpec.upto exactDecimalsSpec)) exactDecimalsUptoCard

/-- THE SECOND FORM's CARD OF 'underpinlaw01.ExactNumbers'. -/
def exactNumbersUptoCard : Claim7 := { stood := { row := exactNumbersUptoRow, standIns := [], harness := (true, "30ae7730b51eca365f93c47c1ac6470153e16418ded63ecadea5b6cdf16fc7d6"), looks := false }, kinds := [], alts := [], laidByText := true, laidKinds := [.data, .pinned], laidTests := true, laidLooks := .later }
def ExactNumbersUptoCardSaid : Prop := Claim7.holds Tryz.pinned (.plain (OpenSpec.upto exactNumbersSpec)) exactNumbersUptoCard
end Rows
end Go.Proofs.YtnmkalocbfdecaaGreatDoor
