/-
  DERIVED. GIVEN WITH THE SEED: THE CARDS: each row of YtkmcmmcencdcpaaGreatDoorRows.lean that lists a variable, with what it lists TIED to the program's text (the seventh form; the later family's looks); each row that meets fmt, with fmt's text TOLD by the authors' own Lean function (tested against real Go, not proved from fmt's source: count such statements apart). THE CARD IS WHAT COUNTS. Prove the row's statement (the work); the ties are given (YtkmcmmcencdcpaaGreatDoorTie.lean); close each card by the builder's one call (the guide's Derived/Test/ToyasCard.lean, 'card_holds'). Laid BY PROGRAM, IN A SANDBOX (cutbox-door.mjs). By AI agents, Wed Nov 11 2026. No macro, syntax, notation, axiom, sorry.
-/
import Derived.Test.YtkmcmmcencdcpaaGreatDoorRows
import GoSem.ClaimSeven
namespace Go.Proofs.YtkmcmmcencdcpaaGreatDoor
namespace Rows

/-- THE TIED CARD OF 'underpinlaw01.ExactBack'. -/
def exactBackCard : Claim7 := { stood := { row := exactBackRow, standIns := [], harness := (true, "4f05c6c2cfbb880790e89fba6d0fa362360480c0193dfd62978be8304caeb377"), looks := false }, kinds := [], alts := [], laidByText := true, laidKinds := [.data, .pinned], laidTests := true, laidLooks := .later }
def ExactBackCardSaid : Prop := Claim7.holds Tryz.pinned (.plain (OpenSpec.ofChange exactBackSpec)) exactBackCard

/-- THE TIED CARD OF 'underpinlaw01.ExactSums'. -/
def exactSumsCard : Claim7 := { stood := { row := exactSumsRow, standIns := [], harness := (true, "4f05c6c2cfbb880790e89fba6d0fa362360480c0193dfd62978be8304caeb377"), looks := false }, kinds := [], alts := [], laidByText := true, laidKinds := [.data, .pinned], laidTests := true, laidLooks := .later }
def ExactSumsCardSaid : Prop := Claim7.holds Tryz.pinned (.plain (OpenSpec.ofChange exactSumsSpec)) exactSumsCard

/-- THE TIED CARD OF 'underpinlaw01.ExactEliminates'. -/
def exactEliminatesCard : Claim7 := { stood := { row := exactEliminatesRow, standIns := [], harness := (true, "4f05c6c2cfbb880790e89fba6d0fa362360480c0193dfd62978be8304caeb377"), looks := false }, kinds := [], alts := [], laidByText := true, laidKinds := [.data, .pinned], laidTests := true, laidLooks := .later }
def ExactEliminatesCardSaid : Prop := Claim7.holds Tryz.pinned (.plain (OpenSpec.ofChange exactEliminatesSpec)) exactEliminatesCard

/-- THE TIED CARD OF 'underpinlaw01.ExactVerifies'. -/
def exactVerifiesCard : Claim7 := { stood := { row := exactVerifiesRow, standIns := [], harness := (true, "4f05c6c2cfbb880790e89fba6d0fa362360480c0193dfd62978be8304caeb377"), looks := false }, kinds := [], alts := [], laidByText := true, laidKinds := [.data, .pinned], laidTests := true, laidLooks := .later }
def ExactVerifiesCardSaid : Prop := Claim7.holds Tryz.pinned (.plain (OpenSpec.ofChange exactVerifiesSpec)) exactVerifiesCard

/-- THE TIED CARD OF 'underpinlaw01.ExactShadow'. -/
def exactShadowCard : Claim7 := { stood := { row := exactShadowRow, standIns := [], harness := (true, "4f05c6c2cfbb880790e89fba6d0fa362360480c0193dfd62978be8304caeb377"), looks := false }, kinds := [], alts := [], laidByText := true, laidKinds := [.data, .pinned], laidTests := true, laidLooks := .later }
def ExactShadowCardSaid : Prop := Claim7.holds Tryz.pinned (.plain (OpenSpec.ofChange exactShadowSpec)) exactShadowCard

/-- THE SECOND FORM's CARD OF 'underpinlaw01.ExactBack'. -/
def exactBackUptoCard : Claim7 := { stood := { row := exactBackUptoRow, standIns := [], harness := (true, "4f05c6c2cfbb880790e89fba6d0fa362360480c0193dfd62978be8304caeb377"), looks := false }, kinds := [], alts := [], laidByText := true, laidKinds := [.data, .pinned], laidTests := true, laidLooks := .later }
def ExactBackUptoCardSaid : Prop := Claim7.holds Tryz.pinned (.plain (OpenSpec.upto exactBackSpec)) exactBackUptoCard

/-- THE SECOND FORM's CARD OF 'underpinlaw01.ExactSums'. -/
def exactSumsUptoCard : Claim7 := { stood := { row := exactSumsUptoRow, standIns := [], harness := (true, "4f05c6c2cfbb880790e89fba6d0fa362360480c0193dfd62978be8304caeb377"), looks := false }, kinds := [], alts := [], laidByText := true, laidKinds := [.data, .pinned], laidTests := true, laidLooks := .later }
def ExactSumsUptoCardSaid : Prop := Claim7.holds Tryz.pinned (.plain (OpenSpec.upto exactSumsSpec)) exactSumsUptoCard

/-- THE SECOND FORM's CARD OF 'underpinlaw01.ExactEliminates'. -/
def exactEliminatesUptoCard : Claim7 := { stood := { row := exactEliminatesUptoRow, standIns := [], harness := (true, "4f05c6c2cfbb880790e89fba6d0fa362360480c0193dfd62978be8304caeb377"), looks := false }, kinds := [], alts := [], laidByText := true, laidKinds := [.data, .pinned], laidTests := true, laidLooks := .later }
def ExactEliminatesUptoCardSaid : Prop := Claim7.holds Tryz.pinned (.plain (OpenSpec.upto exactEliminatesSpec)) exactEliminatesUptoCard

/-- THE SECOND FORM's CARD OF 'underpinlaw01.ExactVerifies'. -/
def exactVerifiesUptoCard : Claim7 := { stood := { row := exactVerifiesUptoRow, standIns := [], harness := (true, "4f05c6c2cfbb880790e89fba6d0fa362360480c0193dfd62978be8304caeb377"), looks := false }, kinds := [], alts := [], laidByText := true, laidKinds := [.data, .pinned], laidTests := true, laidLooks := .later }
def ExactVerifiesUptoCardSaid : Prop := Claim7.holds Tryz.pinned (.plain (OpenSpec.upto exactVerifiesSpec)) exactVerifiesUptoCard

/-- THE SECOND FORM's CARD OF 'underpinlaw01.ExactShadow'. -/
def exactShadowUptoCard : Claim7 := { stood := { row := exactShadowUptoRow, standIns := [], harness := (true, "4f05c6c2cfbb880790e89fba6d0fa362360480c0193dfd62978be8304caeb377"), looks := false }, kinds := [], alts := [], laidByText := true, laidKinds := [.data, .pinned], laidTests := true, laidLooks := .later }
def ExactShadowUptoCardSaid : Prop := Claim7.holds Tryz.pinned (.plain (OpenSpec.upto exactShadowSpec)) exactShadowUptoCard
end Rows
end Go.Proofs.YtkmcmmcencdcpaaGreatDoor
