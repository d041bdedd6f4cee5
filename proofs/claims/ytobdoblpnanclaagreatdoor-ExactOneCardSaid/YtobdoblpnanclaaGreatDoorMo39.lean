/- Parts of the proof. -/
import Derived.Test.YtobdoblpnanclaaGreatDoorMo18
import Derived.Test.YtobdoblpnanclaaGreatDoorMo22
set_option linter.all false
namespace Go.Proofs.YtobdoblpnanclaaGreatDoor
open Proofs.Tryz Go.RowKit Go.Deep
attribute [local go_sem ↓] Go.wp_at_zero Go.wp_at_succ
def hdr (L g:Nat):Value:=.slice (some ⟨g,0,none⟩) L L
section
variable {S:Nat->Prop} {w w' :World} {base L m:Nat} {mv:Value} {g:Nat->Nat} {A:Nat->Nat->Rat}
end
section
variable {w w' :World} {base L m gm cap:Nat} {g:Nat->Nat} {A:Nat->Nat->Rat}
end
section
variable {S:Nat->Prop} {w w' :World} {base n:Nat} {v:Value} {f:Nat->Rat}
end
end Go.Proofs.YtobdoblpnanclaaGreatDoor
