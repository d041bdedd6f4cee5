/- Parts of the proof. -/
import Derived.Test.YtobdoblpnanclaaGreatDoorMo25
import Derived.Test.YtobdoblpnanclaaGreatDoorMo29
set_option linter.all false
namespace Go.Proofs.YtobdoblpnanclaaGreatDoor
open Proofs.Tryz Go.RowKit Go.Deep
attribute [local go_sem ↓] Go.wp_at_zero Go.wp_at_succ
def zel (rows:List zS) (ws:Nat->Rat):Nat->List (List UInt8)
 | 0=>[]
 | n+1=>if ws n=0 then zel rows ws n else zel rows ws n ++ (rows.getD n default).terms.map (·.name)
def Yq (rows:List zS) (ws:Nat->Rat) (s:List UInt8):Nat->Rat
 | 0=>0
 | n+1=>if ws n=0 then Yq rows ws s n else Yq rows ws s n+Zq (rows.getD n default).terms s*ws n
end Go.Proofs.YtobdoblpnanclaaGreatDoor
