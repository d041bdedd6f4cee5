/- Parts of the proof. -/
import Derived.Test.YthbmhkiphmcogaaGreatDoorMe31
import Derived.Test.YthbmhkiphmcogaaGreatDoorMe42
set_option linter.all false
namespace Go.Proofs.YthbmhkiphmcogaaGreatDoor
open Proofs.Tryz Go.RowKit Go.Deep
attribute [local go_sem ↓] Go.wp_at_zero Go.wp_at_succ
def zyc (w:World) (v:Value) (e:Ending) (w' :World):Prop:=e= .returned v/\∃ m,w' =w.drewN m
theorem xK.names {l:List zQ} (h:xK l):(yg (l.map (·.terms))).length<=400:=by
 rw [zkj];exact h.2.2.1
theorem znm (rows:List zQ):(vS rows []).length<=(yg (rows.map (·.terms))).length:=ZE _
end Go.Proofs.YthbmhkiphmcogaaGreatDoor
