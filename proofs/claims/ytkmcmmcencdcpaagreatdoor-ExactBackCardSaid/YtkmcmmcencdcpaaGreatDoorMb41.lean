/- Parts of the proof: memory, numbers, walks of the functions that are called. -/
import Derived.Test.YtkmcmmcencdcpaaGreatDoorMb26
import Derived.Test.YtkmcmmcencdcpaaGreatDoorMb40
set_option linter.unusedVariables false
set_option linter.unusedSimpArgs false
namespace Go.Proofs.YtkmcmmcencdcpaaGreatDoor
open Go.RowKit Go.Deep
attribute [local go_sem ↓] Go.wp_at_zero Go.wp_at_succ
theorem xT.names {l:List yv} (h:xT l):(zY (l.map (·.terms))).length<=400:=by
 rw [zck];exact h.2.2.1
theorem zeb (rows:List yv):(yJ rows []).length<=(zY (rows.map (·.terms))).length:=YB _
end Go.Proofs.YtkmcmmcencdcpaaGreatDoor
