/- Parts of the proof. -/
import Derived.Test.YtobdoblpnanclaaGreatDoorMo21
import Derived.Test.YtobdoblpnanclaaGreatDoorMo15
set_option linter.all false
namespace Go.Proofs.YtobdoblpnanclaaGreatDoor
open Proofs.Tryz Go.RowKit Go.Deep
attribute [local go_sem ↓] Go.wp_at_zero Go.wp_at_succ
theorem zut.mono {M K:Nat} {x:Rat} (h:zut M x) (hk:M<=K):zut K x:=⟨uC h.1 hk,uC h.2 hk⟩
theorem Dz.nlen {e:Nat} {q:Rat} (h:Dz e q):zut (e+1) q:=
 have b:=Dz.short h (Nat.lt_succ_self e)
 ⟨uC (Yw (by omega)) b.1,uC (Yw (by omega)) b.2⟩
end Go.Proofs.YtobdoblpnanclaaGreatDoor
