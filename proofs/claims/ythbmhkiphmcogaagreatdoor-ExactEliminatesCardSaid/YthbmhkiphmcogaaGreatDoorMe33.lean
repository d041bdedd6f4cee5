/- Parts of the proof. -/
import Derived.Shelf.Strings.BuilderF
import Derived.Shelf.Strings.BuilderK
import Derived.Test.YthbmhkiphmcogaaGreatDoorMe23
import Derived.Test.YthbmhkiphmcogaaGreatDoorMe31
set_option linter.all false
namespace Go.Proofs.YthbmhkiphmcogaaGreatDoor
open Proofs.Tryz Go.RowKit Go.Deep
attribute [local go_sem ↓] Go.wp_at_zero Go.wp_at_succ
def X6 (t:zR):List UInt8:=t.coef ++ [32] ++ t.name ++ [32]
def xt (l:List zR):List UInt8:=l.flatMap X6
def YJ (r:zQ):List UInt8:=xt r.terms ++ ([60,61,32] ++ r.bound ++ [10])
def YG (l:List zQ):List UInt8:=l.flatMap YJ
theorem zgt {α:Type} (f:α->List UInt8) (l:List α) (i:Nat) (h:i<l.length):(l.take (i+1)).flatMap f=(l.take i).flatMap f ++ f l[i]:=by
 rw [List.take_add_one,List.getElem?_eq_getElem h,List.flatMap_append]
 simp
theorem zhy {α:Type} (f:α->List UInt8) (l:List α) (i:Nat):((l.take i).flatMap f).length<=(l.flatMap f).length:=by
 conv=>rhs;rw [<- List.take_append_drop i l,List.flatMap_append,List.length_append]
 omega
end Go.Proofs.YthbmhkiphmcogaaGreatDoor
