/- Parts of the proof: short names. -/
import Derived.Test.YthbmhkiphmcogaaGreatDoorRows
import Derived.Below
namespace Go.RowKit
theorem Hid.o {p:Prop} (h:Hid p):p:=h
end Go.RowKit
namespace Go.Proofs
theorem Tryz.zz:True:=trivial
end Go.Proofs
namespace Go.Proofs.YthbmhkiphmcogaaGreatDoor
theorem xST {α:Type}:(∀ (l:List α) (i:Nat) (a:α),l.toArray.setIfInBounds i a=(l.set i a).toArray)∧(∀ (x a:α) (l:List α),(x::l).set 0 a=a::l)∧(∀ (x a:α) (l:List α) (i:Nat),(x::l).set (i+1) a=x::l.set i a):=
 ⟨fun _ _ _=>List.setIfInBounds_toArray ..,fun _ _ _=>rfl,fun _ _ _ _=>rfl⟩
end Go.Proofs.YthbmhkiphmcogaaGreatDoor
