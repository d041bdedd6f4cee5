/- Parts of the proof: short names. -/
import Derived.Test.YtobdoblpnanclaaGreatDoorRows
import Derived.Below
namespace Go.RowKit
theorem Hid.o {p:Prop} (h:Hid p):p:=h
end Go.RowKit
namespace Go.Proofs
theorem Tryz.zz:True:=trivial
end Go.Proofs
namespace Go.Proofs.YtobdoblpnanclaaGreatDoor
theorem xST {α:Type}:(∀ (l:List α) (i:Nat) (a:α),l.toArray.setIfInBounds i a=(l.set i a).toArray)∧(∀ (x a:α) (l:List α),(x::l).set 0 a=a::l)∧(∀ (x a:α) (l:List α) (i:Nat),(x::l).set (i+1) a=x::l.set i a):=
 ⟨fun _ _ _=>List.setIfInBounds_toArray ..,fun _ _ _=>rfl,fun _ _ _ _=>rfl⟩
theorem uA {n:Nat}:n<=n:=Nat.le_refl n
theorem uB {n:Nat}:0<=n:=Nat.zero_le n
theorem uC {a b c:Nat} (h:a<=b) (k:b<=c):a<=c:=Nat.le_trans h k
theorem uD {α:Type} [BEq α] [LawfulBEq α] {a b:α} (h:a ≠ b):(a == b)=false:=beq_eq_false_iff_ne.2 h
theorem uE {p:Prop} [Decidable p] (h:p):decide p=true:=decide_eq_true h
theorem uF {p:Prop} [Decidable p] (h:¬ p):decide p=false:=decide_eq_false h
theorem uG {p:Prop} [Decidable p] (h:decide p=true):p:=of_decide_eq_true h
theorem uH (n m:Nat):n*m=m*n:=Nat.mul_comm n m
theorem uI {α:Type} {l:List α} (h:l.length=0):l=[]:=List.eq_nil_of_length_eq_zero h
theorem uJ {α:Type} {i:Nat} {l:List α} (h:l.length<=i):l.take i=l:=List.take_of_length_le h
theorem uK {n m k:Nat} (h:n<m) (j:m<=k):n<k:=Nat.lt_of_lt_of_le h j
theorem uL (a b:Nat):a<b∨a>=b:=Nat.lt_or_ge a b
theorem uM {α:Type} {a b:α}:a∈[b]<->a=b:=List.mem_singleton
theorem uN (n:Nat):n=0∨0<n:=Nat.eq_zero_or_pos n
theorem uO {α:Type} {l:List α} {n:Nat} (h:n<l.length):l[n]∈l:=List.getElem_mem h
theorem uP {α:Type} {a:α} {l:List α}:a∈a::l:=List.mem_cons_self
theorem uQ {α:Type} (e:α):∃ z,z=e:=⟨_,rfl⟩
theorem uR {α:Type} (e:α):∃ z,e=z:=⟨_,rfl⟩
end Go.Proofs.YtobdoblpnanclaaGreatDoor
