/- Parts of the proof. -/
import Derived.Test.YthbmhkiphmcogaaGreatDoorMe33
import Derived.Test.YthbmhkiphmcogaaGreatDoorMe43
set_option linter.all false
namespace Go.Proofs.YthbmhkiphmcogaaGreatDoor
open Proofs.Tryz Go.RowKit Go.Deep
attribute [local go_sem ↓] Go.wp_at_zero Go.wp_at_succ
theorem zqd (s:ByteArray) (l:List UInt8) (h:s.data.toList=l):Value.string s=str l:=by
 subst h
 cases s
 rfl
def WtnR (w0:World) (rows:List zQ) (ov iv:Value) (wr:World):Prop:=
 ∃ i:Nat,i<=rows.length/\ov=str (YG (rows.take i))/\iv= .int .i64 i/\∃ m,wr=w0.drewN m
def WtnK (w0:World) (l0:List UInt8) (terms:List zR) (ov kv:Value) (wr:World):Prop:=
 ∃ k:Nat,k<=terms.length/\ov=str (l0 ++ xt (terms.take k))/\kv= .int .i64 k/\∃ m,wr=w0.drewN m
set_option maxRecDepth 100000 in
set_option maxHeartbeats 4000000 in
theorem zkd (A:Option Addr) (n c B:Nat) (rows:List zQ) (w:World) (hr:zT w B (.slice A n c) rows) (htx:(YG rows).length<=1000000000000):
 Calls Tryz.prog 8 #[.slice A n c] w (zyc w (str (YG rows))):=by
 have ac:rows.length<=100000:=by obtain ⟨_,_,_,_,_,_,h,_⟩:=id hr;exact h
 obtain rfl:=hr.len
 have Y:=ze hr
 have T:=ze htx
 clear hr htx
 go_enter func8,ntmps8
 go_wp2_with fail
 go_loopw [3,4] (WtnR w rows) (fun _ iv _=>rows.length - (intOf iv).toNat)
 case atStart=>exact ⟨0,Nat.zero_le _,rfl,rfl,0,rfl⟩
 case round=>
  obtain ⟨i,hi,rfl,rfl,K,rfl⟩:=hrel
  by_cases J:i<rows.length
  rotate_left
  . obtain rfl:rows.length=i:=by omega
    rw [List.take_length];go_wp2_with fail;go_ret;exact ⟨rfl,K,rfl⟩
  have ag:(i:Int)<(rows.length:Int):=by omega
  obtain ⟨ad,AT,nt,ct,z,af,V,Q,u,M⟩:=Y.o.at_ J;subst z;obtain rfl:=u.len;have S:rows[i].terms.length<=100000:=by obtain ⟨_,_,_,_,_,h,_⟩:=id u;exact h
  have b:(YG (rows.take (i+1)))=YG (rows.take i) ++ YJ rows[i]:=zgt _ _ _ J;have e:(YG (rows.take (i+1))).length<=(YG rows).length:=zhy _ _ _;rw [b,List.length_append] at e;have C:=ze b;have y:Hid ((YG (rows.take i)).length+(YJ rows[i]).length<=1000000000000):=Nat.le_trans e T.o;have E:=ze u;obtain ⟨r,F⟩:∃ r,r=rows[i]:=⟨_,rfl⟩;rw [<- F] at V Q S C y E;obtain ⟨l0,L⟩:∃ l0,l0=YG (rows.take i):=⟨_,rfl⟩;rw [<- L] at C y |-;clear b e u M F L;go_wp2_with fail
  go_loopw [3,5] (WtnK w l0 r.terms) (fun _ kv _=>r.terms.length - (intOf kv).toNat)
  case atStart=>exact ⟨0,Nat.zero_le _,by rw [List.take_zero];simp [xt],rfl,K,rfl⟩
  case round=>
   obtain ⟨k,hk,rfl,rfl,mk,rfl⟩:=hrel
   by_cases I:k<r.terms.length
   rotate_left
   . obtain rfl:r.terms.length=k:=by omega
     rw [List.take_length];have l:Hid (YG (rows.take (i+1))=l0 ++ xt r.terms ++ ([60,61,32] ++ r.bound ++ [10])):=ze (by rw [C.o];unfold YJ;rw [<- List.append_assoc]);have m:=y.o;unfold YJ at m;simp only [List.length_append,List.length_cons,List.length_nil] at m;obtain ⟨l1,j⟩:∃ l1,l1=l0 ++ xt r.terms:=⟨_,rfl⟩;have D:l1.length=l0.length+(xt r.terms).length:=by rw [j,List.length_append]
     have c1:¬ 9223372036854775807<3+r.bound.length:=by omega
     have c2:¬ 9223372036854775807<3+r.bound.length+1:=by omega
     have N:¬ 9223372036854775807<l1.length+(3+r.bound.length+1):=by omega
     rw [<- j] at l |-;clear m D j;go_wp2_with fail;go_roundw
     case rel=>exact ⟨i+1,by omega,zqd _ _ (by rw [l.o];simp [ByteArray.data_append]),by go_num,_,rfl⟩
     case measure=>simp [intOf];omega
   have ab:(k:Int)<(r.terms.length:Int):=by omega
   obtain ⟨ae,z,aa,q0,O,X,R⟩:=E.o.at_ I;subst z;have b:xt (r.terms.take (k+1))=xt (r.terms.take k) ++ X6 r.terms[k]:=zgt _ _ _ I;have e:(xt (r.terms.take (k+1))).length<=(xt r.terms).length:=zhy _ _ _;rw [b,List.length_append] at e;have U:(xt r.terms).length<=(YJ r).length:=by unfold YJ;rw [List.length_append];omega
   have m:=y.o;obtain ⟨t,G⟩:∃ t,t=r.terms[k]:=⟨_,rfl⟩;rw [<- G] at q0 O b e;have l:Hid (l0 ++ xt (r.terms.take (k+1))=l0 ++ xt (r.terms.take k) ++ (t.coef ++ [32] ++ t.name ++ [32])):=ze (by rw [b, <- List.append_assoc];rfl);obtain ⟨l1,j⟩:∃ l1,l1=l0 ++ xt (r.terms.take k):=⟨_,rfl⟩;have Z:(X6 t).length=t.coef.length+1+t.name.length+1:=by unfold X6;simp;omega
   have D:l1.length=l0.length+(xt (r.terms.take k)).length:=by rw [j,List.length_append]
   have c1:¬ 9223372036854775807<t.coef.length+1:=by omega
   have c2:¬ 9223372036854775807<t.coef.length+1+t.name.length:=by omega
   have N:¬ 9223372036854775807<t.coef.length+1+t.name.length+1:=by omega
   have c4:¬ 9223372036854775807<l1.length+(t.coef.length+1+t.name.length+1):=by omega
   rw [<- j] at l |-;clear b e U G X R m Z D j;go_wp2_with fail
   go_quiet (fail)
   go_wp2_with fail;go_roundw
   case rel=>exact ⟨k+1,by omega,zqd _ _ (by rw [l.o];simp [ByteArray.data_append]),by go_num,_,rfl⟩
   case measure=>simp [intOf];omega
end Go.Proofs.YthbmhkiphmcogaaGreatDoor
