/- Parts of the proof. -/
import Derived.Deep.DrawnRows
import Derived.Test.YtobdoblpnanclaaGreatDoorMo14
set_option linter.all false
namespace Go.Proofs.YtobdoblpnanclaaGreatDoor
open Proofs.Tryz Go.RowKit Go.Deep
attribute [local go_sem ↓] Go.wp_at_zero Go.wp_at_succ
set_option maxRecDepth 100000 in
set_option maxHeartbeats 4000000 in
theorem zlx (s:ByteArray) (w:World) (hs:s.size<=1073741824):
 Calls prog 49 #[.string s] w (zaw w (.bool (Ze (bts s)))):=by
 by_cases y:s.size=0
 . have Y:((s.size:Int)<1):=by omega
   have b:=ze (show Ze (bts s)=false by unfold Ze;rw [zt,y];rfl);clear y
   go_in
   go_wp2;go_ret;exact ⟨yy b.o,rfl⟩
 have C:0<s.size:=by omega
 have S:=zbo C;clear y
 by_cases U:16<s.size
 . have b:=ze (show Ze (bts s)=false by unfold Ze;rw [zt,uF (show ¬ s.size<=16 by omega)];simp)
   go_in
   go_wp2;go_ret;exact ⟨yy b.o,rfl⟩
 cases hl:zit s[0] with
 | false=>
   have b:=ze (zqu C hl)
   have B:s[0].toNat<97\/122<s[0].toNat:=by
    have:¬ (97<=s[0].toNat/\s[0].toNat<=122):=by intro h;rw [VD.2 h] at hl;cases hl
    omega
   rcases B with B | B
   . clear hl
     go_in
     go_wp2;go_ret;exact ⟨yy b.o,rfl⟩
   . have F:¬ s[0].toNat<97:=by omega
     clear hl
     go_in
     go_wp2;go_ret;exact ⟨yy b.o,rfl⟩
 | true=>
   obtain ⟨R,F⟩:=VD.1 hl;have L:¬ s[0].toNat<97:=by omega
   have I:¬ 122<s[0].toNat:=by omega
   have N:=ze hl;have M:=ze (show s.size<=16 by omega);clear hl R F
   go_in
   go_wp2_with fail
   go_loop [25] (fun iv=>∃ k:Nat,k<=s.size/\iv= .int .i64 k/\Hid (∀ j (h:j<s.size),j<k->yO s[j]=true)) (fun iv=>s.size - (intOf iv).toNat)
   case atStart=>exact ⟨0,uB,rfl,fun j _ h=>by omega⟩
   case round=>
    obtain ⟨k,T,rfl,G⟩:=hrel;clear L I
    by_cases J:k<s.size
    rotate_left
    . obtain rfl:k=s.size:=by omega
      have b:=ze (zqn C M.o N.o (fun j r=>G.o j r r));go_wp2;go_ret;exact ⟨yy b.o,rfl⟩
    cases hd:yO s[k] with
    | true=>
      have Q:=ze hd
      have E:∀ j (h:j<s.size),j<k+1->yO s[j]=true:=by
       intro j r X
       rcases uL j k with m | m
       . exact G.o j r m
       . obtain rfl:j=k:=by omega
         exact Q.o
      have u:=ze E;clear E
      rcases zhc hd with ⟨e,D⟩ | ⟨e,D,m⟩ | e
      . clear hd
        go_wp2;go_round
        case rel=>exact ⟨k+1,by omega,by go_num,u.o⟩
        case measure=>simp [intOf];omega
      . have l:¬ 97<=s[k].toNat:=by omega
        clear hd m;go_wp2;go_round
        case rel=>exact ⟨k+1,by omega,by go_num,u.o⟩
        case measure=>simp [intOf];omega
      . have l:¬ 97<=s[k].toNat:=by omega
        have z:¬ 48<=s[k].toNat:=by omega
        have O:((s[k].toNat:Int) == 45)=true:=by rw [e];rfl
        clear hd;clear e;go_wp2;go_round
        case rel=>exact ⟨k+1,by omega,by go_num,u.o⟩
        case measure=>simp [intOf];omega
    | false=>
      have b:=ze (zq3 J hd)
      have O:((s[k].toNat:Int) == 45)=false:=by
       rw [beq_eq_false_iff_ne];have:=zbe hd
       omega
      rcases zbe hd with ⟨e,_⟩ | ⟨e,D⟩ | e
      . have l:¬ 97<=s[k].toNat:=by omega
        have z:¬ 48<=s[k].toNat:=by omega
        clear hd;go_wp2;go_ret;exact ⟨yy b.o,rfl⟩
      . have l:¬ 97<=s[k].toNat:=by omega
        have z:48<=s[k].toNat:=by omega
        have K:decide ((s[k].toNat:Int)<=57)=false:=by rw [decide_eq_false_iff_not];omega
        clear hd;go_wp2;go_ret;exact ⟨yy b.o,rfl⟩
      . have l:97<=s[k].toNat:=by omega
        have z:48<=s[k].toNat:=by omega
        have K:decide ((s[k].toNat:Int)<=57)=false:=by rw [decide_eq_false_iff_not];omega
        have V:decide ((s[k].toNat:Int)<=122)=false:=by rw [decide_eq_false_iff_not];omega
        clear hd;go_wp2;go_ret;exact ⟨yy b.o,rfl⟩
end Go.Proofs.YtobdoblpnanclaaGreatDoor
