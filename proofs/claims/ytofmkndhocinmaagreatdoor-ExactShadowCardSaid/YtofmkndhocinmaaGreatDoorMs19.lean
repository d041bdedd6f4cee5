/- Parts of the proof. -/
import Derived.Deep.DrawnRows
import Derived.Test.YtofmkndhocinmaaGreatDoorMs14
set_option linter.all false
namespace Go.Proofs.YtofmkndhocinmaaGreatDoor
open Proofs.Tryz Go.RowKit Go.Deep
attribute [local go_sem ↓] Go.wp_at_zero Go.wp_at_succ
set_option maxRecDepth 100000 in
set_option maxHeartbeats 4000000 in
theorem zkl (s:ByteArray) (w:World) (hs:s.size<=1073741824):
 Calls prog 53 #[.string s] w (zal w (.bool (vr (bts s)))):=by
 by_cases y:s.size=0
 . have Y:((s.size:Int)<1):=by omega
   have b:=ze (show vr (bts s)=false by unfold vr;rw [zq,y];rfl);clear y
   go_in
   go_wp2;go_ret;exact ⟨yB b.o,rfl⟩
 have C:0<s.size:=by omega
 have S:=zah C;clear y
 by_cases U:16<s.size
 . have b:=ze (show vr (bts s)=false by unfold vr;rw [zq,uF (show ¬ s.size<=16 by omega)];simp)
   go_in
   go_wp2;go_ret;exact ⟨yB b.o,rfl⟩
 cases hl:zg9 s[0] with
 | false=>
   have b:=ze (zo3 C hl)
   have B:s[0].toNat<97\/122<s[0].toNat:=by
    have:¬ (97<=s[0].toNat/\s[0].toNat<=122):=by intro h;rw [Vg.2 h] at hl;cases hl
    omega
   rcases B with B | B
   . clear hl
     go_in
     go_wp2;go_ret;exact ⟨yB b.o,rfl⟩
   . have F:¬ s[0].toNat<97:=by omega
     clear hl
     go_in
     go_wp2;go_ret;exact ⟨yB b.o,rfl⟩
 | true=>
   obtain ⟨R,F⟩:=Vg.1 hl;have L:¬ s[0].toNat<97:=by omega
   have I:¬ 122<s[0].toNat:=by omega
   have N:=ze hl;have M:=ze (show s.size<=16 by omega);clear hl R F
   go_in
   go_wp2_with fail
   go_loop [25] (fun iv=>∃ k:Nat,k<=s.size/\iv= .int .i64 k/\Hid (∀ j (h:j<s.size),j<k->yV s[j]=true)) (fun iv=>s.size - (intOf iv).toNat)
   case atStart=>exact ⟨0,uB,rfl,fun j _ h=>by omega⟩
   case round=>
    obtain ⟨k,T,rfl,G⟩:=hrel;clear L I
    by_cases J:k<s.size
    rotate_left
    . obtain rfl:k=s.size:=by omega
      have b:=ze (zoz C M.o N.o (fun j r=>G.o j r r));go_wp2;go_ret;exact ⟨yB b.o,rfl⟩
    cases hd:yV s[k] with
    | true=>
      have Q:=ze hd
      have E:∀ j (h:j<s.size),j<k+1->yV s[j]=true:=by
       intro j r X
       rcases uL j k with m | m
       . exact G.o j r m
       . obtain rfl:j=k:=by omega
         exact Q.o
      have u:=ze E;clear E
      rcases zfo hd with ⟨e,D⟩ | ⟨e,D,m⟩ | e
      . clear hd
        go_wp2;go_round
        case rel=>exact ⟨k+1,by omega,by go_num,u.o⟩
        case measure=>simp [intOf];omega
      . have l:¬ 97<=s[k].toNat:=by omega
        clear hd m;go_wp2;go_round
        case rel=>exact ⟨k+1,by omega,by go_num,u.o⟩
        case measure=>simp [intOf];omega
      . have l:¬ 97<=s[k].toNat:=by omega
        have z:¬ 48<=s[k].toNat:=by omega
        have O:((s[k].toNat:Int) == 45)=true:=by rw [e];rfl
        clear hd;clear e;go_wp2;go_round
        case rel=>exact ⟨k+1,by omega,by go_num,u.o⟩
        case measure=>simp [intOf];omega
    | false=>
      have b:=ze (zpf J hd)
      have O:((s[k].toNat:Int) == 45)=false:=by
       rw [beq_eq_false_iff_ne];have:=VZ hd
       omega
      rcases VZ hd with ⟨e,_⟩ | ⟨e,D⟩ | e
      . have l:¬ 97<=s[k].toNat:=by omega
        have z:¬ 48<=s[k].toNat:=by omega
        clear hd;go_wp2;go_ret;exact ⟨yB b.o,rfl⟩
      . have l:¬ 97<=s[k].toNat:=by omega
        have z:48<=s[k].toNat:=by omega
        have K:decide ((s[k].toNat:Int)<=57)=false:=by rw [decide_eq_false_iff_not];omega
        clear hd;go_wp2;go_ret;exact ⟨yB b.o,rfl⟩
      . have l:97<=s[k].toNat:=by omega
        have z:48<=s[k].toNat:=by omega
        have K:decide ((s[k].toNat:Int)<=57)=false:=by rw [decide_eq_false_iff_not];omega
        have V:decide ((s[k].toNat:Int)<=122)=false:=by rw [decide_eq_false_iff_not];omega
        clear hd;go_wp2;go_ret;exact ⟨yB b.o,rfl⟩
end Go.Proofs.YtofmkndhocinmaaGreatDoor
