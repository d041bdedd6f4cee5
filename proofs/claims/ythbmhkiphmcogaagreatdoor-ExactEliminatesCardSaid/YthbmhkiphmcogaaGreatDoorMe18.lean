/- Parts of the proof. -/
import Derived.Deep.DrawnRows
import Derived.Test.YthbmhkiphmcogaaGreatDoorMe13
set_option linter.all false
namespace Go.Proofs.YthbmhkiphmcogaaGreatDoor
open Proofs.Tryz Go.RowKit Go.Deep
attribute [local go_sem ↓] Go.wp_at_zero Go.wp_at_succ
set_option maxRecDepth 100000 in
set_option maxHeartbeats 4000000 in
theorem zmr (s:ByteArray) (w:World) (hs:s.size<=1073741824):
 Calls Tryz.prog 104 #[.string s] w (zbj w (.bool (vQ (bts s)))):=by
 by_cases C:s.size=0
 . have X:((s.size:Int)<1):=by omega
   have b:=ze (show vQ (bts s)=false by unfold vQ;rw [zm,C];rfl);clear C
   go_enter func104,ntmps104
   go_wp2_with fail;go_ret;exact ⟨yd b.o,rfl⟩
 have u:0<s.size:=by omega
 have S:=XR u;clear C
 by_cases V:16<s.size
 . have b:=ze (show vQ (bts s)=false by unfold vQ;rw [zm,decide_eq_false (show ¬ s.size<=16 by omega)];simp)
   go_enter func104,ntmps104
   go_wp2_with fail;go_ret;exact ⟨yd b.o,rfl⟩
 cases hl:zgy s[0] with
 | false=>
   have b:=ze (zl1 u hl)
   have z:s[0].toNat<97\/122<s[0].toNat:=by
    have:¬ (97<=s[0].toNat/\s[0].toNat<=122):=by intro h;rw [Xt.2 h] at hl;cases hl
    omega
   rcases z with z | z
   . clear hl
     go_enter func104,ntmps104
     go_wp2_with fail;go_ret;exact ⟨yd b.o,rfl⟩
   . have D:¬ s[0].toNat<97:=by omega
     clear hl
     go_enter func104,ntmps104
     go_wp2_with fail;go_ret;exact ⟨yd b.o,rfl⟩
 | true=>
   obtain ⟨M,D⟩:=Xt.1 hl;have L:¬ s[0].toNat<97:=by omega
   have Q:¬ 122<s[0].toNat:=by omega
   have N:=ze hl;have K:=ze (show s.size<=16 by omega);clear hl M D
   go_enter func104,ntmps104
   go_wp2_with fail
   go_loop [25] (fun iv=>∃ k:Nat,k<=s.size/\iv= .int .i64 k/\Hid (∀ j (h:j<s.size),j<k->yI s[j]=true)) (fun iv=>s.size - (intOf iv).toNat)
   case atStart=>exact ⟨0,Nat.zero_le _,rfl,fun j _ h=>by omega⟩
   case round=>
    obtain ⟨k,U,rfl,E⟩:=hrel;clear L Q
    by_cases I:k<s.size
    rotate_left
    . obtain rfl:k=s.size:=by omega
      have b:=ze (zky u K.o N.o (fun j r=>E.o j r r));go_wp2_with fail;go_ret;exact ⟨yd b.o,rfl⟩
    cases hd:yI s[k] with
    | true=>
      have J:=ze hd
      have G:∀ j (h:j<s.size),j<k+1->yI s[j]=true:=by
       intro j r T
       rcases Nat.lt_or_ge j k with m | m
       . exact E.o j r m
       . obtain rfl:j=k:=by omega
         exact J.o
      have y:=ze G;clear G
      rcases zb3 hd with ⟨e,F⟩ | ⟨e,F,m⟩ | e
      . clear hd
        go_wp2_with fail;go_round
        case rel=>exact ⟨k+1,by omega,by go_num,y.o⟩
        case measure=>simp [intOf];omega
      . have l:¬ 97<=s[k].toNat:=by omega
        clear hd m;go_wp2_with fail;go_round
        case rel=>exact ⟨k+1,by omega,by go_num,y.o⟩
        case measure=>simp [intOf];omega
      . have l:¬ 97<=s[k].toNat:=by omega
        have B:¬ 48<=s[k].toNat:=by omega
        have R:((s[k].toNat:Int) == 45)=true:=by rw [e];rfl
        clear hd;clear e;go_wp2_with fail;go_round
        case rel=>exact ⟨k+1,by omega,by go_num,y.o⟩
        case measure=>simp [intOf];omega
    | false=>
      have b:=ze (zlx I hd)
      have R:((s[k].toNat:Int) == 45)=false:=by
       rw [beq_eq_false_iff_ne];have:=YV hd
       omega
      rcases YV hd with ⟨e,_⟩ | ⟨e,F⟩ | e
      . have l:¬ 97<=s[k].toNat:=by omega
        have B:¬ 48<=s[k].toNat:=by omega
        clear hd;go_wp2_with fail;go_ret;exact ⟨yd b.o,rfl⟩
      . have l:¬ 97<=s[k].toNat:=by omega
        have B:48<=s[k].toNat:=by omega
        have O:decide ((s[k].toNat:Int)<=57)=false:=by rw [decide_eq_false_iff_not];omega
        clear hd;go_wp2_with fail;go_ret;exact ⟨yd b.o,rfl⟩
      . have l:97<=s[k].toNat:=by omega
        have B:48<=s[k].toNat:=by omega
        have O:decide ((s[k].toNat:Int)<=57)=false:=by rw [decide_eq_false_iff_not];omega
        have Y:decide ((s[k].toNat:Int)<=122)=false:=by rw [decide_eq_false_iff_not];omega
        clear hd;go_wp2_with fail;go_ret;exact ⟨yd b.o,rfl⟩
end Go.Proofs.YthbmhkiphmcogaaGreatDoor
