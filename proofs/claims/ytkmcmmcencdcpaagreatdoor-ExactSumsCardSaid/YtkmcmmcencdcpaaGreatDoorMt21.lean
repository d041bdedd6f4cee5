/- Parts of the proof: memory, numbers, walks of the functions that are called. -/
import Derived.Deep.DrawnRows
import Derived.Test.YtkmcmmcencdcpaaGreatDoorMt15
set_option linter.unusedVariables false
set_option linter.unusedSimpArgs false
namespace Go.Proofs.YtkmcmmcencdcpaaGreatDoor
open Go.RowKit Go.Deep
attribute [local go_sem ↓] Go.wp_at_zero Go.wp_at_succ
set_option maxRecDepth 100000 in
set_option maxHeartbeats 4000000 in
theorem zix (s:ByteArray) (w:World) (hs:s.size<=1073741824):
 Calls Tryz.prog 89 #[.string s] w (Vd w (.bool (x8 (bts s)))):=by
 by_cases h0:s.size=0
 . have he:((s.size:Int)<1):=by omega
   have HN:=ze (show x8 (bts s)=false by unfold x8;rw [zo,h0];rfl);clear h0
   go_enter Tryz.func89,Tryz.ntmps89
   go_wp2_with fail;go_ret;exact ⟨zU HN.out,rfl⟩
 . have hp:0<s.size:=by omega
   have hne:=Y8 hp;clear h0
   by_cases h16:16<s.size
   . have HN:=ze (show x8 (bts s)=false by unfold x8;rw [zo,decide_eq_false (show ¬ s.size<=16 by omega)];simp)
     go_enter Tryz.func89,Tryz.ntmps89
     go_wp2_with fail;go_ret;exact ⟨zU HN.out,rfl⟩
   . cases hl:zea s[0] with
     | false=>
       have HN:=ze (zh2 hp hl)
       have hc:s[0].toNat<97\/122<s[0].toNat:=by
        have:¬ (97<=s[0].toNat/\s[0].toNat<=122):=by intro h;rw [Yn.2 h] at hl;cases hl
        omega
       rcases hc with hc | hc
       . clear hl
         go_enter Tryz.func89,Tryz.ntmps89
         go_wp2_with fail;go_ret;exact ⟨zU HN.out,rfl⟩
       . have hc2:¬ s[0].toNat<97:=by omega
         clear hl
         go_enter Tryz.func89,Tryz.ntmps89
         go_wp2_with fail;go_ret;exact ⟨zU HN.out,rfl⟩
     | true=>
       obtain ⟨hc1,hc2⟩:=Yn.1 hl;have hd1:¬ s[0].toNat<97:=by omega
       have hd2:¬ 122<s[0].toNat:=by omega
       have HL:=ze hl;have H16:=ze (show s.size<=16 by omega);clear hl hc1 hc2
       go_enter Tryz.func89,Tryz.ntmps89
       go_wp2_with fail
       go_loop [25] (fun iv=>∃ k:Nat,k<=s.size/\iv= .int .i64 k/\Hid (∀ j (h:j<s.size),j<k->yB s[j]=true)) (fun iv=>s.size - (intOf iv).toNat)
       case atStart=>exact ⟨0,Nat.zero_le _,rfl,fun j _ h=>by omega⟩
       case round=>
        obtain ⟨k,hk,rfl,HD⟩:=hrel;clear hd1 hd2
        by_cases hlt:k<s.size
        . cases hd:yB s[k] with
          | true=>
            have HD1:=ze hd
            have hnext:∀ j (h:j<s.size),j<k+1->yB s[j]=true:=by
             intro j hj hlt2
             rcases Nat.lt_or_ge j k with h3 | h3
             . exact HD.out j hj h3
             . obtain rfl:j=k:=by omega
               exact HD1.out
            have HNX:=ze hnext;clear hnext
            rcases VF hd with ⟨h1,h2⟩ | ⟨h1,h2,h3⟩ | h1
            . clear hd
              go_wp2_with fail;go_round
              case rel=>exact ⟨k+1,by omega,by go_num,HNX.out⟩
              case measure=>simp [intOf];omega
            . have h4:¬ 97<=s[k].toNat:=by omega
              clear hd h3;go_wp2_with fail;go_round
              case rel=>exact ⟨k+1,by omega,by go_num,HNX.out⟩
              case measure=>simp [intOf];omega
            . have h4:¬ 97<=s[k].toNat:=by omega
              have h5:¬ 48<=s[k].toNat:=by omega
              have h6:((s[k].toNat:Int) == 45)=true:=by rw [h1];rfl
              clear hd;clear h1;go_wp2_with fail;go_round
              case rel=>exact ⟨k+1,by omega,by go_num,HNX.out⟩
              case measure=>simp [intOf];omega
          | false=>
            have HN:=ze (zhl hlt hd)
            have h6:((s[k].toNat:Int) == 45)=false:=by
             rw [beq_eq_false_iff_ne];have:=Ya hd
             omega
            rcases Ya hd with ⟨h1,_⟩ | ⟨h1,h2⟩ | h1
            . have h4:¬ 97<=s[k].toNat:=by omega
              have h5:¬ 48<=s[k].toNat:=by omega
              clear hd;go_wp2_with fail;go_ret;exact ⟨zU HN.out,rfl⟩
            . have h4:¬ 97<=s[k].toNat:=by omega
              have h5:48<=s[k].toNat:=by omega
              have h7:decide ((s[k].toNat:Int)<=57)=false:=by rw [decide_eq_false_iff_not];omega
              clear hd;go_wp2_with fail;go_ret;exact ⟨zU HN.out,rfl⟩
            . have h4:97<=s[k].toNat:=by omega
              have h5:48<=s[k].toNat:=by omega
              have h7:decide ((s[k].toNat:Int)<=57)=false:=by rw [decide_eq_false_iff_not];omega
              have h8:decide ((s[k].toNat:Int)<=122)=false:=by rw [decide_eq_false_iff_not];omega
              clear hd;go_wp2_with fail;go_ret;exact ⟨zU HN.out,rfl⟩
        . obtain rfl:k=s.size:=by omega
          have HN:=ze (zht hp H16.out HL.out (fun j hj=>HD.out j hj hj));go_wp2_with fail;go_ret;exact ⟨zU HN.out,rfl⟩
end Go.Proofs.YtkmcmmcencdcpaaGreatDoor
