/- Parts of the proof: memory, numbers, walks of the functions that are called. -/
import Derived.Test.YtnpbflhjglkokaaGreatDoorMr28
import Derived.Test.YtnpbflhjglkokaaGreatDoorMr41
set_option linter.unusedVariables false
set_option linter.unusedSimpArgs false
namespace Go.Proofs.YtnpbflhjglkokaaGreatDoor
open Go.RowKit Go.Deep
attribute [local go_sem ↓] Go.wp_at_zero Go.wp_at_succ
def SamR (w0:World) (l:List (List UInt8)) (iv:Value) (wr:World):Prop:=∃ i:Nat,i<=l.length/\iv= .int .i64 i/\∃ m,wr=w0.drewN m
def zqb (w:World) (v:Value) (e:Ending) (w' :World):Prop:=e= .returned v/\∃ m,w' =w.drewN m
set_option maxRecDepth 100000 in
theorem zcz (A A2:Option Addr) (n c n2 c2 B B2:Nat) (l:List (List UInt8)) (w:World) (h1:zP w B (.slice A n c) l) (h2:zP w B2 (.slice A2 n2 c2) l):
 Calls Tryz.prog 17 #[.slice A n c,.slice A2 n2 c2] w (zqb w (.bool true)):=by
 obtain rfl:=h1.len
 obtain rfl:=h2.len
 have hl:l.length<=100000:=by obtain ⟨_,_,_,_,_,h,_⟩:=h1;exact h
 have H1:=ze h1
 have H2:=ze h2
 clear h1 h2
 go_enter Tryz.func17,Tryz.ntmps17
 go_wp2_with fail
 go_loopw [5] (SamR w l) (fun iv _=>l.length - (intOf iv).toNat)
 case atStart=>exact ⟨0,Nat.zero_le _,rfl,0,rfl⟩
 case round=>
  obtain ⟨i,hi,rfl,m,rfl⟩:=hrel
  by_cases hil:i<l.length
  . have hii:(i:Int)<(l.length:Int):=by omega
    obtain ⟨ad,eA,hbb,q1⟩:=H1.out.at_ hil;obtain ⟨ad2,eA2,hbb2,q2⟩:=H2.out.at_ hil;subst eA;subst eA2;generalize l[i]=s at q1 q2;have d1:((⟨s.toArray⟩:ByteArray) == ⟨s.toArray⟩)=true:=(MapKept.bytes_beq _ _).2 rfl;have d2:(s == s)=true:=beq_self_eq_true s;clear hbb hbb2;go_wp2_with fail
    go_quiet (fail)
    go_wp2_with fail;go_roundw
    case rel=>exact ⟨i+1,by omega,by go_num,_,rfl⟩
    case measure=>simp [intOf];omega
  . obtain rfl:l.length=i:=by omega
    go_wp2_with fail;go_ret;exact ⟨rfl,m,rfl⟩
theorem Zq.names {l:List xe} (h:Zq l):(zS (l.map (·.terms))).length<=400:=by
 rw [zem];exact h.2.2.1
theorem zht (rows:List xe):(yy rows []).length<=(zS (rows.map (·.terms))).length:=ZA _
set_option maxRecDepth 100000 in
set_option maxHeartbeats 8000000 in
theorem zli (A:Option Addr) (n c:Nat) (rows:List xe) (w:World) (hr:XQ w w.heap.size (.slice A n c) rows):
 Calls Tryz.prog 3 #[.slice A n c] w (zca w (.bool true)):=by
 have hg:=zkk A n c rows w _ hr
 have HG:=ze hg
 have HR:=ze hr
 clear hg hr
 go_enter Tryz.func3,Tryz.ntmps3
 go_wp2_with fail
 refine HG.out.mono ?_
 rintro e w1 ⟨g,rfl,⟨m,rfl⟩,hsm⟩
 have HRm:Hid (XQ (w.drewN m) w.heap.size (.slice A n c) rows):=HR
 have HW0:Hid (Below w.heap.size w (w.drewN m)):=zm (xu w) m
 generalize w.drewN m=W at HRm HW0 |-
 clear HG HR
 cases g with
 | true=>
   clear hsm HRm;go_wp2_with fail;refine (zc2 _).mono ?_;rintro e w2 ⟨rfl,hb2⟩;have HW:=ze (ext HW0.out hb2);clear hb2;go_wp2_with fail;go_ret;exact ⟨rfl,HW.out⟩
 | false=>
   have hS:=hsm rfl;have hE:=hS.each;have HE:Hid (xj W (.slice A n c) rows):=(HRm.out.small hE.1 hE.2).more HW0.out.size;have HN:=ze hS.names;clear hsm hS hE HRm;have hN1:(yy rows []).length<=100000:=Nat.le_trans (zht rows) (Nat.le_trans HN.out (by omega));have P0:=ze (ze1 A n c rows W HE.out (fun _=>hN1));have P1:=ze (fun w (h:xj w (.slice A n c) rows)=>zjc A n c rows w h (fun _=>Nat.le_trans HN.out (by omega)));have P2:=ze (fun w (h:xj w (.slice A n c) rows)=>VU A n c rows w h (fun _=>hN1));have P3:=ze (fun w (h:xj w (.slice A n c) rows)=>zcb A n c rows w h (fun _=>Nat.le_trans HN.out (by omega)));unfold Xn at P0 P1;obtain ⟨l,hl⟩:∃ l,(if xa rows=0 then yy rows [] else [])=l:=⟨_,rfl⟩;obtain ⟨z,hz⟩:∃ z,xa rows=z:=⟨_,rfl⟩;rw [hl] at P0 P1;rw [hz] at P0 P1 P2 P3;clear hl hz hN1 HN;go_wp2_with fail;refine P0.out.mono ?_;rintro e w1 ⟨v,rfl,hn,hb1⟩;obtain ⟨A1,c1,rfl,_⟩:=id hn;have HN1:=ze hn;have HE1:Hid (xj w1 (.slice A n c) rows):=(zV.below HE.out hb1).more hb1.size;have HW:=ze (ext HW0.out hb1);clear hn hb1 P0;go_wp2_with fail;refine (P1.out _ HE1.out).mono ?_
   rintro e w2 ⟨v,rfl,hn,hb1⟩;obtain ⟨A2,c2,rfl,_⟩:=id hn;have HN2:=ze hn;replace HN1:=ze (zP.below HN1.out hb1);have HE2:Hid (xj w2 (.slice A n c) rows):=(zV.below HE1.out hb1).more hb1.size;replace HW:=eb_ HW hb1;clear hn hb1 P1 HE1;go_wp2_with fail;refine (P2.out _ HE2.out).mono ?_;rintro e w3 ⟨rfl,hb1⟩;have HE3:Hid (xj w3 (.slice A n c) rows):=(zV.below HE2.out hb1).more hb1.size;replace HN1:=ze (zP.below HN1.out hb1);replace HN2:=ze (zP.below HN2.out hb1);replace HW:=eb_ HW hb1;clear hb1 P2 HE2;go_wp2_with fail;refine (P3.out _ HE3.out).mono ?_;rintro e w4 ⟨rfl,hb1⟩;replace HN1:=ze (zP.below HN1.out hb1);replace HN2:=ze (zP.below HN2.out hb1);replace HW:=eb_ HW hb1;clear hb1 P3 HE3;go_wp2_with fail;refine (zcz A1 A2 l.length c1 l.length c2 _ _ l _ HN1.out HN2.out).mono ?_;rintro e w5 ⟨rfl,m5,rfl⟩;replace HW:=ze (zm HW.out m5);generalize w4.drewN m5=w5 at HW |-;go_wp2_with fail;refine (zc2 _).mono ?_;rintro e w6 ⟨rfl,hb1⟩;replace HW:=eb_ HW hb1;clear hb1;go_wp2_with fail;go_ret;exact ⟨rfl,HW.out⟩
end Go.Proofs.YtnpbflhjglkokaaGreatDoor
