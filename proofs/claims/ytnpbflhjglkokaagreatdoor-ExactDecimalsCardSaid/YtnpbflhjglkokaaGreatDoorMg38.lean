/- Parts of the proof: memory, numbers, walks of the functions that are called. -/
import Derived.Test.YtnpbflhjglkokaaGreatDoorMg35
import Derived.Test.YtnpbflhjglkokaaGreatDoorMg37
set_option linter.unusedVariables false
set_option linter.unusedSimpArgs false
set_option maxHeartbeats 32000000
namespace Go.Proofs.YtnpbflhjglkokaaGreatDoor
open Go.RowKit Go.Deep
attribute [local go_sem ↓] Go.wp_at_zero Go.wp_at_succ
structure V3 (rows:List vW) (s:List UInt8):Prop where
 err:∀ r∈rows,XI r=0
 len:rows.length<=800
 all:∀ r∈rows,∀ t∈r.terms,t.name=s
 ex:∃ r∈rows,r.terms≠[]
 small:s.length<=1073741824
def ChkR (w0:World) (b B:Nat) (rv:Value) (rows:List vW) (iv:Value) (wr:World):Prop:=
 ∃ i:Nat,i<=rows.length/\iv= .int .i64 i/\Hid (zJ wr b)/\Hid (yd wr B rv rows)/\Hid (Chg (· =b) w0 wr)
set_option maxRecDepth 100000 in
theorem zaj (b:Nat) (A:Option Addr) (n c:Nat) (rows:List vW) (s:List UInt8) (w:World) (hB:zJ w b) (hr:YF w (.slice A n c) rows) (h1:V3 rows s):
 Calls Tryz.prog 54 #[.map (some b),.slice A n c] w (zav b 0 w):=by
 obtain rfl:=hr.len
 have hlen:=h1.len
 have d0:decide ((rows.length:Int)>800)=false:=by rw [decide_eq_false_iff_not];omega
 have HB:=ze hB
 have HR:=ze hr
 have HC:=ze (Chg.refl (S:=(· =b)) w)
 have H1:=ze h1
 clear hB hr h1
 go_enter Tryz.func54,Tryz.ntmps54
 go_wp2_with fail
 go_loopw [13] (ChkR w b w.heap.size (.slice A rows.length c) rows) (fun iv _=>rows.length - (intOf iv).toNat)
 case atStart=>exact ⟨0,Nat.zero_le _,rfl,HB,HR,HC⟩
 case round=>
  clear HB HR HC d0
  obtain ⟨i,hi,rfl,HB,HR,HC⟩:=hrel
  by_cases hil:i<rows.length
  . have hii:(i:Int)<(rows.length:Int):=by omega
    obtain ⟨ad,AT,nt,ct,eA,hbb,p0,p1,ht,hsb⟩:=HR.out.at_ hil;subst eA;have hx:=zf wr (.cells #[.slice AT nt ct,str rows[i].bound] 57);have HK:=ze (Blk.new wr 57 #[.slice AT nt ct,str rows[i].bound]);have hrow:=fun w' (k:zJ w' b) (t:vC w' (.slice AT nt ct) rows[i].terms)=>zkh b AT nt ct rows[i] w' k t hsb
    rw [H1.out.err _ (List.getElem_mem hil)] at hrow;have HRW:=ze hrow;have HT:Hid (vC (wr.alloc (.cells #[.slice AT nt ct,str rows[i].bound] 57)) (.slice AT nt ct) rows[i].terms):=(zt.below ht hx).more (Nat.le_trans HC.out.size hx.size);replace HB:=ze (HB.out.below hx);replace HR:=ze (yd.below HR.out hx);replace HC:=ze (yf HC.out hx);clear hx ht hsb hrow
    go_upto_region 6 with fail
    clear p0 p1 hbb;generalize wr.alloc (.cells #[.slice AT nt ct,str rows[i].bound] 57)=W2 at HK HT HB HR HC |-;generalize wr.heap.size=gr at HK |-;have r0:=HK.out.cell 0;have r1:=HK.out.cell 1;simp at r0 r1;go_wp2_with fail;refine (HRW.out _ HB.out HT.out).mono ?_;rintro e w3 ⟨rfl,hB1,hc1⟩;replace HR:=ze (HB.out.keepRows hc1 HR.out);replace HC:=ze (xH HC.out hc1);replace HB:=ze hB1;clear hB1 hc1 HRW HT HK r0 r1;go_wp2_with fail;go_roundw
    case rel=>exact ⟨i+1,by omega,by go_num,HB,HR,HC⟩
    case measure=>simp [intOf];omega
  . obtain rfl:rows.length=i:=by omega
    have hun:=XA wr.heap.size 0 A rows.length c (.slice none 0 0) [] rows [] s wr (HR.out.more HC.out.size) (Zc _ _ _ _) ⟨rfl,fun j hj=>by cases hj⟩ rfl (by omega) (Nat.le_refl _) H1.out.small
     (by
       intro l hl t ht;rw [List.nil_append,List.mem_map] at hl;obtain ⟨r,hr,rfl⟩:=hl
       exact H1.out.all r hr t ht)
     (by
       obtain ⟨r,hr,hne⟩:=H1.out.ex
       exact ⟨r.terms,by rw [List.nil_append,List.mem_map];exact ⟨r,hr,rfl⟩,hne⟩)
    have HUN:=ze hun;clear hun HR;go_wp2_with fail;refine HUN.out.mono ?_;rintro e w3 ⟨v,rfl,hn,hb3⟩;obtain ⟨A3,c3,rfl,_⟩:=hn;replace HB:=ze (HB.out.below hb3);replace HC:=ze (yf HC.out hb3);clear hb3 HUN;go_wp2_with fail;go_ret;exact ⟨rfl,HB.out,HC.out⟩
structure zek (goal:List y8) (s:List UInt8):Prop where
 err:yY goal=0
 all:∀ t∈goal,t.name=s
def zom (w:World) (s:List UInt8) (e:Ending) (w' :World):Prop:=
 ∃ b v,e= .returned (.tuple #[.map (some b),v,.int .i64 0])/\zJ w' b/\yi w' w'.heap.size v [s]/\w.heap.size<=b/\Below w.heap.size w w'
set_option maxRecDepth 100000 in
theorem zej (A A2:Option Addr) (n c n2 c2:Nat) (rows:List vW) (goal:List y8) (s:List UInt8) (w:World) (hr:YF w (.slice A n c) rows) (hg:vC w (.slice A2 n2 c2) goal) (h1:V3 rows s) (h2:zek goal s):
 Calls Tryz.prog 98 #[.slice A n c,.slice A2 n2 c2] w (zom w s):=by
 have hmm:=@run_makeMap Tryz.prog
 have hx:=zf w (.map #[] 0)
 have HB:=ze (zJ.new w)
 have HR:=ze (yd.below hr hx)
 have HG:=ze (zt.below hg hx)
 have HC:Hid (Chg (· =w.heap.size) w (w.alloc (.map #[] 0))):=Chg.of_below hx
 have H1:=ze h1
 have H2:=ze h2
 clear hr hg h1 h2 hx
 go_enter Tryz.func98,Tryz.ntmps98
 go_upto_region 2 with fail
 clear hmm
 have HLT:Hid (w.heap.size<=w.heap.size):=Nat.le_refl _
 generalize w.alloc (.map #[] 0)=W at HB HR HG HC |-
 obtain ⟨b,hb⟩:∃ b,b=w.heap.size:=⟨_,rfl⟩
 have HLE:Hid (w.heap.size<=b):=Nat.le_of_eq hb.symm
 have hbs:=HB.out.lt
 have HBW:Hid (w.heap.size<=W.heap.size):=HC.out.size
 rw [<- hb] at HB HC |-
 clear hb HLT hbs
 have hck:=zaj b A n c rows s W HB.out (HR.out.more HBW.out) H1.out
 have HCK:=ze hck
 clear hck
 go_wp2_with fail
 refine HCK.out.mono ?_
 rintro e w1 ⟨rfl,hB1,hc1⟩
 replace HR:=ze (HB.out.keepRows hc1 HR.out)
 replace HG:=ze (HB.out.keepT hc1 HG.out)
 replace HC:=ze (xH HC.out hc1)
 replace HB:=ze hB1
 clear hB1 hc1 HCK HBW
 have htm:=VU b A2 n2 c2 goal w1 HB.out (HG.out.more HC.out.size)
 rw [H2.out.err] at htm
 have HTM:=ze htm
 clear htm
 go_wp2_with fail
 refine HTM.out.mono ?_
 rintro e w2 ⟨rfl,hB1,hc1⟩
 replace HR:=ze (HB.out.keepRows hc1 HR.out)
 replace HG:=ze (HB.out.keepT hc1 HG.out)
 replace HC:=ze (xH HC.out hc1)
 replace HB:=ze hB1
 clear hB1 hc1 HTM
 have hx:=zf w2 (.cells #[.slice A2 n2 c2] 35)
 have hnew:=Blk.new w2 35 #[.slice A2 n2 c2]
 have HO:Hid (xX (w2.alloc (.cells #[.slice A2 n2 c2] 35)) w2.heap.size 35 1 (.slice (some ⟨w2.heap.size,0,none⟩) 1 1) 1 [.slice A2 n2 c2]):=by
  refine ⟨⟨rfl,.inr ⟨_,1,_,rfl,Nat.le_refl _,hnew,Nat.le_refl _,by unfold maxLen;omega,rfl,rfl⟩⟩,fun g hg=>?_⟩
  injection hg with hg
  subst hg
  exact hnew.noDig (Zl (by intro u hu;simp at hu;subst hu;exact yc _ _ _))
 have hun:=XA w2.heap.size 1 A n c (.slice (some ⟨w2.heap.size,0,none⟩) 1 1) [.slice A2 n2 c2] rows [goal] s (w2.alloc (.cells #[.slice A2 n2 c2] 35)) ((yd.below HR.out hx).more HC.out.size) HO.out
  ⟨rfl,fun j hj=>by
   have:j=0:=by simp at hj;omega
   subst this
   exact (zt.below HG.out hx).more HC.out.size⟩ rfl (by omega) hx.size H1.out.small
  (by
    intro l hl t ht
    rcases List.mem_append.1 hl with hl | hl
    . rw [List.mem_singleton] at hl;subst hl;exact H2.out.all t ht
    . rw [List.mem_map] at hl
      obtain ⟨r,hr,rfl⟩:=hl
      exact H1.out.all r hr t ht)
  (by
    obtain ⟨r,hr,hne⟩:=H1.out.ex
    exact ⟨r.terms,List.mem_append.2 (.inr (by rw [List.mem_map];exact ⟨r,hr,rfl⟩)),hne⟩)
 have HUN:=ze hun
 have HX:=ze hx
 clear hun hx hnew HO HR HG
 go_wp2_with fail
 refine HUN.out.mono ?_
 rintro e w3 ⟨v,rfl,hn,hb3⟩
 have hb4:Below w2.heap.size w2 w3:=HX.out.trans hb3
 replace HB:=ze (HB.out.below hb4)
 replace HC:=ze (yf HC.out hb4)
 have HN:=ze hn
 obtain ⟨A3,c3,rfl,_⟩:=hn
 clear hb3 hb4 HUN HX
 go_wp2_with fail
 go_ret3
 exact ⟨b,_,rfl,HB.out,HN.out,HLE.out,HC.out.below (Nat.le_refl _) (fun x e=>by subst e;exact HLE.out)⟩
end Go.Proofs.YtnpbflhjglkokaaGreatDoor
