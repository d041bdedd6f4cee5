/- Parts of the proof: memory, numbers, walks of the functions that are called. -/
import Derived.Test.YtnpbflhjglkokaaGreatDoorMn37
import Derived.Test.YtnpbflhjglkokaaGreatDoorMn39
set_option linter.unusedVariables false
set_option linter.unusedSimpArgs false
set_option maxHeartbeats 32000000
namespace Go.Proofs.YtnpbflhjglkokaaGreatDoor
open Go.RowKit Go.Deep
attribute [local go_sem ↓] Go.wp_at_zero Go.wp_at_succ
def ChkR (w0:World) (b B:Nat) (rv:Value) (rows:List vp) (iv:Value) (wr:World):Prop:=
 ∃ i:Nat,i<=rows.length/\iv= .int .i64 i/\Hid (∀ j,j<i->xH (rows.getD j default)=0)/\Hid (zG wr b)/\Hid (yd wr B rv rows)/\Hid (Chg (· =b) w0 wr)
theorem zdd {rows:List vp} (h:800<rows.length):Z4 rows=3:=by unfold Z4;rw [if_pos h]
theorem zek {rows:List vp} {i:Nat} (h:¬ 800<rows.length) (hi:i<rows.length) (h0:∀ j,j<i->xH (rows.getD j default)=0) (hne:xH (rows.getD i default)≠0):Z4 rows=xH (rows.getD i default):=by
 have e:=vB (f:=fun i=>xH (rows.getD i default)) hi h0 hne
 unfold Z4
 rw [if_neg h,if_pos (by rw [e];exact hne),e]
theorem V0 {rows:List vp} (h:¬ 800<rows.length) (h0:∀ j,j<rows.length->xH (rows.getD j default)=0):Z4 rows=if 80<(vt rows []).length then 3 else 0:=by
 have e:=Zv (f:=fun i=>xH (rows.getD i default)).2 h0
 unfold Z4
 rw [if_neg h,if_neg (by rw [e];exact fun h=>h rfl)]
set_option maxRecDepth 100000 in
theorem VX (b:Nat) (A:Option Addr) (n c:Nat) (rows:List vp) (w:World) (hB:zG w b) (hr:Yp w (.slice A n c) rows) (hcnt:rows.length<=800->(vt rows []).length<=100000):
 Calls Tryz.prog 54 #[.map (some b),.slice A n c] w (V6 b (Z4 rows) w):=by
 obtain rfl:=hr.len
 have HB:=ze hB
 have HR:=ze hr
 have HC:=ze (Chg.refl (S:=(· =b)) w)
 by_cases hlen:800<rows.length
 . have d0:decide ((rows.length:Int)>800)=true:=by rw [decide_eq_true_iff];omega
   have HE:=ze (zdd hlen);clear hB hr hcnt
   go_enter Tryz.func54,Tryz.ntmps54
   go_wp2_with fail;go_ret;exact ⟨by rw [HE.out];rfl,HB.out,HC.out⟩
 have d0:decide ((rows.length:Int)>800)=false:=by rw [decide_eq_false_iff_not];omega
 have HL:=ze hlen
 have HCN:=ze (hcnt (by omega))
 clear hB hr hcnt
 go_enter Tryz.func54,Tryz.ntmps54
 go_wp2_with fail
 go_loopw [13] (ChkR w b w.heap.size (.slice A rows.length c) rows) (fun iv _=>rows.length - (intOf iv).toNat)
 case atStart=>exact ⟨0,Nat.zero_le _,rfl,(fun j h=>by omega),HB,HR,HC⟩
 case round=>
  clear HB HR HC d0
  obtain ⟨i,hi,rfl,HJ,HB,HR,HC⟩:=hrel
  by_cases hil:i<rows.length
  . have hii:(i:Int)<(rows.length:Int):=by omega
    obtain ⟨ad,AT,nt,ct,eA,hbb,p0,p1,ht,hsb⟩:=HR.out.at_ hil;subst eA;have hx:=zf wr (.cells #[.slice AT nt ct,str rows[i].bound] 57);have HK:=ze (Blk.new wr 57 #[.slice AT nt ct,str rows[i].bound]);have hrow:=fun w' (k:zG w' b) (t:vE w' (.slice AT nt ct) rows[i].terms)=>zk2 b AT nt ct rows[i] w' k t hsb
    have hgd:rows.getD i default=rows[i]:=by simp [List.getD,List.getElem?_eq_getElem hil]
    have HRW:=ze hrow;have HT:Hid (vE (wr.alloc (.cells #[.slice AT nt ct,str rows[i].bound] 57)) (.slice AT nt ct) rows[i].terms):=(zr.below ht hx).more (Nat.le_trans HC.out.size hx.size);replace HB:=ze (HB.out.below hx);replace HR:=ze (yd.below HR.out hx);replace HC:=ze (yi HC.out hx);have HGD:=ze hgd;clear hx ht hsb hrow hgd
    go_upto_region 6 with fail
    clear p0 p1 hbb;generalize wr.alloc (.cells #[.slice AT nt ct,str rows[i].bound] 57)=W2 at HK HT HB HR HC |-;generalize wr.heap.size=gr at HK |-;have r0:=HK.out.cell 0;have r1:=HK.out.cell 1;simp at r0 r1
    by_cases hre:xH rows[i]=0
    . rw [hre] at HRW
      have HJ2:Hid (∀ j,j<i+1->xH (rows.getD j default)=0):=by
       intro j hj
       by_cases e:j=i
       . subst e;rw [HGD.out];exact hre
       . exact HJ.out j (by omega)
      clear hre;go_wp2_with fail;refine (HRW.out _ HB.out HT.out).mono ?_;rintro e w3 ⟨rfl,hB1,hc1⟩;replace HR:=ze (HB.out.keepRows hc1 HR.out);replace HC:=ze (xu HC.out hc1);replace HB:=ze hB1;clear hB1 hc1 HRW HT HK r0 r1;go_wp2_with fail;go_roundw
      case rel=>exact ⟨i+1,by omega,by go_num,HJ2,HB,HR,HC⟩
      case measure=>simp [intOf];omega
    . have HER:Hid (Z4 rows=xH rows[i]):=by
       have:=zek HL.out hil HJ.out (by rw [HGD.out];exact hre);rw [HGD.out] at this;exact this
      obtain ⟨z,hz⟩:∃ z,xH rows[i]=z:=⟨_,rfl⟩;rw [hz] at HRW HER hre;have hzb:(z == 0)=false:=beq_eq_false_iff_ne.2 hre;clear hz hre;go_wp2_with fail;refine (HRW.out _ HB.out HT.out).mono ?_;rintro e w3 ⟨rfl,hB1,hc1⟩;replace HC:=ze (xu HC.out hc1);replace HB:=ze hB1;clear hB1 hc1 HRW HT HK r0 r1;go_wp2_with fail;go_ret;exact ⟨by rw [HER.out];rfl,HB.out,HC.out⟩
  . obtain rfl:rows.length=i:=by omega
    have hun:=XX wr.heap.size 0 A rows.length c (.slice none 0 0) [] rows [] wr (HR.out.more HC.out.size) (vW _ _ _ _) ⟨rfl,fun j hj=>by cases hj⟩ rfl (by omega) (Nat.le_refl _)
     (fun l hl=>by rw [hl.eq];exact HCN.out)
    have HUN:=ze hun;clear hun HR;go_wp2_with fail;refine HUN.out.mono ?_;rintro e w3 ⟨v,l,rfl,hin,hn,hb3⟩;have hll:l.length=(vt rows []).length:=by rw [hin.eq];rfl
    have HER:Hid (Z4 rows=if 80<l.length then 3 else 0):=by
     show _=_
     rw [hll];exact V0 HL.out HJ.out
    obtain ⟨A3,c3,rfl,_⟩:=hn;replace HB:=ze (HB.out.below hb3);replace HC:=ze (yi HC.out hb3);clear hb3 HUN hin hll HJ HCN
    by_cases h8:80<l.length
    . rw [if_pos h8] at HER
      have d8:(80:Int)<(l.length:Int):=by omega
      clear h8;go_wp2_with fail;go_ret;exact ⟨by rw [HER.out];rfl,HB.out,HC.out⟩
    . rw [if_neg h8] at HER
      have d8:¬ (80:Int)<(l.length:Int):=by omega
      clear h8;go_wp2_with fail;go_ret;exact ⟨by rw [HER.out];rfl,HB.out,HC.out⟩
structure YO (rows:List vp) (s:List UInt8):Prop where
 err:∀ r∈rows,xH r=0
 len:rows.length<=800
 all:∀ r∈rows,∀ t∈r.terms,t.name=s
 ex:∃ r∈rows,r.terms≠[]
 small:s.length<=1073741824
theorem YO.err0 {rows:List vp} {s:List UInt8} (h:YO rows s):Z4 rows=0/\(vt rows []).length=1:=by
 have ha:∀ x∈yo ([] ++ rows.map (·.terms)),x=s:=by
  intro x hx
  unfold yo at hx
  rw [List.nil_append,List.mem_flatMap] at hx
  obtain ⟨l,hl,hx⟩:=hx
  obtain ⟨t,ht,rfl⟩:=List.mem_map.1 hx
  obtain ⟨r,hr,rfl⟩:=List.mem_map.1 hl
  exact h.all r hr t ht
 have he:yo ([] ++ rows.map (·.terms))≠[]:=by
  obtain ⟨r,hr,hne⟩:=h.ex
  obtain ⟨t,q,e⟩:=List.exists_cons_of_ne_nil hne
  intro h0
  have:t.name∈yo ([] ++ rows.map (·.terms)):=by
   unfold yo;exact List.mem_flatMap.2 ⟨_,List.mem_map.2 ⟨r,hr,rfl⟩,List.mem_map.2 ⟨t,by rw [e];exact List.mem_cons_self ..,rfl⟩⟩
  rw [h0] at this
  cases this
 have h1:(vt rows []).length=1:=by
  have e:vt rows []=[s]:=zbp ha he (Z3 _)
  rw [e];rfl
 refine ⟨?_,h1⟩
 rw [V0 (by have:=h.len;omega) (fun j hj=>by
  have e:rows.getD j default=rows[j]:=by simp [List.getD,List.getElem?_eq_getElem hj]
  rw [e];exact h.err _ (List.getElem_mem hj)),h1]
 rfl
theorem za3 (b:Nat) (A:Option Addr) (n c:Nat) (rows:List vp) (s:List UInt8) (w:World) (hB:zG w b) (hr:Yp w (.slice A n c) rows) (h1:YO rows s):
 Calls Tryz.prog 54 #[.map (some b),.slice A n c] w (V6 b 0 w):=by
 have h:=VX b A n c rows w hB hr (fun _=>by rw [h1.err0.2];omega)
 rw [h1.err0.1] at h
 exact h
structure zei (goal:List yt) (s:List UInt8):Prop where
 err:yU goal=0
 all:∀ t∈goal,t.name=s
def zol (w:World) (s:List UInt8) (e:Ending) (w' :World):Prop:=
 ∃ b v,e= .returned (.tuple #[.map (some b),v,.int .i64 0])/\zG w' b/\yh w' w'.heap.size v [s]/\w.heap.size<=b/\Below w.heap.size w w'
set_option maxRecDepth 100000 in
theorem zea (A A2:Option Addr) (n c n2 c2:Nat) (rows:List vp) (goal:List yt) (s:List UInt8) (w:World) (hr:Yp w (.slice A n c) rows) (hg:vE w (.slice A2 n2 c2) goal) (h1:YO rows s) (h2:zei goal s):
 Calls Tryz.prog 98 #[.slice A n c,.slice A2 n2 c2] w (zol w s):=by
 have hmm:=@run_makeMap Tryz.prog
 have hx:=zf w (.map #[] 0)
 have HB:=ze (zG.new w)
 have HR:=ze (yd.below hr hx)
 have HG:=ze (zr.below hg hx)
 have HC:Hid (Chg (· =w.heap.size) w (w.alloc (.map #[] 0))):=Chg.of_below hx
 have H1:=ze h1
 have H2:=ze h2
 clear hr hg h1 h2 hx
 go_enter Tryz.func98,Tryz.ntmps98
 go_upto_region 2 with fail
 clear hmm
 have HLT:Hid (w.heap.size<=w.heap.size):=Nat.le_refl _
 generalize w.alloc (.map #[] 0)=W at HB HR HG HC |-
 obtain ⟨b,hb⟩:∃ b,b=w.heap.size:=⟨_,rfl⟩
 have HLE:Hid (w.heap.size<=b):=Nat.le_of_eq hb.symm
 have hbs:=HB.out.lt
 have HBW:Hid (w.heap.size<=W.heap.size):=HC.out.size
 rw [<- hb] at HB HC |-
 clear hb HLT hbs
 have hck:=za3 b A n c rows s W HB.out (HR.out.more HBW.out) H1.out
 have HCK:=ze hck
 clear hck
 go_wp2_with fail
 refine HCK.out.mono ?_
 rintro e w1 ⟨rfl,hB1,hc1⟩
 replace HR:=ze (HB.out.keepRows hc1 HR.out)
 replace HG:=ze (HB.out.keepT hc1 HG.out)
 replace HC:=ze (xu HC.out hc1)
 replace HB:=ze hB1
 clear hB1 hc1 HCK HBW
 have htm:=zah b A2 n2 c2 goal w1 HB.out (HG.out.more HC.out.size)
 rw [H2.out.err] at htm
 have HTM:=ze htm
 clear htm
 go_wp2_with fail
 refine HTM.out.mono ?_
 rintro e w2 ⟨rfl,hB1,hc1⟩
 replace HR:=ze (HB.out.keepRows hc1 HR.out)
 replace HG:=ze (HB.out.keepT hc1 HG.out)
 replace HC:=ze (xu HC.out hc1)
 replace HB:=ze hB1
 clear hB1 hc1 HTM
 have hx:=zf w2 (.cells #[.slice A2 n2 c2] 35)
 have hnew:=Blk.new w2 35 #[.slice A2 n2 c2]
 have HO:Hid (xQ (w2.alloc (.cells #[.slice A2 n2 c2] 35)) w2.heap.size 35 1 (.slice (some ⟨w2.heap.size,0,none⟩) 1 1) 1 [.slice A2 n2 c2]):=by
  refine ⟨⟨rfl,.inr ⟨_,1,_,rfl,Nat.le_refl _,hnew,Nat.le_refl _,by unfold maxLen;omega,rfl,rfl⟩⟩,fun g hg=>?_⟩
  injection hg with hg
  subst hg
  exact hnew.noDig (Zd (by intro u hu;simp at hu;subst hu;exact ye _ _ _))
 have hun:=zdj w2.heap.size 1 A n c (.slice (some ⟨w2.heap.size,0,none⟩) 1 1) [.slice A2 n2 c2] rows [goal] s (w2.alloc (.cells #[.slice A2 n2 c2] 35)) ((yd.below HR.out hx).more HC.out.size) HO.out
  ⟨rfl,fun j hj=>by
   have:j=0:=by simp at hj;omega
   subst this
   exact (zr.below HG.out hx).more HC.out.size⟩ rfl (by omega) hx.size H1.out.small
  (by
    intro l hl t ht
    rcases List.mem_append.1 hl with hl | hl
    . rw [List.mem_singleton] at hl;subst hl;exact H2.out.all t ht
    . rw [List.mem_map] at hl
      obtain ⟨r,hr,rfl⟩:=hl
      exact H1.out.all r hr t ht)
  (by
    obtain ⟨r,hr,hne⟩:=H1.out.ex
    exact ⟨r.terms,List.mem_append.2 (.inr (by rw [List.mem_map];exact ⟨r,hr,rfl⟩)),hne⟩)
 have HUN:=ze hun
 have HX:=ze hx
 clear hun hx hnew HO HR HG
 go_wp2_with fail
 refine HUN.out.mono ?_
 rintro e w3 ⟨v,rfl,hn,hb3⟩
 have hb4:Below w2.heap.size w2 w3:=HX.out.trans hb3
 replace HB:=ze (HB.out.below hb4)
 replace HC:=ze (yi HC.out hb4)
 have HN:=ze hn
 obtain ⟨A3,c3,rfl,_⟩:=hn
 clear hb3 hb4 HUN HX
 go_wp2_with fail
 go_ret3
 exact ⟨b,_,rfl,HB.out,HN.out,HLE.out,HC.out.below (Nat.le_refl _) (fun x e=>by subst e;exact HLE.out)⟩
end Go.Proofs.YtnpbflhjglkokaaGreatDoor
