/- Parts of the proof: memory, numbers, walks of the functions that are called. -/
import Derived.Test.YtkmcmmcencdcpaaGreatDoorMb21
import Derived.Test.YtkmcmmcencdcpaaGreatDoorMb24
set_option linter.unusedVariables false
set_option linter.unusedSimpArgs false
set_option maxRecDepth 100000
set_option maxHeartbeats 32000000
namespace Go.Proofs.YtkmcmmcencdcpaaGreatDoor
open Go.RowKit Go.Deep
attribute [local go_sem ↓] Go.wp_at_zero Go.wp_at_succ
def ChkR (w0:World) (b B:Nat) (rv:Value) (rows:List yv) (iv:Value) (wr:World):Prop:=
 ∃ i:Nat,i<=rows.length/\iv= .int .i64 i/\Hid (∀ j,j<i->xf (rows.getD j default)=0)/\Hid (zw wr b)/\Hid (zP wr B rv rows)/\Hid (Chg (· =b) w0 wr)
theorem Xq {rows:List yv} (h:800<rows.length):yH rows=3:=by unfold yH;rw [if_pos h]
theorem zc3 {rows:List yv} {i:Nat} (h:¬ 800<rows.length) (hi:i<rows.length) (h0:∀ j,j<i->xf (rows.getD j default)=0) (hne:xf (rows.getD i default)≠0):yH rows=xf (rows.getD i default):=by
 have e:=xX (f:=fun i=>xf (rows.getD i default)) hi h0 hne
 unfold yH
 rw [if_neg h,if_pos (by rw [e];exact hne),e]
theorem XI {rows:List yv} (h:¬ 800<rows.length) (h0:∀ j,j<rows.length->xf (rows.getD j default)=0):yH rows=if 80<(yJ rows []).length then 3 else 0:=by
 have e:=xK (f:=fun i=>xf (rows.getD i default)).2 h0
 unfold yH
 rw [if_neg h,if_neg (by rw [e];exact fun h=>h rfl)]
theorem Zh (b:Nat) (A:Option Addr) (n c:Nat) (rows:List yv) (w:World) (hB:zw w b) (hr:xU w (.slice A n c) rows) (hcnt:rows.length<=800->(yJ rows []).length<=100000):
 Calls Tryz.prog 40 #[.map (some b),.slice A n c] w (XW b (yH rows) w):=by
 obtain rfl:=hr.len
 have HB:=ze hB
 have HR:=ze hr
 have HC:=ze (Chg.refl (S:=(· =b)) w)
 by_cases hlen:800<rows.length
 . have d0:decide ((rows.length:Int)>800)=true:=by rw [decide_eq_true_iff];omega
   have HE:=ze (Xq hlen);clear hB hr hcnt
   go_enter Tryz.func40,Tryz.ntmps40
   go_wp2_with fail;go_ret;exact ⟨by rw [HE.out];rfl,HB.out,HC.out⟩
 have d0:decide ((rows.length:Int)>800)=false:=by rw [decide_eq_false_iff_not];omega
 have HL:=ze hlen
 have HCN:=ze (hcnt (by omega))
 clear hB hr hcnt
 go_enter Tryz.func40,Tryz.ntmps40
 go_wp2_with fail
 go_loopw [13] (ChkR w b w.heap.size (.slice A rows.length c) rows) (fun iv _=>rows.length - (intOf iv).toNat)
 case atStart=>exact ⟨0,Nat.zero_le _,rfl,(fun j h=>by omega),HB,HR,HC⟩
 case round=>
  clear HB HR HC d0
  obtain ⟨i,hi,rfl,HJ,HB,HR,HC⟩:=hrel
  by_cases hil:i<rows.length
  . have hii:(i:Int)<(rows.length:Int):=by omega
    obtain ⟨ad,AT,nt,ct,eA,hbb,p0,p1,ht,hsb⟩:=HR.out.at_ hil;subst eA;have hx:=zh wr (.cells #[.slice AT nt ct,str rows[i].bound] 49);have HK:=ze (Blk.new wr 49 #[.slice AT nt ct,str rows[i].bound]);have hrow:=fun w' (k:zw w' b) (t:vk w' (.slice AT nt ct) rows[i].terms)=>zjh b AT nt ct rows[i] w' k t hsb
    have hgd:rows.getD i default=rows[i]:=by simp [List.getD,List.getElem?_eq_getElem hil]
    have HRW:=ze hrow;have HT:Hid (vk (wr.alloc (.cells #[.slice AT nt ct,str rows[i].bound] 49)) (.slice AT nt ct) rows[i].terms):=(zo.below ht hx).more (Nat.le_trans HC.out.size hx.size);replace HB:=ze (HB.out.below hx);replace HR:=ze (zP.below HR.out hx);replace HC:=ze (yc HC.out hx);have HGD:=ze hgd;clear hx ht hsb hrow hgd
    go_upto_region 6 with fail
    clear p0 p1 hbb;generalize wr.alloc (.cells #[.slice AT nt ct,str rows[i].bound] 49)=W2 at HK HT HB HR HC |-;generalize wr.heap.size=gr at HK |-;have r0:=HK.out.cell 0;have r1:=HK.out.cell 1;simp at r0 r1
    by_cases hre:xf rows[i]=0
    . rw [hre] at HRW
      have HJ2:Hid (∀ j,j<i+1->xf (rows.getD j default)=0):=by
       intro j hj
       by_cases e:j=i
       . subst e;rw [HGD.out];exact hre
       . exact HJ.out j (by omega)
      clear hre;go_wp2_with fail;refine (HRW.out _ HB.out HT.out).mono ?_;rintro e w3 ⟨rfl,hB1,hc1⟩;replace HR:=ze (HB.out.keepRows hc1 HR.out);replace HC:=ze (yQ HC.out hc1);replace HB:=ze hB1;clear hB1 hc1 HRW HT HK r0 r1;go_wp2_with fail;go_roundw
      case rel=>exact ⟨i+1,by omega,by go_num,HJ2,HB,HR,HC⟩
      case measure=>simp [intOf];omega
    . have HER:Hid (yH rows=xf rows[i]):=by
       have:=zc3 HL.out hil HJ.out (by rw [HGD.out];exact hre);rw [HGD.out] at this;exact this
      obtain ⟨z,hz⟩:∃ z,xf rows[i]=z:=⟨_,rfl⟩;rw [hz] at HRW HER hre;have hzb:(z == 0)=false:=beq_eq_false_iff_ne.2 hre;clear hz hre;go_wp2_with fail;refine (HRW.out _ HB.out HT.out).mono ?_;rintro e w3 ⟨rfl,hB1,hc1⟩;replace HC:=ze (yQ HC.out hc1);replace HB:=ze hB1;clear hB1 hc1 HRW HT HK r0 r1;go_wp2_with fail;go_ret;exact ⟨by rw [HER.out];rfl,HB.out,HC.out⟩
  . obtain rfl:rows.length=i:=by omega
    have hun:=Xj wr.heap.size 0 A rows.length c (.slice none 0 0) [] rows [] wr (HR.out.more HC.out.size) (vj _ _ _ _) ⟨rfl,fun j hj=>by cases hj⟩ rfl (by omega) (Nat.le_refl _)
     (fun l hl=>by rw [hl.eq];exact HCN.out)
    have HUN:=ze hun;clear hun HR;go_wp2_with fail;refine HUN.out.mono ?_;rintro e w3 ⟨v,l,rfl,hin,hn,hb3⟩;have hll:l.length=(yJ rows []).length:=by rw [hin.eq];rfl
    have HER:Hid (yH rows=if 80<l.length then 3 else 0):=by
     show _=_
     rw [hll];exact XI HL.out HJ.out
    obtain ⟨A3,c3,rfl,_⟩:=hn;replace HB:=ze (HB.out.below hb3);replace HC:=ze (yc HC.out hb3);clear hb3 HUN hin hll HJ HCN
    by_cases h8:80<l.length
    . rw [if_pos h8] at HER
      have d8:(80:Int)<(l.length:Int):=by omega
      clear h8;go_wp2_with fail;go_ret;exact ⟨by rw [HER.out];rfl,HB.out,HC.out⟩
    . rw [if_neg h8] at HER
      have d8:¬ (80:Int)<(l.length:Int):=by omega
      clear h8;go_wp2_with fail;go_ret;exact ⟨by rw [HER.out];rfl,HB.out,HC.out⟩
structure Yk (rows:List yv) (s:List UInt8):Prop where
 err:∀ r∈rows,xf r=0
 len:rows.length<=800
 all:∀ r∈rows,∀ t∈r.terms,t.name=s
 ex:∃ r∈rows,r.terms≠[]
 small:s.length<=1073741824
theorem Yk.err0 {rows:List yv} {s:List UInt8} (h:Yk rows s):yH rows=0/\(yJ rows []).length=1:=by
 have ha:∀ x∈zY ([] ++ rows.map (·.terms)),x=s:=by
  intro x hx
  unfold zY at hx
  rw [List.nil_append,List.mem_flatMap] at hx
  obtain ⟨l,hl,hx⟩:=hx
  obtain ⟨t,ht,rfl⟩:=List.mem_map.1 hx
  obtain ⟨r,hr,rfl⟩:=List.mem_map.1 hl
  exact h.all r hr t ht
 have he:zY ([] ++ rows.map (·.terms))≠[]:=by
  obtain ⟨r,hr,hne⟩:=h.ex
  obtain ⟨t,q,e⟩:=List.exists_cons_of_ne_nil hne
  intro h0
  have:t.name∈zY ([] ++ rows.map (·.terms)):=by
   unfold zY;exact List.mem_flatMap.2 ⟨_,List.mem_map.2 ⟨r,hr,rfl⟩,List.mem_map.2 ⟨t,by rw [e];exact List.mem_cons_self ..,rfl⟩⟩
  rw [h0] at this
  cases this
 have h1:(yJ rows []).length=1:=by
  have e:yJ rows []=[s]:=zab ha he (Zc _)
  rw [e];rfl
 refine ⟨?_,h1⟩
 rw [XI (by have:=h.len;omega) (fun j hj=>by
  have e:rows.getD j default=rows[j]:=by simp [List.getD,List.getElem?_eq_getElem hj]
  rw [e];exact h.err _ (List.getElem_mem hj)),h1]
 rfl
theorem V6 (b:Nat) (A:Option Addr) (n c:Nat) (rows:List yv) (s:List UInt8) (w:World) (hB:zw w b) (hr:xU w (.slice A n c) rows) (h1:Yk rows s):
 Calls Tryz.prog 40 #[.map (some b),.slice A n c] w (XW b 0 w):=by
 have h:=Zh b A n c rows w hB hr (fun _=>by rw [h1.err0.2];omega)
 rw [h1.err0.1] at h
 exact h
theorem zdi (A:Option Addr) (n c:Nat) (rows:List yv) (w:World) (hr:xU w (.slice A n c) rows) (hcnt:rows.length<=800->(yJ rows []).length<=100000):
 Calls Tryz.prog 34 #[.slice A n c] w (zfa w (.int .i64 (yH rows))):=by
 have hmm:=@run_makeMap Tryz.prog
 have hx:=zh w (.map #[] 0)
 have HB:=ze (zw.new w)
 have HR:=ze (zP.below hr hx)
 have HC:Hid (Chg (· =w.heap.size) w (w.alloc (.map #[] 0))):=Chg.of_below hx
 have HCN:=ze hcnt
 clear hr hx hcnt
 go_enter Tryz.func34,Tryz.ntmps34
 go_upto_region 2 with fail
 clear hmm
 generalize w.alloc (.map #[] 0)=W at HB HR HC |-
 obtain ⟨b,hb⟩:∃ b,b=w.heap.size:=⟨_,rfl⟩
 have HLE:Hid (w.heap.size<=b):=Nat.le_of_eq hb.symm
 have HBW:Hid (w.heap.size<=W.heap.size):=HC.out.size
 rw [<- hb] at HB HC |-
 clear hb
 have hck:=Zh b A n c rows W HB.out (HR.out.more HBW.out) HCN.out
 have HCK:=ze hck
 clear hck
 go_wp2_with fail
 refine HCK.out.mono ?_
 rintro e w1 ⟨rfl,hB1,hc1⟩
 replace HC:=ze (yQ HC.out hc1)
 clear hB1 hc1 HCK HBW HB HR
 go_wp2_with fail
 go_ret
 exact ⟨rfl,HC.out.below (Nat.le_refl _) (fun x e=>by subst e;exact HLE.out)⟩
structure zdk (goal:List zR) (s:List UInt8):Prop where
 err:yF goal=0
 all:∀ t∈goal,t.name=s
def zl4 (w:World) (s:List UInt8) (e:Ending) (w' :World):Prop:=
 ∃ b v,e= .returned (.tuple #[.map (some b),v,.int .i64 0])/\zw w' b/\ya w' w'.heap.size v [s]/\w.heap.size<=b/\Below w.heap.size w w'
theorem zdf (A A2:Option Addr) (n c n2 c2:Nat) (rows:List yv) (goal:List zR) (s:List UInt8) (w:World) (hr:xU w (.slice A n c) rows) (hg:vk w (.slice A2 n2 c2) goal) (h1:Yk rows s) (h2:zdk goal s):
 Calls Tryz.prog 66 #[.slice A n c,.slice A2 n2 c2] w (zl4 w s):=by
 have hmm:=@run_makeMap Tryz.prog
 have hx:=zh w (.map #[] 0)
 have HB:=ze (zw.new w)
 have HR:=ze (zP.below hr hx)
 have HG:=ze (zo.below hg hx)
 have HC:Hid (Chg (· =w.heap.size) w (w.alloc (.map #[] 0))):=Chg.of_below hx
 have H1:=ze h1
 have H2:=ze h2
 clear hr hg h1 h2 hx
 go_enter Tryz.func66,Tryz.ntmps66
 go_upto_region 2 with fail
 clear hmm
 have HLT:Hid (w.heap.size<=w.heap.size):=Nat.le_refl _
 generalize w.alloc (.map #[] 0)=W at HB HR HG HC |-
 obtain ⟨b,hb⟩:∃ b,b=w.heap.size:=⟨_,rfl⟩
 have HLE:Hid (w.heap.size<=b):=Nat.le_of_eq hb.symm
 have hbs:=HB.out.lt
 have HBW:Hid (w.heap.size<=W.heap.size):=HC.out.size
 rw [<- hb] at HB HC |-
 clear hb HLT hbs
 have hck:=V6 b A n c rows s W HB.out (HR.out.more HBW.out) H1.out
 have HCK:=ze hck
 clear hck
 go_wp2_with fail
 refine HCK.out.mono ?_
 rintro e w1 ⟨rfl,hB1,hc1⟩
 replace HR:=ze (HB.out.keepRows hc1 HR.out)
 replace HG:=ze (HB.out.keepT hc1 HG.out)
 replace HC:=ze (yQ HC.out hc1)
 replace HB:=ze hB1
 clear hB1 hc1 HCK HBW
 have htm:=VA b A2 n2 c2 goal w1 HB.out (HG.out.more HC.out.size)
 rw [H2.out.err] at htm
 have HTM:=ze htm
 clear htm
 go_wp2_with fail
 refine HTM.out.mono ?_
 rintro e w2 ⟨rfl,hB1,hc1⟩
 replace HR:=ze (HB.out.keepRows hc1 HR.out)
 replace HG:=ze (HB.out.keepT hc1 HG.out)
 replace HC:=ze (yQ HC.out hc1)
 replace HB:=ze hB1
 clear hB1 hc1 HTM
 have hx:=zh w2 (.cells #[.slice A2 n2 c2] 30)
 have hnew:=Blk.new w2 30 #[.slice A2 n2 c2]
 have HO:Hid (xI (w2.alloc (.cells #[.slice A2 n2 c2] 30)) w2.heap.size 30 1 (.slice (some ⟨w2.heap.size,0,none⟩) 1 1) 1 [.slice A2 n2 c2]):=by
  refine ⟨⟨rfl,.inr ⟨_,1,_,rfl,Nat.le_refl _,hnew,Nat.le_refl _,by unfold maxLen;omega,rfl,rfl⟩⟩,fun g hg=>?_⟩
  injection hg with hg
  subst hg
  exact hnew.noDig (vJ (by intro u hu;simp at hu;subst hu;exact zO _ _ _))
 have hun:=zaq w2.heap.size 1 A n c (.slice (some ⟨w2.heap.size,0,none⟩) 1 1) [.slice A2 n2 c2] rows [goal] s (w2.alloc (.cells #[.slice A2 n2 c2] 30)) ((zP.below HR.out hx).more HC.out.size) HO.out
  ⟨rfl,fun j hj=>by
   have:j=0:=by simp at hj;omega
   subst this
   exact (zo.below HG.out hx).more HC.out.size⟩ rfl (by omega) hx.size H1.out.small
  (by
    intro l hl t ht
    rcases List.mem_append.1 hl with hl | hl
    . rw [List.mem_singleton] at hl;subst hl;exact H2.out.all t ht
    . rw [List.mem_map] at hl
      obtain ⟨r,hr,rfl⟩:=hl
      exact H1.out.all r hr t ht)
  (by
    obtain ⟨r,hr,hne⟩:=H1.out.ex
    exact ⟨r.terms,List.mem_append.2 (.inr (by rw [List.mem_map];exact ⟨r,hr,rfl⟩)),hne⟩)
 have HUN:=ze hun
 have HX:=ze hx
 clear hun hx hnew HO HR HG
 go_wp2_with fail
 refine HUN.out.mono ?_
 rintro e w3 ⟨v,rfl,hn,hb3⟩
 have hb4:Below w2.heap.size w2 w3:=HX.out.trans hb3
 replace HB:=ze (HB.out.below hb4)
 replace HC:=ze (yc HC.out hb4)
 have HN:=ze hn
 obtain ⟨A3,c3,rfl,_⟩:=hn
 clear hb3 hb4 HUN HX
 go_wp2_with fail
 go_ret3
 exact ⟨b,_,rfl,HB.out,HN.out,HLE.out,HC.out.below (Nat.le_refl _) (fun x e=>by subst e;exact HLE.out)⟩
end Go.Proofs.YtkmcmmcencdcpaaGreatDoor
