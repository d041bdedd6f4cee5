/- Parts of the proof: memory, numbers, walks of the functions that are called. -/
import Derived.Test.YtnpbflhjglkokaaGreatDoorMr23
import Derived.Test.YtnpbflhjglkokaaGreatDoorMr26
set_option linter.unusedVariables false
set_option linter.unusedSimpArgs false
set_option maxRecDepth 100000
set_option maxHeartbeats 32000000
namespace Go.Proofs.YtnpbflhjglkokaaGreatDoor
open Go.RowKit Go.Deep
attribute [local go_sem ↓] Go.wp_at_zero Go.wp_at_succ
def ChkR (w0:World) (b B:Nat) (rv:Value) (rows:List xe) (iv:Value) (wr:World):Prop:=
 ∃ i:Nat,i<=rows.length/\iv= .int .i64 i/\Hid (∀ j,j<i->yQ (rows.getD j default)=0)/\Hid (zH wr b)/\Hid (zV wr B rv rows)/\Hid (Chg (· =b) w0 wr)
theorem Zz {rows:List xe} (h:800<rows.length):xa rows=3:=by unfold xa;rw [if_pos h]
theorem VS {rows:List xe} {i:Nat} (h:¬ 800<rows.length) (hi:i<rows.length) (h0:∀ j,j<i->yQ (rows.getD j default)=0) (hne:yQ (rows.getD i default)≠0):xa rows=yQ (rows.getD i default):=by
 have e:=yG (f:=fun i=>yQ (rows.getD i default)) hi h0 hne
 unfold xa
 rw [if_neg h,if_pos (by rw [e];exact hne),e]
theorem Xe {rows:List xe} (h:¬ 800<rows.length) (h0:∀ j,j<rows.length->yQ (rows.getD j default)=0):xa rows=if 80<(yy rows []).length then 3 else 0:=by
 have e:=vS (f:=fun i=>yQ (rows.getD i default)).2 h0
 unfold xa
 rw [if_neg h,if_neg (by rw [e];exact fun h=>h rfl)]
theorem YW (b:Nat) (A:Option Addr) (n c:Nat) (rows:List xe) (w:World) (hB:zH w b) (hr:xj w (.slice A n c) rows) (hcnt:rows.length<=800->(yy rows []).length<=100000):
 Calls Tryz.prog 54 #[.map (some b),.slice A n c] w (VV b (xa rows) w):=by
 obtain rfl:=hr.len
 have HB:=ze hB
 have HR:=ze hr
 have HC:=ze (Chg.refl (S:=(· =b)) w)
 by_cases hlen:800<rows.length
 . have d0:decide ((rows.length:Int)>800)=true:=by rw [decide_eq_true_iff];omega
   have HE:=ze (Zz hlen);clear hB hr hcnt
   go_enter Tryz.func54,Tryz.ntmps54
   go_wp2_with fail;go_ret;exact ⟨by rw [HE.out];rfl,HB.out,HC.out⟩
 have d0:decide ((rows.length:Int)>800)=false:=by rw [decide_eq_false_iff_not];omega
 have HL:=ze hlen
 have HCN:=ze (hcnt (by omega))
 clear hB hr hcnt
 go_enter Tryz.func54,Tryz.ntmps54
 go_wp2_with fail
 go_loopw [13] (ChkR w b w.heap.size (.slice A rows.length c) rows) (fun iv _=>rows.length - (intOf iv).toNat)
 case atStart=>exact ⟨0,Nat.zero_le _,rfl,(fun j h=>by omega),HB,HR,HC⟩
 case round=>
  clear HB HR HC d0
  obtain ⟨i,hi,rfl,HJ,HB,HR,HC⟩:=hrel
  by_cases hil:i<rows.length
  . have hii:(i:Int)<(rows.length:Int):=by omega
    obtain ⟨ad,AT,nt,ct,eA,hbb,p0,p1,ht,hsb⟩:=HR.out.at_ hil;subst eA;have hx:=zf wr (.cells #[.slice AT nt ct,str rows[i].bound] 57);have HK:=ze (Blk.new wr 57 #[.slice AT nt ct,str rows[i].bound]);have hrow:=fun w' (k:zH w' b) (t:vh w' (.slice AT nt ct) rows[i].terms)=>zlo b AT nt ct rows[i] w' k t hsb
    have hgd:rows.getD i default=rows[i]:=by simp [List.getD,List.getElem?_eq_getElem hil]
    have HRW:=ze hrow;have HT:Hid (vh (wr.alloc (.cells #[.slice AT nt ct,str rows[i].bound] 57)) (.slice AT nt ct) rows[i].terms):=(zp.below ht hx).more (Nat.le_trans HC.out.size hx.size);replace HB:=ze (HB.out.below hx);replace HR:=ze (zV.below HR.out hx);replace HC:=ze (yl HC.out hx);have HGD:=ze hgd;clear hx ht hsb hrow hgd
    go_upto_region 6 with fail
    clear p0 p1 hbb;generalize wr.alloc (.cells #[.slice AT nt ct,str rows[i].bound] 57)=W2 at HK HT HB HR HC |-;generalize wr.heap.size=gr at HK |-;have r0:=HK.out.cell 0;have r1:=HK.out.cell 1;simp at r0 r1
    by_cases hre:yQ rows[i]=0
    . rw [hre] at HRW
      have HJ2:Hid (∀ j,j<i+1->yQ (rows.getD j default)=0):=by
       intro j hj
       by_cases e:j=i
       . subst e;rw [HGD.out];exact hre
       . exact HJ.out j (by omega)
      clear hre;go_wp2_with fail;refine (HRW.out _ HB.out HT.out).mono ?_;rintro e w3 ⟨rfl,hB1,hc1⟩;replace HR:=ze (HB.out.keepRows hc1 HR.out);replace HC:=ze (xy HC.out hc1);replace HB:=ze hB1;clear hB1 hc1 HRW HT HK r0 r1;go_wp2_with fail;go_roundw
      case rel=>exact ⟨i+1,by omega,by go_num,HJ2,HB,HR,HC⟩
      case measure=>simp [intOf];omega
    . have HER:Hid (xa rows=yQ rows[i]):=by
       have:=VS HL.out hil HJ.out (by rw [HGD.out];exact hre);rw [HGD.out] at this;exact this
      obtain ⟨z,hz⟩:∃ z,yQ rows[i]=z:=⟨_,rfl⟩;rw [hz] at HRW HER hre;have hzb:(z == 0)=false:=beq_eq_false_iff_ne.2 hre;clear hz hre;go_wp2_with fail;refine (HRW.out _ HB.out HT.out).mono ?_;rintro e w3 ⟨rfl,hB1,hc1⟩;replace HC:=ze (xy HC.out hc1);replace HB:=ze hB1;clear hB1 hc1 HRW HT HK r0 r1;go_wp2_with fail;go_ret;exact ⟨by rw [HER.out];rfl,HB.out,HC.out⟩
  . obtain rfl:rows.length=i:=by omega
    have hun:=Y6 wr.heap.size 0 A rows.length c (.slice none 0 0) [] rows [] wr (HR.out.more HC.out.size) (vK _ _ _ _) ⟨rfl,fun j hj=>by cases hj⟩ rfl (by omega) (Nat.le_refl _)
     (fun l hl=>by rw [hl.eq];exact HCN.out)
    have HUN:=ze hun;clear hun HR;go_wp2_with fail;refine HUN.out.mono ?_;rintro e w3 ⟨v,l,rfl,hin,hn,hb3⟩;have hll:l.length=(yy rows []).length:=by rw [hin.eq];rfl
    have HER:Hid (xa rows=if 80<l.length then 3 else 0):=by
     show _=_
     rw [hll];exact Xe HL.out HJ.out
    obtain ⟨A3,c3,rfl,_⟩:=hn;replace HB:=ze (HB.out.below hb3);replace HC:=ze (yl HC.out hb3);clear hb3 HUN hin hll HJ HCN
    by_cases h8:80<l.length
    . rw [if_pos h8] at HER
      have d8:(80:Int)<(l.length:Int):=by omega
      clear h8;go_wp2_with fail;go_ret;exact ⟨by rw [HER.out];rfl,HB.out,HC.out⟩
    . rw [if_neg h8] at HER
      have d8:¬ (80:Int)<(l.length:Int):=by omega
      clear h8;go_wp2_with fail;go_ret;exact ⟨by rw [HER.out];rfl,HB.out,HC.out⟩
structure Xa (rows:List xe) (s:List UInt8):Prop where
 err:∀ r∈rows,yQ r=0
 len:rows.length<=800
 all:∀ r∈rows,∀ t∈r.terms,t.name=s
 ex:∃ r∈rows,r.terms≠[]
 small:s.length<=1073741824
theorem Xa.err0 {rows:List xe} {s:List UInt8} (h:Xa rows s):xa rows=0/\(yy rows []).length=1:=by
 have ha:∀ x∈zS ([] ++ rows.map (·.terms)),x=s:=by
  intro x hx
  unfold zS at hx
  rw [List.nil_append,List.mem_flatMap] at hx
  obtain ⟨l,hl,hx⟩:=hx
  obtain ⟨t,ht,rfl⟩:=List.mem_map.1 hx
  obtain ⟨r,hr,rfl⟩:=List.mem_map.1 hl
  exact h.all r hr t ht
 have he:zS ([] ++ rows.map (·.terms))≠[]:=by
  obtain ⟨r,hr,hne⟩:=h.ex
  obtain ⟨t,q,e⟩:=List.exists_cons_of_ne_nil hne
  intro h0
  have:t.name∈zS ([] ++ rows.map (·.terms)):=by
   unfold zS;exact List.mem_flatMap.2 ⟨_,List.mem_map.2 ⟨r,hr,rfl⟩,List.mem_map.2 ⟨t,by rw [e];exact List.mem_cons_self ..,rfl⟩⟩
  rw [h0] at this
  cases this
 have h1:(yy rows []).length=1:=by
  have e:yy rows []=[s]:=zb4 ha he (ZG _)
  rw [e];rfl
 refine ⟨?_,h1⟩
 rw [Xe (by have:=h.len;omega) (fun j hj=>by
  have e:rows.getD j default=rows[j]:=by simp [List.getD,List.getElem?_eq_getElem hj]
  rw [e];exact h.err _ (List.getElem_mem hj)),h1]
 rfl
theorem zaw (b:Nat) (A:Option Addr) (n c:Nat) (rows:List xe) (s:List UInt8) (w:World) (hB:zH w b) (hr:xj w (.slice A n c) rows) (h1:Xa rows s):
 Calls Tryz.prog 54 #[.map (some b),.slice A n c] w (VV b 0 w):=by
 have h:=YW b A n c rows w hB hr (fun _=>by rw [h1.err0.2];omega)
 rw [h1.err0.1] at h
 exact h
theorem VU (A:Option Addr) (n c:Nat) (rows:List xe) (w:World) (hr:xj w (.slice A n c) rows) (hcnt:rows.length<=800->(yy rows []).length<=100000):
 Calls Tryz.prog 15 #[.slice A n c] w (zca w (.int .i64 (xa rows))):=by
 have hmm:=@run_makeMap Tryz.prog
 have hx:=zf w (.map #[] 0)
 have HB:=ze (zH.new w)
 have HR:=ze (zV.below hr hx)
 have HC:Hid (Chg (· =w.heap.size) w (w.alloc (.map #[] 0))):=Chg.of_below hx
 have HCN:=ze hcnt
 clear hr hx hcnt
 go_enter Tryz.func15,Tryz.ntmps15
 go_upto_region 2 with fail
 clear hmm
 generalize w.alloc (.map #[] 0)=W at HB HR HC |-
 obtain ⟨b,hb⟩:∃ b,b=w.heap.size:=⟨_,rfl⟩
 have HLE:Hid (w.heap.size<=b):=Nat.le_of_eq hb.symm
 have HBW:Hid (w.heap.size<=W.heap.size):=HC.out.size
 rw [<- hb] at HB HC |-
 clear hb
 have hck:=YW b A n c rows W HB.out (HR.out.more HBW.out) HCN.out
 have HCK:=ze hck
 clear hck
 go_wp2_with fail
 refine HCK.out.mono ?_
 rintro e w1 ⟨rfl,hB1,hc1⟩
 replace HC:=ze (xy HC.out hc1)
 clear hB1 hc1 HCK HBW HB HR
 go_wp2_with fail
 go_ret
 exact ⟨rfl,HC.out.below (Nat.le_refl _) (fun x e=>by subst e;exact HLE.out)⟩
def Xn (w:World) (rows:List xe) (e:Ending) (w' :World):Prop:=
 ∃ v,e= .returned (.tuple #[v,.int .i64 (xa rows)])/\zP w' w'.heap.size v (if xa rows=0 then yy rows [] else [])/\Below w.heap.size w w'
theorem VT (w:World) (B:Nat):zP w B (.slice none 0 0) []:=⟨none,0,rfl,Nat.le_refl _,by unfold maxLen;omega,by simp,zR.none_,fun x hx=>by cases hx⟩
theorem ze1 (A:Option Addr) (n c:Nat) (rows:List xe) (w:World) (hr:xj w (.slice A n c) rows) (hcnt:rows.length<=800->(yy rows []).length<=100000):
 Calls Tryz.prog 13 #[.slice A n c] w (Xn w rows):=by
 have hck:=VU A n c rows w hr hcnt
 have HR:=ze hr
 have HCN:=ze hcnt
 have HE:Hid (xa rows=0->rows.length<=800):=ze (fun h=>by
  rcases Nat.lt_or_ge 800 rows.length with h8 | h8
  . rw [Zz h8] at h;omega
  . exact h8)
 unfold Xn
 obtain ⟨z,hz⟩:∃ z,xa rows=z:=⟨_,rfl⟩
 rw [hz] at hck HE |-
 have HCK:=ze hck
 clear hr hcnt hck hz
 go_enter Tryz.func13,Tryz.ntmps13
 go_wp2_with fail
 refine HCK.out.mono ?_
 rintro e w1 ⟨rfl,hb1⟩
 replace HR:=ze (zV.below HR.out hb1)
 have HB:=ze hb1
 clear hb1 HCK
 by_cases hz0:z=0
 . subst hz0
   have hun:=Y6 w1.heap.size 0 A n c (.slice none 0 0) [] rows [] w1 (HR.out.more HB.out.size) (vK _ _ _ _) ⟨rfl,fun j hj=>by cases hj⟩ rfl (by omega) (Nat.le_refl _)
    (fun l hl=>by rw [hl.eq];exact HCN.out (HE.out rfl))
   have HUN:=ze hun;clear hun HR;go_wp2_with fail;refine HUN.out.mono ?_;rintro e w3 ⟨v,l,rfl,hin,hn,hb3⟩;have hll:l=yy rows []:=hin.eq;rw [hll] at hn;have HN:=ze hn;obtain ⟨A3,c3,rfl,_⟩:=hn;replace HB:=eb_ HB hb3;clear hb3 HUN hin hll HCN HE;go_wp2_with fail;go_ret2;exact ⟨_,rfl,HN.out,HB.out⟩
 . have hzb:(z == 0)=false:=beq_eq_false_iff_ne.2 hz0
   have HZ:=ze hz0;clear hz0 HR HCN HE;go_wp2_with fail;go_ret2;exact ⟨_,rfl,VT _ _,HB.out⟩
theorem zbeW:(Tryz.prog.info? 9).map (fun i=>(i.zero,i.size,i.bytes))=some (some (.string ⟨#[]⟩),1,16):=by kernel_rfl
theorem Yq:Tryz.prog.underlying 25=some (.slice 9):=by kernel_rfl
theorem yZ.count {l ns:List (List UInt8)} (h:yZ l ns):l.length<=ns.length:=by rw [h.eq];exact ZA ns
theorem Zy (l:List (List UInt8)):∀ u∈l.map str,u.oneCell' =true:=by
 intro u hu
 obtain ⟨x,_,rfl⟩:=List.mem_map.1 hu
 rfl
def WthR (w0:World) (B:Nat) (tv:Value) (t:List yc) (ns:List (List UInt8)) (lv iv:Value) (wr:World):Prop:=
 ∃ (i:Nat) (l:List (List UInt8)),i<=t.length/\iv= .int .i64 i/\Hid (yZ l (ns ++ (t.take i).map (·.name)))/\Hid (zP wr wr.heap.size lv l)/\Hid (zp wr B tv t)/\Hid (Below w0.heap.size w0 wr)
def WthK (w0:World) (B:Nat) (tv:Value) (t:List yc) (lv:Value) (l:List (List UInt8)) (s:List UInt8) (pv:Value) (wr:World):Prop:=
 ∃ p:Nat,p<=l.length/\pv= .int .i64 p/\Hid (∀ j (h:j<l.length),j<p->l[j]<s)/\Hid (zP wr wr.heap.size lv l)/\Hid (zp wr B tv t)/\Hid (Below w0.heap.size w0 wr)
theorem YJ {w w' :World} {v:Value} {l:List (List UInt8)} (h:zP w w.heap.size v l) (hb:Below w.heap.size w w'):zP w' w'.heap.size v l:=(h.below hb).more hb.size
def ziv (w:World) (ns:List (List UInt8)) (e:Ending) (w' :World):Prop:=∃ v l,e= .returned v/\yZ l ns/\zP w' w'.heap.size v l/\Below w.heap.size w w'
theorem zld (A A2:Option Addr) (n c n2 c2 B:Nat) (l ns:List (List UInt8)) (t:List yc) (w:World) (hl:zP w w.heap.size (.slice A n c) l) (hin:yZ l ns) (ht:zp w B (.slice A2 n2 c2) t) (hB:B<=w.heap.size) (hcnt:ns.length+t.length<=100000):
 Calls Tryz.prog 126 #[.slice A n c,.slice A2 n2 c2] w (ziv w (ns ++ t.map (·.name))):=by
 obtain rfl:=ht.len
 have htb:=ht.bound
 have HL:=ze hl
 have HIN:Hid (yZ l (ns ++ (t.take 0).map (·.name))):=ze (by rw [List.take_zero,List.map_nil,List.append_nil];exact hin)
 have HT:=ze ht
 have HB:=ze hB
 have HW:=ze (Below.refl w.heap.size w)
 have HCN:=ze hcnt
 clear hl hin ht hB hcnt
 go_enter Tryz.func126,Tryz.ntmps126
 go_wp2_with fail
 go_loopw [0,5] (WthR w B (.slice A2 t.length c2) t ns) (fun _ iv _=>t.length - (intOf iv).toNat)
 case atStart=>exact ⟨0,l,Nat.zero_le _,rfl,HIN,HL,HT,HW⟩
 case round=>
  clear HIN HL HT HW
  obtain ⟨i,l,hi,rfl,HIN,HL,HT,HW⟩:=hrel
  obtain ⟨AL,cl,rfl,hlc,hcm,hl1,hrd,hsm⟩:=id HL.out
  by_cases hil:i<t.length
  . have hii:(i:Int)<(t.length:Int):=by omega
    obtain ⟨ad,eA,hbb,p0,p1,hs1,hs2⟩:=HT.out.at_ hil;subst eA;have HNX:Hid (ns ++ (t.take (i+1)).map (·.name)=(ns ++ (t.take i).map (·.name)) ++ [t[i].name]):=ze (by rw [zaz hil,List.append_assoc]);obtain ⟨s,hs⟩:∃ s,t[i].name=s:=⟨_,rfl⟩;rw [hs] at p0 hs1 HNX;have HS1:=ze hs1;have HSE:=ze hs;have HCM:=ze hcm;have hlci:(l.length:Int)<=(cl:Int):=by omega
    have HLN:Hid (l.length+1<=100000):=ze (by
     have h1:=HIN.out.count;rw [List.length_append,List.length_map,List.length_take] at h1;have:=HCN.out
     omega)
    obtain ⟨ad0,had0⟩:∃ a,a=ad:=⟨_,rfl⟩;clear hs hs1 hs2 p1 hrd hsm hcm p0 hbb;go_wp2_with fail
    go_loopw [6] (WthK w B (.slice (some ad) t.length c2) t (.slice AL l.length cl) l s) (fun pv _=>l.length - (intOf pv).toNat)
    case atStart=>exact ⟨0,Nat.zero_le _,rfl,(fun j h hj=>by omega),HL,HT,HW⟩
    case round=>
     clear HL HT HW;obtain ⟨p,hp,rfl,HLT,HL,HT,HW⟩:=hrel;obtain ⟨ad',eA',hbb,p0,p1,_,_⟩:=HT.out.at_ hil;injection eA' with eA'
     subst eA';rw [HSE.out] at p0
     by_cases hpl:p<l.length
     . have hpi:(p:Int)<(l.length:Int):=by omega
       obtain ⟨adl,eL,hbl,c1⟩:=HL.out.at_ hpl;subst eL;obtain ⟨x,hx⟩:∃ x,l[p]=x:=⟨_,rfl⟩;rw [hx] at c1;have hless:=ZL x s;have hdi:decide ((p:Int)<(l.length:Int))=true:=decide_eq_true hpi
       by_cases hlt:x<s
       . rw [decide_eq_true hlt] at hless
         have HLT2:Hid (∀ j (h:j<l.length),j<p+1->l[j]<s):=ze (fun j h hj=>by
          by_cases e:j=p
          . subst e;rw [hx];exact hlt
          . exact HLT.out j h (by omega))
         clear hx hlt p1 hbl;go_wp2_with fail
         go_quiet (fail)
         have hbB:=zB wr nq;replace HL:=ze (YJ HL.out hbB);replace HT:=ze (zp.below HT.out hbB);replace HW:=eb_ HW hbB;clear hbB;generalize wr.drewN nq=wa at HL HT HW |-;clear nq;go_wp2_with fail;go_roundw
         case rel=>exact ⟨p+1,by omega,by go_num,HLT2,HL,HT,HW⟩
         case measure=>simp [intOf];omega
       . rw [decide_eq_false hlt] at hless
         have HX:=ze hx;have HLT3:=ze hlt;clear hx hlt p1 hbl;go_wp2_with fail
         go_quiet (fail)
         have hbB:=zB wr nq;replace HL:=ze (YJ HL.out hbB);replace HT:=ze (zp.below HT.out hbB);replace HW:=eb_ HW hbB;clear hbB;generalize wr.drewN nq=wa at HL HT HW |-;clear nq;clear c1 p0 hless hbb;obtain ⟨ad',eA',hbb,p0,p1,_,_⟩:=HT.out.at_ hil;injection eA' with eA'
         subst eA';rw [HSE.out] at p0;obtain ⟨adl',eL',hbl,c1⟩:=HL.out.at_ hpl;injection eL' with eL'
         subst eL';rw [HX.out] at c1;have hdp:((p:Int) == (l.length:Int))=false:=by rw [beq_eq_false_iff_ne];omega
         have he:(x == s)=decide (x=s):=by by_cases h:x=s<;>simp [h]
         clear p1 hbl
         by_cases hxs:x=s
         . rw [decide_eq_true hxs] at he
           have HIN2:Hid (yZ l (ns ++ (t.take (i+1)).map (·.name))):=ze (by
            rw [HNX.out]
            exact znx HIN.out (by rw [<- hxs, <- HX.out];exact List.getElem_mem _))
           clear hxs;go_wp2_with fail
           go_quiet (fail)
           have hbB:=zB wa nq;replace HL:=ze (YJ HL.out hbB);replace HT:=ze (zp.below HT.out hbB);replace HW:=eb_ HW hbB;clear hbB;generalize wa.drewN nq=wd at HL HT HW |-;clear nq;go_wp2_with fail;go_roundw
           case rel=>exact ⟨i+1,l,by omega,by go_num,HIN2,HL,HT,HW⟩
           case measure=>simp [intOf];omega
         . rw [decide_eq_false hxs] at he
           have HAT:Hid (∀ hp:p<l.length,¬ l[p]<s/\l[p]≠s):=ze (fun _=>⟨by rw [HX.out];exact HLT3.out,by rw [HX.out];exact hxs⟩);clear hxs;go_wp2_with fail
           go_quiet (fail)
           have hbB:=zB wa nq;replace HL:=ze (YJ HL.out hbB);replace HT:=ze (zp.below HT.out hbB);replace HW:=eb_ HW hbB;clear hbB;generalize wa.drewN nq=wd at HL HT HW |-;clear nq;clear c1 p0 he hdp hbb
           go_upto_region 8 with fail
           obtain ⟨i0,hi0,hz0,hz1,hz2⟩:=info_parts zbeW;have hpI:(p:Int)<=(l.length:Int):=by omega
           have hpC:(p:Int)<=(cl:Int):=by omega
           obtain ⟨ad',eA',hbb,p0,p1,_,_⟩:=HT.out.at_ hil;injection eA' with eA'
           subst eA';rw [HSE.out] at p0;clear p1;obtain ⟨A',c',e',hlc2,_,_,hrd,hsm⟩:=id HL.out;injection e' with e1 e2 e3
           subst e1;subst e3;have HRD:=ze hrd;have HSM:=ze hsm;clear e2 hrd hsm;have aL:ad.block<wd.heap.size:=Nat.lt_of_lt_of_le hbb (Nat.le_trans HB.out HW.out.size)
           have HR1:Hid (∀ w',Below wd.heap.size wd w' ->zR w' wd.heap.size 1 (some adl) p ((l.take p).map str)):=ze (fun w' hb=>by
            have h:=(HRD.out.below hb).head hp;rw [Nat.mul_one, <- List.map_take] at h
            exact h)
           have HR2:Hid (∀ w',Below wd.heap.size wd w' ->zR w' wd.heap.size 1 (if cl=p then (some adl) else (some (adl.add p))) (l.length - p) ((l.drop p).map str)):=ze (fun w' hb=>by
            have h:=(HRD.out.below hb).cut hp hlc;rw [Nat.mul_one, <- List.map_drop] at h
            exact h)
           have HPN:Hid (yZ (l.take p ++ s :: l.drop p) (ns ++ (t.take (i+1)).map (·.name))):=ze (by
            rw [HNX.out]
            exact zj0 HIN.out HLT.out HAT.out)
           have HPL:Hid ((l.take p ++ s :: l.drop p).length=0+p+1+(l.length - p)):=ze (by
            rw [List.length_append,List.length_cons,List.length_take,List.length_drop];omega)
           have HPS:Hid (∀ x∈l.take p ++ s :: l.drop p,yh x):=ze (fun x hx=>by
            rcases List.mem_append.1 hx with hx | hx
            . exact HSM.out x (List.mem_of_mem_take hx)
            . rcases List.mem_cons.1 hx with rfl | hx
              . exact HS1.out
              . exact HSM.out x (List.mem_of_mem_drop hx))
           have HPX:Hid (((([]:List Value) ++ (l.take p).map str) ++ [str s]) ++ (l.drop p).map str=(l.take p ++ s :: l.drop p).map str):=ze (by simp);refine vm (S:=fun w' =>Hid (Below wd.heap.size wd w')/\w'.cell? (ad.add (i*2))=some (str s)) 15 (by kernel_rfl) (by kernel_rfl) (zl (zz wd) (fun hB=>vw hB aL p0)) (fun hHeld=>?_);refine HH.take 0 (oi:=_) (v:=?_) rfl (by kernel_rfl) (by kernel_rfl) (by kernel_rfl) (fun _ _ _ h=>h) (Or.inl ⟨by rfl,?_⟩) ‹_› ?_;rotate_left
           . (intro w9 hSw;(try dsimp only at hSw);go_split_ands;go_simp;try with_reducible rfl)
           try simp only [Act.put,List.getElem_toArray,List.getElem_cons_succ,List.getElem_cons_zero,List.setIfInBounds_toArray,List.set_cons_zero,List.set_cons_succ]
           refine HH.take 1 (oi:=_) (v:=?_) rfl (by kernel_rfl) (by kernel_rfl) (by kernel_rfl) (fun _ _ _ h=>h) (Or.inl ⟨by rfl,?_⟩) ‹_› ?_;rotate_left
           . (intro w9 hSw;(try dsimp only at hSw);go_split_ands;go_simp;try with_reducible rfl)
           try simp only [Act.put,List.getElem_toArray,List.getElem_cons_succ,List.getElem_cons_zero,List.setIfInBounds_toArray,List.set_cons_zero,List.set_cons_succ]
           refine HH.take 2 (oi:=_) (v:=?_) rfl (by kernel_rfl) (by kernel_rfl) (by kernel_rfl) (fun _ _ _ h=>h) (Or.inl ⟨by rfl,?_⟩) ‹_› ?_;rotate_left
           . (intro w9 hSw;(try dsimp only at hSw);go_split_ands;go_simp;try with_reducible rfl)
           try simp only [Act.put,List.getElem_toArray,List.getElem_cons_succ,List.getElem_cons_zero,List.setIfInBounds_toArray,List.set_cons_zero,List.set_cons_succ]
           refine HH.take 4 (oi:=_) (v:=?_) rfl (by kernel_rfl) (by kernel_rfl) (by kernel_rfl) (fun _ _ _ h=>h) (Or.inl ⟨by rfl,?_⟩) ‹_› ?_;rotate_left
           . (intro w9 hSw;(try dsimp only at hSw);go_split_ands;go_simp;try with_reducible rfl)
           try simp only [Act.put,List.getElem_toArray,List.getElem_cons_succ,List.getElem_cons_zero,List.setIfInBounds_toArray,List.set_cons_zero,List.set_cons_succ]
           refine HH.take 5 (oi:=_) (v:=?_) rfl (by kernel_rfl) (by kernel_rfl) (by kernel_rfl) (fun _ _ _ h=>h) (Or.inl ⟨by rfl,?_⟩) ‹_› ?_;rotate_left
           . (intro w9 hSw;(try dsimp only at hSw);go_split_ands;go_simp;try with_reducible rfl)
           try simp only [Act.put,List.getElem_toArray,List.getElem_cons_succ,List.getElem_cons_zero,List.setIfInBounds_toArray,List.set_cons_zero,List.set_cons_succ]
           refine HH.take 6 (oi:=_) (v:=?_) rfl (by kernel_rfl) (by kernel_rfl) (by kernel_rfl) (fun _ _ _ h=>h) (Or.inl ⟨by rfl,?_⟩) ‹_› ?_;rotate_left
           . (intro w9 hSw;(try dsimp only at hSw);go_split_ands;go_simp;try with_reducible rfl)
           try simp only [Act.put,List.getElem_toArray,List.getElem_cons_succ,List.getElem_cons_zero,List.setIfInBounds_toArray,List.set_cons_zero,List.set_cons_succ]
           refine HH.take 7 (oi:=_) (v:=?_) rfl (by kernel_rfl) (by kernel_rfl) (by kernel_rfl) (fun _ _ _ h=>h) (Or.inl ⟨by rfl,?_⟩) ‹_› ?_;rotate_left
           . (intro w9 hSw;(try dsimp only at hSw);go_split_ands;go_simp;try with_reducible rfl)
           try simp only [Act.put,List.getElem_toArray,List.getElem_cons_succ,List.getElem_cons_zero,List.setIfInBounds_toArray,List.set_cons_zero,List.set_cons_succ]
           refine HH.take 8 (oi:=_) (v:=?_) rfl (by kernel_rfl) (by kernel_rfl) (by kernel_rfl) (fun _ _ _ h=>h) (Or.inl ⟨by rfl,?_⟩) ‹_› ?_;rotate_left
           . (intro w9 hSw;(try dsimp only at hSw);go_split_ands;go_simp;try with_reducible rfl)
           try simp only [Act.put,List.getElem_toArray,List.getElem_cons_succ,List.getElem_cons_zero,List.setIfInBounds_toArray,List.set_cons_zero,List.set_cons_succ]
           refine HH.take 11 (oi:=_) (v:=?_) rfl (by kernel_rfl) (by kernel_rfl) (by kernel_rfl) (fun _ _ _ h=>h) (Or.inl ⟨by rfl,?_⟩) ‹_› ?_;rotate_left
           . (intro w9 hSw;(try dsimp only at hSw);go_split_ands;go_simp;try with_reducible rfl)
           try simp only [Act.put,List.getElem_toArray,List.getElem_cons_succ,List.getElem_cons_zero,List.setIfInBounds_toArray,List.set_cons_zero,List.set_cons_succ]
           refine HH.take 12 (oi:=_) (v:=?_) rfl (by kernel_rfl) (by kernel_rfl) (by kernel_rfl) (fun _ _ _ h=>h) (Or.inl ⟨by rfl,?_⟩) ‹_› ?_;rotate_left
           . (intro w9 hSw;(try dsimp only at hSw);go_split_ands;go_simp;try with_reducible rfl)
           try simp only [Act.put,List.getElem_toArray,List.getElem_cons_succ,List.getElem_cons_zero,List.setIfInBounds_toArray,List.set_cons_zero,List.set_cons_succ]
           refine HH.take 13 (oi:=_) (v:=?_) rfl (by kernel_rfl) (by kernel_rfl) (by kernel_rfl) (fun _ _ _ h=>h) (Or.inl ⟨by rfl,?_⟩) ‹_› ?_;rotate_left
           . (intro w9 hSw;(try dsimp only at hSw);go_split_ands;go_simp;try with_reducible rfl)
           try simp only [Act.put,List.getElem_toArray,List.getElem_cons_succ,List.getElem_cons_zero,List.setIfInBounds_toArray,List.set_cons_zero,List.set_cons_succ]
           refine HH.ready (rs:=[3,9]) (by kernel_rfl) (by simp) (by kernel_rfl) ?_;refine zu.cons (o:=_) rfl (fun K hK=>?_) (zu.cons (o:=_) rfl (fun K hK=>?_) zu.nil)
           . skip
             rw [if_pos (by rfl)];refine yj (P:=Tryz.prog) (w:=wd.drew) (.const (.slice none 0 0)) (.tmp 49) _ rfl wd.heap.size 9 i0 _ 1 16 Yq hi0 hz0 hz1 hz2 rfl (by omega) (.slice none 0 0) 0 [] rfl (World.ownsRow_nil _ _ _ _) _ (some adl) p cl _ rfl (HR1.out wd.drew (zz wd).out) (Zy _) (by have:=HLN.out;unfold maxLen;omega) (by have:=HLN.out;omega) (Nat.le_refl _) ?_;intro v1 w1 hown1 hgr1 hat1;have hb1:Below wd.heap.size wd w1:=(zz wd).out.grown hgr1 (Nat.le_refl _) (fun k hk=>by cases hk);have hH0:=hHeld;clear hHeld;refine hK.out _ _ (zl ((ze hb1)) (fun hB=>vw hB aL p0)) (fun hHeld=>?_);clear hH0 hK K
             try simp only [Act.put,List.setIfInBounds_toArray,List.set_cons_zero,List.set_cons_succ]
             refine HH.ready (rs:=[9]) (by kernel_rfl) (by simp) (by kernel_rfl) ?_;refine zu.cons (o:=_) rfl (fun K hK=>?_) zu.nil
             go_simp
             have hb2:Below wd.heap.size wd (w1.alloc (.cells #[str s] 9)):=ext hb1 (zf w1 _);have hH0:=hHeld;clear hHeld;refine hK.out _ _ (zl ((ze hb2)) (fun hB=>vw hB aL p0)) (fun hHeld=>?_);clear hH0 hK K
             try simp only [Act.put,List.setIfInBounds_toArray,List.set_cons_zero,List.set_cons_succ]
             have hown2:=World.ownsRow.alloc hown1 (.cells #[str s] 9);have hrs:=xX w1 9 (str s);have HOWN:=ze hown2;have HRS:=ze hrs;have HBA:=ze hb2;clear hb1 hb2 hown1 hown2 hgr1 hat1 hrs;generalize w1.alloc (.cells #[str s] 9)=wA at HOWN HRS HBA hHeld |-;generalize w1.heap.size=gs at HRS |-;refine HH.ready (rs:=[10]) (by kernel_rfl) (by simp) (by kernel_rfl) ?_;refine zu.cons (o:=_) rfl (fun K hK=>?_) zu.nil;rw [if_pos (by rfl)];refine yj (P:=Tryz.prog) (w:=wA) (.tmp 50) (.tmp 56) _ rfl wd.heap.size 9 i0 _ 1 16 Yq hi0 hz0 hz1 hz2 rfl (by omega) v1 (0+p) _ rfl HOWN.out _ (some ⟨gs,0,none⟩) 1 1 [str s] rfl HRS.out (by intro u hu;rw [List.mem_singleton] at hu;subst hu;rfl) (by have:=HLN.out;unfold maxLen;omega) (by have:=HLN.out;omega) HBA.out.size ?_;intro v2 wB hown2 hgr2 hat2;have hb4:Below wd.heap.size wd wB:=HBA.out.grown hgr2 HBA.out.size (fun k e=>(HOWN.out.lt k e).1);have hH0:=hHeld;clear hHeld;refine hK.out _ _ (zl ((ze hb4)) (fun hB=>vw hB aL p0)) (fun hHeld=>?_);clear hH0 hK K
             try simp only [Act.put,List.setIfInBounds_toArray,List.set_cons_zero,List.set_cons_succ]
             refine HH.ready (rs:=[14]) (by kernel_rfl) (by simp) (by kernel_rfl) ?_;refine zu.cons (o:=_) rfl (fun K hK=>?_) zu.nil;rw [if_pos (by rfl)];refine yj (P:=Tryz.prog) (w:=wB) (.tmp 57) (.tmp 60) _ rfl wd.heap.size 9 i0 _ 1 16 Yq hi0 hz0 hz1 hz2 rfl (by omega) v2 (0+p+1) _ rfl hown2 _ _ (l.length - p) (cl - p) _ rfl (HR2.out _ hb4) (Zy _) (by have:=HLN.out;unfold maxLen;omega) (by have:=HLN.out;omega) hb4.size ?_;intro v3 wC hown3 hgr3 hat3;have hb5:Below wd.heap.size wd wC:=hb4.grown hgr3 hb4.size (fun k e=>(hown2.lt k e).1);have hH0:=hHeld;clear hHeld;refine hK.out _ _ (zl ((ze hb5)) (fun hB=>vw hB aL p0)) (fun hHeld=>?_);clear hH0 hK K
             try simp only [Act.put,List.setIfInBounds_toArray,List.set_cons_zero,List.set_cons_succ]
             have HBY:=(hHeld.1).out;clear HBY hHeld;refine HH.done (by kernel_rfl) ?_;simp only [List.drop_succ_cons,List.drop_zero];rw [HPX.out, <- HPL.out] at hown3;have hnm:=vO hown3 (by rw [HPL.out];have:=HLN.out;omega) HPS.out;have HNM:=ze hnm;have HT5:=ze (zp.below' HT.out (hb5.mono (Nat.le_trans HB.out HW.out.size)));have HW5:=ze (HW.out.trans (hb5.mono HW.out.size));clear hb4 hb5 hown2 hown3 hgr2 hgr3 hat2 hat3 hnm HOWN HRS HBA HR1 HR2 hi0 hz0 hz1 hz2;go_wp2_with fail;go_roundw
             case rel=>exact ⟨i+1,_,by omega,by go_num,HPN,HNM,HT5,HW5⟩
             case measure=>simp [intOf];omega
           . skip
             go_simp
             have hb1:Below wd.heap.size wd (wd.alloc (.cells #[str s] 9)).drew:=(yx wd _).out;have hH0:=hHeld;clear hHeld;refine hK.out _ _ (zl (yx wd _) (fun hB=>vw hB aL p0)) (fun hHeld=>?_);clear hH0 hK K
             try simp only [Act.put,List.setIfInBounds_toArray,List.set_cons_zero,List.set_cons_succ]
             have hrs:=xX wd 9 (str s);refine HH.ready (rs:=[3]) (by kernel_rfl) (by simp) (by kernel_rfl) ?_;refine zu.cons (o:=_) rfl (fun K hK=>?_) zu.nil;rw [if_pos (by rfl)];refine yj (P:=Tryz.prog) (w:=(wd.alloc (.cells #[str s] 9)).drew) (.const (.slice none 0 0)) (.tmp 49) _ rfl wd.heap.size 9 i0 _ 1 16 Yq hi0 hz0 hz1 hz2 rfl (by omega) (.slice none 0 0) 0 [] rfl (World.ownsRow_nil _ _ _ _) _ (some adl) p cl _ rfl (HR1.out _ hb1) (Zy _) (by have:=HLN.out;unfold maxLen;omega) (by have:=HLN.out;omega) hb1.size ?_;intro v1 wA hown1 hgr1 hat1;have hb2:Below (wd.alloc (.cells #[str s] 9)).drew.heap.size (wd.alloc (.cells #[str s] 9)).drew wA:=(Below.refl _ _).grown hgr1 (Nat.le_refl _) (fun k hk=>by cases hk);have hb3:=ext hb1 hb2;have hH0:=hHeld;clear hHeld;refine hK.out _ _ (zl ((ze hb3)) (fun hB=>vw hB aL p0)) (fun hHeld=>?_);clear hH0 hK K
             try simp only [Act.put,List.setIfInBounds_toArray,List.set_cons_zero,List.set_cons_succ]
             have HOWN:=ze hown1;have hrs2:zR (wd.alloc (.cells #[str s] 9)).drew (wd.alloc (.cells #[str s] 9)).drew.heap.size 1 (some ⟨wd.heap.size,0,none⟩) 1 [str s]:=zR.more (zR.drew hrs) (by show _<=(wd.alloc (.cells #[str s] 9)).heap.size;rw [World.size_alloc];exact Nat.le_refl _);have HRS:=ze ((zR.below hrs2 hb2).more hb2.size);have HBA:=ze hb3;clear hb1 hb2 hb3 hown1 hgr1 hat1 hrs hrs2;refine HH.ready (rs:=[10]) (by kernel_rfl) (by simp) (by kernel_rfl) ?_;refine zu.cons (o:=_) rfl (fun K hK=>?_) zu.nil;rw [if_pos (by rfl)];refine yj (P:=Tryz.prog) (w:=wA) (.tmp 50) (.tmp 56) _ rfl wd.heap.size 9 i0 _ 1 16 Yq hi0 hz0 hz1 hz2 rfl (by omega) v1 (0+p) _ rfl HOWN.out _ (some ⟨wd.heap.size,0,none⟩) 1 1 [str s] rfl HRS.out (by intro u hu;rw [List.mem_singleton] at hu;subst hu;rfl) (by have:=HLN.out;unfold maxLen;omega) (by have:=HLN.out;omega) HBA.out.size ?_;intro v2 wB hown2 hgr2 hat2;have hb4:Below wd.heap.size wd wB:=HBA.out.grown hgr2 HBA.out.size (fun k e=>(HOWN.out.lt k e).1);have hH0:=hHeld;clear hHeld;refine hK.out _ _ (zl ((ze hb4)) (fun hB=>vw hB aL p0)) (fun hHeld=>?_);clear hH0 hK K
             try simp only [Act.put,List.setIfInBounds_toArray,List.set_cons_zero,List.set_cons_succ]
             refine HH.ready (rs:=[14]) (by kernel_rfl) (by simp) (by kernel_rfl) ?_;refine zu.cons (o:=_) rfl (fun K hK=>?_) zu.nil;rw [if_pos (by rfl)];refine yj (P:=Tryz.prog) (w:=wB) (.tmp 57) (.tmp 60) _ rfl wd.heap.size 9 i0 _ 1 16 Yq hi0 hz0 hz1 hz2 rfl (by omega) v2 (0+p+1) _ rfl hown2 _ _ (l.length - p) (cl - p) _ rfl (HR2.out _ hb4) (Zy _) (by have:=HLN.out;unfold maxLen;omega) (by have:=HLN.out;omega) hb4.size ?_;intro v3 wC hown3 hgr3 hat3;have hb5:Below wd.heap.size wd wC:=hb4.grown hgr3 hb4.size (fun k e=>(hown2.lt k e).1);have hH0:=hHeld;clear hHeld;refine hK.out _ _ (zl ((ze hb5)) (fun hB=>vw hB aL p0)) (fun hHeld=>?_);clear hH0 hK K
             try simp only [Act.put,List.setIfInBounds_toArray,List.set_cons_zero,List.set_cons_succ]
             have HBY:=(hHeld.1).out;clear HBY hHeld;refine HH.done (by kernel_rfl) ?_;simp only [List.drop_succ_cons,List.drop_zero];rw [HPX.out, <- HPL.out] at hown3;have hnm:=vO hown3 (by rw [HPL.out];have:=HLN.out;omega) HPS.out;have HNM:=ze hnm;have HT5:=ze (zp.below' HT.out (hb5.mono (Nat.le_trans HB.out HW.out.size)));have HW5:=ze (HW.out.trans (hb5.mono HW.out.size));clear hb4 hb5 hown2 hown3 hgr2 hgr3 hat2 hat3 hnm HOWN HRS HBA HR1 HR2 hi0 hz0 hz1 hz2;go_wp2_with fail;go_roundw
             case rel=>exact ⟨i+1,_,by omega,by go_num,HPN,HNM,HT5,HW5⟩
             case measure=>simp [intOf];omega
     . have hpi:decide ((p:Int)<(l.length:Int))=false:=decide_eq_false (by omega)
       have hpn:decide (p<l.length)=false:=decide_eq_false hpl;have hdp:((p:Int) == (l.length:Int))=true:=by rw [beq_iff_eq];omega
       have HAT:Hid (∀ hp:p<l.length,¬ l[p]<s/\l[p]≠s):=ze (fun h=>absurd h hpl);clear hpl p1 p0 hbb;go_wp2_with fail
       go_quiet (fail)
       have hbB:=zB wr nq;replace HL:=ze (YJ HL.out hbB);replace HT:=ze (zp.below HT.out hbB);replace HW:=eb_ HW hbB;clear hbB;generalize wr.drewN nq=wa at HL HT HW |-;clear nq;go_wp2_with fail
       go_quiet (fail)
       have hbB:=zB wa nq;replace HL:=ze (YJ HL.out hbB);replace HT:=ze (zp.below HT.out hbB);replace HW:=eb_ HW hbB;clear hbB;generalize wa.drewN nq=wd at HL HT HW |-;clear nq;clear hdp
       go_upto_region 8 with fail
       obtain ⟨i0,hi0,hz0,hz1,hz2⟩:=info_parts zbeW;have hpI:(p:Int)<=(l.length:Int):=by omega
       have hpC:(p:Int)<=(cl:Int):=by omega
       obtain ⟨ad',eA',hbb,p0,p1,_,_⟩:=HT.out.at_ hil;injection eA' with eA'
       subst eA';rw [HSE.out] at p0;clear p1;obtain ⟨A',c',e',hlc2,_,_,hrd,hsm⟩:=id HL.out;injection e' with e1 e2 e3
       subst e1;subst e3;have HRD:=ze hrd;have HSM:=ze hsm;clear e2 hrd hsm;have aL:ad.block<wd.heap.size:=Nat.lt_of_lt_of_le hbb (Nat.le_trans HB.out HW.out.size)
       have HR1:Hid (∀ w',Below wd.heap.size wd w' ->zR w' wd.heap.size 1 AL p ((l.take p).map str)):=ze (fun w' hb=>by
        have h:=(HRD.out.below hb).head hp;rw [Nat.mul_one, <- List.map_take] at h
        exact h)
       have HR2:Hid (∀ w',Below wd.heap.size wd w' ->zR w' wd.heap.size 1 (if cl=p then AL else (Option.map (fun x=>x.add p) AL)) (l.length - p) ((l.drop p).map str)):=ze (fun w' hb=>by
        have h:=(HRD.out.below hb).cut hp hlc;rw [Nat.mul_one, <- List.map_drop] at h
        exact h)
       have HPN:Hid (yZ (l.take p ++ s :: l.drop p) (ns ++ (t.take (i+1)).map (·.name))):=ze (by
        rw [HNX.out]
        exact zj0 HIN.out HLT.out HAT.out)
       have HPL:Hid ((l.take p ++ s :: l.drop p).length=0+p+1+(l.length - p)):=ze (by
        rw [List.length_append,List.length_cons,List.length_take,List.length_drop];omega)
       have HPS:Hid (∀ x∈l.take p ++ s :: l.drop p,yh x):=ze (fun x hx=>by
        rcases List.mem_append.1 hx with hx | hx
        . exact HSM.out x (List.mem_of_mem_take hx)
        . rcases List.mem_cons.1 hx with rfl | hx
          . exact HS1.out
          . exact HSM.out x (List.mem_of_mem_drop hx))
       have HPX:Hid (((([]:List Value) ++ (l.take p).map str) ++ [str s]) ++ (l.drop p).map str=(l.take p ++ s :: l.drop p).map str):=ze (by simp);refine vm (S:=fun w' =>Hid (Below wd.heap.size wd w')/\w'.cell? (ad.add (i*2))=some (str s)) 15 (by kernel_rfl) (by kernel_rfl) (zl (zz wd) (fun hB=>vw hB aL p0)) (fun hHeld=>?_);refine HH.take 0 (oi:=_) (v:=?_) rfl (by kernel_rfl) (by kernel_rfl) (by kernel_rfl) (fun _ _ _ h=>h) (Or.inl ⟨by rfl,?_⟩) ‹_› ?_;rotate_left
       . (intro w9 hSw;(try dsimp only at hSw);go_split_ands;go_simp;try with_reducible rfl)
       try simp only [Act.put,List.getElem_toArray,List.getElem_cons_succ,List.getElem_cons_zero,List.setIfInBounds_toArray,List.set_cons_zero,List.set_cons_succ]
       refine HH.take 1 (oi:=_) (v:=?_) rfl (by kernel_rfl) (by kernel_rfl) (by kernel_rfl) (fun _ _ _ h=>h) (Or.inl ⟨by rfl,?_⟩) ‹_› ?_;rotate_left
       . (intro w9 hSw;(try dsimp only at hSw);go_split_ands;go_simp;try with_reducible rfl)
       try simp only [Act.put,List.getElem_toArray,List.getElem_cons_succ,List.getElem_cons_zero,List.setIfInBounds_toArray,List.set_cons_zero,List.set_cons_succ]
       refine HH.take 2 (oi:=_) (v:=?_) rfl (by kernel_rfl) (by kernel_rfl) (by kernel_rfl) (fun _ _ _ h=>h) (Or.inl ⟨by rfl,?_⟩) ‹_› ?_;rotate_left
       . (intro w9 hSw;(try dsimp only at hSw);go_split_ands;go_simp;try with_reducible rfl)
       try simp only [Act.put,List.getElem_toArray,List.getElem_cons_succ,List.getElem_cons_zero,List.setIfInBounds_toArray,List.set_cons_zero,List.set_cons_succ]
       refine HH.take 4 (oi:=_) (v:=?_) rfl (by kernel_rfl) (by kernel_rfl) (by kernel_rfl) (fun _ _ _ h=>h) (Or.inl ⟨by rfl,?_⟩) ‹_› ?_;rotate_left
       . (intro w9 hSw;(try dsimp only at hSw);go_split_ands;go_simp;try with_reducible rfl)
       try simp only [Act.put,List.getElem_toArray,List.getElem_cons_succ,List.getElem_cons_zero,List.setIfInBounds_toArray,List.set_cons_zero,List.set_cons_succ]
       refine HH.take 5 (oi:=_) (v:=?_) rfl (by kernel_rfl) (by kernel_rfl) (by kernel_rfl) (fun _ _ _ h=>h) (Or.inl ⟨by rfl,?_⟩) ‹_› ?_;rotate_left
       . (intro w9 hSw;(try dsimp only at hSw);go_split_ands;go_simp;try with_reducible rfl)
       try simp only [Act.put,List.getElem_toArray,List.getElem_cons_succ,List.getElem_cons_zero,List.setIfInBounds_toArray,List.set_cons_zero,List.set_cons_succ]
       refine HH.take 6 (oi:=_) (v:=?_) rfl (by kernel_rfl) (by kernel_rfl) (by kernel_rfl) (fun _ _ _ h=>h) (Or.inl ⟨by rfl,?_⟩) ‹_› ?_;rotate_left
       . (intro w9 hSw;(try dsimp only at hSw);go_split_ands;go_simp;try with_reducible rfl)
       try simp only [Act.put,List.getElem_toArray,List.getElem_cons_succ,List.getElem_cons_zero,List.setIfInBounds_toArray,List.set_cons_zero,List.set_cons_succ]
       refine HH.take 7 (oi:=_) (v:=?_) rfl (by kernel_rfl) (by kernel_rfl) (by kernel_rfl) (fun _ _ _ h=>h) (Or.inl ⟨by rfl,?_⟩) ‹_› ?_;rotate_left
       . (intro w9 hSw;(try dsimp only at hSw);go_split_ands;go_simp;try with_reducible rfl)
       try simp only [Act.put,List.getElem_toArray,List.getElem_cons_succ,List.getElem_cons_zero,List.setIfInBounds_toArray,List.set_cons_zero,List.set_cons_succ]
       refine HH.take 8 (oi:=_) (v:=?_) rfl (by kernel_rfl) (by kernel_rfl) (by kernel_rfl) (fun _ _ _ h=>h) (Or.inl ⟨by rfl,?_⟩) ‹_› ?_;rotate_left
       . (intro w9 hSw;(try dsimp only at hSw);go_split_ands;go_simp;try with_reducible rfl)
       try simp only [Act.put,List.getElem_toArray,List.getElem_cons_succ,List.getElem_cons_zero,List.setIfInBounds_toArray,List.set_cons_zero,List.set_cons_succ]
       refine HH.take 11 (oi:=_) (v:=?_) rfl (by kernel_rfl) (by kernel_rfl) (by kernel_rfl) (fun _ _ _ h=>h) (Or.inl ⟨by rfl,?_⟩) ‹_› ?_;rotate_left
       . (intro w9 hSw;(try dsimp only at hSw);go_split_ands;go_simp;try with_reducible rfl)
       try simp only [Act.put,List.getElem_toArray,List.getElem_cons_succ,List.getElem_cons_zero,List.setIfInBounds_toArray,List.set_cons_zero,List.set_cons_succ]
       refine HH.take 12 (oi:=_) (v:=?_) rfl (by kernel_rfl) (by kernel_rfl) (by kernel_rfl) (fun _ _ _ h=>h) (Or.inl ⟨by rfl,?_⟩) ‹_› ?_;rotate_left
       . (intro w9 hSw;(try dsimp only at hSw);go_split_ands;go_simp;try with_reducible rfl)
       try simp only [Act.put,List.getElem_toArray,List.getElem_cons_succ,List.getElem_cons_zero,List.setIfInBounds_toArray,List.set_cons_zero,List.set_cons_succ]
       refine HH.take 13 (oi:=_) (v:=?_) rfl (by kernel_rfl) (by kernel_rfl) (by kernel_rfl) (fun _ _ _ h=>h) (Or.inl ⟨by rfl,?_⟩) ‹_› ?_;rotate_left
       . (intro w9 hSw;(try dsimp only at hSw);go_split_ands;go_simp;try with_reducible rfl)
       try simp only [Act.put,List.getElem_toArray,List.getElem_cons_succ,List.getElem_cons_zero,List.setIfInBounds_toArray,List.set_cons_zero,List.set_cons_succ]
       refine HH.ready (rs:=[3,9]) (by kernel_rfl) (by simp) (by kernel_rfl) ?_;refine zu.cons (o:=_) rfl (fun K hK=>?_) (zu.cons (o:=_) rfl (fun K hK=>?_) zu.nil)
       . skip
         rw [if_pos (by rfl)];refine yj (P:=Tryz.prog) (w:=wd.drew) (.const (.slice none 0 0)) (.tmp 49) _ rfl wd.heap.size 9 i0 _ 1 16 Yq hi0 hz0 hz1 hz2 rfl (by omega) (.slice none 0 0) 0 [] rfl (World.ownsRow_nil _ _ _ _) _ AL p cl _ rfl (HR1.out wd.drew (zz wd).out) (Zy _) (by have:=HLN.out;unfold maxLen;omega) (by have:=HLN.out;omega) (Nat.le_refl _) ?_;intro v1 w1 hown1 hgr1 hat1;have hb1:Below wd.heap.size wd w1:=(zz wd).out.grown hgr1 (Nat.le_refl _) (fun k hk=>by cases hk);have hH0:=hHeld;clear hHeld;refine hK.out _ _ (zl ((ze hb1)) (fun hB=>vw hB aL p0)) (fun hHeld=>?_);clear hH0 hK K
         try simp only [Act.put,List.setIfInBounds_toArray,List.set_cons_zero,List.set_cons_succ]
         refine HH.ready (rs:=[9]) (by kernel_rfl) (by simp) (by kernel_rfl) ?_;refine zu.cons (o:=_) rfl (fun K hK=>?_) zu.nil
         go_simp
         have hb2:Below wd.heap.size wd (w1.alloc (.cells #[str s] 9)):=ext hb1 (zf w1 _);have hH0:=hHeld;clear hHeld;refine hK.out _ _ (zl ((ze hb2)) (fun hB=>vw hB aL p0)) (fun hHeld=>?_);clear hH0 hK K
         try simp only [Act.put,List.setIfInBounds_toArray,List.set_cons_zero,List.set_cons_succ]
         have hown2:=World.ownsRow.alloc hown1 (.cells #[str s] 9);have hrs:=xX w1 9 (str s);have HOWN:=ze hown2;have HRS:=ze hrs;have HBA:=ze hb2;clear hb1 hb2 hown1 hown2 hgr1 hat1 hrs;generalize w1.alloc (.cells #[str s] 9)=wA at HOWN HRS HBA hHeld |-;generalize w1.heap.size=gs at HRS |-;refine HH.ready (rs:=[10]) (by kernel_rfl) (by simp) (by kernel_rfl) ?_;refine zu.cons (o:=_) rfl (fun K hK=>?_) zu.nil;rw [if_pos (by rfl)];refine yj (P:=Tryz.prog) (w:=wA) (.tmp 50) (.tmp 56) _ rfl wd.heap.size 9 i0 _ 1 16 Yq hi0 hz0 hz1 hz2 rfl (by omega) v1 (0+p) _ rfl HOWN.out _ (some ⟨gs,0,none⟩) 1 1 [str s] rfl HRS.out (by intro u hu;rw [List.mem_singleton] at hu;subst hu;rfl) (by have:=HLN.out;unfold maxLen;omega) (by have:=HLN.out;omega) HBA.out.size ?_;intro v2 wB hown2 hgr2 hat2;have hb4:Below wd.heap.size wd wB:=HBA.out.grown hgr2 HBA.out.size (fun k e=>(HOWN.out.lt k e).1);have hH0:=hHeld;clear hHeld;refine hK.out _ _ (zl ((ze hb4)) (fun hB=>vw hB aL p0)) (fun hHeld=>?_);clear hH0 hK K
         try simp only [Act.put,List.setIfInBounds_toArray,List.set_cons_zero,List.set_cons_succ]
         refine HH.ready (rs:=[14]) (by kernel_rfl) (by simp) (by kernel_rfl) ?_;refine zu.cons (o:=_) rfl (fun K hK=>?_) zu.nil;rw [if_pos (by rfl)];refine yj (P:=Tryz.prog) (w:=wB) (.tmp 57) (.tmp 60) _ rfl wd.heap.size 9 i0 _ 1 16 Yq hi0 hz0 hz1 hz2 rfl (by omega) v2 (0+p+1) _ rfl hown2 _ _ (l.length - p) (cl - p) _ rfl (HR2.out _ hb4) (Zy _) (by have:=HLN.out;unfold maxLen;omega) (by have:=HLN.out;omega) hb4.size ?_;intro v3 wC hown3 hgr3 hat3;have hb5:Below wd.heap.size wd wC:=hb4.grown hgr3 hb4.size (fun k e=>(hown2.lt k e).1);have hH0:=hHeld;clear hHeld;refine hK.out _ _ (zl ((ze hb5)) (fun hB=>vw hB aL p0)) (fun hHeld=>?_);clear hH0 hK K
         try simp only [Act.put,List.setIfInBounds_toArray,List.set_cons_zero,List.set_cons_succ]
         have HBY:=(hHeld.1).out;clear HBY hHeld;refine HH.done (by kernel_rfl) ?_;simp only [List.drop_succ_cons,List.drop_zero];rw [HPX.out, <- HPL.out] at hown3;have hnm:=vO hown3 (by rw [HPL.out];have:=HLN.out;omega) HPS.out;have HNM:=ze hnm;have HT5:=ze (zp.below' HT.out (hb5.mono (Nat.le_trans HB.out HW.out.size)));have HW5:=ze (HW.out.trans (hb5.mono HW.out.size));clear hb4 hb5 hown2 hown3 hgr2 hgr3 hat2 hat3 hnm HOWN HRS HBA HR1 HR2 hi0 hz0 hz1 hz2;go_wp2_with fail;go_roundw
         case rel=>exact ⟨i+1,_,by omega,by go_num,HPN,HNM,HT5,HW5⟩
         case measure=>simp [intOf];omega
       . skip
         go_simp
         have hb1:Below wd.heap.size wd (wd.alloc (.cells #[str s] 9)).drew:=(yx wd _).out;have hH0:=hHeld;clear hHeld;refine hK.out _ _ (zl (yx wd _) (fun hB=>vw hB aL p0)) (fun hHeld=>?_);clear hH0 hK K
         try simp only [Act.put,List.setIfInBounds_toArray,List.set_cons_zero,List.set_cons_succ]
         have hrs:=xX wd 9 (str s);refine HH.ready (rs:=[3]) (by kernel_rfl) (by simp) (by kernel_rfl) ?_;refine zu.cons (o:=_) rfl (fun K hK=>?_) zu.nil;rw [if_pos (by rfl)];refine yj (P:=Tryz.prog) (w:=(wd.alloc (.cells #[str s] 9)).drew) (.const (.slice none 0 0)) (.tmp 49) _ rfl wd.heap.size 9 i0 _ 1 16 Yq hi0 hz0 hz1 hz2 rfl (by omega) (.slice none 0 0) 0 [] rfl (World.ownsRow_nil _ _ _ _) _ AL p cl _ rfl (HR1.out _ hb1) (Zy _) (by have:=HLN.out;unfold maxLen;omega) (by have:=HLN.out;omega) hb1.size ?_;intro v1 wA hown1 hgr1 hat1;have hb2:Below (wd.alloc (.cells #[str s] 9)).drew.heap.size (wd.alloc (.cells #[str s] 9)).drew wA:=(Below.refl _ _).grown hgr1 (Nat.le_refl _) (fun k hk=>by cases hk);have hb3:=ext hb1 hb2;have hH0:=hHeld;clear hHeld;refine hK.out _ _ (zl ((ze hb3)) (fun hB=>vw hB aL p0)) (fun hHeld=>?_);clear hH0 hK K
         try simp only [Act.put,List.setIfInBounds_toArray,List.set_cons_zero,List.set_cons_succ]
         have HOWN:=ze hown1;have hrs2:zR (wd.alloc (.cells #[str s] 9)).drew (wd.alloc (.cells #[str s] 9)).drew.heap.size 1 (some ⟨wd.heap.size,0,none⟩) 1 [str s]:=zR.more (zR.drew hrs) (by show _<=(wd.alloc (.cells #[str s] 9)).heap.size;rw [World.size_alloc];exact Nat.le_refl _);have HRS:=ze ((zR.below hrs2 hb2).more hb2.size);have HBA:=ze hb3;clear hb1 hb2 hb3 hown1 hgr1 hat1 hrs hrs2;refine HH.ready (rs:=[10]) (by kernel_rfl) (by simp) (by kernel_rfl) ?_;refine zu.cons (o:=_) rfl (fun K hK=>?_) zu.nil;rw [if_pos (by rfl)];refine yj (P:=Tryz.prog) (w:=wA) (.tmp 50) (.tmp 56) _ rfl wd.heap.size 9 i0 _ 1 16 Yq hi0 hz0 hz1 hz2 rfl (by omega) v1 (0+p) _ rfl HOWN.out _ (some ⟨wd.heap.size,0,none⟩) 1 1 [str s] rfl HRS.out (by intro u hu;rw [List.mem_singleton] at hu;subst hu;rfl) (by have:=HLN.out;unfold maxLen;omega) (by have:=HLN.out;omega) HBA.out.size ?_;intro v2 wB hown2 hgr2 hat2;have hb4:Below wd.heap.size wd wB:=HBA.out.grown hgr2 HBA.out.size (fun k e=>(HOWN.out.lt k e).1);have hH0:=hHeld;clear hHeld;refine hK.out _ _ (zl ((ze hb4)) (fun hB=>vw hB aL p0)) (fun hHeld=>?_);clear hH0 hK K
         try simp only [Act.put,List.setIfInBounds_toArray,List.set_cons_zero,List.set_cons_succ]
         refine HH.ready (rs:=[14]) (by kernel_rfl) (by simp) (by kernel_rfl) ?_;refine zu.cons (o:=_) rfl (fun K hK=>?_) zu.nil;rw [if_pos (by rfl)];refine yj (P:=Tryz.prog) (w:=wB) (.tmp 57) (.tmp 60) _ rfl wd.heap.size 9 i0 _ 1 16 Yq hi0 hz0 hz1 hz2 rfl (by omega) v2 (0+p+1) _ rfl hown2 _ _ (l.length - p) (cl - p) _ rfl (HR2.out _ hb4) (Zy _) (by have:=HLN.out;unfold maxLen;omega) (by have:=HLN.out;omega) hb4.size ?_;intro v3 wC hown3 hgr3 hat3;have hb5:Below wd.heap.size wd wC:=hb4.grown hgr3 hb4.size (fun k e=>(hown2.lt k e).1);have hH0:=hHeld;clear hHeld;refine hK.out _ _ (zl ((ze hb5)) (fun hB=>vw hB aL p0)) (fun hHeld=>?_);clear hH0 hK K
         try simp only [Act.put,List.setIfInBounds_toArray,List.set_cons_zero,List.set_cons_succ]
         have HBY:=(hHeld.1).out;clear HBY hHeld;refine HH.done (by kernel_rfl) ?_;simp only [List.drop_succ_cons,List.drop_zero];rw [HPX.out, <- HPL.out] at hown3;have hnm:=vO hown3 (by rw [HPL.out];have:=HLN.out;omega) HPS.out;have HNM:=ze hnm;have HT5:=ze (zp.below' HT.out (hb5.mono (Nat.le_trans HB.out HW.out.size)));have HW5:=ze (HW.out.trans (hb5.mono HW.out.size));clear hb4 hb5 hown2 hown3 hgr2 hgr3 hat2 hat3 hnm HOWN HRS HBA HR1 HR2 hi0 hz0 hz1 hz2;go_wp2_with fail;go_roundw
         case rel=>exact ⟨i+1,_,by omega,by go_num,HPN,HNM,HT5,HW5⟩
         case measure=>simp [intOf];omega
  . obtain rfl:t.length=i:=by omega
    rw [List.take_length] at HIN;have HBX:=HB.out;go_wp2_with fail;go_ret;exact ⟨_,l,rfl,HIN.out,HL.out,HW.out⟩
theorem VK (L:List (List yc)) (k:Nat):(zS (L.take k)).length<=(zS L).length:=by
 conv=>rhs;rw [<- List.take_append_drop k L]
 unfold zS
 rw [List.flatMap_append,List.length_append]
 omega
def UnwR (w0:World) (rv:Value) (rows:List xe) (ov iv:Value) (wr:World):Prop:=
 ∃ (i:Nat) (l:List (List UInt8)),i<=rows.length/\iv= .int .i64 i/\Hid (yZ l (zS ((rows.map (·.terms)).take i)))/\Hid (zP wr wr.heap.size ov l)/\Hid (zV wr w0.heap.size rv rows)/\Hid (Below w0.heap.size w0 wr)
theorem Vh (A:Option Addr) (n c:Nat) (rows:List xe) (w:World) (hr:xj w (.slice A n c) rows) (hcnt:(zS (rows.map (·.terms))).length<=50000):
 Calls Tryz.prog 53 #[.slice A n c] w (ziv w (zS (rows.map (·.terms)))):=by
 obtain rfl:=hr.len
 have hrb:rows.length<=100000:=by obtain ⟨_,_,_,_,_,_,h,_⟩:=hr;exact h
 have HR:=ze hr
 have HW:=ze (Below.refl w.heap.size w)
 have HCN:=ze hcnt
 have HIN:Hid (yZ [] (zS ((rows.map (·.terms)).take 0))):=ze ⟨List.Pairwise.nil,fun x=>by simp [zS]⟩
 have HL:=ze (VT w w.heap.size)
 clear hr hcnt
 go_enter Tryz.func53,Tryz.ntmps53
 go_wp2_with fail
 go_loopw [3,4] (UnwR w (.slice A rows.length c) rows) (fun _ iv _=>rows.length - (intOf iv).toNat)
 case atStart=>exact ⟨0,[],Nat.zero_le _,rfl,HIN,HL,HR,HW⟩
 case round=>
  clear HIN HL HR HW
  obtain ⟨i,l,hi,rfl,HIN,HL,HR,HW⟩:=hrel
  obtain ⟨AL,cl,rfl,_⟩:=id HL.out
  by_cases hil:i<rows.length
  . have hii:(i:Int)<(rows.length:Int):=by omega
    obtain ⟨ad,AT,nt,ct,eA,hbb,p0,p1,ht,hsb⟩:=HR.out.at_ hil;subst eA;have hil2:i<(rows.map (·.terms)).length:=by rw [List.length_map];exact hil
    have HNX:Hid (zS ((rows.map (·.terms)).take (i+1))=zS ((rows.map (·.terms)).take i) ++ rows[i].terms.map (·.name)):=ze (by
     rw [XY hil2,List.getElem_map])
    have hcnt:(zS ((rows.map (·.terms)).take i)).length+rows[i].terms.length<=100000:=by
     have h1:=VK (rows.map (·.terms)) (i+1);rw [HNX.out,List.length_append,List.length_map] at h1;have:=HCN.out
     omega
    have hwi:=zld AL AT l.length cl nt ct w.heap.size l _ rows[i].terms wr HL.out HIN.out ht HW.out.size hcnt;rw [<- HNX.out] at hwi;have HWI:=ze hwi;clear ht hsb hcnt hwi p1;go_wp2_with fail;refine HWI.out.mono ?_;rintro e w2 ⟨v,l2,rfl,hin2,hl2,hb2⟩;have hb3:=hb2.mono HW.out.size;have HR2:=ze (zV.below' HR.out hb3);have HW2:=ze (HW.out.trans hb3);have HIN2:=ze hin2;have HL2:=ze hl2;clear hb2 hb3 hin2 hl2 HWI p0 hbb;go_wp2_with fail;go_roundw
    case rel=>exact ⟨i+1,l2,by omega,by go_num,HIN2,HL2,HR2,HW2⟩
    case measure=>simp [intOf];omega
  . obtain rfl:rows.length=i:=by omega
    rw [List.take_of_length_le (by rw [List.length_map];exact Nat.le_refl _)] at HIN;go_wp2_with fail;go_ret;exact ⟨_,l,rfl,HIN.out,HL.out,HW.out⟩
def RckR (w0:World) (rv:Value) (rows:List xe) (iv:Value) (wr:World):Prop:=
 ∃ i:Nat,i<=rows.length/\iv= .int .i64 i/\Hid (∀ j,j<i->yQ (rows.getD j default)=0)/\Hid (zV wr w0.heap.size rv rows)/\Hid (Below w0.heap.size w0 wr)
theorem zcb (A:Option Addr) (n c:Nat) (rows:List xe) (w:World) (hr:xj w (.slice A n c) rows) (hcnt:rows.length<=800->(zS (rows.map (·.terms))).length<=50000):
 Calls Tryz.prog 16 #[.slice A n c] w (zca w (.int .i64 (xa rows))):=by
 obtain rfl:=hr.len
 have HR:=ze hr
 have HW:=ze (Below.refl w.heap.size w)
 by_cases hlen:800<rows.length
 . have d0:decide ((rows.length:Int)>800)=true:=by rw [decide_eq_true_iff];omega
   have HE:=ze (Zz hlen);clear hr hcnt
   go_enter Tryz.func16,Tryz.ntmps16
   go_wp2_with fail;go_ret;exact ⟨by rw [HE.out];rfl,HW.out⟩
 have d0:decide ((rows.length:Int)>800)=false:=by rw [decide_eq_false_iff_not];omega
 have HL:=ze hlen
 have HCN:=ze (hcnt (by omega))
 clear hr hcnt
 go_enter Tryz.func16,Tryz.ntmps16
 go_wp2_with fail
 go_loopw [3] (RckR w (.slice A rows.length c) rows) (fun iv _=>rows.length - (intOf iv).toNat)
 case atStart=>exact ⟨0,Nat.zero_le _,rfl,(fun j h=>by omega),HR,HW⟩
 case round=>
  clear HR HW d0
  obtain ⟨i,hi,rfl,HJ,HR,HW⟩:=hrel
  by_cases hil:i<rows.length
  . have hii:(i:Int)<(rows.length:Int):=by omega
    obtain ⟨ad,AT,nt,ct,eA,hbb,p0,p1,ht,hsb⟩:=HR.out.at_ hil;subst eA;have hrow:=zkx AT nt ct rows[i] wr (ht.more HW.out.size) hsb;have hgd:rows.getD i default=rows[i]:=by simp [List.getD,List.getElem?_eq_getElem hil]
    have HGD:=ze hgd;have HRW:=ze hrow;clear ht hsb hrow hgd
    by_cases hre:yQ rows[i]=0
    . rw [hre] at HRW
      have HJ2:Hid (∀ j,j<i+1->yQ (rows.getD j default)=0):=by
       intro j hj
       by_cases e:j=i
       . subst e;rw [HGD.out];exact hre
       . exact HJ.out j (by omega)
      clear hre;go_wp2_with fail;refine HRW.out.mono ?_;rintro e w3 ⟨rfl,hb2⟩;have hb3:=hb2.mono HW.out.size;have HR2:=ze (zV.below' HR.out hb3);have HW2:=ze (HW.out.trans hb3);clear hb2 hb3 HRW p0 p1 hbb;go_wp2_with fail;go_roundw
      case rel=>exact ⟨i+1,by omega,by go_num,HJ2,HR2,HW2⟩
      case measure=>simp [intOf];omega
    . have HER:Hid (xa rows=yQ rows[i]):=by
       have:=VS HL.out hil HJ.out (by rw [HGD.out];exact hre);rw [HGD.out] at this;exact this
      obtain ⟨z,hz⟩:∃ z,yQ rows[i]=z:=⟨_,rfl⟩;rw [hz] at HRW HER hre;have hzb:(z == 0)=false:=beq_eq_false_iff_ne.2 hre;clear hz hre;go_wp2_with fail;refine HRW.out.mono ?_;rintro e w3 ⟨rfl,hb2⟩;have HW2:=ze (HW.out.trans (hb2.mono HW.out.size));clear hb2 HRW p0 p1 hbb;go_wp2_with fail;go_ret;exact ⟨by rw [HER.out];rfl,HW2.out⟩
  . obtain rfl:rows.length=i:=by omega
    have hun:=Vh A rows.length c rows wr (HR.out.more HW.out.size) HCN.out;have HUN:=ze hun;clear hun HR;go_wp2_with fail;refine HUN.out.mono ?_;rintro e w3 ⟨v,l,rfl,hin,hn,hb3⟩;have hll:l.length=(yy rows []).length:=by rw [hin.eq];rfl
    have HER:Hid (xa rows=if 80<l.length then 3 else 0):=by
     show _=_
     rw [hll];exact Xe HL.out HJ.out
    obtain ⟨A3,c3,rfl,_⟩:=hn;replace HW:=eb_ HW hb3;clear hb3 HUN hin hll HJ HCN
    by_cases h8:80<l.length
    . rw [if_pos h8] at HER
      have d8:(80:Int)<(l.length:Int):=by omega
      clear h8;go_wp2_with fail;go_ret;exact ⟨by rw [HER.out];rfl,HW.out⟩
    . rw [if_neg h8] at HER
      have d8:¬ (80:Int)<(l.length:Int):=by omega
      clear h8;go_wp2_with fail;go_ret;exact ⟨by rw [HER.out];rfl,HW.out⟩
theorem zjc (A:Option Addr) (n c:Nat) (rows:List xe) (w:World) (hr:xj w (.slice A n c) rows) (hcnt:rows.length<=800->(zS (rows.map (·.terms))).length<=50000):
 Calls Tryz.prog 14 #[.slice A n c] w (Xn w rows):=by
 have hck:=zcb A n c rows w hr hcnt
 have HR:=ze hr
 have HCN:=ze hcnt
 have HE:Hid (xa rows=0->rows.length<=800):=ze (fun h=>by
  rcases Nat.lt_or_ge 800 rows.length with h8 | h8
  . rw [Zz h8] at h;omega
  . exact h8)
 unfold Xn
 obtain ⟨z,hz⟩:∃ z,xa rows=z:=⟨_,rfl⟩
 rw [hz] at hck HE |-
 have HCK:=ze hck
 clear hr hcnt hck hz
 go_enter Tryz.func14,Tryz.ntmps14
 go_wp2_with fail
 refine HCK.out.mono ?_
 rintro e w1 ⟨rfl,hb1⟩
 replace HR:=ze (zV.below HR.out hb1)
 have HB:=ze hb1
 clear hb1 HCK
 by_cases hz0:z=0
 . subst hz0
   have hun:=Vh A n c rows w1 (HR.out.more HB.out.size) (HCN.out (HE.out rfl));have HUN:=ze hun;clear hun HR;go_wp2_with fail;refine HUN.out.mono ?_;rintro e w3 ⟨v,l,rfl,hin,hn,hb3⟩;have hll:l=yy rows []:=hin.eq;rw [hll] at hn;have HN:=ze hn;obtain ⟨A3,c3,rfl,_⟩:=hn;replace HB:=eb_ HB hb3;clear hb3 HUN hin hll HCN HE;go_wp2_with fail;go_ret2;exact ⟨_,rfl,HN.out,HB.out⟩
 . have hzb:(z == 0)=false:=beq_eq_false_iff_ne.2 hz0
   have HZ:=ze hz0;clear hz0 HR HCN HE;go_wp2_with fail;go_ret2;exact ⟨_,rfl,VT _ _,HB.out⟩
structure zfa (goal:List yc) (s:List UInt8):Prop where
 err:yk goal=0
 all:∀ t∈goal,t.name=s
def zo7 (w:World) (s:List UInt8) (e:Ending) (w' :World):Prop:=
 ∃ b v,e= .returned (.tuple #[.map (some b),v,.int .i64 0])/\zH w' b/\zP w' w'.heap.size v [s]/\w.heap.size<=b/\Below w.heap.size w w'
theorem zeq (A A2:Option Addr) (n c n2 c2:Nat) (rows:List xe) (goal:List yc) (s:List UInt8) (w:World) (hr:xj w (.slice A n c) rows) (hg:vh w (.slice A2 n2 c2) goal) (h1:Xa rows s) (h2:zfa goal s):
 Calls Tryz.prog 98 #[.slice A n c,.slice A2 n2 c2] w (zo7 w s):=by
 have hmm:=@run_makeMap Tryz.prog
 have hx:=zf w (.map #[] 0)
 have HB:=ze (zH.new w)
 have HR:=ze (zV.below hr hx)
 have HG:=ze (zp.below hg hx)
 have HC:Hid (Chg (· =w.heap.size) w (w.alloc (.map #[] 0))):=Chg.of_below hx
 have H1:=ze h1
 have H2:=ze h2
 clear hr hg h1 h2 hx
 go_enter Tryz.func98,Tryz.ntmps98
 go_upto_region 2 with fail
 clear hmm
 have HLT:Hid (w.heap.size<=w.heap.size):=Nat.le_refl _
 generalize w.alloc (.map #[] 0)=W at HB HR HG HC |-
 obtain ⟨b,hb⟩:∃ b,b=w.heap.size:=⟨_,rfl⟩
 have HLE:Hid (w.heap.size<=b):=Nat.le_of_eq hb.symm
 have hbs:=HB.out.lt
 have HBW:Hid (w.heap.size<=W.heap.size):=HC.out.size
 rw [<- hb] at HB HC |-
 clear hb HLT hbs
 have hck:=zaw b A n c rows s W HB.out (HR.out.more HBW.out) H1.out
 have HCK:=ze hck
 clear hck
 go_wp2_with fail
 refine HCK.out.mono ?_
 rintro e w1 ⟨rfl,hB1,hc1⟩
 replace HR:=ze (HB.out.keepRows hc1 HR.out)
 replace HG:=ze (HB.out.keepT hc1 HG.out)
 replace HC:=ze (xy HC.out hc1)
 replace HB:=ze hB1
 clear hB1 hc1 HCK HBW
 have htm:=za4 b A2 n2 c2 goal w1 HB.out (HG.out.more HC.out.size)
 rw [H2.out.err] at htm
 have HTM:=ze htm
 clear htm
 go_wp2_with fail
 refine HTM.out.mono ?_
 rintro e w2 ⟨rfl,hB1,hc1⟩
 replace HR:=ze (HB.out.keepRows hc1 HR.out)
 replace HG:=ze (HB.out.keepT hc1 HG.out)
 replace HC:=ze (xy HC.out hc1)
 replace HB:=ze hB1
 clear hB1 hc1 HTM
 have hx:=zf w2 (.cells #[.slice A2 n2 c2] 35)
 have hnew:=Blk.new w2 35 #[.slice A2 n2 c2]
 have HO:Hid (vp (w2.alloc (.cells #[.slice A2 n2 c2] 35)) w2.heap.size 35 1 (.slice (some ⟨w2.heap.size,0,none⟩) 1 1) 1 [.slice A2 n2 c2]):=by
  refine ⟨⟨rfl,.inr ⟨_,1,_,rfl,Nat.le_refl _,hnew,Nat.le_refl _,by unfold maxLen;omega,rfl,rfl⟩⟩,fun g hg=>?_⟩
  injection hg with hg
  subst hg
  exact hnew.noDig (Zg (by intro u hu;simp at hu;subst hu;exact yf _ _ _))
 have hun:=zci w2.heap.size 1 A n c (.slice (some ⟨w2.heap.size,0,none⟩) 1 1) [.slice A2 n2 c2] rows [goal] s (w2.alloc (.cells #[.slice A2 n2 c2] 35)) ((zV.below HR.out hx).more HC.out.size) HO.out
  ⟨rfl,fun j hj=>by
   have:j=0:=by simp at hj;omega
   subst this
   exact (zp.below HG.out hx).more HC.out.size⟩ rfl (by omega) hx.size H1.out.small
  (by
    intro l hl t ht
    rcases List.mem_append.1 hl with hl | hl
    . rw [List.mem_singleton] at hl;subst hl;exact H2.out.all t ht
    . rw [List.mem_map] at hl
      obtain ⟨r,hr,rfl⟩:=hl
      exact H1.out.all r hr t ht)
  (by
    obtain ⟨r,hr,hne⟩:=H1.out.ex
    exact ⟨r.terms,List.mem_append.2 (.inr (by rw [List.mem_map];exact ⟨r,hr,rfl⟩)),hne⟩)
 have HUN:=ze hun
 have HX:=ze hx
 clear hun hx hnew HO HR HG
 go_wp2_with fail
 refine HUN.out.mono ?_
 rintro e w3 ⟨v,rfl,hn,hb3⟩
 have hb4:Below w2.heap.size w2 w3:=HX.out.trans hb3
 replace HB:=ze (HB.out.below hb4)
 replace HC:=ze (yl HC.out hb4)
 have HN:=ze hn
 obtain ⟨A3,c3,rfl,_⟩:=hn
 clear hb3 hb4 HUN HX
 go_wp2_with fail
 go_ret3
 exact ⟨b,_,rfl,HB.out,HN.out,HLE.out,HC.out.below (Nat.le_refl _) (fun x e=>by subst e;exact HLE.out)⟩
end Go.Proofs.YtnpbflhjglkokaaGreatDoor
