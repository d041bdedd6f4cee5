/- Parts of the proof: memory, numbers, walks of the functions that are called. -/
import Derived.Test.YtkmcmmcencdcpaaGreatDoorMt20
import Derived.Test.YtkmcmmcencdcpaaGreatDoorMt21
set_option linter.unusedVariables false
set_option linter.unusedSimpArgs false
set_option maxHeartbeats 32000000
namespace Go.Proofs.YtkmcmmcencdcpaaGreatDoor
open Go.RowKit Go.Deep
attribute [local go_sem ↓] Go.wp_at_zero Go.wp_at_succ
def TrmR (w0:World) (b B:Nat) (tv:Value) (l:List zG) (kv:Value) (wr:World):Prop:=
 ∃ k:Nat,k<=l.length/\kv= .int .i64 k/\Hid (∀ j,j<k->yw l j=0)/\Hid (zB wr b)/\Hid (zk wr B tv l)/\Hid (Chg (· =b) w0 wr)
theorem zao (s:List UInt8) (w:World) (hs:yo s):Calls Tryz.prog 89 #[str s] w (Vd w (.bool (x8 s))):=by
 have h:=zix ⟨s.toArray⟩ w (by rw [<- zo,yR];exact hs)
 rw [yR] at h
 exact h
set_option maxRecDepth 100000 in
theorem Vp (b:Nat) (A:Option Addr) (n c:Nat) (l:List zG) (w:World) (hB:zB w b) (ht:ya w (.slice A n c) l):Calls Tryz.prog 41 #[.map (some b),.slice A n c] w (X8 b (zQ l) w):=by
 obtain rfl:=ht.len
 have hbl:=ht.bound
 have HB:=ze hB
 have HT:=ze ht
 have HC:=ze (Chg.refl (S:=(· =b)) w)
 clear hB ht
 go_enter Tryz.func41,Tryz.ntmps41
 go_wp2_with fail
 go_loopw [12] (TrmR w b w.heap.size (.slice A l.length c) l) (fun kv _=>l.length - (intOf kv).toNat)
 case atStart=>exact ⟨0,Nat.zero_le _,rfl,(fun j h=>by omega),HB,HT,HC⟩
 case round=>
  clear HB HT HC
  obtain ⟨k,hk,rfl,HJ,HB,HT,HC⟩:=hrel
  by_cases hkl:k<l.length
  . have hki:(k:Int)<(l.length:Int):=by omega
    obtain ⟨ad,eA,hbb,p0,p1,hs1,hs2⟩:=HT.out.at_ hkl;subst eA;have hx:=zf wr (.cells #[str l[k].name,str l[k].coef] 60);have HKT:=ze (Blk.new wr 60 #[str l[k].name,str l[k].coef]);replace HB:=ze (HB.out.below hx);replace HT:=ze (zk.below HT.out hx);replace HC:=ze (zX HC.out hx);have hgd:l.getD k default=l[k]:=by simp [List.getD,List.getElem?_eq_getElem hkl]
    have HGD:=ze hgd;have HS2:=ze hs2;have hnm:=fun w=>zao l[k].name w hs1
    clear hx hgd hs1 hs2
    go_upto_region 4 with fail
    clear p0 p1 hbb;generalize wr.alloc (.cells #[str l[k].name,str l[k].coef] 60)=WL at HKT HB HT HC |-;generalize wr.heap.size=gt at HKT |-;have p0:=HKT.out.cell 0;simp at p0
    cases hin:x8 l[k].name with
    | false=>
      rw [hin] at hnm;have HE:Hid (yw l k=5):=by show yw l k=5;unfold yw;rw [HGD.out,hin];rfl
      have HER:Hid (zQ l=5):=(yk hkl HJ.out (by rw [HE.out];decide)).trans HE.out;clear hin;go_wp2_with fail;refine (hnm _).mono ?_;rintro e w1 ⟨rfl,rfl⟩;go_wp2_with fail;go_ret;exact ⟨by rw [HER.out];rfl,HB.out,HC.out⟩
    | true=>
      rw [hin] at hnm;have HIN:=ze hin;have hrd:=vD b ⟨l[k].coef.toArray⟩ WL HB.out (by rw [<- zo,yR];exact HS2.out);rw [yR] at hrd;have HRD:=ze hrd;have p1:=HKT.out.cell 1;simp at p1;clear hin hrd;go_wp2_with fail;refine (hnm _).mono ?_;rintro e w1 ⟨rfl,rfl⟩;clear hnm;go_wp2_with fail;refine HRD.out.mono ?_;rintro e w2 ⟨v,ok,rfl,⟨x1,A1,k1,c1,s1,y1,B1,k1x,c1x,t1,rfl⟩,hok,hq,hB1,hc1⟩;clear HRD p0 p1;replace HT:=ze (HB.out.keepT hc1 HT.out);replace HKT:=ze (HB.out.keepBlk hc1 HKT.out);replace HC:=ze (yq HC.out hc1);replace HB:=ze hB1;have hx:=zf w2 (.cells #[.int .i64 x1,.slice A1 k1 c1,.bool s1,.int .i64 y1,.slice B1 k1x c1x,.bool t1] 93);replace HB:=ze (HB.out.below hx);replace HT:=ze (zk.below HT.out hx);replace HKT:=kb_ HKT hx;replace HC:=ze (zX HC.out hx);have HX:=ze hx;clear hB1 hc1 hx
      have hco:x8 l[k].name=true->yV l[k].coef≠0->yw l k=yV l[k].coef:=fun h1 h2=>by
       unfold yw;rw [HGD.out,h1,if_neg (by decide),if_pos h2]
      cases hr:zp l[k].coef with
      | none=>
        rw [hr] at hok;subst hok;have e4:yV l[k].coef=4:=by unfold yV;rw [hr]
        have HE:Hid (yw l k=4):=(hco HIN.out (by rw [e4];decide)).trans e4;have HER:Hid (zQ l=4):=(yk hkl HJ.out (by rw [HE.out];decide)).trans HE.out;clear hq hr hco e4;go_wp2_with fail;go_ret;exact ⟨by rw [HER.out];rfl,HB.out,HC.out⟩
      | some q=>
        rw [hr] at hok;subst hok;have HKX:=ze (Blk.new w2 93 #[.int .i64 x1,.slice A1 k1 c1,.bool s1,.int .i64 y1,.slice B1 k1x c1x,.bool t1]);have HRQ:=ze ((hq q hr).below HX.out);have HRL:=ze (zd1 hr);have hce:yV l[k].coef=if q=0 then 1 else if yE 12 q then 0 else 3:=by unfold yV;rw [hr]
        clear hq hr HX
        go_upto_region 7 with fail
        generalize w2.alloc (.cells #[.int .i64 x1,.slice A1 k1 c1,.bool s1,.int .i64 y1,.slice B1 k1x c1x,.bool t1] 93)=W2 at HB HT HKT HC HKX HRQ |-;generalize w2.heap.size=gx at HKX |-;have r0:=HKX.out.cell 0;have r1:=HKX.out.cell 1;have r2:=HKX.out.cell 2;have r3:=HKX.out.cell 3;have r4:=HKX.out.cell 4;have r5:=HKX.out.cell 5;simp at r0 r1 r2 r3 r4 r5;have hsg:=VE _ q W2 HRQ.out
        by_cases h0:q=0
        . have e0:zgi q 0=0:=by subst h0;rfl
          rw [e0] at hsg;have HSG:=ze hsg;rw [if_pos h0] at hce;have HE:Hid (yw l k=1):=(hco HIN.out (by rw [hce];decide)).trans hce;have HER:Hid (zQ l=1):=(yk hkl HJ.out (by rw [HE.out];decide)).trans HE.out;clear hco hce h0 e0 hsg;go_wp2_with fail;refine HSG.out.mono ?_;rintro e w3 ⟨rfl,hb2⟩;replace HB:=ze (HB.out.below hb2);replace HC:=ze (zX HC.out hb2);clear hb2 HSG;go_wp2_with fail;go_ret;exact ⟨by rw [HER.out];rfl,HB.out,HC.out⟩
        . obtain ⟨sg,hsg2⟩:∃ sg,zgi q 0=sg:=⟨_,rfl⟩
          have d1:(sg == 0)=false:=by
           rw [beq_eq_false_iff_ne, <- hsg2];unfold zgi;intro h
           split at h
           . omega
           . split at h
             . omega
             . next h1 h2=>exact h0 (Rat.le_antisymm (Rat.not_lt.1 h2) (Rat.not_lt.1 h1))
          rw [hsg2] at hsg;have HSG:=ze hsg;rw [if_neg h0] at hce;clear hsg hsg2 h0;go_wp2_with fail;refine HSG.out.mono ?_;rintro e w3 ⟨rfl,hb2⟩;replace HB:=ze (HB.out.below hb2);replace HT:=ze (zk.below HT.out hb2);replace HKT:=kb_ HKT hb2;replace HC:=ze (zX HC.out hb2);replace HKX:=kb_ HKX hb2;replace HRQ:=ze (HRQ.out.below hb2);clear hb2 HSG r0 r1 r2 r3 r4 r5;have r0:=HKX.out.cell 0;have r1:=HKX.out.cell 1;have r2:=HKX.out.cell 2;have r3:=HKX.out.cell 3;have r4:=HKX.out.cell 4;have r5:=HKX.out.cell 5;simp at r0 r1 r2 r3 r4 r5;have hlg:=zdm _ q 12 w3 HRQ.out HRL.out (by omega) (by omega)
          by_cases hsh:yE 12 q
          . rw [decide_eq_true hsh] at hlg
            rw [if_pos hsh] at hce;have HLG:=ze hlg;clear hlg hsh;go_wp2_with fail;refine HLG.out.mono ?_;rintro e w4 ⟨rfl,hb2⟩;replace HB:=ze (HB.out.below hb2);replace HT:=ze (zk.below HT.out hb2);replace HKT:=kb_ HKT hb2;replace HC:=ze (zX HC.out hb2);clear hb2 HLG r0 r1 r2 r3 r4 r5 HKX HRQ HRL
            go_upto_region 13 with fail
            obtain ⟨kp,hkp⟩:∃ kp,kp=k - 1:=⟨_,rfl⟩;have hkpl:kp<l.length:=by omega
            obtain ⟨ad2,eA2,hbb,p0,p1,hs1,_⟩:=HT.out.at_ hkpl;injection eA2 with eA2
            subst eA2;have hmax:max ((k:Int) - 1) 0=(kp:Int):=by omega
            have hwr:IntKind.i64.wrap ((k:Int) - 1)=(k:Int) - 1:=by rw [IntKind.wrap_i64];omega
            have hkpi:(kp:Int)<(l.length:Int):=by omega
            have t0:=HKT.out.cell 0;simp at t0;have tL:=HKT.out.lt;have aL:ad.block<w4.heap.size:=Nat.lt_of_lt_of_le hbb HC.out.size;obtain ⟨bz,hbz⟩:∃ bz,yh l[kp].name l[k].name (decide (k=0))=bz:=⟨_,rfl⟩;have hbe:=fun w=>zcg l[kp].name l[k].name (decide (k=0)) w
            rw [hbz] at hbe;have dk:((k:Int) == 0)=decide (k=0):=by by_cases h:k=0<;>simp [h]
            have HE:Hid (yw l k=bz):=by
             show yw l k=bz
             unfold yw;rw [HGD.out,HIN.out,if_neg (by decide),if_neg (by rw [hce];decide), <- hbz];have hg2:l.getD (k - 1) default=l[kp]:=by rw [<- hkp];simp [List.getD,List.getElem?_eq_getElem hkpl]
             rw [hg2]
            have HBE:=ze hbe;clear hbz hbe hce hco p1 hs1 hbb hkp;refine zr (S:=fun w' =>Hid (Below w4.heap.size w4 w')/\w'.cell? (ad.add (kp*2))=some (str l[kp].name)/\w'.cell? ⟨gt,0,none⟩=some (str l[k].name)) 11 1 12 rfl (by kernel_rfl) (by kernel_rfl) (by kernel_rfl) rfl (zm (zv w4) (fun hB=>⟨xl hB aL p0,zh hB tL t0⟩)) ?_ (fun hHeld=>?_)
            . intro _ _ _ _ _ h9;exact h9
            simp only [List.take_succ_cons,List.take_zero]
            iterate 11 refine zW ?_
            refine zM ?_;refine HH.rd 11 (fun K hK=>?_)
            go_simp
            go_at_call 91;refine (HBE.out _).mono ?_;rintro e w5 ⟨rfl,rfl⟩;have hH0:=hHeld;clear hHeld;refine hK.out _ _ (zm (hH0.1) (fun hB=>⟨xl hB aL p0,zh hB tL t0⟩)) (fun hHeld=>?_);clear hH0 hK K
            try simp only [Act.put,List.setIfInBounds_toArray,List.set_cons_zero,List.set_cons_succ]
            have HBY:=(hHeld.1).out;replace HB:=ze (zB.below HB.out HBY);replace HT:=ze (zk.below HT.out HBY);replace HC:=ze (zX HC.out HBY);clear HBY hHeld;refine HH.done (by kernel_rfl) ?_;simp only [List.drop_succ_cons,List.drop_zero];clear p0 t0 tL aL HBE
            by_cases hz:bz=0
            . have d1:(bz != 0)=false:=by rw [bne_eq_false_iff_eq];exact hz
              have HJ2:Hid (∀ j,j<k+1->yw l j=0):=fun j hj=>by
               by_cases e:j=k
               . subst e;exact HE.out.trans hz
               . exact HJ.out j (by omega)
              clear hz HJ;go_wp2_with fail;go_roundw
              case rel=>exact ⟨k+1,by omega,by go_num,HJ2,HB,HT,HC⟩
              case measure=>simp [intOf];omega
            . have d1:(bz != 0)=true:=by rw [bne_iff_ne];exact hz
              have HER:Hid (zQ l=bz):=(yk hkl HJ.out (by rw [HE.out];exact hz)).trans HE.out;clear hz HJ;go_wp2_with fail;go_ret;exact ⟨by rw [HER.out];rfl,HB.out,HC.out⟩
          . rw [decide_eq_false hsh] at hlg
            rw [if_neg hsh] at hce;have HLG:=ze hlg;have HE:Hid (yw l k=3):=(hco HIN.out (by rw [hce];decide)).trans hce;have HER:Hid (zQ l=3):=(yk hkl HJ.out (by rw [HE.out];decide)).trans HE.out;clear hlg hsh hce hco;go_wp2_with fail;refine HLG.out.mono ?_;rintro e w4 ⟨rfl,hb2⟩;replace HB:=ze (HB.out.below hb2);replace HC:=ze (zX HC.out hb2);clear hb2 HLG;go_wp2_with fail;go_ret;exact ⟨by rw [HER.out];rfl,HB.out,HC.out⟩
  . obtain rfl:l.length=k:=by omega
    have HER:Hid (zQ l=0):=xb.2 HJ.out;go_wp2_with fail;go_ret;exact ⟨by rw [HER.out];rfl,HB.out,HC.out⟩
set_option maxRecDepth 100000 in
theorem zn7 (b:Nat) (A:Option Addr) (n c:Nat) (r:yU) (w:World) (hB:zB w b) (ht:ya w (.slice A n c) r.terms) (hs:yo r.bound):Calls Tryz.prog 87 #[.map (some b),.agg #[.slice A n c,str r.bound]] w (X8 b (yS r) w):=by
 have hx:=zf w (.cells #[.slice A n c,str r.bound] 49)
 obtain ⟨W0,hW0⟩:∃ x,x=w.alloc (.cells #[.slice A n c,str r.bound] 49):=⟨_,rfl⟩
 have hk:=Blk.new w 49 #[.slice A n c,str r.bound]
 rw [<- hW0] at hx hk
 have HK:=ze hk
 have HB:=ze (hB.below hx)
 have HC:Hid (Chg (· =b) w W0):=Chg.of_below hx
 have htm:=Vp b A n c r.terms W0 HB.out ((zk.below ht hx).more hx.size)
 have hin:=fun w' (h:zB w' b)=>zim b r.bound w' h hs
 have HIN:=ze hin
 have HTM:=ze htm
 clear hB ht hs hx hk htm hin
 go_enter Tryz.func87,Tryz.ntmps87
 go_upto_region 1 with fail
 rw [<- hW0]
 clear hW0
 generalize w.heap.size=gr at HK |-
 have r0:=HK.out.cell 0
 simp at r0
 go_wp2_with fail
 refine HTM.out.mono ?_
 rintro e w1 ⟨rfl,hB1,hc1⟩
 replace HK:=ze (HB.out.keepBlk hc1 HK.out)
 replace HC:=ze (yq HC.out hc1)
 replace HB:=ze hB1
 clear hB1 hc1 HTM r0
 by_cases hz:zQ r.terms=0
 . have d1:(zQ r.terms != 0)=false:=by rw [bne_eq_false_iff_eq];exact hz
   have HE:=ze (show yS r=y9 r.bound by unfold yS;rw [if_neg (by rw [hz];decide)]);have r1:=HK.out.cell 1;simp at r1;clear hz;go_wp2_with fail;refine (HIN.out _ HB.out).mono ?_;rintro e w2 ⟨rfl,hB1,hc1⟩;replace HC:=ze (yq HC.out hc1);replace HB:=ze hB1;clear hB1 hc1 HIN r1;go_wp2_with fail;go_ret;exact ⟨by rw [HE.out];rfl,HB.out,HC.out⟩
 . have d1:(zQ r.terms != 0)=true:=by rw [bne_iff_ne];exact hz
   have HE:=ze (show yS r=zQ r.terms by unfold yS;rw [if_pos hz]);clear hz;go_wp2_with fail;go_ret;exact ⟨by rw [HE.out];rfl,HB.out,HC.out⟩
end Go.Proofs.YtkmcmmcencdcpaaGreatDoor
