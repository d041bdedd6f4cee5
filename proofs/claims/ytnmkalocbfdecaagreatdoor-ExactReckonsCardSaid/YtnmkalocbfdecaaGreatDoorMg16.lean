/- Parts of the proof: memory, numbers, walks of the functions that are called. -/
import Derived.Deep.DrawnRows
import Derived.Test.YtnmkalocbfdecaaGreatDoorMg15
set_option linter.unusedVariables false
set_option linter.unusedSimpArgs false
set_option maxRecDepth 100000
set_option maxHeartbeats 32000000
namespace Go.Proofs.YtnmkalocbfdecaaGreatDoor
open Go.RowKit Go.Deep
attribute [local go_sem ↓] Go.wp_at_zero Go.wp_at_succ
def xI (w:World) (g:Nat):Prop:=∃ (ng:Bool) (A:Option Addr) (n c:Nat) (B:Option Addr) (m d:Nat),Blk w g 43 #[.bool ng,.slice A n c,.slice B m d]
theorem yR {w w' :World} {g:Nat} (hb:Below w.heap.size w w') (h:Hid (xI w g)):Hid (xI w' g):=by
 obtain ⟨ng,A,n,c,B,m,d,h⟩:=h.out
 exact ⟨ng,A,n,c,B,m,d,h.below hb h.lt⟩
theorem zbg {w w' :World} {v:Value} {n:Nat} (hb:Below w.heap.size w w') (h:Hid (zu w v n)):Hid (zu w' v n):=zu.below h.out hb
section
variable {W w0:World} {g g' i n c m d k:Nat} {ng:Bool} {A B:Option Addr} {v:Value}
theorem xm (h:Hid (xI W g)):Hid (xI (World.ref W g ng A n c B m d) g):=by
 obtain ⟨ng,A,n,c,B,m,d,h⟩:=h.out
 exact ⟨_,_,_,_,_,_,_,yv h⟩
theorem yV (hg:w0.heap.size<=g) (h:Hid (Below w0.heap.size w0 W)):Hid (Below w0.heap.size w0 (World.ref W g ng A n c B m d)):=yl h.out hg
theorem Ya (hr:Hid (xI W g)) (h:Hid (zu W v k)):Hid (zu (World.ref W g ng A n c B m d) v k):=by
 obtain ⟨ng,A,n,c,B,m,d,hr⟩:=hr.out
 exact zT h.out hr
theorem zO (hne:g≠g') (h:W.cell? ⟨g,i,none⟩=some v):(World.ref W g' ng A n c B m d).cell? ⟨g,i,none⟩=some v:=by
 rw [<- h]
 simp only [World.ref]
 rw [World.cell?_setCell_other,World.cell?_setCell_other,World.cell?_setCell_other]
 all_goals (intro e;injection e with e;exact hne e.symm)
theorem yW (h:k<W.heap.size):k<(World.ref W g' ng A n c B m d).heap.size:=by
 simp only [World.ref,World.setCell,Array.size_modify]
 exact h
end
def zp0 (v:Value):Prop:=∃ (ng:Bool) (A:Option Addr) (n c:Nat) (B:Option Addr) (m d:Nat),v= .agg #[.bool ng,.slice A n c,.slice B m d]
def yS (w:World) (l:List UInt8) (e:Ending) (w' :World):Prop:=
 ∃ v b,e= .returned (.tuple #[v,.bool b])/\zp0 v/\b=(zj l).isSome/\(∀ q,zj l=some q->yI w' v q)/\Below w.heap.size w w'
theorem yS.no {w w' :World} {l:List UInt8} {v:Value} (h:zj l=none) (hv:zp0 v) (hb:Below w.heap.size w w'):yS w l (.returned (.tuple #[v,.bool false])) w' :=
 ⟨v,false,rfl,hv,by rw [h];rfl,fun q hq=>(by rw [h] at hq;cases hq),hb⟩
theorem yS.maybe {w w' :World} {l:List UInt8} {v:Value} {q:Rat} {b:Bool} (h:zj l=if zR q=l then some q else none) (hb' :b=decide (zR q=l)) (hv:yI w' v q) (hb:Below w.heap.size w w'):
 yS w l (.returned (.tuple #[v,.bool b])) w' :=by
 subst hb'
 by_cases he:zR q=l
 . rw [if_pos he] at h
   refine ⟨v,_,rfl,?_,by rw [h,decide_eq_true he];rfl,fun q' hq=>?_,hb⟩
   . obtain ⟨ng,A,n,c,B,m,d,rfl,_⟩:=hv;exact ⟨_,_,_,_,_,_,_,rfl⟩
   . rw [h] at hq;injection hq with hq;rw [<- hq];exact hv
 . rw [if_neg he] at h
   rw [decide_eq_false he];refine yS.no h ?_ hb;obtain ⟨ng,A,n,c,B,m,d,rfl,_⟩:=hv;exact ⟨_,_,_,_,_,_,_,rfl⟩
theorem zak {ng:Bool} {n d M:Nat} (hd:0<d) (h1:len 1000000000 n<=M) (h2:len 1000000000 d<=M):YJ M (xb ng n d):=by
 obtain ⟨e1,e2,_⟩:=zcc ng n d hd
 unfold YJ
 rw [e1,e2]
 exact ⟨Nat.le_trans (yP (by omega) (Nat.div_le_self _ _)) h1,Nat.le_trans (yP (by omega) (Nat.div_le_self _ _)) h2⟩
theorem znh {l:List UInt8} {K:Nat} (h:yG l=true) (hl:l.length<=K):len 1000000000 (zC l)<=K:=by
 unfold yG at h
 rw [Bool.and_eq_true] at h
 have h1:=Yy h.1
 refine ye (by omega) (Nat.lt_of_lt_of_le h1 ?_)
 exact Nat.le_trans (Nat.pow_le_pow_left (by decide:10<=1000000000) _) (Nat.pow_le_pow_right (by decide) hl)
theorem zfq {l:List UInt8} (h:yG l=true) (hl:l.length<=50000):len 1000000000 (zC l)<=50000:=znh h hl
theorem zh5 (l:List UInt8) (s:ByteArray):(l == s.toList)=decide (l=bts s):=by
 rw [Lib.toList_data]
 show (l == bts s)=_
 by_cases h:l=bts s
 . rw [decide_eq_true h];exact beq_iff_eq.2 h
 . rw [decide_eq_false h];exact beq_eq_false_iff_ne.2 h
theorem YB {l:List UInt8} (h:yG l=true):l.all yC=true:=by
 unfold yG at h;rw [Bool.and_eq_true] at h;exact h.1
theorem YA (s:ByteArray) (w:World) (hs:s.size<=1073741824):
 Calls Tryz.prog 53 #[.string s] w (yS w (bts s)):=by
 have HWR:=ze (zf w (.cells #[.bool false,.slice none 0 0,.slice none 0 0] 43))
 have HKR:=ze (Blk.new w 43 #[.bool false,.slice none 0 0,.slice none 0 0])
 by_cases hlong:100002<s.size
 . have HP:=ze (zjc (l:=bts s) (by rw [zk];exact hlong))
   have hlI:decide (100002<(s.size:Int))=true:=by rw [decide_eq_true_eq];omega
   clear hlong
   go_enter Tryz.func53,Tryz.ntmps53
   go_wp2_with fail;have kR2:=yv (ng:=false) (A:=none) (n:=0) (c:=0) (B:=none) (m:=0) (d:=0) HKR.out;have e0:=kR2.cell 0;have e1:=kR2.cell 1;have e2:=kR2.cell 2;simp only [World.ref] at e0 e1 e2;simp at e0 e1 e2;refine bodyPost_ret (v:=.tuple #[.agg #[.bool false,.slice none 0 0,.slice none 0 0],.bool false]) (by simp [results,Tryz.results53,go_sem,e0,e1,e2]) rfl ?_
   first
   | exact yS.no HP.out ⟨_,_,_,_,_,_,_,rfl⟩ HWR.out
   | exact yS.no HP.out ⟨_,_,_,_,_,_,_,rfl⟩ (yl (g:=w.heap.size) (ng:=false) (A:=none) (n:=0) (c:=0) (B:=none) (m:=0) (d:=0) HWR.out (Nat.le_refl _))
 . have HLS:=ze (show s.size<=100002 by omega)
   have hlI:decide (100002<(s.size:Int))=false:=by rw [decide_eq_false_iff_not];omega
   clear hlong
   obtain ⟨ng,t,HN,HT,HTS,hcase⟩:∃ (ng:Bool) (t:ByteArray),Hid (ng=yu (bts s))/\Hid (bts t=zm (bts s))/\Hid (t.size<=1073741824)/\
    ((s.toList.isEmpty=true/\ng=false/\s=t)\/(∃ h:0<s.size,((s[0].toNat:Int) == 45)=false/\ng=false/\s=t/\s.toList.isEmpty=false)\/(∃ h:0<s.size,((s[0].toNat:Int) == 45)=true/\ng=true/\t=s.extract 1 s.size/\s.toList.isEmpty=false)):=by
    by_cases h0:0<s.size
    . have hne:s.toList.isEmpty=false:=by
       rw [Bool.eq_false_iff];intro e;have e:=List.isEmpty_iff.1 e;have:=congrArg List.length e;rw [Lib.toList_data] at this;simp at this;rw [this] at h0;exact absurd h0 (by decide)
      have hh:(bts s).head?=some s[0]:=by
       have:=vy s 0 h0;rw [List.head?_eq_getElem?,List.getElem?_eq_getElem (by rw [zk];exact h0),this]
      by_cases h1:s[0]=45
      . have hsg:yu (bts s)=true:=by unfold yu;rw [hh,h1];rfl
        refine ⟨true,s.extract 1 s.size,hsg.symm,?_,?_,.inr (.inr ⟨h0,by rw [h1];rfl,rfl,rfl,hne⟩)⟩
        . show _=_
          rw [xM,List.take_of_length_le (by rw [zk];exact Nat.le_refl _)];have:=Y3 hsg
          conv=>lhs;rw [this]
          rfl
        . show _<=_
          rw [ByteArray.size_extract];omega
      . have hsg:yu (bts s)=false:=by
         unfold yu;rw [hh];rw [beq_eq_false_iff_ne];intro e;injection e with e;exact h1 e
        refine ⟨false,s,hsg.symm,(ZC hsg).symm,hs,.inr (.inl ⟨h0,?_,rfl,rfl,hne⟩)⟩;rw [beq_eq_false_iff_ne];intro e;exact h1 (UInt8.toNat_inj.1 (by have:(45:UInt8).toNat=45:=rfl;omega))
    . have he:bts s=[]:=by
       apply List.eq_nil_of_length_eq_zero;rw [zk];omega
      refine ⟨false,s,by rw [he];exact rfl,by rw [he];exact rfl,hs,.inl ⟨?_,rfl,rfl⟩⟩;rw [Lib.toList_data];unfold bts at he;rw [show s.data.toList=[] from he];rfl
   have hcut:∀ W,Calls Tryz.prog 71 #[.string t,.int .u8 47] W (fun e w' =>∃ a b n,e= .returned (.tuple #[.string a,.string b,.bool (has 47 (zm (bts s)))])/\bts a=ahead 47 (zm (bts s))/\bts b=(if has 47 (zm (bts s))=true then zZ 47 (zm (bts s)) else [])/\w' =W.drewN n):=by
    intro W;refine (zn6 t 47 W HTS.out).mono ?_;rintro e w' ⟨a,b,h1,h2,h3,n,h4⟩;rw [HT.out] at h1 h2 h3;exact ⟨a,b,n,h1,h2,h3,h4⟩
   rcases hcase with ⟨z1,rfl,rfl⟩ | ⟨h0,z1,rfl,rfl,z2⟩ | ⟨h0,z1,rfl,rfl,z2⟩
   all_goals
    go_enter Tryz.func53,Tryz.ntmps53
    go_wp2_with fail;refine (hcut _).mono ?_;rintro e w1 ⟨a,b,n,rfl,ha,hb,rfl⟩;have HA:=ze ha
    have hal:(ahead 47 (zm (bts s))).length<=s.size:=by
     have h1:(ahead 47 (zm (bts s))).length<=(zm (bts s)).length:=(List.takeWhile_sublist _).length_le;have h2:(zm (bts s)).length<=(bts s).length:=by unfold zm;split<;>simp
     rw [zk] at h2
     omega
    have hbl:(zZ 47 (zm (bts s))).length<=s.size:=by
     have h1:(zZ 47 (zm (bts s))).length<=(zm (bts s)).length:=by
      unfold zZ;have:=(List.dropWhile_sublist (fun x=>x != (47:UInt8)) (l:=zm (bts s))).length_le;rw [List.length_tail];omega
     have h2:(zm (bts s)).length<=(bts s).length:=by unfold zm;split<;>simp
     rw [zk] at h2
     omega
    have HAS:=ze (show a.size<=1073741824 by rw [<- zk,ha];omega);have HKR2:=ze (HKR.out.below (zz _ n) HKR.out.lt);have HWR2:=ze (zl HWR.out n);clear HKR HWR;have HKR:=HKR2;have HWR:=HWR2;clear HKR2 HWR2;generalize World.drewN _ n=W at HKR HWR |-;have r0:=HKR.out.cell 0;have r1:=HKR.out.cell 1;have r2:=HKR.out.cell 2;have f0:=HKR.out.frozen 0;have f1:=HKR.out.frozen 1;have f2:=HKR.out.frozen 2;have lR:=HKR.out.lt;simp at r0 r1 r2
    cases hh:has 47 (zm (bts s)) with
    | false=>
      have HT1:=ze (show xk (bts s)=[49] by unfold xk;rw [hh];rfl);clear hh hb ha hal hbl hcut z1;go_wp2_with fail;generalize hT9:(⟨#[49]⟩:ByteArray)=t;have HT:Hid (bts t=xk (bts s)):=ze (by rw [HT1.out, <- hT9];rfl);have HTS:Hid (t.size<=1073741824):=ze (by rw [<- hT9];decide);clear hT9
      rcases Bool.eq_false_or_eq_true (yG (bts a)) with d1 | d1
      rotate_left
      . have HP:=ze (ZF (.inl (by rw [<- HA.out];exact d1)))
        have HD1:=ze d1;clear d1;refine (Zr a _ HAS.out).mono ?_;rintro e w1 ⟨rfl,rfl⟩;rw [HD1.out];go_wp2_with fail;have kR2:=yv (ng:=false) (A:=none) (n:=0) (c:=0) (B:=none) (m:=0) (d:=0) HKR.out;have e0:=kR2.cell 0;have e1:=kR2.cell 1;have e2:=kR2.cell 2;simp only [World.ref] at e0 e1 e2;simp at e0 e1 e2;refine bodyPost_ret (v:=.tuple #[.agg #[.bool false,.slice none 0 0,.slice none 0 0],.bool false]) (by simp [results,Tryz.results53,go_sem,e0,e1,e2]) rfl ?_
        first
        | exact yS.no HP.out ⟨_,_,_,_,_,_,_,rfl⟩ HWR.out
        | exact yS.no HP.out ⟨_,_,_,_,_,_,_,rfl⟩ (yl (g:=w.heap.size) (ng:=false) (A:=none) (n:=0) (c:=0) (B:=none) (m:=0) (d:=0) HWR.out (Nat.le_refl _))
      . have HD1:=ze d1
        clear d1;refine (Zr a _ HAS.out).mono ?_;rintro e w1 ⟨rfl,rfl⟩;rw [HD1.out];go_wp2_with fail;refine (Zr t _ HTS.out).mono ?_;rintro e w1 ⟨rfl,rfl⟩
        rcases Bool.eq_false_or_eq_true (yG (bts t)) with d2 | d2
        rotate_left
        . have HP:=ze (ZF (.inr (.inl (by rw [<- HT.out];exact d2))))
          rw [d2];clear d2;go_wp2_with fail;have kR2:=yv (ng:=false) (A:=none) (n:=0) (c:=0) (B:=none) (m:=0) (d:=0) HKR.out;have e0:=kR2.cell 0;have e1:=kR2.cell 1;have e2:=kR2.cell 2;simp only [World.ref] at e0 e1 e2;simp at e0 e1 e2;refine bodyPost_ret (v:=.tuple #[.agg #[.bool false,.slice none 0 0,.slice none 0 0],.bool false]) (by simp [results,Tryz.results53,go_sem,e0,e1,e2]) rfl ?_
          first
          | exact yS.no HP.out ⟨_,_,_,_,_,_,_,rfl⟩ HWR.out
          | exact yS.no HP.out ⟨_,_,_,_,_,_,_,rfl⟩ (yl (g:=w.heap.size) (ng:=false) (A:=none) (n:=0) (c:=0) (B:=none) (m:=0) (d:=0) HWR.out (Nat.le_refl _))
        . have HD2:=ze d2
          rw [d2];clear d2
          by_cases l1:50000<a.size
          . have HP:=ze (ZF (.inr (.inr (.inl (by rw [<- HA.out,zk];exact l1)))))
            go_wp2_with fail;have kR2:=yv (ng:=false) (A:=none) (n:=0) (c:=0) (B:=none) (m:=0) (d:=0) HKR.out;have e0:=kR2.cell 0;have e1:=kR2.cell 1;have e2:=kR2.cell 2;simp only [World.ref] at e0 e1 e2;simp at e0 e1 e2;refine bodyPost_ret (v:=.tuple #[.agg #[.bool false,.slice none 0 0,.slice none 0 0],.bool false]) (by simp [results,Tryz.results53,go_sem,e0,e1,e2]) rfl ?_
            first
            | exact yS.no HP.out ⟨_,_,_,_,_,_,_,rfl⟩ HWR.out
            | exact yS.no HP.out ⟨_,_,_,_,_,_,_,rfl⟩ (yl (g:=w.heap.size) (ng:=false) (A:=none) (n:=0) (c:=0) (B:=none) (m:=0) (d:=0) HWR.out (Nat.le_refl _))
          . by_cases l2:50000<t.size
            . have HP:=ze (ZF (.inr (.inr (.inr (.inl (by rw [<- HT.out,zk];exact l2))))))
              go_wp2_with fail;have kR2:=yv (ng:=false) (A:=none) (n:=0) (c:=0) (B:=none) (m:=0) (d:=0) HKR.out;have e0:=kR2.cell 0;have e1:=kR2.cell 1;have e2:=kR2.cell 2;simp only [World.ref] at e0 e1 e2;simp at e0 e1 e2;refine bodyPost_ret (v:=.tuple #[.agg #[.bool false,.slice none 0 0,.slice none 0 0],.bool false]) (by simp [results,Tryz.results53,go_sem,e0,e1,e2]) rfl ?_
              first
              | exact yS.no HP.out ⟨_,_,_,_,_,_,_,rfl⟩ HWR.out
              | exact yS.no HP.out ⟨_,_,_,_,_,_,_,rfl⟩ (yl (g:=w.heap.size) (ng:=false) (A:=none) (n:=0) (c:=0) (B:=none) (m:=0) (d:=0) HWR.out (Nat.le_refl _))
            . have HL1:=ze (show (bts a).length<=50000 by rw [zk];omega)
              have HL2:=ze (show (bts t).length<=50000 by rw [zk];omega);have HIF:=ze (zi3 (l:=bts s) (by rw [<- HA.out];exact HD1.out) (by rw [<- HT.out];exact HD2.out) (by rw [<- HA.out];exact HL1.out) (by rw [<- HT.out];exact HL2.out));go_wp2_with fail;refine (Vm t _ (YB HD2.out) (by have:=HL2.out;rw [zk] at this;omega)).mono ?_;rintro e w2 ⟨v,rfl,hv,hb2⟩;have hlv:=zfq HD2.out HL2.out;have hln:=zfq HD1.out HL1.out;rw [HT.out] at hv hlv;rw [HA.out] at hln;obtain ⟨dv,hdv⟩:∃ dv,zC (xk (bts s))=dv:=⟨_,rfl⟩;obtain ⟨nv,hnv⟩:∃ nv,zC (ahead 47 (zm (bts s)))=nv:=⟨_,rfl⟩;rw [hdv] at hv hlv HIF;rw [hnv] at hln HIF;have HDV:=ze hdv;have HNV:=ze hnv;obtain ⟨A,c,rfl⟩:=hv.form;have HV:=ze hv;have HLV:=ze hlv;have HLN:=ze hln;have HWR2:=ze (ext HWR.out hb2);have HKR2:=ze (HKR.out.below hb2 HKR.out.lt);clear r0 r1 r2 f0 f1 f2 lR HKR HWR;have HKR:=HKR2;have HWR:=HWR2;clear HKR2 HWR2;have r0:=HKR.out.cell 0;have r1:=HKR.out.cell 1;have r2:=HKR.out.cell 2;have f0:=HKR.out.frozen 0;have f1:=HKR.out.frozen 1;have f2:=HKR.out.frozen 2;have lR:=HKR.out.lt;simp at r0 r1 r2
              clear hv hlv hln hb2 l1 l2 hdv hnv
              by_cases hz:dv=0
              . subst hz
                have HP:=ze (ZF (.inr (.inr (.inr (.inr HDV.out)))));have hz0:((len 1000000000 0:Int) == 0)=true:=by rw [ZZ];rfl
                go_wp2_with fail;have kR2:=yv (ng:=false) (A:=none) (n:=0) (c:=0) (B:=none) (m:=0) (d:=0) HKR.out;have e0:=kR2.cell 0;have e1:=kR2.cell 1;have e2:=kR2.cell 2;simp only [World.ref] at e0 e1 e2;simp at e0 e1 e2;refine bodyPost_ret (v:=.tuple #[.agg #[.bool false,.slice none 0 0,.slice none 0 0],.bool false]) (by simp [results,Tryz.results53,go_sem,e0,e1,e2]) rfl ?_
                first
                | exact yS.no HP.out ⟨_,_,_,_,_,_,_,rfl⟩ HWR.out
                | exact yS.no HP.out ⟨_,_,_,_,_,_,_,rfl⟩ (yl (g:=w.heap.size) (ng:=false) (A:=none) (n:=0) (c:=0) (B:=none) (m:=0) (d:=0) HWR.out (Nat.le_refl _))
              . have hz0:((len 1000000000 dv:Int) == 0)=false:=by rw [beq_eq_false_iff_ne];have:=ZX (β:=1000000000) (n:=dv) (by omega) (by omega);omega
                have HZ:=ze (show 0<dv by omega);clear hz;go_wp2_with fail;refine (Vm a _ (YB HD1.out) (by have:=HL1.out;rw [zk] at this;omega)).mono ?_;rintro e w3 ⟨v3,rfl,hv3,hb3⟩;rw [HA.out,HNV.out] at hv3;have HV3:=ze hv3;have HVa:=ze (zu.below HV.out hb3);have HWR3:=ze (ext HWR.out hb3);have HKR3:=ze (HKR.out.below hb3 HKR.out.lt);clear hv3 hb3 r0 r1 r2 f0 f1 f2 lR HKR HWR;go_wp2_with fail;refine (vK _ _ _ nv dv _ HV3.out HVa.out HZ.out (Nat.le_trans HLN.out (by decide)) (Nat.le_trans HLV.out (by decide))).mono ?_;rintro e w4 ⟨v4,rfl,hv4,hb4⟩;rw [HN.out] at hv4;obtain ⟨q,hq⟩:∃ q,q=xb (yu (bts s)) nv dv:=⟨_,rfl⟩;have HQL:=ze (show YJ 33554432 q by rw [hq];exact zak HZ.out (Nat.le_trans HLN.out (by decide)) (Nat.le_trans HLV.out (by decide)));rw [<- hq] at hv4 HIF;obtain ⟨nq,A5,c5,B5,d5,rfl,hng,ha1,ha2⟩:=hv4.form;have HNG:=ze hng;have hb5:=zf w4 (.cells #[.bool nq,.slice A5 (len 1000000000 q.num.natAbs) c5,.slice B5 (len 1000000000 q.den) d5] 43);have HKR5:=ze (show xI _ w.heap.size from ⟨_,_,_,_,_,_,_,HKR3.out.below (ext hb4 hb5) HKR3.out.lt⟩)
                have HWR5:=ze (ext HWR3.out (ext hb4 hb5));have HS1:=ze (zu.below ha1 hb5);have HS2:=ze (zu.below ha2 hb5);have HKQ:=ze (Blk.new w4 43 #[.bool nq,.slice A5 (len 1000000000 q.num.natAbs) c5,.slice B5 (len 1000000000 q.den) d5]);have lgq:w.heap.size<w4.heap.size:=(HKR3.out.below hb4 HKR3.out.lt).lt;obtain ⟨n5,hn5⟩:∃ n5,len 1000000000 q.num.natAbs=n5:=⟨_,rfl⟩;obtain ⟨m5,hm5⟩:∃ m5,len 1000000000 q.den=m5:=⟨_,rfl⟩;rw [hn5,hm5] at HKR5 HWR5 HKQ |-;rw [hn5,hm5] at HS1 HS2;clear hq hv4 hng hb4 hb5 ha1 ha2 hn5 hm5 HKR3 HWR3 HV3 HVa HV;go_wp2_with fail;generalize hgq:w4.heap.size=gq at HKQ lgq |-;generalize w4.alloc (.cells #[.bool nq,.slice A5 n5 c5,.slice B5 m5 d5] 43)=W7 at HS1 HS2 HKR5 HWR5 HKQ |-;clear hgq;have hlq:=HKQ.out.lt;have q0:=HKQ.out.cell 0;have q1:=HKQ.out.cell 1;have q2:=HKQ.out.cell 2;simp at q0 q1 q2;have HRES:=ze (show xI W7.drew w.heap.size from HKR5.out);have HWX:=ze (show Below w.heap.size w W7.drew from zl HWR5.out 1);have HY1:=ze (show zu W7.drew _ q.num.natAbs from zu.below HS1.out (zz W7 1))
                have HY2:=ze (show zu W7.drew _ q.den from zu.below HS2.out (zz W7 1));clear HS1 HS2
                go_region_held3 (fun w' =>w'.cell? ⟨gq,0,none⟩=some (.bool nq)/\w'.cell? ⟨gq,1,none⟩=some (.slice A5 n5 c5)/\w'.cell? ⟨gq,2,none⟩=some (.slice B5 m5 d5)/\gq<w'.heap.size/\Hid (xI w' w.heap.size)/\Hid (Below w.heap.size w w')/\Hid (zu w' (.slice A5 n5 c5) q.num.natAbs)/\Hid (zu w' (.slice B5 m5 d5) q.den))
                 (first
                   | with_reducible exact ⟨by go_keep,by go_keep,by go_keep,by first | (simp;done) | (simp;assumption),HRES,HWX,HY1,HY2⟩
                   | (go_split_ands;with_reducible exact ⟨zO (by omega) ‹_›,zO (by omega) ‹_›,zO (by omega) ‹_›,yW ‹_›,xm ‹_›,yV (by omega) ‹_›,Ya ‹_› ‹_›,Ya ‹_› ‹_›⟩)
                   | (go_split_ands;with_reducible exact ⟨zi ‹_› ‹_› ‹_›,zi ‹_› ‹_› ‹_›,zi ‹_› ‹_› ‹_›,zy ‹_› ‹_›,yR ‹_› ‹_›,zq ‹_› ‹_›,zbg ‹_› ‹_›,zbg ‹_› ‹_›⟩)
                   | go_keep)
                 (first
                   | (go_at_call 32;refine (Vh _ q _ ⟨_,_,_,_,_,_,_,rfl,HNG.out,zB (by go_split_ands;assumption),zB (by go_split_ands;assumption)⟩ HQL.out).mono ?_;rintro e wo ⟨rfl,hbo⟩;obtain ⟨ngr,Ar,kr,cr,Br,krx,crx,kR⟩:=(yR (g:=w.heap.size) hbo (by go_split_ands;assumption)).out;have r0:=kR.cell 0;have r1:=kR.cell 1;have r2:=kR.cell 2;have f0:=kR.frozen 0;have f1:=kR.frozen 1;have f2:=kR.frozen 2;simp at r0 r1 r2;have HKR:=ze kR;clear kR))
                all_goals
                 go_split_ands;have kR2:=yv (ng:=nq) (A:=A5) (n:=n5) (c:=c5) (B:=B5) (m:=m5) (d:=d5) HKR.out;have hR1:=zB (by assumption:Hid (zu (World.ref wo w.heap.size nq A5 n5 c5 B5 m5 d5) (.slice A5 n5 c5) q.num.natAbs));have hR2:=zB (by assumption:Hid (zu (World.ref wo w.heap.size nq A5 n5 c5 B5 m5 d5) (.slice B5 m5 d5) q.den));have hRW:=zB (by assumption:Hid (Below w.heap.size w (World.ref wo w.heap.size nq A5 n5 c5 B5 m5 d5)));have e0:=kR2.cell 0;have e1:=kR2.cell 1;have e2:=kR2.cell 2;simp only [World.ref] at e0 e1 e2;simp at e0 e1 e2;go_wp2;refine bodyPost_ret (v:=.tuple #[.agg #[.bool nq,.slice A5 n5 c5,.slice B5 m5 d5],.bool (zR q == s.toList)]) (by simp [results,Tryz.results53,go_sem,e0,e1,e2]) rfl ?_;exact yS.maybe HIF.out (zh5 _ _) ⟨_,_,_,_,_,_,_,rfl,HNG.out,hR1,hR2⟩ hRW
    | true=>
      have HT:=ze (show bts b=xk (bts s) by rw [hb,if_pos hh];unfold xk;rw [hh];rfl);have HTS:=ze (show b.size<=1073741824 by rw [<- zk,hb,if_pos hh];omega);clear hh hb ha hal hbl hcut z1;obtain ⟨t,ht⟩:∃ t,t=b:=⟨b,rfl⟩;subst ht;go_wp2_with fail
      rcases Bool.eq_false_or_eq_true (yG (bts a)) with d1 | d1
      rotate_left
      . have HP:=ze (ZF (.inl (by rw [<- HA.out];exact d1)))
        have HD1:=ze d1;clear d1;refine (Zr a _ HAS.out).mono ?_;rintro e w1 ⟨rfl,rfl⟩;rw [HD1.out];go_wp2_with fail;have kR2:=yv (ng:=false) (A:=none) (n:=0) (c:=0) (B:=none) (m:=0) (d:=0) HKR.out;have e0:=kR2.cell 0;have e1:=kR2.cell 1;have e2:=kR2.cell 2;simp only [World.ref] at e0 e1 e2;simp at e0 e1 e2;refine bodyPost_ret (v:=.tuple #[.agg #[.bool false,.slice none 0 0,.slice none 0 0],.bool false]) (by simp [results,Tryz.results53,go_sem,e0,e1,e2]) rfl ?_
        first
        | exact yS.no HP.out ⟨_,_,_,_,_,_,_,rfl⟩ HWR.out
        | exact yS.no HP.out ⟨_,_,_,_,_,_,_,rfl⟩ (yl (g:=w.heap.size) (ng:=false) (A:=none) (n:=0) (c:=0) (B:=none) (m:=0) (d:=0) HWR.out (Nat.le_refl _))
      . have HD1:=ze d1
        clear d1;refine (Zr a _ HAS.out).mono ?_;rintro e w1 ⟨rfl,rfl⟩;rw [HD1.out];go_wp2_with fail;refine (Zr t _ HTS.out).mono ?_;rintro e w1 ⟨rfl,rfl⟩
        rcases Bool.eq_false_or_eq_true (yG (bts t)) with d2 | d2
        rotate_left
        . have HP:=ze (ZF (.inr (.inl (by rw [<- HT.out];exact d2))))
          rw [d2];clear d2;go_wp2_with fail;have kR2:=yv (ng:=false) (A:=none) (n:=0) (c:=0) (B:=none) (m:=0) (d:=0) HKR.out;have e0:=kR2.cell 0;have e1:=kR2.cell 1;have e2:=kR2.cell 2;simp only [World.ref] at e0 e1 e2;simp at e0 e1 e2;refine bodyPost_ret (v:=.tuple #[.agg #[.bool false,.slice none 0 0,.slice none 0 0],.bool false]) (by simp [results,Tryz.results53,go_sem,e0,e1,e2]) rfl ?_
          first
          | exact yS.no HP.out ⟨_,_,_,_,_,_,_,rfl⟩ HWR.out
          | exact yS.no HP.out ⟨_,_,_,_,_,_,_,rfl⟩ (yl (g:=w.heap.size) (ng:=false) (A:=none) (n:=0) (c:=0) (B:=none) (m:=0) (d:=0) HWR.out (Nat.le_refl _))
        . have HD2:=ze d2
          rw [d2];clear d2
          by_cases l1:50000<a.size
          . have HP:=ze (ZF (.inr (.inr (.inl (by rw [<- HA.out,zk];exact l1)))))
            go_wp2_with fail;have kR2:=yv (ng:=false) (A:=none) (n:=0) (c:=0) (B:=none) (m:=0) (d:=0) HKR.out;have e0:=kR2.cell 0;have e1:=kR2.cell 1;have e2:=kR2.cell 2;simp only [World.ref] at e0 e1 e2;simp at e0 e1 e2;refine bodyPost_ret (v:=.tuple #[.agg #[.bool false,.slice none 0 0,.slice none 0 0],.bool false]) (by simp [results,Tryz.results53,go_sem,e0,e1,e2]) rfl ?_
            first
            | exact yS.no HP.out ⟨_,_,_,_,_,_,_,rfl⟩ HWR.out
            | exact yS.no HP.out ⟨_,_,_,_,_,_,_,rfl⟩ (yl (g:=w.heap.size) (ng:=false) (A:=none) (n:=0) (c:=0) (B:=none) (m:=0) (d:=0) HWR.out (Nat.le_refl _))
          . by_cases l2:50000<t.size
            . have HP:=ze (ZF (.inr (.inr (.inr (.inl (by rw [<- HT.out,zk];exact l2))))))
              go_wp2_with fail;have kR2:=yv (ng:=false) (A:=none) (n:=0) (c:=0) (B:=none) (m:=0) (d:=0) HKR.out;have e0:=kR2.cell 0;have e1:=kR2.cell 1;have e2:=kR2.cell 2;simp only [World.ref] at e0 e1 e2;simp at e0 e1 e2;refine bodyPost_ret (v:=.tuple #[.agg #[.bool false,.slice none 0 0,.slice none 0 0],.bool false]) (by simp [results,Tryz.results53,go_sem,e0,e1,e2]) rfl ?_
              first
              | exact yS.no HP.out ⟨_,_,_,_,_,_,_,rfl⟩ HWR.out
              | exact yS.no HP.out ⟨_,_,_,_,_,_,_,rfl⟩ (yl (g:=w.heap.size) (ng:=false) (A:=none) (n:=0) (c:=0) (B:=none) (m:=0) (d:=0) HWR.out (Nat.le_refl _))
            . have HL1:=ze (show (bts a).length<=50000 by rw [zk];omega)
              have HL2:=ze (show (bts t).length<=50000 by rw [zk];omega);have HIF:=ze (zi3 (l:=bts s) (by rw [<- HA.out];exact HD1.out) (by rw [<- HT.out];exact HD2.out) (by rw [<- HA.out];exact HL1.out) (by rw [<- HT.out];exact HL2.out));go_wp2_with fail;refine (Vm t _ (YB HD2.out) (by have:=HL2.out;rw [zk] at this;omega)).mono ?_;rintro e w2 ⟨v,rfl,hv,hb2⟩;have hlv:=zfq HD2.out HL2.out;have hln:=zfq HD1.out HL1.out;rw [HT.out] at hv hlv;rw [HA.out] at hln;obtain ⟨dv,hdv⟩:∃ dv,zC (xk (bts s))=dv:=⟨_,rfl⟩;obtain ⟨nv,hnv⟩:∃ nv,zC (ahead 47 (zm (bts s)))=nv:=⟨_,rfl⟩;rw [hdv] at hv hlv HIF;rw [hnv] at hln HIF;have HDV:=ze hdv;have HNV:=ze hnv;obtain ⟨A,c,rfl⟩:=hv.form;have HV:=ze hv;have HLV:=ze hlv;have HLN:=ze hln;have HWR2:=ze (ext HWR.out hb2);have HKR2:=ze (HKR.out.below hb2 HKR.out.lt);clear r0 r1 r2 f0 f1 f2 lR HKR HWR;have HKR:=HKR2;have HWR:=HWR2;clear HKR2 HWR2;have r0:=HKR.out.cell 0;have r1:=HKR.out.cell 1;have r2:=HKR.out.cell 2;have f0:=HKR.out.frozen 0;have f1:=HKR.out.frozen 1;have f2:=HKR.out.frozen 2;have lR:=HKR.out.lt;simp at r0 r1 r2
              clear hv hlv hln hb2 l1 l2 hdv hnv
              by_cases hz:dv=0
              . subst hz
                have HP:=ze (ZF (.inr (.inr (.inr (.inr HDV.out)))));have hz0:((len 1000000000 0:Int) == 0)=true:=by rw [ZZ];rfl
                go_wp2_with fail;have kR2:=yv (ng:=false) (A:=none) (n:=0) (c:=0) (B:=none) (m:=0) (d:=0) HKR.out;have e0:=kR2.cell 0;have e1:=kR2.cell 1;have e2:=kR2.cell 2;simp only [World.ref] at e0 e1 e2;simp at e0 e1 e2;refine bodyPost_ret (v:=.tuple #[.agg #[.bool false,.slice none 0 0,.slice none 0 0],.bool false]) (by simp [results,Tryz.results53,go_sem,e0,e1,e2]) rfl ?_
                first
                | exact yS.no HP.out ⟨_,_,_,_,_,_,_,rfl⟩ HWR.out
                | exact yS.no HP.out ⟨_,_,_,_,_,_,_,rfl⟩ (yl (g:=w.heap.size) (ng:=false) (A:=none) (n:=0) (c:=0) (B:=none) (m:=0) (d:=0) HWR.out (Nat.le_refl _))
              . have hz0:((len 1000000000 dv:Int) == 0)=false:=by rw [beq_eq_false_iff_ne];have:=ZX (β:=1000000000) (n:=dv) (by omega) (by omega);omega
                have HZ:=ze (show 0<dv by omega);clear hz;go_wp2_with fail;refine (Vm a _ (YB HD1.out) (by have:=HL1.out;rw [zk] at this;omega)).mono ?_;rintro e w3 ⟨v3,rfl,hv3,hb3⟩;rw [HA.out,HNV.out] at hv3;have HV3:=ze hv3;have HVa:=ze (zu.below HV.out hb3);have HWR3:=ze (ext HWR.out hb3);have HKR3:=ze (HKR.out.below hb3 HKR.out.lt);clear hv3 hb3 r0 r1 r2 f0 f1 f2 lR HKR HWR;go_wp2_with fail;refine (vK _ _ _ nv dv _ HV3.out HVa.out HZ.out (Nat.le_trans HLN.out (by decide)) (Nat.le_trans HLV.out (by decide))).mono ?_;rintro e w4 ⟨v4,rfl,hv4,hb4⟩;rw [HN.out] at hv4;obtain ⟨q,hq⟩:∃ q,q=xb (yu (bts s)) nv dv:=⟨_,rfl⟩;have HQL:=ze (show YJ 33554432 q by rw [hq];exact zak HZ.out (Nat.le_trans HLN.out (by decide)) (Nat.le_trans HLV.out (by decide)));rw [<- hq] at hv4 HIF;obtain ⟨nq,A5,c5,B5,d5,rfl,hng,ha1,ha2⟩:=hv4.form;have HNG:=ze hng;have hb5:=zf w4 (.cells #[.bool nq,.slice A5 (len 1000000000 q.num.natAbs) c5,.slice B5 (len 1000000000 q.den) d5] 43);have HKR5:=ze (show xI _ w.heap.size from ⟨_,_,_,_,_,_,_,HKR3.out.below (ext hb4 hb5) HKR3.out.lt⟩)
                have HWR5:=ze (ext HWR3.out (ext hb4 hb5));have HS1:=ze (zu.below ha1 hb5);have HS2:=ze (zu.below ha2 hb5);have HKQ:=ze (Blk.new w4 43 #[.bool nq,.slice A5 (len 1000000000 q.num.natAbs) c5,.slice B5 (len 1000000000 q.den) d5]);have lgq:w.heap.size<w4.heap.size:=(HKR3.out.below hb4 HKR3.out.lt).lt;obtain ⟨n5,hn5⟩:∃ n5,len 1000000000 q.num.natAbs=n5:=⟨_,rfl⟩;obtain ⟨m5,hm5⟩:∃ m5,len 1000000000 q.den=m5:=⟨_,rfl⟩;rw [hn5,hm5] at HKR5 HWR5 HKQ |-;rw [hn5,hm5] at HS1 HS2;clear hq hv4 hng hb4 hb5 ha1 ha2 hn5 hm5 HKR3 HWR3 HV3 HVa HV;go_wp2_with fail;generalize hgq:w4.heap.size=gq at HKQ lgq |-;generalize w4.alloc (.cells #[.bool nq,.slice A5 n5 c5,.slice B5 m5 d5] 43)=W7 at HS1 HS2 HKR5 HWR5 HKQ |-;clear hgq;have hlq:=HKQ.out.lt;have q0:=HKQ.out.cell 0;have q1:=HKQ.out.cell 1;have q2:=HKQ.out.cell 2;simp at q0 q1 q2;have HRES:=ze (show xI W7.drew w.heap.size from HKR5.out);have HWX:=ze (show Below w.heap.size w W7.drew from zl HWR5.out 1);have HY1:=ze (show zu W7.drew _ q.num.natAbs from zu.below HS1.out (zz W7 1))
                have HY2:=ze (show zu W7.drew _ q.den from zu.below HS2.out (zz W7 1));clear HS1 HS2
                go_region_held3 (fun w' =>w'.cell? ⟨gq,0,none⟩=some (.bool nq)/\w'.cell? ⟨gq,1,none⟩=some (.slice A5 n5 c5)/\w'.cell? ⟨gq,2,none⟩=some (.slice B5 m5 d5)/\gq<w'.heap.size/\Hid (xI w' w.heap.size)/\Hid (Below w.heap.size w w')/\Hid (zu w' (.slice A5 n5 c5) q.num.natAbs)/\Hid (zu w' (.slice B5 m5 d5) q.den))
                 (first
                   | with_reducible exact ⟨by go_keep,by go_keep,by go_keep,by first | (simp;done) | (simp;assumption),HRES,HWX,HY1,HY2⟩
                   | (go_split_ands;with_reducible exact ⟨zO (by omega) ‹_›,zO (by omega) ‹_›,zO (by omega) ‹_›,yW ‹_›,xm ‹_›,yV (by omega) ‹_›,Ya ‹_› ‹_›,Ya ‹_› ‹_›⟩)
                   | (go_split_ands;with_reducible exact ⟨zi ‹_› ‹_› ‹_›,zi ‹_› ‹_› ‹_›,zi ‹_› ‹_› ‹_›,zy ‹_› ‹_›,yR ‹_› ‹_›,zq ‹_› ‹_›,zbg ‹_› ‹_›,zbg ‹_› ‹_›⟩)
                   | go_keep)
                 (first
                   | (go_at_call 32;refine (Vh _ q _ ⟨_,_,_,_,_,_,_,rfl,HNG.out,zB (by go_split_ands;assumption),zB (by go_split_ands;assumption)⟩ HQL.out).mono ?_;rintro e wo ⟨rfl,hbo⟩;obtain ⟨ngr,Ar,kr,cr,Br,krx,crx,kR⟩:=(yR (g:=w.heap.size) hbo (by go_split_ands;assumption)).out;have r0:=kR.cell 0;have r1:=kR.cell 1;have r2:=kR.cell 2;have f0:=kR.frozen 0;have f1:=kR.frozen 1;have f2:=kR.frozen 2;simp at r0 r1 r2;have HKR:=ze kR;clear kR))
                all_goals
                 go_split_ands;have kR2:=yv (ng:=nq) (A:=A5) (n:=n5) (c:=c5) (B:=B5) (m:=m5) (d:=d5) HKR.out;have hR1:=zB (by assumption:Hid (zu (World.ref wo w.heap.size nq A5 n5 c5 B5 m5 d5) (.slice A5 n5 c5) q.num.natAbs));have hR2:=zB (by assumption:Hid (zu (World.ref wo w.heap.size nq A5 n5 c5 B5 m5 d5) (.slice B5 m5 d5) q.den));have hRW:=zB (by assumption:Hid (Below w.heap.size w (World.ref wo w.heap.size nq A5 n5 c5 B5 m5 d5)));have e0:=kR2.cell 0;have e1:=kR2.cell 1;have e2:=kR2.cell 2;simp only [World.ref] at e0 e1 e2;simp at e0 e1 e2;go_wp2;refine bodyPost_ret (v:=.tuple #[.agg #[.bool nq,.slice A5 n5 c5,.slice B5 m5 d5],.bool (zR q == s.toList)]) (by simp [results,Tryz.results53,go_sem,e0,e1,e2]) rfl ?_;exact yS.maybe HIF.out (zh5 _ _) ⟨_,_,_,_,_,_,_,rfl,HNG.out,hR1,hR2⟩ hRW
theorem Yj {a b M K:Nat} (h1:len 1000000000 a<=M) (h2:len 1000000000 b<=K):len 1000000000 (a*b)<=M+K:=
 Nat.le_trans (YS (by omega) a b) (Nat.add_le_add h1 h2)
theorem zbc (va vb:Value) (x y:Rat) (w:World) (ha:yI w va x) (hb:yI w vb y) (hx:YJ 8388608 x) (hy:YJ 8388608 y):
 Calls Tryz.prog 44 #[va,vb] w (YX w (x*y)):=by
 obtain ⟨g1,A1,n1,c1,B1,m1,d1,rfl,hg1,ha1,ha2⟩:=ha
 obtain ⟨g2,A2,n2,c2,B2,m2,d2,rfl,hg2,hb1,hb2⟩:=hb
 have HX1:=ze (Nat.le_trans hx.1 (show 8388608<=67108864 by omega))
 have HX2:=ze (Nat.le_trans hx.2 (show 8388608<=67108864 by omega))
 have HY1:=ze (Nat.le_trans hy.1 (show 8388608<=67108864 by omega))
 have HY2:=ze (Nat.le_trans hy.2 (show 8388608<=67108864 by omega))
 have HL1:=ze (Nat.le_trans (Yj hx.1 hy.1) (show 8388608+8388608<=33554432 by omega))
 have HL2:=ze (Nat.le_trans (Yj hx.2 hy.2) (show 8388608+8388608<=33554432 by omega))
 have HPOS:=ze (show 0<x.den*y.den by have:=x.den_pos;have:=y.den_pos;exact Nat.mul_pos ‹0<x.den› ‹0<y.den›)
 rw [zn3 x y, <- hg1, <- hg2]
 have HAN:=ze ha1
 have HAD:=ze ha2
 have HBN:=ze hb1
 have HBD:=ze hb2
 clear ha1 ha2 hb1 hb2 hx hy hg1 hg2
 have HRES:Hid (xI ((((w.alloc (.cells #[.bool g1,.slice A1 n1 c1,.slice B1 m1 d1] 43)).alloc (.cells #[.bool g2,.slice A2 n2 c2,.slice B2 m2 d2] 43)).alloc (.cells #[.bool false,.slice none 0 0,.slice none 0 0] 43)).drew) (w.heap.size+1+1)):=by
  have h:=(Blk.new ((w.alloc (.cells #[.bool g1,.slice A1 n1 c1,.slice B1 m1 d1] 43)).alloc (.cells #[.bool g2,.slice A2 n2 c2,.slice B2 m2 d2] 43)) 43 #[.bool false,.slice none 0 0,.slice none 0 0]).drew
  simp only [World.size_alloc] at h
  exact ⟨_,_,_,_,_,_,_,h⟩
 have HWX:Hid (Below w.heap.size w ((((w.alloc (.cells #[.bool g1,.slice A1 n1 c1,.slice B1 m1 d1] 43)).alloc (.cells #[.bool g2,.slice A2 n2 c2,.slice B2 m2 d2] 43)).alloc (.cells #[.bool false,.slice none 0 0,.slice none 0 0] 43)).drew)):=ze (zl (ext (ext (zf w (.cells #[.bool g1,.slice A1 n1 c1,.slice B1 m1 d1] 43)) (zf _ (.cells #[.bool g2,.slice A2 n2 c2,.slice B2 m2 d2] 43))) (zf _ (.cells #[.bool false,.slice none 0 0,.slice none 0 0] 43))) 1)
 go_enter Tryz.func44,Tryz.ntmps44
 go_wp2_with fail
 go_region_held3 (fun w' =>w'.cell? ⟨w.heap.size,0,none⟩=some (.bool g1)/\w'.cell? ⟨w.heap.size,1,none⟩=some (.slice A1 n1 c1)/\w'.cell? ⟨w.heap.size,2,none⟩=some (.slice B1 m1 d1)/\w'.cell? ⟨w.heap.size+1,0,none⟩=some (.bool g2)/\w'.cell? ⟨w.heap.size+1,1,none⟩=some (.slice A2 n2 c2)/\w'.cell? ⟨w.heap.size+1,2,none⟩=some (.slice B2 m2 d2)/\w.heap.size<w'.heap.size/\w.heap.size+1<w'.heap.size/\Hid (xI w' (w.heap.size+1+1))/\Hid (Below w.heap.size w w'))
  (first
    | with_reducible exact ⟨by go_keep,by go_keep,by go_keep,by go_keep,by go_keep,by go_keep,by first | (simp;done) | (simp;omega),by first | (simp;done) | (simp;omega),HRES,HWX⟩
    | (go_split_ands;with_reducible exact ⟨zO (by omega) ‹_›,zO (by omega) ‹_›,zO (by omega) ‹_›,zO (by omega) ‹_›,zO (by omega) ‹_›,zO (by omega) ‹_›,yW ‹_›,yW ‹_›,xm ‹_›,yV (by omega) ‹_›⟩)
    | (go_split_ands;with_reducible exact ⟨zi ‹_› ‹_› ‹_›,zi ‹_› ‹_› ‹_›,zi ‹_› ‹_› ‹_›,zi ‹_› ‹_› ‹_›,zi ‹_› ‹_› ‹_›,zi ‹_› ‹_› ‹_›,zy ‹_› ‹_›,zy ‹_› ‹_›,yR ‹_› ‹_›,zq ‹_› ‹_›⟩)
    | go_keep)
  (first
    | (go_at_call_of 87 (Value.slice A1 n1 c1);refine (xh _ _ (x.num.natAbs) (y.num.natAbs) _ (zu.below HAN.out (zB (by go_split_ands;assumption))) (zu.below HBN.out (zB (by go_split_ands;assumption))) HX1.out HY1.out).mono ?_;rintro e w1 ⟨v1,rfl,hv1,hb1⟩;have HM1:=ze hv1;clear hv1;try replace HM2:=ze (zu.below HM2.out hb1))
    | (go_at_call_of 87 (Value.slice B1 m1 d1);refine (xh _ _ (x.den) (y.den) _ (zu.below HAD.out (zB (by go_split_ands;assumption))) (zu.below HBD.out (zB (by go_split_ands;assumption))) HX2.out HY2.out).mono ?_;rintro e w2 ⟨v2,rfl,hv2,hb2⟩;have HM2:=ze hv2;clear hv2;try replace HM1:=ze (zu.below HM1.out hb2))
    | (go_at_call 74;refine (vK _ _ _ (x.num.natAbs*y.num.natAbs) (x.den*y.den) _ HM1.out HM2.out HPOS.out HL1.out HL2.out).mono ?_;rintro e wo ⟨vo,rfl,⟨g5,A5,n5,c5,B5,m5,d5,rfl,hq0,hq1,hq2⟩,hbo⟩;obtain ⟨gr,Ar,kr,cr,Br,krx,crx,kR⟩:=(yR (g:=w.heap.size+1+1) hbo (by go_split_ands;assumption)).out;have r0:=kR.cell 0;have r1:=kR.cell 1;have r2:=kR.cell 2;have f0:=kR.frozen 0;have f1:=kR.frozen 1;have f2:=kR.frozen 2;simp at r0 r1 r2;have HQ0:=ze hq0;have HQ1:=ze hq1;have HQ2:=ze hq2;have HKR:=ze kR;clear hq0 hq1 hq2 kR;try replace HM1:=ze (zu.below HM1.out hbo);try replace HM2:=ze (zu.below HM2.out hbo)))
 all_goals
  go_split_ands
  have kR2:=yv (ng:=g5) (A:=A5) (n:=n5) (c:=c5) (B:=B5) (m:=m5) (d:=d5) HKR.out
  have hR1:=zT (ng:=g5) (A:=A5) (n:=n5) (c:=c5) (B:=B5) (m:=m5) (d:=d5) HQ1.out HKR.out
  have hR2:=zT (ng:=g5) (A:=A5) (n:=n5) (c:=c5) (B:=B5) (m:=m5) (d:=d5) HQ2.out HKR.out
  have hRW:=zB (by assumption:Hid (Below w.heap.size w (World.ref wo (w.heap.size+1+1) g5 A5 n5 c5 B5 m5 d5)))
  have e0:=kR2.cell 0
  have e1:=kR2.cell 1
  have e2:=kR2.cell 2
  simp only [World.ref] at e0 e1 e2
  simp at e0 e1 e2
  go_wp2
  refine bodyPost_ret (v:=.agg #[.bool g5,.slice A5 n5 c5,.slice B5 m5 d5]) (by simp [results,Tryz.results44,go_sem,e0,e1,e2]) rfl ?_
  exact ⟨_,rfl,⟨_,_,_,_,_,_,_,rfl,HQ0.out,hR1,hR2⟩,hRW⟩
theorem zby (va vb:Value) (x y:Rat) (w:World) (ha:yI w va x) (hb:yI w vb y) (hx:YJ 8388608 x) (hy:YJ 8388608 y) (hy0:y≠0):
 Calls Tryz.prog 49 #[va,vb] w (YX w (x / y)):=by
 obtain ⟨g1,A1,n1,c1,B1,m1,d1,rfl,hg1,ha1,ha2⟩:=ha
 obtain ⟨g2,A2,n2,c2,B2,m2,d2,rfl,hg2,hb1,hb2⟩:=hb
 have HX1:=ze (Nat.le_trans hx.1 (show 8388608<=67108864 by omega))
 have HX2:=ze (Nat.le_trans hx.2 (show 8388608<=67108864 by omega))
 have HY1:=ze (Nat.le_trans hy.1 (show 8388608<=67108864 by omega))
 have HY2:=ze (Nat.le_trans hy.2 (show 8388608<=67108864 by omega))
 have HL1:=ze (Nat.le_trans (Yj hx.1 hy.2) (show 8388608+8388608<=33554432 by omega))
 have HL2:=ze (Nat.le_trans (Yj hx.2 hy.1) (show 8388608+8388608<=33554432 by omega))
 have HPOS:=ze (show 0<x.den*y.num.natAbs by refine Nat.mul_pos x.den_pos ?_;have h0:y.num≠0:=fun h=>hy0 (Rat.num_eq_zero.1 h);omega)
 rw [zns x y, <- hg1, <- hg2]
 have HAN:=ze ha1
 have HAD:=ze ha2
 have HBN:=ze hb1
 have HBD:=ze hb2
 clear ha1 ha2 hb1 hb2 hx hy hg1 hg2
 have HRES:Hid (xI ((((w.alloc (.cells #[.bool g1,.slice A1 n1 c1,.slice B1 m1 d1] 43)).alloc (.cells #[.bool g2,.slice A2 n2 c2,.slice B2 m2 d2] 43)).alloc (.cells #[.bool false,.slice none 0 0,.slice none 0 0] 43)).drew) (w.heap.size+1+1)):=by
  have h:=(Blk.new ((w.alloc (.cells #[.bool g1,.slice A1 n1 c1,.slice B1 m1 d1] 43)).alloc (.cells #[.bool g2,.slice A2 n2 c2,.slice B2 m2 d2] 43)) 43 #[.bool false,.slice none 0 0,.slice none 0 0]).drew
  simp only [World.size_alloc] at h
  exact ⟨_,_,_,_,_,_,_,h⟩
 have HWX:Hid (Below w.heap.size w ((((w.alloc (.cells #[.bool g1,.slice A1 n1 c1,.slice B1 m1 d1] 43)).alloc (.cells #[.bool g2,.slice A2 n2 c2,.slice B2 m2 d2] 43)).alloc (.cells #[.bool false,.slice none 0 0,.slice none 0 0] 43)).drew)):=ze (zl (ext (ext (zf w (.cells #[.bool g1,.slice A1 n1 c1,.slice B1 m1 d1] 43)) (zf _ (.cells #[.bool g2,.slice A2 n2 c2,.slice B2 m2 d2] 43))) (zf _ (.cells #[.bool false,.slice none 0 0,.slice none 0 0] 43))) 1)
 go_enter Tryz.func49,Tryz.ntmps49
 go_wp2_with fail
 go_region_held3 (fun w' =>w'.cell? ⟨w.heap.size,0,none⟩=some (.bool g1)/\w'.cell? ⟨w.heap.size,1,none⟩=some (.slice A1 n1 c1)/\w'.cell? ⟨w.heap.size,2,none⟩=some (.slice B1 m1 d1)/\w'.cell? ⟨w.heap.size+1,0,none⟩=some (.bool g2)/\w'.cell? ⟨w.heap.size+1,1,none⟩=some (.slice A2 n2 c2)/\w'.cell? ⟨w.heap.size+1,2,none⟩=some (.slice B2 m2 d2)/\w.heap.size<w'.heap.size/\w.heap.size+1<w'.heap.size/\Hid (xI w' (w.heap.size+1+1))/\Hid (Below w.heap.size w w'))
  (first
    | with_reducible exact ⟨by go_keep,by go_keep,by go_keep,by go_keep,by go_keep,by go_keep,by first | (simp;done) | (simp;omega),by first | (simp;done) | (simp;omega),HRES,HWX⟩
    | (go_split_ands;with_reducible exact ⟨zO (by omega) ‹_›,zO (by omega) ‹_›,zO (by omega) ‹_›,zO (by omega) ‹_›,zO (by omega) ‹_›,zO (by omega) ‹_›,yW ‹_›,yW ‹_›,xm ‹_›,yV (by omega) ‹_›⟩)
    | (go_split_ands;with_reducible exact ⟨zi ‹_› ‹_› ‹_›,zi ‹_› ‹_› ‹_›,zi ‹_› ‹_› ‹_›,zi ‹_› ‹_› ‹_›,zi ‹_› ‹_› ‹_›,zi ‹_› ‹_› ‹_›,zy ‹_› ‹_›,zy ‹_› ‹_›,yR ‹_› ‹_›,zq ‹_› ‹_›⟩)
    | go_keep)
  (first
    | (go_at_call_of 87 (Value.slice A1 n1 c1);refine (xh _ _ (x.num.natAbs) (y.den) _ (zu.below HAN.out (zB (by go_split_ands;assumption))) (zu.below HBD.out (zB (by go_split_ands;assumption))) HX1.out HY2.out).mono ?_;rintro e w1 ⟨v1,rfl,hv1,hb1⟩;have HM1:=ze hv1;clear hv1;try replace HM2:=ze (zu.below HM2.out hb1))
    | (go_at_call_of 87 (Value.slice B1 m1 d1);refine (xh _ _ (x.den) (y.num.natAbs) _ (zu.below HAD.out (zB (by go_split_ands;assumption))) (zu.below HBN.out (zB (by go_split_ands;assumption))) HX2.out HY1.out).mono ?_;rintro e w2 ⟨v2,rfl,hv2,hb2⟩;have HM2:=ze hv2;clear hv2;try replace HM1:=ze (zu.below HM1.out hb2))
    | (go_at_call 74;refine (vK _ _ _ (x.num.natAbs*y.den) (x.den*y.num.natAbs) _ HM1.out HM2.out HPOS.out HL1.out HL2.out).mono ?_;rintro e wo ⟨vo,rfl,⟨g5,A5,n5,c5,B5,m5,d5,rfl,hq0,hq1,hq2⟩,hbo⟩;obtain ⟨gr,Ar,kr,cr,Br,krx,crx,kR⟩:=(yR (g:=w.heap.size+1+1) hbo (by go_split_ands;assumption)).out;have r0:=kR.cell 0;have r1:=kR.cell 1;have r2:=kR.cell 2;have f0:=kR.frozen 0;have f1:=kR.frozen 1;have f2:=kR.frozen 2;simp at r0 r1 r2;have HQ0:=ze hq0;have HQ1:=ze hq1;have HQ2:=ze hq2;have HKR:=ze kR;clear hq0 hq1 hq2 kR;try replace HM1:=ze (zu.below HM1.out hbo);try replace HM2:=ze (zu.below HM2.out hbo)))
 all_goals
  go_split_ands
  have kR2:=yv (ng:=g5) (A:=A5) (n:=n5) (c:=c5) (B:=B5) (m:=m5) (d:=d5) HKR.out
  have hR1:=zT (ng:=g5) (A:=A5) (n:=n5) (c:=c5) (B:=B5) (m:=m5) (d:=d5) HQ1.out HKR.out
  have hR2:=zT (ng:=g5) (A:=A5) (n:=n5) (c:=c5) (B:=B5) (m:=m5) (d:=d5) HQ2.out HKR.out
  have hRW:=zB (by assumption:Hid (Below w.heap.size w (World.ref wo (w.heap.size+1+1) g5 A5 n5 c5 B5 m5 d5)))
  have e0:=kR2.cell 0
  have e1:=kR2.cell 1
  have e2:=kR2.cell 2
  simp only [World.ref] at e0 e1 e2
  simp at e0 e1 e2
  go_wp2
  refine bodyPost_ret (v:=.agg #[.bool g5,.slice A5 n5 c5,.slice B5 m5 d5]) (by simp [results,Tryz.results49,go_sem,e0,e1,e2]) rfl ?_
  exact ⟨_,rfl,⟨_,_,_,_,_,_,_,rfl,HQ0.out,hR1,hR2⟩,hRW⟩
theorem YJ.neg {M:Nat} {x:Rat} (h:YJ M x):YJ M (-x):=by
 unfold YJ at h |-
 rw [Rat.neg_num,Rat.neg_den,Int.natAbs_neg]
 exact h
theorem YJ.mono {M K:Nat} {x:Rat} (h:YJ M x) (hk:M<=K):YJ K x:=⟨Nat.le_trans h.1 hk,Nat.le_trans h.2 hk⟩
theorem YN (va:Value) (x:Rat) (w:World) (ha:yI w va x):
 Calls Tryz.prog 42 #[va] w (YX w (-x)):=by
 obtain ⟨g,A,c,B,d,rfl,hg,ha1,ha2⟩:=ha.form
 have hs:(!g && decide (0<len 1000000000 x.num.natAbs))=decide ((-x).num<0):=by
  rw [Rat.neg_num,hg]
  have h1:=ZX (β:=1000000000) (n:=x.num.natAbs) (by omega)
  have h2:=ZZ (β:=1000000000)
  by_cases h0:x.num<0
  . rw [decide_eq_true h0,decide_eq_false (show ¬ -x.num<0 by omega)];rfl
  . by_cases h3:x.num=0
    . rw [h3];rw [show (0:Int).natAbs=0 from rfl,h2];decide
    . rw [decide_eq_false h0,decide_eq_true (show 0<len 1000000000 x.num.natAbs from h1 (by omega)),decide_eq_true (show -x.num<0 by omega)];rfl
 have HS:=ze hs
 have HA:=ze ha1
 have HB:=ze ha2
 obtain ⟨n,hn⟩:∃ n,len 1000000000 x.num.natAbs=n:=⟨_,rfl⟩
 obtain ⟨m,hm⟩:∃ m,len 1000000000 x.den=m:=⟨_,rfl⟩
 rw [hn] at HS HA
 rw [hm] at HB
 rw [hn,hm]
 clear ha ha1 ha2 hs hg hn hm
 have HN1:=ze (show (-x).num.natAbs=x.num.natAbs by rw [Rat.neg_num,Int.natAbs_neg])
 have HW:=ze (fun (v:Bool)=>ext (zf w (.cells #[.bool g,.slice A n c,.slice B m d] 43)) (zf (w.alloc (.cells #[.bool g,.slice A n c,.slice B m d] 43)) (.cells #[.bool v,.slice A n c,.slice B m d] 43)))
 cases g
 . go_enter Tryz.func42,Tryz.ntmps42
   go_wp2_with fail;refine bodyPost_ret (v:=.agg #[.bool (decide (0<n)),.slice A n c,.slice B m d]) (by simp [results,Tryz.results42,go_sem]) rfl ?_;refine ⟨_,rfl,⟨_,_,_,_,_,_,_,rfl,HS.out,?_,?_⟩,HW.out _⟩
   . rw [HN1.out];exact zu.below HA.out (HW.out _)
   . exact zu.below HB.out (HW.out _)
 . go_enter Tryz.func42,Tryz.ntmps42
   go_wp2_with fail;refine bodyPost_ret (v:=.agg #[.bool false,.slice A n c,.slice B m d]) (by simp [results,Tryz.results42,go_sem]) rfl ?_;refine ⟨_,rfl,⟨_,_,_,_,_,_,_,rfl,HS.out,?_,?_⟩,HW.out _⟩
   . rw [HN1.out];exact zu.below HA.out (HW.out _)
   . exact zu.below HB.out (HW.out _)
theorem zfe (va:Value) (x:Rat) (w:World) (ha:yI w va x):
 Calls Tryz.prog 48 #[va] w (zaq w (.int .i64 x.num.sign)):=by
 obtain ⟨g,A,c,B,d,rfl,hg,ha1,ha2⟩:=ha.form
 have HW:=ze (zf w (.cells #[.bool g,.slice A (len 1000000000 x.num.natAbs) c,.slice B (len 1000000000 x.den) d] 43))
 by_cases h0:x.num=0
 . have HS:=ze (show x.num.sign=0 by rw [h0];rfl)
   have hl:len 1000000000 x.num.natAbs=0:=by rw [h0];exact ZZ _
   rw [hl] at HW |-;generalize len 1000000000 x.den=m at HW |-;clear h0 hg hl ha ha1 ha2
   go_enter Tryz.func48,Tryz.ntmps48
   go_wp2_with fail;go_ret;exact ⟨Zh HS.out,HW.out⟩
 . have hl:((len 1000000000 x.num.natAbs:Int) == 0)=false:=by
    rw [beq_eq_false_iff_ne];have:=ZX (β:=1000000000) (n:=x.num.natAbs) (by omega) (by omega);omega
   have HS:=ze (show x.num.sign=if g then -1 else 1 by
    rw [hg]
    by_cases h1:x.num<0
    . rw [decide_eq_true h1];simpa using Int.sign_eq_neg_one_of_neg h1
    . rw [decide_eq_false h1];simpa using Int.sign_eq_one_of_pos (by omega))
   generalize len 1000000000 x.num.natAbs=n at HW hl ha ha1 |-;generalize len 1000000000 x.den=m at HW ha ha2 |-;clear h0 hg ha ha1 ha2
   cases g
   . go_enter Tryz.func48,Tryz.ntmps48
     go_wp2_with fail;go_ret;exact ⟨Zh HS.out,HW.out⟩
   . go_enter Tryz.func48,Tryz.ntmps48
     go_wp2_with fail;go_ret;exact ⟨Zh HS.out,HW.out⟩
theorem zjf {a b:Nat}:decide (0<=zH (a:Int) (b:Int))=decide (b<=a):=by
 unfold zH
 rcases Nat.lt_trichotomy a b with h | h | h
 . rw [if_pos (by omega),decide_eq_false (show ¬ b<=a by omega)];rfl
 . rw [if_neg (by omega),if_neg (by omega),decide_eq_true (show b<=a by omega)];rfl
 . rw [if_neg (by omega),if_pos (by omega),decide_eq_true (show b<=a by omega)];rfl
theorem Y2 (va vb:Value) (x y:Rat) (w:World) (ha:yI w va x) (hb:yI w vb y) (hx:YJ 8388608 x) (hy:YJ 8388608 y):
 Calls Tryz.prog 40 #[va,vb] w (YX w (x+y)):=by
 obtain ⟨g1,A1,n1,c1,B1,m1,d1,rfl,hg1,ha1,ha2⟩:=ha
 obtain ⟨g2,A2,n2,c2,B2,m2,d2,rfl,hg2,hb1,hb2⟩:=hb
 have HX1:=ze (Nat.le_trans hx.1 (show 8388608<=67108864 by omega))
 have HX2:=ze (Nat.le_trans hx.2 (show 8388608<=67108864 by omega))
 have HY1:=ze (Nat.le_trans hy.1 (show 8388608<=67108864 by omega))
 have HY2:=ze (Nat.le_trans hy.2 (show 8388608<=67108864 by omega))
 have hl1:=Yj hx.1 hy.2
 have hl2:=Yj hy.1 hx.2
 have HLA:=ze (Nat.le_trans hl1 (show 8388608+8388608<=67108864 by omega))
 have HLB:=ze (Nat.le_trans hl2 (show 8388608+8388608<=67108864 by omega))
 have HLL:=ze (Nat.le_trans (Yj hx.2 hy.2) (show 8388608+8388608<=33554432 by omega))
 have HSUM:=ze (show len 1000000000 (x.num.natAbs*y.den+y.num.natAbs*x.den)<=33554432 from Nat.le_trans (zdw (by omega) _ _) (by omega))
 have HSUB1:=ze (show len 1000000000 (x.num.natAbs*y.den - y.num.natAbs*x.den)<=33554432 from Nat.le_trans (yP (by omega) (Nat.sub_le _ _)) (by omega))
 have HSUB2:=ze (show len 1000000000 (y.num.natAbs*x.den - x.num.natAbs*y.den)<=33554432 from Nat.le_trans (yP (by omega) (Nat.sub_le _ _)) (by omega))
 have HPOS:=ze (show 0<x.den*y.den from Nat.mul_pos x.den_pos y.den_pos)
 have HAN:=ze ha1
 have HAD:=ze ha2
 have HBN:=ze hb1
 have HBD:=ze hb2
 have HG1:=ze hg1
 have HG2:=ze hg2
 clear ha1 ha2 hb1 hb2 hx hy hg1 hg2 hl1 hl2
 have HRES:Hid (xI ((((w.alloc (.cells #[.bool g1,.slice A1 n1 c1,.slice B1 m1 d1] 43)).alloc (.cells #[.bool g2,.slice A2 n2 c2,.slice B2 m2 d2] 43)).alloc (.cells #[.bool false,.slice none 0 0,.slice none 0 0] 43)).drew) (w.heap.size+1+1)):=by
  have h:=(Blk.new ((w.alloc (.cells #[.bool g1,.slice A1 n1 c1,.slice B1 m1 d1] 43)).alloc (.cells #[.bool g2,.slice A2 n2 c2,.slice B2 m2 d2] 43)) 43 #[.bool false,.slice none 0 0,.slice none 0 0]).drew
  simp only [World.size_alloc] at h
  exact ⟨_,_,_,_,_,_,_,h⟩
 have HWX:Hid (Below w.heap.size w ((((w.alloc (.cells #[.bool g1,.slice A1 n1 c1,.slice B1 m1 d1] 43)).alloc (.cells #[.bool g2,.slice A2 n2 c2,.slice B2 m2 d2] 43)).alloc (.cells #[.bool false,.slice none 0 0,.slice none 0 0] 43)).drew)):=ze (zl (ext (ext (zf w (.cells #[.bool g1,.slice A1 n1 c1,.slice B1 m1 d1] 43)) (zf _ (.cells #[.bool g2,.slice A2 n2 c2,.slice B2 m2 d2] 43))) (zf _ (.cells #[.bool false,.slice none 0 0,.slice none 0 0] 43))) 1)
 go_enter Tryz.func40,Tryz.ntmps40
 go_wp2_with fail
 go_region_held3 (fun w' =>w'.cell? ⟨w.heap.size,0,none⟩=some (.bool g1)/\w'.cell? ⟨w.heap.size,1,none⟩=some (.slice A1 n1 c1)/\w'.cell? ⟨w.heap.size,2,none⟩=some (.slice B1 m1 d1)/\w'.cell? ⟨w.heap.size+1,0,none⟩=some (.bool g2)/\w'.cell? ⟨w.heap.size+1,1,none⟩=some (.slice A2 n2 c2)/\w'.cell? ⟨w.heap.size+1,2,none⟩=some (.slice B2 m2 d2)/\w.heap.size<w'.heap.size/\w.heap.size+1<w'.heap.size/\Hid (xI w' (w.heap.size+1+1))/\Hid (Below w.heap.size w w'))
  (first
    | with_reducible exact ⟨by go_keep,by go_keep,by go_keep,by go_keep,by go_keep,by go_keep,by first | (simp;done) | (simp;omega),by first | (simp;done) | (simp;omega),HRES,HWX⟩
    | (go_split_ands;with_reducible exact ⟨zO (by omega) ‹_›,zO (by omega) ‹_›,zO (by omega) ‹_›,zO (by omega) ‹_›,zO (by omega) ‹_›,zO (by omega) ‹_›,yW ‹_›,yW ‹_›,xm ‹_›,yV (by omega) ‹_›⟩)
    | (go_split_ands;with_reducible exact ⟨zi ‹_› ‹_› ‹_›,zi ‹_› ‹_› ‹_›,zi ‹_› ‹_› ‹_›,zi ‹_› ‹_› ‹_›,zi ‹_› ‹_› ‹_›,zi ‹_› ‹_› ‹_›,zy ‹_› ‹_›,zy ‹_› ‹_›,yR ‹_› ‹_›,zq ‹_› ‹_›⟩)
    | go_keep)
  (first
    | (go_at_call_of 87 (Value.slice A1 n1 c1);refine (xh _ _ x.num.natAbs y.den _ (zu.below HAN.out (zB (by go_split_ands;assumption))) (zu.below HBD.out (zB (by go_split_ands;assumption))) HX1.out HY2.out).mono ?_;rintro e w1 ⟨v1,rfl,hv1,hb1⟩;have HM1:=ze hv1;clear hv1;try replace HM2:=ze (zu.below HM2.out hb1))
    | (go_at_call_of 87 (Value.slice A2 n2 c2);refine (xh _ _ y.num.natAbs x.den _ (zu.below HBN.out (zB (by go_split_ands;assumption))) (zu.below HAD.out (zB (by go_split_ands;assumption))) HY1.out HX2.out).mono ?_;rintro e w2 ⟨v2,rfl,hv2,hb2⟩;have HM2:=ze hv2;clear hv2;try replace HM1:=ze (zu.below HM1.out hb2)))
 all_goals
  go_split_ands
  have HW1:Hid (Below w.heap.size w w2):=by assumption
  have HR1:Hid (xI w2 (w.heap.size+1+1)):=by assumption
  go_wp2_with fail
  refine (xh _ _ x.den y.den w2 (zu.below HAD.out HW1.out) (zu.below HBD.out HW1.out) HX2.out HY2.out).mono ?_
  rintro e W2 ⟨v3,rfl,hv3,hb3⟩
  have HM3:=ze hv3
  have HM1' :=ze (zu.below HM1.out hb3)
  have HM2' :=ze (zu.below HM2.out hb3)
  have HW2:=ze (ext HW1.out hb3)
  have HR2:=yR hb3 HR1
  have j0:W2.cell? ⟨w.heap.size,0,none⟩=some (.bool g1):=zi hb3 ‹_› ‹_›
  have j1:W2.cell? ⟨w.heap.size,1,none⟩=some (.slice A1 n1 c1):=zi hb3 ‹_› ‹_›
  have j2:W2.cell? ⟨w.heap.size,2,none⟩=some (.slice B1 m1 d1):=zi hb3 ‹_› ‹_›
  have j3:W2.cell? ⟨w.heap.size+1,0,none⟩=some (.bool g2):=zi hb3 ‹_› ‹_›
  have j4:W2.cell? ⟨w.heap.size+1,1,none⟩=some (.slice A2 n2 c2):=zi hb3 ‹_› ‹_›
  have j5:W2.cell? ⟨w.heap.size+1,2,none⟩=some (.slice B2 m2 d2):=zi hb3 ‹_› ‹_›
  have l0:w.heap.size<W2.heap.size:=zy hb3 ‹_›
  have l1:w.heap.size+1<W2.heap.size:=zy hb3 ‹_›
  clear hv3 hb3 HM1 HM2 HR1 HW1 HRES HWX
  have HM1:=HM1'
  have HM2:=HM2'
  clear HM1' HM2'
  by_cases hgg:g1=g2
  . have hgI:(g1 == g2)=true:=by rw [beq_iff_eq];exact hgg
    have HEQ:=ze (zbx (x:=x) (y:=y) (by rw [<- HG1.out, <- HG2.out];exact hgg));rw [<- HG1.out] at HEQ;have HLS:=HSUM;clear hgg;go_wp2_with fail;have HRES:=ze (show xI W2.drew (w.heap.size+1+1) from HR2.out);have HWX:=ze (show Below w.heap.size w W2.drew from zl HW2.out 1)
    go_region_held3 (fun w' =>w'.cell? ⟨w.heap.size,0,none⟩=some (.bool g1)/\w'.cell? ⟨w.heap.size,1,none⟩=some (.slice A1 n1 c1)/\w'.cell? ⟨w.heap.size,2,none⟩=some (.slice B1 m1 d1)/\w'.cell? ⟨w.heap.size+1,0,none⟩=some (.bool g2)/\w'.cell? ⟨w.heap.size+1,1,none⟩=some (.slice A2 n2 c2)/\w'.cell? ⟨w.heap.size+1,2,none⟩=some (.slice B2 m2 d2)/\w.heap.size<w'.heap.size/\w.heap.size+1<w'.heap.size/\Hid (xI w' (w.heap.size+1+1))/\Hid (Below w.heap.size w w'))
     (first
       | with_reducible exact ⟨by go_keep,by go_keep,by go_keep,by go_keep,by go_keep,by go_keep,by assumption,by assumption,HRES,HWX⟩
       | (go_split_ands;with_reducible exact ⟨zO (by omega) ‹_›,zO (by omega) ‹_›,zO (by omega) ‹_›,zO (by omega) ‹_›,zO (by omega) ‹_›,zO (by omega) ‹_›,yW ‹_›,yW ‹_›,xm ‹_›,yV (by omega) ‹_›⟩)
       | (go_split_ands;with_reducible exact ⟨zi ‹_› ‹_› ‹_›,zi ‹_› ‹_› ‹_›,zi ‹_› ‹_› ‹_›,zi ‹_› ‹_› ‹_›,zi ‹_› ‹_› ‹_›,zi ‹_› ‹_› ‹_›,zy ‹_› ‹_›,zy ‹_› ‹_›,yR ‹_› ‹_›,zq ‹_› ‹_›⟩)
       | go_keep)
     (first
       | (go_at_call 88;refine (zfj _ _ (x.num.natAbs*y.den) (y.num.natAbs*x.den) _ (zu.below HM1.out (show Below W2.heap.size W2 W2.drew from zz W2 1)) (zu.below HM2.out (show Below W2.heap.size W2 W2.drew from zz W2 1)) HLA.out HLB.out).mono ?_;rintro e w5 ⟨v5,rfl,hv5,hb5⟩;have HM5:=ze hv5;have HM3b:=ze (zu.below HM3.out (ext (show Below W2.heap.size W2 W2.drew from zz W2 1) hb5));clear hv5)
       | (go_at_call 74;refine (vK _ _ _ (x.num.natAbs*y.den+y.num.natAbs*x.den) (x.den*y.den) _ HM5.out HM3b.out HPOS.out HLS.out HLL.out).mono ?_;rintro e wo ⟨vo,rfl,⟨g5,A5,n5,c5,B5,m5,d5,rfl,hq0,hq1,hq2⟩,hbo⟩;obtain ⟨gr,Ar,kr,cr,Br,krx,crx,kR⟩:=(yR (g:=w.heap.size+1+1) hbo (by go_split_ands;assumption)).out;have r0:=kR.cell 0;have r1:=kR.cell 1;have r2:=kR.cell 2;have f0:=kR.frozen 0;have f1:=kR.frozen 1;have f2:=kR.frozen 2;simp at r0 r1 r2;have HQ0:=ze hq0;have HQ1:=ze hq1;have HQ2:=ze hq2;have HKR:=ze kR;clear hq0 hq1 hq2 kR))
    all_goals
     go_split_ands;have kR2:=yv (ng:=g5) (A:=A5) (n:=n5) (c:=c5) (B:=B5) (m:=m5) (d:=d5) HKR.out;have hR1:=zT (ng:=g5) (A:=A5) (n:=n5) (c:=c5) (B:=B5) (m:=m5) (d:=d5) HQ1.out HKR.out;have hR2:=zT (ng:=g5) (A:=A5) (n:=n5) (c:=c5) (B:=B5) (m:=m5) (d:=d5) HQ2.out HKR.out;have hRW:=zB (by assumption:Hid (Below w.heap.size w (World.ref wo (w.heap.size+1+1) g5 A5 n5 c5 B5 m5 d5)));have e0:=kR2.cell 0;have e1:=kR2.cell 1;have e2:=kR2.cell 2;simp only [World.ref] at e0 e1 e2;simp at e0 e1 e2;go_wp2;refine bodyPost_ret (v:=.agg #[.bool g5,.slice A5 n5 c5,.slice B5 m5 d5]) (by simp [results,Tryz.results40,go_sem,e0,e1,e2]) rfl ?_;exact ⟨_,rfl,⟨_,_,_,_,_,_,_,rfl,(by rw [HEQ.out];exact HQ0.out),(by rw [HEQ.out];exact hR1),(by rw [HEQ.out];exact hR2)⟩,hRW⟩
  . have hgI:(g1 == g2)=false:=by rw [beq_eq_false_iff_ne];exact hgg
    have HNE:=ze (show decide (x.num<0)≠decide (y.num<0) by rw [<- HG1.out, <- HG2.out];exact hgg);clear hgg
    by_cases hle:y.num.natAbs*x.den<=x.num.natAbs*y.den
    . have hc0:0<=zH ((x.num.natAbs*y.den:Nat):Int) ((y.num.natAbs*x.den:Nat):Int):=of_decide_eq_true (by rw [zjf,decide_eq_true hle])
      have HEQ:=ze (zgi HNE.out hle);have HLE:=ze hle;rw [<- HG1.out] at HEQ;have HLS:=HSUB1;clear hle;go_wp2_with fail;refine (xY _ _ (x.num.natAbs*y.den) (y.num.natAbs*x.den) W2 HM1.out HM2.out HLA.out HLB.out).mono ?_;rintro e W3 ⟨rfl,n,rfl⟩;generalize zH ((x.num.natAbs*y.den:Nat):Int) ((y.num.natAbs*x.den:Nat):Int)=cv at hc0 |-;have hb3:=zz W2 n;have HM1' :=ze (zu.below HM1.out hb3);have HM2' :=ze (zu.below HM2.out hb3);have HM3' :=ze (zu.below HM3.out hb3);have HW2' :=ze (ext HW2.out hb3);have HR2' :=yR hb3 HR2;have j0' :=zi hb3 l0 j0;have j1' :=zi hb3 l0 j1;have j2' :=zi hb3 l0 j2;have j3' :=zi hb3 l1 j3;have j4' :=zi hb3 l1 j4;have j5' :=zi hb3 l1 j5;have l0' :=zy hb3 l0;have l1' :=zy hb3 l1;clear hb3 HM1 HM2 HM3 HW2 HR2 j0 j1 j2 j3 j4 j5 l0 l1;generalize W2.drewN n=W2 at HM1' HM2' HM3' HW2' HR2' j0' j1' j2' j3' j4' j5' l0' l1' |-;have HM1:=HM1';have HM2:=HM2';have HM3:=HM3';have HW2:=HW2';have HR2:=HR2';clear HM1' HM2' HM3' HW2' HR2';go_wp2_with fail;have HRES:=ze (show xI W2.drew (w.heap.size+1+1) from HR2.out);have HWX:=ze (show Below w.heap.size w W2.drew from zl HW2.out 1)
      go_region_held3 (fun w' =>w'.cell? ⟨w.heap.size,0,none⟩=some (.bool g1)/\w'.cell? ⟨w.heap.size,1,none⟩=some (.slice A1 n1 c1)/\w'.cell? ⟨w.heap.size,2,none⟩=some (.slice B1 m1 d1)/\w'.cell? ⟨w.heap.size+1,0,none⟩=some (.bool g2)/\w'.cell? ⟨w.heap.size+1,1,none⟩=some (.slice A2 n2 c2)/\w'.cell? ⟨w.heap.size+1,2,none⟩=some (.slice B2 m2 d2)/\w.heap.size<w'.heap.size/\w.heap.size+1<w'.heap.size/\Hid (xI w' (w.heap.size+1+1))/\Hid (Below w.heap.size w w'))
       (first
         | with_reducible exact ⟨by go_keep,by go_keep,by go_keep,by go_keep,by go_keep,by go_keep,by assumption,by assumption,HRES,HWX⟩
         | (go_split_ands;with_reducible exact ⟨zO (by omega) ‹_›,zO (by omega) ‹_›,zO (by omega) ‹_›,zO (by omega) ‹_›,zO (by omega) ‹_›,zO (by omega) ‹_›,yW ‹_›,yW ‹_›,xm ‹_›,yV (by omega) ‹_›⟩)
         | (go_split_ands;with_reducible exact ⟨zi ‹_› ‹_› ‹_›,zi ‹_› ‹_› ‹_›,zi ‹_› ‹_› ‹_›,zi ‹_› ‹_› ‹_›,zi ‹_› ‹_› ‹_›,zi ‹_› ‹_› ‹_›,zy ‹_› ‹_›,zy ‹_› ‹_›,yR ‹_› ‹_›,zq ‹_› ‹_›⟩)
         | go_keep)
       (first
         | (go_at_call 90;refine (Y5 _ _ (x.num.natAbs*y.den) (y.num.natAbs*x.den) _ (zu.below HM1.out (show Below W2.heap.size W2 W2.drew from zz W2 1)) (zu.below HM2.out (show Below W2.heap.size W2 W2.drew from zz W2 1)) HLE.out HLA.out).mono ?_;rintro e w5 ⟨v5,rfl,hv5,hb5⟩;have HM5:=ze hv5;have HM3b:=ze (zu.below HM3.out (ext (show Below W2.heap.size W2 W2.drew from zz W2 1) hb5));clear hv5)
         | (go_at_call 74;refine (vK _ _ _ (x.num.natAbs*y.den - y.num.natAbs*x.den) (x.den*y.den) _ HM5.out HM3b.out HPOS.out HLS.out HLL.out).mono ?_;rintro e wo ⟨vo,rfl,⟨g5,A5,n5,c5,B5,m5,d5,rfl,hq0,hq1,hq2⟩,hbo⟩;obtain ⟨gr,Ar,kr,cr,Br,krx,crx,kR⟩:=(yR (g:=w.heap.size+1+1) hbo (by go_split_ands;assumption)).out;have r0:=kR.cell 0;have r1:=kR.cell 1;have r2:=kR.cell 2;have f0:=kR.frozen 0;have f1:=kR.frozen 1;have f2:=kR.frozen 2;simp at r0 r1 r2;have HQ0:=ze hq0;have HQ1:=ze hq1;have HQ2:=ze hq2;have HKR:=ze kR;clear hq0 hq1 hq2 kR))
      all_goals
       go_split_ands;have kR2:=yv (ng:=g5) (A:=A5) (n:=n5) (c:=c5) (B:=B5) (m:=m5) (d:=d5) HKR.out;have hR1:=zT (ng:=g5) (A:=A5) (n:=n5) (c:=c5) (B:=B5) (m:=m5) (d:=d5) HQ1.out HKR.out;have hR2:=zT (ng:=g5) (A:=A5) (n:=n5) (c:=c5) (B:=B5) (m:=m5) (d:=d5) HQ2.out HKR.out;have hRW:=zB (by assumption:Hid (Below w.heap.size w (World.ref wo (w.heap.size+1+1) g5 A5 n5 c5 B5 m5 d5)));have e0:=kR2.cell 0;have e1:=kR2.cell 1;have e2:=kR2.cell 2;simp only [World.ref] at e0 e1 e2;simp at e0 e1 e2;go_wp2;refine bodyPost_ret (v:=.agg #[.bool g5,.slice A5 n5 c5,.slice B5 m5 d5]) (by simp [results,Tryz.results40,go_sem,e0,e1,e2]) rfl ?_;exact ⟨_,rfl,⟨_,_,_,_,_,_,_,rfl,(by rw [HEQ.out];exact HQ0.out),(by rw [HEQ.out];exact hR1),(by rw [HEQ.out];exact hR2)⟩,hRW⟩
    . have hc0:¬ 0<=zH ((x.num.natAbs*y.den:Nat):Int) ((y.num.natAbs*x.den:Nat):Int):=of_decide_eq_false (by rw [zjf,decide_eq_false hle])
      have HEQ:=ze (zg3 HNE.out (Nat.lt_of_not_le hle));have HLE:=ze (Nat.le_of_lt (Nat.lt_of_not_le hle));rw [<- HG2.out] at HEQ;have HLS:=HSUB2;clear hle;go_wp2_with fail;refine (xY _ _ (x.num.natAbs*y.den) (y.num.natAbs*x.den) W2 HM1.out HM2.out HLA.out HLB.out).mono ?_;rintro e W3 ⟨rfl,n,rfl⟩;generalize zH ((x.num.natAbs*y.den:Nat):Int) ((y.num.natAbs*x.den:Nat):Int)=cv at hc0 |-;have hb3:=zz W2 n;have HM1' :=ze (zu.below HM1.out hb3);have HM2' :=ze (zu.below HM2.out hb3);have HM3' :=ze (zu.below HM3.out hb3);have HW2' :=ze (ext HW2.out hb3);have HR2' :=yR hb3 HR2;have j0' :=zi hb3 l0 j0;have j1' :=zi hb3 l0 j1;have j2' :=zi hb3 l0 j2;have j3' :=zi hb3 l1 j3;have j4' :=zi hb3 l1 j4;have j5' :=zi hb3 l1 j5;have l0' :=zy hb3 l0;have l1' :=zy hb3 l1;clear hb3 HM1 HM2 HM3 HW2 HR2 j0 j1 j2 j3 j4 j5 l0 l1;generalize W2.drewN n=W2 at HM1' HM2' HM3' HW2' HR2' j0' j1' j2' j3' j4' j5' l0' l1' |-;have HM1:=HM1';have HM2:=HM2';have HM3:=HM3';have HW2:=HW2';have HR2:=HR2';clear HM1' HM2' HM3' HW2' HR2';go_wp2_with fail;have HRES:=ze (show xI W2.drew (w.heap.size+1+1) from HR2.out)
      have HWX:=ze (show Below w.heap.size w W2.drew from zl HW2.out 1)
      go_region_held3 (fun w' =>w'.cell? ⟨w.heap.size,0,none⟩=some (.bool g1)/\w'.cell? ⟨w.heap.size,1,none⟩=some (.slice A1 n1 c1)/\w'.cell? ⟨w.heap.size,2,none⟩=some (.slice B1 m1 d1)/\w'.cell? ⟨w.heap.size+1,0,none⟩=some (.bool g2)/\w'.cell? ⟨w.heap.size+1,1,none⟩=some (.slice A2 n2 c2)/\w'.cell? ⟨w.heap.size+1,2,none⟩=some (.slice B2 m2 d2)/\w.heap.size<w'.heap.size/\w.heap.size+1<w'.heap.size/\Hid (xI w' (w.heap.size+1+1))/\Hid (Below w.heap.size w w'))
       (first
         | with_reducible exact ⟨by go_keep,by go_keep,by go_keep,by go_keep,by go_keep,by go_keep,by assumption,by assumption,HRES,HWX⟩
         | (go_split_ands;with_reducible exact ⟨zO (by omega) ‹_›,zO (by omega) ‹_›,zO (by omega) ‹_›,zO (by omega) ‹_›,zO (by omega) ‹_›,zO (by omega) ‹_›,yW ‹_›,yW ‹_›,xm ‹_›,yV (by omega) ‹_›⟩)
         | (go_split_ands;with_reducible exact ⟨zi ‹_› ‹_› ‹_›,zi ‹_› ‹_› ‹_›,zi ‹_› ‹_› ‹_›,zi ‹_› ‹_› ‹_›,zi ‹_› ‹_› ‹_›,zi ‹_› ‹_› ‹_›,zy ‹_› ‹_›,zy ‹_› ‹_›,yR ‹_› ‹_›,zq ‹_› ‹_›⟩)
         | go_keep)
       (first
         | (go_at_call 90;refine (Y5 _ _ (y.num.natAbs*x.den) (x.num.natAbs*y.den) _ (zu.below HM2.out (show Below W2.heap.size W2 W2.drew from zz W2 1)) (zu.below HM1.out (show Below W2.heap.size W2 W2.drew from zz W2 1)) HLE.out HLB.out).mono ?_;rintro e w5 ⟨v5,rfl,hv5,hb5⟩;have HM5:=ze hv5;have HM3b:=ze (zu.below HM3.out (ext (show Below W2.heap.size W2 W2.drew from zz W2 1) hb5));clear hv5)
         | (go_at_call 74;refine (vK _ _ _ (y.num.natAbs*x.den - x.num.natAbs*y.den) (x.den*y.den) _ HM5.out HM3b.out HPOS.out HLS.out HLL.out).mono ?_;rintro e wo ⟨vo,rfl,⟨g5,A5,n5,c5,B5,m5,d5,rfl,hq0,hq1,hq2⟩,hbo⟩;obtain ⟨gr,Ar,kr,cr,Br,krx,crx,kR⟩:=(yR (g:=w.heap.size+1+1) hbo (by go_split_ands;assumption)).out;have r0:=kR.cell 0;have r1:=kR.cell 1;have r2:=kR.cell 2;have f0:=kR.frozen 0;have f1:=kR.frozen 1;have f2:=kR.frozen 2;simp at r0 r1 r2;have HQ0:=ze hq0;have HQ1:=ze hq1;have HQ2:=ze hq2;have HKR:=ze kR;clear hq0 hq1 hq2 kR))
      all_goals
       go_split_ands;have kR2:=yv (ng:=g5) (A:=A5) (n:=n5) (c:=c5) (B:=B5) (m:=m5) (d:=d5) HKR.out;have hR1:=zT (ng:=g5) (A:=A5) (n:=n5) (c:=c5) (B:=B5) (m:=m5) (d:=d5) HQ1.out HKR.out;have hR2:=zT (ng:=g5) (A:=A5) (n:=n5) (c:=c5) (B:=B5) (m:=m5) (d:=d5) HQ2.out HKR.out;have hRW:=zB (by assumption:Hid (Below w.heap.size w (World.ref wo (w.heap.size+1+1) g5 A5 n5 c5 B5 m5 d5)));have e0:=kR2.cell 0;have e1:=kR2.cell 1;have e2:=kR2.cell 2;simp only [World.ref] at e0 e1 e2;simp at e0 e1 e2;go_wp2;refine bodyPost_ret (v:=.agg #[.bool g5,.slice A5 n5 c5,.slice B5 m5 d5]) (by simp [results,Tryz.results40,go_sem,e0,e1,e2]) rfl ?_;exact ⟨_,rfl,⟨_,_,_,_,_,_,_,rfl,(by rw [HEQ.out];exact HQ0.out),(by rw [HEQ.out];exact hR1),(by rw [HEQ.out];exact hR2)⟩,hRW⟩
theorem zbs (va vb:Value) (x y:Rat) (w:World) (ha:yI w va x) (hb:yI w vb y) (hx:YJ 8388608 x) (hy:YJ 8388608 y):
 Calls Tryz.prog 52 #[va,vb] w (zaq w (.int .i64 (x - y).num.sign)):=by
 have HEQ:=ze (Rat.sub_eq_add_neg x y)
 have HX0:=ze ha
 have HY0:=ze hb
 obtain ⟨g1,A1,n1,c1,B1,m1,d1,rfl,hg1,ha1,ha2⟩:=ha
 obtain ⟨g2,A2,n2,c2,B2,m2,d2,rfl,hg2,hb1,hb2⟩:=hb
 have HX:=ze hx
 have HY:=ze hy.neg
 clear ha1 ha2 hb1 hb2 hx hy hg1 hg2
 have HWX:Hid (Below w.heap.size w (((w.alloc (.cells #[.bool g1,.slice A1 n1 c1,.slice B1 m1 d1] 43)).alloc (.cells #[.bool g2,.slice A2 n2 c2,.slice B2 m2 d2] 43)).drew)):=ze (zl (ext (zf w (.cells #[.bool g1,.slice A1 n1 c1,.slice B1 m1 d1] 43)) (zf _ (.cells #[.bool g2,.slice A2 n2 c2,.slice B2 m2 d2] 43))) 1)
 go_enter Tryz.func52,Tryz.ntmps52
 go_wp2_with fail
 go_region_held3 (fun w' =>w'.cell? ⟨w.heap.size,0,none⟩=some (.bool g1)/\w'.cell? ⟨w.heap.size,1,none⟩=some (.slice A1 n1 c1)/\w'.cell? ⟨w.heap.size,2,none⟩=some (.slice B1 m1 d1)/\w'.cell? ⟨w.heap.size+1,0,none⟩=some (.bool g2)/\w'.cell? ⟨w.heap.size+1,1,none⟩=some (.slice A2 n2 c2)/\w'.cell? ⟨w.heap.size+1,2,none⟩=some (.slice B2 m2 d2)/\w.heap.size<w'.heap.size/\w.heap.size+1<w'.heap.size/\Hid (Below w.heap.size w w'))
  (first
    | with_reducible exact ⟨by go_keep,by go_keep,by go_keep,by go_keep,by go_keep,by go_keep,by first | (simp;done) | (simp;omega),by first | (simp;done) | (simp;omega),HWX⟩
    | (go_split_ands;with_reducible exact ⟨zi ‹_› ‹_› ‹_›,zi ‹_› ‹_› ‹_›,zi ‹_› ‹_› ‹_›,zi ‹_› ‹_› ‹_›,zi ‹_› ‹_› ‹_›,zi ‹_› ‹_› ‹_›,zy ‹_› ‹_›,zy ‹_› ‹_›,zq ‹_› ‹_›⟩)
    | go_keep)
  (first
    | (go_at_call 42;refine (YN _ y _ (HY0.out.below (zB (by go_split_ands;assumption)))).mono ?_;rintro e w1 ⟨v1,rfl,hv1,hb1⟩;have HM1:=ze hv1;clear hv1)
    | (go_at_call 40;refine (Y2 _ _ x (-y) _ (HX0.out.below (zB (by go_split_ands;assumption))) HM1.out HX.out HY.out).mono ?_;rintro e w2 ⟨v2,rfl,hv2,hb2⟩;have HM2:=ze hv2;clear hv2)
    | (go_at_call 48;refine (zfe _ (x+ -y) _ HM2.out).mono ?_;rintro e w3 ⟨rfl,hb3⟩))
 all_goals
  go_split_ands
  have hRW:=zB (by assumption:Hid (Below w.heap.size w w3))
  go_wp2
  go_ret
  exact ⟨Zh (by rw [HEQ.out]),hRW⟩
theorem zbz (M:Nat) (q:Rat):(!decide (yt M q))=(decide (M<(dec q.num.natAbs).length) || decide (M<(dec q.den).length)):=by
 by_cases h1:(dec q.num.natAbs).length<=M
 . by_cases h2:(dec q.den).length<=M
   . rw [decide_eq_true (show yt M q from ⟨h1,h2⟩),decide_eq_false (by omega),decide_eq_false (by omega)];rfl
   . rw [decide_eq_false (fun h:yt M q=>h2 h.2),decide_eq_true (show M<(dec q.den).length by omega),Bool.or_true];rfl
 . rw [decide_eq_false (fun h:yt M q=>h1 h.1),decide_eq_true (show M<(dec q.num.natAbs).length by omega)];rfl
theorem zkw (va:Value) (q:Rat) (M:Nat) (w:World) (ha:yI w va q) (hl:YJ 33554432 q) (hM:M<=50000):
 Calls Tryz.prog 86 #[va,.int .i64 (M:Int)] w (zaq w (.bool (!decide (yt M q)))):=by
 obtain ⟨ng,A,c,B,d,rfl,hng,ha1,ha2⟩:=ha.form
 have HB:=ze (zf w (.cells #[.bool ng,.slice A (len 1000000000 q.num.natAbs) c,.slice B (len 1000000000 q.den) d] 43))
 have HA:=ze (zu.below ha1 HB.out)
 have HD:=ze (zu.below ha2 HB.out)
 have HL1:=ze hl.1
 have HL2:=ze hl.2
 have HS:=ze (zbz M q)
 generalize len 1000000000 q.num.natAbs=n at HA HB HD |-
 generalize len 1000000000 q.den=m at HA HB HD |-
 clear ha ha1 ha2 hng hl
 by_cases g1:M<(dec q.num.natAbs).length
 . have HS' :=ze (show (!decide (yt M q))=true by rw [HS.out,decide_eq_true g1];rfl)
   clear HS
   go_enter Tryz.func86,Tryz.ntmps86
   go_wp2_with fail;refine (yK _ q.num.natAbs _ HA.out HL1.out).mono ?_;rintro e w1 ⟨rfl,rfl⟩;go_wp2_with fail;go_ret;exact ⟨zX HS'.out,HB.out⟩
 . by_cases g2:M<(dec q.den).length
   . have HS' :=ze (show (!decide (yt M q))=true by rw [HS.out,decide_eq_true g2,Bool.or_true])
     clear HS
     go_enter Tryz.func86,Tryz.ntmps86
     go_wp2_with fail;refine (yK _ q.num.natAbs _ HA.out HL1.out).mono ?_;rintro e w1 ⟨rfl,rfl⟩;go_wp2_with fail;refine (yK _ q.den _ HD.out HL2.out).mono ?_;rintro e w1 ⟨rfl,rfl⟩;go_wp2_with fail;go_ret;exact ⟨zX HS'.out,HB.out⟩
   . have HS' :=ze (show (!decide (yt M q))=false by rw [HS.out,decide_eq_false g1,decide_eq_false g2];rfl)
     clear HS
     go_enter Tryz.func86,Tryz.ntmps86
     go_wp2_with fail;refine (yK _ q.num.natAbs _ HA.out HL1.out).mono ?_;rintro e w1 ⟨rfl,rfl⟩;go_wp2_with fail;refine (yK _ q.den _ HD.out HL2.out).mono ?_;rintro e w1 ⟨rfl,rfl⟩;go_wp2_with fail;go_ret;exact ⟨zX HS'.out,HB.out⟩
theorem x8 {l:List UInt8} {q:Rat} (h:zj l=some q):YJ 50000 q:=by
 have:=(ys.1 h).2
 exact ⟨Nat.le_trans (vH (by omega)) this.1,Nat.le_trans (vH (by omega)) this.2⟩
end Go.Proofs.YtnmkalocbfdecaaGreatDoor
