/- Parts of the proof: memory, numbers, walks of the functions that are called. -/
import Derived.Test.YtkmcmmcencdcpaaGreatDoorMt23
import Derived.Test.YtkmcmmcencdcpaaGreatDoorMt16
set_option linter.unusedVariables false
set_option linter.unusedSimpArgs false
set_option maxRecDepth 100000
set_option maxHeartbeats 32000000
namespace Go.Proofs.YtkmcmmcencdcpaaGreatDoor
open Go.RowKit Go.Deep
attribute [local go_sem ↓] Go.wp_at_zero Go.wp_at_succ
def vB (w:World) (g:Nat):Prop:=∃ (ng:Bool) (A:Option Addr) (n c:Nat) (B:Option Addr) (m d:Nat),Blk w g 98 #[.bool ng,.slice A n c,.slice B m d]
theorem xB {w w' :World} {g:Nat} (hb:Below w.heap.size w w') (h:Hid (vB w g)):Hid (vB w' g):=by
 obtain ⟨ng,A,n,c,B,m,d,h⟩:=h.out
 exact ⟨ng,A,n,c,B,m,d,h.below hb h.lt⟩
theorem zcs {w w' :World} {v:Value} {n:Nat} (hb:Below w.heap.size w w') (h:Hid (zz w v n)):Hid (zz w' v n):=zz.below h.out hb
section
variable {W w0:World} {g g' i n c m d k:Nat} {ng:Bool} {A B:Option Addr} {v:Value}
theorem vr (h:Hid (vB W g)):Hid (vB (World.ref W g ng A n c B m d) g):=by
 obtain ⟨ng,A,n,c,B,m,d,h⟩:=h.out
 exact ⟨_,_,_,_,_,_,_,yN h⟩
theorem xP (hg:w0.heap.size<=g) (h:Hid (Below w0.heap.size w0 W)):Hid (Below w0.heap.size w0 (World.ref W g ng A n c B m d)):=y8 h.out hg
theorem Yq (hr:Hid (vB W g)) (h:Hid (zz W v k)):Hid (zz (World.ref W g ng A n c B m d) v k):=by
 obtain ⟨ng,A,n,c,B,m,d,hr⟩:=hr.out
 exact ye h.out hr
theorem yc (hne:g≠g') (h:W.cell? ⟨g,i,none⟩=some v):(World.ref W g' ng A n c B m d).cell? ⟨g,i,none⟩=some v:=by
 rw [<- h]
 simp only [World.ref]
 rw [World.cell?_setCell_other,World.cell?_setCell_other,World.cell?_setCell_other]
 all_goals (intro e;injection e with e;exact hne e.symm)
theorem xW (h:k<W.heap.size):k<(World.ref W g' ng A n c B m d).heap.size:=by
 simp only [World.ref,World.setCell,Array.size_modify]
 exact h
end
def zsp (v:Value):Prop:=∃ (ng:Bool) (A:Option Addr) (n c:Nat) (B:Option Addr) (m d:Nat),v= .agg #[.bool ng,.slice A n c,.slice B m d]
def xp (w:World) (l:List UInt8) (e:Ending) (w' :World):Prop:=
 ∃ v b,e= .returned (.tuple #[v,.bool b])/\zsp v/\b=(zp l).isSome/\(∀ q,zp l=some q->vV w' v q)/\Below w.heap.size w w'
theorem xp.no {w w' :World} {l:List UInt8} {v:Value} (h:zp l=none) (hv:zsp v) (hb:Below w.heap.size w w'):xp w l (.returned (.tuple #[v,.bool false])) w' :=
 ⟨v,false,rfl,hv,by rw [h];rfl,fun q hq=>(by rw [h] at hq;cases hq),hb⟩
theorem xp.maybe {w w' :World} {l:List UInt8} {v:Value} {q:Rat} {b:Bool} (h:zp l=if zT q=l then some q else none) (hb' :b=decide (zT q=l)) (hv:vV w' v q) (hb:Below w.heap.size w w'):
 xp w l (.returned (.tuple #[v,.bool b])) w' :=by
 subst hb'
 by_cases he:zT q=l
 . rw [if_pos he] at h
   refine ⟨v,_,rfl,?_,by rw [h,decide_eq_true he];rfl,fun q' hq=>?_,hb⟩
   . obtain ⟨ng,A,n,c,B,m,d,rfl,_⟩:=hv;exact ⟨_,_,_,_,_,_,_,rfl⟩
   . rw [h] at hq;injection hq with hq;rw [<- hq];exact hv
 . rw [if_neg he] at h
   rw [decide_eq_false he];refine xp.no h ?_ hb;obtain ⟨ng,A,n,c,B,m,d,rfl,_⟩:=hv;exact ⟨_,_,_,_,_,_,_,rfl⟩
theorem zch {ng:Bool} {n d M:Nat} (hd:0<d) (h1:len 1000000000 n<=M) (h2:len 1000000000 d<=M):VQ M (x9 ng n d):=by
 obtain ⟨e1,e2,_⟩:=ze1 ng n d hd
 unfold VQ
 rw [e1,e2]
 exact ⟨Nat.le_trans (xS (by omega) (Nat.div_le_self _ _)) h1,Nat.le_trans (xS (by omega) (Nat.div_le_self _ _)) h2⟩
theorem zpj {l:List UInt8} {K:Nat} (h:xd l=true) (hl:l.length<=K):len 1000000000 (zC l)<=K:=by
 unfold xd at h
 rw [Bool.and_eq_true] at h
 have h1:=YR h.1
 refine yt (by omega) (Nat.lt_of_lt_of_le h1 ?_)
 exact Nat.le_trans (Nat.pow_le_pow_left (by decide:10<=1000000000) _) (Nat.pow_le_pow_right (by decide) hl)
theorem zh5 {l:List UInt8} (h:xd l=true) (hl:l.length<=50000):len 1000000000 (zC l)<=50000:=zpj h hl
theorem zlt (l:List UInt8) (s:ByteArray):(l == s.toList)=decide (l=bts s):=by
 rw [Lib.toList_data]
 show (l == bts s)=_
 by_cases h:l=bts s
 . rw [decide_eq_true h];exact beq_iff_eq.2 h
 . rw [decide_eq_false h];exact beq_eq_false_iff_ne.2 h
theorem YY {l:List UInt8} (h:xd l=true):l.all yY=true:=by
 unfold xd at h;rw [Bool.and_eq_true] at h;exact h.1
theorem Vk (s:ByteArray) (w:World) (hs:s.size<=1073741824):
 Calls Tryz.prog 118 #[.string s] w (xp w (bts s)):=by
 have HWR:=ze (zf w (.cells #[.bool false,.slice none 0 0,.slice none 0 0] 98))
 have HKR:=ze (Blk.new w 98 #[.bool false,.slice none 0 0,.slice none 0 0])
 by_cases hlong:100002<s.size
 . have HP:=ze (zk1 (l:=bts s) (by rw [zo];exact hlong))
   have hlI:decide (100002<(s.size:Int))=true:=by rw [decide_eq_true_eq];omega
   clear hlong
   go_enter Tryz.func118,Tryz.ntmps118
   go_wp2_with fail;have kR2:=yN (ng:=false) (A:=none) (n:=0) (c:=0) (B:=none) (m:=0) (d:=0) HKR.out;have e0:=kR2.cell 0;have e1:=kR2.cell 1;have e2:=kR2.cell 2;simp only [World.ref] at e0 e1 e2;simp at e0 e1 e2;refine bodyPost_ret (v:=.tuple #[.agg #[.bool false,.slice none 0 0,.slice none 0 0],.bool false]) (by simp [results,Tryz.results118,go_sem,e0,e1,e2]) rfl ?_
   first
   | exact xp.no HP.out ⟨_,_,_,_,_,_,_,rfl⟩ HWR.out
   | exact xp.no HP.out ⟨_,_,_,_,_,_,_,rfl⟩ (y8 (g:=w.heap.size) (ng:=false) (A:=none) (n:=0) (c:=0) (B:=none) (m:=0) (d:=0) HWR.out (Nat.le_refl _))
 . have HLS:=ze (show s.size<=100002 by omega)
   have hlI:decide (100002<(s.size:Int))=false:=by rw [decide_eq_false_iff_not];omega
   clear hlong
   obtain ⟨ng,t,HN,HT,HTS,hcase⟩:∃ (ng:Bool) (t:ByteArray),Hid (ng=yD (bts s))/\Hid (bts t=zq (bts s))/\Hid (t.size<=1073741824)/\
    ((s.toList.isEmpty=true/\ng=false/\s=t)\/(∃ h:0<s.size,((s[0].toNat:Int) == 45)=false/\ng=false/\s=t/\s.toList.isEmpty=false)\/(∃ h:0<s.size,((s[0].toNat:Int) == 45)=true/\ng=true/\t=s.extract 1 s.size/\s.toList.isEmpty=false)):=by
    by_cases h0:0<s.size
    . have hne:s.toList.isEmpty=false:=by
       rw [Bool.eq_false_iff];intro e;have e:=List.isEmpty_iff.1 e;have:=congrArg List.length e;rw [Lib.toList_data] at this;simp at this;rw [this] at h0;exact absurd h0 (by decide)
      have hh:(bts s).head?=some s[0]:=by
       have:=Zc s 0 h0;rw [List.head?_eq_getElem?,List.getElem?_eq_getElem (by rw [zo];exact h0),this]
      by_cases h1:s[0]=45
      . have hsg:yD (bts s)=true:=by unfold yD;rw [hh,h1];rfl
        refine ⟨true,s.extract 1 s.size,hsg.symm,?_,?_,.inr (.inr ⟨h0,by rw [h1];rfl,rfl,rfl,hne⟩)⟩
        . show _=_
          rw [vq,List.take_of_length_le (by rw [zo];exact Nat.le_refl _)];have:=YJ hsg
          conv=>lhs;rw [this]
          rfl
        . show _<=_
          rw [ByteArray.size_extract];omega
      . have hsg:yD (bts s)=false:=by
         unfold yD;rw [hh];rw [beq_eq_false_iff_ne];intro e;injection e with e;exact h1 e
        refine ⟨false,s,hsg.symm,(ZP hsg).symm,hs,.inr (.inl ⟨h0,?_,rfl,rfl,hne⟩)⟩;rw [beq_eq_false_iff_ne];intro e;exact h1 (UInt8.toNat_inj.1 (by have:(45:UInt8).toNat=45:=rfl;omega))
    . have he:bts s=[]:=by
       apply List.eq_nil_of_length_eq_zero;rw [zo];omega
      refine ⟨false,s,by rw [he];exact rfl,by rw [he];exact rfl,hs,.inl ⟨?_,rfl,rfl⟩⟩;rw [Lib.toList_data];unfold bts at he;rw [show s.data.toList=[] from he];rfl
   have hcut:∀ W,Calls Tryz.prog 166 #[.string t,.int .u8 47] W (fun e w' =>∃ a b n,e= .returned (.tuple #[.string a,.string b,.bool (has 47 (zq (bts s)))])/\bts a=ahead 47 (zq (bts s))/\bts b=(if has 47 (zq (bts s))=true then ym 47 (zq (bts s)) else [])/\w' =W.drewN n):=by
    intro W;refine (zp7 t 47 W HTS.out).mono ?_;rintro e w' ⟨a,b,h1,h2,h3,n,h4⟩;rw [HT.out] at h1 h2 h3;exact ⟨a,b,n,h1,h2,h3,h4⟩
   rcases hcase with ⟨z1,rfl,rfl⟩ | ⟨h0,z1,rfl,rfl,z2⟩ | ⟨h0,z1,rfl,rfl,z2⟩
   all_goals
    go_enter Tryz.func118,Tryz.ntmps118
    go_wp2_with fail;refine (hcut _).mono ?_;rintro e w1 ⟨a,b,n,rfl,ha,hb,rfl⟩;have HA:=ze ha
    have hal:(ahead 47 (zq (bts s))).length<=s.size:=by
     have h1:(ahead 47 (zq (bts s))).length<=(zq (bts s)).length:=(List.takeWhile_sublist _).length_le;have h2:(zq (bts s)).length<=(bts s).length:=by unfold zq;split<;>simp
     rw [zo] at h2
     omega
    have hbl:(ym 47 (zq (bts s))).length<=s.size:=by
     have h1:(ym 47 (zq (bts s))).length<=(zq (bts s)).length:=by
      unfold ym;have:=(List.dropWhile_sublist (fun x=>x != (47:UInt8)) (l:=zq (bts s))).length_le;rw [List.length_tail];omega
     have h2:(zq (bts s)).length<=(bts s).length:=by unfold zq;split<;>simp
     rw [zo] at h2
     omega
    have HAS:=ze (show a.size<=1073741824 by rw [<- zo,ha];omega);have HKR2:=ze (HKR.out.below (zw _ n) HKR.out.lt);have HWR2:=ze (zl HWR.out n);clear HKR HWR;have HKR:=HKR2;have HWR:=HWR2;clear HKR2 HWR2;generalize World.drewN _ n=W at HKR HWR |-;have r0:=HKR.out.cell 0;have r1:=HKR.out.cell 1;have r2:=HKR.out.cell 2;have f0:=HKR.out.frozen 0;have f1:=HKR.out.frozen 1;have f2:=HKR.out.frozen 2;have lR:=HKR.out.lt;simp at r0 r1 r2
    cases hh:has 47 (zq (bts s)) with
    | false=>
      have HT1:=ze (show xJ (bts s)=[49] by unfold xJ;rw [hh];rfl);clear hh hb ha hal hbl hcut z1;go_wp2_with fail;generalize hT9:(⟨#[49]⟩:ByteArray)=t;have HT:Hid (bts t=xJ (bts s)):=ze (by rw [HT1.out, <- hT9];rfl);have HTS:Hid (t.size<=1073741824):=ze (by rw [<- hT9];decide);clear hT9
      rcases Bool.eq_false_or_eq_true (xd (bts a)) with d1 | d1
      rotate_left
      . have HP:=ze (Yb (.inl (by rw [<- HA.out];exact d1)))
        have HD1:=ze d1;clear d1;refine (ZB a _ HAS.out).mono ?_;rintro e w1 ⟨rfl,rfl⟩;rw [HD1.out];go_wp2_with fail;have kR2:=yN (ng:=false) (A:=none) (n:=0) (c:=0) (B:=none) (m:=0) (d:=0) HKR.out;have e0:=kR2.cell 0;have e1:=kR2.cell 1;have e2:=kR2.cell 2;simp only [World.ref] at e0 e1 e2;simp at e0 e1 e2;refine bodyPost_ret (v:=.tuple #[.agg #[.bool false,.slice none 0 0,.slice none 0 0],.bool false]) (by simp [results,Tryz.results118,go_sem,e0,e1,e2]) rfl ?_
        first
        | exact xp.no HP.out ⟨_,_,_,_,_,_,_,rfl⟩ HWR.out
        | exact xp.no HP.out ⟨_,_,_,_,_,_,_,rfl⟩ (y8 (g:=w.heap.size) (ng:=false) (A:=none) (n:=0) (c:=0) (B:=none) (m:=0) (d:=0) HWR.out (Nat.le_refl _))
      . have HD1:=ze d1
        clear d1;refine (ZB a _ HAS.out).mono ?_;rintro e w1 ⟨rfl,rfl⟩;rw [HD1.out];go_wp2_with fail;refine (ZB t _ HTS.out).mono ?_;rintro e w1 ⟨rfl,rfl⟩
        rcases Bool.eq_false_or_eq_true (xd (bts t)) with d2 | d2
        rotate_left
        . have HP:=ze (Yb (.inr (.inl (by rw [<- HT.out];exact d2))))
          rw [d2];clear d2;go_wp2_with fail;have kR2:=yN (ng:=false) (A:=none) (n:=0) (c:=0) (B:=none) (m:=0) (d:=0) HKR.out;have e0:=kR2.cell 0;have e1:=kR2.cell 1;have e2:=kR2.cell 2;simp only [World.ref] at e0 e1 e2;simp at e0 e1 e2;refine bodyPost_ret (v:=.tuple #[.agg #[.bool false,.slice none 0 0,.slice none 0 0],.bool false]) (by simp [results,Tryz.results118,go_sem,e0,e1,e2]) rfl ?_
          first
          | exact xp.no HP.out ⟨_,_,_,_,_,_,_,rfl⟩ HWR.out
          | exact xp.no HP.out ⟨_,_,_,_,_,_,_,rfl⟩ (y8 (g:=w.heap.size) (ng:=false) (A:=none) (n:=0) (c:=0) (B:=none) (m:=0) (d:=0) HWR.out (Nat.le_refl _))
        . have HD2:=ze d2
          rw [d2];clear d2
          by_cases l1:50000<a.size
          . have HP:=ze (Yb (.inr (.inr (.inl (by rw [<- HA.out,zo];exact l1)))))
            go_wp2_with fail;have kR2:=yN (ng:=false) (A:=none) (n:=0) (c:=0) (B:=none) (m:=0) (d:=0) HKR.out;have e0:=kR2.cell 0;have e1:=kR2.cell 1;have e2:=kR2.cell 2;simp only [World.ref] at e0 e1 e2;simp at e0 e1 e2;refine bodyPost_ret (v:=.tuple #[.agg #[.bool false,.slice none 0 0,.slice none 0 0],.bool false]) (by simp [results,Tryz.results118,go_sem,e0,e1,e2]) rfl ?_
            first
            | exact xp.no HP.out ⟨_,_,_,_,_,_,_,rfl⟩ HWR.out
            | exact xp.no HP.out ⟨_,_,_,_,_,_,_,rfl⟩ (y8 (g:=w.heap.size) (ng:=false) (A:=none) (n:=0) (c:=0) (B:=none) (m:=0) (d:=0) HWR.out (Nat.le_refl _))
          . by_cases l2:50000<t.size
            . have HP:=ze (Yb (.inr (.inr (.inr (.inl (by rw [<- HT.out,zo];exact l2))))))
              go_wp2_with fail;have kR2:=yN (ng:=false) (A:=none) (n:=0) (c:=0) (B:=none) (m:=0) (d:=0) HKR.out;have e0:=kR2.cell 0;have e1:=kR2.cell 1;have e2:=kR2.cell 2;simp only [World.ref] at e0 e1 e2;simp at e0 e1 e2;refine bodyPost_ret (v:=.tuple #[.agg #[.bool false,.slice none 0 0,.slice none 0 0],.bool false]) (by simp [results,Tryz.results118,go_sem,e0,e1,e2]) rfl ?_
              first
              | exact xp.no HP.out ⟨_,_,_,_,_,_,_,rfl⟩ HWR.out
              | exact xp.no HP.out ⟨_,_,_,_,_,_,_,rfl⟩ (y8 (g:=w.heap.size) (ng:=false) (A:=none) (n:=0) (c:=0) (B:=none) (m:=0) (d:=0) HWR.out (Nat.le_refl _))
            . have HL1:=ze (show (bts a).length<=50000 by rw [zo];omega)
              have HL2:=ze (show (bts t).length<=50000 by rw [zo];omega);have HIF:=ze (zl7 (l:=bts s) (by rw [<- HA.out];exact HD1.out) (by rw [<- HT.out];exact HD2.out) (by rw [<- HA.out];exact HL1.out) (by rw [<- HT.out];exact HL2.out));go_wp2_with fail;refine (VU t _ (YY HD2.out) (by have:=HL2.out;rw [zo] at this;omega)).mono ?_;rintro e w2 ⟨v,rfl,hv,hb2⟩;have hlv:=zh5 HD2.out HL2.out;have hln:=zh5 HD1.out HL1.out;rw [HT.out] at hv hlv;rw [HA.out] at hln;obtain ⟨dv,hdv⟩:∃ dv,zC (xJ (bts s))=dv:=⟨_,rfl⟩;obtain ⟨nv,hnv⟩:∃ nv,zC (ahead 47 (zq (bts s)))=nv:=⟨_,rfl⟩;rw [hdv] at hv hlv HIF;rw [hnv] at hln HIF;have HDV:=ze hdv;have HNV:=ze hnv;obtain ⟨A,c,rfl⟩:=hv.form;have HV:=ze hv;have HLV:=ze hlv;have HLN:=ze hln;have HWR2:=ze (ext HWR.out hb2);have HKR2:=ze (HKR.out.below hb2 HKR.out.lt);clear r0 r1 r2 f0 f1 f2 lR HKR HWR;have HKR:=HKR2;have HWR:=HWR2;clear HKR2 HWR2;have r0:=HKR.out.cell 0;have r1:=HKR.out.cell 1;have r2:=HKR.out.cell 2;have f0:=HKR.out.frozen 0;have f1:=HKR.out.frozen 1;have f2:=HKR.out.frozen 2;have lR:=HKR.out.lt;simp at r0 r1 r2
              clear hv hlv hln hb2 l1 l2 hdv hnv
              by_cases hz:dv=0
              . subst hz
                have HP:=ze (Yb (.inr (.inr (.inr (.inr HDV.out)))));have hz0:((len 1000000000 0:Int) == 0)=true:=by rw [YV];rfl
                go_wp2_with fail;have kR2:=yN (ng:=false) (A:=none) (n:=0) (c:=0) (B:=none) (m:=0) (d:=0) HKR.out;have e0:=kR2.cell 0;have e1:=kR2.cell 1;have e2:=kR2.cell 2;simp only [World.ref] at e0 e1 e2;simp at e0 e1 e2;refine bodyPost_ret (v:=.tuple #[.agg #[.bool false,.slice none 0 0,.slice none 0 0],.bool false]) (by simp [results,Tryz.results118,go_sem,e0,e1,e2]) rfl ?_
                first
                | exact xp.no HP.out ⟨_,_,_,_,_,_,_,rfl⟩ HWR.out
                | exact xp.no HP.out ⟨_,_,_,_,_,_,_,rfl⟩ (y8 (g:=w.heap.size) (ng:=false) (A:=none) (n:=0) (c:=0) (B:=none) (m:=0) (d:=0) HWR.out (Nat.le_refl _))
              . have hz0:((len 1000000000 dv:Int) == 0)=false:=by rw [beq_eq_false_iff_ne];have:=Vo (β:=1000000000) (n:=dv) (by omega) (by omega);omega
                have HZ:=ze (show 0<dv by omega);clear hz;go_wp2_with fail;refine (VU a _ (YY HD1.out) (by have:=HL1.out;rw [zo] at this;omega)).mono ?_;rintro e w3 ⟨v3,rfl,hv3,hb3⟩;rw [HA.out,HNV.out] at hv3;have HV3:=ze hv3;have HVa:=ze (zz.below HV.out hb3);have HWR3:=ze (ext HWR.out hb3);have HKR3:=ze (HKR.out.below hb3 HKR.out.lt);clear hv3 hb3 r0 r1 r2 f0 f1 f2 lR HKR HWR;go_wp2_with fail;refine (Z8 _ _ _ nv dv _ HV3.out HVa.out HZ.out (Nat.le_trans HLN.out (by decide)) (Nat.le_trans HLV.out (by decide))).mono ?_;rintro e w4 ⟨v4,rfl,hv4,hb4⟩;rw [HN.out] at hv4;obtain ⟨q,hq⟩:∃ q,q=x9 (yD (bts s)) nv dv:=⟨_,rfl⟩;have HQL:=ze (show VQ 33554432 q by rw [hq];exact zch HZ.out (Nat.le_trans HLN.out (by decide)) (Nat.le_trans HLV.out (by decide)));rw [<- hq] at hv4 HIF;obtain ⟨nq,A5,c5,B5,d5,rfl,hng,ha1,ha2⟩:=hv4.form;have HNG:=ze hng;have hb5:=zf w4 (.cells #[.bool nq,.slice A5 (len 1000000000 q.num.natAbs) c5,.slice B5 (len 1000000000 q.den) d5] 98);have HKR5:=ze (show vB _ w.heap.size from ⟨_,_,_,_,_,_,_,HKR3.out.below (ext hb4 hb5) HKR3.out.lt⟩)
                have HWR5:=ze (ext HWR3.out (ext hb4 hb5));have HS1:=ze (zz.below ha1 hb5);have HS2:=ze (zz.below ha2 hb5);have HKQ:=ze (Blk.new w4 98 #[.bool nq,.slice A5 (len 1000000000 q.num.natAbs) c5,.slice B5 (len 1000000000 q.den) d5]);have lgq:w.heap.size<w4.heap.size:=(HKR3.out.below hb4 HKR3.out.lt).lt;obtain ⟨n5,hn5⟩:∃ n5,len 1000000000 q.num.natAbs=n5:=⟨_,rfl⟩;obtain ⟨m5,hm5⟩:∃ m5,len 1000000000 q.den=m5:=⟨_,rfl⟩;rw [hn5,hm5] at HKR5 HWR5 HKQ |-;rw [hn5,hm5] at HS1 HS2;clear hq hv4 hng hb4 hb5 ha1 ha2 hn5 hm5 HKR3 HWR3 HV3 HVa HV;go_wp2_with fail;generalize hgq:w4.heap.size=gq at HKQ lgq |-;generalize w4.alloc (.cells #[.bool nq,.slice A5 n5 c5,.slice B5 m5 d5] 98)=W7 at HS1 HS2 HKR5 HWR5 HKQ |-;clear hgq;have hlq:=HKQ.out.lt;have q0:=HKQ.out.cell 0;have q1:=HKQ.out.cell 1;have q2:=HKQ.out.cell 2;simp at q0 q1 q2;have HRES:=ze (show vB W7.drew w.heap.size from HKR5.out);have HWX:=ze (show Below w.heap.size w W7.drew from zl HWR5.out 1);have HY1:=ze (show zz W7.drew _ q.num.natAbs from zz.below HS1.out (zw W7 1))
                have HY2:=ze (show zz W7.drew _ q.den from zz.below HS2.out (zw W7 1));clear HS1 HS2
                go_region_held3 (fun w' =>w'.cell? ⟨gq,0,none⟩=some (.bool nq)/\w'.cell? ⟨gq,1,none⟩=some (.slice A5 n5 c5)/\w'.cell? ⟨gq,2,none⟩=some (.slice B5 m5 d5)/\gq<w'.heap.size/\Hid (vB w' w.heap.size)/\Hid (Below w.heap.size w w')/\Hid (zz w' (.slice A5 n5 c5) q.num.natAbs)/\Hid (zz w' (.slice B5 m5 d5) q.den))
                 (first
                   | with_reducible exact ⟨by go_keep,by go_keep,by go_keep,by first | (simp;done) | (simp;assumption),HRES,HWX,HY1,HY2⟩
                   | (go_split_ands;with_reducible exact ⟨yc (by omega) ‹_›,yc (by omega) ‹_›,yc (by omega) ‹_›,xW ‹_›,vr ‹_›,xP (by omega) ‹_›,Yq ‹_› ‹_›,Yq ‹_› ‹_›⟩)
                   | (go_split_ands;with_reducible exact ⟨zj ‹_› ‹_› ‹_›,zj ‹_› ‹_› ‹_›,zj ‹_› ‹_› ‹_›,zE ‹_› ‹_›,xB ‹_› ‹_›,zt ‹_› ‹_›,zcs ‹_› ‹_›,zcs ‹_› ‹_›⟩)
                   | go_keep)
                 (first
                   | (go_at_call 98;refine (zdn _ q _ ⟨_,_,_,_,_,_,_,rfl,HNG.out,zI (by go_split_ands;assumption),zI (by go_split_ands;assumption)⟩ HQL.out).mono ?_;rintro e wo ⟨rfl,hbo⟩;obtain ⟨ngr,Ar,kr,cr,Br,krx,crx,kR⟩:=(xB (g:=w.heap.size) hbo (by go_split_ands;assumption)).out;have r0:=kR.cell 0;have r1:=kR.cell 1;have r2:=kR.cell 2;have f0:=kR.frozen 0;have f1:=kR.frozen 1;have f2:=kR.frozen 2;simp at r0 r1 r2;have HKR:=ze kR;clear kR))
                all_goals
                 go_split_ands;have kR2:=yN (ng:=nq) (A:=A5) (n:=n5) (c:=c5) (B:=B5) (m:=m5) (d:=d5) HKR.out;have hR1:=zI (by assumption:Hid (zz (World.ref wo w.heap.size nq A5 n5 c5 B5 m5 d5) (.slice A5 n5 c5) q.num.natAbs));have hR2:=zI (by assumption:Hid (zz (World.ref wo w.heap.size nq A5 n5 c5 B5 m5 d5) (.slice B5 m5 d5) q.den));have hRW:=zI (by assumption:Hid (Below w.heap.size w (World.ref wo w.heap.size nq A5 n5 c5 B5 m5 d5)));have e0:=kR2.cell 0;have e1:=kR2.cell 1;have e2:=kR2.cell 2;simp only [World.ref] at e0 e1 e2;simp at e0 e1 e2;go_wp2;refine bodyPost_ret (v:=.tuple #[.agg #[.bool nq,.slice A5 n5 c5,.slice B5 m5 d5],.bool (zT q == s.toList)]) (by simp [results,Tryz.results118,go_sem,e0,e1,e2]) rfl ?_;exact xp.maybe HIF.out (zlt _ _) ⟨_,_,_,_,_,_,_,rfl,HNG.out,hR1,hR2⟩ hRW
    | true=>
      have HT:=ze (show bts b=xJ (bts s) by rw [hb,if_pos hh];unfold xJ;rw [hh];rfl);have HTS:=ze (show b.size<=1073741824 by rw [<- zo,hb,if_pos hh];omega);clear hh hb ha hal hbl hcut z1;obtain ⟨t,ht⟩:∃ t,t=b:=⟨b,rfl⟩;subst ht;go_wp2_with fail
      rcases Bool.eq_false_or_eq_true (xd (bts a)) with d1 | d1
      rotate_left
      . have HP:=ze (Yb (.inl (by rw [<- HA.out];exact d1)))
        have HD1:=ze d1;clear d1;refine (ZB a _ HAS.out).mono ?_;rintro e w1 ⟨rfl,rfl⟩;rw [HD1.out];go_wp2_with fail;have kR2:=yN (ng:=false) (A:=none) (n:=0) (c:=0) (B:=none) (m:=0) (d:=0) HKR.out;have e0:=kR2.cell 0;have e1:=kR2.cell 1;have e2:=kR2.cell 2;simp only [World.ref] at e0 e1 e2;simp at e0 e1 e2;refine bodyPost_ret (v:=.tuple #[.agg #[.bool false,.slice none 0 0,.slice none 0 0],.bool false]) (by simp [results,Tryz.results118,go_sem,e0,e1,e2]) rfl ?_
        first
        | exact xp.no HP.out ⟨_,_,_,_,_,_,_,rfl⟩ HWR.out
        | exact xp.no HP.out ⟨_,_,_,_,_,_,_,rfl⟩ (y8 (g:=w.heap.size) (ng:=false) (A:=none) (n:=0) (c:=0) (B:=none) (m:=0) (d:=0) HWR.out (Nat.le_refl _))
      . have HD1:=ze d1
        clear d1;refine (ZB a _ HAS.out).mono ?_;rintro e w1 ⟨rfl,rfl⟩;rw [HD1.out];go_wp2_with fail;refine (ZB t _ HTS.out).mono ?_;rintro e w1 ⟨rfl,rfl⟩
        rcases Bool.eq_false_or_eq_true (xd (bts t)) with d2 | d2
        rotate_left
        . have HP:=ze (Yb (.inr (.inl (by rw [<- HT.out];exact d2))))
          rw [d2];clear d2;go_wp2_with fail;have kR2:=yN (ng:=false) (A:=none) (n:=0) (c:=0) (B:=none) (m:=0) (d:=0) HKR.out;have e0:=kR2.cell 0;have e1:=kR2.cell 1;have e2:=kR2.cell 2;simp only [World.ref] at e0 e1 e2;simp at e0 e1 e2;refine bodyPost_ret (v:=.tuple #[.agg #[.bool false,.slice none 0 0,.slice none 0 0],.bool false]) (by simp [results,Tryz.results118,go_sem,e0,e1,e2]) rfl ?_
          first
          | exact xp.no HP.out ⟨_,_,_,_,_,_,_,rfl⟩ HWR.out
          | exact xp.no HP.out ⟨_,_,_,_,_,_,_,rfl⟩ (y8 (g:=w.heap.size) (ng:=false) (A:=none) (n:=0) (c:=0) (B:=none) (m:=0) (d:=0) HWR.out (Nat.le_refl _))
        . have HD2:=ze d2
          rw [d2];clear d2
          by_cases l1:50000<a.size
          . have HP:=ze (Yb (.inr (.inr (.inl (by rw [<- HA.out,zo];exact l1)))))
            go_wp2_with fail;have kR2:=yN (ng:=false) (A:=none) (n:=0) (c:=0) (B:=none) (m:=0) (d:=0) HKR.out;have e0:=kR2.cell 0;have e1:=kR2.cell 1;have e2:=kR2.cell 2;simp only [World.ref] at e0 e1 e2;simp at e0 e1 e2;refine bodyPost_ret (v:=.tuple #[.agg #[.bool false,.slice none 0 0,.slice none 0 0],.bool false]) (by simp [results,Tryz.results118,go_sem,e0,e1,e2]) rfl ?_
            first
            | exact xp.no HP.out ⟨_,_,_,_,_,_,_,rfl⟩ HWR.out
            | exact xp.no HP.out ⟨_,_,_,_,_,_,_,rfl⟩ (y8 (g:=w.heap.size) (ng:=false) (A:=none) (n:=0) (c:=0) (B:=none) (m:=0) (d:=0) HWR.out (Nat.le_refl _))
          . by_cases l2:50000<t.size
            . have HP:=ze (Yb (.inr (.inr (.inr (.inl (by rw [<- HT.out,zo];exact l2))))))
              go_wp2_with fail;have kR2:=yN (ng:=false) (A:=none) (n:=0) (c:=0) (B:=none) (m:=0) (d:=0) HKR.out;have e0:=kR2.cell 0;have e1:=kR2.cell 1;have e2:=kR2.cell 2;simp only [World.ref] at e0 e1 e2;simp at e0 e1 e2;refine bodyPost_ret (v:=.tuple #[.agg #[.bool false,.slice none 0 0,.slice none 0 0],.bool false]) (by simp [results,Tryz.results118,go_sem,e0,e1,e2]) rfl ?_
              first
              | exact xp.no HP.out ⟨_,_,_,_,_,_,_,rfl⟩ HWR.out
              | exact xp.no HP.out ⟨_,_,_,_,_,_,_,rfl⟩ (y8 (g:=w.heap.size) (ng:=false) (A:=none) (n:=0) (c:=0) (B:=none) (m:=0) (d:=0) HWR.out (Nat.le_refl _))
            . have HL1:=ze (show (bts a).length<=50000 by rw [zo];omega)
              have HL2:=ze (show (bts t).length<=50000 by rw [zo];omega);have HIF:=ze (zl7 (l:=bts s) (by rw [<- HA.out];exact HD1.out) (by rw [<- HT.out];exact HD2.out) (by rw [<- HA.out];exact HL1.out) (by rw [<- HT.out];exact HL2.out));go_wp2_with fail;refine (VU t _ (YY HD2.out) (by have:=HL2.out;rw [zo] at this;omega)).mono ?_;rintro e w2 ⟨v,rfl,hv,hb2⟩;have hlv:=zh5 HD2.out HL2.out;have hln:=zh5 HD1.out HL1.out;rw [HT.out] at hv hlv;rw [HA.out] at hln;obtain ⟨dv,hdv⟩:∃ dv,zC (xJ (bts s))=dv:=⟨_,rfl⟩;obtain ⟨nv,hnv⟩:∃ nv,zC (ahead 47 (zq (bts s)))=nv:=⟨_,rfl⟩;rw [hdv] at hv hlv HIF;rw [hnv] at hln HIF;have HDV:=ze hdv;have HNV:=ze hnv;obtain ⟨A,c,rfl⟩:=hv.form;have HV:=ze hv;have HLV:=ze hlv;have HLN:=ze hln;have HWR2:=ze (ext HWR.out hb2);have HKR2:=ze (HKR.out.below hb2 HKR.out.lt);clear r0 r1 r2 f0 f1 f2 lR HKR HWR;have HKR:=HKR2;have HWR:=HWR2;clear HKR2 HWR2;have r0:=HKR.out.cell 0;have r1:=HKR.out.cell 1;have r2:=HKR.out.cell 2;have f0:=HKR.out.frozen 0;have f1:=HKR.out.frozen 1;have f2:=HKR.out.frozen 2;have lR:=HKR.out.lt;simp at r0 r1 r2
              clear hv hlv hln hb2 l1 l2 hdv hnv
              by_cases hz:dv=0
              . subst hz
                have HP:=ze (Yb (.inr (.inr (.inr (.inr HDV.out)))));have hz0:((len 1000000000 0:Int) == 0)=true:=by rw [YV];rfl
                go_wp2_with fail;have kR2:=yN (ng:=false) (A:=none) (n:=0) (c:=0) (B:=none) (m:=0) (d:=0) HKR.out;have e0:=kR2.cell 0;have e1:=kR2.cell 1;have e2:=kR2.cell 2;simp only [World.ref] at e0 e1 e2;simp at e0 e1 e2;refine bodyPost_ret (v:=.tuple #[.agg #[.bool false,.slice none 0 0,.slice none 0 0],.bool false]) (by simp [results,Tryz.results118,go_sem,e0,e1,e2]) rfl ?_
                first
                | exact xp.no HP.out ⟨_,_,_,_,_,_,_,rfl⟩ HWR.out
                | exact xp.no HP.out ⟨_,_,_,_,_,_,_,rfl⟩ (y8 (g:=w.heap.size) (ng:=false) (A:=none) (n:=0) (c:=0) (B:=none) (m:=0) (d:=0) HWR.out (Nat.le_refl _))
              . have hz0:((len 1000000000 dv:Int) == 0)=false:=by rw [beq_eq_false_iff_ne];have:=Vo (β:=1000000000) (n:=dv) (by omega) (by omega);omega
                have HZ:=ze (show 0<dv by omega);clear hz;go_wp2_with fail;refine (VU a _ (YY HD1.out) (by have:=HL1.out;rw [zo] at this;omega)).mono ?_;rintro e w3 ⟨v3,rfl,hv3,hb3⟩;rw [HA.out,HNV.out] at hv3;have HV3:=ze hv3;have HVa:=ze (zz.below HV.out hb3);have HWR3:=ze (ext HWR.out hb3);have HKR3:=ze (HKR.out.below hb3 HKR.out.lt);clear hv3 hb3 r0 r1 r2 f0 f1 f2 lR HKR HWR;go_wp2_with fail;refine (Z8 _ _ _ nv dv _ HV3.out HVa.out HZ.out (Nat.le_trans HLN.out (by decide)) (Nat.le_trans HLV.out (by decide))).mono ?_;rintro e w4 ⟨v4,rfl,hv4,hb4⟩;rw [HN.out] at hv4;obtain ⟨q,hq⟩:∃ q,q=x9 (yD (bts s)) nv dv:=⟨_,rfl⟩;have HQL:=ze (show VQ 33554432 q by rw [hq];exact zch HZ.out (Nat.le_trans HLN.out (by decide)) (Nat.le_trans HLV.out (by decide)));rw [<- hq] at hv4 HIF;obtain ⟨nq,A5,c5,B5,d5,rfl,hng,ha1,ha2⟩:=hv4.form;have HNG:=ze hng;have hb5:=zf w4 (.cells #[.bool nq,.slice A5 (len 1000000000 q.num.natAbs) c5,.slice B5 (len 1000000000 q.den) d5] 98);have HKR5:=ze (show vB _ w.heap.size from ⟨_,_,_,_,_,_,_,HKR3.out.below (ext hb4 hb5) HKR3.out.lt⟩)
                have HWR5:=ze (ext HWR3.out (ext hb4 hb5));have HS1:=ze (zz.below ha1 hb5);have HS2:=ze (zz.below ha2 hb5);have HKQ:=ze (Blk.new w4 98 #[.bool nq,.slice A5 (len 1000000000 q.num.natAbs) c5,.slice B5 (len 1000000000 q.den) d5]);have lgq:w.heap.size<w4.heap.size:=(HKR3.out.below hb4 HKR3.out.lt).lt;obtain ⟨n5,hn5⟩:∃ n5,len 1000000000 q.num.natAbs=n5:=⟨_,rfl⟩;obtain ⟨m5,hm5⟩:∃ m5,len 1000000000 q.den=m5:=⟨_,rfl⟩;rw [hn5,hm5] at HKR5 HWR5 HKQ |-;rw [hn5,hm5] at HS1 HS2;clear hq hv4 hng hb4 hb5 ha1 ha2 hn5 hm5 HKR3 HWR3 HV3 HVa HV;go_wp2_with fail;generalize hgq:w4.heap.size=gq at HKQ lgq |-;generalize w4.alloc (.cells #[.bool nq,.slice A5 n5 c5,.slice B5 m5 d5] 98)=W7 at HS1 HS2 HKR5 HWR5 HKQ |-;clear hgq;have hlq:=HKQ.out.lt;have q0:=HKQ.out.cell 0;have q1:=HKQ.out.cell 1;have q2:=HKQ.out.cell 2;simp at q0 q1 q2;have HRES:=ze (show vB W7.drew w.heap.size from HKR5.out);have HWX:=ze (show Below w.heap.size w W7.drew from zl HWR5.out 1);have HY1:=ze (show zz W7.drew _ q.num.natAbs from zz.below HS1.out (zw W7 1))
                have HY2:=ze (show zz W7.drew _ q.den from zz.below HS2.out (zw W7 1));clear HS1 HS2
                go_region_held3 (fun w' =>w'.cell? ⟨gq,0,none⟩=some (.bool nq)/\w'.cell? ⟨gq,1,none⟩=some (.slice A5 n5 c5)/\w'.cell? ⟨gq,2,none⟩=some (.slice B5 m5 d5)/\gq<w'.heap.size/\Hid (vB w' w.heap.size)/\Hid (Below w.heap.size w w')/\Hid (zz w' (.slice A5 n5 c5) q.num.natAbs)/\Hid (zz w' (.slice B5 m5 d5) q.den))
                 (first
                   | with_reducible exact ⟨by go_keep,by go_keep,by go_keep,by first | (simp;done) | (simp;assumption),HRES,HWX,HY1,HY2⟩
                   | (go_split_ands;with_reducible exact ⟨yc (by omega) ‹_›,yc (by omega) ‹_›,yc (by omega) ‹_›,xW ‹_›,vr ‹_›,xP (by omega) ‹_›,Yq ‹_› ‹_›,Yq ‹_› ‹_›⟩)
                   | (go_split_ands;with_reducible exact ⟨zj ‹_› ‹_› ‹_›,zj ‹_› ‹_› ‹_›,zj ‹_› ‹_› ‹_›,zE ‹_› ‹_›,xB ‹_› ‹_›,zt ‹_› ‹_›,zcs ‹_› ‹_›,zcs ‹_› ‹_›⟩)
                   | go_keep)
                 (first
                   | (go_at_call 98;refine (zdn _ q _ ⟨_,_,_,_,_,_,_,rfl,HNG.out,zI (by go_split_ands;assumption),zI (by go_split_ands;assumption)⟩ HQL.out).mono ?_;rintro e wo ⟨rfl,hbo⟩;obtain ⟨ngr,Ar,kr,cr,Br,krx,crx,kR⟩:=(xB (g:=w.heap.size) hbo (by go_split_ands;assumption)).out;have r0:=kR.cell 0;have r1:=kR.cell 1;have r2:=kR.cell 2;have f0:=kR.frozen 0;have f1:=kR.frozen 1;have f2:=kR.frozen 2;simp at r0 r1 r2;have HKR:=ze kR;clear kR))
                all_goals
                 go_split_ands;have kR2:=yN (ng:=nq) (A:=A5) (n:=n5) (c:=c5) (B:=B5) (m:=m5) (d:=d5) HKR.out;have hR1:=zI (by assumption:Hid (zz (World.ref wo w.heap.size nq A5 n5 c5 B5 m5 d5) (.slice A5 n5 c5) q.num.natAbs));have hR2:=zI (by assumption:Hid (zz (World.ref wo w.heap.size nq A5 n5 c5 B5 m5 d5) (.slice B5 m5 d5) q.den));have hRW:=zI (by assumption:Hid (Below w.heap.size w (World.ref wo w.heap.size nq A5 n5 c5 B5 m5 d5)));have e0:=kR2.cell 0;have e1:=kR2.cell 1;have e2:=kR2.cell 2;simp only [World.ref] at e0 e1 e2;simp at e0 e1 e2;go_wp2;refine bodyPost_ret (v:=.tuple #[.agg #[.bool nq,.slice A5 n5 c5,.slice B5 m5 d5],.bool (zT q == s.toList)]) (by simp [results,Tryz.results118,go_sem,e0,e1,e2]) rfl ?_;exact xp.maybe HIF.out (zlt _ _) ⟨_,_,_,_,_,_,_,rfl,HNG.out,hR1,hR2⟩ hRW
theorem XM {a b M K:Nat} (h1:len 1000000000 a<=M) (h2:len 1000000000 b<=K):len 1000000000 (a*b)<=M+K:=
 Nat.le_trans (X6 (by omega) a b) (Nat.add_le_add h1 h2)
theorem zc2 (va vb:Value) (x y:Rat) (w:World) (ha:vV w va x) (hb:vV w vb y) (hx:VQ 8388608 x) (hy:VQ 8388608 y):
 Calls Tryz.prog 101 #[va,vb] w (Xo w (x*y)):=by
 obtain ⟨g1,A1,n1,c1,B1,m1,d1,rfl,hg1,ha1,ha2⟩:=ha
 obtain ⟨g2,A2,n2,c2,B2,m2,d2,rfl,hg2,hb1,hb2⟩:=hb
 have HX1:=ze (Nat.le_trans hx.1 (show 8388608<=67108864 by omega))
 have HX2:=ze (Nat.le_trans hx.2 (show 8388608<=67108864 by omega))
 have HY1:=ze (Nat.le_trans hy.1 (show 8388608<=67108864 by omega))
 have HY2:=ze (Nat.le_trans hy.2 (show 8388608<=67108864 by omega))
 have HL1:=ze (Nat.le_trans (XM hx.1 hy.1) (show 8388608+8388608<=33554432 by omega))
 have HL2:=ze (Nat.le_trans (XM hx.2 hy.2) (show 8388608+8388608<=33554432 by omega))
 have HPOS:=ze (show 0<x.den*y.den by have:=x.den_pos;have:=y.den_pos;exact Nat.mul_pos ‹0<x.den› ‹0<y.den›)
 rw [zpy x y, <- hg1, <- hg2]
 have HAN:=ze ha1
 have HAD:=ze ha2
 have HBN:=ze hb1
 have HBD:=ze hb2
 clear ha1 ha2 hb1 hb2 hx hy hg1 hg2
 have HRES:Hid (vB ((((w.alloc (.cells #[.bool g1,.slice A1 n1 c1,.slice B1 m1 d1] 98)).alloc (.cells #[.bool g2,.slice A2 n2 c2,.slice B2 m2 d2] 98)).alloc (.cells #[.bool false,.slice none 0 0,.slice none 0 0] 98)).drew) (w.heap.size+1+1)):=by
  have h:=(Blk.new ((w.alloc (.cells #[.bool g1,.slice A1 n1 c1,.slice B1 m1 d1] 98)).alloc (.cells #[.bool g2,.slice A2 n2 c2,.slice B2 m2 d2] 98)) 98 #[.bool false,.slice none 0 0,.slice none 0 0]).drew
  simp only [World.size_alloc] at h
  exact ⟨_,_,_,_,_,_,_,h⟩
 have HWX:Hid (Below w.heap.size w ((((w.alloc (.cells #[.bool g1,.slice A1 n1 c1,.slice B1 m1 d1] 98)).alloc (.cells #[.bool g2,.slice A2 n2 c2,.slice B2 m2 d2] 98)).alloc (.cells #[.bool false,.slice none 0 0,.slice none 0 0] 98)).drew)):=ze (zl (ext (ext (zf w (.cells #[.bool g1,.slice A1 n1 c1,.slice B1 m1 d1] 98)) (zf _ (.cells #[.bool g2,.slice A2 n2 c2,.slice B2 m2 d2] 98))) (zf _ (.cells #[.bool false,.slice none 0 0,.slice none 0 0] 98))) 1)
 go_enter Tryz.func101,Tryz.ntmps101
 go_wp2_with fail
 go_region_held3 (fun w' =>w'.cell? ⟨w.heap.size,0,none⟩=some (.bool g1)/\w'.cell? ⟨w.heap.size,1,none⟩=some (.slice A1 n1 c1)/\w'.cell? ⟨w.heap.size,2,none⟩=some (.slice B1 m1 d1)/\w'.cell? ⟨w.heap.size+1,0,none⟩=some (.bool g2)/\w'.cell? ⟨w.heap.size+1,1,none⟩=some (.slice A2 n2 c2)/\w'.cell? ⟨w.heap.size+1,2,none⟩=some (.slice B2 m2 d2)/\w.heap.size<w'.heap.size/\w.heap.size+1<w'.heap.size/\Hid (vB w' (w.heap.size+1+1))/\Hid (Below w.heap.size w w'))
  (first
    | with_reducible exact ⟨by go_keep,by go_keep,by go_keep,by go_keep,by go_keep,by go_keep,by first | (simp;done) | (simp;omega),by first | (simp;done) | (simp;omega),HRES,HWX⟩
    | (go_split_ands;with_reducible exact ⟨yc (by omega) ‹_›,yc (by omega) ‹_›,yc (by omega) ‹_›,yc (by omega) ‹_›,yc (by omega) ‹_›,yc (by omega) ‹_›,xW ‹_›,xW ‹_›,vr ‹_›,xP (by omega) ‹_›⟩)
    | (go_split_ands;with_reducible exact ⟨zj ‹_› ‹_› ‹_›,zj ‹_› ‹_› ‹_›,zj ‹_› ‹_› ‹_›,zj ‹_› ‹_› ‹_›,zj ‹_› ‹_› ‹_›,zj ‹_› ‹_› ‹_›,zE ‹_› ‹_›,zE ‹_› ‹_›,xB ‹_› ‹_›,zt ‹_› ‹_›⟩)
    | go_keep)
  (first
    | (go_at_call_of 155 (Value.slice A1 n1 c1);refine (vu _ _ (x.num.natAbs) (y.num.natAbs) _ (zz.below HAN.out (zI (by go_split_ands;assumption))) (zz.below HBN.out (zI (by go_split_ands;assumption))) HX1.out HY1.out).mono ?_;rintro e w1 ⟨v1,rfl,hv1,hb1⟩;have HM1:=ze hv1;clear hv1;try replace HM2:=ze (zz.below HM2.out hb1))
    | (go_at_call_of 155 (Value.slice B1 m1 d1);refine (vu _ _ (x.den) (y.den) _ (zz.below HAD.out (zI (by go_split_ands;assumption))) (zz.below HBD.out (zI (by go_split_ands;assumption))) HX2.out HY2.out).mono ?_;rintro e w2 ⟨v2,rfl,hv2,hb2⟩;have HM2:=ze hv2;clear hv2;try replace HM1:=ze (zz.below HM1.out hb2))
    | (go_at_call 156;refine (Z8 _ _ _ (x.num.natAbs*y.num.natAbs) (x.den*y.den) _ HM1.out HM2.out HPOS.out HL1.out HL2.out).mono ?_;rintro e wo ⟨vo,rfl,⟨g5,A5,n5,c5,B5,m5,d5,rfl,hq0,hq1,hq2⟩,hbo⟩;obtain ⟨gr,Ar,kr,cr,Br,krx,crx,kR⟩:=(xB (g:=w.heap.size+1+1) hbo (by go_split_ands;assumption)).out;have r0:=kR.cell 0;have r1:=kR.cell 1;have r2:=kR.cell 2;have f0:=kR.frozen 0;have f1:=kR.frozen 1;have f2:=kR.frozen 2;simp at r0 r1 r2;have HQ0:=ze hq0;have HQ1:=ze hq1;have HQ2:=ze hq2;have HKR:=ze kR;clear hq0 hq1 hq2 kR;try replace HM1:=ze (zz.below HM1.out hbo);try replace HM2:=ze (zz.below HM2.out hbo)))
 all_goals
  go_split_ands
  have kR2:=yN (ng:=g5) (A:=A5) (n:=n5) (c:=c5) (B:=B5) (m:=m5) (d:=d5) HKR.out
  have hR1:=ye (ng:=g5) (A:=A5) (n:=n5) (c:=c5) (B:=B5) (m:=m5) (d:=d5) HQ1.out HKR.out
  have hR2:=ye (ng:=g5) (A:=A5) (n:=n5) (c:=c5) (B:=B5) (m:=m5) (d:=d5) HQ2.out HKR.out
  have hRW:=zI (by assumption:Hid (Below w.heap.size w (World.ref wo (w.heap.size+1+1) g5 A5 n5 c5 B5 m5 d5)))
  have e0:=kR2.cell 0
  have e1:=kR2.cell 1
  have e2:=kR2.cell 2
  simp only [World.ref] at e0 e1 e2
  simp at e0 e1 e2
  go_wp2
  refine bodyPost_ret (v:=.agg #[.bool g5,.slice A5 n5 c5,.slice B5 m5 d5]) (by simp [results,Tryz.results101,go_sem,e0,e1,e2]) rfl ?_
  exact ⟨_,rfl,⟨_,_,_,_,_,_,_,rfl,HQ0.out,hR1,hR2⟩,hRW⟩
theorem VQ.neg {M:Nat} {x:Rat} (h:VQ M x):VQ M (-x):=by
 unfold VQ at h |-
 rw [Rat.neg_num,Rat.neg_den,Int.natAbs_neg]
 exact h
theorem VQ.mono {M K:Nat} {x:Rat} (h:VQ M x) (hk:M<=K):VQ K x:=⟨Nat.le_trans h.1 hk,Nat.le_trans h.2 hk⟩
theorem zfp (va:Value) (x:Rat) (w:World) (ha:vV w va x):
 Calls Tryz.prog 116 #[va] w (Xo w (-x)):=by
 obtain ⟨g,A,c,B,d,rfl,hg,ha1,ha2⟩:=ha.form
 have hs:(!g && decide (0<len 1000000000 x.num.natAbs))=decide ((-x).num<0):=by
  rw [Rat.neg_num,hg]
  have h1:=Vo (β:=1000000000) (n:=x.num.natAbs) (by omega)
  have h2:=YV (β:=1000000000)
  by_cases h0:x.num<0
  . rw [decide_eq_true h0,decide_eq_false (show ¬ -x.num<0 by omega)];rfl
  . by_cases h3:x.num=0
    . rw [h3];rw [show (0:Int).natAbs=0 from rfl,h2];decide
    . rw [decide_eq_false h0,decide_eq_true (show 0<len 1000000000 x.num.natAbs from h1 (by omega)),decide_eq_true (show -x.num<0 by omega)];rfl
 have HS:=ze hs
 have HA:=ze ha1
 have HB:=ze ha2
 obtain ⟨n,hn⟩:∃ n,len 1000000000 x.num.natAbs=n:=⟨_,rfl⟩
 obtain ⟨m,hm⟩:∃ m,len 1000000000 x.den=m:=⟨_,rfl⟩
 rw [hn] at HS HA
 rw [hm] at HB
 rw [hn,hm]
 clear ha ha1 ha2 hs hg hn hm
 have HN1:=ze (show (-x).num.natAbs=x.num.natAbs by rw [Rat.neg_num,Int.natAbs_neg])
 have HW:=ze (fun (v:Bool)=>ext (zf w (.cells #[.bool g,.slice A n c,.slice B m d] 98)) (zf (w.alloc (.cells #[.bool g,.slice A n c,.slice B m d] 98)) (.cells #[.bool v,.slice A n c,.slice B m d] 98)))
 cases g
 . go_enter Tryz.func116,Tryz.ntmps116
   go_wp2_with fail;refine bodyPost_ret (v:=.agg #[.bool (decide (0<n)),.slice A n c,.slice B m d]) (by simp [results,Tryz.results116,go_sem]) rfl ?_;refine ⟨_,rfl,⟨_,_,_,_,_,_,_,rfl,HS.out,?_,?_⟩,HW.out _⟩
   . rw [HN1.out];exact zz.below HA.out (HW.out _)
   . exact zz.below HB.out (HW.out _)
 . go_enter Tryz.func116,Tryz.ntmps116
   go_wp2_with fail;refine bodyPost_ret (v:=.agg #[.bool false,.slice A n c,.slice B m d]) (by simp [results,Tryz.results116,go_sem]) rfl ?_;refine ⟨_,rfl,⟨_,_,_,_,_,_,_,rfl,HS.out,?_,?_⟩,HW.out _⟩
   . rw [HN1.out];exact zz.below HA.out (HW.out _)
   . exact zz.below HB.out (HW.out _)
theorem zob (va:Value) (x:Rat) (w:World) (ha:vV w va x):
 Calls Tryz.prog 56 #[va] w (Vc w (.int .i64 x.num.sign)):=by
 obtain ⟨g,A,c,B,d,rfl,hg,ha1,ha2⟩:=ha.form
 have HW:=ze (zf w (.cells #[.bool g,.slice A (len 1000000000 x.num.natAbs) c,.slice B (len 1000000000 x.den) d] 98))
 by_cases h0:x.num=0
 . have HS:=ze (show x.num.sign=0 by rw [h0];rfl)
   have hl:len 1000000000 x.num.natAbs=0:=by rw [h0];exact YV _
   rw [hl] at HW |-;generalize len 1000000000 x.den=m at HW |-;clear h0 hg hl ha ha1 ha2
   go_enter Tryz.func56,Tryz.ntmps56
   go_wp2_with fail;go_ret;exact ⟨vI HS.out,HW.out⟩
 . have hl:((len 1000000000 x.num.natAbs:Int) == 0)=false:=by
    rw [beq_eq_false_iff_ne];have:=Vo (β:=1000000000) (n:=x.num.natAbs) (by omega) (by omega);omega
   have HS:=ze (show x.num.sign=if g then -1 else 1 by
    rw [hg]
    by_cases h1:x.num<0
    . rw [decide_eq_true h1];simpa using Int.sign_eq_neg_one_of_neg h1
    . rw [decide_eq_false h1];simpa using Int.sign_eq_one_of_pos (by omega))
   generalize len 1000000000 x.num.natAbs=n at HW hl ha ha1 |-;generalize len 1000000000 x.den=m at HW ha ha2 |-;clear h0 hg ha ha1 ha2
   cases g
   . go_enter Tryz.func56,Tryz.ntmps56
     go_wp2_with fail;go_ret;exact ⟨vI HS.out,HW.out⟩
   . go_enter Tryz.func56,Tryz.ntmps56
     go_wp2_with fail;go_ret;exact ⟨vI HS.out,HW.out⟩
theorem zkn {a b:Nat}:decide (0<=zK (a:Int) (b:Int))=decide (b<=a):=by
 unfold zK
 rcases Nat.lt_trichotomy a b with h | h | h
 . rw [if_pos (by omega),decide_eq_false (show ¬ b<=a by omega)];rfl
 . rw [if_neg (by omega),if_neg (by omega),decide_eq_true (show b<=a by omega)];rfl
 . rw [if_neg (by omega),if_pos (by omega),decide_eq_true (show b<=a by omega)];rfl
theorem VC (va vb:Value) (x y:Rat) (w:World) (ha:vV w va x) (hb:vV w vb y) (hx:VQ 8388608 x) (hy:VQ 8388608 y):
 Calls Tryz.prog 100 #[va,vb] w (Xo w (x+y)):=by
 obtain ⟨g1,A1,n1,c1,B1,m1,d1,rfl,hg1,ha1,ha2⟩:=ha
 obtain ⟨g2,A2,n2,c2,B2,m2,d2,rfl,hg2,hb1,hb2⟩:=hb
 have HX1:=ze (Nat.le_trans hx.1 (show 8388608<=67108864 by omega))
 have HX2:=ze (Nat.le_trans hx.2 (show 8388608<=67108864 by omega))
 have HY1:=ze (Nat.le_trans hy.1 (show 8388608<=67108864 by omega))
 have HY2:=ze (Nat.le_trans hy.2 (show 8388608<=67108864 by omega))
 have hl1:=XM hx.1 hy.2
 have hl2:=XM hy.1 hx.2
 have HLA:=ze (Nat.le_trans hl1 (show 8388608+8388608<=67108864 by omega))
 have HLB:=ze (Nat.le_trans hl2 (show 8388608+8388608<=67108864 by omega))
 have HLL:=ze (Nat.le_trans (XM hx.2 hy.2) (show 8388608+8388608<=33554432 by omega))
 have HSUM:=ze (show len 1000000000 (x.num.natAbs*y.den+y.num.natAbs*x.den)<=33554432 from Nat.le_trans (zlf (by omega) _ _) (by omega))
 have HSUB1:=ze (show len 1000000000 (x.num.natAbs*y.den - y.num.natAbs*x.den)<=33554432 from Nat.le_trans (xS (by omega) (Nat.sub_le _ _)) (by omega))
 have HSUB2:=ze (show len 1000000000 (y.num.natAbs*x.den - x.num.natAbs*y.den)<=33554432 from Nat.le_trans (xS (by omega) (Nat.sub_le _ _)) (by omega))
 have HPOS:=ze (show 0<x.den*y.den from Nat.mul_pos x.den_pos y.den_pos)
 have HAN:=ze ha1
 have HAD:=ze ha2
 have HBN:=ze hb1
 have HBD:=ze hb2
 have HG1:=ze hg1
 have HG2:=ze hg2
 clear ha1 ha2 hb1 hb2 hx hy hg1 hg2 hl1 hl2
 have HRES:Hid (vB ((((w.alloc (.cells #[.bool g1,.slice A1 n1 c1,.slice B1 m1 d1] 98)).alloc (.cells #[.bool g2,.slice A2 n2 c2,.slice B2 m2 d2] 98)).alloc (.cells #[.bool false,.slice none 0 0,.slice none 0 0] 98)).drew) (w.heap.size+1+1)):=by
  have h:=(Blk.new ((w.alloc (.cells #[.bool g1,.slice A1 n1 c1,.slice B1 m1 d1] 98)).alloc (.cells #[.bool g2,.slice A2 n2 c2,.slice B2 m2 d2] 98)) 98 #[.bool false,.slice none 0 0,.slice none 0 0]).drew
  simp only [World.size_alloc] at h
  exact ⟨_,_,_,_,_,_,_,h⟩
 have HWX:Hid (Below w.heap.size w ((((w.alloc (.cells #[.bool g1,.slice A1 n1 c1,.slice B1 m1 d1] 98)).alloc (.cells #[.bool g2,.slice A2 n2 c2,.slice B2 m2 d2] 98)).alloc (.cells #[.bool false,.slice none 0 0,.slice none 0 0] 98)).drew)):=ze (zl (ext (ext (zf w (.cells #[.bool g1,.slice A1 n1 c1,.slice B1 m1 d1] 98)) (zf _ (.cells #[.bool g2,.slice A2 n2 c2,.slice B2 m2 d2] 98))) (zf _ (.cells #[.bool false,.slice none 0 0,.slice none 0 0] 98))) 1)
 go_enter Tryz.func100,Tryz.ntmps100
 go_wp2_with fail
 go_region_held3 (fun w' =>w'.cell? ⟨w.heap.size,0,none⟩=some (.bool g1)/\w'.cell? ⟨w.heap.size,1,none⟩=some (.slice A1 n1 c1)/\w'.cell? ⟨w.heap.size,2,none⟩=some (.slice B1 m1 d1)/\w'.cell? ⟨w.heap.size+1,0,none⟩=some (.bool g2)/\w'.cell? ⟨w.heap.size+1,1,none⟩=some (.slice A2 n2 c2)/\w'.cell? ⟨w.heap.size+1,2,none⟩=some (.slice B2 m2 d2)/\w.heap.size<w'.heap.size/\w.heap.size+1<w'.heap.size/\Hid (vB w' (w.heap.size+1+1))/\Hid (Below w.heap.size w w'))
  (first
    | with_reducible exact ⟨by go_keep,by go_keep,by go_keep,by go_keep,by go_keep,by go_keep,by first | (simp;done) | (simp;omega),by first | (simp;done) | (simp;omega),HRES,HWX⟩
    | (go_split_ands;with_reducible exact ⟨yc (by omega) ‹_›,yc (by omega) ‹_›,yc (by omega) ‹_›,yc (by omega) ‹_›,yc (by omega) ‹_›,yc (by omega) ‹_›,xW ‹_›,xW ‹_›,vr ‹_›,xP (by omega) ‹_›⟩)
    | (go_split_ands;with_reducible exact ⟨zj ‹_› ‹_› ‹_›,zj ‹_› ‹_› ‹_›,zj ‹_› ‹_› ‹_›,zj ‹_› ‹_› ‹_›,zj ‹_› ‹_› ‹_›,zj ‹_› ‹_› ‹_›,zE ‹_› ‹_›,zE ‹_› ‹_›,xB ‹_› ‹_›,zt ‹_› ‹_›⟩)
    | go_keep)
  (first
    | (go_at_call_of 155 (Value.slice A1 n1 c1);refine (vu _ _ x.num.natAbs y.den _ (zz.below HAN.out (zI (by go_split_ands;assumption))) (zz.below HBD.out (zI (by go_split_ands;assumption))) HX1.out HY2.out).mono ?_;rintro e w1 ⟨v1,rfl,hv1,hb1⟩;have HM1:=ze hv1;clear hv1;try replace HM2:=ze (zz.below HM2.out hb1))
    | (go_at_call_of 155 (Value.slice A2 n2 c2);refine (vu _ _ y.num.natAbs x.den _ (zz.below HBN.out (zI (by go_split_ands;assumption))) (zz.below HAD.out (zI (by go_split_ands;assumption))) HY1.out HX2.out).mono ?_;rintro e w2 ⟨v2,rfl,hv2,hb2⟩;have HM2:=ze hv2;clear hv2;try replace HM1:=ze (zz.below HM1.out hb2)))
 all_goals
  go_split_ands
  have HW1:Hid (Below w.heap.size w w2):=by assumption
  have HR1:Hid (vB w2 (w.heap.size+1+1)):=by assumption
  go_wp2_with fail
  refine (vu _ _ x.den y.den w2 (zz.below HAD.out HW1.out) (zz.below HBD.out HW1.out) HX2.out HY2.out).mono ?_
  rintro e W2 ⟨v3,rfl,hv3,hb3⟩
  have HM3:=ze hv3
  have HM1' :=ze (zz.below HM1.out hb3)
  have HM2' :=ze (zz.below HM2.out hb3)
  have HW2:=ze (ext HW1.out hb3)
  have HR2:=xB hb3 HR1
  have j0:W2.cell? ⟨w.heap.size,0,none⟩=some (.bool g1):=zj hb3 ‹_› ‹_›
  have j1:W2.cell? ⟨w.heap.size,1,none⟩=some (.slice A1 n1 c1):=zj hb3 ‹_› ‹_›
  have j2:W2.cell? ⟨w.heap.size,2,none⟩=some (.slice B1 m1 d1):=zj hb3 ‹_› ‹_›
  have j3:W2.cell? ⟨w.heap.size+1,0,none⟩=some (.bool g2):=zj hb3 ‹_› ‹_›
  have j4:W2.cell? ⟨w.heap.size+1,1,none⟩=some (.slice A2 n2 c2):=zj hb3 ‹_› ‹_›
  have j5:W2.cell? ⟨w.heap.size+1,2,none⟩=some (.slice B2 m2 d2):=zj hb3 ‹_› ‹_›
  have l0:w.heap.size<W2.heap.size:=zE hb3 ‹_›
  have l1:w.heap.size+1<W2.heap.size:=zE hb3 ‹_›
  clear hv3 hb3 HM1 HM2 HR1 HW1 HRES HWX
  have HM1:=HM1'
  have HM2:=HM2'
  clear HM1' HM2'
  by_cases hgg:g1=g2
  . have hgI:(g1 == g2)=true:=by rw [beq_iff_eq];exact hgg
    have HEQ:=ze (zd0 (x:=x) (y:=y) (by rw [<- HG1.out, <- HG2.out];exact hgg));rw [<- HG1.out] at HEQ;have HLS:=HSUM;clear hgg;go_wp2_with fail;have HRES:=ze (show vB W2.drew (w.heap.size+1+1) from HR2.out);have HWX:=ze (show Below w.heap.size w W2.drew from zl HW2.out 1)
    go_region_held3 (fun w' =>w'.cell? ⟨w.heap.size,0,none⟩=some (.bool g1)/\w'.cell? ⟨w.heap.size,1,none⟩=some (.slice A1 n1 c1)/\w'.cell? ⟨w.heap.size,2,none⟩=some (.slice B1 m1 d1)/\w'.cell? ⟨w.heap.size+1,0,none⟩=some (.bool g2)/\w'.cell? ⟨w.heap.size+1,1,none⟩=some (.slice A2 n2 c2)/\w'.cell? ⟨w.heap.size+1,2,none⟩=some (.slice B2 m2 d2)/\w.heap.size<w'.heap.size/\w.heap.size+1<w'.heap.size/\Hid (vB w' (w.heap.size+1+1))/\Hid (Below w.heap.size w w'))
     (first
       | with_reducible exact ⟨by go_keep,by go_keep,by go_keep,by go_keep,by go_keep,by go_keep,by assumption,by assumption,HRES,HWX⟩
       | (go_split_ands;with_reducible exact ⟨yc (by omega) ‹_›,yc (by omega) ‹_›,yc (by omega) ‹_›,yc (by omega) ‹_›,yc (by omega) ‹_›,yc (by omega) ‹_›,xW ‹_›,xW ‹_›,vr ‹_›,xP (by omega) ‹_›⟩)
       | (go_split_ands;with_reducible exact ⟨zj ‹_› ‹_› ‹_›,zj ‹_› ‹_› ‹_›,zj ‹_› ‹_› ‹_›,zj ‹_› ‹_› ‹_›,zj ‹_› ‹_› ‹_›,zj ‹_› ‹_› ‹_›,zE ‹_› ‹_›,zE ‹_› ‹_›,xB ‹_› ‹_›,zt ‹_› ‹_›⟩)
       | go_keep)
     (first
       | (go_at_call 157;refine (zn5 _ _ (x.num.natAbs*y.den) (y.num.natAbs*x.den) _ (zz.below HM1.out (show Below W2.heap.size W2 W2.drew from zw W2 1)) (zz.below HM2.out (show Below W2.heap.size W2 W2.drew from zw W2 1)) HLA.out HLB.out).mono ?_;rintro e w5 ⟨v5,rfl,hv5,hb5⟩;have HM5:=ze hv5;have HM3b:=ze (zz.below HM3.out (ext (show Below W2.heap.size W2 W2.drew from zw W2 1) hb5));clear hv5)
       | (go_at_call 156;refine (Z8 _ _ _ (x.num.natAbs*y.den+y.num.natAbs*x.den) (x.den*y.den) _ HM5.out HM3b.out HPOS.out HLS.out HLL.out).mono ?_;rintro e wo ⟨vo,rfl,⟨g5,A5,n5,c5,B5,m5,d5,rfl,hq0,hq1,hq2⟩,hbo⟩;obtain ⟨gr,Ar,kr,cr,Br,krx,crx,kR⟩:=(xB (g:=w.heap.size+1+1) hbo (by go_split_ands;assumption)).out;have r0:=kR.cell 0;have r1:=kR.cell 1;have r2:=kR.cell 2;have f0:=kR.frozen 0;have f1:=kR.frozen 1;have f2:=kR.frozen 2;simp at r0 r1 r2;have HQ0:=ze hq0;have HQ1:=ze hq1;have HQ2:=ze hq2;have HKR:=ze kR;clear hq0 hq1 hq2 kR))
    all_goals
     go_split_ands;have kR2:=yN (ng:=g5) (A:=A5) (n:=n5) (c:=c5) (B:=B5) (m:=m5) (d:=d5) HKR.out;have hR1:=ye (ng:=g5) (A:=A5) (n:=n5) (c:=c5) (B:=B5) (m:=m5) (d:=d5) HQ1.out HKR.out;have hR2:=ye (ng:=g5) (A:=A5) (n:=n5) (c:=c5) (B:=B5) (m:=m5) (d:=d5) HQ2.out HKR.out;have hRW:=zI (by assumption:Hid (Below w.heap.size w (World.ref wo (w.heap.size+1+1) g5 A5 n5 c5 B5 m5 d5)));have e0:=kR2.cell 0;have e1:=kR2.cell 1;have e2:=kR2.cell 2;simp only [World.ref] at e0 e1 e2;simp at e0 e1 e2;go_wp2;refine bodyPost_ret (v:=.agg #[.bool g5,.slice A5 n5 c5,.slice B5 m5 d5]) (by simp [results,Tryz.results100,go_sem,e0,e1,e2]) rfl ?_;exact ⟨_,rfl,⟨_,_,_,_,_,_,_,rfl,(by rw [HEQ.out];exact HQ0.out),(by rw [HEQ.out];exact hR1),(by rw [HEQ.out];exact hR2)⟩,hRW⟩
  . have hgI:(g1 == g2)=false:=by rw [beq_eq_false_iff_ne];exact hgg
    have HNE:=ze (show decide (x.num<0)≠decide (y.num<0) by rw [<- HG1.out, <- HG2.out];exact hgg);clear hgg
    by_cases hle:y.num.natAbs*x.den<=x.num.natAbs*y.den
    . have hc0:0<=zK ((x.num.natAbs*y.den:Nat):Int) ((y.num.natAbs*x.den:Nat):Int):=of_decide_eq_true (by rw [zkn,decide_eq_true hle])
      have HEQ:=ze (zih HNE.out hle);have HLE:=ze hle;rw [<- HG1.out] at HEQ;have HLS:=HSUB1;clear hle;go_wp2_with fail;refine (vF _ _ (x.num.natAbs*y.den) (y.num.natAbs*x.den) W2 HM1.out HM2.out HLA.out HLB.out).mono ?_;rintro e W3 ⟨rfl,n,rfl⟩;generalize zK ((x.num.natAbs*y.den:Nat):Int) ((y.num.natAbs*x.den:Nat):Int)=cv at hc0 |-;have hb3:=zw W2 n;have HM1' :=ze (zz.below HM1.out hb3);have HM2' :=ze (zz.below HM2.out hb3);have HM3' :=ze (zz.below HM3.out hb3);have HW2' :=ze (ext HW2.out hb3);have HR2' :=xB hb3 HR2;have j0' :=zj hb3 l0 j0;have j1' :=zj hb3 l0 j1;have j2' :=zj hb3 l0 j2;have j3' :=zj hb3 l1 j3;have j4' :=zj hb3 l1 j4;have j5' :=zj hb3 l1 j5;have l0' :=zE hb3 l0;have l1' :=zE hb3 l1;clear hb3 HM1 HM2 HM3 HW2 HR2 j0 j1 j2 j3 j4 j5 l0 l1;generalize W2.drewN n=W2 at HM1' HM2' HM3' HW2' HR2' j0' j1' j2' j3' j4' j5' l0' l1' |-;have HM1:=HM1';have HM2:=HM2';have HM3:=HM3';have HW2:=HW2';have HR2:=HR2';clear HM1' HM2' HM3' HW2' HR2';go_wp2_with fail;have HRES:=ze (show vB W2.drew (w.heap.size+1+1) from HR2.out);have HWX:=ze (show Below w.heap.size w W2.drew from zl HW2.out 1)
      go_region_held3 (fun w' =>w'.cell? ⟨w.heap.size,0,none⟩=some (.bool g1)/\w'.cell? ⟨w.heap.size,1,none⟩=some (.slice A1 n1 c1)/\w'.cell? ⟨w.heap.size,2,none⟩=some (.slice B1 m1 d1)/\w'.cell? ⟨w.heap.size+1,0,none⟩=some (.bool g2)/\w'.cell? ⟨w.heap.size+1,1,none⟩=some (.slice A2 n2 c2)/\w'.cell? ⟨w.heap.size+1,2,none⟩=some (.slice B2 m2 d2)/\w.heap.size<w'.heap.size/\w.heap.size+1<w'.heap.size/\Hid (vB w' (w.heap.size+1+1))/\Hid (Below w.heap.size w w'))
       (first
         | with_reducible exact ⟨by go_keep,by go_keep,by go_keep,by go_keep,by go_keep,by go_keep,by assumption,by assumption,HRES,HWX⟩
         | (go_split_ands;with_reducible exact ⟨yc (by omega) ‹_›,yc (by omega) ‹_›,yc (by omega) ‹_›,yc (by omega) ‹_›,yc (by omega) ‹_›,yc (by omega) ‹_›,xW ‹_›,xW ‹_›,vr ‹_›,xP (by omega) ‹_›⟩)
         | (go_split_ands;with_reducible exact ⟨zj ‹_› ‹_› ‹_›,zj ‹_› ‹_› ‹_›,zj ‹_› ‹_› ‹_›,zj ‹_› ‹_› ‹_›,zj ‹_› ‹_› ‹_›,zj ‹_› ‹_› ‹_›,zE ‹_› ‹_›,zE ‹_› ‹_›,xB ‹_› ‹_›,zt ‹_› ‹_›⟩)
         | go_keep)
       (first
         | (go_at_call 159;refine (YM _ _ (x.num.natAbs*y.den) (y.num.natAbs*x.den) _ (zz.below HM1.out (show Below W2.heap.size W2 W2.drew from zw W2 1)) (zz.below HM2.out (show Below W2.heap.size W2 W2.drew from zw W2 1)) HLE.out HLA.out).mono ?_;rintro e w5 ⟨v5,rfl,hv5,hb5⟩;have HM5:=ze hv5;have HM3b:=ze (zz.below HM3.out (ext (show Below W2.heap.size W2 W2.drew from zw W2 1) hb5));clear hv5)
         | (go_at_call 156;refine (Z8 _ _ _ (x.num.natAbs*y.den - y.num.natAbs*x.den) (x.den*y.den) _ HM5.out HM3b.out HPOS.out HLS.out HLL.out).mono ?_;rintro e wo ⟨vo,rfl,⟨g5,A5,n5,c5,B5,m5,d5,rfl,hq0,hq1,hq2⟩,hbo⟩;obtain ⟨gr,Ar,kr,cr,Br,krx,crx,kR⟩:=(xB (g:=w.heap.size+1+1) hbo (by go_split_ands;assumption)).out;have r0:=kR.cell 0;have r1:=kR.cell 1;have r2:=kR.cell 2;have f0:=kR.frozen 0;have f1:=kR.frozen 1;have f2:=kR.frozen 2;simp at r0 r1 r2;have HQ0:=ze hq0;have HQ1:=ze hq1;have HQ2:=ze hq2;have HKR:=ze kR;clear hq0 hq1 hq2 kR))
      all_goals
       go_split_ands;have kR2:=yN (ng:=g5) (A:=A5) (n:=n5) (c:=c5) (B:=B5) (m:=m5) (d:=d5) HKR.out;have hR1:=ye (ng:=g5) (A:=A5) (n:=n5) (c:=c5) (B:=B5) (m:=m5) (d:=d5) HQ1.out HKR.out;have hR2:=ye (ng:=g5) (A:=A5) (n:=n5) (c:=c5) (B:=B5) (m:=m5) (d:=d5) HQ2.out HKR.out;have hRW:=zI (by assumption:Hid (Below w.heap.size w (World.ref wo (w.heap.size+1+1) g5 A5 n5 c5 B5 m5 d5)));have e0:=kR2.cell 0;have e1:=kR2.cell 1;have e2:=kR2.cell 2;simp only [World.ref] at e0 e1 e2;simp at e0 e1 e2;go_wp2;refine bodyPost_ret (v:=.agg #[.bool g5,.slice A5 n5 c5,.slice B5 m5 d5]) (by simp [results,Tryz.results100,go_sem,e0,e1,e2]) rfl ?_;exact ⟨_,rfl,⟨_,_,_,_,_,_,_,rfl,(by rw [HEQ.out];exact HQ0.out),(by rw [HEQ.out];exact hR1),(by rw [HEQ.out];exact hR2)⟩,hRW⟩
    . have hc0:¬ 0<=zK ((x.num.natAbs*y.den:Nat):Int) ((y.num.natAbs*x.den:Nat):Int):=of_decide_eq_false (by rw [zkn,decide_eq_false hle])
      have HEQ:=ze (zjk HNE.out (Nat.lt_of_not_le hle));have HLE:=ze (Nat.le_of_lt (Nat.lt_of_not_le hle));rw [<- HG2.out] at HEQ;have HLS:=HSUB2;clear hle;go_wp2_with fail;refine (vF _ _ (x.num.natAbs*y.den) (y.num.natAbs*x.den) W2 HM1.out HM2.out HLA.out HLB.out).mono ?_;rintro e W3 ⟨rfl,n,rfl⟩;generalize zK ((x.num.natAbs*y.den:Nat):Int) ((y.num.natAbs*x.den:Nat):Int)=cv at hc0 |-;have hb3:=zw W2 n;have HM1' :=ze (zz.below HM1.out hb3);have HM2' :=ze (zz.below HM2.out hb3);have HM3' :=ze (zz.below HM3.out hb3);have HW2' :=ze (ext HW2.out hb3);have HR2' :=xB hb3 HR2;have j0' :=zj hb3 l0 j0;have j1' :=zj hb3 l0 j1;have j2' :=zj hb3 l0 j2;have j3' :=zj hb3 l1 j3;have j4' :=zj hb3 l1 j4;have j5' :=zj hb3 l1 j5;have l0' :=zE hb3 l0;have l1' :=zE hb3 l1;clear hb3 HM1 HM2 HM3 HW2 HR2 j0 j1 j2 j3 j4 j5 l0 l1;generalize W2.drewN n=W2 at HM1' HM2' HM3' HW2' HR2' j0' j1' j2' j3' j4' j5' l0' l1' |-;have HM1:=HM1';have HM2:=HM2';have HM3:=HM3';have HW2:=HW2';have HR2:=HR2';clear HM1' HM2' HM3' HW2' HR2';go_wp2_with fail;have HRES:=ze (show vB W2.drew (w.heap.size+1+1) from HR2.out)
      have HWX:=ze (show Below w.heap.size w W2.drew from zl HW2.out 1)
      go_region_held3 (fun w' =>w'.cell? ⟨w.heap.size,0,none⟩=some (.bool g1)/\w'.cell? ⟨w.heap.size,1,none⟩=some (.slice A1 n1 c1)/\w'.cell? ⟨w.heap.size,2,none⟩=some (.slice B1 m1 d1)/\w'.cell? ⟨w.heap.size+1,0,none⟩=some (.bool g2)/\w'.cell? ⟨w.heap.size+1,1,none⟩=some (.slice A2 n2 c2)/\w'.cell? ⟨w.heap.size+1,2,none⟩=some (.slice B2 m2 d2)/\w.heap.size<w'.heap.size/\w.heap.size+1<w'.heap.size/\Hid (vB w' (w.heap.size+1+1))/\Hid (Below w.heap.size w w'))
       (first
         | with_reducible exact ⟨by go_keep,by go_keep,by go_keep,by go_keep,by go_keep,by go_keep,by assumption,by assumption,HRES,HWX⟩
         | (go_split_ands;with_reducible exact ⟨yc (by omega) ‹_›,yc (by omega) ‹_›,yc (by omega) ‹_›,yc (by omega) ‹_›,yc (by omega) ‹_›,yc (by omega) ‹_›,xW ‹_›,xW ‹_›,vr ‹_›,xP (by omega) ‹_›⟩)
         | (go_split_ands;with_reducible exact ⟨zj ‹_› ‹_› ‹_›,zj ‹_› ‹_› ‹_›,zj ‹_› ‹_› ‹_›,zj ‹_› ‹_› ‹_›,zj ‹_› ‹_› ‹_›,zj ‹_› ‹_› ‹_›,zE ‹_› ‹_›,zE ‹_› ‹_›,xB ‹_› ‹_›,zt ‹_› ‹_›⟩)
         | go_keep)
       (first
         | (go_at_call 159;refine (YM _ _ (y.num.natAbs*x.den) (x.num.natAbs*y.den) _ (zz.below HM2.out (show Below W2.heap.size W2 W2.drew from zw W2 1)) (zz.below HM1.out (show Below W2.heap.size W2 W2.drew from zw W2 1)) HLE.out HLB.out).mono ?_;rintro e w5 ⟨v5,rfl,hv5,hb5⟩;have HM5:=ze hv5;have HM3b:=ze (zz.below HM3.out (ext (show Below W2.heap.size W2 W2.drew from zw W2 1) hb5));clear hv5)
         | (go_at_call 156;refine (Z8 _ _ _ (y.num.natAbs*x.den - x.num.natAbs*y.den) (x.den*y.den) _ HM5.out HM3b.out HPOS.out HLS.out HLL.out).mono ?_;rintro e wo ⟨vo,rfl,⟨g5,A5,n5,c5,B5,m5,d5,rfl,hq0,hq1,hq2⟩,hbo⟩;obtain ⟨gr,Ar,kr,cr,Br,krx,crx,kR⟩:=(xB (g:=w.heap.size+1+1) hbo (by go_split_ands;assumption)).out;have r0:=kR.cell 0;have r1:=kR.cell 1;have r2:=kR.cell 2;have f0:=kR.frozen 0;have f1:=kR.frozen 1;have f2:=kR.frozen 2;simp at r0 r1 r2;have HQ0:=ze hq0;have HQ1:=ze hq1;have HQ2:=ze hq2;have HKR:=ze kR;clear hq0 hq1 hq2 kR))
      all_goals
       go_split_ands;have kR2:=yN (ng:=g5) (A:=A5) (n:=n5) (c:=c5) (B:=B5) (m:=m5) (d:=d5) HKR.out;have hR1:=ye (ng:=g5) (A:=A5) (n:=n5) (c:=c5) (B:=B5) (m:=m5) (d:=d5) HQ1.out HKR.out;have hR2:=ye (ng:=g5) (A:=A5) (n:=n5) (c:=c5) (B:=B5) (m:=m5) (d:=d5) HQ2.out HKR.out;have hRW:=zI (by assumption:Hid (Below w.heap.size w (World.ref wo (w.heap.size+1+1) g5 A5 n5 c5 B5 m5 d5)));have e0:=kR2.cell 0;have e1:=kR2.cell 1;have e2:=kR2.cell 2;simp only [World.ref] at e0 e1 e2;simp at e0 e1 e2;go_wp2;refine bodyPost_ret (v:=.agg #[.bool g5,.slice A5 n5 c5,.slice B5 m5 d5]) (by simp [results,Tryz.results100,go_sem,e0,e1,e2]) rfl ?_;exact ⟨_,rfl,⟨_,_,_,_,_,_,_,rfl,(by rw [HEQ.out];exact HQ0.out),(by rw [HEQ.out];exact hR1),(by rw [HEQ.out];exact hR2)⟩,hRW⟩
theorem zc5 (va vb:Value) (x y:Rat) (w:World) (ha:vV w va x) (hb:vV w vb y) (hx:VQ 8388608 x) (hy:VQ 8388608 y):
 Calls Tryz.prog 107 #[va,vb] w (Vc w (.int .i64 (x - y).num.sign)):=by
 have HEQ:=ze (Rat.sub_eq_add_neg x y)
 have HX0:=ze ha
 have HY0:=ze hb
 obtain ⟨g1,A1,n1,c1,B1,m1,d1,rfl,hg1,ha1,ha2⟩:=ha
 obtain ⟨g2,A2,n2,c2,B2,m2,d2,rfl,hg2,hb1,hb2⟩:=hb
 have HX:=ze hx
 have HY:=ze hy.neg
 clear ha1 ha2 hb1 hb2 hx hy hg1 hg2
 have HWX:Hid (Below w.heap.size w (((w.alloc (.cells #[.bool g1,.slice A1 n1 c1,.slice B1 m1 d1] 98)).alloc (.cells #[.bool g2,.slice A2 n2 c2,.slice B2 m2 d2] 98)).drew)):=ze (zl (ext (zf w (.cells #[.bool g1,.slice A1 n1 c1,.slice B1 m1 d1] 98)) (zf _ (.cells #[.bool g2,.slice A2 n2 c2,.slice B2 m2 d2] 98))) 1)
 go_enter Tryz.func107,Tryz.ntmps107
 go_wp2_with fail
 go_region_held3 (fun w' =>w'.cell? ⟨w.heap.size,0,none⟩=some (.bool g1)/\w'.cell? ⟨w.heap.size,1,none⟩=some (.slice A1 n1 c1)/\w'.cell? ⟨w.heap.size,2,none⟩=some (.slice B1 m1 d1)/\w'.cell? ⟨w.heap.size+1,0,none⟩=some (.bool g2)/\w'.cell? ⟨w.heap.size+1,1,none⟩=some (.slice A2 n2 c2)/\w'.cell? ⟨w.heap.size+1,2,none⟩=some (.slice B2 m2 d2)/\w.heap.size<w'.heap.size/\w.heap.size+1<w'.heap.size/\Hid (Below w.heap.size w w'))
  (first
    | with_reducible exact ⟨by go_keep,by go_keep,by go_keep,by go_keep,by go_keep,by go_keep,by first | (simp;done) | (simp;omega),by first | (simp;done) | (simp;omega),HWX⟩
    | (go_split_ands;with_reducible exact ⟨zj ‹_› ‹_› ‹_›,zj ‹_› ‹_› ‹_›,zj ‹_› ‹_› ‹_›,zj ‹_› ‹_› ‹_›,zj ‹_› ‹_› ‹_›,zj ‹_› ‹_› ‹_›,zE ‹_› ‹_›,zE ‹_› ‹_›,zt ‹_› ‹_›⟩)
    | go_keep)
  (first
    | (go_at_call 116;refine (zfp _ y _ (HY0.out.below (zI (by go_split_ands;assumption)))).mono ?_;rintro e w1 ⟨v1,rfl,hv1,hb1⟩;have HM1:=ze hv1;clear hv1)
    | (go_at_call 100;refine (VC _ _ x (-y) _ (HX0.out.below (zI (by go_split_ands;assumption))) HM1.out HX.out HY.out).mono ?_;rintro e w2 ⟨v2,rfl,hv2,hb2⟩;have HM2:=ze hv2;clear hv2)
    | (go_at_call 56;refine (zob _ (x+ -y) _ HM2.out).mono ?_;rintro e w3 ⟨rfl,hb3⟩))
 all_goals
  go_split_ands
  have hRW:=zI (by assumption:Hid (Below w.heap.size w w3))
  go_wp2
  go_ret
  exact ⟨vI (by rw [HEQ.out]),hRW⟩
theorem zep (M:Nat) (q:Rat):(!decide (yE M q))=(decide (M<(dec q.num.natAbs).length) || decide (M<(dec q.den).length)):=by
 by_cases h1:(dec q.num.natAbs).length<=M
 . by_cases h2:(dec q.den).length<=M
   . rw [decide_eq_true (show yE M q from ⟨h1,h2⟩),decide_eq_false (by omega),decide_eq_false (by omega)];rfl
   . rw [decide_eq_false (fun h:yE M q=>h2 h.2),decide_eq_true (show M<(dec q.den).length by omega),Bool.or_true];rfl
 . rw [decide_eq_false (fun h:yE M q=>h1 h.1),decide_eq_true (show M<(dec q.num.natAbs).length by omega)];rfl
theorem zh3 (va:Value) (q:Rat) (M:Nat) (w:World) (ha:vV w va q) (hl:VQ 33554432 q) (hM:M<=50000):
 Calls Tryz.prog 59 #[va,.int .i64 (M:Int)] w (Vc w (.bool (!decide (yE M q)))):=by
 obtain ⟨ng,A,c,B,d,rfl,hng,ha1,ha2⟩:=ha.form
 have HB:=ze (zf w (.cells #[.bool ng,.slice A (len 1000000000 q.num.natAbs) c,.slice B (len 1000000000 q.den) d] 98))
 have HA:=ze (zz.below ha1 HB.out)
 have HD:=ze (zz.below ha2 HB.out)
 have HL1:=ze hl.1
 have HL2:=ze hl.2
 have HS:=ze (zep M q)
 generalize len 1000000000 q.num.natAbs=n at HA HB HD |-
 generalize len 1000000000 q.den=m at HA HB HD |-
 clear ha ha1 ha2 hng hl
 by_cases g1:M<(dec q.num.natAbs).length
 . have HS' :=ze (show (!decide (yE M q))=true by rw [HS.out,decide_eq_true g1];rfl)
   clear HS
   go_enter Tryz.func59,Tryz.ntmps59
   go_wp2_with fail;refine (xh _ q.num.natAbs _ HA.out HL1.out).mono ?_;rintro e w1 ⟨rfl,rfl⟩;go_wp2_with fail;go_ret;exact ⟨zU HS'.out,HB.out⟩
 . by_cases g2:M<(dec q.den).length
   . have HS' :=ze (show (!decide (yE M q))=true by rw [HS.out,decide_eq_true g2,Bool.or_true])
     clear HS
     go_enter Tryz.func59,Tryz.ntmps59
     go_wp2_with fail;refine (xh _ q.num.natAbs _ HA.out HL1.out).mono ?_;rintro e w1 ⟨rfl,rfl⟩;go_wp2_with fail;refine (xh _ q.den _ HD.out HL2.out).mono ?_;rintro e w1 ⟨rfl,rfl⟩;go_wp2_with fail;go_ret;exact ⟨zU HS'.out,HB.out⟩
   . have HS' :=ze (show (!decide (yE M q))=false by rw [HS.out,decide_eq_false g1,decide_eq_false g2];rfl)
     clear HS
     go_enter Tryz.func59,Tryz.ntmps59
     go_wp2_with fail;refine (xh _ q.num.natAbs _ HA.out HL1.out).mono ?_;rintro e w1 ⟨rfl,rfl⟩;go_wp2_with fail;refine (xh _ q.den _ HD.out HL2.out).mono ?_;rintro e w1 ⟨rfl,rfl⟩;go_wp2_with fail;go_ret;exact ⟨zU HS'.out,HB.out⟩
theorem zl0 {l:List UInt8} {q:Rat} (h:zp l=some q):VQ 50000 q:=by
 have:=(yG.1 h).2
 exact ⟨Nat.le_trans (Zh (by omega)) this.1,Nat.le_trans (Zh (by omega)) this.2⟩
theorem zoq (s:ByteArray) (w:World) (hs:s.size<=1073741824):
 Calls Tryz.prog 96 #[.string s] w (Vd w (.bool (x8 (bts s)))):=by
 by_cases h0:s.size=0
 . have he:=zcn h0
   have HN:=ze (show x8 (bts s)=false by unfold x8;rw [zo,h0];rfl);clear h0
   go_enter Tryz.func96,Tryz.ntmps96
   go_wp2_with fail;go_ret;exact ⟨zU HN.out,rfl⟩
 . have hp:0<s.size:=by omega
   have hne:=Y8 hp;clear h0
   by_cases h16:16<s.size
   . have HN:=ze (show x8 (bts s)=false by unfold x8;rw [zo,decide_eq_false (show ¬ s.size<=16 by omega)];simp)
     go_enter Tryz.func96,Tryz.ntmps96
     go_wp2_with fail;go_ret;exact ⟨zU HN.out,rfl⟩
   . cases hl:zea s[0] with
     | false=>
       have HN:=ze (zh2 hp hl)
       have hc:s[0].toNat<97\/122<s[0].toNat:=by
        have:¬ (97<=s[0].toNat/\s[0].toNat<=122):=by intro h;rw [Yn.2 h] at hl;cases hl
        omega
       rcases hc with hc | hc
       . clear hl
         go_enter Tryz.func96,Tryz.ntmps96
         go_wp2_with fail;go_ret;exact ⟨zU HN.out,rfl⟩
       . have hc2:¬ s[0].toNat<97:=by omega
         clear hl
         go_enter Tryz.func96,Tryz.ntmps96
         go_wp2_with fail;go_ret;exact ⟨zU HN.out,rfl⟩
     | true=>
       obtain ⟨hc1,hc2⟩:=Yn.1 hl;have hd1:¬ s[0].toNat<97:=by omega
       have hd2:¬ 122<s[0].toNat:=by omega
       have HL:=ze hl;have H16:=ze (show s.size<=16 by omega);clear hl hc1 hc2
       go_enter Tryz.func96,Tryz.ntmps96
       go_wp2_with fail
       go_loop [3] (fun iv=>∃ k:Nat,k<=s.size/\iv= .int .i64 k/\Hid (∀ j (h:j<s.size),j<k->yB s[j]=true)) (fun iv=>s.size - (intOf iv).toNat)
       case atStart=>exact ⟨0,Nat.zero_le _,rfl,fun j _ h=>by omega⟩
       case round=>
        obtain ⟨k,hk,rfl,HD⟩:=hrel;clear hd1 hd2
        by_cases hlt:k<s.size
        . cases hd:yB s[k] with
          | true=>
            have HD1:=ze hd
            have hnext:∀ j (h:j<s.size),j<k+1->yB s[j]=true:=by
             intro j hj hlt2
             rcases Nat.lt_or_ge j k with h3 | h3
             . exact HD.out j hj h3
             . obtain rfl:j=k:=by omega
               exact HD1.out
            have HNX:=ze hnext;clear hnext
            rcases VF hd with ⟨h1,h2⟩ | ⟨h1,h2,h3⟩ | h1
            . clear hd
              go_wp2_with fail;go_round
              case rel=>exact ⟨k+1,by omega,by go_num,HNX.out⟩
              case measure=>simp [intOf];omega
            . have h4:¬ 97<=s[k].toNat:=by omega
              clear hd h3;go_wp2_with fail;go_round
              case rel=>exact ⟨k+1,by omega,by go_num,HNX.out⟩
              case measure=>simp [intOf];omega
            . have h4:¬ 97<=s[k].toNat:=by omega
              have h5:¬ 48<=s[k].toNat:=by omega
              have h6:((s[k].toNat:Int) != 45)=false:=by rw [h1];rfl
              clear hd;clear h1;go_wp2_with fail;go_round
              case rel=>exact ⟨k+1,by omega,by go_num,HNX.out⟩
              case measure=>simp [intOf];omega
          | false=>
            have HN:=ze (zhl hlt hd)
            have h6:((s[k].toNat:Int) != 45)=true:=by
             rw [bne_iff_ne];have:=Ya hd
             omega
            rcases Ya hd with ⟨h1,_⟩ | ⟨h1,h2⟩ | h1
            . have h4:¬ 97<=s[k].toNat:=by omega
              have h5:¬ 48<=s[k].toNat:=by omega
              clear hd;go_wp2_with fail;go_ret;exact ⟨zU HN.out,rfl⟩
            . have h4:¬ 97<=s[k].toNat:=by omega
              have h5:48<=s[k].toNat:=by omega
              have h7:decide ((s[k].toNat:Int)<=57)=false:=by rw [decide_eq_false_iff_not];omega
              clear hd;go_wp2_with fail;go_ret;exact ⟨zU HN.out,rfl⟩
            . have h4:97<=s[k].toNat:=by omega
              have h5:48<=s[k].toNat:=by omega
              have h7:decide ((s[k].toNat:Int)<=57)=false:=by rw [decide_eq_false_iff_not];omega
              have h8:decide ((s[k].toNat:Int)<=122)=false:=by rw [decide_eq_false_iff_not];omega
              clear hd;go_wp2_with fail;go_ret;exact ⟨zU HN.out,rfl⟩
        . obtain rfl:k=s.size:=by omega
          have HN:=ze (zht hp H16.out HL.out (fun j hj=>HD.out j hj hj));go_wp2_with fail;go_ret;exact ⟨zU HN.out,rfl⟩
theorem zdj (s:ByteArray) (w:World) (hs:s.size<=1073741824):Calls Tryz.prog 97 #[.string s] w (Vc w (.bool (zp (bts s)).isSome)):=by
 have h1:=fun w=>Vk s w hs
 obtain ⟨r,HR⟩:∃ r,Hid ((zp (bts s)).isSome=r):=⟨_,ze rfl⟩
 rw [HR.out]
 go_enter Tryz.func97,Tryz.ntmps97
 go_wp2_with fail
 refine (h1 _).mono ?_
 rintro e w1 ⟨v,b,rfl,⟨ng,X,n1,c8,Y,n2,c9,rfl⟩,hb,hq,hb1⟩
 have HB:=ze (hb.trans HR.out)
 have HW:=ze (ext hb1 (zf w1 (.cells #[.bool ng,.slice X n1 c8,.slice Y n2 c9] 98)))
 clear hb hq hb1 h1
 go_wp2_with fail
 go_ret
 exact ⟨zU HB.out.symm,HW.out⟩
def zss (u:Nat) (w:World) (uv ov:Value) (wr:World):Prop:=
 ∃ (r:Nat) (O:List Nat),uv= .int .u64 r/\Hid (r<=u/\val 1000000000 O+r*1000000000 ^ O.length=u)/\Hid (zD 1000000000 O)/\Hid (r=0->yJ 1000000000 O)/\Hid (wr.ownsRow w.heap.size 3 1 ov O.length (Zp O))/\Hid (Below w.heap.size w wr)
theorem zss.step {u r:Nat} {O:List Nat} (h:val 1000000000 O+r*1000000000 ^ O.length=u):val 1000000000 (O ++ [r % 1000000000])+r / 1000000000*1000000000 ^ (O ++ [r % 1000000000]).length=u:=by
 rw [Zk,List.length_append,List.length_singleton,Nat.pow_succ, <- h]
 have h1:=Nat.div_add_mod r 1000000000
 generalize 1000000000 ^ O.length=X
 have h2:r*X=(1000000000*(r / 1000000000)+r % 1000000000)*X:=by rw [h1]
 rw [h2,Nat.add_mul,Nat.mul_comm X 1000000000, <- Nat.mul_assoc,Nat.mul_comm (r / 1000000000) 1000000000,Nat.mul_comm X (r % 1000000000)]
 omega
theorem zlh {u r:Nat} {O:List Nat} (h:val 1000000000 O+r*1000000000 ^ O.length=u) (hu:u<18446744073709551616) (hr:0<r):O.length<=2:=by
 apply Classical.byContradiction
 intro hn
 have h1:1000000000 ^ 3<=1000000000 ^ O.length:=Nat.pow_le_pow_right (by omega) (by omega)
 have h2:=Nat.mul_le_mul hr h1
 omega
theorem zki (u:Nat) (w:World) (hu:u<18446744073709551616):Calls Tryz.prog 154 #[.int .u64 (u:Int)] w (zbv w u):=by
 obtain ⟨i0,hi0,hz0,hz1,hz2⟩:=info_parts zck
 have HU:=ze hu
 clear hu
 go_enter Tryz.func154,Tryz.ntmps154
 go_wp2_with fail
 go_loopw [0,3] (zss u w) (fun uv _ _=>(intOf uv).toNat)
 case atStart=>exact ⟨u,[],rfl,⟨Nat.le_refl _,by simp [val]⟩,zD.nil _,fun _=>yJ.nil _,World.ownsRow_nil _ _ _ _,xw _⟩
 case round=>
  obtain ⟨r,O,rfl,HV,HS,HC,HO,HB⟩:=hrel
  have hrb:r<18446744073709551616:=Nat.lt_of_le_of_lt HV.out.1 HU.out
  by_cases h0:0<r
  . have hol:=zlh HV.out.2 HU.out h0
    have hd1:(r % 1000000000:Nat)<1000000000:=Nat.mod_lt _ (by omega);have hrd:=xj wr 3 (.int .i64 ((r:Int) % 1000000000))
    have h1c:∀ v∈[Value.int .i64 ((r:Int) % 1000000000)],v.oneCell' =true:=by
     intro v hv;rw [List.mem_singleton] at hv;subst hv;rfl
    have hrI:(0:Int)<(r:Int):=by omega
    go_wp2_with (at_builtin;refine yj _ rfl (.tmp 6) (.tmp 10) _ rfl w.heap.size 3 i0 _ 1 8 Tryz.underlying96 hi0 hz0 hz1 hz2 rfl (by omega) _ O.length (Zp O) rfl (HO.out.alloc _) _ (some ⟨wr.heap.size,0,none⟩) 1 1 _ rfl hrd h1c ?o2 ?o3 ?o4 ?_)
    case o2=>unfold maxLen;omega
    case o3=>omega
    case o4=>have:=HB.out.size;simp;omega
    intro v3 w3 hown3 hgr3 hat3;have HO3:=ze hown3;have HB3:Hid (Below w.heap.size w w3):=ze ((HB.out.alloc HB.out.size _).grown hgr3 (by have:=HB.out.size;simp;omega) (fun k hk=>(HO.out.lt k hk).1));clear hown3 hgr3 hat3 hrd h1c;go_wp2_with fail;go_roundw
    case rel=>
     refine ⟨r / 1000000000,O ++ [r % 1000000000],by go_num,⟨Nat.le_trans (Nat.div_le_self _ _) HV.out.1,zss.step HV.out.2⟩,HS.out.append (zD.cons hd1 (zD.nil _)),fun h=>?_,?_,HB3.out⟩
     . refine yJ.mk_ (HS.out.append (zD.cons hd1 (zD.nil _))) (fun _=>?_)
       simp
       omega
     . rw [List.length_append,X5]
       exact HO3.out
    case measure=>simp [intOf];omega
  . obtain rfl:r=0:=by omega
    obtain ⟨A,c,rfl,h2,h3,h4⟩:=XD HO.out;have HR:=ze h4;have hv:=HV.out.2;rw [Nat.zero_mul,Nat.add_zero] at hv;have HVV:=ze hv;have HCC:=ze (HC.out rfl);clear h4 hv;go_wp2_with fail;go_ret;exact ⟨_,rfl,⟨A,c,O,rfl,h2,h3,HR.out,HCC.out,HVV.out⟩,HB.out⟩
theorem zil (u:Nat) (w:World) (hu:u<9223372036854775808):Calls Tryz.prog 99 #[.int .i64 (u:Int)] w (Xo w (u:Rat)):=by
 have hs:=fun w=>zki u w (by omega)
 have hX:=zf w (.cells #[.bool false,.slice none 0 0,.slice none 0 0] 98)
 have HKR:=ze (Blk.new w 98 #[.bool false,.slice none 0 0,.slice none 0 0])
 have HW:=ze hX
 clear hX
 go_enter Tryz.func99,Tryz.ntmps99
 go_wp2_with fail
 refine (hs _).mono ?_
 rintro e w1 ⟨v,rfl,hv,hb1⟩
 have hx:=zf w1 (.cells #[.int .i64 1] 3)
 have h1:=zav w1 (d:=1) (by omega) (by omega)
 have H0:=ze (zz.below hv hx)
 have H1:=ze h1
 have HK:=ze (HKR.out.below (ext hb1 hx) HKR.out.lt)
 have HWW:=ze (ext HW.out (ext hb1 hx))
 obtain ⟨A,n,c,rfl⟩:∃ A n c,v= .slice A n c:=by obtain ⟨A,c,ds,rfl,_⟩:=hv;exact ⟨_,_,_,rfl⟩
 have r0:=HK.out.cell 0
 have r1:=HK.out.cell 1
 have r2:=HK.out.cell 2
 have f0:=HK.out.frozen 0
 have f1:=HK.out.frozen 1
 have f2:=HK.out.frozen 2
 have lR:=HK.out.lt
 simp at r0 r1 r2
 clear hb1 h1 hv hx hs
 go_wp2_with fail
 have kR2:=yN (ng:=false) (A:=A) (n:=n) (c:=c) (B:=some ⟨w1.heap.size,0,none⟩) (m:=1) (d:=1) HK.out
 have hR0:=ye (ng:=false) (A:=A) (n:=n) (c:=c) (B:=some ⟨w1.heap.size,0,none⟩) (m:=1) (d:=1) H0.out HK.out
 have hR1:=ye (ng:=false) (A:=A) (n:=n) (c:=c) (B:=some ⟨w1.heap.size,0,none⟩) (m:=1) (d:=1) H1.out HK.out
 have e0:=kR2.cell 0
 have e1:=kR2.cell 1
 have e2:=kR2.cell 2
 simp only [World.ref] at e0 e1 e2
 simp at e0 e1 e2
 refine bodyPost_ret (v:=.agg #[.bool false,.slice A n c,.slice (some ⟨w1.heap.size,0,none⟩) 1 1]) (by simp [results,Tryz.results99,go_sem,e0,e1,e2]) rfl ?_
 have hn:((u:Rat)).num=(u:Int):=rfl
 exact ⟨_,rfl,⟨_,_,_,_,_,_,_,rfl,(decide_eq_false (by rw [hn];omega)).symm,by rw [hn];exact hR0,hR1⟩,y8 (w:=w) (g:=w.heap.size) HWW.out (Nat.le_refl _)⟩
theorem zns (va:Value) (q:Rat) (w:World) (ha:vV w va q) (hl:VQ 33554432 q):
 Calls Tryz.prog 47 #[va] w (zoy w (Zn q)):=by
 have ha' :=ha
 obtain ⟨ng,A,n,c,B,m,d,rfl,hh1,hh2,hh3⟩:=ha'
 clear hh1 hh2 hh3
 have hx:=zf w (.cells #[.bool ng,.slice A n c,.slice B m d] 98)
 have HA:=ze (ha.below hx)
 have HL:=ze hl
 have HK:=ze (Blk.new w 98 #[.bool ng,.slice A n c,.slice B m d])
 have HB:=ze hx
 clear ha hl hx
 have hlg:∀ W,vV W (.agg #[.bool ng,.slice A n c,.slice B m d]) q->Calls Tryz.prog 59 #[.agg #[.bool ng,.slice A n c,.slice B m d],.int .i64 50000] W (Vc W (.bool (!decide (yE 50000 q)))):=fun W hq=>zh3 _ q 50000 W hq HL.out (by omega)
 by_cases hs:yE 50000 q
 . have e0:Zn q=(zT q,0):=by unfold Zn;rw [if_pos hs]
   rw [e0];have HLG:=ze (show ∀ W,vV W (.agg #[.bool ng,.slice A n c,.slice B m d]) q->Calls Tryz.prog 59 #[.agg #[.bool ng,.slice A n c,.slice B m d],.int .i64 50000] W (Vc W (.bool false)) from fun W hq=>by have:=hlg W hq;rw [decide_eq_true hs] at this;exact this);clear e0 hs hlg
   go_enter Tryz.func47,Tryz.ntmps47
   go_wp2_with fail;refine (HLG.out _ HA.out).mono ?_;rintro e w1 ⟨rfl,hb1⟩;have HA1:=ze (HA.out.below hb1);have kB:=HK.out.below hb1 HK.out.lt;have c0:=kB.cell 0;have c1:=kB.cell 1;have c2:=kB.cell 2;simp at c0 c1 c2;replace HB:=eb_ HB hb1;clear hb1 kB HLG;go_wp2_with fail;refine (zdn _ q _ HA1.out HL.out).mono ?_;rintro e w2 ⟨rfl,hb2⟩;replace HB:=eb_ HB hb2;clear hb2;go_wp2_with fail;go_ret2;exact ⟨rfl,HB.out⟩
 . have e0:Zn q=([],3):=by unfold Zn;rw [if_neg hs]
   rw [e0];have HLG:=ze (show ∀ W,vV W (.agg #[.bool ng,.slice A n c,.slice B m d]) q->Calls Tryz.prog 59 #[.agg #[.bool ng,.slice A n c,.slice B m d],.int .i64 50000] W (Vc W (.bool true)) from fun W hq=>by have:=hlg W hq;rw [decide_eq_false hs] at this;exact this);clear e0 hs hlg
   go_enter Tryz.func47,Tryz.ntmps47
   go_wp2_with fail;refine (HLG.out _ HA.out).mono ?_;rintro e w1 ⟨rfl,hb1⟩;replace HB:=eb_ HB hb1;clear hb1 HLG;go_wp2_with fail;go_ret2;exact ⟨rfl,HB.out⟩
theorem vV.stored {W:World} {g:Nat} {v:Value} {q:Rat} {t' :TypeId} {ng n0:Bool} {A B A0 B0:Option Addr} {n c m d k0 c0 k1 c1:Nat} (h:vV W v q)
 (hk:Blk W g t' #[.bool n0,.slice A0 k0 c0,.slice B0 k1 c1]):vV (World.ref W g ng A n c B m d) v q:=by
 obtain ⟨g5,A5,n5,c5,B5,m5,d5,rfl,h0,h1,h2⟩:=h
 exact ⟨_,_,_,_,_,_,_,rfl,h0,ye h1 hk,ye h2 hk⟩
theorem Dz.nlen {e:Nat} {q:Rat} (h:Dz e q):VQ (e+1) q:=
 have h1:=Dz.short h (Nat.lt_succ_self e)
 ⟨Nat.le_trans (Zh (by omega)) h1.1,Nat.le_trans (Zh (by omega)) h1.2⟩
theorem zkr (x y:Rat):(x - y).num.sign=zgi x y:=by
 have hn:∀ q:Rat,q<0↔q.num<0:=fun q=>⟨fun h=>by by_cases h2:0<=q.num;exact absurd (Rat.num_nonneg.1 h2) (Rat.not_le.2 h);omega,fun h=>Rat.not_le.1 (fun h2=>by have:=Rat.num_nonneg.2 h2;omega)⟩
 unfold zgi
 by_cases h1:x<y
 . rw [if_pos h1];exact Int.sign_eq_neg_one_of_neg ((hn _).1 (by grind))
 . by_cases h2:y<x
   . rw [if_neg h1,if_pos h2]
     have:0<(x - y).num:=by
      have h3:¬ (x - y).num<0:=fun e=>absurd ((hn _).2 e) (by grind)
      have h4:(x - y).num≠0:=fun e=>absurd (Rat.num_eq_zero.1 e) (by grind)
      omega
     exact Int.sign_eq_one_of_pos this
   . rw [if_neg h1,if_neg h2]
     have:x - y=0:=by grind
     rw [this];rfl
end Go.Proofs.YtkmcmmcencdcpaaGreatDoor
