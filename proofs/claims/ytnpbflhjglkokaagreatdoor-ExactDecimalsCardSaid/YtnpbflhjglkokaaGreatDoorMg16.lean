/- Parts of the proof: memory, numbers, walks of the functions that are called. -/
import Derived.Deep.DrawnRows
import Derived.Test.YtnpbflhjglkokaaGreatDoorMg15
set_option linter.unusedVariables false
set_option linter.unusedSimpArgs false
set_option maxHeartbeats 32000000
namespace Go.Proofs.YtnpbflhjglkokaaGreatDoor
open Go.RowKit Go.Deep
attribute [local go_sem ↓] Go.wp_at_zero Go.wp_at_succ
def Z9 (w:World) (g:Nat):Prop:=∃ (ng:Bool) (A:Option Addr) (n c:Nat) (B:Option Addr) (m d:Nat),Blk w g 78 #[.bool ng,.slice A n c,.slice B m d]
theorem Y6 {w w' :World} {g:Nat} (hb:Below w.heap.size w w') (h:Hid (Z9 w g)):Hid (Z9 w' g):=by
 obtain ⟨ng,A,n,c,B,m,d,h⟩:=h.out
 exact ⟨ng,A,n,c,B,m,d,h.below hb h.lt⟩
theorem zal {w w' :World} {v:Value} {n:Nat} (hb:Below w.heap.size w w') (h:Hid (zw w v n)):Hid (zw w' v n):=zw.below h.out hb
section
variable {W w0:World} {g g' i n c m d k:Nat} {ng:Bool} {A B:Option Addr} {v:Value}
theorem Yp (h:Hid (Z9 W g)):Hid (Z9 (World.ref W g ng A n c B m d) g):=by
 obtain ⟨ng,A,n,c,B,m,d,h⟩:=h.out
 exact ⟨_,_,_,_,_,_,_,yS h⟩
theorem ZY (hg:w0.heap.size<=g) (h:Hid (Below w0.heap.size w0 W)):Hid (Below w0.heap.size w0 (World.ref W g ng A n c B m d)):=yq h.out hg
theorem ZW (hr:Hid (Z9 W g)) (h:Hid (zw W v k)):Hid (zw (World.ref W g ng A n c B m d) v k):=by
 obtain ⟨ng,A,n,c,B,m,d,hr⟩:=hr.out
 exact yn h.out hr
theorem xR (hne:g≠g') (h:W.cell? ⟨g,i,none⟩=some v):(World.ref W g' ng A n c B m d).cell? ⟨g,i,none⟩=some v:=by
 rw [<- h]
 simp only [World.ref]
 rw [World.cell?_setCell_other,World.cell?_setCell_other,World.cell?_setCell_other]
 all_goals (intro e;injection e with e;exact hne e.symm)
theorem Xg (h:k<W.heap.size):k<(World.ref W g' ng A n c B m d).heap.size:=by
 simp only [World.ref,World.setCell,Array.size_modify]
 exact h
end
def zg3 (v:Value):Prop:=∃ (ng:Bool) (A:Option Addr) (n c:Nat) (B:Option Addr) (m d:Nat),v= .agg #[.bool ng,.slice A n c,.slice B m d]
def yQ (w:World) (l:List UInt8) (e:Ending) (w' :World):Prop:=
 ∃ v b,e= .returned (.tuple #[v,.bool b])/\zg3 v/\b=(zq l).isSome/\(∀ q,zq l=some q->vr w' v q)/\Below w.heap.size w w'
theorem yQ.no {w w' :World} {l:List UInt8} {v:Value} (h:zq l=none) (hv:zg3 v) (hb:Below w.heap.size w w'):yQ w l (.returned (.tuple #[v,.bool false])) w' :=
 ⟨v,false,rfl,hv,by rw [h];rfl,fun q hq=>(by rw [h] at hq;cases hq),hb⟩
theorem yQ.maybe {w w' :World} {l:List UInt8} {v:Value} {q:Rat} {b:Bool} (h:zq l=if zS q=l then some q else none) (hb' :b=decide (zS q=l)) (hv:vr w' v q) (hb:Below w.heap.size w w'):
 yQ w l (.returned (.tuple #[v,.bool b])) w' :=by
 subst hb'
 by_cases he:zS q=l
 . rw [if_pos he] at h
   refine ⟨v,_,rfl,?_,by rw [h,decide_eq_true he];rfl,fun q' hq=>?_,hb⟩
   . obtain ⟨ng,A,n,c,B,m,d,rfl,_⟩:=hv;exact ⟨_,_,_,_,_,_,_,rfl⟩
   . rw [h] at hq;injection hq with hq;rw [<- hq];exact hv
 . rw [if_neg he] at h
   rw [decide_eq_false he];refine yQ.no h ?_ hb;obtain ⟨ng,A,n,c,B,m,d,rfl,_⟩:=hv;exact ⟨_,_,_,_,_,_,_,rfl⟩
theorem VR {ng:Bool} {n d M:Nat} (hd:0<d) (h1:len 1000000000 n<=M) (h2:len 1000000000 d<=M):zbh M (xj ng n d):=by
 obtain ⟨e1,e2,_⟩:=zc6 ng n d hd
 unfold zbh
 rw [e1,e2]
 exact ⟨Nat.le_trans (xp (by omega) (Nat.div_le_self _ _)) h1,Nat.le_trans (xp (by omega) (Nat.div_le_self _ _)) h2⟩
theorem zm0 {l:List UInt8} {K:Nat} (h:yI l=true) (hl:l.length<=K):len 1000000000 (zy l)<=K:=by
 unfold yI at h
 rw [Bool.and_eq_true] at h
 have h1:=Yj h.1
 refine ya (by omega) (Nat.lt_of_lt_of_le h1 ?_)
 exact Nat.le_trans (Nat.pow_le_pow_left (by decide:10<=1000000000) _) (Nat.pow_le_pow_right (by decide) hl)
theorem zfe {l:List UInt8} (h:yI l=true) (hl:l.length<=50000):len 1000000000 (zy l)<=50000:=zm0 h hl
theorem zi0 (l:List UInt8) (s:ByteArray):(l == s.toList)=decide (l=bts s):=by
 rw [Lib.toList_data]
 show (l == bts s)=_
 by_cases h:l=bts s
 . rw [decide_eq_true h];exact beq_iff_eq.2 h
 . rw [decide_eq_false h];exact beq_eq_false_iff_ne.2 h
theorem Yy {l:List UInt8} (h:yI l=true):l.all y7=true:=by
 unfold yI at h;rw [Bool.and_eq_true] at h;exact h.1
set_option maxRecDepth 100000 in
theorem VT (s:ByteArray) (w:World) (hs:s.size<=1073741824):
 Calls Tryz.prog 88 #[.string s] w (yQ w (bts s)):=by
 have HWR:=ze (zf w (.cells #[.bool false,.slice none 0 0,.slice none 0 0] 78))
 have HKR:=ze (Blk.new w 78 #[.bool false,.slice none 0 0,.slice none 0 0])
 by_cases hlong:100002<s.size
 . have HP:=ze (zg4 (l:=bts s) (by rw [zi];exact hlong))
   have hlI:decide (100002<(s.size:Int))=true:=by rw [decide_eq_true_eq];omega
   clear hlong
   go_enter Tryz.func88,Tryz.ntmps88
   go_wp2_with fail;have kR2:=yS (ng:=false) (A:=none) (n:=0) (c:=0) (B:=none) (m:=0) (d:=0) HKR.out;have e0:=kR2.cell 0;have e1:=kR2.cell 1;have e2:=kR2.cell 2;simp only [World.ref] at e0 e1 e2;simp at e0 e1 e2;refine bodyPost_ret (v:=.tuple #[.agg #[.bool false,.slice none 0 0,.slice none 0 0],.bool false]) (by simp [results,Tryz.results88,go_sem,e0,e1,e2]) rfl ?_
   first
   | exact yQ.no HP.out ⟨_,_,_,_,_,_,_,rfl⟩ HWR.out
   | exact yQ.no HP.out ⟨_,_,_,_,_,_,_,rfl⟩ (yq (g:=w.heap.size) (ng:=false) (A:=none) (n:=0) (c:=0) (B:=none) (m:=0) (d:=0) HWR.out (Nat.le_refl _))
 . have HLS:=ze (show s.size<=100002 by omega)
   have hlI:decide (100002<(s.size:Int))=false:=by rw [decide_eq_false_iff_not];omega
   clear hlong
   obtain ⟨ng,t,HN,HT,HTS,hcase⟩:∃ (ng:Bool) (t:ByteArray),Hid (ng=yo (bts s))/\Hid (bts t=zm (bts s))/\Hid (t.size<=1073741824)/\
    ((s.toList.isEmpty=true/\ng=false/\s=t)\/(∃ h:0<s.size,((s[0].toNat:Int) == 45)=false/\ng=false/\s=t/\s.toList.isEmpty=false)\/(∃ h:0<s.size,((s[0].toNat:Int) == 45)=true/\ng=true/\t=s.extract 1 s.size/\s.toList.isEmpty=false)):=by
    by_cases h0:0<s.size
    . have hne:s.toList.isEmpty=false:=by
       rw [Bool.eq_false_iff];intro e;have e:=List.isEmpty_iff.1 e;have:=congrArg List.length e;rw [Lib.toList_data] at this;simp at this;rw [this] at h0;exact absurd h0 (by decide)
      have hh:(bts s).head?=some s[0]:=by
       have:=vq s 0 h0;rw [List.head?_eq_getElem?,List.getElem?_eq_getElem (by rw [zi];exact h0),this]
      by_cases h1:s[0]=45
      . have hsg:yo (bts s)=true:=by unfold yo;rw [hh,h1];rfl
        refine ⟨true,s.extract 1 s.size,hsg.symm,?_,?_,.inr (.inr ⟨h0,by rw [h1];rfl,rfl,rfl,hne⟩)⟩
        . show _=_
          rw [yh,List.take_of_length_le (by rw [zi];exact Nat.le_refl _)];have:=Yq hsg
          conv=>lhs;rw [this]
          rfl
        . show _<=_
          rw [ByteArray.size_extract];omega
      . have hsg:yo (bts s)=false:=by
         unfold yo;rw [hh];rw [beq_eq_false_iff_ne];intro e;injection e with e;exact h1 e
        refine ⟨false,s,hsg.symm,(Zz hsg).symm,hs,.inr (.inl ⟨h0,?_,rfl,rfl,hne⟩)⟩;rw [beq_eq_false_iff_ne];intro e;exact h1 (UInt8.toNat_inj.1 (by have:(45:UInt8).toNat=45:=rfl;omega))
    . have he:bts s=[]:=by
       apply List.eq_nil_of_length_eq_zero;rw [zi];omega
      refine ⟨false,s,by rw [he];exact rfl,by rw [he];exact rfl,hs,.inl ⟨?_,rfl,rfl⟩⟩;rw [Lib.toList_data];unfold bts at he;rw [show s.data.toList=[] from he];rfl
   have hcut:∀ W,Calls Tryz.prog 114 #[.string t,.int .u8 47] W (fun e w' =>∃ a b n,e= .returned (.tuple #[.string a,.string b,.bool (has 47 (zm (bts s)))])/\bts a=ahead 47 (zm (bts s))/\bts b=(if has 47 (zm (bts s))=true then zW 47 (zm (bts s)) else [])/\w' =W.drewN n):=by
    intro W;refine (zl2 t 47 W HTS.out).mono ?_;rintro e w' ⟨a,b,h1,h2,h3,n,h4⟩;rw [HT.out] at h1 h2 h3;exact ⟨a,b,n,h1,h2,h3,h4⟩
   rcases hcase with ⟨z1,rfl,rfl⟩ | ⟨h0,z1,rfl,rfl,z2⟩ | ⟨h0,z1,rfl,rfl,z2⟩
   all_goals
    go_enter Tryz.func88,Tryz.ntmps88
    go_wp2_with fail;refine (hcut _).mono ?_;rintro e w1 ⟨a,b,n,rfl,ha,hb,rfl⟩;have HA:=ze ha
    have hal:(ahead 47 (zm (bts s))).length<=s.size:=by
     have h1:(ahead 47 (zm (bts s))).length<=(zm (bts s)).length:=(List.takeWhile_sublist _).length_le;have h2:(zm (bts s)).length<=(bts s).length:=by unfold zm;split<;>simp
     rw [zi] at h2
     omega
    have hbl:(zW 47 (zm (bts s))).length<=s.size:=by
     have h1:(zW 47 (zm (bts s))).length<=(zm (bts s)).length:=by
      unfold zW;have:=(List.dropWhile_sublist (fun x=>x != (47:UInt8)) (l:=zm (bts s))).length_le;rw [List.length_tail];omega
     have h2:(zm (bts s)).length<=(bts s).length:=by unfold zm;split<;>simp
     rw [zi] at h2
     omega
    have HAS:=ze (show a.size<=1073741824 by rw [<- zi,ha];omega);have HKR2:=ze (HKR.out.below (zH _ n) HKR.out.lt);have HWR2:=ze (zp HWR.out n);clear HKR HWR;have HKR:=HKR2;have HWR:=HWR2;clear HKR2 HWR2;generalize World.drewN _ n=W at HKR HWR |-;have r0:=HKR.out.cell 0;have r1:=HKR.out.cell 1;have r2:=HKR.out.cell 2;have f0:=HKR.out.frozen 0;have f1:=HKR.out.frozen 1;have f2:=HKR.out.frozen 2;have lR:=HKR.out.lt;simp at r0 r1 r2
    cases hh:has 47 (zm (bts s)) with
    | false=>
      have HT1:=ze (show yZ (bts s)=[49] by unfold yZ;rw [hh];rfl);clear hh hb ha hal hbl hcut z1;go_wp2_with fail;generalize hT9:(⟨#[49]⟩:ByteArray)=t;have HT:Hid (bts t=yZ (bts s)):=ze (by rw [HT1.out, <- hT9];rfl);have HTS:Hid (t.size<=1073741824):=ze (by rw [<- hT9];decide);clear hT9
      rcases Bool.eq_false_or_eq_true (yI (bts a)) with d1 | d1
      rotate_left
      . have HP:=ze (Z7 (.inl (by rw [<- HA.out];exact d1)))
        have HD1:=ze d1;clear d1;refine (Zg a _ HAS.out).mono ?_;rintro e w1 ⟨rfl,rfl⟩;rw [HD1.out];go_wp2_with fail;have kR2:=yS (ng:=false) (A:=none) (n:=0) (c:=0) (B:=none) (m:=0) (d:=0) HKR.out;have e0:=kR2.cell 0;have e1:=kR2.cell 1;have e2:=kR2.cell 2;simp only [World.ref] at e0 e1 e2;simp at e0 e1 e2;refine bodyPost_ret (v:=.tuple #[.agg #[.bool false,.slice none 0 0,.slice none 0 0],.bool false]) (by simp [results,Tryz.results88,go_sem,e0,e1,e2]) rfl ?_
        first
        | exact yQ.no HP.out ⟨_,_,_,_,_,_,_,rfl⟩ HWR.out
        | exact yQ.no HP.out ⟨_,_,_,_,_,_,_,rfl⟩ (yq (g:=w.heap.size) (ng:=false) (A:=none) (n:=0) (c:=0) (B:=none) (m:=0) (d:=0) HWR.out (Nat.le_refl _))
      . have HD1:=ze d1
        clear d1;refine (Zg a _ HAS.out).mono ?_;rintro e w1 ⟨rfl,rfl⟩;rw [HD1.out];go_wp2_with fail;refine (Zg t _ HTS.out).mono ?_;rintro e w1 ⟨rfl,rfl⟩
        rcases Bool.eq_false_or_eq_true (yI (bts t)) with d2 | d2
        rotate_left
        . have HP:=ze (Z7 (.inr (.inl (by rw [<- HT.out];exact d2))))
          rw [d2];clear d2;go_wp2_with fail;have kR2:=yS (ng:=false) (A:=none) (n:=0) (c:=0) (B:=none) (m:=0) (d:=0) HKR.out;have e0:=kR2.cell 0;have e1:=kR2.cell 1;have e2:=kR2.cell 2;simp only [World.ref] at e0 e1 e2;simp at e0 e1 e2;refine bodyPost_ret (v:=.tuple #[.agg #[.bool false,.slice none 0 0,.slice none 0 0],.bool false]) (by simp [results,Tryz.results88,go_sem,e0,e1,e2]) rfl ?_
          first
          | exact yQ.no HP.out ⟨_,_,_,_,_,_,_,rfl⟩ HWR.out
          | exact yQ.no HP.out ⟨_,_,_,_,_,_,_,rfl⟩ (yq (g:=w.heap.size) (ng:=false) (A:=none) (n:=0) (c:=0) (B:=none) (m:=0) (d:=0) HWR.out (Nat.le_refl _))
        . have HD2:=ze d2
          rw [d2];clear d2
          by_cases l1:50000<a.size
          . have HP:=ze (Z7 (.inr (.inr (.inl (by rw [<- HA.out,zi];exact l1)))))
            go_wp2_with fail;have kR2:=yS (ng:=false) (A:=none) (n:=0) (c:=0) (B:=none) (m:=0) (d:=0) HKR.out;have e0:=kR2.cell 0;have e1:=kR2.cell 1;have e2:=kR2.cell 2;simp only [World.ref] at e0 e1 e2;simp at e0 e1 e2;refine bodyPost_ret (v:=.tuple #[.agg #[.bool false,.slice none 0 0,.slice none 0 0],.bool false]) (by simp [results,Tryz.results88,go_sem,e0,e1,e2]) rfl ?_
            first
            | exact yQ.no HP.out ⟨_,_,_,_,_,_,_,rfl⟩ HWR.out
            | exact yQ.no HP.out ⟨_,_,_,_,_,_,_,rfl⟩ (yq (g:=w.heap.size) (ng:=false) (A:=none) (n:=0) (c:=0) (B:=none) (m:=0) (d:=0) HWR.out (Nat.le_refl _))
          . by_cases l2:50000<t.size
            . have HP:=ze (Z7 (.inr (.inr (.inr (.inl (by rw [<- HT.out,zi];exact l2))))))
              go_wp2_with fail;have kR2:=yS (ng:=false) (A:=none) (n:=0) (c:=0) (B:=none) (m:=0) (d:=0) HKR.out;have e0:=kR2.cell 0;have e1:=kR2.cell 1;have e2:=kR2.cell 2;simp only [World.ref] at e0 e1 e2;simp at e0 e1 e2;refine bodyPost_ret (v:=.tuple #[.agg #[.bool false,.slice none 0 0,.slice none 0 0],.bool false]) (by simp [results,Tryz.results88,go_sem,e0,e1,e2]) rfl ?_
              first
              | exact yQ.no HP.out ⟨_,_,_,_,_,_,_,rfl⟩ HWR.out
              | exact yQ.no HP.out ⟨_,_,_,_,_,_,_,rfl⟩ (yq (g:=w.heap.size) (ng:=false) (A:=none) (n:=0) (c:=0) (B:=none) (m:=0) (d:=0) HWR.out (Nat.le_refl _))
            . have HL1:=ze (show (bts a).length<=50000 by rw [zi];omega)
              have HL2:=ze (show (bts t).length<=50000 by rw [zi];omega);have HIF:=ze (zi5 (l:=bts s) (by rw [<- HA.out];exact HD1.out) (by rw [<- HT.out];exact HD2.out) (by rw [<- HA.out];exact HL1.out) (by rw [<- HT.out];exact HL2.out));go_wp2_with fail;refine (Va t _ (Yy HD2.out) (by have:=HL2.out;rw [zi] at this;omega)).mono ?_;rintro e w2 ⟨v,rfl,hv,hb2⟩;have hlv:=zfe HD2.out HL2.out;have hln:=zfe HD1.out HL1.out;rw [HT.out] at hv hlv;rw [HA.out] at hln;obtain ⟨dv,hdv⟩:∃ dv,zy (yZ (bts s))=dv:=⟨_,rfl⟩;obtain ⟨nv,hnv⟩:∃ nv,zy (ahead 47 (zm (bts s)))=nv:=⟨_,rfl⟩;rw [hdv] at hv hlv HIF;rw [hnv] at hln HIF;have HDV:=ze hdv;have HNV:=ze hnv;obtain ⟨A,c,rfl⟩:=hv.form;have HV:=ze hv;have HLV:=ze hlv;have HLN:=ze hln;have HWR2:=ze (ext HWR.out hb2);have HKR2:=ze (HKR.out.below hb2 HKR.out.lt);clear r0 r1 r2 f0 f1 f2 lR HKR HWR;have HKR:=HKR2;have HWR:=HWR2;clear HKR2 HWR2;have r0:=HKR.out.cell 0;have r1:=HKR.out.cell 1;have r2:=HKR.out.cell 2;have f0:=HKR.out.frozen 0;have f1:=HKR.out.frozen 1;have f2:=HKR.out.frozen 2;have lR:=HKR.out.lt;simp at r0 r1 r2
              clear hv hlv hln hb2 l1 l2 hdv hnv
              by_cases hz:dv=0
              . subst hz
                have HP:=ze (Z7 (.inr (.inr (.inr (.inr HDV.out)))));have hz0:((len 1000000000 0:Int) == 0)=true:=by rw [Xh];rfl
                go_wp2_with fail;have kR2:=yS (ng:=false) (A:=none) (n:=0) (c:=0) (B:=none) (m:=0) (d:=0) HKR.out;have e0:=kR2.cell 0;have e1:=kR2.cell 1;have e2:=kR2.cell 2;simp only [World.ref] at e0 e1 e2;simp at e0 e1 e2;refine bodyPost_ret (v:=.tuple #[.agg #[.bool false,.slice none 0 0,.slice none 0 0],.bool false]) (by simp [results,Tryz.results88,go_sem,e0,e1,e2]) rfl ?_
                first
                | exact yQ.no HP.out ⟨_,_,_,_,_,_,_,rfl⟩ HWR.out
                | exact yQ.no HP.out ⟨_,_,_,_,_,_,_,rfl⟩ (yq (g:=w.heap.size) (ng:=false) (A:=none) (n:=0) (c:=0) (B:=none) (m:=0) (d:=0) HWR.out (Nat.le_refl _))
              . have hz0:((len 1000000000 dv:Int) == 0)=false:=by rw [beq_eq_false_iff_ne];have:=YI (β:=1000000000) (n:=dv) (by omega) (by omega);omega
                have HZ:=ze (show 0<dv by omega);clear hz;go_wp2_with fail;refine (Va a _ (Yy HD1.out) (by have:=HL1.out;rw [zi] at this;omega)).mono ?_;rintro e w3 ⟨v3,rfl,hv3,hb3⟩;rw [HA.out,HNV.out] at hv3;have HV3:=ze hv3;have HVa:=ze (zw.below HV.out hb3);have HWR3:=ze (ext HWR.out hb3);have HKR3:=ze (HKR.out.below hb3 HKR.out.lt);clear hv3 hb3 r0 r1 r2 f0 f1 f2 lR HKR HWR;go_wp2_with fail;refine (Xq _ _ _ nv dv _ HV3.out HVa.out HZ.out (Nat.le_trans HLN.out (by decide)) (Nat.le_trans HLV.out (by decide))).mono ?_;rintro e w4 ⟨v4,rfl,hv4,hb4⟩;rw [HN.out] at hv4;obtain ⟨q,hq⟩:∃ q,q=xj (yo (bts s)) nv dv:=⟨_,rfl⟩;have HQL:=ze (show zbh 33554432 q by rw [hq];exact VR HZ.out (Nat.le_trans HLN.out (by decide)) (Nat.le_trans HLV.out (by decide)));rw [<- hq] at hv4 HIF;obtain ⟨nq,A5,c5,B5,d5,rfl,hng,ha1,ha2⟩:=hv4.form;have HNG:=ze hng;have hb5:=zf w4 (.cells #[.bool nq,.slice A5 (len 1000000000 q.num.natAbs) c5,.slice B5 (len 1000000000 q.den) d5] 78);have HKR5:=ze (show Z9 _ w.heap.size from ⟨_,_,_,_,_,_,_,HKR3.out.below (ext hb4 hb5) HKR3.out.lt⟩)
                have HWR5:=ze (ext HWR3.out (ext hb4 hb5));have HS1:=ze (zw.below ha1 hb5);have HS2:=ze (zw.below ha2 hb5);have HKQ:=ze (Blk.new w4 78 #[.bool nq,.slice A5 (len 1000000000 q.num.natAbs) c5,.slice B5 (len 1000000000 q.den) d5]);have lgq:w.heap.size<w4.heap.size:=(HKR3.out.below hb4 HKR3.out.lt).lt;obtain ⟨n5,hn5⟩:∃ n5,len 1000000000 q.num.natAbs=n5:=⟨_,rfl⟩;obtain ⟨m5,hm5⟩:∃ m5,len 1000000000 q.den=m5:=⟨_,rfl⟩;rw [hn5,hm5] at HKR5 HWR5 HKQ |-;rw [hn5,hm5] at HS1 HS2;clear hq hv4 hng hb4 hb5 ha1 ha2 hn5 hm5 HKR3 HWR3 HV3 HVa HV;go_wp2_with fail;generalize hgq:w4.heap.size=gq at HKQ lgq |-;generalize w4.alloc (.cells #[.bool nq,.slice A5 n5 c5,.slice B5 m5 d5] 78)=W7 at HS1 HS2 HKR5 HWR5 HKQ |-;clear hgq;have hlq:=HKQ.out.lt;have q0:=HKQ.out.cell 0;have q1:=HKQ.out.cell 1;have q2:=HKQ.out.cell 2;simp at q0 q1 q2;have HRES:=ze (show Z9 W7.drew w.heap.size from HKR5.out);have HWX:=ze (show Below w.heap.size w W7.drew from zp HWR5.out 1);have HY1:=ze (show zw W7.drew _ q.num.natAbs from zw.below HS1.out (zH W7 1))
                have HY2:=ze (show zw W7.drew _ q.den from zw.below HS2.out (zH W7 1));clear HS1 HS2
                go_region_held3 (fun w' =>w'.cell? ⟨gq,0,none⟩=some (.bool nq)/\w'.cell? ⟨gq,1,none⟩=some (.slice A5 n5 c5)/\w'.cell? ⟨gq,2,none⟩=some (.slice B5 m5 d5)/\gq<w'.heap.size/\Hid (Z9 w' w.heap.size)/\Hid (Below w.heap.size w w')/\Hid (zw w' (.slice A5 n5 c5) q.num.natAbs)/\Hid (zw w' (.slice B5 m5 d5) q.den))
                 (first
                   | with_reducible exact ⟨by go_keep,by go_keep,by go_keep,by first | (simp;done) | (simp;assumption),HRES,HWX,HY1,HY2⟩
                   | (go_split_ands;with_reducible exact ⟨xR (by omega) ‹_›,xR (by omega) ‹_›,xR (by omega) ‹_›,Xg ‹_›,Yp ‹_›,ZY (by omega) ‹_›,ZW ‹_› ‹_›,ZW ‹_› ‹_›⟩)
                   | (go_split_ands;with_reducible exact ⟨zk ‹_› ‹_› ‹_›,zk ‹_› ‹_› ‹_›,zk ‹_› ‹_› ‹_›,zR ‹_› ‹_›,Y6 ‹_› ‹_›,zl ‹_› ‹_›,zal ‹_› ‹_›,zal ‹_› ‹_›⟩)
                   | go_keep)
                 (first
                   | (go_at_call 48;refine (zeu _ q _ ⟨_,_,_,_,_,_,_,rfl,HNG.out,zO (by go_split_ands;assumption),zO (by go_split_ands;assumption)⟩ HQL.out).mono ?_;rintro e wo ⟨rfl,hbo⟩;obtain ⟨ngr,Ar,kr,cr,Br,krx,crx,kR⟩:=(Y6 (g:=w.heap.size) hbo (by go_split_ands;assumption)).out;have r0:=kR.cell 0;have r1:=kR.cell 1;have r2:=kR.cell 2;have f0:=kR.frozen 0;have f1:=kR.frozen 1;have f2:=kR.frozen 2;simp at r0 r1 r2;have HKR:=ze kR;clear kR))
                all_goals
                 go_split_ands;have kR2:=yS (ng:=nq) (A:=A5) (n:=n5) (c:=c5) (B:=B5) (m:=m5) (d:=d5) HKR.out;have hR1:=zO (by assumption:Hid (zw (World.ref wo w.heap.size nq A5 n5 c5 B5 m5 d5) (.slice A5 n5 c5) q.num.natAbs));have hR2:=zO (by assumption:Hid (zw (World.ref wo w.heap.size nq A5 n5 c5 B5 m5 d5) (.slice B5 m5 d5) q.den));have hRW:=zO (by assumption:Hid (Below w.heap.size w (World.ref wo w.heap.size nq A5 n5 c5 B5 m5 d5)));have e0:=kR2.cell 0;have e1:=kR2.cell 1;have e2:=kR2.cell 2;simp only [World.ref] at e0 e1 e2;simp at e0 e1 e2;go_wp2;refine bodyPost_ret (v:=.tuple #[.agg #[.bool nq,.slice A5 n5 c5,.slice B5 m5 d5],.bool (zS q == s.toList)]) (by simp [results,Tryz.results88,go_sem,e0,e1,e2]) rfl ?_;exact yQ.maybe HIF.out (zi0 _ _) ⟨_,_,_,_,_,_,_,rfl,HNG.out,hR1,hR2⟩ hRW
    | true=>
      have HT:=ze (show bts b=yZ (bts s) by rw [hb,if_pos hh];unfold yZ;rw [hh];rfl);have HTS:=ze (show b.size<=1073741824 by rw [<- zi,hb,if_pos hh];omega);clear hh hb ha hal hbl hcut z1;obtain ⟨t,ht⟩:∃ t,t=b:=⟨b,rfl⟩;subst ht;go_wp2_with fail
      rcases Bool.eq_false_or_eq_true (yI (bts a)) with d1 | d1
      rotate_left
      . have HP:=ze (Z7 (.inl (by rw [<- HA.out];exact d1)))
        have HD1:=ze d1;clear d1;refine (Zg a _ HAS.out).mono ?_;rintro e w1 ⟨rfl,rfl⟩;rw [HD1.out];go_wp2_with fail;have kR2:=yS (ng:=false) (A:=none) (n:=0) (c:=0) (B:=none) (m:=0) (d:=0) HKR.out;have e0:=kR2.cell 0;have e1:=kR2.cell 1;have e2:=kR2.cell 2;simp only [World.ref] at e0 e1 e2;simp at e0 e1 e2;refine bodyPost_ret (v:=.tuple #[.agg #[.bool false,.slice none 0 0,.slice none 0 0],.bool false]) (by simp [results,Tryz.results88,go_sem,e0,e1,e2]) rfl ?_
        first
        | exact yQ.no HP.out ⟨_,_,_,_,_,_,_,rfl⟩ HWR.out
        | exact yQ.no HP.out ⟨_,_,_,_,_,_,_,rfl⟩ (yq (g:=w.heap.size) (ng:=false) (A:=none) (n:=0) (c:=0) (B:=none) (m:=0) (d:=0) HWR.out (Nat.le_refl _))
      . have HD1:=ze d1
        clear d1;refine (Zg a _ HAS.out).mono ?_;rintro e w1 ⟨rfl,rfl⟩;rw [HD1.out];go_wp2_with fail;refine (Zg t _ HTS.out).mono ?_;rintro e w1 ⟨rfl,rfl⟩
        rcases Bool.eq_false_or_eq_true (yI (bts t)) with d2 | d2
        rotate_left
        . have HP:=ze (Z7 (.inr (.inl (by rw [<- HT.out];exact d2))))
          rw [d2];clear d2;go_wp2_with fail;have kR2:=yS (ng:=false) (A:=none) (n:=0) (c:=0) (B:=none) (m:=0) (d:=0) HKR.out;have e0:=kR2.cell 0;have e1:=kR2.cell 1;have e2:=kR2.cell 2;simp only [World.ref] at e0 e1 e2;simp at e0 e1 e2;refine bodyPost_ret (v:=.tuple #[.agg #[.bool false,.slice none 0 0,.slice none 0 0],.bool false]) (by simp [results,Tryz.results88,go_sem,e0,e1,e2]) rfl ?_
          first
          | exact yQ.no HP.out ⟨_,_,_,_,_,_,_,rfl⟩ HWR.out
          | exact yQ.no HP.out ⟨_,_,_,_,_,_,_,rfl⟩ (yq (g:=w.heap.size) (ng:=false) (A:=none) (n:=0) (c:=0) (B:=none) (m:=0) (d:=0) HWR.out (Nat.le_refl _))
        . have HD2:=ze d2
          rw [d2];clear d2
          by_cases l1:50000<a.size
          . have HP:=ze (Z7 (.inr (.inr (.inl (by rw [<- HA.out,zi];exact l1)))))
            go_wp2_with fail;have kR2:=yS (ng:=false) (A:=none) (n:=0) (c:=0) (B:=none) (m:=0) (d:=0) HKR.out;have e0:=kR2.cell 0;have e1:=kR2.cell 1;have e2:=kR2.cell 2;simp only [World.ref] at e0 e1 e2;simp at e0 e1 e2;refine bodyPost_ret (v:=.tuple #[.agg #[.bool false,.slice none 0 0,.slice none 0 0],.bool false]) (by simp [results,Tryz.results88,go_sem,e0,e1,e2]) rfl ?_
            first
            | exact yQ.no HP.out ⟨_,_,_,_,_,_,_,rfl⟩ HWR.out
            | exact yQ.no HP.out ⟨_,_,_,_,_,_,_,rfl⟩ (yq (g:=w.heap.size) (ng:=false) (A:=none) (n:=0) (c:=0) (B:=none) (m:=0) (d:=0) HWR.out (Nat.le_refl _))
          . by_cases l2:50000<t.size
            . have HP:=ze (Z7 (.inr (.inr (.inr (.inl (by rw [<- HT.out,zi];exact l2))))))
              go_wp2_with fail;have kR2:=yS (ng:=false) (A:=none) (n:=0) (c:=0) (B:=none) (m:=0) (d:=0) HKR.out;have e0:=kR2.cell 0;have e1:=kR2.cell 1;have e2:=kR2.cell 2;simp only [World.ref] at e0 e1 e2;simp at e0 e1 e2;refine bodyPost_ret (v:=.tuple #[.agg #[.bool false,.slice none 0 0,.slice none 0 0],.bool false]) (by simp [results,Tryz.results88,go_sem,e0,e1,e2]) rfl ?_
              first
              | exact yQ.no HP.out ⟨_,_,_,_,_,_,_,rfl⟩ HWR.out
              | exact yQ.no HP.out ⟨_,_,_,_,_,_,_,rfl⟩ (yq (g:=w.heap.size) (ng:=false) (A:=none) (n:=0) (c:=0) (B:=none) (m:=0) (d:=0) HWR.out (Nat.le_refl _))
            . have HL1:=ze (show (bts a).length<=50000 by rw [zi];omega)
              have HL2:=ze (show (bts t).length<=50000 by rw [zi];omega);have HIF:=ze (zi5 (l:=bts s) (by rw [<- HA.out];exact HD1.out) (by rw [<- HT.out];exact HD2.out) (by rw [<- HA.out];exact HL1.out) (by rw [<- HT.out];exact HL2.out));go_wp2_with fail;refine (Va t _ (Yy HD2.out) (by have:=HL2.out;rw [zi] at this;omega)).mono ?_;rintro e w2 ⟨v,rfl,hv,hb2⟩;have hlv:=zfe HD2.out HL2.out;have hln:=zfe HD1.out HL1.out;rw [HT.out] at hv hlv;rw [HA.out] at hln;obtain ⟨dv,hdv⟩:∃ dv,zy (yZ (bts s))=dv:=⟨_,rfl⟩;obtain ⟨nv,hnv⟩:∃ nv,zy (ahead 47 (zm (bts s)))=nv:=⟨_,rfl⟩;rw [hdv] at hv hlv HIF;rw [hnv] at hln HIF;have HDV:=ze hdv;have HNV:=ze hnv;obtain ⟨A,c,rfl⟩:=hv.form;have HV:=ze hv;have HLV:=ze hlv;have HLN:=ze hln;have HWR2:=ze (ext HWR.out hb2);have HKR2:=ze (HKR.out.below hb2 HKR.out.lt);clear r0 r1 r2 f0 f1 f2 lR HKR HWR;have HKR:=HKR2;have HWR:=HWR2;clear HKR2 HWR2;have r0:=HKR.out.cell 0;have r1:=HKR.out.cell 1;have r2:=HKR.out.cell 2;have f0:=HKR.out.frozen 0;have f1:=HKR.out.frozen 1;have f2:=HKR.out.frozen 2;have lR:=HKR.out.lt;simp at r0 r1 r2
              clear hv hlv hln hb2 l1 l2 hdv hnv
              by_cases hz:dv=0
              . subst hz
                have HP:=ze (Z7 (.inr (.inr (.inr (.inr HDV.out)))));have hz0:((len 1000000000 0:Int) == 0)=true:=by rw [Xh];rfl
                go_wp2_with fail;have kR2:=yS (ng:=false) (A:=none) (n:=0) (c:=0) (B:=none) (m:=0) (d:=0) HKR.out;have e0:=kR2.cell 0;have e1:=kR2.cell 1;have e2:=kR2.cell 2;simp only [World.ref] at e0 e1 e2;simp at e0 e1 e2;refine bodyPost_ret (v:=.tuple #[.agg #[.bool false,.slice none 0 0,.slice none 0 0],.bool false]) (by simp [results,Tryz.results88,go_sem,e0,e1,e2]) rfl ?_
                first
                | exact yQ.no HP.out ⟨_,_,_,_,_,_,_,rfl⟩ HWR.out
                | exact yQ.no HP.out ⟨_,_,_,_,_,_,_,rfl⟩ (yq (g:=w.heap.size) (ng:=false) (A:=none) (n:=0) (c:=0) (B:=none) (m:=0) (d:=0) HWR.out (Nat.le_refl _))
              . have hz0:((len 1000000000 dv:Int) == 0)=false:=by rw [beq_eq_false_iff_ne];have:=YI (β:=1000000000) (n:=dv) (by omega) (by omega);omega
                have HZ:=ze (show 0<dv by omega);clear hz;go_wp2_with fail;refine (Va a _ (Yy HD1.out) (by have:=HL1.out;rw [zi] at this;omega)).mono ?_;rintro e w3 ⟨v3,rfl,hv3,hb3⟩;rw [HA.out,HNV.out] at hv3;have HV3:=ze hv3;have HVa:=ze (zw.below HV.out hb3);have HWR3:=ze (ext HWR.out hb3);have HKR3:=ze (HKR.out.below hb3 HKR.out.lt);clear hv3 hb3 r0 r1 r2 f0 f1 f2 lR HKR HWR;go_wp2_with fail;refine (Xq _ _ _ nv dv _ HV3.out HVa.out HZ.out (Nat.le_trans HLN.out (by decide)) (Nat.le_trans HLV.out (by decide))).mono ?_;rintro e w4 ⟨v4,rfl,hv4,hb4⟩;rw [HN.out] at hv4;obtain ⟨q,hq⟩:∃ q,q=xj (yo (bts s)) nv dv:=⟨_,rfl⟩;have HQL:=ze (show zbh 33554432 q by rw [hq];exact VR HZ.out (Nat.le_trans HLN.out (by decide)) (Nat.le_trans HLV.out (by decide)));rw [<- hq] at hv4 HIF;obtain ⟨nq,A5,c5,B5,d5,rfl,hng,ha1,ha2⟩:=hv4.form;have HNG:=ze hng;have hb5:=zf w4 (.cells #[.bool nq,.slice A5 (len 1000000000 q.num.natAbs) c5,.slice B5 (len 1000000000 q.den) d5] 78);have HKR5:=ze (show Z9 _ w.heap.size from ⟨_,_,_,_,_,_,_,HKR3.out.below (ext hb4 hb5) HKR3.out.lt⟩)
                have HWR5:=ze (ext HWR3.out (ext hb4 hb5));have HS1:=ze (zw.below ha1 hb5);have HS2:=ze (zw.below ha2 hb5);have HKQ:=ze (Blk.new w4 78 #[.bool nq,.slice A5 (len 1000000000 q.num.natAbs) c5,.slice B5 (len 1000000000 q.den) d5]);have lgq:w.heap.size<w4.heap.size:=(HKR3.out.below hb4 HKR3.out.lt).lt;obtain ⟨n5,hn5⟩:∃ n5,len 1000000000 q.num.natAbs=n5:=⟨_,rfl⟩;obtain ⟨m5,hm5⟩:∃ m5,len 1000000000 q.den=m5:=⟨_,rfl⟩;rw [hn5,hm5] at HKR5 HWR5 HKQ |-;rw [hn5,hm5] at HS1 HS2;clear hq hv4 hng hb4 hb5 ha1 ha2 hn5 hm5 HKR3 HWR3 HV3 HVa HV;go_wp2_with fail;generalize hgq:w4.heap.size=gq at HKQ lgq |-;generalize w4.alloc (.cells #[.bool nq,.slice A5 n5 c5,.slice B5 m5 d5] 78)=W7 at HS1 HS2 HKR5 HWR5 HKQ |-;clear hgq;have hlq:=HKQ.out.lt;have q0:=HKQ.out.cell 0;have q1:=HKQ.out.cell 1;have q2:=HKQ.out.cell 2;simp at q0 q1 q2;have HRES:=ze (show Z9 W7.drew w.heap.size from HKR5.out);have HWX:=ze (show Below w.heap.size w W7.drew from zp HWR5.out 1);have HY1:=ze (show zw W7.drew _ q.num.natAbs from zw.below HS1.out (zH W7 1))
                have HY2:=ze (show zw W7.drew _ q.den from zw.below HS2.out (zH W7 1));clear HS1 HS2
                go_region_held3 (fun w' =>w'.cell? ⟨gq,0,none⟩=some (.bool nq)/\w'.cell? ⟨gq,1,none⟩=some (.slice A5 n5 c5)/\w'.cell? ⟨gq,2,none⟩=some (.slice B5 m5 d5)/\gq<w'.heap.size/\Hid (Z9 w' w.heap.size)/\Hid (Below w.heap.size w w')/\Hid (zw w' (.slice A5 n5 c5) q.num.natAbs)/\Hid (zw w' (.slice B5 m5 d5) q.den))
                 (first
                   | with_reducible exact ⟨by go_keep,by go_keep,by go_keep,by first | (simp;done) | (simp;assumption),HRES,HWX,HY1,HY2⟩
                   | (go_split_ands;with_reducible exact ⟨xR (by omega) ‹_›,xR (by omega) ‹_›,xR (by omega) ‹_›,Xg ‹_›,Yp ‹_›,ZY (by omega) ‹_›,ZW ‹_› ‹_›,ZW ‹_› ‹_›⟩)
                   | (go_split_ands;with_reducible exact ⟨zk ‹_› ‹_› ‹_›,zk ‹_› ‹_› ‹_›,zk ‹_› ‹_› ‹_›,zR ‹_› ‹_›,Y6 ‹_› ‹_›,zl ‹_› ‹_›,zal ‹_› ‹_›,zal ‹_› ‹_›⟩)
                   | go_keep)
                 (first
                   | (go_at_call 48;refine (zeu _ q _ ⟨_,_,_,_,_,_,_,rfl,HNG.out,zO (by go_split_ands;assumption),zO (by go_split_ands;assumption)⟩ HQL.out).mono ?_;rintro e wo ⟨rfl,hbo⟩;obtain ⟨ngr,Ar,kr,cr,Br,krx,crx,kR⟩:=(Y6 (g:=w.heap.size) hbo (by go_split_ands;assumption)).out;have r0:=kR.cell 0;have r1:=kR.cell 1;have r2:=kR.cell 2;have f0:=kR.frozen 0;have f1:=kR.frozen 1;have f2:=kR.frozen 2;simp at r0 r1 r2;have HKR:=ze kR;clear kR))
                all_goals
                 go_split_ands;have kR2:=yS (ng:=nq) (A:=A5) (n:=n5) (c:=c5) (B:=B5) (m:=m5) (d:=d5) HKR.out;have hR1:=zO (by assumption:Hid (zw (World.ref wo w.heap.size nq A5 n5 c5 B5 m5 d5) (.slice A5 n5 c5) q.num.natAbs));have hR2:=zO (by assumption:Hid (zw (World.ref wo w.heap.size nq A5 n5 c5 B5 m5 d5) (.slice B5 m5 d5) q.den));have hRW:=zO (by assumption:Hid (Below w.heap.size w (World.ref wo w.heap.size nq A5 n5 c5 B5 m5 d5)));have e0:=kR2.cell 0;have e1:=kR2.cell 1;have e2:=kR2.cell 2;simp only [World.ref] at e0 e1 e2;simp at e0 e1 e2;go_wp2;refine bodyPost_ret (v:=.tuple #[.agg #[.bool nq,.slice A5 n5 c5,.slice B5 m5 d5],.bool (zS q == s.toList)]) (by simp [results,Tryz.results88,go_sem,e0,e1,e2]) rfl ?_;exact yQ.maybe HIF.out (zi0 _ _) ⟨_,_,_,_,_,_,_,rfl,HNG.out,hR1,hR2⟩ hRW
theorem zet {a b M K:Nat} (h1:len 1000000000 a<=M) (h2:len 1000000000 b<=K):len 1000000000 (a*b)<=M+K:=
 Nat.le_trans (YG (by omega) a b) (Nat.add_le_add h1 h2)
set_option maxRecDepth 100000 in
theorem yU (va vb:Value) (x y:Rat) (w:World) (ha:vr w va x) (hb:vr w vb y) (hx:zbh 8388608 x) (hy:zbh 8388608 y):
 Calls Tryz.prog 90 #[va,vb] w (zae w (x*y)):=by
 obtain ⟨g1,A1,n1,c1,B1,m1,d1,rfl,hg1,ha1,ha2⟩:=ha
 obtain ⟨g2,A2,n2,c2,B2,m2,d2,rfl,hg2,hb1,hb2⟩:=hb
 have HX1:=ze (Nat.le_trans hx.1 (show 8388608<=67108864 by omega))
 have HX2:=ze (Nat.le_trans hx.2 (show 8388608<=67108864 by omega))
 have HY1:=ze (Nat.le_trans hy.1 (show 8388608<=67108864 by omega))
 have HY2:=ze (Nat.le_trans hy.2 (show 8388608<=67108864 by omega))
 have HL1:=ze (Nat.le_trans (zet hx.1 hy.1) (show 8388608+8388608<=33554432 by omega))
 have HL2:=ze (Nat.le_trans (zet hx.2 hy.2) (show 8388608+8388608<=33554432 by omega))
 have HPOS:=ze (show 0<x.den*y.den by have:=x.den_pos;have:=y.den_pos;exact Nat.mul_pos ‹0<x.den› ‹0<y.den›)
 rw [zl5 x y, <- hg1, <- hg2]
 have HAN:=ze ha1
 have HAD:=ze ha2
 have HBN:=ze hb1
 have HBD:=ze hb2
 clear ha1 ha2 hb1 hb2 hx hy hg1 hg2
 have HRES:Hid (Z9 ((((w.alloc (.cells #[.bool g1,.slice A1 n1 c1,.slice B1 m1 d1] 78)).alloc (.cells #[.bool g2,.slice A2 n2 c2,.slice B2 m2 d2] 78)).alloc (.cells #[.bool false,.slice none 0 0,.slice none 0 0] 78)).drew) (w.heap.size+1+1)):=by
  have h:=(Blk.new ((w.alloc (.cells #[.bool g1,.slice A1 n1 c1,.slice B1 m1 d1] 78)).alloc (.cells #[.bool g2,.slice A2 n2 c2,.slice B2 m2 d2] 78)) 78 #[.bool false,.slice none 0 0,.slice none 0 0]).drew
  simp only [World.size_alloc] at h
  exact ⟨_,_,_,_,_,_,_,h⟩
 have HWX:Hid (Below w.heap.size w ((((w.alloc (.cells #[.bool g1,.slice A1 n1 c1,.slice B1 m1 d1] 78)).alloc (.cells #[.bool g2,.slice A2 n2 c2,.slice B2 m2 d2] 78)).alloc (.cells #[.bool false,.slice none 0 0,.slice none 0 0] 78)).drew)):=ze (zp (ext (ext (zf w (.cells #[.bool g1,.slice A1 n1 c1,.slice B1 m1 d1] 78)) (zf _ (.cells #[.bool g2,.slice A2 n2 c2,.slice B2 m2 d2] 78))) (zf _ (.cells #[.bool false,.slice none 0 0,.slice none 0 0] 78))) 1)
 go_enter Tryz.func90,Tryz.ntmps90
 go_wp2_with fail
 go_region_held3 (fun w' =>w'.cell? ⟨w.heap.size,0,none⟩=some (.bool g1)/\w'.cell? ⟨w.heap.size,1,none⟩=some (.slice A1 n1 c1)/\w'.cell? ⟨w.heap.size,2,none⟩=some (.slice B1 m1 d1)/\w'.cell? ⟨w.heap.size+1,0,none⟩=some (.bool g2)/\w'.cell? ⟨w.heap.size+1,1,none⟩=some (.slice A2 n2 c2)/\w'.cell? ⟨w.heap.size+1,2,none⟩=some (.slice B2 m2 d2)/\w.heap.size<w'.heap.size/\w.heap.size+1<w'.heap.size/\Hid (Z9 w' (w.heap.size+1+1))/\Hid (Below w.heap.size w w'))
  (first
    | with_reducible exact ⟨by go_keep,by go_keep,by go_keep,by go_keep,by go_keep,by go_keep,by first | (simp;done) | (simp;omega),by first | (simp;done) | (simp;omega),HRES,HWX⟩
    | (go_split_ands;with_reducible exact ⟨xR (by omega) ‹_›,xR (by omega) ‹_›,xR (by omega) ‹_›,xR (by omega) ‹_›,xR (by omega) ‹_›,xR (by omega) ‹_›,Xg ‹_›,Xg ‹_›,Yp ‹_›,ZY (by omega) ‹_›⟩)
    | (go_split_ands;with_reducible exact ⟨zk ‹_› ‹_› ‹_›,zk ‹_› ‹_› ‹_›,zk ‹_› ‹_› ‹_›,zk ‹_› ‹_› ‹_›,zk ‹_› ‹_› ‹_›,zk ‹_› ‹_› ‹_›,zR ‹_› ‹_›,zR ‹_› ‹_›,Y6 ‹_› ‹_›,zl ‹_› ‹_›⟩)
    | go_keep)
  (first
    | (go_at_call_of 169 (Value.slice A1 n1 c1);refine (vM _ _ (x.num.natAbs) (y.num.natAbs) _ (zw.below HAN.out (zO (by go_split_ands;assumption))) (zw.below HBN.out (zO (by go_split_ands;assumption))) HX1.out HY1.out).mono ?_;rintro e w1 ⟨v1,rfl,hv1,hb1⟩;have HM1:=ze hv1;clear hv1;try replace HM2:=ze (zw.below HM2.out hb1))
    | (go_at_call_of 169 (Value.slice B1 m1 d1);refine (vM _ _ (x.den) (y.den) _ (zw.below HAD.out (zO (by go_split_ands;assumption))) (zw.below HBD.out (zO (by go_split_ands;assumption))) HX2.out HY2.out).mono ?_;rintro e w2 ⟨v2,rfl,hv2,hb2⟩;have HM2:=ze hv2;clear hv2;try replace HM1:=ze (zw.below HM1.out hb2))
    | (go_at_call 117;refine (Xq _ _ _ (x.num.natAbs*y.num.natAbs) (x.den*y.den) _ HM1.out HM2.out HPOS.out HL1.out HL2.out).mono ?_;rintro e wo ⟨vo,rfl,⟨g5,A5,n5,c5,B5,m5,d5,rfl,hq0,hq1,hq2⟩,hbo⟩;obtain ⟨gr,Ar,kr,cr,Br,krx,crx,kR⟩:=(Y6 (g:=w.heap.size+1+1) hbo (by go_split_ands;assumption)).out;have r0:=kR.cell 0;have r1:=kR.cell 1;have r2:=kR.cell 2;have f0:=kR.frozen 0;have f1:=kR.frozen 1;have f2:=kR.frozen 2;simp at r0 r1 r2;have HQ0:=ze hq0;have HQ1:=ze hq1;have HQ2:=ze hq2;have HKR:=ze kR;clear hq0 hq1 hq2 kR;try replace HM1:=ze (zw.below HM1.out hbo);try replace HM2:=ze (zw.below HM2.out hbo)))
 all_goals
  go_split_ands
  have kR2:=yS (ng:=g5) (A:=A5) (n:=n5) (c:=c5) (B:=B5) (m:=m5) (d:=d5) HKR.out
  have hR1:=yn (ng:=g5) (A:=A5) (n:=n5) (c:=c5) (B:=B5) (m:=m5) (d:=d5) HQ1.out HKR.out
  have hR2:=yn (ng:=g5) (A:=A5) (n:=n5) (c:=c5) (B:=B5) (m:=m5) (d:=d5) HQ2.out HKR.out
  have hRW:=zO (by assumption:Hid (Below w.heap.size w (World.ref wo (w.heap.size+1+1) g5 A5 n5 c5 B5 m5 d5)))
  have e0:=kR2.cell 0
  have e1:=kR2.cell 1
  have e2:=kR2.cell 2
  simp only [World.ref] at e0 e1 e2
  simp at e0 e1 e2
  go_wp2
  refine bodyPost_ret (v:=.agg #[.bool g5,.slice A5 n5 c5,.slice B5 m5 d5]) (by simp [results,Tryz.results90,go_sem,e0,e1,e2]) rfl ?_
  exact ⟨_,rfl,⟨_,_,_,_,_,_,_,rfl,HQ0.out,hR1,hR2⟩,hRW⟩
theorem zbh.mono {M K:Nat} {x:Rat} (h:zbh M x) (hk:M<=K):zbh K x:=⟨Nat.le_trans h.1 hk,Nat.le_trans h.2 hk⟩
theorem zht {l:List UInt8} {q:Rat} (h:zq l=some q):zbh 50000 q:=by
 have:=(yF.1 h).2
 exact ⟨Nat.le_trans (v8 (by omega)) this.1,Nat.le_trans (v8 (by omega)) this.2⟩
end Go.Proofs.YtnpbflhjglkokaaGreatDoor
