/- Parts of the proof: memory, numbers, walks of the functions that are called. -/
import Derived.Deep.DrawnRows
import Derived.Test.YtnpbflhjglkokaaGreatDoorMr15
set_option linter.unusedVariables false
set_option linter.unusedSimpArgs false
set_option maxRecDepth 100000
set_option maxHeartbeats 32000000
namespace Go.Proofs.YtnpbflhjglkokaaGreatDoor
open Go.RowKit Go.Deep
attribute [local go_sem ↓] Go.wp_at_zero Go.wp_at_succ
def Y3 (w:World) (g:Nat):Prop:=∃ (ng:Bool) (A:Option Addr) (n c:Nat) (B:Option Addr) (m d:Nat),Blk w g 78 #[.bool ng,.slice A n c,.slice B m d]
theorem Vr {w w' :World} {g:Nat} (hb:Below w.heap.size w w') (h:Hid (Y3 w g)):Hid (Y3 w' g):=by
 obtain ⟨ng,A,n,c,B,m,d,h⟩:=h.out
 exact ⟨ng,A,n,c,B,m,d,h.below hb h.lt⟩
theorem zbx {w w' :World} {v:Value} {n:Nat} (hb:Below w.heap.size w w') (h:Hid (zE w v n)):Hid (zE w' v n):=zE.below h.out hb
section
variable {W w0:World} {g g' i n c m d k:Nat} {ng:Bool} {A B:Option Addr} {v:Value}
theorem Vc (h:Hid (Y3 W g)):Hid (Y3 (World.ref W g ng A n c B m d) g):=by
 obtain ⟨ng,A,n,c,B,m,d,h⟩:=h.out
 exact ⟨_,_,_,_,_,_,_,xO h⟩
theorem X2 (hg:w0.heap.size<=g) (h:Hid (Below w0.heap.size w0 W)):Hid (Below w0.heap.size w0 (World.ref W g ng A n c B m d)):=yT h.out hg
theorem Yd (hr:Hid (Y3 W g)) (h:Hid (zE W v k)):Hid (zE (World.ref W g ng A n c B m d) v k):=by
 obtain ⟨ng,A,n,c,B,m,d,hr⟩:=hr.out
 exact vF h.out hr
theorem YI (hne:g≠g') (h:W.cell? ⟨g,i,none⟩=some v):(World.ref W g' ng A n c B m d).cell? ⟨g,i,none⟩=some v:=by
 rw [<- h]
 simp only [World.ref]
 rw [World.cell?_setCell_other,World.cell?_setCell_other,World.cell?_setCell_other]
 all_goals (intro e;injection e with e;exact hne e.symm)
theorem zcu (h:k<W.heap.size):k<(World.ref W g' ng A n c B m d).heap.size:=by
 simp only [World.ref,World.setCell,Array.size_modify]
 exact h
end
def AggN (v:Value):Prop:=∃ (ng:Bool) (A:Option Addr) (n c:Nat) (B:Option Addr) (m d:Nat),v= .agg #[.bool ng,.slice A n c,.slice B m d]
def yW (w:World) (l:List UInt8) (e:Ending) (w' :World):Prop:=
 ∃ v b,e= .returned (.tuple #[v,.bool b])/\AggN v/\b=(zr l).isSome/\(∀ q,zr l=some q->VI w' v q)/\Below w.heap.size w w'
theorem yW.no {w w' :World} {l:List UInt8} {v:Value} (h:zr l=none) (hv:AggN v) (hb:Below w.heap.size w w'):yW w l (.returned (.tuple #[v,.bool false])) w' :=
 ⟨v,false,rfl,hv,by rw [h];rfl,fun q hq=>(by rw [h] at hq;cases hq),hb⟩
theorem yW.maybe {w w' :World} {l:List UInt8} {v:Value} {q:Rat} {b:Bool} (h:zr l=if zT q=l then some q else none) (hb' :b=decide (zT q=l)) (hv:VI w' v q) (hb:Below w.heap.size w w'):
 yW w l (.returned (.tuple #[v,.bool b])) w' :=by
 subst hb'
 by_cases he:zT q=l
 . rw [if_pos he] at h
   refine ⟨v,_,rfl,?_,by rw [h,decide_eq_true he];rfl,fun q' hq=>?_,hb⟩
   . obtain ⟨ng,A,n,c,B,m,d,rfl,_⟩:=hv;exact ⟨_,_,_,_,_,_,_,rfl⟩
   . rw [h] at hq;injection hq with hq;rw [<- hq];exact hv
 . rw [if_neg he] at h
   rw [decide_eq_false he];refine yW.no h ?_ hb;obtain ⟨ng,A,n,c,B,m,d,rfl,_⟩:=hv;exact ⟨_,_,_,_,_,_,_,rfl⟩
theorem za7 {ng:Bool} {n d M:Nat} (hd:0<d) (h1:len 1000000000 n<=M) (h2:len 1000000000 d<=M):zii M (xG ng n d):=by
 obtain ⟨e1,e2,_⟩:=zd3 ng n d hd
 unfold zii
 rw [e1,e2]
 exact ⟨Nat.le_trans (xT (by omega) (Nat.div_le_self _ _)) h1,Nat.le_trans (xT (by omega) (Nat.div_le_self _ _)) h2⟩
theorem znj {l:List UInt8} {K:Nat} (h:yM l=true) (hl:l.length<=K):len 1000000000 (zy l)<=K:=by
 unfold yM at h
 rw [Bool.and_eq_true] at h
 have h1:=Y8 h.1
 refine yg (by omega) (Nat.lt_of_lt_of_le h1 ?_)
 exact Nat.le_trans (Nat.pow_le_pow_left (by decide:10<=1000000000) _) (Nat.pow_le_pow_right (by decide) hl)
theorem zft {l:List UInt8} (h:yM l=true) (hl:l.length<=50000):len 1000000000 (zy l)<=50000:=znj h hl
theorem zjg (l:List UInt8) (s:ByteArray):(l == s.toList)=decide (l=bts s):=by
 rw [Lib.toList_data]
 show (l == bts s)=_
 by_cases h:l=bts s
 . rw [decide_eq_true h];exact beq_iff_eq.2 h
 . rw [decide_eq_false h];exact beq_eq_false_iff_ne.2 h
theorem YN {l:List UInt8} (h:yM l=true):l.all yI=true:=by
 unfold yM at h;rw [Bool.and_eq_true] at h;exact h.1
theorem zhx (s:ByteArray) (w:World) (hs:s.size<=1073741824):
 Calls Tryz.prog 88 #[.string s] w (yW w (bts s)):=by
 have HWR:=ze (zf w (.cells #[.bool false,.slice none 0 0,.slice none 0 0] 78))
 have HKR:=ze (Blk.new w 78 #[.bool false,.slice none 0 0,.slice none 0 0])
 by_cases hlong:100002<s.size
 . have HP:=ze (zjn (l:=bts s) (by rw [zk];exact hlong))
   have hlI:decide (100002<(s.size:Int))=true:=by rw [decide_eq_true_eq];omega
   clear hlong
   go_enter Tryz.func88,Tryz.ntmps88
   go_wp2_with fail;have kR2:=xO (ng:=false) (A:=none) (n:=0) (c:=0) (B:=none) (m:=0) (d:=0) HKR.out;have e0:=kR2.cell 0;have e1:=kR2.cell 1;have e2:=kR2.cell 2;simp only [World.ref] at e0 e1 e2;simp at e0 e1 e2;refine bodyPost_ret (v:=.tuple #[.agg #[.bool false,.slice none 0 0,.slice none 0 0],.bool false]) (by simp [results,Tryz.results88,go_sem,e0,e1,e2]) rfl ?_
   first
   | exact yW.no HP.out ⟨_,_,_,_,_,_,_,rfl⟩ HWR.out
   | exact yW.no HP.out ⟨_,_,_,_,_,_,_,rfl⟩ (yT (g:=w.heap.size) (ng:=false) (A:=none) (n:=0) (c:=0) (B:=none) (m:=0) (d:=0) HWR.out (Nat.le_refl _))
 . have HLS:=ze (show s.size<=100002 by omega)
   have hlI:decide (100002<(s.size:Int))=false:=by rw [decide_eq_false_iff_not];omega
   clear hlong
   obtain ⟨ng,t,HN,HT,HTS,hcase⟩:∃ (ng:Bool) (t:ByteArray),Hid (ng=yv (bts s))/\Hid (bts t=zo (bts s))/\Hid (t.size<=1073741824)/\
    ((s.toList.isEmpty=true/\ng=false/\s=t)\/(∃ h:0<s.size,((s[0].toNat:Int) == 45)=false/\ng=false/\s=t/\s.toList.isEmpty=false)\/(∃ h:0<s.size,((s[0].toNat:Int) == 45)=true/\ng=true/\t=s.extract 1 s.size/\s.toList.isEmpty=false)):=by
    by_cases h0:0<s.size
    . have hne:s.toList.isEmpty=false:=by
       rw [Bool.eq_false_iff];intro e;have e:=List.isEmpty_iff.1 e;have:=congrArg List.length e;rw [Lib.toList_data] at this;simp at this;rw [this] at h0;exact absurd h0 (by decide)
      have hh:(bts s).head?=some s[0]:=by
       have:=vB s 0 h0;rw [List.head?_eq_getElem?,List.getElem?_eq_getElem (by rw [zk];exact h0),this]
      by_cases h1:s[0]=45
      . have hsg:yv (bts s)=true:=by unfold yv;rw [hh,h1];rfl
        refine ⟨true,s.extract 1 s.size,hsg.symm,?_,?_,.inr (.inr ⟨h0,by rw [h1];rfl,rfl,rfl,hne⟩)⟩
        . show _=_
          rw [xK,List.take_of_length_le (by rw [zk];exact Nat.le_refl _)];have:=YB hsg
          conv=>lhs;rw [this]
          rfl
        . show _<=_
          rw [ByteArray.size_extract];omega
      . have hsg:yv (bts s)=false:=by
         unfold yv;rw [hh];rw [beq_eq_false_iff_ne];intro e;injection e with e;exact h1 e
        refine ⟨false,s,hsg.symm,(Z2 hsg).symm,hs,.inr (.inl ⟨h0,?_,rfl,rfl,hne⟩)⟩;rw [beq_eq_false_iff_ne];intro e;exact h1 (UInt8.toNat_inj.1 (by have:(45:UInt8).toNat=45:=rfl;omega))
    . have he:bts s=[]:=by
       apply List.eq_nil_of_length_eq_zero;rw [zk];omega
      refine ⟨false,s,by rw [he];exact rfl,by rw [he];exact rfl,hs,.inl ⟨?_,rfl,rfl⟩⟩;rw [Lib.toList_data];unfold bts at he;rw [show s.data.toList=[] from he];rfl
   have hcut:∀ W,Calls Tryz.prog 114 #[.string t,.int .u8 47] W (fun e w' =>∃ a b n,e= .returned (.tuple #[.string a,.string b,.bool (has 47 (zo (bts s)))])/\bts a=ahead 47 (zo (bts s))/\bts b=(if has 47 (zo (bts s))=true then yb 47 (zo (bts s)) else [])/\w' =W.drewN n):=by
    intro W;refine (zm5 t 47 W HTS.out).mono ?_;rintro e w' ⟨a,b,h1,h2,h3,n,h4⟩;rw [HT.out] at h1 h2 h3;exact ⟨a,b,n,h1,h2,h3,h4⟩
   rcases hcase with ⟨z1,rfl,rfl⟩ | ⟨h0,z1,rfl,rfl,z2⟩ | ⟨h0,z1,rfl,rfl,z2⟩
   all_goals
    go_enter Tryz.func88,Tryz.ntmps88
    go_wp2_with fail;refine (hcut _).mono ?_;rintro e w1 ⟨a,b,n,rfl,ha,hb,rfl⟩;have HA:=ze ha
    have hal:(ahead 47 (zo (bts s))).length<=s.size:=by
     have h1:(ahead 47 (zo (bts s))).length<=(zo (bts s)).length:=(List.takeWhile_sublist _).length_le;have h2:(zo (bts s)).length<=(bts s).length:=by unfold zo;split<;>simp
     rw [zk] at h2
     omega
    have hbl:(yb 47 (zo (bts s))).length<=s.size:=by
     have h1:(yb 47 (zo (bts s))).length<=(zo (bts s)).length:=by
      unfold yb;have:=(List.dropWhile_sublist (fun x=>x != (47:UInt8)) (l:=zo (bts s))).length_le;rw [List.length_tail];omega
     have h2:(zo (bts s)).length<=(bts s).length:=by unfold zo;split<;>simp
     rw [zk] at h2
     omega
    have HAS:=ze (show a.size<=1073741824 by rw [<- zk,ha];omega);have HKR2:=ze (HKR.out.below (zB _ n) HKR.out.lt);have HWR2:=ze (zm HWR.out n);clear HKR HWR;have HKR:=HKR2;have HWR:=HWR2;clear HKR2 HWR2;generalize World.drewN _ n=W at HKR HWR |-;have r0:=HKR.out.cell 0;have r1:=HKR.out.cell 1;have r2:=HKR.out.cell 2;have f0:=HKR.out.frozen 0;have f1:=HKR.out.frozen 1;have f2:=HKR.out.frozen 2;have lR:=HKR.out.lt;simp at r0 r1 r2
    cases hh:has 47 (zo (bts s)) with
    | false=>
      have HT1:=ze (show xm (bts s)=[49] by unfold xm;rw [hh];rfl);clear hh hb ha hal hbl hcut z1;go_wp2_with fail;generalize hT9:(⟨#[49]⟩:ByteArray)=t;have HT:Hid (bts t=xm (bts s)):=ze (by rw [HT1.out, <- hT9];rfl);have HTS:Hid (t.size<=1073741824):=ze (by rw [<- hT9];decide);clear hT9
      rcases Bool.eq_false_or_eq_true (yM (bts a)) with d1 | d1
      rotate_left
      . have HP:=ze (ZD (.inl (by rw [<- HA.out];exact d1)))
        have HD1:=ze d1;clear d1;refine (Zj a _ HAS.out).mono ?_;rintro e w1 ⟨rfl,rfl⟩;rw [HD1.out];go_wp2_with fail;have kR2:=xO (ng:=false) (A:=none) (n:=0) (c:=0) (B:=none) (m:=0) (d:=0) HKR.out;have e0:=kR2.cell 0;have e1:=kR2.cell 1;have e2:=kR2.cell 2;simp only [World.ref] at e0 e1 e2;simp at e0 e1 e2;refine bodyPost_ret (v:=.tuple #[.agg #[.bool false,.slice none 0 0,.slice none 0 0],.bool false]) (by simp [results,Tryz.results88,go_sem,e0,e1,e2]) rfl ?_
        first
        | exact yW.no HP.out ⟨_,_,_,_,_,_,_,rfl⟩ HWR.out
        | exact yW.no HP.out ⟨_,_,_,_,_,_,_,rfl⟩ (yT (g:=w.heap.size) (ng:=false) (A:=none) (n:=0) (c:=0) (B:=none) (m:=0) (d:=0) HWR.out (Nat.le_refl _))
      . have HD1:=ze d1
        clear d1;refine (Zj a _ HAS.out).mono ?_;rintro e w1 ⟨rfl,rfl⟩;rw [HD1.out];go_wp2_with fail;refine (Zj t _ HTS.out).mono ?_;rintro e w1 ⟨rfl,rfl⟩
        rcases Bool.eq_false_or_eq_true (yM (bts t)) with d2 | d2
        rotate_left
        . have HP:=ze (ZD (.inr (.inl (by rw [<- HT.out];exact d2))))
          rw [d2];clear d2;go_wp2_with fail;have kR2:=xO (ng:=false) (A:=none) (n:=0) (c:=0) (B:=none) (m:=0) (d:=0) HKR.out;have e0:=kR2.cell 0;have e1:=kR2.cell 1;have e2:=kR2.cell 2;simp only [World.ref] at e0 e1 e2;simp at e0 e1 e2;refine bodyPost_ret (v:=.tuple #[.agg #[.bool false,.slice none 0 0,.slice none 0 0],.bool false]) (by simp [results,Tryz.results88,go_sem,e0,e1,e2]) rfl ?_
          first
          | exact yW.no HP.out ⟨_,_,_,_,_,_,_,rfl⟩ HWR.out
          | exact yW.no HP.out ⟨_,_,_,_,_,_,_,rfl⟩ (yT (g:=w.heap.size) (ng:=false) (A:=none) (n:=0) (c:=0) (B:=none) (m:=0) (d:=0) HWR.out (Nat.le_refl _))
        . have HD2:=ze d2
          rw [d2];clear d2
          by_cases l1:50000<a.size
          . have HP:=ze (ZD (.inr (.inr (.inl (by rw [<- HA.out,zk];exact l1)))))
            go_wp2_with fail;have kR2:=xO (ng:=false) (A:=none) (n:=0) (c:=0) (B:=none) (m:=0) (d:=0) HKR.out;have e0:=kR2.cell 0;have e1:=kR2.cell 1;have e2:=kR2.cell 2;simp only [World.ref] at e0 e1 e2;simp at e0 e1 e2;refine bodyPost_ret (v:=.tuple #[.agg #[.bool false,.slice none 0 0,.slice none 0 0],.bool false]) (by simp [results,Tryz.results88,go_sem,e0,e1,e2]) rfl ?_
            first
            | exact yW.no HP.out ⟨_,_,_,_,_,_,_,rfl⟩ HWR.out
            | exact yW.no HP.out ⟨_,_,_,_,_,_,_,rfl⟩ (yT (g:=w.heap.size) (ng:=false) (A:=none) (n:=0) (c:=0) (B:=none) (m:=0) (d:=0) HWR.out (Nat.le_refl _))
          . by_cases l2:50000<t.size
            . have HP:=ze (ZD (.inr (.inr (.inr (.inl (by rw [<- HT.out,zk];exact l2))))))
              go_wp2_with fail;have kR2:=xO (ng:=false) (A:=none) (n:=0) (c:=0) (B:=none) (m:=0) (d:=0) HKR.out;have e0:=kR2.cell 0;have e1:=kR2.cell 1;have e2:=kR2.cell 2;simp only [World.ref] at e0 e1 e2;simp at e0 e1 e2;refine bodyPost_ret (v:=.tuple #[.agg #[.bool false,.slice none 0 0,.slice none 0 0],.bool false]) (by simp [results,Tryz.results88,go_sem,e0,e1,e2]) rfl ?_
              first
              | exact yW.no HP.out ⟨_,_,_,_,_,_,_,rfl⟩ HWR.out
              | exact yW.no HP.out ⟨_,_,_,_,_,_,_,rfl⟩ (yT (g:=w.heap.size) (ng:=false) (A:=none) (n:=0) (c:=0) (B:=none) (m:=0) (d:=0) HWR.out (Nat.le_refl _))
            . have HL1:=ze (show (bts a).length<=50000 by rw [zk];omega)
              have HL2:=ze (show (bts t).length<=50000 by rw [zk];omega);have HIF:=ze (zjq (l:=bts s) (by rw [<- HA.out];exact HD1.out) (by rw [<- HT.out];exact HD2.out) (by rw [<- HA.out];exact HL1.out) (by rw [<- HT.out];exact HL2.out));go_wp2_with fail;refine (Vp t _ (YN HD2.out) (by have:=HL2.out;rw [zk] at this;omega)).mono ?_;rintro e w2 ⟨v,rfl,hv,hb2⟩;have hlv:=zft HD2.out HL2.out;have hln:=zft HD1.out HL1.out;rw [HT.out] at hv hlv;rw [HA.out] at hln;obtain ⟨dv,hdv⟩:∃ dv,zy (xm (bts s))=dv:=⟨_,rfl⟩;obtain ⟨nv,hnv⟩:∃ nv,zy (ahead 47 (zo (bts s)))=nv:=⟨_,rfl⟩;rw [hdv] at hv hlv HIF;rw [hnv] at hln HIF;have HDV:=ze hdv;have HNV:=ze hnv;obtain ⟨A,c,rfl⟩:=hv.form;have HV:=ze hv;have HLV:=ze hlv;have HLN:=ze hln;have HWR2:=ze (ext HWR.out hb2);have HKR2:=ze (HKR.out.below hb2 HKR.out.lt);clear r0 r1 r2 f0 f1 f2 lR HKR HWR;have HKR:=HKR2;have HWR:=HWR2;clear HKR2 HWR2;have r0:=HKR.out.cell 0;have r1:=HKR.out.cell 1;have r2:=HKR.out.cell 2;have f0:=HKR.out.frozen 0;have f1:=HKR.out.frozen 1;have f2:=HKR.out.frozen 2;have lR:=HKR.out.lt;simp at r0 r1 r2
              clear hv hlv hln hb2 l1 l2 hdv hnv
              by_cases hz:dv=0
              . subst hz
                have HP:=ze (ZD (.inr (.inr (.inr (.inr HDV.out)))));have hz0:((len 1000000000 0:Int) == 0)=true:=by rw [Vo];rfl
                go_wp2_with fail;have kR2:=xO (ng:=false) (A:=none) (n:=0) (c:=0) (B:=none) (m:=0) (d:=0) HKR.out;have e0:=kR2.cell 0;have e1:=kR2.cell 1;have e2:=kR2.cell 2;simp only [World.ref] at e0 e1 e2;simp at e0 e1 e2;refine bodyPost_ret (v:=.tuple #[.agg #[.bool false,.slice none 0 0,.slice none 0 0],.bool false]) (by simp [results,Tryz.results88,go_sem,e0,e1,e2]) rfl ?_
                first
                | exact yW.no HP.out ⟨_,_,_,_,_,_,_,rfl⟩ HWR.out
                | exact yW.no HP.out ⟨_,_,_,_,_,_,_,rfl⟩ (yT (g:=w.heap.size) (ng:=false) (A:=none) (n:=0) (c:=0) (B:=none) (m:=0) (d:=0) HWR.out (Nat.le_refl _))
              . have hz0:((len 1000000000 dv:Int) == 0)=false:=by rw [beq_eq_false_iff_ne];have:=zbl (β:=1000000000) (n:=dv) (by omega) (by omega);omega
                have HZ:=ze (show 0<dv by omega);clear hz;go_wp2_with fail;refine (Vp a _ (YN HD1.out) (by have:=HL1.out;rw [zk] at this;omega)).mono ?_;rintro e w3 ⟨v3,rfl,hv3,hb3⟩;rw [HA.out,HNV.out] at hv3;have HV3:=ze hv3;have HVa:=ze (zE.below HV.out hb3);have HWR3:=ze (ext HWR.out hb3);have HKR3:=ze (HKR.out.below hb3 HKR.out.lt);clear hv3 hb3 r0 r1 r2 f0 f1 f2 lR HKR HWR;go_wp2_with fail;refine (za0 _ _ _ nv dv _ HV3.out HVa.out HZ.out (Nat.le_trans HLN.out (by decide)) (Nat.le_trans HLV.out (by decide))).mono ?_;rintro e w4 ⟨v4,rfl,hv4,hb4⟩;rw [HN.out] at hv4;obtain ⟨q,hq⟩:∃ q,q=xG (yv (bts s)) nv dv:=⟨_,rfl⟩;have HQL:=ze (show zii 33554432 q by rw [hq];exact za7 HZ.out (Nat.le_trans HLN.out (by decide)) (Nat.le_trans HLV.out (by decide)));rw [<- hq] at hv4 HIF;obtain ⟨nq,A5,c5,B5,d5,rfl,hng,ha1,ha2⟩:=hv4.form;have HNG:=ze hng;have hb5:=zf w4 (.cells #[.bool nq,.slice A5 (len 1000000000 q.num.natAbs) c5,.slice B5 (len 1000000000 q.den) d5] 78);have HKR5:=ze (show Y3 _ w.heap.size from ⟨_,_,_,_,_,_,_,HKR3.out.below (ext hb4 hb5) HKR3.out.lt⟩)
                have HWR5:=ze (ext HWR3.out (ext hb4 hb5));have HS1:=ze (zE.below ha1 hb5);have HS2:=ze (zE.below ha2 hb5);have HKQ:=ze (Blk.new w4 78 #[.bool nq,.slice A5 (len 1000000000 q.num.natAbs) c5,.slice B5 (len 1000000000 q.den) d5]);have lgq:w.heap.size<w4.heap.size:=(HKR3.out.below hb4 HKR3.out.lt).lt;obtain ⟨n5,hn5⟩:∃ n5,len 1000000000 q.num.natAbs=n5:=⟨_,rfl⟩;obtain ⟨m5,hm5⟩:∃ m5,len 1000000000 q.den=m5:=⟨_,rfl⟩;rw [hn5,hm5] at HKR5 HWR5 HKQ |-;rw [hn5,hm5] at HS1 HS2;clear hq hv4 hng hb4 hb5 ha1 ha2 hn5 hm5 HKR3 HWR3 HV3 HVa HV;go_wp2_with fail;generalize hgq:w4.heap.size=gq at HKQ lgq |-;generalize w4.alloc (.cells #[.bool nq,.slice A5 n5 c5,.slice B5 m5 d5] 78)=W7 at HS1 HS2 HKR5 HWR5 HKQ |-;clear hgq;have hlq:=HKQ.out.lt;have q0:=HKQ.out.cell 0;have q1:=HKQ.out.cell 1;have q2:=HKQ.out.cell 2;simp at q0 q1 q2;have HRES:=ze (show Y3 W7.drew w.heap.size from HKR5.out);have HWX:=ze (show Below w.heap.size w W7.drew from zm HWR5.out 1);have HY1:=ze (show zE W7.drew _ q.num.natAbs from zE.below HS1.out (zB W7 1))
                have HY2:=ze (show zE W7.drew _ q.den from zE.below HS2.out (zB W7 1));clear HS1 HS2
                go_region_held3 (fun w' =>w'.cell? ⟨gq,0,none⟩=some (.bool nq)/\w'.cell? ⟨gq,1,none⟩=some (.slice A5 n5 c5)/\w'.cell? ⟨gq,2,none⟩=some (.slice B5 m5 d5)/\gq<w'.heap.size/\Hid (Y3 w' w.heap.size)/\Hid (Below w.heap.size w w')/\Hid (zE w' (.slice A5 n5 c5) q.num.natAbs)/\Hid (zE w' (.slice B5 m5 d5) q.den))
                 (first
                   | with_reducible exact ⟨by go_keep,by go_keep,by go_keep,by first | (simp;done) | (simp;assumption),HRES,HWX,HY1,HY2⟩
                   | (go_split_ands;with_reducible exact ⟨YI (by omega) ‹_›,YI (by omega) ‹_›,YI (by omega) ‹_›,zcu ‹_›,Vc ‹_›,X2 (by omega) ‹_›,Yd ‹_› ‹_›,Yd ‹_› ‹_›⟩)
                   | (go_split_ands;with_reducible exact ⟨zj ‹_› ‹_› ‹_›,zj ‹_› ‹_› ‹_›,zj ‹_› ‹_› ‹_›,zZ ‹_› ‹_›,Vr ‹_› ‹_›,zt ‹_› ‹_›,zbx ‹_› ‹_›,zbx ‹_› ‹_›⟩)
                   | go_keep)
                 (first
                   | (go_at_call 48;refine (zgc _ q _ ⟨_,_,_,_,_,_,_,rfl,HNG.out,zU (by go_split_ands;assumption),zU (by go_split_ands;assumption)⟩ HQL.out).mono ?_;rintro e wo ⟨rfl,hbo⟩;obtain ⟨ngr,Ar,kr,cr,Br,krx,crx,kR⟩:=(Vr (g:=w.heap.size) hbo (by go_split_ands;assumption)).out;have r0:=kR.cell 0;have r1:=kR.cell 1;have r2:=kR.cell 2;have f0:=kR.frozen 0;have f1:=kR.frozen 1;have f2:=kR.frozen 2;simp at r0 r1 r2;have HKR:=ze kR;clear kR))
                all_goals
                 go_split_ands;have kR2:=xO (ng:=nq) (A:=A5) (n:=n5) (c:=c5) (B:=B5) (m:=m5) (d:=d5) HKR.out;have hR1:=zU (by assumption:Hid (zE (World.ref wo w.heap.size nq A5 n5 c5 B5 m5 d5) (.slice A5 n5 c5) q.num.natAbs));have hR2:=zU (by assumption:Hid (zE (World.ref wo w.heap.size nq A5 n5 c5 B5 m5 d5) (.slice B5 m5 d5) q.den));have hRW:=zU (by assumption:Hid (Below w.heap.size w (World.ref wo w.heap.size nq A5 n5 c5 B5 m5 d5)));have e0:=kR2.cell 0;have e1:=kR2.cell 1;have e2:=kR2.cell 2;simp only [World.ref] at e0 e1 e2;simp at e0 e1 e2;go_wp2;refine bodyPost_ret (v:=.tuple #[.agg #[.bool nq,.slice A5 n5 c5,.slice B5 m5 d5],.bool (zT q == s.toList)]) (by simp [results,Tryz.results88,go_sem,e0,e1,e2]) rfl ?_;exact yW.maybe HIF.out (zjg _ _) ⟨_,_,_,_,_,_,_,rfl,HNG.out,hR1,hR2⟩ hRW
    | true=>
      have HT:=ze (show bts b=xm (bts s) by rw [hb,if_pos hh];unfold xm;rw [hh];rfl);have HTS:=ze (show b.size<=1073741824 by rw [<- zk,hb,if_pos hh];omega);clear hh hb ha hal hbl hcut z1;obtain ⟨t,ht⟩:∃ t,t=b:=⟨b,rfl⟩;subst ht;go_wp2_with fail
      rcases Bool.eq_false_or_eq_true (yM (bts a)) with d1 | d1
      rotate_left
      . have HP:=ze (ZD (.inl (by rw [<- HA.out];exact d1)))
        have HD1:=ze d1;clear d1;refine (Zj a _ HAS.out).mono ?_;rintro e w1 ⟨rfl,rfl⟩;rw [HD1.out];go_wp2_with fail;have kR2:=xO (ng:=false) (A:=none) (n:=0) (c:=0) (B:=none) (m:=0) (d:=0) HKR.out;have e0:=kR2.cell 0;have e1:=kR2.cell 1;have e2:=kR2.cell 2;simp only [World.ref] at e0 e1 e2;simp at e0 e1 e2;refine bodyPost_ret (v:=.tuple #[.agg #[.bool false,.slice none 0 0,.slice none 0 0],.bool false]) (by simp [results,Tryz.results88,go_sem,e0,e1,e2]) rfl ?_
        first
        | exact yW.no HP.out ⟨_,_,_,_,_,_,_,rfl⟩ HWR.out
        | exact yW.no HP.out ⟨_,_,_,_,_,_,_,rfl⟩ (yT (g:=w.heap.size) (ng:=false) (A:=none) (n:=0) (c:=0) (B:=none) (m:=0) (d:=0) HWR.out (Nat.le_refl _))
      . have HD1:=ze d1
        clear d1;refine (Zj a _ HAS.out).mono ?_;rintro e w1 ⟨rfl,rfl⟩;rw [HD1.out];go_wp2_with fail;refine (Zj t _ HTS.out).mono ?_;rintro e w1 ⟨rfl,rfl⟩
        rcases Bool.eq_false_or_eq_true (yM (bts t)) with d2 | d2
        rotate_left
        . have HP:=ze (ZD (.inr (.inl (by rw [<- HT.out];exact d2))))
          rw [d2];clear d2;go_wp2_with fail;have kR2:=xO (ng:=false) (A:=none) (n:=0) (c:=0) (B:=none) (m:=0) (d:=0) HKR.out;have e0:=kR2.cell 0;have e1:=kR2.cell 1;have e2:=kR2.cell 2;simp only [World.ref] at e0 e1 e2;simp at e0 e1 e2;refine bodyPost_ret (v:=.tuple #[.agg #[.bool false,.slice none 0 0,.slice none 0 0],.bool false]) (by simp [results,Tryz.results88,go_sem,e0,e1,e2]) rfl ?_
          first
          | exact yW.no HP.out ⟨_,_,_,_,_,_,_,rfl⟩ HWR.out
          | exact yW.no HP.out ⟨_,_,_,_,_,_,_,rfl⟩ (yT (g:=w.heap.size) (ng:=false) (A:=none) (n:=0) (c:=0) (B:=none) (m:=0) (d:=0) HWR.out (Nat.le_refl _))
        . have HD2:=ze d2
          rw [d2];clear d2
          by_cases l1:50000<a.size
          . have HP:=ze (ZD (.inr (.inr (.inl (by rw [<- HA.out,zk];exact l1)))))
            go_wp2_with fail;have kR2:=xO (ng:=false) (A:=none) (n:=0) (c:=0) (B:=none) (m:=0) (d:=0) HKR.out;have e0:=kR2.cell 0;have e1:=kR2.cell 1;have e2:=kR2.cell 2;simp only [World.ref] at e0 e1 e2;simp at e0 e1 e2;refine bodyPost_ret (v:=.tuple #[.agg #[.bool false,.slice none 0 0,.slice none 0 0],.bool false]) (by simp [results,Tryz.results88,go_sem,e0,e1,e2]) rfl ?_
            first
            | exact yW.no HP.out ⟨_,_,_,_,_,_,_,rfl⟩ HWR.out
            | exact yW.no HP.out ⟨_,_,_,_,_,_,_,rfl⟩ (yT (g:=w.heap.size) (ng:=false) (A:=none) (n:=0) (c:=0) (B:=none) (m:=0) (d:=0) HWR.out (Nat.le_refl _))
          . by_cases l2:50000<t.size
            . have HP:=ze (ZD (.inr (.inr (.inr (.inl (by rw [<- HT.out,zk];exact l2))))))
              go_wp2_with fail;have kR2:=xO (ng:=false) (A:=none) (n:=0) (c:=0) (B:=none) (m:=0) (d:=0) HKR.out;have e0:=kR2.cell 0;have e1:=kR2.cell 1;have e2:=kR2.cell 2;simp only [World.ref] at e0 e1 e2;simp at e0 e1 e2;refine bodyPost_ret (v:=.tuple #[.agg #[.bool false,.slice none 0 0,.slice none 0 0],.bool false]) (by simp [results,Tryz.results88,go_sem,e0,e1,e2]) rfl ?_
              first
              | exact yW.no HP.out ⟨_,_,_,_,_,_,_,rfl⟩ HWR.out
              | exact yW.no HP.out ⟨_,_,_,_,_,_,_,rfl⟩ (yT (g:=w.heap.size) (ng:=false) (A:=none) (n:=0) (c:=0) (B:=none) (m:=0) (d:=0) HWR.out (Nat.le_refl _))
            . have HL1:=ze (show (bts a).length<=50000 by rw [zk];omega)
              have HL2:=ze (show (bts t).length<=50000 by rw [zk];omega);have HIF:=ze (zjq (l:=bts s) (by rw [<- HA.out];exact HD1.out) (by rw [<- HT.out];exact HD2.out) (by rw [<- HA.out];exact HL1.out) (by rw [<- HT.out];exact HL2.out));go_wp2_with fail;refine (Vp t _ (YN HD2.out) (by have:=HL2.out;rw [zk] at this;omega)).mono ?_;rintro e w2 ⟨v,rfl,hv,hb2⟩;have hlv:=zft HD2.out HL2.out;have hln:=zft HD1.out HL1.out;rw [HT.out] at hv hlv;rw [HA.out] at hln;obtain ⟨dv,hdv⟩:∃ dv,zy (xm (bts s))=dv:=⟨_,rfl⟩;obtain ⟨nv,hnv⟩:∃ nv,zy (ahead 47 (zo (bts s)))=nv:=⟨_,rfl⟩;rw [hdv] at hv hlv HIF;rw [hnv] at hln HIF;have HDV:=ze hdv;have HNV:=ze hnv;obtain ⟨A,c,rfl⟩:=hv.form;have HV:=ze hv;have HLV:=ze hlv;have HLN:=ze hln;have HWR2:=ze (ext HWR.out hb2);have HKR2:=ze (HKR.out.below hb2 HKR.out.lt);clear r0 r1 r2 f0 f1 f2 lR HKR HWR;have HKR:=HKR2;have HWR:=HWR2;clear HKR2 HWR2;have r0:=HKR.out.cell 0;have r1:=HKR.out.cell 1;have r2:=HKR.out.cell 2;have f0:=HKR.out.frozen 0;have f1:=HKR.out.frozen 1;have f2:=HKR.out.frozen 2;have lR:=HKR.out.lt;simp at r0 r1 r2
              clear hv hlv hln hb2 l1 l2 hdv hnv
              by_cases hz:dv=0
              . subst hz
                have HP:=ze (ZD (.inr (.inr (.inr (.inr HDV.out)))));have hz0:((len 1000000000 0:Int) == 0)=true:=by rw [Vo];rfl
                go_wp2_with fail;have kR2:=xO (ng:=false) (A:=none) (n:=0) (c:=0) (B:=none) (m:=0) (d:=0) HKR.out;have e0:=kR2.cell 0;have e1:=kR2.cell 1;have e2:=kR2.cell 2;simp only [World.ref] at e0 e1 e2;simp at e0 e1 e2;refine bodyPost_ret (v:=.tuple #[.agg #[.bool false,.slice none 0 0,.slice none 0 0],.bool false]) (by simp [results,Tryz.results88,go_sem,e0,e1,e2]) rfl ?_
                first
                | exact yW.no HP.out ⟨_,_,_,_,_,_,_,rfl⟩ HWR.out
                | exact yW.no HP.out ⟨_,_,_,_,_,_,_,rfl⟩ (yT (g:=w.heap.size) (ng:=false) (A:=none) (n:=0) (c:=0) (B:=none) (m:=0) (d:=0) HWR.out (Nat.le_refl _))
              . have hz0:((len 1000000000 dv:Int) == 0)=false:=by rw [beq_eq_false_iff_ne];have:=zbl (β:=1000000000) (n:=dv) (by omega) (by omega);omega
                have HZ:=ze (show 0<dv by omega);clear hz;go_wp2_with fail;refine (Vp a _ (YN HD1.out) (by have:=HL1.out;rw [zk] at this;omega)).mono ?_;rintro e w3 ⟨v3,rfl,hv3,hb3⟩;rw [HA.out,HNV.out] at hv3;have HV3:=ze hv3;have HVa:=ze (zE.below HV.out hb3);have HWR3:=ze (ext HWR.out hb3);have HKR3:=ze (HKR.out.below hb3 HKR.out.lt);clear hv3 hb3 r0 r1 r2 f0 f1 f2 lR HKR HWR;go_wp2_with fail;refine (za0 _ _ _ nv dv _ HV3.out HVa.out HZ.out (Nat.le_trans HLN.out (by decide)) (Nat.le_trans HLV.out (by decide))).mono ?_;rintro e w4 ⟨v4,rfl,hv4,hb4⟩;rw [HN.out] at hv4;obtain ⟨q,hq⟩:∃ q,q=xG (yv (bts s)) nv dv:=⟨_,rfl⟩;have HQL:=ze (show zii 33554432 q by rw [hq];exact za7 HZ.out (Nat.le_trans HLN.out (by decide)) (Nat.le_trans HLV.out (by decide)));rw [<- hq] at hv4 HIF;obtain ⟨nq,A5,c5,B5,d5,rfl,hng,ha1,ha2⟩:=hv4.form;have HNG:=ze hng;have hb5:=zf w4 (.cells #[.bool nq,.slice A5 (len 1000000000 q.num.natAbs) c5,.slice B5 (len 1000000000 q.den) d5] 78);have HKR5:=ze (show Y3 _ w.heap.size from ⟨_,_,_,_,_,_,_,HKR3.out.below (ext hb4 hb5) HKR3.out.lt⟩)
                have HWR5:=ze (ext HWR3.out (ext hb4 hb5));have HS1:=ze (zE.below ha1 hb5);have HS2:=ze (zE.below ha2 hb5);have HKQ:=ze (Blk.new w4 78 #[.bool nq,.slice A5 (len 1000000000 q.num.natAbs) c5,.slice B5 (len 1000000000 q.den) d5]);have lgq:w.heap.size<w4.heap.size:=(HKR3.out.below hb4 HKR3.out.lt).lt;obtain ⟨n5,hn5⟩:∃ n5,len 1000000000 q.num.natAbs=n5:=⟨_,rfl⟩;obtain ⟨m5,hm5⟩:∃ m5,len 1000000000 q.den=m5:=⟨_,rfl⟩;rw [hn5,hm5] at HKR5 HWR5 HKQ |-;rw [hn5,hm5] at HS1 HS2;clear hq hv4 hng hb4 hb5 ha1 ha2 hn5 hm5 HKR3 HWR3 HV3 HVa HV;go_wp2_with fail;generalize hgq:w4.heap.size=gq at HKQ lgq |-;generalize w4.alloc (.cells #[.bool nq,.slice A5 n5 c5,.slice B5 m5 d5] 78)=W7 at HS1 HS2 HKR5 HWR5 HKQ |-;clear hgq;have hlq:=HKQ.out.lt;have q0:=HKQ.out.cell 0;have q1:=HKQ.out.cell 1;have q2:=HKQ.out.cell 2;simp at q0 q1 q2;have HRES:=ze (show Y3 W7.drew w.heap.size from HKR5.out);have HWX:=ze (show Below w.heap.size w W7.drew from zm HWR5.out 1);have HY1:=ze (show zE W7.drew _ q.num.natAbs from zE.below HS1.out (zB W7 1))
                have HY2:=ze (show zE W7.drew _ q.den from zE.below HS2.out (zB W7 1));clear HS1 HS2
                go_region_held3 (fun w' =>w'.cell? ⟨gq,0,none⟩=some (.bool nq)/\w'.cell? ⟨gq,1,none⟩=some (.slice A5 n5 c5)/\w'.cell? ⟨gq,2,none⟩=some (.slice B5 m5 d5)/\gq<w'.heap.size/\Hid (Y3 w' w.heap.size)/\Hid (Below w.heap.size w w')/\Hid (zE w' (.slice A5 n5 c5) q.num.natAbs)/\Hid (zE w' (.slice B5 m5 d5) q.den))
                 (first
                   | with_reducible exact ⟨by go_keep,by go_keep,by go_keep,by first | (simp;done) | (simp;assumption),HRES,HWX,HY1,HY2⟩
                   | (go_split_ands;with_reducible exact ⟨YI (by omega) ‹_›,YI (by omega) ‹_›,YI (by omega) ‹_›,zcu ‹_›,Vc ‹_›,X2 (by omega) ‹_›,Yd ‹_› ‹_›,Yd ‹_› ‹_›⟩)
                   | (go_split_ands;with_reducible exact ⟨zj ‹_› ‹_› ‹_›,zj ‹_› ‹_› ‹_›,zj ‹_› ‹_› ‹_›,zZ ‹_› ‹_›,Vr ‹_› ‹_›,zt ‹_› ‹_›,zbx ‹_› ‹_›,zbx ‹_› ‹_›⟩)
                   | go_keep)
                 (first
                   | (go_at_call 48;refine (zgc _ q _ ⟨_,_,_,_,_,_,_,rfl,HNG.out,zU (by go_split_ands;assumption),zU (by go_split_ands;assumption)⟩ HQL.out).mono ?_;rintro e wo ⟨rfl,hbo⟩;obtain ⟨ngr,Ar,kr,cr,Br,krx,crx,kR⟩:=(Vr (g:=w.heap.size) hbo (by go_split_ands;assumption)).out;have r0:=kR.cell 0;have r1:=kR.cell 1;have r2:=kR.cell 2;have f0:=kR.frozen 0;have f1:=kR.frozen 1;have f2:=kR.frozen 2;simp at r0 r1 r2;have HKR:=ze kR;clear kR))
                all_goals
                 go_split_ands;have kR2:=xO (ng:=nq) (A:=A5) (n:=n5) (c:=c5) (B:=B5) (m:=m5) (d:=d5) HKR.out;have hR1:=zU (by assumption:Hid (zE (World.ref wo w.heap.size nq A5 n5 c5 B5 m5 d5) (.slice A5 n5 c5) q.num.natAbs));have hR2:=zU (by assumption:Hid (zE (World.ref wo w.heap.size nq A5 n5 c5 B5 m5 d5) (.slice B5 m5 d5) q.den));have hRW:=zU (by assumption:Hid (Below w.heap.size w (World.ref wo w.heap.size nq A5 n5 c5 B5 m5 d5)));have e0:=kR2.cell 0;have e1:=kR2.cell 1;have e2:=kR2.cell 2;simp only [World.ref] at e0 e1 e2;simp at e0 e1 e2;go_wp2;refine bodyPost_ret (v:=.tuple #[.agg #[.bool nq,.slice A5 n5 c5,.slice B5 m5 d5],.bool (zT q == s.toList)]) (by simp [results,Tryz.results88,go_sem,e0,e1,e2]) rfl ?_;exact yW.maybe HIF.out (zjg _ _) ⟨_,_,_,_,_,_,_,rfl,HNG.out,hR1,hR2⟩ hRW
theorem zii.mono {M K:Nat} {x:Rat} (h:zii M x) (hk:M<=K):zii K x:=⟨Nat.le_trans h.1 hk,Nat.le_trans h.2 hk⟩
theorem zcs (M:Nat) (q:Rat):(!decide (y6 M q))=(decide (M<(dec q.num.natAbs).length) || decide (M<(dec q.den).length)):=by
 by_cases h1:(dec q.num.natAbs).length<=M
 . by_cases h2:(dec q.den).length<=M
   . rw [decide_eq_true (show y6 M q from ⟨h1,h2⟩),decide_eq_false (by omega),decide_eq_false (by omega)];rfl
   . rw [decide_eq_false (fun h:y6 M q=>h2 h.2),decide_eq_true (show M<(dec q.den).length by omega),Bool.or_true];rfl
 . rw [decide_eq_false (fun h:y6 M q=>h1 h.1),decide_eq_true (show M<(dec q.num.natAbs).length by omega)];rfl
theorem zkq (va:Value) (q:Rat) (M:Nat) (w:World) (ha:VI w va q) (hl:zii 33554432 q) (hM:M<=50000):
 Calls Tryz.prog 78 #[va,.int .i64 (M:Int)] w (zca w (.bool (!decide (y6 M q)))):=by
 obtain ⟨ng,A,c,B,d,rfl,hng,ha1,ha2⟩:=ha.form
 have HB:=ze (zf w (.cells #[.bool ng,.slice A (len 1000000000 q.num.natAbs) c,.slice B (len 1000000000 q.den) d] 78))
 have HA:=ze (zE.below ha1 HB.out)
 have HD:=ze (zE.below ha2 HB.out)
 have HL1:=ze hl.1
 have HL2:=ze hl.2
 have HS:=ze (zcs M q)
 generalize len 1000000000 q.num.natAbs=n at HA HB HD |-
 generalize len 1000000000 q.den=m at HA HB HD |-
 clear ha ha1 ha2 hng hl
 by_cases g1:M<(dec q.num.natAbs).length
 . have HS' :=ze (show (!decide (y6 M q))=true by rw [HS.out,decide_eq_true g1];rfl)
   clear HS
   go_enter Tryz.func78,Tryz.ntmps78
   go_wp2_with fail;refine (yS _ q.num.natAbs _ HA.out HL1.out).mono ?_;rintro e w1 ⟨rfl,rfl⟩;go_wp2_with fail;go_ret;exact ⟨zQ HS'.out,HB.out⟩
 . by_cases g2:M<(dec q.den).length
   . have HS' :=ze (show (!decide (y6 M q))=true by rw [HS.out,decide_eq_true g2,Bool.or_true])
     clear HS
     go_enter Tryz.func78,Tryz.ntmps78
     go_wp2_with fail;refine (yS _ q.num.natAbs _ HA.out HL1.out).mono ?_;rintro e w1 ⟨rfl,rfl⟩;go_wp2_with fail;refine (yS _ q.den _ HD.out HL2.out).mono ?_;rintro e w1 ⟨rfl,rfl⟩;go_wp2_with fail;go_ret;exact ⟨zQ HS'.out,HB.out⟩
   . have HS' :=ze (show (!decide (y6 M q))=false by rw [HS.out,decide_eq_false g1,decide_eq_false g2];rfl)
     clear HS
     go_enter Tryz.func78,Tryz.ntmps78
     go_wp2_with fail;refine (yS _ q.num.natAbs _ HA.out HL1.out).mono ?_;rintro e w1 ⟨rfl,rfl⟩;go_wp2_with fail;refine (yS _ q.den _ HD.out HL2.out).mono ?_;rintro e w1 ⟨rfl,rfl⟩;go_wp2_with fail;go_ret;exact ⟨zQ HS'.out,HB.out⟩
theorem zid {l:List UInt8} {q:Rat} (h:zr l=some q):zii 50000 q:=by
 have:=(yB.1 h).2
 exact ⟨Nat.le_trans (ZU (by omega)) this.1,Nat.le_trans (ZU (by omega)) this.2⟩
theorem zk2 (s:ByteArray) (w:World) (hs:s.size<=1073741824):
 Calls Tryz.prog 139 #[.string s] w (XT w (.bool (x9 (bts s)))):=by
 by_cases h0:s.size=0
 . have he:=zb3 h0
   have HN:=ze (show x9 (bts s)=false by unfold x9;rw [zk,h0];rfl);clear h0
   go_enter Tryz.func139,Tryz.ntmps139
   go_wp2_with fail;go_ret;exact ⟨zQ HN.out,rfl⟩
 . have hp:0<s.size:=by omega
   have hne:=Ys hp;clear h0
   by_cases h16:16<s.size
   . have HN:=ze (show x9 (bts s)=false by unfold x9;rw [zk,decide_eq_false (show ¬ s.size<=16 by omega)];simp)
     go_enter Tryz.func139,Tryz.ntmps139
     go_wp2_with fail;go_ret;exact ⟨zQ HN.out,rfl⟩
   . cases hl:zc8 s[0] with
     | false=>
       have HN:=ze (zf6 hp hl)
       have hc:s[0].toNat<97\/122<s[0].toNat:=by
        have:¬ (97<=s[0].toNat/\s[0].toNat<=122):=by intro h;rw [ZO.2 h] at hl;cases hl
        omega
       rcases hc with hc | hc
       . clear hl
         go_enter Tryz.func139,Tryz.ntmps139
         go_wp2_with fail;go_ret;exact ⟨zQ HN.out,rfl⟩
       . have hc2:¬ s[0].toNat<97:=by omega
         clear hl
         go_enter Tryz.func139,Tryz.ntmps139
         go_wp2_with fail;go_ret;exact ⟨zQ HN.out,rfl⟩
     | true=>
       obtain ⟨hc1,hc2⟩:=ZO.1 hl;have hd1:¬ s[0].toNat<97:=by omega
       have hd2:¬ 122<s[0].toNat:=by omega
       have HL:=ze hl;have H16:=ze (show s.size<=16 by omega);clear hl hc1 hc2
       go_enter Tryz.func139,Tryz.ntmps139
       go_wp2_with fail
       go_loop [3] (fun iv=>∃ k:Nat,k<=s.size/\iv= .int .i64 k/\Hid (∀ j (h:j<s.size),j<k->yt s[j]=true)) (fun iv=>s.size - (intOf iv).toNat)
       case atStart=>exact ⟨0,Nat.zero_le _,rfl,fun j _ h=>by omega⟩
       case round=>
        obtain ⟨k,hk,rfl,HD⟩:=hrel;clear hd1 hd2
        by_cases hlt:k<s.size
        . cases hd:yt s[k] with
          | true=>
            have HD1:=ze hd
            have hnext:∀ j (h:j<s.size),j<k+1->yt s[j]=true:=by
             intro j hj hlt2
             rcases Nat.lt_or_ge j k with h3 | h3
             . exact HD.out j hj h3
             . obtain rfl:j=k:=by omega
               exact HD1.out
            have HNX:=ze hnext;clear hnext
            rcases Va hd with ⟨h1,h2⟩ | ⟨h1,h2,h3⟩ | h1
            . clear hd
              go_wp2_with fail;go_round
              case rel=>exact ⟨k+1,by omega,by go_num,HNX.out⟩
              case measure=>simp [intOf];omega
            . have h4:¬ 97<=s[k].toNat:=by omega
              clear hd h3;go_wp2_with fail;go_round
              case rel=>exact ⟨k+1,by omega,by go_num,HNX.out⟩
              case measure=>simp [intOf];omega
            . have h4:¬ 97<=s[k].toNat:=by omega
              have h5:¬ 48<=s[k].toNat:=by omega
              have h6:((s[k].toNat:Int) != 45)=false:=by rw [h1];rfl
              clear hd;clear h1;go_wp2_with fail;go_round
              case rel=>exact ⟨k+1,by omega,by go_num,HNX.out⟩
              case measure=>simp [intOf];omega
          | false=>
            have HN:=ze (zf5 hlt hd)
            have h6:((s[k].toNat:Int) != 45)=true:=by
             rw [bne_iff_ne];have:=Zx hd
             omega
            rcases Zx hd with ⟨h1,_⟩ | ⟨h1,h2⟩ | h1
            . have h4:¬ 97<=s[k].toNat:=by omega
              have h5:¬ 48<=s[k].toNat:=by omega
              clear hd;go_wp2_with fail;go_ret;exact ⟨zQ HN.out,rfl⟩
            . have h4:¬ 97<=s[k].toNat:=by omega
              have h5:48<=s[k].toNat:=by omega
              have h7:decide ((s[k].toNat:Int)<=57)=false:=by rw [decide_eq_false_iff_not];omega
              clear hd;go_wp2_with fail;go_ret;exact ⟨zQ HN.out,rfl⟩
            . have h4:97<=s[k].toNat:=by omega
              have h5:48<=s[k].toNat:=by omega
              have h7:decide ((s[k].toNat:Int)<=57)=false:=by rw [decide_eq_false_iff_not];omega
              have h8:decide ((s[k].toNat:Int)<=122)=false:=by rw [decide_eq_false_iff_not];omega
              clear hd;go_wp2_with fail;go_ret;exact ⟨zQ HN.out,rfl⟩
        . obtain rfl:k=s.size:=by omega
          have HN:=ze (zfv hp H16.out HL.out (fun j hj=>HD.out j hj hj));go_wp2_with fail;go_ret;exact ⟨zQ HN.out,rfl⟩
end Go.Proofs.YtnpbflhjglkokaaGreatDoor
