/- Parts of the proof: memory, numbers, walks of the functions that are called. -/
import Derived.Test.YtnpbflhjglkokaaGreatDoorMn18
import Derived.Test.YtnpbflhjglkokaaGreatDoorMn16
set_option linter.unusedVariables false
set_option linter.unusedSimpArgs false
set_option maxRecDepth 100000
set_option maxHeartbeats 32000000
namespace Go.Proofs.YtnpbflhjglkokaaGreatDoor
open Go.RowKit Go.Deep
attribute [local go_sem ↓] Go.wp_at_zero Go.wp_at_succ
def Yr (w:World) (g:Nat):Prop:=∃ (ng:Bool) (A:Option Addr) (n c:Nat) (B:Option Addr) (m d:Nat),Blk w g 78 #[.bool ng,.slice A n c,.slice B m d]
theorem Vg {w w' :World} {g:Nat} (hb:Below w.heap.size w w') (h:Hid (Yr w g)):Hid (Yr w' g):=by
 obtain ⟨ng,A,n,c,B,m,d,h⟩:=h.out
 exact ⟨ng,A,n,c,B,m,d,h.below hb h.lt⟩
theorem zbk {w w' :World} {v:Value} {n:Nat} (hb:Below w.heap.size w w') (h:Hid (zB w v n)):Hid (zB w' v n):=zB.below h.out hb
section
variable {W w0:World} {g g' i n c m d k:Nat} {ng:Bool} {A B:Option Addr} {v:Value}
theorem XQ (h:Hid (Yr W g)):Hid (Yr (World.ref W g ng A n c B m d) g):=by
 obtain ⟨ng,A,n,c,B,m,d,h⟩:=h.out
 exact ⟨_,_,_,_,_,_,_,xk h⟩
theorem Xc (hg:w0.heap.size<=g) (h:Hid (Below w0.heap.size w0 W)):Hid (Below w0.heap.size w0 (World.ref W g ng A n c B m d)):=y7 h.out hg
theorem ZV (hr:Hid (Yr W g)) (h:Hid (zB W v k)):Hid (zB (World.ref W g ng A n c B m d) v k):=by
 obtain ⟨ng,A,n,c,B,m,d,hr⟩:=hr.out
 exact xa h.out hr
theorem Y6 (hne:g≠g') (h:W.cell? ⟨g,i,none⟩=some v):(World.ref W g' ng A n c B m d).cell? ⟨g,i,none⟩=some v:=by
 rw [<- h]
 simp only [World.ref]
 rw [World.cell?_setCell_other,World.cell?_setCell_other,World.cell?_setCell_other]
 all_goals (intro e;injection e with e;exact hne e.symm)
theorem zb3 (h:k<W.heap.size):k<(World.ref W g' ng A n c B m d).heap.size:=by
 simp only [World.ref,World.setCell,Array.size_modify]
 exact h
end
def AggN (v:Value):Prop:=∃ (ng:Bool) (A:Option Addr) (n c:Nat) (B:Option Addr) (m d:Nat),v= .agg #[.bool ng,.slice A n c,.slice B m d]
def yN (w:World) (l:List UInt8) (e:Ending) (w' :World):Prop:=
 ∃ v b,e= .returned (.tuple #[v,.bool b])/\AggN v/\b=(zp l).isSome/\(∀ q,zp l=some q->zfc w' v q)/\Below w.heap.size w w'
theorem yN.no {w w' :World} {l:List UInt8} {v:Value} (h:zp l=none) (hv:AggN v) (hb:Below w.heap.size w w'):yN w l (.returned (.tuple #[v,.bool false])) w' :=
 ⟨v,false,rfl,hv,by rw [h];rfl,fun q hq=>(by rw [h] at hq;cases hq),hb⟩
theorem yN.maybe {w w' :World} {l:List UInt8} {v:Value} {q:Rat} {b:Bool} (h:zp l=if zM q=l then some q else none) (hb' :b=decide (zM q=l)) (hv:zfc w' v q) (hb:Below w.heap.size w w'):
 yN w l (.returned (.tuple #[v,.bool b])) w' :=by
 subst hb'
 by_cases he:zM q=l
 . rw [if_pos he] at h
   refine ⟨v,_,rfl,?_,by rw [h,decide_eq_true he];rfl,fun q' hq=>?_,hb⟩
   . obtain ⟨ng,A,n,c,B,m,d,rfl,_⟩:=hv;exact ⟨_,_,_,_,_,_,_,rfl⟩
   . rw [h] at hq;injection hq with hq;rw [<- hq];exact hv
 . rw [if_neg he] at h
   rw [decide_eq_false he];refine yN.no h ?_ hb;obtain ⟨ng,A,n,c,B,m,d,rfl,_⟩:=hv;exact ⟨_,_,_,_,_,_,_,rfl⟩
theorem ZG {ng:Bool} {n d M:Nat} (hd:0<d) (h1:len 1000000000 n<=M) (h2:len 1000000000 d<=M):zn4 M (yO ng n d):=by
 obtain ⟨e1,e2,_⟩:=VN ng n d hd
 unfold zn4
 rw [e1,e2]
 exact ⟨Nat.le_trans (xe (by omega) (Nat.div_le_self _ _)) h1,Nat.le_trans (xe (by omega) (Nat.div_le_self _ _)) h2⟩
theorem znl {l:List UInt8} {K:Nat} (h:zR l=true) (hl:l.length<=K):len 1000000000 (zq l)<=K:=by
 unfold zR at h
 rw [Bool.and_eq_true] at h
 have h1:=Zr h.1
 refine zN (by omega) (Nat.lt_of_lt_of_le h1 ?_)
 exact Nat.le_trans (Nat.pow_le_pow_left (by decide:10<=1000000000) _) (Nat.pow_le_pow_right (by decide) hl)
theorem zf1 {l:List UInt8} (h:zR l=true) (hl:l.length<=50000):len 1000000000 (zq l)<=50000:=znl h hl
theorem zj4 (l:List UInt8) (s:ByteArray):(l == s.toList)=decide (l=bts s):=by
 rw [Lib.toList_data]
 show (l == bts s)=_
 by_cases h:l=bts s
 . rw [decide_eq_true h];exact beq_iff_eq.2 h
 . rw [decide_eq_false h];exact beq_eq_false_iff_ne.2 h
theorem Y0 {l:List UInt8} (h:zR l=true):l.all yp=true:=by
 unfold zR at h;rw [Bool.and_eq_true] at h;exact h.1
theorem zg5 (s:ByteArray) (w:World) (hs:s.size<=1073741824):
 Calls Tryz.prog 88 #[.string s] w (yN w (bts s)):=by
 have HWR:=ze (zf w (.cells #[.bool false,.slice none 0 0,.slice none 0 0] 78))
 have HKR:=ze (Blk.new w 78 #[.bool false,.slice none 0 0,.slice none 0 0])
 by_cases hlong:100002<s.size
 . have HP:=ze (zjj (l:=bts s) (by rw [zi];exact hlong))
   have hlI:decide (100002<(s.size:Int))=true:=by rw [decide_eq_true_eq];omega
   clear hlong
   go_enter Tryz.func88,Tryz.ntmps88
   go_wp2_with fail;have kR2:=xk (ng:=false) (A:=none) (n:=0) (c:=0) (B:=none) (m:=0) (d:=0) HKR.out;have e0:=kR2.cell 0;have e1:=kR2.cell 1;have e2:=kR2.cell 2;simp only [World.ref] at e0 e1 e2;simp at e0 e1 e2;refine bodyPost_ret (v:=.tuple #[.agg #[.bool false,.slice none 0 0,.slice none 0 0],.bool false]) (by simp [results,Tryz.results88,go_sem,e0,e1,e2]) rfl ?_
   first
   | exact yN.no HP.out ⟨_,_,_,_,_,_,_,rfl⟩ HWR.out
   | exact yN.no HP.out ⟨_,_,_,_,_,_,_,rfl⟩ (y7 (g:=w.heap.size) (ng:=false) (A:=none) (n:=0) (c:=0) (B:=none) (m:=0) (d:=0) HWR.out (Nat.le_refl _))
 . have HLS:=ze (show s.size<=100002 by omega)
   have hlI:decide (100002<(s.size:Int))=false:=by rw [decide_eq_false_iff_not];omega
   clear hlong
   obtain ⟨ng,t,HN,HT,HTS,hcase⟩:∃ (ng:Bool) (t:ByteArray),Hid (ng=yf (bts s))/\Hid (bts t=zk (bts s))/\Hid (t.size<=1073741824)/\
    ((s.toList.isEmpty=true/\ng=false/\s=t)\/(∃ h:0<s.size,((s[0].toNat:Int) == 45)=false/\ng=false/\s=t/\s.toList.isEmpty=false)\/(∃ h:0<s.size,((s[0].toNat:Int) == 45)=true/\ng=true/\t=s.extract 1 s.size/\s.toList.isEmpty=false)):=by
    by_cases h0:0<s.size
    . have hne:s.toList.isEmpty=false:=by
       rw [Bool.eq_false_iff];intro e;have e:=List.isEmpty_iff.1 e;have:=congrArg List.length e;rw [Lib.toList_data] at this;simp at this;rw [this] at h0;exact absurd h0 (by decide)
      have hh:(bts s).head?=some s[0]:=by
       have:=xS s 0 h0;rw [List.head?_eq_getElem?,List.getElem?_eq_getElem (by rw [zi];exact h0),this]
      by_cases h1:s[0]=45
      . have hsg:yf (bts s)=true:=by unfold yf;rw [hh,h1];rfl
        refine ⟨true,s.extract 1 s.size,hsg.symm,?_,?_,.inr (.inr ⟨h0,by rw [h1];rfl,rfl,rfl,hne⟩)⟩
        . show _=_
          rw [xi,List.take_of_length_le (by rw [zi];exact Nat.le_refl _)];have:=Z2 hsg
          conv=>lhs;rw [this]
          rfl
        . show _<=_
          rw [ByteArray.size_extract];omega
      . have hsg:yf (bts s)=false:=by
         unfold yf;rw [hh];rw [beq_eq_false_iff_ne];intro e;injection e with e;exact h1 e
        refine ⟨false,s,hsg.symm,(vN hsg).symm,hs,.inr (.inl ⟨h0,?_,rfl,rfl,hne⟩)⟩;rw [beq_eq_false_iff_ne];intro e;exact h1 (UInt8.toNat_inj.1 (by have:(45:UInt8).toNat=45:=rfl;omega))
    . have he:bts s=[]:=by
       apply List.eq_nil_of_length_eq_zero;rw [zi];omega
      refine ⟨false,s,by rw [he];exact rfl,by rw [he];exact rfl,hs,.inl ⟨?_,rfl,rfl⟩⟩;rw [Lib.toList_data];unfold bts at he;rw [show s.data.toList=[] from he];rfl
   have hcut:∀ W,Calls Tryz.prog 114 #[.string t,.int .u8 47] W (fun e w' =>∃ a b n,e= .returned (.tuple #[.string a,.string b,.bool (has 47 (zk (bts s)))])/\bts a=ahead 47 (zk (bts s))/\bts b=(if has 47 (zk (bts s))=true then zS 47 (zk (bts s)) else [])/\w' =W.drewN n):=by
    intro W;refine (zfa t 47 W HTS.out).mono ?_;rintro e w' ⟨a,b,h1,h2,h3,n,h4⟩;rw [HT.out] at h1 h2 h3;exact ⟨a,b,n,h1,h2,h3,h4⟩
   rcases hcase with ⟨z1,rfl,rfl⟩ | ⟨h0,z1,rfl,rfl,z2⟩ | ⟨h0,z1,rfl,rfl,z2⟩
   all_goals
    go_enter Tryz.func88,Tryz.ntmps88
    go_wp2_with fail;refine (hcut _).mono ?_;rintro e w1 ⟨a,b,n,rfl,ha,hb,rfl⟩;have HA:=ze ha
    have hal:(ahead 47 (zk (bts s))).length<=s.size:=by
     have h1:(ahead 47 (zk (bts s))).length<=(zk (bts s)).length:=(List.takeWhile_sublist _).length_le;have h2:(zk (bts s)).length<=(bts s).length:=by unfold zk;split<;>simp
     rw [zi] at h2
     omega
    have hbl:(zS 47 (zk (bts s))).length<=s.size:=by
     have h1:(zS 47 (zk (bts s))).length<=(zk (bts s)).length:=by
      unfold zS;have:=(List.dropWhile_sublist (fun x=>x != (47:UInt8)) (l:=zk (bts s))).length_le;rw [List.length_tail];omega
     have h2:(zk (bts s)).length<=(bts s).length:=by unfold zk;split<;>simp
     rw [zi] at h2
     omega
    have HAS:=ze (show a.size<=1073741824 by rw [<- zi,ha];omega);have HKR2:=ze (HKR.out.below (zF _ n) HKR.out.lt);have HWR2:=ze (zm HWR.out n);clear HKR HWR;have HKR:=HKR2;have HWR:=HWR2;clear HKR2 HWR2;generalize World.drewN _ n=W at HKR HWR |-;have r0:=HKR.out.cell 0;have r1:=HKR.out.cell 1;have r2:=HKR.out.cell 2;have f0:=HKR.out.frozen 0;have f1:=HKR.out.frozen 1;have f2:=HKR.out.frozen 2;have lR:=HKR.out.lt;simp at r0 r1 r2
    cases hh:has 47 (zk (bts s)) with
    | false=>
      have HT1:=ze (show yZ (bts s)=[49] by unfold yZ;rw [hh];rfl);clear hh hb ha hal hbl hcut z1;go_wp2_with fail;generalize hT9:(⟨#[49]⟩:ByteArray)=t;have HT:Hid (bts t=yZ (bts s)):=ze (by rw [HT1.out, <- hT9];rfl);have HTS:Hid (t.size<=1073741824):=ze (by rw [<- hT9];decide);clear hT9
      rcases Bool.eq_false_or_eq_true (zR (bts a)) with d1 | d1
      rotate_left
      . have HP:=ze (Z5 (.inl (by rw [<- HA.out];exact d1)))
        have HD1:=ze d1;clear d1;refine (yV a _ HAS.out).mono ?_;rintro e w1 ⟨rfl,rfl⟩;rw [HD1.out];go_wp2_with fail;have kR2:=xk (ng:=false) (A:=none) (n:=0) (c:=0) (B:=none) (m:=0) (d:=0) HKR.out;have e0:=kR2.cell 0;have e1:=kR2.cell 1;have e2:=kR2.cell 2;simp only [World.ref] at e0 e1 e2;simp at e0 e1 e2;refine bodyPost_ret (v:=.tuple #[.agg #[.bool false,.slice none 0 0,.slice none 0 0],.bool false]) (by simp [results,Tryz.results88,go_sem,e0,e1,e2]) rfl ?_
        first
        | exact yN.no HP.out ⟨_,_,_,_,_,_,_,rfl⟩ HWR.out
        | exact yN.no HP.out ⟨_,_,_,_,_,_,_,rfl⟩ (y7 (g:=w.heap.size) (ng:=false) (A:=none) (n:=0) (c:=0) (B:=none) (m:=0) (d:=0) HWR.out (Nat.le_refl _))
      . have HD1:=ze d1
        clear d1;refine (yV a _ HAS.out).mono ?_;rintro e w1 ⟨rfl,rfl⟩;rw [HD1.out];go_wp2_with fail;refine (yV t _ HTS.out).mono ?_;rintro e w1 ⟨rfl,rfl⟩
        rcases Bool.eq_false_or_eq_true (zR (bts t)) with d2 | d2
        rotate_left
        . have HP:=ze (Z5 (.inr (.inl (by rw [<- HT.out];exact d2))))
          rw [d2];clear d2;go_wp2_with fail;have kR2:=xk (ng:=false) (A:=none) (n:=0) (c:=0) (B:=none) (m:=0) (d:=0) HKR.out;have e0:=kR2.cell 0;have e1:=kR2.cell 1;have e2:=kR2.cell 2;simp only [World.ref] at e0 e1 e2;simp at e0 e1 e2;refine bodyPost_ret (v:=.tuple #[.agg #[.bool false,.slice none 0 0,.slice none 0 0],.bool false]) (by simp [results,Tryz.results88,go_sem,e0,e1,e2]) rfl ?_
          first
          | exact yN.no HP.out ⟨_,_,_,_,_,_,_,rfl⟩ HWR.out
          | exact yN.no HP.out ⟨_,_,_,_,_,_,_,rfl⟩ (y7 (g:=w.heap.size) (ng:=false) (A:=none) (n:=0) (c:=0) (B:=none) (m:=0) (d:=0) HWR.out (Nat.le_refl _))
        . have HD2:=ze d2
          rw [d2];clear d2
          by_cases l1:50000<a.size
          . have HP:=ze (Z5 (.inr (.inr (.inl (by rw [<- HA.out,zi];exact l1)))))
            go_wp2_with fail;have kR2:=xk (ng:=false) (A:=none) (n:=0) (c:=0) (B:=none) (m:=0) (d:=0) HKR.out;have e0:=kR2.cell 0;have e1:=kR2.cell 1;have e2:=kR2.cell 2;simp only [World.ref] at e0 e1 e2;simp at e0 e1 e2;refine bodyPost_ret (v:=.tuple #[.agg #[.bool false,.slice none 0 0,.slice none 0 0],.bool false]) (by simp [results,Tryz.results88,go_sem,e0,e1,e2]) rfl ?_
            first
            | exact yN.no HP.out ⟨_,_,_,_,_,_,_,rfl⟩ HWR.out
            | exact yN.no HP.out ⟨_,_,_,_,_,_,_,rfl⟩ (y7 (g:=w.heap.size) (ng:=false) (A:=none) (n:=0) (c:=0) (B:=none) (m:=0) (d:=0) HWR.out (Nat.le_refl _))
          . by_cases l2:50000<t.size
            . have HP:=ze (Z5 (.inr (.inr (.inr (.inl (by rw [<- HT.out,zi];exact l2))))))
              go_wp2_with fail;have kR2:=xk (ng:=false) (A:=none) (n:=0) (c:=0) (B:=none) (m:=0) (d:=0) HKR.out;have e0:=kR2.cell 0;have e1:=kR2.cell 1;have e2:=kR2.cell 2;simp only [World.ref] at e0 e1 e2;simp at e0 e1 e2;refine bodyPost_ret (v:=.tuple #[.agg #[.bool false,.slice none 0 0,.slice none 0 0],.bool false]) (by simp [results,Tryz.results88,go_sem,e0,e1,e2]) rfl ?_
              first
              | exact yN.no HP.out ⟨_,_,_,_,_,_,_,rfl⟩ HWR.out
              | exact yN.no HP.out ⟨_,_,_,_,_,_,_,rfl⟩ (y7 (g:=w.heap.size) (ng:=false) (A:=none) (n:=0) (c:=0) (B:=none) (m:=0) (d:=0) HWR.out (Nat.le_refl _))
            . have HL1:=ze (show (bts a).length<=50000 by rw [zi];omega)
              have HL2:=ze (show (bts t).length<=50000 by rw [zi];omega);have HIF:=ze (zio (l:=bts s) (by rw [<- HA.out];exact HD1.out) (by rw [<- HT.out];exact HD2.out) (by rw [<- HA.out];exact HL1.out) (by rw [<- HT.out];exact HL2.out));go_wp2_with fail;refine (Zt t _ (Y0 HD2.out) (by have:=HL2.out;rw [zi] at this;omega)).mono ?_;rintro e w2 ⟨v,rfl,hv,hb2⟩;have hlv:=zf1 HD2.out HL2.out;have hln:=zf1 HD1.out HL1.out;rw [HT.out] at hv hlv;rw [HA.out] at hln;obtain ⟨dv,hdv⟩:∃ dv,zq (yZ (bts s))=dv:=⟨_,rfl⟩;obtain ⟨nv,hnv⟩:∃ nv,zq (ahead 47 (zk (bts s)))=nv:=⟨_,rfl⟩;rw [hdv] at hv hlv HIF;rw [hnv] at hln HIF;have HDV:=ze hdv;have HNV:=ze hnv;obtain ⟨A,c,rfl⟩:=hv.form;have HV:=ze hv;have HLV:=ze hlv;have HLN:=ze hln;have HWR2:=ze (ext HWR.out hb2);have HKR2:=ze (HKR.out.below hb2 HKR.out.lt);clear r0 r1 r2 f0 f1 f2 lR HKR HWR;have HKR:=HKR2;have HWR:=HWR2;clear HKR2 HWR2;have r0:=HKR.out.cell 0;have r1:=HKR.out.cell 1;have r2:=HKR.out.cell 2;have f0:=HKR.out.frozen 0;have f1:=HKR.out.frozen 1;have f2:=HKR.out.frozen 2;have lR:=HKR.out.lt;simp at r0 r1 r2
              clear hv hlv hln hb2 l1 l2 hdv hnv
              by_cases hz:dv=0
              . subst hz
                have HP:=ze (Z5 (.inr (.inr (.inr (.inr HDV.out)))));have hz0:((len 1000000000 0:Int) == 0)=true:=by rw [Xl];rfl
                go_wp2_with fail;have kR2:=xk (ng:=false) (A:=none) (n:=0) (c:=0) (B:=none) (m:=0) (d:=0) HKR.out;have e0:=kR2.cell 0;have e1:=kR2.cell 1;have e2:=kR2.cell 2;simp only [World.ref] at e0 e1 e2;simp at e0 e1 e2;refine bodyPost_ret (v:=.tuple #[.agg #[.bool false,.slice none 0 0,.slice none 0 0],.bool false]) (by simp [results,Tryz.results88,go_sem,e0,e1,e2]) rfl ?_
                first
                | exact yN.no HP.out ⟨_,_,_,_,_,_,_,rfl⟩ HWR.out
                | exact yN.no HP.out ⟨_,_,_,_,_,_,_,rfl⟩ (y7 (g:=w.heap.size) (ng:=false) (A:=none) (n:=0) (c:=0) (B:=none) (m:=0) (d:=0) HWR.out (Nat.le_refl _))
              . have hz0:((len 1000000000 dv:Int) == 0)=false:=by rw [beq_eq_false_iff_ne];have:=VJ (β:=1000000000) (n:=dv) (by omega) (by omega);omega
                have HZ:=ze (show 0<dv by omega);clear hz;go_wp2_with fail;refine (Zt a _ (Y0 HD1.out) (by have:=HL1.out;rw [zi] at this;omega)).mono ?_;rintro e w3 ⟨v3,rfl,hv3,hb3⟩;rw [HA.out,HNV.out] at hv3;have HV3:=ze hv3;have HVa:=ze (zB.below HV.out hb3);have HWR3:=ze (ext HWR.out hb3);have HKR3:=ze (HKR.out.below hb3 HKR.out.lt);clear hv3 hb3 r0 r1 r2 f0 f1 f2 lR HKR HWR;go_wp2_with fail;refine (ZK _ _ _ nv dv _ HV3.out HVa.out HZ.out (Nat.le_trans HLN.out (by decide)) (Nat.le_trans HLV.out (by decide))).mono ?_;rintro e w4 ⟨v4,rfl,hv4,hb4⟩;rw [HN.out] at hv4;obtain ⟨q,hq⟩:∃ q,q=yO (yf (bts s)) nv dv:=⟨_,rfl⟩;have HQL:=ze (show zn4 33554432 q by rw [hq];exact ZG HZ.out (Nat.le_trans HLN.out (by decide)) (Nat.le_trans HLV.out (by decide)));rw [<- hq] at hv4 HIF;obtain ⟨nq,A5,c5,B5,d5,rfl,hng,ha1,ha2⟩:=hv4.form;have HNG:=ze hng;have hb5:=zf w4 (.cells #[.bool nq,.slice A5 (len 1000000000 q.num.natAbs) c5,.slice B5 (len 1000000000 q.den) d5] 78);have HKR5:=ze (show Yr _ w.heap.size from ⟨_,_,_,_,_,_,_,HKR3.out.below (ext hb4 hb5) HKR3.out.lt⟩)
                have HWR5:=ze (ext HWR3.out (ext hb4 hb5));have HS1:=ze (zB.below ha1 hb5);have HS2:=ze (zB.below ha2 hb5);have HKQ:=ze (Blk.new w4 78 #[.bool nq,.slice A5 (len 1000000000 q.num.natAbs) c5,.slice B5 (len 1000000000 q.den) d5]);have lgq:w.heap.size<w4.heap.size:=(HKR3.out.below hb4 HKR3.out.lt).lt;obtain ⟨n5,hn5⟩:∃ n5,len 1000000000 q.num.natAbs=n5:=⟨_,rfl⟩;obtain ⟨m5,hm5⟩:∃ m5,len 1000000000 q.den=m5:=⟨_,rfl⟩;rw [hn5,hm5] at HKR5 HWR5 HKQ |-;rw [hn5,hm5] at HS1 HS2;clear hq hv4 hng hb4 hb5 ha1 ha2 hn5 hm5 HKR3 HWR3 HV3 HVa HV;go_wp2_with fail;generalize hgq:w4.heap.size=gq at HKQ lgq |-;generalize w4.alloc (.cells #[.bool nq,.slice A5 n5 c5,.slice B5 m5 d5] 78)=W7 at HS1 HS2 HKR5 HWR5 HKQ |-;clear hgq;have hlq:=HKQ.out.lt;have q0:=HKQ.out.cell 0;have q1:=HKQ.out.cell 1;have q2:=HKQ.out.cell 2;simp at q0 q1 q2;have HRES:=ze (show Yr W7.drew w.heap.size from HKR5.out);have HWX:=ze (show Below w.heap.size w W7.drew from zm HWR5.out 1);have HY1:=ze (show zB W7.drew _ q.num.natAbs from zB.below HS1.out (zF W7 1))
                have HY2:=ze (show zB W7.drew _ q.den from zB.below HS2.out (zF W7 1));clear HS1 HS2
                go_region_held3 (fun w' =>w'.cell? ⟨gq,0,none⟩=some (.bool nq)/\w'.cell? ⟨gq,1,none⟩=some (.slice A5 n5 c5)/\w'.cell? ⟨gq,2,none⟩=some (.slice B5 m5 d5)/\gq<w'.heap.size/\Hid (Yr w' w.heap.size)/\Hid (Below w.heap.size w w')/\Hid (zB w' (.slice A5 n5 c5) q.num.natAbs)/\Hid (zB w' (.slice B5 m5 d5) q.den))
                 (first
                   | with_reducible exact ⟨by go_keep,by go_keep,by go_keep,by first | (simp;done) | (simp;assumption),HRES,HWX,HY1,HY2⟩
                   | (go_split_ands;with_reducible exact ⟨Y6 (by omega) ‹_›,Y6 (by omega) ‹_›,Y6 (by omega) ‹_›,zb3 ‹_›,XQ ‹_›,Xc (by omega) ‹_›,ZV ‹_› ‹_›,ZV ‹_› ‹_›⟩)
                   | (go_split_ands;with_reducible exact ⟨zj ‹_› ‹_› ‹_›,zj ‹_› ‹_› ‹_›,zj ‹_› ‹_› ‹_›,zX ‹_› ‹_›,Vg ‹_› ‹_›,zt ‹_› ‹_›,zbk ‹_› ‹_›,zbk ‹_› ‹_›⟩)
                   | go_keep)
                 (first
                   | (go_at_call 48;refine (Y2 _ q _ ⟨_,_,_,_,_,_,_,rfl,HNG.out,zU (by go_split_ands;assumption),zU (by go_split_ands;assumption)⟩ HQL.out).mono ?_;rintro e wo ⟨rfl,hbo⟩;obtain ⟨ngr,Ar,kr,cr,Br,krx,crx,kR⟩:=(Vg (g:=w.heap.size) hbo (by go_split_ands;assumption)).out;have r0:=kR.cell 0;have r1:=kR.cell 1;have r2:=kR.cell 2;have f0:=kR.frozen 0;have f1:=kR.frozen 1;have f2:=kR.frozen 2;simp at r0 r1 r2;have HKR:=ze kR;clear kR))
                all_goals
                 go_split_ands;have kR2:=xk (ng:=nq) (A:=A5) (n:=n5) (c:=c5) (B:=B5) (m:=m5) (d:=d5) HKR.out;have hR1:=zU (by assumption:Hid (zB (World.ref wo w.heap.size nq A5 n5 c5 B5 m5 d5) (.slice A5 n5 c5) q.num.natAbs));have hR2:=zU (by assumption:Hid (zB (World.ref wo w.heap.size nq A5 n5 c5 B5 m5 d5) (.slice B5 m5 d5) q.den));have hRW:=zU (by assumption:Hid (Below w.heap.size w (World.ref wo w.heap.size nq A5 n5 c5 B5 m5 d5)));have e0:=kR2.cell 0;have e1:=kR2.cell 1;have e2:=kR2.cell 2;simp only [World.ref] at e0 e1 e2;simp at e0 e1 e2;go_wp2;refine bodyPost_ret (v:=.tuple #[.agg #[.bool nq,.slice A5 n5 c5,.slice B5 m5 d5],.bool (zM q == s.toList)]) (by simp [results,Tryz.results88,go_sem,e0,e1,e2]) rfl ?_;exact yN.maybe HIF.out (zj4 _ _) ⟨_,_,_,_,_,_,_,rfl,HNG.out,hR1,hR2⟩ hRW
    | true=>
      have HT:=ze (show bts b=yZ (bts s) by rw [hb,if_pos hh];unfold yZ;rw [hh];rfl);have HTS:=ze (show b.size<=1073741824 by rw [<- zi,hb,if_pos hh];omega);clear hh hb ha hal hbl hcut z1;obtain ⟨t,ht⟩:∃ t,t=b:=⟨b,rfl⟩;subst ht;go_wp2_with fail
      rcases Bool.eq_false_or_eq_true (zR (bts a)) with d1 | d1
      rotate_left
      . have HP:=ze (Z5 (.inl (by rw [<- HA.out];exact d1)))
        have HD1:=ze d1;clear d1;refine (yV a _ HAS.out).mono ?_;rintro e w1 ⟨rfl,rfl⟩;rw [HD1.out];go_wp2_with fail;have kR2:=xk (ng:=false) (A:=none) (n:=0) (c:=0) (B:=none) (m:=0) (d:=0) HKR.out;have e0:=kR2.cell 0;have e1:=kR2.cell 1;have e2:=kR2.cell 2;simp only [World.ref] at e0 e1 e2;simp at e0 e1 e2;refine bodyPost_ret (v:=.tuple #[.agg #[.bool false,.slice none 0 0,.slice none 0 0],.bool false]) (by simp [results,Tryz.results88,go_sem,e0,e1,e2]) rfl ?_
        first
        | exact yN.no HP.out ⟨_,_,_,_,_,_,_,rfl⟩ HWR.out
        | exact yN.no HP.out ⟨_,_,_,_,_,_,_,rfl⟩ (y7 (g:=w.heap.size) (ng:=false) (A:=none) (n:=0) (c:=0) (B:=none) (m:=0) (d:=0) HWR.out (Nat.le_refl _))
      . have HD1:=ze d1
        clear d1;refine (yV a _ HAS.out).mono ?_;rintro e w1 ⟨rfl,rfl⟩;rw [HD1.out];go_wp2_with fail;refine (yV t _ HTS.out).mono ?_;rintro e w1 ⟨rfl,rfl⟩
        rcases Bool.eq_false_or_eq_true (zR (bts t)) with d2 | d2
        rotate_left
        . have HP:=ze (Z5 (.inr (.inl (by rw [<- HT.out];exact d2))))
          rw [d2];clear d2;go_wp2_with fail;have kR2:=xk (ng:=false) (A:=none) (n:=0) (c:=0) (B:=none) (m:=0) (d:=0) HKR.out;have e0:=kR2.cell 0;have e1:=kR2.cell 1;have e2:=kR2.cell 2;simp only [World.ref] at e0 e1 e2;simp at e0 e1 e2;refine bodyPost_ret (v:=.tuple #[.agg #[.bool false,.slice none 0 0,.slice none 0 0],.bool false]) (by simp [results,Tryz.results88,go_sem,e0,e1,e2]) rfl ?_
          first
          | exact yN.no HP.out ⟨_,_,_,_,_,_,_,rfl⟩ HWR.out
          | exact yN.no HP.out ⟨_,_,_,_,_,_,_,rfl⟩ (y7 (g:=w.heap.size) (ng:=false) (A:=none) (n:=0) (c:=0) (B:=none) (m:=0) (d:=0) HWR.out (Nat.le_refl _))
        . have HD2:=ze d2
          rw [d2];clear d2
          by_cases l1:50000<a.size
          . have HP:=ze (Z5 (.inr (.inr (.inl (by rw [<- HA.out,zi];exact l1)))))
            go_wp2_with fail;have kR2:=xk (ng:=false) (A:=none) (n:=0) (c:=0) (B:=none) (m:=0) (d:=0) HKR.out;have e0:=kR2.cell 0;have e1:=kR2.cell 1;have e2:=kR2.cell 2;simp only [World.ref] at e0 e1 e2;simp at e0 e1 e2;refine bodyPost_ret (v:=.tuple #[.agg #[.bool false,.slice none 0 0,.slice none 0 0],.bool false]) (by simp [results,Tryz.results88,go_sem,e0,e1,e2]) rfl ?_
            first
            | exact yN.no HP.out ⟨_,_,_,_,_,_,_,rfl⟩ HWR.out
            | exact yN.no HP.out ⟨_,_,_,_,_,_,_,rfl⟩ (y7 (g:=w.heap.size) (ng:=false) (A:=none) (n:=0) (c:=0) (B:=none) (m:=0) (d:=0) HWR.out (Nat.le_refl _))
          . by_cases l2:50000<t.size
            . have HP:=ze (Z5 (.inr (.inr (.inr (.inl (by rw [<- HT.out,zi];exact l2))))))
              go_wp2_with fail;have kR2:=xk (ng:=false) (A:=none) (n:=0) (c:=0) (B:=none) (m:=0) (d:=0) HKR.out;have e0:=kR2.cell 0;have e1:=kR2.cell 1;have e2:=kR2.cell 2;simp only [World.ref] at e0 e1 e2;simp at e0 e1 e2;refine bodyPost_ret (v:=.tuple #[.agg #[.bool false,.slice none 0 0,.slice none 0 0],.bool false]) (by simp [results,Tryz.results88,go_sem,e0,e1,e2]) rfl ?_
              first
              | exact yN.no HP.out ⟨_,_,_,_,_,_,_,rfl⟩ HWR.out
              | exact yN.no HP.out ⟨_,_,_,_,_,_,_,rfl⟩ (y7 (g:=w.heap.size) (ng:=false) (A:=none) (n:=0) (c:=0) (B:=none) (m:=0) (d:=0) HWR.out (Nat.le_refl _))
            . have HL1:=ze (show (bts a).length<=50000 by rw [zi];omega)
              have HL2:=ze (show (bts t).length<=50000 by rw [zi];omega);have HIF:=ze (zio (l:=bts s) (by rw [<- HA.out];exact HD1.out) (by rw [<- HT.out];exact HD2.out) (by rw [<- HA.out];exact HL1.out) (by rw [<- HT.out];exact HL2.out));go_wp2_with fail;refine (Zt t _ (Y0 HD2.out) (by have:=HL2.out;rw [zi] at this;omega)).mono ?_;rintro e w2 ⟨v,rfl,hv,hb2⟩;have hlv:=zf1 HD2.out HL2.out;have hln:=zf1 HD1.out HL1.out;rw [HT.out] at hv hlv;rw [HA.out] at hln;obtain ⟨dv,hdv⟩:∃ dv,zq (yZ (bts s))=dv:=⟨_,rfl⟩;obtain ⟨nv,hnv⟩:∃ nv,zq (ahead 47 (zk (bts s)))=nv:=⟨_,rfl⟩;rw [hdv] at hv hlv HIF;rw [hnv] at hln HIF;have HDV:=ze hdv;have HNV:=ze hnv;obtain ⟨A,c,rfl⟩:=hv.form;have HV:=ze hv;have HLV:=ze hlv;have HLN:=ze hln;have HWR2:=ze (ext HWR.out hb2);have HKR2:=ze (HKR.out.below hb2 HKR.out.lt);clear r0 r1 r2 f0 f1 f2 lR HKR HWR;have HKR:=HKR2;have HWR:=HWR2;clear HKR2 HWR2;have r0:=HKR.out.cell 0;have r1:=HKR.out.cell 1;have r2:=HKR.out.cell 2;have f0:=HKR.out.frozen 0;have f1:=HKR.out.frozen 1;have f2:=HKR.out.frozen 2;have lR:=HKR.out.lt;simp at r0 r1 r2
              clear hv hlv hln hb2 l1 l2 hdv hnv
              by_cases hz:dv=0
              . subst hz
                have HP:=ze (Z5 (.inr (.inr (.inr (.inr HDV.out)))));have hz0:((len 1000000000 0:Int) == 0)=true:=by rw [Xl];rfl
                go_wp2_with fail;have kR2:=xk (ng:=false) (A:=none) (n:=0) (c:=0) (B:=none) (m:=0) (d:=0) HKR.out;have e0:=kR2.cell 0;have e1:=kR2.cell 1;have e2:=kR2.cell 2;simp only [World.ref] at e0 e1 e2;simp at e0 e1 e2;refine bodyPost_ret (v:=.tuple #[.agg #[.bool false,.slice none 0 0,.slice none 0 0],.bool false]) (by simp [results,Tryz.results88,go_sem,e0,e1,e2]) rfl ?_
                first
                | exact yN.no HP.out ⟨_,_,_,_,_,_,_,rfl⟩ HWR.out
                | exact yN.no HP.out ⟨_,_,_,_,_,_,_,rfl⟩ (y7 (g:=w.heap.size) (ng:=false) (A:=none) (n:=0) (c:=0) (B:=none) (m:=0) (d:=0) HWR.out (Nat.le_refl _))
              . have hz0:((len 1000000000 dv:Int) == 0)=false:=by rw [beq_eq_false_iff_ne];have:=VJ (β:=1000000000) (n:=dv) (by omega) (by omega);omega
                have HZ:=ze (show 0<dv by omega);clear hz;go_wp2_with fail;refine (Zt a _ (Y0 HD1.out) (by have:=HL1.out;rw [zi] at this;omega)).mono ?_;rintro e w3 ⟨v3,rfl,hv3,hb3⟩;rw [HA.out,HNV.out] at hv3;have HV3:=ze hv3;have HVa:=ze (zB.below HV.out hb3);have HWR3:=ze (ext HWR.out hb3);have HKR3:=ze (HKR.out.below hb3 HKR.out.lt);clear hv3 hb3 r0 r1 r2 f0 f1 f2 lR HKR HWR;go_wp2_with fail;refine (ZK _ _ _ nv dv _ HV3.out HVa.out HZ.out (Nat.le_trans HLN.out (by decide)) (Nat.le_trans HLV.out (by decide))).mono ?_;rintro e w4 ⟨v4,rfl,hv4,hb4⟩;rw [HN.out] at hv4;obtain ⟨q,hq⟩:∃ q,q=yO (yf (bts s)) nv dv:=⟨_,rfl⟩;have HQL:=ze (show zn4 33554432 q by rw [hq];exact ZG HZ.out (Nat.le_trans HLN.out (by decide)) (Nat.le_trans HLV.out (by decide)));rw [<- hq] at hv4 HIF;obtain ⟨nq,A5,c5,B5,d5,rfl,hng,ha1,ha2⟩:=hv4.form;have HNG:=ze hng;have hb5:=zf w4 (.cells #[.bool nq,.slice A5 (len 1000000000 q.num.natAbs) c5,.slice B5 (len 1000000000 q.den) d5] 78);have HKR5:=ze (show Yr _ w.heap.size from ⟨_,_,_,_,_,_,_,HKR3.out.below (ext hb4 hb5) HKR3.out.lt⟩)
                have HWR5:=ze (ext HWR3.out (ext hb4 hb5));have HS1:=ze (zB.below ha1 hb5);have HS2:=ze (zB.below ha2 hb5);have HKQ:=ze (Blk.new w4 78 #[.bool nq,.slice A5 (len 1000000000 q.num.natAbs) c5,.slice B5 (len 1000000000 q.den) d5]);have lgq:w.heap.size<w4.heap.size:=(HKR3.out.below hb4 HKR3.out.lt).lt;obtain ⟨n5,hn5⟩:∃ n5,len 1000000000 q.num.natAbs=n5:=⟨_,rfl⟩;obtain ⟨m5,hm5⟩:∃ m5,len 1000000000 q.den=m5:=⟨_,rfl⟩;rw [hn5,hm5] at HKR5 HWR5 HKQ |-;rw [hn5,hm5] at HS1 HS2;clear hq hv4 hng hb4 hb5 ha1 ha2 hn5 hm5 HKR3 HWR3 HV3 HVa HV;go_wp2_with fail;generalize hgq:w4.heap.size=gq at HKQ lgq |-;generalize w4.alloc (.cells #[.bool nq,.slice A5 n5 c5,.slice B5 m5 d5] 78)=W7 at HS1 HS2 HKR5 HWR5 HKQ |-;clear hgq;have hlq:=HKQ.out.lt;have q0:=HKQ.out.cell 0;have q1:=HKQ.out.cell 1;have q2:=HKQ.out.cell 2;simp at q0 q1 q2;have HRES:=ze (show Yr W7.drew w.heap.size from HKR5.out);have HWX:=ze (show Below w.heap.size w W7.drew from zm HWR5.out 1);have HY1:=ze (show zB W7.drew _ q.num.natAbs from zB.below HS1.out (zF W7 1))
                have HY2:=ze (show zB W7.drew _ q.den from zB.below HS2.out (zF W7 1));clear HS1 HS2
                go_region_held3 (fun w' =>w'.cell? ⟨gq,0,none⟩=some (.bool nq)/\w'.cell? ⟨gq,1,none⟩=some (.slice A5 n5 c5)/\w'.cell? ⟨gq,2,none⟩=some (.slice B5 m5 d5)/\gq<w'.heap.size/\Hid (Yr w' w.heap.size)/\Hid (Below w.heap.size w w')/\Hid (zB w' (.slice A5 n5 c5) q.num.natAbs)/\Hid (zB w' (.slice B5 m5 d5) q.den))
                 (first
                   | with_reducible exact ⟨by go_keep,by go_keep,by go_keep,by first | (simp;done) | (simp;assumption),HRES,HWX,HY1,HY2⟩
                   | (go_split_ands;with_reducible exact ⟨Y6 (by omega) ‹_›,Y6 (by omega) ‹_›,Y6 (by omega) ‹_›,zb3 ‹_›,XQ ‹_›,Xc (by omega) ‹_›,ZV ‹_› ‹_›,ZV ‹_› ‹_›⟩)
                   | (go_split_ands;with_reducible exact ⟨zj ‹_› ‹_› ‹_›,zj ‹_› ‹_› ‹_›,zj ‹_› ‹_› ‹_›,zX ‹_› ‹_›,Vg ‹_› ‹_›,zt ‹_› ‹_›,zbk ‹_› ‹_›,zbk ‹_› ‹_›⟩)
                   | go_keep)
                 (first
                   | (go_at_call 48;refine (Y2 _ q _ ⟨_,_,_,_,_,_,_,rfl,HNG.out,zU (by go_split_ands;assumption),zU (by go_split_ands;assumption)⟩ HQL.out).mono ?_;rintro e wo ⟨rfl,hbo⟩;obtain ⟨ngr,Ar,kr,cr,Br,krx,crx,kR⟩:=(Vg (g:=w.heap.size) hbo (by go_split_ands;assumption)).out;have r0:=kR.cell 0;have r1:=kR.cell 1;have r2:=kR.cell 2;have f0:=kR.frozen 0;have f1:=kR.frozen 1;have f2:=kR.frozen 2;simp at r0 r1 r2;have HKR:=ze kR;clear kR))
                all_goals
                 go_split_ands;have kR2:=xk (ng:=nq) (A:=A5) (n:=n5) (c:=c5) (B:=B5) (m:=m5) (d:=d5) HKR.out;have hR1:=zU (by assumption:Hid (zB (World.ref wo w.heap.size nq A5 n5 c5 B5 m5 d5) (.slice A5 n5 c5) q.num.natAbs));have hR2:=zU (by assumption:Hid (zB (World.ref wo w.heap.size nq A5 n5 c5 B5 m5 d5) (.slice B5 m5 d5) q.den));have hRW:=zU (by assumption:Hid (Below w.heap.size w (World.ref wo w.heap.size nq A5 n5 c5 B5 m5 d5)));have e0:=kR2.cell 0;have e1:=kR2.cell 1;have e2:=kR2.cell 2;simp only [World.ref] at e0 e1 e2;simp at e0 e1 e2;go_wp2;refine bodyPost_ret (v:=.tuple #[.agg #[.bool nq,.slice A5 n5 c5,.slice B5 m5 d5],.bool (zM q == s.toList)]) (by simp [results,Tryz.results88,go_sem,e0,e1,e2]) rfl ?_;exact yN.maybe HIF.out (zj4 _ _) ⟨_,_,_,_,_,_,_,rfl,HNG.out,hR1,hR2⟩ hRW
def zpy (u:Nat) (w:World) (uv ov:Value) (wr:World):Prop:=
 ∃ (r:Nat) (O:List Nat),uv= .int .u64 r/\Hid (r<=u/\val 1000000000 O+r*1000000000 ^ O.length=u)/\Hid (zy 1000000000 O)/\Hid (r=0->yv 1000000000 O)/\Hid (wr.ownsRow w.heap.size 3 1 ov O.length (vT O))/\Hid (Below w.heap.size w wr)
theorem zpy.step {u r:Nat} {O:List Nat} (h:val 1000000000 O+r*1000000000 ^ O.length=u):val 1000000000 (O ++ [r % 1000000000])+r / 1000000000*1000000000 ^ (O ++ [r % 1000000000]).length=u:=by
 rw [vG,List.length_append,List.length_singleton,Nat.pow_succ, <- h]
 have h1:=Nat.div_add_mod r 1000000000
 generalize 1000000000 ^ O.length=X
 have h2:r*X=(1000000000*(r / 1000000000)+r % 1000000000)*X:=by rw [h1]
 rw [h2,Nat.add_mul,Nat.mul_comm X 1000000000, <- Nat.mul_assoc,Nat.mul_comm (r / 1000000000) 1000000000,Nat.mul_comm X (r % 1000000000)]
 omega
theorem zjq {u r:Nat} {O:List Nat} (h:val 1000000000 O+r*1000000000 ^ O.length=u) (hu:u<18446744073709551616) (hr:0<r):O.length<=2:=by
 apply Classical.byContradiction
 intro hn
 have h1:1000000000 ^ 3<=1000000000 ^ O.length:=Nat.pow_le_pow_right (by omega) (by omega)
 have h2:=Nat.mul_le_mul hr h1
 omega
theorem zc9 (u:Nat) (w:World) (hu:u<18446744073709551616):Calls Tryz.prog 119 #[.int .u64 (u:Int)] w (zay w u):=by
 obtain ⟨i0,hi0,hz0,hz1,hz2⟩:=info_parts zag
 have HU:=ze hu
 clear hu
 go_enter Tryz.func119,Tryz.ntmps119
 go_wp2_with fail
 go_loopw [0,3] (zpy u w) (fun uv _ _=>(intOf uv).toNat)
 case atStart=>exact ⟨u,[],rfl,⟨Nat.le_refl _,by simp [val]⟩,zy.nil _,fun _=>yv.nil _,World.ownsRow_nil _ _ _ _,yC _⟩
 case round=>
  obtain ⟨r,O,rfl,HV,HS,HC,HO,HB⟩:=hrel
  have hrb:r<18446744073709551616:=Nat.lt_of_le_of_lt HV.out.1 HU.out
  by_cases h0:0<r
  . have hol:=zjq HV.out.2 HU.out h0
    have hd1:(r % 1000000000:Nat)<1000000000:=Nat.mod_lt _ (by omega);have hrd:=vM wr 3 (.int .i64 ((r:Int) % 1000000000))
    have h1c:∀ v∈[Value.int .i64 ((r:Int) % 1000000000)],v.oneCell' =true:=by
     intro v hv;rw [List.mem_singleton] at hv;subst hv;rfl
    have hrI:(0:Int)<(r:Int):=by omega
    go_wp2_with (at_builtin;refine yq _ rfl (.tmp 6) (.tmp 10) _ rfl w.heap.size 3 i0 _ 1 8 Tryz.underlying76 hi0 hz0 hz1 hz2 rfl (by omega) _ O.length (vT O) rfl (HO.out.alloc _) _ (some ⟨wr.heap.size,0,none⟩) 1 1 _ rfl hrd h1c ?o2 ?o3 ?o4 ?_)
    case o2=>unfold maxLen;omega
    case o3=>omega
    case o4=>have:=HB.out.size;simp;omega
    intro v3 w3 hown3 hgr3 hat3;have HO3:=ze hown3;have HB3:Hid (Below w.heap.size w w3):=ze ((HB.out.alloc HB.out.size _).grown hgr3 (by have:=HB.out.size;simp;omega) (fun k hk=>(HO.out.lt k hk).1));clear hown3 hgr3 hat3 hrd h1c;go_wp2_with fail;go_roundw
    case rel=>
     refine ⟨r / 1000000000,O ++ [r % 1000000000],by go_num,⟨Nat.le_trans (Nat.div_le_self _ _) HV.out.1,zpy.step HV.out.2⟩,HS.out.append (zy.cons hd1 (zy.nil _)),fun h=>?_,?_,HB3.out⟩
     . refine yv.mk_ (HS.out.append (zy.cons hd1 (zy.nil _))) (fun _=>?_)
       simp
       omega
     . rw [List.length_append,YJ]
       exact HO3.out
    case measure=>simp [intOf];omega
  . obtain rfl:r=0:=by omega
    obtain ⟨A,c,rfl,h2,h3,h4⟩:=Xa HO.out;have HR:=ze h4;have hv:=HV.out.2;rw [Nat.zero_mul,Nat.add_zero] at hv;have HVV:=ze hv;have HCC:=ze (HC.out rfl);clear h4 hv;go_wp2_with fail;go_ret;exact ⟨_,rfl,⟨A,c,O,rfl,h2,h3,HR.out,HCC.out,HVV.out⟩,HB.out⟩
theorem zgk (u:Nat) (w:World) (hu:u<9223372036854775808):Calls Tryz.prog 49 #[.int .i64 (u:Int)] w (zfp w (u:Rat)):=by
 have hs:=fun w=>zc9 u w (by omega)
 have hX:=zf w (.cells #[.bool false,.slice none 0 0,.slice none 0 0] 78)
 have HKR:=ze (Blk.new w 78 #[.bool false,.slice none 0 0,.slice none 0 0])
 have HW:=ze hX
 clear hX
 go_enter Tryz.func49,Tryz.ntmps49
 go_wp2_with fail
 refine (hs _).mono ?_
 rintro e w1 ⟨v,rfl,hv,hb1⟩
 have hx:=zf w1 (.cells #[.int .i64 1] 3)
 have h1:=YH w1 (d:=1) (by omega) (by omega)
 have H0:=ze (zB.below hv hx)
 have H1:=ze h1
 have HK:=ze (HKR.out.below (ext hb1 hx) HKR.out.lt)
 have HWW:=ze (ext HW.out (ext hb1 hx))
 obtain ⟨A,n,c,rfl⟩:∃ A n c,v= .slice A n c:=by obtain ⟨A,c,ds,rfl,_⟩:=hv;exact ⟨_,_,_,rfl⟩
 have r0:=HK.out.cell 0
 have r1:=HK.out.cell 1
 have r2:=HK.out.cell 2
 have f0:=HK.out.frozen 0
 have f1:=HK.out.frozen 1
 have f2:=HK.out.frozen 2
 have lR:=HK.out.lt
 simp at r0 r1 r2
 clear hb1 h1 hv hx hs
 go_wp2_with fail
 have kR2:=xk (ng:=false) (A:=A) (n:=n) (c:=c) (B:=some ⟨w1.heap.size,0,none⟩) (m:=1) (d:=1) HK.out
 have hR0:=xa (ng:=false) (A:=A) (n:=n) (c:=c) (B:=some ⟨w1.heap.size,0,none⟩) (m:=1) (d:=1) H0.out HK.out
 have hR1:=xa (ng:=false) (A:=A) (n:=n) (c:=c) (B:=some ⟨w1.heap.size,0,none⟩) (m:=1) (d:=1) H1.out HK.out
 have e0:=kR2.cell 0
 have e1:=kR2.cell 1
 have e2:=kR2.cell 2
 simp only [World.ref] at e0 e1 e2
 simp at e0 e1 e2
 refine bodyPost_ret (v:=.agg #[.bool false,.slice A n c,.slice (some ⟨w1.heap.size,0,none⟩) 1 1]) (by simp [results,Tryz.results49,go_sem,e0,e1,e2]) rfl ?_
 have hn:((u:Rat)).num=(u:Int):=rfl
 exact ⟨_,rfl,⟨_,_,_,_,_,_,_,rfl,(decide_eq_false (by rw [hn];omega)).symm,by rw [hn];exact hR0,hR1⟩,y7 (w:=w) (g:=w.heap.size) HWW.out (Nat.le_refl _)⟩
theorem zhb (u:Nat) (w:World) (h0:0<u) (hu:u<=9223372036854775808):Calls Tryz.prog 49 #[.int .i64 (-(u:Int))] w (zfp w ((-(u:Int):Int):Rat)):=by
 have hs:=fun w=>zc9 u w (by omega)
 have hX:=zf w (.cells #[.bool false,.slice none 0 0,.slice none 0 0] 78)
 have HKR:=ze (Blk.new w 78 #[.bool false,.slice none 0 0,.slice none 0 0])
 have HW:=ze hX
 have e1:IntKind.i64.wrap (-(u:Int)+1)= -(u:Int)+1:=by rw [IntKind.wrap_i64];omega
 have e2:IntKind.i64.wrap (-(-(u:Int)+1))=(u:Int) - 1:=by rw [IntKind.wrap_i64];omega
 have hneg: -(u:Int)<0:=by omega
 clear hX
 go_enter Tryz.func49,Tryz.ntmps49
 go_wp2_with fail
 refine (hs _).mono ?_
 rintro e w1 ⟨v,rfl,hv,hb1⟩
 have hx:=zf w1 (.cells #[.int .i64 1] 3)
 have h1:=YH w1 (d:=1) (by omega) (by omega)
 have H0:=ze (zB.below hv hx)
 have H1:=ze h1
 have HK:=ze (HKR.out.below (ext hb1 hx) HKR.out.lt)
 have HWW:=ze (ext HW.out (ext hb1 hx))
 obtain ⟨A,n,c,rfl⟩:∃ A n c,v= .slice A n c:=by obtain ⟨A,c,ds,rfl,_⟩:=hv;exact ⟨_,_,_,rfl⟩
 have r0:=HK.out.cell 0
 have r1:=HK.out.cell 1
 have r2:=HK.out.cell 2
 have f0:=HK.out.frozen 0
 have f1:=HK.out.frozen 1
 have f2:=HK.out.frozen 2
 have lR:=HK.out.lt
 simp at r0 r1 r2
 clear hb1 h1 hv hx hs
 go_wp2_with fail
 have kR2:=xk (ng:=true) (A:=A) (n:=n) (c:=c) (B:=some ⟨w1.heap.size,0,none⟩) (m:=1) (d:=1) HK.out
 have hR0:=xa (ng:=true) (A:=A) (n:=n) (c:=c) (B:=some ⟨w1.heap.size,0,none⟩) (m:=1) (d:=1) H0.out HK.out
 have hR1:=xa (ng:=true) (A:=A) (n:=n) (c:=c) (B:=some ⟨w1.heap.size,0,none⟩) (m:=1) (d:=1) H1.out HK.out
 have e0:=kR2.cell 0
 have e1:=kR2.cell 1
 have e2:=kR2.cell 2
 simp only [World.ref] at e0 e1 e2
 simp at e0 e1 e2
 refine bodyPost_ret (v:=.agg #[.bool true,.slice A n c,.slice (some ⟨w1.heap.size,0,none⟩) 1 1]) (by simp [results,Tryz.results49,go_sem,e0,e1,e2]) rfl ?_
 have hn:(((-(u:Int):Int):Rat)).num= -(u:Int):=rfl
 have hna:(((-(u:Int):Int):Rat)).num.natAbs=u:=by rw [hn,Int.natAbs_neg];rfl
 exact ⟨_,rfl,⟨_,_,_,_,_,_,_,rfl,(decide_eq_true (by rw [hn];omega)).symm,by rw [hna];exact hR0,hR1⟩,y7 (w:=w) (g:=w.heap.size) HWW.out (Nat.le_refl _)⟩
theorem zad (n:Int) (h:n.natAbs<=9223372036854775808):zn4 33554432 (n:Rat):=by
 refine ⟨?_,?_⟩
 . show len 1000000000 n.natAbs<=_
   exact Nat.le_trans (zN (k:=3) (by omega) (by omega)) (by omega)
 . show len 1000000000 1<=_
   exact Nat.le_trans (zN (k:=1) (by omega) (by omega)) (by omega)
theorem zaq (n:Int) (h:n.natAbs<=9223372036854775808):Yi 67108864 (n:Rat):=by
 refine ⟨?_,?_⟩
 . show len 4294967296 n.natAbs<=_
   exact Nat.le_trans (zN (k:=3) (by omega) (by omega)) (by omega)
 . show len 4294967296 1<=_
   exact Nat.le_trans (zN (k:=1) (by omega) (by omega)) (by omega)
theorem zgz (n:Int) (w:World) (h1: -9223372036854775808<=n) (h2:n<9223372036854775808):Calls Tryz.prog 49 #[.int .i64 n] w (zfp w (n:Rat)):=by
 by_cases h0:n<0
 . obtain ⟨u,rfl⟩:∃ u:Nat,n= -(u:Int):=⟨n.natAbs,by omega⟩
   exact zhb u w (by omega) (by omega)
 . obtain ⟨u,rfl⟩:∃ u:Nat,n=(u:Int):=⟨n.natAbs,by omega⟩
   exact zgk u w (by omega)
theorem zic (n:Int) (w:World) (h1: -9223372036854775808<=n) (h2:n<9223372036854775808):
 Calls Tryz.prog 47 #[.int .i64 n] w (Vq w (zM (n:Rat))):=by
 by_cases h0:n<0
 . obtain ⟨u,rfl⟩:∃ u:Nat,n= -(u:Int):=⟨n.natAbs,by omega⟩
   have hw:=fun w=>XD u (by omega) w
   have e1:IntKind.u64.wrap (-(u:Int))=18446744073709551616 - (u:Int):=by rw [IntKind.wrap_u64];omega
   have e2:IntKind.u64.wrap (-(18446744073709551616 - (u:Int)))=(u:Int):=by rw [IntKind.wrap_u64];omega
   go_enter Tryz.func47,Tryz.ntmps47
   go_wp2_with fail;refine (hw _).mono ?_;rintro e w1 ⟨v,rfl,hv,hb1⟩;have HV:=ze hv;have HW:=ze hb1;clear hb1 hv hw;go_wp2_with fail;refine (zV true v u _ HV.out).mono ?_;rintro e w2 ⟨v2,rfl,hv2,hb2⟩;obtain ⟨x2,A2,k2,c2,s2,rfl,hh1,hh2,hh3⟩:=hv2.form;clear hh1 hh2 hh3
   have hr:yw w2 (.agg #[.int .i64 x2,.slice A2 k2 c2,.bool s2,.int .i64 1,.slice none 0 0,.bool false]) ((-(u:Int):Int):Rat):=
    ⟨_,_,_,_,_,_,_,_,_,_,rfl,hv2,.inl ⟨1,false,rfl,by omega,by omega,rfl⟩⟩
   have HR:=ze hr;replace HW:=eb_ HW hb2;clear hb2 hr hv2 HV;go_wp2_with fail;refine (ZW _ _ _ HR.out (zaq _ (by omega))).mono ?_;rintro e w3 ⟨rfl,hb3⟩;replace HW:=eb_ HW hb3;clear hb3;go_wp2_with fail;go_ret;exact ⟨rfl,HW.out⟩
 . obtain ⟨u,rfl⟩:∃ u:Nat,n=(u:Int):=⟨n.natAbs,by omega⟩
   have hw:=fun w=>XD u (by omega) w
   go_enter Tryz.func47,Tryz.ntmps47
   go_wp2_with fail;refine (hw _).mono ?_;rintro e w1 ⟨v,rfl,hv,hb1⟩;have HV:=ze hv;have HW:=ze hb1;clear hb1 hv hw;go_wp2_with fail;refine (zV false v u _ HV.out).mono ?_;rintro e w2 ⟨v2,rfl,hv2,hb2⟩;obtain ⟨x2,A2,k2,c2,s2,rfl,hh1,hh2,hh3⟩:=hv2.form;clear hh1 hh2 hh3
   have hr:yw w2 (.agg #[.int .i64 x2,.slice A2 k2 c2,.bool s2,.int .i64 1,.slice none 0 0,.bool false]) ((u:Int):Rat):=
    ⟨_,_,_,_,_,_,_,_,_,_,rfl,hv2,.inl ⟨1,false,rfl,by omega,by omega,rfl⟩⟩
   have HR:=ze hr;replace HW:=eb_ HW hb2;clear hb2 hr hv2 HV;go_wp2_with fail;refine (ZW _ _ _ HR.out (zaq _ (by omega))).mono ?_;rintro e w3 ⟨rfl,hb3⟩;replace HW:=eb_ HW hb3;clear hb3;go_wp2_with fail;go_ret;exact ⟨rfl,HW.out⟩
theorem zbu (s:ByteArray) (w:World) (hs:s.size<=1073741824):Calls Tryz.prog 46 #[.string s] w (zdt w (.bool (zp (bts s)).isSome)):=by
 have h1:=fun w=>zg5 s w hs
 obtain ⟨r,HR⟩:∃ r,Hid ((zp (bts s)).isSome=r):=⟨_,ze rfl⟩
 rw [HR.out]
 go_enter Tryz.func46,Tryz.ntmps46
 go_wp2_with fail
 refine (h1 _).mono ?_
 rintro e w1 ⟨v,b,rfl,⟨ng,X,n1,c8,Y,n2,c9,rfl⟩,hb,hq,hb1⟩
 have HB:=ze (hb.trans HR.out)
 have HW:=ze (ext hb1 (zf w1 (.cells #[.bool ng,.slice X n1 c8,.slice Y n2 c9] 78)))
 clear hb hq hb1 h1
 go_wp2_with fail
 go_ret
 exact ⟨zZ HB.out.symm,HW.out⟩
end Go.Proofs.YtnpbflhjglkokaaGreatDoor
