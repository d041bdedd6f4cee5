/- Parts of the proof: memory, numbers, walks of the functions that are called. -/
import Derived.Deep.DrawnRows
import Derived.Test.YtacfcmdlgebhgaaGreatMg15
set_option linter.unusedVariables false
set_option linter.unusedSimpArgs false
set_option maxRecDepth 100000
set_option maxHeartbeats 32000000
namespace Go.Proofs.YtacfcmdlgebhgaaGreat
open Go.RowKit Go.Deep
attribute [local go_sem ↓] Go.wp_at_zero Go.wp_at_succ
def vU (w:World) (g:Nat):Prop:=∃ (ng:Bool) (A:Option Addr) (n c:Nat) (B:Option Addr) (m d:Nat),Blk w g 63 #[.bool ng,.slice A n c,.slice B m d]
theorem xD {w w' :World} {g:Nat} (hb:Below w.heap.size w w') (h:Hid (vU w g)):Hid (vU w' g):=by
 obtain ⟨ng,A,n,c,B,m,d,h⟩:=h.out
 exact ⟨ng,A,n,c,B,m,d,h.below hb h.lt⟩
theorem zhl {w w' :World} {v:Value} {n:Nat} (hb:Below w.heap.size w w') (h:Hid (z9 w v n)):Hid (z9 w' v n):=z9.below h.out hb
section
variable {W w0:World} {g g' i n c m d k:Nat} {ng:Bool} {A B:Option Addr} {v:Value}
theorem vv (h:Hid (vU W g)):Hid (vU (World.ref W g ng A n c B m d) g):=by
 obtain ⟨ng,A,n,c,B,m,d,h⟩:=h.out
 exact ⟨_,_,_,_,_,_,_,yL h⟩
theorem xN (hg:w0.heap.size<=g) (h:Hid (Below w0.heap.size w0 W)):Hid (Below w0.heap.size w0 (World.ref W g ng A n c B m d)):=zZ h.out hg
theorem X5 (hr:Hid (vU W g)) (h:Hid (z9 W v k)):Hid (z9 (World.ref W g ng A n c B m d) v k):=by
 obtain ⟨ng,A,n,c,B,m,d,hr⟩:=hr.out
 exact zU h.out hr
theorem zM (hne:g≠g') (h:W.cell? ⟨g,i,none⟩=some v):(World.ref W g' ng A n c B m d).cell? ⟨g,i,none⟩=some v:=by
 rw [<- h]
 simp only [World.ref]
 rw [World.cell?_setCell_other,World.cell?_setCell_other,World.cell?_setCell_other]
 all_goals (intro e;injection e with e;exact hne e.symm)
theorem xK (h:k<W.heap.size):k<(World.ref W g' ng A n c B m d).heap.size:=by
 simp only [World.ref,World.setCell,Array.size_modify]
 exact h
end
def AggN (v:Value):Prop:=∃ (ng:Bool) (A:Option Addr) (n c:Nat) (B:Option Addr) (m d:Nat),v= .agg #[.bool ng,.slice A n c,.slice B m d]
def xF (w:World) (l:List UInt8) (e:Ending) (w' :World):Prop:=
 ∃ v b,e= .returned (.tuple #[v,.bool b])/\AggN v/\b=(zp l).isSome/\(∀ q,zp l=some q->xu w' v q)/\Below w.heap.size w w'
theorem xF.no {w w' :World} {l:List UInt8} {v:Value} (h:zp l=none) (hv:AggN v) (hb:Below w.heap.size w w'):xF w l (.returned (.tuple #[v,.bool false])) w' :=
 ⟨v,false,rfl,hv,by rw [h];rfl,fun q hq=>(by rw [h] at hq;cases hq),hb⟩
theorem xF.maybe {w w' :World} {l:List UInt8} {v:Value} {q:Rat} {b:Bool} (h:zp l=if zh q=l then some q else none) (hb' :b=decide (zh q=l)) (hv:xu w' v q) (hb:Below w.heap.size w w'):
 xF w l (.returned (.tuple #[v,.bool b])) w' :=by
 subst hb'
 by_cases he:zh q=l
 rotate_left
 . rw [if_neg he] at h
   rw [decide_eq_false he];refine xF.no h ?_ hb;obtain ⟨ng,A,n,c,B,m,d,rfl,_⟩:=hv;exact ⟨_,_,_,_,_,_,_,rfl⟩
 rw [if_pos he] at h
 refine ⟨v,_,rfl,?_,by rw [h,decide_eq_true he];rfl,fun q' hq=>?_,hb⟩
 . obtain ⟨ng,A,n,c,B,m,d,rfl,_⟩:=hv;exact ⟨_,_,_,_,_,_,_,rfl⟩
 rw [h] at hq;injection hq with hq;rw [<- hq];exact hv
theorem zgb {ng:Bool} {n d M:Nat} (hd:0<d) (h1:len 1000000000 n<=M) (h2:len 1000000000 d<=M):Vz M (xS ng n d):=by
 obtain ⟨e1,e2,_⟩:=zi2 ng n d hd
 unfold Vz
 rw [e1,e2]
 exact ⟨Nat.le_trans (vV (by omega) (Nat.div_le_self _ _)) h1,Nat.le_trans (vV (by omega) (Nat.div_le_self _ _)) h2⟩
theorem zxp {l:List UInt8} {K:Nat} (h:xo l=true) (hl:l.length<=K):len 1000000000 (zD l)<=K:=by
 unfold xo at h
 rw [Bool.and_eq_true] at h
 have h1:=Vq h.1
 refine yo (by omega) (Nat.lt_of_lt_of_le h1 ?_)
 exact Nat.le_trans (Nat.pow_le_pow_left (by decide:10<=1000000000) _) (Nat.pow_le_pow_right (by decide) hl)
theorem zn5 {l:List UInt8} (h:xo l=true) (hl:l.length<=50000):len 1000000000 (zD l)<=50000:=zxp h hl
theorem ztg (l:List UInt8) (s:ByteArray):(l == s.toList)=decide (l=bts s):=by
 rw [Lib.toList_data]
 show (l == bts s)=_
 by_cases h:l=bts s
 . rw [decide_eq_true h];exact beq_iff_eq.2 h
 rw [decide_eq_false h];exact beq_eq_false_iff_ne.2 h
theorem V9 {l:List UInt8} (h:xo l=true):l.all xh=true:=by
 unfold xo at h;rw [Bool.and_eq_true] at h;exact h.1
theorem VF (s:ByteArray) (w:World) (hs:s.size<=1073741824):
 Calls Tryz.prog 70 #[.string s] w (xF w (bts s)):=by
 have HWR:=ze (zg w (.cells #[.bool false,.slice none 0 0,.slice none 0 0] 63))
 have HKR:=ze (Blk.new w 63 #[.bool false,.slice none 0 0,.slice none 0 0])
 by_cases hlong:100002<s.size
 . have HP:=ze (zqo (l:=bts s) (by rw [zm];exact hlong))
   have hlI:decide (100002<(s.size:Int))=true:=by rw [decide_eq_true_eq];omega
   clear hlong
   go_enter Tryz.func70,Tryz.ntmps70
   go_wp2_with fail;have kR2:=yL (ng:=false) (A:=none) (n:=0) (c:=0) (B:=none) (m:=0) (d:=0) HKR.out;have e0:=kR2.cell 0;have e1:=kR2.cell 1;have e2:=kR2.cell 2;simp only [World.ref] at e0 e1 e2;simp at e0 e1 e2;refine bodyPost_ret (v:=.tuple #[.agg #[.bool false,.slice none 0 0,.slice none 0 0],.bool false]) (by simp [results,Tryz.results70,go_sem,e0,e1,e2]) rfl ?_
   first
   | exact xF.no HP.out ⟨_,_,_,_,_,_,_,rfl⟩ HWR.out
   | exact xF.no HP.out ⟨_,_,_,_,_,_,_,rfl⟩ (zZ (g:=w.heap.size) (ng:=false) (A:=none) (n:=0) (c:=0) (B:=none) (m:=0) (d:=0) HWR.out (Nat.le_refl _))
 have HLS:=ze (show s.size<=100002 by omega)
 have hlI:decide (100002<(s.size:Int))=false:=by rw [decide_eq_false_iff_not];omega
 clear hlong
 obtain ⟨ng,t,HN,HT,HTS,hcase⟩:∃ (ng:Bool) (t:ByteArray),Hid (ng=yJ (bts s))/\Hid (bts t=zq (bts s))/\Hid (t.size<=1073741824)/\
  ((s.toList.isEmpty=true/\ng=false/\s=t)\/(∃ h:0<s.size,((s[0].toNat:Int) == 45)=false/\ng=false/\s=t/\s.toList.isEmpty=false)\/(∃ h:0<s.size,((s[0].toNat:Int) == 45)=true/\ng=true/\t=s.extract 1 s.size/\s.toList.isEmpty=false)):=by
  by_cases h0:0<s.size
  rotate_left
  . have he:bts s=[]:=by
     apply List.eq_nil_of_length_eq_zero;rw [zm];omega
    refine ⟨false,s,by rw [he];exact rfl,by rw [he];exact rfl,hs,.inl ⟨?_,rfl,rfl⟩⟩;rw [Lib.toList_data];unfold bts at he;rw [show s.data.toList=[] from he];rfl
  have hne:s.toList.isEmpty=false:=by
   rw [Bool.eq_false_iff];intro e;have e:=List.isEmpty_iff.1 e;have:=congrArg List.length e;rw [Lib.toList_data] at this;simp at this;rw [this] at h0;exact absurd h0 (by decide)
  have hh:(bts s).head?=some s[0]:=by
   have:=ZI s 0 h0;rw [List.head?_eq_getElem?,List.getElem?_eq_getElem (by rw [zm];exact h0),this]
  by_cases h1:s[0]=45
  rotate_left
  . have hsg:yJ (bts s)=false:=by
     unfold yJ;rw [hh];rw [beq_eq_false_iff_ne];intro e;injection e with e;exact h1 e
    refine ⟨false,s,hsg.symm,(Yf hsg).symm,hs,.inr (.inl ⟨h0,?_,rfl,rfl,hne⟩)⟩;rw [beq_eq_false_iff_ne];intro e;exact h1 (UInt8.toNat_inj.1 (by have:(45:UInt8).toNat=45:=rfl;omega))
  have hsg:yJ (bts s)=true:=by unfold yJ;rw [hh,h1];rfl
  refine ⟨true,s.extract 1 s.size,hsg.symm,?_,?_,.inr (.inr ⟨h0,by rw [h1];rfl,rfl,rfl,hne⟩)⟩
  rotate_left
  . show _<=_
    rw [ByteArray.size_extract];omega
  show _=_
  rw [Zk,List.take_of_length_le (by rw [zm];exact Nat.le_refl _)];have:=Vs hsg
  conv=>lhs;rw [this]
  rfl
 have hcut:∀ W,Calls Tryz.prog 90 #[.string t,.int .u8 47] W (fun e w' =>∃ a b n,e= .returned (.tuple #[.string a,.string b,.bool (has 47 (zq (bts s)))])/\bts a=yC 47 (zq (bts s))/\bts b=(if has 47 (zq (bts s))=true then ys 47 (zq (bts s)) else [])/\w' =W.drewN n):=by
  intro W;refine (zwz t 47 W HTS.out).mono ?_;rintro e w' ⟨a,b,h1,h2,h3,n,h4⟩;rw [HT.out] at h1 h2 h3;exact ⟨a,b,n,h1,h2,h3,h4⟩
 rcases hcase with ⟨z1,rfl,rfl⟩ | ⟨h0,z1,rfl,rfl,z2⟩ | ⟨h0,z1,rfl,rfl,z2⟩
 all_goals
  go_enter Tryz.func70,Tryz.ntmps70
  go_wp2_with fail;refine (hcut _).mono ?_;rintro e w1 ⟨a,b,n,rfl,ha,hb,rfl⟩;have HA:=ze ha
  have hal:(yC 47 (zq (bts s))).length<=s.size:=by
   have h1:(yC 47 (zq (bts s))).length<=(zq (bts s)).length:=(List.takeWhile_sublist _).length_le;have h2:(zq (bts s)).length<=(bts s).length:=by unfold zq;split<;>simp
   rw [zm] at h2
   omega
  have hbl:(ys 47 (zq (bts s))).length<=s.size:=by
   have h1:(ys 47 (zq (bts s))).length<=(zq (bts s)).length:=by
    unfold ys;have:=(List.dropWhile_sublist (fun x=>x != (47:UInt8)) (l:=zq (bts s))).length_le;rw [List.length_tail];omega
   have h2:(zq (bts s)).length<=(bts s).length:=by unfold zq;split<;>simp
   rw [zm] at h2
   omega
  have HAS:=ze (show a.size<=1073741824 by rw [<- zm,ha];omega);have HKR2:=ze (HKR.out.below (zw _ n) HKR.out.lt);have HWR2:=ze (zo HWR.out n);clear HKR HWR;have HKR:=HKR2;have HWR:=HWR2;clear HKR2 HWR2;generalize World.drewN _ n=W at HKR HWR |-;have r0:=HKR.out.cell 0;have r1:=HKR.out.cell 1;have r2:=HKR.out.cell 2;have f0:=HKR.out.frozen 0;have f1:=HKR.out.frozen 1;have f2:=HKR.out.frozen 2;have lR:=HKR.out.lt;simp at r0 r1 r2
  cases hh:has 47 (zq (bts s)) with
  | false=>
    have HT1:=ze (show vi (bts s)=[49] by unfold vi;rw [hh];rfl);clear hh hb ha hal hbl hcut z1;go_wp2_with fail;generalize hT9:(⟨#[49]⟩:ByteArray)=t;have HT:Hid (bts t=vi (bts s)):=ze (by rw [HT1.out, <- hT9];rfl);have HTS:Hid (t.size<=1073741824):=ze (by rw [<- hT9];decide);clear hT9
    rcases Bool.eq_false_or_eq_true (xo (bts a)) with d1 | d1
    rotate_left
    . have HP:=ze (Xh (.inl (by rw [<- HA.out];exact d1)))
      have HD1:=ze d1;clear d1;refine (Y6 a _ HAS.out).mono ?_;rintro e w1 ⟨rfl,rfl⟩;rw [HD1.out];go_wp2_with fail;have kR2:=yL (ng:=false) (A:=none) (n:=0) (c:=0) (B:=none) (m:=0) (d:=0) HKR.out;have e0:=kR2.cell 0;have e1:=kR2.cell 1;have e2:=kR2.cell 2;simp only [World.ref] at e0 e1 e2;simp at e0 e1 e2;refine bodyPost_ret (v:=.tuple #[.agg #[.bool false,.slice none 0 0,.slice none 0 0],.bool false]) (by simp [results,Tryz.results70,go_sem,e0,e1,e2]) rfl ?_
      first
      | exact xF.no HP.out ⟨_,_,_,_,_,_,_,rfl⟩ HWR.out
      | exact xF.no HP.out ⟨_,_,_,_,_,_,_,rfl⟩ (zZ (g:=w.heap.size) (ng:=false) (A:=none) (n:=0) (c:=0) (B:=none) (m:=0) (d:=0) HWR.out (Nat.le_refl _))
    have HD1:=ze d1
    clear d1;refine (Y6 a _ HAS.out).mono ?_;rintro e w1 ⟨rfl,rfl⟩;rw [HD1.out];go_wp2_with fail;refine (Y6 t _ HTS.out).mono ?_;rintro e w1 ⟨rfl,rfl⟩
    rcases Bool.eq_false_or_eq_true (xo (bts t)) with d2 | d2
    rotate_left
    . have HP:=ze (Xh (.inr (.inl (by rw [<- HT.out];exact d2))))
      rw [d2];clear d2;go_wp2_with fail;have kR2:=yL (ng:=false) (A:=none) (n:=0) (c:=0) (B:=none) (m:=0) (d:=0) HKR.out;have e0:=kR2.cell 0;have e1:=kR2.cell 1;have e2:=kR2.cell 2;simp only [World.ref] at e0 e1 e2;simp at e0 e1 e2;refine bodyPost_ret (v:=.tuple #[.agg #[.bool false,.slice none 0 0,.slice none 0 0],.bool false]) (by simp [results,Tryz.results70,go_sem,e0,e1,e2]) rfl ?_
      first
      | exact xF.no HP.out ⟨_,_,_,_,_,_,_,rfl⟩ HWR.out
      | exact xF.no HP.out ⟨_,_,_,_,_,_,_,rfl⟩ (zZ (g:=w.heap.size) (ng:=false) (A:=none) (n:=0) (c:=0) (B:=none) (m:=0) (d:=0) HWR.out (Nat.le_refl _))
    have HD2:=ze d2
    rw [d2];clear d2
    by_cases l1:50000<a.size
    . have HP:=ze (Xh (.inr (.inr (.inl (by rw [<- HA.out,zm];exact l1)))))
      go_wp2_with fail;have kR2:=yL (ng:=false) (A:=none) (n:=0) (c:=0) (B:=none) (m:=0) (d:=0) HKR.out;have e0:=kR2.cell 0;have e1:=kR2.cell 1;have e2:=kR2.cell 2;simp only [World.ref] at e0 e1 e2;simp at e0 e1 e2;refine bodyPost_ret (v:=.tuple #[.agg #[.bool false,.slice none 0 0,.slice none 0 0],.bool false]) (by simp [results,Tryz.results70,go_sem,e0,e1,e2]) rfl ?_
      first
      | exact xF.no HP.out ⟨_,_,_,_,_,_,_,rfl⟩ HWR.out
      | exact xF.no HP.out ⟨_,_,_,_,_,_,_,rfl⟩ (zZ (g:=w.heap.size) (ng:=false) (A:=none) (n:=0) (c:=0) (B:=none) (m:=0) (d:=0) HWR.out (Nat.le_refl _))
    by_cases l2:50000<t.size
    . have HP:=ze (Xh (.inr (.inr (.inr (.inl (by rw [<- HT.out,zm];exact l2))))))
      go_wp2_with fail;have kR2:=yL (ng:=false) (A:=none) (n:=0) (c:=0) (B:=none) (m:=0) (d:=0) HKR.out;have e0:=kR2.cell 0;have e1:=kR2.cell 1;have e2:=kR2.cell 2;simp only [World.ref] at e0 e1 e2;simp at e0 e1 e2;refine bodyPost_ret (v:=.tuple #[.agg #[.bool false,.slice none 0 0,.slice none 0 0],.bool false]) (by simp [results,Tryz.results70,go_sem,e0,e1,e2]) rfl ?_
      first
      | exact xF.no HP.out ⟨_,_,_,_,_,_,_,rfl⟩ HWR.out
      | exact xF.no HP.out ⟨_,_,_,_,_,_,_,rfl⟩ (zZ (g:=w.heap.size) (ng:=false) (A:=none) (n:=0) (c:=0) (B:=none) (m:=0) (d:=0) HWR.out (Nat.le_refl _))
    have HL1:=ze (show (bts a).length<=50000 by rw [zm];omega)
    have HL2:=ze (show (bts t).length<=50000 by rw [zm];omega);have HIF:=ze (zri (l:=bts s) (by rw [<- HA.out];exact HD1.out) (by rw [<- HT.out];exact HD2.out) (by rw [<- HA.out];exact HL1.out) (by rw [<- HT.out];exact HL2.out));go_wp2_with fail;refine (zdm t _ (V9 HD2.out) (by have:=HL2.out;rw [zm] at this;omega)).mono ?_;rintro e w2 ⟨v,rfl,hv,hb2⟩;have hlv:=zn5 HD2.out HL2.out;have hln:=zn5 HD1.out HL1.out;rw [HT.out] at hv hlv;rw [HA.out] at hln;obtain ⟨dv,hdv⟩:∃ dv,zD (vi (bts s))=dv:=⟨_,rfl⟩;obtain ⟨nv,hnv⟩:∃ nv,zD (yC 47 (zq (bts s)))=nv:=⟨_,rfl⟩;rw [hdv] at hv hlv HIF;rw [hnv] at hln HIF;have HDV:=ze hdv;have HNV:=ze hnv;obtain ⟨A,c,rfl⟩:=hv.form;have HV:=ze hv;have HLV:=ze hlv;have HLN:=ze hln;have HWR2:=ze (ext HWR.out hb2);have HKR2:=ze (HKR.out.below hb2 HKR.out.lt);clear r0 r1 r2 f0 f1 f2 lR HKR HWR;have HKR:=HKR2;have HWR:=HWR2;clear HKR2 HWR2;have r0:=HKR.out.cell 0;have r1:=HKR.out.cell 1;have r2:=HKR.out.cell 2;have f0:=HKR.out.frozen 0;have f1:=HKR.out.frozen 1;have f2:=HKR.out.frozen 2;have lR:=HKR.out.lt;simp at r0 r1 r2
    clear hv hlv hln hb2 l1 l2 hdv hnv
    by_cases hz:dv=0
    . subst hz
      have HP:=ze (Xh (.inr (.inr (.inr (.inr HDV.out)))));have hz0:((len 1000000000 0:Int) == 0)=true:=by rw [za6];rfl
      go_wp2_with fail;have kR2:=yL (ng:=false) (A:=none) (n:=0) (c:=0) (B:=none) (m:=0) (d:=0) HKR.out;have e0:=kR2.cell 0;have e1:=kR2.cell 1;have e2:=kR2.cell 2;simp only [World.ref] at e0 e1 e2;simp at e0 e1 e2;refine bodyPost_ret (v:=.tuple #[.agg #[.bool false,.slice none 0 0,.slice none 0 0],.bool false]) (by simp [results,Tryz.results70,go_sem,e0,e1,e2]) rfl ?_
      first
      | exact xF.no HP.out ⟨_,_,_,_,_,_,_,rfl⟩ HWR.out
      | exact xF.no HP.out ⟨_,_,_,_,_,_,_,rfl⟩ (zZ (g:=w.heap.size) (ng:=false) (A:=none) (n:=0) (c:=0) (B:=none) (m:=0) (d:=0) HWR.out (Nat.le_refl _))
    have hz0:((len 1000000000 dv:Int) == 0)=false:=by rw [beq_eq_false_iff_ne];have:=zcp (β:=1000000000) (n:=dv) (by omega) (by omega);omega
    have HZ:=ze (show 0<dv by omega);clear hz;go_wp2_with fail;refine (zdm a _ (V9 HD1.out) (by have:=HL1.out;rw [zm] at this;omega)).mono ?_;rintro e w3 ⟨v3,rfl,hv3,hb3⟩;rw [HA.out,HNV.out] at hv3;have HV3:=ze hv3;have HVa:=ze (z9.below HV.out hb3);have HWR3:=ze (ext HWR.out hb3);have HKR3:=ze (HKR.out.below hb3 HKR.out.lt);clear hv3 hb3 r0 r1 r2 f0 f1 f2 lR HKR HWR;go_wp2_with fail;refine (ZU _ _ _ nv dv _ HV3.out HVa.out HZ.out (Nat.le_trans HLN.out (by decide)) (Nat.le_trans HLV.out (by decide))).mono ?_;rintro e w4 ⟨v4,rfl,hv4,hb4⟩;rw [HN.out] at hv4;obtain ⟨q,hq⟩:∃ q,q=xS (yJ (bts s)) nv dv:=⟨_,rfl⟩;have HQL:=ze (show Vz 33554432 q by rw [hq];exact zgb HZ.out (Nat.le_trans HLN.out (by decide)) (Nat.le_trans HLV.out (by decide)));rw [<- hq] at hv4 HIF;obtain ⟨nq,A5,c5,B5,d5,rfl,hng,ha1,ha2⟩:=hv4.form;have HNG:=ze hng;have hb5:=zg w4 (.cells #[.bool nq,.slice A5 (len 1000000000 q.num.natAbs) c5,.slice B5 (len 1000000000 q.den) d5] 63);have HKR5:=ze (show vU _ w.heap.size from ⟨_,_,_,_,_,_,_,HKR3.out.below (ext hb4 hb5) HKR3.out.lt⟩)
    have HWR5:=ze (ext HWR3.out (ext hb4 hb5));have HS1:=ze (z9.below ha1 hb5);have HS2:=ze (z9.below ha2 hb5);have HKQ:=ze (Blk.new w4 63 #[.bool nq,.slice A5 (len 1000000000 q.num.natAbs) c5,.slice B5 (len 1000000000 q.den) d5]);have lgq:w.heap.size<w4.heap.size:=(HKR3.out.below hb4 HKR3.out.lt).lt;obtain ⟨n5,hn5⟩:∃ n5,len 1000000000 q.num.natAbs=n5:=⟨_,rfl⟩;obtain ⟨m5,hm5⟩:∃ m5,len 1000000000 q.den=m5:=⟨_,rfl⟩;rw [hn5,hm5] at HKR5 HWR5 HKQ |-;rw [hn5,hm5] at HS1 HS2;clear hq hv4 hng hb4 hb5 ha1 ha2 hn5 hm5 HKR3 HWR3 HV3 HVa HV;go_wp2_with fail;generalize hgq:w4.heap.size=gq at HKQ lgq |-;generalize w4.alloc (.cells #[.bool nq,.slice A5 n5 c5,.slice B5 m5 d5] 63)=W7 at HS1 HS2 HKR5 HWR5 HKQ |-;clear hgq;have hlq:=HKQ.out.lt;have q0:=HKQ.out.cell 0;have q1:=HKQ.out.cell 1;have q2:=HKQ.out.cell 2;simp at q0 q1 q2;have HRES:=ze (show vU W7.drew w.heap.size from HKR5.out);have HWX:=ze (show Below w.heap.size w W7.drew from zo HWR5.out 1);have HY1:=ze (show z9 W7.drew _ q.num.natAbs from z9.below HS1.out (zw W7 1))
    have HY2:=ze (show z9 W7.drew _ q.den from z9.below HS2.out (zw W7 1));clear HS1 HS2
    go_region_held3 (fun w' =>w'.cell? ⟨gq,0,none⟩=some (.bool nq)/\w'.cell? ⟨gq,1,none⟩=some (.slice A5 n5 c5)/\w'.cell? ⟨gq,2,none⟩=some (.slice B5 m5 d5)/\gq<w'.heap.size/\Hid (vU w' w.heap.size)/\Hid (Below w.heap.size w w')/\Hid (z9 w' (.slice A5 n5 c5) q.num.natAbs)/\Hid (z9 w' (.slice B5 m5 d5) q.den))
     (first
       | with_reducible exact ⟨by go_keep,by go_keep,by go_keep,by first | (simp;done) | (simp;assumption),HRES,HWX,HY1,HY2⟩
       | (go_split_ands;with_reducible exact ⟨zM (by omega) ‹_›,zM (by omega) ‹_›,zM (by omega) ‹_›,xK ‹_›,vv ‹_›,xN (by omega) ‹_›,X5 ‹_› ‹_›,X5 ‹_› ‹_›⟩)
       | (go_split_ands;with_reducible exact ⟨zj ‹_› ‹_› ‹_›,zj ‹_› ‹_› ‹_›,zj ‹_› ‹_› ‹_›,zA ‹_› ‹_›,xD ‹_› ‹_›,zu ‹_› ‹_›,zhl ‹_› ‹_›,zhl ‹_› ‹_›⟩)
       | go_keep)
     (first
       | (go_at_call 34;refine (zdi _ q _ ⟨_,_,_,_,_,_,_,rfl,HNG.out,zB (by go_split_ands;assumption),zB (by go_split_ands;assumption)⟩ HQL.out).mono ?_;rintro e wo ⟨rfl,hbo⟩;obtain ⟨ngr,Ar,kr,cr,Br,krx,crx,kR⟩:=(xD (g:=w.heap.size) hbo (by go_split_ands;assumption)).out;have r0:=kR.cell 0;have r1:=kR.cell 1;have r2:=kR.cell 2;have f0:=kR.frozen 0;have f1:=kR.frozen 1;have f2:=kR.frozen 2;simp at r0 r1 r2;have HKR:=ze kR;clear kR))
    all_goals
     go_split_ands;have kR2:=yL (ng:=nq) (A:=A5) (n:=n5) (c:=c5) (B:=B5) (m:=m5) (d:=d5) HKR.out;have hR1:=zB (by assumption:Hid (z9 (World.ref wo w.heap.size nq A5 n5 c5 B5 m5 d5) (.slice A5 n5 c5) q.num.natAbs));have hR2:=zB (by assumption:Hid (z9 (World.ref wo w.heap.size nq A5 n5 c5 B5 m5 d5) (.slice B5 m5 d5) q.den));have hRW:=zB (by assumption:Hid (Below w.heap.size w (World.ref wo w.heap.size nq A5 n5 c5 B5 m5 d5)));have e0:=kR2.cell 0;have e1:=kR2.cell 1;have e2:=kR2.cell 2;simp only [World.ref] at e0 e1 e2;simp at e0 e1 e2;go_wp2;refine bodyPost_ret (v:=.tuple #[.agg #[.bool nq,.slice A5 n5 c5,.slice B5 m5 d5],.bool (zh q == s.toList)]) (by simp [results,Tryz.results70,go_sem,e0,e1,e2]) rfl ?_;exact xF.maybe HIF.out (ztg _ _) ⟨_,_,_,_,_,_,_,rfl,HNG.out,hR1,hR2⟩ hRW
  | true=>
    have HT:=ze (show bts b=vi (bts s) by rw [hb,if_pos hh];unfold vi;rw [hh];rfl);have HTS:=ze (show b.size<=1073741824 by rw [<- zm,hb,if_pos hh];omega);clear hh hb ha hal hbl hcut z1;obtain ⟨t,ht⟩:∃ t,t=b:=⟨b,rfl⟩;subst ht;go_wp2_with fail
    rcases Bool.eq_false_or_eq_true (xo (bts a)) with d1 | d1
    rotate_left
    . have HP:=ze (Xh (.inl (by rw [<- HA.out];exact d1)))
      have HD1:=ze d1;clear d1;refine (Y6 a _ HAS.out).mono ?_;rintro e w1 ⟨rfl,rfl⟩;rw [HD1.out];go_wp2_with fail;have kR2:=yL (ng:=false) (A:=none) (n:=0) (c:=0) (B:=none) (m:=0) (d:=0) HKR.out;have e0:=kR2.cell 0;have e1:=kR2.cell 1;have e2:=kR2.cell 2;simp only [World.ref] at e0 e1 e2;simp at e0 e1 e2;refine bodyPost_ret (v:=.tuple #[.agg #[.bool false,.slice none 0 0,.slice none 0 0],.bool false]) (by simp [results,Tryz.results70,go_sem,e0,e1,e2]) rfl ?_
      first
      | exact xF.no HP.out ⟨_,_,_,_,_,_,_,rfl⟩ HWR.out
      | exact xF.no HP.out ⟨_,_,_,_,_,_,_,rfl⟩ (zZ (g:=w.heap.size) (ng:=false) (A:=none) (n:=0) (c:=0) (B:=none) (m:=0) (d:=0) HWR.out (Nat.le_refl _))
    have HD1:=ze d1
    clear d1;refine (Y6 a _ HAS.out).mono ?_;rintro e w1 ⟨rfl,rfl⟩;rw [HD1.out];go_wp2_with fail;refine (Y6 t _ HTS.out).mono ?_;rintro e w1 ⟨rfl,rfl⟩
    rcases Bool.eq_false_or_eq_true (xo (bts t)) with d2 | d2
    rotate_left
    . have HP:=ze (Xh (.inr (.inl (by rw [<- HT.out];exact d2))))
      rw [d2];clear d2;go_wp2_with fail;have kR2:=yL (ng:=false) (A:=none) (n:=0) (c:=0) (B:=none) (m:=0) (d:=0) HKR.out;have e0:=kR2.cell 0;have e1:=kR2.cell 1;have e2:=kR2.cell 2;simp only [World.ref] at e0 e1 e2;simp at e0 e1 e2;refine bodyPost_ret (v:=.tuple #[.agg #[.bool false,.slice none 0 0,.slice none 0 0],.bool false]) (by simp [results,Tryz.results70,go_sem,e0,e1,e2]) rfl ?_
      first
      | exact xF.no HP.out ⟨_,_,_,_,_,_,_,rfl⟩ HWR.out
      | exact xF.no HP.out ⟨_,_,_,_,_,_,_,rfl⟩ (zZ (g:=w.heap.size) (ng:=false) (A:=none) (n:=0) (c:=0) (B:=none) (m:=0) (d:=0) HWR.out (Nat.le_refl _))
    have HD2:=ze d2
    rw [d2];clear d2
    by_cases l1:50000<a.size
    . have HP:=ze (Xh (.inr (.inr (.inl (by rw [<- HA.out,zm];exact l1)))))
      go_wp2_with fail;have kR2:=yL (ng:=false) (A:=none) (n:=0) (c:=0) (B:=none) (m:=0) (d:=0) HKR.out;have e0:=kR2.cell 0;have e1:=kR2.cell 1;have e2:=kR2.cell 2;simp only [World.ref] at e0 e1 e2;simp at e0 e1 e2;refine bodyPost_ret (v:=.tuple #[.agg #[.bool false,.slice none 0 0,.slice none 0 0],.bool false]) (by simp [results,Tryz.results70,go_sem,e0,e1,e2]) rfl ?_
      first
      | exact xF.no HP.out ⟨_,_,_,_,_,_,_,rfl⟩ HWR.out
      | exact xF.no HP.out ⟨_,_,_,_,_,_,_,rfl⟩ (zZ (g:=w.heap.size) (ng:=false) (A:=none) (n:=0) (c:=0) (B:=none) (m:=0) (d:=0) HWR.out (Nat.le_refl _))
    by_cases l2:50000<t.size
    . have HP:=ze (Xh (.inr (.inr (.inr (.inl (by rw [<- HT.out,zm];exact l2))))))
      go_wp2_with fail;have kR2:=yL (ng:=false) (A:=none) (n:=0) (c:=0) (B:=none) (m:=0) (d:=0) HKR.out;have e0:=kR2.cell 0;have e1:=kR2.cell 1;have e2:=kR2.cell 2;simp only [World.ref] at e0 e1 e2;simp at e0 e1 e2;refine bodyPost_ret (v:=.tuple #[.agg #[.bool false,.slice none 0 0,.slice none 0 0],.bool false]) (by simp [results,Tryz.results70,go_sem,e0,e1,e2]) rfl ?_
      first
      | exact xF.no HP.out ⟨_,_,_,_,_,_,_,rfl⟩ HWR.out
      | exact xF.no HP.out ⟨_,_,_,_,_,_,_,rfl⟩ (zZ (g:=w.heap.size) (ng:=false) (A:=none) (n:=0) (c:=0) (B:=none) (m:=0) (d:=0) HWR.out (Nat.le_refl _))
    have HL1:=ze (show (bts a).length<=50000 by rw [zm];omega)
    have HL2:=ze (show (bts t).length<=50000 by rw [zm];omega);have HIF:=ze (zri (l:=bts s) (by rw [<- HA.out];exact HD1.out) (by rw [<- HT.out];exact HD2.out) (by rw [<- HA.out];exact HL1.out) (by rw [<- HT.out];exact HL2.out));go_wp2_with fail;refine (zdm t _ (V9 HD2.out) (by have:=HL2.out;rw [zm] at this;omega)).mono ?_;rintro e w2 ⟨v,rfl,hv,hb2⟩;have hlv:=zn5 HD2.out HL2.out;have hln:=zn5 HD1.out HL1.out;rw [HT.out] at hv hlv;rw [HA.out] at hln;obtain ⟨dv,hdv⟩:∃ dv,zD (vi (bts s))=dv:=⟨_,rfl⟩;obtain ⟨nv,hnv⟩:∃ nv,zD (yC 47 (zq (bts s)))=nv:=⟨_,rfl⟩;rw [hdv] at hv hlv HIF;rw [hnv] at hln HIF;have HDV:=ze hdv;have HNV:=ze hnv;obtain ⟨A,c,rfl⟩:=hv.form;have HV:=ze hv;have HLV:=ze hlv;have HLN:=ze hln;have HWR2:=ze (ext HWR.out hb2);have HKR2:=ze (HKR.out.below hb2 HKR.out.lt);clear r0 r1 r2 f0 f1 f2 lR HKR HWR;have HKR:=HKR2;have HWR:=HWR2;clear HKR2 HWR2;have r0:=HKR.out.cell 0;have r1:=HKR.out.cell 1;have r2:=HKR.out.cell 2;have f0:=HKR.out.frozen 0;have f1:=HKR.out.frozen 1;have f2:=HKR.out.frozen 2;have lR:=HKR.out.lt;simp at r0 r1 r2
    clear hv hlv hln hb2 l1 l2 hdv hnv
    by_cases hz:dv=0
    . subst hz
      have HP:=ze (Xh (.inr (.inr (.inr (.inr HDV.out)))));have hz0:((len 1000000000 0:Int) == 0)=true:=by rw [za6];rfl
      go_wp2_with fail;have kR2:=yL (ng:=false) (A:=none) (n:=0) (c:=0) (B:=none) (m:=0) (d:=0) HKR.out;have e0:=kR2.cell 0;have e1:=kR2.cell 1;have e2:=kR2.cell 2;simp only [World.ref] at e0 e1 e2;simp at e0 e1 e2;refine bodyPost_ret (v:=.tuple #[.agg #[.bool false,.slice none 0 0,.slice none 0 0],.bool false]) (by simp [results,Tryz.results70,go_sem,e0,e1,e2]) rfl ?_
      first
      | exact xF.no HP.out ⟨_,_,_,_,_,_,_,rfl⟩ HWR.out
      | exact xF.no HP.out ⟨_,_,_,_,_,_,_,rfl⟩ (zZ (g:=w.heap.size) (ng:=false) (A:=none) (n:=0) (c:=0) (B:=none) (m:=0) (d:=0) HWR.out (Nat.le_refl _))
    have hz0:((len 1000000000 dv:Int) == 0)=false:=by rw [beq_eq_false_iff_ne];have:=zcp (β:=1000000000) (n:=dv) (by omega) (by omega);omega
    have HZ:=ze (show 0<dv by omega);clear hz;go_wp2_with fail;refine (zdm a _ (V9 HD1.out) (by have:=HL1.out;rw [zm] at this;omega)).mono ?_;rintro e w3 ⟨v3,rfl,hv3,hb3⟩;rw [HA.out,HNV.out] at hv3;have HV3:=ze hv3;have HVa:=ze (z9.below HV.out hb3);have HWR3:=ze (ext HWR.out hb3);have HKR3:=ze (HKR.out.below hb3 HKR.out.lt);clear hv3 hb3 r0 r1 r2 f0 f1 f2 lR HKR HWR;go_wp2_with fail;refine (ZU _ _ _ nv dv _ HV3.out HVa.out HZ.out (Nat.le_trans HLN.out (by decide)) (Nat.le_trans HLV.out (by decide))).mono ?_;rintro e w4 ⟨v4,rfl,hv4,hb4⟩;rw [HN.out] at hv4;obtain ⟨q,hq⟩:∃ q,q=xS (yJ (bts s)) nv dv:=⟨_,rfl⟩;have HQL:=ze (show Vz 33554432 q by rw [hq];exact zgb HZ.out (Nat.le_trans HLN.out (by decide)) (Nat.le_trans HLV.out (by decide)));rw [<- hq] at hv4 HIF;obtain ⟨nq,A5,c5,B5,d5,rfl,hng,ha1,ha2⟩:=hv4.form;have HNG:=ze hng;have hb5:=zg w4 (.cells #[.bool nq,.slice A5 (len 1000000000 q.num.natAbs) c5,.slice B5 (len 1000000000 q.den) d5] 63);have HKR5:=ze (show vU _ w.heap.size from ⟨_,_,_,_,_,_,_,HKR3.out.below (ext hb4 hb5) HKR3.out.lt⟩)
    have HWR5:=ze (ext HWR3.out (ext hb4 hb5));have HS1:=ze (z9.below ha1 hb5);have HS2:=ze (z9.below ha2 hb5);have HKQ:=ze (Blk.new w4 63 #[.bool nq,.slice A5 (len 1000000000 q.num.natAbs) c5,.slice B5 (len 1000000000 q.den) d5]);have lgq:w.heap.size<w4.heap.size:=(HKR3.out.below hb4 HKR3.out.lt).lt;obtain ⟨n5,hn5⟩:∃ n5,len 1000000000 q.num.natAbs=n5:=⟨_,rfl⟩;obtain ⟨m5,hm5⟩:∃ m5,len 1000000000 q.den=m5:=⟨_,rfl⟩;rw [hn5,hm5] at HKR5 HWR5 HKQ |-;rw [hn5,hm5] at HS1 HS2;clear hq hv4 hng hb4 hb5 ha1 ha2 hn5 hm5 HKR3 HWR3 HV3 HVa HV;go_wp2_with fail;generalize hgq:w4.heap.size=gq at HKQ lgq |-;generalize w4.alloc (.cells #[.bool nq,.slice A5 n5 c5,.slice B5 m5 d5] 63)=W7 at HS1 HS2 HKR5 HWR5 HKQ |-;clear hgq;have hlq:=HKQ.out.lt;have q0:=HKQ.out.cell 0;have q1:=HKQ.out.cell 1;have q2:=HKQ.out.cell 2;simp at q0 q1 q2;have HRES:=ze (show vU W7.drew w.heap.size from HKR5.out);have HWX:=ze (show Below w.heap.size w W7.drew from zo HWR5.out 1);have HY1:=ze (show z9 W7.drew _ q.num.natAbs from z9.below HS1.out (zw W7 1))
    have HY2:=ze (show z9 W7.drew _ q.den from z9.below HS2.out (zw W7 1));clear HS1 HS2
    go_region_held3 (fun w' =>w'.cell? ⟨gq,0,none⟩=some (.bool nq)/\w'.cell? ⟨gq,1,none⟩=some (.slice A5 n5 c5)/\w'.cell? ⟨gq,2,none⟩=some (.slice B5 m5 d5)/\gq<w'.heap.size/\Hid (vU w' w.heap.size)/\Hid (Below w.heap.size w w')/\Hid (z9 w' (.slice A5 n5 c5) q.num.natAbs)/\Hid (z9 w' (.slice B5 m5 d5) q.den))
     (first
       | with_reducible exact ⟨by go_keep,by go_keep,by go_keep,by first | (simp;done) | (simp;assumption),HRES,HWX,HY1,HY2⟩
       | (go_split_ands;with_reducible exact ⟨zM (by omega) ‹_›,zM (by omega) ‹_›,zM (by omega) ‹_›,xK ‹_›,vv ‹_›,xN (by omega) ‹_›,X5 ‹_› ‹_›,X5 ‹_› ‹_›⟩)
       | (go_split_ands;with_reducible exact ⟨zj ‹_› ‹_› ‹_›,zj ‹_› ‹_› ‹_›,zj ‹_› ‹_› ‹_›,zA ‹_› ‹_›,xD ‹_› ‹_›,zu ‹_› ‹_›,zhl ‹_› ‹_›,zhl ‹_› ‹_›⟩)
       | go_keep)
     (first
       | (go_at_call 34;refine (zdi _ q _ ⟨_,_,_,_,_,_,_,rfl,HNG.out,zB (by go_split_ands;assumption),zB (by go_split_ands;assumption)⟩ HQL.out).mono ?_;rintro e wo ⟨rfl,hbo⟩;obtain ⟨ngr,Ar,kr,cr,Br,krx,crx,kR⟩:=(xD (g:=w.heap.size) hbo (by go_split_ands;assumption)).out;have r0:=kR.cell 0;have r1:=kR.cell 1;have r2:=kR.cell 2;have f0:=kR.frozen 0;have f1:=kR.frozen 1;have f2:=kR.frozen 2;simp at r0 r1 r2;have HKR:=ze kR;clear kR))
    all_goals
     go_split_ands;have kR2:=yL (ng:=nq) (A:=A5) (n:=n5) (c:=c5) (B:=B5) (m:=m5) (d:=d5) HKR.out;have hR1:=zB (by assumption:Hid (z9 (World.ref wo w.heap.size nq A5 n5 c5 B5 m5 d5) (.slice A5 n5 c5) q.num.natAbs));have hR2:=zB (by assumption:Hid (z9 (World.ref wo w.heap.size nq A5 n5 c5 B5 m5 d5) (.slice B5 m5 d5) q.den));have hRW:=zB (by assumption:Hid (Below w.heap.size w (World.ref wo w.heap.size nq A5 n5 c5 B5 m5 d5)));have e0:=kR2.cell 0;have e1:=kR2.cell 1;have e2:=kR2.cell 2;simp only [World.ref] at e0 e1 e2;simp at e0 e1 e2;go_wp2;refine bodyPost_ret (v:=.tuple #[.agg #[.bool nq,.slice A5 n5 c5,.slice B5 m5 d5],.bool (zh q == s.toList)]) (by simp [results,Tryz.results70,go_sem,e0,e1,e2]) rfl ?_;exact xF.maybe HIF.out (ztg _ _) ⟨_,_,_,_,_,_,_,rfl,HNG.out,hR1,hR2⟩ hRW
theorem XN {a b M K:Nat} (h1:len 1000000000 a<=M) (h2:len 1000000000 b<=K):len 1000000000 (a*b)<=M+K:=
 Nat.le_trans (zai (by omega) a b) (Nat.add_le_add h1 h2)
theorem Zp (va vb:Value) (x y:Rat) (w:World) (ha:xu w va x) (hb:xu w vb y) (hx:Vz 8388608 x) (hy:Vz 8388608 y):
 Calls Tryz.prog 32 #[va,vb] w (Yg w (x*y)):=by
 obtain ⟨g1,A1,n1,c1,B1,m1,d1,rfl,hg1,ha1,ha2⟩:=ha
 obtain ⟨g2,A2,n2,c2,B2,m2,d2,rfl,hg2,hb1,hb2⟩:=hb
 have HX1:=ze (Nat.le_trans hx.1 (show 8388608<=67108864 by omega))
 have HX2:=ze (Nat.le_trans hx.2 (show 8388608<=67108864 by omega))
 have HY1:=ze (Nat.le_trans hy.1 (show 8388608<=67108864 by omega))
 have HY2:=ze (Nat.le_trans hy.2 (show 8388608<=67108864 by omega))
 have HL1:=ze (Nat.le_trans (XN hx.1 hy.1) (show 8388608+8388608<=33554432 by omega))
 have HL2:=ze (Nat.le_trans (XN hx.2 hy.2) (show 8388608+8388608<=33554432 by omega))
 have HPOS:=ze (show 0<x.den*y.den by have:=x.den_pos;have:=y.den_pos;exact Nat.mul_pos ‹0<x.den› ‹0<y.den›)
 rw [zx1 x y, <- hg1, <- hg2]
 have HAN:=ze ha1
 have HAD:=ze ha2
 have HBN:=ze hb1
 have HBD:=ze hb2
 clear ha1 ha2 hb1 hb2 hx hy hg1 hg2
 have HRES:Hid (vU ((((w.alloc (.cells #[.bool g1,.slice A1 n1 c1,.slice B1 m1 d1] 63)).alloc (.cells #[.bool g2,.slice A2 n2 c2,.slice B2 m2 d2] 63)).alloc (.cells #[.bool false,.slice none 0 0,.slice none 0 0] 63)).drew) (w.heap.size+1+1)):=by
  have h:=(Blk.new ((w.alloc (.cells #[.bool g1,.slice A1 n1 c1,.slice B1 m1 d1] 63)).alloc (.cells #[.bool g2,.slice A2 n2 c2,.slice B2 m2 d2] 63)) 63 #[.bool false,.slice none 0 0,.slice none 0 0]).drew
  simp only [World.size_alloc] at h
  exact ⟨_,_,_,_,_,_,_,h⟩
 have HWX:Hid (Below w.heap.size w ((((w.alloc (.cells #[.bool g1,.slice A1 n1 c1,.slice B1 m1 d1] 63)).alloc (.cells #[.bool g2,.slice A2 n2 c2,.slice B2 m2 d2] 63)).alloc (.cells #[.bool false,.slice none 0 0,.slice none 0 0] 63)).drew)):=ze (zo (ext (ext (zg w (.cells #[.bool g1,.slice A1 n1 c1,.slice B1 m1 d1] 63)) (zg _ (.cells #[.bool g2,.slice A2 n2 c2,.slice B2 m2 d2] 63))) (zg _ (.cells #[.bool false,.slice none 0 0,.slice none 0 0] 63))) 1)
 go_enter Tryz.func32,Tryz.ntmps32
 go_wp2_with fail
 go_region_held3 (fun w' =>w'.cell? ⟨w.heap.size,0,none⟩=some (.bool g1)/\w'.cell? ⟨w.heap.size,1,none⟩=some (.slice A1 n1 c1)/\w'.cell? ⟨w.heap.size,2,none⟩=some (.slice B1 m1 d1)/\w'.cell? ⟨w.heap.size+1,0,none⟩=some (.bool g2)/\w'.cell? ⟨w.heap.size+1,1,none⟩=some (.slice A2 n2 c2)/\w'.cell? ⟨w.heap.size+1,2,none⟩=some (.slice B2 m2 d2)/\w.heap.size<w'.heap.size/\w.heap.size+1<w'.heap.size/\Hid (vU w' (w.heap.size+1+1))/\Hid (Below w.heap.size w w'))
  (first
    | with_reducible exact ⟨by go_keep,by go_keep,by go_keep,by go_keep,by go_keep,by go_keep,by first | (simp;done) | (simp;omega),by first | (simp;done) | (simp;omega),HRES,HWX⟩
    | (go_split_ands;with_reducible exact ⟨zM (by omega) ‹_›,zM (by omega) ‹_›,zM (by omega) ‹_›,zM (by omega) ‹_›,zM (by omega) ‹_›,zM (by omega) ‹_›,xK ‹_›,xK ‹_›,vv ‹_›,xN (by omega) ‹_›⟩)
    | (go_split_ands;with_reducible exact ⟨zj ‹_› ‹_› ‹_›,zj ‹_› ‹_› ‹_›,zj ‹_› ‹_› ‹_›,zj ‹_› ‹_› ‹_›,zj ‹_› ‹_› ‹_›,zj ‹_› ‹_› ‹_›,zA ‹_› ‹_›,zA ‹_› ‹_›,xD ‹_› ‹_›,zu ‹_› ‹_›⟩)
    | go_keep)
  (first
    | (go_at_call_of 61 (Value.slice A1 n1 c1);refine (xX _ _ (x.num.natAbs) (y.num.natAbs) _ (z9.below HAN.out (zB (by go_split_ands;assumption))) (z9.below HBN.out (zB (by go_split_ands;assumption))) HX1.out HY1.out).mono ?_;rintro e w1 ⟨v1,rfl,hv1,hb1⟩;have HM1:=ze hv1;clear hv1;try replace HM2:=ze (z9.below HM2.out hb1))
    | (go_at_call_of 61 (Value.slice B1 m1 d1);refine (xX _ _ (x.den) (y.den) _ (z9.below HAD.out (zB (by go_split_ands;assumption))) (z9.below HBD.out (zB (by go_split_ands;assumption))) HX2.out HY2.out).mono ?_;rintro e w2 ⟨v2,rfl,hv2,hb2⟩;have HM2:=ze hv2;clear hv2;try replace HM1:=ze (z9.below HM1.out hb2))
    | (go_at_call 62;refine (ZU _ _ _ (x.num.natAbs*y.num.natAbs) (x.den*y.den) _ HM1.out HM2.out HPOS.out HL1.out HL2.out).mono ?_;rintro e wo ⟨vo,rfl,⟨g5,A5,n5,c5,B5,m5,d5,rfl,hq0,hq1,hq2⟩,hbo⟩;obtain ⟨gr,Ar,kr,cr,Br,krx,crx,kR⟩:=(xD (g:=w.heap.size+1+1) hbo (by go_split_ands;assumption)).out;have r0:=kR.cell 0;have r1:=kR.cell 1;have r2:=kR.cell 2;have f0:=kR.frozen 0;have f1:=kR.frozen 1;have f2:=kR.frozen 2;simp at r0 r1 r2;have HQ0:=ze hq0;have HQ1:=ze hq1;have HQ2:=ze hq2;have HKR:=ze kR;clear hq0 hq1 hq2 kR;try replace HM1:=ze (z9.below HM1.out hbo);try replace HM2:=ze (z9.below HM2.out hbo)))
 all_goals
  go_split_ands
  have kR2:=yL (ng:=g5) (A:=A5) (n:=n5) (c:=c5) (B:=B5) (m:=m5) (d:=d5) HKR.out
  have hR1:=zU (ng:=g5) (A:=A5) (n:=n5) (c:=c5) (B:=B5) (m:=m5) (d:=d5) HQ1.out HKR.out
  have hR2:=zU (ng:=g5) (A:=A5) (n:=n5) (c:=c5) (B:=B5) (m:=m5) (d:=d5) HQ2.out HKR.out
  have hRW:=zB (by assumption:Hid (Below w.heap.size w (World.ref wo (w.heap.size+1+1) g5 A5 n5 c5 B5 m5 d5)))
  have e0:=kR2.cell 0
  have e1:=kR2.cell 1
  have e2:=kR2.cell 2
  simp only [World.ref] at e0 e1 e2
  simp at e0 e1 e2
  go_wp2
  refine bodyPost_ret (v:=.agg #[.bool g5,.slice A5 n5 c5,.slice B5 m5 d5]) (by simp [results,Tryz.results32,go_sem,e0,e1,e2]) rfl ?_
  exact ⟨_,rfl,⟨_,_,_,_,_,_,_,rfl,HQ0.out,hR1,hR2⟩,hRW⟩
theorem Yh (va vb:Value) (x y:Rat) (w:World) (ha:xu w va x) (hb:xu w vb y) (hx:Vz 8388608 x) (hy:Vz 8388608 y) (hy0:y≠0):
 Calls Tryz.prog 43 #[va,vb] w (Yg w (x / y)):=by
 obtain ⟨g1,A1,n1,c1,B1,m1,d1,rfl,hg1,ha1,ha2⟩:=ha
 obtain ⟨g2,A2,n2,c2,B2,m2,d2,rfl,hg2,hb1,hb2⟩:=hb
 have HX1:=ze (Nat.le_trans hx.1 (show 8388608<=67108864 by omega))
 have HX2:=ze (Nat.le_trans hx.2 (show 8388608<=67108864 by omega))
 have HY1:=ze (Nat.le_trans hy.1 (show 8388608<=67108864 by omega))
 have HY2:=ze (Nat.le_trans hy.2 (show 8388608<=67108864 by omega))
 have HL1:=ze (Nat.le_trans (XN hx.1 hy.2) (show 8388608+8388608<=33554432 by omega))
 have HL2:=ze (Nat.le_trans (XN hx.2 hy.1) (show 8388608+8388608<=33554432 by omega))
 have HPOS:=ze (show 0<x.den*y.num.natAbs by refine Nat.mul_pos x.den_pos ?_;have h0:y.num≠0:=fun h=>hy0 (Rat.num_eq_zero.1 h);omega)
 rw [zxf x y, <- hg1, <- hg2]
 have HAN:=ze ha1
 have HAD:=ze ha2
 have HBN:=ze hb1
 have HBD:=ze hb2
 clear ha1 ha2 hb1 hb2 hx hy hg1 hg2
 have HRES:Hid (vU ((((w.alloc (.cells #[.bool g1,.slice A1 n1 c1,.slice B1 m1 d1] 63)).alloc (.cells #[.bool g2,.slice A2 n2 c2,.slice B2 m2 d2] 63)).alloc (.cells #[.bool false,.slice none 0 0,.slice none 0 0] 63)).drew) (w.heap.size+1+1)):=by
  have h:=(Blk.new ((w.alloc (.cells #[.bool g1,.slice A1 n1 c1,.slice B1 m1 d1] 63)).alloc (.cells #[.bool g2,.slice A2 n2 c2,.slice B2 m2 d2] 63)) 63 #[.bool false,.slice none 0 0,.slice none 0 0]).drew
  simp only [World.size_alloc] at h
  exact ⟨_,_,_,_,_,_,_,h⟩
 have HWX:Hid (Below w.heap.size w ((((w.alloc (.cells #[.bool g1,.slice A1 n1 c1,.slice B1 m1 d1] 63)).alloc (.cells #[.bool g2,.slice A2 n2 c2,.slice B2 m2 d2] 63)).alloc (.cells #[.bool false,.slice none 0 0,.slice none 0 0] 63)).drew)):=ze (zo (ext (ext (zg w (.cells #[.bool g1,.slice A1 n1 c1,.slice B1 m1 d1] 63)) (zg _ (.cells #[.bool g2,.slice A2 n2 c2,.slice B2 m2 d2] 63))) (zg _ (.cells #[.bool false,.slice none 0 0,.slice none 0 0] 63))) 1)
 go_enter Tryz.func43,Tryz.ntmps43
 go_wp2_with fail
 go_region_held3 (fun w' =>w'.cell? ⟨w.heap.size,0,none⟩=some (.bool g1)/\w'.cell? ⟨w.heap.size,1,none⟩=some (.slice A1 n1 c1)/\w'.cell? ⟨w.heap.size,2,none⟩=some (.slice B1 m1 d1)/\w'.cell? ⟨w.heap.size+1,0,none⟩=some (.bool g2)/\w'.cell? ⟨w.heap.size+1,1,none⟩=some (.slice A2 n2 c2)/\w'.cell? ⟨w.heap.size+1,2,none⟩=some (.slice B2 m2 d2)/\w.heap.size<w'.heap.size/\w.heap.size+1<w'.heap.size/\Hid (vU w' (w.heap.size+1+1))/\Hid (Below w.heap.size w w'))
  (first
    | with_reducible exact ⟨by go_keep,by go_keep,by go_keep,by go_keep,by go_keep,by go_keep,by first | (simp;done) | (simp;omega),by first | (simp;done) | (simp;omega),HRES,HWX⟩
    | (go_split_ands;with_reducible exact ⟨zM (by omega) ‹_›,zM (by omega) ‹_›,zM (by omega) ‹_›,zM (by omega) ‹_›,zM (by omega) ‹_›,zM (by omega) ‹_›,xK ‹_›,xK ‹_›,vv ‹_›,xN (by omega) ‹_›⟩)
    | (go_split_ands;with_reducible exact ⟨zj ‹_› ‹_› ‹_›,zj ‹_› ‹_› ‹_›,zj ‹_› ‹_› ‹_›,zj ‹_› ‹_› ‹_›,zj ‹_› ‹_› ‹_›,zj ‹_› ‹_› ‹_›,zA ‹_› ‹_›,zA ‹_› ‹_›,xD ‹_› ‹_›,zu ‹_› ‹_›⟩)
    | go_keep)
  (first
    | (go_at_call_of 61 (Value.slice A1 n1 c1);refine (xX _ _ (x.num.natAbs) (y.den) _ (z9.below HAN.out (zB (by go_split_ands;assumption))) (z9.below HBD.out (zB (by go_split_ands;assumption))) HX1.out HY2.out).mono ?_;rintro e w1 ⟨v1,rfl,hv1,hb1⟩;have HM1:=ze hv1;clear hv1;try replace HM2:=ze (z9.below HM2.out hb1))
    | (go_at_call_of 61 (Value.slice B1 m1 d1);refine (xX _ _ (x.den) (y.num.natAbs) _ (z9.below HAD.out (zB (by go_split_ands;assumption))) (z9.below HBN.out (zB (by go_split_ands;assumption))) HX2.out HY1.out).mono ?_;rintro e w2 ⟨v2,rfl,hv2,hb2⟩;have HM2:=ze hv2;clear hv2;try replace HM1:=ze (z9.below HM1.out hb2))
    | (go_at_call 62;refine (ZU _ _ _ (x.num.natAbs*y.den) (x.den*y.num.natAbs) _ HM1.out HM2.out HPOS.out HL1.out HL2.out).mono ?_;rintro e wo ⟨vo,rfl,⟨g5,A5,n5,c5,B5,m5,d5,rfl,hq0,hq1,hq2⟩,hbo⟩;obtain ⟨gr,Ar,kr,cr,Br,krx,crx,kR⟩:=(xD (g:=w.heap.size+1+1) hbo (by go_split_ands;assumption)).out;have r0:=kR.cell 0;have r1:=kR.cell 1;have r2:=kR.cell 2;have f0:=kR.frozen 0;have f1:=kR.frozen 1;have f2:=kR.frozen 2;simp at r0 r1 r2;have HQ0:=ze hq0;have HQ1:=ze hq1;have HQ2:=ze hq2;have HKR:=ze kR;clear hq0 hq1 hq2 kR;try replace HM1:=ze (z9.below HM1.out hbo);try replace HM2:=ze (z9.below HM2.out hbo)))
 all_goals
  go_split_ands
  have kR2:=yL (ng:=g5) (A:=A5) (n:=n5) (c:=c5) (B:=B5) (m:=m5) (d:=d5) HKR.out
  have hR1:=zU (ng:=g5) (A:=A5) (n:=n5) (c:=c5) (B:=B5) (m:=m5) (d:=d5) HQ1.out HKR.out
  have hR2:=zU (ng:=g5) (A:=A5) (n:=n5) (c:=c5) (B:=B5) (m:=m5) (d:=d5) HQ2.out HKR.out
  have hRW:=zB (by assumption:Hid (Below w.heap.size w (World.ref wo (w.heap.size+1+1) g5 A5 n5 c5 B5 m5 d5)))
  have e0:=kR2.cell 0
  have e1:=kR2.cell 1
  have e2:=kR2.cell 2
  simp only [World.ref] at e0 e1 e2
  simp at e0 e1 e2
  go_wp2
  refine bodyPost_ret (v:=.agg #[.bool g5,.slice A5 n5 c5,.slice B5 m5 d5]) (by simp [results,Tryz.results43,go_sem,e0,e1,e2]) rfl ?_
  exact ⟨_,rfl,⟨_,_,_,_,_,_,_,rfl,HQ0.out,hR1,hR2⟩,hRW⟩
theorem Vz.neg {M:Nat} {x:Rat} (h:Vz M x):Vz M (-x):=by
 unfold Vz at h |-
 rw [Rat.neg_num,Rat.neg_den,Int.natAbs_neg]
 exact h
theorem Vz.mono {M K:Nat} {x:Rat} (h:Vz M x) (hk:M<=K):Vz K x:=⟨Nat.le_trans h.1 hk,Nat.le_trans h.2 hk⟩
theorem VY (va:Value) (x:Rat) (w:World) (ha:xu w va x):
 Calls Tryz.prog 59 #[va] w (Yg w (-x)):=by
 obtain ⟨g,A,c,B,d,rfl,hg,ha1,ha2⟩:=ha.form
 have hs:(!g && decide (0<len 1000000000 x.num.natAbs))=decide ((-x).num<0):=by
  rw [Rat.neg_num,hg]
  have h1:=zcp (β:=1000000000) (n:=x.num.natAbs) (by omega)
  have h2:=za6 (β:=1000000000)
  by_cases h0:x.num<0
  . rw [decide_eq_true h0,decide_eq_false (show ¬ -x.num<0 by omega)];rfl
  by_cases h3:x.num=0
  . rw [h3];rw [show (0:Int).natAbs=0 from rfl,h2];decide
  rw [decide_eq_false h0,decide_eq_true (show 0<len 1000000000 x.num.natAbs from h1 (by omega)),decide_eq_true (show -x.num<0 by omega)];rfl
 have HS:=ze hs
 have HA:=ze ha1
 have HB:=ze ha2
 obtain ⟨n,hn⟩:∃ n,len 1000000000 x.num.natAbs=n:=⟨_,rfl⟩
 obtain ⟨m,hm⟩:∃ m,len 1000000000 x.den=m:=⟨_,rfl⟩
 rw [hn] at HS HA
 rw [hm] at HB
 rw [hn,hm]
 clear ha ha1 ha2 hs hg hn hm
 have HN1:=ze (show (-x).num.natAbs=x.num.natAbs by rw [Rat.neg_num,Int.natAbs_neg])
 have HW:=ze (fun (v:Bool)=>ext (zg w (.cells #[.bool g,.slice A n c,.slice B m d] 63)) (zg (w.alloc (.cells #[.bool g,.slice A n c,.slice B m d] 63)) (.cells #[.bool v,.slice A n c,.slice B m d] 63)))
 cases g
 . go_enter Tryz.func59,Tryz.ntmps59
   go_wp2_with fail;refine bodyPost_ret (v:=.agg #[.bool (decide (0<n)),.slice A n c,.slice B m d]) (by simp [results,Tryz.results59,go_sem]) rfl ?_;refine ⟨_,rfl,⟨_,_,_,_,_,_,_,rfl,HS.out,?_,?_⟩,HW.out _⟩
   . rw [HN1.out];exact z9.below HA.out (HW.out _)
   exact z9.below HB.out (HW.out _)
 go_enter Tryz.func59,Tryz.ntmps59
 go_wp2_with fail;refine bodyPost_ret (v:=.agg #[.bool false,.slice A n c,.slice B m d]) (by simp [results,Tryz.results59,go_sem]) rfl ?_;refine ⟨_,rfl,⟨_,_,_,_,_,_,_,rfl,HS.out,?_,?_⟩,HW.out _⟩
 . rw [HN1.out];exact z9.below HA.out (HW.out _)
 exact z9.below HB.out (HW.out _)
theorem YZ (va:Value) (x:Rat) (w:World) (ha:xu w va x):
 Calls Tryz.prog 38 #[va] w (vO w (.int .i64 x.num.sign)):=by
 obtain ⟨g,A,c,B,d,rfl,hg,ha1,ha2⟩:=ha.form
 have HW:=ze (zg w (.cells #[.bool g,.slice A (len 1000000000 x.num.natAbs) c,.slice B (len 1000000000 x.den) d] 63))
 by_cases h0:x.num=0
 . have HS:=ze (show x.num.sign=0 by rw [h0];rfl)
   have hl:len 1000000000 x.num.natAbs=0:=by rw [h0];exact za6 _
   rw [hl] at HW |-;generalize len 1000000000 x.den=m at HW |-;clear h0 hg hl ha ha1 ha2
   go_enter Tryz.func38,Tryz.ntmps38
   go_wp2_with fail;go_ret;exact ⟨zr HS.out,HW.out⟩
 have hl:((len 1000000000 x.num.natAbs:Int) == 0)=false:=by
  rw [beq_eq_false_iff_ne];have:=zcp (β:=1000000000) (n:=x.num.natAbs) (by omega) (by omega);omega
 have HS:=ze (show x.num.sign=if g then -1 else 1 by
  rw [hg]
  by_cases h1:x.num<0
  . rw [decide_eq_true h1];simpa using Int.sign_eq_neg_one_of_neg h1
  rw [decide_eq_false h1];simpa using Int.sign_eq_one_of_pos (by omega))
 generalize len 1000000000 x.num.natAbs=n at HW hl ha ha1 |-;generalize len 1000000000 x.den=m at HW ha ha2 |-;clear h0 hg ha ha1 ha2
 cases g
 . go_enter Tryz.func38,Tryz.ntmps38
   go_wp2_with fail;go_ret;exact ⟨zr HS.out,HW.out⟩
 go_enter Tryz.func38,Tryz.ntmps38
 go_wp2_with fail;go_ret;exact ⟨zr HS.out,HW.out⟩
theorem zrc {a b:Nat}:decide (0<=zQ (a:Int) (b:Int))=decide (b<=a):=by
 unfold zQ
 rcases Nat.lt_trichotomy a b with h | h | h
 . rw [if_pos (by omega),decide_eq_false (show ¬ b<=a by omega)];rfl
 . rw [if_neg (by omega),if_neg (by omega),decide_eq_true (show b<=a by omega)];rfl
 . rw [if_neg (by omega),if_pos (by omega),decide_eq_true (show b<=a by omega)];rfl
theorem vz (va vb:Value) (x y:Rat) (w:World) (ha:xu w va x) (hb:xu w vb y) (hx:Vz 8388608 x) (hy:Vz 8388608 y):
 Calls Tryz.prog 31 #[va,vb] w (Yg w (x+y)):=by
 obtain ⟨g1,A1,n1,c1,B1,m1,d1,rfl,hg1,ha1,ha2⟩:=ha
 obtain ⟨g2,A2,n2,c2,B2,m2,d2,rfl,hg2,hb1,hb2⟩:=hb
 have HX1:=ze (Nat.le_trans hx.1 (show 8388608<=67108864 by omega))
 have HX2:=ze (Nat.le_trans hx.2 (show 8388608<=67108864 by omega))
 have HY1:=ze (Nat.le_trans hy.1 (show 8388608<=67108864 by omega))
 have HY2:=ze (Nat.le_trans hy.2 (show 8388608<=67108864 by omega))
 have hl1:=XN hx.1 hy.2
 have hl2:=XN hy.1 hx.2
 have HLA:=ze (Nat.le_trans hl1 (show 8388608+8388608<=67108864 by omega))
 have HLB:=ze (Nat.le_trans hl2 (show 8388608+8388608<=67108864 by omega))
 have HLL:=ze (Nat.le_trans (XN hx.2 hy.2) (show 8388608+8388608<=33554432 by omega))
 have HSUM:=ze (show len 1000000000 (x.num.natAbs*y.den+y.num.natAbs*x.den)<=33554432 from Nat.le_trans (zse (by omega) _ _) (by omega))
 have HSUB1:=ze (show len 1000000000 (x.num.natAbs*y.den - y.num.natAbs*x.den)<=33554432 from Nat.le_trans (vV (by omega) (Nat.sub_le _ _)) (by omega))
 have HSUB2:=ze (show len 1000000000 (y.num.natAbs*x.den - x.num.natAbs*y.den)<=33554432 from Nat.le_trans (vV (by omega) (Nat.sub_le _ _)) (by omega))
 have HPOS:=ze (show 0<x.den*y.den from Nat.mul_pos x.den_pos y.den_pos)
 have HAN:=ze ha1
 have HAD:=ze ha2
 have HBN:=ze hb1
 have HBD:=ze hb2
 have HG1:=ze hg1
 have HG2:=ze hg2
 clear ha1 ha2 hb1 hb2 hx hy hg1 hg2 hl1 hl2
 have HRES:Hid (vU ((((w.alloc (.cells #[.bool g1,.slice A1 n1 c1,.slice B1 m1 d1] 63)).alloc (.cells #[.bool g2,.slice A2 n2 c2,.slice B2 m2 d2] 63)).alloc (.cells #[.bool false,.slice none 0 0,.slice none 0 0] 63)).drew) (w.heap.size+1+1)):=by
  have h:=(Blk.new ((w.alloc (.cells #[.bool g1,.slice A1 n1 c1,.slice B1 m1 d1] 63)).alloc (.cells #[.bool g2,.slice A2 n2 c2,.slice B2 m2 d2] 63)) 63 #[.bool false,.slice none 0 0,.slice none 0 0]).drew
  simp only [World.size_alloc] at h
  exact ⟨_,_,_,_,_,_,_,h⟩
 have HWX:Hid (Below w.heap.size w ((((w.alloc (.cells #[.bool g1,.slice A1 n1 c1,.slice B1 m1 d1] 63)).alloc (.cells #[.bool g2,.slice A2 n2 c2,.slice B2 m2 d2] 63)).alloc (.cells #[.bool false,.slice none 0 0,.slice none 0 0] 63)).drew)):=ze (zo (ext (ext (zg w (.cells #[.bool g1,.slice A1 n1 c1,.slice B1 m1 d1] 63)) (zg _ (.cells #[.bool g2,.slice A2 n2 c2,.slice B2 m2 d2] 63))) (zg _ (.cells #[.bool false,.slice none 0 0,.slice none 0 0] 63))) 1)
 go_enter Tryz.func31,Tryz.ntmps31
 go_wp2_with fail
 go_region_held3 (fun w' =>w'.cell? ⟨w.heap.size,0,none⟩=some (.bool g1)/\w'.cell? ⟨w.heap.size,1,none⟩=some (.slice A1 n1 c1)/\w'.cell? ⟨w.heap.size,2,none⟩=some (.slice B1 m1 d1)/\w'.cell? ⟨w.heap.size+1,0,none⟩=some (.bool g2)/\w'.cell? ⟨w.heap.size+1,1,none⟩=some (.slice A2 n2 c2)/\w'.cell? ⟨w.heap.size+1,2,none⟩=some (.slice B2 m2 d2)/\w.heap.size<w'.heap.size/\w.heap.size+1<w'.heap.size/\Hid (vU w' (w.heap.size+1+1))/\Hid (Below w.heap.size w w'))
  (first
    | with_reducible exact ⟨by go_keep,by go_keep,by go_keep,by go_keep,by go_keep,by go_keep,by first | (simp;done) | (simp;omega),by first | (simp;done) | (simp;omega),HRES,HWX⟩
    | (go_split_ands;with_reducible exact ⟨zM (by omega) ‹_›,zM (by omega) ‹_›,zM (by omega) ‹_›,zM (by omega) ‹_›,zM (by omega) ‹_›,zM (by omega) ‹_›,xK ‹_›,xK ‹_›,vv ‹_›,xN (by omega) ‹_›⟩)
    | (go_split_ands;with_reducible exact ⟨zj ‹_› ‹_› ‹_›,zj ‹_› ‹_› ‹_›,zj ‹_› ‹_› ‹_›,zj ‹_› ‹_› ‹_›,zj ‹_› ‹_› ‹_›,zj ‹_› ‹_› ‹_›,zA ‹_› ‹_›,zA ‹_› ‹_›,xD ‹_› ‹_›,zu ‹_› ‹_›⟩)
    | go_keep)
  (first
    | (go_at_call_of 61 (Value.slice A1 n1 c1);refine (xX _ _ x.num.natAbs y.den _ (z9.below HAN.out (zB (by go_split_ands;assumption))) (z9.below HBD.out (zB (by go_split_ands;assumption))) HX1.out HY2.out).mono ?_;rintro e w1 ⟨v1,rfl,hv1,hb1⟩;have HM1:=ze hv1;clear hv1;try replace HM2:=ze (z9.below HM2.out hb1))
    | (go_at_call_of 61 (Value.slice A2 n2 c2);refine (xX _ _ y.num.natAbs x.den _ (z9.below HBN.out (zB (by go_split_ands;assumption))) (z9.below HAD.out (zB (by go_split_ands;assumption))) HY1.out HX2.out).mono ?_;rintro e w2 ⟨v2,rfl,hv2,hb2⟩;have HM2:=ze hv2;clear hv2;try replace HM1:=ze (z9.below HM1.out hb2)))
 all_goals
  go_split_ands
  have HW1:Hid (Below w.heap.size w w2):=by assumption
  have HR1:Hid (vU w2 (w.heap.size+1+1)):=by assumption
  go_wp2_with fail
  refine (xX _ _ x.den y.den w2 (z9.below HAD.out HW1.out) (z9.below HBD.out HW1.out) HX2.out HY2.out).mono ?_
  rintro e W2 ⟨v3,rfl,hv3,hb3⟩
  have HM3:=ze hv3
  have HM1' :=ze (z9.below HM1.out hb3)
  have HM2' :=ze (z9.below HM2.out hb3)
  have HW2:=ze (ext HW1.out hb3)
  have HR2:=xD hb3 HR1
  have j0:W2.cell? ⟨w.heap.size,0,none⟩=some (.bool g1):=zj hb3 ‹_› ‹_›
  have j1:W2.cell? ⟨w.heap.size,1,none⟩=some (.slice A1 n1 c1):=zj hb3 ‹_› ‹_›
  have j2:W2.cell? ⟨w.heap.size,2,none⟩=some (.slice B1 m1 d1):=zj hb3 ‹_› ‹_›
  have j3:W2.cell? ⟨w.heap.size+1,0,none⟩=some (.bool g2):=zj hb3 ‹_› ‹_›
  have j4:W2.cell? ⟨w.heap.size+1,1,none⟩=some (.slice A2 n2 c2):=zj hb3 ‹_› ‹_›
  have j5:W2.cell? ⟨w.heap.size+1,2,none⟩=some (.slice B2 m2 d2):=zj hb3 ‹_› ‹_›
  have l0:w.heap.size<W2.heap.size:=zA hb3 ‹_›
  have l1:w.heap.size+1<W2.heap.size:=zA hb3 ‹_›
  clear hv3 hb3 HM1 HM2 HR1 HW1 HRES HWX
  have HM1:=HM1'
  have HM2:=HM2'
  clear HM1' HM2'
  by_cases hgg:g1=g2
  . have hgI:(g1 == g2)=true:=by rw [beq_iff_eq];exact hgg
    have HEQ:=ze (zjn (x:=x) (y:=y) (by rw [<- HG1.out, <- HG2.out];exact hgg));rw [<- HG1.out] at HEQ;have HLS:=HSUM;clear hgg;go_wp2_with fail;have HRES:=ze (show vU W2.drew (w.heap.size+1+1) from HR2.out);have HWX:=ze (show Below w.heap.size w W2.drew from zo HW2.out 1)
    go_region_held3 (fun w' =>w'.cell? ⟨w.heap.size,0,none⟩=some (.bool g1)/\w'.cell? ⟨w.heap.size,1,none⟩=some (.slice A1 n1 c1)/\w'.cell? ⟨w.heap.size,2,none⟩=some (.slice B1 m1 d1)/\w'.cell? ⟨w.heap.size+1,0,none⟩=some (.bool g2)/\w'.cell? ⟨w.heap.size+1,1,none⟩=some (.slice A2 n2 c2)/\w'.cell? ⟨w.heap.size+1,2,none⟩=some (.slice B2 m2 d2)/\w.heap.size<w'.heap.size/\w.heap.size+1<w'.heap.size/\Hid (vU w' (w.heap.size+1+1))/\Hid (Below w.heap.size w w'))
     (first
       | with_reducible exact ⟨by go_keep,by go_keep,by go_keep,by go_keep,by go_keep,by go_keep,by assumption,by assumption,HRES,HWX⟩
       | (go_split_ands;with_reducible exact ⟨zM (by omega) ‹_›,zM (by omega) ‹_›,zM (by omega) ‹_›,zM (by omega) ‹_›,zM (by omega) ‹_›,zM (by omega) ‹_›,xK ‹_›,xK ‹_›,vv ‹_›,xN (by omega) ‹_›⟩)
       | (go_split_ands;with_reducible exact ⟨zj ‹_› ‹_› ‹_›,zj ‹_› ‹_› ‹_›,zj ‹_› ‹_› ‹_›,zj ‹_› ‹_› ‹_›,zj ‹_› ‹_› ‹_›,zj ‹_› ‹_› ‹_›,zA ‹_› ‹_›,zA ‹_› ‹_›,xD ‹_› ‹_›,zu ‹_› ‹_›⟩)
       | go_keep)
     (first
       | (go_at_call 63;refine (zvr _ _ (x.num.natAbs*y.den) (y.num.natAbs*x.den) _ (z9.below HM1.out (show Below W2.heap.size W2 W2.drew from zw W2 1)) (z9.below HM2.out (show Below W2.heap.size W2 W2.drew from zw W2 1)) HLA.out HLB.out).mono ?_;rintro e w5 ⟨v5,rfl,hv5,hb5⟩;have HM5:=ze hv5;have HM3b:=ze (z9.below HM3.out (ext (show Below W2.heap.size W2 W2.drew from zw W2 1) hb5));clear hv5)
       | (go_at_call 62;refine (ZU _ _ _ (x.num.natAbs*y.den+y.num.natAbs*x.den) (x.den*y.den) _ HM5.out HM3b.out HPOS.out HLS.out HLL.out).mono ?_;rintro e wo ⟨vo,rfl,⟨g5,A5,n5,c5,B5,m5,d5,rfl,hq0,hq1,hq2⟩,hbo⟩;obtain ⟨gr,Ar,kr,cr,Br,krx,crx,kR⟩:=(xD (g:=w.heap.size+1+1) hbo (by go_split_ands;assumption)).out;have r0:=kR.cell 0;have r1:=kR.cell 1;have r2:=kR.cell 2;have f0:=kR.frozen 0;have f1:=kR.frozen 1;have f2:=kR.frozen 2;simp at r0 r1 r2;have HQ0:=ze hq0;have HQ1:=ze hq1;have HQ2:=ze hq2;have HKR:=ze kR;clear hq0 hq1 hq2 kR))
    all_goals
     go_split_ands;have kR2:=yL (ng:=g5) (A:=A5) (n:=n5) (c:=c5) (B:=B5) (m:=m5) (d:=d5) HKR.out;have hR1:=zU (ng:=g5) (A:=A5) (n:=n5) (c:=c5) (B:=B5) (m:=m5) (d:=d5) HQ1.out HKR.out;have hR2:=zU (ng:=g5) (A:=A5) (n:=n5) (c:=c5) (B:=B5) (m:=m5) (d:=d5) HQ2.out HKR.out;have hRW:=zB (by assumption:Hid (Below w.heap.size w (World.ref wo (w.heap.size+1+1) g5 A5 n5 c5 B5 m5 d5)));have e0:=kR2.cell 0;have e1:=kR2.cell 1;have e2:=kR2.cell 2;simp only [World.ref] at e0 e1 e2;simp at e0 e1 e2;go_wp2;refine bodyPost_ret (v:=.agg #[.bool g5,.slice A5 n5 c5,.slice B5 m5 d5]) (by simp [results,Tryz.results31,go_sem,e0,e1,e2]) rfl ?_;exact ⟨_,rfl,⟨_,_,_,_,_,_,_,rfl,(by rw [HEQ.out];exact HQ0.out),(by rw [HEQ.out];exact hR1),(by rw [HEQ.out];exact hR2)⟩,hRW⟩
  have hgI:(g1 == g2)=false:=by rw [beq_eq_false_iff_ne];exact hgg
  have HNE:=ze (show decide (x.num<0)≠decide (y.num<0) by rw [<- HG1.out, <- HG2.out];exact hgg);clear hgg
  by_cases hle:y.num.natAbs*x.den<=x.num.natAbs*y.den
  . have hc0:0<=zQ ((x.num.natAbs*y.den:Nat):Int) ((y.num.natAbs*x.den:Nat):Int):=of_decide_eq_true (by rw [zrc,decide_eq_true hle])
    have HEQ:=ze (zqh HNE.out hle);have HLE:=ze hle;rw [<- HG1.out] at HEQ;have HLS:=HSUB1;clear hle;go_wp2_with fail;refine (Z0 _ _ (x.num.natAbs*y.den) (y.num.natAbs*x.den) W2 HM1.out HM2.out HLA.out HLB.out).mono ?_;rintro e W3 ⟨rfl,n,rfl⟩;generalize zQ ((x.num.natAbs*y.den:Nat):Int) ((y.num.natAbs*x.den:Nat):Int)=cv at hc0 |-;have hb3:=zw W2 n;have HM1' :=ze (z9.below HM1.out hb3);have HM2' :=ze (z9.below HM2.out hb3);have HM3' :=ze (z9.below HM3.out hb3);have HW2' :=ze (ext HW2.out hb3);have HR2' :=xD hb3 HR2;have j0' :=zj hb3 l0 j0;have j1' :=zj hb3 l0 j1;have j2' :=zj hb3 l0 j2;have j3' :=zj hb3 l1 j3;have j4' :=zj hb3 l1 j4;have j5' :=zj hb3 l1 j5;have l0' :=zA hb3 l0;have l1' :=zA hb3 l1;clear hb3 HM1 HM2 HM3 HW2 HR2 j0 j1 j2 j3 j4 j5 l0 l1;generalize W2.drewN n=W2 at HM1' HM2' HM3' HW2' HR2' j0' j1' j2' j3' j4' j5' l0' l1' |-;have HM1:=HM1';have HM2:=HM2';have HM3:=HM3';have HW2:=HW2';have HR2:=HR2';clear HM1' HM2' HM3' HW2' HR2';go_wp2_with fail;have HRES:=ze (show vU W2.drew (w.heap.size+1+1) from HR2.out);have HWX:=ze (show Below w.heap.size w W2.drew from zo HW2.out 1)
    go_region_held3 (fun w' =>w'.cell? ⟨w.heap.size,0,none⟩=some (.bool g1)/\w'.cell? ⟨w.heap.size,1,none⟩=some (.slice A1 n1 c1)/\w'.cell? ⟨w.heap.size,2,none⟩=some (.slice B1 m1 d1)/\w'.cell? ⟨w.heap.size+1,0,none⟩=some (.bool g2)/\w'.cell? ⟨w.heap.size+1,1,none⟩=some (.slice A2 n2 c2)/\w'.cell? ⟨w.heap.size+1,2,none⟩=some (.slice B2 m2 d2)/\w.heap.size<w'.heap.size/\w.heap.size+1<w'.heap.size/\Hid (vU w' (w.heap.size+1+1))/\Hid (Below w.heap.size w w'))
     (first
       | with_reducible exact ⟨by go_keep,by go_keep,by go_keep,by go_keep,by go_keep,by go_keep,by assumption,by assumption,HRES,HWX⟩
       | (go_split_ands;with_reducible exact ⟨zM (by omega) ‹_›,zM (by omega) ‹_›,zM (by omega) ‹_›,zM (by omega) ‹_›,zM (by omega) ‹_›,zM (by omega) ‹_›,xK ‹_›,xK ‹_›,vv ‹_›,xN (by omega) ‹_›⟩)
       | (go_split_ands;with_reducible exact ⟨zj ‹_› ‹_› ‹_›,zj ‹_› ‹_› ‹_›,zj ‹_› ‹_› ‹_›,zj ‹_› ‹_› ‹_›,zj ‹_› ‹_› ‹_›,zj ‹_› ‹_› ‹_›,zA ‹_› ‹_›,zA ‹_› ‹_›,xD ‹_› ‹_›,zu ‹_› ‹_›⟩)
       | go_keep)
     (first
       | (go_at_call 65;refine (XZ _ _ (x.num.natAbs*y.den) (y.num.natAbs*x.den) _ (z9.below HM1.out (show Below W2.heap.size W2 W2.drew from zw W2 1)) (z9.below HM2.out (show Below W2.heap.size W2 W2.drew from zw W2 1)) HLE.out HLA.out).mono ?_;rintro e w5 ⟨v5,rfl,hv5,hb5⟩;have HM5:=ze hv5;have HM3b:=ze (z9.below HM3.out (ext (show Below W2.heap.size W2 W2.drew from zw W2 1) hb5));clear hv5)
       | (go_at_call 62;refine (ZU _ _ _ (x.num.natAbs*y.den - y.num.natAbs*x.den) (x.den*y.den) _ HM5.out HM3b.out HPOS.out HLS.out HLL.out).mono ?_;rintro e wo ⟨vo,rfl,⟨g5,A5,n5,c5,B5,m5,d5,rfl,hq0,hq1,hq2⟩,hbo⟩;obtain ⟨gr,Ar,kr,cr,Br,krx,crx,kR⟩:=(xD (g:=w.heap.size+1+1) hbo (by go_split_ands;assumption)).out;have r0:=kR.cell 0;have r1:=kR.cell 1;have r2:=kR.cell 2;have f0:=kR.frozen 0;have f1:=kR.frozen 1;have f2:=kR.frozen 2;simp at r0 r1 r2;have HQ0:=ze hq0;have HQ1:=ze hq1;have HQ2:=ze hq2;have HKR:=ze kR;clear hq0 hq1 hq2 kR))
    all_goals
     go_split_ands;have kR2:=yL (ng:=g5) (A:=A5) (n:=n5) (c:=c5) (B:=B5) (m:=m5) (d:=d5) HKR.out;have hR1:=zU (ng:=g5) (A:=A5) (n:=n5) (c:=c5) (B:=B5) (m:=m5) (d:=d5) HQ1.out HKR.out;have hR2:=zU (ng:=g5) (A:=A5) (n:=n5) (c:=c5) (B:=B5) (m:=m5) (d:=d5) HQ2.out HKR.out;have hRW:=zB (by assumption:Hid (Below w.heap.size w (World.ref wo (w.heap.size+1+1) g5 A5 n5 c5 B5 m5 d5)));have e0:=kR2.cell 0;have e1:=kR2.cell 1;have e2:=kR2.cell 2;simp only [World.ref] at e0 e1 e2;simp at e0 e1 e2;go_wp2;refine bodyPost_ret (v:=.agg #[.bool g5,.slice A5 n5 c5,.slice B5 m5 d5]) (by simp [results,Tryz.results31,go_sem,e0,e1,e2]) rfl ?_;exact ⟨_,rfl,⟨_,_,_,_,_,_,_,rfl,(by rw [HEQ.out];exact HQ0.out),(by rw [HEQ.out];exact hR1),(by rw [HEQ.out];exact hR2)⟩,hRW⟩
  have hc0:¬ 0<=zQ ((x.num.natAbs*y.den:Nat):Int) ((y.num.natAbs*x.den:Nat):Int):=of_decide_eq_false (by rw [zrc,decide_eq_false hle])
  have HEQ:=ze (zo9 HNE.out (Nat.lt_of_not_le hle));have HLE:=ze (Nat.le_of_lt (Nat.lt_of_not_le hle));rw [<- HG2.out] at HEQ;have HLS:=HSUB2;clear hle;go_wp2_with fail;refine (Z0 _ _ (x.num.natAbs*y.den) (y.num.natAbs*x.den) W2 HM1.out HM2.out HLA.out HLB.out).mono ?_;rintro e W3 ⟨rfl,n,rfl⟩;generalize zQ ((x.num.natAbs*y.den:Nat):Int) ((y.num.natAbs*x.den:Nat):Int)=cv at hc0 |-;have hb3:=zw W2 n;have HM1' :=ze (z9.below HM1.out hb3);have HM2' :=ze (z9.below HM2.out hb3);have HM3' :=ze (z9.below HM3.out hb3);have HW2' :=ze (ext HW2.out hb3);have HR2' :=xD hb3 HR2;have j0' :=zj hb3 l0 j0;have j1' :=zj hb3 l0 j1;have j2' :=zj hb3 l0 j2;have j3' :=zj hb3 l1 j3;have j4' :=zj hb3 l1 j4;have j5' :=zj hb3 l1 j5;have l0' :=zA hb3 l0;have l1' :=zA hb3 l1;clear hb3 HM1 HM2 HM3 HW2 HR2 j0 j1 j2 j3 j4 j5 l0 l1;generalize W2.drewN n=W2 at HM1' HM2' HM3' HW2' HR2' j0' j1' j2' j3' j4' j5' l0' l1' |-;have HM1:=HM1';have HM2:=HM2';have HM3:=HM3';have HW2:=HW2';have HR2:=HR2';clear HM1' HM2' HM3' HW2' HR2';go_wp2_with fail;have HRES:=ze (show vU W2.drew (w.heap.size+1+1) from HR2.out)
  have HWX:=ze (show Below w.heap.size w W2.drew from zo HW2.out 1)
  go_region_held3 (fun w' =>w'.cell? ⟨w.heap.size,0,none⟩=some (.bool g1)/\w'.cell? ⟨w.heap.size,1,none⟩=some (.slice A1 n1 c1)/\w'.cell? ⟨w.heap.size,2,none⟩=some (.slice B1 m1 d1)/\w'.cell? ⟨w.heap.size+1,0,none⟩=some (.bool g2)/\w'.cell? ⟨w.heap.size+1,1,none⟩=some (.slice A2 n2 c2)/\w'.cell? ⟨w.heap.size+1,2,none⟩=some (.slice B2 m2 d2)/\w.heap.size<w'.heap.size/\w.heap.size+1<w'.heap.size/\Hid (vU w' (w.heap.size+1+1))/\Hid (Below w.heap.size w w'))
   (first
     | with_reducible exact ⟨by go_keep,by go_keep,by go_keep,by go_keep,by go_keep,by go_keep,by assumption,by assumption,HRES,HWX⟩
     | (go_split_ands;with_reducible exact ⟨zM (by omega) ‹_›,zM (by omega) ‹_›,zM (by omega) ‹_›,zM (by omega) ‹_›,zM (by omega) ‹_›,zM (by omega) ‹_›,xK ‹_›,xK ‹_›,vv ‹_›,xN (by omega) ‹_›⟩)
     | (go_split_ands;with_reducible exact ⟨zj ‹_› ‹_› ‹_›,zj ‹_› ‹_› ‹_›,zj ‹_› ‹_› ‹_›,zj ‹_› ‹_› ‹_›,zj ‹_› ‹_› ‹_›,zj ‹_› ‹_› ‹_›,zA ‹_› ‹_›,zA ‹_› ‹_›,xD ‹_› ‹_›,zu ‹_› ‹_›⟩)
     | go_keep)
   (first
     | (go_at_call 65;refine (XZ _ _ (y.num.natAbs*x.den) (x.num.natAbs*y.den) _ (z9.below HM2.out (show Below W2.heap.size W2 W2.drew from zw W2 1)) (z9.below HM1.out (show Below W2.heap.size W2 W2.drew from zw W2 1)) HLE.out HLB.out).mono ?_;rintro e w5 ⟨v5,rfl,hv5,hb5⟩;have HM5:=ze hv5;have HM3b:=ze (z9.below HM3.out (ext (show Below W2.heap.size W2 W2.drew from zw W2 1) hb5));clear hv5)
     | (go_at_call 62;refine (ZU _ _ _ (y.num.natAbs*x.den - x.num.natAbs*y.den) (x.den*y.den) _ HM5.out HM3b.out HPOS.out HLS.out HLL.out).mono ?_;rintro e wo ⟨vo,rfl,⟨g5,A5,n5,c5,B5,m5,d5,rfl,hq0,hq1,hq2⟩,hbo⟩;obtain ⟨gr,Ar,kr,cr,Br,krx,crx,kR⟩:=(xD (g:=w.heap.size+1+1) hbo (by go_split_ands;assumption)).out;have r0:=kR.cell 0;have r1:=kR.cell 1;have r2:=kR.cell 2;have f0:=kR.frozen 0;have f1:=kR.frozen 1;have f2:=kR.frozen 2;simp at r0 r1 r2;have HQ0:=ze hq0;have HQ1:=ze hq1;have HQ2:=ze hq2;have HKR:=ze kR;clear hq0 hq1 hq2 kR))
  all_goals
   go_split_ands;have kR2:=yL (ng:=g5) (A:=A5) (n:=n5) (c:=c5) (B:=B5) (m:=m5) (d:=d5) HKR.out;have hR1:=zU (ng:=g5) (A:=A5) (n:=n5) (c:=c5) (B:=B5) (m:=m5) (d:=d5) HQ1.out HKR.out;have hR2:=zU (ng:=g5) (A:=A5) (n:=n5) (c:=c5) (B:=B5) (m:=m5) (d:=d5) HQ2.out HKR.out;have hRW:=zB (by assumption:Hid (Below w.heap.size w (World.ref wo (w.heap.size+1+1) g5 A5 n5 c5 B5 m5 d5)));have e0:=kR2.cell 0;have e1:=kR2.cell 1;have e2:=kR2.cell 2;simp only [World.ref] at e0 e1 e2;simp at e0 e1 e2;go_wp2;refine bodyPost_ret (v:=.agg #[.bool g5,.slice A5 n5 c5,.slice B5 m5 d5]) (by simp [results,Tryz.results31,go_sem,e0,e1,e2]) rfl ?_;exact ⟨_,rfl,⟨_,_,_,_,_,_,_,rfl,(by rw [HEQ.out];exact HQ0.out),(by rw [HEQ.out];exact hR1),(by rw [HEQ.out];exact hR2)⟩,hRW⟩
theorem Zo (va vb:Value) (x y:Rat) (w:World) (ha:xu w va x) (hb:xu w vb y) (hx:Vz 8388608 x) (hy:Vz 8388608 y):
 Calls Tryz.prog 37 #[va,vb] w (vO w (.int .i64 (x - y).num.sign)):=by
 have HEQ:=ze (Rat.sub_eq_add_neg x y)
 have HX0:=ze ha
 have HY0:=ze hb
 obtain ⟨g1,A1,n1,c1,B1,m1,d1,rfl,hg1,ha1,ha2⟩:=ha
 obtain ⟨g2,A2,n2,c2,B2,m2,d2,rfl,hg2,hb1,hb2⟩:=hb
 have HX:=ze hx
 have HY:=ze hy.neg
 clear ha1 ha2 hb1 hb2 hx hy hg1 hg2
 have HWX:Hid (Below w.heap.size w (((w.alloc (.cells #[.bool g1,.slice A1 n1 c1,.slice B1 m1 d1] 63)).alloc (.cells #[.bool g2,.slice A2 n2 c2,.slice B2 m2 d2] 63)).drew)):=ze (zo (ext (zg w (.cells #[.bool g1,.slice A1 n1 c1,.slice B1 m1 d1] 63)) (zg _ (.cells #[.bool g2,.slice A2 n2 c2,.slice B2 m2 d2] 63))) 1)
 go_enter Tryz.func37,Tryz.ntmps37
 go_wp2_with fail
 go_region_held3 (fun w' =>w'.cell? ⟨w.heap.size,0,none⟩=some (.bool g1)/\w'.cell? ⟨w.heap.size,1,none⟩=some (.slice A1 n1 c1)/\w'.cell? ⟨w.heap.size,2,none⟩=some (.slice B1 m1 d1)/\w'.cell? ⟨w.heap.size+1,0,none⟩=some (.bool g2)/\w'.cell? ⟨w.heap.size+1,1,none⟩=some (.slice A2 n2 c2)/\w'.cell? ⟨w.heap.size+1,2,none⟩=some (.slice B2 m2 d2)/\w.heap.size<w'.heap.size/\w.heap.size+1<w'.heap.size/\Hid (Below w.heap.size w w'))
  (first
    | with_reducible exact ⟨by go_keep,by go_keep,by go_keep,by go_keep,by go_keep,by go_keep,by first | (simp;done) | (simp;omega),by first | (simp;done) | (simp;omega),HWX⟩
    | (go_split_ands;with_reducible exact ⟨zj ‹_› ‹_› ‹_›,zj ‹_› ‹_› ‹_›,zj ‹_› ‹_› ‹_›,zj ‹_› ‹_› ‹_›,zj ‹_› ‹_› ‹_›,zj ‹_› ‹_› ‹_›,zA ‹_› ‹_›,zA ‹_› ‹_›,zu ‹_› ‹_›⟩)
    | go_keep)
  (first
    | (go_at_call 59;refine (VY _ y _ (HY0.out.below (zB (by go_split_ands;assumption)))).mono ?_;rintro e w1 ⟨v1,rfl,hv1,hb1⟩;have HM1:=ze hv1;clear hv1)
    | (go_at_call 31;refine (vz _ _ x (-y) _ (HX0.out.below (zB (by go_split_ands;assumption))) HM1.out HX.out HY.out).mono ?_;rintro e w2 ⟨v2,rfl,hv2,hb2⟩;have HM2:=ze hv2;clear hv2)
    | (go_at_call 38;refine (YZ _ (x+ -y) _ HM2.out).mono ?_;rintro e w3 ⟨rfl,hb3⟩))
 all_goals
  go_split_ands
  have hRW:=zB (by assumption:Hid (Below w.heap.size w w3))
  go_wp2
  go_ret
  exact ⟨zr (by rw [HEQ.out]),hRW⟩
theorem zc3 (M:Nat) (q:Rat):(!decide (zG M q))=(decide (M<(dec q.num.natAbs).length) || decide (M<(dec q.den).length)):=by
 by_cases h1:(dec q.num.natAbs).length<=M
 rotate_left
 . rw [decide_eq_false (fun h:zG M q=>h1 h.1),decide_eq_true (show M<(dec q.num.natAbs).length by omega)];rfl
 by_cases h2:(dec q.den).length<=M
 . rw [decide_eq_true (show zG M q from ⟨h1,h2⟩),decide_eq_false (by omega),decide_eq_false (by omega)];rfl
 rw [decide_eq_false (fun h:zG M q=>h2 h.2),decide_eq_true (show M<(dec q.den).length by omega),Bool.or_true];rfl
theorem zvl (va:Value) (q:Rat) (M:Nat) (w:World) (ha:xu w va q) (hl:Vz 33554432 q) (hM:M<=50000):
 Calls Tryz.prog 138 #[va,.int .i64 (M:Int)] w (vO w (.bool (!decide (zG M q)))):=by
 obtain ⟨ng,A,c,B,d,rfl,hng,ha1,ha2⟩:=ha.form
 have HB:=ze (zg w (.cells #[.bool ng,.slice A (len 1000000000 q.num.natAbs) c,.slice B (len 1000000000 q.den) d] 63))
 have HA:=ze (z9.below ha1 HB.out)
 have HD:=ze (z9.below ha2 HB.out)
 have HL1:=ze hl.1
 have HL2:=ze hl.2
 have HS:=ze (zc3 M q)
 generalize len 1000000000 q.num.natAbs=n at HA HB HD |-
 generalize len 1000000000 q.den=m at HA HB HD |-
 clear ha ha1 ha2 hng hl
 by_cases g1:M<(dec q.num.natAbs).length
 . have HS' :=ze (show (!decide (zG M q))=true by rw [HS.out,decide_eq_true g1];rfl)
   clear HS
   go_enter Tryz.func138,Tryz.ntmps138
   go_wp2_with fail;refine (xy _ q.num.natAbs _ HA.out HL1.out).mono ?_;rintro e w1 ⟨rfl,rfl⟩;go_wp2_with fail;go_ret;exact ⟨z0 HS'.out,HB.out⟩
 by_cases g2:M<(dec q.den).length
 . have HS' :=ze (show (!decide (zG M q))=true by rw [HS.out,decide_eq_true g2,Bool.or_true])
   clear HS
   go_enter Tryz.func138,Tryz.ntmps138
   go_wp2_with fail;refine (xy _ q.num.natAbs _ HA.out HL1.out).mono ?_;rintro e w1 ⟨rfl,rfl⟩;go_wp2_with fail;refine (xy _ q.den _ HD.out HL2.out).mono ?_;rintro e w1 ⟨rfl,rfl⟩;go_wp2_with fail;go_ret;exact ⟨z0 HS'.out,HB.out⟩
 have HS' :=ze (show (!decide (zG M q))=false by rw [HS.out,decide_eq_false g1,decide_eq_false g2];rfl)
 clear HS
 go_enter Tryz.func138,Tryz.ntmps138
 go_wp2_with fail;refine (xy _ q.num.natAbs _ HA.out HL1.out).mono ?_;rintro e w1 ⟨rfl,rfl⟩;go_wp2_with fail;refine (xy _ q.den _ HD.out HL2.out).mono ?_;rintro e w1 ⟨rfl,rfl⟩;go_wp2_with fail;go_ret;exact ⟨z0 HS'.out,HB.out⟩
theorem Vh {l:List UInt8} {q:Rat} (h:zp l=some q):Vz 50000 q:=by
 have:=(yR.1 h).2
 exact ⟨Nat.le_trans (Xv (by omega)) this.1,Nat.le_trans (Xv (by omega)) this.2⟩
theorem zl7 (s:ByteArray) (w:World) (hs:s.size<=1073741824):
 Calls Tryz.prog 111 #[.string s] w (vO w (.int .i64 (zY (bts s)))):=by
 have hnum:=VF s w hs
 cases hr:zp (bts s) with
 | none=>
   have HE:=ze (show zY (bts s)=4 by unfold zY;rw [hr]);have HR:=ze hr;clear hr
   go_enter Tryz.func111,Tryz.ntmps111
   go_wp2_with fail;refine hnum.mono ?_;rintro e w1 ⟨v,b,rfl,⟨ng,A,n,c,B,m,d,rfl⟩,hb,_,hb1⟩;rw [HR.out] at hb;subst hb;have HB:=ze (ext hb1 (zg w1 (.cells #[.bool ng,.slice A n c,.slice B m d] 63)));clear hb1 hnum;go_wp2_with fail;go_ret;exact ⟨zr HE.out,HB.out⟩
 | some q=>
   have HR:=ze hr;have HQL:=ze (Vz.mono (Vh hr) (show 50000<=33554432 by omega))
   have HE:=ze (show zY (bts s)=if (!decide (zG 12 q))=true then 3 else 0 by
    unfold zY;rw [hr];by_cases h:zG 12 q<;>simp [h])
   clear hr
   go_enter Tryz.func111,Tryz.ntmps111
   go_wp2_with fail;refine hnum.mono ?_;rintro e w1 ⟨v,b,rfl,⟨ng,A,n,c,B,m,d,rfl⟩,hb,hq,hb1⟩;rw [HR.out] at hb;subst hb;have hx:=zg w1 (.cells #[.bool ng,.slice A n c,.slice B m d] 63);have HB:=ze (ext hb1 hx);have HQ:=ze (xu.below (hq q HR.out) hx);clear hb1 hnum hq hx;go_wp2_with fail;refine (zvl _ q 12 _ HQ.out HQL.out (by omega)).mono ?_;rintro e w2 ⟨rfl,hb2⟩;have HB2:=ze (ext HB.out hb2);clear hb2
   cases hsh:(!decide (zG 12 q)) with
   | true=>
     have HE2:=ze (HE.out.trans (by rw [hsh];rfl:_=(3:Int)));clear hsh HE;go_wp2_with fail;go_ret;exact ⟨zr HE2.out,HB2.out⟩
   | false=>
     have HE2:=ze (HE.out.trans (by rw [hsh];rfl:_=(0:Int)));clear hsh HE;go_wp2_with fail;go_ret;exact ⟨zr HE2.out,HB2.out⟩
theorem zh1 (w:World):Calls Tryz.prog 110 #[.slice none 0 0] w (zfu w (.int .i64 0)):=by
 go_enter Tryz.func110,Tryz.ntmps110
 go_wp2_with fail
 go_loop [3] (fun iv=>iv= .int .i64 0) (fun _=>0)
 case atStart=>rfl
 case round=>
  subst hrel
  go_wp2_with fail
  go_ret
  exact ⟨rfl,rfl⟩
theorem zi6 (s:ByteArray) (w:World) (hs:s.size<=1073741824):
 Calls Tryz.prog 84 #[.agg #[.slice none 0 0,.string s]] w (vO w (.int .i64 (zY (bts s)))):=by
 have HB:=ze (zg w (.cells #[.slice none 0 0,.string s] 117))
 have HS:=ze hs
 clear hs
 go_enter Tryz.func84,Tryz.ntmps84
 go_wp2_with fail
 refine (zh1 _).mono ?_
 rintro e w1 ⟨rfl,rfl⟩
 go_wp2_with fail
 refine (zl7 s _ HS.out).mono ?_
 rintro e w2 ⟨rfl,hb2⟩
 have HB2:=ze (ext HB.out hb2)
 clear hb2
 go_wp2_with fail
 go_ret
 exact ⟨rfl,HB2.out⟩
theorem Yz (s:ByteArray) (w:World) (hs:s.size<=1073741824):
 Calls Tryz.prog 57 #[.string s] w (vO w (.int .i64 (zY (bts s)))):=by
 have HS:=ze hs
 clear hs
 go_enter Tryz.func57,Tryz.ntmps57
 go_wp2_with fail
 refine (zi6 s _ HS.out).mono ?_
 rintro e w2 ⟨rfl,hb2⟩
 have HB2:=ze hb2
 clear hb2
 go_wp2_with fail
 go_ret
 exact ⟨rfl,HB2.out⟩
theorem V5 (s:ByteArray) (q:Rat) (w:World) (hs:s.size<=1073741824) (hq:zp (bts s)=some q):
 Calls Tryz.prog 39 #[.string s] w (Yg w q):=by
 have hWR:=zg w (.cells #[.bool false,.slice none 0 0,.slice none 0 0] 63)
 have kR:=Blk.new w 63 #[.bool false,.slice none 0 0,.slice none 0 0]
 have HWR:=ze hWR
 have HKR:=ze kR
 have HQ:=ze hq
 have hnum:=fun w=>VF s w hs
 clear hq hWR kR hs
 go_enter Tryz.func39,Tryz.ntmps39
 go_wp2_with fail
 refine (hnum _).mono ?_
 rintro e w1 ⟨v,b,rfl,⟨ng,A,n,c,B,m,d,rfl⟩,hb,hq,hb1⟩
 have hx:=zg w1 (.cells #[.bool ng,.slice A n c,.slice B m d] 63)
 have hr:=xu.below (hq q HQ.out) hx
 have hxx:=ext hb1 hx
 have HK:=ze (HKR.out.below hxx HKR.out.lt)
 have HW:=ze (ext HWR.out hxx)
 obtain ⟨ng',A',n',c',B',m',d',e,h0,h1,h2⟩:=hr
 injection e with e
 have e0:=congrArg (fun a=>a.toList) e
 simp at e0
 obtain ⟨rfl,⟨rfl,rfl,rfl⟩,rfl,rfl,rfl⟩:=e0
 have H0:=ze h0
 have H1:=ze h1
 have H2:=ze h2
 have r0:=HK.out.cell 0
 have r1:=HK.out.cell 1
 have r2:=HK.out.cell 2
 have f0:=HK.out.frozen 0
 have f1:=HK.out.frozen 1
 have f2:=HK.out.frozen 2
 have lR:=HK.out.lt
 simp at r0 r1 r2
 clear hb1 hnum hq hx hxx h0 h1 h2 e hb
 go_wp2_with fail
 have kR2:=yL (ng:=ng) (A:=A) (n:=n) (c:=c) (B:=B) (m:=m) (d:=d) HK.out
 have e0:=kR2.cell 0
 have e1:=kR2.cell 1
 have e2:=kR2.cell 2
 simp only [World.ref] at e0 e1 e2
 simp at e0 e1 e2
 refine bodyPost_ret (v:=.agg #[.bool ng,.slice A n c,.slice B m d]) (by simp [results,Tryz.results39,go_sem,e0,e1,e2]) rfl ?_
 exact ⟨_,rfl,⟨_,_,_,_,_,_,_,rfl,H0.out,zU H1.out HK.out,zU H2.out HK.out⟩,zZ (w:=w) (g:=w.heap.size) HW.out (Nat.le_refl _)⟩
theorem zn0 (s:ByteArray) (w:World) (hs:s.size<=1073741824):
 Calls Tryz.prog 53 #[.string s] w (zfu w (.bool (vr (bts s)))):=by
 by_cases h0:s.size=0
 . have he:=zib h0
   have HN:=ze (show vr (bts s)=false by unfold vr;rw [zm,h0];rfl);clear h0
   go_enter Tryz.func53,Tryz.ntmps53
   go_wp2_with fail;go_ret;exact ⟨z0 HN.out,rfl⟩
 have hp:0<s.size:=by omega
 have hne:=XP hp;clear h0
 by_cases h16:16<s.size
 . have HN:=ze (show vr (bts s)=false by unfold vr;rw [zm,decide_eq_false (show ¬ s.size<=16 by omega)];simp)
   go_enter Tryz.func53,Tryz.ntmps53
   go_wp2_with fail;go_ret;exact ⟨z0 HN.out,rfl⟩
 cases hl:zfv s[0] with
 | false=>
   have HN:=ze (zn1 hp hl)
   have hc:s[0].toNat<97\/122<s[0].toNat:=by
    have:¬ (97<=s[0].toNat/\s[0].toNat<=122):=by intro h;rw [X0.2 h] at hl;cases hl
    omega
   rcases hc with hc | hc
   . clear hl
     go_enter Tryz.func53,Tryz.ntmps53
     go_wp2_with fail;go_ret;exact ⟨z0 HN.out,rfl⟩
   . have hc2:¬ s[0].toNat<97:=by omega
     clear hl
     go_enter Tryz.func53,Tryz.ntmps53
     go_wp2_with fail;go_ret;exact ⟨z0 HN.out,rfl⟩
 | true=>
   obtain ⟨hc1,hc2⟩:=X0.1 hl;have hd1:¬ s[0].toNat<97:=by omega
   have hd2:¬ 122<s[0].toNat:=by omega
   have HL:=ze hl;have H16:=ze (show s.size<=16 by omega);clear hl hc1 hc2
   go_enter Tryz.func53,Tryz.ntmps53
   go_wp2_with fail
   go_loop [3] (fun iv=>∃ k:Nat,k<=s.size/\iv= .int .i64 k/\Hid (∀ j (h:j<s.size),j<k->yD s[j]=true)) (fun iv=>s.size - (intOf iv).toNat)
   case atStart=>exact ⟨0,Nat.zero_le _,rfl,fun j _ h=>by omega⟩
   case round=>
    obtain ⟨k,hk,rfl,HD⟩:=hrel;clear hd1 hd2
    by_cases hlt:k<s.size
    rotate_left
    . obtain rfl:k=s.size:=by omega
      have HN:=ze (zni hp H16.out HL.out (fun j hj=>HD.out j hj hj));go_wp2_with fail;go_ret;exact ⟨z0 HN.out,rfl⟩
    cases hd:yD s[k] with
    | true=>
      have HD1:=ze hd
      have hnext:∀ j (h:j<s.size),j<k+1->yD s[j]=true:=by
       intro j hj hlt2
       rcases Nat.lt_or_ge j k with h3 | h3
       . exact HD.out j hj h3
       . obtain rfl:j=k:=by omega
         exact HD1.out
      have HNX:=ze hnext;clear hnext
      rcases zda hd with ⟨h1,h2⟩ | ⟨h1,h2,h3⟩ | h1
      . clear hd
        go_wp2_with fail;go_round
        case rel=>exact ⟨k+1,by omega,by go_num,HNX.out⟩
        case measure=>simp [intOf];omega
      . have h4:¬ 97<=s[k].toNat:=by omega
        clear hd h3;go_wp2_with fail;go_round
        case rel=>exact ⟨k+1,by omega,by go_num,HNX.out⟩
        case measure=>simp [intOf];omega
      . have h4:¬ 97<=s[k].toNat:=by omega
        have h5:¬ 48<=s[k].toNat:=by omega
        have h6:((s[k].toNat:Int) != 45)=false:=by rw [h1];rfl
        clear hd;clear h1;go_wp2_with fail;go_round
        case rel=>exact ⟨k+1,by omega,by go_num,HNX.out⟩
        case measure=>simp [intOf];omega
    | false=>
      have HN:=ze (znr hlt hd)
      have h6:((s[k].toNat:Int) != 45)=true:=by
       rw [bne_iff_ne];have:=YP hd
       omega
      rcases YP hd with ⟨h1,_⟩ | ⟨h1,h2⟩ | h1
      . have h4:¬ 97<=s[k].toNat:=by omega
        have h5:¬ 48<=s[k].toNat:=by omega
        clear hd;go_wp2_with fail;go_ret;exact ⟨z0 HN.out,rfl⟩
      . have h4:¬ 97<=s[k].toNat:=by omega
        have h5:48<=s[k].toNat:=by omega
        have h7:decide ((s[k].toNat:Int)<=57)=false:=by rw [decide_eq_false_iff_not];omega
        clear hd;go_wp2_with fail;go_ret;exact ⟨z0 HN.out,rfl⟩
      . have h4:97<=s[k].toNat:=by omega
        have h5:48<=s[k].toNat:=by omega
        have h7:decide ((s[k].toNat:Int)<=57)=false:=by rw [decide_eq_false_iff_not];omega
        have h8:decide ((s[k].toNat:Int)<=122)=false:=by rw [decide_eq_false_iff_not];omega
        clear hd;go_wp2_with fail;go_ret;exact ⟨z0 HN.out,rfl⟩
theorem zf3 (w:World):Calls Tryz.prog 60 #[.int .u64 0] w (zfu w (.slice none 0 0)):=by
 go_enter Tryz.func60,Tryz.ntmps60
 go_wp2_with fail
 go_loop [0,3] (fun uv ov=>uv= .int .u64 0/\ov= .slice none 0 0) (fun _ _=>0)
 case atStart=>exact ⟨rfl,rfl⟩
 case round=>
  obtain ⟨rfl,rfl⟩:=hrel
  go_wp2_with fail
  go_ret
  exact ⟨rfl,rfl⟩
theorem zmp (w:World):Calls Tryz.prog 30 #[.int .i64 0] w (Yg w 0):=by
 go_enter Tryz.func30,Tryz.ntmps30
 go_wp2_with fail
 refine (zf3 _).mono ?_
 rintro e w1 ⟨rfl,rfl⟩
 go_wp2_with fail
 refine bodyPost_ret (v:=.agg #[.bool false,.slice none 0 0,.slice (some ⟨w.heap.size+1,0,none⟩) 1 1]) (by simp [results,Tryz.results30,go_sem]) rfl ?_
 have h1:=zaa (w.alloc (.cells #[.bool false,.slice none 0 0,.slice (some ⟨w.heap.size+1,0,none⟩) 1 1] 63)) (d:=1) (by omega) (by omega)
 simp only [World.size_alloc] at h1
 exact ⟨_,rfl,⟨false,none,0,0,_,1,1,rfl,rfl,zhf _,h1⟩,ext (zg _ _) (zg _ _)⟩
end Go.Proofs.YtacfcmdlgebhgaaGreat
