/- Parts of the proof. -/
import Derived.Test.YtnjljgidphemdaaGreatDoorMv21
import Derived.Test.YtnjljgidphemdaaGreatDoorMv14
set_option linter.all false
set_option maxRecDepth 100000
set_option maxHeartbeats 32000000
namespace Go.Proofs.YtnjljgidphemdaaGreatDoor
open Proofs.Tryz Go.RowKit Go.Deep
attribute [local go_sem ↓] Go.wp_at_zero Go.wp_at_succ
def Zg (w:World) (g:Nat):Prop:=∃ (ng:Bool) (A:Option Addr) (n c:Nat) (B:Option Addr) (m d:Nat),Blk w g 112 #[.bool ng,.slice A n c,.slice B m d]
theorem vi {w w' :World} {g:Nat} (hb:Below w.heap.size w w') (h:Hid (Zg w g)):Hid (Zg w' g):=by
 obtain ⟨ng,A,n,c,B,m,d,h⟩:=h.out
 exact ⟨ng,A,n,c,B,m,d,h.below hb h.lt⟩
theorem zg2 {w w' :World} {v:Value} {n:Nat} (hb:Below w.heap.size w w') (h:Hid (zz w v n)):Hid (zz w' v n):=zz.below h.out hb
section
variable {W w0:World} {g g' i n c m d k:Nat} {ng:Bool} {A B:Option Addr} {v:Value}
theorem Zd (h:Hid (Zg W g)):Hid (Zg (World.ref W g ng A n c B m d) g):=by
 obtain ⟨ng,A,n,c,B,m,d,h⟩:=h.out
 exact ⟨_,_,_,_,_,_,_,yO h⟩
theorem vD (hg:w0.heap.size<=g) (h:Hid (Below w0.heap.size w0 W)):Hid (Below w0.heap.size w0 (World.ref W g ng A n c B m d)):=yy h.out hg
theorem XI (b:Hid (Zg W g)) (h:Hid (zz W v k)):Hid (zz (World.ref W g ng A n c B m d) v k):=by
 obtain ⟨ng,A,n,c,B,m,d,b⟩:=b.out
 exact yb h.out b
theorem yh (hne:g≠g') (h:W.cell? ⟨g,i,none⟩=some v):(World.ref W g' ng A n c B m d).cell? ⟨g,i,none⟩=some v:=by
 rw [<- h]
 simp only [World.ref]
 rw [World.cell?_setCell_other,World.cell?_setCell_other,World.cell?_setCell_other]
 all_goals (intro e;injection e with e;exact hne e.symm)
theorem vJ (h:k<W.heap.size):k<(World.ref W g' ng A n c B m d).heap.size:=by
 simp only [World.ref,World.setCell,Array.size_modify]
 exact h
end
def zu3 (v:Value):Prop:=∃ (ng:Bool) (A:Option Addr) (n c:Nat) (B:Option Addr) (m d:Nat),v= .agg #[.bool ng,.slice A n c,.slice B m d]
def xO (w:World) (l:List UInt8) (e:Ending) (w' :World):Prop:=
 ∃ v b,e= .returned (.tuple #[v,.bool b])/\zu3 v/\b=(zl l).isSome/\(∀ q,zl l=some q->vW w' v q)/\Below w.heap.size w w'
theorem xO.no {w w' :World} {l:List UInt8} {v:Value} (h:zl l=none) (hv:zu3 v) (hb:Below w.heap.size w w'):xO w l (.returned (.tuple #[v,.bool false])) w' :=
 ⟨v,false,rfl,hv,by rw [h];rfl,fun q hq=>(by rw [h] at hq;cases hq),hb⟩
theorem xO.maybe {w w' :World} {l:List UInt8} {v:Value} {q:Rat} {b:Bool} (h:zl l=if zI q=l then some q else none) (hb' :b=decide (zI q=l)) (hv:vW w' v q) (hb:Below w.heap.size w w'):
 xO w l (.returned (.tuple #[v,.bool b])) w' :=by
 subst hb'
 by_cases e:zI q=l
 rotate_left
 . rw [if_neg e] at h
   rw [uF e];refine xO.no h ?_ hb;obtain ⟨ng,A,n,c,B,m,d,rfl,_⟩:=hv;exact ⟨_,_,_,_,_,_,_,rfl⟩
 rw [if_pos e] at h
 refine ⟨v,_,rfl,?_,by rw [h,uE e];rfl,fun q' hq=>?_,hb⟩
 . obtain ⟨ng,A,n,c,B,m,d,rfl,_⟩:=hv;exact ⟨_,_,_,_,_,_,_,rfl⟩
 rw [h] at hq;injection hq with hq;rw [<- hq];exact hv
theorem zfq {ng:Bool} {n d M:Nat} (hd:0<d) (h1:len 1000000000 n<=M) (h2:len 1000000000 d<=M):XV M (vh ng n d):=by
 obtain ⟨e,b,_⟩:=zjb ng n d hd
 unfold XV
 rw [e,b]
 exact ⟨uC (vI (by omega) (Nat.div_le_self _ _)) h1,uC (vI (by omega) (Nat.div_le_self _ _)) h2⟩
theorem zwj {l:List UInt8} {K:Nat} (h:xu l=true) (hl:l.length<=K):len 1000000000 (zE l)<=K:=by
 unfold xu at h
 rw [Bool.and_eq_true] at h
 have b:=Vg h.1
 refine y8 (by omega) (uK b ?_)
 exact uC (Nat.pow_le_pow_left (by decide:10<=1000000000) _) (Nat.pow_le_pow_right (by decide) hl)
theorem zmc {l:List UInt8} (h:xu l=true) (hl:l.length<=50000):len 1000000000 (zE l)<=50000:=zwj h hl
theorem zrh (l:List UInt8) (s:ByteArray):(l == s.toList)=decide (l=bts s):=by
 rw [Lib.toList_data]
 show (l == bts s)=_
 by_cases h:l=bts s
 . rw [uE h];exact beq_iff_eq.2 h
 rw [uF h];exact uD h
theorem V9 {l:List UInt8} (h:xu l=true):l.all xp=true:=by
 unfold xu at h;rw [Bool.and_eq_true] at h;exact h.1
theorem Xf (s:ByteArray) (w:World) (hs:s.size<=1073741824):
 Calls prog 78 #[.string s] w (xO w (bts s)):=by
 have C:=ze (zf w (.cells #[.bool false,.slice none 0 0,.slice none 0 0] 112))
 have z:=ze (Blk.new w 112 #[.bool false,.slice none 0 0,.slice none 0 0])
 by_cases aR:100002<s.size
 . have D:=ze (zqh (l:=bts s) (by rw [zm];exact aR))
   have a5:decide (100002<(s.size:Int))=true:=by rw [decide_eq_true_eq];omega
   clear aR
   go_in
   go_wp2_with fail;have y:=yO (ng:=false) (A:=none) (n:=0) (c:=0) (B:=none) (m:=0) (d:=0) z.o;have j:=y.cell 0;have r:=y.cell 1;have u:=y.cell 2;simp only [World.ref] at j r u;simp at j r u;refine bodyPost_ret (v:=.tuple #[.agg #[.bool false,.slice none 0 0,.slice none 0 0],.bool false]) (by simp [results,results78,go_sem,j,r,u]) rfl ?_
   first
   | exact xO.no D.o ⟨_,_,_,_,_,_,_,rfl⟩ C.o
   | exact xO.no D.o ⟨_,_,_,_,_,_,_,rfl⟩ (yy (g:=w.heap.size) (ng:=false) (A:=none) (n:=0) (c:=0) (B:=none) (m:=0) (d:=0) C.o (uA))
 have a8:=ze (show s.size<=100002 by omega)
 have a5:decide (100002<(s.size:Int))=false:=by rw [decide_eq_false_iff_not];omega
 clear aR
 obtain ⟨ng,t,HN,Q,aE,hcase⟩:∃ (ng:Bool) (t:ByteArray),Hid (ng=yT (bts s))/\Hid (bts t=zr (bts s))/\Hid (t.size<=1073741824)/\
  ((s.toList.isEmpty=true/\ng=false/\s=t)\/(∃ h:0<s.size,((s[0].toNat:Int) == 45)=false/\ng=false/\s=t/\s.toList.isEmpty=false)\/(∃ h:0<s.size,((s[0].toNat:Int) == 45)=true/\ng=true/\t=s.extract 1 s.size/\s.toList.isEmpty=false)):=by
  by_cases h0:0<s.size
  rotate_left
  . have he:bts s=[]:=by
     apply uI;rw [zm];omega
    refine ⟨false,s,by rw [he];exact rfl,by rw [he];exact rfl,hs,.inl ⟨?_,rfl,rfl⟩⟩;rw [Lib.toList_data];unfold bts at he;rw [show s.data.toList=[] from he];rfl
  have aZ:s.toList.isEmpty=false:=by
   rw [Bool.eq_false_iff];intro e;have e:=List.isEmpty_iff.1 e;have:=congrArg List.length e;rw [Lib.toList_data] at this;simp at this;rw [this] at h0;exact absurd h0 (by decide)
  have hh:(bts s).head?=some s[0]:=by
   have:=Z6 s 0 h0;rw [List.head?_eq_getElem?,List.getElem?_eq_getElem (by rw [zm];exact h0),this]
  by_cases h1:s[0]=45
  rotate_left
  . have aC:yT (bts s)=false:=by
     unfold yT;rw [hh];rw [beq_eq_false_iff_ne];intro e;injection e with e;exact h1 e
    refine ⟨false,s,aC.symm,(YQ aC).symm,hs,.inr (.inl ⟨h0,?_,rfl,rfl,aZ⟩)⟩;rw [beq_eq_false_iff_ne];intro e;exact h1 (UInt8.toNat_inj.1 (by have:(45:UInt8).toNat=45:=rfl;omega))
  have aC:yT (bts s)=true:=by unfold yT;rw [hh,h1];rfl
  refine ⟨true,s.extract 1 s.size,aC.symm,?_,?_,.inr (.inr ⟨h0,by rw [h1];rfl,rfl,rfl,aZ⟩)⟩
  rotate_left
  . show _<=_
    rw [ByteArray.size_extract];omega
  show _=_
  rw [Zb,uJ (by rw [zm];exact uA)];have:=Vr aC
  conv=>lhs;rw [this]
  rfl
 have hcut:∀ W,Calls prog 126 #[.string t,.int .u8 47] W (fun e w' =>∃ a b n,e= .returned (.tuple #[.string a,.string b,.bool (has 47 (zr (bts s)))])/\bts a=ahead 47 (zr (bts s))/\bts b=(if has 47 (zr (bts s))=true then ys 47 (zr (bts s)) else [])/\w' =W.drewN n):=by
  intro W;refine (zv1 t 47 W aE.o).mono ?_;rintro e w' ⟨a,b,h1,h2,h3,n,h4⟩;rw [Q.o] at h1 h2 h3;exact ⟨a,b,n,h1,h2,h3,h4⟩
 rcases hcase with ⟨z1,rfl,rfl⟩ | ⟨h0,z1,rfl,rfl,z2⟩ | ⟨h0,z1,rfl,rfl,z2⟩
 all_goals
  go_in
  go_wp2_with fail;refine (hcut _).mono ?_;rintro e w1 ⟨a,b,n,rfl,ha,hb,rfl⟩;have T:=ze ha
  have a0:(ahead 47 (zr (bts s))).length<=s.size:=by
   have h1:(ahead 47 (zr (bts s))).length<=(zr (bts s)).length:=(List.takeWhile_sublist _).length_le;have h2:(zr (bts s)).length<=(bts s).length:=by unfold zr;split<;>simp
   rw [zm] at h2
   omega
  have a1:(ys 47 (zr (bts s))).length<=s.size:=by
   have h1:(ys 47 (zr (bts s))).length<=(zr (bts s)).length:=by
    unfold ys;have:=(List.dropWhile_sublist (fun x=>x != (47:UInt8)) (l:=zr (bts s))).length_le;rw [List.length_tail];omega
   have h2:(zr (bts s)).length<=(bts s).length:=by unfold zr;split<;>simp
   rw [zm] at h2
   omega
  have aI:=ze (show a.size<=1073741824 by rw [<- zm,ha];omega);have ai:=ze (z.o.below (zC _ n) z.o.lt);have aj:=ze (zk C.o n);clear z C;have z:=ai;have C:=aj;clear ai aj;generalize World.drewN _ n=W at z C |-;have r0:=z.o.cell 0;have R:=z.o.cell 1;have S:=z.o.cell 2;obtain ⟨f0,f1,f2⟩:=fq3 z;have lR:=z.o.lt;simp at r0 R S
  cases hh:has 47 (zr (bts s)) with
  | false=>
    have a7:=ze (show vk (bts s)=[49] by unfold vk;rw [hh];rfl);clear hh hb ha a0 a1 hcut z1;go_wp2_with fail;generalize aT:(⟨#[49]⟩:ByteArray)=t;have Q:Hid (bts t=vk (bts s)):=ze (by rw [a7.o, <- aT];rfl);have aE:Hid (t.size<=1073741824):=ze (by rw [<- aT];decide);clear aT
    rcases Bool.eq_false_or_eq_true (xu (bts a)) with N | N
    rotate_left
    . have D:=ze (Xa (.inl (by rw [<- T.o];exact N)))
      have O:=ze N;clear N;refine (Yt a _ aI.o).mono ?_;rintro e w1 ⟨rfl,rfl⟩;rw [O.o];go_wp2_with fail;have y:=yO (ng:=false) (A:=none) (n:=0) (c:=0) (B:=none) (m:=0) (d:=0) z.o;have j:=y.cell 0;have r:=y.cell 1;have u:=y.cell 2;simp only [World.ref] at j r u;simp at j r u;refine bodyPost_ret (v:=.tuple #[.agg #[.bool false,.slice none 0 0,.slice none 0 0],.bool false]) (by simp [results,results78,go_sem,j,r,u]) rfl ?_
      first
      | exact xO.no D.o ⟨_,_,_,_,_,_,_,rfl⟩ C.o
      | exact xO.no D.o ⟨_,_,_,_,_,_,_,rfl⟩ (yy (g:=w.heap.size) (ng:=false) (A:=none) (n:=0) (c:=0) (B:=none) (m:=0) (d:=0) C.o (uA))
    have O:=ze N
    clear N;refine (Yt a _ aI.o).mono ?_;rintro e w1 ⟨rfl,rfl⟩;rw [O.o];go_wp2_with fail;refine (Yt t _ aE.o).mono ?_;rintro e w1 ⟨rfl,rfl⟩
    rcases Bool.eq_false_or_eq_true (xu (bts t)) with M | M
    rotate_left
    . have D:=ze (Xa (.inr (.inl (by rw [<- Q.o];exact M))))
      rw [M];clear M;go_wp2_with fail;have y:=yO (ng:=false) (A:=none) (n:=0) (c:=0) (B:=none) (m:=0) (d:=0) z.o;have j:=y.cell 0;have r:=y.cell 1;have u:=y.cell 2;simp only [World.ref] at j r u;simp at j r u;refine bodyPost_ret (v:=.tuple #[.agg #[.bool false,.slice none 0 0,.slice none 0 0],.bool false]) (by simp [results,results78,go_sem,j,r,u]) rfl ?_
      first
      | exact xO.no D.o ⟨_,_,_,_,_,_,_,rfl⟩ C.o
      | exact xO.no D.o ⟨_,_,_,_,_,_,_,rfl⟩ (yy (g:=w.heap.size) (ng:=false) (A:=none) (n:=0) (c:=0) (B:=none) (m:=0) (d:=0) C.o (uA))
    have ak:=ze M
    rw [M];clear M
    by_cases l1:50000<a.size
    . have D:=ze (Xa (.inr (.inr (.inl (by rw [<- T.o,zm];exact l1)))))
      go_wp2_with fail;have y:=yO (ng:=false) (A:=none) (n:=0) (c:=0) (B:=none) (m:=0) (d:=0) z.o;have j:=y.cell 0;have r:=y.cell 1;have u:=y.cell 2;simp only [World.ref] at j r u;simp at j r u;refine bodyPost_ret (v:=.tuple #[.agg #[.bool false,.slice none 0 0,.slice none 0 0],.bool false]) (by simp [results,results78,go_sem,j,r,u]) rfl ?_
      first
      | exact xO.no D.o ⟨_,_,_,_,_,_,_,rfl⟩ C.o
      | exact xO.no D.o ⟨_,_,_,_,_,_,_,rfl⟩ (yy (g:=w.heap.size) (ng:=false) (A:=none) (n:=0) (c:=0) (B:=none) (m:=0) (d:=0) C.o (uA))
    by_cases l2:50000<t.size
    . have D:=ze (Xa (.inr (.inr (.inr (.inl (by rw [<- Q.o,zm];exact l2))))))
      go_wp2_with fail;have y:=yO (ng:=false) (A:=none) (n:=0) (c:=0) (B:=none) (m:=0) (d:=0) z.o;have j:=y.cell 0;have r:=y.cell 1;have u:=y.cell 2;simp only [World.ref] at j r u;simp at j r u;refine bodyPost_ret (v:=.tuple #[.agg #[.bool false,.slice none 0 0,.slice none 0 0],.bool false]) (by simp [results,results78,go_sem,j,r,u]) rfl ?_
      first
      | exact xO.no D.o ⟨_,_,_,_,_,_,_,rfl⟩ C.o
      | exact xO.no D.o ⟨_,_,_,_,_,_,_,rfl⟩ (yy (g:=w.heap.size) (ng:=false) (A:=none) (n:=0) (c:=0) (B:=none) (m:=0) (d:=0) C.o (uA))
    have ap:=ze (show (bts a).length<=50000 by rw [zm];omega)
    have ar:=ze (show (bts t).length<=50000 by rw [zm];omega);have af:=ze (zpx (l:=bts s) (by rw [<- T.o];exact O.o) (by rw [<- Q.o];exact ak.o) (by rw [<- T.o];exact ap.o) (by rw [<- Q.o];exact ar.o));go_wp2_with fail;refine (zdc t _ (V9 ak.o) (by have:=ar.o;rw [zm] at this;omega)).mono ?_;rintro e w2 ⟨v,rfl,Y,ao⟩;have ah:=zmc ak.o ar.o;have ab:=zmc O.o ap.o;rw [Q.o] at Y ah;rw [T.o] at ab;obtain ⟨dv,av⟩:=uR (zE (vk (bts s)));obtain ⟨nv,al⟩:=uR (zE (ahead 47 (zr (bts s))));rw [av] at Y ah af;rw [al] at ab af;have aX:=ze av;have aV:=ze al;obtain ⟨A,c,rfl⟩:=Y.form;obtain ⟨HV,aH,aD⟩:=hz3 Y ah ab;have aj:=ze (ext C.o ao);have ai:=ze (z.o.below ao z.o.lt);clear r0 R S f0 f1 f2 lR z C;have z:=ai;have C:=aj;clear ai aj;have r0:=z.o.cell 0;have R:=z.o.cell 1;have S:=z.o.cell 2;obtain ⟨f0,f1,f2⟩:=fq3 z;have lR:=z.o.lt;simp at r0 R S
    clear Y ah ab ao l1 l2 av al
    by_cases hz:dv=0
    . subst hz
      have D:=ze (Xa (.inr (.inr (.inr (.inr aX.o)))));have aN:((len 1000000000 0:Int) == 0)=true:=by rw [VD];rfl
      go_wp2_with fail;have y:=yO (ng:=false) (A:=none) (n:=0) (c:=0) (B:=none) (m:=0) (d:=0) z.o;have j:=y.cell 0;have r:=y.cell 1;have u:=y.cell 2;simp only [World.ref] at j r u;simp at j r u;refine bodyPost_ret (v:=.tuple #[.agg #[.bool false,.slice none 0 0,.slice none 0 0],.bool false]) (by simp [results,results78,go_sem,j,r,u]) rfl ?_
      first
      | exact xO.no D.o ⟨_,_,_,_,_,_,_,rfl⟩ C.o
      | exact xO.no D.o ⟨_,_,_,_,_,_,_,rfl⟩ (yy (g:=w.heap.size) (ng:=false) (A:=none) (n:=0) (c:=0) (B:=none) (m:=0) (d:=0) C.o (uA))
    have aN:((len 1000000000 dv:Int) == 0)=false:=by rw [beq_eq_false_iff_ne];have:=zb0 (β:=1000000000) (n:=dv) (by omega) (by omega);omega
    have HZ:=ze (show 0<dv by omega);clear hz;go_wp2_with fail;refine (zdc a _ (V9 O.o) (by have:=ap.o;rw [zm] at this;omega)).mono ?_;rintro e w3 ⟨v3,rfl,au,ae⟩;rw [T.o,aV.o] at au;have aA:=ze au;have ax:=ze (zz.below HV.o ae);have aG:=ze (ext C.o ae);have V:=ze (z.o.below ae z.o.lt);clear au ae r0 R S f0 f1 f2 lR z C;go_wp2_with fail;refine (Yo _ _ _ nv dv _ aA.o ax.o HZ.o (uC aD.o (by decide)) (uC aH.o (by decide))).mono ?_;rintro e X ⟨v4,rfl,ac,ag⟩;rw [HN.o] at ac;obtain ⟨q,hq⟩:=uQ (vh (yT (bts s)) nv dv);have aK:=ze (show XV 33554432 q by rw [hq];exact zfq HZ.o (uC aD.o (by decide)) (uC aH.o (by decide)));rw [<- hq] at ac af;obtain ⟨nq,E,G,I,F,rfl,az,ay,aF⟩:=ac.form;have aB:=ze az;have Z:=zf X (.cells #[.bool nq,.slice E (len 1000000000 q.num.natAbs) G,.slice I (len 1000000000 q.den) F] 112);have an:=ze (show Zg _ w.heap.size from ⟨_,_,_,_,_,_,_,V.o.below (ext ag Z) V.o.lt⟩)
    have aw:=ze (ext aG.o (ext ag Z));have aa:=ze (zz.below ay Z);have ad:=ze (zz.below aF Z);have U:=ze (Blk.new X 112 #[.bool nq,.slice E (len 1000000000 q.num.natAbs) G,.slice I (len 1000000000 q.den) F]);have aL:w.heap.size<X.heap.size:=(V.o.below ag V.o.lt).lt;obtain ⟨K,aq⟩:=uR (len 1000000000 q.num.natAbs);obtain ⟨J,am⟩:=uR (len 1000000000 q.den);rw [aq,am] at an aw U |-;rw [aq,am] at aa ad;clear hq ac az ag Z ay aF aq am V aG aA ax HV;go_wp2_with fail;generalize aJ:X.heap.size=gq at U aL |-;generalize X.alloc (.cells #[.bool nq,.slice E K G,.slice I J F] 112)=W7 at aa ad an aw U |-;clear aJ;have a2:=U.o.lt;obtain ⟨q0,q1,q2,_⟩:=bq3 U;have aM:=ze (show Zg W7.drew w.heap.size from an.o);have aU:=ze (show Below w.heap.size w W7.drew from zk aw.o 1);have aQ:=ze (show zz W7.drew _ q.num.natAbs from zz.below aa.o (zC W7 1))
    have aW:=ze (show zz W7.drew _ q.den from zz.below ad.o (zC W7 1));clear aa ad
    go_region_held3 (fun w' =>w'.cell? ⟨gq,0,none⟩=some (.bool nq)/\w'.cell? ⟨gq,1,none⟩=some (.slice E K G)/\w'.cell? ⟨gq,2,none⟩=some (.slice I J F)/\gq<w'.heap.size/\Hid (Zg w' w.heap.size)/\Hid (Below w.heap.size w w')/\Hid (zz w' (.slice E K G) q.num.natAbs)/\Hid (zz w' (.slice I J F) q.den))
     (first
       | with_reducible exact ⟨by go_keep,by go_keep,by go_keep,by first | (simp;done) | (simp;assumption),aM,aU,aQ,aW⟩
       | (go_split_ands;with_reducible exact ⟨yh (by omega) ‹_›,yh (by omega) ‹_›,yh (by omega) ‹_›,vJ ‹_›,Zd ‹_›,vD (by omega) ‹_›,XI ‹_› ‹_›,XI ‹_› ‹_›⟩)
       | (go_split_ands;with_reducible exact ⟨zj ‹_› ‹_› ‹_›,zj ‹_› ‹_› ‹_›,zj ‹_› ‹_› ‹_›,zG ‹_› ‹_›,vi ‹_› ‹_›,zp ‹_› ‹_›,zg2 ‹_› ‹_›,zg2 ‹_› ‹_›⟩)
       | go_keep)
     (first
       | (go_at_call 104;refine (zcz _ q _ ⟨_,_,_,_,_,_,_,rfl,aB.o,zM (by go_split_ands;assumption),zM (by go_split_ands;assumption)⟩ aK.o).mono ?_;rintro e wo ⟨rfl,aO⟩;obtain ⟨a3,Ar,kr,cr,Br,a6,a4,L⟩:=(vi (g:=w.heap.size) aO (by go_split_ands;assumption)).out;have r0:=L.cell 0;have R:=L.cell 1;have S:=L.cell 2;have f0:=L.frozen 0;have f1:=L.frozen 1;have f2:=L.frozen 2;simp at r0 R S;have z:=ze L;clear L))
    all_goals
     go_split_ands;have y:=yO (ng:=nq) (A:=E) (n:=K) (c:=G) (B:=I) (m:=J) (d:=F) z.o;have aY:=zM (by assumption:Hid (zz (World.ref wo w.heap.size nq E K G I J F) (.slice E K G) q.num.natAbs));have aP:=zM (by assumption:Hid (zz (World.ref wo w.heap.size nq E K G I J F) (.slice I J F) q.den));have aS:=zM (by assumption:Hid (Below w.heap.size w (World.ref wo w.heap.size nq E K G I J F)));have j:=y.cell 0;have r:=y.cell 1;have u:=y.cell 2;simp only [World.ref] at j r u;simp at j r u;go_wp2;refine bodyPost_ret (v:=.tuple #[.agg #[.bool nq,.slice E K G,.slice I J F],.bool (zI q == s.toList)]) (by simp [results,results78,go_sem,j,r,u]) rfl ?_;exact xO.maybe af.o (zrh _ _) ⟨_,_,_,_,_,_,_,rfl,aB.o,aY,aP⟩ aS
  | true=>
    have Q:=ze (show bts b=vk (bts s) by rw [hb,if_pos hh];unfold vk;rw [hh];rfl);have aE:=ze (show b.size<=1073741824 by rw [<- zm,hb,if_pos hh];omega);clear hh hb ha a0 a1 hcut z1;obtain ⟨t,ht⟩:∃ t,t=b:=⟨b,rfl⟩;subst ht;go_wp2_with fail
    rcases Bool.eq_false_or_eq_true (xu (bts a)) with N | N
    rotate_left
    . have D:=ze (Xa (.inl (by rw [<- T.o];exact N)))
      have O:=ze N;clear N;refine (Yt a _ aI.o).mono ?_;rintro e w1 ⟨rfl,rfl⟩;rw [O.o];go_wp2_with fail;have y:=yO (ng:=false) (A:=none) (n:=0) (c:=0) (B:=none) (m:=0) (d:=0) z.o;have j:=y.cell 0;have r:=y.cell 1;have u:=y.cell 2;simp only [World.ref] at j r u;simp at j r u;refine bodyPost_ret (v:=.tuple #[.agg #[.bool false,.slice none 0 0,.slice none 0 0],.bool false]) (by simp [results,results78,go_sem,j,r,u]) rfl ?_
      first
      | exact xO.no D.o ⟨_,_,_,_,_,_,_,rfl⟩ C.o
      | exact xO.no D.o ⟨_,_,_,_,_,_,_,rfl⟩ (yy (g:=w.heap.size) (ng:=false) (A:=none) (n:=0) (c:=0) (B:=none) (m:=0) (d:=0) C.o (uA))
    have O:=ze N
    clear N;refine (Yt a _ aI.o).mono ?_;rintro e w1 ⟨rfl,rfl⟩;rw [O.o];go_wp2_with fail;refine (Yt t _ aE.o).mono ?_;rintro e w1 ⟨rfl,rfl⟩
    rcases Bool.eq_false_or_eq_true (xu (bts t)) with M | M
    rotate_left
    . have D:=ze (Xa (.inr (.inl (by rw [<- Q.o];exact M))))
      rw [M];clear M;go_wp2_with fail;have y:=yO (ng:=false) (A:=none) (n:=0) (c:=0) (B:=none) (m:=0) (d:=0) z.o;have j:=y.cell 0;have r:=y.cell 1;have u:=y.cell 2;simp only [World.ref] at j r u;simp at j r u;refine bodyPost_ret (v:=.tuple #[.agg #[.bool false,.slice none 0 0,.slice none 0 0],.bool false]) (by simp [results,results78,go_sem,j,r,u]) rfl ?_
      first
      | exact xO.no D.o ⟨_,_,_,_,_,_,_,rfl⟩ C.o
      | exact xO.no D.o ⟨_,_,_,_,_,_,_,rfl⟩ (yy (g:=w.heap.size) (ng:=false) (A:=none) (n:=0) (c:=0) (B:=none) (m:=0) (d:=0) C.o (uA))
    have ak:=ze M
    rw [M];clear M
    by_cases l1:50000<a.size
    . have D:=ze (Xa (.inr (.inr (.inl (by rw [<- T.o,zm];exact l1)))))
      go_wp2_with fail;have y:=yO (ng:=false) (A:=none) (n:=0) (c:=0) (B:=none) (m:=0) (d:=0) z.o;have j:=y.cell 0;have r:=y.cell 1;have u:=y.cell 2;simp only [World.ref] at j r u;simp at j r u;refine bodyPost_ret (v:=.tuple #[.agg #[.bool false,.slice none 0 0,.slice none 0 0],.bool false]) (by simp [results,results78,go_sem,j,r,u]) rfl ?_
      first
      | exact xO.no D.o ⟨_,_,_,_,_,_,_,rfl⟩ C.o
      | exact xO.no D.o ⟨_,_,_,_,_,_,_,rfl⟩ (yy (g:=w.heap.size) (ng:=false) (A:=none) (n:=0) (c:=0) (B:=none) (m:=0) (d:=0) C.o (uA))
    by_cases l2:50000<t.size
    . have D:=ze (Xa (.inr (.inr (.inr (.inl (by rw [<- Q.o,zm];exact l2))))))
      go_wp2_with fail;have y:=yO (ng:=false) (A:=none) (n:=0) (c:=0) (B:=none) (m:=0) (d:=0) z.o;have j:=y.cell 0;have r:=y.cell 1;have u:=y.cell 2;simp only [World.ref] at j r u;simp at j r u;refine bodyPost_ret (v:=.tuple #[.agg #[.bool false,.slice none 0 0,.slice none 0 0],.bool false]) (by simp [results,results78,go_sem,j,r,u]) rfl ?_
      first
      | exact xO.no D.o ⟨_,_,_,_,_,_,_,rfl⟩ C.o
      | exact xO.no D.o ⟨_,_,_,_,_,_,_,rfl⟩ (yy (g:=w.heap.size) (ng:=false) (A:=none) (n:=0) (c:=0) (B:=none) (m:=0) (d:=0) C.o (uA))
    have ap:=ze (show (bts a).length<=50000 by rw [zm];omega)
    have ar:=ze (show (bts t).length<=50000 by rw [zm];omega);have af:=ze (zpx (l:=bts s) (by rw [<- T.o];exact O.o) (by rw [<- Q.o];exact ak.o) (by rw [<- T.o];exact ap.o) (by rw [<- Q.o];exact ar.o));go_wp2_with fail;refine (zdc t _ (V9 ak.o) (by have:=ar.o;rw [zm] at this;omega)).mono ?_;rintro e w2 ⟨v,rfl,Y,ao⟩;have ah:=zmc ak.o ar.o;have ab:=zmc O.o ap.o;rw [Q.o] at Y ah;rw [T.o] at ab;obtain ⟨dv,av⟩:=uR (zE (vk (bts s)));obtain ⟨nv,al⟩:=uR (zE (ahead 47 (zr (bts s))));rw [av] at Y ah af;rw [al] at ab af;have aX:=ze av;have aV:=ze al;obtain ⟨A,c,rfl⟩:=Y.form;obtain ⟨HV,aH,aD⟩:=hz3 Y ah ab;have aj:=ze (ext C.o ao);have ai:=ze (z.o.below ao z.o.lt);clear r0 R S f0 f1 f2 lR z C;have z:=ai;have C:=aj;clear ai aj;have r0:=z.o.cell 0;have R:=z.o.cell 1;have S:=z.o.cell 2;obtain ⟨f0,f1,f2⟩:=fq3 z;have lR:=z.o.lt;simp at r0 R S
    clear Y ah ab ao l1 l2 av al
    by_cases hz:dv=0
    . subst hz
      have D:=ze (Xa (.inr (.inr (.inr (.inr aX.o)))));have aN:((len 1000000000 0:Int) == 0)=true:=by rw [VD];rfl
      go_wp2_with fail;have y:=yO (ng:=false) (A:=none) (n:=0) (c:=0) (B:=none) (m:=0) (d:=0) z.o;have j:=y.cell 0;have r:=y.cell 1;have u:=y.cell 2;simp only [World.ref] at j r u;simp at j r u;refine bodyPost_ret (v:=.tuple #[.agg #[.bool false,.slice none 0 0,.slice none 0 0],.bool false]) (by simp [results,results78,go_sem,j,r,u]) rfl ?_
      first
      | exact xO.no D.o ⟨_,_,_,_,_,_,_,rfl⟩ C.o
      | exact xO.no D.o ⟨_,_,_,_,_,_,_,rfl⟩ (yy (g:=w.heap.size) (ng:=false) (A:=none) (n:=0) (c:=0) (B:=none) (m:=0) (d:=0) C.o (uA))
    have aN:((len 1000000000 dv:Int) == 0)=false:=by rw [beq_eq_false_iff_ne];have:=zb0 (β:=1000000000) (n:=dv) (by omega) (by omega);omega
    have HZ:=ze (show 0<dv by omega);clear hz;go_wp2_with fail;refine (zdc a _ (V9 O.o) (by have:=ap.o;rw [zm] at this;omega)).mono ?_;rintro e w3 ⟨v3,rfl,au,ae⟩;rw [T.o,aV.o] at au;have aA:=ze au;have ax:=ze (zz.below HV.o ae);have aG:=ze (ext C.o ae);have V:=ze (z.o.below ae z.o.lt);clear au ae r0 R S f0 f1 f2 lR z C;go_wp2_with fail;refine (Yo _ _ _ nv dv _ aA.o ax.o HZ.o (uC aD.o (by decide)) (uC aH.o (by decide))).mono ?_;rintro e X ⟨v4,rfl,ac,ag⟩;rw [HN.o] at ac;obtain ⟨q,hq⟩:=uQ (vh (yT (bts s)) nv dv);have aK:=ze (show XV 33554432 q by rw [hq];exact zfq HZ.o (uC aD.o (by decide)) (uC aH.o (by decide)));rw [<- hq] at ac af;obtain ⟨nq,E,G,I,F,rfl,az,ay,aF⟩:=ac.form;have aB:=ze az;have Z:=zf X (.cells #[.bool nq,.slice E (len 1000000000 q.num.natAbs) G,.slice I (len 1000000000 q.den) F] 112);have an:=ze (show Zg _ w.heap.size from ⟨_,_,_,_,_,_,_,V.o.below (ext ag Z) V.o.lt⟩)
    have aw:=ze (ext aG.o (ext ag Z));have aa:=ze (zz.below ay Z);have ad:=ze (zz.below aF Z);have U:=ze (Blk.new X 112 #[.bool nq,.slice E (len 1000000000 q.num.natAbs) G,.slice I (len 1000000000 q.den) F]);have aL:w.heap.size<X.heap.size:=(V.o.below ag V.o.lt).lt;obtain ⟨K,aq⟩:=uR (len 1000000000 q.num.natAbs);obtain ⟨J,am⟩:=uR (len 1000000000 q.den);rw [aq,am] at an aw U |-;rw [aq,am] at aa ad;clear hq ac az ag Z ay aF aq am V aG aA ax HV;go_wp2_with fail;generalize aJ:X.heap.size=gq at U aL |-;generalize X.alloc (.cells #[.bool nq,.slice E K G,.slice I J F] 112)=W7 at aa ad an aw U |-;clear aJ;have a2:=U.o.lt;obtain ⟨q0,q1,q2,_⟩:=bq3 U;have aM:=ze (show Zg W7.drew w.heap.size from an.o);have aU:=ze (show Below w.heap.size w W7.drew from zk aw.o 1);have aQ:=ze (show zz W7.drew _ q.num.natAbs from zz.below aa.o (zC W7 1))
    have aW:=ze (show zz W7.drew _ q.den from zz.below ad.o (zC W7 1));clear aa ad
    go_region_held3 (fun w' =>w'.cell? ⟨gq,0,none⟩=some (.bool nq)/\w'.cell? ⟨gq,1,none⟩=some (.slice E K G)/\w'.cell? ⟨gq,2,none⟩=some (.slice I J F)/\gq<w'.heap.size/\Hid (Zg w' w.heap.size)/\Hid (Below w.heap.size w w')/\Hid (zz w' (.slice E K G) q.num.natAbs)/\Hid (zz w' (.slice I J F) q.den))
     (first
       | with_reducible exact ⟨by go_keep,by go_keep,by go_keep,by first | (simp;done) | (simp;assumption),aM,aU,aQ,aW⟩
       | (go_split_ands;with_reducible exact ⟨yh (by omega) ‹_›,yh (by omega) ‹_›,yh (by omega) ‹_›,vJ ‹_›,Zd ‹_›,vD (by omega) ‹_›,XI ‹_› ‹_›,XI ‹_› ‹_›⟩)
       | (go_split_ands;with_reducible exact ⟨zj ‹_› ‹_› ‹_›,zj ‹_› ‹_› ‹_›,zj ‹_› ‹_› ‹_›,zG ‹_› ‹_›,vi ‹_› ‹_›,zp ‹_› ‹_›,zg2 ‹_› ‹_›,zg2 ‹_› ‹_›⟩)
       | go_keep)
     (first
       | (go_at_call 104;refine (zcz _ q _ ⟨_,_,_,_,_,_,_,rfl,aB.o,zM (by go_split_ands;assumption),zM (by go_split_ands;assumption)⟩ aK.o).mono ?_;rintro e wo ⟨rfl,aO⟩;obtain ⟨a3,Ar,kr,cr,Br,a6,a4,L⟩:=(vi (g:=w.heap.size) aO (by go_split_ands;assumption)).out;have r0:=L.cell 0;have R:=L.cell 1;have S:=L.cell 2;have f0:=L.frozen 0;have f1:=L.frozen 1;have f2:=L.frozen 2;simp at r0 R S;have z:=ze L;clear L))
    all_goals
     go_split_ands;have y:=yO (ng:=nq) (A:=E) (n:=K) (c:=G) (B:=I) (m:=J) (d:=F) z.o;have aY:=zM (by assumption:Hid (zz (World.ref wo w.heap.size nq E K G I J F) (.slice E K G) q.num.natAbs));have aP:=zM (by assumption:Hid (zz (World.ref wo w.heap.size nq E K G I J F) (.slice I J F) q.den));have aS:=zM (by assumption:Hid (Below w.heap.size w (World.ref wo w.heap.size nq E K G I J F)));have j:=y.cell 0;have r:=y.cell 1;have u:=y.cell 2;simp only [World.ref] at j r u;simp at j r u;go_wp2;refine bodyPost_ret (v:=.tuple #[.agg #[.bool nq,.slice E K G,.slice I J F],.bool (zI q == s.toList)]) (by simp [results,results78,go_sem,j,r,u]) rfl ?_;exact xO.maybe af.o (zrh _ _) ⟨_,_,_,_,_,_,_,rfl,aB.o,aY,aP⟩ aS
theorem zap {a b M K:Nat} (h1:len 1000000000 a<=M) (h2:len 1000000000 b<=K):len 1000000000 (a*b)<=M+K:=
 uC (VX (by omega) a b) (Nat.add_le_add h1 h2)
theorem X4 (va vb:Value) (x y:Rat) (w:World) (ha:vW w va x) (hb:vW w vb y) (hx:XV 8388608 x) (hy:XV 8388608 y):
 Calls prog 103 #[va,vb] w (Vt w (x*y)):=by
 obtain ⟨K,j,n1,r,u,z,l,rfl,ah,ac,aj⟩:=ha
 obtain ⟨G,R,T,J,U,D,C,rfl,ai,X,V⟩:=hb
 have aE:=ze (uC hx.1 (show 8388608<=67108864 by omega))
 have ar:=ze (uC hx.2 (show 8388608<=67108864 by omega))
 have au:=ze (uC hy.1 (show 8388608<=67108864 by omega))
 have am:=ze (uC hy.2 (show 8388608<=67108864 by omega))
 have aB:=ze (uC (zap hx.1 hy.1) (show 8388608+8388608<=33554432 by omega))
 have ap:=ze (uC (zap hx.2 hy.2) (show 8388608+8388608<=33554432 by omega))
 have an:=ze (show 0<x.den*y.den by have:=x.den_pos;have:=y.den_pos;exact Nat.mul_pos ‹0<x.den› ‹0<y.den›)
 rw [zwt x y, <- ah, <- ai]
 obtain ⟨aw,av,ax,ao⟩:=hz4 ac aj X V
 clear ac aj X V hx hy ah ai
 have aC:Hid (Zg ((((w.alloc (.cells #[.bool K,.slice j n1 r,.slice u z l] 112)).alloc (.cells #[.bool G,.slice R T J,.slice U D C] 112)).alloc (.cells #[.bool false,.slice none 0 0,.slice none 0 0] 112)).drew) (w.heap.size+1+1)):=by
  have h:=(Blk.new ((w.alloc (.cells #[.bool K,.slice j n1 r,.slice u z l] 112)).alloc (.cells #[.bool G,.slice R T J,.slice U D C] 112)) 112 #[.bool false,.slice none 0 0,.slice none 0 0]).drew
  simp only [World.size_alloc] at h
  exact ⟨_,_,_,_,_,_,_,h⟩
 have ay:Hid (Below w.heap.size w ((((w.alloc (.cells #[.bool K,.slice j n1 r,.slice u z l] 112)).alloc (.cells #[.bool G,.slice R T J,.slice U D C] 112)).alloc (.cells #[.bool false,.slice none 0 0,.slice none 0 0] 112)).drew)):=ze (zk (ext (ext (zf w (.cells #[.bool K,.slice j n1 r,.slice u z l] 112)) (zf _ (.cells #[.bool G,.slice R T J,.slice U D C] 112))) (zf _ (.cells #[.bool false,.slice none 0 0,.slice none 0 0] 112))) 1)
 go_in
 go_wp2_with fail
 go_region_held3 (fun w' =>w'.cell? ⟨w.heap.size,0,none⟩=some (.bool K)/\w'.cell? ⟨w.heap.size,1,none⟩=some (.slice j n1 r)/\w'.cell? ⟨w.heap.size,2,none⟩=some (.slice u z l)/\w'.cell? ⟨w.heap.size+1,0,none⟩=some (.bool G)/\w'.cell? ⟨w.heap.size+1,1,none⟩=some (.slice R T J)/\w'.cell? ⟨w.heap.size+1,2,none⟩=some (.slice U D C)/\w.heap.size<w'.heap.size/\w.heap.size+1<w'.heap.size/\Hid (Zg w' (w.heap.size+1+1))/\Hid (Below w.heap.size w w'))
  (first
    | with_reducible exact ⟨by go_keep,by go_keep,by go_keep,by go_keep,by go_keep,by go_keep,by first | (simp;done) | (simp;omega),by first | (simp;done) | (simp;omega),aC,ay⟩
    | (go_split_ands;with_reducible exact ⟨yh (by omega) ‹_›,yh (by omega) ‹_›,yh (by omega) ‹_›,yh (by omega) ‹_›,yh (by omega) ‹_›,yh (by omega) ‹_›,vJ ‹_›,vJ ‹_›,Zd ‹_›,vD (by omega) ‹_›⟩)
    | (go_split_ands;with_reducible exact ⟨zj ‹_› ‹_› ‹_›,zj ‹_› ‹_› ‹_›,zj ‹_› ‹_› ‹_›,zj ‹_› ‹_› ‹_›,zj ‹_› ‹_› ‹_›,zj ‹_› ‹_› ‹_›,zG ‹_› ‹_›,zG ‹_› ‹_›,vi ‹_› ‹_›,zp ‹_› ‹_›⟩)
    | go_keep)
  (first
    | (go_at_call_of 155 (Value.slice j n1 r);refine (vU _ _ (x.num.natAbs) (y.num.natAbs) _ (zz.below aw.o (zM (by go_split_ands;assumption))) (zz.below ax.o (zM (by go_split_ands;assumption))) aE.o au.o).mono ?_;rintro e w1 ⟨v1,rfl,ae,X⟩;have S:=ze ae;clear ae;try replace F:=ze (zz.below F.o X))
    | (go_at_call_of 155 (Value.slice u z l);refine (vU _ _ (x.den) (y.den) _ (zz.below av.o (zM (by go_split_ands;assumption))) (zz.below ao.o (zM (by go_split_ands;assumption))) ar.o am.o).mono ?_;rintro e w2 ⟨v2,rfl,af,V⟩;have F:=ze af;clear af;try replace S:=ze (zz.below S.o V))
    | (go_at_call 129;refine (Yo _ _ _ (x.num.natAbs*y.num.natAbs) (x.den*y.den) _ S.o F.o an.o aB.o ap.o).mono ?_;rintro e wo ⟨vo,rfl,⟨O,I,E,N,Q,M,L,rfl,ag,ad,ak⟩,aa⟩;obtain ⟨gr,Ar,kr,cr,Br,aG,aH,b⟩:=(vi (g:=w.heap.size+1+1) aa (by go_split_ands;assumption)).out;have r0:=b.cell 0;have r1:=b.cell 1;have r2:=b.cell 2;have f0:=b.frozen 0;have f1:=b.frozen 1;have f2:=b.frozen 2;simp at r0 r1 r2;have aq:=ze ag;have aA:=ze ad;have az:=ze ak;have Z:=ze b;clear ag ad ak b;try replace S:=ze (zz.below S.o aa);try replace F:=ze (zz.below F.o aa)))
 all_goals
  go_split_ands
  have ab:=yO (ng:=O) (A:=I) (n:=E) (c:=N) (B:=Q) (m:=M) (d:=L) Z.o
  have aF:=yb (ng:=O) (A:=I) (n:=E) (c:=N) (B:=Q) (m:=M) (d:=L) aA.o Z.o
  have aD:=yb (ng:=O) (A:=I) (n:=E) (c:=N) (B:=Q) (m:=M) (d:=L) az.o Z.o
  have al:=zM (by assumption:Hid (Below w.heap.size w (World.ref wo (w.heap.size+1+1) O I E N Q M L)))
  have Y:=ab.cell 0;have e1:=ab.cell 1;have e2:=ab.cell 2
  simp only [World.ref] at Y e1 e2
  simp at Y e1 e2
  go_wp2
  refine bodyPost_ret (v:=.agg #[.bool O,.slice I E N,.slice Q M L]) (by simp [results,results103,go_sem,Y,e1,e2]) rfl ?_
  exact ⟨_,rfl,⟨_,_,_,_,_,_,_,rfl,aq.o,aF,aD⟩,al⟩
theorem XV.neg {M:Nat} {x:Rat} (h:XV M x):XV M (-x):=by
 unfold XV at h |-
 rw [Rat.neg_num,Rat.neg_den,Int.natAbs_neg]
 exact h
theorem XV.mono {M K:Nat} {x:Rat} (h:XV M x) (hk:M<=K):XV K x:=⟨uC h.1 hk,uC h.2 hk⟩
theorem zky (va:Value) (x:Rat) (w:World) (ha:vW w va x):
 Calls prog 106 #[va] w (Vt w (-x)):=by
 obtain ⟨g,A,c,B,d,rfl,F,y,E⟩:=ha.form
 have C:(!g && decide (0<len 1000000000 x.num.natAbs))=decide ((-x).num<0):=by
  rw [Rat.neg_num,F]
  have I:=zb0 (β:=1000000000) (n:=x.num.natAbs) (by omega)
  have G:=VD (β:=1000000000)
  by_cases D:x.num<0
  . rw [uE D,uF (show ¬ -x.num<0 by omega)];rfl
  by_cases J:x.num=0
  . rw [J];rw [show (0:Int).natAbs=0 from rfl,G];decide
  rw [uF D,uE (show 0<len 1000000000 x.num.natAbs from I (by omega)),uE (show -x.num<0 by omega)];rfl
 obtain ⟨u,r,j⟩:=hz3 C y E
 obtain ⟨n,l⟩:=uR (len 1000000000 x.num.natAbs)
 obtain ⟨m,e⟩:=uR (len 1000000000 x.den)
 rw [l] at u r
 rw [e] at j
 rw [l,e]
 clear ha y E C F l e
 have z:=ze (show (-x).num.natAbs=x.num.natAbs by rw [Rat.neg_num,Int.natAbs_neg])
 have b:=ze (fun (v:Bool)=>ext (zf w (.cells #[.bool g,.slice A n c,.slice B m d] 112)) (zf (w.alloc (.cells #[.bool g,.slice A n c,.slice B m d] 112)) (.cells #[.bool v,.slice A n c,.slice B m d] 112)))
 cases g
 . go_in
   go_wp2_with fail;refine bodyPost_ret (v:=.agg #[.bool (decide (0<n)),.slice A n c,.slice B m d]) (by simp [results,results106,go_sem]) rfl ?_;refine ⟨_,rfl,⟨_,_,_,_,_,_,_,rfl,u.o,?_,?_⟩,b.o _⟩
   . rw [z.o];exact zz.below r.o (b.o _)
   exact zz.below j.o (b.o _)
 go_in
 go_wp2_with fail;refine bodyPost_ret (v:=.agg #[.bool false,.slice A n c,.slice B m d]) (by simp [results,results106,go_sem]) rfl ?_;refine ⟨_,rfl,⟨_,_,_,_,_,_,_,rfl,u.o,?_,?_⟩,b.o _⟩
 . rw [z.o];exact zz.below r.o (b.o _)
 exact zz.below j.o (b.o _)
theorem YG (va:Value) (x:Rat) (w:World) (ha:vW w va x):
 Calls prog 52 #[va] w (VE w (.int .i64 x.num.sign)):=by
 obtain ⟨g,A,c,B,d,rfl,z,r,y⟩:=ha.form
 have b:=ze (zf w (.cells #[.bool g,.slice A (len 1000000000 x.num.natAbs) c,.slice B (len 1000000000 x.den) d] 112))
 by_cases j:x.num=0
 . have l:=ze (show x.num.sign=0 by rw [j];rfl)
   have e:len 1000000000 x.num.natAbs=0:=by rw [j];exact VD _
   rw [e] at b |-;generalize len 1000000000 x.den=m at b |-;clear j z e ha r y
   go_in
   go_wp2;go_ret;exact ⟨Zr l.o,b.o⟩
 have e:((len 1000000000 x.num.natAbs:Int) == 0)=false:=by
  rw [beq_eq_false_iff_ne];have:=zb0 (β:=1000000000) (n:=x.num.natAbs) (by omega) (by omega);omega
 have l:=ze (show x.num.sign=if g then -1 else 1 by
  rw [z]
  by_cases u:x.num<0
  . rw [uE u];simpa using Int.sign_eq_neg_one_of_neg u
  rw [uF u];simpa using Int.sign_eq_one_of_pos (by omega))
 generalize len 1000000000 x.num.natAbs=n at b e ha r |-;generalize len 1000000000 x.den=m at b ha y |-;clear j z ha r y
 cases g
 . go_in
   go_wp2;go_ret;exact ⟨Zr l.o,b.o⟩
 go_in
 go_wp2;go_ret;exact ⟨Zr l.o,b.o⟩
theorem zo3 {a b:Nat}:decide (0<=zO (a:Int) (b:Int))=decide (b<=a):=by
 unfold zO
 rcases Nat.lt_trichotomy a b with h | h | h
 . rw [if_pos (by omega),uF (show ¬ b<=a by omega)];rfl
 . rw [if_neg (by omega),if_neg (by omega),uE (show b<=a by omega)];rfl
 . rw [if_neg (by omega),if_pos (by omega),uE (show b<=a by omega)];rfl
theorem YO (va vb:Value) (x y:Rat) (w:World) (ha:vW w va x) (hb:vW w vb y) (hx:XV 8388608 x) (hy:XV 8388608 y):
 Calls prog 102 #[va,vb] w (Vt w (x+y)):=by
 obtain ⟨L,S,n1,V,B1,m1,d1,rfl,aY,aU,ba⟩:=ha
 obtain ⟨K,A2,Y,T,B2,m2,d2,rfl,a9,aG,aC⟩:=hb
 have be:=ze (uC hx.1 (show 8388608<=67108864 by omega))
 have a7:=ze (uC hx.2 (show 8388608<=67108864 by omega))
 have bd:=ze (uC hy.1 (show 8388608<=67108864 by omega))
 have a6:=ze (uC hy.2 (show 8388608<=67108864 by omega))
 have aV:=zap hx.1 hy.2
 have a3:=zap hy.1 hx.2
 have aE:=ze (uC aV (show 8388608+8388608<=67108864 by omega))
 have aB:=ze (uC a3 (show 8388608+8388608<=67108864 by omega))
 have aS:=ze (uC (zap hx.2 hy.2) (show 8388608+8388608<=33554432 by omega))
 have bb:=ze (show len 1000000000 (x.num.natAbs*y.den+y.num.natAbs*x.den)<=33554432 from uC (zqr (by omega) _ _) (by omega))
 have bf:=ze (show len 1000000000 (x.num.natAbs*y.den - y.num.natAbs*x.den)<=33554432 from uC (vI (by omega) (Nat.sub_le _ _)) (by omega))
 have bg:=ze (show len 1000000000 (y.num.natAbs*x.den - x.num.natAbs*y.den)<=33554432 from uC (vI (by omega) (Nat.sub_le _ _)) (by omega))
 have aR:=ze (show 0<x.den*y.den from Nat.mul_pos x.den_pos y.den_pos)
 obtain ⟨bc,a8,bh,aX,aF,aO⟩:=hz6 aU ba aG aC aY a9
 clear aU ba aG aC hx hy aY a9 aV a3
 have ad:Hid (Zg ((((w.alloc (.cells #[.bool L,.slice S n1 V,.slice B1 m1 d1] 112)).alloc (.cells #[.bool K,.slice A2 Y T,.slice B2 m2 d2] 112)).alloc (.cells #[.bool false,.slice none 0 0,.slice none 0 0] 112)).drew) (w.heap.size+1+1)):=by
  have h:=(Blk.new ((w.alloc (.cells #[.bool L,.slice S n1 V,.slice B1 m1 d1] 112)).alloc (.cells #[.bool K,.slice A2 Y T,.slice B2 m2 d2] 112)) 112 #[.bool false,.slice none 0 0,.slice none 0 0]).drew
  simp only [World.size_alloc] at h
  exact ⟨_,_,_,_,_,_,_,h⟩
 have ai:Hid (Below w.heap.size w ((((w.alloc (.cells #[.bool L,.slice S n1 V,.slice B1 m1 d1] 112)).alloc (.cells #[.bool K,.slice A2 Y T,.slice B2 m2 d2] 112)).alloc (.cells #[.bool false,.slice none 0 0,.slice none 0 0] 112)).drew)):=ze (zk (ext (ext (zf w (.cells #[.bool L,.slice S n1 V,.slice B1 m1 d1] 112)) (zf _ (.cells #[.bool K,.slice A2 Y T,.slice B2 m2 d2] 112))) (zf _ (.cells #[.bool false,.slice none 0 0,.slice none 0 0] 112))) 1)
 go_in
 go_wp2_with fail
 go_region_held3 (fun w' =>w'.cell? ⟨w.heap.size,0,none⟩=some (.bool L)/\w'.cell? ⟨w.heap.size,1,none⟩=some (.slice S n1 V)/\w'.cell? ⟨w.heap.size,2,none⟩=some (.slice B1 m1 d1)/\w'.cell? ⟨w.heap.size+1,0,none⟩=some (.bool K)/\w'.cell? ⟨w.heap.size+1,1,none⟩=some (.slice A2 Y T)/\w'.cell? ⟨w.heap.size+1,2,none⟩=some (.slice B2 m2 d2)/\w.heap.size<w'.heap.size/\w.heap.size+1<w'.heap.size/\Hid (Zg w' (w.heap.size+1+1))/\Hid (Below w.heap.size w w'))
  (first
    | with_reducible exact ⟨by go_keep,by go_keep,by go_keep,by go_keep,by go_keep,by go_keep,by first | (simp;done) | (simp;omega),by first | (simp;done) | (simp;omega),ad,ai⟩
    | (go_split_ands;with_reducible exact ⟨yh (by omega) ‹_›,yh (by omega) ‹_›,yh (by omega) ‹_›,yh (by omega) ‹_›,yh (by omega) ‹_›,yh (by omega) ‹_›,vJ ‹_›,vJ ‹_›,Zd ‹_›,vD (by omega) ‹_›⟩)
    | (go_split_ands;with_reducible exact ⟨zj ‹_› ‹_› ‹_›,zj ‹_› ‹_› ‹_›,zj ‹_› ‹_› ‹_›,zj ‹_› ‹_› ‹_›,zj ‹_› ‹_› ‹_›,zj ‹_› ‹_› ‹_›,zG ‹_› ‹_›,zG ‹_› ‹_›,vi ‹_› ‹_›,zp ‹_› ‹_›⟩)
    | go_keep)
  (first
    | (go_at_call_of 155 (Value.slice S n1 V);refine (vU _ _ x.num.natAbs y.den _ (zz.below bc.o (zM (by go_split_ands;assumption))) (zz.below aX.o (zM (by go_split_ands;assumption))) be.o a6.o).mono ?_;rintro e w1 ⟨v1,rfl,aW,aG⟩;have I:=ze aW;clear aW;try replace G:=ze (zz.below G.o aG))
    | (go_at_call_of 155 (Value.slice A2 Y T);refine (vU _ _ y.num.natAbs x.den _ (zz.below bh.o (zM (by go_split_ands;assumption))) (zz.below a8.o (zM (by go_split_ands;assumption))) bd.o a7.o).mono ?_;rintro e w2 ⟨v2,rfl,a2,aC⟩;have G:=ze a2;clear a2;try replace I:=ze (zz.below I.o aC)))
 all_goals
  go_split_ands
  have aD:Hid (Below w.heap.size w w2):=by assumption
  have aZ:Hid (Zg w2 (w.heap.size+1+1)):=by assumption
  go_wp2_with fail
  refine (vU _ _ x.den y.den w2 (zz.below a8.o aD.o) (zz.below aX.o aD.o) a7.o a6.o).mono ?_
  rintro e b ⟨v3,rfl,a4,j⟩
  have ac:=ze a4
  have X :=ze (zz.below I.o j)
  have Z :=ze (zz.below G.o j)
  have aa:=ze (ext aD.o j)
  have ab:=vi j aZ
  have j0:b.cell? ⟨w.heap.size,0,none⟩=some (.bool L):=zj j ‹_› ‹_›
  have j1:b.cell? ⟨w.heap.size,1,none⟩=some (.slice S n1 V):=zj j ‹_› ‹_›
  have j2:b.cell? ⟨w.heap.size,2,none⟩=some (.slice B1 m1 d1):=zj j ‹_› ‹_›
  have j3:b.cell? ⟨w.heap.size+1,0,none⟩=some (.bool K):=zj j ‹_› ‹_›
  have j4:b.cell? ⟨w.heap.size+1,1,none⟩=some (.slice A2 Y T):=zj j ‹_› ‹_›
  have j5:b.cell? ⟨w.heap.size+1,2,none⟩=some (.slice B2 m2 d2):=zj j ‹_› ‹_›
  have U:w.heap.size<b.heap.size:=zG j ‹_›
  have l1:w.heap.size+1<b.heap.size:=zG j ‹_›
  clear a4 j I G aZ aD ad ai
  have I:=X
  have G:=Z
  clear X Z
  by_cases an:L=K
  . have bi:(L == K)=true:=by rw [beq_iff_eq];exact an
    have J:=ze (zjs (x:=x) (y:=y) (by rw [<- aF.o, <- aO.o];exact an));rw [<- aF.o] at J;have au:=bb;clear an;go_wp2_with fail;have ad:=ze (show Zg b.drew (w.heap.size+1+1) from ab.o);have ai:=ze (show Below w.heap.size w b.drew from zk aa.o 1)
    go_region_held3 (fun w' =>w'.cell? ⟨w.heap.size,0,none⟩=some (.bool L)/\w'.cell? ⟨w.heap.size,1,none⟩=some (.slice S n1 V)/\w'.cell? ⟨w.heap.size,2,none⟩=some (.slice B1 m1 d1)/\w'.cell? ⟨w.heap.size+1,0,none⟩=some (.bool K)/\w'.cell? ⟨w.heap.size+1,1,none⟩=some (.slice A2 Y T)/\w'.cell? ⟨w.heap.size+1,2,none⟩=some (.slice B2 m2 d2)/\w.heap.size<w'.heap.size/\w.heap.size+1<w'.heap.size/\Hid (Zg w' (w.heap.size+1+1))/\Hid (Below w.heap.size w w'))
     (first
       | with_reducible exact ⟨by go_keep,by go_keep,by go_keep,by go_keep,by go_keep,by go_keep,by assumption,by assumption,ad,ai⟩
       | (go_split_ands;with_reducible exact ⟨yh (by omega) ‹_›,yh (by omega) ‹_›,yh (by omega) ‹_›,yh (by omega) ‹_›,yh (by omega) ‹_›,yh (by omega) ‹_›,vJ ‹_›,vJ ‹_›,Zd ‹_›,vD (by omega) ‹_›⟩)
       | (go_split_ands;with_reducible exact ⟨zj ‹_› ‹_› ‹_›,zj ‹_› ‹_› ‹_›,zj ‹_› ‹_› ‹_›,zj ‹_› ‹_› ‹_›,zj ‹_› ‹_› ‹_›,zj ‹_› ‹_› ‹_›,zG ‹_› ‹_›,zG ‹_› ‹_›,vi ‹_› ‹_›,zp ‹_› ‹_›⟩)
       | go_keep)
     (first
       | (go_at_call 156;refine (zti _ _ (x.num.natAbs*y.den) (y.num.natAbs*x.den) _ (zz.below I.o (show Below b.heap.size b b.drew from zC b 1)) (zz.below G.o (show Below b.heap.size b b.drew from zC b 1)) aE.o aB.o).mono ?_;rintro e w5 ⟨v5,rfl,af,ax⟩;have ao:=ze af;have ay:=ze (zz.below ac.o (ext (show Below b.heap.size b b.drew from zC b 1) ax));clear af)
       | (go_at_call 129;refine (Yo _ _ _ (x.num.natAbs*y.den+y.num.natAbs*x.den) (x.den*y.den) _ ao.o ay.o aR.o au.o aS.o).mono ?_;rintro e wo ⟨vo,rfl,⟨C,z,u,E,F,r,D,rfl,ae,aj,ah⟩,aq⟩;obtain ⟨gr,Ar,kr,cr,Br,a1,a0,l⟩:=(vi (g:=w.heap.size+1+1) aq (by go_split_ands;assumption)).out;have r0:=l.cell 0;have r1:=l.cell 1;have r2:=l.cell 2;have f0:=l.frozen 0;have f1:=l.frozen 1;have f2:=l.frozen 2;simp at r0 r1 r2;have aw:=ze ae;have ap:=ze aj;have az:=ze ah;have Q:=ze l;clear ae aj ah l))
    all_goals
     go_split_ands;have R:=yO (ng:=C) (A:=z) (n:=u) (c:=E) (B:=F) (m:=r) (d:=D) Q.o;have aA:=yb (ng:=C) (A:=z) (n:=u) (c:=E) (B:=F) (m:=r) (d:=D) ap.o Q.o;have ar:=yb (ng:=C) (A:=z) (n:=u) (c:=E) (B:=F) (m:=r) (d:=D) az.o Q.o;have av:=zM (by assumption:Hid (Below w.heap.size w (World.ref wo (w.heap.size+1+1) C z u E F r D)));have M:=R.cell 0;have N:=R.cell 1;have O:=R.cell 2;simp only [World.ref] at M N O;simp at M N O;go_wp2;refine bodyPost_ret (v:=.agg #[.bool C,.slice z u E,.slice F r D]) (by simp [results,results102,go_sem,M,N,O]) rfl ?_;exact ⟨_,rfl,⟨_,_,_,_,_,_,_,rfl,(by rw [J.o];exact aw.o),(by rw [J.o];exact aA),(by rw [J.o];exact ar)⟩,av⟩
  have bi:(L == K)=false:=by rw [beq_eq_false_iff_ne];exact an
  have a5:=ze (show decide (x.num<0)≠decide (y.num<0) by rw [<- aF.o, <- aO.o];exact an);clear an
  by_cases ag:y.num.natAbs*x.den<=x.num.natAbs*y.den
  . have aM:0<=zO ((x.num.natAbs*y.den:Nat):Int) ((y.num.natAbs*x.den:Nat):Int):=uG (by rw [zo3,uE ag])
    have J:=ze (zow a5.o ag);have aT:=ze ag;rw [<- aF.o] at J;have au:=bf;clear ag;go_wp2_with fail;refine (Zo _ _ (x.num.natAbs*y.den) (y.num.natAbs*x.den) b I.o G.o aE.o aB.o).mono ?_;rintro e W3 ⟨rfl,n,rfl⟩;generalize zO ((x.num.natAbs*y.den:Nat):Int) ((y.num.natAbs*x.den:Nat):Int)=cv at aM |-;have j:=zC b n;have X :=ze (zz.below I.o j);have Z :=ze (zz.below G.o j);have ak :=ze (zz.below ac.o j);have am :=ze (ext aa.o j);have al :=vi j ab;have aP :=zj j U j0;have aJ :=zj j U j1;have aK :=zj j U j2;have aL :=zj j l1 j3;have aN :=zj j l1 j4;have aI :=zj j l1 j5;have aH :=zG j U;have aQ :=zG j l1;clear j I G ac aa ab j0 j1 j2 j3 j4 j5 U l1;generalize b.drewN n=b at X Z ak am al aP aJ aK aL aN aI aH aQ |-;have I:=X;have G:=Z;have ac:=ak;have aa:=am;have ab:=al;clear X Z ak am al;go_wp2_with fail;have ad:=ze (show Zg b.drew (w.heap.size+1+1) from ab.o);have ai:=ze (show Below w.heap.size w b.drew from zk aa.o 1)
    go_region_held3 (fun w' =>w'.cell? ⟨w.heap.size,0,none⟩=some (.bool L)/\w'.cell? ⟨w.heap.size,1,none⟩=some (.slice S n1 V)/\w'.cell? ⟨w.heap.size,2,none⟩=some (.slice B1 m1 d1)/\w'.cell? ⟨w.heap.size+1,0,none⟩=some (.bool K)/\w'.cell? ⟨w.heap.size+1,1,none⟩=some (.slice A2 Y T)/\w'.cell? ⟨w.heap.size+1,2,none⟩=some (.slice B2 m2 d2)/\w.heap.size<w'.heap.size/\w.heap.size+1<w'.heap.size/\Hid (Zg w' (w.heap.size+1+1))/\Hid (Below w.heap.size w w'))
     (first
       | with_reducible exact ⟨by go_keep,by go_keep,by go_keep,by go_keep,by go_keep,by go_keep,by assumption,by assumption,ad,ai⟩
       | (go_split_ands;with_reducible exact ⟨yh (by omega) ‹_›,yh (by omega) ‹_›,yh (by omega) ‹_›,yh (by omega) ‹_›,yh (by omega) ‹_›,yh (by omega) ‹_›,vJ ‹_›,vJ ‹_›,Zd ‹_›,vD (by omega) ‹_›⟩)
       | (go_split_ands;with_reducible exact ⟨zj ‹_› ‹_› ‹_›,zj ‹_› ‹_› ‹_›,zj ‹_› ‹_› ‹_›,zj ‹_› ‹_› ‹_›,zj ‹_› ‹_› ‹_›,zj ‹_› ‹_› ‹_›,zG ‹_› ‹_›,zG ‹_› ‹_›,vi ‹_› ‹_›,zp ‹_› ‹_›⟩)
       | go_keep)
     (first
       | (go_at_call 158;refine (Vs _ _ (x.num.natAbs*y.den) (y.num.natAbs*x.den) _ (zz.below I.o (show Below b.heap.size b b.drew from zC b 1)) (zz.below G.o (show Below b.heap.size b b.drew from zC b 1)) aT.o aE.o).mono ?_;rintro e w5 ⟨v5,rfl,af,ax⟩;have ao:=ze af;have ay:=ze (zz.below ac.o (ext (show Below b.heap.size b b.drew from zC b 1) ax));clear af)
       | (go_at_call 129;refine (Yo _ _ _ (x.num.natAbs*y.den - y.num.natAbs*x.den) (x.den*y.den) _ ao.o ay.o aR.o au.o aS.o).mono ?_;rintro e wo ⟨vo,rfl,⟨C,z,u,E,F,r,D,rfl,ae,aj,ah⟩,aq⟩;obtain ⟨gr,Ar,kr,cr,Br,a1,a0,l⟩:=(vi (g:=w.heap.size+1+1) aq (by go_split_ands;assumption)).out;have r0:=l.cell 0;have r1:=l.cell 1;have r2:=l.cell 2;have f0:=l.frozen 0;have f1:=l.frozen 1;have f2:=l.frozen 2;simp at r0 r1 r2;have aw:=ze ae;have ap:=ze aj;have az:=ze ah;have Q:=ze l;clear ae aj ah l))
    all_goals
     go_split_ands;have R:=yO (ng:=C) (A:=z) (n:=u) (c:=E) (B:=F) (m:=r) (d:=D) Q.o;have aA:=yb (ng:=C) (A:=z) (n:=u) (c:=E) (B:=F) (m:=r) (d:=D) ap.o Q.o;have ar:=yb (ng:=C) (A:=z) (n:=u) (c:=E) (B:=F) (m:=r) (d:=D) az.o Q.o;have av:=zM (by assumption:Hid (Below w.heap.size w (World.ref wo (w.heap.size+1+1) C z u E F r D)));have M:=R.cell 0;have N:=R.cell 1;have O:=R.cell 2;simp only [World.ref] at M N O;simp at M N O;go_wp2;refine bodyPost_ret (v:=.agg #[.bool C,.slice z u E,.slice F r D]) (by simp [results,results102,go_sem,M,N,O]) rfl ?_;exact ⟨_,rfl,⟨_,_,_,_,_,_,_,rfl,(by rw [J.o];exact aw.o),(by rw [J.o];exact aA),(by rw [J.o];exact ar)⟩,av⟩
  have aM:¬ 0<=zO ((x.num.natAbs*y.den:Nat):Int) ((y.num.natAbs*x.den:Nat):Int):=of_decide_eq_false (by rw [zo3,uF ag])
  have J:=ze (zn2 a5.o (Nat.lt_of_not_le ag));have aT:=ze (Nat.le_of_lt (Nat.lt_of_not_le ag));rw [<- aO.o] at J;have au:=bg;clear ag;go_wp2_with fail;refine (Zo _ _ (x.num.natAbs*y.den) (y.num.natAbs*x.den) b I.o G.o aE.o aB.o).mono ?_;rintro e W3 ⟨rfl,n,rfl⟩;generalize zO ((x.num.natAbs*y.den:Nat):Int) ((y.num.natAbs*x.den:Nat):Int)=cv at aM |-;have j:=zC b n;have X :=ze (zz.below I.o j);have Z :=ze (zz.below G.o j);have ak :=ze (zz.below ac.o j);have am :=ze (ext aa.o j);have al :=vi j ab;have aP :=zj j U j0;have aJ :=zj j U j1;have aK :=zj j U j2;have aL :=zj j l1 j3;have aN :=zj j l1 j4;have aI :=zj j l1 j5;have aH :=zG j U;have aQ :=zG j l1;clear j I G ac aa ab j0 j1 j2 j3 j4 j5 U l1;generalize b.drewN n=b at X Z ak am al aP aJ aK aL aN aI aH aQ |-;have I:=X;have G:=Z;have ac:=ak;have aa:=am;have ab:=al;clear X Z ak am al;go_wp2_with fail;have ad:=ze (show Zg b.drew (w.heap.size+1+1) from ab.o)
  have ai:=ze (show Below w.heap.size w b.drew from zk aa.o 1)
  go_region_held3 (fun w' =>w'.cell? ⟨w.heap.size,0,none⟩=some (.bool L)/\w'.cell? ⟨w.heap.size,1,none⟩=some (.slice S n1 V)/\w'.cell? ⟨w.heap.size,2,none⟩=some (.slice B1 m1 d1)/\w'.cell? ⟨w.heap.size+1,0,none⟩=some (.bool K)/\w'.cell? ⟨w.heap.size+1,1,none⟩=some (.slice A2 Y T)/\w'.cell? ⟨w.heap.size+1,2,none⟩=some (.slice B2 m2 d2)/\w.heap.size<w'.heap.size/\w.heap.size+1<w'.heap.size/\Hid (Zg w' (w.heap.size+1+1))/\Hid (Below w.heap.size w w'))
   (first
     | with_reducible exact ⟨by go_keep,by go_keep,by go_keep,by go_keep,by go_keep,by go_keep,by assumption,by assumption,ad,ai⟩
     | (go_split_ands;with_reducible exact ⟨yh (by omega) ‹_›,yh (by omega) ‹_›,yh (by omega) ‹_›,yh (by omega) ‹_›,yh (by omega) ‹_›,yh (by omega) ‹_›,vJ ‹_›,vJ ‹_›,Zd ‹_›,vD (by omega) ‹_›⟩)
     | (go_split_ands;with_reducible exact ⟨zj ‹_› ‹_› ‹_›,zj ‹_› ‹_› ‹_›,zj ‹_› ‹_› ‹_›,zj ‹_› ‹_› ‹_›,zj ‹_› ‹_› ‹_›,zj ‹_› ‹_› ‹_›,zG ‹_› ‹_›,zG ‹_› ‹_›,vi ‹_› ‹_›,zp ‹_› ‹_›⟩)
     | go_keep)
   (first
     | (go_at_call 158;refine (Vs _ _ (y.num.natAbs*x.den) (x.num.natAbs*y.den) _ (zz.below G.o (show Below b.heap.size b b.drew from zC b 1)) (zz.below I.o (show Below b.heap.size b b.drew from zC b 1)) aT.o aB.o).mono ?_;rintro e w5 ⟨v5,rfl,af,ax⟩;have ao:=ze af;have ay:=ze (zz.below ac.o (ext (show Below b.heap.size b b.drew from zC b 1) ax));clear af)
     | (go_at_call 129;refine (Yo _ _ _ (y.num.natAbs*x.den - x.num.natAbs*y.den) (x.den*y.den) _ ao.o ay.o aR.o au.o aS.o).mono ?_;rintro e wo ⟨vo,rfl,⟨C,z,u,E,F,r,D,rfl,ae,aj,ah⟩,aq⟩;obtain ⟨gr,Ar,kr,cr,Br,a1,a0,l⟩:=(vi (g:=w.heap.size+1+1) aq (by go_split_ands;assumption)).out;have r0:=l.cell 0;have r1:=l.cell 1;have r2:=l.cell 2;have f0:=l.frozen 0;have f1:=l.frozen 1;have f2:=l.frozen 2;simp at r0 r1 r2;have aw:=ze ae;have ap:=ze aj;have az:=ze ah;have Q:=ze l;clear ae aj ah l))
  all_goals
   go_split_ands;have R:=yO (ng:=C) (A:=z) (n:=u) (c:=E) (B:=F) (m:=r) (d:=D) Q.o;have aA:=yb (ng:=C) (A:=z) (n:=u) (c:=E) (B:=F) (m:=r) (d:=D) ap.o Q.o;have ar:=yb (ng:=C) (A:=z) (n:=u) (c:=E) (B:=F) (m:=r) (d:=D) az.o Q.o;have av:=zM (by assumption:Hid (Below w.heap.size w (World.ref wo (w.heap.size+1+1) C z u E F r D)));have M:=R.cell 0;have N:=R.cell 1;have O:=R.cell 2;simp only [World.ref] at M N O;simp at M N O;go_wp2;refine bodyPost_ret (v:=.agg #[.bool C,.slice z u E,.slice F r D]) (by simp [results,results102,go_sem,M,N,O]) rfl ?_;exact ⟨_,rfl,⟨_,_,_,_,_,_,_,rfl,(by rw [J.o];exact aw.o),(by rw [J.o];exact aA),(by rw [J.o];exact ar)⟩,av⟩
theorem Xt (va vb:Value) (x y:Rat) (w:World) (ha:vW w va x) (hb:vW w vb y) (hx:XV 8388608 x) (hy:XV 8388608 y):
 Calls prog 56 #[va,vb] w (VE w (.int .i64 (x - y).num.sign)):=by
 have R:=ze (Rat.sub_eq_add_neg x y)
 have Q:=ze ha
 have Z:=ze hb
 obtain ⟨B,l,n1,u,C,D,r,rfl,S,M,X⟩:=ha
 obtain ⟨m,E,F,z,G,j,b,rfl,T,L,K⟩:=hb
 have HX:=ze hx
 have V:=ze hy.neg
 clear M X L K hx hy S T
 have U:Hid (Below w.heap.size w (((w.alloc (.cells #[.bool B,.slice l n1 u,.slice C D r] 112)).alloc (.cells #[.bool m,.slice E F z,.slice G j b] 112)).drew)):=ze (zk (ext (zf w (.cells #[.bool B,.slice l n1 u,.slice C D r] 112)) (zf _ (.cells #[.bool m,.slice E F z,.slice G j b] 112))) 1)
 go_in
 go_wp2_with fail
 go_region_held3 (fun w' =>w'.cell? ⟨w.heap.size,0,none⟩=some (.bool B)/\w'.cell? ⟨w.heap.size,1,none⟩=some (.slice l n1 u)/\w'.cell? ⟨w.heap.size,2,none⟩=some (.slice C D r)/\w'.cell? ⟨w.heap.size+1,0,none⟩=some (.bool m)/\w'.cell? ⟨w.heap.size+1,1,none⟩=some (.slice E F z)/\w'.cell? ⟨w.heap.size+1,2,none⟩=some (.slice G j b)/\w.heap.size<w'.heap.size/\w.heap.size+1<w'.heap.size/\Hid (Below w.heap.size w w'))
  (first
    | with_reducible exact ⟨by go_keep,by go_keep,by go_keep,by go_keep,by go_keep,by go_keep,by first | (simp;done) | (simp;omega),by first | (simp;done) | (simp;omega),U⟩
    | (go_split_ands;with_reducible exact ⟨zj ‹_› ‹_› ‹_›,zj ‹_› ‹_› ‹_›,zj ‹_› ‹_› ‹_›,zj ‹_› ‹_› ‹_›,zj ‹_› ‹_› ‹_›,zj ‹_› ‹_› ‹_›,zG ‹_› ‹_›,zG ‹_› ‹_›,zp ‹_› ‹_›⟩)
    | go_keep)
  (first
    | (go_at_call 106;refine (zky _ y _ (Z.o.below (zM (by go_split_ands;assumption)))).mono ?_;rintro e w1 ⟨v1,rfl,I,L⟩;have Y:=ze I;clear I)
    | (go_at_call 102;refine (YO _ _ x (-y) _ (Q.o.below (zM (by go_split_ands;assumption))) Y.o HX.o V.o).mono ?_;rintro e w2 ⟨v2,rfl,J,K⟩;have N:=ze J;clear J)
    | (go_at_call 52;refine (YG _ (x+ -y) _ N.o).mono ?_;rintro e w3 ⟨rfl,aa⟩))
 all_goals
  go_split_ands
  have O:=zM (by assumption:Hid (Below w.heap.size w w3))
  go_wp2
  go_ret
  exact ⟨Zr (by rw [R.o]),O⟩
theorem zht (M:Nat) (q:Rat):(!decide (yG M q))=(decide (M<(dec q.num.natAbs).length) || decide (M<(dec q.den).length)):=by
 by_cases b:(dec q.num.natAbs).length<=M
 rotate_left
 . rw [uF (fun h:yG M q=>b h.1),uE (show M<(dec q.num.natAbs).length by omega)];rfl
 by_cases e:(dec q.den).length<=M
 . rw [uE (show yG M q from ⟨b,e⟩),uF (by omega),uF (by omega)];rfl
 rw [uF (fun h:yG M q=>e h.2),uE (show M<(dec q.den).length by omega),Bool.or_true];rfl
theorem zt0 (va:Value) (q:Rat) (M:Nat) (w:World) (ha:vW w va q) (hl:XV 33554432 q) (hM:M<=50000):
 Calls prog 153 #[va,.int .i64 (M:Int)] w (VE w (.bool (!decide (yG M q)))):=by
 obtain ⟨ng,A,c,B,d,rfl,I,C,G⟩:=ha.form
 have b:=ze (zf w (.cells #[.bool ng,.slice A (len 1000000000 q.num.natAbs) c,.slice B (len 1000000000 q.den) d] 112))
 have l:=ze (zz.below C b.o)
 have y:=ze (zz.below G b.o)
 have z:=ze hl.1
 have D:=ze hl.2
 have j:=ze (zht M q)
 generalize len 1000000000 q.num.natAbs=n at l b y |-
 generalize len 1000000000 q.den=m at l b y |-
 clear ha C G I hl
 by_cases F:M<(dec q.num.natAbs).length
 . have r :=ze (show (!decide (yG M q))=true by rw [j.o,uE F];rfl)
   clear j
   go_in
   go_wp2_with fail;refine (xH _ q.num.natAbs _ l.o z.o).mono ?_;rintro e u ⟨rfl,rfl⟩;go_wp2;go_ret;exact ⟨ya r.o,b.o⟩
 by_cases E:M<(dec q.den).length
 . have r :=ze (show (!decide (yG M q))=true by rw [j.o,uE E,Bool.or_true])
   clear j
   go_in
   go_wp2_with fail;refine (xH _ q.num.natAbs _ l.o z.o).mono ?_;rintro e u ⟨rfl,rfl⟩;go_wp2_with fail;refine (xH _ q.den _ y.o D.o).mono ?_;rintro e u ⟨rfl,rfl⟩;go_wp2;go_ret;exact ⟨ya r.o,b.o⟩
 have r :=ze (show (!decide (yG M q))=false by rw [j.o,uF F,uF E];rfl)
 clear j
 go_in
 go_wp2_with fail;refine (xH _ q.num.natAbs _ l.o z.o).mono ?_;rintro e u ⟨rfl,rfl⟩;go_wp2_with fail;refine (xH _ q.den _ y.o D.o).mono ?_;rintro e u ⟨rfl,rfl⟩;go_wp2;go_ret;exact ⟨ya r.o,b.o⟩
theorem zsa {l:List UInt8} {q:Rat} (h:zl l=some q):XV 50000 q:=by
 have:=(yN.1 h).2
 exact ⟨uC (ZD (by omega)) this.1,uC (ZD (by omega)) this.2⟩
theorem zs7 (s:ByteArray) (w:World) (hs:s.size<=1073741824):
 Calls prog 124 #[.string s] w (zba w (.bool (vf (bts s)))):=by
 by_cases l:s.size=0
 . have Y:=zgj l
   have b:=ze (show vf (bts s)=false by unfold vf;rw [zm,l];rfl);clear l
   go_in
   go_wp2;go_ret;exact ⟨ya b.o,rfl⟩
 have C:0<s.size:=by omega
 have S:=XP C;clear l
 by_cases U:16<s.size
 . have b:=ze (show vf (bts s)=false by unfold vf;rw [zm,uF (show ¬ s.size<=16 by omega)];simp)
   go_in
   go_wp2;go_ret;exact ⟨ya b.o,rfl⟩
 cases hl:zh0 s[0] with
 | false=>
   have b:=ze (zl9 C hl)
   have B:s[0].toNat<97\/122<s[0].toNat:=by
    have:¬ (97<=s[0].toNat/\s[0].toNat<=122):=by intro h;rw [Xl.2 h] at hl;cases hl
    omega
   rcases B with B | B
   . clear hl
     go_in
     go_wp2;go_ret;exact ⟨ya b.o,rfl⟩
   . have F:¬ s[0].toNat<97:=by omega
     clear hl
     go_in
     go_wp2;go_ret;exact ⟨ya b.o,rfl⟩
 | true=>
   obtain ⟨R,F⟩:=Xl.1 hl;have L:¬ s[0].toNat<97:=by omega
   have I:¬ 122<s[0].toNat:=by omega
   have N:=ze hl;have M:=ze (show s.size<=16 by omega);clear hl R F
   go_in
   go_wp2_with fail
   go_loop [3] (fun iv=>∃ k:Nat,k<=s.size/\iv= .int .i64 k/\Hid (∀ j (h:j<s.size),j<k->yQ s[j]=true)) (fun iv=>s.size - (intOf iv).toNat)
   case atStart=>exact ⟨0,uB,rfl,fun j _ h=>by omega⟩
   case round=>
    obtain ⟨k,T,rfl,G⟩:=hrel;clear L I
    by_cases J:k<s.size
    rotate_left
    . obtain rfl:k=s.size:=by omega
      have b:=ze (zl4 C M.o N.o (fun j u=>G.o j u u));go_wp2;go_ret;exact ⟨ya b.o,rfl⟩
    cases hd:yQ s[k] with
    | true=>
      have Q:=ze hd
      have E:∀ j (h:j<s.size),j<k+1->yQ s[j]=true:=by
       intro j u X
       rcases uL j k with r | r
       . exact G.o j u r
       . obtain rfl:j=k:=by omega
         exact Q.o
      have y:=ze E;clear E
      rcases zcf hd with ⟨e,D⟩ | ⟨e,D,r⟩ | e
      . clear hd
        go_wp2;go_round
        case rel=>exact ⟨k+1,by omega,by go_num,y.o⟩
        case measure=>simp [intOf];omega
      . have m:¬ 97<=s[k].toNat:=by omega
        clear hd r;go_wp2;go_round
        case rel=>exact ⟨k+1,by omega,by go_num,y.o⟩
        case measure=>simp [intOf];omega
      . have m:¬ 97<=s[k].toNat:=by omega
        have z:¬ 48<=s[k].toNat:=by omega
        have O:((s[k].toNat:Int) != 45)=false:=by rw [e];rfl
        clear hd;clear e;go_wp2;go_round
        case rel=>exact ⟨k+1,by omega,by go_num,y.o⟩
        case measure=>simp [intOf];omega
    | false=>
      have b:=ze (zmd J hd)
      have O:((s[k].toNat:Int) != 45)=true:=by
       rw [bne_iff_ne];have:=YP hd
       omega
      rcases YP hd with ⟨e,_⟩ | ⟨e,D⟩ | e
      . have m:¬ 97<=s[k].toNat:=by omega
        have z:¬ 48<=s[k].toNat:=by omega
        clear hd;go_wp2;go_ret;exact ⟨ya b.o,rfl⟩
      . have m:¬ 97<=s[k].toNat:=by omega
        have z:48<=s[k].toNat:=by omega
        have K:decide ((s[k].toNat:Int)<=57)=false:=by rw [decide_eq_false_iff_not];omega
        clear hd;go_wp2;go_ret;exact ⟨ya b.o,rfl⟩
      . have m:97<=s[k].toNat:=by omega
        have z:48<=s[k].toNat:=by omega
        have K:decide ((s[k].toNat:Int)<=57)=false:=by rw [decide_eq_false_iff_not];omega
        have V:decide ((s[k].toNat:Int)<=122)=false:=by rw [decide_eq_false_iff_not];omega
        clear hd;go_wp2;go_ret;exact ⟨ya b.o,rfl⟩
theorem zgu (s:ByteArray) (w:World) (hs:s.size<=1073741824):Calls prog 125 #[.string s] w (VE w (.bool (zl (bts s)).isSome)):=by
 have j:=fun w=>Xf s w hs
 obtain ⟨r,m⟩:∃ r,Hid ((zl (bts s)).isSome=r):=⟨_,ze rfl⟩
 rw [m.o]
 go_in
 go_wp2_with fail
 refine (j _).mono ?_
 rintro e y ⟨v,b,rfl,⟨ng,X,n1,C,Y,D,u,rfl⟩,hb,z,l⟩
 have B:=ze (hb.trans m.o)
 have E:=ze (ext l (zf y (.cells #[.bool ng,.slice X n1 C,.slice Y D u] 112)))
 clear hb z l j
 go_wp2
 go_ret
 exact ⟨ya B.o.symm,E.o⟩
def zzj (u:Nat) (w:World) (uv ov:Value) (wr:World):Prop:=
 ∃ (r:Nat) (O:List Nat),uv= .int .u64 r/\Hid (r<=u/\val 1000000000 O+r*1000000000 ^ O.length=u)/\Hid (zF 1000000000 O)/\Hid (r=0->yZ 1000000000 O)/\Hid (wr.ownsRow w.heap.size 3 1 ov O.length (ZL O))/\Hid (Below w.heap.size w wr)
theorem zzj.step {u r:Nat} {O:List Nat} (h:val 1000000000 O+r*1000000000 ^ O.length=u):val 1000000000 (O ++ [r % 1000000000])+r / 1000000000*1000000000 ^ (O ++ [r % 1000000000]).length=u:=by
 rw [ZK,List.length_append,List.length_singleton,Nat.pow_succ, <- h]
 have b:=Nat.div_add_mod r 1000000000
 generalize 1000000000 ^ O.length=X
 have e:r*X=(1000000000*(r / 1000000000)+r % 1000000000)*X:=by rw [b]
 rw [e,Nat.add_mul,uH X 1000000000, <- Nat.mul_assoc,uH (r / 1000000000) 1000000000,uH X (r % 1000000000)]
 omega
theorem zqz {u r:Nat} {O:List Nat} (h:val 1000000000 O+r*1000000000 ^ O.length=u) (hu:u<18446744073709551616) (hr:0<r):O.length<=2:=by
 apply Classical.byContradiction
 intro j
 have b:1000000000 ^ 3<=1000000000 ^ O.length:=Nat.pow_le_pow_right (by omega) (by omega)
 have e:=Nat.mul_le_mul hr b
 omega
theorem zq7 (u:Nat) (w:World) (hu:u<18446744073709551616):Calls prog 154 #[.int .u64 (u:Int)] w (zge w u):=by
 obtain ⟨S,Y,I,M,T⟩:=info_parts zfz
 have E:=ze hu
 clear hu
 go_in
 go_wp2
 go_loopw [0,3] (zzj u w) (fun uv _ _=>(intOf uv).toNat)
 case atStart=>exact ⟨u,[],rfl,⟨uA,by simp [val]⟩,zF.nil _,fun _=>yZ.nil _,World.ownsRow_nil _ _ _ _,yR _⟩
 case round=>
  obtain ⟨r,O,rfl,j,D,Q,l,e⟩:=hrel
  have aa:r<18446744073709551616:=Nat.lt_of_le_of_lt j.o.1 E.o
  by_cases J:0<r
  rotate_left
  . obtain rfl:r=0:=by omega
    obtain ⟨A,c,rfl,G,U,z⟩:=za3 l.o;have R:=ze z;have b:=j.o.2;rw [Nat.zero_mul,Nat.add_zero] at b;have V:=ze b;have X:=ze (Q.o rfl);clear z b;go_wp2;go_ret;exact ⟨_,rfl,⟨A,c,O,rfl,G,U,R.o,X.o,V.o⟩,e.o⟩
  have Z:=zqz j.o.2 E.o J
  have B:(r % 1000000000:Nat)<1000000000:=Nat.mod_lt _ (by omega);have F:=xF wr 3 (.int .i64 ((r:Int) % 1000000000))
  have C:∀ v∈[Value.int .i64 ((r:Int) % 1000000000)],v.oneCell' =true:=by
   intro v b;rw [uM] at b;subst b;rfl
  have ab:(0:Int)<(r:Int):=by omega
  go_wp2_with (at_builtin;refine ym _ rfl (.tmp 6) (.tmp 10) _ rfl w.heap.size 3 S _ 1 8 underlying110 Y I M T rfl (by omega) _ O.length (ZL O) rfl (l.o.alloc _) _ (some ⟨wr.heap.size,0,none⟩) 1 1 _ rfl F C ?o2 ?o3 ?o4 ?_)
  case o2=>unfold maxLen;omega
  case o3=>omega
  case o4=>have:=e.o.size;simp;omega
  intro v3 w3 y m K;have N:=ze y;have L:Hid (Below w.heap.size w w3):=ze ((e.o.alloc e.o.size _).grown m (by have:=e.o.size;simp;omega) (fun k hk=>(l.o.lt k hk).1));clear y m K F C;go_wp2;go_roundw
  case rel=>
   refine ⟨r / 1000000000,O ++ [r % 1000000000],by go_num,⟨uC (Nat.div_le_self _ _) j.o.1,zzj.step j.o.2⟩,D.o.append (zF.cons B (zF.nil _)),fun h=>?_,?_,L.o⟩
   rotate_left
   . rw [List.length_append,VN]
     exact N.o
   refine yZ.mk_ (D.o.append (zF.cons B (zF.nil _))) fun _=>?_
   simp
   omega
  case measure=>simp [intOf];omega
theorem zoi (u:Nat) (w:World) (hu:u<9223372036854775808):Calls prog 101 #[.int .i64 (u:Int)] w (Vt w (u:Rat)):=by
 have J:=fun w=>zq7 u w (by omega)
 have G:=zf w (.cells #[.bool false,.slice none 0 0,.slice none 0 0] 112)
 have F:=ze (Blk.new w 112 #[.bool false,.slice none 0 0,.slice none 0 0])
 have R:=ze G
 clear G
 go_in
 go_wp2_with fail
 refine (J _).mono ?_
 rintro e j ⟨v,rfl,D,E⟩
 have l:=zf j (.cells #[.int .i64 1] 3)
 have I:=zeg j (d:=1) (by omega) (by omega)
 have L:=ze (zz.below D l)
 have O:=ze I
 have b:=ze (F.o.below (ext E l) F.o.lt)
 have Q:=ze (ext R.o (ext E l))
 obtain ⟨A,n,c,rfl⟩:∃ A n c,v= .slice A n c:=by obtain ⟨A,c,ds,rfl,_⟩:=D;exact ⟨_,_,_,rfl⟩
 have r0:=b.o.cell 0;have M:=b.o.cell 1;have S:=b.o.cell 2;obtain ⟨U,V,X⟩:=fq3 b;have Y:=b.o.lt;simp at r0 M S;clear E I D l J
 go_wp2_with fail
 have z:=yO (ng:=false) (A:=A) (n:=n) (c:=c) (B:=some ⟨j.heap.size,0,none⟩) (m:=1) (d:=1) b.o
 have N:=yb (ng:=false) (A:=A) (n:=n) (c:=c) (B:=some ⟨j.heap.size,0,none⟩) (m:=1) (d:=1) L.o b.o
 have T:=yb (ng:=false) (A:=A) (n:=n) (c:=c) (B:=some ⟨j.heap.size,0,none⟩) (m:=1) (d:=1) O.o b.o
 have r:=z.cell 0;have C:=z.cell 1;have y:=z.cell 2
 simp only [World.ref] at r C y
 simp at r C y
 refine bodyPost_ret (v:=.agg #[.bool false,.slice A n c,.slice (some ⟨j.heap.size,0,none⟩) 1 1]) (by simp [results,results101,go_sem,r,C,y]) rfl ?_
 have K:((u:Rat)).num=(u:Int):=rfl
 exact ⟨_,rfl,⟨_,_,_,_,_,_,_,rfl,(uF (by rw [K];omega)).symm,by rw [K];exact N,T⟩,yy (w:=w) (g:=w.heap.size) Q.o (uA)⟩
theorem vW.stored {W:World} {g:Nat} {v:Value} {q:Rat} {t' :TypeId} {ng n0:Bool} {A B A0 B0:Option Addr} {n c m d k0 c0 k1 c1:Nat} (h:vW W v q)
 (hk:Blk W g t' #[.bool n0,.slice A0 k0 c0,.slice B0 k1 c1]):vW (World.ref W g ng A n c B m d) v q:=by
 obtain ⟨l,D,u,y,r,C,z,rfl,j,e,b⟩:=h
 exact ⟨_,_,_,_,_,_,_,rfl,j,yb e hk,yb b hk⟩
theorem Dz.nlen {e:Nat} {q:Rat} (h:Dz e q):XV (e+1) q:=
 have b:=Dz.short h (Nat.lt_succ_self e)
 ⟨uC (ZD (by omega)) b.1,uC (ZD (by omega)) b.2⟩
theorem zen (x y:Rat):(x - y).num.sign=XX x y:=by
 have l:∀ q:Rat,q<0↔q.num<0:=fun q=>⟨fun h=>by by_cases b:0<=q.num;exact absurd (Rat.num_nonneg.1 b) (Rat.not_le.2 h);omega,fun h=>Rat.not_le.1 (fun b=>by have:=Rat.num_nonneg.2 b;omega)⟩
 unfold XX
 by_cases j:x<y
 . rw [if_pos j];exact Int.sign_eq_neg_one_of_neg ((l _).1 (by grind))
 by_cases b:y<x
 rotate_left
 . rw [if_neg j,if_neg b]
   have:x - y=0:=by grind
   rw [this];rfl
 rw [if_neg j,if_pos b]
 have:0<(x - y).num:=by
  have r:¬ (x - y).num<0:=fun e=>absurd ((l _).2 e) (by grind)
  have m:(x - y).num≠0:=fun e=>absurd (Rat.num_eq_zero.1 e) (by grind)
  omega
 exact Int.sign_eq_one_of_pos this
end Go.Proofs.YtnjljgidphemdaaGreatDoor
