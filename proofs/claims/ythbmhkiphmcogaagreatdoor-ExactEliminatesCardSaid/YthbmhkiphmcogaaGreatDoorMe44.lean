/- Parts of the proof. -/
import Derived.Test.YthbmhkiphmcogaaGreatDoorMe30
import Derived.Test.YthbmhkiphmcogaaGreatDoorMe32
import Derived.Test.YthbmhkiphmcogaaGreatDoorMe33
import Derived.Test.YthbmhkiphmcogaaGreatDoorMe43
set_option linter.all false
namespace Go.Proofs.YthbmhkiphmcogaaGreatDoor
open Proofs.Tryz Go.RowKit
theorem VB {x:Rat} (h:x≠0):(1:Rat) / x≠0:=fun e=>by
 have b:(1:Rat) / x*x=1:=Rat.div_mul_cancel h
 rw [e,Rat.zero_mul] at b
 exact absurd b (by decide)
section
variable {p q:zQ} {s:List UInt8}
theorem zw9:xi p q s 0=1 / xU p.terms s:=by unfold xi;rw [if_pos rfl]
theorem zwm:xi p q s 1=1 / -(xU q.terms s):=by unfold xi;rw [if_neg (by decide)]
structure ZA (p q:zQ) (s:List UInt8):Prop where
 gp:VR p
 gq:VR q
 x0:0<xU p.terms s
 y0:xU q.terms s<0
theorem ZA.xn (h:ZA p q s):xU p.terms s≠0:=fun e=>by have:=h.x0;rw [e] at this;exact Rat.lt_irrefl this
theorem ZA.yn (h:ZA p q s): -(xU q.terms s)≠0:=fun e=>by
 have b:xU q.terms s=0:=by have:=congrArg (fun z:Rat=> -z) e;simpa using this
 have:=h.y0
 rw [b] at this
 exact Rat.lt_irrefl this
theorem ZA.w0 (h:ZA p q s):xi p q s 0≠0:=by rw [zw9];exact VB h.xn
theorem ZA.w1 (h:ZA p q s):xi p q s 1≠0:=by rw [zwm];exact VB h.yn
theorem ZA.d0 (h:ZA p q s):Dz 24 (xi p q s 0):=by rw [zw9];exact ztb (Dz.one 12) (vN h.gp s) h.xn
theorem ZA.d1 (h:ZA p q s):Dz 24 (xi p q s 1):=by rw [zwm];exact ztb (Dz.one 12) (Sz.neg (vN h.gq s)) h.yn
theorem ZA.f1 (h:ZA p q s):VV [p,q] (xi p q s) 1=V6 (xi p q s 0) noF p.terms:=by
 show (if xi p q s 0=0 then noF else V6 (xi p q s 0) noF ([p,q].getD 0 default).terms)=_
 rw [if_neg h.w0];rfl
theorem ZA.f2 (h:ZA p q s):VV [p,q] (xi p q s) 2=V6 (xi p q s 1) (V6 (xi p q s 0) noF p.terms) q.terms:=by
 show (if xi p q s 1=0 then VV [p,q] (xi p q s) 1 else V6 (xi p q s 1) (VV [p,q] (xi p q s) 1) ([p,q].getD 1 default).terms)=_
 rw [if_neg h.w1,h.f1];rfl
theorem ZA.b1 (h:ZA p q s):Xh [p,q] (xi p q s) 1=0+VT p*xi p q s 0:=by
 show (if xi p q s 0=0 then (0:Rat) else 0+VT ([p,q].getD 0 default)*xi p q s 0)=_
 rw [if_neg h.w0];rfl
theorem ZA.b2 (h:ZA p q s):Xh [p,q] (xi p q s) 2=0+VT p*xi p q s 0+VT q*xi p q s 1:=by
 show (if xi p q s 1=0 then Xh [p,q] (xi p q s) 1 else Xh [p,q] (xi p q s) 1+VT ([p,q].getD 1 default)*xi p q s 1)=_
 rw [if_neg h.w1,h.b1];rfl
theorem ZA.c1 (h:ZA p q s) (x:List UInt8):Vr [p,q] (xi p q s) x 1=0+xU p.terms x*xi p q s 0:=by
 show (if xi p q s 0=0 then (0:Rat) else 0+xU ([p,q].getD 0 default).terms x*xi p q s 0)=_
 rw [if_neg h.w0];rfl
theorem ZA.c2 (h:ZA p q s) (x:List UInt8):Vr [p,q] (xi p q s) x 2=0+xU p.terms x*xi p q s 0+xU q.terms x*xi p q s 1:=by
 show (if xi p q s 1=0 then Vr [p,q] (xi p q s) x 1 else Vr [p,q] (xi p q s) x 1+xU ([p,q].getD 1 default).terms x*xi p q s 1)=_
 rw [if_neg h.w1,h.c1];rfl
theorem ZA.n2 (h:ZA p q s):Y9 [p,q] (xi p q s) 2=(p.terms ++ q.terms).map (·.name):=by
 show (if xi p q s 1=0 then (if xi p q s 0=0 then [] else [] ++ ([p,q].getD 0 default).terms.map (·.name)) else (if xi p q s 0=0 then [] else [] ++ ([p,q].getD 0 default).terms.map (·.name)) ++ ([p,q].getD 1 default).terms.map (·.name))=_
 rw [if_neg h.w1,if_neg h.w0,List.map_append];rfl
theorem ZA.at_ (h:ZA p q s) (x:List UInt8):(VV [p,q] (xi p q s) 2 x).getD 0=Vr [p,q] (xi p q s) x 2/\((VV [p,q] (xi p q s) 2 x).isSome=true↔x∈(p.terms ++ q.terms).map (·.name)):=by
 have b:=zbm (wt:=xi p q s 0) (s:=x) (F:=noF) h.gp.name
 have e:=zbm (wt:=xi p q s 1) (s:=x) (F:=V6 (xi p q s 0) noF p.terms) h.gq.name
 rw [h.f2,h.c2]
 refine ⟨?_,?_⟩
 . rw [e.1,b.1];rfl
 rw [e.2,b.2,List.map_append,List.mem_append]
 simp [noF]
theorem ZA.met_some (h:ZA p q s) (x:List UInt8):((zba p q s x).isSome=true↔x∈(p.terms ++ q.terms).map (·.name)/\Vr [p,q] (xi p q s) x 2≠0)/\((zba p q s x).isSome=true->zba p q s x=some (Vr [p,q] (xi p q s) x 2)):=by
 obtain ⟨j,b⟩:=h.at_ x
 unfold zba nzF
 cases hf:VV [p,q] (xi p q s) 2 x with
 | none=>
   rw [hf] at b;have m:¬ x∈(p.terms ++ q.terms).map (·.name):=fun hm=>absurd (b.2 hm) (by simp)
   rw [ite_self];exact ⟨⟨fun h=>(by cases h),fun hh=>absurd hh.1 m⟩,fun h=>(by cases h)⟩
 | some c=>
   rw [hf] at j b;have j:c=Vr [p,q] (xi p q s) x 2:=j;subst j
   by_cases l:Vr [p,q] (xi p q s) x 2=0
   . rw [l]
     simp
   rw [if_neg (fun e=>l (by injection e))]
   simp only [Option.isSome_some,true_iff] at b
   simp [l]
   simpa using b
theorem ZA.list (h:ZA p q s):zgp p q s=(zd0 p q s).filter (fun x=>decide (Vr [p,q] (xi p q s) x 2≠0)):=by
 unfold zgp zd0
 rw [h.n2]
 refine List.filter_congr (fun x hx=>?_)
 have e:x∈(p.terms ++ q.terms).map (·.name):=((vp _).2 x).1 hx
 have b:=(h.met_some x).1
 cases hs:(zba p q s x).isSome with
 | true=>exact (decide_eq_true (b.1 hs).2).symm
 | false=>
   refine (decide_eq_false (fun hc=>?_)).symm;rw [b.2 ⟨e,hc⟩] at hs
   cases hs
theorem ZA.row (h:ZA p q s):zht p q s=xz p q s:=by
 unfold zht xz
 have e:yB (zgp p q s) (zba p q s)=yy [p,q] (xi p q s) (zd0 p q s):=by
  unfold yB yy
  show _=((zd0 p q s).filter fun x=>decide (Vr [p,q] (xi p q s) x 2≠0)).map _
  rw [<- h.list]
  refine List.map_congr_left (fun x hx=>?_)
  have b:(zba p q s x).isSome=true:=(List.mem_filter.1 hx).2
  rw [(h.met_some x).2 b]
  rfl
 rw [e]
 rfl
theorem ZA.keys (h:ZA p q s) (l:List (List UInt8)) (hl:zk5 l (zba p q s)):l=zgp p q s:=by
 refine XD _ _ hl.1 ?_ (fun x=>?_)
 . unfold zgp
   exact (vp _).1.sublist List.filter_sublist
 rw [hl.2 x]
 unfold zgp;rw [List.mem_filter,(vp _).2 x];exact ⟨fun hs=>⟨((h.met_some x).1.1 hs).1,hs⟩,fun hs=>hs.2⟩
end
section
variable {p q:zQ} {s:List UInt8}
theorem ZA.pw0 (h:ZA p q s) {z:Rat} (hz:Dz 12 z):Dz 36 (z*xi p q s 0):=Dz.mul hz h.d0 (by omega)
theorem ZA.pw1 (h:ZA p q s) {z:Rat} (hz:Dz 12 z):Dz 36 (z*xi p q s 1):=Dz.mul hz h.d1 (by omega)
theorem ZA.s1 (h:ZA p q s) {z:Rat} (hz:Dz 12 z):Dz 50 (0+z*xi p q s 0):=Dz.add (Dz.zero 12) (h.pw0 hz) (by omega)
theorem ZA.s2 (h:ZA p q s) {z y:Rat} (hz:Dz 12 z) (hy:Dz 12 y):Dz 100 (0+z*xi p q s 0+y*xi p q s 1):=Dz.add (h.s1 hz) (h.pw1 hy) (by omega)
theorem XF (i:Nat) (hi:i<2):(i=0/\[p,q].getD i default=p)\/(i=1/\[p,q].getD i default=q):=by
 match i,hi with
 | 0,_=>exact .inl ⟨rfl,rfl⟩
 | 1,_=>exact .inr ⟨rfl,rfl⟩
 | n+2,h=>omega
theorem ZA.join (h:ZA p q s) (hsp:zN p.bound) (hsq:zN q.bound) (hlp:p.terms.length<=1000) (hlq:q.terms.length<=1000):zo0 [p,q] (xi p q s) where
 few:=by simp
 coefs:=fun i hi=>by
  rcases XF (p:=p) (q:=q) i hi with ⟨rfl,e⟩ | ⟨rfl,e⟩<;>rw [e]
  . intro t j;obtain ⟨q,b,_⟩:=h.gp.coef t j;rw [b];rfl
  . intro t j;obtain ⟨q,b,_⟩:=h.gq.coef t j;rw [b];rfl
 bnd:=fun i hi=>by
  rcases XF (p:=p) (q:=q) i hi with ⟨rfl,e⟩ | ⟨rfl,e⟩<;>rw [e]
  . exact (yQ h.gp).1
  . exact (yQ h.gq).1
 small:=fun i hi=>by
  rcases XF (p:=p) (q:=q) i hi with ⟨rfl,e⟩ | ⟨rfl,e⟩<;>rw [e]
  . exact hsp
  . exact hsq
 bl:=fun i hi=>by
  rcases XF (p:=p) (q:=q) i hi with ⟨rfl,e⟩ | ⟨rfl,e⟩<;>rw [e]
  . exact ⟨nl (yQ h.gp).2.sz (by omega),nl (h.pw0 (yQ h.gp).2.sz) (by omega)⟩
  . exact ⟨nl (yQ h.gq).2.sz (by omega),nl (h.pw1 (yQ h.gq).2.sz) (by omega)⟩
 wl:=fun i hi=>by
  rcases XF (p:=p) (q:=q) i hi with ⟨rfl,e⟩ | ⟨rfl,e⟩
  . exact nl h.d0 (by omega)
  . exact nl h.d1 (by omega)
 bs:=fun i hi=>by
  match i,hi with
  | 0,_=>exact nl (Dz.zero 12) (by omega)
  | 1,_=>rw [h.b1];exact nl (h.s1 (yQ h.gp).2.sz) (by omega)
  | 2,_=>rw [h.b2];exact nl (h.s2 (yQ h.gp).2.sz (yQ h.gq).2.sz) (by omega)
  | n+3,hi=>simp at hi
 cl:=fun i x hi=>by
  rcases XF (p:=p) (q:=q) i hi with ⟨rfl,e⟩ | ⟨rfl,e⟩<;>rw [e]
  . exact ⟨nl (vN h.gp x) (by omega),nl (h.pw0 (vN h.gp x)) (by omega)⟩
  . exact ⟨nl (vN h.gq x) (by omega),nl (h.pw1 (vN h.gq x)) (by omega)⟩
 cs:=fun i x hi=>by
  match i,hi with
  | 0,_=>exact nl (Dz.zero 12) (by omega)
  | 1,_=>rw [h.c1];exact nl (h.s1 (vN h.gp x)) (by omega)
  | 2,_=>rw [h.c2];exact nl (h.s2 (vN h.gp x) (vN h.gq x)) (by omega)
  | n+3,hi=>simp at hi
 cnt:=fun i hi=>by
  match i,hi with
  | 0,_=>
    show 0+p.terms.length<=100000
    omega
  | 1,_=>
    show (if xi p q s 0=0 then [] else [] ++ ([p,q].getD 0 default).terms.map (·.name)).length+q.terms.length<=100000
    rw [if_neg h.w0]
    simp
    omega
  | n+2,h=>simp at h;omega
 out:=fun x=>by
  show zN (zw (Vr [p,q] (xi p q s) x 2))
  rw [h.c2]
  exact Vt (h.s2 (vN h.gp x) (vN h.gq x)) (by omega)
theorem ZA.met (h:ZA p q s) (hsp:zN p.bound) (hsq:zN q.bound) (hnm:∀ r,r=p\/r=q->∀ t∈r.terms,zN t.name) (hlp:p.terms.length<=1000) (hlq:q.terms.length<=1000):zu7 p q s where
 cp:=fun t m=>by obtain ⟨q,b,_⟩:=h.gp.coef t m;rw [b];rfl
 cq:=fun t m=>by obtain ⟨q,b,_⟩:=h.gq.coef t m;rw [b];rfl
 x0:=h.xn
 y0:=h.yn
 xl:=rl (vN h.gp s) (by omega)
 yl:=rl (Sz.neg (vN h.gq s)) (by omega)
 ol:=rl (Dz.one 12) (by omega)
 sums:=by
  refine ⟨fun i hi hw=>?_,by simp⟩
  rcases XF (p:=p) (q:=q) i hi with ⟨rfl,e⟩ | ⟨rfl,e⟩<;>rw [e]
  . refine ⟨fun t m=>?_,rl h.d0 (by omega),fun k hk x=>?_,⟨VT p,(yQ h.gp).1,rl (yQ h.gp).2.sz (by omega),rl (h.pw0 (yQ h.gp).2.sz) (by omega)⟩,hsp,rl (Dz.zero 12) (by omega)⟩
    . obtain ⟨c,b,_,j⟩:=h.gp.coef t m
      exact ⟨c,b,rl j.sz (by omega),rl (h.pw0 j.sz) (by omega)⟩
    have b:=zbm (wt:=xi p q s 0) (s:=x) (l:=p.terms.take k) (F:=noF) (h.gp.name.sublist ((List.take_sublist k p.terms).map _))
    show Z9 8388608 ((V6 (xi p q s 0) noF (p.terms.take k) x).getD 0)
    rw [b.1];exact rl (h.s1 (zhp h.gp k x)) (by omega)
  . refine ⟨fun t m=>?_,rl h.d1 (by omega),fun k hk x=>?_,⟨VT q,(yQ h.gq).1,rl (yQ h.gq).2.sz (by omega),rl (h.pw1 (yQ h.gq).2.sz) (by omega)⟩,hsq,by rw [h.b1];exact rl (h.s1 (yQ h.gp).2.sz) (by omega)⟩
    . obtain ⟨c,b,_,j⟩:=h.gq.coef t m
      exact ⟨c,b,rl j.sz (by omega),rl (h.pw1 j.sz) (by omega)⟩
    rw [h.f1]
    have b:=zbm (wt:=xi p q s 1) (s:=x) (l:=q.terms.take k) (F:=V6 (xi p q s 0) noF p.terms) (h.gq.name.sublist ((List.take_sublist k q.terms).map _));have u:=zbm (wt:=xi p q s 0) (s:=x) (l:=p.terms) (F:=noF) h.gp.name;rw [b.1,u.1];exact rl (h.s2 (vN h.gp x) (zhp h.gq k x)) (by omega)
 sp:=hsp
 sq:=hsq
 keys:=⟨(p.terms ++ q.terms).map (·.name),fun x hx=>((h.met_some x).1.1 hx).1,by simp;omega,fun x hx=>by
  obtain ⟨t,m,rfl⟩:=List.mem_map.1 hx
  rcases List.mem_append.1 m with b | b
  . exact hnm p (.inl rfl) t b
  . exact hnm q (.inr rfl) t b⟩
 outs:=fun x r hr=>by
  have y:(zba p q s x).isSome=true:=by unfold zba;rw [hr];rfl
  have u:=(h.met_some x).2 y
  unfold zba at u
  rw [hr] at u
  injection u with u
  rw [u,h.c2]
  have j:=h.s2 (vN h.gp x) (vN h.gq x)
  exact ⟨(Z9.of_dz j).more (by omega),Vt j (by omega)⟩
 outb:=by
  rw [h.b2]
  have j:=h.s2 (yQ h.gp).2.sz (yQ h.gq).2.sz
  exact ⟨(Z9.of_dz j).more (by omega),Vt j (by omega)⟩
end
section
variable {rows:List zQ} {s:List UInt8} {p q:zQ}
theorem zam {p:zQ} (h:p∈upQ s rows):p∈rows/\0<xU p.terms s:=by
 have:=List.mem_filter.1 h
 exact ⟨this.1,by simpa using this.2⟩
theorem zae {p:zQ} (h:p∈dnQ s rows):p∈rows/\xU p.terms s<0:=by
 have:=List.mem_filter.1 h
 exact ⟨this.1,by simpa using this.2⟩
theorem YQ (h0:yA rows=0) {p q:zQ} (hp:p∈upQ s rows) (hq:q∈dnQ s rows):ZA p q s:=
 ⟨(Zx h0).2 p (zam hp).1,(Zx h0).2 q (zae hq).1,(zam hp).2,(zae hq).2⟩
theorem zj7 (hs:xK rows) (h0:yA rows=0):zs6 rows s where
 coef:=fun r hr t ht=>by obtain ⟨q,e,_⟩:=((Zx h0).2 r hr).coef t ht;rw [e];rfl
 met:=fun p hp q hq=>by
  have b:=hs.each
  refine (YQ h0 hp hq).met (b.2 p (zam hp).1).2.1 (b.2 q (zae hq).1).2.1 (fun r hr t ht=>?_) (YP hs (zam hp).1) (YP hs (zae hq).1)
  rcases hr with rfl | rfl
  . exact ((b.2 _ (zam hp).1).2.2 t ht).1
  . exact ((b.2 _ (zae hq).1).2.2 t ht).1
 keys:=fun p hp q hq l hl=>(YQ h0 hp hq).keys l hl
 few:=(Zx h0).1
 bnd:=fun r hr=>(hs.each.2 r hr).2.1
theorem zhs (h0:yA rows=0):Yv rows s=vz rows s:=by
 unfold Yv vz
 congr 1
 refine List.map_congr_left (fun x hx=>?_)
 obtain ⟨p,e,b⟩:=List.mem_flatMap.1 hx
 obtain ⟨l,j,rfl⟩:=List.mem_map.1 b
 exact (YQ h0 e j).row
theorem zab {x:List UInt8} {q:Rat} (h:Dz 100 q):zp (zw q)=some q/\XV { name:=x,coef:=zw q }=q:=by
 have b:=XK (Dz.short (h.more (show 100<=49999 by omega)) (by omega))
 exact ⟨b,by unfold XV;rw [b];rfl⟩
theorem ZA.cd (h:ZA p q s) (x:List UInt8):Dz 100 (Vr [p,q] (xi p q s) x 2):=by rw [h.c2];exact h.s2 (vN h.gp x) (vN h.gq x)
theorem ZA.bd (h:ZA p q s):Dz 100 (Xh [p,q] (xi p q s) 2):=by rw [h.b2];exact h.s2 (yQ h.gp).2.sz (yQ h.gq).2.sz
theorem ZA.rd (h:ZA p q s):zt2 (xz p q s):=by
 refine ⟨fun t ht=>?_,?_⟩
 . unfold xz yy at ht
   obtain ⟨x,l,rfl⟩:=List.mem_map.1 ht;obtain ⟨b,j⟩:=zab (x:=x) (h.cd x);have e:XV { name:=x,coef:=zw (Vr [p,q] (xi p q s) x [p,q].length) }=Vr [p,q] (xi p q s) x 2:=j;rw [e];exact ⟨b,(Dz.nlen (h.cd x)).mono (by omega)⟩
 obtain ⟨b,_⟩:=zab (x:=[]) h.bd
 have e:VT (xz p q s)=Xh [p,q] (xi p q s) 2:=by
  show (zp (zw (Xh [p,q] (xi p q s) 2))).getD 0=_
  rw [b];rfl
 rw [e];exact ⟨b,(Dz.nlen h.bd).mono (by omega)⟩
theorem ZA.good (h:ZA p q s):xB (xz p q s)=Xe p q s:=by
 have m:VT (xz p q s)=ztp p q s:=by
  show (zp (zw (Xh [p,q] (xi p q s) 2))).getD 0=_
  rw [(zab (x:=[]) h.bd).1];rfl
 unfold xB Xe Ye
 rw [m]
 congr 1
 have e:(xz p q s).terms=yB (zgp p q s) (zba p q s):=by rw [<- h.row];rfl
 rw [e]
 unfold yB
 rw [List.all_map]
 have key:∀ x∈zgp p q s,XV { name:=x,coef:=zw ((zba p q s x).getD 0) }=(zba p q s x).getD 0:=fun x b=>by
  have l:(zba p q s x).isSome=true:=by unfold zgp at b;exact (List.mem_filter.1 b).2
  rw [(h.met_some x).2 l]
  exact (zab (h.cd x)).2
 rw [Bool.eq_iff_iff,List.all_eq_true,decide_eq_true_eq]
 constructor
 . intro j x b
   have:=j x b;simp only [Function.comp] at this;rw [key x b] at this
   simpa using this
 intro j x b
 simp only [Function.comp];rw [key x b]
 simpa using j x b
theorem zl9 (h0:yA rows=0) {r:zQ} (hr:r∈rows):xB r=true:=by
 have b:=(Zx h0).2 r hr
 unfold xB
 rw [Bool.and_eq_true]
 refine ⟨List.all_eq_true.2 (fun t ht=>?_),decide_eq_true (yQ b).2⟩
 obtain ⟨q,e,_,j⟩:=b.coef t ht
 unfold XV
 rw [e]
 exact decide_eq_true j
theorem zog (h0:yA rows=0):(ZJ (upQ s rows) (dnQ s rows)).all (fun p=>Xe p.1 p.2 s)=true↔(vz rows s).all xB=true:=by
 unfold vz
 rw [List.all_append,Bool.and_eq_true,List.all_map,List.all_eq_true,List.all_eq_true,List.all_eq_true]
 have key:∀ x∈ZJ (upQ s rows) (dnQ s rows),xB (xz x.1 x.2 s)=Xe x.1 x.2 s:=fun x hx=>by
  obtain ⟨p,j,l⟩:=List.mem_flatMap.1 hx
  obtain ⟨m,e,rfl⟩:=List.mem_map.1 l
  exact (YQ h0 j e).good
 refine ⟨fun h=>⟨fun r hr=>zl9 h0 (List.mem_filter.1 hr).1,fun x hx=>?_⟩,fun h x hx=>?_⟩
 . show xB (xz x.1 x.2 s)=true
   rw [key x hx];exact h x hx
 have b:xB (xz x.1 x.2 s)=true:=h.2 x hx
 rw [key x hx] at b;exact b
theorem zqj:vw rows s=Yy rows s:=by
 unfold vw Yy
 by_cases e:yA rows=0
 rotate_left
 . rw [if_pos e,if_pos e]
 have h:=zog (s:=s) e
 by_cases b:(vz rows s).all xB=true
 . rw [if_pos b,if_pos (h.2 b)]
 rw [if_neg b,if_neg (fun h2=>b (h.1 h2))]
theorem zxp (hs:xK rows) (h0:yA rows=0):zwy rows s where
 coef:=(zj7 (s:=s) hs h0).coef
 few:=(Zx h0).1
 wo:=fun ht=>{
  coef:=(zj7 (s:=s) hs h0).coef
  join:=fun p b q j=>(YQ h0 b j).join (hs.each.2 p (zam b).1).2.1 (hs.each.2 q (zae j).1).2.1 (YP hs (zam b).1) (YP hs (zae j).1)
  vl:=fun r hr=>nl (vN ((Zx h0).2 r hr) s) (by omega)
  few:=(Zx h0).1
  tot:=ht
  bnd:=fun r hr=>(hs.each.2 r hr).2.1
  out:=fun p b q j=>Vt (YQ h0 b j).bd (by omega) }
 rd:=fun r hr=>by
  unfold vz at hr
  rcases List.mem_append.1 hr with h | h
  . have z:=(List.mem_filter.1 h).1
    have l:=(Zx h0).2 r z;refine ⟨fun t ht=>?_,(yQ l).1,(Dz.nlen (yQ l).2.sz).mono (by omega)⟩;obtain ⟨q,m,_,u⟩:=l.coef t ht;have e:XV t=q:=by unfold XV;rw [m];rfl
    rw [e];exact ⟨m,(Dz.nlen u.sz).mono (by omega)⟩
  . obtain ⟨x,B,rfl⟩:=List.mem_map.1 h
    obtain ⟨p,b,j⟩:=List.mem_flatMap.1 B;obtain ⟨C,y,rfl⟩:=List.mem_map.1 j;exact (YQ h0 b y).rd
end
section
variable {rows:List zQ} {s:List UInt8} {p q:zQ}
theorem zfo {α:Type} (f:α->List UInt8) (K:Nat):∀ l:List α,(∀ x∈l,(f x).length<=K)->(l.flatMap f).length<=l.length*K
 | [],_=>Nat.zero_le _
 | x :: l,h=>by
   rw [List.flatMap_cons,List.length_append,List.length_cons,Nat.succ_mul];have b:=h x List.mem_cons_self;have e:=zfo f K l (fun y hy=>h y (List.mem_cons_of_mem _ hy))
   omega
theorem VO (hs:xK rows) {r:zQ} (hr:r∈rows):r.bound.length<=8000/\∀ t∈r.terms,t.name.length<=8000/\t.coef.length<=8000:=by
 have b:=ZU (fun r:zQ=>r.bound.length+xH r.terms) rows r hr
 have e:Zs rows<=8000:=hs.2.2.2.1
 unfold Zs at e
 have b:r.bound.length+xH r.terms<=_:=b
 refine ⟨by omega,fun x hx=>?_⟩
 have j:x.name.length+x.coef.length<=xH r.terms:=ZU (fun t:zR=>t.name.length+t.coef.length) r.terms x hx
 omega
theorem zsr {t:zR} (h:t.name.length<=8000) (hc:t.coef.length<=8000):(X6 t).length<=20000:=by
 unfold X6
 simp only [List.length_append,List.length_cons,List.length_nil]
 omega
theorem zn2 {r:zQ} (hb:r.bound.length<=8000) (hl:r.terms.length<=2000) (ht:∀ t∈r.terms,t.name.length<=8000/\t.coef.length<=8000):(YJ r).length<=50000000:=by
 have h:=zfo X6 20000 r.terms (fun t h=>zsr (ht t h).1 (ht t h).2)
 have b:r.terms.length*20000<=2000*20000:=Nat.mul_le_mul_right _ hl
 unfold YJ xt
 simp only [List.length_append,List.length_cons,List.length_nil]
 omega
theorem ZA.rmax (h:ZA p q s) (hlp:p.terms.length<=1000) (hlq:q.terms.length<=1000) (hn:∀ r,r=p\/r=q->∀ t∈r.terms,t.name.length<=8000):(YJ (xz p q s)).length<=50000000:=by
 refine zn2 (Nat.le_trans (zft h.bd (by omega)) (by omega)) ?_ (fun t j=>?_)
 . show ((List.filter _ (zd0 p q s)).map _).length<=2000
   rw [List.length_map];refine Nat.le_trans (List.length_filter_le _ _) ?_;unfold zd0;refine Nat.le_trans (ZE _) ?_;rw [h.n2]
   simp
   omega
 have j:t∈(List.filter _ (zd0 p q s)).map _:=j
 obtain ⟨x,m,rfl⟩:=List.mem_map.1 j;have b:x∈zd0 p q s:=(List.mem_filter.1 m).1;unfold zd0 at b;rw [h.n2] at b;have b:=((vp _).2 x).1 b;refine ⟨?_,Nat.le_trans (zft (h.cd x) (by omega)) (by omega)⟩;obtain ⟨t,l,rfl⟩:=List.mem_map.1 b
 rcases List.mem_append.1 l with e | e
 . exact hn p (.inl rfl) t e
 . exact hn q (.inr rfl) t e
theorem zu3 (hs:xK rows) (h0:yA rows=0):(YG (vz rows s)).length<=1000000000000:=by
 have B:rows.length<=12:=by
  have:=(Zx h0).1
  rcases hs.2.1 with h | h<;>omega
 have l:(vz rows s).length<=156:=by
  unfold vz
  rw [List.length_append,List.length_map,zcz]
  have D:(Zr s rows).length<=rows.length:=List.length_filter_le _ _
  have m:(upQ s rows).length<=rows.length:=List.length_filter_le _ _
  have z:(dnQ s rows).length<=rows.length:=List.length_filter_le _ _
  have E:(upQ s rows).length*(dnQ s rows).length<=12*12:=Nat.mul_le_mul (by omega) (by omega)
  omega
 have h:=zfo YJ 50000000 (vz rows s) (fun r hr=>by
  unfold vz at hr
  rcases List.mem_append.1 hr with h | h
  . have j:=(List.mem_filter.1 h).1
    have b:=VO hs j;exact zn2 b.1 (Nat.le_trans (YP hs j) (by omega)) b.2
  . obtain ⟨x,y,rfl⟩:=List.mem_map.1 h
    obtain ⟨p,b,u⟩:=List.mem_flatMap.1 y;obtain ⟨C,e,rfl⟩:=List.mem_map.1 u;refine (YQ h0 b e).rmax (YP hs (zam b).1) (YP hs (zae e).1) (fun r hr t ht=>?_)
    rcases hr with rfl | rfl
    . exact ((VO hs (zam b).1).2 t ht).1
    . exact ((VO hs (zae e).1).2 t ht).1)
 have m:(vz rows s).length*50000000<=156*50000000:=Nat.mul_le_mul_right _ l
 unfold YG
 omega
end
end Go.Proofs.YthbmhkiphmcogaaGreatDoor
