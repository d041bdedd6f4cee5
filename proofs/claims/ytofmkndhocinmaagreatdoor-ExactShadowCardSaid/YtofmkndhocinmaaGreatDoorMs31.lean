/- Parts of the proof. -/
import Derived.Test.YtofmkndhocinmaaGreatDoorMs29
import Derived.Test.YtofmkndhocinmaaGreatDoorMs30
set_option linter.all false
namespace Go.Proofs.YtofmkndhocinmaaGreatDoor
open Proofs.Tryz Go.RowKit
structure Zf (r:zF):Prop where
 coef:∀ t∈r.terms,∃ q,zj t.coef=some q/\q≠0/\yC 12 q
 name:(r.terms.map (·.name)).Nodup
 bnd:∃ q,zj r.bound=some q/\yC 12 q
theorem Xc {r:zF} (h:yN r=0):ya r.terms=0/\xt r.bound=0:=by
 unfold yN at h
 by_cases e:ya r.terms=0
 . rw [if_neg (fun h2=>h2 e)] at h;exact ⟨e,h⟩
 rw [if_pos e] at h;exact absurd h e
theorem zdm {l:List zm} (h:ya l=0) {i:Nat} (hi:i<l.length):(∃ q,zj l[i].coef=some q/\q≠0/\yC 12 q)/\(i=0\/(l.getD (i - 1) default).name<l[i].name):=by
 have j:=ys.1 h i hi
 have r:=xGD (d:=default) hi
 unfold xT at j
 rw [r] at j
 split at j
 . omega
 split at j
 . rename_i b;exact absurd j b
 rename_i b
 have b:xF l[i].coef=0:=by simpa using b
 refine ⟨?_,?_⟩
 rotate_left
 . unfold yH at j
   by_cases e:decide (i=0)=true\/(l.getD (i - 1) default).name<l[i].name
   rotate_left
   . rw [if_neg e] at j
     split at j<;>cases j
   rcases e with e | e
   . exact .inl (by simpa using e)
   . exact .inr e
 unfold xF at b
 cases hr:zj l[i].coef with
 | none=>rw [hr] at b;simp at b
 | some q=>
   rw [hr] at b;simp only at b
   by_cases e:q=0
   . rw [if_pos e] at b;cases b
   rw [if_neg e] at b
   by_cases m:yC 12 q
   . exact ⟨q,rfl,e,m⟩
   rw [if_neg m] at b;cases b
theorem zj8 {l:List zm} (h:ya l=0):zek (l.map (·.name)):=by
 unfold zek
 rw [List.pairwise_iff_getElem]
 have step:∀ i (b:i+1<l.length),(l[i]'(by omega)).name<(l[i+1]).name:=fun i b=>by
  rcases (zdm h b).2 with m | m
  . omega
  . simpa [List.getD,List.getElem?_eq_getElem (show i<l.length by omega)] using m
 intro i j hi r u
 rw [List.length_map] at hi r
 simp only [List.getElem_map]
 have key:∀ d (b:i+d+1<l.length),(l[i]'(by omega)).name<(l[i+d+1]).name:=by
  intro d
  induction d with
  | zero=>intro b;exact step i b
  | succ d ih=>intro b;exact Yz (ih (by omega)) (step (i+d+1) b)
 have:=key (j - i - 1) (by omega)
 have e:i+(j - i - 1)+1=j:=by omega
 simpa only [e] using this
theorem VG {l:List (List UInt8)} (h:zek l):l.Nodup:=h.imp (fun hlt e=>by rw [e] at hlt;exact yz _ hlt)
theorem zou {r:zF} (h:yN r=0):Zf r:=by
 obtain ⟨e,b⟩:=Xc h
 refine ⟨fun t ht=>?_,VG (zj8 e),?_⟩
 . obtain ⟨i,hi,rfl⟩:=List.mem_iff_getElem.1 ht
   exact (zdm e hi).1
 unfold xt at b
 cases hr:zj r.bound with
 | none=>rw [hr] at b;cases b
 | some q=>
   rw [hr] at b;simp only at b
   by_cases e:yC 12 q
   . exact ⟨q,rfl,e⟩
   rw [if_neg e] at b;cases b
theorem Zi {rows:List zF} (h:zY rows=0):rows.length<=800/\∀ r∈rows,Zf r:=by
 have j:¬ 800<rows.length:=fun hh=>by rw [VR hh] at h;omega
 refine ⟨by omega,fun r hr=>zou ?_⟩
 unfold zY at h
 rw [if_neg j] at h
 have l:xq rows.length (fun i=>yN (rows.getD i default))=0:=by
  by_cases e:xq rows.length (fun i=>yN (rows.getD i default))=0
  . exact e
  rw [if_pos e] at h;exact h
 obtain ⟨i,hi,e⟩:=List.mem_iff_getElem.1 hr
 have:=ys.1 l i hi
 have b:rows.getD i default=r:=by simp [List.getD,List.getElem?_eq_getElem hi,e]
 rw [<- b];exact this
theorem zax {s:List UInt8}:∀ {l:List zm},s ∉ l.map (·.name)->yd l s=0
 | [],_=>rfl
 | t :: l,h=>by
   rw [List.map_cons,List.mem_cons] at h;unfold yd;rw [if_neg (fun e=>h (.inl e.symm)),zax (fun e=>h (.inr e))]
theorem zd2 {s:List UInt8}:∀ {l:List zm},(∀ t∈l,∃ q,zj t.coef=some q/\yC 12 q)->Dz 12 (yd l s)
 | [],_=>Dz.zero 12
 | t :: l,h=>by
   unfold yd
   by_cases e:t.name=s
   . rw [if_pos e]
     obtain ⟨q,j,b⟩:=h t uP;rw [j];exact b.sz
   rw [if_neg e]
   exact zd2 (fun t ht=>h t (List.mem_cons_of_mem _ ht))
theorem zm5 (t:zm) (l:List zm) (s:List UInt8):yd (t :: l) s=if t.name=s then (zj t.coef).getD 0 else yd l s:=rfl
theorem VD {wt:Rat} {s:List UInt8}:∀ {l:List zm} {F:List UInt8->Option Rat},(l.map (·.name)).Nodup->(Xx wt F l s).getD 0=(F s).getD 0+yd l s*wt/\((Xx wt F l s).isSome=true↔(F s).isSome=true\/s∈l.map (·.name))
 | [],F,_=>by
   refine ⟨?_,by simp [Xx]⟩
   show (F s).getD 0=(F s).getD 0+0*wt
   rw [Rat.zero_mul,Rat.add_zero]
 | t :: l,F,hn=>by
   rw [List.map_cons,List.nodup_cons] at hn;have h:=VD (wt:=wt) (s:=s) (l:=l) (F:=zqy wt F t) hn.2;have e:Xx wt F (t :: l)=Xx wt (zqy wt F t) l:=rfl;rw [e,h.1];refine ⟨?_,?_⟩
   . rw [zm5]
     by_cases b:t.name=s
     rotate_left
     . rw [if_neg b]
       unfold zqy zrn;rw [if_neg (fun h=>b h.symm)]
     subst b
     rw [if_pos rfl,zax hn.1,Rat.zero_mul,Rat.add_zero];unfold zqy zrn ZY;rw [if_pos rfl]
     rfl
   rw [h.2,List.map_cons,List.mem_cons]
   unfold zqy zrn
   by_cases b:s=t.name
   . rw [if_pos b]
     simp [b]
   rw [if_neg b]
   simp [b]
theorem Z9 {r:zF} (h:Zf r) (x:List UInt8):Dz 12 (yd r.terms x):=zd2 (fun t ht=>by obtain ⟨q,b,_,e⟩:=h.coef t ht;exact ⟨q,b,e⟩)
theorem zfd {r:zF} (h:Zf r) (k:Nat) (x:List UInt8):Dz 12 (yd (r.terms.take k) x):=zd2 (fun t ht=>by obtain ⟨q,b,_,e⟩:=h.coef t (List.mem_of_mem_take ht);exact ⟨q,b,e⟩)
theorem xG {r:zF} (h:Zf r):zj r.bound=some (zgt r)/\yC 12 (zgt r):=by
 obtain ⟨q,b,j⟩:=h.bnd
 have e:zgt r=q:=by unfold zgt;rw [b];rfl
 rw [e]
 exact ⟨b,j⟩
theorem zp8 {e:Nat} {q:Rat} (h:Dz e q) (he:e<=1000):(zu q).length<=3000:=by
 have b:=Dz.short h (Nat.lt_succ_self e)
 unfold zu
 have r:=b.1
 have m:=b.2
 by_cases l:q.num<0<;>by_cases j:q.den=1<;>simp [l,j]<;>omega
theorem zc5 {e:Nat} {q:Rat} (h:Dz e q) (he:e<=1000):zB (zu q):=by
 have:=zp8 h he
 unfold zB
 omega
theorem rl {e:Nat} {q:Rat} (h:Dz e q) (he:e<=1000):xS 8388608 q:=(xS.of_dz h).more (by omega)
theorem zf2 {rows:List zF} (hs:xJ rows) {r:zF} (hr:r∈rows):r.terms.length<=1000:=by
 have e:=xH (fun r:zF=>r.terms.length) rows r hr
 have b:yT rows<=400:=hs.2.2.1
 unfold yT at b
 omega
theorem X0 {x:Rat} (h:x≠0):(1:Rat) / x≠0:=fun e=>by
 have b:(1:Rat) / x*x=1:=Rat.div_mul_cancel h
 rw [e,Rat.zero_mul] at b
 exact absurd b (by decide)
section
variable {p q:zF} {s:List UInt8}
theorem zqd:yS p q s 0=1 / yd p.terms s:=by unfold yS;rw [if_pos rfl]
theorem zqk:yS p q s 1=1 / -(yd q.terms s):=by unfold yS;rw [if_neg (by decide)]
structure vD (p q:zF) (s:List UInt8):Prop where
 gp:Zf p
 gq:Zf q
 x0:0<yd p.terms s
 y0:yd q.terms s<0
theorem vD.xn (h:vD p q s):yd p.terms s≠0:=fun e=>by have:=h.x0;rw [e] at this;exact Rat.lt_irrefl this
theorem vD.yn (h:vD p q s): -(yd q.terms s)≠0:=fun e=>by
 have b:yd q.terms s=0:=by have:=congrArg (fun z:Rat=> -z) e;simpa using this
 have:=h.y0
 rw [b] at this
 exact Rat.lt_irrefl this
theorem vD.w0 (h:vD p q s):yS p q s 0≠0:=by rw [zqd];exact X0 h.xn
theorem vD.w1 (h:vD p q s):yS p q s 1≠0:=by rw [zqk];exact X0 h.yn
theorem vD.d0 (h:vD p q s):Dz 24 (yS p q s 0):=by rw [zqd];exact zi5 (Dz.one 12) (Z9 h.gp s) h.xn
theorem vD.d1 (h:vD p q s):Dz 24 (yS p q s 1):=by rw [zqk];exact zi5 (Dz.one 12) (Sz.neg (Z9 h.gq s)) h.yn
theorem vD.f1 (h:vD p q s):Va [p,q] (yS p q s) 1=Xx (yS p q s 0) noF p.terms:=by
 show (if yS p q s 0=0 then noF else Xx (yS p q s 0) noF ([p,q].getD 0 default).terms)=_
 rw [if_neg h.w0];rfl
theorem vD.f2 (h:vD p q s):Va [p,q] (yS p q s) 2=Xx (yS p q s 1) (Xx (yS p q s 0) noF p.terms) q.terms:=by
 show (if yS p q s 1=0 then Va [p,q] (yS p q s) 1 else Xx (yS p q s 1) (Va [p,q] (yS p q s) 1) ([p,q].getD 1 default).terms)=_
 rw [if_neg h.w1,h.f1];rfl
theorem vD.b1 (h:vD p q s):Vq [p,q] (yS p q s) 1=0+zgt p*yS p q s 0:=by
 show (if yS p q s 0=0 then (0:Rat) else 0+zgt ([p,q].getD 0 default)*yS p q s 0)=_
 rw [if_neg h.w0];rfl
theorem vD.b2 (h:vD p q s):Vq [p,q] (yS p q s) 2=0+zgt p*yS p q s 0+zgt q*yS p q s 1:=by
 show (if yS p q s 1=0 then Vq [p,q] (yS p q s) 1 else Vq [p,q] (yS p q s) 1+zgt ([p,q].getD 1 default)*yS p q s 1)=_
 rw [if_neg h.w1,h.b1];rfl
theorem vD.c1 (h:vD p q s) (x:List UInt8):zc9 [p,q] (yS p q s) x 1=0+yd p.terms x*yS p q s 0:=by
 show (if yS p q s 0=0 then (0:Rat) else 0+yd ([p,q].getD 0 default).terms x*yS p q s 0)=_
 rw [if_neg h.w0];rfl
theorem vD.c2 (h:vD p q s) (x:List UInt8):zc9 [p,q] (yS p q s) x 2=0+yd p.terms x*yS p q s 0+yd q.terms x*yS p q s 1:=by
 show (if yS p q s 1=0 then zc9 [p,q] (yS p q s) x 1 else zc9 [p,q] (yS p q s) x 1+yd ([p,q].getD 1 default).terms x*yS p q s 1)=_
 rw [if_neg h.w1,h.c1];rfl
theorem vD.n2 (h:vD p q s):zi6 [p,q] (yS p q s) 2=(p.terms ++ q.terms).map (·.name):=by
 show (if yS p q s 1=0 then (if yS p q s 0=0 then [] else [] ++ ([p,q].getD 0 default).terms.map (·.name)) else (if yS p q s 0=0 then [] else [] ++ ([p,q].getD 0 default).terms.map (·.name)) ++ ([p,q].getD 1 default).terms.map (·.name))=_
 rw [if_neg h.w1,if_neg h.w0,List.map_append];rfl
theorem vD.at_ (h:vD p q s) (x:List UInt8):(Va [p,q] (yS p q s) 2 x).getD 0=zc9 [p,q] (yS p q s) x 2/\((Va [p,q] (yS p q s) 2 x).isSome=true↔x∈(p.terms ++ q.terms).map (·.name)):=by
 have b:=VD (wt:=yS p q s 0) (s:=x) (F:=noF) h.gp.name
 have e:=VD (wt:=yS p q s 1) (s:=x) (F:=Xx (yS p q s 0) noF p.terms) h.gq.name
 rw [h.f2,h.c2]
 refine ⟨?_,?_⟩
 . rw [e.1,b.1];rfl
 rw [e.2,b.2,List.map_append,List.mem_append]
 simp [noF]
theorem vD.met_some (h:vD p q s) (x:List UInt8):((X4 p q s x).isSome=true↔x∈(p.terms ++ q.terms).map (·.name)/\zc9 [p,q] (yS p q s) x 2≠0)/\((X4 p q s x).isSome=true->X4 p q s x=some (zc9 [p,q] (yS p q s) x 2)):=by
 obtain ⟨j,b⟩:=h.at_ x
 unfold X4 nzF
 cases hf:Va [p,q] (yS p q s) 2 x with
 | none=>
   rw [hf] at b;have m:¬ x∈(p.terms ++ q.terms).map (·.name):=fun hm=>absurd (b.2 hm) (by simp)
   rw [ite_self];exact ⟨⟨fun h=>(by cases h),fun hh=>absurd hh.1 m⟩,fun h=>(by cases h)⟩
 | some c=>
   rw [hf] at j b;have j:c=zc9 [p,q] (yS p q s) x 2:=j;subst j
   by_cases l:zc9 [p,q] (yS p q s) x 2=0
   . rw [l]
     simp
   rw [if_neg (fun e=>l (by injection e))]
   simp only [Option.isSome_some,true_iff] at b
   simp [l]
   simpa using b
theorem vD.list (h:vD p q s):zbd p q s=(zcs p q s).filter (fun x=>decide (zc9 [p,q] (yS p q s) x 2≠0)):=by
 unfold zbd zcs
 rw [h.n2]
 refine List.filter_congr fun x hx=>?_
 have e:x∈(p.terms ++ q.terms).map (·.name):=((yx _).2 x).1 hx
 have b:=(h.met_some x).1
 cases hs:(X4 p q s x).isSome with
 | true=>exact (uE (b.1 hs).2).symm
 | false=>
   refine (uF (fun hc=>?_)).symm;rw [b.2 ⟨e,hc⟩] at hs
   cases hs
theorem vD.row (h:vD p q s):Z2 p q s=za3 p q s:=by
 unfold Z2 za3
 have e:yu (zbd p q s) (X4 p q s)=za5 [p,q] (yS p q s) (zcs p q s):=by
  unfold yu za5
  show _=((zcs p q s).filter fun x=>decide (zc9 [p,q] (yS p q s) x 2≠0)).map _
  rw [<- h.list]
  refine List.map_congr_left fun x hx=>?_
  have b:(X4 p q s x).isSome=true:=(List.mem_filter.1 hx).2
  rw [(h.met_some x).2 b]
  rfl
 rw [e]
 rfl
theorem vD.keys (h:vD p q s) (l:List (List UInt8)) (hl:ziw l (X4 p q s)):l=zbd p q s:=by
 refine YA _ _ hl.1 ?_ fun x=>?_
 . unfold zbd
   exact (yx _).1.sublist List.filter_sublist
 rw [hl.2 x]
 unfold zbd;rw [List.mem_filter,(yx _).2 x];exact ⟨fun hs=>⟨((h.met_some x).1.1 hs).1,hs⟩,fun hs=>hs.2⟩
end
section
variable {p q:zF} {s:List UInt8}
theorem vD.pw0 (h:vD p q s) {z:Rat} (hz:Dz 12 z):Dz 36 (z*yS p q s 0):=Dz.mul hz h.d0 (by omega)
theorem vD.pw1 (h:vD p q s) {z:Rat} (hz:Dz 12 z):Dz 36 (z*yS p q s 1):=Dz.mul hz h.d1 (by omega)
theorem vD.s1 (h:vD p q s) {z:Rat} (hz:Dz 12 z):Dz 50 (0+z*yS p q s 0):=Dz.add (Dz.zero 12) (h.pw0 hz) (by omega)
theorem vD.s2 (h:vD p q s) {z y:Rat} (hz:Dz 12 z) (hy:Dz 12 y):Dz 100 (0+z*yS p q s 0+y*yS p q s 1):=Dz.add (h.s1 hz) (h.pw1 hy) (by omega)
theorem zo6 (i:Nat) (hi:i<2):(i=0/\[p,q].getD i default=p)\/(i=1/\[p,q].getD i default=q):=by
 match i,hi with
 | 0,_=>exact .inl ⟨rfl,rfl⟩
 | 1,_=>exact .inr ⟨rfl,rfl⟩
 | n+2,h=>omega
theorem vD.met (h:vD p q s) (hsp:zB p.bound) (hsq:zB q.bound) (hnm:∀ r,r=p\/r=q->∀ t∈r.terms,zB t.name) (hlp:p.terms.length<=1000) (hlq:q.terms.length<=1000):zr9 p q s where
 cp:=fun t m=>by obtain ⟨q,b,_⟩:=h.gp.coef t m;rw [b];rfl
 cq:=fun t m=>by obtain ⟨q,b,_⟩:=h.gq.coef t m;rw [b];rfl
 x0:=h.xn
 y0:=h.yn
 xl:=rl (Z9 h.gp s) (by omega)
 yl:=rl (Sz.neg (Z9 h.gq s)) (by omega)
 ol:=rl (Dz.one 12) (by omega)
 sums:=by
  refine ⟨fun i hi hw=>?_,by simp⟩
  rcases zo6 (p:=p) (q:=q) i hi with ⟨rfl,e⟩ | ⟨rfl,e⟩<;>rw [e]
  . refine ⟨fun t m=>?_,rl h.d0 (by omega),fun k hk x=>?_,⟨zgt p,(xG h.gp).1,rl (xG h.gp).2.sz (by omega),rl (h.pw0 (xG h.gp).2.sz) (by omega)⟩,hsp,rl (Dz.zero 12) (by omega)⟩
    . obtain ⟨c,b,_,j⟩:=h.gp.coef t m
      exact ⟨c,b,rl j.sz (by omega),rl (h.pw0 j.sz) (by omega)⟩
    have b:=VD (wt:=yS p q s 0) (s:=x) (l:=p.terms.take k) (F:=noF) (h.gp.name.sublist ((List.take_sublist k p.terms).map _))
    show xS 8388608 ((Xx (yS p q s 0) noF (p.terms.take k) x).getD 0)
    rw [b.1];exact rl (h.s1 (zfd h.gp k x)) (by omega)
  . refine ⟨fun t m=>?_,rl h.d1 (by omega),fun k hk x=>?_,⟨zgt q,(xG h.gq).1,rl (xG h.gq).2.sz (by omega),rl (h.pw1 (xG h.gq).2.sz) (by omega)⟩,hsq,by rw [h.b1];exact rl (h.s1 (xG h.gp).2.sz) (by omega)⟩
    . obtain ⟨c,b,_,j⟩:=h.gq.coef t m
      exact ⟨c,b,rl j.sz (by omega),rl (h.pw1 j.sz) (by omega)⟩
    rw [h.f1]
    have b:=VD (wt:=yS p q s 1) (s:=x) (l:=q.terms.take k) (F:=Xx (yS p q s 0) noF p.terms) (h.gq.name.sublist ((List.take_sublist k q.terms).map _));have u:=VD (wt:=yS p q s 0) (s:=x) (l:=p.terms) (F:=noF) h.gp.name;rw [b.1,u.1];exact rl (h.s2 (Z9 h.gp x) (zfd h.gq k x)) (by omega)
 sp:=hsp
 sq:=hsq
 keys:=⟨(p.terms ++ q.terms).map (·.name),fun x hx=>((h.met_some x).1.1 hx).1,by simp;omega,fun x hx=>by
  obtain ⟨t,m,rfl⟩:=List.mem_map.1 hx
  rcases List.mem_append.1 m with b | b
  . exact hnm p (.inl rfl) t b
  . exact hnm q (.inr rfl) t b⟩
 outs:=fun x r hr=>by
  have y:(X4 p q s x).isSome=true:=by unfold X4;rw [hr];rfl
  have u:=(h.met_some x).2 y
  unfold X4 at u
  rw [hr] at u
  injection u with u
  rw [u,h.c2]
  have j:=h.s2 (Z9 h.gp x) (Z9 h.gq x)
  exact ⟨(xS.of_dz j).more (by omega),zc5 j (by omega)⟩
 outb:=by
  rw [h.b2]
  have j:=h.s2 (xG h.gp).2.sz (xG h.gq).2.sz
  exact ⟨(xS.of_dz j).more (by omega),zc5 j (by omega)⟩
end
section
variable {rows:List zF} {s:List UInt8} {p q:zF}
theorem YX {p:zF} (h:p∈upQ s rows):p∈rows/\0<yd p.terms s:=by
 have:=List.mem_filter.1 h
 exact ⟨this.1,by simpa using this.2⟩
theorem YY {p:zF} (h:p∈dnQ s rows):p∈rows/\yd p.terms s<0:=by
 have:=List.mem_filter.1 h
 exact ⟨this.1,by simpa using this.2⟩
theorem Y9 (h0:zY rows=0) {p q:zF} (hp:p∈upQ s rows) (hq:q∈dnQ s rows):vD p q s:=
 ⟨(Zi h0).2 p (YX hp).1,(Zi h0).2 q (YY hq).1,(YX hp).2,(YY hq).2⟩
theorem zrv (hs:xJ rows) (h0:zY rows=0):zrc rows s where
 coef:=fun r hr t ht=>by obtain ⟨q,e,_⟩:=((Zi h0).2 r hr).coef t ht;rw [e];rfl
 met:=fun p hp q hq=>by
  have b:=hs.each
  refine (Y9 h0 hp hq).met (b.2 p (YX hp).1).2.1 (b.2 q (YY hq).1).2.1 (fun r hr t ht=>?_) (zf2 hs (YX hp).1) (zf2 hs (YY hq).1)
  rcases hr with rfl | rfl
  . exact ((b.2 _ (YX hp).1).2.2 t ht).1
  . exact ((b.2 _ (YY hq).1).2.2 t ht).1
 keys:=fun p hp q hq l hl=>(Y9 h0 hp hq).keys l hl
 few:=(Zi h0).1
 bnd:=fun r hr=>(hs.each.2 r hr).2.1
theorem XW {x:List UInt8} {q:Rat} (h:Dz 100 q):zj (zu q)=some q/\ZY { name:=x,coef:=zu q }=q:=by
 have b:=yO (Dz.short (h.more (show 100<=49999 by omega)) (by omega))
 exact ⟨b,by unfold ZY;rw [b];rfl⟩
theorem vD.cd (h:vD p q s) (x:List UInt8):Dz 100 (zc9 [p,q] (yS p q s) x 2):=by rw [h.c2];exact h.s2 (Z9 h.gp x) (Z9 h.gq x)
theorem vD.bd (h:vD p q s):Dz 100 (Vq [p,q] (yS p q s) 2):=by rw [h.b2];exact h.s2 (xG h.gp).2.sz (xG h.gq).2.sz
end
def zge (p:List zm) (f:List UInt8->Rat):List (List UInt8)->Rat
 | []=>0
 | x :: N=>f x*yd p x+zge p f N
theorem zh3 {p:List zm} {f g:List UInt8->Rat}:∀ N,zge p (fun x=>f x+g x) N=zge p f N+zge p g N
 | []=>(Rat.add_zero 0).symm
 | x :: N=>by
   unfold zge;rw [zh3 N,Rat.add_mul,Rat.add_assoc,Rat.add_assoc,Rat.add_left_comm (g x*yd p x)]
theorem zhd {p:List zm} {f:List UInt8->Rat} {c:Rat}:∀ N,zge p (fun x=>f x*c) N=zge p f N*c
 | []=>(Rat.zero_mul c).symm
 | x :: N=>by
   unfold zge;rw [zhd N,Rat.add_mul,Rat.mul_assoc,Rat.mul_assoc,Rat.mul_comm c]
theorem zeg {p:List zm} {f:List UInt8->Rat}:∀ N,(∀ x∈N,f x=0)->zge p f N=0
 | [],_=>rfl
 | x :: N,h=>by
   unfold zge;rw [h x uP,Rat.zero_mul,zeg N (fun y hy=>h y (List.mem_cons_of_mem _ hy)),Rat.zero_add]
theorem za6 {p:List zm} {f g:List UInt8->Rat}:∀ N,(∀ x∈N,f x=g x)->zge p f N=zge p g N
 | [],_=>rfl
 | x :: N,h=>by
   unfold zge;rw [h x uP,za6 N (fun y hy=>h y (List.mem_cons_of_mem _ hy))]
theorem zno {p:List zm} {s:List UInt8} {c:Rat}:∀ N:List (List UInt8),N.Nodup->s∈N->zge p (fun x=>if s=x then c else 0) N=c*yd p s
 | [],_,h=>by cases h
 | x :: N,hn,h=>by
   rw [List.nodup_cons] at hn;unfold zge
   by_cases e:s=x
   . subst e
     rw [if_pos rfl,zeg N (fun y hy=>if_neg (fun e=>hn.1 (by rw [e];exact hy))),Rat.add_zero]
   rw [if_neg e,Rat.zero_mul,Rat.zero_add]
   exact zno N hn.2 ((List.mem_cons.1 h).resolve_left e)
theorem zb5 {l:List zm} (hn:(l.map (·.name)).Nodup) {k:Nat} (b:k<l.length) (x:List UInt8):
 yd (l.take (k+1)) x=yd (l.take k) x+(if l[k].name=x then ZY l[k] else 0):=by
 induction l generalizing k with
 | nil=>cases b
 | cons t l ih=>
   rw [List.map_cons,List.nodup_cons] at hn
   cases k with
   | zero=>
     show (if t.name=x then (zj t.coef).getD 0 else 0)=0+(if t.name=x then ZY t else 0)
     rw [Rat.zero_add];rfl
   | succ k=>
     have b:k<l.length:=by simpa using b
     have:=ih hn.2 b
     show (if t.name=x then (zj t.coef).getD 0 else yd (l.take (k+1)) x)=(if t.name=x then (zj t.coef).getD 0 else yd (l.take k) x)+(if l[k].name=x then ZY l[k] else 0)
     by_cases e:t.name=x
     rotate_left
     . rw [if_neg e,if_neg e];exact this
     rw [if_pos e,if_pos e,if_neg,Rat.add_zero]
     intro j;exact hn.1 (by rw [e, <- j];exact List.mem_map.2 ⟨_,uO b,rfl⟩)
theorem zl0 {p l:List zm} (hn:(l.map (·.name)).Nodup) {N:List (List UInt8)} (hN:N.Nodup) (hm:∀ t∈l,t.name∈N):∀ k,k<=l.length->zae p l k=zge p (yd (l.take k)) N
 | 0,_=>(zeg (p:=p) (f:=yd (l.take 0)) N (fun x _=>rfl)).symm
 | k+1,b=>by
   have b:k<l.length:=b;have e:=xGD (d:=default) b;rw [za6 N (fun x _=>zb5 hn b x),zh3,zno N hN (hm _ (uO b)), <- zl0 hn hN hm k (by omega), <- e]
   rfl
def zbh (pt:List zm) (r:zF):Rat:=zae pt r.terms r.terms.length
def Xw (pt:List zm) (r:zF):Prop:=zbh pt r<=vV r
theorem ziz {pt:List zm} {r:zF}:zdq pt r=false↔Xw pt r:=by
 unfold zdq Xw zbh
 rw [decide_eq_false_iff_not,Rat.not_lt]
theorem zf9 {c:List UInt8->Rat} {x:List UInt8}:∀ {L:List (List UInt8)},(∀ y∈L,zj (zu (c y))=some (c y))->yd (L.map fun y=>{ name:=y,coef:=zu (c y) }) x=if x∈L then c x else 0
 | [],_=>rfl
 | y :: L,h=>by
   show (if y=x then (zj (zu (c y))).getD 0 else yd (L.map fun y=>{ name:=y,coef:=zu (c y) }) x)=_
   by_cases e:y=x
   . subst e
     rw [if_pos rfl,if_pos uP,h y uP];rfl
   rw [if_neg e,zf9 (fun z hz=>h z (List.mem_cons_of_mem _ hz))]
   by_cases b:x∈L
   . rw [if_pos b,if_pos (List.mem_cons_of_mem _ b)]
   rw [if_neg b,if_neg]
   intro l
   rcases List.mem_cons.1 l with j | j
   . exact e j.symm
   . exact b j
theorem zic {pt:List zm} {r:zF} (hn:(r.terms.map (·.name)).Nodup) {N:List (List UInt8)} (hN:N.Nodup) (hm:∀ t∈r.terms,t.name∈N):zbh pt r=zge pt (yd r.terms) N:=by
 have:=zl0 (p:=pt) hn hN hm _ (uA)
 rw [List.take_length] at this
 exact this
theorem zpo {A B x y a b t:Rat} (hx:x≠0) (hy:y≠0) (hk:(a+x*t)*(1 / x)+(b+y*t)*(1 / -y)<=A*(1 / x)+B*(1 / -y)):(B - b) / y<=(A - a) / x:=by
 have l:(1:Rat) / -y= -(1 / y):=by
  have:(-y)≠0:=fun e=>hy (by grind)
  grind
 have z:x*(1 / x)=1:=by grind
 have m:y*(1 / y)=1:=by grind
 rw [l] at hk
 rw [Rat.div_def,Rat.div_def]
 have r:(1:Rat) / x=x⁻¹:=by rw [Rat.div_def,Rat.one_mul]
 have j:(1:Rat) / y=y⁻¹:=by rw [Rat.div_def,Rat.one_mul]
 rw [r] at hk z
 rw [j] at hk m
 generalize x⁻¹=u at*
 generalize y⁻¹=v at*
 grind
section
variable {p q:zF} {s:List UInt8}
theorem vD.say (h:vD p q s) (pt:List zm):zbh pt (Z2 p q s)=zbh pt p*yS p q s 0+zbh pt q*yS p q s 1:=by
 have b:(zcs p q s).Nodup:=VG (yx _).1
 have m:∀ x,x∈zcs p q s↔x∈(p.terms ++ q.terms).map (·.name):=fun x=>by unfold zcs;rw [h.n2];exact (yx _).2 x
 rw [h.row]
 obtain ⟨L,j⟩:=uQ ((zcs p q s).filter (fun x=>decide (zc9 [p,q] (yS p q s) x 2≠0)))
 have e:(za3 p q s).terms=L.map fun x=>{ name:=x,coef:=zu (zc9 [p,q] (yS p q s) x 2) }:=by rw [j];rfl
 have r:(za3 p q s).terms.map (·.name)=L:=by
  rw [e,List.map_map]
  exact (List.map_congr_left (fun x _=>rfl)).trans (List.map_id _)
 have u:∀ x∈zcs p q s,yd (za3 p q s).terms x=yd p.terms x*yS p q s 0+yd q.terms x*yS p q s 1:=fun x hx=>by
  rw [e,zf9 (fun y _=>(XW (x:=[]) (h.cd y)).1)]
  have z:zc9 [p,q] (yS p q s) x 2=yd p.terms x*yS p q s 0+yd q.terms x*yS p q s 1:=by rw [h.c2,Rat.zero_add]
  rw [<- z]
  by_cases l:zc9 [p,q] (yS p q s) x 2=0
  . rw [l,ite_self]
  rw [if_pos (by rw [j];exact List.mem_filter.2 ⟨hx,uE l⟩)]
 rw [zic (by rw [r,j];exact b.sublist List.filter_sublist) b (fun t ht=>by
  have:t.name∈L:=by rw [<- r];exact List.mem_map.2 ⟨t,ht,rfl⟩
  rw [j] at this
  exact (List.mem_filter.1 this).1),za6 _ u,zh3 (f:=fun x=>yd p.terms x*yS p q s 0),zhd (f:=yd p.terms),zhd (f:=yd q.terms),
  <- zic h.gp.name b (fun t ht=>(m _).2 (List.mem_map.2 ⟨t,List.mem_append_left _ ht,rfl⟩)),
  <- zic h.gq.name b (fun t ht=>(m _).2 (List.mem_map.2 ⟨t,List.mem_append_right _ ht,rfl⟩))]
theorem vD.bnd (h:vD p q s):vV (Z2 p q s)=vV p*yS p q s 0+vV q*yS p q s 1:=by
 have e:vV (Z2 p q s)=Vq [p,q] (yS p q s) 2:=by
  show (zj (zu (Vq [p,q] (yS p q s) 2))).getD 0=_
  rw [(XW (x:=[]) h.bd).1];rfl
 rw [e,h.b2,Rat.zero_add];rfl
theorem zbu {x:Rat} (h:0<x):0<1 / x:=by
 rw [Rat.div_def,Rat.one_mul];exact Rat.inv_pos.2 h
theorem vD.yp (h:vD p q s):0< -(yd q.terms s):=by have:=h.y0;grind
theorem vD.p0 (h:vD p q s):0<yS p q s 0:=by rw [zqd];exact zbu h.x0
theorem vD.p1 (h:vD p q s):0<yS p q s 1:=by rw [zqk];exact zbu h.yp
theorem vD.keep (h:vD p q s) {pt:List zm} (hp:Xw pt p) (hq:Xw pt q):Xw pt (Z2 p q s):=by
 unfold Xw at*
 rw [h.say,h.bnd]
 exact Rat.le_trans (Rat.add_le_add_right.2 (Rat.mul_le_mul_of_nonneg_right hp (Rat.le_of_lt h.p0))) (Rat.add_le_add_left.2 (Rat.mul_le_mul_of_nonneg_right hq (Rat.le_of_lt h.p1)))
theorem vD.apart (h:vD p q s) {pt:List zm} {a b t:Rat} (hp:zbh pt p=a+yd p.terms s*t) (hq:zbh pt q=b+yd q.terms s*t) (hk:Xw pt (Z2 p q s)):
 (vV q - b) / yd q.terms s<=(vV p - a) / yd p.terms s:=by
 unfold Xw at hk
 rw [h.say,h.bnd,zqd,zqk,hp,hq] at hk
 exact zpo h.xn (fun e=>by have:=h.y0;rw [e] at this;exact Rat.lt_irrefl this) hk
end
theorem zoi {rows:List zF} {s:List UInt8} {pt:List zm} (h0:zY rows=0) (hk:∀ r∈rows,Xw pt r):∀ r∈yi rows s,Xw pt r:=by
 intro r e
 unfold yi at e
 rcases List.mem_append.1 e with h | h
 . exact hk r (List.mem_filter.1 h).1
 . obtain ⟨x,m,rfl⟩:=List.mem_map.1 h
   obtain ⟨p,b,l⟩:=List.mem_flatMap.1 m;obtain ⟨q,j,rfl⟩:=List.mem_map.1 l;exact (Y9 h0 b j).keep (hk p (YX b).1) (hk q (YY j).1)
structure zgz (pt:List zm) (s:List UInt8) (v:Rat) (pu:List zm):Prop where
 at_:∀ x,yd pu x=if x=s then v else yd pt x
theorem zmj {pt pu:List zm} {s:List UInt8} {v:Rat} (h:zgz pt s v pu) {l:List zm} (hn:(l.map (·.name)).Nodup):∀ k,k<=l.length->zae pu l k=zae pt l k+yd (l.take k) s*(v - yd pt s)
 | 0,_=>by
   show (0:Rat)=0+0*_
   rw [Rat.zero_mul,Rat.add_zero]
 | k+1,j=>by
   have m:=zmj h hn k (by omega);have j:k<l.length:=j;have e:=xGD (d:=default) j;rw [zb5 hn j]
   show zae pu l k+ZY (l.getD k default)*yd pu (l.getD k default).name=zae pt l k+ZY (l.getD k default)*yd pt (l.getD k default).name+_
   rw [m,e,h.at_]
   by_cases b:l[k].name=s
   . rw [if_pos b,if_pos b,b];grind
   rw [if_neg b,if_neg b];grind
theorem zh1 {pt pu:List zm} {s:List UInt8} {v:Rat} (h:zgz pt s v pu) {r:zF} (hg:Zf r):zbh pu r=zbh pt r+yd r.terms s*(v - yd pt s):=by
 have:=zmj h hg.name _ (uA)
 rw [List.take_length] at this
 exact this
def vK (q:List zm) (s:List UInt8) (r:zF):Rat:=(vV r - zbh q r) / yd r.terms s
def zne (v:Rat):Option Rat->Rat
 | none=>v
 | some h=>if v<h then v else h
def znj (v:Rat):Option Rat->Rat
 | none=>v
 | some h=>if h<v then v else h
def zaa (q:List zm) (s:List UInt8) (st:Option Rat×Option Rat) (r:zF):Option Rat×Option Rat:=
 if yd r.terms s=0 then st
 else if 0<yd r.terms s then (st.1,some (zne (vK q s r) st.2))
 else (some (znj (vK q s r) st.1),st.2)
def fmN (q:List zm) (s:List UInt8) (rows:List zF):Nat->Option Rat×Option Rat
 | 0=>(none,none)
 | k+1=>zaa q s (fmN q s rows k) (rows.getD k default)
structure zhx (q:List zm) (s:List UInt8) (rows:List zF) (k:Nat) (o:Option Rat):Prop where
 no:o=none->∀ j,j<k->¬ yd (rows.getD j default).terms s<0
 is:∀ m,o=some m->∃ j,j<k/\yd (rows.getD j default).terms s<0/\m=vK q s (rows.getD j default)
 le:∀ m,o=some m->∀ j,j<k->yd (rows.getD j default).terms s<0->vK q s (rows.getD j default)<=m
structure zb7 (q:List zm) (s:List UInt8) (rows:List zF) (k:Nat) (o:Option Rat):Prop where
 no:o=none->∀ j,j<k->¬ 0<yd (rows.getD j default).terms s
 is:∀ m,o=some m->∃ j,j<k/\0<yd (rows.getD j default).terms s/\m=vK q s (rows.getD j default)
 le:∀ m,o=some m->∀ j,j<k->0<yd (rows.getD j default).terms s->m<=vK q s (rows.getD j default)
section
variable {q:List zm} {s:List UInt8} {rows:List zF}
theorem zhx.skip {k:Nat} {o:Option Rat} (h:zhx q s rows k o) (h0:¬ yd (rows.getD k default).terms s<0):zhx q s rows (k+1) o:=by
 refine ⟨fun e j hj=>?_,fun m e=>?_,fun m e j hj l=>?_⟩
 . rcases uL j k with b | b
   . exact h.no e j b
   . obtain rfl:j=k:=by omega
     exact h0
 . obtain ⟨j,l,b⟩:=h.is m e
   exact ⟨j,by omega,b⟩
 . rcases uL j k with b | b
   . exact h.le m e j b l
   . obtain rfl:j=k:=by omega
     exact absurd l h0
theorem zb7.skip {k:Nat} {o:Option Rat} (h:zb7 q s rows k o) (h0:¬ 0<yd (rows.getD k default).terms s):zb7 q s rows (k+1) o:=by
 refine ⟨fun e j hj=>?_,fun m e=>?_,fun m e j hj l=>?_⟩
 . rcases uL j k with b | b
   . exact h.no e j b
   . obtain rfl:j=k:=by omega
     exact h0
 . obtain ⟨j,l,b⟩:=h.is m e
   exact ⟨j,by omega,b⟩
 . rcases uL j k with b | b
   . exact h.le m e j b l
   . obtain rfl:j=k:=by omega
     exact absurd l h0
theorem zsr (v:Rat) (o:Option Rat):v<=znj v o/\(∀ m,o=some m->m<=znj v o)/\(znj v o=v\/o=some (znj v o)):=by
 cases o with
 | none=>exact ⟨Rat.le_refl,fun m e=>(by cases e),.inl rfl⟩
 | some h=>
   have e0:znj v (some h)=if h<v then v else h:=rfl
   rw [e0]
   by_cases e:h<v
   . rw [if_pos e];exact ⟨Rat.le_refl,fun m e2=>by injection e2 with e2;rw [<- e2];exact Rat.le_of_lt e,.inl rfl⟩
   rw [if_neg e];exact ⟨Rat.not_lt.1 e,fun m e2=>by injection e2 with e2;rw [<- e2];exact Rat.le_refl,.inr rfl⟩
theorem zrt (v:Rat) (o:Option Rat):zne v o<=v/\(∀ m,o=some m->zne v o<=m)/\(zne v o=v\/o=some (zne v o)):=by
 cases o with
 | none=>exact ⟨Rat.le_refl,fun m e=>(by cases e),.inl rfl⟩
 | some h=>
   have e0:zne v (some h)=if v<h then v else h:=rfl
   rw [e0]
   by_cases e:v<h
   . rw [if_pos e];exact ⟨Rat.le_refl,fun m e2=>by injection e2 with e2;rw [<- e2];exact Rat.le_of_lt e,.inl rfl⟩
   rw [if_neg e];exact ⟨Rat.not_lt.1 e,fun m e2=>by injection e2 with e2;rw [<- e2];exact Rat.le_refl,.inr rfl⟩
theorem zhx.put {k:Nat} {o:Option Rat} (h:zhx q s rows k o) (h0:yd (rows.getD k default).terms s<0):zhx q s rows (k+1) (some (znj (vK q s (rows.getD k default)) o)):=by
 obtain ⟨y,u,b⟩:=zsr (vK q s (rows.getD k default)) o
 refine ⟨fun e=>(by cases e),fun m e=>?_,fun m e j hj h4=>?_⟩
 . injection e with e
   rcases b with b | b
   . exact ⟨k,by omega,h0,by rw [<- e,b]⟩
   . obtain ⟨j,l,r⟩:=h.is _ b
     exact ⟨j,by omega,by rw [<- e];exact r⟩
 injection e with e
 rw [<- e]
 rcases uL j k with l | l
 . cases o with
   | none=>exact absurd h4 (h.no rfl j l)
   | some m2=>exact Rat.le_trans (h.le m2 rfl j l h4) (u m2 rfl)
 . obtain rfl:j=k:=by omega
   exact y
theorem zb7.put {k:Nat} {o:Option Rat} (h:zb7 q s rows k o) (h0:0<yd (rows.getD k default).terms s):zb7 q s rows (k+1) (some (zne (vK q s (rows.getD k default)) o)):=by
 obtain ⟨y,u,b⟩:=zrt (vK q s (rows.getD k default)) o
 refine ⟨fun e=>(by cases e),fun m e=>?_,fun m e j hj h4=>?_⟩
 . injection e with e
   rcases b with b | b
   . exact ⟨k,by omega,h0,by rw [<- e,b]⟩
   . obtain ⟨j,l,r⟩:=h.is _ b
     exact ⟨j,by omega,by rw [<- e];exact r⟩
 injection e with e
 rw [<- e]
 rcases uL j k with l | l
 . cases o with
   | none=>exact absurd h4 (h.no rfl j l)
   | some m2=>exact Rat.le_trans (u m2 rfl) (h.le m2 rfl j l h4)
 . obtain rfl:j=k:=by omega
   exact y
theorem zqj:∀ k,zhx q s rows k (fmN q s rows k).1/\zb7 q s rows k (fmN q s rows k).2
 | 0=>⟨⟨fun _ j hj=>absurd hj (Nat.not_lt_zero _),fun m e=>(by cases e),fun m e=>(by cases e)⟩,⟨fun _ j hj=>absurd hj (Nat.not_lt_zero _),fun m e=>(by cases e),fun m e=>(by cases e)⟩⟩
 | k+1=>by
   obtain ⟨r,l⟩:=zqj k;unfold fmN zaa
   by_cases e0:yd (rows.getD k default).terms s=0
   . rw [if_pos e0]
     have b:¬ yd (rows.getD k default).terms s<0:=by rw [e0];exact Rat.lt_irrefl
     have y:¬ 0<yd (rows.getD k default).terms s:=by rw [e0];exact Rat.lt_irrefl
     exact ⟨r.skip b,l.skip y⟩
   rw [if_neg e0]
   by_cases b:0<yd (rows.getD k default).terms s
   . rw [if_pos b]
     exact ⟨r.skip (Rat.not_lt.2 (Rat.le_of_lt b)),l.put b⟩
   rw [if_neg b]
   have u:yd (rows.getD k default).terms s<0:=by
    rcases zd1 (yd (rows.getD k default).terms s) with h | h | h
    . exact h
    . exact absurd h e0
    . exact absurd h b
   exact ⟨r.put u,l.skip b⟩
def X7 (st:Option Rat×Option Rat):Rat:=st.1.getD (st.2.getD 0)
theorem Yk {k:Nat} (hk:k<rows.length):rows.getD k default∈rows:=by
 have e:=xGD (d:=default) hk
 rw [e];exact uO hk
theorem zd3 {r:zF} (hr:r∈rows):∃ k,k<rows.length/\rows.getD k default=r:=by
 obtain ⟨k,b,rfl⟩:=List.mem_iff_getElem.1 hr
 exact ⟨k,b,by simp [List.getD,List.getElem?_eq_getElem b]⟩
theorem zsp {c a b v:Rat} (hc:0<c) (h:v<=(b - a) / c):a+c*v<=b:=by
 have j:c*v<=c*((b - a) / c):=Rat.mul_le_mul_of_nonneg_left h (Rat.le_of_lt hc)
 have l:c*((b - a) / c)=b - a:=by
  have:c≠0:=fun e=>by rw [e] at hc;exact Rat.lt_irrefl hc
  grind
 rw [l] at j
 grind
theorem zr5 {c a b v:Rat} (hc:c<0) (h:(b - a) / c<=v):a+c*v<=b:=by
 have m:0<= -c:=by grind
 have j:(-c)*((b - a) / c)<=(-c)*v:=Rat.mul_le_mul_of_nonneg_left h m
 have l:(-c)*((b - a) / c)= -(b - a):=by
  have:c≠0:=fun e=>by rw [e] at hc;exact Rat.lt_irrefl hc
  grind
 rw [l] at j
 grind
theorem zko {pt qz pu:List zm} (h0:zY rows=0) (hq:zgz pt s 0 qz) (hu:zgz pt s (X7 (fmN qz s rows rows.length)) pu) (hk:∀ r∈yi rows s,Xw pt r):∀ r∈rows,Xw pu r:=by
 obtain ⟨y,B⟩:=zqj (q:=qz) (s:=s) (rows:=rows) rows.length
 generalize K:fmN qz s rows rows.length=st at y B hu
 have C:=(Zi h0).2
 have D:∀ r∈rows,zbh pt r=zbh qz r+yd r.terms s*yd pt s:=fun r b=>by
  rw [zh1 hq (C r b)];grind
 have I:∀ r∈rows,zbh pu r=zbh qz r+yd r.terms s*X7 st:=fun r b=>by
  rw [zh1 hu (C r b),zh1 hq (C r b)];grind
 have G:∀ p∈rows,∀ q∈rows,0<yd p.terms s->yd q.terms s<0->vK qz s q<=vK qz s p:=fun p hp q hq' l z=>by
  have F:p∈upQ s rows:=List.mem_filter.2 ⟨hp,uE l⟩
  have E:q∈dnQ s rows:=List.mem_filter.2 ⟨hq',uE z⟩
  refine (Y9 h0 F E).apart (pt:=pt) (D p hp) (D q hq') (hk _ ?_)
  unfold yi
  exact List.mem_append_right _ (List.mem_map.2 ⟨(p,q),List.mem_flatMap.2 ⟨p,F,List.mem_map.2 ⟨q,E,rfl⟩⟩,rfl⟩)
 intro r b
 obtain ⟨k,u,rfl⟩:=zd3 b
 unfold Xw
 rw [I _ b]
 rcases zd1 (yd (rows.getD k default).terms s) with h | h | h
 . cases e:st.1 with
   | none=>exact absurd h (y.no e k u)
   | some m=>
     refine zr5 h ?_;have:X7 st=m:=by unfold X7;rw [e];rfl
     rw [this];exact y.le m e k u h
 . rw [h,Rat.zero_mul,Rat.add_zero]
   have l:=hk (rows.getD k default) (by unfold yi;exact List.mem_append_left _ (List.mem_filter.2 ⟨b,uE h⟩));unfold Xw at l;rw [D _ b,h,Rat.zero_mul,Rat.add_zero] at l;exact l
 . refine zsp h ?_
   cases e:st.1 with
   | some m=>
     have:X7 st=m:=by unfold X7;rw [e];rfl
     rw [this];obtain ⟨j,J,l,z⟩:=y.is m e;rw [z];exact G _ b _ (Yk J) h l
   | none=>
     cases e2:st.2 with
     | none=>exact absurd h (B.no e2 k u)
     | some m=>
       have:X7 st=m:=by unfold X7;rw [e,e2];rfl
       rw [this];exact B.le m e2 k u h
end
end Go.Proofs.YtofmkndhocinmaaGreatDoor
