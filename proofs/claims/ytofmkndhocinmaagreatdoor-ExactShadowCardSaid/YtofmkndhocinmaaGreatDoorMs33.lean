/- Parts of the proof. -/
import Derived.Deep.Cut
import Derived.Test.YtofmkndhocinmaaGreatDoorMs32
set_option linter.all false
namespace Go.Proofs.YtofmkndhocinmaaGreatDoor
open Proofs.Tryz Go.RowKit Go.Deep
attribute [local go_sem ↓] Go.wp_at_zero Go.wp_at_succ
def zad (T:y8) (names:List (List UInt8)) (m L:Nat) (s:Int) (goal:List zm):Nat->Nat->Int
 | 0=>fun _=>0
 | t+1=>fun k=>zad T names m L s goal t k+YU T m L ((2*VJ names goal t:Nat):Int) (YT s goal t) k+YU T m L ((2*VJ names goal t+1:Nat):Int) (-(YT s goal t)) k
def xV (goal:List zm):Int:=Zs ((qOf [48]).den:Int) goal goal.length
structure zsf (T:y8) (names:List (List UInt8)) (m L:Nat) (goal:List zm):Prop where
 ok:zdv [48] goal
 nm:∀ t∈goal,zgn names t.name
 fit:∀ t,t<goal.length->Fit (YT (xV goal) goal t)
 len1:∀ t k,t<goal.length->k<L->len 4294967296 (zad T names m L (xV goal) goal t k).natAbs<=67108864
 len2:∀ t k,t<goal.length->k<L->len 4294967296 (zad T names m L (xV goal) goal t k+YU T m L ((2*VJ names goal t:Nat):Int) (YT (xV goal) goal t) k).natAbs<=67108864
 known:∀ u:Nat,u<2*names.length->xW T.basic (u:Int) m=none->xW T.other (u:Int) (L - 1)≠none
def y8.aimed (T:y8) (m:Nat) (f:Nat->Int):y8:={ T with cell:=fun i k=>if i=m then f k else T.cell i k }
theorem zr.ne {w:World} {b x:Nat} {cs:Array Value} {t:TypeId} {fr:Nat×Nat} (h:zr w b) (k:w.heap[x]?=some (.cells cs t fr)):x≠b:=by
 intro e
 subst e
 obtain ⟨D,⟨j,c,hb,_⟩,_⟩:=h
 rw [k] at hb;cases hb
theorem zX.read {base m L b:Nat} {F:zN} {w w' :World} {T:y8} (h:zX base m L F w T) (hB:zr w b) (hc:Chg (· =b) w w'):zX base m L F w' T:=by
 obtain ⟨⟨x,A,n,c,ng,u,C⟩,l,r,y,z,D,B⟩:=h
 have hS:∀ x,x=b->zK w x:=fun x e=>by subst e;exact hB.noDig
 have j:∀ e v size k xs,vJ w base e size v k xs->∀ c,v.ownBlock=some c->¬ c=b:=fun e v size k xs ho c hc2=>by
  obtain ⟨E,k2⟩:=ho.heap hc2
  exact hB.ne k2
 exact ⟨⟨x,A,n,c,ng,hc.blk u (hB.ne u),hc.num C hS⟩,l.chg hc (fun i hi=>by obtain ⟨cs,k1⟩:=(l.rows i hi).2.heap;exact hB.ne k1) (j _ _ _ _ _ l.own) hS,r.chg hc (j _ _ _ _ _ r),y.chg hc (j _ _ _ _ _ y),z,D,B⟩
structure zgs (w0:World) (base m L:Nat) (F:zN) (T:y8) (b gl gs:Nat) (tv:Value) (goal:List zm) (names:List (List UInt8)) (f:Nat->Int) (s:Int) (w:World):Prop where
 tab:zX base m L F w T
 row:xD w gl L L f
 box:ZD w gs s
 book:zr w b
 tms:zi w w0.heap.size tv goal
 nms:zT w base (.slice F.nA F.nn F.nc) names
 chg:Chg (· =b) w0 w
 lo:w0.heap.size<=gl
 hb:b<w0.heap.size
 ne:gs≠gl
 bs:base<=w0.heap.size
section
variable {w0 w w' :World} {base m L:Nat} {F:zN} {T:y8} {b gl gs:Nat} {tv:Value} {goal:List zm} {names:List (List UInt8)} {f f' :Nat->Int} {s:Int}
theorem zgs.below (h:zgs w0 base m L F T b gl gs tv goal names f s w) (hb:Below w.heap.size w w'):zgs w0 base m L F T b gl gs tv goal names f s w' :=
 ⟨h.tab.below hb,h.row.below hb,h.box.below hb,h.book.below hb,zi.below h.tms hb,h.nms.below hb,zC h.chg hb,h.lo,h.hb,h.ne,h.bs⟩
theorem zgs.read (h:zgs w0 base m L F T b gl gs tv goal names f s w) (hc:Chg (· =b) w w') (hb:zr w' b):zgs w0 base m L F T b gl gs tv goal names f s w' :=by
 refine ⟨h.tab.read h.book hc,h.row.chg hc ?_ (fun x e=>by subst e;exact h.book.noDig),h.book.keepBox hc h.box,hb,h.book.keepT hc h.tms,h.nms.chg hc (fun _ _ e=>by subst e;exact h.book.noCells),yg h.chg hc,h.lo,h.hb,h.ne,h.bs⟩
 obtain ⟨cs,k1⟩:=h.row.heap
 exact h.book.ne k1
theorem zX.far {w0:World} {x:Nat} (h0:zX base m L F w0 T) (h:zX base m L F w T) (hc:Chg (· =x) w w') (hx:w0.heap.size<=x) (hD:zK w x):zX base m L F w' T:=by
 have I:=h0.lt
 have J:=h0.mat.lt.2
 have G:=fun i hi=>(h0.mat.rows i hi).2.lt
 have E:=fun c hc=>(h0.bas.1.lt c hc).2
 have j:=fun c hc=>(h0.oth.1.lt c hc).2
 have hS:∀ y,y=x->zK w y:=fun y e=>by subst e;exact hD
 obtain ⟨⟨y,A,n,c,ng,z,r⟩,D,u,C,b,B,l⟩:=h
 refine ⟨⟨y,A,n,c,ng,hc.blk z (by omega),hc.num r hS⟩,D.chg hc (fun i hi=>by have:=G i hi;omega) (fun c hc2 e=>?_) hS,u.chg hc (fun c hc2 e=>by have:=E c hc2;omega),C.chg hc (fun c hc2 e=>by have:=j c hc2;omega),b,B,l⟩
 have:F.gm=c:=by simpa [Value.ownBlock] using hc2
 omega
theorem zgs.far {W:World} {x:Nat} (h0:zgs w0 base m L F T b gl gs tv goal names f s W) (h:zgs w0 base m L F T b gl gs tv goal names f s w) (hc:Chg (· =x) w w') (hx:W.heap.size<=x) (hD:zK w x):zgs w0 base m L F T b gl gs tv goal names f s w' :=by
 have l:=h0.row.lt;have u:=h0.box.lt;have r:=h0.book.lt
 have j:=h0.chg.size
 have z:=h0.bs
 have hS:∀ y,y=x->zK w y:=fun y e=>by subst e;exact hD
 exact ⟨h0.tab.far h.tab hc hx hD,h.row.chg hc (by omega) hS,h.box.chg hc (by omega) hS,h.book.chg hc (by omega) hS,h.tms.chg hc (fun y hy e=>by omega),h.nms.chg hc (fun y hy e=>by omega),h.chg.trans hc (fun y hy e=>by omega),h.lo,h.hb,h.ne,h.bs⟩
theorem zgs.rowed (h:zgs w0 base m L F T b gl gs tv goal names f s w) (hr:xD w' gl L L f') (hc:Chg (· =gl) w w') (hne:∀ i,i<=m->F.g i≠gl):zgs w0 base m L F T b gl gs tv goal names f' s w' :=by
 have j:∀ x,x=gl->zK w x:=fun x e=>by subst e;exact h.row.noDig
 have l:=h.lo
 have r:=h.hb
 have u:=h.bs
 exact ⟨h.tab.chgRow h.row hc hne,hr,h.box.chg hc h.ne j,h.book.chg hc (fun e=>by omega) j,h.tms.chg hc (fun x hx e=>by omega),h.nms.chg hc (fun x hx e=>by omega),h.chg.trans hc (fun x hx e=>by omega),h.lo,h.hb,h.ne,h.bs⟩
end
def AimR (w0:World) (base m L:Nat) (F:zN) (T:y8) (b gl gs g4:Nat) (tv:Value) (goal:List zm) (names:List (List UInt8)) (s:Int) (iv:Value) (wr:World):Prop:=
 ∃ t:Nat,t<=goal.length/\iv= .int .i64 t/\Hid (zgs w0 base m L F T b gl gs tv goal names (zad T names m L s goal t) s wr)/\Hid (Blk wr g4 60 #[.int .i64 0,.slice none 0 0,.bool false])
def zth (F:zN) (m gl:Nat):zN:={ F with g:=fun i=>if i=m then gl else F.g i }
theorem zX.chgX {base m L x:Nat} {F:zN} {w w' :World} {T:y8} (h:zX base m L F w T) (hc:Chg (· =x) w w') (hD:zK w x) (h1:F.gt≠x) (h2:F.gm≠x) (h3:∀ i,i<=m->F.g i≠x) (h4:∀ c,(F.bv.ownBlock=some c\/F.ov.ownBlock=some c)->c≠x):zX base m L F w' T:=by
 have hS:∀ y,y=x->zK w y:=fun y e=>by subst e;exact hD
 obtain ⟨⟨y,A,n,c,ng,k1,k2⟩,b,r,u,j,z,l⟩:=h
 refine ⟨⟨y,A,n,c,ng,hc.blk k1 h1,hc.num k2 hS⟩,b.chg hc (fun i hi=>h3 i (by omega)) (fun c hc2 e=>?_) hS,r.chg hc (fun c hc2 e=>h4 c (.inl hc2) e),u.chg hc (fun c hc2 e=>h4 c (.inr hc2) e),j,z,l⟩
 have:F.gm=c:=by simpa [Value.ownBlock] using hc2
 omega
theorem zX.put {base m L gl:Nat} {F:zN} {w:World} {T:y8} {f:Nat->Int} (h:zX base m L F w T) (hr:xD w gl L L f) (hb:base<=gl) (hne:∀ i,i<=m->F.g i≠gl):
 zX base m L (zth F m gl) (w.setCell ⟨F.gm,m,none⟩ (.slice (some ⟨gl,0,none⟩) L L)) (T.aimed m f):=by
 have r:Chg (· =F.gm) w (w.setCell ⟨F.gm,m,none⟩ (.slice (some ⟨gl,0,none⟩) L L)):=Chg.setCell (S:=(· =F.gm)) (Chg.refl w) (p:=⟨F.gm,m,none⟩) rfl _
 have G:∀ y,y=F.gm->zK w y:=fun y e=>by subst e;exact h.mat.own.2 _ rfl
 have U:∃ cs,w.heap[F.gm]?=some (.cells cs 126 (0,0)):=h.mat.own.heap rfl
 obtain ⟨cm,E⟩:=U
 obtain ⟨⟨y,A,n,c,ng,k1,k2⟩,z,N,J,R,Q,O⟩:=h
 have I:∀ e v size k xs,e≠126->vJ w base e size v k xs->∀ c,v.ownBlock=some c->¬ c=F.gm:=fun e v size k xs hne ho c hc2 b=>by
  obtain ⟨V,q⟩:=ho.heap hc2
  rw [b,E] at q
  injection q with q
  injection q with _ q _
  exact hne q.symm
 refine ⟨⟨y,A,n,c,ng,r.blk k1 (yZ k1 E (by decide)),r.num k2 G⟩,⟨?_,fun i j hi C e=>?_,fun i hi=>?_⟩,N.chg r (I _ _ _ _ _ (by decide) N),J.chg r (I _ _ _ _ _ (by decide) J),R,Q,O⟩
 . have K:=z.own.stored m (u:=zjq L gl) (zl6 _ _)
   have e:((List.range (m+1)).map fun i=>zjq L (F.g i)).set m (zjq L gl)=(List.range (m+1)).map fun i=>zjq L ((zth F m gl).g i):=by
    apply List.ext_getElem?
    intro j;rw [List.getElem?_set]
    rcases uL j (m+1) with C | C
    . by_cases B:m=j
      . subst B
        rw [if_pos rfl]
        simp [zth]
      rw [if_neg B]
      have:¬ j=m:=fun e=>B e.symm
      simp [zth,C,this]
    . have M:∀ f:Nat->Value,((List.range (m+1)).map f)[j]?=none:=fun f=>List.getElem?_eq_none (by simpa using C)
      rw [M,M]
      by_cases B:m=j
      . omega
      rw [if_neg B]
   rw [e] at K;exact K
 . have b:(if i=m then gl else F.g i)=if j=m then gl else F.g j:=e
   by_cases l:i=m
   . by_cases D:j=m
     . omega
     rw [if_pos l,if_neg D] at b;exact absurd b.symm (hne j (by omega))
   by_cases D:j=m
   . rw [if_neg l,if_pos D] at b;exact absurd b (hne i (by omega))
   rw [if_neg l,if_neg D] at b;exact z.inj i j hi C b
 . show base<=(if i=m then gl else F.g i)/\xD _ (if i=m then gl else F.g i) L L (fun k=>if i=m then f k else T.cell i k)
   by_cases l:i=m
   . simp only [if_pos l]
     exact ⟨hb,hr.chg r (by obtain ⟨cs,q⟩:=hr.heap;exact yZ q E (by decide)) G⟩
   simp only [if_neg l]
   exact ⟨(z.rows i hi).1,(z.rows i hi).2.chg r (by obtain ⟨cs,q⟩:=(z.rows i hi).2.heap;exact yZ q E (by decide)) G⟩
def zup (base m L:Nat) (F:zN) (T:y8) (b:Nat) (goal:List zm) (names:List (List UInt8)) (w:World) (e:Ending) (w' :World):Prop:=
 ∃ v gl,e= .returned v/\zM w' v (xV goal)/\zX base m L (zth F m gl) w' (T.aimed m (zad T names m L (xV goal) goal goal.length))/\zr w' b/\zT w' base (.slice F.nA F.nn F.nc) names/\Chg (fun x=>x=b\/x=F.gm) w w' /\w.heap.size<=gl
set_option maxRecDepth 100000 in
set_option maxHeartbeats 8000000 in
theorem zla (base m L:Nat) (F:zN) (T:y8) (b:Nat) (A:Option Addr) (n c:Nat) (goal:List zm) (names:List (List UInt8)) (w:World) (hT:zX base m L F w T) (aB:F.bk=some b) (hB:zr w b) (hg:zZ w (.slice A n c) goal)
 (hn:zT w base (.slice F.nA F.nn F.nc) names) (hok:zsf T names m L goal) (hf:T.Fits m L) (hm:m<=100000) (hm0:0<m) (hL:L<=1000) (hbase:base<=w.heap.size):
 Calls prog 74 #[.pointer (some ⟨F.gt,0,none⟩),.slice A n c] w (zup base m L F T b goal names w):=by
 obtain rfl:=hg.len
 have bz:=hn.len
 have b6:=hg.bound
 have r:=zf w (.cells #[.int .i64 0,.slice none 0 0,.bool false] 60)
 have l:=ze (Blk.new w 60 #[.int .i64 0,.slice none 0 0,.bool false])
 have I:=ze (hT.below r)
 have N:=ze (hB.below r)
 have Q:=ze (zi.below hg r)
 have D:=ze (hn.below r)
 have HC:Hid (Chg (· =b) w (w.alloc (.cells #[.int .i64 0,.slice none 0 0,.bool false] 60))):=Chg.of_below r
 have bh:=ze hB.lt
 obtain ⟨af,HF,bm,aK⟩:=hz4 hok hf bz hbase
 have bE:=ze (show F.gm<w.heap.size from hT.mat.lt.2)
 have bQ:=ze (fun i (hi:i<=m)=>(hT.mat.rows i (by omega)).2.lt)
 have bo:=ze aB
 have bV:=ze (show ∀ c,(F.bv.ownBlock=some c\/F.ov.ownBlock=some c)->c<w.heap.size from fun c h=>h.elim (fun h=>(hT.bas.1.lt c h).2) (fun h=>(hT.oth.1.lt c h).2))
 have bY:=ze hT.lt
 clear hT hB hg hn hok hf r bz hbase aB
 go_in
 go_upto_region 1 with fail
 generalize w.alloc (.cells #[.int .i64 0,.slice none 0 0,.bool false] 60)=W0 at l I N Q D HC |-
 obtain ⟨G,aZ⟩:=uQ w.heap.size
 rw [<- aZ] at l |-
 have aj:Hid (w.heap.size<=G):=Nat.le_of_eq aZ.symm
 clear aZ
 have c0:W0.cell? ⟨F.gt,0,none⟩=some (.map (some b)):=by
  obtain ⟨⟨x,A,n,c,ng,O,_⟩,_⟩:=I.o
  rw [O.cell, <- bo.o];rfl
 have bb:=zdg b A goal.length c [48] goal W0 N.o (Q.o.more HC.o.size) (by unfold zB;decide) af.o.ok
 have bx:=ze bb
 clear bb
 go_wp2_with fail
 refine bx.o.mono ?_
 rintro e w2 ⟨v,rfl,hv,ag,B⟩
 obtain ⟨x2,A2,k2,c2,s2,rfl,_,_,_⟩:=hv.form
 have aF:=N.o.keepBlk B l.o
 replace I:=ze (I.o.read N.o B)
 replace Q:=ze (N.o.keepT B Q.o)
 replace D:=ze (D.o.chg B (fun _ _ e=>by subst e;exact N.o.noCells))
 replace HC:=ze (yg HC.o B)
 replace N:=ze ag
 have r:=zf w2 (.cells #[.int .i64 x2,.slice A2 k2 c2,.bool s2] 60)
 have ab:Hid (ZD (w2.alloc (.cells #[.int .i64 x2,.slice A2 k2 c2,.bool s2] 60)) w2.heap.size (xV goal)):=⟨_,_,_,_,_,Blk.new _ _ _,hv.below r⟩
 replace l:=ze (aF.below r aF.lt)
 replace I:=ze (I.o.below r)
 replace Q:=ze (zi.below Q.o r)
 replace D:=ze (D.o.below r)
 replace N:=ze (N.o.below r)
 have an:Hid (G<w2.heap.size):=aF.lt
 replace HC:=ze (zC HC.o r)
 clear r aF ag B hv bx c0
 go_upto_region 2 with fail
 generalize w2.alloc (.cells #[.int .i64 x2,.slice A2 k2 c2,.bool s2] 60)=W3 at ab l I Q D N HC |-
 generalize w2.heap.size=gs at ab an |-
 obtain ⟨go,co,eo,b1,bZ⟩:=I.o.others
 have t8:=I.o.cell8
 have bM:=I.o.lt2
 rw [eo] at t8
 have e1:IntKind.i64.wrap (((L - 1:Nat):Int)+1)=(L:Int):=by rw [IntKind.wrap_i64];omega
 have bJ:=fun w=>zb6 .i64 L hL w
 go_upto_region 3 with fail
 have r:=zf W3 (.cells (yD L) 60)
 have a0:=ze ab.o.lt
 have j:Hid (zgs w base m L F T b W3.heap.size gs (.slice A goal.length c) goal names (zad T names m L (xV goal) goal 0) (xV goal) (W3.alloc (.cells (yD L) 60))):=
  ⟨I.o.below r,zev W3 L,ab.o.below r,N.o.below r,zi.below Q.o r,D.o.below r,zC HC.o r,HC.o.size,bh.o,(by have:=a0.o;omega),aK.o⟩
 replace l:=kb_ l r
 have aH:Hid (G≠W3.heap.size):=by have:=an.o;have:=a0.o;show _≠_;omega
 have ao:Hid (∀ i,i<=m->F.g i≠W3.heap.size):=fun i hi=>by have:=(I.o.mat.rows i (by omega)).2.lt;omega
 clear r bJ e1 t8 eo b1 bZ bM I Q D N HC ab a0
 generalize W3.alloc (.cells (yD L) 60)=W4 at j l |-
 generalize W3.heap.size=gl at j ao aH |-
 have bI:Hid (G≠b):=by have:=aj.o;have:=bh.o;show _≠_;omega
 have aX:=fun w' (h:zr w' b) (s:List UInt8) (hs:zB s)=>xK b ⟨s.toArray⟩ w' h (by rw [<- zq,xf];exact hs)
 simp only [xf] at aX
 have bf:=ze aX
 clear aX an
 go_wp2
 go_loopw [30] (AimR w base m L F T b gl gs G (.slice A goal.length c) goal names (xV goal)) (fun iv _=>goal.length - (intOf iv).toNat)
 case atStart=>exact ⟨0,uB,rfl,j,l⟩
 case round=>
  clear j l
  obtain ⟨t,ht,rfl,j,l⟩:=hrel
  by_cases ak:t<goal.length
  rotate_left
  . obtain rfl:goal.length=t:=by omega
    have J:=j.o.tab.cell1;have t3:=j.o.tab.cell3;have b8:(m:Int)<(m:Int)+1:=by omega
    have cm:=j.o.tab.mat.cell (i:=m) (by omega);have fm:=j.o.tab.mat.frozen m;have bS:=ze (fun i hi=>(j.o.tab.mat.rows i hi).1)
    go_upto_region 12 with fail
    go_region
    have bC:=j.o.tab.put j.o.row (by have:=j.o.lo;have:=aK.o;omega) ao.o;have ar:Chg (· =F.gm) wr (wr.setCell ⟨F.gm,m,none⟩ (.slice (some ⟨gl,0,none⟩) L L)):=Chg.setCell (S:=(· =F.gm)) (Chg.refl wr) (p:=⟨F.gm,m,none⟩) rfl _;have aq:∃ cs,wr.heap[F.gm]?=some (.cells cs 126 (0,0)):=j.o.tab.mat.own.heap rfl;obtain ⟨b5,aq⟩:=aq;have aW:∀ y,y=F.gm->zK wr y:=fun y e=>by subst e;exact j.o.tab.mat.own.2 _ rfl
    have ah:ZD (wr.setCell ⟨F.gm,m,none⟩ (.slice (some ⟨gl,0,none⟩) L L)) gs (xV goal):=j.o.box.chg ar (fun e=>by
     obtain ⟨x,A,n,c,ng,O,_⟩:=j.o.box
     exact yZ O aq (by decide) e) aW
    have aB:zr (wr.setCell ⟨F.gm,m,none⟩ (.slice (some ⟨gl,0,none⟩) L L)) b:=j.o.book.chg ar (fun e=>j.o.book.ne aq e.symm) aW;have bc:zT (wr.setCell ⟨F.gm,m,none⟩ (.slice (some ⟨gl,0,none⟩) L L)) base (.slice F.nA F.nn F.nc) names:=j.o.nms.chg ar (fun y hy e=>by have:=j.o.tab.mat.lt.1;omega);have C:=ar.blk l.o (yZ l.o aq (by decide));have bs:Chg (fun x=>x=b\/x=F.gm) w (wr.setCell ⟨F.gm,m,none⟩ (.slice (some ⟨gl,0,none⟩) L L)):=(j.o.chg.mono (T:=fun x=>x=b\/x=F.gm) (fun y _ e=>.inl e)).trans ar (fun y _ e=>.inr e);have am:=zt (vG (wr.setCell ⟨F.gm,m,none⟩ (.slice (some ⟨gl,0,none⟩) L L))) 1;have aI:=ze (bC.below am);have ab:=ze (ah.below am);have aG:=ze (aB.below am);have D:=ze (bc.below am);have aa:=ze (C.below am C.lt);have aS:Hid (Chg (fun x=>x=b\/x=F.gm) w (wr.setCell ⟨F.gm,m,none⟩ (.slice (some ⟨gl,0,none⟩) L L)).drew):=zC bs am;have bK:=ze j.o.lo;clear bC ar aq aW ah aB bc C bs am j l J t3 cm fm bS
    change Hid (zX _ _ _ _ (wr.setCell ⟨F.gm,m,none⟩ (.slice (some ⟨gl,0,none⟩) L L)).drew _) at aI
    change Hid (ZD (wr.setCell ⟨F.gm,m,none⟩ (.slice (some ⟨gl,0,none⟩) L L)).drew _ _) at ab
    change Hid (zr (wr.setCell ⟨F.gm,m,none⟩ (.slice (some ⟨gl,0,none⟩) L L)).drew _) at aG
    change Hid (zT (wr.setCell ⟨F.gm,m,none⟩ (.slice (some ⟨gl,0,none⟩) L L)).drew _ _ _) at D
    change Hid (Blk (wr.setCell ⟨F.gm,m,none⟩ (.slice (some ⟨gl,0,none⟩) L L)).drew _ _ _) at aa
    generalize (wr.setCell ⟨F.gm,m,none⟩ (.slice (some ⟨gl,0,none⟩) L L)).drew=W8 at aI ab aG D aa aS |-;obtain ⟨sx,sA,sn,sc,sg,al,av⟩:=ab.o;have z0:=al.cell 0;have z1:=al.cell 1;have z2:=al.cell 2;have r0:=aa.o.cell 0;have r1:=aa.o.cell 1;have r2:=aa.o.cell 2;obtain ⟨f0,f1,f2⟩:=fq3 aa;simp at z0 z1 z2 r0 r1 r2
    have aQ:zK W8 G:=aa.o.noDig (vH (by
     intro u hu;simp at hu
     rcases hu with rfl | rfl | rfl
     . exact x8 _
     . exact zH _ _ _
     . exact Zl _))
    have aE:=yo (x:=sx) (A:=sA) (k:=sn) (c:=sc) (ng:=sg) aa.o;have e0:=aE.cell 0;have e1:=aE.cell 1;have e2:=aE.cell 2;simp only [World.num] at e0 e1 e2;simp at e0 e1 e2;have ax:Chg (· =G) W8 (World.num W8 G sx sA sn sc sg):=Z8;have bU:=ze (zy (x:=sx) (A:=sA) (k:=sn) (c:=sc) (ng:=sg) av aa.o)
    have bT:=ze (aI.o.chgX ax aQ (by have:=bY.o;have:=aj.o;show F.gt≠G;omega) (by have:=bE.o;have:=aj.o;show F.gm≠G;omega) (fun i hi=>by
     show (if i=m then gl else F.g i)≠G
     by_cases i1:i=m
     . rw [if_pos i1];exact fun e=>aH.o e.symm
     rw [if_neg i1];have:=bQ.o i hi;have:=aj.o;omega) (fun c hc=>by have:=bV.o c hc;have:=aj.o;omega))
    have b3:=ze (aG.o.chg ax (fun e=>bI.o e.symm) (fun y e=>by subst e;exact aQ));have bX:=ze (D.o.chg ax (fun y hy e=>by have:=aj.o;have:=aK.o;omega));have b4:Hid (Chg (fun x=>x=b\/x=F.gm) w (World.num W8 G sx sA sn sc sg)):=aS.o.trans ax (fun y hy e=>by have:=aj.o;omega);clear aE ax aQ al av aI ab aG D aa aS;go_wp2_with fail;refine bodyPost_ret (v:=.agg #[.int .i64 sx,.slice sA sn sc,.bool sg]) (by simp [results,results74,go_sem,e0,e1,e2]) rfl ?_;exact ⟨_,gl,rfl,bU.o,bT.o,b3.o,bX.o,b4.o,bK.o⟩
  have b9:(t:Int)<(goal.length:Int):=by omega
  obtain ⟨ad,eA,bG,p0,p1,bR,a8⟩:=j.o.tms.at_ ak;subst eA;have a2:=xGD (d:=default) ak;have au:=ze (af.o.nm _ (uO ak));have aO:=ze (af.o.ok.good _ (uO ak));have bg:=ze a2;have aM:=ze a8;have bB:=ze (af.o.fit t ak);have bL:=ze (fun k hk=>af.o.len1 t k ak hk);have bP:=ze (fun k hk=>af.o.len2 t k ak hk);have r:=zf wr (.cells #[str goal[t].name,str goal[t].coef] 38);have R:=ze (Blk.new wr 38 #[str goal[t].name,str goal[t].coef]);replace j:=ze (j.o.below r);replace l:=kb_ l r;clear r bR a8 a2
  go_upto_region 6 with fail
  clear p0 p1 bG;generalize wr.alloc (.cells #[str goal[t].name,str goal[t].coef] 38)=W1 at R j l |-;generalize wr.heap.size=gk at R |-;have p0:=(bq1 R).1;have kL:=R.o.lt;have t2:=j.o.tab.cell2;have tL:=j.o.tab.lt;have aJ:=fun w' (h:zT w' base (.slice F.nA F.nn F.nc) names)=>Ve F.nA F.nn F.nc names goal[t].name base _ w' h au.o.lt au.o.at_ au.o.lo au.o.hi (by have:=bm.o;have:=j.o.tab.cols;omega)
  have aT:=au.o.lt;obtain ⟨p,hp⟩:=uR (names.idxOf goal[t].name);have br:Hid (VJ names goal t=p):=by show VJ _ _ _=_;unfold VJ;rw [bg.o];exact hp
  rw [hp] at aJ aT;have bA:=ze aJ;have aP:=ze aT;clear aJ hp aT;have E:∀ w',Hid (Below W1.heap.size W1 w')->w'.cell? ⟨F.gt,2,none⟩=some (.slice F.nA F.nn F.nc)/\w'.cell? ⟨gk,0,none⟩=some (str goal[t].name):=fun w' hB=>⟨zk hB tL t2,zk hB kL p0⟩
  refine xb E 6 5 11 (zw W1) fun z=>?_;simp only [xDR]
  iterate 6 refine zP ?_
  refine zD ?_;refine rK 6 fun K hK=>?_
  go_simp
  go_at_call 110;refine (bA.o _ (j.o.nms.below z.1.out)).mono ?_;rintro e w9 ⟨rfl,rfl⟩;refine hK.out _ _ (zl (z.1) (E _)) ?_;clear hK K z;intro z
  try simp only [Act.put,xST]
  clear bA p0 kL t2 tL;refine tK 7 ?_;refine tK 8 ?_;refine tK 9 ?_;refine tK 10 ?_;have aD:=(z.1).out
  try clear z0 z1 z2 zL k0 k1 kL
  replace j:=ze (zgs.below j.o aD);replace l:=kb_ l aD;replace R:=kb_ R aD;clear aD z E;refine hdn ?_;simp only [xDR];obtain ⟨z0,z1,z2,zL⟩:=bkc3 l.o;obtain ⟨k0,k1,kL⟩:=ztz R.o;clear z0 z1 z2 zL k0 kL
  go_upto_region 7 with fail
  generalize W1.drew=W2 at j l R |-
  go_cut [11] from 44 to 71 (fun sx wc=>∃ (gc:Nat) (x1:Int) (V:Option Addr) (k1 c1:Nat) (s1:Bool) (Y:Int) (X:Option Addr) (Z ac:Nat) (J:Bool),sx= .pointer (some ⟨gc,0,none⟩)/\Hid (Blk wc gc 62 #[.int .i64 x1,.slice V k1 c1,.bool s1,.int .i64 Y,.slice X Z ac,.bool J])/\Hid (zE wc (.agg #[.int .i64 x1,.slice V k1 c1,.bool s1,.int .i64 Y,.slice X Z ac,.bool J]) (qOf goal[t].coef))/\
   Hid (zgs w base m L F T b gl gs (.slice (some ad) goal.length c) goal names (zad T names m L (xV goal) goal t) (xV goal) wc)/\Hid (Blk wc G 60 #[.int .i64 0,.slice none 0 0,.bool false]))
  case first=>
   have c0:W2.cell? ⟨F.gt,0,none⟩=some (.map (some b)):=by
    obtain ⟨⟨x,A,n,c,ng,O,_⟩,_⟩:=j.o.tab;rw [O.cell, <- bo.o];rfl
   have b2:¬ F.gt=b:=by
    obtain ⟨⟨x,A,n,c,ng,O,_⟩,_⟩:=j.o.tab;exact j.o.book.ne O
   have bH:¬ gk=b:=j.o.book.ne R.o;have p1:=R.o.cell 1;simp at p1;have E:∀ w',Hid (Chg (fun x=>x=b) W2 w')->w'.cell? ⟨F.gt,0,none⟩=some (.map (some b))/\w'.cell? ⟨gk,1,none⟩=some (str goal[t].coef):=fun w' hB=>⟨xu hB c0 b2,xu hB p1 bH⟩
   refine xb E 6 6 12 (vj W2) fun z=>?_;simp only [xDR]
   iterate 6 refine zP ?_
   refine zD ?_;refine HH.ready (rs:=[6,10]) (by kernel_rfl) (by simp) (by kernel_rfl) ?_;refine Za.cons (o:=_) rfl (fun K hK=>?_) (Za.cons (o:=_) rfl (fun K hK=>?_) Za.nil)
   . skip
     go_simp
     go_at_call 44;have aL:=(zw W2).out;replace j:=ze (j.o.below aL);replace l:=kb_ l aL;clear aL;refine (bf.o _ j.o.book _ aM.o).mono ?_;rintro e w4 ⟨v,b0,rfl,⟨x1,V,k1,c1,s1,Y,X,Z,ac,J,rfl⟩,aR,hq,ag,B⟩;have ay:=hq _ (Xt aO.o.1);have C:=j.o.book.keepBlk B l.o;replace j:=ze (j.o.read B ag);replace l:=ze C;have HQ:=ze ay;refine hK.out _ _ (zl (Zh B z.1) (E _)) ?_;clear hK K z;intro z
     try simp only [Act.put,xST]
     have a7:Hid (Chg (fun x=>x=b) W2 (w4.alloc (.cells #[.int .i64 x1,.slice V k1 c1,.bool s1,.int .i64 Y,.slice X Z ac,.bool J] 62))):=xM (zf _ _) z.1;clear B ag ay C hq aR;refine tK 7 ?_;refine tK 8 ?_;refine tK 9 ?_;refine rK 10 fun K hK=>?_
     go_simp
     refine hK.out _ _ (zl (xM (zf _ _) z.1) (E _)) ?_;clear hK K z;intro z
     try simp only [Act.put,xST]
     refine rK 11 fun K hK=>?_
     go_simp
     refine hK.out _ _ (zl (a7) (E _)) ?_;clear hK K z;intro z
     try simp only [Act.put,xST]
     clear a7;clear z E;refine hdn ?_;simp only [xDR];go_wp2;go_meet;have r:=zf w4 (.cells #[.int .i64 x1,.slice V k1 c1,.bool s1,.int .i64 Y,.slice X Z ac,.bool J] 62);exact ⟨w4.heap.size,_,_,_,_,_,_,_,_,_,_,rfl,Blk.new _ _ _,HQ.o.below r,j.o.below r,l.o.below r l.o.lt⟩
   skip
   go_simp
   have ah:=(vz W2 (.cells #[.int .i64 0,.slice none 0 0,.bool false,.int .i64 0,.slice none 0 0,.bool false] 62)).out;have M:Hid (Blk (W2.alloc (.cells #[.int .i64 0,.slice none 0 0,.bool false,.int .i64 0,.slice none 0 0,.bool false] 62)).drew W2.heap.size 62 #[.int .i64 0,.slice none 0 0,.bool false,.int .i64 0,.slice none 0 0,.bool false]):=(Blk.new W2 _ _).drew;have a6:=j;replace j:=ze (j.o.below ah);have bd:=l;replace l:=kb_ l ah;have ap:Hid (Chg (fun x=>x=b) W2 (W2.alloc (.cells #[.int .i64 0,.slice none 0 0,.bool false,.int .i64 0,.slice none 0 0,.bool false] 62)).drew):=Chg.of_below ah;refine hK.out _ _ (zl (ap) (E _)) ?_;clear hK K z;intro z
   try simp only [Act.put,xST]
   clear ap ah;refine rK 6 fun K hK=>?_
   go_simp
   go_at_call 44;refine (bf.o _ j.o.book _ aM.o).mono ?_;rintro e w4 ⟨v,b0,rfl,⟨x1,V,k1,c1,s1,Y,X,Z,ac,J,rfl⟩,aR,hq,ag,B⟩;have ay:=hq _ (Xt aO.o.1);have C:=j.o.book.keepBlk B l.o;have bw:=j.o.book.keepBlk B M.o;replace j:=ze (j.o.read B ag);replace l:=ze C;replace M:=ze bw;have HQ:=ze ay;refine hK.out _ _ (zl (Zh B z.1) (E _)) ?_;clear hK K z;intro z
   try simp only [Act.put,xST]
   clear B ag ay C hq aR bw;refine tK 7 ?_;refine tK 8 ?_;refine tK 9 ?_;have z0:=M.o.cell 0;have z1:=M.o.cell 1;have z2:=M.o.cell 2;have z3:=M.o.cell 3;have z4:=M.o.cell 4;have z5:=M.o.cell 5;obtain ⟨f0,f1,f2,f3,f4,f5⟩:=fq6 M;simp at z0 z1 z2 z3 z4 z5;have az:Chg (· =W2.heap.size) w4 (World.rat w4 W2.heap.size x1 V k1 c1 s1 Y X Z ac J):=Chg.ratSet;have aY:zK w4 W2.heap.size:=M.o.noDig (Ym _ _ _ _ _ _ _ _ _ _);have a5:=ze (a6.o.far j.o az (uA) aY);have ba:=ze (az.rat HQ.o (fun y e=>by subst e;exact aY));have bN:=ze (((((((M.o.set_ 0 (.int .i64 x1)).set_ 1 (.slice V k1 c1)).set_ 2 (.bool s1)).set_ 3 (.int .i64 Y)).set_ 4 (.slice X Z ac)).set_ 5 (.bool J)));have bq:=ze (az.blk l.o (by have:=bd.o.lt;omega));have ap:Hid (Chg (fun x=>x=b) W2 (World.rat w4 W2.heap.size x1 V k1 c1 s1 Y X Z ac J)):=z.1.out.trans az (fun y hy e=>by omega)
   clear j HQ M l az aY a6 bd;simp only [World.rat] at ap a5 ba bq;refine rK 11 fun K hK=>?_
   go_simp
   refine hK.out _ _ (zl (ap) (E _)) ?_;clear hK K z;intro z
   try simp only [Act.put,xST]
   clear ap z0 z1 z2 z3 z4 z5 f0 f1 f2 f3 f4 f5;clear z E;refine hdn ?_;simp only [xDR];go_wp2;go_meet;exact ⟨W2.heap.size,_,_,_,_,_,_,_,_,_,_,rfl,bN.o,ba.o,a5.o,bq.o⟩
  case rest=>
   clear j R l aM;obtain ⟨gc,x1,V,k1,c1,s1,Y,X,Z,ac,J,rfl,aU,HQ,j,l⟩:=hcut;generalize wc=W5 at aU HQ j l |-;obtain ⟨q0,q1,q2,q3,q4,q5,_⟩:=bq6 aU;obtain ⟨sx,sA,sn,sc,sg,al,av⟩:=j.o.box;obtain ⟨z0,z1,z2,_⟩:=bp3 al;have bp:=zba _ _ _ _ W5 HQ.o av aO.o.2 (by have:=(af.o.ok.fit goal.length (uA)).1;exact uC this (by omega));have Q:=ze bp;have an:=ze j.o.row.lt;clear al av bp;go_wp2_with fail;refine Q.o.mono ?_;rintro e w7 ⟨v,rfl,hv,a1⟩;clear q0 q1 q2 q3 q4 q5 z0 z1 z2 Q aU HQ;obtain ⟨x4,A4,k4,c4,s4,rfl,_,_,_⟩:=hv.form;have bW:Hid (vQ (qOf goal[t].coef) (xV goal)=YT (xV goal) goal t):=by show _=_;unfold YT;rw [bg.o]
   rw [bW.o] at hv;have aV:=zf w7 (.cells #[.int .i64 x4,.slice A4 k4 c4,.bool s4] 60);have r:=ext a1 aV;have ai:=ze (Blk.new w7 60 #[.int .i64 x4,.slice A4 k4 c4,.bool s4]);have a4:Hid (¬ w7.heap.size=gl):=by have:=an.o;have:=a1.size;show ¬ _;omega
   replace j:=ze (j.o.below r);replace l:=kb_ l r;have HV:=ze (hv.below aV);clear r aV hv a1 an
   go_upto_region 9 with fail
   generalize w7.alloc (.cells #[.int .i64 x4,.slice A4 k4 c4,.bool s4] 60)=W7 at j l ai HV |-;generalize w7.heap.size=gv at ai a4 |-;obtain ⟨q0,q1,q2,_⟩:=bq3 ai;obtain ⟨U1,be⟩:∃ U,U=2*p:=⟨_,rfl⟩;obtain ⟨U2,bn⟩:∃ U,U=2*p+1:=⟨_,rfl⟩;have bF:p<1000:=by have:=aP.o;have:=bm.o;have:=j.o.tab.cols;omega
   have e1:IntKind.i64.wrap (2*(p:Int))=(U1:Int):=by rw [IntKind.wrap_i64];omega
   have e2:IntKind.i64.wrap ((U1:Int)+1)=(U2:Int):=by rw [IntKind.wrap_i64];omega
   have a9:=ze be;have bl:=ze bn;have aA:=VO base m L F T gl _ (U1:Int) _ _ W7 j.o.tab j.o.row HV.o ao.o HF.o bB.o (fun k hk=>bL.o k hk) hm (by omega) hm0 (af.o.known U1 (by have:=aP.o;omega));have aC:=ze aA;clear aA be bn bF;go_wp2_with fail;refine aC.o.mono ?_;rintro e w8 ⟨rfl,aw,ae⟩;have bi:=ae.blk ai.o a4.o;have bD:=ae.num HV.o (fun y e=>by subst e;exact j.o.row.noDig);have C:=ae.blk l.o aH.o;replace j:=ze (j.o.rowed aw ae ao.o);replace ai:=ze bi;replace HV:=ze bD;replace l:=ze C;clear aw ae bi bD C aC q0 q1 q2;obtain ⟨q0,q1,q2,_⟩:=bq3 ai;have a3:=yK _ _ w8 HV.o;have bj:=ze a3;clear a3;go_wp2_with fail;refine bj.o.mono ?_;rintro e w9 ⟨v9,rfl,bu,aN⟩;replace j:=ze (j.o.below aN);replace l:=kb_ l aN
   have aA:=VO base m L F T gl _ (U2:Int) _ _ w9 j.o.tab j.o.row bu ao.o HF.o bB.o.neg (fun k hk=>by
    have O:=bP.o k hk;rw [br.o, <- a9.o] at O
    exact O) hm (by omega) hm0 (af.o.known U2 (by have:=aP.o;have:=bl.o;omega))
   have aC:=ze aA;clear aA aN bu bj q0 q1 q2 ai HV;go_wp2_with fail;refine aC.o.mono ?_;rintro e b7 ⟨rfl,aw,ae⟩;have C:=ae.blk l.o aH.o;replace j:=ze (j.o.rowed aw ae ao.o);replace l:=ze C;clear aw ae C aC
   have bO:Hid ((fun k=>(fun k=>zad T names m L (xV goal) goal t k+YU T m L (U1:Int) (YT (xV goal) goal t) k) k+YU T m L (U2:Int) (-(YT (xV goal) goal t)) k)=zad T names m L (xV goal) goal (t+1)):=by
    show _=_
    funext k
    show _=_+YU T m L ((2*VJ names goal t:Nat):Int) _ k+YU T m L ((2*VJ names goal t+1:Nat):Int) _ k
    have O:=a9.o;have h2:=bl.o;rw [br.o, <- O,show U1+1=U2 by omega]
   rw [bO.o] at j;go_wp2;go_roundw
   case rel=>first | exact ⟨t+1,by omega,by go_num,j,l⟩ | ((repeat apply Exists.intro);refine ⟨?_,rfl⟩;exact ⟨t+1,by omega,by go_num,j,l⟩)
   case measure=>simp [intOf];omega
end Go.Proofs.YtofmkndhocinmaaGreatDoor
