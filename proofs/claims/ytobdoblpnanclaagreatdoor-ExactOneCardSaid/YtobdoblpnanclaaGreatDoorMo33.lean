/- Parts of the proof. -/
import Derived.Deep.Cut
import Derived.Test.YtobdoblpnanclaaGreatDoorMo32
set_option linter.all false
namespace Go.Proofs.YtobdoblpnanclaaGreatDoor
open Proofs.Tryz Go.RowKit Go.Deep
attribute [local go_sem ↓] Go.wp_at_zero Go.wp_at_succ
def YJ (T:zk) (names:List (List UInt8)) (m L:Nat) (s:Int) (goal:List zr):Nat->Nat->Int
 | 0=>fun _=>0
 | t+1=>fun k=>YJ T names m L s goal t k+Xy T m L ((2*xR names goal t:Nat):Int) (yW s goal t) k+Xy T m L ((2*xR names goal t+1:Nat):Int) (-(yW s goal t)) k
def yq (goal:List zr):Int:=xi ((qOf [48]).den:Int) goal goal.length
structure zl4 (T:zk) (names:List (List UInt8)) (m L:Nat) (goal:List zr):Prop where
 ok:ze7 [48] goal
 nm:∀ t∈goal,X2 names t.name
 fit:∀ t,t<goal.length->Fit (yW (yq goal) goal t)
 len1:∀ t k,t<goal.length->k<L->len 4294967296 (YJ T names m L (yq goal) goal t k).natAbs<=67108864
 len2:∀ t k,t<goal.length->k<L->len 4294967296 (YJ T names m L (yq goal) goal t k+Xy T m L ((2*xR names goal t:Nat):Int) (yW (yq goal) goal t) k).natAbs<=67108864
 known:∀ u:Nat,u<2*names.length->xE T.basic (u:Int) m=none->xE T.other (u:Int) (L - 1)≠none
def zk.aimed (T:zk) (m:Nat) (f:Nat->Int):zk:={ T with cell:=fun i k=>if i=m then f k else T.cell i k }
theorem zu.ne {w:World} {b x:Nat} {cs:Array Value} {t:TypeId} {fr:Nat×Nat} (h:zu w b) (k:w.heap[x]?=some (.cells cs t fr)):x≠b:=by
 intro e
 subst e
 obtain ⟨D,⟨j,c,hb,_⟩,_⟩:=h
 rw [k] at hb;cases hb
theorem zI.read {base m L b:Nat} {F:zG} {w w' :World} {T:zk} (h:zI base m L F w T) (hB:zu w b) (hc:Chg (· =b) w w'):zI base m L F w' T:=by
 obtain ⟨⟨x,A,n,c,ng,u,E⟩,l,r,y,B,G,D⟩:=h
 have hS:∀ x,x=b->zO w x:=fun x e=>by subst e;exact hB.noDig
 have j:∀ e v size k xs,vE w base e size v k xs->∀ c,v.ownBlock=some c->¬ c=b:=fun e v size k xs ho c hc2=>by
  obtain ⟨I,C⟩:=ho.heap hc2
  exact hB.ne C
 exact ⟨⟨x,A,n,c,ng,hc.blk u (hB.ne u),hc.num E hS⟩,l.chg hc (fun i hi=>by obtain ⟨cs,z⟩:=(l.rows i hi).2.heap;exact hB.ne z) (j _ _ _ _ _ l.own) hS,r.chg hc (j _ _ _ _ _ r),y.chg hc (j _ _ _ _ _ y),B,G,D⟩
structure zig (w0:World) (base m L:Nat) (F:zG) (T:zk) (b gl gs:Nat) (tv:Value) (goal:List zr) (names:List (List UInt8)) (f:Nat->Int) (s:Int) (w:World):Prop where
 tab:zI base m L F w T
 row:xq w gl L L f
 box:Z3 w gs s
 book:zu w b
 tms:zh w w0.heap.size tv goal
 nms:zT w base (.slice F.nA F.nn F.nc) names
 chg:Chg (· =b) w0 w
 lo:w0.heap.size<=gl
 hb:b<w0.heap.size
 ne:gs≠gl
 bs:base<=w0.heap.size
section
variable {w0 w w' :World} {base m L:Nat} {F:zG} {T:zk} {b gl gs:Nat} {tv:Value} {goal:List zr} {names:List (List UInt8)} {f f' :Nat->Int} {s:Int}
theorem zig.below (h:zig w0 base m L F T b gl gs tv goal names f s w) (hb:Below w.heap.size w w'):zig w0 base m L F T b gl gs tv goal names f s w' :=
 ⟨h.tab.below hb,h.row.below hb,h.box.below hb,h.book.below hb,zh.below h.tms hb,h.nms.below hb,zD h.chg hb,h.lo,h.hb,h.ne,h.bs⟩
theorem zig.read (h:zig w0 base m L F T b gl gs tv goal names f s w) (hc:Chg (· =b) w w') (hb:zu w' b):zig w0 base m L F T b gl gs tv goal names f s w' :=by
 refine ⟨h.tab.read h.book hc,h.row.chg hc ?_ (fun x e=>by subst e;exact h.book.noDig),h.book.keepBox hc h.box,hb,h.book.keepT hc h.tms,h.nms.chg hc (fun _ _ e=>by subst e;exact h.book.noCells),yp h.chg hc,h.lo,h.hb,h.ne,h.bs⟩
 obtain ⟨cs,j⟩:=h.row.heap
 exact h.book.ne j
theorem zI.far {w0:World} {x:Nat} (h0:zI base m L F w0 T) (h:zI base m L F w T) (hc:Chg (· =x) w w') (hx:w0.heap.size<=x) (hD:zO w x):zI base m L F w' T:=by
 have I:=h0.lt
 have J:=h0.mat.lt.2
 have G:=fun i hi=>(h0.mat.rows i hi).2.lt
 have E:=fun c hc=>(h0.bas.1.lt c hc).2
 have j:=fun c hc=>(h0.oth.1.lt c hc).2
 have hS:∀ y,y=x->zO w y:=fun y e=>by subst e;exact hD
 obtain ⟨⟨y,A,n,c,ng,z,r⟩,D,u,C,b,B,l⟩:=h
 refine ⟨⟨y,A,n,c,ng,hc.blk z (by omega),hc.num r hS⟩,D.chg hc (fun i hi=>by have:=G i hi;omega) (fun c hc2 e=>?_) hS,u.chg hc (fun c hc2 e=>by have:=E c hc2;omega),C.chg hc (fun c hc2 e=>by have:=j c hc2;omega),b,B,l⟩
 have:F.gm=c:=by simpa [Value.ownBlock] using hc2
 omega
theorem zig.far {W:World} {x:Nat} (h0:zig w0 base m L F T b gl gs tv goal names f s W) (h:zig w0 base m L F T b gl gs tv goal names f s w) (hc:Chg (· =x) w w') (hx:W.heap.size<=x) (hD:zO w x):zig w0 base m L F T b gl gs tv goal names f s w' :=by
 have l:=h0.row.lt;have u:=h0.box.lt;have r:=h0.book.lt
 have j:=h0.chg.size
 have z:=h0.bs
 have hS:∀ y,y=x->zO w y:=fun y e=>by subst e;exact hD
 exact ⟨h0.tab.far h.tab hc hx hD,h.row.chg hc (by omega) hS,h.box.chg hc (by omega) hS,h.book.chg hc (by omega) hS,h.tms.chg hc (fun y hy e=>by omega),h.nms.chg hc (fun y hy e=>by omega),h.chg.trans hc (fun y hy e=>by omega),h.lo,h.hb,h.ne,h.bs⟩
theorem zig.rowed (h:zig w0 base m L F T b gl gs tv goal names f s w) (hr:xq w' gl L L f') (hc:Chg (· =gl) w w') (hne:∀ i,i<=m->F.g i≠gl):zig w0 base m L F T b gl gs tv goal names f' s w' :=by
 have j:∀ x,x=gl->zO w x:=fun x e=>by subst e;exact h.row.noDig
 have l:=h.lo
 have r:=h.hb
 have u:=h.bs
 exact ⟨h.tab.chgRow h.row hc hne,hr,h.box.chg hc h.ne j,h.book.chg hc (fun e=>by omega) j,h.tms.chg hc (fun x hx e=>by omega),h.nms.chg hc (fun x hx e=>by omega),h.chg.trans hc (fun x hx e=>by omega),h.lo,h.hb,h.ne,h.bs⟩
end
def AimR (w0:World) (base m L:Nat) (F:zG) (T:zk) (b gl gs g4:Nat) (tv:Value) (goal:List zr) (names:List (List UInt8)) (s:Int) (iv:Value) (wr:World):Prop:=
 ∃ t:Nat,t<=goal.length/\iv= .int .i64 t/\Hid (zig w0 base m L F T b gl gs tv goal names (YJ T names m L s goal t) s wr)/\Hid (Blk wr g4 58 #[.int .i64 0,.slice none 0 0,.bool false])
def zrj (F:zG) (m gl:Nat):zG:={ F with g:=fun i=>if i=m then gl else F.g i }
theorem zI.chgX {base m L x:Nat} {F:zG} {w w' :World} {T:zk} (h:zI base m L F w T) (hc:Chg (· =x) w w') (hD:zO w x) (h1:F.gt≠x) (h2:F.gm≠x) (h3:∀ i,i<=m->F.g i≠x) (h4:∀ c,(F.bv.ownBlock=some c\/F.ov.ownBlock=some c)->c≠x):zI base m L F w' T:=by
 have hS:∀ y,y=x->zO w y:=fun y e=>by subst e;exact hD
 obtain ⟨⟨y,A,n,c,ng,b,j⟩,l,z,u,r,C,B⟩:=h
 refine ⟨⟨y,A,n,c,ng,hc.blk b h1,hc.num j hS⟩,l.chg hc (fun i hi=>h3 i (by omega)) (fun c hc2 e=>?_) hS,z.chg hc (fun c hc2 e=>h4 c (.inl hc2) e),u.chg hc (fun c hc2 e=>h4 c (.inr hc2) e),r,C,B⟩
 have:F.gm=c:=by simpa [Value.ownBlock] using hc2
 omega
theorem zI.put {base m L gl:Nat} {F:zG} {w:World} {T:zk} {f:Nat->Int} (h:zI base m L F w T) (hr:xq w gl L L f) (hb:base<=gl) (hne:∀ i,i<=m->F.g i≠gl):
 zI base m L (zrj F m gl) (w.setCell ⟨F.gm,m,none⟩ (.slice (some ⟨gl,0,none⟩) L L)) (T.aimed m f):=by
 have r:Chg (· =F.gm) w (w.setCell ⟨F.gm,m,none⟩ (.slice (some ⟨gl,0,none⟩) L L)):=Chg.setCell (S:=(· =F.gm)) (Chg.refl w) (p:=⟨F.gm,m,none⟩) rfl _
 have G:∀ y,y=F.gm->zO w y:=fun y e=>by subst e;exact h.mat.own.2 _ rfl
 have X:∃ cs,w.heap[F.gm]?=some (.cells cs 89 (0,0)):=h.mat.own.heap rfl
 obtain ⟨cm,E⟩:=X
 obtain ⟨⟨y,A,n,c,ng,I,V⟩,z,O,K,U,R,Q⟩:=h
 have J:∀ e v size k xs,e≠89->vE w base e size v k xs->∀ c,v.ownBlock=some c->¬ c=F.gm:=fun e v size k xs hne ho c hc2 b=>by
  obtain ⟨Y,q⟩:=ho.heap hc2
  rw [b,E] at q
  injection q with q
  injection q with _ q _
  exact hne q.symm
 refine ⟨⟨y,A,n,c,ng,r.blk I (xp I E (by decide)),r.num V G⟩,⟨?_,fun i j hi C e=>?_,fun i hi=>?_⟩,O.chg r (J _ _ _ _ _ (by decide) O),K.chg r (J _ _ _ _ _ (by decide) K),U,R,Q⟩
 . have M:=z.own.stored m (u:=zk2 L gl) (zne _ _)
   have e:((List.range (m+1)).map fun i=>zk2 L (F.g i)).set m (zk2 L gl)=(List.range (m+1)).map fun i=>zk2 L ((zrj F m gl).g i):=by
    apply List.ext_getElem?
    intro j;rw [List.getElem?_set]
    rcases uL j (m+1) with C | C
    . by_cases B:m=j
      . subst B
        rw [if_pos rfl]
        simp [zrj]
      rw [if_neg B]
      have:¬ j=m:=fun e=>B e.symm
      simp [zrj,C,this]
    . have N:∀ f:Nat->Value,((List.range (m+1)).map f)[j]?=none:=fun f=>List.getElem?_eq_none (by simpa using C)
      rw [N,N]
      by_cases B:m=j
      . omega
      rw [if_neg B]
   rw [e] at M;exact M
 . have b:(if i=m then gl else F.g i)=if j=m then gl else F.g j:=e
   by_cases l:i=m
   . by_cases D:j=m
     . omega
     rw [if_pos l,if_neg D] at b;exact absurd b.symm (hne j (by omega))
   by_cases D:j=m
   . rw [if_neg l,if_pos D] at b;exact absurd b (hne i (by omega))
   rw [if_neg l,if_neg D] at b;exact z.inj i j hi C b
 . show base<=(if i=m then gl else F.g i)/\xq _ (if i=m then gl else F.g i) L L (fun k=>if i=m then f k else T.cell i k)
   by_cases l:i=m
   . simp only [if_pos l]
     exact ⟨hb,hr.chg r (by obtain ⟨cs,q⟩:=hr.heap;exact xp q E (by decide)) G⟩
   simp only [if_neg l]
   exact ⟨(z.rows i hi).1,(z.rows i hi).2.chg r (by obtain ⟨cs,q⟩:=(z.rows i hi).2.heap;exact xp q E (by decide)) G⟩
def zwd (base m L:Nat) (F:zG) (T:zk) (b:Nat) (goal:List zr) (names:List (List UInt8)) (w:World) (e:Ending) (w' :World):Prop:=
 ∃ v gl,e= .returned v/\zN w' v (yq goal)/\zI base m L (zrj F m gl) w' (T.aimed m (YJ T names m L (yq goal) goal goal.length))/\zu w' b/\zT w' base (.slice F.nA F.nn F.nc) names/\Chg (fun x=>x=b\/x=F.gm) w w' /\w.heap.size<=gl
set_option maxRecDepth 100000 in
set_option maxHeartbeats 8000000 in
theorem zmi (base m L:Nat) (F:zG) (T:zk) (b:Nat) (A:Option Addr) (n c:Nat) (goal:List zr) (names:List (List UInt8)) (w:World) (hT:zI base m L F w T) (aB:F.bk=some b) (hB:zu w b) (hg:yu w (.slice A n c) goal)
 (hn:zT w base (.slice F.nA F.nn F.nc) names) (hok:zl4 T names m L goal) (hf:T.Fits m L) (hm:m<=100000) (hL:L<=1000) (hbase:base<=w.heap.size):
 Calls prog 35 #[.pointer (some ⟨F.gt,0,none⟩),.slice A n c] w (zwd base m L F T b goal names w):=by
 obtain rfl:=hg.len
 have bz:=hn.len
 have b6:=hg.bound
 have r:=zf w (.cells #[.int .i64 0,.slice none 0 0,.bool false] 58)
 have l:=ze (Blk.new w 58 #[.int .i64 0,.slice none 0 0,.bool false])
 have I:=ze (hT.below r)
 have O:=ze (hB.below r)
 have R:=ze (zh.below hg r)
 have D:=ze (hn.below r)
 have HC:Hid (Chg (· =b) w (w.alloc (.cells #[.int .i64 0,.slice none 0 0,.bool false] 58))):=Chg.of_below r
 have bh:=ze hB.lt
 obtain ⟨ag,HF,bm,aK⟩:=hz4 hok hf bz hbase
 have bE:=ze (show F.gm<w.heap.size from hT.mat.lt.2)
 have bQ:=ze (fun i (hi:i<=m)=>(hT.mat.rows i (by omega)).2.lt)
 have bo:=ze aB
 have bV:=ze (show ∀ c,(F.bv.ownBlock=some c\/F.ov.ownBlock=some c)->c<w.heap.size from fun c h=>h.elim (fun h=>(hT.bas.1.lt c h).2) (fun h=>(hT.oth.1.lt c h).2))
 have bY:=ze hT.lt
 clear hT hB hg hn hok hf r bz hbase aB
 go_in
 go_upto_region 1 with fail
 generalize w.alloc (.cells #[.int .i64 0,.slice none 0 0,.bool false] 58)=W0 at l I O R D HC |-
 obtain ⟨G,aZ⟩:=uQ w.heap.size
 rw [<- aZ] at l |-
 have ak:Hid (w.heap.size<=G):=Nat.le_of_eq aZ.symm
 clear aZ
 have c0:W0.cell? ⟨F.gt,0,none⟩=some (.map (some b)):=by
  obtain ⟨⟨x,A,n,c,ng,Q,_⟩,_⟩:=I.o
  rw [Q.cell, <- bo.o];rfl
 have bb:=zer b A goal.length c [48] goal W0 O.o (R.o.more HC.o.size) (by unfold yc;decide) ag.o.ok
 have bx:=ze bb
 clear bb
 go_wp2_with fail
 refine bx.o.mono ?_
 rintro e w2 ⟨v,rfl,hv,ah,B⟩
 obtain ⟨x2,A2,k2,c2,s2,rfl,_,_,_⟩:=hv.form
 have aF:=O.o.keepBlk B l.o
 replace I:=ze (I.o.read O.o B)
 replace R:=ze (O.o.keepT B R.o)
 replace D:=ze (D.o.chg B (fun _ _ e=>by subst e;exact O.o.noCells))
 replace HC:=ze (yp HC.o B)
 replace O:=ze ah
 have r:=zf w2 (.cells #[.int .i64 x2,.slice A2 k2 c2,.bool s2] 58)
 have ac:Hid (Z3 (w2.alloc (.cells #[.int .i64 x2,.slice A2 k2 c2,.bool s2] 58)) w2.heap.size (yq goal)):=⟨_,_,_,_,_,Blk.new _ _ _,hv.below r⟩
 replace l:=ze (aF.below r aF.lt)
 replace I:=ze (I.o.below r)
 replace R:=ze (zh.below R.o r)
 replace D:=ze (D.o.below r)
 replace O:=ze (O.o.below r)
 have an:Hid (G<w2.heap.size):=aF.lt
 replace HC:=ze (zD HC.o r)
 clear r aF ah B hv bx c0
 go_upto_region 2 with fail
 generalize w2.alloc (.cells #[.int .i64 x2,.slice A2 k2 c2,.bool s2] 58)=W3 at ac l I R D O HC |-
 generalize w2.heap.size=gs at ac an |-
 obtain ⟨go,co,eo,b1,bZ⟩:=I.o.others
 have t8:=I.o.cell8
 have bM:=I.o.lt2
 rw [eo] at t8
 have e1:IntKind.i64.wrap (((L - 1:Nat):Int)+1)=(L:Int):=by rw [IntKind.wrap_i64];omega
 have bJ:=fun w=>zdb .i64 L hL w
 go_upto_region 3 with fail
 have r:=zf W3 (.cells (yx L) 58)
 have a0:=ze ac.o.lt
 have j:Hid (zig w base m L F T b W3.heap.size gs (.slice A goal.length c) goal names (YJ T names m L (yq goal) goal 0) (yq goal) (W3.alloc (.cells (yx L) 58))):=
  ⟨I.o.below r,zf7 W3 L,ac.o.below r,O.o.below r,zh.below R.o r,D.o.below r,zD HC.o r,HC.o.size,bh.o,(by have:=a0.o;omega),aK.o⟩
 replace l:=kb_ l r
 have aH:Hid (G≠W3.heap.size):=by have:=an.o;have:=a0.o;show _≠_;omega
 have ao:Hid (∀ i,i<=m->F.g i≠W3.heap.size):=fun i hi=>by have:=(I.o.mat.rows i (by omega)).2.lt;omega
 clear r bJ e1 t8 eo b1 bZ bM I R D O HC ac a0
 generalize W3.alloc (.cells (yx L) 58)=W4 at j l |-
 generalize W3.heap.size=gl at j ao aH |-
 have bI:Hid (G≠b):=by have:=ak.o;have:=bh.o;show _≠_;omega
 have aX:=fun w' (h:zu w' b) (s:List UInt8) (hs:yc s)=>xu b ⟨s.toArray⟩ w' h (by rw [<- zt,yG];exact hs)
 simp only [yG] at aX
 have bf:=ze aX
 clear aX an
 go_wp2
 go_loopw [30] (AimR w base m L F T b gl gs G (.slice A goal.length c) goal names (yq goal)) (fun iv _=>goal.length - (intOf iv).toNat)
 case atStart=>exact ⟨0,uB,rfl,j,l⟩
 case round=>
  clear j l
  obtain ⟨t,ht,rfl,j,l⟩:=hrel
  by_cases al:t<goal.length
  rotate_left
  . obtain rfl:goal.length=t:=by omega
    have J:=j.o.tab.cell1;have t3:=j.o.tab.cell3;have b8:(m:Int)<(m:Int)+1:=by omega
    have cm:=j.o.tab.mat.cell (i:=m) (by omega);have fm:=j.o.tab.mat.frozen m;have bS:=ze (fun i hi=>(j.o.tab.mat.rows i hi).1)
    go_upto_region 12 with fail
    go_region
    have bC:=j.o.tab.put j.o.row (by have:=j.o.lo;have:=aK.o;omega) ao.o;have ar:Chg (· =F.gm) wr (wr.setCell ⟨F.gm,m,none⟩ (.slice (some ⟨gl,0,none⟩) L L)):=Chg.setCell (S:=(· =F.gm)) (Chg.refl wr) (p:=⟨F.gm,m,none⟩) rfl _;have aq:∃ cs,wr.heap[F.gm]?=some (.cells cs 89 (0,0)):=j.o.tab.mat.own.heap rfl;obtain ⟨b5,aq⟩:=aq;have aW:∀ y,y=F.gm->zO wr y:=fun y e=>by subst e;exact j.o.tab.mat.own.2 _ rfl
    have ai:Z3 (wr.setCell ⟨F.gm,m,none⟩ (.slice (some ⟨gl,0,none⟩) L L)) gs (yq goal):=j.o.box.chg ar (fun e=>by
     obtain ⟨x,A,n,c,ng,Q,_⟩:=j.o.box
     exact xp Q aq (by decide) e) aW
    have aB:zu (wr.setCell ⟨F.gm,m,none⟩ (.slice (some ⟨gl,0,none⟩) L L)) b:=j.o.book.chg ar (fun e=>j.o.book.ne aq e.symm) aW;have bc:zT (wr.setCell ⟨F.gm,m,none⟩ (.slice (some ⟨gl,0,none⟩) L L)) base (.slice F.nA F.nn F.nc) names:=j.o.nms.chg ar (fun y hy e=>by have:=j.o.tab.mat.lt.1;omega);have C:=ar.blk l.o (xp l.o aq (by decide));have bs:Chg (fun x=>x=b\/x=F.gm) w (wr.setCell ⟨F.gm,m,none⟩ (.slice (some ⟨gl,0,none⟩) L L)):=(j.o.chg.mono (T:=fun x=>x=b\/x=F.gm) (fun y _ e=>.inl e)).trans ar (fun y _ e=>.inr e);have hdr:=zo (xh (wr.setCell ⟨F.gm,m,none⟩ (.slice (some ⟨gl,0,none⟩) L L))) 1;have aI:=ze (bC.below hdr);have ac:=ze (ai.below hdr);have aG:=ze (aB.below hdr);have D:=ze (bc.below hdr);have ab:=ze (C.below hdr C.lt);have aS:Hid (Chg (fun x=>x=b\/x=F.gm) w (wr.setCell ⟨F.gm,m,none⟩ (.slice (some ⟨gl,0,none⟩) L L)).drew):=zD bs hdr;have bK:=ze j.o.lo;clear bC ar aq aW ai aB bc C bs hdr j l J t3 cm fm bS
    change Hid (zI _ _ _ _ (wr.setCell ⟨F.gm,m,none⟩ (.slice (some ⟨gl,0,none⟩) L L)).drew _) at aI
    change Hid (Z3 (wr.setCell ⟨F.gm,m,none⟩ (.slice (some ⟨gl,0,none⟩) L L)).drew _ _) at ac
    change Hid (zu (wr.setCell ⟨F.gm,m,none⟩ (.slice (some ⟨gl,0,none⟩) L L)).drew _) at aG
    change Hid (zT (wr.setCell ⟨F.gm,m,none⟩ (.slice (some ⟨gl,0,none⟩) L L)).drew _ _ _) at D
    change Hid (Blk (wr.setCell ⟨F.gm,m,none⟩ (.slice (some ⟨gl,0,none⟩) L L)).drew _ _ _) at ab
    generalize (wr.setCell ⟨F.gm,m,none⟩ (.slice (some ⟨gl,0,none⟩) L L)).drew=W8 at aI ac aG D ab aS |-;obtain ⟨sx,sA,sn,sc,sg,am,av⟩:=ac.o;have z0:=am.cell 0;have z1:=am.cell 1;have z2:=am.cell 2;have r0:=ab.o.cell 0;have r1:=ab.o.cell 1;have r2:=ab.o.cell 2;obtain ⟨f0,f1,f2⟩:=fq3 ab;simp at z0 z1 z2 r0 r1 r2
    have aQ:zO W8 G:=ab.o.noDig (ZK (by
     intro u hu;simp at hu
     rcases hu with rfl | rfl | rfl
     . exact xe _
     . exact yf _ _ _
     . exact vH _))
    have aE:=yg (x:=sx) (A:=sA) (k:=sn) (c:=sc) (ng:=sg) ab.o;have e0:=aE.cell 0;have e1:=aE.cell 1;have e2:=aE.cell 2;simp only [World.num] at e0 e1 e2;simp at e0 e1 e2;have ax:Chg (· =G) W8 (World.num W8 G sx sA sn sc sg):=Zy;have bU:=ze (zz (x:=sx) (A:=sA) (k:=sn) (c:=sc) (ng:=sg) av ab.o)
    have bT:=ze (aI.o.chgX ax aQ (by have:=bY.o;have:=ak.o;show F.gt≠G;omega) (by have:=bE.o;have:=ak.o;show F.gm≠G;omega) (fun i hi=>by
     show (if i=m then gl else F.g i)≠G
     by_cases i1:i=m
     . rw [if_pos i1];exact fun e=>aH.o e.symm
     rw [if_neg i1];have:=bQ.o i hi;have:=ak.o;omega) (fun c hc=>by have:=bV.o c hc;have:=ak.o;omega))
    have b3:=ze (aG.o.chg ax (fun e=>bI.o e.symm) (fun y e=>by subst e;exact aQ));have bX:=ze (D.o.chg ax (fun y hy e=>by have:=ak.o;have:=aK.o;omega));have b4:Hid (Chg (fun x=>x=b\/x=F.gm) w (World.num W8 G sx sA sn sc sg)):=aS.o.trans ax (fun y hy e=>by have:=ak.o;omega);clear aE ax aQ am av aI ac aG D ab aS;go_wp2_with fail;refine bodyPost_ret (v:=.agg #[.int .i64 sx,.slice sA sn sc,.bool sg]) (by simp [results,results35,go_sem,e0,e1,e2]) rfl ?_;exact ⟨_,gl,rfl,bU.o,bT.o,b3.o,bX.o,b4.o,bK.o⟩
  have b9:(t:Int)<(goal.length:Int):=by omega
  obtain ⟨ad,eA,bG,p0,p1,bR,a8⟩:=j.o.tms.at_ al;subst eA;have a2:=xGD (d:=default) al;have au:=ze (ag.o.nm _ (uO al));have aO:=ze (ag.o.ok.good _ (uO al));have bg:=ze a2;have aM:=ze a8;have bB:=ze (ag.o.fit t al);have bL:=ze (fun k hk=>ag.o.len1 t k al hk);have bP:=ze (fun k hk=>ag.o.len2 t k al hk);have r:=zf wr (.cells #[str goal[t].name,str goal[t].coef] 44);have V:=ze (Blk.new wr 44 #[str goal[t].name,str goal[t].coef]);replace j:=ze (j.o.below r);replace l:=kb_ l r;clear r bR a8 a2
  go_upto_region 6 with fail
  clear p0 p1 bG;generalize wr.alloc (.cells #[str goal[t].name,str goal[t].coef] 44)=W1 at V j l |-;generalize wr.heap.size=gk at V |-;have p0:=(bq1 V).1;have kL:=V.o.lt;have t2:=j.o.tab.cell2;have tL:=j.o.tab.lt;have aJ:=fun w' (h:zT w' base (.slice F.nA F.nn F.nc) names)=>VC F.nA F.nn F.nc names goal[t].name base _ w' h au.o.lt au.o.at_ au.o.lo au.o.hi (by have:=bm.o;have:=j.o.tab.cols;omega)
  have aT:=au.o.lt;obtain ⟨p,hp⟩:=uR (names.idxOf goal[t].name);have br:Hid (xR names goal t=p):=by show xR _ _ _=_;unfold xR;rw [bg.o];exact hp
  rw [hp] at aJ aT;have bA:=ze aJ;have aP:=ze aT;clear aJ hp aT;have E:∀ w',Hid (Below W1.heap.size W1 w')->w'.cell? ⟨F.gt,2,none⟩=some (.slice F.nA F.nn F.nc)/\w'.cell? ⟨gk,0,none⟩=some (str goal[t].name):=fun w' hB=>⟨zl hB tL t2,zl hB kL p0⟩
  refine y8 E 6 5 11 (zv W1) fun z=>?_;simp only [xDR]
  iterate 6 refine zH ?_
  refine zB ?_;refine rK 6 fun K hK=>?_
  go_simp
  go_at_call 73;refine (bA.o _ (j.o.nms.below z.1.out)).mono ?_;rintro e w9 ⟨rfl,rfl⟩;refine hK.out _ _ (zm (z.1) (E _)) ?_;clear hK K z;intro z
  try simp only [Act.put,xST]
  clear bA p0 kL t2 tL;refine tK 7 ?_;refine tK 8 ?_;refine tK 9 ?_;refine tK 10 ?_;have aD:=(z.1).out
  try clear z0 z1 z2 zL k0 N kL
  replace j:=ze (zig.below j.o aD);replace l:=kb_ l aD;replace V:=kb_ V aD;clear aD z E;refine hdn ?_;simp only [xDR];obtain ⟨z0,z1,z2,zL⟩:=bkc3 l.o;obtain ⟨k0,N,kL⟩:=zwu V.o;clear z0 z1 z2 zL k0 kL
  go_upto_region 7 with fail
  generalize W1.drew=W2 at j l V |-
  go_cut [11] from 44 to 71 (fun sx wc=>∃ (gc:Nat) (x1:Int) (X:Option Addr) (N c1:Nat) (s1:Bool) (Z:Int) (Y:Option Addr) (aa ae:Nat) (J:Bool),sx= .pointer (some ⟨gc,0,none⟩)/\Hid (Blk wc gc 60 #[.int .i64 x1,.slice X N c1,.bool s1,.int .i64 Z,.slice Y aa ae,.bool J])/\Hid (zV wc (.agg #[.int .i64 x1,.slice X N c1,.bool s1,.int .i64 Z,.slice Y aa ae,.bool J]) (qOf goal[t].coef))/\
   Hid (zig w base m L F T b gl gs (.slice (some ad) goal.length c) goal names (YJ T names m L (yq goal) goal t) (yq goal) wc)/\Hid (Blk wc G 58 #[.int .i64 0,.slice none 0 0,.bool false]))
  case first=>
   have c0:W2.cell? ⟨F.gt,0,none⟩=some (.map (some b)):=by
    obtain ⟨⟨x,A,n,c,ng,Q,_⟩,_⟩:=j.o.tab;rw [Q.cell, <- bo.o];rfl
   have b2:¬ F.gt=b:=by
    obtain ⟨⟨x,A,n,c,ng,Q,_⟩,_⟩:=j.o.tab;exact j.o.book.ne Q
   have bH:¬ gk=b:=j.o.book.ne V.o;have p1:=V.o.cell 1;simp at p1;have E:∀ w',Hid (Chg (fun x=>x=b) W2 w')->w'.cell? ⟨F.gt,0,none⟩=some (.map (some b))/\w'.cell? ⟨gk,1,none⟩=some (str goal[t].coef):=fun w' hB=>⟨xl hB c0 b2,xl hB p1 bH⟩
   refine y8 E 6 6 12 (xX W2) fun z=>?_;simp only [xDR]
   iterate 6 refine zH ?_
   refine zB ?_;refine HH.ready (rs:=[6,10]) (by kernel_rfl) (by simp) (by kernel_rfl) ?_;refine Zd.cons (o:=_) rfl (fun K hK=>?_) (Zd.cons (o:=_) rfl (fun K hK=>?_) Zd.nil)
   . skip
     go_simp
     go_at_call 50;have aL:=(zv W2).out;replace j:=ze (j.o.below aL);replace l:=kb_ l aL;clear aL;refine (bf.o _ j.o.book _ aM.o).mono ?_;rintro e w4 ⟨v,b0,rfl,⟨x1,X,N,c1,s1,Z,Y,aa,ae,J,rfl⟩,aR,hq,ah,B⟩;have ay:=hq _ (XD aO.o.1);have C:=j.o.book.keepBlk B l.o;replace j:=ze (j.o.read B ah);replace l:=ze C;have HQ:=ze ay;refine hK.out _ _ (zm (vz B z.1) (E _)) ?_;clear hK K z;intro z
     try simp only [Act.put,xST]
     have a7:Hid (Chg (fun x=>x=b) W2 (w4.alloc (.cells #[.int .i64 x1,.slice X N c1,.bool s1,.int .i64 Z,.slice Y aa ae,.bool J] 60))):=xU (zf _ _) z.1;clear B ah ay C hq aR;refine tK 7 ?_;refine tK 8 ?_;refine tK 9 ?_;refine rK 10 fun K hK=>?_
     go_simp
     refine hK.out _ _ (zm (xU (zf _ _) z.1) (E _)) ?_;clear hK K z;intro z
     try simp only [Act.put,xST]
     refine rK 11 fun K hK=>?_
     go_simp
     refine hK.out _ _ (zm (a7) (E _)) ?_;clear hK K z;intro z
     try simp only [Act.put,xST]
     clear a7;clear z E;refine hdn ?_;simp only [xDR];go_wp2;go_meet;have r:=zf w4 (.cells #[.int .i64 x1,.slice X N c1,.bool s1,.int .i64 Z,.slice Y aa ae,.bool J] 60);exact ⟨w4.heap.size,_,_,_,_,_,_,_,_,_,_,rfl,Blk.new _ _ _,HQ.o.below r,j.o.below r,l.o.below r l.o.lt⟩
   skip
   go_simp
   have ai:=(vi W2 (.cells #[.int .i64 0,.slice none 0 0,.bool false,.int .i64 0,.slice none 0 0,.bool false] 60)).out;have M:Hid (Blk (W2.alloc (.cells #[.int .i64 0,.slice none 0 0,.bool false,.int .i64 0,.slice none 0 0,.bool false] 60)).drew W2.heap.size 60 #[.int .i64 0,.slice none 0 0,.bool false,.int .i64 0,.slice none 0 0,.bool false]):=(Blk.new W2 _ _).drew;have a6:=j;replace j:=ze (j.o.below ai);have bd:=l;replace l:=kb_ l ai;have ap:Hid (Chg (fun x=>x=b) W2 (W2.alloc (.cells #[.int .i64 0,.slice none 0 0,.bool false,.int .i64 0,.slice none 0 0,.bool false] 60)).drew):=Chg.of_below ai;refine hK.out _ _ (zm (ap) (E _)) ?_;clear hK K z;intro z
   try simp only [Act.put,xST]
   clear ap ai;refine rK 6 fun K hK=>?_
   go_simp
   go_at_call 50;refine (bf.o _ j.o.book _ aM.o).mono ?_;rintro e w4 ⟨v,b0,rfl,⟨x1,X,N,c1,s1,Z,Y,aa,ae,J,rfl⟩,aR,hq,ah,B⟩;have ay:=hq _ (XD aO.o.1);have C:=j.o.book.keepBlk B l.o;have bw:=j.o.book.keepBlk B M.o;replace j:=ze (j.o.read B ah);replace l:=ze C;replace M:=ze bw;have HQ:=ze ay;refine hK.out _ _ (zm (vz B z.1) (E _)) ?_;clear hK K z;intro z
   try simp only [Act.put,xST]
   clear B ah ay C hq aR bw;refine tK 7 ?_;refine tK 8 ?_;refine tK 9 ?_;have z0:=M.o.cell 0;have z1:=M.o.cell 1;have z2:=M.o.cell 2;have z3:=M.o.cell 3;have z4:=M.o.cell 4;have z5:=M.o.cell 5;obtain ⟨f0,f1,f2,f3,f4,f5⟩:=fq6 M;simp at z0 z1 z2 z3 z4 z5;have az:Chg (· =W2.heap.size) w4 (World.rat w4 W2.heap.size x1 X N c1 s1 Z Y aa ae J):=Chg.ratSet;have aY:zO w4 W2.heap.size:=M.o.noDig (Yg _ _ _ _ _ _ _ _ _ _);have a5:=ze (a6.o.far j.o az (uA) aY);have ba:=ze (az.rat HQ.o (fun y e=>by subst e;exact aY));have bN:=ze (((((((M.o.set_ 0 (.int .i64 x1)).set_ 1 (.slice X N c1)).set_ 2 (.bool s1)).set_ 3 (.int .i64 Z)).set_ 4 (.slice Y aa ae)).set_ 5 (.bool J)));have bq:=ze (az.blk l.o (by have:=bd.o.lt;omega));have ap:Hid (Chg (fun x=>x=b) W2 (World.rat w4 W2.heap.size x1 X N c1 s1 Z Y aa ae J)):=z.1.out.trans az (fun y hy e=>by omega)
   clear j HQ M l az aY a6 bd;simp only [World.rat] at ap a5 ba bq;refine rK 11 fun K hK=>?_
   go_simp
   refine hK.out _ _ (zm (ap) (E _)) ?_;clear hK K z;intro z
   try simp only [Act.put,xST]
   clear ap z0 z1 z2 z3 z4 z5 f0 f1 f2 f3 f4 f5;clear z E;refine hdn ?_;simp only [xDR];go_wp2;go_meet;exact ⟨W2.heap.size,_,_,_,_,_,_,_,_,_,_,rfl,bN.o,ba.o,a5.o,bq.o⟩
  case rest=>
   clear j V l aM;obtain ⟨gc,x1,X,N,c1,s1,Z,Y,aa,ae,J,rfl,aU,HQ,j,l⟩:=hcut;generalize wc=W5 at aU HQ j l |-;obtain ⟨q0,q1,q2,q3,q4,q5,_⟩:=bq6 aU;obtain ⟨sx,sA,sn,sc,sg,am,av⟩:=j.o.box;obtain ⟨z0,z1,z2,_⟩:=bp3 am;have bp:=zce _ _ _ _ W5 HQ.o av aO.o.2 (by have:=(ag.o.ok.fit goal.length (uA)).1;exact uC this (by omega));have R:=ze bp;have an:=ze j.o.row.lt;clear am av bp;go_wp2_with fail;refine R.o.mono ?_;rintro e w7 ⟨v,rfl,hv,a1⟩;clear q0 q1 q2 q3 q4 q5 z0 z1 z2 R aU HQ;obtain ⟨x4,A4,k4,c4,s4,rfl,_,_,_⟩:=hv.form;have bW:Hid (vK (qOf goal[t].coef) (yq goal)=yW (yq goal) goal t):=by show _=_;unfold yW;rw [bg.o]
   rw [bW.o] at hv;have aV:=zf w7 (.cells #[.int .i64 x4,.slice A4 k4 c4,.bool s4] 58);have r:=ext a1 aV;have aj:=ze (Blk.new w7 58 #[.int .i64 x4,.slice A4 k4 c4,.bool s4]);have a4:Hid (¬ w7.heap.size=gl):=by have:=an.o;have:=a1.size;show ¬ _;omega
   replace j:=ze (j.o.below r);replace l:=kb_ l r;have HV:=ze (hv.below aV);clear r aV hv a1 an
   go_upto_region 9 with fail
   generalize w7.alloc (.cells #[.int .i64 x4,.slice A4 k4 c4,.bool s4] 58)=W7 at j l aj HV |-;generalize w7.heap.size=gv at aj a4 |-;obtain ⟨q0,q1,q2,_⟩:=bq3 aj;obtain ⟨U1,be⟩:∃ U,U=2*p:=⟨_,rfl⟩;obtain ⟨U2,bn⟩:∃ U,U=2*p+1:=⟨_,rfl⟩;have bF:p<1000:=by have:=aP.o;have:=bm.o;have:=j.o.tab.cols;omega
   have e1:IntKind.i64.wrap (2*(p:Int))=(U1:Int):=by rw [IntKind.wrap_i64];omega
   have e2:IntKind.i64.wrap ((U1:Int)+1)=(U2:Int):=by rw [IntKind.wrap_i64];omega
   have a9:=ze be;have bl:=ze bn;have aA:=za2 base m L F T gl _ (U1:Int) _ _ W7 j.o.tab j.o.row HV.o ao.o HF.o bB.o (fun k hk=>bL.o k hk) hm (by omega) (ag.o.known U1 (by have:=aP.o;omega));have aC:=ze aA;clear aA be bn bF;go_wp2_with fail;refine aC.o.mono ?_;rintro e w8 ⟨rfl,aw,af⟩;have bi:=af.blk aj.o a4.o;have bD:=af.num HV.o (fun y e=>by subst e;exact j.o.row.noDig);have C:=af.blk l.o aH.o;replace j:=ze (j.o.rowed aw af ao.o);replace aj:=ze bi;replace HV:=ze bD;replace l:=ze C;clear aw af bi bD C aC q0 q1 q2;obtain ⟨q0,q1,q2,_⟩:=bq3 aj;have a3:=yF _ _ w8 HV.o;have bj:=ze a3;clear a3;go_wp2_with fail;refine bj.o.mono ?_;rintro e w9 ⟨v9,rfl,bu,aN⟩;replace j:=ze (j.o.below aN);replace l:=kb_ l aN
   have aA:=za2 base m L F T gl _ (U2:Int) _ _ w9 j.o.tab j.o.row bu ao.o HF.o bB.o.neg (fun k hk=>by
    have Q:=bP.o k hk;rw [br.o, <- a9.o] at Q
    exact Q) hm (by omega) (ag.o.known U2 (by have:=aP.o;have:=bl.o;omega))
   have aC:=ze aA;clear aA aN bu bj q0 q1 q2 aj HV;go_wp2_with fail;refine aC.o.mono ?_;rintro e b7 ⟨rfl,aw,af⟩;have C:=af.blk l.o aH.o;replace j:=ze (j.o.rowed aw af ao.o);replace l:=ze C;clear aw af C aC
   have bO:Hid ((fun k=>(fun k=>YJ T names m L (yq goal) goal t k+Xy T m L (U1:Int) (yW (yq goal) goal t) k) k+Xy T m L (U2:Int) (-(yW (yq goal) goal t)) k)=YJ T names m L (yq goal) goal (t+1)):=by
    show _=_
    funext k
    show _=_+Xy T m L ((2*xR names goal t:Nat):Int) _ k+Xy T m L ((2*xR names goal t+1:Nat):Int) _ k
    have Q:=a9.o;have h2:=bl.o;rw [br.o, <- Q,show U1+1=U2 by omega]
   rw [bO.o] at j;go_wp2;go_roundw
   case rel=>first | exact ⟨t+1,by omega,by go_num,j,l⟩ | ((repeat apply Exists.intro);refine ⟨?_,rfl⟩;exact ⟨t+1,by omega,by go_num,j,l⟩)
   case measure=>simp [intOf];omega
end Go.Proofs.YtobdoblpnanclaaGreatDoor
