/- Parts of the proof. -/
import Derived.Deep.Cut
import Derived.Test.YthbmhkiphmcogaaGreatDoorMe34
set_option linter.all false
namespace Go.Proofs.YthbmhkiphmcogaaGreatDoor
open Proofs.Tryz Go.RowKit Go.Deep
attribute [local go_sem ↓] Go.wp_at_zero Go.wp_at_succ
def zcf (T:yE) (names:List (List UInt8)) (m L:Nat) (s:Int) (goal:List zR):Nat->Nat->Int
 | 0=>fun _=>0
 | t+1=>fun k=>zcf T names m L s goal t k+XZ T m L ((2*zb8 names goal t:Nat):Int) (Va s goal t) k+XZ T m L ((2*zb8 names goal t+1:Nat):Int) (-(Va s goal t)) k
def vH (goal:List zR):Int:=ZN ((qOf [48]).den:Int) goal goal.length
structure zu4 (T:yE) (names:List (List UInt8)) (m L:Nat) (goal:List zR):Prop where
 ok:zgo [48] goal
 nm:∀ t∈goal,ziq names t.name
 fit:∀ t,t<goal.length->Fit (Va (vH goal) goal t)
 len1:∀ t k,t<goal.length->k<L->len 4294967296 (zcf T names m L (vH goal) goal t k).natAbs<=67108864
 len2:∀ t k,t<goal.length->k<L->len 4294967296 (zcf T names m L (vH goal) goal t k+XZ T m L ((2*zb8 names goal t:Nat):Int) (Va (vH goal) goal t) k).natAbs<=67108864
 known:∀ u:Nat,u<2*names.length->vG T.basic (u:Int) m=none->vG T.other (u:Int) (L - 1)≠none
def yE.aimed (T:yE) (m:Nat) (f:Nat->Int):yE:={ T with cell:=fun i k=>if i=m then f k else T.cell i k }
theorem zB.ne {w:World} {b x:Nat} {cs:Array Value} {t:TypeId} {fr:Nat×Nat} (h:zB w b) (k:w.heap[x]?=some (.cells cs t fr)):x≠b:=by
 intro e
 subst e
 obtain ⟨D,⟨j,c,hb,_⟩,_⟩:=h
 rw [k] at hb;cases hb
theorem yi.read {base m L b:Nat} {F:ya} {w w' :World} {T:yE} (h:yi base m L F w T) (hB:zB w b) (hc:Chg (· =b) w w'):yi base m L F w' T:=by
 obtain ⟨⟨x,A,n,c,ng,r,D⟩,j,u,y,B,C,z⟩:=h
 have hS:∀ x,x=b->zZ w x:=fun x e=>by subst e;exact hB.noDig
 have l:∀ e v size k xs,Zm w base e size v k xs->∀ c,v.ownBlock=some c->¬ c=b:=fun e v size k xs ho c hc2=>by
  obtain ⟨E,k2⟩:=ho.heap hc2
  exact hB.ne k2
 exact ⟨⟨x,A,n,c,ng,hc.blk r (hB.ne r),hc.num D hS⟩,j.chg hc (fun i hi=>by obtain ⟨cs,k1⟩:=(j.rows i hi).2.heap;exact hB.ne k1) (l _ _ _ _ _ j.own) hS,u.chg hc (l _ _ _ _ _ u),y.chg hc (l _ _ _ _ _ y),B,C,z⟩
structure zhi (w0:World) (base m L:Nat) (F:ya) (T:yE) (b gl gs:Nat) (tv:Value) (goal:List zR) (names:List (List UInt8)) (f:Nat->Int) (s:Int) (w:World):Prop where
 tab:yi base m L F w T
 row:ve w gl L L f
 box:Yo w gs s
 book:zB w b
 tms:zk w w0.heap.size tv goal
 nms:zF w base (.slice F.nA F.nn F.nc) names
 chg:Chg (· =b) w0 w
 lo:w0.heap.size<=gl
 hb:b<w0.heap.size
 ne:gs≠gl
 bs:base<=w0.heap.size
section
variable {w0 w w' :World} {base m L:Nat} {F:ya} {T:yE} {b gl gs:Nat} {tv:Value} {goal:List zR} {names:List (List UInt8)} {f f' :Nat->Int} {s:Int}
theorem zhi.below (h:zhi w0 base m L F T b gl gs tv goal names f s w) (hb:Below w.heap.size w w'):zhi w0 base m L F T b gl gs tv goal names f s w' :=
 ⟨h.tab.below hb,h.row.below hb,h.box.below hb,h.book.below hb,zk.below h.tms hb,h.nms.below hb,yh h.chg hb,h.lo,h.hb,h.ne,h.bs⟩
theorem zhi.read (h:zhi w0 base m L F T b gl gs tv goal names f s w) (hc:Chg (· =b) w w') (hb:zB w' b):zhi w0 base m L F T b gl gs tv goal names f s w' :=by
 refine ⟨h.tab.read h.book hc,h.row.chg hc ?_ (fun x e=>by subst e;exact h.book.noDig),h.book.keepBox hc h.box,hb,h.book.keepT hc h.tms,h.nms.chg hc (fun _ _ e=>by subst e;exact h.book.noCells),vm h.chg hc,h.lo,h.hb,h.ne,h.bs⟩
 obtain ⟨cs,k1⟩:=h.row.heap
 exact h.book.ne k1
theorem yi.far {w0:World} {x:Nat} (h0:yi base m L F w0 T) (h:yi base m L F w T) (hc:Chg (· =x) w w') (hx:w0.heap.size<=x) (hD:zZ w x):yi base m L F w' T:=by
 have I:=h0.lt
 have J:=h0.mat.lt.2
 have l:=fun i hi=>(h0.mat.rows i hi).2.lt
 have r:=fun c hc=>(h0.bas.1.lt c hc).2
 have u:=fun c hc=>(h0.oth.1.lt c hc).2
 have hS:∀ y,y=x->zZ w y:=fun y e=>by subst e;exact hD
 obtain ⟨⟨y,A,n,c,ng,D,C⟩,b,E,G,z,B,j⟩:=h
 refine ⟨⟨y,A,n,c,ng,hc.blk D (by omega),hc.num C hS⟩,b.chg hc (fun i hi=>by have:=l i hi;omega) (fun c hc2 e=>?_) hS,E.chg hc (fun c hc2 e=>by have:=r c hc2;omega),G.chg hc (fun c hc2 e=>by have:=u c hc2;omega),z,B,j⟩
 have:F.gm=c:=by simpa [Value.ownBlock] using hc2
 omega
theorem zhi.far {W:World} {x:Nat} (h0:zhi w0 base m L F T b gl gs tv goal names f s W) (h:zhi w0 base m L F T b gl gs tv goal names f s w) (hc:Chg (· =x) w w') (hx:W.heap.size<=x) (hD:zZ w x):zhi w0 base m L F T b gl gs tv goal names f s w' :=by
 have l:=h0.row.lt
 have j:=h0.box.lt
 have r:=h0.book.lt
 have u:=h0.chg.size
 have z:=h0.bs
 have hS:∀ y,y=x->zZ w y:=fun y e=>by subst e;exact hD
 exact ⟨h0.tab.far h.tab hc hx hD,h.row.chg hc (by omega) hS,h.box.chg hc (by omega) hS,h.book.chg hc (by omega) hS,h.tms.chg hc (fun y hy e=>by omega),h.nms.chg hc (fun y hy e=>by omega),h.chg.trans hc (fun y hy e=>by omega),h.lo,h.hb,h.ne,h.bs⟩
theorem zhi.rowed (h:zhi w0 base m L F T b gl gs tv goal names f s w) (hr:ve w' gl L L f') (hc:Chg (· =gl) w w') (hne:∀ i,i<=m->F.g i≠gl):zhi w0 base m L F T b gl gs tv goal names f' s w' :=by
 have j:∀ x,x=gl->zZ w x:=fun x e=>by subst e;exact h.row.noDig
 have l:=h.lo
 have r:=h.hb
 have u:=h.bs
 exact ⟨h.tab.chgRow h.row hc hne,hr,h.box.chg hc h.ne j,h.book.chg hc (fun e=>by omega) j,h.tms.chg hc (fun x hx e=>by omega),h.nms.chg hc (fun x hx e=>by omega),h.chg.trans hc (fun x hx e=>by omega),h.lo,h.hb,h.ne,h.bs⟩
end
def AimR (w0:World) (base m L:Nat) (F:ya) (T:yE) (b gl gs g4:Nat) (tv:Value) (goal:List zR) (names:List (List UInt8)) (s:Int) (iv:Value) (wr:World):Prop:=
 ∃ t:Nat,t<=goal.length/\iv= .int .i64 t/\Hid (zhi w0 base m L F T b gl gs tv goal names (zcf T names m L s goal t) s wr)/\Hid (Blk wr g4 53 #[.int .i64 0,.slice none 0 0,.bool false])
def zvw (F:ya) (m gl:Nat):ya:={ F with g:=fun i=>if i=m then gl else F.g i }
theorem yi.chgX {base m L x:Nat} {F:ya} {w w' :World} {T:yE} (h:yi base m L F w T) (hc:Chg (· =x) w w') (hD:zZ w x) (h1:F.gt≠x) (h2:F.gm≠x) (h3:∀ i,i<=m->F.g i≠x) (h4:∀ c,(F.bv.ownBlock=some c\/F.ov.ownBlock=some c)->c≠x):yi base m L F w' T:=by
 have hS:∀ y,y=x->zZ w y:=fun y e=>by subst e;exact hD
 obtain ⟨⟨y,A,n,c,ng,k1,k2⟩,z,b,r,j,l,u⟩:=h
 refine ⟨⟨y,A,n,c,ng,hc.blk k1 h1,hc.num k2 hS⟩,z.chg hc (fun i hi=>h3 i (by omega)) (fun c hc2 e=>?_) hS,b.chg hc (fun c hc2 e=>h4 c (.inl hc2) e),r.chg hc (fun c hc2 e=>h4 c (.inr hc2) e),j,l,u⟩
 have:F.gm=c:=by simpa [Value.ownBlock] using hc2
 omega
theorem yi.put {base m L gl:Nat} {F:ya} {w:World} {T:yE} {f:Nat->Int} (h:yi base m L F w T) (hr:ve w gl L L f) (hb:base<=gl) (hne:∀ i,i<=m->F.g i≠gl):
 yi base m L (zvw F m gl) (w.setCell ⟨F.gm,m,none⟩ (.slice (some ⟨gl,0,none⟩) L L)) (T.aimed m f):=by
 have r:Chg (· =F.gm) w (w.setCell ⟨F.gm,m,none⟩ (.slice (some ⟨gl,0,none⟩) L L)):=Chg.setCell (S:=(· =F.gm)) (Chg.refl w) (p:=⟨F.gm,m,none⟩) rfl _
 have G:∀ y,y=F.gm->zZ w y:=fun y e=>by subst e;exact h.mat.own.2 _ rfl
 have R:∃ cs,w.heap[F.gm]?=some (.cells cs 119 (0,0)):=h.mat.own.heap rfl
 obtain ⟨cm,D⟩:=R
 obtain ⟨⟨y,A,n,c,ng,k1,k2⟩,C,I,J,Q,U,O⟩:=h
 have K:∀ e v size k xs,e≠119->Zm w base e size v k xs->∀ c,v.ownBlock=some c->¬ c=F.gm:=fun e v size k xs hne ho c hc2 b=>by
  obtain ⟨V,q⟩:=ho.heap hc2
  rw [b,D] at q
  injection q with q
  injection q with _ q _
  exact hne q.symm
 refine ⟨⟨y,A,n,c,ng,r.blk k1 (yX k1 D (by decide)),r.num k2 G⟩,⟨?_,fun i j hi B e=>?_,fun i hi=>?_⟩,I.chg r (K _ _ _ _ _ (by decide) I),J.chg r (K _ _ _ _ _ (by decide) J),Q,U,O⟩
 . have N:=C.own.stored m (u:=zlt L gl) (zny _ _)
   have e:((List.range (m+1)).map fun i=>zlt L (F.g i)).set m (zlt L gl)=(List.range (m+1)).map fun i=>zlt L ((zvw F m gl).g i):=by
    apply List.ext_getElem?
    intro j;rw [List.getElem?_set]
    rcases Nat.lt_or_ge j (m+1) with B | B
    . by_cases z:m=j
      . subst z
        rw [if_pos rfl]
        simp [zvw]
      rw [if_neg z]
      have:¬ j=m:=fun e=>z e.symm
      simp [zvw,B,this]
    . have M:∀ f:Nat->Value,((List.range (m+1)).map f)[j]?=none:=fun f=>List.getElem?_eq_none (by simpa using B)
      rw [M,M]
      by_cases z:m=j
      . omega
      rw [if_neg z]
   rw [e] at N;exact N
 . have b:(if i=m then gl else F.g i)=if j=m then gl else F.g j:=e
   by_cases l:i=m
   . by_cases E:j=m
     . omega
     rw [if_pos l,if_neg E] at b;exact absurd b.symm (hne j (by omega))
   by_cases E:j=m
   . rw [if_neg l,if_pos E] at b;exact absurd b (hne i (by omega))
   rw [if_neg l,if_neg E] at b;exact C.inj i j hi B b
 . show base<=(if i=m then gl else F.g i)/\ve _ (if i=m then gl else F.g i) L L (fun k=>if i=m then f k else T.cell i k)
   by_cases l:i=m
   . simp only [if_pos l]
     exact ⟨hb,hr.chg r (by obtain ⟨cs,q⟩:=hr.heap;exact yX q D (by decide)) G⟩
   simp only [if_neg l]
   exact ⟨(C.rows i hi).1,(C.rows i hi).2.chg r (by obtain ⟨cs,q⟩:=(C.rows i hi).2.heap;exact yX q D (by decide)) G⟩
def zxc (base m L:Nat) (F:ya) (T:yE) (b:Nat) (goal:List zR) (names:List (List UInt8)) (w:World) (e:Ending) (w' :World):Prop:=
 ∃ v gl,e= .returned v/\yb w' v (vH goal)/\yi base m L (zvw F m gl) w' (T.aimed m (zcf T names m L (vH goal) goal goal.length))/\zB w' b/\zF w' base (.slice F.nA F.nn F.nc) names/\Chg (fun x=>x=b\/x=F.gm) w w' /\w.heap.size<=gl
set_option maxRecDepth 100000 in
set_option maxHeartbeats 8000000 in
theorem zmn (base m L:Nat) (F:ya) (T:yE) (b:Nat) (A:Option Addr) (n c:Nat) (goal:List zR) (names:List (List UInt8)) (w:World) (hT:yi base m L F w T) (aB:F.bk=some b) (hB:zB w b) (hg:vr w (.slice A n c) goal)
 (hn:zF w base (.slice F.nA F.nn F.nc) names) (hok:zu4 T names m L goal) (hf:T.Fits m L) (hm:m<=100000) (hm0:0<m) (hL:L<=1000) (hbase:base<=w.heap.size):
 Calls Tryz.prog 64 #[.pointer (some ⟨F.gt,0,none⟩),.slice A n c] w (zxc base m L F T b goal names w):=by
 obtain rfl:=hg.len
 have a8:=hn.len
 have b5:=hg.bound
 have r:=zf w (.cells #[.int .i64 0,.slice none 0 0,.bool false] 53)
 have l:=ze (Blk.new w 53 #[.int .i64 0,.slice none 0 0,.bool false])
 have G:=ze (hT.below r)
 have Q:=ze (hB.below r)
 have J:=ze (zk.below hg r)
 have I:=ze (hn.below r)
 have HC:Hid (Chg (· =b) w (w.alloc (.cells #[.int .i64 0,.slice none 0 0,.bool false] 53))):=Chg.of_below r
 have bz:=ze hB.lt
 have af:=ze hok
 have HF:=ze hf
 have bA:=ze a8
 have aY:=ze hbase
 have bK:=ze (show F.gm<w.heap.size from hT.mat.lt.2)
 have bO:=ze (fun i (hi:i<=m)=>(hT.mat.rows i (by omega)).2.lt)
 have bc:=ze aB
 have bT:=ze (show ∀ c,(F.bv.ownBlock=some c\/F.ov.ownBlock=some c)->c<w.heap.size from fun c h=>h.elim (fun h=>(hT.bas.1.lt c h).2) (fun h=>(hT.oth.1.lt c h).2))
 have b2:=ze hT.lt
 clear hT hB hg hn hok hf r a8 hbase aB
 go_enter func64,ntmps64
 go_upto_region 1 with fail
 generalize w.alloc (.cells #[.int .i64 0,.slice none 0 0,.bool false] 53)=W0 at l G Q J I HC |-
 obtain ⟨E,aX⟩:∃ E,E=w.heap.size:=⟨_,rfl⟩
 rw [<- aX] at l |-
 have an:Hid (w.heap.size<=E):=Nat.le_of_eq aX.symm
 clear aX
 have c0:W0.cell? ⟨F.gt,0,none⟩=some (.map (some b)):=by
  obtain ⟨⟨x,A,n,c,ng,M,_⟩,_⟩:=G.o
  rw [M.cell, <- bc.o];rfl
 have bg:=zes b A goal.length c [48] goal W0 Q.o (J.o.more HC.o.size) (by unfold zN;decide) af.o.ok
 have bD:=ze bg
 clear bg
 go_wp2_with fail
 refine bD.o.mono ?_
 rintro e w2 ⟨v,rfl,hv,ai,B⟩
 obtain ⟨x2,A2,k2,c2,s2,rfl,_,_,_⟩:=hv.form
 have aG:=Q.o.keepBlk B l.o
 replace G:=ze (G.o.read Q.o B)
 replace J:=ze (Q.o.keepT B J.o)
 replace I:=ze (I.o.chg B (fun _ _ e=>by subst e;exact Q.o.noCells))
 replace HC:=ze (vm HC.o B)
 replace Q:=ze ai
 have r:=zf w2 (.cells #[.int .i64 x2,.slice A2 k2 c2,.bool s2] 53)
 have Z:Hid (Yo (w2.alloc (.cells #[.int .i64 x2,.slice A2 k2 c2,.bool s2] 53)) w2.heap.size (vH goal)):=⟨_,_,_,_,_,Blk.new _ _ _,hv.below r⟩
 replace l:=ze (aG.below r aG.lt)
 replace G:=ze (G.o.below r)
 replace J:=ze (zk.below J.o r)
 replace I:=ze (I.o.below r)
 replace Q:=ze (Q.o.below r)
 have ap:Hid (E<w2.heap.size):=aG.lt
 replace HC:=ze (yh HC.o r)
 clear r aG ai B hv bD c0
 go_upto_region 2 with fail
 generalize w2.alloc (.cells #[.int .i64 x2,.slice A2 k2 c2,.bool s2] 53)=W3 at Z l G J I Q HC |-
 generalize w2.heap.size=gs at Z ap |-
 obtain ⟨go,co,eo,bI,bZ⟩:=G.o.others
 have t8:=G.o.cell8
 have bF:=G.o.lt2
 rw [eo] at t8
 have e1:IntKind.i64.wrap (((L - 1:Nat):Int)+1)=(L:Int):=by rw [IntKind.wrap_i64];omega
 have bS:=fun w=>zcu .i64 L hL w
 go_upto_region 3 with fail
 have r:=zf W3 (.cells (yH L) 53)
 have aT:=ze Z.o.lt
 have j:Hid (zhi w base m L F T b W3.heap.size gs (.slice A goal.length c) goal names (zcf T names m L (vH goal) goal 0) (vH goal) (W3.alloc (.cells (yH L) 53))):=
  ⟨G.o.below r,zf7 W3 L,Z.o.below r,Q.o.below r,zk.below J.o r,I.o.below r,yh HC.o r,HC.o.size,bz.o,(by have:=aT.o;omega),aY.o⟩
 replace l:=kb_ l r
 have aI:Hid (E≠W3.heap.size):=by have:=ap.o;have:=aT.o;show _≠_;omega
 have av:Hid (∀ i,i<=m->F.g i≠W3.heap.size):=fun i hi=>by have:=(G.o.mat.rows i (by omega)).2.lt;omega
 clear r bS e1 t8 eo bI bZ bF G J I Q HC Z aT
 generalize W3.alloc (.cells (yH L) 53)=W4 at j l |-
 generalize W3.heap.size=gl at j av aI |-
 have bR:Hid (E≠b):=by have:=an.o;have:=bz.o;show _≠_;omega
 have aL:=fun w' (h:zB w' b) (s:List UInt8) (hs:zN s)=>ZG b ⟨s.toArray⟩ w' h (by rw [<- zm,xR];exact hs)
 simp only [xR] at aL
 have a4:=ze aL
 clear aL ap
 go_wp2_with fail
 go_loopw [30] (AimR w base m L F T b gl gs E (.slice A goal.length c) goal names (vH goal)) (fun iv _=>goal.length - (intOf iv).toNat)
 case atStart=>exact ⟨0,Nat.zero_le _,rfl,j,l⟩
 case round=>
  clear j l
  obtain ⟨t,ht,rfl,j,l⟩:=hrel
  by_cases ao:t<goal.length
  rotate_left
  . obtain rfl:goal.length=t:=by omega
    have O:=j.o.tab.cell1;have t3:=j.o.tab.cell3;have b7:(m:Int)<(m:Int)+1:=by omega
    have cm:=j.o.tab.mat.cell (i:=m) (by omega);have fm:=j.o.tab.mat.frozen m;have bV:=ze (fun i hi=>(j.o.tab.mat.rows i hi).1)
    go_upto_region 12 with fail
    go_region
    have bi:=j.o.tab.put j.o.row (by have:=j.o.lo;have:=aY.o;omega) av.o;have au:Chg (· =F.gm) wr (wr.setCell ⟨F.gm,m,none⟩ (.slice (some ⟨gl,0,none⟩) L L)):=Chg.setCell (S:=(· =F.gm)) (Chg.refl wr) (p:=⟨F.gm,m,none⟩) rfl _;have aq:∃ cs,wr.heap[F.gm]?=some (.cells cs 119 (0,0)):=j.o.tab.mat.own.heap rfl;obtain ⟨b3,aq⟩:=aq;have aQ:∀ y,y=F.gm->zZ wr y:=fun y e=>by subst e;exact j.o.tab.mat.own.2 _ rfl
    have al:Yo (wr.setCell ⟨F.gm,m,none⟩ (.slice (some ⟨gl,0,none⟩) L L)) gs (vH goal):=j.o.box.chg au (fun e=>by
     obtain ⟨x,A,n,c,ng,M,_⟩:=j.o.box
     exact yX M aq (by decide) e) aQ
    have aB:zB (wr.setCell ⟨F.gm,m,none⟩ (.slice (some ⟨gl,0,none⟩) L L)) b:=j.o.book.chg au (fun e=>j.o.book.ne aq e.symm) aQ;have be:zF (wr.setCell ⟨F.gm,m,none⟩ (.slice (some ⟨gl,0,none⟩) L L)) base (.slice F.nA F.nn F.nc) names:=j.o.nms.chg au (fun y hy e=>by have:=j.o.tab.mat.lt.1;omega);have D:=au.blk l.o (yX l.o aq (by decide));have a5:Chg (fun x=>x=b\/x=F.gm) w (wr.setCell ⟨F.gm,m,none⟩ (.slice (some ⟨gl,0,none⟩) L L)):=(j.o.chg.mono (T:=fun x=>x=b\/x=F.gm) (fun y _ e=>.inl e)).trans au (fun y _ e=>.inr e);have ak:=zo (vh (wr.setCell ⟨F.gm,m,none⟩ (.slice (some ⟨gl,0,none⟩) L L))) 1;have aF:=ze (bi.below ak);have Z:=ze (al.below ak);have aH:=ze (aB.below ak);have I:=ze (be.below ak);have N:=ze (D.below ak D.lt);have aP:Hid (Chg (fun x=>x=b\/x=F.gm) w (wr.setCell ⟨F.gm,m,none⟩ (.slice (some ⟨gl,0,none⟩) L L)).drew):=yh a5 ak;have bY:=ze j.o.lo;clear bi au aq aQ al aB be D a5 ak j l O t3 cm fm bV
    change Hid (yi _ _ _ _ (wr.setCell ⟨F.gm,m,none⟩ (.slice (some ⟨gl,0,none⟩) L L)).drew _) at aF
    change Hid (Yo (wr.setCell ⟨F.gm,m,none⟩ (.slice (some ⟨gl,0,none⟩) L L)).drew _ _) at Z
    change Hid (zB (wr.setCell ⟨F.gm,m,none⟩ (.slice (some ⟨gl,0,none⟩) L L)).drew _) at aH
    change Hid (zF (wr.setCell ⟨F.gm,m,none⟩ (.slice (some ⟨gl,0,none⟩) L L)).drew _ _ _) at I
    change Hid (Blk (wr.setCell ⟨F.gm,m,none⟩ (.slice (some ⟨gl,0,none⟩) L L)).drew _ _ _) at N
    generalize (wr.setCell ⟨F.gm,m,none⟩ (.slice (some ⟨gl,0,none⟩) L L)).drew=W8 at aF Z aH I N aP |-;obtain ⟨sx,sA,sn,sc,sg,ac,aw⟩:=Z.o;have z0:=ac.cell 0;have z1:=ac.cell 1;have Y:=ac.cell 2;have r0:=N.o.cell 0;have r1:=N.o.cell 1;have r2:=N.o.cell 2;have f0:=N.o.frozen 0;have f1:=N.o.frozen 1;have f2:=N.o.frozen 2;simp at z0 z1 Y r0 r1 r2
    have a1:zZ W8 E:=N.o.noDig (Zq (by
     intro u hu;simp at hu
     rcases hu with rfl | rfl | rfl
     . exact vi _
     . exact zM _ _ _
     . exact ZD _))
    have aJ:=ys (x:=sx) (A:=sA) (k:=sn) (c:=sc) (ng:=sg) N.o;have e0:=aJ.cell 0;have e1:=aJ.cell 1;have e2:=aJ.cell 2;simp only [World.num] at e0 e1 e2;simp at e0 e1 e2;have aA:Chg (· =E) W8 (World.num W8 E sx sA sn sc sg):=Yl;have bN:=ze (zC (x:=sx) (A:=sA) (k:=sn) (c:=sc) (ng:=sg) aw N.o)
    have bP:=ze (aF.o.chgX aA a1 (by have:=b2.o;have:=an.o;show F.gt≠E;omega) (by have:=bK.o;have:=an.o;show F.gm≠E;omega) (fun i hi=>by
     show (if i=m then gl else F.g i)≠E
     by_cases i1:i=m
     . rw [if_pos i1];exact fun e=>aI.o e.symm
     rw [if_neg i1];have:=bO.o i hi;have:=an.o;omega) (fun c hc=>by have:=bT.o c hc;have:=an.o;omega))
    have bE:=ze (aH.o.chg aA (fun e=>bR.o e.symm) (fun y e=>by subst e;exact a1));have bU:=ze (I.o.chg aA (fun y hy e=>by have:=an.o;have:=aY.o;omega));have bW:Hid (Chg (fun x=>x=b\/x=F.gm) w (World.num W8 E sx sA sn sc sg)):=aP.o.trans aA (fun y hy e=>by have:=an.o;omega);clear aJ aA a1 ac aw aF Z aH I N aP;go_wp2_with fail;refine bodyPost_ret (v:=.agg #[.int .i64 sx,.slice sA sn sc,.bool sg]) (by simp [results,results64,go_sem,e0,e1,e2]) rfl ?_;exact ⟨_,gl,rfl,bN.o,bP.o,bE.o,bU.o,bW.o,bY.o⟩
  have b4:(t:Int)<(goal.length:Int):=by omega
  obtain ⟨ad,eA,b1,p0,p1,bH,bb⟩:=j.o.tms.at_ ao;subst eA;have bB:goal.getD t default=goal[t]:=by simp [List.getD,List.getElem?_eq_getElem ao]
  have aD:=ze (af.o.nm _ (List.getElem_mem ao));have aR:=ze (af.o.ok.good _ (List.getElem_mem ao));have a7:=ze bB;have aM:=ze bb;have bq:=ze (af.o.fit t ao);have b0:=ze (fun k hk=>af.o.len1 t k ao hk);have bX:=ze (fun k hk=>af.o.len2 t k ao hk);have r:=zf wr (.cells #[str goal[t].name,str goal[t].coef] 35);have V:=ze (Blk.new wr 35 #[str goal[t].name,str goal[t].coef]);replace j:=ze (j.o.below r);replace l:=kb_ l r;clear r bH bb bB
  go_upto_region 6 with fail
  clear p0 p1 b1;generalize wr.alloc (.cells #[str goal[t].name,str goal[t].coef] 35)=W1 at V j l |-;generalize wr.heap.size=gk at V |-;have p0:=V.o.cell 0;simp at p0;have kL:=V.o.lt;have t2:=j.o.tab.cell2;have tL:=j.o.tab.lt;have a0:=fun w' (h:zF w' base (.slice F.nA F.nn F.nc) names)=>VZ F.nA F.nn F.nc names goal[t].name base _ w' h aD.o.lt aD.o.at_ aD.o.lo aD.o.hi (by have:=bA.o;have:=j.o.tab.cols;omega)
  have aN:=aD.o.lt;obtain ⟨p,hp⟩:∃ p,names.idxOf goal[t].name=p:=⟨_,rfl⟩;have bf:Hid (zb8 names goal t=p):=by show zb8 _ _ _=_;unfold zb8;rw [a7.o];exact hp
  rw [hp] at a0 aN;have bo:=ze a0;have aV:=ze aN;clear a0 hp aN;refine zt (S:=fun w' =>Hid (Below W1.heap.size W1 w')/\w'.cell? ⟨F.gt,2,none⟩=some (.slice F.nA F.nn F.nc)/\w'.cell? ⟨gk,0,none⟩=some (str goal[t].name)) 6 5 11 rfl (by kernel_rfl) (by kernel_rfl) (by kernel_rfl) rfl (zl (zu W1) (fun hB=>⟨zh hB tL t2,zh hB kL p0⟩)) ?_ (fun hHeld=>?_)
  . intro _ _ _ _ _ h9;exact h9
  simp only [List.take_succ_cons,List.take_zero]
  iterate 6 refine ye ?_
  refine zU ?_;refine HH.rd 6 (fun K hK=>?_)
  go_simp
  go_at_call 108;refine (bo.o _ (j.o.nms.below hHeld.1.out)).mono ?_;rintro e w9 ⟨rfl,rfl⟩;have C:=hHeld;clear hHeld;refine hK.out _ _ (zl (C.1) (fun hB=>⟨zh hB tL t2,zh hB kL p0⟩)) (fun hHeld=>?_);clear C hK K
  try simp only [Act.put,xST]
  clear bo p0 kL t2 tL;refine HH.tk 7 ?_;refine HH.tk 8 ?_;refine HH.tk 9 ?_;refine HH.tk 10 ?_;have ag:=(hHeld.1).out
  try clear z0 z1 Y zL k0 k1 kL
  replace j:=ze (zhi.below j.o ag);replace l:=kb_ l ag;replace V:=kb_ V ag;clear ag hHeld;refine HH.done (by kernel_rfl) ?_;simp only [List.drop_succ_cons,List.drop_zero];obtain ⟨z0,z1,Y,zL⟩:=bkc3 l.o;obtain ⟨k0,k1,kL⟩:=zxb V.o;clear z0 z1 Y zL k0 kL
  go_upto_region 7 with fail
  generalize W1.drew=W2 at j l V |-
  go_cut [11] from 44 to 71 (fun sx wc=>∃ (gc:Nat) (x1:Int) (A1:Option Addr) (k1 c1:Nat) (s1:Bool) (y1:Int) (X:Option Addr) (aa ab:Nat) (O:Bool),sx= .pointer (some ⟨gc,0,none⟩)/\Hid (Blk wc gc 55 #[.int .i64 x1,.slice A1 k1 c1,.bool s1,.int .i64 y1,.slice X aa ab,.bool O])/\Hid (yc wc (.agg #[.int .i64 x1,.slice A1 k1 c1,.bool s1,.int .i64 y1,.slice X aa ab,.bool O]) (qOf goal[t].coef))/\
   Hid (zhi w base m L F T b gl gs (.slice (some ad) goal.length c) goal names (zcf T names m L (vH goal) goal t) (vH goal) wc)/\Hid (Blk wc E 53 #[.int .i64 0,.slice none 0 0,.bool false]))
  case first=>
   have c0:W2.cell? ⟨F.gt,0,none⟩=some (.map (some b)):=by
    obtain ⟨⟨x,A,n,c,ng,M,_⟩,_⟩:=j.o.tab;rw [M.cell, <- bc.o];rfl
   have aj:¬ F.gt=b:=by
    obtain ⟨⟨x,A,n,c,ng,M,_⟩,_⟩:=j.o.tab;exact j.o.book.ne M
   have am:¬ gk=b:=j.o.book.ne V.o;have p1:=V.o.cell 1;simp at p1;refine zt (S:=fun w' =>Hid (Chg (fun x=>x=b) W2 w')/\w'.cell? ⟨F.gt,0,none⟩=some (.map (some b))/\w'.cell? ⟨gk,1,none⟩=some (str goal[t].coef)) 6 6 12 rfl (by kernel_rfl) (by kernel_rfl) (by kernel_rfl) rfl (zl (Zo W2) (fun hB=>⟨zX hB c0 aj,zX hB p1 am⟩)) ?_ (fun hHeld=>?_)
   . intro _ _ _ _ _ h9;exact h9
   simp only [List.take_succ_cons,List.take_zero]
   iterate 6 refine ye ?_
   refine zU ?_;refine HH.ready (rs:=[6,10]) (by kernel_rfl) (by simp) (by kernel_rfl) ?_;refine yV.cons (o:=_) rfl (fun K hK=>?_) (yV.cons (o:=_) rfl (fun K hK=>?_) yV.nil)
   . skip
     go_simp
     go_at_call 34;have aO:=(zu W2).out;replace j:=ze (j.o.below aO);replace l:=kb_ l aO;clear aO;refine (a4.o _ j.o.book _ aM.o).mono ?_;rintro e w4 ⟨v,bL,rfl,⟨x1,A1,k1,c1,s1,y1,X,aa,ab,O,rfl⟩,aU,hq,ai,B⟩;have aC:=hq _ (Vw aR.o.1);have D:=j.o.book.keepBlk B l.o;replace j:=ze (j.o.read B ai);replace l:=ze D;have HQ:=ze aC;have C:=hHeld;clear hHeld;refine hK.out _ _ (zl (ZY B C.1) (fun hB=>⟨zX hB c0 aj,zX hB p1 am⟩)) (fun hHeld=>?_);clear C hK K
     try simp only [Act.put,xST]
     have bd:Hid (Chg (fun x=>x=b) W2 (w4.alloc (.cells #[.int .i64 x1,.slice A1 k1 c1,.bool s1,.int .i64 y1,.slice X aa ab,.bool O] 55))):=vT (zf _ _) hHeld.1;clear B ai aC D hq aU;refine HH.tk 7 ?_;refine HH.tk 8 ?_;refine HH.tk 9 ?_;refine HH.rd 10 (fun K hK=>?_)
     go_simp
     have C:=hHeld;clear hHeld;refine hK.out _ _ (zl (vT (zf _ _) C.1) (fun hB=>⟨zX hB c0 aj,zX hB p1 am⟩)) (fun hHeld=>?_);clear C hK K
     try simp only [Act.put,xST]
     refine HH.rd 11 (fun K hK=>?_)
     go_simp
     have C:=hHeld;clear hHeld;refine hK.out _ _ (zl (bd) (fun hB=>⟨zX hB c0 aj,zX hB p1 am⟩)) (fun hHeld=>?_);clear C hK K
     try simp only [Act.put,xST]
     clear bd;have ag:=(hHeld.1).out;clear ag hHeld;refine HH.done (by kernel_rfl) ?_;simp only [List.drop_succ_cons,List.drop_zero];go_wp2_with fail;go_meet;have r:=zf w4 (.cells #[.int .i64 x1,.slice A1 k1 c1,.bool s1,.int .i64 y1,.slice X aa ab,.bool O] 55);exact ⟨w4.heap.size,_,_,_,_,_,_,_,_,_,_,rfl,Blk.new _ _ _,HQ.o.below r,j.o.below r,l.o.below r l.o.lt⟩
   . skip
     go_simp
     have al:=(yU W2 (.cells #[.int .i64 0,.slice none 0 0,.bool false,.int .i64 0,.slice none 0 0,.bool false] 55)).out;have z:Hid (Blk (W2.alloc (.cells #[.int .i64 0,.slice none 0 0,.bool false,.int .i64 0,.slice none 0 0,.bool false] 55)).drew W2.heap.size 55 #[.int .i64 0,.slice none 0 0,.bool false,.int .i64 0,.slice none 0 0,.bool false]):=(Blk.new W2 _ _).drew;have a3:=j;replace j:=ze (j.o.below al);have a6:=l;replace l:=kb_ l al;have ar:Hid (Chg (fun x=>x=b) W2 (W2.alloc (.cells #[.int .i64 0,.slice none 0 0,.bool false,.int .i64 0,.slice none 0 0,.bool false] 55)).drew):=Chg.of_below al;have C:=hHeld;clear hHeld;refine hK.out _ _ (zl (ar) (fun hB=>⟨zX hB c0 aj,zX hB p1 am⟩)) (fun hHeld=>?_);clear C hK K
     try simp only [Act.put,xST]
     clear ar al;refine HH.rd 6 (fun K hK=>?_)
     go_simp
     go_at_call 34;refine (a4.o _ j.o.book _ aM.o).mono ?_;rintro e w4 ⟨v,bL,rfl,⟨x1,A1,k1,c1,s1,y1,X,aa,ab,O,rfl⟩,aU,hq,ai,B⟩;have aC:=hq _ (Vw aR.o.1);have D:=j.o.book.keepBlk B l.o;have bl:=j.o.book.keepBlk B z.o;replace j:=ze (j.o.read B ai);replace l:=ze D;replace z:=ze bl;have HQ:=ze aC;have C:=hHeld;clear hHeld;refine hK.out _ _ (zl (ZY B C.1) (fun hB=>⟨zX hB c0 aj,zX hB p1 am⟩)) (fun hHeld=>?_);clear C hK K
     try simp only [Act.put,xST]
     clear B ai aC D hq aU bl;refine HH.tk 7 ?_;refine HH.tk 8 ?_;refine HH.tk 9 ?_;have z0:=z.o.cell 0;have z1:=z.o.cell 1;have Y:=z.o.cell 2;have z3:=z.o.cell 3;have z4:=z.o.cell 4;have z5:=z.o.cell 5;have f0:=z.o.frozen 0;have f1:=z.o.frozen 1;have f2:=z.o.frozen 2;have f3:=z.o.frozen 3;have f4:=z.o.frozen 4;have f5:=z.o.frozen 5;simp at z0 z1 Y z3 z4 z5;have az:Chg (· =W2.heap.size) w4 (World.rat w4 W2.heap.size x1 A1 k1 c1 s1 y1 X aa ab O):=Chg.ratSet;have aW:zZ w4 W2.heap.size:=z.o.noDig (XJ _ _ _ _ _ _ _ _ _ _);have bh:=ze (a3.o.far j.o az (Nat.le_refl _) aW);have ba:=ze (az.rat HQ.o (fun y e=>by subst e;exact aW));have bG:=ze (((((((z.o.set_ 0 (.int .i64 x1)).set_ 1 (.slice A1 k1 c1)).set_ 2 (.bool s1)).set_ 3 (.int .i64 y1)).set_ 4 (.slice X aa ab)).set_ 5 (.bool O)));have bu:=ze (az.blk l.o (by have:=a6.o.lt;omega));have ar:Hid (Chg (fun x=>x=b) W2 (World.rat w4 W2.heap.size x1 A1 k1 c1 s1 y1 X aa ab O)):=hHeld.1.out.trans az (fun y hy e=>by omega)
     clear j HQ z l az aW a3 a6;simp only [World.rat] at ar bh ba bu;refine HH.rd 11 (fun K hK=>?_)
     go_simp
     have C:=hHeld;clear hHeld;refine hK.out _ _ (zl (ar) (fun hB=>⟨zX hB c0 aj,zX hB p1 am⟩)) (fun hHeld=>?_);clear C hK K
     try simp only [Act.put,xST]
     clear ar z0 z1 Y z3 z4 z5 f0 f1 f2 f3 f4 f5;have ag:=(hHeld.1).out;clear ag hHeld;refine HH.done (by kernel_rfl) ?_;simp only [List.drop_succ_cons,List.drop_zero];go_wp2_with fail;go_meet;exact ⟨W2.heap.size,_,_,_,_,_,_,_,_,_,_,rfl,bG.o,ba.o,bh.o,bu.o⟩
  case rest=>
   clear j V l aM;obtain ⟨gc,x1,A1,k1,c1,s1,y1,X,aa,ab,O,rfl,ah,HQ,j,l⟩:=hcut;generalize wc=W5 at ah HQ j l |-;have q0:=ah.o.cell 0;have q1:=ah.o.cell 1;have q2:=ah.o.cell 2;have q3:=ah.o.cell 3;have q4:=ah.o.cell 4;have q5:=ah.o.cell 5;simp at q0 q1 q2 q3 q4 q5;obtain ⟨sx,sA,sn,sc,sg,ac,aw⟩:=j.o.box;have z0:=ac.cell 0;have z1:=ac.cell 1;have Y:=ac.cell 2;simp at z0 z1 Y;have bm:=zee _ _ _ _ W5 HQ.o aw aR.o.2 (by have:=(af.o.ok.fit goal.length (Nat.le_refl _)).1;exact Nat.le_trans this (by omega));have J:=ze bm;have ap:=ze j.o.row.lt;clear ac aw bm;go_wp2_with fail;refine J.o.mono ?_;rintro e w7 ⟨v,rfl,hv,aZ⟩;clear q0 q1 q2 q3 q4 q5 z0 z1 Y J ah HQ;obtain ⟨x4,A4,k4,c4,s4,rfl,_,_,_⟩:=hv.form;have bQ:Hid (Z3 (qOf goal[t].coef) (vH goal)=Va (vH goal) goal t):=by show _=_;unfold Va;rw [a7.o]
   rw [bQ.o] at hv;have aS:=zf w7 (.cells #[.int .i64 x4,.slice A4 k4 c4,.bool s4] 53);have r:=ext aZ aS;have R:=ze (Blk.new w7 53 #[.int .i64 x4,.slice A4 k4 c4,.bool s4]);have a9:Hid (¬ w7.heap.size=gl):=by have:=ap.o;have:=aZ.size;show ¬ _;omega
   replace j:=ze (j.o.below r);replace l:=kb_ l r;have HV:=ze (hv.below aS);clear r aS hv aZ ap
   go_upto_region 9 with fail
   generalize w7.alloc (.cells #[.int .i64 x4,.slice A4 k4 c4,.bool s4] 53)=W7 at j l R HV |-;generalize w7.heap.size=gv at R a9 |-;have q0:=R.o.cell 0;have q1:=R.o.cell 1;have q2:=R.o.cell 2;simp at q0 q1 q2;obtain ⟨U1,bp⟩:∃ U,U=2*p:=⟨_,rfl⟩;obtain ⟨U2,bs⟩:∃ U,U=2*p+1:=⟨_,rfl⟩;have bM:p<1000:=by have:=aV.o;have:=bA.o;have:=j.o.tab.cols;omega
   have e1:IntKind.i64.wrap (2*(p:Int))=(U1:Int):=by rw [IntKind.wrap_i64];omega
   have e2:IntKind.i64.wrap ((U1:Int)+1)=(U2:Int):=by rw [IntKind.wrap_i64];omega
   have bj:=ze bp;have bx:=ze bs;have ax:=zbz base m L F T gl _ (U1:Int) _ _ W7 j.o.tab j.o.row HV.o av.o HF.o bq.o (fun k hk=>b0.o k hk) hm (by omega) hm0 (af.o.known U1 (by have:=aV.o;omega));have aE:=ze ax;clear ax bp bs bM;go_wp2_with fail;refine aE.o.mono ?_;rintro e w8 ⟨rfl,ay,ae⟩;have bn:=ae.blk R.o a9.o;have a2:=ae.num HV.o (fun y e=>by subst e;exact j.o.row.noDig);have D:=ae.blk l.o aI.o;replace j:=ze (j.o.rowed ay ae av.o);replace R:=ze bn;replace HV:=ze a2;replace l:=ze D;clear ay ae bn a2 D aE q0 q1 q2;have q0:=R.o.cell 0;have q1:=R.o.cell 1;have q2:=R.o.cell 2;simp at q0 q1 q2;have br:=yY _ _ w8 HV.o;have bC:=ze br;clear br;go_wp2_with fail;refine bC.o.mono ?_;rintro e w9 ⟨v9,rfl,bw,aK⟩;replace j:=ze (j.o.below aK);replace l:=kb_ l aK
   have ax:=zbz base m L F T gl _ (U2:Int) _ _ w9 j.o.tab j.o.row bw av.o HF.o bq.o.neg (fun k hk=>by
    have M:=bX.o k hk;rw [bf.o, <- bj.o] at M
    exact M) hm (by omega) hm0 (af.o.known U2 (by have:=aV.o;have:=bx.o;omega))
   have aE:=ze ax;clear ax aK bw bC q0 q1 q2 R HV;go_wp2_with fail;refine aE.o.mono ?_;rintro e b6 ⟨rfl,ay,ae⟩;have D:=ae.blk l.o aI.o;replace j:=ze (j.o.rowed ay ae av.o);replace l:=ze D;clear ay ae D aE
   have bJ:Hid ((fun k=>(fun k=>zcf T names m L (vH goal) goal t k+XZ T m L (U1:Int) (Va (vH goal) goal t) k) k+XZ T m L (U2:Int) (-(Va (vH goal) goal t)) k)=zcf T names m L (vH goal) goal (t+1)):=by
    show _=_
    funext k
    show _=_+XZ T m L ((2*zb8 names goal t:Nat):Int) _ k+XZ T m L ((2*zb8 names goal t+1:Nat):Int) _ k
    have M:=bj.o;have h2:=bx.o;rw [bf.o, <- M,show U1+1=U2 by omega]
   rw [bJ.o] at j;go_wp2_with fail;go_roundw
   case rel=>first | exact ⟨t+1,by omega,by go_num,j,l⟩ | ((repeat apply Exists.intro);refine ⟨?_,rfl⟩;exact ⟨t+1,by omega,by go_num,j,l⟩)
   case measure=>simp [intOf];omega
end Go.Proofs.YthbmhkiphmcogaaGreatDoor
