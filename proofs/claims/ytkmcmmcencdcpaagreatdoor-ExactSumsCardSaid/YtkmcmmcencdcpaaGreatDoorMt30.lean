/- Parts of the proof: memory, numbers, walks of the functions that are called. -/
import Derived.Deep.Cut
import Derived.Test.YtkmcmmcencdcpaaGreatDoorMt29
set_option linter.unusedVariables false
set_option linter.unusedSimpArgs false
namespace Go.Proofs.YtkmcmmcencdcpaaGreatDoor
open Go.RowKit Go.Deep
attribute [local go_sem ↓] Go.wp_at_zero Go.wp_at_succ
def VP (T:yy) (names:List (List UInt8)) (m L:Nat) (s:Int) (goal:List zG):Nat->Nat->Int
 | 0=>fun _=>0
 | t+1=>fun k=>VP T names m L s goal t k+YC T m L ((2*VM names goal t:Nat):Int) (YD s goal t) k+YC T m L ((2*VM names goal t+1:Nat):Int) (-(YD s goal t)) k
def xU (goal:List zG):Int:=Zd ((qOf [48]).den:Int) goal goal.length
structure zp5 (T:yy) (names:List (List UInt8)) (m L:Nat) (goal:List zG):Prop where
 ok:zct [48] goal
 nm:∀ t∈goal,zex names t.name
 fit:∀ t,t<goal.length->Fit (YD (xU goal) goal t)
 len1:∀ t k,t<goal.length->k<L->len 4294967296 (VP T names m L (xU goal) goal t k).natAbs<=67108864
 len2:∀ t k,t<goal.length->k<L->len 4294967296 (VP T names m L (xU goal) goal t k+YC T m L ((2*VM names goal t:Nat):Int) (YD (xU goal) goal t) k).natAbs<=67108864
 known:∀ u:Nat,u<2*names.length->xT T.basic (u:Int) m=none->xT T.other (u:Int) (L - 1)≠none
def yy.aimed (T:yy) (m:Nat) (f:Nat->Int):yy:={ T with cell:=fun i k=>if i=m then f k else T.cell i k }
theorem zB.ne {w:World} {b x:Nat} {cs:Array Value} {t:TypeId} {fr:Nat×Nat} (h:zB w b) (k:w.heap[x]?=some (.cells cs t fr)):x≠b:=by
 intro e
 subst e
 obtain ⟨D,⟨es,c,hb,_⟩,_⟩:=h
 rw [k] at hb;cases hb
theorem yb.read {base m L b:Nat} {F:zS} {w w' :World} {T:yy} (h:yb base m L F w T) (hB:zB w b) (hc:Chg (· =b) w w'):yb base m L F w' T:=by
 obtain ⟨⟨x,A,n,c,ng,h1,h2⟩,h3,h4,h5,h6,h7,h8⟩:=h
 have hS:∀ x,x=b->yn w x:=fun x e=>by subst e;exact hB.noDig
 have hown:∀ e v size k xs,vJ w base e size v k xs->∀ c,v.ownBlock=some c->¬ c=b:=fun e v size k xs ho c hc2=>by
  obtain ⟨cs2,k2⟩:=ho.heap hc2
  exact hB.ne k2
 exact ⟨⟨x,A,n,c,ng,hc.blk h1 (hB.ne h1),hc.num h2 hS⟩,h3.chg hc (fun i hi=>by obtain ⟨cs,k1⟩:=(h3.rows i hi).2.heap;exact hB.ne k1) (hown _ _ _ _ _ h3.own) hS,h4.chg hc (hown _ _ _ _ _ h4),h5.chg hc (hown _ _ _ _ _ h5),h6,h7,h8⟩
structure zd3 (w0:World) (base m L:Nat) (F:zS) (T:yy) (b gl gs:Nat) (tv:Value) (goal:List zG) (names:List (List UInt8)) (f:Nat->Int) (s:Int) (w:World):Prop where
 tab:yb base m L F w T
 row:xy w gl L L f
 box:Zw w gs s
 book:zB w b
 tms:zk w w0.heap.size tv goal
 nms:yg w base (.slice F.nA F.nn F.nc) names
 chg:Chg (· =b) w0 w
 lo:w0.heap.size<=gl
 hb:b<w0.heap.size
 ne:gs≠gl
 bs:base<=w0.heap.size
section
variable {w0 w w' :World} {base m L:Nat} {F:zS} {T:yy} {b gl gs:Nat} {tv:Value} {goal:List zG} {names:List (List UInt8)} {f f' :Nat->Int} {s:Int}
theorem zd3.below (h:zd3 w0 base m L F T b gl gs tv goal names f s w) (hb:Below w.heap.size w w'):zd3 w0 base m L F T b gl gs tv goal names f s w' :=
 ⟨h.tab.below hb,h.row.below hb,h.box.below hb,h.book.below hb,zk.below h.tms hb,h.nms.below hb,zX h.chg hb,h.lo,h.hb,h.ne,h.bs⟩
theorem zd3.read (h:zd3 w0 base m L F T b gl gs tv goal names f s w) (hc:Chg (· =b) w w') (hb:zB w' b):zd3 w0 base m L F T b gl gs tv goal names f s w' :=by
 refine ⟨h.tab.read h.book hc,h.row.chg hc ?_ (fun x e=>by subst e;exact h.book.noDig),h.book.keepBox hc h.box,hb,h.book.keepT hc h.tms,h.nms.chg hc (fun _ _ e=>by subst e;exact h.book.noCells),yq h.chg hc,h.lo,h.hb,h.ne,h.bs⟩
 obtain ⟨cs,k1⟩:=h.row.heap
 exact h.book.ne k1
theorem yb.far {w0:World} {x:Nat} (h0:yb base m L F w0 T) (h:yb base m L F w T) (hc:Chg (· =x) w w') (hx:w0.heap.size<=x) (hD:yn w x):yb base m L F w' T:=by
 have q0:=h0.lt
 have q1:=h0.mat.lt.2
 have q2:=fun i hi=>(h0.mat.rows i hi).2.lt
 have q3:=fun c hc=>(h0.bas.1.lt c hc).2
 have q4:=fun c hc=>(h0.oth.1.lt c hc).2
 have hS:∀ y,y=x->yn w y:=fun y e=>by subst e;exact hD
 obtain ⟨⟨y,A,n,c,ng,h1,h2⟩,h3,h4,h5,h6,h7,h8⟩:=h
 refine ⟨⟨y,A,n,c,ng,hc.blk h1 (by omega),hc.num h2 hS⟩,h3.chg hc (fun i hi=>by have:=q2 i hi;omega) (fun c hc2 e=>?_) hS,h4.chg hc (fun c hc2 e=>by have:=q3 c hc2;omega),h5.chg hc (fun c hc2 e=>by have:=q4 c hc2;omega),h6,h7,h8⟩
 have:F.gm=c:=by simpa [Value.ownBlock] using hc2
 omega
theorem zd3.far {W:World} {x:Nat} (h0:zd3 w0 base m L F T b gl gs tv goal names f s W) (h:zd3 w0 base m L F T b gl gs tv goal names f s w) (hc:Chg (· =x) w w') (hx:W.heap.size<=x) (hD:yn w x):zd3 w0 base m L F T b gl gs tv goal names f s w' :=by
 have q1:=h0.row.lt
 have q2:=h0.box.lt
 have q3:=h0.book.lt
 have q4:=h0.chg.size
 have q5:=h0.bs
 have hS:∀ y,y=x->yn w y:=fun y e=>by subst e;exact hD
 exact ⟨h0.tab.far h.tab hc hx hD,h.row.chg hc (by omega) hS,h.box.chg hc (by omega) hS,h.book.chg hc (by omega) hS,h.tms.chg hc (fun y hy e=>by omega),h.nms.chg hc (fun y hy e=>by omega),h.chg.trans hc (fun y hy e=>by omega),h.lo,h.hb,h.ne,h.bs⟩
theorem zd3.rowed (h:zd3 w0 base m L F T b gl gs tv goal names f s w) (hr:xy w' gl L L f') (hc:Chg (· =gl) w w') (hne:∀ i,i<=m->F.g i≠gl):zd3 w0 base m L F T b gl gs tv goal names f' s w' :=by
 have hD:∀ x,x=gl->yn w x:=fun x e=>by subst e;exact h.row.noDig
 have hlo:=h.lo
 have hbb:=h.hb
 have hbs:=h.bs
 exact ⟨h.tab.chgRow h.row hc hne,hr,h.box.chg hc h.ne hD,h.book.chg hc (fun e=>by omega) hD,h.tms.chg hc (fun x hx e=>by omega),h.nms.chg hc (fun x hx e=>by omega),h.chg.trans hc (fun x hx e=>by omega),h.lo,h.hb,h.ne,h.bs⟩
end
def AimR (w0:World) (base m L:Nat) (F:zS) (T:yy) (b gl gs g4:Nat) (tv:Value) (goal:List zG) (names:List (List UInt8)) (s:Int) (iv:Value) (wr:World):Prop:=
 ∃ t:Nat,t<=goal.length/\iv= .int .i64 t/\Hid (zd3 w0 base m L F T b gl gs tv goal names (VP T names m L s goal t) s wr)/\Hid (Blk wr g4 91 #[.int .i64 0,.slice none 0 0,.bool false])
def zq0 (F:zS) (m gl:Nat):zS:={ F with g:=fun i=>if i=m then gl else F.g i }
theorem yb.chgX {base m L x:Nat} {F:zS} {w w' :World} {T:yy} (h:yb base m L F w T) (hc:Chg (· =x) w w') (hD:yn w x) (h1:F.gt≠x) (h2:F.gm≠x) (h3:∀ i,i<=m->F.g i≠x) (h4:∀ c,(F.bv.ownBlock=some c\/F.ov.ownBlock=some c)->c≠x):yb base m L F w' T:=by
 have hS:∀ y,y=x->yn w y:=fun y e=>by subst e;exact hD
 obtain ⟨⟨y,A,n,c,ng,k1,k2⟩,k3,k4,k5,k6,k7,k8⟩:=h
 refine ⟨⟨y,A,n,c,ng,hc.blk k1 h1,hc.num k2 hS⟩,k3.chg hc (fun i hi=>h3 i (by omega)) (fun c hc2 e=>?_) hS,k4.chg hc (fun c hc2 e=>h4 c (.inl hc2) e),k5.chg hc (fun c hc2 e=>h4 c (.inr hc2) e),k6,k7,k8⟩
 have:F.gm=c:=by simpa [Value.ownBlock] using hc2
 omega
theorem yb.put {base m L gl:Nat} {F:zS} {w:World} {T:yy} {f:Nat->Int} (h:yb base m L F w T) (hr:xy w gl L L f) (hb:base<=gl) (hne:∀ i,i<=m->F.g i≠gl):
 yb base m L (zq0 F m gl) (w.setCell ⟨F.gm,m,none⟩ (.slice (some ⟨gl,0,none⟩) L L)) (T.aimed m f):=by
 have hc:Chg (· =F.gm) w (w.setCell ⟨F.gm,m,none⟩ (.slice (some ⟨gl,0,none⟩) L L)):=Chg.setCell (S:=(· =F.gm)) (Chg.refl w) (p:=⟨F.gm,m,none⟩) rfl _
 have hD:∀ y,y=F.gm->yn w y:=fun y e=>by subst e;exact h.mat.own.2 _ rfl
 have hgm:∃ cs,w.heap[F.gm]?=some (.cells cs 187 (0,0)):=h.mat.own.heap rfl
 obtain ⟨cm,hcm⟩:=hgm
 obtain ⟨⟨y,A,n,c,ng,k1,k2⟩,k3,k4,k5,k6,k7,k8⟩:=h
 have hown:∀ e v size k xs,e≠187->vJ w base e size v k xs->∀ c,v.ownBlock=some c->¬ c=F.gm:=fun e v size k xs hne ho c hc2 e2=>by
  obtain ⟨cs2,q⟩:=ho.heap hc2
  rw [e2,hcm] at q
  injection q with q
  injection q with _ q _
  exact hne q.symm
 refine ⟨⟨y,A,n,c,ng,hc.blk k1 (xM k1 hcm (by decide)),hc.num k2 hD⟩,⟨?_,fun i j hi hj e=>?_,fun i hi=>?_⟩,k4.chg hc (hown _ _ _ _ _ (by decide) k4),k5.chg hc (hown _ _ _ _ _ (by decide) k5),k6,k7,k8⟩
 . have hs:=k3.own.stored m (u:=zho L gl) (zkb _ _)
   have e:((List.range (m+1)).map fun i=>zho L (F.g i)).set m (zho L gl)=(List.range (m+1)).map fun i=>zho L ((zq0 F m gl).g i):=by
    apply List.ext_getElem?
    intro j;rw [List.getElem?_set]
    rcases Nat.lt_or_ge j (m+1) with hj | hj
    . by_cases ej:m=j
      . subst ej
        rw [if_pos rfl]
        simp [zq0]
      . rw [if_neg ej]
        have:¬ j=m:=fun e=>ej e.symm
        simp [zq0,hj,this]
    . have e1:∀ f:Nat->Value,((List.range (m+1)).map f)[j]?=none:=fun f=>List.getElem?_eq_none (by simpa using hj)
      rw [e1,e1]
      by_cases ej:m=j
      . omega
      . rw [if_neg ej]
   rw [e] at hs;exact hs
 . have e2:(if i=m then gl else F.g i)=if j=m then gl else F.g j:=e
   by_cases i1:i=m
   . by_cases j1:j=m
     . omega
     . rw [if_pos i1,if_neg j1] at e2;exact absurd e2.symm (hne j (by omega))
   . by_cases j1:j=m
     . rw [if_neg i1,if_pos j1] at e2;exact absurd e2 (hne i (by omega))
     . rw [if_neg i1,if_neg j1] at e2;exact k3.inj i j hi hj e2
 . show base<=(if i=m then gl else F.g i)/\xy _ (if i=m then gl else F.g i) L L (fun k=>if i=m then f k else T.cell i k)
   by_cases i1:i=m
   . simp only [if_pos i1]
     exact ⟨hb,hr.chg hc (by obtain ⟨cs,q⟩:=hr.heap;exact xM q hcm (by decide)) hD⟩
   . simp only [if_neg i1]
     exact ⟨(k3.rows i hi).1,(k3.rows i hi).2.chg hc (by obtain ⟨cs,q⟩:=(k3.rows i hi).2.heap;exact xM q hcm (by decide)) hD⟩
def zre (base m L:Nat) (F:zS) (T:yy) (b:Nat) (goal:List zG) (names:List (List UInt8)) (w:World) (e:Ending) (w' :World):Prop:=
 ∃ v gl,e= .returned v/\zR w' v (xU goal)/\yb base m L (zq0 F m gl) w' (T.aimed m (VP T names m L (xU goal) goal goal.length))/\zB w' b/\yg w' base (.slice F.nA F.nn F.nc) names/\Chg (fun x=>x=b\/x=F.gm) w w' /\w.heap.size<=gl
set_option maxRecDepth 100000 in
set_option maxHeartbeats 8000000 in
theorem zij (base m L:Nat) (F:zS) (T:yy) (b:Nat) (A:Option Addr) (n c:Nat) (goal:List zG) (names:List (List UInt8)) (w:World) (hT:yb base m L F w T) (hbk:F.bk=some b) (hB:zB w b) (hg:ya w (.slice A n c) goal)
 (hn:yg w base (.slice F.nA F.nn F.nc) names) (hok:zp5 T names m L goal) (hf:T.Fits m L) (hm:m<=100000) (hm0:0<m) (hL:L<=1000) (hbase:base<=w.heap.size):
 Calls Tryz.prog 137 #[.pointer (some ⟨F.gt,0,none⟩),.slice A n c] w (zre base m L F T b goal names w):=by
 obtain rfl:=hg.len
 have hnl:=hn.len
 have hgbd:=hg.bound
 have hx:=zf w (.cells #[.int .i64 0,.slice none 0 0,.bool false] 91)
 have HK4:=ze (Blk.new w 91 #[.int .i64 0,.slice none 0 0,.bool false])
 have HT:=ze (hT.below hx)
 have HB:=ze (hB.below hx)
 have HTM:=ze (zk.below hg hx)
 have HNM:=ze (hn.below hx)
 have HC:Hid (Chg (· =b) w (w.alloc (.cells #[.int .i64 0,.slice none 0 0,.bool false] 91))):=Chg.of_below hx
 have HBL:=ze hB.lt
 have HOK:=ze hok
 have HF:=ze hf
 have HNL:=ze hnl
 have HBA:=ze hbase
 have HGM:=ze (show F.gm<w.heap.size from hT.mat.lt.2)
 have HGI:=ze (fun i (hi:i<=m)=>(hT.mat.rows i (by omega)).2.lt)
 have HBK:=ze hbk
 have HOW:=ze (show ∀ c,(F.bv.ownBlock=some c\/F.ov.ownBlock=some c)->c<w.heap.size from fun c h=>h.elim (fun h=>(hT.bas.1.lt c h).2) (fun h=>(hT.oth.1.lt c h).2))
 have HGT0:=ze hT.lt
 clear hT hB hg hn hok hf hx hnl hbase hbk
 go_enter Tryz.func137,Tryz.ntmps137
 go_upto_region 1 with fail
 generalize w.alloc (.cells #[.int .i64 0,.slice none 0 0,.bool false] 91)=W0 at HK4 HT HB HTM HNM HC |-
 obtain ⟨g4,hg4⟩:∃ g4,g4=w.heap.size:=⟨_,rfl⟩
 rw [<- hg4] at HK4 |-
 have HG4:Hid (w.heap.size<=g4):=Nat.le_of_eq hg4.symm
 clear hg4
 have c0:W0.cell? ⟨F.gt,0,none⟩=some (.map (some b)):=by
  obtain ⟨⟨x,A,n,c,ng,h1,_⟩,_⟩:=HT.out
  rw [h1.cell, <- HBK.out];rfl
 have hsc:=zcm b A goal.length c [48] goal W0 HB.out (HTM.out.more HC.out.size) (by unfold yo;decide) HOK.out.ok
 have HSC:=ze hsc
 clear hsc
 go_wp2_with fail
 refine HSC.out.mono ?_
 rintro e w2 ⟨v,rfl,hv,hB1,hc1⟩
 obtain ⟨x2,A2,k2,c2,s2,rfl,_,_,_⟩:=hv.form
 have hkk:=HB.out.keepBlk hc1 HK4.out
 replace HT:=ze (HT.out.read HB.out hc1)
 replace HTM:=ze (HB.out.keepT hc1 HTM.out)
 replace HNM:=ze (HNM.out.chg hc1 (fun _ _ e=>by subst e;exact HB.out.noCells))
 replace HC:=ze (yq HC.out hc1)
 replace HB:=ze hB1
 have hx:=zf w2 (.cells #[.int .i64 x2,.slice A2 k2 c2,.bool s2] 91)
 have HBX:Hid (Zw (w2.alloc (.cells #[.int .i64 x2,.slice A2 k2 c2,.bool s2] 91)) w2.heap.size (xU goal)):=⟨_,_,_,_,_,Blk.new _ _ _,hv.below hx⟩
 replace HK4:=ze (hkk.below hx hkk.lt)
 replace HT:=ze (HT.out.below hx)
 replace HTM:=ze (zk.below HTM.out hx)
 replace HNM:=ze (HNM.out.below hx)
 replace HB:=ze (HB.out.below hx)
 have HG5:Hid (g4<w2.heap.size):=hkk.lt
 replace HC:=ze (zX HC.out hx)
 clear hx hkk hB1 hc1 hv HSC c0
 go_upto_region 2 with fail
 generalize w2.alloc (.cells #[.int .i64 x2,.slice A2 k2 c2,.bool s2] 91)=W3 at HBX HK4 HT HTM HNM HB HC |-
 generalize w2.heap.size=gs at HBX HG5 |-
 obtain ⟨go,co,eo,hgo,hoc⟩:=HT.out.others
 have t8:=HT.out.cell8
 have hL2:=HT.out.lt2
 rw [eo] at t8
 have e1:IntKind.i64.wrap (((L - 1:Nat):Int)+1)=(L:Int):=by rw [IntKind.wrap_i64];omega
 have hmk:=fun w=>zar .i64 L hL w
 go_upto_region 3 with fail
 have hx:=zf W3 (.cells (y7 L) 91)
 have HSL:=ze HBX.out.lt
 have HS:Hid (zd3 w base m L F T b W3.heap.size gs (.slice A goal.length c) goal names (VP T names m L (xU goal) goal 0) (xU goal) (W3.alloc (.cells (y7 L) 91))):=
  ⟨HT.out.below hx,zde W3 L,HBX.out.below hx,HB.out.below hx,zk.below HTM.out hx,HNM.out.below hx,zX HC.out hx,HC.out.size,HBL.out,(by have:=HSL.out;omega),HBA.out⟩
 replace HK4:=kb_ HK4 hx
 have HNE4:Hid (g4≠W3.heap.size):=by have:=HG5.out;have:=HSL.out;show _≠_;omega
 have HGL:Hid (∀ i,i<=m->F.g i≠W3.heap.size):=fun i hi=>by have:=(HT.out.mat.rows i (by omega)).2.lt;omega
 clear hx hmk e1 t8 eo hgo hoc hL2 HT HTM HNM HB HC HBX HSL
 generalize W3.alloc (.cells (y7 L) 91)=W4 at HS HK4 |-
 generalize W3.heap.size=gl at HS HGL HNE4 |-
 have HNB4:Hid (g4≠b):=by have:=HG4.out;have:=HBL.out;show _≠_;omega
 have hrd:=fun w' (h:zB w' b) (s:List UInt8) (hs:yo s)=>vD b ⟨s.toArray⟩ w' h (by rw [<- zo,yR];exact hs)
 simp only [yR] at hrd
 have HRD:=ze hrd
 clear hrd HG5
 go_wp2_with fail
 go_loopw [30] (AimR w base m L F T b gl gs g4 (.slice A goal.length c) goal names (xU goal)) (fun iv _=>goal.length - (intOf iv).toNat)
 case atStart=>exact ⟨0,Nat.zero_le _,rfl,HS,HK4⟩
 case round=>
  clear HS HK4
  obtain ⟨t,ht,rfl,HS,HK4⟩:=hrel
  by_cases htl:t<goal.length
  . have hti:(t:Int)<(goal.length:Int):=by omega
    obtain ⟨ad,eA,hbb,p0,p1,hs1,hs2⟩:=HS.out.tms.at_ htl;subst eA;have hgd:goal.getD t default=goal[t]:=by simp [List.getD,List.getElem?_eq_getElem htl]
    have HNO:=ze (HOK.out.nm _ (List.getElem_mem htl));have HGOOD:=ze (HOK.out.ok.good _ (List.getElem_mem htl));have HGT:=ze hgd;have HS2:=ze hs2;have HFC:=ze (HOK.out.fit t htl);have HL1:=ze (fun k hk=>HOK.out.len1 t k htl hk);have HL2:=ze (fun k hk=>HOK.out.len2 t k htl hk);have hx:=zf wr (.cells #[str goal[t].name,str goal[t].coef] 60);have HK:=ze (Blk.new wr 60 #[str goal[t].name,str goal[t].coef]);replace HS:=ze (HS.out.below hx);replace HK4:=kb_ HK4 hx;clear hx hs1 hs2 hgd
    go_upto_region 6 with fail
    clear p0 p1 hbb;generalize wr.alloc (.cells #[str goal[t].name,str goal[t].coef] 60)=W1 at HK HS HK4 |-;generalize wr.heap.size=gk at HK |-;have p0:=HK.out.cell 0;simp at p0;have kL:=HK.out.lt;have t2:=HS.out.tab.cell2;have tL:=HS.out.tab.lt;have hbs:=fun w' (h:yg w' base (.slice F.nA F.nn F.nc) names)=>XI F.nA F.nn F.nc names goal[t].name base _ w' h HNO.out.lt HNO.out.at_ HNO.out.lo HNO.out.hi (by have:=HNL.out;have:=HS.out.tab.cols;omega)
    have hpl:=HNO.out.lt;obtain ⟨p,hp⟩:∃ p,names.idxOf goal[t].name=p:=⟨_,rfl⟩;have HPOS:Hid (VM names goal t=p):=by show VM _ _ _=_;unfold VM;rw [HGT.out];exact hp
    rw [hp] at hbs hpl;have HBS:=ze hbs;have HPL:=ze hpl;clear hbs hp hpl;refine zr (S:=fun w' =>Hid (Below W1.heap.size W1 w')/\w'.cell? ⟨F.gt,2,none⟩=some (.slice F.nA F.nn F.nc)/\w'.cell? ⟨gk,0,none⟩=some (str goal[t].name)) 6 5 11 rfl (by kernel_rfl) (by kernel_rfl) (by kernel_rfl) rfl (zm (zv W1) (fun hB=>⟨zh hB tL t2,zh hB kL p0⟩)) ?_ (fun hHeld=>?_)
    . intro _ _ _ _ _ h9;exact h9
    simp only [List.take_succ_cons,List.take_zero]
    iterate 6 refine zW ?_
    refine zM ?_;refine HH.rd 6 (fun K hK=>?_)
    go_simp
    go_at_call 184;refine (HBS.out _ (HS.out.nms.below hHeld.1.out)).mono ?_;rintro e w9 ⟨rfl,rfl⟩;have hH0:=hHeld;clear hHeld;refine hK.out _ _ (zm (hH0.1) (fun hB=>⟨zh hB tL t2,zh hB kL p0⟩)) (fun hHeld=>?_);clear hH0 hK K
    try simp only [Act.put,List.setIfInBounds_toArray,List.set_cons_zero,List.set_cons_succ]
    clear HBS p0 kL t2 tL;refine HH.tk 7 ?_;refine HH.tk 8 ?_;refine HH.tk 9 ?_;refine HH.tk 10 ?_;have HBY:=(hHeld.1).out
    try clear z0 z1 z2 zL k0 k1 kL
    replace HS:=ze (zd3.below HS.out HBY);replace HK4:=kb_ HK4 HBY;replace HK:=kb_ HK HBY;clear HBY hHeld;refine HH.done (by kernel_rfl) ?_;simp only [List.drop_succ_cons,List.drop_zero];obtain ⟨z0,z1,z2,zL⟩:=bkc3 HK4.out;obtain ⟨k0,k1,kL⟩:=bkc2 HK.out;clear z0 z1 z2 zL k0 kL
    go_upto_region 7 with fail
    generalize W1.drew=W2 at HS HK4 HK |-
    go_cut [11] from 44 to 71 (fun sx wc=>∃ (gc:Nat) (x1:Int) (A1:Option Addr) (k1 c1:Nat) (s1:Bool) (y1:Int) (B1:Option Addr) (k1x c1x:Nat) (t1:Bool),sx= .pointer (some ⟨gc,0,none⟩)/\Hid (Blk wc gc 93 #[.int .i64 x1,.slice A1 k1 c1,.bool s1,.int .i64 y1,.slice B1 k1x c1x,.bool t1])/\Hid (yC wc (.agg #[.int .i64 x1,.slice A1 k1 c1,.bool s1,.int .i64 y1,.slice B1 k1x c1x,.bool t1]) (qOf goal[t].coef))/\
     Hid (zd3 w base m L F T b gl gs (.slice (some ad) goal.length c) goal names (VP T names m L (xU goal) goal t) (xU goal) wc)/\Hid (Blk wc g4 91 #[.int .i64 0,.slice none 0 0,.bool false]))
    case first=>
     have c0:W2.cell? ⟨F.gt,0,none⟩=some (.map (some b)):=by
      obtain ⟨⟨x,A,n,c,ng,h1,_⟩,_⟩:=HS.out.tab;rw [h1.cell, <- HBK.out];rfl
     have hgb:¬ F.gt=b:=by
      obtain ⟨⟨x,A,n,c,ng,h1,_⟩,_⟩:=HS.out.tab;exact HS.out.book.ne h1
     have hkb:¬ gk=b:=HS.out.book.ne HK.out;have p1:=HK.out.cell 1;simp at p1;refine zr (S:=fun w' =>Hid (Chg (fun x=>x=b) W2 w')/\w'.cell? ⟨F.gt,0,none⟩=some (.map (some b))/\w'.cell? ⟨gk,1,none⟩=some (str goal[t].coef)) 6 6 12 rfl (by kernel_rfl) (by kernel_rfl) (by kernel_rfl) rfl (zm (vT W2) (fun hB=>⟨zH hB c0 hgb,zH hB p1 hkb⟩)) ?_ (fun hHeld=>?_)
     . intro _ _ _ _ _ h9;exact h9
     simp only [List.take_succ_cons,List.take_zero]
     iterate 6 refine zW ?_
     refine zM ?_;refine HH.ready (rs:=[6,10]) (by kernel_rfl) (by simp) (by kernel_rfl) ?_;refine yO.cons (o:=_) rfl (fun K hK=>?_) (yO.cons (o:=_) rfl (fun K hK=>?_) yO.nil)
     . skip
       go_simp
       go_at_call 85;have hbd:=(zv W2).out;replace HS:=ze (HS.out.below hbd);replace HK4:=kb_ HK4 hbd;clear hbd;refine (HRD.out _ HS.out.book _ HS2.out).mono ?_;rintro e w4 ⟨v,ok2,rfl,⟨x1,A1,k1,c1,s1,y1,B1,k1x,c1x,t1,rfl⟩,hokk,hq,hB1,hc1⟩;have hq1:=hq _ (Xc HGOOD.out.1);have hk4:=HS.out.book.keepBlk hc1 HK4.out;replace HS:=ze (HS.out.read hc1 hB1);replace HK4:=ze hk4;have HQ:=ze hq1;have hH0:=hHeld;clear hHeld;refine hK.out _ _ (zm (Z7 hc1 hH0.1) (fun hB=>⟨zH hB c0 hgb,zH hB p1 hkb⟩)) (fun hHeld=>?_);clear hH0 hK K
       try simp only [Act.put,List.setIfInBounds_toArray,List.set_cons_zero,List.set_cons_succ]
       have HKA:Hid (Chg (fun x=>x=b) W2 (w4.alloc (.cells #[.int .i64 x1,.slice A1 k1 c1,.bool s1,.int .i64 y1,.slice B1 k1x c1x,.bool t1] 93))):=vP (zf _ _) hHeld.1;clear hc1 hB1 hq1 hk4 hq hokk;refine HH.tk 7 ?_;refine HH.tk 8 ?_;refine HH.tk 9 ?_;refine HH.rd 10 (fun K hK=>?_)
       go_simp
       have hH0:=hHeld;clear hHeld;refine hK.out _ _ (zm (vP (zf _ _) hH0.1) (fun hB=>⟨zH hB c0 hgb,zH hB p1 hkb⟩)) (fun hHeld=>?_);clear hH0 hK K
       try simp only [Act.put,List.setIfInBounds_toArray,List.set_cons_zero,List.set_cons_succ]
       refine HH.rd 11 (fun K hK=>?_)
       go_simp
       have hH0:=hHeld;clear hHeld;refine hK.out _ _ (zm (HKA) (fun hB=>⟨zH hB c0 hgb,zH hB p1 hkb⟩)) (fun hHeld=>?_);clear hH0 hK K
       try simp only [Act.put,List.setIfInBounds_toArray,List.set_cons_zero,List.set_cons_succ]
       clear HKA;have HBY:=(hHeld.1).out;clear HBY hHeld;refine HH.done (by kernel_rfl) ?_;simp only [List.drop_succ_cons,List.drop_zero];go_wp2_with fail;go_meet;have hx:=zf w4 (.cells #[.int .i64 x1,.slice A1 k1 c1,.bool s1,.int .i64 y1,.slice B1 k1x c1x,.bool t1] 93);exact ⟨w4.heap.size,_,_,_,_,_,_,_,_,_,_,rfl,Blk.new _ _ _,HQ.out.below hx,HS.out.below hx,HK4.out.below hx HK4.out.lt⟩
     . skip
       go_simp
       have hbx:=(yF W2 (.cells #[.int .i64 0,.slice none 0 0,.bool false,.int .i64 0,.slice none 0 0,.bool false] 93)).out;have HKZ:Hid (Blk (W2.alloc (.cells #[.int .i64 0,.slice none 0 0,.bool false,.int .i64 0,.slice none 0 0,.bool false] 93)).drew W2.heap.size 93 #[.int .i64 0,.slice none 0 0,.bool false,.int .i64 0,.slice none 0 0,.bool false]):=(Blk.new W2 _ _).drew;have HS0:=HS;replace HS:=ze (HS.out.below hbx);have HK40:=HK4;replace HK4:=kb_ HK4 hbx;have hkp:Hid (Chg (fun x=>x=b) W2 (W2.alloc (.cells #[.int .i64 0,.slice none 0 0,.bool false,.int .i64 0,.slice none 0 0,.bool false] 93)).drew):=Chg.of_below hbx;have hH0:=hHeld;clear hHeld;refine hK.out _ _ (zm (hkp) (fun hB=>⟨zH hB c0 hgb,zH hB p1 hkb⟩)) (fun hHeld=>?_);clear hH0 hK K
       try simp only [Act.put,List.setIfInBounds_toArray,List.set_cons_zero,List.set_cons_succ]
       clear hkp hbx;refine HH.rd 6 (fun K hK=>?_)
       go_simp
       go_at_call 85;refine (HRD.out _ HS.out.book _ HS2.out).mono ?_;rintro e w4 ⟨v,ok2,rfl,⟨x1,A1,k1,c1,s1,y1,B1,k1x,c1x,t1,rfl⟩,hokk,hq,hB1,hc1⟩;have hq1:=hq _ (Xc HGOOD.out.1);have hk4:=HS.out.book.keepBlk hc1 HK4.out;have hkz:=HS.out.book.keepBlk hc1 HKZ.out;replace HS:=ze (HS.out.read hc1 hB1);replace HK4:=ze hk4;replace HKZ:=ze hkz;have HQ:=ze hq1;have hH0:=hHeld;clear hHeld;refine hK.out _ _ (zm (Z7 hc1 hH0.1) (fun hB=>⟨zH hB c0 hgb,zH hB p1 hkb⟩)) (fun hHeld=>?_);clear hH0 hK K
       try simp only [Act.put,List.setIfInBounds_toArray,List.set_cons_zero,List.set_cons_succ]
       clear hc1 hB1 hq1 hk4 hq hokk hkz;refine HH.tk 7 ?_;refine HH.tk 8 ?_;refine HH.tk 9 ?_;have z0:=HKZ.out.cell 0;have z1:=HKZ.out.cell 1;have z2:=HKZ.out.cell 2;have z3:=HKZ.out.cell 3;have z4:=HKZ.out.cell 4;have z5:=HKZ.out.cell 5;have f0:=HKZ.out.frozen 0;have f1:=HKZ.out.frozen 1;have f2:=HKZ.out.frozen 2;have f3:=HKZ.out.frozen 3;have f4:=HKZ.out.frozen 4;have f5:=HKZ.out.frozen 5;simp at z0 z1 z2 z3 z4 z5;have hrs:Chg (· =W2.heap.size) w4 (World.rat w4 W2.heap.size x1 A1 k1 c1 s1 y1 B1 k1x c1x t1):=Chg.ratSet;have hzd:yn w4 W2.heap.size:=HKZ.out.noDig (Xd _ _ _ _ _ _ _ _ _ _);have HSX:=ze (HS0.out.far HS.out hrs (Nat.le_refl _) hzd);have HQX:=ze (hrs.rat HQ.out (fun y e=>by subst e;exact hzd));have HKX:=ze (((((((HKZ.out.set_ 0 (.int .i64 x1)).set_ 1 (.slice A1 k1 c1)).set_ 2 (.bool s1)).set_ 3 (.int .i64 y1)).set_ 4 (.slice B1 k1x c1x)).set_ 5 (.bool t1)));have HK4X:=ze (hrs.blk HK4.out (by have:=HK40.out.lt;omega));have hkp:Hid (Chg (fun x=>x=b) W2 (World.rat w4 W2.heap.size x1 A1 k1 c1 s1 y1 B1 k1x c1x t1)):=hHeld.1.out.trans hrs (fun y hy e=>by omega)
       clear HS HQ HKZ HK4 hrs hzd HS0 HK40;simp only [World.rat] at hkp HSX HQX HK4X;refine HH.rd 11 (fun K hK=>?_)
       go_simp
       have hH0:=hHeld;clear hHeld;refine hK.out _ _ (zm (hkp) (fun hB=>⟨zH hB c0 hgb,zH hB p1 hkb⟩)) (fun hHeld=>?_);clear hH0 hK K
       try simp only [Act.put,List.setIfInBounds_toArray,List.set_cons_zero,List.set_cons_succ]
       clear hkp z0 z1 z2 z3 z4 z5 f0 f1 f2 f3 f4 f5;have HBY:=(hHeld.1).out;clear HBY hHeld;refine HH.done (by kernel_rfl) ?_;simp only [List.drop_succ_cons,List.drop_zero];go_wp2_with fail;go_meet;exact ⟨W2.heap.size,_,_,_,_,_,_,_,_,_,_,rfl,HKX.out,HQX.out,HSX.out,HK4X.out⟩
    case rest=>
     clear HS HK HK4 HS2;obtain ⟨gc,x1,A1,k1,c1,s1,y1,B1,k1x,c1x,t1,rfl,HKC,HQ,HS,HK4⟩:=hcut;generalize wc=W5 at HKC HQ HS HK4 |-;have q0:=HKC.out.cell 0;have q1:=HKC.out.cell 1;have q2:=HKC.out.cell 2;have q3:=HKC.out.cell 3;have q4:=HKC.out.cell 4;have q5:=HKC.out.cell 5;simp at q0 q1 q2 q3 q4 q5;obtain ⟨sx,sA,sn,sc,sg,hks,hsn⟩:=HS.out.box;have z0:=hks.cell 0;have z1:=hks.cell 1;have z2:=hks.cell 2;simp at z0 z1 z2;have htm:=zai _ _ _ _ W5 HQ.out hsn HGOOD.out.2 (by have:=(HOK.out.ok.fit goal.length (Nat.le_refl _)).1;exact Nat.le_trans this (by omega));have HTM:=ze htm;have HG5:=ze HS.out.row.lt;clear hks hsn htm;go_wp2_with fail;refine HTM.out.mono ?_;rintro e w7 ⟨v,rfl,hv,hb1⟩;clear q0 q1 q2 q3 q4 q5 z0 z1 z2 HTM HKC HQ;obtain ⟨x4,A4,k4,c4,s4,rfl,_,_,_⟩:=hv.form;have HCO:Hid (vO (qOf goal[t].coef) (xU goal)=YD (xU goal) goal t):=by show _=_;unfold YD;rw [HGT.out]
     rw [HCO.out] at hv;have hx7:=zf w7 (.cells #[.int .i64 x4,.slice A4 k4 c4,.bool s4] 91);have hx:=ext hb1 hx7;have HKV:=ze (Blk.new w7 91 #[.int .i64 x4,.slice A4 k4 c4,.bool s4]);have HGV:Hid (¬ w7.heap.size=gl):=by have:=HG5.out;have:=hb1.size;show ¬ _;omega
     replace HS:=ze (HS.out.below hx);replace HK4:=kb_ HK4 hx;have HV:=ze (hv.below hx7);clear hx hx7 hv hb1 HG5
     go_upto_region 9 with fail
     generalize w7.alloc (.cells #[.int .i64 x4,.slice A4 k4 c4,.bool s4] 91)=W7 at HS HK4 HKV HV |-;generalize w7.heap.size=gv at HKV HGV |-;have q0:=HKV.out.cell 0;have q1:=HKV.out.cell 1;have q2:=HKV.out.cell 2;simp at q0 q1 q2;obtain ⟨U1,hU1⟩:∃ U,U=2*p:=⟨_,rfl⟩;obtain ⟨U2,hU2⟩:∃ U,U=2*p+1:=⟨_,rfl⟩;have hnnb:p<1000:=by have:=HPL.out;have:=HNL.out;have:=HS.out.tab.cols;omega
     have e1:IntKind.i64.wrap (2*(p:Int))=(U1:Int):=by rw [IntKind.wrap_i64];omega
     have e2:IntKind.i64.wrap ((U1:Int)+1)=(U2:Int):=by rw [IntKind.wrap_i64];omega
     have HU1:=ze hU1;have HU2:=ze hU2;have hct:=V8 base m L F T gl _ (U1:Int) _ _ W7 HS.out.tab HS.out.row HV.out HGL.out HF.out HFC.out (fun k hk=>HL1.out k hk) hm (by omega) hm0 (HOK.out.known U1 (by have:=HPL.out;omega));have HCT:=ze hct;clear hct hU1 hU2 hnnb;go_wp2_with fail;refine HCT.out.mono ?_;rintro e w8 ⟨rfl,hr8,hc8⟩;have hkv:=hc8.blk HKV.out HGV.out;have hvv:=hc8.num HV.out (fun y e=>by subst e;exact HS.out.row.noDig);have hk4:=hc8.blk HK4.out HNE4.out;replace HS:=ze (HS.out.rowed hr8 hc8 HGL.out);replace HKV:=ze hkv;replace HV:=ze hvv;replace HK4:=ze hk4;clear hr8 hc8 hkv hvv hk4 HCT q0 q1 q2;have q0:=HKV.out.cell 0;have q1:=HKV.out.cell 1;have q2:=HKV.out.cell 2;simp at q0 q1 q2;have hng:=yW _ _ w8 HV.out;have HNG:=ze hng;clear hng;go_wp2_with fail;refine HNG.out.mono ?_;rintro e w9 ⟨v9,rfl,hv9,hb9⟩;replace HS:=ze (HS.out.below hb9);replace HK4:=kb_ HK4 hb9
     have hct:=V8 base m L F T gl _ (U2:Int) _ _ w9 HS.out.tab HS.out.row hv9 HGL.out HF.out HFC.out.neg (fun k hk=>by
      have h1:=HL2.out k hk;rw [HPOS.out, <- HU1.out] at h1
      exact h1) hm (by omega) hm0 (HOK.out.known U2 (by have:=HPL.out;have:=HU2.out;omega))
     have HCT:=ze hct;clear hct hb9 hv9 HNG q0 q1 q2 HKV HV;go_wp2_with fail;refine HCT.out.mono ?_;rintro e w10 ⟨rfl,hr8,hc8⟩;have hk4:=hc8.blk HK4.out HNE4.out;replace HS:=ze (HS.out.rowed hr8 hc8 HGL.out);replace HK4:=ze hk4;clear hr8 hc8 hk4 HCT
     have HFE:Hid ((fun k=>(fun k=>VP T names m L (xU goal) goal t k+YC T m L (U1:Int) (YD (xU goal) goal t) k) k+YC T m L (U2:Int) (-(YD (xU goal) goal t)) k)=VP T names m L (xU goal) goal (t+1)):=by
      show _=_
      funext k
      show _=_+YC T m L ((2*VM names goal t:Nat):Int) _ k+YC T m L ((2*VM names goal t+1:Nat):Int) _ k
      have h1:=HU1.out;have h2:=HU2.out;rw [HPOS.out, <- h1,show U1+1=U2 by omega]
     rw [HFE.out] at HS;go_wp2_with fail;go_roundw
     case rel=>first | exact ⟨t+1,by omega,by go_num,HS,HK4⟩ | ((repeat apply Exists.intro);refine ⟨?_,rfl⟩;exact ⟨t+1,by omega,by go_num,HS,HK4⟩)
     case measure=>simp [intOf];omega
  . obtain rfl:goal.length=t:=by omega
    have t1:=HS.out.tab.cell1;have t3:=HS.out.tab.cell3;have hmm:(m:Int)<(m:Int)+1:=by omega
    have cm:=HS.out.tab.mat.cell (i:=m) (by omega);have fm:=HS.out.tab.mat.frozen m;have HLT4:=ze (fun i hi=>(HS.out.tab.mat.rows i hi).1)
    go_upto_region 12 with fail
    go_region
    have hput:=HS.out.tab.put HS.out.row (by have:=HS.out.lo;have:=HBA.out;omega) HGL.out;have hcm:Chg (· =F.gm) wr (wr.setCell ⟨F.gm,m,none⟩ (.slice (some ⟨gl,0,none⟩) L L)):=Chg.setCell (S:=(· =F.gm)) (Chg.refl wr) (p:=⟨F.gm,m,none⟩) rfl _;have hgm:∃ cs,wr.heap[F.gm]?=some (.cells cs 187 (0,0)):=HS.out.tab.mat.own.heap rfl;obtain ⟨cgm,hgm⟩:=hgm;have hDm:∀ y,y=F.gm->yn wr y:=fun y e=>by subst e;exact HS.out.tab.mat.own.2 _ rfl
    have hbx:Zw (wr.setCell ⟨F.gm,m,none⟩ (.slice (some ⟨gl,0,none⟩) L L)) gs (xU goal):=HS.out.box.chg hcm (fun e=>by
     obtain ⟨x,A,n,c,ng,h1,_⟩:=HS.out.box
     exact xM h1 hgm (by decide) e) hDm
    have hbk:zB (wr.setCell ⟨F.gm,m,none⟩ (.slice (some ⟨gl,0,none⟩) L L)) b:=HS.out.book.chg hcm (fun e=>HS.out.book.ne hgm e.symm) hDm;have hnm:yg (wr.setCell ⟨F.gm,m,none⟩ (.slice (some ⟨gl,0,none⟩) L L)) base (.slice F.nA F.nn F.nc) names:=HS.out.nms.chg hcm (fun y hy e=>by have:=HS.out.tab.mat.lt.1;omega);have hk4:=hcm.blk HK4.out (xM HK4.out hgm (by decide));have hcc:Chg (fun x=>x=b\/x=F.gm) w (wr.setCell ⟨F.gm,m,none⟩ (.slice (some ⟨gl,0,none⟩) L L)):=(HS.out.chg.mono (T:=fun x=>x=b\/x=F.gm) (fun y _ e=>.inl e)).trans hcm (fun y _ e=>.inr e);have hdr:=zl (xw (wr.setCell ⟨F.gm,m,none⟩ (.slice (some ⟨gl,0,none⟩) L L))) 1;have HPT:=ze (hput.below hdr);have HBX:=ze (hbx.below hdr);have HBK2:=ze (hbk.below hdr);have HNM:=ze (hnm.below hdr);have HK5:=ze (hk4.below hdr hk4.lt);have HCC:Hid (Chg (fun x=>x=b\/x=F.gm) w (wr.setCell ⟨F.gm,m,none⟩ (.slice (some ⟨gl,0,none⟩) L L)).drew):=zX hcc hdr;have HLO:=ze HS.out.lo;clear hput hcm hgm hDm hbx hbk hnm hk4 hcc hdr HS HK4 t1 t3 cm fm HLT4
    change Hid (yb _ _ _ _ (wr.setCell ⟨F.gm,m,none⟩ (.slice (some ⟨gl,0,none⟩) L L)).drew _) at HPT
    change Hid (Zw (wr.setCell ⟨F.gm,m,none⟩ (.slice (some ⟨gl,0,none⟩) L L)).drew _ _) at HBX
    change Hid (zB (wr.setCell ⟨F.gm,m,none⟩ (.slice (some ⟨gl,0,none⟩) L L)).drew _) at HBK2
    change Hid (yg (wr.setCell ⟨F.gm,m,none⟩ (.slice (some ⟨gl,0,none⟩) L L)).drew _ _ _) at HNM
    change Hid (Blk (wr.setCell ⟨F.gm,m,none⟩ (.slice (some ⟨gl,0,none⟩) L L)).drew _ _ _) at HK5
    generalize (wr.setCell ⟨F.gm,m,none⟩ (.slice (some ⟨gl,0,none⟩) L L)).drew=W8 at HPT HBX HBK2 HNM HK5 HCC |-;obtain ⟨sx,sA,sn,sc,sg,hks,hsn⟩:=HBX.out;have z0:=hks.cell 0;have z1:=hks.cell 1;have z2:=hks.cell 2;have r0:=HK5.out.cell 0;have r1:=HK5.out.cell 1;have r2:=HK5.out.cell 2;have f0:=HK5.out.frozen 0;have f1:=HK5.out.frozen 1;have f2:=HK5.out.frozen 2;simp at z0 z1 z2 r0 r1 r2
    have hD4:yn W8 g4:=HK5.out.noDig (ZC (by
     intro u hu;simp at hu
     rcases hu with rfl | rfl | rfl
     . exact xC _
     . exact ys _ _ _
     . exact Zt _))
    have hkr:=yl (x:=sx) (A:=sA) (k:=sn) (c:=sc) (ng:=sg) HK5.out;have e0:=hkr.cell 0;have e1:=hkr.cell 1;have e2:=hkr.cell 2;simp only [World.num] at e0 e1 e2;simp at e0 e1 e2;have hc4:Chg (· =g4) W8 (World.num W8 g4 sx sA sn sc sg):=Zx;have HNR:=ze (zy (x:=sx) (A:=sA) (k:=sn) (c:=sc) (ng:=sg) hsn HK5.out)
    have HTR:=ze (HPT.out.chgX hc4 hD4 (by have:=HGT0.out;have:=HG4.out;show F.gt≠g4;omega) (by have:=HGM.out;have:=HG4.out;show F.gm≠g4;omega) (fun i hi=>by
     show (if i=m then gl else F.g i)≠g4
     by_cases i1:i=m
     . rw [if_pos i1];exact fun e=>HNE4.out e.symm
     . rw [if_neg i1];have:=HGI.out i hi;have:=HG4.out;omega) (fun c hc=>by have:=HOW.out c hc;have:=HG4.out;omega))
    have HBR:=ze (HBK2.out.chg hc4 (fun e=>HNB4.out e.symm) (fun y e=>by subst e;exact hD4));have HNM2:=ze (HNM.out.chg hc4 (fun y hy e=>by have:=HG4.out;have:=HBA.out;omega));have HCR:Hid (Chg (fun x=>x=b\/x=F.gm) w (World.num W8 g4 sx sA sn sc sg)):=HCC.out.trans hc4 (fun y hy e=>by have:=HG4.out;omega);clear hkr hc4 hD4 hks hsn HPT HBX HBK2 HNM HK5 HCC;go_wp2_with fail;refine bodyPost_ret (v:=.agg #[.int .i64 sx,.slice sA sn sc,.bool sg]) (by simp [results,Tryz.results137,go_sem,e0,e1,e2]) rfl ?_;exact ⟨_,gl,rfl,HNR.out,HTR.out,HBR.out,HNM2.out,HCR.out,HLO.out⟩
end Go.Proofs.YtkmcmmcencdcpaaGreatDoor
