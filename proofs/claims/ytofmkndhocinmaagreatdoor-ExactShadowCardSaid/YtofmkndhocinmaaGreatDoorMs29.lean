/- Parts of the proof. -/
import Derived.Test.YtofmkndhocinmaaGreatDoorMs24
import Derived.Test.YtofmkndhocinmaaGreatDoorMs28
set_option linter.all false
set_option maxHeartbeats 32000000
namespace Go.Proofs.YtofmkndhocinmaaGreatDoor
open Proofs.Tryz Go.RowKit Go.Deep
attribute [local go_sem ↓] Go.wp_at_zero Go.wp_at_succ
def zi6 (rows:List zF) (ws:Nat->Rat):Nat->List (List UInt8)
 | 0=>[]
 | n+1=>if ws n=0 then zi6 rows ws n else zi6 rows ws n ++ (rows.getD n default).terms.map (·.name)
def zc9 (rows:List zF) (ws:Nat->Rat) (s:List UInt8):Nat->Rat
 | 0=>0
 | n+1=>if ws n=0 then zc9 rows ws s n else zc9 rows ws s n+yd (rows.getD n default).terms s*ws n
def za5 (rows:List zF) (ws:Nat->Rat) (l:List (List UInt8)):List zm:=(l.filter fun s=>decide (zc9 rows ws s rows.length≠0)).map fun s=>{ name:=s,coef:=zu (zc9 rows ws s rows.length) }
structure zuj (P:Program) (o:Oper) (a:Act) (w:World) (K:Act->World->Prop) (Q:Exit->Act->World->Prop):Prop where
 out:Oper.wp P o a w K Q
theorem vY.mk {P:Program} {md:Region.Mode} {l:List Oper} {Q:Exit->Act->World->Prop} {S:World->Prop} {St:World->World->Prop} {R:Nat->Value->World->Prop} {al:List Nat} {rs:List (Nat×Nat)} {a:Act} {p:Nat×Nat} {o:Oper}
 (h:∀ (us:Nat->Value) (w:World),S w->(∀ j,((rs.any fun q=>q.1 == j) && zvc md o j)=true->R j (us j) w)->∀ K' :Act->World->Prop,
   (∀ a' w',(∃ v,a' =(YQ rs us a).put (some p.2) v/\S w' /\St w w' /\R p.1 v w' /\(al.contains p.1=true->w.heap.size<=zaf v))->K' a' w')->zuj P o (YQ rs us a) w K' Q)
 (ho:l.toArray[p.1]?=some o:=by rfl):vY P md l Q S St R al rs a p:=fun o' ho' =>by
 rw [ho] at ho'
 injection ho' with e
 subst e
 exact fun us w hS hd K hK=>(h us w hS hd K hK).out
theorem zq0 {α:Type} {f:α->Prop}:∀ x∈([]:List α),f x:=fun _ h=>by cases h
theorem vU {α:Type} {f:α->Prop} {a:α} {l:List α} (h:f a) (t:∀ x∈l,f x):∀ x∈a :: l,f x:=fun x b=>by
 rcases List.mem_cons.1 b with rfl | b
 . exact h
 . exact t x b
def zcb (w:World) (B:Nat) (t:TypeId) (cs:Array Value) (v:Value):Prop:=∃ g,v= .pointer (some ⟨g,0,none⟩)/\Blk w g t cs/\B<=g
def yS (p q:zF) (s:List UInt8):Nat->Rat:=fun i=>if i=0 then 1 / yd p.terms s else 1 / -(yd q.terms s)
structure zr9 (p q:zF) (s:List UInt8):Prop where
 cp:zd9 p.terms
 cq:zd9 q.terms
 x0:yd p.terms s≠0
 y0: -(yd q.terms s)≠0
 xl:xS 8388608 (yd p.terms s)
 yl:xS 8388608 (-(yd q.terms s))
 ol:xS 8388608 1
 sums:zto [p,q] (yS p q s)
 sp:zB p.bound
 sq:zB q.bound
 keys:∃ ns:List (List UInt8),(∀ x,(nzF (Va [p,q] (yS p q s) 2) x).isSome=true->x∈ns)/\ns.length<=100000/\∀ x∈ns,zB x
 outs:∀ x r,nzF (Va [p,q] (yS p q s) 2) x=some r->xS 67108864 r/\zB (zu r)
 outb:xS 67108864 (Vq [p,q] (yS p q s) 2)/\zB (zu (Vq [p,q] (yS p q s) 2))
def yu (l:List (List UInt8)) (F:List UInt8->Option Rat):List zm:=l.map fun s=>{ name:=s,coef:=zu ((F s).getD 0) }
def Zz (l:List (List UInt8)) (F:List UInt8->Option Rat) (Q:Rat):Bool:=decide (∀ s∈l,yC 12 ((F s).getD 0)) && decide (yC 12 Q)
def zqs (w:World) (b:Nat) (F:List UInt8->Option Rat) (Q:Rat) (e:Ending) (w' :World):Prop:=
 ∃ l rv,ziw l F/\e= .returned (.tuple #[rv,.bool (Zz l F Q)])/\(Zz l F Q=true->∃ A c,rv= .agg #[.slice A (yu l F).length c,str (zu Q)]/\zi w' w'.heap.size (.slice A (yu l F).length c) (yu l F)/\TyT w' (.slice A (yu l F).length c))/\(∃ A n c s,rv= .agg #[.slice A n c,.string s])/\zr w' b/\Chg (· =b) w w'
structure zjl (w0 w:World) (b gS gm gO Bn:Nat) (F:List UInt8->Option Rat) (Q:Rat):Prop where
 book:zr w b
 map:Z7 w gm F
 box:yW w gS gm Q
 res:Blk w (w0.heap.size+1+1) 36 #[.slice none 0 0,.string ⟨#[]⟩]
 chg:Chg (· =b) w0 w
 lb:b<Bn
 lm:gm<Bn
 ls:gS<Bn
 lr:w0.heap.size+1+1<Bn
 lo:gO<Bn
 ne:gO≠w0.heap.size+1+1
 l0:w0.heap.size<=gO
 l1:w0.heap.size<=Bn
 bn:Bn<=w.heap.size
theorem zjl.chg_ {S:Nat->Prop} {w0 w w' :World} {b gS gm gO Bn:Nat} {F:List UInt8->Option Rat} {Q:Rat} (h:zjl w0 w b gS gm gO Bn F Q) (hc:Chg S w w') (hS:∀ x,S x->zK w x) (hb:¬ S b) (hm:¬ S gm) (hs:¬ S gS) (hr:¬ S (w0.heap.size+1+1)) (h0:∀ x,S x->w0.heap.size<=x):zjl w0 w' b gS gm gO Bn F Q:=
 ⟨h.book.chg hc hb hS,h.map.chg hc hm hS,h.box.chg hc hs hS,hc.blk h.res hr,h.chg.trans hc (fun x hx e=>by have:=h0 x e;omega),h.lb,h.lm,h.ls,h.lr,h.lo,h.ne,h.l0,h.l1,uC h.bn hc.size⟩
theorem zjl.below {w0 w w' :World} {b gS gm gO Bn:Nat} {F:List UInt8->Option Rat} {Q:Rat} (h:zjl w0 w b gS gm gO Bn F Q) (hb:Below w.heap.size w w'):zjl w0 w' b gS gm gO Bn F Q:=h.chg_ (S:=fun _=>False) (Chg.of_below hb) (fun _ h=>h.elim) (fun h=>h) (fun h=>h) (fun h=>h) (fun h=>h) (fun _ h=>h.elim)
theorem zjl.own {w0 w w' :World} {b gS gm gO Bn:Nat} {F:List UInt8->Option Rat} {Q:Rat} {tv:Value} {k:Nat} {xs:List Value} (h:zjl w0 w b gS gm gO Bn F Q) (ho:vJ w Bn 38 2 tv k xs) (hc:Chg (fun x=>tv.ownBlock=some x) w w'):zjl w0 w' b gS gm gO Bn F Q:=by
 have j:∀ x,tv.ownBlock=some x->Bn<=x:=fun x e=>(ho.1.lt x e).1
 exact h.chg_ hc (fun x e=>ho.2 x e) (fun e=>by have:=j _ e;have:=h.lb;omega) (fun e=>by have:=j _ e;have:=h.lm;omega) (fun e=>by have:=j _ e;have:=h.ls;omega) (fun e=>by have:=j _ e;have:=h.lr;omega) (fun x e=>by have:=j _ e;have:=h.l1;omega)
theorem ze3 {w:World} {g:Nat} {tv:Value} {s:ByteArray} (h:Blk w g 36 #[tv,.string s]) (hv:Zp tv):zK w g:=by
 refine h.noDig (vH ?_)
 intro u hu
 simp at hu
 rcases hu with rfl | rfl
 . exact hv
 . exact yF _
theorem zjl.out_ {w0 w w' :World} {b gS gm gO Bn:Nat} {F:List UInt8->Option Rat} {Q:Rat} {tv:Value} {s:ByteArray} (h:zjl w0 w b gS gm gO Bn F Q) (hk:Blk w gO 36 #[tv,.string s]) (hv:Zp tv) (hc:Chg (· =gO) w w'):zjl w0 w' b gS gm gO Bn F Q:=by
 obtain ⟨cs,j⟩:=h.box.blk
 exact h.chg_ hc (fun x e=>by subst e;exact ze3 hk hv) (h.book.neB hk) (h.map.ne hk) (yZ j hk (by decide)) (fun e=>h.ne e.symm) (fun x e=>by subst e;exact h.l0)
theorem zT.chg2 {S:Nat->Prop} {w w' :World} {B n c:Nat} {A:Option Addr} {l:List (List UInt8)} (h:zT w B (.slice A n c) l) (hc:Chg S w w') (hS:∀ b,A=some b->¬ S b.block):zT w' B (.slice A n c) l:=by
 obtain ⟨A',c',C,y,E,z,m,r⟩:=h
 injection C with e1 e2 e3
 subst e1
 refine ⟨A,c',by rw [e2,e3],y,E,z,⟨m.1,fun h0=>?_⟩,r⟩
 obtain ⟨b,e,hb,D⟩:=m.2 h0
 exact ⟨b,e,hb,fun j u hu=>hc.cell (D j u hu) (by rw [zG];exact hS b e)⟩
def MtR (w0:World) (b gS gm gO Bn:Nat) (F:List UInt8->Option Rat) (Q:Rat) (nv:Value) (l:List (List UInt8)) (kv:Value) (wr:World):Prop:=
 ∃ (k:Nat) (tv:Value),k<=l.length/\kv= .int .i64 k/\Hid (zjl w0 wr b gS gm gO Bn F Q)/\Hid (vJ wr Bn 38 2 tv k (yG k (vw (yu l F)) (vq (yu l F))))/\Hid (Blk wr gO 36 #[tv,.string ⟨#[]⟩])/\Hid (zT wr Bn nv l)/\Hid (∀ i (h:i<l.length),i<k->yC 12 ((F l[i]).getD 0))
def zrw (B:Nat) (x y:Rat):Nat->Value->World->Prop
 | 3,v,w=>zE w v x
 | 7,v,w=>zE w v y
 | 8,v,w=>zE w v (-y)
 | _,v,w=>zcb w B 62 #[.int .i64 0,.slice none 0 0,.bool false,.int .i64 0,.slice none 0 0,.bool false] v
theorem zcb.book {w w' :World} {b B:Nat} {t:TypeId} {cs:Array Value} {v:Value} (h:zcb w B t cs v) (hB:zr w b) (hc:Chg (· =b) w w'):zcb w' B t cs v:=by
 obtain ⟨g,e,l,j⟩:=h
 exact ⟨g,e,hB.keepBlk hc l,j⟩
theorem zcb.lt {w:World} {B:Nat} {t:TypeId} {cs:Array Value} {v:Value} (h:zcb w B t cs v):zaf v<w.heap.size:=by
 obtain ⟨g,rfl,b,e⟩:=h
 exact b.lt
theorem zrw.keep {b B:Nat} {x y:Rat} {i:Nat} {v:Value} {w w' :World} (hB:zr w b) (hc:Chg (· =b) w w') (h:zrw B x y i v w):zrw B x y i v w' :=by
 unfold zrw at h |-
 split at h
 . exact hB.keepR hc h
 . exact hB.keepR hc h
 . exact hB.keepR hc h
 . exact h.book hB hc
theorem zrw.fresh {B:Nat} {x y:Rat} {i:Nat} {v:Value} {w:World} (hi:[9,10].contains i=true) (h:zrw B x y i v w):zaf v<w.heap.size:=by
 have:i=9\/i=10:=by simpa using hi
 rcases this with rfl | rfl<;>exact zcb.lt h
theorem Vo.made {w:World} {g:Nat} {q:Rat} {x0 y0:Int} {A0 B0:Option Addr} {k0 c0 k1 c1:Nat} {s0 t0:Bool} {x:Int} {A:Option Addr} {k c:Nat} {s:Bool} {y:Int} {B:Option Addr} {k' c' :Nat} {t:Bool} (hk:Blk w g 62 #[.int .i64 x0,.slice A0 k0 c0,.bool s0,.int .i64 y0,.slice B0 k1 c1,.bool t0]) (hv:zE w (.agg #[.int .i64 x,.slice A k c,.bool s,.int .i64 y,.slice B k' c',.bool t]) q):Vo (World.rat w g x A k c s y B k' c' t) g q:=
 ⟨_,_,_,_,_,_,_,_,_,_,yf hk,hv.stored hk⟩
theorem Vo.chg {S:Nat->Prop} {w w' :World} {g:Nat} {q:Rat} (h:Vo w g q) (hc:Chg S w w') (hg:¬ S g) (hS:∀ x,S x->zK w x):Vo w' g q:=by
 obtain ⟨_,_,_,_,_,_,_,_,_,_,b,e⟩:=h
 exact ⟨_,_,_,_,_,_,_,_,_,_,hc.blk b hg,hc.rat e hS⟩
structure zgu (w0 w:World) (b:Nat) (Ap Aq:Option Addr) (cp cq:Nat) (p q:zF):Prop where
 book:zr w b
 k0:Blk w w0.heap.size 36 #[.slice Ap p.terms.length cp,str p.bound]
 k1:Blk w (w0.heap.size+1) 36 #[.slice Aq q.terms.length cq,str q.bound]
 k2:Blk w (w0.heap.size+1+1) 36 #[.slice none 0 0,.string ⟨#[]⟩]
 tp:zi w w0.heap.size (.slice Ap p.terms.length cp) p.terms
 tq:zi w w0.heap.size (.slice Aq q.terms.length cq) q.terms
 chg:Chg (· =b) w0 w
theorem zgu.turn {w0 w w' :World} {b:Nat} {Ap Aq:Option Addr} {cp cq:Nat} {p q:zF} (h:zgu w0 w b Ap Aq cp cq p q) (hc:Chg (· =b) w w') (hB:zr w' b):zgu w0 w' b Ap Aq cp cq p q:=
 ⟨hB,h.book.keepBlk hc h.k0,h.book.keepBlk hc h.k1,h.book.keepBlk hc h.k2,h.book.keepT hc h.tp,h.book.keepT hc h.tq,yg h.chg hc⟩
theorem zgu.below {w0 w w' :World} {b:Nat} {Ap Aq:Option Addr} {cp cq:Nat} {p q:zF} (h:zgu w0 w b Ap Aq cp cq p q) (hb:Below w.heap.size w w'):zgu w0 w' b Ap Aq cp cq p q:=h.turn (Chg.of_below hb) (h.book.below hb)
theorem zgu.new {w0 w w' :World} {b g:Nat} {Ap Aq:Option Addr} {cp cq:Nat} {p q:zF} {t:TypeId} {cs:Array Value} (h:zgu w0 w b Ap Aq cp cq p q) (hk:Blk w g t cs) (ht:t≠36) (hd:vC cs) (hg:w0.heap.size<=g) (hc:Chg (· =g) w w'):zgu w0 w' b Ap Aq cp cq p q:=by
 have hS:∀ z,z=g->zK w z:=fun z e=>by subst e;exact hk.noDig hd
 refine ⟨h.book.chg hc (h.book.neB hk) hS,hc.blk h.k0 (yZ h.k0 hk ht.symm),hc.blk h.k1 (yZ h.k1 hk ht.symm),hc.blk h.k2 (yZ h.k2 hk ht.symm),h.tp.chg hc (fun x hx e=>?_),h.tq.chg hc (fun x hx e=>?_),h.chg.trans hc (fun x hx e=>?_)⟩
 all_goals omega
theorem ztg {w0 w:World} {b:Nat} {Ap Aq:Option Addr} {cp cq:Nat} {p q:zF} (h:zgu w0 w b Ap Aq cp cq p q):Hid (zgu w0 w b Ap Aq cp cq p q)/\w.cell? ⟨w0.heap.size,0,none⟩=some (.slice Ap p.terms.length cp)/\w.cell? ⟨w0.heap.size,1,none⟩=some (str p.bound)/\w.cell? ⟨w0.heap.size+1,0,none⟩=some (.slice Aq q.terms.length cq)/\w.cell? ⟨w0.heap.size+1,1,none⟩=some (str q.bound):=
 ⟨h,by rw [h.k0.cell];rfl,by rw [h.k0.cell];rfl,by rw [h.k1.cell];rfl,by rw [h.k1.cell];rfl⟩
theorem zhq (w:World) (t:TypeId) (cs:Array Value) (n size:Nat) (h:cs.size=n*size):ym (w.alloc (.cells cs t)) (w.heap.size+1) size (some ⟨w.heap.size,0,none⟩) n cs.toList:=
 ⟨by simpa using h,fun _=>⟨_,rfl,Nat.lt_succ_self _,fun j u hu=>by
  have b:=Blk.new w t cs
  have e:(⟨w.heap.size,0,none⟩:Addr).add j=⟨w.heap.size,j,none⟩:=by
   unfold Addr.add
   by_cases h:j=0
   . subst h;simp
   rw [if_neg h];simp
  rw [e,b.cell]
  simpa using hu⟩⟩
theorem zov {w:World} {B:Nat} {Ap Aq:Option Addr} {cp cq:Nat} {p q:zF} (hp:zi w B (.slice Ap p.terms.length cp) p.terms) (hq:zi w B (.slice Aq q.terms.length cq) q.terms) (hB:B<=w.heap.size) (sp:zB p.bound) (sq:zB q.bound):
 yM (w.alloc (.cells #[.slice Ap p.terms.length cp,str p.bound,.slice Aq q.terms.length cq,str q.bound] 36)) (.slice (some ⟨w.heap.size,0,none⟩) 2 2) [p,q]:=by
 have b:=zf w (.cells #[.slice Ap p.terms.length cp,str p.bound,.slice Aq q.terms.length cq,str q.bound] 36)
 have j :=(zi.below (hp.more hB) b).more b.size
 have e :=(zi.below (hq.more hB) b).more b.size
 have l:=zhq w 36 #[.slice Ap p.terms.length cp,str p.bound,.slice Aq q.terms.length cq,str q.bound] 2 2 rfl
 refine ⟨_,2,fun i=>if i=0 then .slice Ap p.terms.length cp else .slice Aq q.terms.length cq,rfl,uA,by unfold maxLen;omega,by simp,?_,fun i hi=>?_,fun x b=>?_⟩
 . refine ym.more (B:=w.heap.size+1) ?_ (by simp)
   exact l
 . match i,hi with
   | 0,_=>exact j
   | 1,_=>exact e
   | n+2,h=>simp at h;omega
 . simp at b
   rcases b with rfl | rfl
   . exact sp
   . exact sq
theorem zr4 {w:World} {x1 x2 y1 y2:Int} {A1 A2 B1 B2:Option Addr} {k1 c1 k1x c1x k2 c2 k2x c2x:Nat} {s1 t1 s2 t2:Bool} {f:Nat->Rat} (h1:zE w (.agg #[.int .i64 x1,.slice A1 k1 c1,.bool s1,.int .i64 y1,.slice B1 k1x c1x,.bool t1]) (f 0)) (h2:zE w (.agg #[.int .i64 x2,.slice A2 k2 c2,.bool s2,.int .i64 y2,.slice B2 k2x c2x,.bool t2]) (f 1)):
 zcc (w.alloc (.cells #[.int .i64 x1,.slice A1 k1 c1,.bool s1,.int .i64 y1,.slice B1 k1x c1x,.bool t1,.int .i64 x2,.slice A2 k2 c2,.bool s2,.int .i64 y2,.slice B2 k2x c2x,.bool t2] 62)) (.slice (some ⟨w.heap.size,0,none⟩) 2 2) 2 f:=by
 have e:=zf w (.cells #[.int .i64 x1,.slice A1 k1 c1,.bool s1,.int .i64 y1,.slice B1 k1x c1x,.bool t1,.int .i64 x2,.slice A2 k2 c2,.bool s2,.int .i64 y2,.slice B2 k2x c2x,.bool t2] 62)
 have b:=Blk.new w 62 #[.int .i64 x1,.slice A1 k1 c1,.bool s1,.int .i64 y1,.slice B1 k1x c1x,.bool t1,.int .i64 x2,.slice A2 k2 c2,.bool s2,.int .i64 y2,.slice B2 k2x c2x,.bool t2]
 refine ⟨_,_,rfl,fun _=>⟨w.heap.size,2,rfl,uA,⟨_,b,rfl,?_⟩,fun k hk2=>?_⟩⟩
 . refine vH ?_
   intro u hu;simp at hu
   rcases hu with rfl | rfl | rfl | rfl | rfl | rfl | rfl | rfl | rfl | rfl | rfl | rfl
   all_goals first | exact x8 _ | exact zH _ _ _ | exact Zl _
 match k,hk2 with
 | 0,_=>exact ⟨x1,A1,k1,c1,s1,y1,B1,k1x,c1x,t1,by rw [b.cell];rfl,by rw [b.cell];rfl,by rw [b.cell];rfl,by rw [b.cell];rfl,by rw [b.cell];rfl,by rw [b.cell];rfl,h1.below e⟩
 | 1,_=>exact ⟨x2,A2,k2,c2,s2,y2,B2,k2x,c2x,t2,by rw [b.cell];rfl,by rw [b.cell];rfl,by rw [b.cell];rfl,by rw [b.cell];rfl,by rw [b.cell];rfl,by rw [b.cell];rfl,h2.below e⟩
 | n+2,h=>omega
def zug (w:World) (b B:Nat) (F:List UInt8->Option Rat) (q:Rat) (v:Value):Prop:=
 ∃ (gm:Nat) (x:Int) (A:Option Addr) (k c:Nat) (s:Bool) (y:Int) (C:Option Addr) (k' c' :Nat) (t:Bool),v= .agg #[.map (some gm),.int .i64 x,.slice A k c,.bool s,.int .i64 y,.slice C k' c',.bool t]/\zE w (.agg #[.int .i64 x,.slice A k c,.bool s,.int .i64 y,.slice C k' c',.bool t]) q/\Z7 w gm F/\gm≠b/\B<=gm
theorem zug.turn {w w' :World} {b B:Nat} {F:List UInt8->Option Rat} {q:Rat} {v:Value} (h:zug w b B F q v) (hB:zr w b) (hc:Chg (· =b) w w'):zug w' b B F q v:=by
 obtain ⟨gm,x,A,k,c,s,y,C,k',c',t,e,l,m,j,r⟩:=h
 exact ⟨gm,x,A,k,c,s,y,C,k',c',t,e,hB.keepR hc l,m.book hB hc j,j,r⟩
def zut (b B:Nat) (p q:zF) (x y:Rat) (ws:Nat->Rat) (F:List UInt8->Option Rat) (Q:Rat):Nat->Value->World->Prop
 | 3,v,w=>(∃ A c,v= .slice A 2 c)/\yM w v [p,q]
 | 4,v,w=>zE w v 1
 | 5,v,w=>zE w v x
 | 6,v,w=>zE w v (1 / x)
 | 7,v,w=>zE w v 1
 | 8,v,w=>zE w v y
 | 9,v,w=>zE w v (1 / y)
 | 10,v,w=>zcc w v 2 ws
 | 11,v,w=>zug w b B F Q v
 | _,v,w=>zcb w B 102 #[.map none,.int .i64 0,.slice none 0 0,.bool false,.int .i64 0,.slice none 0 0,.bool false] v
theorem zut.keep {b B:Nat} {p q:zF} {x y:Rat} {ws:Nat->Rat} {F:List UInt8->Option Rat} {Q:Rat} {i:Nat} {v:Value} {w w' :World} (hB:zr w b) (hc:Chg (· =b) w w') (h:zut b B p q x y ws F Q i v w):zut b B p q x y ws F Q i v w' :=by
 have hS:∀ z,z=b->zK w z:=fun z e=>by subst e;exact hB.noDig
 unfold zut at h |-
 split at h
 . exact ⟨h.1,(hB.keepRows hc h.2).more hc.size⟩
 . exact hB.keepR hc h
 . exact hB.keepR hc h
 . exact hB.keepR hc h
 . exact hB.keepR hc h
 . exact hB.keepR hc h
 . exact hB.keepR hc h
 . exact h.chg hc (fun g cs hk e=>hB.neB hk e.symm) hS
 . exact h.turn hB hc
 . exact h.book hB hc
theorem zmp {w0 w:World} {b g9 g10:Nat} {x y:Rat} {Ap Aq:Option Addr} {cp cq:Nat} {p q:zF} (h:zgu w0 w b Ap Aq cp cq p q) (hx:Vo w g9 x) (hy:Vo w g10 y):Hid (zgu w0 w b Ap Aq cp cq p q)/\w.cell? ⟨w0.heap.size,0,none⟩=some (.slice Ap p.terms.length cp)/\w.cell? ⟨w0.heap.size,1,none⟩=some (str p.bound)/\w.cell? ⟨w0.heap.size+1,0,none⟩=some (.slice Aq q.terms.length cq)/\w.cell? ⟨w0.heap.size+1,1,none⟩=some (str q.bound)/\Hid (Vo w g9 x)/\Hid (Vo w g10 y):=
 ⟨h,by rw [h.k0.cell];rfl,by rw [h.k0.cell];rfl,by rw [h.k1.cell];rfl,by rw [h.k1.cell];rfl,hx,hy⟩
set_option maxRecDepth 100000 in
theorem zpr (b:Nat) (Ap Aq:Option Addr) (cp cq:Nat) (p q:zF) (s:List UInt8) (w:World) (hB:zr w b) (hp:zZ w (.slice Ap p.terms.length cp) p.terms) (hq:zZ w (.slice Aq q.terms.length cq) q.terms) (ho:zr9 p q s):
 Calls prog 21 #[.map (some b),.agg #[.slice Ap p.terms.length cp,str p.bound],.agg #[.slice Aq q.terms.length cq,str q.bound],str s] w (zqs w b (nzF (Va [p,q] (yS p q s) 2)) (Vq [p,q] (yS p q s) 2)):=by
 have N:=ze ho
 obtain ⟨F,hF⟩:=uQ (nzF (Va [p,q] (yS p q s) 2))
 obtain ⟨Q,hQ⟩:=uQ (Vq [p,q] (yS p q s) 2)
 rw [<- hF, <- hQ]
 have bo:=ze hF
 have bB:=ze hQ
 clear hF hQ
 obtain ⟨W,hW⟩:=uQ (((w.alloc (.cells #[.slice Ap p.terms.length cp,str p.bound] 36)).alloc (.cells #[.slice Aq q.terms.length cq,str q.bound] 36)).alloc (.cells #[.slice none 0 0,.string ⟨#[]⟩] 36))
 have hz:=ext (ext (zf w (.cells #[.slice Ap p.terms.length cp,str p.bound] 36)) (zf _ (.cells #[.slice Aq q.terms.length cq,str q.bound] 36))) (zf _ (.cells #[.slice none 0 0,.string ⟨#[]⟩] 36))
 have bh:=((Blk.new w 36 #[.slice Ap p.terms.length cp,str p.bound]).alloc (.cells #[.slice Aq q.terms.length cq,str q.bound] 36)).alloc (.cells #[.slice none 0 0,.string ⟨#[]⟩] 36)
 have aZ:=(Blk.new (w.alloc (.cells #[.slice Ap p.terms.length cp,str p.bound] 36)) 36 #[.slice Aq q.terms.length cq,str q.bound]).alloc (.cells #[.slice none 0 0,.string ⟨#[]⟩] 36)
 have aP:=Blk.new ((w.alloc (.cells #[.slice Ap p.terms.length cp,str p.bound] 36)).alloc (.cells #[.slice Aq q.terms.length cq,str q.bound] 36)) 36 #[.slice none 0 0,.string ⟨#[]⟩]
 simp only [World.size_alloc] at aZ aP
 rw [<- hW] at hz bh aZ aP
 have B:Hid (zgu w W b Ap Aq cp cq p q):=⟨hB.below hz,bh,aZ,aP,zi.below hp hz,zi.below hq hz,Chg.of_below hz⟩
 have cO:=ze hB.lt
 clear hB hp hq ho hz bh aZ aP
 go_in
 go_upto_region 1 with fail
 rw [<- hW]
 clear hW
 refine xY (S:=(fun w' =>Hid (zgu w w' b Ap Aq cp cq p q)/\w'.cell? ⟨w.heap.size,0,none⟩=some (.slice Ap p.terms.length cp)/\w'.cell? ⟨w.heap.size,1,none⟩=some (str p.bound)/\w'.cell? ⟨w.heap.size+1,0,none⟩=some (.slice Aq q.terms.length cq)/\w'.cell? ⟨w.heap.size+1,1,none⟩=some (str q.bound))) 11 (by kernel_rfl) (by kernel_rfl) (ztg (B.o.below (zw W).out)) fun G=>?_
 refine tK 0 ?_
 refine tK 1 ?_
 refine tK 2 ?_
 refine tK 4 ?_
 refine tK 5 ?_
 refine tK 6 ?_
 refine HH.og [(3,19),(7,23),(8,24),(9,10),(10,11)] [9,10] (zrw w.heap.size (yd p.terms s) (yd q.terms s)) (Chg (· =b)) G (fun i v w w' h h' hc Z=>Z.keep h.1.out.book hc) (fun w w' h=>h.size) (fun i v w hi h=>h.fresh hi) (vU (vY.mk (fun us w1 hS hdep K hK=>?_)) (vU (vY.mk (fun us w1 hS hdep K hK=>?_)) (vU (vY.mk (fun us w1 hS hdep K hK=>?_)) (vU (vY.mk (fun us w1 hS hdep K hK=>?_)) (vU (vY.mk (fun us w1 hS hdep K hK=>?_)) zq0))))) fun us w1 hS hR hA=>?_
 . simp only [YQ,Act.put,xST] at hK |-
   constructor
   go_simp
   refine (zbr b Ap _ cp w.heap.size p.terms p.bound s w1 hS.1.out.book hS.1.out.tp hS.1.out.chg.size N.o.cp).mono ?_;rintro e w2 ⟨v,rfl,E,aD,aq⟩;exact hK _ _ ⟨v,rfl,ztg (hS.1.out.turn aq aD),aq,E,fun h=>by cases h⟩
 . simp only [YQ,Act.put,xST] at hK |-
   constructor
   go_simp
   refine (zbr b Aq _ cq w.heap.size q.terms q.bound s w1 hS.1.out.book hS.1.out.tq hS.1.out.chg.size N.o.cq).mono ?_;rintro e w2 ⟨v,rfl,E,aD,aq⟩;exact hK _ _ ⟨v,rfl,ztg (hS.1.out.turn aq aD),aq,E,fun h=>by cases h⟩
 . have h7:zE w1 (us 7) (yd q.terms s):=hdep 7 (by kernel_rfl)
   simp only [YQ,Act.put,xST] at hK |-
   constructor
   go_simp
   refine (Xg _ _ w1 h7).mono ?_;rintro e w2 ⟨v,rfl,E,J⟩;exact hK _ _ ⟨v,rfl,ztg (hS.1.out.below J),Chg.of_below J,E,fun h=>by cases h⟩
 . simp only [YQ,Act.put,xST] at hK |-
   constructor
   go_simp
   have j:=zf w1 (.cells #[.int .i64 0,.slice none 0 0,.bool false,.int .i64 0,.slice none 0 0,.bool false] 62);exact hK _ _ ⟨_,rfl,ztg (hS.1.out.below j),Chg.of_below j,⟨w1.heap.size,rfl,Blk.new w1 _ _,hS.1.out.chg.size⟩,fun h=>uA⟩
 . simp only [YQ,Act.put,xST] at hK |-
   constructor
   go_simp
   have j:=zf w1 (.cells #[.int .i64 0,.slice none 0 0,.bool false,.int .i64 0,.slice none 0 0,.bool false] 62);exact hK _ _ ⟨_,rfl,ztg (hS.1.out.below j),Chg.of_below j,⟨w1.heap.size,rfl,Blk.new w1 _ _,hS.1.out.chg.size⟩,fun h=>uA⟩
 . have h3:zE w1 (us 3) (yd p.terms s):=hR (3,19) (by simp)
   have h8:zE w1 (us 8) (-(yd q.terms s)):=hR (8,24) (by simp);obtain ⟨g9,e9,L,bz⟩:zcb w1 w.heap.size 62 #[.int .i64 0,.slice none 0 0,.bool false,.int .i64 0,.slice none 0 0,.bool false] (us 9):=hR (9,10) (by simp);obtain ⟨ar,bq,ah,bg⟩:zcb w1 w.heap.size 62 #[.int .i64 0,.slice none 0 0,.bool false,.int .i64 0,.slice none 0 0,.bool false] (us 10):=hR (10,11) (by simp)
   have bD:g9≠ar:=by
    have:=hA (9,10) (by simp) (10,11) (by simp) rfl rfl (by decide);rw [e9,bq] at this;exact this
   obtain ⟨x1,A1,k1,c1,s1,y1,B1,ai,aj,t1,e3⟩:=h3.agg;obtain ⟨x2,A2,k2,c2,s2,y2,B2,aR,aQ,t2,e8⟩:=h8.agg;simp only [YQ,Act.put,List.setIfInBounds_toArray,List.set_cons_zero,List.set_cons_succ,List.drop_succ_cons,List.drop_zero];rw [e3,e8,e9,bq];rw [e3] at h3;rw [e8] at h8;have aK:Chg (· =g9) w1 (World.rat w1 g9 x1 A1 k1 c1 s1 y1 B1 ai aj t1):=Chg.ratSet;have aI:=Ym 0 none 0 0 false 0 none 0 0 false;have b9:∀ z,z=g9->zK w1 z:=fun z e=>by subst e;exact L.noDig aI
   have aX:=aK.blk ah (fun e=>bD e.symm);have bT:=Vo.made L h3;have bl:Chg (· =ar) (World.rat w1 g9 x1 A1 k1 c1 s1 y1 B1 ai aj t1) (World.rat (World.rat w1 g9 x1 A1 k1 c1 s1 y1 B1 ai aj t1) ar x2 A2 k2 c2 s2 y2 B2 aR aQ t2):=Chg.ratSet;have bZ:∀ z,z=ar->zK (World.rat w1 g9 x1 A1 k1 c1 s1 y1 B1 ai aj t1) z:=fun z e=>by subst e;exact aX.noDig aI
   have HX:=ze (bT.chg bl bD bZ);have HY:=ze (Vo.made aX (aK.rat h8 b9));replace B:=ze ((hS.1.out.new L (by decide) aI bz aK).new aX (by decide) aI bg bl);have a0:=L.cell 0;have a1:=L.cell 1;have a2:=L.cell 2;have a3:=L.cell 3;have a4:=L.cell 4;have a5:=L.cell 5;obtain ⟨f0,f1,f2,f3,f4,f5⟩:=fp6 L;have b0:=ah.cell 0;have b1:=ah.cell 1;have b2:=ah.cell 2;have b3:=ah.cell 3;have b4:=ah.cell 4;have b5:=ah.cell 5;obtain ⟨d0,d1,d2,d3,d4,d5⟩:=fp6 ah;simp at a0 a1 a2 a3 a4 a5 b0 b1 b2 b3 b4 b5;have HG:=ze (show w.heap.size<=g9/\w.heap.size<=ar from ⟨bz,bg⟩);clear hS hR hA G h3 h8 e3 e8 e9 bq bz bg aK bl b9 bZ bT aX aI L ah
   go_upto_region 2 with fail
   obtain ⟨W2,aU⟩:=uQ (World.rat (World.rat w1 g9 x1 A1 k1 c1 s1 y1 B1 ai aj t1) ar x2 A2 k2 c2 s2 y2 B2 aR aQ t2);rw [<- aU] at HX HY B;simp only [World.rat] at aU;rw [<- aU];clear aU a0 a1 a2 a3 a4 a5 b0 b1 b2 b3 b4 b5 f0 f1 f2 f3 f4 f5 d0 d1 d2 d3 d4 d5;have bf:=(zw W2).out;refine xY (S:=(fun w' =>Hid (zgu w w' b Ap Aq cp cq p q)/\w'.cell? ⟨w.heap.size,0,none⟩=some (.slice Ap p.terms.length cp)/\w'.cell? ⟨w.heap.size,1,none⟩=some (str p.bound)/\w'.cell? ⟨w.heap.size+1,0,none⟩=some (.slice Aq q.terms.length cq)/\w'.cell? ⟨w.heap.size+1,1,none⟩=some (str q.bound)/\Hid (Vo w' g9 (yd p.terms s))/\Hid (Vo w' ar (-yd q.terms s)))) 13 (by kernel_rfl) (by kernel_rfl) (zmp (B.o.below bf) (HX.o.below bf) (HY.o.below bf)) fun G=>?_;refine tK 0 ?_;refine tK 1 ?_;refine tK 2 ?_
   refine HH.og [(3,28),(4,29),(5,30),(6,31),(7,32),(8,33),(9,34),(10,35),(11,36),(12,12)] [] (zut b w.heap.size p q (yd p.terms s) (-yd q.terms s) (yS p q s) F Q) (Chg (· =b)) G (fun i v w w' h h' hc Z=>Z.keep h.1.out.book hc) (fun w w' h=>h.size) (fun i v w hi h=>by cases hi) (vU (vY.mk (fun us w1 hS hdep K hK=>?_)) (vU (vY.mk (fun us w1 hS hdep K hK=>?_)) (vU (vY.mk (fun us w1 hS hdep K hK=>?_)) (vU (vY.mk (fun us w1 hS hdep K hK=>?_)) (vU (vY.mk (fun us w1 hS hdep K hK=>?_)) (vU (vY.mk (fun us w1 hS hdep K hK=>?_)) (vU (vY.mk (fun us w1 hS hdep K hK=>?_)) (vU (vY.mk (fun us w1 hS hdep K hK=>?_)) (vU (vY.mk (fun us w1 hS hdep K hK=>?_)) (vU (vY.mk (fun us w1 hS hdep K hK=>?_)) zq0)))))))))) fun us w1 hS hR hA=>?_
   . simp only [YQ,Act.put,xST] at hK |-
     constructor
     go_simp
     have j:=zf w1 (.cells #[.slice Ap p.terms.length cp,str p.bound,.slice Aq q.terms.length cq,str q.bound] 36);exact hK _ _ ⟨_,rfl,zmp (hS.1.out.below j) (hS.2.2.2.2.2.1.out.below j) (hS.2.2.2.2.2.2.out.below j),Chg.of_below j,⟨⟨_,_,rfl⟩,zov hS.1.out.tp hS.1.out.tq hS.1.out.chg.size N.o.sp N.o.sq⟩,fun h=>by cases h⟩
   . simp only [YQ,Act.put,xST] at hK |-
     constructor
     go_simp
     refine (Ze 1 w1 (by omega) (by omega)).mono ?_;rintro e w2 ⟨v,rfl,E,J⟩;exact hK _ _ ⟨_,rfl,zmp (hS.1.out.below J) (hS.2.2.2.2.2.1.out.below J) (hS.2.2.2.2.2.2.out.below J),Chg.of_below J,(show zE w2 v (((1:Int):Rat)) from E),fun h=>by cases h⟩
   . obtain ⟨x1,A1,k1,c1,s1,y1,B1,ai,aj,t1,hk,E⟩:=hS.2.2.2.2.2.1.out
     obtain ⟨e0,e1,e2,e3,e4,e5,_⟩:=bp6 hk;simp only [YQ,Act.put,xST] at hK |-
     constructor
     go_simp
     exact hK _ _ ⟨_,rfl,zmp (hS.1.out.below (Below.refl w1.heap.size w1)) (hS.2.2.2.2.2.1.out.below (Below.refl w1.heap.size w1)) (hS.2.2.2.2.2.2.out.below (Below.refl w1.heap.size w1)),Chg.of_below (Below.refl w1.heap.size w1),E,fun h=>by cases h⟩
   . have h4:zE w1 (us 4) 1:=hdep 4 (by kernel_rfl)
     have h5:zE w1 (us 5) (yd p.terms s):=hdep 5 (by kernel_rfl);simp only [YQ,Act.put,xST] at hK |-
     constructor
     go_simp
     refine (XH _ _ 1 (yd p.terms s) w1 h4 h5 N.o.ol N.o.xl N.o.x0).mono ?_;rintro e w2 ⟨v,rfl,E,J⟩;exact hK _ _ ⟨_,rfl,zmp (hS.1.out.below J) (hS.2.2.2.2.2.1.out.below J) (hS.2.2.2.2.2.2.out.below J),Chg.of_below J,E,fun h=>by cases h⟩
   . simp only [YQ,Act.put,xST] at hK |-
     constructor
     go_simp
     refine (Ze 1 w1 (by omega) (by omega)).mono ?_;rintro e w2 ⟨v,rfl,E,J⟩;exact hK _ _ ⟨_,rfl,zmp (hS.1.out.below J) (hS.2.2.2.2.2.1.out.below J) (hS.2.2.2.2.2.2.out.below J),Chg.of_below J,(show zE w2 v (((1:Int):Rat)) from E),fun h=>by cases h⟩
   . obtain ⟨x1,A1,k1,c1,s1,y1,B1,ai,aj,t1,hk,E⟩:=hS.2.2.2.2.2.2.out
     obtain ⟨e0,e1,e2,e3,e4,e5,_⟩:=bp6 hk;simp only [YQ,Act.put,xST] at hK |-
     constructor
     go_simp
     exact hK _ _ ⟨_,rfl,zmp (hS.1.out.below (Below.refl w1.heap.size w1)) (hS.2.2.2.2.2.1.out.below (Below.refl w1.heap.size w1)) (hS.2.2.2.2.2.2.out.below (Below.refl w1.heap.size w1)),Chg.of_below (Below.refl w1.heap.size w1),E,fun h=>by cases h⟩
   . have h7:zE w1 (us 7) 1:=hdep 7 (by kernel_rfl)
     have h8:zE w1 (us 8) (-yd q.terms s):=hdep 8 (by kernel_rfl);simp only [YQ,Act.put,xST] at hK |-
     constructor
     go_simp
     refine (XH _ _ 1 (-yd q.terms s) w1 h7 h8 N.o.ol N.o.yl N.o.y0).mono ?_;rintro e w2 ⟨v,rfl,E,J⟩;exact hK _ _ ⟨_,rfl,zmp (hS.1.out.below J) (hS.2.2.2.2.2.1.out.below J) (hS.2.2.2.2.2.2.out.below J),Chg.of_below J,E,fun h=>by cases h⟩
   . have h6:zE w1 (us 6) (1 / yd p.terms s):=hdep 6 (by kernel_rfl)
     have h9:zE w1 (us 9) (1 / -yd q.terms s):=hdep 9 (by kernel_rfl);obtain ⟨x1,A1,k1,c1,s1,y1,B1,ai,aj,t1,e6⟩:=h6.agg;obtain ⟨x2,A2,k2,c2,s2,y2,B2,aR,aQ,t2,e9⟩:=h9.agg;simp only [YQ,Act.put,xST] at hK |-;rw [e6] at h6 hK |-;rw [e9] at h9 hK |-
     constructor
     go_simp
     have j:=zf w1 (.cells #[.int .i64 x1,.slice A1 k1 c1,.bool s1,.int .i64 y1,.slice B1 ai aj,.bool t1,.int .i64 x2,.slice A2 k2 c2,.bool s2,.int .i64 y2,.slice B2 aR aQ,.bool t2] 62);exact hK _ _ ⟨_,rfl,zmp (hS.1.out.below j) (hS.2.2.2.2.2.1.out.below j) (hS.2.2.2.2.2.2.out.below j),Chg.of_below j,zr4 h6 h9,fun h=>by cases h⟩
   . obtain ⟨⟨A,c,e3⟩,h3⟩:(∃ A c,us 3= .slice A 2 c)/\yM w1 (us 3) [p,q]:=hdep 3 (by kernel_rfl)
     have cu:zcc w1 (us 10) 2 (yS p q s):=hdep 10 (by kernel_rfl);simp only [YQ,Act.put,xST] at hK |-;rw [e3] at h3 hK |-
     constructor
     go_simp
     refine (zmi b A 2 c _ [p,q] (yS p q s) w1 hS.1.out.book h3 cu N.o.sums).mono ?_;rintro e w2 ⟨gm,x,A',k,c',s',y,C,k',aO,t,rfl,E,hm,cE,au,aD,aq⟩;have aS:Chg (· =b) w1 w2:=aq.mono (fun x j h=>h.elim (fun h=>h) (fun h=>by omega));exact hK _ _ ⟨_,rfl,zmp (hS.1.out.turn aS aD) (hS.1.out.book.keepRB aS hS.2.2.2.2.2.1.out) (hS.1.out.book.keepRB aS hS.2.2.2.2.2.2.out),aS,⟨gm,_,_,_,_,_,_,_,_,_,_,rfl,by rw [bB.o];exact E,by rw [bo.o];exact hm,cE,uC hS.1.out.chg.size au⟩,fun h=>by cases h⟩
   . simp only [YQ,Act.put,xST] at hK |-
     constructor
     go_simp
     have j:=zf w1 (.cells #[.map none,.int .i64 0,.slice none 0 0,.bool false,.int .i64 0,.slice none 0 0,.bool false] 102);exact hK _ _ ⟨_,rfl,zmp (hS.1.out.below j) (hS.2.2.2.2.2.1.out.below j) (hS.2.2.2.2.2.2.out.below j),Chg.of_below j,⟨w1.heap.size,rfl,Blk.new w1 _ _,hS.1.out.chg.size⟩,fun h=>by cases h⟩
   . obtain ⟨gm,x,A',k,c',s',y,C,k',aO,t,ca,E,hm,cF,cL⟩:zug w1 b w.heap.size F Q (us 11):=hR (11,36) (by simp)
     obtain ⟨M,b8,Y,bG⟩:zcb w1 w.heap.size 102 #[.map none,.int .i64 0,.slice none 0 0,.bool false,.int .i64 0,.slice none 0 0,.bool false] (us 12):=hR (12,12) (by simp);have aB:Hid ((∃ ns:List (List UInt8),(∀ x,(F x).isSome=true->x∈ns)/\ns.length<=100000/\∀ x∈ns,zB x)/\(∀ x r,F x=some r->xS 67108864 r/\zB (zu r))/\(xS 67108864 Q/\zB (zu Q))):=ze (by rw [bo.o,bB.o];exact ⟨N.o.keys,N.o.outs,N.o.outb⟩);clear N HX HY HG G hA hR bo bB;simp only [YQ,Act.put,List.setIfInBounds_toArray,List.set_cons_zero,List.set_cons_succ,List.drop_succ_cons,List.drop_zero];rw [ca,b8];clear ca b8;have be:=zef none 0 none 0 0 false 0 none 0 0 false;have bw:∀ z,z=M->zK w1 z:=fun z e=>by subst e;exact Y.noDig be
     have a8:Chg (· =M) w1 (World.sc7 w1 M (some gm) x A' k c' s' y C k' aO t):=znd;have aa:=ze (hS.1.out.new Y (by decide) be bG a8);have HM:=ze (hm.chg a8 (hm.ne Y) bw);have al:Hid (yW (World.sc7 w1 M (some gm) x A' k c' s' y C k' aO t) M gm Q):=⟨_,_,_,_,_,_,_,_,_,_,zlv Y,a8.rat E bw⟩;have a0:=Y.cell 0;have a1:=Y.cell 1;have a2:=Y.cell 2;have a3:=Y.cell 3;have a4:=Y.cell 4;have a5:=Y.cell 5;have a6:=Y.cell 6;obtain ⟨f0,f1,f2,f3,f4,f5,f6⟩:=fp7 Y;simp at a0 a1 a2 a3 a4 a5 a6;clear hS hm E a8 bw be Y bG cF B
     go_upto_region 3 with fail
     obtain ⟨W3,aW⟩:=uQ (World.sc7 w1 M (some gm) x A' k c' s' y C k' aO t);rw [<- aW] at aa HM al;simp only [World.sc7,World.rat1] at aW;rw [<- aW];clear aW a0 a1 a2 a3 a4 a5 a6 f0 f1 f2 f3 f4 f5 f6;have j:=zf W3 (.cells #[.slice none 0 0,.string ⟨#[]⟩] 36);have I:=ze (Blk.new W3 36 #[.slice none 0 0,.string ⟨#[]⟩]);have bj:=ze (show w.heap.size+1+1<W3.heap.size from aa.o.k2.lt);replace aa:=ze (aa.o.below j);replace HM:=ze (HM.o.below j);replace al:=ze (al.o.below j);clear j
     go_upto_region 4 with fail
     generalize W3.alloc (.cells #[.slice none 0 0,.string ⟨#[]⟩] 36)=W4 at I aa HM al |-;generalize W3.heap.size=gO at I bj |-;obtain ⟨g0,gL⟩:=al.o.map;obtain ⟨ns,bm,br,ba⟩:=aB.o.1;obtain ⟨m,D0,ks,am,cm,bF,cg,cc⟩:=HM.o.owns bm br ba;have bX:=ze (zjx (some gm) W4);have ce:=ze (zf6 gm m D0 zjk W4 am (by unfold maxLen;omega) (by omega));have ac:=ze (show (strKeys D0).Perm ks/\ks.Nodup/\(∀ x,x∈ks↔(F x).isSome=true)/\ns.length<=100000/\(∀ x,(F x).isSome=true->x∈ns)/\∀ x∈ns,zB x from ⟨bF,cg,cc,br,bm,ba⟩);clear am cm bF cg cc bm br ba;go_wp2_with fail;refine bX.o.mono ?_;rintro e w5 ⟨rfl,rfl⟩;clear bX;go_wp2_with fail;refine ce.o.mono ?_;rintro e w5 ⟨nv,ss,rfl,hp,bu,co,cd⟩;have j:=zf W4 (.cells #[.map (some gm)] zq6)
     have av:ziw (ss.mergeSort (fun x y=>decide (x<=y))) F:=
      ⟨X5 (hp.nodup_iff.2 (ac.o.1.nodup_iff.2 ac.o.2.1)),fun x=>by rw [(List.mergeSort_perm ss _).mem_iff,hp.mem_iff,ac.o.1.mem_iff];exact ac.o.2.2.1 x⟩
     have bk:∀ x∈ss.mergeSort (fun x y=>decide (x<=y)),x∈ns:=fun x j=>ac.o.2.2.2.2.1 x ((av.2 x).1 j)
     have aN:(ss.mergeSort (fun x y=>decide (x<=y))).length<=100000:=uC (zak (by
      have h1:ss.Nodup:=hp.nodup_iff.2 (ac.o.1.nodup_iff.2 ac.o.2.1)
      exact (List.mergeSort_perm ss _).nodup_iff.2 h1) bk) ac.o.2.2.2.1
     have aT:zT w5 w5.heap.size nv (ss.mergeSort (fun x y=>decide (x<=y))):=by
      refine VP (base:=(W4.alloc (.cells #[.map (some gm)] zq6)).heap.size) ?_ aN (fun x j=>ac.o.2.2.2.2.2 x (bk x j));rw [List.length_mergeSort];exact bu
     have bC:∀ (A:Option Addr) (n c:Nat),nv= .slice A n c->∀ ad,A=some ad->gO<ad.block:=fun A n c e ad e2=>by
      subst e;subst e2;have h1:=(bu.lt ad.block rfl).1;have h2:=I.o.lt;simp only [World.size_alloc] at h1
      omega
     clear hp bu co bk ac ce gL;generalize ss.mergeSort (fun x y=>decide (x<=y))=l at av aT aN;obtain ⟨An,cn,rfl,_⟩:=id aT;have bY:=ze (bC An _ cn rfl);clear bC;obtain ⟨HL,ab,aJ⟩:=hz3 aN aT av;have hz5:=ext j cd
     have B:Hid (zjl w w5 b M gm gO w5.heap.size F Q):=by
      have h1:=hz5.size;have h2:=aa.o.book.lt;have h3:=HM.o.lt;have h4:=al.o.map.2;have h5:=aa.o.k2.lt;have h6:=I.o.lt;have h7:=bj.o;have h8:=aa.o.chg.size;exact ⟨aa.o.book.below hz5,HM.o.below hz5,al.o.below hz5,aa.o.k2.below hz5 h5,zC aa.o.chg hz5,by omega,by omega,by omega,by omega,by omega,by omega,by omega,by omega,uA⟩
     replace I:=kb_ I hz5;clear hz5 j cd aN aT av aa HM al bj g0;go_wp2
     go_loopw [42] (MtR w b M gm gO w5.heap.size F Q (.slice An l.length cn) l) (fun kv _=>l.length - (intOf kv).toNat)
     case atStart=>exact ⟨0,_,uB,rfl,B,Zk _ _ _ _,I,ab,ze (fun i h hi=>by omega)⟩
     case round=>
      clear B I ab;obtain ⟨k,tv,hk,rfl,B,V,I,ab,bp⟩:=hrel;generalize w5.heap.size=Bn at B V I ab |-
      by_cases a7:k<l.length
      rotate_left
      . obtain rfl:l.length=k:=by omega
        have aH:Zz l F Q=decide (yC 12 Q):=by
         unfold Zz
         rw [uE (fun s hs=>by
          obtain ⟨i,hi,rfl⟩:=List.mem_iff_getElem.1 hs
          exact bp.o i hi hi),Bool.true_and]
        have cz:=ze aH
        have cy:Hid (∀ x∈yu l F,zB x.name/\zB x.coef):=ze (fun x j=>by
         unfold yu at j;obtain ⟨s0,bN,rfl⟩:=List.mem_map.1 j;obtain ⟨r,Z⟩:=Option.isSome_iff_exists.1 ((aJ.o.2 s0).1 bN);refine ⟨?_,?_⟩
         . obtain ⟨_,_,_,_,_,_,_,h⟩:=id ab.o
           exact h s0 bN
         show zB (zu ((F s0).getD 0))
         rw [Z]
         exact (aB.o.2.1 s0 r Z).2)
        clear aH bp ab bY;obtain ⟨x6,A6,k6,c6,s6,y6,B6,cb,b7,t6,ay,az⟩:=B.o.box;have aG:=ze az;obtain ⟨_,o1,o2,o3,o4,o5,o6,_⟩:=bp7 ay;clear ay az;go_wp2_with fail;refine (Xs _ Q wr aG.o aB.o.2.2.1).mono ?_;rintro e O ⟨rfl,af⟩;obtain ⟨R,ax⟩:=uQ (zu Q);rw [<- ax];have a9:=ze ax;clear o1 o2 o3 o4 o5 o6 aG ax;replace B:=ze (B.o.below af);replace V:=ze (V.o.below af);replace I:=kb_ I af;clear af;have r1:=I.o.cell 1;have f1:=I.o.frozen 1;simp at r1;have ao:Chg (· =gO) O (O.setCell ⟨gO,1,none⟩ (.string ⟨R.toArray⟩)):=Chg.setCell (S:=(· =gO)) (Chg.refl O) (p:=⟨gO,1,none⟩) rfl _;have U:=ze (B.o.out_ I.o (xo V.o) ao)
        have ak:=ze (V.o.chg ao (fun c hc e=>by
         subst e;have:=(V.o.1.lt _ hc).1;have:=B.o.lo
         omega))
        have aF:=ze (I.o.set_ 1 (.string ⟨R.toArray⟩));clear ao B V I
        go_upto_region 12 with fail
        clear r1 f1;generalize O.setCell ⟨gO,1,none⟩ (.string ⟨R.toArray⟩)=W7 at U ak aF |-;obtain ⟨x6,A6,k6,c6,s6,y6,B6,cb,b7,t6,ay,az⟩:=U.o.box;have aG:=ze az;obtain ⟨_,o1,o2,o3,o4,o5,o6,oL⟩:=bp7 ay;obtain ⟨r0,r1,rL⟩:=bq2 aF;clear ay az;have cj:=ze (show xS 67108864 Q from aB.o.2.2.1);obtain ⟨At,ct,rfl,_⟩:=zas ak.o.1;have nO:¬ gO=w.heap.size+1+1:=U.o.ne
        have nS:¬ M=w.heap.size+1+1:=by
         obtain ⟨cs,hs⟩:=U.o.box.blk;exact yZ hs U.o.res (by decide)
        have ae:∀ w',Hid (Chg (fun x=>x=w.heap.size+1+1) W7 w')->w'.cell? ⟨gO,0,none⟩=some (.slice At l.length ct)/\w'.cell? ⟨gO,1,none⟩=some (.string ⟨R.toArray⟩)/\w'.cell? ⟨M,1,none⟩=some (.int .i64 x6)/\w'.cell? ⟨M,2,none⟩=some (.slice A6 k6 c6)/\w'.cell? ⟨M,3,none⟩=some (.bool s6)/\w'.cell? ⟨M,4,none⟩=some (.int .i64 y6)/\w'.cell? ⟨M,5,none⟩=some (.slice B6 cb b7)/\w'.cell? ⟨M,6,none⟩=some (.bool t6):=fun w' hB=>⟨xu hB r0 nO,xu hB r1 nO,xu hB o1 nS,xu hB o2 nS,xu hB o3 nS,xu hB o4 nS,xu hB o5 nS,xu hB o6 nS⟩
        refine XJ ae 6 (vj W7) fun G=>?_;refine tK 0 ?_;refine tK 1 ?_;refine tK 2 ?_;refine rK 3 fun K hK=>?_
        go_simp
        go_at_call 52;refine (XR _ Q 12 _ (aG.o.below (zw W7).out) cj.out (by omega) (by omega)).mono ?_;rintro e w8 ⟨rfl,ag⟩;rw [<- cz.o];have bv:=((zw W7).out).trans (ag.mono (Nat.le_of_eq rfl));refine hK.out _ _ (zl (xM ag G.1) (ae _)) ?_;clear hK K G;intro G
        try simp only [Act.put,xST]
        clear ag;refine tK 4 ?_;replace U:=ze (U.o.below bv);replace ak:=ze (ak.o.below bv);have X:=U.o.res;have a0:=X.cell 0;have a1:=X.cell 1;have f0:=X.frozen 0;have f1:=X.frozen 1;simp at a0 a1;have ap:=ze X
        have aC:Chg (fun x=>x=w.heap.size+1+1) w8 ((w8.setCell ⟨w.heap.size+1+1,0,none⟩ (.slice At l.length ct)).setCell ⟨w.heap.size+1+1,1,none⟩ (.string ⟨R.toArray⟩)):=by
         apply Chg.setCell (S:=fun x=>x=w.heap.size+1+1) ?_ (by rfl)
         apply Chg.setCell (S:=fun x=>x=w.heap.size+1+1) ?_ (by rfl)
         exact Chg.refl w8
        have aM:=ze aC;clear X bv aC;refine rK 5 fun K hK=>?_
        go_simp
        refine hK.out _ _ (zl (Zh aM.o G.1) (ae _)) ?_;clear hK K G;intro G
        try simp only [Act.put,xST]
        clear G ae;refine hdn ?_;simp only [xDR];clear o1 o2 o3 o4 o5 o6 oL r0 r1 rL aG aF a0 a1 f0 f1;go_wp2_with fail;have L:=(ap.o.set_ 0 (.slice At l.length ct)).set_ 1 (.string ⟨R.toArray⟩);obtain ⟨e0,e1,_⟩:=bp2 L;refine bodyPost_ret (v:=.tuple #[.agg #[.slice At l.length ct,.string ⟨R.toArray⟩],.bool (Zz l F Q)]) (by simp [results,results21,go_sem,e0,e1]) rfl ?_;have bb:∀ z,z=w.heap.size+1+1->zK w8 z:=fun z e=>by subst e;exact ze3 ap.o (zH _ _ _)
        have bU:=ak.o.chg aM.o (fun c hc e=>by
         have:=(ak.o.1.lt _ hc).1;have:=U.o.lr
         omega)
        have aE:(yu l F).length=l.length:=by unfold yu;rw [List.length_map]
        refine ⟨l,_,aJ.o,rfl,fun _=>⟨At,ct,by rw [aE,a9.o],?_,?_⟩,⟨_,_,_,_,rfl⟩,U.o.book.chg aM.o (U.o.book.neB ap.o) bb,U.o.chg.trans (S:=fun x=>x=b) (T:=fun x=>x=w.heap.size+1+1) aM.o (fun x j e=>by omega)⟩
        . rw [aE]
          exact VW (by rw [aE];exact bU.1) (by rw [aE];exact HL.o) cy.o
        rw [aE]
        exact zgp bU.1
      have cH:(k:Int)<(l.length:Int):=by omega
      obtain ⟨an,eA,cG,p0⟩:=ab.o.at_ a7;subst eA;obtain ⟨g0,gL⟩:=B.o.box.map;have av:(F l[k]).isSome=true:=(aJ.o.2 l[k]).1 (uO a7);obtain ⟨r,Z⟩:=Option.isSome_iff_exists.1 av;obtain ⟨bI,bE⟩:=aB.o.2.1 _ _ Z;obtain ⟨v,bd,ch⟩:=B.o.map.look (P:=prog) ZW Xn (zai _) l[k] false;simp only [Bool.false_eq_true,if_false] at bd
      have E:zE wr v r:=by
       rcases ch with ⟨h,_⟩ | ⟨q',h,h2⟩
       . rw [Z] at h;cases h
       . rw [Z] at h;injection h with h;subst h;exact h2
      obtain ⟨D,aV,_,_⟩:=id B.o.map;obtain ⟨HR,bQ,cI,HV⟩:=hz4 Z bI bE E;have bi:=ze (show (F l[k]).getD 0=r by rw [Z];rfl);obtain ⟨x3,A3,k3,c3,s3,y3,B3,cN,cJ,t3,ev⟩:=E.agg;rw [ev] at bd;have cf:=ze ev;clear av Z bI bE ch E aV ev;go_wp2_with fail;refine (XR _ r 12 wr (by rw [<- cf.o];exact HV.o) bQ.o (by omega) (by omega)).mono ?_;rintro e O ⟨rfl,af⟩;replace B:=ze (B.o.below af);replace V:=ze (V.o.below af);replace I:=kb_ I af;replace ab:=ze (zT.below ab.o af);clear af bd g0 gL p0 HV cf
      by_cases aw:yC 12 r
      rotate_left
      . rw [show (!decide (yC 12 r))=true by simp [aw]]
        have X:=B.o.res;have a0:=X.cell 0;have a1:=X.cell 1;have f0:=X.frozen 0;have f1:=X.frozen 1;simp at a0 a1;have ap:=ze X;have cA:=ze aw;clear aw X V I ab;go_wp2_with fail;have L:=(ap.o.set_ 0 (.slice none 0 0)).set_ 1 (.string ⟨#[]⟩);obtain ⟨e0,e1,_⟩:=bp2 L;refine bodyPost_ret (v:=.tuple #[.agg #[.slice none 0 0,.string ⟨#[]⟩],.bool false]) (by simp [results,results21,go_sem,e0,e1]) rfl ?_
        have aC:Chg (· =w.heap.size+1+1) O ((O.setCell ⟨w.heap.size+1+1,0,none⟩ (.slice none 0 0)).setCell ⟨w.heap.size+1+1,1,none⟩ (.string ⟨#[]⟩)):=by
         apply Chg.setCell (S:=fun x=>x=w.heap.size+1+1) ?_ (by rfl)
         apply Chg.setCell (S:=fun x=>x=w.heap.size+1+1) ?_ (by rfl)
         exact Chg.refl O
        have bb:∀ z,z=w.heap.size+1+1->zK O z:=fun z e=>by
         subst e;refine ap.o.noDig (vH ?_);intro u hu;simp at hu
         rcases hu with rfl | rfl
         . exact zH _ _ _
         . exact yF _
        have aH:Zz l F Q=false:=by
         unfold Zz;rw [uF (fun h=>cA.o (by rw [<- bi.o];exact h _ (uO a7)))]
         rfl
        refine ⟨l,_,aJ.o,by rw [aH],fun h=>absurd (aH.symm.trans h) (by decide),⟨_,_,_,_,rfl⟩,B.o.book.chg aC (B.o.book.neB ap.o) bb,B.o.chg.trans (S:=fun x=>x=b) (T:=fun x=>x=w.heap.size+1+1) aC (fun x j e=>by omega)⟩
      rw [show (!decide (yC 12 r))=false by simp [aw]]
      have cB:=ze aw;clear aw
      go_upto_region 9 with fail
      have au:∀ x,tv.ownBlock=some x->Bn<=x:=fun x e=>(V.o.1.lt x e).1
      have nO:¬ tv.ownBlock=some gO:=fun e=>by have:=au _ e;have:=B.o.lo;omega
      have nS:¬ tv.ownBlock=some M:=fun e=>by have:=au _ e;have:=B.o.ls;omega
      have nM:¬ tv.ownBlock=some gm:=fun e=>by have:=au _ e;have:=B.o.lm;omega
      obtain ⟨g0,gL⟩:=B.o.box.map;have o0:=(bq1 I).1;obtain ⟨D,aV,_,b6⟩:=id B.o.map;have aY (w' :World) (h:Zq w' gm D):=Zy (w:=w') ZW Xn (zai _) h l[k] false;simp only [Bool.false_eq_true,if_false] at aY;obtain ⟨v,bx⟩:=uQ ((Vp l[k] D).getD (.agg #[.int .i64 0,.slice none 0 0,.bool false,.int .i64 0,.slice none 0 0,.bool false]));rw [<- bx] at aY
      have E:zE O v r:=by
       have h1:=b6 l[k];rw [HR.o] at h1
       split at h1
       . cases h1
       rename_i u hu
       obtain ⟨q',e1,e2⟩:=h1;injection e1 with e1
       subst e1;rw [bx,hu];exact e2
      have HV:=ze E;obtain ⟨R,ax⟩:=uQ (zu r);have a9:=ze ax;clear E b6 bx ax;have ae:∀ w',Hid (Chg (fun x=>tv.ownBlock=some x) O w')->w'.cell? ⟨gO,0,none⟩=some tv/\w'.cell? ⟨M,0,none⟩=some (.map (some gm))/\(Instr.lookup 100 (.map (some gm)) (str l[k]) false).run prog w' = .ok v w' :=fun w' hB=>⟨xu hB o0 nO,xu hB g0 nS,aY _ (hB.out.map aV nM)⟩
      refine XJ ae 12 (vj O) fun G=>?_;refine tK 0 ?_;refine tK 1 ?_;refine tK 2 ?_;refine tK 3 ?_;refine tK 4 ?_;refine tK 5 ?_;refine tK 6 ?_;refine rK 7 fun K hK=>?_
      go_simp
      go_at_call 39;refine (Xs _ r _ (HV.o.below (zw O).out) bQ.o).mono ?_;rintro e w7 ⟨rfl,bA⟩;rw [<- a9.o];have bJ:=((zw O).out).trans (bA.mono (Nat.le_of_eq rfl));refine hK.out _ _ (zl (xM bA G.1) (ae _)) ?_;clear hK K G;intro G
      try simp only [Act.put,xST]
      clear bA;refine tK 8 ?_;refine rK 9 fun K hK=>?_
      go_simp
      have j:=zf w7 (.cells #[str l[k],str R] 38);refine hK.out _ _ (zl (xM (zf _ _) G.1) (ae _)) ?_;clear hK K G;intro G
      try simp only [Act.put,xST]
      have ag:=ext bJ j;have bs:=ze (B.o.below ag);have aL:=ze (V.o.below ag);have bW:=ze (I.o.below ag I.o.lt);have bR:=ze (zT.below ab.o ag);have bP:=Z3 (w:=w7) (t:=38) (a:=str l[k]) (b:=str R);have bH:=xh (a:=str l[k]) (b:=str R) (p:=fun u=>u.oneCell' =true) rfl rfl;have bO:=xh (a:=str l[k]) (b:=str R) (p:=Zp) (yF _) (yF _);have bM:∀ u∈(Value.agg #[.string ⟨#[]⟩,.string ⟨#[]⟩]).cells,Zp u:=by intro u hu;simp [Value.cells] at hu;subst hu;exact yF _
      obtain ⟨i1,cx,cr,cD,cw⟩:=info_parts zed;have bV:=bs.o.bn;clear ag j bJ;refine HH.ready (rs:=[10]) (by kernel_rfl) (by simp) (by kernel_rfl) ?_;refine Za.cons (o:=_) rfl (fun K hK=>?_) Za.nil;rw [if_pos (by rfl)];refine xB (P:=prog) (.tmp 53) (.tmp 61) _ rfl Bn 38 i1 _ 2 32 underlying34 cx cr cD cw rfl (by omega) _ k _ rfl aL.o ⟨w7.heap.size,0,none⟩ 1 1 [str l[k],str R] rfl rfl (by omega) bP bH bO bM (by have:=HL.o;unfold maxLen;omega) (by have:=HL.o;omega) bV ?_;intro cM w9 am bL cC;obtain ⟨g3,bc,ck,_,_⟩:=am.1.form (by omega);subst ck;have aA:=xN bL;have bS:=bs.o.own aL.o aA;have L:=aA.blk bW.o nO;have ci:zT w9 Bn (.slice (some an) l.length cn) l:=zT.chg bR.o aA (fun x j e=>by have:=au _ e;omega);have ao:Chg (· =gO) w9 (w9.setCell ⟨gO,0,none⟩ (.slice (some ⟨g3,0,none⟩) (k+1) bc)):=Chg.setCell (S:=(· =gO)) (Chg.refl w9) (p:=⟨gO,0,none⟩) rfl _
      have bK:yG k (vw (yu l F)) (vq (yu l F)) ++ [str l[k],str R]=yG (k+1) (vw (yu l F)) (vq (yu l F)):=by
       have hd:(yu l F).getD k default={ name:=l[k],coef:=zu ((F l[k]).getD 0) }:=by
        unfold yu
        simp [List.getD,List.getElem?_eq_getElem a7]
       rw [xX];unfold vw vq;rw [hd,bi.o, <- a9.o]
      rw [bK] at am
      have ak:=ze (am.chg ao (fun c hc e=>by
       subst e;have:=(am.1.lt _ hc).1;have:=B.o.lo
       omega))
      have U:=ze (bS.out_ L (xo aL.o) ao);have aF:=ze (L.set_ 0 (.slice (some ⟨g3,0,none⟩) (k+1) bc));have cv:Hid (zT (w9.setCell ⟨gO,0,none⟩ (.slice (some ⟨g3,0,none⟩) (k+1) bc)) Bn (.slice (some an) l.length cn) l):=zT.chg2 ci ao (fun ad e hh=>by have:=bY.o ad e;omega);have r0:=L.cell 0;have q0:=L.frozen 0;simp at r0;refine hK.out _ _ (zl (Zh aA G.1) (ae _)) ?_;clear hK K G;intro G
      try simp only [Act.put,xST]
      clear aA bS L ci ao bK am bL cC bV bP bH bO bM bs aL bW bR au B V I ab aY aV nO nS nM;refine tK 11 ?_;clear G ae;refine hdn ?_;simp only [xDR];clear o0 g0 gL;have cK:IntKind.i64.wrap ((k:Int)+1)=((k+1:Nat):Int):=by rw [IntKind.wrap_i64];have:=HL.o;omega
      have cl:Hid (∀ i (h:i<l.length),i<k+1->yC 12 ((F l[i]).getD 0)):=ze (fun i h hi=>by
       by_cases e:i=k
       . subst e;rw [bi.o];exact cB.o
       exact bp.o i h (by omega))
      go_wp2;go_roundw
      case rel=>exact ⟨k+1,_,by omega,by go_num,U,ak,aF,cv,cl⟩
      case measure=>simp [intOf];omega
def XE (s:List UInt8) (l:List zF):List zF:=l.filter fun r=>decide (yd r.terms s=0)
def upQ (s:List UInt8) (l:List zF):List zF:=l.filter fun r=>decide (0<yd r.terms s)
def dnQ (s:List UInt8) (l:List zF):List zF:=l.filter fun r=>decide (yd r.terms s<0)
def X4 (p q:zF) (s:List UInt8):List UInt8->Option Rat:=nzF (Va [p,q] (yS p q s) 2)
def zrr (p q:zF) (s:List UInt8):Rat:=Vq [p,q] (yS p q s) 2
def zbd (p q:zF) (s:List UInt8):List (List UInt8):=(vF ((p.terms ++ q.terms).map (·.name))).filter fun x=>(X4 p q s x).isSome
def Z2 (p q:zF) (s:List UInt8):zF:={ terms:=yu (zbd p q s) (X4 p q s),bound:=zu (zrr p q s) }
def YI (p q:zF) (s:List UInt8):Bool:=Zz (zbd p q s) (X4 p q s) (zrr p q s)
def Y6 (us ds:List zF):List (zF×zF):=us.flatMap fun p=>ds.map fun q=>(p,q)
def Zj (rows:List zF) (s:List UInt8):Int:=
 if zY rows≠0 then zY rows
 else if (upQ s rows).length+(dnQ s rows).length=0 then 7
 else if 800<(XE s rows).length+(upQ s rows).length*(dnQ s rows).length then 3
 else if (Y6 (upQ s rows) (dnQ s rows)).all (fun p=>YI p.1 p.2 s)=true then 0 else 3
def yi (rows:List zF) (s:List UInt8):List zF:=XE s rows ++ (Y6 (upQ s rows) (dnQ s rows)).map fun p=>Z2 p.1 p.2 s
structure zrc (rows:List zF) (s:List UInt8):Prop where
 coef:∀ r∈rows,zd9 r.terms
 met:∀ p∈upQ s rows,∀ q∈dnQ s rows,zr9 p q s
 keys:∀ p∈upQ s rows,∀ q∈dnQ s rows,∀ l,ziw l (X4 p q s)->l=zbd p q s
 few:rows.length<=800
 bnd:∀ r∈rows,zB r.bound
def zr0 (w:World) (rows:List zF) (s:List UInt8) (e:Ending) (w' :World):Prop:=
 ∃ v,e= .returned (.tuple #[v,.int .i64 (Zj rows s)])/\(Zj rows s=0->yM w' v (yi rows s)/\∃ A c,v= .slice A (yi rows s).length c)/\(Zj rows s≠0->v= .slice none 0 0)/\Below w.heap.size w w'
theorem zjw {rows:List zF} {k:Nat} {s:List UInt8} (h:k<rows.length):
 (yd rows[k].terms s=0->XE s (rows.take (k+1))=XE s (rows.take k) ++ [rows[k]]/\upQ s (rows.take (k+1))=upQ s (rows.take k)/\dnQ s (rows.take (k+1))=dnQ s (rows.take k))/\
 (0<yd rows[k].terms s->XE s (rows.take (k+1))=XE s (rows.take k)/\upQ s (rows.take (k+1))=upQ s (rows.take k) ++ [rows[k]]/\dnQ s (rows.take (k+1))=dnQ s (rows.take k))/\
 (yd rows[k].terms s<0->XE s (rows.take (k+1))=XE s (rows.take k)/\upQ s (rows.take (k+1))=upQ s (rows.take k)/\dnQ s (rows.take (k+1))=dnQ s (rows.take k) ++ [rows[k]]):=by
 have e:rows.take (k+1)=rows.take k ++ [rows[k]]:=by rw [List.take_add_one,List.getElem?_eq_getElem h];rfl
 unfold XE upQ dnQ
 simp only [e,List.filter_append,List.filter_cons,List.filter_nil]
 generalize yd rows[k].terms s=x
 refine ⟨fun hx=>?_,fun hx=>?_,fun hx=>?_⟩
 . subst hx
   have b:¬ (0:Rat)<0:=Rat.lt_irrefl
   simp [b]
 . have b:¬ x=0:=fun e=>by rw [e] at hx;exact Rat.lt_irrefl hx
   have j:¬ x<0:=Rat.not_lt.2 (Rat.le_of_lt hx)
   simp [b,j,hx]
 . have b:¬ x=0:=fun e=>by rw [e] at hx;exact Rat.lt_irrefl hx
   have j:¬ 0<x:=Rat.not_lt.2 (Rat.le_of_lt hx)
   simp [b,j,hx]
theorem zd1 (x:Rat):x<0\/x=0\/0<x:=by
 by_cases h:x<0
 . exact .inl h
 by_cases b:0<x
 . exact .inr (.inr b)
 exact .inr (.inl (Rat.le_antisymm (Rat.not_lt.1 b) (Rat.not_lt.1 h)))
def ElR (w0:World) (b:Nat) (rv:Value) (rows:List zF) (s:List UInt8) (iv ov uv dv:Value) (wr:World):Prop:=
 ∃ (k:Nat) (vo vu vd:Value),k<=rows.length/\iv= .int .i64 k/\vo=ov/\vu=uv/\vd=dv/\Hid (ElK w0 wr b rv vo vu vd rows (XE s (rows.take k)) (upQ s (rows.take k)) (dnQ s (rows.take k)))
def zjj (us ds:List zF) (k j:Nat):List (zF×zF):=Y6 (us.take k) ds ++ (ds.take j).map fun q=>(us.getD k default,q)
def zix (s:List UInt8) (rows:List zF) (k j:Nat):List zF:=XE s rows ++ (zjj (upQ s rows) (dnQ s rows) k j).map fun p=>Z2 p.1 p.2 s
def zlb (s:List UInt8) (rows:List zF) (k j:Nat):Prop:=∀ p∈zjj (upQ s rows) (dnQ s rows) k j,YI p.1 p.2 s=true
theorem zpu {us ds:List zF} {k j:Nat} (hj:j<ds.length) (hk:k<us.length):zjj us ds k (j+1)=zjj us ds k j ++ [(us[k],ds[j])]:=by
 unfold zjj
 rw [List.take_add_one,List.getElem?_eq_getElem hj,List.map_append,List.append_assoc]
 simp [List.getD,List.getElem?_eq_getElem hk]
theorem zpl {us ds:List zF} {k:Nat} (hk:k<us.length):zjj us ds k ds.length=zjj us ds (k+1) 0:=by
 unfold zjj Y6
 rw [List.take_length,List.take_zero,List.map_nil,List.append_nil,List.take_add_one,List.getElem?_eq_getElem hk,List.flatMap_append]
 simp [List.getD,List.getElem?_eq_getElem hk]
theorem znb (us ds:List zF):zjj us ds us.length 0=Y6 us ds:=by
 unfold zjj
 rw [List.take_length,List.take_zero,List.map_nil,List.append_nil]
theorem ziy (us ds:List zF):zjj us ds 0 0=[]:=by
 unfold zjj Y6
 simp
theorem zc8 {us ds:List zF} {k j:Nat} (hk:k<us.length\/j=0) (hj:j<=ds.length) (hk2:k<=us.length):(zjj us ds k j).length<=us.length*ds.length:=by
 unfold zjj Y6
 rw [List.length_append,List.length_map,List.length_take,List.length_flatMap]
 have e:((us.take k).map fun p=>(ds.map fun q=>(p,q)).length).sum=k*ds.length:=by
  have:((us.take k).map fun p=>(ds.map fun q=>(p,q)).length)=List.replicate k ds.length:=by
   rw [List.eq_replicate_iff];refine ⟨by rw [List.length_map,List.length_take];omega,fun b hb=>?_⟩;obtain ⟨x,_,rfl⟩:=List.mem_map.1 hb
   simp
  rw [this,List.sum_replicate_nat]
 rw [e,Nat.min_eq_left hj]
 rcases hk with h | rfl
 . have:(k+1)*ds.length<=us.length*ds.length:=Nat.mul_le_mul_right _ h
   rw [Nat.succ_mul] at this
   omega
 . have:k*ds.length<=us.length*ds.length:=Nat.mul_le_mul_right _ hk2
   omega
theorem zsl {us ds:List zF} {k j:Nat} (hj:j<ds.length) (hk:k<us.length):(us[k],ds[j])∈Y6 us ds:=
 List.mem_flatMap.2 ⟨us[k],uO hk,List.mem_map.2 ⟨ds[j],uO hj,rfl⟩⟩
def ElP (w0:World) (b:Nat) (rv:Value) (rows:List zF) (s:List UInt8) (vu vd iv ov:Value) (wr:World):Prop:=
 ∃ (k:Nat) (vo:Value),k<=(upQ s rows).length/\iv= .int .i64 k/\vo=ov/\Hid (ElK w0 wr b rv vo vu vd rows (zix s rows k 0) (upQ s rows) (dnQ s rows))/\Hid (zlb s rows k 0)
def ElQ (w0:World) (b:Nat) (rv:Value) (rows:List zF) (s:List UInt8) (vu vd:Value) (k g:Nat) (tv:Value) (p:zF) (jv ov:Value) (wr:World):Prop:=
 ∃ (j:Nat) (vo:Value),j<=(dnQ s rows).length/\jv= .int .i64 j/\vo=ov/\Hid (ElK w0 wr b rv vo vu vd rows (zix s rows k j) (upQ s rows) (dnQ s rows))/\Hid (zlb s rows k j)/\Hid (Blk wr g 36 #[tv,str p.bound])/\Hid (∀ x,vo.ownBlock=some x->x≠g)/\Hid (zjp wr w0.heap.size tv p.terms)
theorem Yx {α:Type} (p:α->Bool) (l:List α):(l.filter p).length<=l.length:=List.length_filter_le p l
set_option maxRecDepth 100000 in
theorem zcn (A:Option Addr) (n c:Nat) (rows:List zF) (s:List UInt8) (w:World) (hr:yM w (.slice A n c) rows) (hcnt:rows.length<=800->(ye rows []).length<=100000) (ho:zY rows=0->zrc rows s):
 Calls prog 7 #[.slice A n c,str s] w (zr0 w rows s):=by
 obtain rfl:=hr.len
 have b5:=@run_makeMap prog
 have y:=zf w (.map #[] 0)
 have HB:=ze (zr.new w)
 have HR:=ze (zW.below hr y)
 obtain ⟨HX,bS,HO⟩:=hz3 y hcnt ho
 clear hr y hcnt ho
 go_in
 go_upto_region 2 with fail
 clear b5
 generalize w.alloc (.map #[] 0)=W at HB HR HX |-
 obtain ⟨b,hb⟩:=uQ w.heap.size
 have bG:Hid (w.heap.size<=b):=Nat.le_of_eq hb.symm
 rw [<- hb] at HB |-
 clear hb
 have bd:=ze (Z0 b A rows.length c rows W HB.o (HR.o.more HX.o.size) bS.o)
 go_wp2_with fail
 refine bd.o.mono ?_
 rintro e w1 ⟨rfl,a9,a4⟩
 have a0:Hid (Below w.heap.size w w1):=HX.o.trans (a4.below HX.o.size (fun x e=>by have:=bG.o;omega))
 have bm:=ze (HB.o.keepRows a4 HR.o)
 have bA:=ze a9
 clear a9 a4 bd HB HR HX
 by_cases he:zY rows=0
 rotate_left
 . obtain ⟨z,hz⟩:=uQ (zY rows)
   rw [<- hz] at he |-;have I:Hid (Zj rows s=z):=ze (by unfold Zj;rw [<- hz,if_pos he]);have b0:=ze he;clear hz;go_wp2;go_ret2;refine ⟨.slice none 0 0,by rw [I.o];rfl,fun h=>absurd (I.o.symm.trans h) b0.o,fun _=>rfl,a0.o⟩
 have HE:=ze he
 have am:=ze (HO.o he);rw [he];clear he HO;have m:Hid (ElK w w1 b (.slice A rows.length c) (.slice none 0 0) (.slice none 0 0) (.slice none 0 0) rows [] [] []):=⟨bA.o,bm.o,ZH.nil _ _,ZH.nil _ _,ZH.nil _ _,fun g e=>(by cases e),fun g e=>(by cases e),fun g e=>(by cases e),a0.o,bG.o⟩;clear bA bm a0;go_wp2
 go_loopw [28,8,9,10] (ElR w b (.slice A rows.length c) rows s) (fun iv _ _ _ _=>rows.length - (intOf iv).toNat)
 case atStart=>exact ⟨0,_,_,_,uB,rfl,rfl,rfl,rfl,m⟩
 case round=>
  clear m;obtain ⟨k,vo,vu,vd,hk,rfl,rfl,rfl,rfl,m⟩:=hrel
  by_cases aH:k<rows.length
  . have bR:(k:Int)<(rows.length:Int):=by omega
    have cb:=am.o.few;have bV:IntKind.i64.wrap ((k:Int)+1)=((k+1:Nat):Int):=by rw [IntKind.wrap_i64];omega
    obtain ⟨ad,K,nx,J,eA,aA,p0,p1,Y,b1⟩:=m.o.rows.at_ aH;subst eA;obtain rfl:=Y.len;have y:=zf wr (.cells #[.slice K rows[k].terms.length J,str rows[k].bound] 36);have af:=ze (Blk.new wr 36 #[.slice K rows[k].terms.length J,str rows[k].bound]);replace m:=ze (m.o.ext_ y);have U:=ze (zi.below Y y);clear Y b1 y
    go_upto_region 9 with fail
    clear p0 p1 aA;generalize wr.alloc (.cells #[.slice K rows[k].terms.length J,str rows[k].bound] 36)=W2 at af U m |-;generalize wr.heap.size=gt at af |-;obtain ⟨r0,r1,_⟩:=bq2 af;have bg:=zbr b K _ J w.heap.size rows[k].terms rows[k].bound s W2 m.o.book U.o m.o.below.size (am.o.coef _ (uO aH));have bv:=ze bg;clear bg;go_wp2_with fail;refine bv.o.mono ?_;rintro e w2 ⟨v,rfl,hv,bn,aQ⟩;replace af:=ze (m.o.book.keepBlk aQ af.o);replace U:=ze (m.o.book.keepT aQ U.o);replace m:=ze (m.o.turn aQ bn);clear bn aQ bv r0 r1;obtain ⟨x,aX⟩:=uQ (yd rows[k].terms s);rw [<- aX] at hv;have b4:=ze aX;have HV:=ze hv;clear hv aX;go_wp2_with fail;refine (vy _ x _ HV.o).mono ?_;rintro e w3 ⟨rfl,aS⟩;replace af:=kb_ af aS;replace U:=ze (zi.below U.o aS);replace m:=ze (m.o.ext_ aS);clear aS HV;obtain ⟨r0,r1,_⟩:=bq2 af;have aY:=zjw (s:=s) aH;rw [<- b4.o] at aY;have ay:=ze aY;clear aY
    rcases zd1 x with Q | Q | Q
    . have hs:Y7 x 0= -1:=by unfold Y7;rw [if_pos Q]
      rw [hs];have M:=ze (ay.o.2.2 Q);clear hs Q ay;have Z:=xh (a:=.slice K rows[k].terms.length J) (b:=str rows[k].bound) (p:=fun u=>u.oneCell' =true) rfl rfl;have ab:=xh (a:=.slice K rows[k].terms.length J) (b:=str rows[k].bound) (p:=Zp) (zH _ _ _) (yF _)
      have aa:∀ u∈(Value.agg #[.slice none 0 0,.string ⟨#[]⟩]).cells,Zp u:=by
       intro u hu;simp [Value.cells] at hu;rcases hu with rfl | rfl
       . exact zH _ _ _
       . exact yF _
      obtain ⟨i1,aw,ao,ax,av⟩:=info_parts Vn;have ac:=Z3 (w:=w3) (t:=36) (a:=.slice K rows[k].terms.length J) (b:=str rows[k].bound);have y:=zf w3 (.cells #[.slice K rows[k].terms.length J,str rows[k].bound] 36);have N:=ze (m.o.ext_ y);have ak:=ze (zi.below U.o y);obtain ⟨H,ai,hH⟩:=N.o.d;have ag:=Yx (fun r=>decide (yd r.terms s<0)) (rows.take k);rw [List.length_take] at ag;clear y;go_wp2_with (at_builtin;go_must (refine zS (P:=prog) rfl (.tmp 37) (.tmp 39) _ rfl w.heap.size 36 i1 _ 2 40 underlying22 aw ao ax av rfl (by omega) _ _ _ rfl ai ⟨w3.heap.size,0,none⟩ 1 1 [.slice K rows[k].terms.length J,str rows[k].bound] rfl rfl (by omega) ac Z ab aa ?o4 ?o5 ?o6 ?_))
      case o4=>unfold maxLen;unfold dnQ;omega
      case o5=>unfold dnQ;omega
      case o6=>exact N.o.below.size
      intro v3 w6 ae X V;have L:=ze ((N.o.swapD.push hH ae X (by rw [World.size_alloc];exact V) (.inl ak.o)).swapD);rw [<- M.o.1, <- M.o.2.1, <- M.o.2.2] at L;clear ae X V ai hH m N ak ac Z ab aa ag r0 r1 af U M;go_wp2;go_roundw
      case rel=>exact ⟨k+1,_,_,_,by omega,by go_num,rfl,rfl,rfl,L⟩
      case measure=>simp [intOf];omega
    . have hs:Y7 x 0=0:=by rw [Q];rfl
      rw [hs];have M:=ze (ay.o.1 Q);clear hs Q ay;have bD:=zkq K _ J w.heap.size rows[k] w3 U.o m.o.below.size;have bh:=ze bD;clear bD;go_wp2_with fail;refine bh.o.mono ?_;rintro e O ⟨Ay,cy,rfl,aJ,bL,aK⟩;replace m:=ze (m.o.ext_ bL);have an:=ze aJ;have aj:=ze aK;clear bL aJ aK bh r0 r1 af U;have Z:=xh (a:=.slice Ay rows[k].terms.length cy) (b:=str rows[k].bound) (p:=fun u=>u.oneCell' =true) rfl rfl;have ab:=xh (a:=.slice Ay rows[k].terms.length cy) (b:=str rows[k].bound) (p:=Zp) (zH _ _ _) (yF _)
      have aa:∀ u∈(Value.agg #[.slice none 0 0,.string ⟨#[]⟩]).cells,Zp u:=by
       intro u hu;simp [Value.cells] at hu;rcases hu with rfl | rfl
       . exact zH _ _ _
       . exact yF _
      obtain ⟨i1,aw,ao,ax,av⟩:=info_parts Vn;have ac:=Z3 (w:=O) (t:=36) (a:=.slice Ay rows[k].terms.length cy) (b:=str rows[k].bound);have y:=zf O (.cells #[.slice Ay rows[k].terms.length cy,str rows[k].bound] 36);have N:=ze (m.o.ext_ y);have ak:Hid (zjp _ w.heap.size _ _):=ze (.inr ⟨(zi.below an.o y).more y.size,aj.o.below y⟩);obtain ⟨H,ai,hH⟩:=N.o.o;have ag:=Yx (fun r=>decide (yd r.terms s=0)) (rows.take k);rw [List.length_take] at ag;clear y;go_wp2_with (at_builtin;go_must (refine zS (P:=prog) rfl (.tmp 43) (.tmp 46) _ rfl w.heap.size 36 i1 _ 2 40 underlying22 aw ao ax av rfl (by omega) _ _ _ rfl ai ⟨O.heap.size,0,none⟩ 1 1 [.slice Ay rows[k].terms.length cy,str rows[k].bound] rfl rfl (by omega) ac Z ab aa ?o4 ?o5 ?o6 ?_))
      case o4=>unfold maxLen;unfold XE;omega
      case o5=>unfold XE;omega
      case o6=>exact N.o.below.size
      intro v3 w6 ae X V;have L:=ze (N.o.push hH ae X (by rw [World.size_alloc];exact V) ak.o);rw [<- M.o.1, <- M.o.2.1, <- M.o.2.2] at L;clear ae X V ai hH m N ak ac Z ab aa ag M an aj;go_wp2;go_roundw
      case rel=>exact ⟨k+1,_,_,_,by omega,by go_num,rfl,rfl,rfl,L⟩
      case measure=>simp [intOf];omega
    . have hs:Y7 x 0=1:=by unfold Y7;rw [if_neg (Rat.not_lt.2 (Rat.le_of_lt Q)),if_pos Q]
      rw [hs];have M:=ze (ay.o.2.1 Q);clear hs Q ay;have Z:=xh (a:=.slice K rows[k].terms.length J) (b:=str rows[k].bound) (p:=fun u=>u.oneCell' =true) rfl rfl;have ab:=xh (a:=.slice K rows[k].terms.length J) (b:=str rows[k].bound) (p:=Zp) (zH _ _ _) (yF _)
      have aa:∀ u∈(Value.agg #[.slice none 0 0,.string ⟨#[]⟩]).cells,Zp u:=by
       intro u hu;simp [Value.cells] at hu;rcases hu with rfl | rfl
       . exact zH _ _ _
       . exact yF _
      obtain ⟨i1,aw,ao,ax,av⟩:=info_parts Vn;have ac:=Z3 (w:=w3) (t:=36) (a:=.slice K rows[k].terms.length J) (b:=str rows[k].bound);have y:=zf w3 (.cells #[.slice K rows[k].terms.length J,str rows[k].bound] 36);have N:=ze (m.o.ext_ y);have ak:=ze (zi.below U.o y);obtain ⟨H,ai,hH⟩:=N.o.u;have ag:=Yx (fun r=>decide (0<yd r.terms s)) (rows.take k);rw [List.length_take] at ag;clear y;go_wp2_with (at_builtin;go_must (refine zS (P:=prog) rfl (.tmp 50) (.tmp 52) _ rfl w.heap.size 36 i1 _ 2 40 underlying22 aw ao ax av rfl (by omega) _ _ _ rfl ai ⟨w3.heap.size,0,none⟩ 1 1 [.slice K rows[k].terms.length J,str rows[k].bound] rfl rfl (by omega) ac Z ab aa ?o4 ?o5 ?o6 ?_))
      case o4=>unfold maxLen;unfold upQ;omega
      case o5=>unfold upQ;omega
      case o6=>exact N.o.below.size
      intro v3 w6 ae X V;have L:=ze ((N.o.swapU.push hH ae X (by rw [World.size_alloc];exact V) (.inl ak.o)).swapU);rw [<- M.o.1, <- M.o.2.1, <- M.o.2.2] at L;clear ae X V ai hH m N ak ac Z ab aa ag r0 r1 af U M;go_wp2;go_roundw
      case rel=>exact ⟨k+1,_,_,_,by omega,by go_num,rfl,rfl,rfl,L⟩
      case measure=>simp [intOf];omega
  obtain rfl:rows.length=k:=by omega
  rw [List.take_length] at m;obtain ⟨Ao,co,rfl⟩:=m.o.o.form;obtain ⟨Au,cu,rfl⟩:=m.o.u.form;obtain ⟨Ad,cd,rfl⟩:=m.o.d.form;have h8:=am.o.few;obtain ⟨lo,aC⟩:=uQ ((XE s rows).length);obtain ⟨C,aG⟩:=uQ ((upQ s rows).length);obtain ⟨E,aB⟩:=uQ ((dnQ s rows).length);have b8:lo<=800:=by rw [aC];exact uC (Yx _ _) h8
  have b3:C<=800:=by rw [aG];exact uC (Yx _ _) h8
  have bU:E<=800:=by rw [aB];exact uC (Yx _ _) h8
  have bM:C*E<=800*800:=Nat.mul_le_mul b3 bU;obtain ⟨lm,aE⟩:=uQ (C*E);have a2:(C:Int)*(E:Int)=(lm:Int):=by rw [aE,Int.natCast_mul]
  rw [<- aE] at bM
  have I:Hid (Zj rows s=if C+E=0 then 7 else if 800<lo+lm then 3 else if (Y6 (upQ s rows) (dnQ s rows)).all (fun p=>YI p.1 p.2 s)=true then 0 else 3):=ze (by
   unfold Zj
   rw [if_neg (fun h=>h HE.o), <- aC, <- aG, <- aB, <- aE])
  rw [<- aC, <- aG, <- aB] at m |-;obtain ⟨bo,ah,au,bH⟩:=hz4 aC aG aB aE;clear aC aG aB aE;have bP :IntKind.i64.wrap ((C:Int)+(E:Int))=((C+E:Nat):Int):=by rw [IntKind.wrap_i64];omega
  have bz :IntKind.i64.wrap ((C:Int)*(E:Int))=(lm:Int):=by rw [a2,IntKind.wrap_i64];omega
  have ba :IntKind.i64.wrap ((lo:Int)+(lm:Int))=((lo+lm:Nat):Int):=by rw [IntKind.wrap_i64];omega
  by_cases h0:C+E=0
  . have bE:((C+E:Nat):Int)=0:=by omega
    rw [if_pos h0] at I;clear h0 bz ba a2;go_wp2;go_ret2;refine ⟨.slice none 0 0,by rw [I.o];rfl,fun h=>?_,fun _=>rfl,m.o.below⟩;rw [I.o] at h
    cases h
  have bE:¬ ((C+E:Nat):Int)=0:=by omega
  rw [if_neg h0] at I;clear h0
  by_cases G:800<lo+lm
  . have bI:((lo+lm:Nat):Int)>800:=by omega
    rw [if_pos G] at I;clear G;go_wp2;go_ret2;refine ⟨.slice none 0 0,by rw [I.o];rfl,fun h=>?_,fun _=>rfl,m.o.below⟩;rw [I.o] at h
    cases h
  have bI:¬ ((lo+lm:Nat):Int)>800:=by omega
  rw [if_neg G] at I;have H8:=ze (show lo+lm<=800 by omega);clear G
  have bs:Hid (ElK w wr b (.slice A rows.length c) (.slice Ao lo co) (.slice Au C cu) (.slice Ad E cd) rows (zix s rows 0 0) (upQ s rows) (dnQ s rows)):=ze (by
   unfold zix;rw [ziy,List.map_nil,List.append_nil]
   exact m.o)
  have bB:Hid (zlb s rows 0 0):=ze (fun p hp=>by rw [ziy] at hp;cases hp);clear m;go_wp2_with fail;clear bP bz ba bE bI bM a2
  go_loopw [74,8] (ElP w b (.slice A rows.length c) rows s (.slice Au C cu) (.slice Ad E cd)) (fun iv _ _=>C - (intOf iv).toNat)
  case atStart=>exact ⟨0,_,uB,rfl,rfl,bs,bB⟩
  case round=>
   clear bs bB;obtain ⟨k,vo,hk,rfl,rfl,m,HG⟩:=hrel;rw [<- ah.o] at hk
   by_cases aH:k<C
   rotate_left
   . obtain rfl:C=k:=by omega
     have bp:(Y6 (upQ s rows) (dnQ s rows)).all (fun p=>YI p.1 p.2 s)=true:=List.all_eq_true.2 (fun x y=>HG.o x (by rw [ah.o,znb];exact y));rw [if_pos bp] at I
     have aZ:zix s rows C 0=yi rows s:=by
      unfold zix yi;rw [ah.o,znb]
     rw [aZ] at m;obtain ⟨Az,cz,rfl⟩:=m.o.o.form
     have be:(yi rows s).length<=800:=by
      have G:=zc8 (us:=upQ s rows) (ds:=dnQ s rows) (k:=C) (j:=0) (.inr rfl) (uB) (by rw [ah.o];exact uA);rw [<- ah.o, <- au.o, <- bH.o] at G;have h2:=H8.o;have h3:=bo.o;rw [<- aZ];unfold zix;rw [List.length_append,List.length_map]
      omega
     have bj:=ze be;clear bp aZ be HG;go_wp2;go_ret2;refine ⟨.slice Az (yi rows s).length cz,by rw [I.o];rfl,fun _=>⟨m.o.o.rows m.o.below.size (by have:=bj.o;omega) (fun r hr=>?_),_,_,rfl⟩,fun h=>absurd I.o h,m.o.below⟩;unfold yi at hr
     rcases List.mem_append.1 hr with h | h
     . exact am.o.bnd r (List.mem_filter.1 h).1
     . obtain ⟨x,y,rfl⟩:=List.mem_map.1 h
       obtain ⟨p,hp,hq⟩:=List.mem_flatMap.1 y;obtain ⟨q',b2,rfl⟩:=List.mem_map.1 hq;exact (am.o.met p hp q' b2).outb.2
   have bR:(k:Int)<(C:Int):=by omega
   have bV:IntKind.i64.wrap ((k:Int)+1)=((k+1:Nat):Int):=by rw [IntKind.wrap_i64];omega
   have ar:k<(upQ s rows).length:=by rw [<- ah.o];exact aH
   obtain ⟨p,hp⟩:=uQ ((upQ s rows)[k]);obtain ⟨ap,Ap,cp,eA,aA,p0,p1,Y⟩:=m.o.u.at_ ar;rw [<- hp] at p0 p1 Y;subst eA;have a1:=ze hp;have y:=zf wr (.cells #[.slice Ap p.terms.length cp,str p.bound] 36);have B:=ze (Blk.new wr 36 #[.slice Ap p.terms.length cp,str p.bound])
   have al:Hid (∀ x,vo.ownBlock=some x->x≠wr.heap.size):=ze (fun x e h=>by
    obtain ⟨_,_,_,cs,q⟩:=m.o.o.own e;have:=(Array.getElem?_eq_some_iff.1 q).1
    omega)
   have F:=ze (Y.chg (S:=fun _=>False) (Chg.of_below y) (fun _ h=>h.elim) (fun _ _ h=>h.elim));replace m:=ze (m.o.ext_ y);clear y Y hp
   go_upto_region 23 with fail
   clear p0 p1 aA;generalize wr.alloc (.cells #[.slice Ap p.terms.length cp,str p.bound] 36)=W2 at B F m |-;generalize wr.heap.size=gp at B al |-;go_wp2
   go_loopw [80,8] (ElQ w b (.slice A rows.length c) rows s (.slice (some ap) C cu) (.slice Ad E cd) k gp (.slice Ap p.terms.length cp) p) (fun jv _ _=>E - (intOf jv).toNat)
   case atStart=>exact ⟨0,_,uB,rfl,rfl,m,HG,B,al,F⟩
   case round=>
    clear m HG B al F;obtain ⟨j,vo,hj,rfl,rfl,m,HG,B,al,F⟩:=hrel;rw [<- au.o] at hj
    by_cases bO:j<E
    rotate_left
    . obtain rfl:E=j:=by omega
      have a3:=zpl (us:=upQ s rows) (ds:=dnQ s rows) ar
      have aO:Hid (ElK w wr b (.slice A rows.length c) vo (.slice (some ap) C cu) (.slice Ad E cd) rows (zix s rows (k+1) 0) (upQ s rows) (dnQ s rows)):=ze (by
       have G:=m.o;unfold zix at G |-;rw [<- a3, <- au.o]
       exact G)
      have aU:Hid (zlb s rows (k+1) 0):=ze (by
       have G:=HG.o;unfold zlb at G |-;rw [<- a3, <- au.o]
       exact G)
      clear a3 m HG B al F;go_wp2;go_roundw
      case rel=>exact ⟨k+1,_,by rw [<- ah.o];omega,by go_num,rfl,aO,aU⟩
      case measure=>simp [intOf];omega
    have ca:(j:Int)<(E:Int):=by omega
    have cc:IntKind.i64.wrap ((j:Int)+1)=((j+1:Nat):Int):=by rw [IntKind.wrap_i64];omega
    have aD:j<(dnQ s rows).length:=by rw [<- au.o];exact bO
    obtain ⟨q,hq⟩:=uQ ((dnQ s rows)[j]);obtain ⟨aq,Aq,cq,eA,aA,p0,p1,Y⟩:=m.o.d.at_ aD;rw [<- hq] at p0 p1 Y;subst eA;have a5:=ze hq;have y:=zf wr (.cells #[.slice Aq q.terms.length cq,str q.bound] 36);have aN:=ze (Blk.new wr 36 #[.slice Aq q.terms.length cq,str q.bound]);have aV:=ze (Y.chg (S:=fun _=>False) (Chg.of_below y) (fun _ h=>h.elim) (fun _ _ h=>h.elim));replace F:=ze (F.o.chg (S:=fun _=>False) (Chg.of_below y) (fun _ h=>h.elim) (fun _ _ h=>h.elim));replace B:=kb_ B y;replace m:=ze (m.o.ext_ y);clear y Y hq
    go_upto_region 26 with fail
    clear p0 p1 aA;generalize wr.alloc (.cells #[.slice Aq q.terms.length cq,str q.bound] 36)=W3 at B aN F aV m |-;generalize wr.heap.size=gq at aN |-;obtain ⟨r0,r1,_⟩:=bq2 B;obtain ⟨q0,q1,_⟩:=bq2 aN;have aI:p∈upQ s rows:=by rw [a1.o];exact uO ar
    have aM:q∈dnQ s rows:=by rw [a5.o];exact uO aD
    have bx:Calls prog 21 #[.map (some b),.agg #[.slice Ap p.terms.length cp,str p.bound],.agg #[.slice Aq q.terms.length cq,str q.bound],str s] W3 (zqs W3 b (X4 p q s) (zrr p q s)):=zpr b Ap Aq cp cq p q s W3 m.o.book (F.o.is m.o.below.size) (aV.o.is m.o.below.size) (am.o.met p aI q aM);have bJ:=ze bx;have a8:=ze (am.o.keys p aI q aM);have b9:=ze (am.o.met p aI q aM);clear bx aI aM;go_wp2_with fail;refine bJ.o.mono ?_;rintro e O ⟨l,rv,hl,rfl,bb,⟨T,nr,R,sr,rfl⟩,bl,aP⟩;obtain rfl:=a8.o l hl;have a7:∀ x,x=b->VU W3 x:=fun x e=>by subst e;exact m.o.book.noTerm
    have bi:∀ x,x<w.heap.size->x=b->Zn W3 x:=fun x _ e=>by subst e;exact m.o.book.noCells
    replace F:=ze (F.o.chg aP a7 bi);replace B:=ze (m.o.book.keepBlk aP B.o);replace m:=ze (m.o.turn aP bl);have bN:=ze bb;clear bl aP a7 bi hl bJ a8 bb aN aV r0 r1 q0 q1;have y:=zf O (.cells #[.slice T nr R,.string sr] 36);have aF:=ze (Blk.new O 36 #[.slice T nr R,.string sr]);have bj:=ze (show gp<O.heap.size from B.o.lt);replace F:=ze (F.o.chg (S:=fun _=>False) (Chg.of_below y) (fun _ h=>h.elim) (fun _ _ h=>h.elim));replace B:=kb_ B y;replace m:=ze (m.o.ext_ y);have az:=ze y;clear y
    go_upto_region 27 with fail
    obtain ⟨ok,aL⟩:=uQ (Zz (zbd p q s) (X4 p q s) (zrr p q s));rw [<- aL];have bw:=ze (show YI p q s=ok from aL.symm);have bq:Hid (ok=true->∃ A c,(Value.agg #[.slice T nr R,.string sr])= .agg #[.slice A (yu (zbd p q s) (X4 p q s)).length c,str (zu (zrr p q s))]/\zi O O.heap.size (.slice A (yu (zbd p q s) (X4 p q s)).length c) (yu (zbd p q s) (X4 p q s))/\TyT O (.slice A (yu (zbd p q s) (X4 p q s)).length c)):=ze (by rw [aL];exact bN.o);clear aL bN
    rcases ok with _ | _
    . have a6:¬ (Y6 (upQ s rows) (dnQ s rows)).all (fun p=>YI p.1 p.2 s)=true:=fun h=>by
       have G:=List.all_eq_true.1 h _ (zsl aD ar);rw [<- a1.o, <- a5.o] at G;rw [bw.o] at G
       cases G
      rw [if_neg a6] at I;clear a6;go_wp2;go_ret2;refine ⟨.slice none 0 0,by rw [I.o];rfl,fun h=>?_,fun _=>rfl,m.o.below⟩;rw [I.o] at h
      cases h
    . obtain ⟨Ay,cy,ey,aJ,aK⟩:=bq.o rfl
      have an:=ze ((zi.below aJ az.o).more az.o.size);have aj:=ze (aK.below az.o);injection ey with ey
      have b7:Value.slice T nr R= .slice Ay (yu (zbd p q s) (X4 p q s)).length cy:=by
       have:=congrArg (fun a:Array Value=>a[0]?) ey
       simpa using this
      have bX:Value.string sr=str (zu (zrr p q s)):=by
       have:=congrArg (fun a:Array Value=>a[1]?) ey
       simpa using this
      injection b7 with ea eb ec
      subst ea;subst eb;subst ec;injection bX with ed
      subst ed;clear ey bq;obtain ⟨D,aT⟩:=uQ (Z2 p q s);have bC:yu (zbd p q s) (X4 p q s)=D.terms:=by rw [aT];rfl
      have bF:zu (zrr p q s)=D.bound:=by rw [aT];rfl
      rw [bC] at aF m F B az an aj |-;rw [bF] at aF m F B az an aj |-;have bY:=ze aT;clear bC bF aT;have bW:=ze (show O.heap.size<(O.alloc (.cells #[.slice T D.terms.length R,str D.bound] 36)).heap.size by simp);generalize O.alloc (.cells #[.slice T D.terms.length R,str D.bound] 36)=W5 at aF m F B az an aj bW |-;obtain ⟨z0,z1,_⟩:=bq2 aF;have Z:=xh (a:=.slice T D.terms.length R) (b:=str D.bound) (p:=fun u=>u.oneCell' =true) rfl rfl;have ab:=xh (a:=.slice T D.terms.length R) (b:=str D.bound) (p:=Zp) (zH _ _ _) (yF _)
      have aa:∀ u∈(Value.agg #[.slice none 0 0,.string ⟨#[]⟩]).cells,Zp u:=by
       intro u hu;simp [Value.cells] at hu;rcases hu with rfl | rfl
       . exact zH _ _ _
       . exact yF _
      obtain ⟨i1,aw,ao,ax,av⟩:=info_parts Vn;have ac:=Z3 (w:=W5) (t:=36) (a:=.slice T D.terms.length R) (b:=str D.bound);have y:=zf W5 (.cells #[.slice T D.terms.length R,str D.bound] 36);have L:=ze (m.o.ext_ y);have bu:=ze (F.o.chg (S:=fun _=>False) (Chg.of_below y) (fun _ h=>h.elim) (fun _ _ h=>h.elim));have bc:=ze (B.o.below y B.o.lt);have bK:Hid (zjp _ w.heap.size _ D.terms):=ze (.inr ⟨(zi.below an.o y).more y.size,aj.o.below y⟩);have bZ:Hid (gp<W5.heap.size):=B.o.lt;obtain ⟨H,br,hH⟩:=L.o.o
      have ag:(zix s rows k j).length<=800:=by
       have G:=zc8 (us:=upQ s rows) (ds:=dnQ s rows) (k:=k) (j:=j) (.inl ar) (Nat.le_of_lt aD) (Nat.le_of_lt ar);rw [<- ah.o, <- au.o, <- bH.o] at G;have h2:=H8.o;have h3:=bo.o;unfold zix;rw [List.length_append,List.length_map]
       omega
      clear y;go_wp2_with (at_builtin;go_must (refine zS (P:=prog) rfl (.tmp 94) (.tmp 96) _ rfl w.heap.size 36 i1 _ 2 40 underlying22 aw ao ax av rfl (by omega) _ _ _ rfl br ⟨W5.heap.size,0,none⟩ 1 1 [.slice T D.terms.length R,str D.bound] rfl rfl (by omega) ac Z ab aa ?o4 ?o5 ?o6 ?_))
      case o4=>unfold maxLen;omega
      case o5=>omega
      case o6=>exact L.o.below.size
      intro v3 w6 ae X V;have bk:v3.ownBlock=vo.ownBlock\/v3.ownBlock=some (W5.alloc (.cells #[.slice T D.terms.length R,str D.bound] 36)).heap.size:=by rw [World.size_alloc];exact V
      have aO:=ze (L.o.push hH ae X bk bK.o);have aW:=xN X;have bQ:=ze (aW.blk bc.o (fun e=>al.o _ e rfl));have b6:=ze (bu.o.chg aW (fun x e=>(L.o.o.own e).2.1) (fun x y e=>by have:=(L.o.o.own e).1;omega))
      have bT:Hid (∀ x,v3.ownBlock=some x->x≠gp):=ze (fun x e h=>by
       rcases V with e3 | e3
       . exact al.o x (e3.symm.trans e) h
       . rw [e3] at e
         injection e with e
         have:=bZ.o
         omega)
      have aR:=zpu (us:=upQ s rows) (ds:=dnQ s rows) aD ar;rw [<- a1.o, <- a5.o] at aR
      have bf:zix s rows k j ++ [D]=zix s rows k (j+1):=by
       unfold zix;rw [aR,List.map_append,List.append_assoc,bY.o]
       rfl
      rw [bf] at aO
      have aU:Hid (zlb s rows k (j+1)):=ze (fun x y=>by
       rw [aR] at y
       rcases List.mem_append.1 y with h | h
       . exact HG.o x h
       . simp at h
         subst h
         exact bw.o)
      clear ae X V bk aW aR bf br hH L m B bc F bu bK an aj aF z0 z1 ac Z ab aa ag al HG;go_wp2;go_roundw
      case rel=>exact ⟨j+1,_,by rw [<- au.o];omega,by go_num,rfl,aO,aU,bQ,bT,b6⟩
      case measure=>simp [intOf];omega
section
variable {w0 w w' :World} {rv vo:Value} {rows Lo:List zF}
end
def zcs (p q:zF) (s:List UInt8):List (List UInt8):=vF (zi6 [p,q] (yS p q s) 2)
def za3 (p q:zF) (s:List UInt8):zF:={ terms:=za5 [p,q] (yS p q s) (zcs p q s),bound:=zu (Vq [p,q] (yS p q s) 2) }
theorem zli (us ds:List zF):(Y6 us ds).length=us.length*ds.length:=by
 unfold Y6
 rw [List.length_flatMap]
 have:(us.map fun p=>(ds.map fun q=>(p,q)).length)=List.replicate us.length ds.length:=by
  rw [List.eq_replicate_iff]
  refine ⟨by rw [List.length_map],fun b hb=>?_⟩
  obtain ⟨x,_,rfl⟩:=List.mem_map.1 hb
  simp
 rw [this,List.sum_replicate_nat]
end Go.Proofs.YtofmkndhocinmaaGreatDoor
