/- Parts of the proof. -/
import Derived.Test.YthbmhkiphmcogaaGreatDoorMe24
import Derived.Test.YthbmhkiphmcogaaGreatDoorMe28
set_option linter.all false
set_option maxRecDepth 100000
set_option maxHeartbeats 32000000
namespace Go.Proofs.YthbmhkiphmcogaaGreatDoor
open Proofs.Tryz Go.RowKit Go.Deep
attribute [local go_sem ↓] Go.wp_at_zero Go.wp_at_succ
structure zw8 (P:Program) (o:Oper) (a:Act) (w:World) (K:Act->World->Prop) (Q:Exit->Act->World->Prop):Prop where
 out:Oper.wp P o a w K Q
theorem xh.mk {P:Program} {md:Region.Mode} {l:List Oper} {Q:Exit->Act->World->Prop} {S:World->Prop} {St:World->World->Prop} {R:Nat->Value->World->Prop} {al:List Nat} {rs:List (Nat×Nat)} {a:Act} {p:Nat×Nat} {o:Oper}
 (h:∀ (us:Nat->Value) (w:World),S w->(∀ j,((rs.any fun q=>q.1 == j) && zyb md o j)=true->R j (us j) w)->∀ K' :Act->World->Prop,
   (∀ a' w',(∃ v,a' =(ZP rs us a).put (some p.2) v/\S w' /\St w w' /\R p.1 v w' /\(al.contains p.1=true->w.heap.size<=zbp v))->K' a' w')->zw8 P o (ZP rs us a) w K' Q)
 (ho:l.toArray[p.1]?=some o:=by rfl):xh P md l Q S St R al rs a p:=fun o' ho' =>by
 rw [ho] at ho'
 injection ho' with e
 subst e
 exact fun us w hS hd K hK=>(h us w hS hd K hK).out
theorem zlz {α:Type} {f:α->Prop}:∀ x∈([]:List α),f x:=fun _ h=>by cases h
theorem yM {α:Type} {f:α->Prop} {a:α} {l:List α} (h:f a) (t:∀ x∈l,f x):∀ x∈a :: l,f x:=fun x b=>by
 rcases List.mem_cons.1 b with rfl | b
 . exact h
 . exact t x b
def XX (w:World) (B:Nat) (t:TypeId) (cs:Array Value) (v:Value):Prop:=∃ g,v= .pointer (some ⟨g,0,none⟩)/\Blk w g t cs/\B<=g
def xi (p q:zQ) (s:List UInt8):Nat->Rat:=fun i=>if i=0 then 1 / xU p.terms s else 1 / -(xU q.terms s)
structure zu7 (p q:zQ) (s:List UInt8):Prop where
 cp:Vd p.terms
 cq:Vd q.terms
 x0:xU p.terms s≠0
 y0: -(xU q.terms s)≠0
 xl:Z9 8388608 (xU p.terms s)
 yl:Z9 8388608 (-(xU q.terms s))
 ol:Z9 8388608 1
 sums:zv9 [p,q] (xi p q s)
 sp:zN p.bound
 sq:zN q.bound
 keys:∃ ns:List (List UInt8),(∀ x,(nzF (VV [p,q] (xi p q s) 2) x).isSome=true->x∈ns)/\ns.length<=100000/\∀ x∈ns,zN x
 outs:∀ x r,nzF (VV [p,q] (xi p q s) 2) x=some r->Z9 67108864 r/\zN (zw r)
 outb:Z9 67108864 (Xh [p,q] (xi p q s) 2)/\zN (zw (Xh [p,q] (xi p q s) 2))
def yB (l:List (List UInt8)) (F:List UInt8->Option Rat):List zR:=l.map fun s=>{ name:=s,coef:=zw ((F s).getD 0) }
def Ye (l:List (List UInt8)) (F:List UInt8->Option Rat) (Q:Rat):Bool:=decide (∀ s∈l,yo 12 ((F s).getD 0)) && decide (yo 12 Q)
def zth (w:World) (b:Nat) (F:List UInt8->Option Rat) (Q:Rat) (e:Ending) (w' :World):Prop:=
 ∃ l rv,zk5 l F/\e= .returned (.tuple #[rv,.bool (Ye l F Q)])/\(Ye l F Q=true->∃ A c,rv= .agg #[.slice A (yB l F).length c,str (zw Q)]/\zk w' w'.heap.size (.slice A (yB l F).length c) (yB l F)/\TyT w' (.slice A (yB l F).length c))/\(∃ A n c s,rv= .agg #[.slice A n c,.string s])/\zB w' b/\Chg (· =b) w w'
structure zlr (w0 w:World) (b gS gm gO Bn:Nat) (F:List UInt8->Option Rat) (Q:Rat):Prop where
 book:zB w b
 map:Yi w gm F
 box:xp w gS gm Q
 res:Blk w (w0.heap.size+1+1) 33 #[.slice none 0 0,.string ⟨#[]⟩]
 chg:Chg (· =b) w0 w
 lb:b<Bn
 lm:gm<Bn
 ls:gS<Bn
 lr:w0.heap.size+1+1<Bn
 lo:gO<Bn
 ne:gO≠w0.heap.size+1+1
 l0:w0.heap.size<=gO
 l1:w0.heap.size<=Bn
 bn:Bn<=w.heap.size
theorem zlr.chg_ {S:Nat->Prop} {w0 w w' :World} {b gS gm gO Bn:Nat} {F:List UInt8->Option Rat} {Q:Rat} (h:zlr w0 w b gS gm gO Bn F Q) (hc:Chg S w w') (hS:∀ x,S x->zZ w x) (hb:¬ S b) (hm:¬ S gm) (hs:¬ S gS) (hr:¬ S (w0.heap.size+1+1)) (h0:∀ x,S x->w0.heap.size<=x):zlr w0 w' b gS gm gO Bn F Q:=
 ⟨h.book.chg hc hb hS,h.map.chg hc hm hS,h.box.chg hc hs hS,hc.blk h.res hr,h.chg.trans hc (fun x hx e=>by have:=h0 x e;omega),h.lb,h.lm,h.ls,h.lr,h.lo,h.ne,h.l0,h.l1,Nat.le_trans h.bn hc.size⟩
theorem zlr.below {w0 w w' :World} {b gS gm gO Bn:Nat} {F:List UInt8->Option Rat} {Q:Rat} (h:zlr w0 w b gS gm gO Bn F Q) (hb:Below w.heap.size w w'):zlr w0 w' b gS gm gO Bn F Q:=h.chg_ (S:=fun _=>False) (Chg.of_below hb) (fun _ h=>h.elim) (fun h=>h) (fun h=>h) (fun h=>h) (fun h=>h) (fun _ h=>h.elim)
theorem zlr.own {w0 w w' :World} {b gS gm gO Bn:Nat} {F:List UInt8->Option Rat} {Q:Rat} {tv:Value} {k:Nat} {xs:List Value} (h:zlr w0 w b gS gm gO Bn F Q) (ho:Zm w Bn 35 2 tv k xs) (hc:Chg (fun x=>tv.ownBlock=some x) w w'):zlr w0 w' b gS gm gO Bn F Q:=by
 have j:∀ x,tv.ownBlock=some x->Bn<=x:=fun x e=>(ho.1.lt x e).1
 exact h.chg_ hc (fun x e=>ho.2 x e) (fun e=>by have:=j _ e;have:=h.lb;omega) (fun e=>by have:=j _ e;have:=h.lm;omega) (fun e=>by have:=j _ e;have:=h.ls;omega) (fun e=>by have:=j _ e;have:=h.lr;omega) (fun x e=>by have:=j _ e;have:=h.l1;omega)
theorem zg3 {w:World} {g:Nat} {tv:Value} {s:ByteArray} (h:Blk w g 33 #[tv,.string s]) (hv:Z0 tv):zZ w g:=by
 refine h.noDig (Zq ?_)
 intro u hu
 simp at hu
 rcases hu with rfl | rfl
 . exact hv
 . exact yq _
theorem zlr.out_ {w0 w w' :World} {b gS gm gO Bn:Nat} {F:List UInt8->Option Rat} {Q:Rat} {tv:Value} {s:ByteArray} (h:zlr w0 w b gS gm gO Bn F Q) (hk:Blk w gO 33 #[tv,.string s]) (hv:Z0 tv) (hc:Chg (· =gO) w w'):zlr w0 w' b gS gm gO Bn F Q:=by
 obtain ⟨cs,j⟩:=h.box.blk
 exact h.chg_ hc (fun x e=>by subst e;exact zg3 hk hv) (h.book.neB hk) (h.map.ne hk) (yX j hk (by decide)) (fun e=>h.ne e.symm) (fun x e=>by subst e;exact h.l0)
theorem zF.chg2 {S:Nat->Prop} {w w' :World} {B n c:Nat} {A:Option Addr} {l:List (List UInt8)} (h:zF w B (.slice A n c) l) (hc:Chg S w w') (hS:∀ b,A=some b->¬ S b.block):zF w' B (.slice A n c) l:=by
 obtain ⟨A',c',D,C,y,E,m,z⟩:=h
 injection D with e1 e2 e3
 subst e1
 refine ⟨A,c',by rw [e2,e3],C,y,E,⟨m.1,fun h0=>?_⟩,z⟩
 obtain ⟨b,e,hb,r⟩:=m.2 h0
 exact ⟨b,e,hb,fun j u hu=>hc.cell (r j u hu) (by rw [zz];exact hS b e)⟩
def MtR (w0:World) (b gS gm gO Bn:Nat) (F:List UInt8->Option Rat) (Q:Rat) (nv:Value) (l:List (List UInt8)) (kv:Value) (wr:World):Prop:=
 ∃ (k:Nat) (tv:Value),k<=l.length/\kv= .int .i64 k/\Hid (zlr w0 wr b gS gm gO Bn F Q)/\Hid (Zm wr Bn 35 2 tv k (yP k (Zb (yB l F)) (Zg (yB l F))))/\Hid (Blk wr gO 33 #[tv,.string ⟨#[]⟩])/\Hid (zF wr Bn nv l)/\Hid (∀ i (h:i<l.length),i<k->yo 12 ((F l[i]).getD 0))
def zu1 (B:Nat) (x y:Rat):Nat->Value->World->Prop
 | 3,v,w=>yc w v x
 | 7,v,w=>yc w v y
 | 8,v,w=>yc w v (-y)
 | _,v,w=>XX w B 55 #[.int .i64 0,.slice none 0 0,.bool false,.int .i64 0,.slice none 0 0,.bool false] v
theorem XX.book {w w' :World} {b B:Nat} {t:TypeId} {cs:Array Value} {v:Value} (h:XX w B t cs v) (hB:zB w b) (hc:Chg (· =b) w w'):XX w' B t cs v:=by
 obtain ⟨g,e,j,l⟩:=h
 exact ⟨g,e,hB.keepBlk hc j,l⟩
theorem XX.lt {w:World} {B:Nat} {t:TypeId} {cs:Array Value} {v:Value} (h:XX w B t cs v):zbp v<w.heap.size:=by
 obtain ⟨g,rfl,b,e⟩:=h
 exact b.lt
theorem zu1.keep {b B:Nat} {x y:Rat} {i:Nat} {v:Value} {w w' :World} (hB:zB w b) (hc:Chg (· =b) w w') (h:zu1 B x y i v w):zu1 B x y i v w' :=by
 unfold zu1 at h |-
 split at h
 . exact hB.keepR hc h
 . exact hB.keepR hc h
 . exact hB.keepR hc h
 . exact h.book hB hc
theorem zu1.fresh {B:Nat} {x y:Rat} {i:Nat} {v:Value} {w:World} (hi:[9,10].contains i=true) (h:zu1 B x y i v w):zbp v<w.heap.size:=by
 have:i=9\/i=10:=by simpa using hi
 rcases this with rfl | rfl<;>exact XX.lt h
theorem zcg.made {w:World} {g:Nat} {q:Rat} {x0 y0:Int} {A0 B0:Option Addr} {k0 c0 k1 c1:Nat} {s0 t0:Bool} {x:Int} {A:Option Addr} {k c:Nat} {s:Bool} {y:Int} {B:Option Addr} {k' c' :Nat} {t:Bool} (hk:Blk w g 55 #[.int .i64 x0,.slice A0 k0 c0,.bool s0,.int .i64 y0,.slice B0 k1 c1,.bool t0]) (hv:yc w (.agg #[.int .i64 x,.slice A k c,.bool s,.int .i64 y,.slice B k' c',.bool t]) q):zcg (World.rat w g x A k c s y B k' c' t) g q:=
 ⟨_,_,_,_,_,_,_,_,_,_,yx hk,hv.stored hk⟩
theorem zcg.chg {S:Nat->Prop} {w w' :World} {g:Nat} {q:Rat} (h:zcg w g q) (hc:Chg S w w') (hg:¬ S g) (hS:∀ x,S x->zZ w x):zcg w' g q:=by
 obtain ⟨_,_,_,_,_,_,_,_,_,_,b,e⟩:=h
 exact ⟨_,_,_,_,_,_,_,_,_,_,hc.blk b hg,hc.rat e hS⟩
structure zis (w0 w:World) (b:Nat) (Ap Aq:Option Addr) (cp cq:Nat) (p q:zQ):Prop where
 book:zB w b
 k0:Blk w w0.heap.size 33 #[.slice Ap p.terms.length cp,str p.bound]
 k1:Blk w (w0.heap.size+1) 33 #[.slice Aq q.terms.length cq,str q.bound]
 k2:Blk w (w0.heap.size+1+1) 33 #[.slice none 0 0,.string ⟨#[]⟩]
 tp:zk w w0.heap.size (.slice Ap p.terms.length cp) p.terms
 tq:zk w w0.heap.size (.slice Aq q.terms.length cq) q.terms
 chg:Chg (· =b) w0 w
theorem zis.turn {w0 w w' :World} {b:Nat} {Ap Aq:Option Addr} {cp cq:Nat} {p q:zQ} (h:zis w0 w b Ap Aq cp cq p q) (hc:Chg (· =b) w w') (hB:zB w' b):zis w0 w' b Ap Aq cp cq p q:=
 ⟨hB,h.book.keepBlk hc h.k0,h.book.keepBlk hc h.k1,h.book.keepBlk hc h.k2,h.book.keepT hc h.tp,h.book.keepT hc h.tq,vm h.chg hc⟩
theorem zis.below {w0 w w' :World} {b:Nat} {Ap Aq:Option Addr} {cp cq:Nat} {p q:zQ} (h:zis w0 w b Ap Aq cp cq p q) (hb:Below w.heap.size w w'):zis w0 w' b Ap Aq cp cq p q:=h.turn (Chg.of_below hb) (h.book.below hb)
theorem zis.new {w0 w w' :World} {b g:Nat} {Ap Aq:Option Addr} {cp cq:Nat} {p q:zQ} {t:TypeId} {cs:Array Value} (h:zis w0 w b Ap Aq cp cq p q) (hk:Blk w g t cs) (ht:t≠33) (hd:Ze cs) (hg:w0.heap.size<=g) (hc:Chg (· =g) w w'):zis w0 w' b Ap Aq cp cq p q:=by
 have hS:∀ z,z=g->zZ w z:=fun z e=>by subst e;exact hk.noDig hd
 refine ⟨h.book.chg hc (h.book.neB hk) hS,hc.blk h.k0 (yX h.k0 hk ht.symm),hc.blk h.k1 (yX h.k1 hk ht.symm),hc.blk h.k2 (yX h.k2 hk ht.symm),h.tp.chg hc (fun x hx e=>?_),h.tq.chg hc (fun x hx e=>?_),h.chg.trans hc (fun x hx e=>?_)⟩
 all_goals omega
theorem zvz {w0 w:World} {b:Nat} {Ap Aq:Option Addr} {cp cq:Nat} {p q:zQ} (h:zis w0 w b Ap Aq cp cq p q):Hid (zis w0 w b Ap Aq cp cq p q)/\w.cell? ⟨w0.heap.size,0,none⟩=some (.slice Ap p.terms.length cp)/\w.cell? ⟨w0.heap.size,1,none⟩=some (str p.bound)/\w.cell? ⟨w0.heap.size+1,0,none⟩=some (.slice Aq q.terms.length cq)/\w.cell? ⟨w0.heap.size+1,1,none⟩=some (str q.bound):=
 ⟨h,by rw [h.k0.cell];rfl,by rw [h.k0.cell];rfl,by rw [h.k1.cell];rfl,by rw [h.k1.cell];rfl⟩
theorem zjv (w:World) (t:TypeId) (cs:Array Value) (n size:Nat) (h:cs.size=n*size):zV (w.alloc (.cells cs t)) (w.heap.size+1) size (some ⟨w.heap.size,0,none⟩) n cs.toList:=
 ⟨by simpa using h,fun _=>⟨_,rfl,Nat.lt_succ_self _,fun j u hu=>by
  have b:=Blk.new w t cs
  have e:(⟨w.heap.size,0,none⟩:Addr).add j=⟨w.heap.size,j,none⟩:=by
   unfold Addr.add
   by_cases h:j=0
   . subst h;simp
   rw [if_neg h];simp
  rw [e,b.cell]
  simpa using hu⟩⟩
theorem zku {w:World} {B:Nat} {Ap Aq:Option Addr} {cp cq:Nat} {p q:zQ} (hp:zk w B (.slice Ap p.terms.length cp) p.terms) (hq:zk w B (.slice Aq q.terms.length cq) q.terms) (hB:B<=w.heap.size) (sp:zN p.bound) (sq:zN q.bound):
 yN (w.alloc (.cells #[.slice Ap p.terms.length cp,str p.bound,.slice Aq q.terms.length cq,str q.bound] 33)) (.slice (some ⟨w.heap.size,0,none⟩) 2 2) [p,q]:=by
 have b:=zf w (.cells #[.slice Ap p.terms.length cp,str p.bound,.slice Aq q.terms.length cq,str q.bound] 33)
 have j :=(zk.below (hp.more hB) b).more b.size
 have l :=(zk.below (hq.more hB) b).more b.size
 have e:=zjv w 33 #[.slice Ap p.terms.length cp,str p.bound,.slice Aq q.terms.length cq,str q.bound] 2 2 rfl
 refine ⟨_,2,fun i=>if i=0 then .slice Ap p.terms.length cp else .slice Aq q.terms.length cq,rfl,Nat.le_refl _,by unfold maxLen;omega,by simp,?_,fun i hi=>?_,fun x b=>?_⟩
 . refine zV.more (B:=w.heap.size+1) ?_ (by simp)
   exact e
 . match i,hi with
   | 0,_=>exact j
   | 1,_=>exact l
   | n+2,h=>simp at h;omega
 . simp at b
   rcases b with rfl | rfl
   . exact sp
   . exact sq
theorem zvj {w:World} {x1 x2 y1 y2:Int} {A1 A2 B1 B2:Option Addr} {k1 c1 k1x c1x k2 c2 k2x c2x:Nat} {s1 t1 s2 t2:Bool} {f:Nat->Rat} (h1:yc w (.agg #[.int .i64 x1,.slice A1 k1 c1,.bool s1,.int .i64 y1,.slice B1 k1x c1x,.bool t1]) (f 0)) (h2:yc w (.agg #[.int .i64 x2,.slice A2 k2 c2,.bool s2,.int .i64 y2,.slice B2 k2x c2x,.bool t2]) (f 1)):
 zdo (w.alloc (.cells #[.int .i64 x1,.slice A1 k1 c1,.bool s1,.int .i64 y1,.slice B1 k1x c1x,.bool t1,.int .i64 x2,.slice A2 k2 c2,.bool s2,.int .i64 y2,.slice B2 k2x c2x,.bool t2] 55)) (.slice (some ⟨w.heap.size,0,none⟩) 2 2) 2 f:=by
 have e:=zf w (.cells #[.int .i64 x1,.slice A1 k1 c1,.bool s1,.int .i64 y1,.slice B1 k1x c1x,.bool t1,.int .i64 x2,.slice A2 k2 c2,.bool s2,.int .i64 y2,.slice B2 k2x c2x,.bool t2] 55)
 have b:=Blk.new w 55 #[.int .i64 x1,.slice A1 k1 c1,.bool s1,.int .i64 y1,.slice B1 k1x c1x,.bool t1,.int .i64 x2,.slice A2 k2 c2,.bool s2,.int .i64 y2,.slice B2 k2x c2x,.bool t2]
 refine ⟨_,_,rfl,fun _=>⟨w.heap.size,2,rfl,Nat.le_refl _,⟨_,b,rfl,?_⟩,fun k hk2=>?_⟩⟩
 . refine Zq ?_
   intro u hu;simp at hu
   rcases hu with rfl | rfl | rfl | rfl | rfl | rfl | rfl | rfl | rfl | rfl | rfl | rfl
   all_goals first | exact vi _ | exact zM _ _ _ | exact ZD _
 match k,hk2 with
 | 0,_=>exact ⟨x1,A1,k1,c1,s1,y1,B1,k1x,c1x,t1,by rw [b.cell];rfl,by rw [b.cell];rfl,by rw [b.cell];rfl,by rw [b.cell];rfl,by rw [b.cell];rfl,by rw [b.cell];rfl,h1.below e⟩
 | 1,_=>exact ⟨x2,A2,k2,c2,s2,y2,B2,k2x,c2x,t2,by rw [b.cell];rfl,by rw [b.cell];rfl,by rw [b.cell];rfl,by rw [b.cell];rfl,by rw [b.cell];rfl,by rw [b.cell];rfl,h2.below e⟩
 | n+2,h=>omega
def zxl (w:World) (b B:Nat) (F:List UInt8->Option Rat) (q:Rat) (v:Value):Prop:=
 ∃ (gm:Nat) (x:Int) (A:Option Addr) (k c:Nat) (s:Bool) (y:Int) (C:Option Addr) (k' c' :Nat) (t:Bool),v= .agg #[.map (some gm),.int .i64 x,.slice A k c,.bool s,.int .i64 y,.slice C k' c',.bool t]/\yc w (.agg #[.int .i64 x,.slice A k c,.bool s,.int .i64 y,.slice C k' c',.bool t]) q/\Yi w gm F/\gm≠b/\B<=gm
theorem zxl.turn {w w' :World} {b B:Nat} {F:List UInt8->Option Rat} {q:Rat} {v:Value} (h:zxl w b B F q v) (hB:zB w b) (hc:Chg (· =b) w w'):zxl w' b B F q v:=by
 obtain ⟨gm,x,A,k,c,s,y,C,k',c',t,e,l,r,j,m⟩:=h
 exact ⟨gm,x,A,k,c,s,y,C,k',c',t,e,hB.keepR hc l,r.book hB hc j,j,m⟩
def zw4 (b B:Nat) (p q:zQ) (x y:Rat) (ws:Nat->Rat) (F:List UInt8->Option Rat) (Q:Rat):Nat->Value->World->Prop
 | 3,v,w=>(∃ A c,v= .slice A 2 c)/\yN w v [p,q]
 | 4,v,w=>yc w v 1
 | 5,v,w=>yc w v x
 | 6,v,w=>yc w v (1 / x)
 | 7,v,w=>yc w v 1
 | 8,v,w=>yc w v y
 | 9,v,w=>yc w v (1 / y)
 | 10,v,w=>zdo w v 2 ws
 | 11,v,w=>zxl w b B F Q v
 | _,v,w=>XX w B 94 #[.map none,.int .i64 0,.slice none 0 0,.bool false,.int .i64 0,.slice none 0 0,.bool false] v
theorem zw4.keep {b B:Nat} {p q:zQ} {x y:Rat} {ws:Nat->Rat} {F:List UInt8->Option Rat} {Q:Rat} {i:Nat} {v:Value} {w w' :World} (hB:zB w b) (hc:Chg (· =b) w w') (h:zw4 b B p q x y ws F Q i v w):zw4 b B p q x y ws F Q i v w' :=by
 have hS:∀ z,z=b->zZ w z:=fun z e=>by subst e;exact hB.noDig
 unfold zw4 at h |-
 split at h
 . exact ⟨h.1,(hB.keepRows hc h.2).more hc.size⟩
 . exact hB.keepR hc h
 . exact hB.keepR hc h
 . exact hB.keepR hc h
 . exact hB.keepR hc h
 . exact hB.keepR hc h
 . exact hB.keepR hc h
 . exact h.chg hc (fun g cs hk e=>hB.neB hk e.symm) hS
 . exact h.turn hB hc
 . exact h.book hB hc
theorem zoy {w0 w:World} {b g9 g10:Nat} {x y:Rat} {Ap Aq:Option Addr} {cp cq:Nat} {p q:zQ} (h:zis w0 w b Ap Aq cp cq p q) (hx:zcg w g9 x) (hy:zcg w g10 y):Hid (zis w0 w b Ap Aq cp cq p q)/\w.cell? ⟨w0.heap.size,0,none⟩=some (.slice Ap p.terms.length cp)/\w.cell? ⟨w0.heap.size,1,none⟩=some (str p.bound)/\w.cell? ⟨w0.heap.size+1,0,none⟩=some (.slice Aq q.terms.length cq)/\w.cell? ⟨w0.heap.size+1,1,none⟩=some (str q.bound)/\Hid (zcg w g9 x)/\Hid (zcg w g10 y):=
 ⟨h,by rw [h.k0.cell];rfl,by rw [h.k0.cell];rfl,by rw [h.k1.cell];rfl,by rw [h.k1.cell];rfl,hx,hy⟩
theorem zr8 (b:Nat) (V Aq:Option Addr) (cp cq:Nat) (p q:zQ) (s:List UInt8) (w:World) (hB:zB w b) (hp:vr w (.slice V p.terms.length cp) p.terms) (hq:vr w (.slice Aq q.terms.length cq) q.terms) (ho:zu7 p q s):
 Calls Tryz.prog 16 #[.map (some b),.agg #[.slice V p.terms.length cp,str p.bound],.agg #[.slice Aq q.terms.length cq,str q.bound],str s] w (zth w b (nzF (VV [p,q] (xi p q s) 2)) (Xh [p,q] (xi p q s) 2)):=by
 have U:=ze ho
 obtain ⟨F,hF⟩:∃ F,F=nzF (VV [p,q] (xi p q s) 2):=⟨_,rfl⟩
 obtain ⟨Q,hQ⟩:∃ Q,Q=Xh [p,q] (xi p q s) 2:=⟨_,rfl⟩
 rw [<- hF, <- hQ]
 have bq:=ze hF
 have bs:=ze hQ
 clear hF hQ
 obtain ⟨W,hW⟩:∃ W,W=((w.alloc (.cells #[.slice V p.terms.length cp,str p.bound] 33)).alloc (.cells #[.slice Aq q.terms.length cq,str q.bound] 33)).alloc (.cells #[.slice none 0 0,.string ⟨#[]⟩] 33):=⟨_,rfl⟩
 have hz:=ext (ext (zf w (.cells #[.slice V p.terms.length cp,str p.bound] 33)) (zf _ (.cells #[.slice Aq q.terms.length cq,str q.bound] 33))) (zf _ (.cells #[.slice none 0 0,.string ⟨#[]⟩] 33))
 have bz:=((Blk.new w 33 #[.slice V p.terms.length cp,str p.bound]).alloc (.cells #[.slice Aq q.terms.length cq,str q.bound] 33)).alloc (.cells #[.slice none 0 0,.string ⟨#[]⟩] 33)
 have ba:=(Blk.new (w.alloc (.cells #[.slice V p.terms.length cp,str p.bound] 33)) 33 #[.slice Aq q.terms.length cq,str q.bound]).alloc (.cells #[.slice none 0 0,.string ⟨#[]⟩] 33)
 have a9:=Blk.new ((w.alloc (.cells #[.slice V p.terms.length cp,str p.bound] 33)).alloc (.cells #[.slice Aq q.terms.length cq,str q.bound] 33)) 33 #[.slice none 0 0,.string ⟨#[]⟩]
 simp only [World.size_alloc] at ba a9
 rw [<- hW] at hz bz ba a9
 have B:Hid (zis w W b V Aq cp cq p q):=⟨hB.below hz,bz,ba,a9,zk.below hp hz,zk.below hq hz,Chg.of_below hz⟩
 have cQ:=ze hB.lt
 clear hB hp hq ho hz bz ba a9
 go_enter func16,ntmps16
 go_upto_region 1 with fail
 rw [<- hW]
 clear hW
 refine zJ (S:=(fun w' =>Hid (zis w w' b V Aq cp cq p q)/\w'.cell? ⟨w.heap.size,0,none⟩=some (.slice V p.terms.length cp)/\w'.cell? ⟨w.heap.size,1,none⟩=some (str p.bound)/\w'.cell? ⟨w.heap.size+1,0,none⟩=some (.slice Aq q.terms.length cq)/\w'.cell? ⟨w.heap.size+1,1,none⟩=some (str q.bound))) 11 (by kernel_rfl) (by kernel_rfl) (zvz (B.o.below (zu W).out)) (fun hHeld=>?_)
 refine HH.tk 0 ?_
 refine HH.tk 1 ?_
 refine HH.tk 2 ?_
 refine HH.tk 4 ?_
 refine HH.tk 5 ?_
 refine HH.tk 6 ?_
 refine HH.og [(3,19),(7,23),(8,24),(9,10),(10,11)] [9,10] (zu1 w.heap.size (xU p.terms s) (xU q.terms s)) (Chg (· =b)) hHeld (fun i v w w' h h' hc hr=>hr.keep h.1.out.book hc) (fun w w' h=>h.size) (fun i v w hi h=>h.fresh hi) (yM (xh.mk (fun us w1 hS hdep K hK=>?_)) (yM (xh.mk (fun us w1 hS hdep K hK=>?_)) (yM (xh.mk (fun us w1 hS hdep K hK=>?_)) (yM (xh.mk (fun us w1 hS hdep K hK=>?_)) (yM (xh.mk (fun us w1 hS hdep K hK=>?_)) zlz))))) (fun us w1 hS hR hA=>?_)
 . simp only [ZP,Act.put,xST] at hK |-
   constructor
   go_simp
   refine (zc0 b V _ cp w.heap.size p.terms p.bound s w1 hS.1.out.book hS.1.out.tp hS.1.out.chg.size U.o.cp).mono ?_;rintro e w2 ⟨v,rfl,E,aE,aw⟩;exact hK _ _ ⟨v,rfl,zvz (hS.1.out.turn aw aE),aw,E,fun h=>by cases h⟩
 . simp only [ZP,Act.put,xST] at hK |-
   constructor
   go_simp
   refine (zc0 b Aq _ cq w.heap.size q.terms q.bound s w1 hS.1.out.book hS.1.out.tq hS.1.out.chg.size U.o.cq).mono ?_;rintro e w2 ⟨v,rfl,E,aE,aw⟩;exact hK _ _ ⟨v,rfl,zvz (hS.1.out.turn aw aE),aw,E,fun h=>by cases h⟩
 . have h7:yc w1 (us 7) (xU q.terms s):=hdep 7 (by kernel_rfl)
   simp only [ZP,Act.put,xST] at hK |-
   constructor
   go_simp
   refine (zef _ _ w1 h7).mono ?_;rintro e w2 ⟨v,rfl,E,L⟩;exact hK _ _ ⟨v,rfl,zvz (hS.1.out.below L),Chg.of_below L,E,fun h=>by cases h⟩
 . simp only [ZP,Act.put,xST] at hK |-
   constructor
   go_simp
   have j:=zf w1 (.cells #[.int .i64 0,.slice none 0 0,.bool false,.int .i64 0,.slice none 0 0,.bool false] 55);exact hK _ _ ⟨_,rfl,zvz (hS.1.out.below j),Chg.of_below j,⟨w1.heap.size,rfl,Blk.new w1 _ _,hS.1.out.chg.size⟩,fun h=>Nat.le_refl _⟩
 . simp only [ZP,Act.put,xST] at hK |-
   constructor
   go_simp
   have j:=zf w1 (.cells #[.int .i64 0,.slice none 0 0,.bool false,.int .i64 0,.slice none 0 0,.bool false] 55);exact hK _ _ ⟨_,rfl,zvz (hS.1.out.below j),Chg.of_below j,⟨w1.heap.size,rfl,Blk.new w1 _ _,hS.1.out.chg.size⟩,fun h=>Nat.le_refl _⟩
 . have h3:yc w1 (us 3) (xU p.terms s):=hR (3,19) (by simp)
   have h8:yc w1 (us 8) (-(xU q.terms s)):=hR (8,24) (by simp);obtain ⟨g9,e9,G,bj⟩:XX w1 w.heap.size 55 #[.int .i64 0,.slice none 0 0,.bool false,.int .i64 0,.slice none 0 0,.bool false] (us 9):=hR (9,10) (by simp);obtain ⟨aB,bh,aa,bC⟩:XX w1 w.heap.size 55 #[.int .i64 0,.slice none 0 0,.bool false,.int .i64 0,.slice none 0 0,.bool false] (us 10):=hR (10,11) (by simp)
   have b6:g9≠aB:=by
    have:=hA (9,10) (by simp) (10,11) (by simp) rfl rfl (by decide);rw [e9,bh] at this;exact this
   obtain ⟨x1,A1,k1,c1,s1,y1,B1,aj,al,t1,e3⟩:=h3.agg;obtain ⟨x2,A2,k2,c2,s2,y2,B2,a7,aT,t2,e8⟩:=h8.agg;simp only [ZP,Act.put,List.setIfInBounds_toArray,List.set_cons_zero,List.set_cons_succ,List.drop_succ_cons,List.drop_zero];rw [e3,e8,e9,bh];rw [e3] at h3;rw [e8] at h8;have aX:Chg (· =g9) w1 (World.rat w1 g9 x1 A1 k1 c1 s1 y1 B1 aj al t1):=Chg.ratSet;have aG:=XJ 0 none 0 0 false 0 none 0 0 false;have bQ:∀ z,z=g9->zZ w1 z:=fun z e=>by subst e;exact G.noDig aG
   have aN:=aX.blk aa (fun e=>b6 e.symm);have b7:=zcg.made G h3;have bi:Chg (· =aB) (World.rat w1 g9 x1 A1 k1 c1 s1 y1 B1 aj al t1) (World.rat (World.rat w1 g9 x1 A1 k1 c1 s1 y1 B1 aj al t1) aB x2 A2 k2 c2 s2 y2 B2 a7 aT t2):=Chg.ratSet;have bX:∀ z,z=aB->zZ (World.rat w1 g9 x1 A1 k1 c1 s1 y1 B1 aj al t1) z:=fun z e=>by subst e;exact aN.noDig aG
   have HX:=ze (b7.chg bi b6 bX);have HY:=ze (zcg.made aN (aX.rat h8 bQ));replace B:=ze ((hS.1.out.new G (by decide) aG bj aX).new aN (by decide) aG bC bi);have a0:=G.cell 0;have a1:=G.cell 1;have a2:=G.cell 2;have a3:=G.cell 3;have a4:=G.cell 4;have a5:=G.cell 5;have f0:=G.frozen 0;have f1:=G.frozen 1;have f2:=G.frozen 2;have f3:=G.frozen 3;have f4:=G.frozen 4;have f5:=G.frozen 5;have b0:=aa.cell 0;have b1:=aa.cell 1;have b2:=aa.cell 2;have b3:=aa.cell 3;have b4:=aa.cell 4;have b5:=aa.cell 5;have d0:=aa.frozen 0;have d1:=aa.frozen 1;have d2:=aa.frozen 2;have d3:=aa.frozen 3;have d4:=aa.frozen 4;have d5:=aa.frozen 5;simp at a0 a1 a2 a3 a4 a5 b0 b1 b2 b3 b4 b5;have HG:=ze (show w.heap.size<=g9/\w.heap.size<=aB from ⟨bj,bC⟩);clear hS hR hA hHeld h3 h8 e3 e8 e9 bh bj bC aX bi bQ bX b7 aN aG G aa
   go_upto_region 2 with fail
   obtain ⟨W2,aP⟩:∃ W2,W2=World.rat (World.rat w1 g9 x1 A1 k1 c1 s1 y1 B1 aj al t1) aB x2 A2 k2 c2 s2 y2 B2 a7 aT t2:=⟨_,rfl⟩;rw [<- aP] at HX HY B;simp only [World.rat] at aP;rw [<- aP];clear aP a0 a1 a2 a3 a4 a5 b0 b1 b2 b3 b4 b5 f0 f1 f2 f3 f4 f5 d0 d1 d2 d3 d4 d5;have bo:=(zu W2).out;refine zJ (S:=(fun w' =>Hid (zis w w' b V Aq cp cq p q)/\w'.cell? ⟨w.heap.size,0,none⟩=some (.slice V p.terms.length cp)/\w'.cell? ⟨w.heap.size,1,none⟩=some (str p.bound)/\w'.cell? ⟨w.heap.size+1,0,none⟩=some (.slice Aq q.terms.length cq)/\w'.cell? ⟨w.heap.size+1,1,none⟩=some (str q.bound)/\Hid (zcg w' g9 (xU p.terms s))/\Hid (zcg w' aB (-xU q.terms s)))) 13 (by kernel_rfl) (by kernel_rfl) (zoy (B.o.below bo) (HX.o.below bo) (HY.o.below bo)) (fun hHeld=>?_);refine HH.tk 0 ?_;refine HH.tk 1 ?_;refine HH.tk 2 ?_
   refine HH.og [(3,28),(4,29),(5,30),(6,31),(7,32),(8,33),(9,34),(10,35),(11,36),(12,12)] [] (zw4 b w.heap.size p q (xU p.terms s) (-xU q.terms s) (xi p q s) F Q) (Chg (· =b)) hHeld (fun i v w w' h h' hc hr=>hr.keep h.1.out.book hc) (fun w w' h=>h.size) (fun i v w hi h=>by cases hi) (yM (xh.mk (fun us w1 hS hdep K hK=>?_)) (yM (xh.mk (fun us w1 hS hdep K hK=>?_)) (yM (xh.mk (fun us w1 hS hdep K hK=>?_)) (yM (xh.mk (fun us w1 hS hdep K hK=>?_)) (yM (xh.mk (fun us w1 hS hdep K hK=>?_)) (yM (xh.mk (fun us w1 hS hdep K hK=>?_)) (yM (xh.mk (fun us w1 hS hdep K hK=>?_)) (yM (xh.mk (fun us w1 hS hdep K hK=>?_)) (yM (xh.mk (fun us w1 hS hdep K hK=>?_)) (yM (xh.mk (fun us w1 hS hdep K hK=>?_)) zlz)))))))))) (fun us w1 hS hR hA=>?_)
   . simp only [ZP,Act.put,xST] at hK |-
     constructor
     go_simp
     have j:=zf w1 (.cells #[.slice V p.terms.length cp,str p.bound,.slice Aq q.terms.length cq,str q.bound] 33);exact hK _ _ ⟨_,rfl,zoy (hS.1.out.below j) (hS.2.2.2.2.2.1.out.below j) (hS.2.2.2.2.2.2.out.below j),Chg.of_below j,⟨⟨_,_,rfl⟩,zku hS.1.out.tp hS.1.out.tq hS.1.out.chg.size U.o.sp U.o.sq⟩,fun h=>by cases h⟩
   . simp only [ZP,Act.put,xST] at hK |-
     constructor
     go_simp
     refine (YC 1 w1 (by omega) (by omega)).mono ?_;rintro e w2 ⟨v,rfl,E,L⟩;exact hK _ _ ⟨_,rfl,zoy (hS.1.out.below L) (hS.2.2.2.2.2.1.out.below L) (hS.2.2.2.2.2.2.out.below L),Chg.of_below L,(show yc w2 v (((1:Int):Rat)) from E),fun h=>by cases h⟩
   . obtain ⟨x1,A1,k1,c1,s1,y1,B1,aj,al,t1,Y,E⟩:=hS.2.2.2.2.2.1.out
     have e0:=Y.cell 0;have e1:=Y.cell 1;have e2:=Y.cell 2;have e3:=Y.cell 3;have e4:=Y.cell 4;have e5:=Y.cell 5;simp at e0 e1 e2 e3 e4 e5;simp only [ZP,Act.put,xST] at hK |-
     constructor
     go_simp
     exact hK _ _ ⟨_,rfl,zoy (hS.1.out.below (Below.refl w1.heap.size w1)) (hS.2.2.2.2.2.1.out.below (Below.refl w1.heap.size w1)) (hS.2.2.2.2.2.2.out.below (Below.refl w1.heap.size w1)),Chg.of_below (Below.refl w1.heap.size w1),E,fun h=>by cases h⟩
   . have h4:yc w1 (us 4) 1:=hdep 4 (by kernel_rfl)
     have h5:yc w1 (us 5) (xU p.terms s):=hdep 5 (by kernel_rfl);simp only [ZP,Act.put,xST] at hK |-
     constructor
     go_simp
     refine (zd5 _ _ 1 (xU p.terms s) w1 h4 h5 U.o.ol U.o.xl U.o.x0).mono ?_;rintro e w2 ⟨v,rfl,E,L⟩;exact hK _ _ ⟨_,rfl,zoy (hS.1.out.below L) (hS.2.2.2.2.2.1.out.below L) (hS.2.2.2.2.2.2.out.below L),Chg.of_below L,E,fun h=>by cases h⟩
   . simp only [ZP,Act.put,xST] at hK |-
     constructor
     go_simp
     refine (YC 1 w1 (by omega) (by omega)).mono ?_;rintro e w2 ⟨v,rfl,E,L⟩;exact hK _ _ ⟨_,rfl,zoy (hS.1.out.below L) (hS.2.2.2.2.2.1.out.below L) (hS.2.2.2.2.2.2.out.below L),Chg.of_below L,(show yc w2 v (((1:Int):Rat)) from E),fun h=>by cases h⟩
   . obtain ⟨x1,A1,k1,c1,s1,y1,B1,aj,al,t1,Y,E⟩:=hS.2.2.2.2.2.2.out
     have e0:=Y.cell 0;have e1:=Y.cell 1;have e2:=Y.cell 2;have e3:=Y.cell 3;have e4:=Y.cell 4;have e5:=Y.cell 5;simp at e0 e1 e2 e3 e4 e5;simp only [ZP,Act.put,xST] at hK |-
     constructor
     go_simp
     exact hK _ _ ⟨_,rfl,zoy (hS.1.out.below (Below.refl w1.heap.size w1)) (hS.2.2.2.2.2.1.out.below (Below.refl w1.heap.size w1)) (hS.2.2.2.2.2.2.out.below (Below.refl w1.heap.size w1)),Chg.of_below (Below.refl w1.heap.size w1),E,fun h=>by cases h⟩
   . have h7:yc w1 (us 7) 1:=hdep 7 (by kernel_rfl)
     have h8:yc w1 (us 8) (-xU q.terms s):=hdep 8 (by kernel_rfl);simp only [ZP,Act.put,xST] at hK |-
     constructor
     go_simp
     refine (zd5 _ _ 1 (-xU q.terms s) w1 h7 h8 U.o.ol U.o.yl U.o.y0).mono ?_;rintro e w2 ⟨v,rfl,E,L⟩;exact hK _ _ ⟨_,rfl,zoy (hS.1.out.below L) (hS.2.2.2.2.2.1.out.below L) (hS.2.2.2.2.2.2.out.below L),Chg.of_below L,E,fun h=>by cases h⟩
   . have h6:yc w1 (us 6) (1 / xU p.terms s):=hdep 6 (by kernel_rfl)
     have h9:yc w1 (us 9) (1 / -xU q.terms s):=hdep 9 (by kernel_rfl);obtain ⟨x1,A1,k1,c1,s1,y1,B1,aj,al,t1,e6⟩:=h6.agg;obtain ⟨x2,A2,k2,c2,s2,y2,B2,a7,aT,t2,e9⟩:=h9.agg;simp only [ZP,Act.put,xST] at hK |-;rw [e6] at h6 hK |-;rw [e9] at h9 hK |-
     constructor
     go_simp
     have j:=zf w1 (.cells #[.int .i64 x1,.slice A1 k1 c1,.bool s1,.int .i64 y1,.slice B1 aj al,.bool t1,.int .i64 x2,.slice A2 k2 c2,.bool s2,.int .i64 y2,.slice B2 a7 aT,.bool t2] 55);exact hK _ _ ⟨_,rfl,zoy (hS.1.out.below j) (hS.2.2.2.2.2.1.out.below j) (hS.2.2.2.2.2.2.out.below j),Chg.of_below j,zvj h6 h9,fun h=>by cases h⟩
   . obtain ⟨⟨A,c,e3⟩,h3⟩:(∃ A c,us 3= .slice A 2 c)/\yN w1 (us 3) [p,q]:=hdep 3 (by kernel_rfl)
     have cC:zdo w1 (us 10) 2 (xi p q s):=hdep 10 (by kernel_rfl);simp only [ZP,Act.put,xST] at hK |-;rw [e3] at h3 hK |-
     constructor
     go_simp
     refine (zp8 b A 2 c _ [p,q] (xi p q s) w1 hS.1.out.book h3 cC U.o.sums).mono ?_;rintro e w2 ⟨gm,x,A',k,c',s',y,C,k',aU,t,rfl,E,hm,cy,av,aE,aw⟩;have aQ:Chg (· =b) w1 w2:=aw.mono (fun x j h=>h.elim (fun h=>h) (fun h=>by omega));exact hK _ _ ⟨_,rfl,zoy (hS.1.out.turn aQ aE) (hS.1.out.book.keepRB aQ hS.2.2.2.2.2.1.out) (hS.1.out.book.keepRB aQ hS.2.2.2.2.2.2.out),aQ,⟨gm,_,_,_,_,_,_,_,_,_,_,rfl,by rw [bs.o];exact E,by rw [bq.o];exact hm,cy,Nat.le_trans hS.1.out.chg.size av⟩,fun h=>by cases h⟩
   . simp only [ZP,Act.put,xST] at hK |-
     constructor
     go_simp
     have j:=zf w1 (.cells #[.map none,.int .i64 0,.slice none 0 0,.bool false,.int .i64 0,.slice none 0 0,.bool false] 94);exact hK _ _ ⟨_,rfl,zoy (hS.1.out.below j) (hS.2.2.2.2.2.1.out.below j) (hS.2.2.2.2.2.2.out.below j),Chg.of_below j,⟨w1.heap.size,rfl,Blk.new w1 _ _,hS.1.out.chg.size⟩,fun h=>by cases h⟩
   . obtain ⟨gm,x,A',k,c',s',y,C,k',aU,t,bU,E,hm,cr,cM⟩:zxl w1 b w.heap.size F Q (us 11):=hR (11,36) (by simp)
     obtain ⟨O,bG,M,cc⟩:XX w1 w.heap.size 94 #[.map none,.int .i64 0,.slice none 0 0,.bool false,.int .i64 0,.slice none 0 0,.bool false] (us 12):=hR (12,12) (by simp);have aF:Hid ((∃ ns:List (List UInt8),(∀ x,(F x).isSome=true->x∈ns)/\ns.length<=100000/\∀ x∈ns,zN x)/\(∀ x r,F x=some r->Z9 67108864 r/\zN (zw r))/\(Z9 67108864 Q/\zN (zw Q))):=ze (by rw [bq.o,bs.o];exact ⟨U.o.keys,U.o.outs,U.o.outb⟩);clear U HX HY HG hHeld hA hR bq bs;simp only [ZP,Act.put,List.setIfInBounds_toArray,List.set_cons_zero,List.set_cons_succ,List.drop_succ_cons,List.drop_zero];rw [bU,bG];clear bU bG;have bx:=zf6 none 0 none 0 0 false 0 none 0 0 false;have bB:∀ z,z=O->zZ w1 z:=fun z e=>by subst e;exact M.noDig bx
     have aS:Chg (· =O) w1 (World.sc7 w1 O (some gm) x A' k c' s' y C k' aU t):=zoc;have ag:=ze (hS.1.out.new M (by decide) bx cc aS);have HM:=ze (hm.chg aS (hm.ne M) bB);have ao:Hid (xp (World.sc7 w1 O (some gm) x A' k c' s' y C k' aU t) O gm Q):=⟨_,_,_,_,_,_,_,_,_,_,zpl M,aS.rat E bB⟩;have a0:=M.cell 0;have a1:=M.cell 1;have a2:=M.cell 2;have a3:=M.cell 3;have a4:=M.cell 4;have a5:=M.cell 5;have a6:=M.cell 6;have f0:=M.frozen 0;have f1:=M.frozen 1;have f2:=M.frozen 2;have f3:=M.frozen 3;have f4:=M.frozen 4;have f5:=M.frozen 5;have f6:=M.frozen 6;simp at a0 a1 a2 a3 a4 a5 a6;clear hS hm E aS bB bx M cc cr B
     go_upto_region 3 with fail
     obtain ⟨W3,aR⟩:∃ W3,W3=World.sc7 w1 O (some gm) x A' k c' s' y C k' aU t:=⟨_,rfl⟩;rw [<- aR] at ag HM ao;simp only [World.sc7,World.rat1] at aR;rw [<- aR];clear aR a0 a1 a2 a3 a4 a5 a6 f0 f1 f2 f3 f4 f5 f6;have j:=zf W3 (.cells #[.slice none 0 0,.string ⟨#[]⟩] 33);have I:=ze (Blk.new W3 33 #[.slice none 0 0,.string ⟨#[]⟩]);have bA:=ze (show w.heap.size+1+1<W3.heap.size from ag.o.k2.lt);replace ag:=ze (ag.o.below j);replace HM:=ze (HM.o.below j);replace ao:=ze (ao.o.below j);clear j
     go_upto_region 4 with fail
     generalize W3.alloc (.cells #[.slice none 0 0,.string ⟨#[]⟩] 33)=W4 at I ag HM ao |-;generalize W3.heap.size=gO at I bA |-;obtain ⟨g0,gL⟩:=ao.o.map;obtain ⟨ns,bE,bl,bw⟩:=aF.o.1;obtain ⟨m,D0,ks,am,cw,cf,bI,bF⟩:=HM.o.owns bE bl bw;have cd:=ze (zmj (some gm) W4);have cj:=ze (zhg gm m D0 zlc W4 am (by unfold maxLen;omega) (by omega));have ah:=ze (show (strKeys D0).Perm ks/\ks.Nodup/\(∀ x,x∈ks↔(F x).isSome=true)/\ns.length<=100000/\(∀ x,(F x).isSome=true->x∈ns)/\∀ x∈ns,zN x from ⟨cf,bI,bF,bl,bE,bw⟩);clear am cw cf bI bF bE bl bw;go_wp2_with fail;refine cd.o.mono ?_;rintro e w5 ⟨rfl,rfl⟩;clear cd;go_wp2_with fail;refine cj.o.mono ?_;rintro e w5 ⟨nv,ss,rfl,hp,bg,cG,bH⟩;have j:=zf W4 (.cells #[.map (some gm)] zta)
     have ax:zk5 (ss.mergeSort (fun x y=>decide (x<=y))) F:=
      ⟨VG (hp.nodup_iff.2 (ah.o.1.nodup_iff.2 ah.o.2.1)),fun x=>by rw [(List.mergeSort_perm ss _).mem_iff,hp.mem_iff,ah.o.1.mem_iff];exact ah.o.2.2.1 x⟩
     have bk:∀ x∈ss.mergeSort (fun x y=>decide (x<=y)),x∈ns:=fun x j=>ah.o.2.2.2.2.1 x ((ax.2 x).1 j)
     have a8:(ss.mergeSort (fun x y=>decide (x<=y))).length<=100000:=Nat.le_trans (zgb (by
      have h1:ss.Nodup:=hp.nodup_iff.2 (ah.o.1.nodup_iff.2 ah.o.2.1)
      exact (List.mergeSort_perm ss _).nodup_iff.2 h1) bk) ah.o.2.2.2.1
     have bb:zF w5 w5.heap.size nv (ss.mergeSort (fun x y=>decide (x<=y))):=by
      refine Z5 (base:=(W4.alloc (.cells #[.map (some gm)] zta)).heap.size) ?_ a8 (fun x j=>ah.o.2.2.2.2.2 x (bk x j));rw [List.length_mergeSort];exact bg
     have bY:∀ (A:Option Addr) (n c:Nat),nv= .slice A n c->∀ ad,A=some ad->gO<ad.block:=fun A n c e ad e2=>by
      subst e;subst e2;have h1:=(bg.lt ad.block rfl).1;have h2:=I.o.lt;simp only [World.size_alloc] at h1
      omega
     clear hp bg cG bk ah cj gL;generalize ss.mergeSort (fun x y=>decide (x<=y))=l at ax bb a8;obtain ⟨An,cn,rfl,_⟩:=id bb;have ce:=ze (bY An _ cn rfl);clear bY;have HL:=ze a8;have af:=ze bb;have aW:=ze ax;have ap:=ext j bH
     have B:Hid (zlr w w5 b O gm gO w5.heap.size F Q):=by
      have h1:=ap.size;have h2:=ag.o.book.lt;have h3:=HM.o.lt;have h4:=ao.o.map.2;have h5:=ag.o.k2.lt;have h6:=I.o.lt;have h7:=bA.o;have h8:=ag.o.chg.size;exact ⟨ag.o.book.below ap,HM.o.below ap,ao.o.below ap,ag.o.k2.below ap h5,yh ag.o.chg ap,by omega,by omega,by omega,by omega,by omega,by omega,by omega,by omega,Nat.le_refl _⟩
     replace I:=kb_ I ap;clear ap j bH a8 bb ax ag HM ao bA g0;go_wp2_with fail
     go_loopw [42] (MtR w b O gm gO w5.heap.size F Q (.slice An l.length cn) l) (fun kv _=>l.length - (intOf kv).toNat)
     case atStart=>exact ⟨0,_,Nat.zero_le _,rfl,B,Zz _ _ _ _,I,af,ze (fun i h hi=>by omega)⟩
     case round=>
      clear B I af;obtain ⟨k,tv,Y,rfl,B,ac,I,af,bD⟩:=hrel;generalize w5.heap.size=Bn at B ac I af |-
      by_cases aV:k<l.length
      rotate_left
      . obtain rfl:l.length=k:=by omega
        have aJ:Ye l F Q=decide (yo 12 Q):=by
         unfold Ye
         rw [decide_eq_true (fun s hs=>by
          obtain ⟨i,hi,rfl⟩:=List.mem_iff_getElem.1 hs
          exact bD.o i hi hi),Bool.true_and]
        have cm:=ze aJ
        have cA:Hid (∀ x∈yB l F,zN x.name/\zN x.coef):=ze (fun x j=>by
         unfold yB at j;obtain ⟨s0,b8,rfl⟩:=List.mem_map.1 j;obtain ⟨r,hr⟩:=Option.isSome_iff_exists.1 ((aW.o.2 s0).1 b8);refine ⟨?_,?_⟩
         . obtain ⟨_,_,_,_,_,_,_,h⟩:=id af.o
           exact h s0 b8
         show zN (zw ((F s0).getD 0))
         rw [hr]
         exact (aF.o.2.1 s0 r hr).2)
        clear aJ bD af ce;obtain ⟨x6,A6,k6,c6,s6,y6,B6,bM,bZ,t6,R,aH⟩:=B.o.box;have aL:=ze aH;have o1:=R.cell 1;have o2:=R.cell 2;have o3:=R.cell 3;have o4:=R.cell 4;have o5:=R.cell 5;have o6:=R.cell 6;simp at o1 o2 o3 o4 o5 o6;clear R aH;go_wp2_with fail;refine (V4 _ Q wr aL.o aF.o.2.2.1).mono ?_;rintro e X ⟨rfl,ai⟩;obtain ⟨N,aD⟩:∃ N,N=zw Q:=⟨_,rfl⟩;rw [<- aD];have aO:=ze aD;clear o1 o2 o3 o4 o5 o6 aL aD;replace B:=ze (B.o.below ai);replace ac:=ze (ac.o.below ai);replace I:=kb_ I ai;clear ai;have r1:=I.o.cell 1;have f1:=I.o.frozen 1;simp at r1;have ar:Chg (· =gO) X (X.setCell ⟨gO,1,none⟩ (.string ⟨N.toArray⟩)):=Chg.setCell (S:=(· =gO)) (Chg.refl X) (p:=⟨gO,1,none⟩) rfl _;have Z:=ze (B.o.out_ I.o (xN ac.o) ar)
        have aq:=ze (ac.o.chg ar (fun c hc e=>by
         subst e;have:=(ac.o.1.lt _ hc).1;have:=B.o.lo
         omega))
        have au:=ze (I.o.set_ 1 (.string ⟨N.toArray⟩));clear ar B ac I
        go_upto_region 12 with fail
        clear r1 f1;generalize X.setCell ⟨gO,1,none⟩ (.string ⟨N.toArray⟩)=W7 at Z aq au |-;obtain ⟨x6,A6,k6,c6,s6,y6,B6,bM,bZ,t6,R,aH⟩:=Z.o.box;have aL:=ze aH;have o1:=R.cell 1;have o2:=R.cell 2;have o3:=R.cell 3;have o4:=R.cell 4;have o5:=R.cell 5;have o6:=R.cell 6;have oL:=R.lt;have r0:=au.o.cell 0;have r1:=au.o.cell 1;have rL:=au.o.lt;simp at o1 o2 o3 o4 o5 o6 r0 r1;clear R aH;have cI:=ze (show Z9 67108864 Q from aF.o.2.2.1);obtain ⟨At,ct,rfl,_⟩:=zai aq.o.1;have nO:¬ gO=w.heap.size+1+1:=Z.o.ne
        have J:¬ O=w.heap.size+1+1:=by
         obtain ⟨cs,hs⟩:=Z.o.box.blk;exact yX hs Z.o.res (by decide)
        refine zJ (S:=fun w' =>Hid (Chg (fun x=>x=w.heap.size+1+1) W7 w')/\w'.cell? ⟨gO,0,none⟩=some (.slice At l.length ct)/\w'.cell? ⟨gO,1,none⟩=some (.string ⟨N.toArray⟩)/\w'.cell? ⟨O,1,none⟩=some (.int .i64 x6)/\w'.cell? ⟨O,2,none⟩=some (.slice A6 k6 c6)/\w'.cell? ⟨O,3,none⟩=some (.bool s6)/\w'.cell? ⟨O,4,none⟩=some (.int .i64 y6)/\w'.cell? ⟨O,5,none⟩=some (.slice B6 bM bZ)/\w'.cell? ⟨O,6,none⟩=some (.bool t6)) 6 (by kernel_rfl) (by kernel_rfl) (zl (Zo W7) (fun hB=>⟨zX hB r0 nO,zX hB r1 nO,zX hB o1 J,zX hB o2 J,zX hB o3 J,zX hB o4 J,zX hB o5 J,zX hB o6 J⟩)) (fun hHeld=>?_);refine HH.tk 0 ?_;refine HH.tk 1 ?_;refine HH.tk 2 ?_;refine HH.rd 3 (fun K hK=>?_)
        go_simp
        go_at_call 43;refine (zal _ Q 12 _ (aL.o.below (zu W7).out) cI.out (by omega) (by omega)).mono ?_;rintro e w8 ⟨rfl,ak⟩;rw [<- cm.o];have bf:=((zu W7).out).trans (ak.mono (Nat.le_of_eq rfl));have ab:=hHeld;clear hHeld;refine hK.out _ _ (zl (vT ak ab.1) (fun hB=>⟨zX hB r0 nO,zX hB r1 nO,zX hB o1 J,zX hB o2 J,zX hB o3 J,zX hB o4 J,zX hB o5 J,zX hB o6 J⟩)) (fun hHeld=>?_);clear ab hK K
        try simp only [Act.put,xST]
        clear ak;refine HH.tk 4 ?_;replace Z:=ze (Z.o.below bf);replace aq:=ze (aq.o.below bf);have ae:=Z.o.res;have a0:=ae.cell 0;have a1:=ae.cell 1;have f0:=ae.frozen 0;have f1:=ae.frozen 1;simp at a0 a1;have aA:=ze ae
        have aK:Chg (fun x=>x=w.heap.size+1+1) w8 ((w8.setCell ⟨w.heap.size+1+1,0,none⟩ (.slice At l.length ct)).setCell ⟨w.heap.size+1+1,1,none⟩ (.string ⟨N.toArray⟩)):=by
         apply Chg.setCell (S:=fun x=>x=w.heap.size+1+1) ?_ (by rfl)
         apply Chg.setCell (S:=fun x=>x=w.heap.size+1+1) ?_ (by rfl)
         exact Chg.refl w8
        have aZ:=ze aK;clear ae bf aK;refine HH.rd 5 (fun K hK=>?_)
        go_simp
        have ab:=hHeld;clear hHeld;refine hK.out _ _ (zl (ZY aZ.o ab.1) (fun hB=>⟨zX hB r0 nO,zX hB r1 nO,zX hB o1 J,zX hB o2 J,zX hB o3 J,zX hB o4 J,zX hB o5 J,zX hB o6 J⟩)) (fun hHeld=>?_);clear ab hK K
        try simp only [Act.put,xST]
        have br:=(hHeld.1).out;clear br hHeld;refine HH.done (by kernel_rfl) ?_;simp only [List.drop_succ_cons,List.drop_zero];clear o1 o2 o3 o4 o5 o6 oL r0 r1 rL aL au a0 a1 f0 f1;go_wp2_with fail;have G:=(aA.o.set_ 0 (.slice At l.length ct)).set_ 1 (.string ⟨N.toArray⟩);have e0:=G.cell 0;have e1:=G.cell 1;simp at e0 e1;refine bodyPost_ret (v:=.tuple #[.agg #[.slice At l.length ct,.string ⟨N.toArray⟩],.bool (Ye l F Q)]) (by simp [results,results16,go_sem,e0,e1]) rfl ?_;have bu:∀ z,z=w.heap.size+1+1->zZ w8 z:=fun z e=>by subst e;exact zg3 aA.o (zM _ _ _)
        have bN:=aq.o.chg aZ.o (fun c hc e=>by
         have:=(aq.o.1.lt _ hc).1;have:=Z.o.lr
         omega)
        have aM:(yB l F).length=l.length:=by unfold yB;rw [List.length_map]
        refine ⟨l,_,aW.o,rfl,fun _=>⟨At,ct,by rw [aM,aO.o],?_,?_⟩,⟨_,_,_,_,rfl⟩,Z.o.book.chg aZ.o (Z.o.book.neB aA.o) bu,Z.o.chg.trans (S:=fun x=>x=b) (T:=fun x=>x=w.heap.size+1+1) aZ.o (fun x j e=>by omega)⟩
        . rw [aM]
          exact Vs (by rw [aM];exact bN.1) (by rw [aM];exact HL.o) cA.o
        rw [aM]
        exact zc4 bN.1
      have cK:(k:Int)<(l.length:Int):=by omega
      obtain ⟨an,eA,cP,p0⟩:=af.o.at_ aV;subst eA;obtain ⟨g0,gL⟩:=B.o.box.map;have ax:(F l[k]).isSome=true:=(aW.o.2 l[k]).1 (List.getElem_mem aV);obtain ⟨r,hr⟩:=Option.isSome_iff_exists.1 ax;obtain ⟨ca,bJ⟩:=aF.o.2.1 _ _ hr;obtain ⟨v,bp,cb⟩:=B.o.map.look (P:=Tryz.prog) YE Vv (zcq _) l[k] false;simp only [Bool.false_eq_true,if_false] at bp
      have E:yc wr v r:=by
       rcases cb with ⟨h,_⟩ | ⟨q',h,h2⟩
       . rw [hr] at h;cases h
       . rw [hr] at h;injection h with h;subst h;exact h2
      obtain ⟨D,ay,_,_⟩:=id B.o.map;have HR:=ze hr;have ch:=ze ca;have cO:=ze bJ;have HV:=ze E;have bm:=ze (show (F l[k]).getD 0=r by rw [hr];rfl);obtain ⟨x3,A3,k3,c3,s3,y3,B3,cL,cJ,t3,ev⟩:=E.agg;rw [ev] at bp;have bT:=ze ev;clear ax hr ca bJ cb E ay ev;go_wp2_with fail;refine (zal _ r 12 wr (by rw [<- bT.o];exact HV.o) ch.o (by omega) (by omega)).mono ?_;rintro e X ⟨rfl,ai⟩;replace B:=ze (B.o.below ai);replace ac:=ze (ac.o.below ai);replace I:=kb_ I ai;replace af:=ze (zF.below af.o ai);clear ai bp g0 gL p0 HV bT
      by_cases aC:yo 12 r
      rotate_left
      . rw [show (!decide (yo 12 r))=true by simp [aC]]
        have ae:=B.o.res;have a0:=ae.cell 0;have a1:=ae.cell 1;have f0:=ae.frozen 0;have f1:=ae.frozen 1;simp at a0 a1;have aA:=ze ae;have cD:=ze aC;clear aC ae ac I af;go_wp2_with fail;have G:=(aA.o.set_ 0 (.slice none 0 0)).set_ 1 (.string ⟨#[]⟩);have e0:=G.cell 0;have e1:=G.cell 1;simp at e0 e1;refine bodyPost_ret (v:=.tuple #[.agg #[.slice none 0 0,.string ⟨#[]⟩],.bool false]) (by simp [results,results16,go_sem,e0,e1]) rfl ?_
        have aK:Chg (· =w.heap.size+1+1) X ((X.setCell ⟨w.heap.size+1+1,0,none⟩ (.slice none 0 0)).setCell ⟨w.heap.size+1+1,1,none⟩ (.string ⟨#[]⟩)):=by
         apply Chg.setCell (S:=fun x=>x=w.heap.size+1+1) ?_ (by rfl)
         apply Chg.setCell (S:=fun x=>x=w.heap.size+1+1) ?_ (by rfl)
         exact Chg.refl X
        have bu:∀ z,z=w.heap.size+1+1->zZ X z:=fun z e=>by
         subst e;refine aA.o.noDig (Zq ?_);intro u hu;simp at hu
         rcases hu with rfl | rfl
         . exact zM _ _ _
         . exact yq _
        have aJ:Ye l F Q=false:=by
         unfold Ye;rw [decide_eq_false (fun h=>cD.o (by rw [<- bm.o];exact h _ (List.getElem_mem aV)))]
         rfl
        refine ⟨l,_,aW.o,by rw [aJ],fun h=>absurd (aJ.symm.trans h) (by decide),⟨_,_,_,_,rfl⟩,B.o.book.chg aK (B.o.book.neB aA.o) bu,B.o.chg.trans (S:=fun x=>x=b) (T:=fun x=>x=w.heap.size+1+1) aK (fun x j e=>by omega)⟩
      rw [show (!decide (yo 12 r))=false by simp [aC]]
      have cx:=ze aC;clear aC
      go_upto_region 9 with fail
      have av:∀ x,tv.ownBlock=some x->Bn<=x:=fun x e=>(ac.o.1.lt x e).1
      have nO:¬ tv.ownBlock=some gO:=fun e=>by have:=av _ e;have:=B.o.lo;omega
      have J:¬ tv.ownBlock=some O:=fun e=>by have:=av _ e;have:=B.o.ls;omega
      have nM:¬ tv.ownBlock=some gm:=fun e=>by have:=av _ e;have:=B.o.lm;omega
      obtain ⟨g0,gL⟩:=B.o.box.map;have o0:=I.o.cell 0;simp at o0;obtain ⟨D,ay,_,bO⟩:=id B.o.map;have az (w' :World) (h:ZM w' gm D):=ZZ (w:=w') YE Vv (zcq _) h l[k] false;simp only [Bool.false_eq_true,if_false] at az;obtain ⟨v,bc⟩:∃ v,v=(za6 l[k] D).getD (.agg #[.int .i64 0,.slice none 0 0,.bool false,.int .i64 0,.slice none 0 0,.bool false]):=⟨_,rfl⟩;rw [<- bc] at az
      have E:yc X v r:=by
       have h1:=bO l[k];rw [HR.o] at h1
       split at h1
       . cases h1
       rename_i u hu
       obtain ⟨q',e1,e2⟩:=h1;injection e1 with e1
       subst e1;rw [bc,hu];exact e2
      have HV:=ze E;obtain ⟨N,aD⟩:∃ N,N=zw r:=⟨_,rfl⟩;have aO:=ze aD;clear E bO bc aD;refine zJ (S:=fun w' =>Hid (Chg (fun x=>tv.ownBlock=some x) X w')/\w'.cell? ⟨gO,0,none⟩=some tv/\w'.cell? ⟨O,0,none⟩=some (.map (some gm))/\(Instr.lookup 92 (.map (some gm)) (str l[k]) false).run Tryz.prog w' = .ok v w') 12 (by kernel_rfl) (by kernel_rfl) (zl (Zo X) (fun hB=>⟨zX hB o0 nO,zX hB g0 J,az _ (hB.out.map ay nM)⟩)) (fun hHeld=>?_);refine HH.tk 0 ?_;refine HH.tk 1 ?_;refine HH.tk 2 ?_;refine HH.tk 3 ?_;refine HH.tk 4 ?_;refine HH.tk 5 ?_;refine HH.tk 6 ?_;refine HH.rd 7 (fun K hK=>?_)
      go_simp
      go_at_call 29;refine (V4 _ r _ (HV.o.below (zu X).out) ch.o).mono ?_;rintro e w7 ⟨rfl,bd⟩;rw [<- aO.o];have bV:=((zu X).out).trans (bd.mono (Nat.le_of_eq rfl));have ab:=hHeld;clear hHeld;refine hK.out _ _ (zl (vT bd ab.1) (fun hB=>⟨zX hB o0 nO,zX hB g0 J,az _ (hB.out.map ay nM)⟩)) (fun hHeld=>?_);clear ab hK K
      try simp only [Act.put,xST]
      clear bd;refine HH.tk 8 ?_;refine HH.rd 9 (fun K hK=>?_)
      go_simp
      have j:=zf w7 (.cells #[str l[k],str N] 35);have ab:=hHeld;clear hHeld;refine hK.out _ _ (zl (vT (zf _ _) ab.1) (fun hB=>⟨zX hB o0 nO,zX hB g0 J,az _ (hB.out.map ay nM)⟩)) (fun hHeld=>?_);clear ab hK K
      try simp only [Act.put,xST]
      have ak:=ext bV j;have be:=ze (B.o.below ak);have aY:=ze (ac.o.below ak);have bK:=ze (I.o.below ak I.o.lt);have bP:=ze (zF.below af.o ak);have b9:=ZI (w:=w7) (t:=35) (a:=str l[k]) (b:=str N);have cl:=yJ (a:=str l[k]) (b:=str N) (p:=fun u=>u.oneCell' =true) rfl rfl;have ck:=yJ (a:=str l[k]) (b:=str N) (p:=Z0) (yq _) (yq _);have bS:∀ u∈(Value.agg #[.string ⟨#[]⟩,.string ⟨#[]⟩]).cells,Z0 u:=by intro u hu;simp [Value.cells] at hu;subst hu;exact yq _
      obtain ⟨i1,cF,cE,cB,cu⟩:=info_parts zcn;have ci:=be.o.bn;clear ak j bV;refine HH.ready (rs:=[10]) (by kernel_rfl) (by simp) (by kernel_rfl) ?_;refine yV.cons (o:=_) rfl (fun K hK=>?_) yV.nil;rw [if_pos (by rfl)];refine xk (P:=Tryz.prog) (.tmp 53) (.tmp 61) _ rfl Bn 35 i1 _ 2 32 underlying30 cF cE cB cu rfl (by omega) _ k _ rfl aY.o ⟨w7.heap.size,0,none⟩ 1 1 [str l[k],str N] rfl rfl (by omega) b9 cl ck bS (by have:=HL.o;unfold maxLen;omega) (by have:=HL.o;omega) ci ?_;intro cN w9 am cg cv;obtain ⟨g3,bv,cH,_,_⟩:=am.1.form (by omega);subst cH;have aI:=xP cg;have bR:=be.o.own aY.o aI;have G:=aI.blk bK.o nO;have bW:zF w9 Bn (.slice (some an) l.length cn) l:=zF.chg bP.o aI (fun x j e=>by have:=av _ e;omega);have ar:Chg (· =gO) w9 (w9.setCell ⟨gO,0,none⟩ (.slice (some ⟨g3,0,none⟩) (k+1) bv)):=Chg.setCell (S:=(· =gO)) (Chg.refl w9) (p:=⟨gO,0,none⟩) rfl _
      have bL:yP k (Zb (yB l F)) (Zg (yB l F)) ++ [str l[k],str N]=yP (k+1) (Zb (yB l F)) (Zg (yB l F)):=by
       have hd:(yB l F).getD k default={ name:=l[k],coef:=zw ((F l[k]).getD 0) }:=by
        unfold yB
        simp [List.getD,List.getElem?_eq_getElem aV]
       rw [vJ];unfold Zb Zg;rw [hd,bm.o, <- aO.o]
      rw [bL] at am
      have aq:=ze (am.chg ar (fun c hc e=>by
       subst e;have:=(am.1.lt _ hc).1;have:=B.o.lo
       omega))
      have Z:=ze (bR.out_ G (xN aY.o) ar);have au:=ze (G.set_ 0 (.slice (some ⟨g3,0,none⟩) (k+1) bv));have co:Hid (zF (w9.setCell ⟨gO,0,none⟩ (.slice (some ⟨g3,0,none⟩) (k+1) bv)) Bn (.slice (some an) l.length cn) l):=zF.chg2 bW ar (fun ad e hh=>by have:=ce.o ad e;omega);have r0:=G.cell 0;have q0:=G.frozen 0;simp at r0;have ab:=hHeld;clear hHeld;refine hK.out _ _ (zl (ZY aI ab.1) (fun hB=>⟨zX hB o0 nO,zX hB g0 J,az _ (hB.out.map ay nM)⟩)) (fun hHeld=>?_);clear ab hK K
      try simp only [Act.put,xST]
      clear aI bR G bW ar bL am cg cv ci b9 cl ck bS be aY bK bP av B ac I af az ay nO J nM;refine HH.tk 11 ?_;have br:=(hHeld.1).out;clear br hHeld;refine HH.done (by kernel_rfl) ?_;simp only [List.drop_succ_cons,List.drop_zero];clear o0 g0 gL;have cR:IntKind.i64.wrap ((k:Int)+1)=((k+1:Nat):Int):=by rw [IntKind.wrap_i64];have:=HL.o;omega
      have cz:Hid (∀ i (h:i<l.length),i<k+1->yo 12 ((F l[i]).getD 0)):=ze (fun i h hi=>by
       by_cases e:i=k
       . subst e;rw [bm.o];exact cx.o
       exact bD.o i h (by omega))
      go_wp2_with fail;go_roundw
      case rel=>exact ⟨k+1,_,by omega,by go_num,Z,aq,au,co,cz⟩
      case measure=>simp [intOf];omega
def zit (w:World) (v:Value) (n:Nat) (f:Nat->Rat):Prop:=∃ A c,v= .slice A n c/\(0<n->∃ g L,A=some ⟨g,0,none⟩/\n<=L/\za0 w g L n f)
theorem zit.below {w w' :World} {v:Value} {n:Nat} {f:Nat->Rat} (h:zit w v n f) (hb:Below w.heap.size w w'):zit w' v n f:=by
 obtain ⟨A,c,e,h⟩:=h
 refine ⟨A,c,e,fun hn=>?_⟩
 obtain ⟨g,L,b,j,l⟩:=h hn
 exact ⟨g,L,b,j,l.below hb⟩
def Y9 (rows:List zQ) (ws:Nat->Rat):Nat->List (List UInt8)
 | 0=>[]
 | n+1=>if ws n=0 then Y9 rows ws n else Y9 rows ws n ++ (rows.getD n default).terms.map (·.name)
def Vr (rows:List zQ) (ws:Nat->Rat) (s:List UInt8):Nat->Rat
 | 0=>0
 | n+1=>if ws n=0 then Vr rows ws s n else Vr rows ws s n+xU (rows.getD n default).terms s*ws n
def yy (rows:List zQ) (ws:Nat->Rat) (l:List (List UInt8)):List zR:=(l.filter fun s=>decide (Vr rows ws s rows.length≠0)).map fun s=>{ name:=s,coef:=zw (Vr rows ws s rows.length) }
structure zo0 (rows:List zQ) (ws:Nat->Rat):Prop where
 few:rows.length<=800
 coefs:∀ i,i<rows.length->Vd (rows.getD i default).terms
 bnd:∀ i,i<rows.length->zp (rows.getD i default).bound=some (VT (rows.getD i default))
 small:∀ i,i<rows.length->zN (rows.getD i default).bound
 bl:∀ i,i<rows.length->XE 8388608 (VT (rows.getD i default))/\XE 8388608 (VT (rows.getD i default)*ws i)
 wl:∀ i,i<rows.length->XE 8388608 (ws i)
 bs:∀ i,i<=rows.length->XE 8388608 (Xh rows ws i)
 cl:∀ i s,i<rows.length->XE 8388608 (xU (rows.getD i default).terms s)/\XE 8388608 (xU (rows.getD i default).terms s*ws i)
 cs:∀ i s,i<=rows.length->XE 8388608 (Vr rows ws s i)
 cnt:∀ i,i<rows.length->(Y9 rows ws i).length+(rows.getD i default).terms.length<=100000
 out:∀ s,zN (zw (Vr rows ws s rows.length))
theorem Yr (q:Rat):(q.num.sign=0)↔q=0:=by
 rw [Int.sign_eq_zero_iff_zero]
 exact Rat.num_eq_zero
theorem zj8 (w:World):zF w w.heap.size (.slice none 0 0) []:=⟨none,0,rfl,Nat.le_refl _,by unfold maxLen;omega,by simp,zV.none_,fun x hx=>by cases hx⟩
theorem NBx.chg {S:Nat->Prop} {w w' :World} {g:Nat} {q:Rat} (h:NBx w g q) (hc:Chg S w w') (hg:¬ S g) (hS:∀ x,S x->zf4 w x):NBx w' g q:=by
 obtain ⟨_,_,_,_,_,_,_,b,e⟩:=h
 exact ⟨_,_,_,_,_,_,_,hc.blk b hg,hc.ref e hS⟩
theorem zF.off {w w' :World} {B g:Nat} {v:Value} {l:List (List UInt8)} {t:TypeId} {cs:Array Value} (h:zF w B v l) (hk:Blk w g t cs) (hn:∀ u∈cs,∀ s,u≠ .string s) (hc:Chg (· =g) w w'):zF w' B v l:=by
 obtain ⟨A,c,e,I,C,J,y,E⟩:=h
 refine ⟨A,c,e,I,C,J,⟨y.1,fun h0=>?_⟩,E⟩
 obtain ⟨m,F,hb,r⟩:=y.2 h0
 have z:m.block≠g:=fun e3=>by
  have G:(l.map str)[0]?=some (str (l[0]'h0)):=by rw [List.getElem?_map,List.getElem?_eq_getElem h0];rfl
  have b:=r 0 _ G
  have D:(m.add 0).block=g:=by rw [zz];exact e3
  unfold Blk at hk
  rw [<- D] at hk
  simp only [World.cell?,hk] at b
  split at b
  . cases b
  exact hn _ (Array.mem_of_getElem? b) _ rfl
 exact ⟨m,F,hb,fun j u hu=>hc.cell (r j u hu) (by rw [zz];exact z)⟩
theorem zru {ng:Bool} {X Y:Option Addr} {a b c d:Nat}:∀ u∈#[Value.bool ng,.slice X a b,.slice Y c d],∀ s,u≠ .string s:=by
 intro u hu s e
 subst e
 simp at hu
theorem zcy {w:World} {g:Nat} {ng:Bool} {A B:Option Addr} {n c m d:Nat}:Chg (· =g) w (World.ref w g ng A n c B m d):=by
 simp only [World.ref]
 apply Chg.setCell (S:=fun b=>b=g) ?_ (by rfl)
 apply Chg.setCell (S:=fun b=>b=g) ?_ (by rfl)
 apply Chg.setCell (S:=fun b=>b=g) ?_ (by rfl)
 exact Chg.refl w
structure JoK (w0 w:World) (gO Bn:Nat) (nv tv:Value) (l:List (List UInt8)) (T:List zR) (bt:List UInt8):Prop where
 own:Zm w Bn 35 2 tv T.length (yP T.length (Zb T) (Zg T))
 out:Blk w gO 33 #[tv,str bt]
 names:zF w gO nv l
 res:Blk w w0.heap.size 33 #[.slice none 0 0,.string ⟨#[]⟩]
 below:Below w0.heap.size w0 w
 lo:gO<Bn
 bn:Bn<=w.heap.size
 ho:w0.heap.size<gO
theorem JoK.ext_ {w0 w w' :World} {gO Bn:Nat} {nv tv:Value} {l:List (List UInt8)} {T:List zR} {bt:List UInt8} (h:JoK w0 w gO Bn nv tv l T bt) (hb:Below w.heap.size w w'):JoK w0 w' gO Bn nv tv l T bt:=
 ⟨h.own.below hb,h.out.below hb h.out.lt,zF.below h.names hb,h.res.below hb h.res.lt,ext h.below hb,h.lo,Nat.le_trans h.bn hb.size,h.ho⟩
theorem JoK.num {w0 w w' :World} {gO Bn g:Nat} {nv tv:Value} {l:List (List UInt8)} {T:List zR} {bt:List UInt8} {cs:Array Value} (h:JoK w0 w gO Bn nv tv l T bt) (hk:Blk w g 64 cs) (hg:gO<g) (hc:Chg (· =g) w w'):JoK w0 w' gO Bn nv tv l T bt:=
 ⟨h.own.chg hc (fun c hc2 e=>by
  subst e
  obtain ⟨b,q⟩:=h.own.heap hc2
  exact yX hk q (by decide) rfl),hc.blk h.out (yX h.out hk (by decide)),zF.chg h.names hc (fun x hx e=>by omega),hc.blk h.res (yX h.res hk (by decide)),h.below.trans (hc.below h.below.size (fun x e=>by have:=h.ho;omega)),h.lo,Nat.le_trans h.bn hc.size,h.ho⟩
def JoB (w0:World) (rows:List zQ) (ws:Nat->Rat) (gO Bn:Nat) (nv:Value) (l:List (List UInt8)) (bt:List UInt8) (kv:Value) (wr:World):Prop:=
 ∃ (k:Nat) (tv:Value),k<=l.length/\kv= .int .i64 k/\Hid (JoK w0 wr gO Bn nv tv l (yy rows ws (l.take k)) bt)
def JoC (w0:World) (rows:List zQ) (ws:Nat->Rat) (gO Bn gS:Nat) (nv tv:Value) (l:List (List UInt8)) (T:List zR) (bt s:List UInt8) (iv:Value) (wr:World):Prop:=
 ∃ (i:Nat),i<=rows.length/\iv= .int .i64 i/\Hid (JoK w0 wr gO Bn nv tv l T bt)/\Hid (NBx wr gS (Vr rows ws s i))
theorem zpr {rows:List zQ} {ws:Nat->Rat} {l:List (List UInt8)} {k:Nat} (h:k<l.length):
 (Vr rows ws l[k] rows.length=0->yy rows ws (l.take (k+1))=yy rows ws (l.take k))/\
 (Vr rows ws l[k] rows.length≠0->yy rows ws (l.take (k+1))=yy rows ws (l.take k) ++ [{ name:=l[k],coef:=zw (Vr rows ws l[k] rows.length) }]):=by
 have e:l.take (k+1)=l.take k ++ [l[k]]:=by rw [List.take_add_one,List.getElem?_eq_getElem h];rfl
 unfold yy
 rw [e,List.filter_append,List.map_append]
 simp only [List.filter_cons,List.filter_nil]
 refine ⟨fun h0=>?_,fun h0=>?_⟩
 . simp [h0]
 simp [h0]
theorem zlv {rows:List zQ} {ws:Nat->Rat} {l:List (List UInt8)}:(yy rows ws l).length<=l.length:=by
 unfold yy
 rw [List.length_map]
 exact List.length_filter_le _ _
def JoA (w0:World) (rows:List zQ) (ws:Nat->Rat) (gB:Nat) (nv iv:Value) (wr:World):Prop:=
 ∃ (i:Nat) (v:Value) (l:List (List UInt8)),i<=rows.length/\iv= .int .i64 i/\v=nv/\Hid (xC l (Y9 rows ws i))/\Hid (zF wr wr.heap.size v l)/\Hid (NBx wr gB (Xh rows ws i))/\Hid (Blk wr w0.heap.size 33 #[.slice none 0 0,.string ⟨#[]⟩])/\Hid (Below w0.heap.size w0 wr)
def zun (w:World) (rows:List zQ) (ws:Nat->Rat) (e:Ending) (w' :World):Prop:=
 ∃ l A c,xC l (Y9 rows ws rows.length)/\e= .returned (.agg #[.slice A (yy rows ws l).length c,str (zw (Xh rows ws rows.length))])/\zk w' w'.heap.size (.slice A (yy rows ws l).length c) (yy rows ws l)/\TyT w' (.slice A (yy rows ws l).length c)/\Below w.heap.size w w'
theorem znn (A:Option Addr) (n c:Nat) (wv:Value) (rows:List zQ) (ws:Nat->Rat) (w:World) (hr:yN w (.slice A n c) rows) (hw:zit w wv rows.length ws) (ho:zo0 rows ws):
 Calls Tryz.prog 47 #[.slice A n c,wv] w (zun w rows ws):=by
 obtain rfl:=hr.len
 obtain ⟨AW,cW,rfl,_⟩:=id hw
 have h8:=ho.few
 have bg:=ze hr
 have bB:=ze hw
 have HO:=ze ho
 have M:=zf w (.cells #[.slice none 0 0,.string ⟨#[]⟩] 33)
 have C:=ze (Blk.new w 33 #[.slice none 0 0,.string ⟨#[]⟩])
 have z:=ze M
 clear hr hw ho M
 go_enter func47,ntmps47
 go_wp2_with fail
 refine (zgl _).mono ?_
 rintro e w1 ⟨v,rfl,hv,aV⟩
 obtain ⟨ng,X,n1,c8,Y,n2,c9,rfl⟩:zvy v:=by obtain ⟨ng,X,n1,c8,Y,n2,c9,h6,_⟩:=hv;exact ⟨_,_,_,_,_,_,_,h6⟩
 have U:=zf w1 (.cells #[.bool ng,.slice X n1 c8,.slice Y n2 c9] 64)
 have D:Hid (NBx (w1.alloc (.cells #[.bool ng,.slice X n1 c8,.slice Y n2 c9] 64)) w1.heap.size (Xh rows ws 0)):=⟨_,_,_,_,_,_,_,Blk.new w1 _ _,hv.below U⟩
 have F:=aV.trans (U.mono aV.size)
 have aZ:Hid (w.heap.size<w1.heap.size):=ze (by have:=C.o.lt;have:=aV.size;omega)
 replace C:=kb_ C F
 replace z:=eb_ z F
 clear aV U F hv
 go_upto_region 3 with fail
 generalize w1.alloc (.cells #[.bool ng,.slice X n1 c8,.slice Y n2 c9] 64)=W at D C z |-
 generalize w1.heap.size=gB at D aZ |-
 go_wp2_with fail
 go_loopw [5,7] (JoA w rows ws gB) (fun _ iv _=>rows.length - (intOf iv).toNat)
 case atStart=>exact ⟨0,_,[],Nat.zero_le _,rfl,rfl,ze ⟨List.Pairwise.nil,fun x=>by simp [Y9]⟩,ze (zj8 _),D,C,z⟩
 case round=>
  clear D C z
  obtain ⟨i,v,l,hi,rfl,rfl,aM,ab,D,C,z⟩:=hrel
  by_cases Z:i<rows.length
  . have bV:(i:Int)<(rows.length:Int):=by omega
    have cd:IntKind.i64.wrap ((i:Int)+1)=((i+1:Nat):Int):=by rw [IntKind.wrap_i64];omega
    have ah:rows.getD i default=rows[i]:=by simp [List.getD,List.getElem?_eq_getElem Z]
    obtain ⟨A',c',e,aB⟩:=bB.o.below z.o;injection e with e1 e2 e3
    subst e1;obtain ⟨gw,L,e4,bZ,au⟩:=aB (by omega);subst e4;obtain ⟨aQ,Xw,az,aG,Yw,aO,aP,c0,c1,c2,ai⟩:=au.2 i Z;have V:=ze ai;have ag:=ze au;clear aB au ai e2 e3;go_wp2_with fail;refine (X9 _ (ws i) wr V.o).mono ?_;rintro e Q ⟨rfl,F⟩;replace ab:=ze ((zF.below ab.o F).more F.size);replace D:=ze (D.o.below F);replace C:=kb_ C F;replace z:=eb_ z F;replace ag:=ze (ag.o.below F);clear F c0 c1 c2 V
    by_cases M:ws i=0
    . have ak:(ws i).num.sign=0:=(Yr _).2 M
      rw [ak];have al:Hid (Y9 rows ws (i+1)=Y9 rows ws i/\Xh rows ws (i+1)=Xh rows ws i):=ze ⟨by rw [Y9,if_pos M],by rw [Xh,if_pos M]⟩;clear M ak ah ag;go_wp2_with fail;go_roundw
      case rel=>exact ⟨i+1,_,l,by omega,by go_num,rfl,by rw [al.o.1];exact aM,ab,by rw [al.o.2];exact D,C,z⟩
      case measure=>simp [intOf];omega
    obtain ⟨σ,hσ⟩:∃ σ,σ=(ws i).num.sign:=⟨_,rfl⟩
    have aC:¬ σ=0:=fun e=>M ((Yr _).1 (hσ.symm.trans e))
    rw [<- hσ];have al:Hid (Y9 rows ws (i+1)=Y9 rows ws i ++ rows[i].terms.map (·.name)/\Xh rows ws (i+1)=Xh rows ws i+VT rows[i]*ws i):=ze ⟨by rw [Y9,if_neg M,ah],by rw [Xh,if_neg M,ah]⟩;clear hσ M
    go_upto_region 7 with fail
    clear aC;have HR:=ze (zT.below' bg.o z.o);obtain ⟨ad,AT,nt,ct,eA,bh,p0,p1,ht,aw⟩:=HR.o.at_ Z;subst eA;have b4:=ht.len;subst b4;obtain ⟨An,cn,rfl,_⟩:=id ab.o;have a2:=HO.o.cnt i Z;rw [ah] at a2;have bz:=zkt An AT l.length cn _ ct w.heap.size l (Y9 rows ws i) rows[i].terms Q ab.o aM.o ht z.o.size a2;have bp:=ze bz;clear bz a2 aw;go_wp2_with fail;refine bp.o.mono ?_;rintro e w3 ⟨v3,l3,rfl,bm,bw,aK⟩;have b8:=ze bm;have ao:=ze bw;replace D:=ze (D.o.below aK);replace C:=kb_ C aK;replace z:=eb_ z aK;replace ag:=ze (ag.o.below aK);clear bm bw aK bp ab aM p0 p1 ht HR
    go_upto_region 8 with fail
    have HR:=ze (zT.below' bg.o z.o);obtain ⟨ck,cj,ch,ce,eA,b0,p0,p1,ht,aw⟩:=HR.o.at_ Z;injection eA with eA
    subst eA;have aL:ad.block<w3.heap.size:=Nat.lt_of_lt_of_le bh z.o.size;obtain ⟨aQ,Xw,az,aG,Yw,aO,aP,c0,c1,c2,ai⟩:=ag.o.2 i Z;have V:=ze ai;have G:=ag.o.lt;obtain ⟨ng,X,n1,c8,Y,n2,c9,O,aj⟩:=D.o;have y:=ze O;have J:=ze aj;have E:=O.cell 0;have o1:=O.cell 1;have o2:=O.cell 2;have I:=O.lt;simp at E o1 o2;have be:=HO.o.bnd i Z;rw [ah] at be;have a5:=HO.o.bl i Z;rw [ah] at a5;have bL:=ze (fun w=>Yx rows[i].bound (VT rows[i]) w aw be);have bK:=ze a5;have a9:=ze (HO.o.wl i Z);have b5:=ze (HO.o.bs i hi);obtain ⟨bd,aF⟩:∃ bd,rows[i].bound=bd:=⟨_,rfl⟩;rw [aF] at bL p1;clear ai O aj D HR be a5 ht aw p0 b0 aF ah
    refine zJ (S:=fun w' =>Hid (Below w3.heap.size w3 w')/\w'.cell? ⟨gB,0,none⟩=some (.bool ng)/\w'.cell? ⟨gB,1,none⟩=some (.slice X n1 c8)/\w'.cell? ⟨gB,2,none⟩=some (.slice Y n2 c9)/\w'.cell? ⟨(ad.add (i*2)).block,(ad.add (i*2)).off+1,none⟩=some (str bd)/\w'.cell? ⟨gw,i*3,none⟩=some (.bool aQ)/\w'.cell? ⟨gw,i*3+1,none⟩=some (.slice Xw az aG)/\w'.cell? ⟨gw,i*3+2,none⟩=some (.slice Yw aO aP)) 13 (by kernel_rfl) (by kernel_rfl) (zl (zu w3) (fun hB=>⟨zh hB I E,zh hB I o1,zh hB I o2,XT hB aL p1,zh hB G c0,zh hB G c1,zh hB G c2⟩)) (fun hHeld=>?_);refine HH.tk 0 ?_;refine HH.tk 1 ?_;refine HH.tk 2 ?_;refine HH.tk 3 ?_;refine HH.tk 4 ?_;refine HH.tk 5 ?_;refine HH.tk 7 ?_;refine HH.tk 8 ?_;refine HH.tk 9 ?_;refine HH.tk 10 ?_;refine HH.rd 6 (fun K hK=>?_)
    go_simp
    go_at_call 22;have ae:=(zu w3).out;replace ao:=ze ((zF.below ao.o ae).more ae.size);replace C:=kb_ C ae;replace y:=kb_ y ae;replace J:=ze (J.o.below ae);replace V:=ze (V.o.below ae);replace z:=eb_ z ae;clear ae;refine (bL.o _).mono ?_;rintro e w4 ⟨v4,rfl,am,R⟩;replace ao:=ze ((zF.below ao.o R).more R.size);replace C:=kb_ C R;replace y:=kb_ y R;replace J:=ze (J.o.below R);replace V:=ze (V.o.below R);replace z:=eb_ z R;have aN:=ze am;have N:=hHeld;clear hHeld;refine hK.out _ _ (zl (zr R (zu w3)) (fun hB=>⟨zh hB I E,zh hB I o1,zh hB I o2,XT hB aL p1,zh hB G c0,zh hB G c1,zh hB G c2⟩)) (fun hHeld=>?_);clear N hK K
    try simp only [Act.put,xST]
    clear R am;refine HH.rd 11 (fun K hK=>?_)
    go_simp
    go_at_call 84;refine (zaz _ _ (VT rows[i]) (ws i) _ aN.o V.o bK.o.1 a9.o).mono ?_;rintro e w6 ⟨v6,rfl,aR,af⟩;replace ao:=ze ((zF.below ao.o af).more af.size);replace C:=kb_ C af;replace y:=kb_ y af;replace J:=ze (J.o.below af);replace z:=eb_ z af;have aA:=ze aR;have N:=hHeld;clear hHeld;refine hK.out _ _ (zl (zr af N.1) (fun hB=>⟨zh hB I E,zh hB I o1,zh hB I o2,XT hB aL p1,zh hB G c0,zh hB G c1,zh hB G c2⟩)) (fun hHeld=>?_);clear N hK K
    try simp only [Act.put,xST]
    clear af aR aN V;refine HH.rd 12 (fun K hK=>?_)
    go_simp
    go_at_call 83;refine (zb4 _ _ (Xh rows ws i) (VT rows[i]*ws i) _ J.o aA.o b5.o bK.o.2).mono ?_;rintro e w7 ⟨v7,rfl,ap,aa⟩;replace ao:=ze ((zF.below ao.o aa).more aa.size);replace C:=kb_ C aa;replace y:=kb_ y aa;replace z:=eb_ z aa;obtain ⟨g7,X7,a7,b7,Y7,d7,f7,rfl⟩:zvy v7:=by obtain ⟨g7,X7,a7,b7,Y7,d7,f7,h6,_⟩:=ap;exact ⟨_,_,_,_,_,_,_,h6⟩
    rw [<- al.o.2] at ap;have aX:=ze ap;have f0:=y.o.frozen 0;have f1:=y.o.frozen 1;have f2:=y.o.frozen 2;have g0:=y.o.cell 0;have g1:=y.o.cell 1;have g2:=y.o.cell 2;simp at g0 g1 g2;have N:=hHeld;clear hHeld;refine hK.out _ _ (zl (zr aa N.1) (fun hB=>⟨zh hB I E,zh hB I o1,zh hB I o2,XT hB aL p1,zh hB G c0,zh hB G c1,zh hB G c2⟩)) (fun hHeld=>?_);clear N hK K
    try simp only [Act.put,xST]
    clear aa ap aA J;have aH:=(hHeld.1).out;clear aH hHeld;refine HH.done (by kernel_rfl) ?_;simp only [List.drop_succ_cons,List.drop_zero];clear E o1 o2 I p1 aL c0 c1 c2 G;go_wp2_with fail;have bf:Hid (NBx (World.ref w7 gB g7 X7 a7 b7 Y7 d7 f7) gB (Xh rows ws (i+1))):=⟨_,_,_,_,_,_,_,yT y.o,xf.stored aX.o y.o⟩;have bU:=ze (zur (ng:=g7) (A:=X7) (n:=a7) (c:=b7) (B:=Y7) (m:=d7) (d:=f7) C.o (show w.heap.size≠gB by have:=aZ.o;omega));have cb:=ze (yK (ng:=g7) (A:=X7) (n:=a7) (c:=b7) (B:=Y7) (m:=d7) (d:=f7) z.o (Nat.le_of_lt aZ.o));have ca:Hid (zF (World.ref w7 gB g7 X7 a7 b7 Y7 d7 f7) (World.ref w7 gB g7 X7 a7 b7 Y7 d7 f7).heap.size v3 l3):=(zF.off ao.o y.o zru zcy).more zcy.size;go_roundw
    case rel=>exact ⟨i+1,_,l3,by omega,by go_num,rfl,by rw [al.o.1];exact b8,ca,bf,bU,cb⟩
    case measure=>simp [intOf];omega
  obtain rfl:rows.length=i:=by omega
  obtain ⟨ng,X,n1,c8,Y,n2,c9,O,aj⟩:=D.o;have J:=ze aj;have E:=O.cell 0;have o1:=O.cell 1;have o2:=O.cell 2;simp at E o1 o2;clear O aj D;go_wp2_with fail;refine (zcm _ (Xh rows ws rows.length) wr J.o ((HO.o.bs _ (Nat.le_refl _)).mono (by omega))).mono ?_;rintro e Q ⟨rfl,F⟩;obtain ⟨bt,aY⟩:∃ bt,bt=zw (Xh rows ws rows.length):=⟨_,rfl⟩;rw [<- aY];have bS:=ze aY;clear E o1 o2 J aY;replace ab:=ze ((zF.below ab.o F).more F.size);replace C:=kb_ C F;replace z:=eb_ z F;clear F;have U:=zf Q (.cells #[.slice none 0 0,str bt] 33);have y:=ze (Blk.new Q 33 #[.slice none 0 0,str bt]);have bb:=ze (show w.heap.size<Q.heap.size from C.o.lt);replace ab:=ze (zF.below ab.o U);replace C:=kb_ C U;replace z:=eb_ z U;clear U
  go_upto_region 10 with fail
  generalize Q.alloc (.cells #[.slice none 0 0,str bt] 33)=W3 at y ab C z |-;generalize Q.heap.size=gO at y bb ab |-;obtain ⟨An,cn,rfl,_⟩:=id ab.o;have a8:l.length<=100000:=by obtain ⟨_,_,_,_,_,h,_⟩:=id ab.o;exact h
  have bI:=ze a8
  have bJ:Hid (JoK w W3 gO (gO+1) (.slice An l.length cn) (.slice none 0 0) l (yy rows ws (l.take 0)) bt):=ze (by
   rw [List.take_zero]
   exact ⟨Zz _ _ _ _,y.o,ab.o,C.o,z.o,Nat.lt_succ_self _,y.o.lt,bb.o⟩)
  have b6:=aM;clear a8 y ab C z bb aM;go_wp2_with fail
  go_loopw [9] (JoB w rows ws gO (gO+1) (.slice An l.length cn) l bt) (fun kv _=>l.length - (intOf kv).toNat)
  case atStart=>exact ⟨0,_,Nat.zero_le _,rfl,bJ⟩
  case round=>
   clear bJ;obtain ⟨k,tv,hk,rfl,r⟩:=hrel;have a8:=bI.o
   by_cases a4:k<l.length
   rotate_left
   . obtain rfl:l.length=k:=by omega
     rw [List.take_length] at r;obtain ⟨At,ct,rfl,_⟩:=zai r.o.own.1;have E:=r.o.out.cell 0;have o1:=r.o.out.cell 1;have a0:=r.o.res.cell 0;have a1:=r.o.res.cell 1;have f0:=r.o.res.frozen 0;have f1:=r.o.res.frozen 1;simp at E o1 a0 a1;go_wp2_with fail;have ar:=(r.o.res.set_ 0 (.slice At (yy rows ws l).length ct)).set_ 1 (str bt);have e0:=ar.cell 0;have e1:=ar.cell 1;simp at e0 e1;refine bodyPost_ret (v:=.agg #[.slice At (yy rows ws l).length ct,str bt]) (by simp [results,results47,go_sem,e0,e1]) rfl ?_
     have bE:Chg (· =w.heap.size) wr ((wr.setCell ⟨w.heap.size,0,none⟩ (.slice At (yy rows ws l).length ct)).setCell ⟨w.heap.size,1,none⟩ (str bt)):=by
      apply Chg.setCell (S:=fun x=>x=w.heap.size) ?_ (by rfl)
      apply Chg.setCell (S:=fun x=>x=w.heap.size) ?_ (by rfl)
      exact Chg.refl wr
     have aJ:=r.o.own.chg bE (fun c hc e=>by
      subst e;have:=(r.o.own.1.lt _ hc).1;have:=r.o.ho
      omega)
     refine ⟨l,At,ct,b6.o,by rw [bS.o],?_,zc4 aJ.1,r.o.below.trans (bE.below r.o.below.size (fun x e=>by omega))⟩;refine Vs aJ.1 (Nat.le_trans zlv bI.o) (fun x U=>?_);unfold yy at U;obtain ⟨s0,ak,rfl⟩:=List.mem_map.1 U;refine ⟨?_,HO.o.out s0⟩;obtain ⟨_,_,_,_,_,_,_,h⟩:=id r.o.names;exact h s0 (List.mem_filter.1 ak).1
   have cf:(k:Int)<(l.length:Int):=by omega
   have ci:IntKind.i64.wrap ((k:Int)+1)=((k+1:Nat):Int):=by rw [IntKind.wrap_i64];omega
   go_wp2_with fail;refine (zgl _).mono ?_;rintro e w4 ⟨v4,rfl,am,R⟩;obtain ⟨ng,X,n1,c8,Y,n2,c9,rfl⟩:zvy v4:=by obtain ⟨ng,X,n1,c8,Y,n2,c9,h6,_⟩:=am;exact ⟨_,_,_,_,_,_,_,h6⟩
   have U:=zf w4 (.cells #[.bool ng,.slice X n1 c8,.slice Y n2 c9] 64);have D:Hid (NBx (w4.alloc (.cells #[.bool ng,.slice X n1 c8,.slice Y n2 c9] 64)) w4.heap.size (Vr rows ws l[k] 0)):=⟨_,_,_,_,_,_,_,Blk.new w4 _ _,am.below U⟩;have bD:Hid (gO<w4.heap.size):=ze (by have:=r.o.out.lt;have:=R.size;omega);replace r:=ze ((r.o.ext_ R).ext_ U);clear R U am
   go_upto_region 14 with fail
   generalize w4.alloc (.cells #[.bool ng,.slice X n1 c8,.slice Y n2 c9] 64)=W5 at D r |-;generalize w4.heap.size=gS at D bD |-;obtain ⟨T,hT⟩:∃ T,T=yy rows ws (l.take k):=⟨_,rfl⟩;rw [<- hT] at r;have bX:=ze hT;have bA:T.length<=100000:=by rw [hT];exact Nat.le_trans zlv (by rw [List.length_take];omega)
   have bx:=ze bA;clear hT bA;go_wp2_with fail
   go_loopw [11] (JoC w rows ws gO (gO+1) gS (.slice An l.length cn) tv l T bt l[k]) (fun iv _=>rows.length - (intOf iv).toNat)
   case atStart=>exact ⟨0,Nat.zero_le _,rfl,r,D⟩
   case round=>
    clear r D;obtain ⟨i,hi,rfl,r,D⟩:=hrel
    by_cases Z:i<rows.length
    . have bV:(i:Int)<(rows.length:Int):=by omega
      have cd:IntKind.i64.wrap ((i:Int)+1)=((i+1:Nat):Int):=by rw [IntKind.wrap_i64];omega
      have ah:rows.getD i default=rows[i]:=by simp [List.getD,List.getElem?_eq_getElem Z]
      obtain ⟨A',c',e,aB⟩:=bB.o.below r.o.below;injection e with e1 e2 e3
      subst e1;obtain ⟨gw,L,e4,bZ,au⟩:=aB (by omega);subst e4;obtain ⟨aQ,Xw,az,aG,Yw,aO,aP,c0,c1,c2,ai⟩:=au.2 i Z;have V:=ze ai;have ag:=ze au;clear aB au ai e2 e3;go_wp2_with fail;refine (X9 _ (ws i) wr V.o).mono ?_;rintro e Q ⟨rfl,F⟩;replace r:=ze (r.o.ext_ F);replace D:=ze (D.o.below F);replace ag:=ze (ag.o.below F);clear F c0 c1 c2 V
      by_cases M:ws i=0
      . have ak:(ws i).num.sign=0:=(Yr _).2 M
        rw [ak];have al:Hid (Vr rows ws l[k] (i+1)=Vr rows ws l[k] i):=ze (by rw [Vr,if_pos M]);clear M ak ah ag;go_wp2_with fail;go_roundw
        case rel=>exact ⟨i+1,by omega,by go_num,r,by rw [al.o];exact D⟩
        case measure=>simp [intOf];omega
      obtain ⟨σ,hσ⟩:∃ σ,σ=(ws i).num.sign:=⟨_,rfl⟩
      have aC:¬ σ=0:=fun e=>M ((Yr _).1 (hσ.symm.trans e))
      rw [<- hσ];have al:Hid (Vr rows ws l[k] (i+1)=Vr rows ws l[k] i+xU rows[i].terms l[k]*ws i):=ze (by rw [Vr,if_neg M,ah]);clear hσ M
      go_upto_region 18 with fail
      clear aC;have HR:=ze (zT.below' bg.o r.o.below);obtain ⟨ad,AT,nt,ct,eA,bh,p0,p1,ht,aw⟩:=HR.o.at_ Z;have aL:ad.block<Q.heap.size:=Nat.lt_of_lt_of_le bh r.o.below.size;obtain ⟨an,eN,bq,p2⟩:=r.o.names.at_ a4;have nL:an.block<Q.heap.size:=Nat.lt_trans bq r.o.out.lt;subst eA;subst eN;obtain ⟨aQ,Xw,az,aG,Yw,aO,aP,c0,c1,c2,ai⟩:=ag.o.2 i Z;have V:=ze ai;have G:=ag.o.lt;obtain ⟨ng,X,n1,c8,Y,n2,c9,O,aj⟩:=D.o;have y:=ze O;have J:=ze aj;have E:=O.cell 0;have o1:=O.cell 1;have o2:=O.cell 2;have I:=O.lt;simp at E o1 o2;have a3:=HO.o.cl i l[k] Z;rw [ah] at a3;have a6:=HO.o.coefs i Z;rw [ah] at a6;have aE:=ze a3;have b2:=ze a6;have a9:=ze (HO.o.wl i Z);have bG:=ze (HO.o.cs i l[k] hi);have ba:=ze ht;obtain ⟨bd,aF⟩:∃ bd,rows[i].bound=bd:=⟨_,rfl⟩;rw [aF] at p1;obtain ⟨nm,aI⟩:∃ nm,l[k]=nm:=⟨_,rfl⟩;rw [aI] at p2 aE bG al D J;clear ai O aj HR a3 a6 ht aw aF ah
      refine zJ (S:=fun w' =>Hid (Below Q.heap.size Q w')/\w'.cell? ⟨gS,0,none⟩=some (.bool ng)/\w'.cell? ⟨gS,1,none⟩=some (.slice X n1 c8)/\w'.cell? ⟨gS,2,none⟩=some (.slice Y n2 c9)/\w'.cell? (ad.add (i*2))=some (.slice AT nt ct)/\w'.cell? ⟨(ad.add (i*2)).block,(ad.add (i*2)).off+1,none⟩=some (str bd)/\w'.cell? (an.add k)=some (str nm)/\w'.cell? ⟨gw,i*3,none⟩=some (.bool aQ)/\w'.cell? ⟨gw,i*3+1,none⟩=some (.slice Xw az aG)/\w'.cell? ⟨gw,i*3+2,none⟩=some (.slice Yw aO aP)) 16 (by kernel_rfl) (by kernel_rfl) (zl (zu Q) (fun hB=>⟨zh hB I E,zh hB I o1,zh hB I o2,xD hB aL p0,XT hB aL p1,xD hB nL p2,zh hB G c0,zh hB G c1,zh hB G c2⟩)) (fun hHeld=>?_);refine HH.tk 0 ?_;refine HH.tk 1 ?_;refine HH.tk 2 ?_;refine HH.tk 3 ?_;refine HH.tk 4 ?_;refine HH.tk 5 ?_;refine HH.tk 6 ?_;refine HH.tk 7 ?_;refine HH.tk 8 ?_;refine HH.tk 10 ?_;refine HH.tk 11 ?_;refine HH.tk 12 ?_;refine HH.tk 13 ?_;refine HH.rd 9 (fun K hK=>?_)
      go_simp
      go_at_call 19;have ae:=(zu Q).out;replace r:=ze (r.o.ext_ ae);replace y:=kb_ y ae;replace J:=ze (J.o.below ae);replace V:=ze (V.o.below ae);replace ba:=ze (zk.below ba.o ae);clear ae;refine (zad AT nt ct w.heap.size rows[i].terms bd nm _ ba.o r.o.below.size b2.o).mono ?_;rintro e w4 ⟨v4,rfl,am,R⟩;replace r:=ze (r.o.ext_ R);replace y:=kb_ y R;replace J:=ze (J.o.below R);replace V:=ze (V.o.below R);have aN:=ze am;have N:=hHeld;clear hHeld;refine hK.out _ _ (zl (zr R (zu Q)) (fun hB=>⟨zh hB I E,zh hB I o1,zh hB I o2,xD hB aL p0,XT hB aL p1,xD hB nL p2,zh hB G c0,zh hB G c1,zh hB G c2⟩)) (fun hHeld=>?_);clear N hK K
      try simp only [Act.put,xST]
      clear R am;refine HH.rd 14 (fun K hK=>?_)
      go_simp
      go_at_call 84;refine (zaz _ _ (xU rows[i].terms nm) (ws i) _ aN.o V.o aE.o.1 a9.o).mono ?_;rintro e w6 ⟨v6,rfl,aR,af⟩;replace r:=ze (r.o.ext_ af);replace y:=kb_ y af;replace J:=ze (J.o.below af);have aA:=ze aR;have N:=hHeld;clear hHeld;refine hK.out _ _ (zl (zr af N.1) (fun hB=>⟨zh hB I E,zh hB I o1,zh hB I o2,xD hB aL p0,XT hB aL p1,xD hB nL p2,zh hB G c0,zh hB G c1,zh hB G c2⟩)) (fun hHeld=>?_);clear N hK K
      try simp only [Act.put,xST]
      clear af aR aN V;refine HH.rd 15 (fun K hK=>?_)
      go_simp
      go_at_call 83;refine (zb4 _ _ (Vr rows ws nm i) (xU rows[i].terms nm*ws i) _ J.o aA.o bG.o aE.o.2).mono ?_;rintro e w7 ⟨v7,rfl,ap,aa⟩;replace r:=ze (r.o.ext_ aa);replace y:=kb_ y aa;obtain ⟨g7,X7,a7,b7,Y7,d7,f7,rfl⟩:zvy v7:=by obtain ⟨g7,X7,a7,b7,Y7,d7,f7,h6,_⟩:=ap;exact ⟨_,_,_,_,_,_,_,h6⟩
      rw [<- al.o] at ap;have aX:=ze ap;have f0:=y.o.frozen 0;have f1:=y.o.frozen 1;have f2:=y.o.frozen 2;have g0:=y.o.cell 0;have g1:=y.o.cell 1;have g2:=y.o.cell 2;simp at g0 g1 g2;have N:=hHeld;clear hHeld;refine hK.out _ _ (zl (zr aa N.1) (fun hB=>⟨zh hB I E,zh hB I o1,zh hB I o2,xD hB aL p0,XT hB aL p1,xD hB nL p2,zh hB G c0,zh hB G c1,zh hB G c2⟩)) (fun hHeld=>?_);clear N hK K
      try simp only [Act.put,xST]
      clear aa ap aA J;have aH:=(hHeld.1).out;clear aH hHeld;refine HH.done (by kernel_rfl) ?_;simp only [List.drop_succ_cons,List.drop_zero];clear E o1 o2 I p0 p1 p2 aL nL c0 c1 c2 G;go_wp2_with fail;have bf:Hid (NBx (World.ref w7 gS g7 X7 a7 b7 Y7 d7 f7) gS (Vr rows ws nm (i+1))):=⟨_,_,_,_,_,_,_,yT y.o,xf.stored aX.o y.o⟩;have bY:Hid (JoK w (World.ref w7 gS g7 X7 a7 b7 Y7 d7 f7) gO (gO+1) _ tv l T bt):=ze (r.o.num y.o bD.o zcy);go_roundw
      case rel=>exact ⟨i+1,by omega,by go_num,bY,by rw [aI];exact bf⟩
      case measure=>simp [intOf];omega
    obtain rfl:rows.length=i:=by omega
    obtain ⟨cq,aU⟩:∃ cq,cq=Vr rows ws l[k] rows.length:=⟨_,rfl⟩;rw [<- aU] at D;have bj:=zpr (rows:=rows) (ws:=ws) a4;rw [<- aU, <- bX.o] at bj;have aT:=ze bj;have aE:=ze (show XE 8388608 cq by rw [aU];exact HO.o.cs _ _ (Nat.le_refl _));clear aU bj;obtain ⟨ng,X,n1,c8,Y,n2,c9,O,aj⟩:=D.o;have ax:=ze O;have J:=ze aj;have E:=O.cell 0;have o1:=O.cell 1;have o2:=O.cell 2;simp at E o1 o2;clear O aj D;go_wp2_with fail;refine (X9 _ cq wr J.o).mono ?_;rintro e Q ⟨rfl,F⟩;replace r:=ze (r.o.ext_ F);replace ax:=kb_ ax F;replace J:=ze (J.o.below F);clear F E o1 o2
    by_cases M:cq=0
    . have ak:cq.num.sign=0:=(Yr _).2 M
      rw [ak];have aS:Hid (JoK w Q gO (gO+1) (.slice An l.length cn) tv l (yy rows ws (l.take (k+1))) bt):=ze (by rw [aT.o.1 M];exact r.o);clear M ak aT r;go_wp2_with fail;go_roundw
      case rel=>exact ⟨k+1,_,by omega,by go_num,aS⟩
      case measure=>simp [intOf];omega
    obtain ⟨σ,hσ⟩:∃ σ,σ=cq.num.sign:=⟨_,rfl⟩
    have aC:¬ σ=0:=fun e=>M ((Yr _).1 (hσ.symm.trans e))
    rw [<- hσ];have aS:=ze (aT.o.2 M);clear hσ M aT
    go_upto_region 20 with fail
    clear aC;have av:∀ x,tv.ownBlock=some x->gO+1<=x:=fun x e=>(r.o.own.1.lt x e).1
    have nO:¬ tv.ownBlock=some gO:=fun e=>by have:=av _ e;omega
    have nS:¬ tv.ownBlock=some gS:=fun e=>by
     obtain ⟨cs,q⟩:=r.o.own.heap e;exact yX ax.o q (by decide) rfl
    obtain ⟨an,eN,bq,p2⟩:=r.o.names.at_ a4;subst eN;have nN:¬ tv.ownBlock=some an.block:=fun e=>by have:=av _ e;omega
    have E:=r.o.out.cell 0;have s0:=ax.o.cell 0;have s1:=ax.o.cell 1;have s2:=ax.o.cell 2;simp at E s0 s1 s2;obtain ⟨nm,aI⟩:∃ nm,nm=l[k]:=⟨_,rfl⟩;rw [<- aI] at p2 aS;obtain ⟨ft,bi⟩:∃ ft,ft=zw cq:=⟨_,rfl⟩;rw [<- bi] at aS;have bQ:=ze bi;clear aI bi;refine zJ (S:=fun w' =>Hid (Chg (fun x=>tv.ownBlock=some x) Q w')/\w'.cell? ⟨gO,0,none⟩=some tv/\w'.cell? (an.add k)=some (str nm)/\w'.cell? ⟨gS,0,none⟩=some (.bool ng)/\w'.cell? ⟨gS,1,none⟩=some (.slice X n1 c8)/\w'.cell? ⟨gS,2,none⟩=some (.slice Y n2 c9)) 12 (by kernel_rfl) (by kernel_rfl) (zl (Zo Q) (fun hB=>⟨zX hB E nO,zX hB p2 (by rw [zz];exact nN),zX hB s0 nS,zX hB s1 nS,zX hB s2 nS⟩)) (fun hHeld=>?_);refine HH.tk 0 ?_;refine HH.tk 1 ?_;refine HH.tk 2 ?_;refine HH.tk 3 ?_;refine HH.tk 4 ?_;refine HH.tk 5 ?_;refine HH.tk 6 ?_;refine HH.rd 7 (fun K hK=>?_)
    go_simp
    go_at_call 85;refine (zcm _ cq _ (J.o.below (zu Q).out) (aE.o.mono (by omega))).mono ?_;rintro e w7 ⟨rfl,aa⟩;rw [<- bQ.o];have bu:=((zu Q).out).trans (aa.mono (Nat.le_of_eq rfl));have N:=hHeld;clear hHeld;refine hK.out _ _ (zl (vT aa N.1) (fun hB=>⟨zX hB E nO,zX hB p2 (by rw [zz];exact nN),zX hB s0 nS,zX hB s1 nS,zX hB s2 nS⟩)) (fun hHeld=>?_);clear N hK K
    try simp only [Act.put,xST]
    clear aa;refine HH.tk 8 ?_;refine HH.rd 9 (fun K hK=>?_)
    go_simp
    have U:=zf w7 (.cells #[str nm,str ft] 35);have N:=hHeld;clear hHeld;refine hK.out _ _ (zl (vT (zf _ _) N.1) (fun hB=>⟨zX hB E nO,zX hB p2 (by rw [zz];exact nN),zX hB s0 nS,zX hB s1 nS,zX hB s2 nS⟩)) (fun hHeld=>?_);clear N hK K
    try simp only [Act.put,xST]
    have bC:=ext bu U;have ac:=ze (r.o.ext_ bC);have bF:=ZI (w:=w7) (t:=35) (a:=str nm) (b:=str ft);have bP:=yJ (a:=str nm) (b:=str ft) (p:=fun u=>u.oneCell' =true) rfl rfl;have bO:=yJ (a:=str nm) (b:=str ft) (p:=Z0) (yq _) (yq _);have br:∀ u∈(Value.agg #[.string ⟨#[]⟩,.string ⟨#[]⟩]).cells,Z0 u:=by intro u hu;simp [Value.cells] at hu;subst hu;exact yq _
    obtain ⟨i1,b9,b3,b1,bT⟩:=info_parts zcn;have bM:=ac.o.bn;clear bC U bu;refine HH.ready (rs:=[10]) (by kernel_rfl) (by simp) (by kernel_rfl) ?_;refine yV.cons (o:=_) rfl (fun K hK=>?_) yV.nil;rw [if_pos (by rfl)];refine xk (P:=Tryz.prog) (.tmp 87) (.tmp 95) _ rfl (gO+1) 35 i1 _ 2 32 underlying30 b9 b3 b1 bT rfl (by omega) _ T.length _ rfl ac.o.own ⟨w7.heap.size,0,none⟩ 1 1 [str nm,str ft] rfl rfl (by omega) bF bP bO br (by have:=bx.o;unfold maxLen;omega) (by have:=bx.o;omega) bM ?_;intro cg w9 aD bN bW;obtain ⟨g3,bc,cc,_,_⟩:=aD.1.form (by omega);subst cc;have aq:=xP bN;have ar:=aq.blk ac.o.out nO;have bv:zF w9 gO (.slice (some an) l.length cn) l:=zF.chg ac.o.names aq (fun x U e=>by have:=av _ e;omega);have bk:=aq.blk ac.o.res (fun e=>by have:=av _ e;have:=ac.o.ho;omega);have ay:Chg (· =gO) w9 (w9.setCell ⟨gO,0,none⟩ (.slice (some ⟨g3,0,none⟩) (T.length+1) bc)):=Chg.setCell (S:=(· =gO)) (Chg.refl w9) (p:=⟨gO,0,none⟩) rfl _
    obtain ⟨T2,aW⟩:∃ T2:List zR,T2=T ++ [{ name:=nm,coef:=ft }]:=⟨_,rfl⟩;have bH:T2.length=T.length+1:=by rw [aW];simp
    have bo:yP T.length (Zb T) (Zg T) ++ [str nm,str ft]=yP (T.length+1) (Zb T2) (Zg T2):=by
     rw [aW,vJ]
     congr 1
     . exact YS (fun j hj=>by unfold Zb Zg;simp [List.getD,List.getElem?_append_left hj])
     unfold Zb Zg
     simp [List.getD]
    rw [bo] at aD
    have aJ:=aD.chg ay (fun c hc e=>by
     subst e;have:=(aD.1.lt _ hc).1
     omega)
    have bR:Hid (JoK w (w9.setCell ⟨gO,0,none⟩ (.slice (some ⟨g3,0,none⟩) (T.length+1) bc)) gO (gO+1) (.slice (some an) l.length cn) (.slice (some ⟨g3,0,none⟩) (T.length+1) bc) l (yy rows ws (l.take (k+1))) bt):=ze (by
     rw [aS.o, <- aW];refine ⟨by rw [bH];exact aJ,ar.set_ 0 _,zF.chg bv ay (fun x U e=>by omega),ay.blk bk (fun e=>by have:=ac.o.ho;omega),?_,Nat.lt_succ_self _,?_,ac.o.ho⟩
     . exact (ac.o.below.trans (aq.below ac.o.below.size (fun x e=>by have:=av _ e;have:=ac.o.ho;omega))).trans (ay.below (Nat.le_trans ac.o.below.size aq.size) (fun x e=>by have:=ac.o.ho;omega))
     exact Nat.le_trans (Nat.le_trans ac.o.bn aq.size) ay.size)
    clear aJ aW;have r0:=ar.cell 0;have q0:=ar.frozen 0;simp at r0;have N:=hHeld;clear hHeld;refine hK.out _ _ (zl (ZY aq N.1) (fun hB=>⟨zX hB E nO,zX hB p2 (by rw [zz];exact nN),zX hB s0 nS,zX hB s1 nS,zX hB s2 nS⟩)) (fun hHeld=>?_);clear N hK K
    try simp only [Act.put,xST]
    clear aq ar bv bk ay bo aD bN bW bM bF bP bO br ac av r nO nS nN bH;refine HH.tk 11 ?_;have aH:=(hHeld.1).out;clear aH hHeld;refine HH.done (by kernel_rfl) ?_;simp only [List.drop_succ_cons,List.drop_zero];clear E p2 s0 s1 s2;go_wp2_with fail;go_roundw
    case rel=>exact ⟨k+1,_,by omega,by go_num,bR⟩
    case measure=>simp [intOf];omega
def Zr (s:List UInt8) (l:List zQ):List zQ:=l.filter fun r=>decide (xU r.terms s=0)
def upQ (s:List UInt8) (l:List zQ):List zQ:=l.filter fun r=>decide (0<xU r.terms s)
def dnQ (s:List UInt8) (l:List zQ):List zQ:=l.filter fun r=>decide (xU r.terms s<0)
def zba (p q:zQ) (s:List UInt8):List UInt8->Option Rat:=nzF (VV [p,q] (xi p q s) 2)
def ztp (p q:zQ) (s:List UInt8):Rat:=Xh [p,q] (xi p q s) 2
def zgp (p q:zQ) (s:List UInt8):List (List UInt8):=(Zd ((p.terms ++ q.terms).map (·.name))).filter fun x=>(zba p q s x).isSome
def zht (p q:zQ) (s:List UInt8):zQ:={ terms:=yB (zgp p q s) (zba p q s),bound:=zw (ztp p q s) }
def Xe (p q:zQ) (s:List UInt8):Bool:=Ye (zgp p q s) (zba p q s) (ztp p q s)
def ZJ (us ds:List zQ):List (zQ×zQ):=us.flatMap fun p=>ds.map fun q=>(p,q)
def vw (rows:List zQ) (s:List UInt8):Int:=
 if yA rows≠0 then yA rows
 else if (upQ s rows).length+(dnQ s rows).length=0 then 7
 else if 800<(Zr s rows).length+(upQ s rows).length*(dnQ s rows).length then 3
 else if (ZJ (upQ s rows) (dnQ s rows)).all (fun p=>Xe p.1 p.2 s)=true then 0 else 3
def Yv (rows:List zQ) (s:List UInt8):List zQ:=Zr s rows ++ (ZJ (upQ s rows) (dnQ s rows)).map fun p=>zht p.1 p.2 s
structure zs6 (rows:List zQ) (s:List UInt8):Prop where
 coef:∀ r∈rows,Vd r.terms
 met:∀ p∈upQ s rows,∀ q∈dnQ s rows,zu7 p q s
 keys:∀ p∈upQ s rows,∀ q∈dnQ s rows,∀ l,zk5 l (zba p q s)->l=zgp p q s
 few:rows.length<=800
 bnd:∀ r∈rows,zN r.bound
def zpm (w:World) (rows:List zQ) (s:List UInt8) (e:Ending) (w' :World):Prop:=
 ∃ v,e= .returned (.tuple #[v,.int .i64 (vw rows s)])/\(vw rows s=0->yN w' v (Yv rows s)/\∃ A c,v= .slice A (Yv rows s).length c)/\(vw rows s≠0->v= .slice none 0 0)/\Below w.heap.size w w'
theorem vR {rows:List zQ} {k:Nat} {s:List UInt8} (h:k<rows.length):
 (xU rows[k].terms s=0->Zr s (rows.take (k+1))=Zr s (rows.take k) ++ [rows[k]]/\upQ s (rows.take (k+1))=upQ s (rows.take k)/\dnQ s (rows.take (k+1))=dnQ s (rows.take k))/\
 (0<xU rows[k].terms s->Zr s (rows.take (k+1))=Zr s (rows.take k)/\upQ s (rows.take (k+1))=upQ s (rows.take k) ++ [rows[k]]/\dnQ s (rows.take (k+1))=dnQ s (rows.take k))/\
 (xU rows[k].terms s<0->Zr s (rows.take (k+1))=Zr s (rows.take k)/\upQ s (rows.take (k+1))=upQ s (rows.take k)/\dnQ s (rows.take (k+1))=dnQ s (rows.take k) ++ [rows[k]]):=by
 have e:rows.take (k+1)=rows.take k ++ [rows[k]]:=by rw [List.take_add_one,List.getElem?_eq_getElem h];rfl
 unfold Zr upQ dnQ
 simp only [e,List.filter_append,List.filter_cons,List.filter_nil]
 generalize xU rows[k].terms s=x
 refine ⟨fun hx=>?_,fun hx=>?_,fun hx=>?_⟩
 . subst hx
   have b:¬ (0:Rat)<0:=Rat.lt_irrefl
   simp [b]
 . have b:¬ x=0:=fun e=>by rw [e] at hx;exact Rat.lt_irrefl hx
   have j:¬ x<0:=Rat.not_lt.2 (Rat.le_of_lt hx)
   simp [b,j,hx]
 . have b:¬ x=0:=fun e=>by rw [e] at hx;exact Rat.lt_irrefl hx
   have j:¬ 0<x:=Rat.not_lt.2 (Rat.le_of_lt hx)
   simp [b,j,hx]
theorem VK (x:Rat):x<0\/x=0\/0<x:=by
 by_cases h:x<0
 . exact .inl h
 by_cases b:0<x
 . exact .inr (.inr b)
 exact .inr (.inl (Rat.le_antisymm (Rat.not_lt.1 b) (Rat.not_lt.1 h)))
def ElR (w0:World) (b:Nat) (rv:Value) (rows:List zQ) (s:List UInt8) (iv ov uv dv:Value) (wr:World):Prop:=
 ∃ (k:Nat) (vo vu vd:Value),k<=rows.length/\iv= .int .i64 k/\vo=ov/\vu=uv/\vd=dv/\Hid (ElK w0 wr b rv vo vu vd rows (Zr s (rows.take k)) (upQ s (rows.take k)) (dnQ s (rows.take k)))
def zk0 (us ds:List zQ) (k j:Nat):List (zQ×zQ):=ZJ (us.take k) ds ++ (ds.take j).map fun q=>(us.getD k default,q)
def zlu (s:List UInt8) (rows:List zQ) (k j:Nat):List zQ:=Zr s rows ++ (zk0 (upQ s rows) (dnQ s rows) k j).map fun p=>zht p.1 p.2 s
def zna (s:List UInt8) (rows:List zQ) (k j:Nat):Prop:=∀ p∈zk0 (upQ s rows) (dnQ s rows) k j,Xe p.1 p.2 s=true
theorem zr2 {us ds:List zQ} {k j:Nat} (hj:j<ds.length) (hk:k<us.length):zk0 us ds k (j+1)=zk0 us ds k j ++ [(us[k],ds[j])]:=by
 unfold zk0
 rw [List.take_add_one,List.getElem?_eq_getElem hj,List.map_append,List.append_assoc]
 simp [List.getD,List.getElem?_eq_getElem hk]
theorem zsn {us ds:List zQ} {k:Nat} (hk:k<us.length):zk0 us ds k ds.length=zk0 us ds (k+1) 0:=by
 unfold zk0 ZJ
 rw [List.take_length,List.take_zero,List.map_nil,List.append_nil,List.take_add_one,List.getElem?_eq_getElem hk,List.flatMap_append]
 simp [List.getD,List.getElem?_eq_getElem hk]
theorem zqt (us ds:List zQ):zk0 us ds us.length 0=ZJ us ds:=by
 unfold zk0
 rw [List.take_length,List.take_zero,List.map_nil,List.append_nil]
theorem zlf (us ds:List zQ):zk0 us ds 0 0=[]:=by
 unfold zk0 ZJ
 simp
theorem zep {us ds:List zQ} {k j:Nat} (hk:k<us.length\/j=0) (hj:j<=ds.length) (hk2:k<=us.length):(zk0 us ds k j).length<=us.length*ds.length:=by
 unfold zk0 ZJ
 rw [List.length_append,List.length_map,List.length_take,List.length_flatMap]
 have e:((us.take k).map fun p=>(ds.map fun q=>(p,q)).length).sum=k*ds.length:=by
  have:((us.take k).map fun p=>(ds.map fun q=>(p,q)).length)=List.replicate k ds.length:=by
   rw [List.eq_replicate_iff];refine ⟨by rw [List.length_map,List.length_take];omega,fun b hb=>?_⟩;obtain ⟨x,_,rfl⟩:=List.mem_map.1 hb
   simp
  rw [this,List.sum_replicate_nat]
 rw [e,Nat.min_eq_left hj]
 rcases hk with h | rfl
 . have:(k+1)*ds.length<=us.length*ds.length:=Nat.mul_le_mul_right _ h
   rw [Nat.succ_mul] at this
   omega
 . have:k*ds.length<=us.length*ds.length:=Nat.mul_le_mul_right _ hk2
   omega
theorem zum {us ds:List zQ} {k j:Nat} (hj:j<ds.length) (hk:k<us.length):(us[k],ds[j])∈ZJ us ds:=
 List.mem_flatMap.2 ⟨us[k],List.getElem_mem hk,List.mem_map.2 ⟨ds[j],List.getElem_mem hj,rfl⟩⟩
def ElP (w0:World) (b:Nat) (rv:Value) (rows:List zQ) (s:List UInt8) (vu vd iv ov:Value) (wr:World):Prop:=
 ∃ (k:Nat) (vo:Value),k<=(upQ s rows).length/\iv= .int .i64 k/\vo=ov/\Hid (ElK w0 wr b rv vo vu vd rows (zlu s rows k 0) (upQ s rows) (dnQ s rows))/\Hid (zna s rows k 0)
def ElQ (w0:World) (b:Nat) (rv:Value) (rows:List zQ) (s:List UInt8) (vu vd:Value) (k g:Nat) (tv:Value) (p:zQ) (jv ov:Value) (wr:World):Prop:=
 ∃ (j:Nat) (vo:Value),j<=(dnQ s rows).length/\jv= .int .i64 j/\vo=ov/\Hid (ElK w0 wr b rv vo vu vd rows (zlu s rows k j) (upQ s rows) (dnQ s rows))/\Hid (zna s rows k j)/\Hid (Blk wr g 33 #[tv,str p.bound])/\Hid (∀ x,vo.ownBlock=some x->x≠g)/\Hid (zec wr w0.heap.size tv p.terms)
theorem vB {α:Type} (p:α->Bool) (l:List α):(l.filter p).length<=l.length:=List.length_filter_le p l
theorem zdk (A:Option Addr) (n c:Nat) (rows:List zQ) (s:List UInt8) (w:World) (hr:yN w (.slice A n c) rows) (hcnt:rows.length<=800->(vS rows []).length<=100000) (ho:yA rows=0->zs6 rows s):
 Calls Tryz.prog 6 #[.slice A n c,str s] w (zpm w rows s):=by
 obtain rfl:=hr.len
 have b2:=@run_makeMap Tryz.prog
 have y:=zf w (.map #[] 0)
 have HB:=ze (zB.new w)
 have HR:=ze (zT.below hr y)
 have HX:=ze y
 have b0:=ze hcnt
 have HO:=ze ho
 clear hr y hcnt ho
 go_enter func6,ntmps6
 go_upto_region 2 with fail
 clear b2
 generalize w.alloc (.map #[] 0)=W at HB HR HX |-
 obtain ⟨b,hb⟩:∃ b,b=w.heap.size:=⟨_,rfl⟩
 have bK:Hid (w.heap.size<=b):=Nat.le_of_eq hb.symm
 rw [<- hb] at HB |-
 clear hb
 have ba:=ze (VA b A rows.length c rows W HB.o (HR.o.more HX.o.size) b0.o)
 go_wp2_with fail
 refine ba.o.mono ?_
 rintro e w1 ⟨rfl,bE,aV⟩
 have a2:Hid (Below w.heap.size w w1):=HX.o.trans (aV.below HX.o.size (fun x e=>by have:=bK.o;omega))
 have bI:=ze (HB.o.keepRows aV HR.o)
 have a9:=ze bE
 clear bE aV ba HB HR HX
 by_cases he:yA rows=0
 rotate_left
 . obtain ⟨z,hz⟩:∃ z,z=yA rows:=⟨_,rfl⟩
   rw [<- hz] at he |-;have I:Hid (vw rows s=z):=ze (by unfold vw;rw [<- hz,if_pos he]);have bZ:=ze he;clear hz;go_wp2_with fail;go_ret2;refine ⟨.slice none 0 0,by rw [I.o];rfl,fun h=>absurd (I.o.symm.trans h) bZ.o,fun _=>rfl,a2.o⟩
 have HE:=ze he
 have am:=ze (HO.o he);rw [he];clear he HO;have m:Hid (ElK w w1 b (.slice A rows.length c) (.slice none 0 0) (.slice none 0 0) (.slice none 0 0) rows [] [] []):=⟨a9.o,bI.o,ZR.nil _ _,ZR.nil _ _,ZR.nil _ _,fun g e=>(by cases e),fun g e=>(by cases e),fun g e=>(by cases e),a2.o,bK.o⟩;clear a9 bI a2;go_wp2_with fail
 go_loopw [28,8,9,10] (ElR w b (.slice A rows.length c) rows s) (fun iv _ _ _ _=>rows.length - (intOf iv).toNat)
 case atStart=>exact ⟨0,_,_,_,Nat.zero_le _,rfl,rfl,rfl,rfl,m⟩
 case round=>
  clear m;obtain ⟨k,vo,vu,vd,hk,rfl,rfl,rfl,rfl,m⟩:=hrel
  by_cases aD:k<rows.length
  . have bP:(k:Int)<(rows.length:Int):=by omega
    have b9:=am.o.few;have b6:IntKind.i64.wrap ((k:Int)+1)=((k+1:Nat):Int):=by rw [IntKind.wrap_i64];omega
    obtain ⟨ad,J,nx,K,eA,aH,p0,p1,ht,bR⟩:=m.o.rows.at_ aD;subst eA;obtain rfl:=ht.len;have y:=zf wr (.cells #[.slice J rows[k].terms.length K,str rows[k].bound] 33);have Q:=ze (Blk.new wr 33 #[.slice J rows[k].terms.length K,str rows[k].bound]);replace m:=ze (m.o.ext_ y);have R:=ze (zk.below ht y);clear ht bR y
    go_upto_region 9 with fail
    clear p0 p1 aH;generalize wr.alloc (.cells #[.slice J rows[k].terms.length K,str rows[k].bound] 33)=W2 at Q R m |-;generalize wr.heap.size=gt at Q |-;have r0:=Q.o.cell 0;have r1:=Q.o.cell 1;simp at r0 r1;have bh:=zc0 b J _ K w.heap.size rows[k].terms rows[k].bound s W2 m.o.book R.o m.o.below.size (am.o.coef _ (List.getElem_mem aD));have bD:=ze bh;clear bh;go_wp2_with fail;refine bD.o.mono ?_;rintro e w2 ⟨v,rfl,hv,a6,aI⟩;replace Q:=ze (m.o.book.keepBlk aI Q.o);replace R:=ze (m.o.book.keepT aI R.o);replace m:=ze (m.o.turn aI a6);clear a6 aI bD r0 r1;obtain ⟨x,a4⟩:∃ x,x=xU rows[k].terms s:=⟨_,rfl⟩;rw [<- a4] at hv;have bU:=ze a4;have HV:=ze hv;clear hv a4;go_wp2_with fail;refine (Yg _ x _ HV.o).mono ?_;rintro e w3 ⟨rfl,aN⟩;replace Q:=kb_ Q aN;replace R:=ze (zk.below R.o aN);replace m:=ze (m.o.ext_ aN);clear aN HV;have r0:=Q.o.cell 0;have r1:=Q.o.cell 1;simp at r0 r1;have a3:=vR (s:=s) aD;rw [<- bU.o] at a3;have ay:=ze a3;clear a3
    rcases VK x with Y | Y | Y
    . have hs:ze1 x 0= -1:=by unfold ze1;rw [if_pos Y]
      rw [hs];have M:=ze (ay.o.2.2 Y);clear hs Y ay;have ae:=yJ (a:=.slice J rows[k].terms.length K) (b:=str rows[k].bound) (p:=fun u=>u.oneCell' =true) rfl rfl;have ac:=yJ (a:=.slice J rows[k].terms.length K) (b:=str rows[k].bound) (p:=Z0) (zM _ _ _) (yq _)
      have aa:∀ u∈(Value.agg #[.slice none 0 0,.string ⟨#[]⟩]).cells,Z0 u:=by
       intro u hu;simp [Value.cells] at hu;rcases hu with rfl | rfl
       . exact zM _ _ _
       . exact yq _
      obtain ⟨i1,aw,av,au,ao⟩:=info_parts X8;have ab:=ZI (w:=w3) (t:=33) (a:=.slice J rows[k].terms.length K) (b:=str rows[k].bound);have y:=zf w3 (.cells #[.slice J rows[k].terms.length K,str rows[k].bound] 33);have N:=ze (m.o.ext_ y);have al:=ze (zk.below R.o y);obtain ⟨H,ah,hH⟩:=N.o.d;have af:=vB (fun r=>decide (xU r.terms s<0)) (rows.take k);rw [List.length_take] at af;clear y;go_wp2_with (at_builtin;go_must (refine zS (P:=Tryz.prog) rfl (.tmp 37) (.tmp 39) _ rfl w.heap.size 33 i1 _ 2 40 underlying22 aw av au ao rfl (by omega) _ _ _ rfl ah ⟨w3.heap.size,0,none⟩ 1 1 [.slice J rows[k].terms.length K,str rows[k].bound] rfl rfl (by omega) ab ae ac aa ?o4 ?o5 ?o6 ?_))
      case o4=>unfold maxLen;unfold dnQ;omega
      case o5=>unfold dnQ;omega
      case o6=>exact N.o.below.size
      intro v3 w6 Z V T;have L:=ze ((N.o.swapD.push hH Z V (by rw [World.size_alloc];exact T) (.inl al.o)).swapD);rw [<- M.o.1, <- M.o.2.1, <- M.o.2.2] at L;clear Z V T ah hH m N al ab ae ac aa af r0 r1 Q R M;go_wp2_with fail;go_roundw
      case rel=>exact ⟨k+1,_,_,_,by omega,by go_num,rfl,rfl,rfl,L⟩
      case measure=>simp [intOf];omega
    . have hs:ze1 x 0=0:=by rw [Y];rfl
      rw [hs];have M:=ze (ay.o.1 Y);clear hs Y ay;have bL:=zno J _ K w.heap.size rows[k] w3 R.o m.o.below.size;have bf:=ze bL;clear bL;go_wp2_with fail;refine bf.o.mono ?_;rintro e O ⟨Ay,cy,rfl,aK,bc,aP⟩;replace m:=ze (m.o.ext_ bc);have ai:=ze aK;have ak:=ze aP;clear bc aK aP bf r0 r1 Q R;have ae:=yJ (a:=.slice Ay rows[k].terms.length cy) (b:=str rows[k].bound) (p:=fun u=>u.oneCell' =true) rfl rfl;have ac:=yJ (a:=.slice Ay rows[k].terms.length cy) (b:=str rows[k].bound) (p:=Z0) (zM _ _ _) (yq _)
      have aa:∀ u∈(Value.agg #[.slice none 0 0,.string ⟨#[]⟩]).cells,Z0 u:=by
       intro u hu;simp [Value.cells] at hu;rcases hu with rfl | rfl
       . exact zM _ _ _
       . exact yq _
      obtain ⟨i1,aw,av,au,ao⟩:=info_parts X8;have ab:=ZI (w:=O) (t:=33) (a:=.slice Ay rows[k].terms.length cy) (b:=str rows[k].bound);have y:=zf O (.cells #[.slice Ay rows[k].terms.length cy,str rows[k].bound] 33);have N:=ze (m.o.ext_ y);have al:Hid (zec _ w.heap.size _ _):=ze (.inr ⟨(zk.below ai.o y).more y.size,ak.o.below y⟩);obtain ⟨H,ah,hH⟩:=N.o.o;have af:=vB (fun r=>decide (xU r.terms s=0)) (rows.take k);rw [List.length_take] at af;clear y;go_wp2_with (at_builtin;go_must (refine zS (P:=Tryz.prog) rfl (.tmp 43) (.tmp 46) _ rfl w.heap.size 33 i1 _ 2 40 underlying22 aw av au ao rfl (by omega) _ _ _ rfl ah ⟨O.heap.size,0,none⟩ 1 1 [.slice Ay rows[k].terms.length cy,str rows[k].bound] rfl rfl (by omega) ab ae ac aa ?o4 ?o5 ?o6 ?_))
      case o4=>unfold maxLen;unfold Zr;omega
      case o5=>unfold Zr;omega
      case o6=>exact N.o.below.size
      intro v3 w6 Z V T;have L:=ze (N.o.push hH Z V (by rw [World.size_alloc];exact T) al.o);rw [<- M.o.1, <- M.o.2.1, <- M.o.2.2] at L;clear Z V T ah hH m N al ab ae ac aa af M ai ak;go_wp2_with fail;go_roundw
      case rel=>exact ⟨k+1,_,_,_,by omega,by go_num,rfl,rfl,rfl,L⟩
      case measure=>simp [intOf];omega
    . have hs:ze1 x 0=1:=by unfold ze1;rw [if_neg (Rat.not_lt.2 (Rat.le_of_lt Y)),if_pos Y]
      rw [hs];have M:=ze (ay.o.2.1 Y);clear hs Y ay;have ae:=yJ (a:=.slice J rows[k].terms.length K) (b:=str rows[k].bound) (p:=fun u=>u.oneCell' =true) rfl rfl;have ac:=yJ (a:=.slice J rows[k].terms.length K) (b:=str rows[k].bound) (p:=Z0) (zM _ _ _) (yq _)
      have aa:∀ u∈(Value.agg #[.slice none 0 0,.string ⟨#[]⟩]).cells,Z0 u:=by
       intro u hu;simp [Value.cells] at hu;rcases hu with rfl | rfl
       . exact zM _ _ _
       . exact yq _
      obtain ⟨i1,aw,av,au,ao⟩:=info_parts X8;have ab:=ZI (w:=w3) (t:=33) (a:=.slice J rows[k].terms.length K) (b:=str rows[k].bound);have y:=zf w3 (.cells #[.slice J rows[k].terms.length K,str rows[k].bound] 33);have N:=ze (m.o.ext_ y);have al:=ze (zk.below R.o y);obtain ⟨H,ah,hH⟩:=N.o.u;have af:=vB (fun r=>decide (0<xU r.terms s)) (rows.take k);rw [List.length_take] at af;clear y;go_wp2_with (at_builtin;go_must (refine zS (P:=Tryz.prog) rfl (.tmp 50) (.tmp 52) _ rfl w.heap.size 33 i1 _ 2 40 underlying22 aw av au ao rfl (by omega) _ _ _ rfl ah ⟨w3.heap.size,0,none⟩ 1 1 [.slice J rows[k].terms.length K,str rows[k].bound] rfl rfl (by omega) ab ae ac aa ?o4 ?o5 ?o6 ?_))
      case o4=>unfold maxLen;unfold upQ;omega
      case o5=>unfold upQ;omega
      case o6=>exact N.o.below.size
      intro v3 w6 Z V T;have L:=ze ((N.o.swapU.push hH Z V (by rw [World.size_alloc];exact T) (.inl al.o)).swapU);rw [<- M.o.1, <- M.o.2.1, <- M.o.2.2] at L;clear Z V T ah hH m N al ab ae ac aa af r0 r1 Q R M;go_wp2_with fail;go_roundw
      case rel=>exact ⟨k+1,_,_,_,by omega,by go_num,rfl,rfl,rfl,L⟩
      case measure=>simp [intOf];omega
  obtain rfl:rows.length=k:=by omega
  rw [List.take_length] at m;obtain ⟨Ao,co,rfl⟩:=m.o.o.form;obtain ⟨Au,cu,rfl⟩:=m.o.u.form;obtain ⟨Ad,cd,rfl⟩:=m.o.d.form;have h8:=am.o.few;obtain ⟨lo,aB⟩:∃ lo,lo=(Zr s rows).length:=⟨_,rfl⟩;obtain ⟨B,aF⟩:∃ B,B=(upQ s rows).length:=⟨_,rfl⟩;obtain ⟨E,aC⟩:∃ E,E=(dnQ s rows).length:=⟨_,rfl⟩;have b7:lo<=800:=by rw [aB];exact Nat.le_trans (vB _ _) h8
  have bX:B<=800:=by rw [aF];exact Nat.le_trans (vB _ _) h8
  have bY:E<=800:=by rw [aC];exact Nat.le_trans (vB _ _) h8
  have bz:B*E<=800*800:=Nat.mul_le_mul bX bY;obtain ⟨lm,aG⟩:∃ lm,lm=B*E:=⟨_,rfl⟩;have aZ:(B:Int)*(E:Int)=(lm:Int):=by rw [aG,Int.natCast_mul]
  rw [<- aG] at bz
  have I:Hid (vw rows s=if B+E=0 then 7 else if 800<lo+lm then 3 else if (ZJ (upQ s rows) (dnQ s rows)).all (fun p=>Xe p.1 p.2 s)=true then 0 else 3):=ze (by
   unfold vw
   rw [if_neg (fun h=>h HE.o), <- aB, <- aF, <- aC, <- aG])
  rw [<- aB, <- aF, <- aC] at m |-;have bF:=ze aB;have aj:=ze aF;have ar:=ze aC;have bp:=ze aG;clear aB aF aC aG;have bN :IntKind.i64.wrap ((B:Int)+(E:Int))=((B+E:Nat):Int):=by rw [IntKind.wrap_i64];omega
  have bJ :IntKind.i64.wrap ((B:Int)*(E:Int))=(lm:Int):=by rw [aZ,IntKind.wrap_i64];omega
  have bi :IntKind.i64.wrap ((lo:Int)+(lm:Int))=((lo+lm:Nat):Int):=by rw [IntKind.wrap_i64];omega
  by_cases h0:B+E=0
  . have bd:((B+E:Nat):Int)=0:=by omega
    rw [if_pos h0] at I;clear h0 bJ bi aZ;go_wp2_with fail;go_ret2;refine ⟨.slice none 0 0,by rw [I.o];rfl,fun h=>?_,fun _=>rfl,m.o.below⟩;rw [I.o] at h
    cases h
  have bd:¬ ((B+E:Nat):Int)=0:=by omega
  rw [if_neg h0] at I;clear h0
  by_cases F:800<lo+lm
  . have bx:((lo+lm:Nat):Int)>800:=by omega
    rw [if_pos F] at I;clear F;go_wp2_with fail;go_ret2;refine ⟨.slice none 0 0,by rw [I.o];rfl,fun h=>?_,fun _=>rfl,m.o.below⟩;rw [I.o] at h
    cases h
  have bx:¬ ((lo+lm:Nat):Int)>800:=by omega
  rw [if_neg F] at I;have H8:=ze (show lo+lm<=800 by omega);clear F
  have bw:Hid (ElK w wr b (.slice A rows.length c) (.slice Ao lo co) (.slice Au B cu) (.slice Ad E cd) rows (zlu s rows 0 0) (upQ s rows) (dnQ s rows)):=ze (by
   unfold zlu;rw [zlf,List.map_nil,List.append_nil]
   exact m.o)
  have bs:Hid (zna s rows 0 0):=ze (fun p hp=>by rw [zlf] at hp;cases hp);clear m;go_wp2_with fail;clear bN bJ bi bd bx bz aZ
  go_loopw [74,8] (ElP w b (.slice A rows.length c) rows s (.slice Au B cu) (.slice Ad E cd)) (fun iv _ _=>B - (intOf iv).toNat)
  case atStart=>exact ⟨0,_,Nat.zero_le _,rfl,rfl,bw,bs⟩
  case round=>
   clear bw bs;obtain ⟨k,vo,hk,rfl,rfl,m,HG⟩:=hrel;rw [<- aj.o] at hk
   by_cases aD:k<B
   rotate_left
   . obtain rfl:B=k:=by omega
     have bG:(ZJ (upQ s rows) (dnQ s rows)).all (fun p=>Xe p.1 p.2 s)=true:=List.all_eq_true.2 (fun x y=>HG.o x (by rw [aj.o,zqt];exact y));rw [if_pos bG] at I
     have aX:zlu s rows B 0=Yv rows s:=by
      unfold zlu Yv;rw [aj.o,zqt]
     rw [aX] at m;obtain ⟨Az,cz,rfl⟩:=m.o.o.form
     have bH:(Yv rows s).length<=800:=by
      have F:=zep (us:=upQ s rows) (ds:=dnQ s rows) (k:=B) (j:=0) (.inr rfl) (Nat.zero_le _) (by rw [aj.o];exact Nat.le_refl _);rw [<- aj.o, <- ar.o, <- bp.o] at F;have h2:=H8.o;have h3:=bF.o;rw [<- aX];unfold zlu;rw [List.length_append,List.length_map]
      omega
     have bg:=ze bH;clear bG aX bH HG;go_wp2_with fail;go_ret2;refine ⟨.slice Az (Yv rows s).length cz,by rw [I.o];rfl,fun _=>⟨m.o.o.rows m.o.below.size (by have:=bg.o;omega) (fun r hr=>?_),_,_,rfl⟩,fun h=>absurd I.o h,m.o.below⟩;unfold Yv at hr
     rcases List.mem_append.1 hr with h | h
     . exact am.o.bnd r (List.mem_filter.1 h).1
     . obtain ⟨x,y,rfl⟩:=List.mem_map.1 h
       obtain ⟨p,hp,hq⟩:=List.mem_flatMap.1 y;obtain ⟨q',b5,rfl⟩:=List.mem_map.1 hq;exact (am.o.met p hp q' b5).outb.2
   have bP:(k:Int)<(B:Int):=by omega
   have b6:IntKind.i64.wrap ((k:Int)+1)=((k+1:Nat):Int):=by rw [IntKind.wrap_i64];omega
   have an:k<(upQ s rows).length:=by rw [<- aj.o];exact aD
   obtain ⟨p,hp⟩:∃ p,p=(upQ s rows)[k]:=⟨_,rfl⟩;obtain ⟨ap,Ap,cp,eA,aH,p0,p1,ht⟩:=m.o.u.at_ an;rw [<- hp] at p0 p1 ht;subst eA;have a0:=ze hp;have y:=zf wr (.cells #[.slice Ap p.terms.length cp,str p.bound] 33);have C:=ze (Blk.new wr 33 #[.slice Ap p.terms.length cp,str p.bound])
   have ag:Hid (∀ x,vo.ownBlock=some x->x≠wr.heap.size):=ze (fun x e h=>by
    obtain ⟨_,_,_,cs,q⟩:=m.o.o.own e;have:=(Array.getElem?_eq_some_iff.1 q).1
    omega)
   have G:=ze (ht.chg (S:=fun _=>False) (Chg.of_below y) (fun _ h=>h.elim) (fun _ _ h=>h.elim));replace m:=ze (m.o.ext_ y);clear y ht hp
   go_upto_region 23 with fail
   clear p0 p1 aH;generalize wr.alloc (.cells #[.slice Ap p.terms.length cp,str p.bound] 33)=W2 at C G m |-;generalize wr.heap.size=gp at C ag |-;go_wp2_with fail
   go_loopw [80,8] (ElQ w b (.slice A rows.length c) rows s (.slice (some ap) B cu) (.slice Ad E cd) k gp (.slice Ap p.terms.length cp) p) (fun jv _ _=>E - (intOf jv).toNat)
   case atStart=>exact ⟨0,_,Nat.zero_le _,rfl,rfl,m,HG,C,ag,G⟩
   case round=>
    clear m HG C ag G;obtain ⟨j,vo,hj,rfl,rfl,m,HG,C,ag,G⟩:=hrel;rw [<- ar.o] at hj
    by_cases b3:j<E
    rotate_left
    . obtain rfl:E=j:=by omega
      have aT:=zsn (us:=upQ s rows) (ds:=dnQ s rows) an
      have aQ:Hid (ElK w wr b (.slice A rows.length c) vo (.slice (some ap) B cu) (.slice Ad E cd) rows (zlu s rows (k+1) 0) (upQ s rows) (dnQ s rows)):=ze (by
       have F:=m.o;unfold zlu at F |-;rw [<- aT, <- ar.o]
       exact F)
      have aU:Hid (zna s rows (k+1) 0):=ze (by
       have F:=HG.o;unfold zna at F |-;rw [<- aT, <- ar.o]
       exact F)
      clear aT m HG C ag G;go_wp2_with fail;go_roundw
      case rel=>exact ⟨k+1,_,by rw [<- aj.o];omega,by go_num,rfl,aQ,aU⟩
      case measure=>simp [intOf];omega
    have ca:(j:Int)<(E:Int):=by omega
    have cb:IntKind.i64.wrap ((j:Int)+1)=((j+1:Nat):Int):=by rw [IntKind.wrap_i64];omega
    have aE:j<(dnQ s rows).length:=by rw [<- ar.o];exact b3
    obtain ⟨q,hq⟩:∃ q,q=(dnQ s rows)[j]:=⟨_,rfl⟩;obtain ⟨aq,Aq,cq,eA,aH,p0,p1,ht⟩:=m.o.d.at_ aE;rw [<- hq] at p0 p1 ht;subst eA;have aW:=ze hq;have y:=zf wr (.cells #[.slice Aq q.terms.length cq,str q.bound] 33);have aA:=ze (Blk.new wr 33 #[.slice Aq q.terms.length cq,str q.bound]);have aY:=ze (ht.chg (S:=fun _=>False) (Chg.of_below y) (fun _ h=>h.elim) (fun _ _ h=>h.elim));replace G:=ze (G.o.chg (S:=fun _=>False) (Chg.of_below y) (fun _ h=>h.elim) (fun _ _ h=>h.elim));replace C:=kb_ C y;replace m:=ze (m.o.ext_ y);clear y ht hq
    go_upto_region 26 with fail
    clear p0 p1 aH;generalize wr.alloc (.cells #[.slice Aq q.terms.length cq,str q.bound] 33)=W3 at C aA G aY m |-;generalize wr.heap.size=gq at aA |-;have r0:=C.o.cell 0;have r1:=C.o.cell 1;have q0:=aA.o.cell 0;have q1:=aA.o.cell 1;simp at r0 r1 q0 q1;have aO:p∈upQ s rows:=by rw [a0.o];exact List.getElem_mem an
    have aS:q∈dnQ s rows:=by rw [aW.o];exact List.getElem_mem aE
    have bn:Calls Tryz.prog 16 #[.map (some b),.agg #[.slice Ap p.terms.length cp,str p.bound],.agg #[.slice Aq q.terms.length cq,str q.bound],str s] W3 (zth W3 b (zba p q s) (ztp p q s)):=zr8 b Ap Aq cp cq p q s W3 m.o.book (G.o.is m.o.below.size) (aY.o.is m.o.below.size) (am.o.met p aO q aS);have bM:=ze bn;have bj:=ze (am.o.keys p aO q aS);have b8:=ze (am.o.met p aO q aS);clear bn aO aS;go_wp2_with fail;refine bM.o.mono ?_;rintro e O ⟨l,rv,hl,rfl,bC,⟨X,nr,U,sr,rfl⟩,bl,aJ⟩;obtain rfl:=bj.o l hl;have a5:∀ x,x=b->VX W3 x:=fun x e=>by subst e;exact m.o.book.noTerm
    have a8:∀ x,x<w.heap.size->x=b->Z1 W3 x:=fun x _ e=>by subst e;exact m.o.book.noCells
    replace G:=ze (G.o.chg aJ a5 a8);replace C:=ze (m.o.book.keepBlk aJ C.o);replace m:=ze (m.o.turn aJ bl);have bu:=ze bC;clear bl aJ a5 a8 hl bM bj bC aA aY r0 r1 q0 q1;have y:=zf O (.cells #[.slice X nr U,.string sr] 33);have ax:=ze (Blk.new O 33 #[.slice X nr U,.string sr]);have bg:=ze (show gp<O.heap.size from C.o.lt);replace G:=ze (G.o.chg (S:=fun _=>False) (Chg.of_below y) (fun _ h=>h.elim) (fun _ _ h=>h.elim));replace C:=kb_ C y;replace m:=ze (m.o.ext_ y);have az:=ze y;clear y
    go_upto_region 27 with fail
    obtain ⟨ok,aR⟩:∃ ok,ok=Ye (zgp p q s) (zba p q s) (ztp p q s):=⟨_,rfl⟩;rw [<- aR];have a7:=ze (show Xe p q s=ok from aR.symm);have bb:Hid (ok=true->∃ A c,(Value.agg #[.slice X nr U,.string sr])= .agg #[.slice A (yB (zgp p q s) (zba p q s)).length c,str (zw (ztp p q s))]/\zk O O.heap.size (.slice A (yB (zgp p q s) (zba p q s)).length c) (yB (zgp p q s) (zba p q s))/\TyT O (.slice A (yB (zgp p q s) (zba p q s)).length c)):=ze (by rw [aR];exact bu.o);clear aR bu
    rcases ok with _ | _
    . have bB:¬ (ZJ (upQ s rows) (dnQ s rows)).all (fun p=>Xe p.1 p.2 s)=true:=fun h=>by
       have F:=List.all_eq_true.1 h _ (zum aE an);rw [<- a0.o, <- aW.o] at F;rw [a7.o] at F
       cases F
      rw [if_neg bB] at I;clear bB;go_wp2_with fail;go_ret2;refine ⟨.slice none 0 0,by rw [I.o];rfl,fun h=>?_,fun _=>rfl,m.o.below⟩;rw [I.o] at h
      cases h
    . obtain ⟨Ay,cy,ey,aK,aP⟩:=bb.o rfl
      have ai:=ze ((zk.below aK az.o).more az.o.size);have ak:=ze (aP.below az.o);injection ey with ey
      have bW:Value.slice X nr U= .slice Ay (yB (zgp p q s) (zba p q s)).length cy:=by
       have:=congrArg (fun a:Array Value=>a[0]?) ey
       simpa using this
      have bS:Value.string sr=str (zw (ztp p q s)):=by
       have:=congrArg (fun a:Array Value=>a[1]?) ey
       simpa using this
      injection bW with ea eb ec
      subst ea;subst eb;subst ec;injection bS with ed
      subst ed;clear ey bb;obtain ⟨D,aM⟩:∃ D,D=zht p q s:=⟨_,rfl⟩;have br:yB (zgp p q s) (zba p q s)=D.terms:=by rw [aM];rfl
      have bA:zw (ztp p q s)=D.bound:=by rw [aM];rfl
      rw [br] at ax m G C az ai ak |-;rw [bA] at ax m G C az ai ak |-;have bT:=ze aM;clear br bA aM;have b4:=ze (show O.heap.size<(O.alloc (.cells #[.slice X D.terms.length U,str D.bound] 33)).heap.size by simp);generalize O.alloc (.cells #[.slice X D.terms.length U,str D.bound] 33)=W5 at ax m G C az ai ak b4 |-;have z0:=ax.o.cell 0;have z1:=ax.o.cell 1;simp at z0 z1;have ae:=yJ (a:=.slice X D.terms.length U) (b:=str D.bound) (p:=fun u=>u.oneCell' =true) rfl rfl;have ac:=yJ (a:=.slice X D.terms.length U) (b:=str D.bound) (p:=Z0) (zM _ _ _) (yq _)
      have aa:∀ u∈(Value.agg #[.slice none 0 0,.string ⟨#[]⟩]).cells,Z0 u:=by
       intro u hu;simp [Value.cells] at hu;rcases hu with rfl | rfl
       . exact zM _ _ _
       . exact yq _
      obtain ⟨i1,aw,av,au,ao⟩:=info_parts X8;have ab:=ZI (w:=W5) (t:=33) (a:=.slice X D.terms.length U) (b:=str D.bound);have y:=zf W5 (.cells #[.slice X D.terms.length U,str D.bound] 33);have L:=ze (m.o.ext_ y);have bm:=ze (G.o.chg (S:=fun _=>False) (Chg.of_below y) (fun _ h=>h.elim) (fun _ _ h=>h.elim));have bo:=ze (C.o.below y C.o.lt);have bv:Hid (zec _ w.heap.size _ D.terms):=ze (.inr ⟨(zk.below ai.o y).more y.size,ak.o.below y⟩);have b1:Hid (gp<W5.heap.size):=C.o.lt;obtain ⟨H,bk,hH⟩:=L.o.o
      have af:(zlu s rows k j).length<=800:=by
       have F:=zep (us:=upQ s rows) (ds:=dnQ s rows) (k:=k) (j:=j) (.inl an) (Nat.le_of_lt aE) (Nat.le_of_lt an);rw [<- aj.o, <- ar.o, <- bp.o] at F;have h2:=H8.o;have h3:=bF.o;unfold zlu;rw [List.length_append,List.length_map]
       omega
      clear y;go_wp2_with (at_builtin;go_must (refine zS (P:=Tryz.prog) rfl (.tmp 94) (.tmp 96) _ rfl w.heap.size 33 i1 _ 2 40 underlying22 aw av au ao rfl (by omega) _ _ _ rfl bk ⟨W5.heap.size,0,none⟩ 1 1 [.slice X D.terms.length U,str D.bound] rfl rfl (by omega) ab ae ac aa ?o4 ?o5 ?o6 ?_))
      case o4=>unfold maxLen;omega
      case o5=>omega
      case o6=>exact L.o.below.size
      intro v3 w6 Z V T;have bq:v3.ownBlock=vo.ownBlock\/v3.ownBlock=some (W5.alloc (.cells #[.slice X D.terms.length U,str D.bound] 33)).heap.size:=by rw [World.size_alloc];exact T
      have aQ:=ze (L.o.push hH Z V bq bv.o);have a1:=xP V;have bQ:=ze (a1.blk bo.o (fun e=>ag.o _ e rfl));have bV:=ze (bm.o.chg a1 (fun x e=>(L.o.o.own e).2.1) (fun x y e=>by have:=(L.o.o.own e).1;omega))
      have bO:Hid (∀ x,v3.ownBlock=some x->x≠gp):=ze (fun x e h=>by
       rcases T with e3 | e3
       . exact ag.o x (e3.symm.trans e) h
       . rw [e3] at e
         injection e with e
         have:=b1.o
         omega)
      have aL:=zr2 (us:=upQ s rows) (ds:=dnQ s rows) aE an;rw [<- a0.o, <- aW.o] at aL
      have be:zlu s rows k j ++ [D]=zlu s rows k (j+1):=by
       unfold zlu;rw [aL,List.map_append,List.append_assoc,bT.o]
       rfl
      rw [be] at aQ
      have aU:Hid (zna s rows k (j+1)):=ze (fun x y=>by
       rw [aL] at y
       rcases List.mem_append.1 y with h | h
       . exact HG.o x h
       . simp at h
         subst h
         exact a7.o)
      clear Z V T bq a1 aL be bk hH L m C bo G bm bv ai ak ax z0 z1 ab ae ac aa af ag HG;go_wp2_with fail;go_roundw
      case rel=>exact ⟨j+1,_,by rw [<- ar.o];omega,by go_num,rfl,aQ,aU,bQ,bO,bV⟩
      case measure=>simp [intOf];omega
end Go.Proofs.YthbmhkiphmcogaaGreatDoor
namespace Go.Proofs.YthbmhkiphmcogaaGreatDoor
open Proofs.Tryz Go.RowKit Go.Deep
structure WoK (w0 w:World) (rv vo:Value) (rows Lo:List zQ):Prop where
 rows:zT w w0.heap.size rv rows
 o:ZR w w0.heap.size vo Lo
 below:Below w0.heap.size w0 w
section
variable {w0 w w' :World} {rv vo:Value} {rows Lo:List zQ}
theorem WoK.ext_ (h:WoK w0 w rv vo rows Lo) (hb:Below w.heap.size w w'):WoK w0 w' rv vo rows Lo:=
 ⟨zT.below h.rows hb,h.o.chg (S:=fun _=>False) (Chg.of_below hb) (fun _ _ h=>h) (fun _ h=>h.elim) (fun _ _ h=>h.elim),ext h.below hb⟩
theorem WoK.num {g:Nat} {cs:Array Value} (h:WoK w0 w rv vo rows Lo) (hk:Blk w g 64 cs) (hg:w0.heap.size<=g) (hc:Chg (· =g) w w'):WoK w0 w' rv vo rows Lo:=by
 have b:∀ x,x<w0.heap.size->x=g->Z1 w x:=fun x hx e=>by omega
 refine ⟨h.rows.chg hc b,h.o.chg hc (fun c e e2=>?_) (fun x e j q=>?_) b,h.below.trans (hc.below h.below.size (fun x e=>by omega))⟩
 . subst e2
   obtain ⟨_,_,_,j,q⟩:=h.o.own e;exact yX hk q (by decide) rfl
 subst e
 exact yX hk q (by decide) rfl
theorem WoK.push {H:Nat->Value} {r:zQ} {tv v' :Value} (h:WoK w0 w rv vo rows Lo) (h2:∀ j,j<Lo.length->zec w w0.heap.size (H j) (Lo.getD j default).terms)
 (ho:Zm w' w0.heap.size 33 2 v' (Lo.length+1) (yP Lo.length H (vM Lo) ++ [tv,str r.bound])) (hg:w.grownBy w' vo.ownBlock) (ht:zec w w0.heap.size tv r.terms):
 WoK w0 w' rv v' rows (Lo ++ [r]):=by
 have b:=xP hg
 have m:∀ x,vo.ownBlock=some x->VX w x:=fun x e=>(h.o.own e).2.1
 have l:∀ x,x<w0.heap.size->vo.ownBlock=some x->Z1 w x:=fun x hx e=>by have:=(h.o.own e).1;omega
 exact ⟨h.rows.chg b l,ZR.push b h2 m l ho ht,h.below.trans (b.below h.below.size (fun x e=>(h.o.own e).1))⟩
end
theorem NBx.made {w:World} {g:Nat} {q:Rat} {ng:Bool} {X Y:Option Addr} {a b c d:Nat} {ng0:Bool} {X0 Y0:Option Addr} {a0 b0 c0 d0:Nat} (hk:Blk w g 64 #[.bool ng0,.slice X0 a0 b0,.slice Y0 c0 d0]) (hv:xf w (.agg #[.bool ng,.slice X a b,.slice Y c d]) q):NBx (World.ref w g ng X a b Y c d) g q:=
 ⟨_,_,_,_,_,_,_,yT hk,xf.stored hv hk⟩
theorem ztz {w:World} {g1 g2:Bool} {X1 Y1 X2 Y2:Option Addr} {a1 b1 c1 d1 a2 b2 c2 d2:Nat} {f:Nat->Rat} (h1:xf w (.agg #[.bool g1,.slice X1 a1 b1,.slice Y1 c1 d1]) (f 0)) (h2:xf w (.agg #[.bool g2,.slice X2 a2 b2,.slice Y2 c2 d2]) (f 1)):
 zit (w.alloc (.cells #[.bool g1,.slice X1 a1 b1,.slice Y1 c1 d1,.bool g2,.slice X2 a2 b2,.slice Y2 c2 d2] 64)) (.slice (some ⟨w.heap.size,0,none⟩) 2 2) 2 f:=by
 have j:=zf w (.cells #[.bool g1,.slice X1 a1 b1,.slice Y1 c1 d1,.bool g2,.slice X2 a2 b2,.slice Y2 c2 d2] 64)
 have b:=Blk.new w 64 #[.bool g1,.slice X1 a1 b1,.slice Y1 c1 d1,.bool g2,.slice X2 a2 b2,.slice Y2 c2 d2]
 refine ⟨_,_,rfl,fun _=>⟨w.heap.size,2,rfl,Nat.le_refl _,⟨_,b,rfl,?_⟩,fun k hk2=>?_⟩⟩
 rotate_left
 . match k,hk2 with
   | 0,_=>exact ⟨g1,X1,a1,b1,Y1,c1,d1,by rw [b.cell];rfl,by rw [b.cell];rfl,by rw [b.cell];rfl,h1.below j⟩
   | 1,_=>exact ⟨g2,X2,a2,b2,Y2,c2,d2,by rw [b.cell];rfl,by rw [b.cell];rfl,by rw [b.cell];rfl,h2.below j⟩
   | n+2,h=>omega
 intro i x e
 match i with
 | 0=>simp at e
 | 1=>simp at e
 | 2=>simp at e
 | 3=>simp at e
 | 4=>simp at e
 | 5=>simp at e
 | n+6=>simp at e
theorem xf.form7 {w:World} {v:Value} {q:Rat} (h:xf w v q):∃ (ng:Bool) (X:Option Addr) (a b:Nat) (Y:Option Addr) (c d:Nat),v= .agg #[.bool ng,.slice X a b,.slice Y c d]:=by
 obtain ⟨ng,X,a,b,Y,c,d,e,_⟩:=h
 exact ⟨_,_,_,_,_,_,_,e⟩
def zd0 (p q:zQ) (s:List UInt8):List (List UInt8):=Zd (Y9 [p,q] (xi p q s) 2)
def xz (p q:zQ) (s:List UInt8):zQ:={ terms:=yy [p,q] (xi p q s) (zd0 p q s),bound:=zw (Xh [p,q] (xi p q s) 2) }
def vz (rows:List zQ) (s:List UInt8):List zQ:=Zr s rows ++ (ZJ (upQ s rows) (dnQ s rows)).map fun p=>xz p.1 p.2 s
structure zx4 (rows:List zQ) (s:List UInt8):Prop where
 coef:∀ r∈rows,Vd r.terms
 join:∀ p∈upQ s rows,∀ q∈dnQ s rows,zo0 [p,q] (xi p q s)
 vl:∀ r∈rows,XE 8388608 (xU r.terms s)
 few:rows.length<=800
 tot:(Zr s rows).length+(upQ s rows).length*(dnQ s rows).length<=800
 bnd:∀ r∈rows,zN r.bound
 out:∀ p∈upQ s rows,∀ q∈dnQ s rows,zN (zw (Xh [p,q] (xi p q s) 2))
def zyi (w:World) (rows:List zQ) (s:List UInt8) (e:Ending) (w' :World):Prop:=
 ∃ A c,e= .returned (.slice A (vz rows s).length c)/\yN w' (.slice A (vz rows s).length c) (vz rows s)/\Below w.heap.size w w'
def wpQ (s:List UInt8) (rows:List zQ) (i k:Nat):List zQ:=
 Zr s rows ++ (ZJ (upQ s (rows.take i)) (dnQ s rows) ++ (if 0<xU (rows.getD i default).terms s then (dnQ s (rows.take k)).map (fun q=>(rows.getD i default,q)) else [])).map fun p=>xz p.1 p.2 s
theorem zgi {rows:List zQ} {i:Nat} (h:i<rows.length):rows.getD i default=rows[i]:=by simp [List.getD,List.getElem?_eq_getElem h]
theorem zt7 (s:List UInt8) (rows:List zQ):wpQ s rows 0 0=Zr s rows:=by
 unfold wpQ ZJ upQ dnQ
 simp
theorem zyg {s:List UInt8} {rows:List zQ} {i k:Nat} (hi:i<rows.length) (hk:k<rows.length) (ha:0<xU rows[i].terms s) (hb:xU rows[k].terms s<0):wpQ s rows i (k+1)=wpQ s rows i k ++ [xz rows[i] rows[k] s]:=by
 unfold wpQ
 rw [zgi hi,if_pos ha,if_pos ha,((vR (s:=s) hk).2.2 hb).2.2]
 simp [List.append_assoc]
theorem zs8 {s:List UInt8} {rows:List zQ} {i k:Nat} (hi:i<rows.length) (hk:k<rows.length) (h:¬ (0<xU rows[i].terms s/\xU rows[k].terms s<0)):wpQ s rows i (k+1)=wpQ s rows i k:=by
 unfold wpQ
 rw [zgi hi]
 by_cases e:0<xU rows[i].terms s
 rotate_left
 . rw [if_neg e,if_neg e]
 rw [if_pos e,if_pos e]
 have hb:¬ xU rows[k].terms s<0:=fun h2=>h ⟨e,h2⟩
 have hd:dnQ s (rows.take (k+1))=dnQ s (rows.take k):=by
  rcases VK (xU rows[k].terms s) with b | b | b
  . exact absurd b hb
  . exact ((vR (s:=s) hk).1 b).2.2
  . exact ((vR (s:=s) hk).2.1 b).2.2
 rw [hd]
theorem zvo {s:List UInt8} {rows:List zQ} {i:Nat} (hi:i<rows.length):wpQ s rows i rows.length=wpQ s rows (i+1) 0:=by
 unfold wpQ
 rw [zgi hi,List.take_length,List.take_zero]
 have hd:dnQ s []=[]:=rfl
 rw [hd,List.map_nil,ite_self,List.append_nil]
 congr 2
 by_cases e:0<xU rows[i].terms s
 . rw [if_pos e,((vR (s:=s) hi).2.1 e).2.1]
   unfold ZJ;rw [List.flatMap_append]
   simp
 rw [if_neg e,List.append_nil]
 have hd:upQ s (rows.take (i+1))=upQ s (rows.take i):=by
  rcases VK (xU rows[i].terms s) with b | b | b
  . exact ((vR (s:=s) hi).2.2 b).2.1
  . exact ((vR (s:=s) hi).1 b).2.1
  . exact absurd b e
 rw [hd]
theorem zxe (s:List UInt8) (rows:List zQ):wpQ s rows rows.length 0=vz rows s:=by
 unfold wpQ vz
 rw [List.take_length,List.take_zero]
 have hd:dnQ s []=[]:=rfl
 rw [hd,List.map_nil,ite_self,List.append_nil]
theorem zcz (us ds:List zQ):(ZJ us ds).length=us.length*ds.length:=by
 unfold ZJ
 rw [List.length_flatMap]
 have:(us.map fun p=>(ds.map fun q=>(p,q)).length)=List.replicate us.length ds.length:=by
  rw [List.eq_replicate_iff]
  refine ⟨by rw [List.length_map],fun b hb=>?_⟩
  obtain ⟨x,_,rfl⟩:=List.mem_map.1 hb
  simp
 rw [this,List.sum_replicate_nat]
theorem Xg {α:Type} (f:α->Bool) (l:List α) (k:Nat):((l.take k).filter f).length<=(l.filter f).length:=((List.take_sublist k l).filter f).length_le
theorem zv8 {s:List UInt8} {rows:List zQ} {i k:Nat} (hi:i<rows.length) (h:(Zr s rows).length+(upQ s rows).length*(dnQ s rows).length<=800):(wpQ s rows i k).length<=800:=by
 unfold wpQ
 rw [List.length_append,List.length_map,List.length_append,zcz,zgi hi]
 have l:(dnQ s (rows.take k)).length<=(dnQ s rows).length:=Xg _ _ _
 by_cases e:0<xU rows[i].terms s
 . rw [if_pos e,List.length_map]
   have b:(upQ s (rows.take (i+1))).length<=(upQ s rows).length:=Xg _ _ _;rw [((vR (s:=s) hi).2.1 e).2.1,List.length_append,List.length_singleton] at b;have j:=Nat.mul_le_mul_right (dnQ s rows).length b;rw [Nat.succ_mul] at j
   omega
 rw [if_neg e]
 have b:(upQ s (rows.take i)).length<=(upQ s rows).length:=Xg _ _ _;have j:=Nat.mul_le_mul_right (dnQ s rows).length b;simp only [List.length_nil]
 omega
end Go.Proofs.YthbmhkiphmcogaaGreatDoor
