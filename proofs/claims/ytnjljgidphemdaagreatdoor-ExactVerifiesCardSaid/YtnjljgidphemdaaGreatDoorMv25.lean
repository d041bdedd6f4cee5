/- Parts of the proof. -/
import Derived.Test.YtnjljgidphemdaaGreatDoorMv24
set_option linter.all false
set_option maxRecDepth 100000
set_option maxHeartbeats 32000000
namespace Go.Proofs.YtnjljgidphemdaaGreatDoor
open Proofs.Tryz Go.RowKit Go.Deep
theorem zh1 {s:List UInt8}:∀ {D:List (List UInt8×Value)} {i:Nat},zbc s D i=none↔∀ p∈D,p.1≠s
 | [],i=>by simp [zbc]
 | p :: D,i=>by
   unfold zbc
   by_cases h:p.1=s
   . rw [if_pos h]
     constructor
     . intro e;cases e
     intro e;exact absurd h (e p uP)
   rw [if_neg h,zh1]
   constructor
   rotate_left
   . intro e q b
     exact e q (List.mem_cons_of_mem _ b)
   intro e q b
   rcases List.mem_cons.1 b with rfl | b
   . exact h
   . exact e q b
theorem Zm (s:List UInt8) (p:List UInt8×Value) (D:List (List UInt8×Value)):zbm s (p :: D)=if p.1=s then some p.2 else zbm s D:=by
 unfold zbm
 conv=>lhs;unfold zbc
 by_cases h:p.1=s
 . rw [if_pos h,if_pos h];rfl
 rw [if_neg h,if_neg h,zaq s D 1,Option.map_map];rfl
theorem zdi (s:List UInt8) (v:Value) (p:List UInt8×Value) (D:List (List UInt8×Value)):zlj s v (p :: D)=if p.1=s then (s,v) :: D else p :: zlj s v D:=by
 unfold zlj
 conv=>lhs;unfold zbc
 by_cases h:p.1=s
 . rw [if_pos h,if_pos h];rfl
 rw [if_neg h,if_neg h,zaq s D 1]
 cases zbc s D 0 with
 | none=>rfl
 | some q=>rfl
theorem zml (s:List UInt8) (v:Value):∀ D:List (List UInt8×Value),zbm s (zlj s v D)=some v
 | []=>by simp [zlj,zbc,zbm]
 | p :: D=>by
   rw [zdi]
   by_cases h:p.1=s
   . rw [if_pos h,Zm,if_pos rfl]
   rw [if_neg h,Zm,if_neg h]
   exact zml s v D
theorem zd5 {s s' :List UInt8} (hne:s' ≠s) (v:Value):∀ D:List (List UInt8×Value),zbm s' (zlj s v D)=zbm s' D
 | []=>by
   have:¬ s=s' :=fun e=>hne e.symm
   simp [zlj,zbc,zbm,this]
 | p :: D=>by
   rw [zdi]
   by_cases h:p.1=s
   . rw [if_pos h,Zm,Zm,if_neg (fun e=>hne e.symm),if_neg (fun e=>hne (e.symm.trans h))]
   rw [if_neg h,Zm,Zm,zd5 hne v D]
theorem zjt (s:List UInt8) (v:Value):∀ D:List (List UInt8×Value),(zlj s v D).map (·.1)=if s∈D.map (·.1) then D.map (·.1) else D.map (·.1) ++ [s]
 | []=>by simp [zlj,zbc]
 | p :: D=>by
   rw [zdi]
   by_cases h:p.1=s
   . rw [if_pos h,List.map_cons,List.map_cons,if_pos (by rw [h];exact uP),h]
   rw [if_neg h,List.map_cons,zjt s v D,List.map_cons]
   by_cases b:s∈D.map (·.1)
   . rw [if_pos b,if_pos (List.mem_cons_of_mem _ b)]
   rw [if_neg b,if_neg (fun e=>by rcases List.mem_cons.1 e with e | e;exact h e.symm;exact b e)]
   rfl
theorem znr {s:List UInt8} {v:Value} {D:List (List UInt8×Value)} (h:(D.map (·.1)).Nodup):((zlj s v D).map (·.1)).Nodup:=by
 rw [zjt]
 by_cases j:s∈D.map (·.1)
 . rw [if_pos j];exact h
 rw [if_neg j,List.nodup_append]
 refine ⟨h,by simp,fun a ha b hb e=>?_⟩;simp at hb;subst hb;subst e;exact j ha
def ZV (w:World) (g:Nat) (F:List UInt8->Option Rat):Prop:=
 ∃ D,ZI w g D/\(D.map (·.1)).Nodup/\∀ s,match zbm s D with | none=>F s=none | some v=>∃ q,F s=some q/\yk w v q
theorem ZV.noDig {w:World} {g:Nat} {F:List UInt8->Option Rat} (h:ZV w g F):ye w g:=by obtain ⟨D,h,_⟩:=h;exact h.noDig
theorem ZV.new (w:World):ZV (w.alloc (.map #[] 0)) w.heap.size (fun _=>none):=⟨[],ZI.new w,by simp,fun s=>rfl⟩
theorem ZV.chg {S:Nat->Prop} {w w' :World} {g:Nat} {F:List UInt8->Option Rat} (h:ZV w g F) (hc:Chg S w w') (hb:¬ S g) (hS:∀ b,S b->ye w b):ZV w' g F:=by
 obtain ⟨D,m,j,r⟩:=h
 refine ⟨D,hc.map m hb,j,fun s=>?_⟩
 have:=r s
 split at this
 . exact this
 obtain ⟨q,e,l⟩:=this
 exact ⟨q,e,hc.rat l hS⟩
theorem ZV.below {w w' :World} {g:Nat} {F:List UInt8->Option Rat} (h:ZV w g F) (hb:Below w.heap.size w w'):ZV w' g F:=h.chg (S:=fun _=>False) (Chg.of_below hb) (fun h=>h) (fun _ h=>h.elim)
theorem ZV.book {w w' :World} {g b:Nat} {F:List UInt8->Option Rat} (h:ZV w g F) (hB:zv w b) (hc:Chg (· =b) w w') (hne:g≠b):ZV w' g F:=h.chg hc hne (fun _ e=>by subst e;exact hB.noDig)
def zvl (F:List UInt8->Option Rat) (s:List UInt8) (q:Rat):List UInt8->Option Rat:=fun t=>if t=s then some q else F t
theorem ZV.put {P:Program} {w:World} {g:Nat} {F:List UInt8->Option Rat} {s:List UInt8} {v:Value} {q:Rat} {t k e:TypeId} (ht:P.underlying t=some (.map k e)) (hk:P.underlying k=some .string) (h:ZV w g F) (hv:yk w v q):
 ∃ w',(Instr.mapUpdate t (.map (some g)) (str s) v).run P w= .ok () w' /\ZV w' g (zvl F s q)/\Chg (· =g) w w' :=by
 obtain ⟨D,j,r,B⟩:=h
 obtain ⟨w',y,l,E,_⟩:=ZG ht hk j s v
 have b:Chg (· =g) w w' :=Chg.of_grown E rfl
 have hS:∀ z,z=g->ye w z:=fun z e=>by subst e;exact j.noDig
 refine ⟨w',y,⟨_,l,znr r,fun s' =>?_⟩,b⟩
 unfold zvl
 by_cases e:s' =s
 . subst e
   rw [zml,if_pos rfl];exact ⟨q,rfl,b.rat hv hS⟩
 rw [zd5 e,if_neg e]
 have:=B s'
 split at this
 . exact this
 obtain ⟨C,m,u⟩:=this
 exact ⟨C,m,b.rat u hS⟩
theorem ZV.look {P:Program} {w:World} {g:Nat} {F:List UInt8->Option Rat} {t k e:TypeId} {z:Value} (ht:P.underlying t=some (.map k e)) (hk:P.underlying k=some .string) (hz:(zeroValue e).run P w= .ok z w) (h:ZV w g F) (s:List UInt8) (c:Bool):
 ∃ v,(Instr.lookup t (.map (some g)) (str s) c).run P w= .ok (if c then .tuple #[v,.bool (F s).isSome] else v) w/\((F s=none/\v=z)\/∃ q,F s=some q/\yk w v q):=by
 obtain ⟨D,r,_,u⟩:=h
 have b:=YT (w:=w) ht hk hz r s c
 have:=u s
 split at this
 . rename_i j
   rw [j] at b;exact ⟨z,by rw [this];exact b,.inl ⟨this,rfl⟩⟩
 rename_i v j
 obtain ⟨q,l,m⟩:=this;rw [j] at b;exact ⟨v,by rw [l];exact b,.inr ⟨q,l,m⟩⟩
theorem ZV.noCells {w:World} {g:Nat} {F:List UInt8->Option Rat} (h:ZV w g F):YZ w g:=by obtain ⟨D,h,_⟩:=h;exact h.noCells
theorem ZV.keepR {w w' :World} {g:Nat} {F:List UInt8->Option Rat} {v:Value} {q:Rat} (h:ZV w g F) (hc:Chg (· =g) w w') (hv:yk w v q):yk w' v q:=hc.rat hv (fun _ e=>by subst e;exact h.noDig)
theorem ZV.keepT {w w' :World} {g B:Nat} {F:List UInt8->Option Rat} {v:Value} {l:List zu} (h:ZV w g F) (hc:Chg (· =g) w w') (hv:zh w B v l):zh w' B v l:=hv.chg hc (fun _ _ e=>by subst e;exact h.noCells)
theorem ZV.keepBlk {w w' :World} {g x:Nat} {F:List UInt8->Option Rat} {t:TypeId} {cs:Array Value} (h:ZV w g F) (hc:Chg (· =g) w w') (hk:Blk w x t cs):Blk w' x t cs:=hc.blk hk (fun e=>by
 subst e
 obtain ⟨D,⟨b,c,hb,_⟩,_⟩:=h
 unfold Blk at hk
 rw [hb] at hk;cases hk)
theorem zv.neB {w:World} {b x:Nat} {t:TypeId} {cs:Array Value} (h:zv w b) (hk:Blk w x t cs):b≠x:=fun e=>by
 subst e
 obtain ⟨D,⟨j,c,hb,_⟩,_⟩:=h
 unfold Blk at hk
 rw [hb] at hk;cases hk
theorem ZV.ne {w:World} {g x:Nat} {F:List UInt8->Option Rat} {t:TypeId} {cs:Array Value} (h:ZV w g F) (hk:Blk w x t cs):g≠x:=fun e=>by
 subst e
 obtain ⟨D,⟨b,c,hb,_⟩,_⟩:=h
 unfold Blk at hk
 rw [hb] at hk;cases hk
theorem ZV.keepB {w w' :World} {g b:Nat} {F:List UInt8->Option Rat} (h:ZV w g F) (hc:Chg (· =g) w w') (hB:zv w b) (hne:b≠g):zv w' b:=hB.chg hc hne (fun _ e=>by subst e;exact h.noDig)
attribute [local go_sem ↓] Go.wp_at_zero Go.wp_at_succ
theorem Xk:prog.underlying 99=some (.map 9 70):=by kernel_rfl
theorem zai:prog.underlying 9=some .string:=by kernel_rfl
def zuw (wt:Rat) (F:List UInt8->Option Rat) (t:zu):List UInt8->Option Rat:=zvl F t.name ((F t.name).getD 0+ZS t*wt)
def zcv (wt:Rat) (F:List UInt8->Option Rat) (l:List zu):List UInt8->Option Rat:=l.foldl (zuw wt) F
theorem zp9 {wt:Rat} {F:List UInt8->Option Rat} {l:List zu} {k:Nat} (h:k<l.length):zcv wt F (l.take (k+1))=zuw wt (zcv wt F (l.take k)) l[k]:=by
 unfold zcv
 rw [List.take_add_one,List.getElem?_eq_getElem h,List.foldl_append]
 rfl
def XY (r:zU):Rat:=(zl r.bound).getD 0
structure zx8 (wt q0:Rat) (F:List UInt8->Option Rat) (r:zU):Prop where
 coef:∀ t∈r.terms,∃ q,zl t.coef=some q/\Zu 8388608 q/\Zu 8388608 (q*wt)
 wtl:Zu 8388608 wt
 part:∀ k,k<=r.terms.length->∀ s,Zu 8388608 (((zcv wt F (r.terms.take k)) s).getD 0)
 bound:∃ q,zl r.bound=some q/\Zu 8388608 q/\Zu 8388608 (q*wt)
 small:zS r.bound
 sum:Zu 8388608 q0
def xk (w:World) (gs gm:Nat) (q:Rat):Prop:=∃ (x:Int) (A:Option Addr) (k c:Nat) (s:Bool) (y:Int) (B:Option Addr) (k' c' :Nat) (t:Bool),Blk w gs 101 #[.map (some gm),.int .i64 x,.slice A k c,.bool s,.int .i64 y,.slice B k' c',.bool t]/\yk w (.agg #[.int .i64 x,.slice A k c,.bool s,.int .i64 y,.slice B k' c',.bool t]) q
theorem xk.below {w w' :World} {gs gm:Nat} {q:Rat} (h:xk w gs gm q) (hb:Below w.heap.size w w'):xk w' gs gm q:=by
 obtain ⟨_,_,_,_,_,_,_,_,_,_,b,e⟩:=h
 exact ⟨_,_,_,_,_,_,_,_,_,_,b.below hb b.lt,e.below hb⟩
theorem xk.map {w:World} {gs gm:Nat} {q:Rat} (h:xk w gs gm q):w.cell? ⟨gs,0,none⟩=some (.map (some gm))/\gs<w.heap.size:=by
 obtain ⟨_,_,_,_,_,_,_,_,_,_,b,e⟩:=h
 have:=b.cell 0
 simp at this
 exact ⟨this,b.lt⟩
theorem zms (g:Option Nat) (x:Int) (A:Option Addr) (k c:Nat) (s:Bool) (y:Int) (B:Option Addr) (k' c' :Nat) (t:Bool):Zi #[.map g,.int .i64 x,.slice A k c,.bool s,.int .i64 y,.slice B k' c',.bool t]:=by
 intro i d h
 match i with
 | 0=>simp at h
 | 1=>simp at h
 | 2=>simp at h
 | 3=>simp at h
 | 4=>simp at h
 | 5=>simp at h
 | 6=>simp at h
 | n+7=>simp at h
def World.rat1 (w:World) (g:Nat) (x:Int) (A:Option Addr) (k c:Nat) (s:Bool) (y:Int) (B:Option Addr) (k' c' :Nat) (t:Bool):World:=
 (((((w.setCell ⟨g,1,none⟩ (.int .i64 x)).setCell ⟨g,2,none⟩ (.slice A k c)).setCell ⟨g,3,none⟩ (.bool s)).setCell ⟨g,4,none⟩ (.int .i64 y)).setCell ⟨g,5,none⟩ (.slice B k' c')).setCell ⟨g,6,none⟩ (.bool t)
theorem xk.noDig {w:World} {gs gm:Nat} {q:Rat} (h:xk w gs gm q):ye w gs:=by
 obtain ⟨_,_,_,_,_,_,_,_,_,_,b,e⟩:=h
 exact b.noDig (zms _ _ _ _ _ _ _ _ _ _ _)
theorem zgk {w:World} {g:Nat} {x:Int} {A:Option Addr} {k c:Nat} {s:Bool} {y:Int} {B:Option Addr} {k' c' :Nat} {t:Bool}:Chg (· =g) w (World.rat1 w g x A k c s y B k' c' t):=by
 simp only [World.rat1]
 apply Chg.setCell (S:=fun b=>b=g) ?_ (by rfl)
 apply Chg.setCell (S:=fun b=>b=g) ?_ (by rfl)
 apply Chg.setCell (S:=fun b=>b=g) ?_ (by rfl)
 apply Chg.setCell (S:=fun b=>b=g) ?_ (by rfl)
 apply Chg.setCell (S:=fun b=>b=g) ?_ (by rfl)
 apply Chg.setCell (S:=fun b=>b=g) ?_ (by rfl)
 exact Chg.refl w
theorem xk.put {w:World} {gs gm:Nat} {q q' :Rat} {x:Int} {A:Option Addr} {k c:Nat} {s:Bool} {y:Int} {B:Option Addr} {k' c' :Nat} {t:Bool} (h:xk w gs gm q) (hv:yk w (.agg #[.int .i64 x,.slice A k c,.bool s,.int .i64 y,.slice B k' c',.bool t]) q'):xk (World.rat1 w gs x A k c s y B k' c' t) gs gm q' :=by
 have hS:∀ z,z=gs->ye w z:=fun z e=>by subst e;exact h.noDig
 have j:=(zgk (w:=w) (g:=gs) (x:=x) (A:=A) (k:=k) (c:=c) (s:=s) (y:=y) (B:=B) (k' :=k') (c' :=c') (t:=t)).rat hv hS
 obtain ⟨_,_,_,_,_,_,_,_,_,_,b,l⟩:=h
 exact ⟨_,_,_,_,_,_,_,_,_,_,(((((b.set_ 1 _).set_ 2 _).set_ 3 _).set_ 4 _).set_ 5 _).set_ 6 _,j⟩
def ScaR (w0:World) (b gs gm gw:Nat) (gv:Value) (gr:Nat) (bd:List UInt8) (wt q0:Rat) (F:List UInt8->Option Rat) (tv:Value) (l:List zu) (kv:Value) (wr:World):Prop:=
 ∃ k:Nat,k<=l.length/\kv= .int .i64 k/\Hid (ZV wr gm (zcv wt F (l.take k)))/\Hid (xk wr gs gm q0)/\Hid (zkf wr gw wt)/\Hid (Blk wr gr 31 #[tv,str bd])/\Hid (zv wr b)/\Hid (zh wr w0.heap.size tv l)/\Hid (Chg (fun x=>x=b\/x=gm) w0 wr)
theorem zom (b gs gm:Nat) (A:Option Addr) (n c:Nat) (r:zU) (va:Value) (wt q0:Rat) (F:List UInt8->Option Rat) (w:World) (hB:zv w b) (hm:ZV w gm F) (hs:xk w gs gm q0) (hbm:gm≠b) (hv:yk w va wt) (ht:zV w (.slice A n c) r.terms) (ho:zx8 wt q0 F r):
 Calls prog 97 #[.pointer (some ⟨gs,0,none⟩),.map (some b),.agg #[.slice A n c,str r.bound],va] w fun e w' =>e= .returned (.tuple #[])/\zv w' b/\ZV w' gm (zcv wt F r.terms)/\xk w' gs gm (q0+XY r*wt)/\Chg (fun x=>x=b\/x=gm\/x=gs) w w' :=by
 obtain rfl:=ht.len
 have b7:r.terms.length<=100000:=by obtain ⟨_,_,_,_,_,h,_⟩:=id ht;exact h
 obtain ⟨x9,A9,k9,c9,s9,y9,B9,bm,bb,t9,rfl⟩:=hv.agg
 obtain ⟨W,hW⟩:=uQ ((w.alloc (.cells #[.slice A r.terms.length c,str r.bound] 31)).alloc (.cells #[.int .i64 x9,.slice A9 k9 c9,.bool s9,.int .i64 y9,.slice B9 bm bb,.bool t9] 70))
 have hz:=ext (zf w (.cells #[.slice A r.terms.length c,str r.bound] 31)) (zf (w.alloc (.cells #[.slice A r.terms.length c,str r.bound] 31)) (.cells #[.int .i64 x9,.slice A9 k9 c9,.bool s9,.int .i64 y9,.slice B9 bm bb,.bool t9] 70))
 have bz:=(Blk.new w 31 #[.slice A r.terms.length c,str r.bound]).alloc (.cells #[.int .i64 x9,.slice A9 k9 c9,.bool s9,.int .i64 y9,.slice B9 bm bb,.bool t9] 70)
 have bl:=Blk.new (w.alloc (.cells #[.slice A r.terms.length c,str r.bound] 31)) 70 #[.int .i64 x9,.slice A9 k9 c9,.bool s9,.int .i64 y9,.slice B9 bm bb,.bool t9]
 simp only [World.size_alloc] at bl
 rw [<- hW] at hz bz bl
 have J:=ze bz
 have G:Hid (zkf W (w.heap.size+1) wt):=⟨_,_,_,_,_,_,_,_,_,_,bl,hv.below hz⟩
 have l:=ze (hB.below hz)
 have j:=ze (hm.below hz)
 have M:=ze (zh.below ht hz)
 have E:Hid (xk W gs gm q0):=by
  obtain ⟨_,_,_,_,_,_,_,_,_,_,N,R⟩:=hs
  exact ⟨_,_,_,_,_,_,_,_,_,_,N.below hz N.lt,R.below hz⟩
 have I:Hid (Chg (fun x=>x=b\/x=gm) w W):=Chg.of_below hz
 have HO:=ze ho
 have bk:=ze hbm
 clear hB hm hs hbm hv ht ho hz bz bl
 go_in
 go_upto_region 1 with fail
 rw [<- hW]
 clear hW;have r0:=(bq1 J).1
 go_wp2
 go_loopw [19] (ScaR w b gs gm (w.heap.size+1) (.slice A r.terms.length c) w.heap.size r.bound wt q0 F (.slice A r.terms.length c) r.terms) (fun kv _=>r.terms.length - (intOf kv).toNat)
 case atStart=>exact ⟨0,uB,rfl,j,E,G,J,l,M,I⟩
 case round=>
  clear j E G J l M I r0
  obtain ⟨k,hk,rfl,j,E,G,J,l,M,I⟩:=hrel
  by_cases bF:k<r.terms.length
  rotate_left
  . obtain rfl:r.terms.length=k:=by omega
    rw [List.take_length] at j;obtain ⟨q,hq,aZ,aX⟩:=HO.o.bound;have b1:Hid (XY r=q):=ze (by unfold XY;rw [hq];rfl);obtain ⟨HQ,be,bn⟩:=hz3 hq aZ aX;have bd:=ze HO.o.wtl;have bY:=ze HO.o.small;have b6:=ze HO.o.sum;clear hq aZ aX M;have r1:=J.o.cell 1;simp at r1;have aM:=xU b ⟨r.bound.toArray⟩ wr l.o (by rw [<- zm,yt];exact bY.o);rw [yt] at aM;have aV:=ze aM;clear aM;go_wp2_with fail;refine aV.o.mono ?_;rintro e w2 ⟨v,ok,rfl,⟨x2,A2,k2,c2,s2,y2,B2,ak,aj,t2,rfl⟩,bu,aY,aQ,ba⟩;have V:=zf w2 (.cells #[.int .i64 x2,.slice A2 k2 c2,.bool s2,.int .i64 y2,.slice B2 ak aj,.bool t2] 70);have af:Chg (· =b) wr (w2.alloc (.cells #[.int .i64 x2,.slice A2 k2 c2,.bool s2,.int .i64 y2,.slice B2 ak aj,.bool t2] 70)):=zJ ba V;replace j:=ze (j.o.book l.o af bk.o)
    replace E:Hid (xk (w2.alloc (.cells #[.int .i64 x2,.slice A2 k2 c2,.bool s2,.int .i64 y2,.slice B2 ak aj,.bool t2] 70)) gs gm q0):=by
     obtain ⟨_,_,_,_,_,_,_,_,_,_,N,R⟩:=E.o;exact ⟨_,_,_,_,_,_,_,_,_,_,l.o.keepBlk af N,l.o.keepR af R⟩
    replace G:=ze (l.o.keepRB af G.o);replace I:=ze (I.o.trans (S:=fun x=>x=b\/x=gm) (T:=fun x=>x=b) af (fun x _ h=>.inl h));replace l:=ze (aQ.below V);have m:=ze (Blk.new w2 70 #[.int .i64 x2,.slice A2 k2 c2,.bool s2,.int .i64 y2,.slice B2 ak aj,.bool t2]);have ag:=ze ((aY q HQ.o).below V);clear aQ ba V af aY bu aV r1 J
    go_upto_region 11 with fail
    generalize w2.alloc (.cells #[.int .i64 x2,.slice A2 k2 c2,.bool s2,.int .i64 y2,.slice B2 ak aj,.bool t2] 70)=Q at m ag l j E G I |-;generalize w2.heap.size=gx at m |-;obtain ⟨X,A4,k4,c4,Z,y4,Y,ab,aa,t4,ao,bc⟩:=E.o;obtain ⟨xw,Aw,kw,cw,sw,yw,Bw,a9,aR,tw,L,aD⟩:=G.o;have a7:=ze aD;have ah:=ze bc;have o1:=ao.cell 1;have o2:=ao.cell 2;have o3:=ao.cell 3;have o4:=ao.cell 4;have o5:=ao.cell 5;have o6:=ao.cell 6;have oL:=ao.lt;have aC :=m.o.cell 0;have az :=m.o.cell 1;have aH :=m.o.cell 2;have au :=m.o.cell 3;have aA :=m.o.cell 4;have aJ :=m.o.cell 5;have qL:=m.o.lt;have aB :=L.cell 0;have ax :=L.cell 1;have aF :=L.cell 2;have ar :=L.cell 3;have aG :=L.cell 4;have ay :=L.cell 5;have wL:=L.lt;simp at o1 o2 o3 o4 o5 o6 aC az aH au aA aJ aB ax aF ar aG ay;have ac:=ze ao;clear ao L aD bc
    have ai:∀ w',Hid (Below Q.heap.size Q w')->w'.cell? ⟨gs,1,none⟩=some (.int .i64 X)/\w'.cell? ⟨gs,2,none⟩=some (.slice A4 k4 c4)/\w'.cell? ⟨gs,3,none⟩=some (.bool Z)/\w'.cell? ⟨gs,4,none⟩=some (.int .i64 y4)/\w'.cell? ⟨gs,5,none⟩=some (.slice Y ab aa)/\w'.cell? ⟨gs,6,none⟩=some (.bool t4)/\w'.cell? ⟨gx,0,none⟩=some (.int .i64 x2)/\w'.cell? ⟨gx,1,none⟩=some (.slice A2 k2 c2)/\w'.cell? ⟨gx,2,none⟩=some (.bool s2)/\w'.cell? ⟨gx,3,none⟩=some (.int .i64 y2)/\w'.cell? ⟨gx,4,none⟩=some (.slice B2 ak aj)/\w'.cell? ⟨gx,5,none⟩=some (.bool t2)/\w'.cell? ⟨w.heap.size+1,0,none⟩=some (.int .i64 xw)/\w'.cell? ⟨w.heap.size+1,1,none⟩=some (.slice Aw kw cw)/\w'.cell? ⟨w.heap.size+1,2,none⟩=some (.bool sw)/\w'.cell? ⟨w.heap.size+1,3,none⟩=some (.int .i64 yw)/\w'.cell? ⟨w.heap.size+1,4,none⟩=some (.slice Bw a9 aR)/\w'.cell? ⟨w.heap.size+1,5,none⟩=some (.bool tw):=fun w' hB=>⟨zq hB oL o1,zq hB oL o2,zq hB oL o3,zq hB oL o4,zq hB oL o5,zq hB oL o6,zq hB qL aC,zq hB qL az,zq hB qL aH,zq hB qL au,zq hB qL aA,zq hB qL aJ,zq hB wL aB,zq hB wL ax,zq hB wL aF,zq hB wL ar,zq hB wL aG,zq hB wL ay⟩
    refine Xc ai 11 (zt Q) fun C=>?_;refine tK 0 ?_;refine tK 1 ?_;refine tK 2 ?_;refine tK 3 ?_;refine tK 4 ?_;refine tK 5 ?_;refine tK 6 ?_;refine rK 7 fun K hK=>?_
    go_simp
    go_at_call 70;refine (XG _ _ q wt _ (ag.o.below C.1.out) (a7.o.below C.1.out) be.o bd.o).mono ?_;rintro e w6 ⟨v6,rfl,aw,aE⟩;have av:=ze aw;refine hK.out _ _ (zo (zp aE C.1) (ai _)) ?_;clear hK K C;intro C
    try simp only [Act.put,xST]
    clear aE aw;refine rK 8 fun K hK=>?_
    go_simp
    go_at_call 35;refine (ZH _ _ q0 (q*wt) _ (ah.o.below C.1.out) av.o b6.o bn.o).mono ?_;rintro e w7 ⟨v7,rfl,aq,aI⟩;obtain ⟨x7,A7,k7,c7,s7,y7,B7,b4,b5,t7,rfl⟩:=aq.agg;have aU:=ze aq;refine hK.out _ _ (zo (zp aI C.1) (ai _)) ?_;clear hK K C;intro C
    try simp only [Act.put,xST]
    clear aI aq av;refine tK 9 ?_;refine tK 10 ?_;have O:=(C.1).out
    try clear z0 z1 z2 z3 z4 z5 z6 zL
    replace j:=ze (j.o.below O);replace l:=ze (l.o.below O);replace E:=ze (xk.below E.o O);replace I:=ze (zJ I.o O);replace ac:=kb_ ac O;clear O C ai;refine hdn ?_;simp only [xDR];obtain ⟨z0,z1,z2,z3,z4,z5,z6,zL⟩:=bkc7 ac.o;clear z0 z1 z2 z3 z4 z5 z6 zL;have a1:=ac.o.cell 1;have a2:=ac.o.cell 2;have a3:=ac.o.cell 3;have a4:=ac.o.cell 4;have a5:=ac.o.cell 5;have a6:=ac.o.cell 6;have f1:=ac.o.frozen 1;have f2:=ac.o.frozen 2;have f3:=ac.o.frozen 3;have f4:=ac.o.frozen 4;have f5:=ac.o.frozen 5;have f6:=ac.o.frozen 6;simp at a1 a2 a3 a4 a5 a6;go_wp2
    go_end0
    have bA:Chg (· =gs) w7 (World.rat1 w7 gs x7 A7 k7 c7 s7 y7 B7 b4 b5 t7):=zgk;have bH:∀ z,z=gs->ye w7 z:=fun z e=>by subst e;exact E.o.noDig
    refine ⟨rfl,l.o.chg bA (l.o.neB ac.o) bH,j.o.chg bA (j.o.ne ac.o) bH,by rw [b1.o];exact E.o.put aU.o,(I.o.mono (T:=fun x=>x=b\/x=gm\/x=gs) (fun x _ h=>h.elim .inl (fun h=>.inr (.inl h)))).trans (T:=fun x=>x=gs) bA (fun x _ h=>.inr (.inr h))⟩
  have b8:(k:Int)<(r.terms.length:Int):=by omega
  obtain ⟨ad,eA,bZ,p0,p1,b3,bI⟩:=M.o.at_ bF;subst eA;obtain ⟨q,hq,aZ,aX⟩:=HO.o.coef r.terms[k] (uO bF)
  have bN:zcv wt F (r.terms.take (k+1))=zvl (zcv wt F (r.terms.take k)) r.terms[k].name (((zcv wt F (r.terms.take k)) r.terms[k].name).getD 0+q*wt):=by
   rw [zp9 bF];unfold zuw ZS;rw [hq];rfl
  have bP:=HO.o.part k hk r.terms[k].name;obtain ⟨br,bB,HQ,be,bn⟩:=hz5 bN bP hq aZ aX;have bd:=ze HO.o.wtl;have bK:=ze bI;generalize b0:r.terms[k]=t at p0 p1 br bB HQ bK;have V:=zf wr (.cells #[str t.name,str t.coef] 45);have U:=ze (Blk.new wr 45 #[str t.name,str t.coef])
  have bO (w' :World) (hb:Below wr.heap.size wr w'):xk w' gs gm q0:=by
   obtain ⟨_,_,_,_,_,_,_,_,_,_,N,R⟩:=E.o;exact ⟨_,_,_,_,_,_,_,_,_,_,N.below hb N.lt,R.below hb⟩
  replace j:=ze (j.o.below V);replace E:=ze (bO _ V);replace G:=ze (G.o.below V);replace J:=kb_ J V;replace l:=ze (l.o.below V);replace M:=ze (zh.below M.o V);replace I:=ze (I.o.trans (Chg.of_below (S:=fun x=>x=b\/x=gm) V) (fun _ _ h=>h));clear bN bP hq aZ aX b3 bI b0 V bO
  go_upto_region 4 with fail
  clear p0 p1 bZ;generalize wr.alloc (.cells #[str t.name,str t.coef] 45)=W2 at U j E G J l M I |-;generalize wr.heap.size=gt at U |-;have t1:=U.o.cell 1;simp at t1;have aM:=xU b ⟨t.coef.toArray⟩ W2 l.o (by rw [<- zm,yt];exact bK.o);rw [yt] at aM;have aV:=ze aM;clear aM;go_wp2_with fail;refine aV.o.mono ?_;rintro e w2 ⟨v,ok,rfl,⟨x2,A2,k2,c2,s2,y2,B2,ak,aj,t2,rfl⟩,bu,aY,aQ,ba⟩;have V:=zf w2 (.cells #[.int .i64 x2,.slice A2 k2 c2,.bool s2,.int .i64 y2,.slice B2 ak aj,.bool t2] 70);have af:Chg (· =b) W2 (w2.alloc (.cells #[.int .i64 x2,.slice A2 k2 c2,.bool s2,.int .i64 y2,.slice B2 ak aj,.bool t2] 70)):=zJ ba V;replace j:=ze (j.o.book l.o af bk.o)
  replace E:Hid (xk (w2.alloc (.cells #[.int .i64 x2,.slice A2 k2 c2,.bool s2,.int .i64 y2,.slice B2 ak aj,.bool t2] 70)) gs gm q0):=by
   obtain ⟨_,_,_,_,_,_,_,_,_,_,N,R⟩:=E.o;exact ⟨_,_,_,_,_,_,_,_,_,_,l.o.keepBlk af N,l.o.keepR af R⟩
  replace M:=ze (l.o.keepT af M.o);replace U:=ze (l.o.keepBlk af U.o);replace J:=ze (l.o.keepBlk af J.o);replace G:=ze (l.o.keepRB af G.o);replace I:=ze (I.o.trans (S:=fun x=>x=b\/x=gm) (T:=fun x=>x=b) af (fun x _ h=>.inl h));replace l:=ze (aQ.below V);have m:=ze (Blk.new w2 70 #[.int .i64 x2,.slice A2 k2 c2,.bool s2,.int .i64 y2,.slice B2 ak aj,.bool t2]);have ag:=ze ((aY q HQ.o).below V);clear aQ ba V af aY bu aV t1
  go_upto_region 5 with fail
  generalize w2.alloc (.cells #[.int .i64 x2,.slice A2 k2 c2,.bool s2,.int .i64 y2,.slice B2 ak aj,.bool t2] 70)=Q at m ag l M j E U J G I |-;generalize w2.heap.size=gx at m |-;obtain ⟨x3,A3,k3,c3,s3,y3,B3,ca,b9,t3,bj,bc⟩:=E.o;have g0:=(bp1 bj).1;have n0:=(bq1 U).1;obtain ⟨D,aL,_,bS⟩:=id j.o;have bh:=bS t.name;have aO (w' :World) (h:ZI w' gm D):=YT (w:=w') Xk zai (zgf _) h t.name true;simp only [if_true] at aO;obtain ⟨vo,ap⟩:=uQ ((zbm t.name D).getD (.agg #[.int .i64 0,.slice none 0 0,.bool false,.int .i64 0,.slice none 0 0,.bool false]));obtain ⟨bo,bw⟩:=uQ ((zbm t.name D).isSome)
  have ah:Hid ((bo=false/\(zcv wt F (r.terms.take k)) t.name=none/\vo=(.agg #[.int .i64 0,.slice none 0 0,.bool false,.int .i64 0,.slice none 0 0,.bool false]))\/(bo=true/\∃ q,(zcv wt F (r.terms.take k)) t.name=some q/\yk Q vo q)):=by
   rw [ap,bw]
   split at bh
   . rename_i e;rw [e];exact .inl ⟨rfl,bh,rfl⟩
   rename_i v e;rw [e];exact .inr ⟨rfl,bh⟩
  rw [<- ap, <- bw] at aO
  obtain ⟨X,A4,k4,c4,Z,y4,Y,ab,aa,t4,ev⟩:∃ (x:Int) (A:Option Addr) (k c:Nat) (s:Bool) (y:Int) (B:Option Addr) (k' c' :Nat) (t:Bool),vo= .agg #[.int .i64 x,.slice A k c,.bool s,.int .i64 y,.slice B k' c',.bool t]:=by
   rcases ah.o with ⟨_,_,e⟩ | ⟨_,q,_,h⟩
   . exact ⟨_,_,_,_,_,_,_,_,_,_,e⟩
   . exact h.agg
  rw [ev] at aO ah;have bV:=(zt Q).out;have aT:=zf Q (.cells #[.int .i64 0,.slice none 0 0,.bool false,.int .i64 0,.slice none 0 0,.bool false] 70);have l1:=aO Q.drew (aL.below bV aL.lt);have l2:=aO (Q.alloc (.cells #[.int .i64 0,.slice none 0 0,.bool false,.int .i64 0,.slice none 0 0,.bool false] 70)).drew ((aL.below aT aL.lt).below (zt _).out (aL.below aT aL.lt).lt);have g1:=(bj.below aT bj.lt).cell 0;have n1:=(U.o.below aT U.o.lt).cell 0;simp at g1 n1;clear bh aO ap bw bS bV aT aL ev;have bX:Hid (w.heap.size<=Q.heap.size):=I.o.size;have bQ:Hid (gx<Q.heap.size):=m.o.lt;have bT:Hid (w.heap.size+1<Q.heap.size):=G.o.lt;go_wp2_with fail
  go_region
  all_goals
   have am:=ext (zf Q (.cells #[.int .i64 X,.slice A4 k4 c4,.bool Z,.int .i64 y4,.slice Y ab aa,.bool t4] 70)) (zt (Q.alloc (.cells #[.int .i64 X,.slice A4 k4 c4,.bool Z,.int .i64 y4,.slice Y ab aa,.bool t4] 70))).out;have u:Hid (Blk (Q.alloc (.cells #[.int .i64 X,.slice A4 k4 c4,.bool Z,.int .i64 y4,.slice Y ab aa,.bool t4] 70)).drew Q.heap.size 70 #[.int .i64 X,.slice A4 k4 c4,.bool Z,.int .i64 y4,.slice Y ab aa,.bool t4]):=Blk.new Q 70 #[.int .i64 X,.slice A4 k4 c4,.bool Z,.int .i64 y4,.slice Y ab aa,.bool t4];replace E:=ze (E.o.below am);replace j:=ze (j.o.below am);replace l:=ze (l.o.below am);replace M:=ze (zh.below M.o am);replace U:=kb_ U am;replace J:=kb_ J am;replace m:=kb_ m am;replace G:=ze (G.o.below am);replace ag:=ze (ag.o.below am);replace I:=ze (zJ I.o am)
   have bg:Hid ((bo=false/\(zcv wt F (r.terms.take k)) t.name=none)\/(bo=true/\∃ q,(zcv wt F (r.terms.take k)) t.name=some q/\yk (Q.alloc (.cells #[.int .i64 X,.slice A4 k4 c4,.bool Z,.int .i64 y4,.slice Y ab aa,.bool t4] 70)).drew (.agg #[.int .i64 X,.slice A4 k4 c4,.bool Z,.int .i64 y4,.slice Y ab aa,.bool t4]) q)):=by
    rcases ah.o with ⟨N,R,_⟩ | ⟨N,q,R,h3⟩
    . exact .inl ⟨N,R⟩
    . exact .inr ⟨N,q,R,h3.below am⟩
   clear am ah bj bc g0 n0 l1 l2 g1 n1;generalize (Q.alloc (.cells #[.int .i64 X,.slice A4 k4 c4,.bool Z,.int .i64 y4,.slice Y ab aa,.bool t4] 70)).drew=W4 at u E j l M U J m G ag I bg |-;have bv:Hid (w.heap.size<=Q.heap.size):=bX;have bR:Hid (gx<Q.heap.size):=bQ;have bL:Hid (w.heap.size+1<Q.heap.size):=bT;clear bX bQ bT;generalize Q.heap.size=gO at u bv bR bL |-
   rcases bg.o with ⟨rfl,hn⟩ | ⟨rfl,fo,hn,ap⟩
   . have aK:Hid (((zcv wt F (r.terms.take k)) t.name).getD 0=0):=ze (by rw [hn];rfl)
     clear hn bg;have aS:Hid (Zu 8388608 0):=by rw [<- aK.o];exact bB.o
     go_wp2_with fail;refine (Xd 0 _ (by omega) (by omega)).mono ?_;rintro e w5 ⟨v,rfl,hv,an⟩;obtain ⟨X,A4,k4,c4,Z,y4,Y,ab,aa,t4,rfl⟩:=hv.agg;have bU:=ze hv;replace E:=ze (E.o.below an);replace j:=ze (j.o.below an);replace l:=ze (l.o.below an);replace M:=ze (zh.below M.o an);replace U:=kb_ U an;replace J:=kb_ J an;replace m:=kb_ m an;replace u:=kb_ u an;replace G:=ze (G.o.below an);replace ag:=ze (ag.o.below an);replace I:=ze (zJ I.o an);clear an hv;have a0:=u.o.cell 0;have a1:=u.o.cell 1;have a2:=u.o.cell 2;have a3:=u.o.cell 3;have a4:=u.o.cell 4;have a5:=u.o.cell 5;obtain ⟨f0,f1,f2,f3,f4,f5⟩:=fq6 u;simp at a0 a1 a2 a3 a4 a5;go_wp2_with fail;clear a0 a1 a2 a3 a4 a5 f0 f1 f2 f3 f4 f5;have aP:∀ z,z=gO->ye w5 z:=fun z hz=>by subst hz;exact u.o.noDig (X6 _ _ _ _ _ _ _ _ _ _)
     have al:=Chg.ratSet (w:=w5) (g:=gO) (x:=X) (A:=A4) (k:=k4) (c:=c4) (s:=Z) (y:=y4) (B:=Y) (k' :=ab) (c' :=aa) (t:=t4);have bW:=yz (x:=X) (A:=A4) (k:=k4) (c:=c4) (s:=Z) (y:=y4) (B:=Y) (k' :=ab) (c' :=aa) (t:=t4) u.o;have ap:=yk.stored (x:=X) (A:=A4) (k:=k4) (c:=c4) (s:=Z) (y:=y4) (B:=Y) (k' :=ab) (c' :=aa) (t:=t4) bU.o u.o
     have bJ:xk (World.rat w5 gO X A4 k4 c4 Z y4 Y ab aa t4) gs gm q0:=by
      obtain ⟨_,_,_,_,_,_,_,_,_,_,N,R⟩:=E.o;exact ⟨_,_,_,_,_,_,_,_,_,_,al.blk N (fun e=>xD N u.o (by decide) e),al.rat R aP⟩
     have bM:zkf (World.rat w5 gO X A4 k4 c4 Z y4 Y ab aa t4) (w.heap.size+1) wt:=by
      obtain ⟨_,_,_,_,_,_,_,_,_,_,N,R⟩:=G.o;exact ⟨_,_,_,_,_,_,_,_,_,_,al.blk N (fun e=>by have:=bL.o;omega),al.rat R aP⟩
     replace j:=ze (j.o.chg al (j.o.ne u.o) aP);replace l:=ze (l.o.chg al (l.o.neB u.o) aP);replace M:=ze (M.o.chg al (fun x V e=>absurd V (by have:=bv.o;omega)));replace U:=ze (al.blk U.o (fun e=>xD U.o u.o (by decide) e));replace J:=ze (al.blk J.o (fun e=>xD J.o u.o (by decide) e));replace m:=ze (al.blk m.o (fun e=>by have:=bR.o;omega));replace ag:=ze (al.rat ag.o aP);replace I:Hid (Chg (fun x=>x=b\/x=gm) w (World.rat w5 gO X A4 k4 c4 Z y4 Y ab aa t4)):=ze (I.o.trans (S:=fun x=>x=b\/x=gm) (T:=fun x=>x=gO) al (fun x V e=>absurd V (by have:=bv.o;omega)));obtain ⟨E,G,u,ah⟩:=hz4 bJ bM bW ap;clear al bW ap bJ bM aP bU;obtain ⟨fo,bf⟩:∃ fo:Rat,fo=0:=⟨_,rfl⟩;have aK:Hid (((zcv wt F (r.terms.take k)) t.name).getD 0=fo):=by rw [bf];exact aK
     have aS:Hid (Zu 8388608 fo):=by rw [bf];exact aS
     have ah:Hid (yk (World.rat w5 gO X A4 k4 c4 Z y4 Y ab aa t4) (.agg #[.int .i64 X,.slice A4 k4 c4,.bool Z,.int .i64 y4,.slice Y ab aa,.bool t4]) fo):=by rw [bf];exact ah
     clear bf;obtain ⟨W5,bi⟩:=uQ (World.rat w5 gO X A4 k4 c4 Z y4 Y ab aa t4);rw [<- bi] at j l M U J m ag I E G u ah;simp only [World.rat] at bi;rw [<- bi];clear bi;obtain ⟨xw,Aw,kw,cw,sw,yw,Bw,a9,aR,tw,L,aD⟩:=G.o;have a7:=ze aD;have aN:=E.o.map;have g0:=aN.1;have sL:=aN.2;have n0:=U.o.cell 0;have nL:=U.o.lt;have o0:=u.o.cell 0;have o1:=u.o.cell 1;have o2:=u.o.cell 2;have o3:=u.o.cell 3;have o4:=u.o.cell 4;have o5:=u.o.cell 5;have oL:=u.o.lt;have aC :=m.o.cell 0;have az :=m.o.cell 1;have aH :=m.o.cell 2;have au :=m.o.cell 3;have aA :=m.o.cell 4;have aJ :=m.o.cell 5;have qL:=m.o.lt;have aB :=L.cell 0;have ax :=L.cell 1;have aF :=L.cell 2;have ar :=L.cell 3;have aG :=L.cell 4;have ay :=L.cell 5;have wL:=L.lt;simp at n0 o0 o1 o2 o3 o4 o5 aC az aH au aA aJ aB ax aF ar aG ay;clear aN L aD
     have ai:∀ w',Hid (Below W5.heap.size W5 w')->w'.cell? ⟨gs,0,none⟩=some (.map (some gm))/\w'.cell? ⟨gt,0,none⟩=some (str t.name)/\w'.cell? ⟨gO,0,none⟩=some (.int .i64 X)/\w'.cell? ⟨gO,1,none⟩=some (.slice A4 k4 c4)/\w'.cell? ⟨gO,2,none⟩=some (.bool Z)/\w'.cell? ⟨gO,3,none⟩=some (.int .i64 y4)/\w'.cell? ⟨gO,4,none⟩=some (.slice Y ab aa)/\w'.cell? ⟨gO,5,none⟩=some (.bool t4)/\w'.cell? ⟨gx,0,none⟩=some (.int .i64 x2)/\w'.cell? ⟨gx,1,none⟩=some (.slice A2 k2 c2)/\w'.cell? ⟨gx,2,none⟩=some (.bool s2)/\w'.cell? ⟨gx,3,none⟩=some (.int .i64 y2)/\w'.cell? ⟨gx,4,none⟩=some (.slice B2 ak aj)/\w'.cell? ⟨gx,5,none⟩=some (.bool t2)/\w'.cell? ⟨w.heap.size+1,0,none⟩=some (.int .i64 xw)/\w'.cell? ⟨w.heap.size+1,1,none⟩=some (.slice Aw kw cw)/\w'.cell? ⟨w.heap.size+1,2,none⟩=some (.bool sw)/\w'.cell? ⟨w.heap.size+1,3,none⟩=some (.int .i64 yw)/\w'.cell? ⟨w.heap.size+1,4,none⟩=some (.slice Bw a9 aR)/\w'.cell? ⟨w.heap.size+1,5,none⟩=some (.bool tw):=fun w' hB=>⟨zq hB sL g0,zq hB nL n0,zq hB oL o0,zq hB oL o1,zq hB oL o2,zq hB oL o3,zq hB oL o4,zq hB oL o5,zq hB qL aC,zq hB qL az,zq hB qL aH,zq hB qL au,zq hB qL aA,zq hB qL aJ,zq hB wL aB,zq hB wL ax,zq hB wL aF,zq hB wL ar,zq hB wL aG,zq hB wL ay⟩
     refine Xc ai 11 (zt W5) fun C=>?_;refine tK 0 ?_;refine tK 1 ?_;refine tK 2 ?_;refine tK 3 ?_;refine tK 4 ?_;refine tK 5 ?_;refine tK 6 ?_;refine tK 7 ?_;refine tK 8 ?_;refine rK 9 fun K hK=>?_
     go_simp
     go_at_call 70;refine (XG _ _ q wt _ (ag.o.below C.1.out) (a7.o.below C.1.out) be.o bd.o).mono ?_;rintro e w6 ⟨v6,rfl,aw,aE⟩;have av:=ze aw;refine hK.out _ _ (zo (zp aE C.1) (ai _)) ?_;clear hK K C;intro C
     try simp only [Act.put,xST]
     clear aE aw;refine rK 10 fun K hK=>?_
     go_simp
     go_at_call 35;refine (ZH _ _ fo (q*wt) _ (ah.o.below C.1.out) av.o aS.o bn.o).mono ?_;rintro e w7 ⟨v7,rfl,aq,aI⟩;have aU:=ze aq;refine hK.out _ _ (zo (zp aI C.1) (ai _)) ?_;clear hK K C;intro C
     try simp only [Act.put,xST]
     clear aI aq av;have O:=(C.1).out
     try clear z0 z1 zL
     replace j:=ze (j.o.below O);replace l:=ze (l.o.below O);replace G:=ze (G.o.below O);replace E:=ze (xk.below E.o O);replace M:=ze (zh.below M.o O);replace J:=kb_ J O;replace I:=ze (zJ I.o O);clear O C ai;refine hdn ?_;simp only [xDR];obtain ⟨z0,z1,zL⟩:=zw8 J.o;obtain ⟨w8,hu,a8,aW⟩:=ZV.put (s:=t.name) Xk zai j.o aU.o;have bE:=ze a8;have ae:=ze aW;clear a8 aW;go_wp2_with fail;have bx:=j.o.keepB ae.o l.o (fun e=>bk.o e.symm)
     have bG:xk w8 gs gm q0:=by
      obtain ⟨_,_,_,_,_,_,_,_,_,_,N,R⟩:=E.o;exact ⟨_,_,_,_,_,_,_,_,_,_,j.o.keepBlk ae.o N,j.o.keepR ae.o R⟩
     have bC:zkf w8 (w.heap.size+1) wt:=by
      obtain ⟨_,_,_,_,_,_,_,_,_,_,N,R⟩:=G.o;exact ⟨_,_,_,_,_,_,_,_,_,_,j.o.keepBlk ae.o N,j.o.keepR ae.o R⟩
     have bs:=j.o.keepBlk ae.o J.o;have bq:=j.o.keepT ae.o M.o;have bp:Chg (fun x=>x=b\/x=gm) w w8:=I.o.trans (S:=fun x=>x=b\/x=gm) (T:=fun x=>x=gm) ae.o (fun x _ h=>.inr h);have bD:ZV w8 gm (zcv wt F (r.terms.take (k+1))):=by rw [br.o,aK.o];exact bE.o
     have b2:IntKind.i64.wrap ((k:Int)+1)=((k+1:Nat):Int):=by rw [IntKind.wrap_i64];omega
     go_roundw
     case rel=>exact ⟨k+1,by omega,by go_num,bD,bG,bC,bs,bx,bq,bp⟩
     case measure=>simp [intOf];omega
   . have aK:Hid (((zcv wt F (r.terms.take k)) t.name).getD 0=fo):=ze (by rw [hn];rfl)
     have ah:=ze ap;have aS:Hid (Zu 8388608 fo):=by rw [<- aK.o];exact bB.o
     clear hn ap bg;generalize W4=W5 at u E j l M U J m G ag I ah |-;go_wp2_with fail;obtain ⟨xw,Aw,kw,cw,sw,yw,Bw,a9,aR,tw,L,aD⟩:=G.o;have a7:=ze aD;have aN:=E.o.map;have g0:=aN.1;have sL:=aN.2;have n0:=U.o.cell 0;have nL:=U.o.lt;have o0:=u.o.cell 0;have o1:=u.o.cell 1;have o2:=u.o.cell 2;have o3:=u.o.cell 3;have o4:=u.o.cell 4;have o5:=u.o.cell 5;have oL:=u.o.lt;have aC :=m.o.cell 0;have az :=m.o.cell 1;have aH :=m.o.cell 2;have au :=m.o.cell 3;have aA :=m.o.cell 4;have aJ :=m.o.cell 5;have qL:=m.o.lt;have aB :=L.cell 0;have ax :=L.cell 1;have aF :=L.cell 2;have ar :=L.cell 3;have aG :=L.cell 4;have ay :=L.cell 5;have wL:=L.lt;simp at n0 o0 o1 o2 o3 o4 o5 aC az aH au aA aJ aB ax aF ar aG ay;clear aN L aD
     have ai:∀ w',Hid (Below W5.heap.size W5 w')->w'.cell? ⟨gs,0,none⟩=some (.map (some gm))/\w'.cell? ⟨gt,0,none⟩=some (str t.name)/\w'.cell? ⟨gO,0,none⟩=some (.int .i64 X)/\w'.cell? ⟨gO,1,none⟩=some (.slice A4 k4 c4)/\w'.cell? ⟨gO,2,none⟩=some (.bool Z)/\w'.cell? ⟨gO,3,none⟩=some (.int .i64 y4)/\w'.cell? ⟨gO,4,none⟩=some (.slice Y ab aa)/\w'.cell? ⟨gO,5,none⟩=some (.bool t4)/\w'.cell? ⟨gx,0,none⟩=some (.int .i64 x2)/\w'.cell? ⟨gx,1,none⟩=some (.slice A2 k2 c2)/\w'.cell? ⟨gx,2,none⟩=some (.bool s2)/\w'.cell? ⟨gx,3,none⟩=some (.int .i64 y2)/\w'.cell? ⟨gx,4,none⟩=some (.slice B2 ak aj)/\w'.cell? ⟨gx,5,none⟩=some (.bool t2)/\w'.cell? ⟨w.heap.size+1,0,none⟩=some (.int .i64 xw)/\w'.cell? ⟨w.heap.size+1,1,none⟩=some (.slice Aw kw cw)/\w'.cell? ⟨w.heap.size+1,2,none⟩=some (.bool sw)/\w'.cell? ⟨w.heap.size+1,3,none⟩=some (.int .i64 yw)/\w'.cell? ⟨w.heap.size+1,4,none⟩=some (.slice Bw a9 aR)/\w'.cell? ⟨w.heap.size+1,5,none⟩=some (.bool tw):=fun w' hB=>⟨zq hB sL g0,zq hB nL n0,zq hB oL o0,zq hB oL o1,zq hB oL o2,zq hB oL o3,zq hB oL o4,zq hB oL o5,zq hB qL aC,zq hB qL az,zq hB qL aH,zq hB qL au,zq hB qL aA,zq hB qL aJ,zq hB wL aB,zq hB wL ax,zq hB wL aF,zq hB wL ar,zq hB wL aG,zq hB wL ay⟩
     refine Xc ai 11 (zt W5) fun C=>?_;refine tK 0 ?_;refine tK 1 ?_;refine tK 2 ?_;refine tK 3 ?_;refine tK 4 ?_;refine tK 5 ?_;refine tK 6 ?_;refine tK 7 ?_;refine tK 8 ?_;refine rK 9 fun K hK=>?_
     go_simp
     go_at_call 70;refine (XG _ _ q wt _ (ag.o.below C.1.out) (a7.o.below C.1.out) be.o bd.o).mono ?_;rintro e w6 ⟨v6,rfl,aw,aE⟩;have av:=ze aw;refine hK.out _ _ (zo (zp aE C.1) (ai _)) ?_;clear hK K C;intro C
     try simp only [Act.put,xST]
     clear aE aw;refine rK 10 fun K hK=>?_
     go_simp
     go_at_call 35;refine (ZH _ _ fo (q*wt) _ (ah.o.below C.1.out) av.o aS.o bn.o).mono ?_;rintro e w7 ⟨v7,rfl,aq,aI⟩;have aU:=ze aq;refine hK.out _ _ (zo (zp aI C.1) (ai _)) ?_;clear hK K C;intro C
     try simp only [Act.put,xST]
     clear aI aq av;have O:=(C.1).out
     try clear z0 z1 zL
     replace j:=ze (j.o.below O);replace l:=ze (l.o.below O);replace G:=ze (G.o.below O);replace E:=ze (xk.below E.o O);replace M:=ze (zh.below M.o O);replace J:=kb_ J O;replace I:=ze (zJ I.o O);clear O C ai;refine hdn ?_;simp only [xDR];obtain ⟨z0,z1,zL⟩:=zw8 J.o;obtain ⟨w8,hu,a8,aW⟩:=ZV.put (s:=t.name) Xk zai j.o aU.o;have bE:=ze a8;have ae:=ze aW;clear a8 aW;go_wp2_with fail;have bx:=j.o.keepB ae.o l.o (fun e=>bk.o e.symm)
     have bG:xk w8 gs gm q0:=by
      obtain ⟨_,_,_,_,_,_,_,_,_,_,N,R⟩:=E.o;exact ⟨_,_,_,_,_,_,_,_,_,_,j.o.keepBlk ae.o N,j.o.keepR ae.o R⟩
     have bC:zkf w8 (w.heap.size+1) wt:=by
      obtain ⟨_,_,_,_,_,_,_,_,_,_,N,R⟩:=G.o;exact ⟨_,_,_,_,_,_,_,_,_,_,j.o.keepBlk ae.o N,j.o.keepR ae.o R⟩
     have bs:=j.o.keepBlk ae.o J.o;have bq:=j.o.keepT ae.o M.o;have bp:Chg (fun x=>x=b\/x=gm) w w8:=I.o.trans (S:=fun x=>x=b\/x=gm) (T:=fun x=>x=gm) ae.o (fun x _ h=>.inr h);have bD:ZV w8 gm (zcv wt F (r.terms.take (k+1))):=by rw [br.o,aK.o];exact bE.o
     have b2:IntKind.i64.wrap ((k:Int)+1)=((k+1:Nat):Int):=by rw [IntKind.wrap_i64];omega
     go_roundw
     case rel=>exact ⟨k+1,by omega,by go_num,bD,bG,bC,bs,bx,bq,bp⟩
     case measure=>simp [intOf];omega
def zat (r:zU):Rat:=(zl r.bound).getD 0
def zjk (p:List zu) (r:zU):Bool:=decide (zat r<YD p r.terms r.terms.length)
structure zkp (p:List zu) (r:zU):Prop where
 sum:XT r.terms p
 bnd:∃ q,zl r.bound=some q/\Dz 8000 q
theorem zkp.rlen {p:List zu} {r:zU} (h:zkp p r):zl r.bound=some (zat r)/\Zu 8388608 (zat r)/\XV 8388608 (zat r):=by
 obtain ⟨q,b,hd⟩:=h.bnd
 have e:zat r=q:=by unfold zat;rw [b];rfl
 rw [e]
 exact ⟨b,(Zu.of_dz hd).more (by omega),(Dz.nlen hd).mono (by omega)⟩
theorem zc2 (x y:Rat):decide (XX x y>0)=decide (y<x):=by
 unfold XX
 by_cases e:x<y
 . rw [if_pos e,uF (by omega),uF (Rat.not_lt.2 (Rat.le_of_lt e))]
 rw [if_neg e]
 by_cases b:y<x
 . rw [if_pos b,uE b,uE (by omega)]
 rw [if_neg b,uF b,uF (by omega)]
def Y4 (n:Nat) (p:Nat->Bool):Int:=match (List.range n).find? p with
 | some k=>k
 | none=> -1
theorem zg4 {n k:Nat} {p:Nat->Bool} (hk:k<n) (h:p k=true) (h0:∀ j,j<k->p j=false):Y4 n p=k:=by
 have:(List.range n).find? p=some k:=by
  rw [List.find?_eq_some_iff_getElem]
  refine ⟨h,k,by simpa using hk,by simp,?_⟩
  intro j b
  simp [h0 j b]
 unfold Y4
 rw [this]
theorem zb2 {n:Nat} {p:Nat->Bool} (h0:∀ j,j<n->p j=false):Y4 n p= -1:=by
 have:(List.range n).find? p=none:=by
  rw [List.find?_eq_none]
  intro j b
  rw [h0 j (by simpa using b)];decide
 unfold Y4
 rw [this]
theorem znl (b gb gp:Nat) (AT AP:Option Addr) (nt ct np cp:Nat) (r:zU) (p:List zu) (w:World) (hB:zv w b) (hkb:Blk w gb 54 #[.map (some b)]) (y:Blk w gp 26 #[.slice AP np cp])
 (ht:zV w (.slice AT nt ct) r.terms) (hp:zV w (.slice AP np cp) p) (hs:zS r.bound) (ho:zkp p r):
 Calls prog 68 #[.agg #[.slice AT nt ct,str r.bound],.pointer (some ⟨gb,0,none⟩),.pointer (some ⟨gp,0,none⟩)] w (fun e w' =>e= .returned (.bool (zjk p r))/\zv w' b/\Chg (· =b) w w'):=by
 have l:=zf w (.cells #[.slice AT nt ct,str r.bound] 31)
 have B:=ze (Blk.new w 31 #[.slice AT nt ct,str r.bound])
 have j:=ze (hB.below l)
 have ay:=ze hB.lt
 have G:=ze (hkb.below l hkb.lt)
 have X:=ze (y.below l y.lt)
 have E:=ze ((zh.below ht l).more l.size)
 have C:=ze ((zh.below hp l).more l.size)
 have m:Hid (Chg (· =b) w (w.alloc (.cells #[.slice AT nt ct,str r.bound] 31))):=Chg.of_below l
 obtain ⟨ah,ae,_⟩:=ho.rlen
 have ap:=ze ah
 have aw:=ze ae
 have HO:=ze ho.sum
 have an:=ze (ho.sum.rlen (uA))
 obtain ⟨z,hz⟩:=uR (XX (YD p r.terms r.terms.length) (zat r))
 have ao:Hid (zjk p r=decide (z>0)):=ze (by rw [<- hz];exact (zc2 _ _).symm)
 have HZ:=ze hz
 have av:¬ gb=b:=fun e=>by
  subst e
  have O:=hkb.cell 0
  rw [hB.noCells ⟨gb,0,none⟩ rfl] at O
  simp at O
 have ax:¬ gp=b:=fun e=>by
  subst e
  have O:=y.cell 0
  rw [hB.noCells ⟨gp,0,none⟩ rfl] at O
  simp at O
 have al:Hid (¬ w.heap.size=b):=ze (fun e=>by have:=hB.lt;omega)
 have HS:=ze hs
 clear hB hkb y ht hp hs ho l ah ae hz
 go_in
 go_upto_region 1 with fail
 generalize w.alloc (.cells #[.slice AT nt ct,str r.bound] 31)=W at B j G X E C m |-
 generalize w.heap.size=gr at B al |-
 have ad:=xU b ⟨r.bound.toArray⟩ W j.o (by rw [<- zm,yt];exact HS.o)
 rw [yt] at ad
 have ak:=ze ad
 obtain ⟨r0,r1,_⟩:=bq2 B;have d0:=(bq1 G).1;clear ad
 go_wp2_with fail
 refine ak.o.mono ?_
 rintro e w2 ⟨v,ok,rfl,⟨Y,N,L,Q,U,M,V,R,S,T,rfl⟩,au,ai,ab,am⟩
 clear ak r0 r1 d0
 have l:=zf w2 (.cells #[.int .i64 Y,.slice N L Q,.bool U,.int .i64 M,.slice V R S,.bool T] 70)
 have u:Chg (· =b) W (w2.alloc (.cells #[.int .i64 Y,.slice N L Q,.bool U,.int .i64 M,.slice V R S,.bool T] 70)):=zJ am l
 have af:Hid (¬ w2.heap.size=b):=ze (fun e=>by have:=ab.lt;omega)
 replace E:=ze ((j.o.keepT u E.o).more u.size)
 replace C:=ze ((j.o.keepT u C.o).more u.size)
 replace B:=ze (j.o.keepBlk u B.o)
 replace G:=ze (j.o.keepBlk u G.o)
 replace X:=ze (j.o.keepBlk u X.o)
 replace m:=ze (yn m.o u)
 replace j:=ze (ab.below l)
 have ac:=ze (Blk.new w2 70 #[.int .i64 Y,.slice N L Q,.bool U,.int .i64 M,.slice V R S,.bool T])
 have F:=ze ((ai _ ap.o).below l)
 clear ab am l u ai au
 go_upto_region 2 with fail
 generalize w2.alloc (.cells #[.int .i64 Y,.slice N L Q,.bool U,.int .i64 M,.slice V R S,.bool T] 70)=W3 at ac F j E C B G X m |-
 generalize w2.heap.size=gx at ac af |-
 obtain ⟨q0,q1,q2,q3,q4,q5,_⟩:=bq6 ac;have r0:=(bq1 B).1;have d0:=(bq1 G).1;have z0:=(bq1 X).1
 have I:=af.o
 have ar:=al.o
 have y:∀ w',Hid (Chg (fun x=>x=b) W3 w')->w'.cell? ⟨gx,0,none⟩=some (.int .i64 Y)/\w'.cell? ⟨gx,1,none⟩=some (.slice N L Q)/\w'.cell? ⟨gx,2,none⟩=some (.bool U)/\w'.cell? ⟨gx,3,none⟩=some (.int .i64 M)/\w'.cell? ⟨gx,4,none⟩=some (.slice V R S)/\w'.cell? ⟨gx,5,none⟩=some (.bool T)/\w'.cell? ⟨gr,0,none⟩=some (.slice AT nt ct)/\w'.cell? ⟨gb,0,none⟩=some (.map (some b))/\w'.cell? ⟨gp,0,none⟩=some (.slice AP np cp):=fun w' hB=>⟨xo hB q0 I,xo hB q1 I,xo hB q2 I,xo hB q3 I,xo hB q4 I,xo hB q5 I,xo hB r0 ar,xo hB d0 av,xo hB z0 ax⟩
 refine Xc y 7 (vq W3) fun D=>?_
 refine tK 0 ?_
 refine tK 1 ?_
 refine tK 2 ?_
 refine tK 3 ?_
 refine tK 5 ?_
 refine rK 4 fun K hK=>?_
 go_simp
 go_at_call 29
 have J:=(zt W3).out
 replace j:=ze (j.o.below J)
 replace E:=xte E J
 replace C:=xte C J
 replace F:=ze (F.o.below J)
 replace m:=ze (zJ m.o J)
 clear J
 refine (zc9 b _ _ _ _ _ _ r.terms p _ j.o E.o C.o HO.o).mono ?_
 rintro e w4 ⟨v4,rfl,ag,aj,aa⟩
 replace F:=ze (j.o.keepR aa F.o)
 replace m:=ze (yn m.o aa)
 replace j:=ze aj
 have aq:=ze ag
 refine hK.out _ _ (zo (vS aa D.1) (y _)) ?_
 clear hK K D
 intro D
 try simp only [Act.put,xST]
 clear aa aj ag
 refine rK 6 fun K hK=>?_
 go_simp
 go_at_call 30
 refine (X5 _ _ _ _ _ aq.o F.o an.o aw.o).mono ?_
 rintro e w5 ⟨rfl,Z⟩
 rw [HZ.o]
 replace j:=ze (j.o.below Z)
 replace m:=ze (zJ m.o Z)
 refine hK.out _ _ (zo (xR Z D.1) (y _)) ?_
 clear hK K D
 intro D
 try simp only [Act.put,xST]
 clear Z;clear D y
 refine hdn ?_
 simp only [xDR]
 clear q0 q1 q2 q3 q4 q5 r0 d0 z0
 go_wp2
 go_ret
 exact ⟨by rw [ao.o];rfl,j.o,m.o⟩
def X8 (p:List zu) (rows:List zU) (k:Nat):Bool:=zjk p (rows.getD k default)
def IfnR (w0:World) (b gb gp B:Nat) (rv pv:Value) (rows:List zU) (p:List zu) (Q:zU->Bool) (kv:Value) (wr:World):Prop:=
 ∃ k:Nat,k<=rows.length/\kv= .int .i64 k/\Hid (∀ j,j<k->Q (rows.getD j default)=false)/\Hid (zv wr b)/\Hid (zH wr B rv rows)/\Hid (zh wr B pv p)/\
  Hid (Blk wr gb 54 #[.map (some b)])/\Hid (Blk wr gp 26 #[pv])/\Hid (Chg (· =b) w0 wr)
theorem zf0 (F:FuncId) (Q:zU->Bool) (b gb gp B:Nat) (A AP:Option Addr) (n c np cp:Nat) (rows:List zU) (p:List zu) (w:World) (hB:zv w b) (hkb:Blk w gb 54 #[.map (some b)]) (hkp:Blk w gp 26 #[.slice AP np cp])
 (hr:zH w B (.slice A n c) rows) (hp:zh w B (.slice AP np cp) p) (hBB:B<=w.heap.size)
 (hcf:∀ a w,(callFunc F a).run prog w= .ok (.enter F a) w) (ho:∀ L K M k w,k<rows.length->zv w b->Blk w gb 54 #[.map (some b)]->Blk w gp 26 #[.slice AP np cp]->zV w (.slice L K M) (rows.getD k default).terms->zV w (.slice AP np cp) p->zS (rows.getD k default).bound->
   Calls prog F #[.agg #[.slice L K M,str (rows.getD k default).bound],.pointer (some ⟨gb,0,none⟩),.pointer (some ⟨gp,0,none⟩)] w (fun e w' =>e= .returned (.bool (Q (rows.getD k default)))/\zv w' b/\Chg (· =b) w w')):
 Calls prog 67 #[.slice A n c,.func (.func F) #[] #[.pointer (some ⟨gb,0,none⟩),.pointer (some ⟨gp,0,none⟩)]] w
  (fun e w' =>e= .returned (.int .i64 (Y4 rows.length (fun k=>Q (rows.getD k default))))/\zv w' b/\Chg (· =b) w w'):=by
 obtain rfl:=hr.len
 have af:rows.length<=100000:=by obtain ⟨_,_,_,_,_,_,h,_⟩:=hr;exact h
 obtain ⟨l,y,u,C,D⟩:=hz5 hB hr hp hkb hkp
 have m:=ze (Chg.refl (S:=(· =b)) w)
 have HO:=ze ho
 have aa:=ze hBB
 clear hB hkb hkp hr hp hBB ho
 go_in
 go_wp2
 go_loopw [8] (IfnR w b gb gp B (.slice A rows.length c) (.slice AP np cp) rows p Q) (fun kv _=>rows.length - (intOf kv).toNat)
 case atStart=>exact ⟨0,uB,rfl,ze (fun j h=>by omega),l,y,u,C,D,m⟩
 case round=>
  clear l y u C D m
  obtain ⟨k,hk,rfl,O,l,y,u,C,D,m⟩:=hrel
  by_cases I:k<rows.length
  rotate_left
  . obtain rfl:rows.length=k:=by omega
    have R:Hid (Y4 rows.length (fun k=>Q (rows.getD k default))= -1):=ze (zb2 O.o);go_wp2;go_ret;exact ⟨by rw [R.o];rfl,l.o,m.o⟩
  have ae:(k:Int)<(rows.length:Int):=by omega
  obtain ⟨ad,L,K,M,eA,ac,Z,Y,V,X⟩:=y.o.at_ I;subst eA;have E:=xGD (d:=default) I;have U:B<=wr.heap.size:=uC aa.o m.o.size;have N:=HO.o L K M k wr I l.o C.o D.o (by rw [E];exact V.more U) (u.o.more U) (by rw [E];exact X);rw [E] at N;have T:Hid (Q (rows.getD k default)=Q rows[k]):=ze (by rw [E]);generalize hz:Q rows[k]=z at N T;have J:=ze N;clear V X E U N hz ac
  cases z with
  | true=>
    have R:Hid (Y4 rows.length (fun k=>Q (rows.getD k default))=k):=ze (zg4 I T.o O.o);go_wp2_with fail;refine J.o.mono ?_;rintro e w1 ⟨rfl,G,r⟩;replace m:=ze (yn m.o r);replace l:=ze G;clear G r J Z Y;go_wp2;go_ret;exact ⟨by rw [R.o];rfl,l.o,m.o⟩
  | false=>
    have ab:Hid (∀ j,j<k+1->Q (rows.getD j default)=false):=ze (fun j hj=>by
     by_cases e:j=k
     . subst e;exact T.o
     exact O.o j (by omega))
    go_wp2_with fail;refine J.o.mono ?_;rintro e w1 ⟨rfl,G,r⟩;replace y:=ze (l.o.keepRows r y.o);replace u:=ze (l.o.keepT r u.o);replace C:=ze (l.o.keepBlk r C.o);replace D:=ze (l.o.keepBlk r D.o);replace m:=ze (yn m.o r);replace l:=ze G;clear G r J Z Y;go_wp2;go_roundw
    case rel=>exact ⟨k+1,by omega,by go_num,ab,l,y,u,C,D,m⟩
    case measure=>simp [intOf];omega
theorem zdr (b:Nat) (A AP:Option Addr) (n c np cp:Nat) (rows:List zU) (p:List zu) (w:World) (hB:zv w b) (hr:yS w (.slice A n c) rows) (hp:zV w (.slice AP np cp) p) (ho:∀ k,k<rows.length->zkp p (rows.getD k default)):
 Calls prog 28 #[.map (some b),.slice A n c,.slice AP np cp] w (VO b (Y4 rows.length (X8 p rows)) w):=by
 have C:=zf w (.cells #[.map (some b)] 54)
 have u:=zf (w.alloc (.cells #[.map (some b)] 54)) (.cells #[.slice AP np cp] 26)
 have j:=ext C u
 have B:=(Blk.new w 54 #[.map (some b)]).alloc (.cells #[.slice AP np cp] 26)
 have l:=Blk.new (w.alloc (.cells #[.map (some b)] 54)) 26 #[.slice AP np cp]
 rw [World.size_alloc] at l
 have r:=zf0 68 (zjk p) b w.heap.size (w.heap.size+1) w.heap.size A AP n c np cp rows p _ (hB.below j) B l (zH.below hr j) (zh.below hp j) j.size (fun _ _=>by kernel_rfl) (fun AT nt ct k w hk h1 h2 h3 h4 h5 h6=>znl b _ _ AT AP nt ct np cp _ p w h1 h2 h3 h4 h5 h6 (ho k hk))
 have D:=ze r
 have m:Hid (Chg (· =b) w ((w.alloc (.cells #[.map (some b)] 54)).alloc (.cells #[.slice AP np cp] 26))):=Chg.of_below j
 clear hB hr hp ho C u j B l r
 go_in
 go_wp2_with fail
 refine D.o.mono ?_
 rintro e F ⟨rfl,y,z⟩
 have E:=ze y
 replace m:=ze (yn m.o z)
 clear y z D
 go_wp2
 go_ret
 exact ⟨rfl,E.o,m.o⟩
theorem zm7 (x y:Rat):decide ((x - y).num.sign>0)=decide (y<x):=by rw [zen];exact zc2 x y
def FstR (w0:World) (rows:List zU) (p:List zu) (kv:Value) (wr:World):Prop:=
 ∃ k:Nat,k<=rows.length/\kv= .int .i64 k/\Hid (∀ j,j<k->X8 p rows j=false)/\Hid (Below w0.heap.size w0 wr)
theorem zqy (A AP:Option Addr) (n c np cp:Nat) (rows:List zU) (p:List zu) (w:World) (hr:yS w (.slice A n c) rows) (hp:zV w (.slice AP np cp) p) (ho:∀ k,k<rows.length->zkp p (rows.getD k default)):
 Calls prog 77 #[.slice A n c,.slice AP np cp] w (VE w (.int .i64 (Y4 rows.length (X8 p rows)))):=by
 obtain rfl:=hr.len
 have aq:rows.length<=100000:=by obtain ⟨_,_,_,_,_,_,h,_⟩:=hr;exact h
 have am:=ze hr
 have ao:=ze hp
 have b:=ze (Below.refl w.heap.size w)
 have HO:=ze ho
 clear hr hp ho
 go_in
 go_wp2
 go_loopw [5] (FstR w rows p) (fun kv _=>rows.length - (intOf kv).toNat)
 case atStart=>exact ⟨0,uB,rfl,ze (fun j h=>by omega),b⟩
 case round=>
  clear b
  obtain ⟨k,hk,rfl,L,b⟩:=hrel
  by_cases B:k<rows.length
  rotate_left
  . obtain rfl:rows.length=k:=by omega
    have M:Hid (Y4 rows.length (X8 p rows)= -1):=ze (zb2 L.o);go_wp2;go_ret;exact ⟨by rw [M.o];rfl,b.o⟩
  have ap:(k:Int)<(rows.length:Int):=by omega
  obtain ⟨E,AT,nt,ct,eA,ac,y,r,U,aa⟩:=(zH.below' am.o b.o).at_ B;subst eA;have J:=xGD (d:=default) B;have u:=HO.o k B;rw [J] at u;obtain ⟨Z,_,ae⟩:=u.rlen;have af:=fun w=>xV rows[k].bound (zat rows[k]) w aa Z
  have ab:=ze af;have ai:=ze ae;have ag:=ze (u.sum.nlen (uA));have aj:=ze u.sum;have F:=ze U;have l:E.block<wr.heap.size:=uK ac b.o.size;have X:X8 p rows k=zjk p rows[k]:=by unfold X8;rw [J]
  obtain ⟨z,O⟩:=uR ((YD p rows[k].terms rows[k].terms.length - zat rows[k]).num.sign);have Y:X8 p rows k=decide (z>0):=by rw [X, <- O,zm7];rfl
  have HZ:=ze O;have I:=ze Y;clear U aa J u Z ae af ac X O Y
  go_upto_region 4 with fail
  refine yP (S:=fun w' =>Hid (Below wr.heap.size wr w')/\w'.cell? (E.add (k*2))=some (.slice AT nt ct)/\w'.cell? ⟨(E.add (k*2)).block,(E.add (k*2)).off+1,none⟩=some (str rows[k].bound)) 14 (by kernel_rfl) (by kernel_rfl) (zo (zt wr) (fun hB=>⟨xy hB l y,Vh hB l r⟩)) fun hU=>?_;refine tK 0 ?_;refine tK 1 ?_;refine tK 2 ?_;refine tK 3 ?_;refine tK 4 ?_;refine tK 5 ?_;refine tK 7 ?_;refine tK 8 ?_;refine tK 9 ?_;refine tK 10 ?_;refine tK 11 ?_;refine rK 6 fun K hK=>?_
  go_simp
  go_at_call 79;have T:=(zt wr).out;replace F:=ze (zh.below' F.o (T.mono b.o.size));replace b:=eb_ b T;clear T;refine (zaj _ _ _ _ _ _ w.heap.size rows[k].terms p _ F.o (zh.below' ao.o b.o) b.o.size aj.o).mono ?_;rintro e w4 ⟨v4,rfl,V,R⟩;replace b:=eb_ b R;have G:=ze V;have m:=hU;clear hU;refine hK.out _ _ (zo (zp R (zt wr)) (fun hB=>⟨xy hB l y,Vh hB l r⟩)) fun hU=>?_;clear m hK K
  try simp only [Act.put,xST]
  clear R V;refine rK 12 fun K hK=>?_
  go_simp
  go_at_call 53;refine (ab.o _).mono ?_;rintro e w5 ⟨v5,rfl,ah,D⟩;replace G:=ze (G.o.below D);replace b:=eb_ b D;have ak:=ze ah;have m:=hU;clear hU;refine hK.out _ _ (zo (zp D m.1) (fun hB=>⟨xy hB l y,Vh hB l r⟩)) fun hU=>?_;clear m hK K
  try simp only [Act.put,xST]
  clear D ah;refine rK 13 fun K hK=>?_
  go_simp
  go_at_call 56;refine (Xt _ _ _ _ _ G.o ak.o ag.o ai.o).mono ?_;rintro e w6 ⟨rfl,N⟩;rw [HZ.o];replace b:=eb_ b N;have m:=hU;clear hU;refine hK.out _ _ (zo (zp N m.1) (fun hB=>⟨xy hB l y,Vh hB l r⟩)) fun hU=>?_;clear m hK K
  try simp only [Act.put,xST]
  clear N;have al:=(hU.1).out;clear al hU;refine HH.done (by kernel_rfl) ?_;simp only [List.drop_succ_cons,List.drop_zero];clear y r l G ak F ab aj ag ai HZ
  by_cases C:z>0
  . have Q:decide (0<z)=true:=uE C
    have M:Hid (Y4 rows.length (X8 p rows)=k):=ze (zg4 B (by rw [I.o];exact Q) L.o);clear C I;go_wp2;go_ret;exact ⟨by rw [M.o];rfl,b.o⟩
  have Q:decide (0<z)=false:=uF C
  have an:Hid (∀ j,j<k+1->X8 p rows j=false):=ze (fun j hj=>by
   by_cases e:j=k
   . subst e;rw [I.o];exact Q
   exact L.o j (by omega))
  clear C I;go_wp2;go_roundw
  case rel=>exact ⟨k+1,by omega,by go_num,an,b⟩
  case measure=>simp [intOf];omega
structure zkk (goal:List zu) (s:List UInt8):Prop where
 err:zX goal=0
 all:∀ t∈goal,t.name=s
def xW (rows:List zU) (goal:List zu):Int:=if yf rows≠0 then yf rows else if zX goal≠0 then zX goal else if 80<(zR rows [goal]).length then 3 else 0
def zqb (w:World) (rows:List zU) (goal:List zu) (e:Ending) (w' :World):Prop:=
 ∃ o A n c,e= .returned (.tuple #[.map o,.slice A n c,.int .i64 (xW rows goal)])/\(xW rows goal=0->∃ b,o=some b/\zv w' b/\zw w' w'.heap.size (.slice A n c) (zR rows [goal])/\w.heap.size<=b)/\Below w.heap.size w w'
theorem YC (A A2:Option Addr) (n c n2 c2:Nat) (rows:List zU) (goal:List zu) (w:World) (hr:yS w (.slice A n c) rows) (hg:zV w (.slice A2 n2 c2) goal)
 (hcnt:rows.length<=800->(zR rows []).length<=100000) (hcnt2:yf rows=0->(zR rows [goal]).length<=100000):
 Calls prog 25 #[.slice A n c,.slice A2 n2 c2] w (zqb w rows goal):=by
 have ai:=@run_makeMap prog
 have F:=zf w (.map #[] 0)
 have r:=ze (zv.new w)
 have E:=ze (zH.below hr F)
 have D:=ze (zh.below hg F)
 have m:Hid (Chg (· =w.heap.size) w (w.alloc (.map #[] 0))):=Chg.of_below F
 have H1:=ze hcnt
 have H2:=ze hcnt2
 clear hr hg hcnt hcnt2 F
 go_in
 go_upto_region 2 with fail
 clear ai
 have ah:Hid (w.heap.size<=w.heap.size):=uA
 generalize w.alloc (.map #[] 0)=W at r E D m |-
 obtain ⟨b,hb⟩:=uQ w.heap.size
 have J:Hid (w.heap.size<=b):=Nat.le_of_eq hb.symm
 have ag:=r.o.lt
 have Z:Hid (w.heap.size<=W.heap.size):=m.o.size
 rw [<- hb] at r m |-
 clear hb ah ag
 have U:=ZN b A n c rows W r.o (E.o.more Z.o) H1.o
 generalize K:yf rows=z at U
 have R:=ze U
 by_cases I:z=0
 rotate_left
 . have C:Hid (xW rows goal=z):=ze (by unfold xW;rw [if_pos (by rw [K];exact I),K])
   have ao:(z == 0)=false:=uD I;have al:=ze I;clear U K I;go_wp2_with fail;refine R.o.mono ?_;rintro e w1 ⟨rfl,G,B⟩;replace m:=ze (yn m.o B);clear G B R r E D Z;go_wp2;go_ret3;exact ⟨none,none,0,0,by rw [C.o];rfl,(fun h=>by rw [C.o] at h;exact absurd h al.o),m.o.below (uA) (fun x e=>by subst e;exact J.o)⟩
 subst I
 have T:=ze K;clear U K;go_wp2_with fail;refine R.o.mono ?_;rintro e w1 ⟨rfl,G,B⟩;replace E:=ze (r.o.keepRows B E.o);replace D:=ze (r.o.keepT B D.o);replace m:=ze (yn m.o B);replace r:=ze G;clear G B R Z;have V:=zfo b A2 n2 c2 goal w1 r.o (D.o.more m.o.size);generalize M:zX goal=y at V;have S:=ze V
 by_cases O:y=0
 rotate_left
 . have C:Hid (xW rows goal=y):=ze (by unfold xW;rw [if_neg (fun h=>h T.o),if_pos (by rw [M];exact O),M])
   have an:(y == 0)=false:=uD O;have am:=ze O;clear V M O;go_wp2_with fail;refine S.o.mono ?_;rintro e w2 ⟨rfl,G,B⟩;replace m:=ze (yn m.o B);clear G B S r E D;go_wp2;go_ret3;exact ⟨none,none,0,0,by rw [C.o];rfl,(fun h=>by rw [C.o] at h;exact absurd h am.o),m.o.below (uA) (fun x e=>by subst e;exact J.o)⟩
 subst O
 have HY:=ze M;clear V M;go_wp2_with fail;refine S.o.mono ?_;rintro e w2 ⟨rfl,G,B⟩;replace E:=ze (r.o.keepRows B E.o);replace D:=ze (r.o.keepT B D.o);replace m:=ze (yn m.o B);replace r:=ze G;clear G B S;have F:=zf w2 (.cells #[.slice A2 n2 c2] 23);have Y:=Blk.new w2 23 #[.slice A2 n2 c2]
 have HO:Hid (Zj (w2.alloc (.cells #[.slice A2 n2 c2] 23)) w2.heap.size 23 1 (.slice (some ⟨w2.heap.size,0,none⟩) 1 1) 1 [.slice A2 n2 c2]):=by
  refine ⟨⟨rfl,.inr ⟨_,1,_,rfl,uA,Y,uA,by unfold maxLen;omega,rfl,rfl⟩⟩,fun g hg=>?_⟩;injection hg with hg
  subst hg;exact Y.noDig (Ys (by intro u hu;simp at hu;subst hu;exact yo _ _ _))
 have ad:=zcp w2.heap.size 1 A n c (.slice (some ⟨w2.heap.size,0,none⟩) 1 1) [.slice A2 n2 c2] rows [goal] (w2.alloc (.cells #[.slice A2 n2 c2] 23)) ((zH.below E.o F).more m.o.size) HO.o
  ⟨rfl,fun j hj=>by
   have:j=0:=by simp at hj;omega
   subst this
   exact (zh.below D.o F).more m.o.size⟩ rfl (by omega) F.size (fun l hl=>by rw [hl.eq];exact H2.o T.o)
 have ab:=ze ad;have HX:=ze F;clear ad F Y HO E D;go_wp2_with fail;refine ab.o.mono ?_;rintro e w3 ⟨v,l,rfl,ac,hn,af⟩;have ae:l=zR rows [goal]:=ac.eq;rw [ae] at hn;have aa:Below w2.heap.size w2 w3:=HX.o.trans af;replace r:=ze (r.o.below aa);replace m:=ze (zJ m.o aa);have HN:=ze hn;have ak:(zR rows [goal]).length<=100000:=H2.o T.o;obtain ⟨A3,c3,rfl,_⟩:=hn;clear af aa ab HX ac ae
 have N:Hid (xW rows goal=if 80<(zR rows [goal]).length then 3 else 0):=by
  show _=_
  unfold xW;rw [if_neg (fun h=>h T.o),if_neg (fun h=>h HY.o)]
 obtain ⟨L,X⟩:=uQ (zR rows [goal]);have aj:=ze X;rw [<- X] at HN ak N |-;clear X
 by_cases Q:80<L.length
 . have d0:decide ((L.length:Int)>80)=true:=by rw [decide_eq_true_iff];omega
   have C:Hid (xW rows goal=3):=ze (by rw [N.o,if_pos Q]);clear Q N;go_wp2;go_ret3;exact ⟨none,none,0,0,by rw [C.o];rfl,(fun h=>by rw [C.o] at h;cases h),m.o.below (uA) (fun x e=>by subst e;exact J.o)⟩
 have d0:decide ((L.length:Int)>80)=false:=by rw [decide_eq_false_iff_not];omega
 have C:Hid (xW rows goal=0):=ze (by rw [N.o,if_neg Q]);clear Q N;go_wp2;go_ret3;exact ⟨some b,A3,_,c3,by rw [C.o];rfl,(fun _=>⟨b,rfl,r.o,by rw [<- aj.o];exact HN.o,J.o⟩),m.o.below (uA) (fun x e=>by subst e;exact J.o)⟩
def zxp (w:World) (s:List UInt8) (e:Ending) (w' :World):Prop:=
 ∃ b v,e= .returned (.tuple #[.map (some b),v,.int .i64 0])/\zv w' b/\zw w' w'.heap.size v [s]/\w.heap.size<=b/\Below w.heap.size w w'
theorem zls (A A2:Option Addr) (n c n2 c2:Nat) (rows:List zU) (goal:List zu) (s:List UInt8) (w:World) (j:yS w (.slice A n c) rows) (hg:zV w (.slice A2 n2 c2) goal) (h1:VS rows s) (h2:zkk goal s):
 Calls prog 25 #[.slice A n c,.slice A2 n2 c2] w (zxp w s):=by
 have F:∀ x∈zP ([goal] ++ rows.map (·.terms)),x=s:=by
  intro x m
  unfold zP at m
  obtain ⟨l,D,m⟩:=List.mem_flatMap.1 m
  obtain ⟨t,B,rfl⟩:=List.mem_map.1 m
  rcases List.mem_append.1 D with h | h
  . rw [uM] at h;subst h;exact h2.all t B
  . obtain ⟨r,j,rfl⟩:=List.mem_map.1 h
    exact h1.all r j t B
 have E:zP ([goal] ++ rows.map (·.terms))≠[]:=by
  obtain ⟨r,j,C⟩:=h1.ex
  obtain ⟨t,q,e⟩:=List.exists_cons_of_ne_nil C
  intro u
  have:t.name∈zP ([goal] ++ rows.map (·.terms)):=by
   unfold zP;exact List.mem_flatMap.2 ⟨_,List.mem_append.2 (.inr (List.mem_map.2 ⟨r,j,rfl⟩)),List.mem_map.2 ⟨t,by rw [e];exact uP ..,rfl⟩⟩
  rw [u] at this
  cases this
 have hu:zR rows [goal]=[s]:=zmq F E (yB _)
 have y:xW rows goal=0:=by
  unfold xW
  rw [if_neg (fun h=>h h1.err0.1),if_neg (fun h=>h h2.err),hu];rfl
 refine (YC A A2 n c n2 c2 rows goal w j hg (fun _=>by rw [h1.err0.2];omega) (fun _=>by rw [hu];simp)).mono ?_
 rintro e w' ⟨o,J,L,K,rfl,u,hb⟩
 obtain ⟨b,rfl,I,z,G⟩:=u y
 rw [hu] at z
 rw [y]
 exact ⟨b,_,rfl,I,z,G,hb⟩
def YY (rows:List zU) (goal:List zu):Int:=if 80<(zR rows [goal]).length then 3 else 0
def Zh (rows:List zU) (r:zU):Int:=if yf rows≠0 then yf rows else if yF r≠0 then yF r else YY rows r.terms
theorem zvh {rows:List zU} {goal:List zu} {l:List (List UInt8)} (h:xh l (zP (rows.map (·.terms)) ++ goal.map (·.name))):l=zR rows [goal]:=by
 refine ZC _ _ h.1 (yB _).1 fun x=>?_
 rw [h.2 x]
 unfold zR
 rw [(yB _).2 x]
 unfold zP
 rw [List.flatMap_append,List.mem_append,List.mem_append,List.flatMap_cons,List.flatMap_nil,List.append_nil]
 exact Or.comm
theorem zmz (A A2:Option Addr) (n c n2 c2:Nat) (rows:List zU) (goal:List zu) (w:World) (hr:yS w (.slice A n c) rows) (hg:zV w (.slice A2 n2 c2) goal) (hcnt:(zP (rows.map (·.terms))).length<=50000) (hgl:goal.length<=50000):
 Calls prog 54 #[.slice A n c,.slice A2 n2 c2] w (VE w (.int .i64 (YY rows goal))):=by
 have J:=ze (zb6 A n c rows w hr hcnt)
 have D:=ze hg
 have C:=ze (show (zP (rows.map (·.terms))).length+goal.length<=100000 by omega)
 clear hr hg hcnt hgl
 go_in
 go_wp2_with fail
 refine J.o.mono ?_
 rintro e B ⟨v,l,rfl,F,z,r⟩
 obtain ⟨N,M,rfl,_⟩:=id z
 have E:=ze (zgt N A2 l.length M n2 c2 B.heap.size l _ goal B z F ((zh.below D.o r).more r.size) (uA) C.o)
 have j:=ze r
 clear F z r J D C
 go_wp2_with fail
 refine E.o.mono ?_
 rintro e w2 ⟨Q,m,rfl,K,I,G⟩
 obtain ⟨O,R,rfl,_⟩:=id I
 have u:Hid (YY rows goal=if 80<m.length then 3 else 0):=ze (by unfold YY;rw [<- zvh K])
 replace j:=eb_ j G
 clear K I G E
 by_cases b:80<m.length
 . have L:decide ((m.length:Int)>80)=true:=by rw [decide_eq_true_iff];omega
   have y:Hid (YY rows goal=3):=ze (by rw [u.o,if_pos b]);clear b u;go_wp2;go_ret;exact ⟨by rw [y.o];rfl,j.o⟩
 have L:decide ((m.length:Int)>80)=false:=by rw [decide_eq_false_iff_not];omega
 have y:Hid (YY rows goal=0):=ze (by rw [u.o,if_neg b]);clear b u;go_wp2;go_ret;exact ⟨by rw [y.o];rfl,j.o⟩
theorem zqs (A A2:Option Addr) (n c n2 c2:Nat) (rows:List zU) (goal:List zu) (w:World) (hr:yS w (.slice A n c) rows) (hg:zV w (.slice A2 n2 c2) goal)
 (hcnt:rows.length<=800->(zP (rows.map (·.terms))).length<=50000) (hgl:goal.length<=50000):
 Calls prog 32 #[.slice A n c,.slice A2 n2 c2] w (VE w (.int .i64 (xW rows goal))):=by
 have L:=zdk A n c rows w hr hcnt
 generalize m:yf rows=z at L
 obtain ⟨C,I,G,S,T⟩:=hz5 L hr hg hcnt hgl
 clear L hr hg hcnt hgl
 go_in
 by_cases B:z=0
 rotate_left
 . have u:Hid (xW rows goal=z):=ze (by unfold xW;rw [if_pos (by rw [m];exact B),m])
   have V:(z == 0)=false:=uD B;clear m B;go_wp2_with fail;refine C.o.mono ?_;rintro e N ⟨rfl,l⟩;have b:=ze l;clear l C I G;go_wp2;go_ret;exact ⟨by rw [u.o];rfl,b.o⟩
 subst B
 have K:=ze m;clear m;go_wp2_with fail;refine C.o.mono ?_;rintro e N ⟨rfl,l⟩;have J:=xre I l;have E:=xte G l;have b:=ze l;clear l C I G;have M:=zib A2 n2 c2 goal N E.o;generalize r:zX goal=y at M;have D:=ze M;clear M
 by_cases F:y=0
 rotate_left
 . have u:Hid (xW rows goal=y):=ze (by unfold xW;rw [if_neg (fun h=>h K.o),if_pos (by rw [r];exact F),r])
   have U:(y == 0)=false:=uD F;clear r F;go_wp2_with fail;refine D.o.mono ?_;rintro e w2 ⟨rfl,j⟩;replace b:=eb_ b j;clear j D J E;go_wp2;go_ret;exact ⟨by rw [u.o];rfl,b.o⟩
 subst F
 have u:Hid (xW rows goal=YY rows goal):=ze (by unfold xW;rw [if_neg (fun h=>h K.o),if_neg (fun h=>h r)];rfl);clear r;go_wp2_with fail;refine D.o.mono ?_;rintro e w2 ⟨rfl,j⟩
 have Q:rows.length<=800:=Classical.byContradiction fun h=>by
  have:=K.o;rw [Zx (by omega)] at this
  cases this
 have O:=ze (zmz A A2 n c n2 c2 rows goal w2 ((zH.below J.o j).more j.size) ((zh.below E.o j).more j.size) (S.o Q) T.o);replace b:=eb_ b j;clear j D J E Q;go_wp2_with fail;refine O.o.mono ?_;rintro e w3 ⟨rfl,R⟩;replace b:=eb_ b R;clear R O;go_wp2;go_ret;exact ⟨by rw [u.o];rfl,b.o⟩
theorem zk3 (A A2:Option Addr) (n c n2 c2:Nat) (rows:List zU) (r:zU) (w:World) (hr:yS w (.slice A n c) rows) (hg:zV w (.slice A2 n2 c2) r.terms) (hs:zS r.bound)
 (hcnt:rows.length<=800->(zP (rows.map (·.terms))).length<=50000) (hgl:r.terms.length<=50000):
 Calls prog 23 #[.slice A n c,.agg #[.slice A2 n2 c2,str r.bound]] w (VE w (.int .i64 (Zh rows r))):=by
 have m:=zf w (.cells #[.slice A2 n2 c2,str r.bound] 31)
 have F:=ze (Blk.new w 31 #[.slice A2 n2 c2,str r.bound])
 have C:=ze ((zH.below hr m).more m.size)
 have J:=ze ((zh.below hg m).more m.size)
 have b:=ze m
 have Q:=zdk A n c rows _ C.o hcnt
 generalize D:yf rows=z at Q
 obtain ⟨u,Z,aa,HS⟩:=hz4 Q hcnt hgl hs
 clear Q hr hg hcnt hgl hs m
 go_in
 go_upto_region 1 with fail
 generalize w.alloc (.cells #[.slice A2 n2 c2,str r.bound] 31)=W at F C J b u |-
 by_cases I:z=0
 rotate_left
 . have G:Hid (Zh rows r=z):=ze (by unfold Zh;rw [if_pos (by rw [D];exact I),D])
   have ac:(z == 0)=false:=uD I;clear D I;go_wp2_with fail;refine u.o.mono ?_;rintro e S ⟨rfl,l⟩;replace b:=eb_ b l;clear l u C J F;go_wp2;go_ret;exact ⟨by rw [G.o];rfl,b.o⟩
 subst I
 have O:=ze D;clear D;go_wp2_with fail;refine u.o.mono ?_;rintro e S ⟨rfl,l⟩;have N:=xre C l;have L:=xte J l;have B:=ze (F.o.below l F.o.lt);replace b:=eb_ b l;clear l u C J F;have R:=zmv A2 n2 c2 r S L.o HS.o;generalize E:yF r=y at R;have K:=ze R;obtain ⟨r0,T,_⟩:=bq2 B;clear R
 by_cases M:y=0
 rotate_left
 . have G:Hid (Zh rows r=y):=ze (by unfold Zh;rw [if_neg (fun h=>h O.o),if_pos (by rw [E];exact M),E])
   have ab:(y == 0)=false:=uD M;clear E M;go_wp2_with fail;refine K.o.mono ?_;rintro e w2 ⟨rfl,j⟩;replace b:=eb_ b j;clear j K N L r0 T B;go_wp2;go_ret;exact ⟨by rw [G.o];rfl,b.o⟩
 subst M
 have G:Hid (Zh rows r=YY rows r.terms):=ze (by unfold Zh;rw [if_neg (fun h=>h O.o),if_neg (fun h=>h E)]);clear E;go_wp2_with fail;refine K.o.mono ?_;rintro e w2 ⟨rfl,j⟩
 have X:rows.length<=800:=Classical.byContradiction fun h=>by
  have:=O.o;rw [Zx (by omega)] at this
  cases this
 have U:=ze (zmz A A2 n c n2 c2 rows r.terms w2 ((zH.below N.o j).more j.size) ((zh.below L.o j).more j.size) (Z.o X) aa.o);have V:=ze (B.o.below j B.o.lt);replace b:=eb_ b j;clear j K N L X r0 T B;have r0:=(bq1 V).1;go_wp2_with fail;refine U.o.mono ?_;rintro e w3 ⟨rfl,Y⟩;replace b:=eb_ b Y;clear Y U r0 V;go_wp2;go_ret;exact ⟨by rw [G.o];rfl,b.o⟩
def zmb (p:List zu) (r:zU):Bool:=decide (0<YD p r.terms r.terms.length)
def Xn (rows:List zU) (goal p:List zu):Bool:= !decide (Y4 rows.length (fun k=>zmb p (rows.getD k default)) ≥ 0) && decide (0<YD p goal goal.length)
theorem zrf (b gb gp:Nat) (AT AP:Option Addr) (nt ct np cp:Nat) (r:zU) (p:List zu) (w:World) (hB:zv w b) (hkb:Blk w gb 54 #[.map (some b)]) (hkp:Blk w gp 26 #[.slice AP np cp])
 (ht:zV w (.slice AT nt ct) r.terms) (hp:zV w (.slice AP np cp) p) (ho:XT r.terms p):
 Calls prog 74 #[.agg #[.slice AT nt ct,str r.bound],.pointer (some ⟨gb,0,none⟩),.pointer (some ⟨gp,0,none⟩)] w (fun e w' =>e= .returned (.bool (zmb p r))/\zv w' b/\Chg (· =b) w w'):=by
 have j:=zf w (.cells #[.slice AT nt ct,str r.bound] 31)
 have u:=ze (Blk.new w 31 #[.slice AT nt ct,str r.bound])
 have l:=ze (hB.below j)
 have C:=ze (hkb.below j hkb.lt)
 have D:=ze (hkp.below j hkp.lt)
 have F:=ze ((zh.below ht j).more j.size)
 have E:=ze ((zh.below hp j).more j.size)
 have m:Hid (Chg (· =b) w (w.alloc (.cells #[.slice AT nt ct,str r.bound] 31))):=Chg.of_below j
 have M:=ze ho
 obtain ⟨z,B⟩:=uR (XX (YD p r.terms r.terms.length) 0)
 have N:Hid (zmb p r=decide (z>0)):=ze (by rw [<- B];exact (zc2 _ _).symm)
 have O:=ze B
 clear hB hkb hkp ht hp ho j B
 go_in
 go_upto_region 1 with fail
 generalize w.alloc (.cells #[.slice AT nt ct,str r.bound] 31)=W at u l C D F E m |-
 generalize w.heap.size=gr at u |-
 have r0:=(bq1 u).1;have L:=(bq1 C).1;have z0:=(bq1 D).1
 go_wp2_with fail
 refine (zc9 b _ _ _ _ _ _ r.terms p _ l.o F.o E.o M.o).mono ?_
 rintro e Q ⟨v4,rfl,G,I,J⟩
 replace m:=ze (yn m.o J)
 replace l:=ze I
 have K:=ze G
 clear J I G r0 L z0 u C D F E
 go_wp2_with fail
 refine (vz _ _ _ K.o).mono ?_
 rintro e w5 ⟨rfl,y⟩
 rw [O.o]
 replace l:=ze (l.o.below y)
 replace m:=ze (zJ m.o y)
 clear y K
 go_wp2
 go_ret
 exact ⟨by rw [N.o];rfl,l.o,m.o⟩
theorem zhd (b gb gp B:Nat) (A AP:Option Addr) (n c np cp:Nat) (rows:List zU) (p:List zu) (w:World) (hB:zv w b) (hkb:Blk w gb 54 #[.map (some b)]) (hkp:Blk w gp 26 #[.slice AP np cp])
 (hr:zH w B (.slice A n c) rows) (hp:zh w B (.slice AP np cp) p) (hBB:B<=w.heap.size) (ho:∀ k,k<rows.length->XT (rows.getD k default).terms p):
 Calls prog 73 #[.slice A n c,.func (.func 74) #[] #[.pointer (some ⟨gb,0,none⟩),.pointer (some ⟨gp,0,none⟩)]] w
  (fun e w' =>e= .returned (.bool (decide (Y4 rows.length (fun k=>zmb p (rows.getD k default)) ≥ 0)))/\zv w' b/\Chg (· =b) w w'):=by
 have j:=zf0 74 (zmb p) b gb gp B A AP n c np cp rows p w hB hkb hkp hr hp hBB (fun _ _=>by kernel_rfl) (fun AT nt ct k w hk h1 h2 h3 h4 h5 h6=>zrf b _ _ AT AP nt ct np cp _ p w h1 h2 h3 h4 h5 (ho k hk))
 generalize C:Y4 rows.length (fun k=>zmb p (rows.getD k default))=z at j |-
 have r:=ze j
 clear j C hB hkb hkp hr hp hBB ho
 go_in
 go_wp2_with fail
 refine r.o.mono ?_
 rintro e D ⟨rfl,l,m⟩
 have u:=ze l
 have y:=ze m
 clear l m r
 go_wp2
 go_ret
 exact ⟨rfl,u.o,y.o⟩
theorem znb (b:Nat) (A AG AP:Option Addr) (n c ng cg np cp:Nat) (rows:List zU) (goal p:List zu) (w:World) (hB:zv w b) (hr:yS w (.slice A n c) rows) (hg:zV w (.slice AG ng cg) goal) (hp:zV w (.slice AP np cp) p)
 (ho:∀ k,k<rows.length->XT (rows.getD k default).terms p) (hgo:XT goal p):
 Calls prog 31 #[.map (some b),.slice A n c,.slice AG ng cg,.slice AP np cp] w (fun e w' =>e= .returned (.bool (Xn rows goal p))/\zv w' b/\Chg (· =b) w w'):=by
 have T:=zf w (.cells #[.map (some b)] 54)
 have O:=zf (w.alloc (.cells #[.map (some b)] 54)) (.cells #[.slice AP np cp] 26)
 have m:=ext T O
 have M:=(Blk.new w 54 #[.map (some b)]).alloc (.cells #[.slice AP np cp] 26)
 have G:=Blk.new (w.alloc (.cells #[.map (some b)] 54)) 26 #[.slice AP np cp]
 rw [World.size_alloc] at G
 have K:=zhd b w.heap.size (w.heap.size+1) w.heap.size A AP n c np cp rows p _ (hB.below m) M G (zH.below hr m) (zh.below hp m) m.size ho
 have l:Hid (Chg (· =b) w ((w.alloc (.cells #[.map (some b)] 54)).alloc (.cells #[.slice AP np cp] 26))):=Chg.of_below m
 have j:=ze (hB.below m)
 have C:=ze M
 have D:=ze G
 have u:=ze ((zh.below hg m).more m.size)
 have B:=ze ((zh.below hp m).more m.size)
 have aa:=ze hgo
 generalize U:decide (Y4 rows.length (fun k=>zmb p (rows.getD k default)) ≥ 0)=z at K
 have N:Xn rows goal p=(!z && decide (0<YD p goal goal.length)):=by unfold Xn;rw [U]
 have X:=ze N
 have F:=ze K
 clear hB hr hp hg ho hgo T O m M G K U N
 go_in
 go_upto_region 1 with fail
 generalize (w.alloc (.cells #[.map (some b)] 54)).alloc (.cells #[.slice AP np cp] 26)=W at l j C D u B F |-
 cases z with
 | true=>
   go_wp2_with fail;refine F.o.mono ?_;rintro e Z ⟨rfl,E,r⟩;replace l:=ze (yn l.o r);replace j:=ze E;clear E r F C D u B;go_wp2;go_ret;exact ⟨by rw [X.o];rfl,j.o,l.o⟩
 | false=>
   go_wp2_with fail;refine F.o.mono ?_;rintro e Z ⟨rfl,E,r⟩;replace C:=ze (j.o.keepBlk r C.o);replace D:=ze (j.o.keepBlk r D.o);replace u:=ze ((j.o.keepT r u.o).more r.size);replace B:=ze ((j.o.keepT r B.o).more r.size);replace l:=ze (yn l.o r);replace j:=ze E;have d0:=(bq1 C).1;have z0:=(bq1 D).1;clear E r F;go_wp2_with fail;refine (zc9 b _ _ _ _ _ _ goal p _ j.o u.o B.o aa.o).mono ?_;rintro e Y ⟨v4,rfl,R,S,V⟩;replace l:=ze (yn l.o V);replace j:=ze S;have L:=vz v4 _ Y R;have I:=zc2 (YD p goal goal.length) 0;generalize hy:XX (YD p goal goal.length) 0=y at L I;have Q:=ze L;have ab:=ze I;clear L I hy V S R d0 z0 C D u B;go_wp2_with fail;refine Q.o.mono ?_;rintro e w5 ⟨rfl,J⟩;replace j:=ze (j.o.below J);replace l:=ze (zJ l.o J);clear J Q;go_wp2;go_ret;exact ⟨by rw [X.o, <- ab.o];rfl,j.o,l.o⟩
end Go.Proofs.YtnjljgidphemdaaGreatDoor
