/- Parts of the proof. -/
import Derived.Maps.OwnOps
import Derived.Test.YthbmhkiphmcogaaGreatDoorMe14
set_option linter.all false
set_option maxRecDepth 100000
set_option maxHeartbeats 32000000
namespace Go.Proofs.YthbmhkiphmcogaaGreatDoor
open Proofs.Tryz Go.RowKit
def XW (D:List (List UInt8×Value)):List (Value×Value):=D.map fun p=>(str p.1,p.2)
def ZM (w:World) (b:Nat) (D:List (List UInt8×Value)):Prop:=∃ es clock,w.heap[b]?=some (.map es clock)/\es.toList.map (fun e=>(e.key,e.val))=XW D/\(es.toList.map (·.born)).Nodup/\∀ e∈es.toList,e.born<clock
theorem ZM.lt {w:World} {b:Nat} {D:List (List UInt8×Value)} (h:ZM w b D):b<w.heap.size:=by
 obtain ⟨e,c,hb,_⟩:=h
 exact (Array.getElem?_eq_some_iff.1 hb).1
theorem ZM.keep {w w' :World} {b:Nat} {D:List (List UInt8×Value)} (h:ZM w b D) (hk:w'.heap[b]?=w.heap[b]?):ZM w' b D:=by
 obtain ⟨e,c,hb,j⟩:=h
 exact ⟨e,c,hk.trans hb,j⟩
theorem ZM.below {B:Nat} {w w' :World} {b:Nat} {D:List (List UInt8×Value)} (h:ZM w b D) (hb:Below B w w') (hl:b<B):ZM w' b D:=h.keep (hb.block b hl)
theorem ZM.new (w:World):ZM (w.alloc (.map #[] 0)) w.heap.size []:=⟨#[],0,heap_alloc_new w _,rfl,by simp,by simp⟩
def za5 (s:List UInt8):List (List UInt8×Value)->Nat->Option (Nat×Value)
 | [],_=>none
 | p :: D,i=>if p.1=s then some (i,p.2) else za5 s D (i+1)
def za6 (s:List UInt8) (D:List (List UInt8×Value)):Option Value:=(za5 s D 0).map (·.2)
theorem zvq (a b:List UInt8):((⟨a.toArray⟩:ByteArray) == ⟨b.toArray⟩)=decide (a=b):=by
 by_cases h:a=b
 . subst h;rw [decide_eq_true rfl];exact (MapKept.bytes_beq _ _).2 rfl
 rw [decide_eq_false h]
 cases h1:((⟨a.toArray⟩:ByteArray) == ⟨b.toArray⟩) with
 | false=>rfl
 | true=>
   have e:=(MapKept.bytes_beq _ _).1 h1;injection e with e
   exact absurd (by simpa using congrArg Array.toList e) h
theorem YW (s:List UInt8):∀ (l:List MapEntry) (D:List (List UInt8×Value)) (i:Nat),l.map (fun e=>(e.key,e.val))=XW D->Instr.findNow .string (str s) l i=some (za5 s D i)
 | [],[],i,_=>rfl
 | [],_ :: _,_,h=>by simp [XW] at h
 | _ :: _,[],_,h=>by simp [XW] at h
 | e :: l,p :: D,i,h=>by
   simp only [XW,List.map_cons,List.cons.injEq,Prod.mk.injEq] at h;obtain ⟨⟨r,m⟩,j⟩:=h
   have u:Instr.sameNow .string (str s) e.key=some (decide (p.1=s)):=by
    rw [r]
    show some ((⟨s.toArray⟩:ByteArray) == ⟨p.1.toArray⟩)=_
    rw [zvq]
    congr 1
    exact decide_eq_decide.2 ⟨Eq.symm,Eq.symm⟩
   unfold Instr.findNow za5;rw [u]
   by_cases b:p.1=s
   . rw [decide_eq_true b,if_pos b,m]
   rw [decide_eq_false b,if_neg b]
   exact YW s l D (i+1) j
theorem zag (s:List UInt8):∀ (D:List (List UInt8×Value)) (i:Nat),za5 s D i=(za5 s D 0).map fun p=>(p.1+i,p.2)
 | [],_=>rfl
 | p :: D,i=>by
   unfold za5
   by_cases h:p.1=s
   . rw [if_pos h,if_pos h];simp
   rw [if_neg h,if_neg h,zag s D (i+1),zag s D 1]
   cases za5 s D 0 with
   | none=>rfl
   | some q=>simp only [Option.map_some];congr 2;omega
section
variable {P:Program} {w:World} {t k e:TypeId} {b:Nat} {D:List (List UInt8×Value)}
theorem ZZ {z:Value} (ht:P.underlying t=some (.map k e)) (hk:P.underlying k=some .string) (hz:(zeroValue e).run P w= .ok z w) (h:ZM w b D) (s:List UInt8) (c:Bool):
 (Instr.lookup t (.map (some b)) (str s) c).run P w= .ok (if c then .tuple #[(za6 s D).getD z,.bool (za6 s D).isSome] else (za6 s D).getD z) w:=by
 obtain ⟨l,u,hb,r,_⟩:=h
 have j:=YW s l.toList D 0 r
 have m:(Instr.checkKey l.isEmpty 10000 k (str s)).run P w= .ok () w:=MapKept.run_checkKey (k:=str s) hk (by simp [MapKept.IsKey]) l.isEmpty 9999
 unfold za6
 cases hs:za5 s D 0 with
 | none=>
   rw [hs] at j
   simp [Instr.lookup,run_underlying ht,MapKept.run_getObj_map hb,m,MapKept.run_findKey hk j,Result.andThen,hz]
 | some p=>
   rw [hs] at j
   simp [Instr.lookup,run_underlying ht,MapKept.run_getObj_map hb,m,MapKept.run_findKey hk j,Result.andThen]
def zi6 (s:List UInt8) (v:Value) (D:List (List UInt8×Value)):List (List UInt8×Value):=match za5 s D 0 with
 | none=>D ++ [(s,v)]
 | some p=>D.set p.1 (s,v)
theorem zco (s:List UInt8):∀ (D:List (List UInt8×Value)) (i:Nat) (p:Nat×Value),za5 s D i=some p->i<=p.1/\D[p.1 - i]?=some (s,p.2)
 | [],_,_,h=>by cases h
 | q :: D,i,p,h=>by
   unfold za5 at h
   by_cases b:q.1=s
   rotate_left
   . rw [if_neg b] at h
     obtain ⟨j,e⟩:=zco s D (i+1) p h;refine ⟨by omega,?_⟩;rw [show p.1 - i=(p.1 - (i+1))+1 by omega,List.getElem?_cons_succ];exact e
   rw [if_pos b] at h
   injection h with h
   subst h
   simp [<- b]
theorem Xn (ht:P.underlying t=some (.map k e)) (hk:P.underlying k=some .string) (h:ZM w b D) (s:List UInt8) (v:Value):
 ∃ w',(Instr.mapUpdate t (.map (some b)) (str s) v).run P w= .ok () w' /\ZM w' b (zi6 s v D)/\w.grownBy w' (some b)/\w'.heap.size=w.heap.size:=by
 obtain ⟨m,G,hb,B,M,E⟩:=h
 have C:=YW s m.toList D 0 B
 have N:(Instr.checkKey false 10000 k (str s)).run P w= .ok () w:=MapKept.run_checkKey (k:=str s) hk (by simp [MapKept.IsKey]) false 9999
 have L:∀ o,w.grownBy { w with heap:=w.heap.setIfInBounds b o } (some b):=fun o=>⟨rfl,rfl,rfl,by simp,fun r hr hn=>by
  have Q:b≠r:=fun e=>hn (by rw [e])
  simp [Q]⟩
 have J:b<w.heap.size:=(Array.getElem?_eq_some_iff.1 hb).1
 unfold zi6
 cases hs:za5 s D 0 with
 | none=>
   rw [hs] at C;refine ⟨{ w with heap:=w.heap.setIfInBounds b (.map (m.push { key:=str s,val:=v,born:=G }) (G+1)) },?_,⟨_,_,by simp [J];exact ⟨rfl,rfl⟩,?_,?_,?_⟩,L _,by simp⟩
   . simp [Instr.mapUpdate,run_underlying ht,MapKept.run_getObj_map hb,N,MapKept.run_findKey hk C,MapKept.run_setObj_map _ hb,Result.andThen]
   . simp only [Array.toList_push,List.map_append,List.map_cons,List.map_nil,B,XW]
   . simp only [Array.toList_push,List.map_append,List.map_cons,List.map_nil]
     rw [List.nodup_append];refine ⟨M,by simp,fun a ha b hb' e=>?_⟩;simp only [List.mem_singleton] at hb';obtain ⟨x,u,rfl⟩:=List.mem_map.1 ha;have:=E x u
     omega
   . intro x u
     rw [Array.toList_push,List.mem_append,List.mem_singleton] at u
     rcases u with u | rfl
     . have:=E x u;omega
     . exact Nat.lt_succ_self _
 | some p=>
   rw [hs] at C;have I:=zco s D 0 p hs;rw [Nat.sub_zero] at I;have V:m.size=D.length:=by have:=congrArg List.length B;simpa [XW] using this
   have S:p.1<D.length:=(List.getElem?_eq_some_iff.1 I.2).1
   have R:(((m[p.1]?).map (·.key)).getD (str s))=str s:=by
    have z:(m.toList.map (fun e=>(e.key,e.val)))[p.1]?=some (str s,p.2):=by
     rw [B];unfold XW;rw [List.getElem?_map,I.2];rfl
    rw [List.getElem?_map,Array.getElem?_toList] at z
    cases h2:m[p.1]? with
    | none=>rw [h2] at z;cases z
    | some x=>
      rw [h2] at z;simp only [Option.map_some,Option.some.injEq,Prod.mk.injEq] at z
      simp [z.1]
   have T:(Instr.keyThatStays (((m[p.1]?).map (·.key)).getD (str s)) (str s)).run P w= .ok (str s) w:=by
    rw [R];unfold Instr.keyThatStays
    have:Instr.sameBits 10000 (str s) (str s)=true:=by
     show Instr.sameBits (9999+1) _ _=true
     unfold Instr.sameBits;exact (MapKept.bytes_beq _ _).2 rfl
    rw [if_pos this];rfl
   refine ⟨{ w with heap:=w.heap.setIfInBounds b (.map (m.modify p.1 fun e=>{ e with key:=str s,val:=v }) G) },?_,⟨_,_,by simp [J];exact ⟨rfl,rfl⟩,?_,?_⟩,L _,by simp⟩
   . simp only [Instr.mapUpdate,Sem.run_bind,run_underlying ht,MapKept.run_getObj_map hb,N,MapKept.run_findKey hk C,T,MapKept.run_setObj_map _ hb,Result.andThen]
   . unfold XW at B |-
     apply List.ext_getElem?
     intro j;have O:=congrArg (fun l=>l[j]?) B;simp only [List.getElem?_map,Array.getElem?_toList] at O;rw [List.getElem?_map,List.getElem?_map,Array.getElem?_toList,Array.getElem?_modify,List.getElem?_set]
     by_cases F:p.1=j
     rotate_left
     . rw [if_neg F,if_neg F];exact O
     subst F
     rw [if_pos rfl,if_pos rfl,if_pos S];have:p.1<m.size:=by omega
     rw [Array.getElem?_eq_getElem this]
     rfl
   . have K:(m.modify p.1 fun e=>{ e with key:=str s,val:=v }).toList.map (·.born)=m.toList.map (·.born):=by
      apply List.ext_getElem?
      intro j;rw [List.getElem?_map,List.getElem?_map,Array.getElem?_toList,Array.getElem?_toList,Array.getElem?_modify]
      split
      . cases m[j]?<;>rfl
      rfl
     refine ⟨by rw [K];exact M,fun x u=>?_⟩;have:x.born∈m.toList.map (·.born):=by rw [<- K];exact List.mem_map.2 ⟨x,u,rfl⟩
     obtain ⟨y,U,e⟩:=List.mem_map.1 this;have:=E y U
     omega
end
section
variable {P:Program} {ops:Array Oper} {rest:List Oper} {o:Oper} {a:Act} {Q:Exit->Act->World->Prop}
end
theorem zfr {s:List UInt8} {v:Value} {D:List (List UInt8×Value)} (h:za6 s D=some v):(s,v)∈D:=by
 unfold za6 at h
 obtain ⟨p,b,rfl⟩:=Option.map_eq_some_iff.1 h
 exact List.mem_of_getElem? (zco s D 0 p b).2
def zZ (w:World) (b:Nat):Prop:=∀ p:Addr,p.block=b->∀ x,w.cell? p≠some (.int .u32 x)
section
variable {S T:Nat->Prop} {w w1 w2 w' :World}
theorem Chg.map {b:Nat} {D:List (List UInt8×Value)} (h:Chg S w w') (hb:ZM w b D) (hg:¬ S b):ZM w' b D:=hb.keep (h.block b hb.lt hg)
theorem Chg.nat {v:Value} {n:Nat} (h:Chg S w w') (hn:yF w v n) (hS:∀ b,S b->zZ w b):yF w' v n:=by
 obtain ⟨A,c,ds,e,C,B,l,r,D⟩:=hn
 refine ⟨A,c,ds,e,C,B,⟨l.1,fun h0=>?_⟩,r,D⟩
 obtain ⟨F,z,hb,E⟩:=l.2 h0
 refine ⟨F,z,Nat.lt_of_lt_of_le hb h.size,fun j u hu=>?_⟩
 have m:=E j u hu
 have y:∃ d:Nat,u= .int .u32 (d:Int):=by
  unfold XY at hu
  rw [List.getElem?_map] at hu
  obtain ⟨d,_,e⟩:=Option.map_eq_some_iff.1 hu
  exact ⟨d,e.symm⟩
 obtain ⟨d,rfl⟩:=y
 exact h.cell m (fun hs=>hS _ hs _ rfl _ m)
theorem Chg.num {v:Value} {z:Int} (h:Chg S w w') (hn:yb w v z) (hS:∀ b,S b->zZ w b):yb w' v z:=by
 rcases hn with j | ⟨l,k,c,n,ng,e,j,m⟩
 . exact .inl j
 . exact .inr ⟨l,k,c,n,ng,e,h.nat j hS,m⟩
theorem Chg.rat {v:Value} {q:Rat} (h:Chg S w w') (hn:yc w v q) (hS:∀ b,S b->zZ w b):yc w' v q:=by
 obtain ⟨x,A,k,c,s,y,B,k',c',t,rfl,e,j⟩:=hn
 exact ⟨_,_,_,_,_,_,_,_,_,_,rfl,h.num e hS,h.num j hS⟩
end
theorem Chg.ratSet {w:World} {g:Nat} {x y:Int} {A B:Option Addr} {k c k' c' :Nat} {s t:Bool}:Chg (· =g) w (World.rat w g x A k c s y B k' c' t):=by
 simp only [World.rat]
 apply Chg.setCell (S:=fun b=>b=g) ?_ (by rfl)
 apply Chg.setCell (S:=fun b=>b=g) ?_ (by rfl)
 apply Chg.setCell (S:=fun b=>b=g) ?_ (by rfl)
 apply Chg.setCell (S:=fun b=>b=g) ?_ (by rfl)
 apply Chg.setCell (S:=fun b=>b=g) ?_ (by rfl)
 apply Chg.setCell (S:=fun b=>b=g) ?_ (by rfl)
 exact Chg.refl w
theorem ZM.noDig {w:World} {b:Nat} {D:List (List UInt8×Value)} (h:ZM w b D):zZ w b:=by
 obtain ⟨l,c,hb,_⟩:=h
 intro p e x j
 subst e
 simp [World.cell?,hb] at j
def zB (w:World) (b:Nat):Prop:=∃ D,ZM w b D/\∀ p∈D,∃ q,zp p.1=some q/\yc w p.2 q
theorem zB.lt {w:World} {b:Nat} (h:zB w b):b<w.heap.size:=by obtain ⟨D,h,_⟩:=h;exact h.lt
theorem zB.noDig {w:World} {b:Nat} (h:zB w b):zZ w b:=by obtain ⟨D,h,_⟩:=h;exact h.noDig
theorem zB.chg {S:Nat->Prop} {w w' :World} {b:Nat} (h:zB w b) (hc:Chg S w w') (hb:¬ S b) (hS:∀ b,S b->zZ w b):zB w' b:=by
 obtain ⟨D,l,m⟩:=h
 refine ⟨D,hc.map l hb,fun p hp=>?_⟩
 obtain ⟨q,j,e⟩:=m p hp
 exact ⟨q,j,hc.rat e hS⟩
theorem zB.below {w w' :World} {b:Nat} (h:zB w b) (hb:Below w.heap.size w w'):zB w' b:=h.chg (S:=fun _=>False) (Chg.of_below hb) (fun h=>h) (fun _ h=>h.elim)
theorem zB.new (w:World):zB (w.alloc (.map #[] 0)) w.heap.size:=⟨[],ZM.new w,fun p hp=>by cases hp⟩
theorem zsz {s:List UInt8} {v:Value} {D:List (List UInt8×Value)} {p:List UInt8×Value} (h:p∈zi6 s v D):p∈D\/p=(s,v):=by
 unfold zi6 at h
 split at h
 rotate_left
 . exact List.mem_or_eq_of_mem_set h
 rcases List.mem_append.1 h with h | h
 . exact .inl h
 . exact .inr (by simpa using h)
theorem zB.put {w w' :World} {b:Nat} {s:List UInt8} {v:Value} {q:Rat} {D:List (List UInt8×Value)} (h:∀ p∈D,∃ q,zp p.1=some q/\yc w p.2 q) (hm:ZM w b D) (hq:zp s=some q) (hv:yc w v q)
 (hm' :ZM w' b (zi6 s v D)) (hg:w.grownBy w' (some b)):zB w' b:=by
 have l:Chg (fun k=>k=b) w w' :=Chg.of_grown hg rfl
 have hS:∀ k,k=b->zZ w k:=fun k e=>by subst e;exact hm.noDig
 refine ⟨_,hm',fun p hp=>?_⟩
 rcases zsz hp with j | j
 . obtain ⟨r,u,m⟩:=h p j
   exact ⟨r,u,l.rat m hS⟩
 . subst j
   exact ⟨q,hq,l.rat hv hS⟩
theorem yc.agg {w:World} {v:Value} {q:Rat} (h:yc w v q):zvv v:=by
 obtain ⟨x,A,k,c,s,y,B,k',c',t,rfl,b,e⟩:=h
 exact ⟨_,_,_,_,_,_,_,_,_,_,rfl⟩
def zvg (w:World) (b:Nat) (l:List UInt8) (e:Ending) (w' :World):Prop:=
 ∃ v ok,e= .returned (.tuple #[v,.bool ok])/\zvv v/\ok=(zp l).isSome/\(∀ q,zp l=some q->yc w' v q)/\zB w' b/\Chg (· =b) w w'
end Go.Proofs.YthbmhkiphmcogaaGreatDoor
namespace Go.Proofs.YthbmhkiphmcogaaGreatDoor
open Proofs.Tryz Go.RowKit Go.Deep
def Z0 (v:Value):Prop:=∀ x,v≠ .int .u32 x
theorem zau {w:World} {b:Nat} {cs:Array Value} {t:TypeId} {fr:Nat×Nat} (h:w.heap[b]?=some (.cells cs t fr)) (hn:∀ u∈cs,Z0 u):zZ w b:=by
 intro p j x e
 unfold World.cell? at e
 rw [j,h] at e
 simp only at e
 split at e
 . cases e
 exact hn _ (Array.mem_of_getElem? e) x rfl
theorem zc7 {cs:Array Value} (h:Ze cs):∀ u∈cs,Z0 u:=by
 intro u hu x e
 subst e
 obtain ⟨i,hi,e⟩:=Array.mem_iff_getElem.1 hu
 exact h i x (by rw [Array.getElem?_eq_getElem hi,e])
theorem Zq {cs:Array Value} (h:∀ u∈cs,Z0 u):Ze cs:=fun i d e=>h _ (Array.mem_of_getElem? e) d rfl
theorem Blk.noDig {w:World} {g:Nat} {t:TypeId} {cs:Array Value} (h:Blk w g t cs) (hn:Ze cs):zZ w g:=zau h (zc7 hn)
theorem vi (x:Int):Z0 (.int .i64 x):=fun _ e=>by cases e
theorem ZD (b:Bool):Z0 (.bool b):=fun _ e=>by cases e
theorem zM (A:Option Addr) (n c:Nat):Z0 (.slice A n c):=fun _ e=>by cases e
theorem yq (s:ByteArray):Z0 (.string s):=fun _ e=>by cases e
theorem zsd (b:Option Nat):Z0 (.map b):=fun _ e=>by cases e
section
variable {S:Nat->Prop} {w w' :World}
theorem Chg.noDig {b:Nat} (h:Chg S w w') (hn:zZ w b) (hb:b<w.heap.size) (hS:¬ S b):zZ w' b:=by
 intro p e x j
 refine hn p e x ?_
 rw [<- j]
 unfold World.cell?
 rw [e,h.block b hb hS]
end
def zem (w:World) (g k:Nat) (z:Int):Prop:=
 ∃ (x:Int) (A:Option Addr) (n c:Nat) (ng:Bool),w.cell? ⟨g,k*3,none⟩=some (.int .i64 x)/\w.cell? ⟨g,k*3+1,none⟩=some (.slice A n c)/\w.cell? ⟨g,k*3+2,none⟩=some (.bool ng)/\
  yb w (.agg #[.int .i64 x,.slice A n c,.bool ng]) z
def ve (w:World) (g L n:Nat) (f:Nat->Int):Prop:=(∃ cs,Blk w g 53 cs/\cs.size=L*3/\Ze cs)/\∀ k,k<n->zem w g k (f k)
abbrev World.numAt (w:World) (g k:Nat) (x:Int) (A:Option Addr) (n c:Nat) (ng:Bool):World:=
 ((w.setCell ⟨g,k*3,none⟩ (.int .i64 x)).setCell ⟨g,k*3+1,none⟩ (.slice A n c)).setCell ⟨g,k*3+2,none⟩ (.bool ng)
section
variable {S:Nat->Prop} {w w' :World} {g L n:Nat} {f:Nat->Int}
theorem zem.chg {k:Nat} {q:Int} (h:zem w g k q) (hc:Chg S w w') (hg:¬ S g) (hS:∀ b,S b->zZ w b):zem w' g k q:=by
 obtain ⟨x,A,n,c,ng,e,j,m,l⟩:=h
 exact ⟨x,A,n,c,ng,hc.cell e hg,hc.cell j hg,hc.cell m hg,hc.num l hS⟩
theorem zem.below {k:Nat} {q:Int} (h:zem w g k q) (hb:Below w.heap.size w w'):zem w' g k q:=h.chg (S:=fun _=>False) (Chg.of_below hb) (fun h=>h) (fun _ h=>h.elim)
theorem ve.lt (h:ve w g L n f):g<w.heap.size:=by obtain ⟨⟨cs,h,_⟩,_⟩:=h;exact h.lt
theorem ve.noDig (h:ve w g L n f):zZ w g:=by obtain ⟨⟨cs,h,_,b⟩,_⟩:=h;exact h.noDig b
theorem ve.chg (h:ve w g L n f) (hc:Chg S w w') (hg:¬ S g) (hS:∀ b,S b->zZ w b):ve w' g L n f:=by
 obtain ⟨⟨cs,e,m,l⟩,j⟩:=h
 exact ⟨⟨cs,hc.blk e hg,m,l⟩,fun k hk=>(j k hk).chg hc hg hS⟩
theorem ve.below (h:ve w g L n f) (hb:Below w.heap.size w w'):ve w' g L n f:=h.chg (S:=fun _=>False) (Chg.of_below hb) (fun h=>h) (fun _ h=>h.elim)
theorem ve.frozen (h:ve w g L n f) (i:Nat):w.frozen? ⟨g,i,none⟩=false:=by obtain ⟨⟨cs,h,_⟩,_⟩:=h;exact h.frozen i
theorem ve.slots (h:ve w g L n f) {k:Nat} (hk:k<L):∃ u0 u1 u2,w.cell? ⟨g,k*3,none⟩=some u0/\w.cell? ⟨g,k*3+1,none⟩=some u1/\w.cell? ⟨g,k*3+2,none⟩=some u2:=by
 obtain ⟨⟨cs,b,j,e⟩,_⟩:=h
 refine ⟨cs[k*3]'(by omega),cs[k*3+1]'(by omega),cs[k*3+2]'(by omega),?_,?_,?_⟩
 all_goals rw [b.cell,Array.getElem?_eq_getElem]
theorem ve.fewer (h:ve w g L n f) {m:Nat} {f' :Nat->Int} (hm:∀ k,k<m->k<n/\f' k=f k):ve w g L m f' :=by
 refine ⟨h.1,fun k hk=>?_⟩
 obtain ⟨b,e⟩:=hm k hk
 rw [e];exact h.2 k b
theorem Zu {k:Nat} {x:Int} {ng:Bool} {A:Option Addr} {n c:Nat}:Chg (· =g) w (World.numAt w g k x A n c ng):=
 Chg.setCell (S:=fun b=>b=g) (Chg.setCell (S:=fun b=>b=g) (Chg.setCell (S:=fun b=>b=g) (Chg.refl w) (p:=⟨g,k*3,none⟩) rfl _) (p:=⟨g,k*3+1,none⟩) rfl _) (p:=⟨g,k*3+2,none⟩) rfl _
theorem xI {cs:Array Value} (h:Ze cs) {u:Value} (hu:Z0 u) (i:Nat):Ze (cs.setIfInBounds i u):=by
 intro j x e
 rw [Array.getElem?_setIfInBounds] at e
 split at e
 rotate_left
 . exact h j x e
 split at e
 . injection e with e;exact hu x e
 cases e
theorem ve.set {k m' :Nat} {q:Int} {f' :Nat->Int} {x:Int} {ng:Bool} {A:Option Addr} {n1 c:Nat} (h:ve w g L n f) (hk:k<L) (hv:yb w (.agg #[.int .i64 x,.slice A n1 c,.bool ng]) q)
 (hf:∀ j,j<m' ->(j=k/\f' j=q)\/(j≠k/\j<n/\f' j=f j)):ve (World.numAt w g k x A n1 c ng) g L m' f' :=by
 have y:=Zu (w:=w) (g:=g) (k:=k) (x:=x) (ng:=ng) (A:=A) (n:=n1) (c:=c)
 have hS:∀ b,b=g->zZ w b:=fun b e=>by subst e;exact h.noDig
 have B :=y.num hv hS
 obtain ⟨⟨cs,u,G,C⟩,I⟩:=h
 have hb:=((u.set_ (k*3) (.int .i64 x)).set_ (k*3+1) (.slice A n1 c)).set_ (k*3+2) (.bool ng)
 refine ⟨⟨_,hb,by simpa using G,xI (xI (xI C (vi _) _) (zM _ _ _) _) (ZD _) _⟩,fun j hj=>?_⟩
 rcases hf j hj with ⟨rfl,e⟩ | ⟨J,D,e⟩
 . rw [e]
   refine ⟨x,A,n1,c,ng,?_,?_,?_,B⟩
   . rw [hb.cell];simp [Array.getElem?_setIfInBounds];omega
   . rw [hb.cell];simp [Array.getElem?_setIfInBounds];omega
   . rw [hb.cell];simp [Array.getElem?_setIfInBounds];omega
 . rw [e]
   obtain ⟨E,A',n',c',z,l,r,m,F⟩:=I j D;rw [u.cell] at l r m;refine ⟨E,A',n',c',z,?_,?_,?_,y.num F hS⟩
   . rw [hb.cell,Array.getElem?_setIfInBounds,if_neg (by omega),Array.getElem?_setIfInBounds,if_neg (by omega),Array.getElem?_setIfInBounds,if_neg (by omega)];exact l
   . rw [hb.cell,Array.getElem?_setIfInBounds,if_neg (by omega),Array.getElem?_setIfInBounds,if_neg (by omega),Array.getElem?_setIfInBounds,if_neg (by omega)];exact r
   . rw [hb.cell,Array.getElem?_setIfInBounds,if_neg (by omega),Array.getElem?_setIfInBounds,if_neg (by omega),Array.getElem?_setIfInBounds,if_neg (by omega)];exact m
end
def Zm (w:World) (base:Nat) (e:TypeId) (size:Nat) (v:Value) (n:Nat) (xs:List Value):Prop:=w.ownsRow base e size v n xs/\∀ g,v.ownBlock=some g->zZ w g
theorem Zz (w:World) (base:Nat) (e:TypeId) (size:Nat):Zm w base e size (.slice none 0 0) 0 []:=⟨World.ownsRow_nil w base e size,fun g h=>by cases h⟩
section
variable {S:Nat->Prop} {w w' :World} {base n size:Nat} {e:TypeId} {v:Value} {xs:List Value}
theorem Zm.chg (h:Zm w base e size v n xs) (hc:Chg S w w') (hS:∀ g,v.ownBlock=some g->¬ S g):Zm w' base e size v n xs:=by
 obtain ⟨j,u⟩:=h
 have l:=j.lt
 refine ⟨⟨j.1,?_⟩,fun g hg=>hc.noDig (u g hg) (l g hg).2 (hS g hg)⟩
 rcases j.2 with b | ⟨g,r,m,rfl,b,y,z⟩
 . exact .inl b
 . exact .inr ⟨g,r,m,rfl,b,(hc.block g (l g rfl).2 (hS g rfl)).trans y,z⟩
theorem Zm.below (h:Zm w base e size v n xs) (hb:Below w.heap.size w w'):Zm w' base e size v n xs:=h.chg (S:=fun _=>False) (Chg.of_below hb) (fun _ _ h=>h)
theorem Zm.stored {g cap:Nat} (h:Zm w base e size (.slice (some ⟨g,0,none⟩) n cap) n xs) (j:Nat) {u:Value} (hu:Z0 u):
 Zm (w.setCell ⟨g,j,none⟩ u) base e size (.slice (some ⟨g,0,none⟩) n cap) n (xs.set j u):=by
 refine ⟨(h.1.stored j u).1,fun k hk=>?_⟩
 obtain rfl:g=k:=by simpa [Value.ownBlock] using hk
 have r:=h.2 g rfl
 rcases h.1.2 with b | ⟨g',z,l,b,hb,m,_⟩
 . simp at b
 . simp only [Value.slice.injEq,Option.some.injEq,Addr.mk.injEq,and_true,true_and] at b
   obtain ⟨rfl,rfl⟩:=b;refine zau (heap_setCell_same w g j l e u m) ?_;refine zc7 (xI ?_ hu j);intro i x y;exact r ⟨g,i,none⟩ rfl x (by rw [cell_of_row w g i l e (0,0) m];exact y)
end
theorem VC {z:Array Value} {k:Nat} {u:Value} (h:u∈Builtin.zeroCells z k) (hz:0<z.size):u∈z:=by
 unfold Builtin.zeroCells at h
 rw [Array.mem_map] at h
 obtain ⟨i,_,rfl⟩:=h
 have:=Nat.mod_lt i hz
 rw [getElem!_pos z _ this]
 exact Array.getElem_mem this
section
variable {P:Program} (w:World)
theorem Xk (base:Nat) (t ty e:TypeId) (i:TypeInfo) (z:Value) (size bytes:Nat) (ht:P.underlying t=some (.slice e)) (hi:P.info? e=some i) (hz:i.zero=some z)
 (hsize:i.size=size) (hby:i.bytes=bytes) (hzs:z.cells.size=size) (hsz:0<size)
 (v:Value) (n:Nat) (xs:List Value) (hown:Zm w base e size v n xs)
 (ad:Addr) (m c:Nat) (news:List Value) (hl:news.length=m*size) (hm:0<m) (hnews:∀ j u,news[j]?=some u->w.cell? (ad.add j)=some u) (h1:∀ u∈news,u.oneCell' =true)
 (hno:∀ u∈news,Z0 u) (hzn:∀ u∈z.cells,Z0 u) (h63:n+m<=maxLen) (hbytes:(n+m)*bytes<=140737488355328) (hbase:base<=w.heap.size):
 ∃ y w',(Builtin.append_ #[t,t] ty #[v,.slice (some ad) m c]).run P w= .ok y w' /\Zm w' base e size y (n+m) (xs ++ news)/\w.grownBy w' v.ownBlock/\(y.ownBlock=v.ownBlock\/y.ownBlock=some w.heap.size):=by
 obtain ⟨y,w',C,Q,R,_,U⟩:=run_append_own_at (P:=P) w base t ty e i z size bytes ht hi hz hsize hby hzs hsz v n xs hown.1 ad m c news hl hnews h1 h63 hbytes hbase
 refine ⟨y,w',C,⟨Q,fun g hg=>?_⟩,R,U⟩
 subst hsize
 subst hby
 have Y:n+m<=9223372036854775807:=by simp only [maxLen] at h63;omega
 have V:∀ u∈xs,Z0 u:=by
  rcases hown.1.2 with ⟨rfl,I⟩ | ⟨g',D,l,rfl,S,B,N,O,M,K⟩
  . have:xs=[]:=List.eq_nil_of_length_eq_zero (by rw [hown.1.1,I];omega)
    subst this;intro u hu;cases hu
  . intro u hu x G
    subst G;rw [<- K] at hu;have E:=List.mem_of_mem_take hu;obtain ⟨k,F,b⟩:=List.mem_iff_getElem.1 E;refine hown.2 g' rfl ⟨g',k,none⟩ rfl x ?_;rw [cell_of_row w g' k l e (0,0) B, <- Array.getElem?_toList,List.getElem?_eq_getElem F,b]
 rcases hown.1.2 with ⟨rfl,I⟩ | ⟨g',D,l,rfl,S,B,N,O,M,K⟩
 . subst I
   have r:=run_append_nil (P:=P) w t ty e i z ht hi hz ad m c news hl hnews hm (by omega) (by have hb:=hbytes;simp only [Nat.zero_add] at hb;omega);rw [C] at r;injection r with b e2
   subst b e2;obtain rfl:w.heap.size=g:=by simpa [Value.ownBlock] using hg
   refine zau (heap_alloc_new w.drew _) ?_;intro u hu
   rcases Array.mem_append.1 hu with h | h
   . exact hno u (by simpa using h)
   . exact hzn u (VC h (by omega))
 . by_cases L:n+m<=D
   rotate_left
   . have X:∀ j u,xs[j]?=some u->w.cell? ((⟨g',0,none⟩:Addr).add j)=some u:=hown.1.cells (g:=g') rfl
     have r:=run_append_grow (P:=P) w t ty e i z ht hi hz ⟨g',0,none⟩ n D xs hown.1.1 X ad m c news hl hnews (by omega) (by omega) (growslice_fits (by omega) hbytes);rw [C] at r;injection r with b e2
     subst b e2;obtain rfl:w.heap.size=g:=by simpa [Value.ownBlock] using hg
     refine zau (heap_alloc_new w.drew _) ?_;intro u hu
     rcases Array.mem_append.1 hu with h | h
     . rcases Array.mem_append.1 h with h | h
       . exact V u (by simpa using h)
       . exact hno u (by simpa using h)
     . exact hzn u (VC h (by omega))
   have T:n*i.size+news.length<=l.size:=by rw [hl,M, <- Nat.add_mul];exact Nat.mul_le_mul_right _ L
   have r:=run_append_room (P:=P) w t ty e i ht hi g' n D l B ad m c news hl hnews h1 L T;rw [C] at r;injection r with b e2
   subst b e2;obtain rfl:g' =g:=by simpa [Value.ownBlock] using hg
   refine zau (setRow_heap w g' l _ e _ B) ?_
   have J:∀ u∈l.toList,Z0 u:=by
    intro u hu x G;subst G;obtain ⟨k,F,b⟩:=List.mem_iff_getElem.1 hu;refine hown.2 g' rfl ⟨g',k,none⟩ rfl x ?_;rw [cell_of_row w g' k l e (0,0) B, <- Array.getElem?_toList,List.getElem?_eq_getElem F,b]
   intro u hu;have E:u∈l.toList.take (n*i.size) ++ news ++ l.toList.drop (n*i.size+news.length):=by simpa using hu
   rcases List.mem_append.1 E with h | h
   . rcases List.mem_append.1 h with h | h
     . exact J u (List.mem_of_mem_take h)
     . exact hno u h
   . exact J u (List.mem_of_mem_drop h)
theorem zS {w:World} {ops:Array Oper} {rest:List Oper} {o:Oper} {a:Act} {Q:Exit->Act->World->Prop} (hgd:o.guard=none) (s x:Operand) (t:TypeId)
 (ho:o.op= .call { callee:=.builtin .append,args:=#[s,x],argTypes:=#[t,t] })
 (base:Nat) (e:TypeId) (i:TypeInfo) (z:Value) (size bytes:Nat) (ht:P.underlying t=some (.slice e)) (hi:P.info? e=some i) (hz:i.zero=some z)
 (hsize:i.size=size) (hby:i.bytes=bytes) (hzs:z.cells.size=size) (hsz:0<size)
 (v:Value) (n:Nat) (xs:List Value) (hs:a.eval s=v) (hown:Zm w base e size v n xs)
 (ad:Addr) (m c:Nat) (news:List Value) (hx:a.eval x= .slice (some ad) m c) (hl:news.length=m*size) (hm:0<m) (hnews:∀ j u,news[j]?=some u->w.cell? (ad.add j)=some u) (h1:∀ u∈news,u.oneCell' =true)
 (hno:∀ u∈news,Z0 u) (hzn:∀ u∈z.cells,Z0 u) (h63:n+m<=maxLen) (hbytes:(n+m)*bytes<=140737488355328) (hbase:base<=w.heap.size)
 (h:∀ b w',Zm w' base e size b (n+m) (xs ++ news)->w.grownBy w' v.ownBlock->(b.ownBlock=v.ownBlock\/b.ownBlock=some w.heap.size)->wpList P ops Q rest (a.put o.dst b) w'):wpList P ops Q (o :: rest) a w:=
 wpList_plain hgd fun K hK=>by
  obtain ⟨b,w',l,y,r,B⟩:=Xk (P:=P) w base t o.type e i z size bytes ht hi hz hsize hby hzs hsz v n xs hown ad m c news hl hm hnews h1 hno hzn h63 hbytes hbase
  unfold Oper.wp execOp
  simp only [ho,resolve,invoke,builtin,Sem.run_bind,Sem.run_pure,Result.andThen_ok,List.map_toArray,List.map_cons,List.map_nil,hs,hx,l]
  exact hK _ _ (h b w' y r B)
end
end Go.Proofs.YthbmhkiphmcogaaGreatDoor
namespace Go.Proofs.YthbmhkiphmcogaaGreatDoor
open Proofs.Tryz Go.RowKit Go.Deep
attribute [local go_sem ↓] Go.wp_at_zero Go.wp_at_succ
theorem zgz:Tryz.prog.underlying 48=some (.map 31 55):=by kernel_rfl
theorem zhl:Tryz.prog.underlying 31=some .string:=by kernel_rfl
theorem zcq (w:World):(zeroValue 55).run Tryz.prog w= .ok (.agg #[.int .i64 0,.slice none 0 0,.bool false,.int .i64 0,.slice none 0 0,.bool false]) w:=by kernel_rfl
theorem ZG (b:Nat) (a:ByteArray) (w:World) (hB:zB w b) (ha:a.size<=1073741824):
 Calls Tryz.prog 34 #[.map (some b),.string a] w (zvg w b (bts a)):=by
 obtain ⟨D,hm,hD⟩:=hB
 have Z:=ZZ (w:=w.alloc (.cells #[.int .i64 0,.slice none 0 0,.bool false,.int .i64 0,.slice none 0 0,.bool false] 55)) zgz zhl (zcq _) (hm.keep (Below.heap_alloc _ _ _ hm.lt)) (bts a) true
 rw [show str (bts a)= .string a from by rw [zqh]] at Z
 have HM:=ze hm
 have HD:=ze hD
 have HA:=ze ha
 clear hm hD ha
 cases hg:za6 (bts a) D with
 | some v=>
   rw [hg] at Z;simp only [Option.getD_some,Option.isSome_some,if_true] at Z;obtain ⟨q,C,hv⟩:=HD.o _ (zfr hg);obtain ⟨x,A,k,c,s,y,B,k',c',t,rfl,h1,h2⟩:=hv;clear hg
   go_enter func34,ntmps34
   go_wp2_with fail;have r:=(Blk.new w 55 #[.int .i64 x,.slice A k c,.bool s,.int .i64 y,.slice B k' c',.bool t]).alloc (.cells #[.int .i64 x,.slice A k c,.bool s,.int .i64 y,.slice B k' c',.bool t] 55);have Q:=r.cell 0;have R:=r.cell 1;have O:=r.cell 2;have V:=r.cell 3;have U:=r.cell 4;have X:=r.cell 5;simp at Q R O V U X;have Y:=ext (zf w (.cells #[.int .i64 x,.slice A k c,.bool s,.int .i64 y,.slice B k' c',.bool t] 55)) (zf _ (.cells #[.int .i64 x,.slice A k c,.bool s,.int .i64 y,.slice B k' c',.bool t] 55));refine bodyPost_ret (v:=.tuple #[.agg #[.int .i64 x,.slice A k c,.bool s,.int .i64 y,.slice B k' c',.bool t],.bool true]) (by simp [results,results34,go_sem,Q,R,O,V,U,X]) rfl ?_;have hr:yc w (.agg #[.int .i64 x,.slice A k c,.bool s,.int .i64 y,.slice B k' c',.bool t]) q:=⟨_,_,_,_,_,_,_,_,_,_,rfl,h1,h2⟩;refine ⟨_,_,rfl,hr.agg,by rw [C];rfl,fun q' E =>?_,zB.below ⟨D,HM.o,HD.o⟩ Y,Chg.of_below Y⟩;rw [C] at E;injection E with E
   subst E;exact hr.below Y
 | none=>
   rw [hg] at Z;simp only [Option.getD_none,Option.isSome_none,if_true] at Z;have ao:=fun w=>Vp a w HA.o
   have r:=(Blk.new w 55 #[.int .i64 0,.slice none 0 0,.bool false,.int .i64 0,.slice none 0 0,.bool false]).alloc (.cells #[.int .i64 0,.slice none 0 0,.bool false,.int .i64 0,.slice none 0 0,.bool false] 55);have Y:=ext (zf w (.cells #[.int .i64 0,.slice none 0 0,.bool false,.int .i64 0,.slice none 0 0,.bool false] 55)) (zf _ (.cells #[.int .i64 0,.slice none 0 0,.bool false,.int .i64 0,.slice none 0 0,.bool false] 55));have au:=ze r;have HW:=ze Y;clear hg r Y
   go_enter func34,ntmps34
   go_wp2_with fail;refine (ao _).mono ?_;rintro e w1 ⟨v,ok,rfl,⟨x,A,k,c,s,y,B,k',c',t,rfl⟩,ah,C,ad⟩;have al:=au.o.below ad au.o.lt;have aa:=ext HW.o ad;have ab:ZM w1 b D:=HM.o.below aa HM.o.lt;have ag:b≠w.heap.size:=Nat.ne_of_lt HM.o.lt;have an:∀ p∈D,∃ q,zp p.1=some q/\yc w1 p.2 q:=fun p hp=>(HD.o p hp).imp fun q h=>⟨h.1,h.2.below aa⟩
   have hx:=zf w1 (.cells #[.int .i64 x,.slice A k c,.bool s,.int .i64 y,.slice B k' c',.bool t] 55);have j:=al.alloc (.cells #[.int .i64 x,.slice A k c,.bool s,.int .i64 y,.slice B k' c',.bool t] 55);have u:=Blk.new w1 55 #[.int .i64 x,.slice A k c,.bool s,.int .i64 y,.slice B k' c',.bool t];have ac:=ab.below hx ab.lt;have aC:=ab.lt;have af:=ze ah;have HQ:=ze C;have aw:=ze aa;have ap:=ze an;have HX:=ze hx
   cases ok with
   | true=>
     obtain ⟨w2,hu,ay,ae,aD⟩:=Xn zgz zhl ac (bts a) (.agg #[.int .i64 x,.slice A k c,.bool s,.int .i64 y,.slice B k' c',.bool t]);rw [zqh] at hu;have l:=j.grown ae (fun e=>ag (by injection e with e;exact e.symm));have J:=u.grown ae (fun e=>by injection e with e;omega);have ar:=ze l;have a0:=l.cell 0;have a1:=l.cell 1;have a2:=l.cell 2;have a3:=l.cell 3;have a4:=l.cell 4;have a5:=l.cell 5;have f0:=l.frozen 0;have f1:=l.frozen 1;have f2:=l.frozen 2;have f3:=l.frozen 3;have f4:=l.frozen 4;have f5:=l.frozen 5;have Q:=J.cell 0;have R:=J.cell 1;have O:=J.cell 2;have V:=J.cell 3;have U:=J.cell 4;have X:=J.cell 5;simp at a0 a1 a2 a3 a4 a5 Q R O V U X;clear ah C aa an hx ao ad al j u l J ab;go_wp2_with fail;have m:=yx (x:=x) (A:=A) (k:=k) (c:=c) (s:=s) (y:=y) (B:=B) (k' :=k') (c' :=c') (t:=t) ar.o;have I:=m.cell 0;have M:=m.cell 1;have G:=m.cell 2;have K:=m.cell 3;have L:=m.cell 4;have F:=m.cell 5;simp only [World.rat] at I M G K L F
     simp at I M G K L F;refine bodyPost_ret (v:=.tuple #[.agg #[.int .i64 x,.slice A k c,.bool s,.int .i64 y,.slice B k' c',.bool t],.bool true]) (by simp [results,results34,go_sem,I,M,G,K,L,F]) rfl ?_;obtain ⟨q,E⟩:=Option.isSome_iff_exists.1 af.o.symm;have am:=(HQ.o q E).below HX.o;have aB:∀ z,z=b->zZ _ z:=fun z hz=>by subst hz;exact ac.noDig
     have av:Chg (fun z=>z=b) _ w2:=Chg.of_grown ae rfl;have az:yc w2 _ q:=av.rat am aB;have aj:zB w2 b:=zB.put (fun p hp=>(ap.o p hp).imp fun q h=>⟨h.1,h.2.below HX.o⟩) ac E am ay ae;have hS:∀ z,z=w.heap.size->zZ w2 z:=fun z hz=>by subst hz;exact ar.o.noDig (XJ _ _ _ _ _ _ _ _ _ _)
     have N:=Chg.ratSet (w:=w2) (g:=w.heap.size) (x:=x) (A:=A) (k:=k) (c:=c) (s:=s) (y:=y) (B:=B) (k' :=k') (c' :=c') (t:=t);have ax:yc _ _ q:=N.rat az hS;have ak:Chg (fun z=>z=b) w w2:=Chg.trans (S:=fun z=>z=b) (T:=fun z=>z=b) (Chg.of_below (ext aw.o HX.o)) av (fun z _ h=>h);have ai:Chg (fun z=>z=b) w _:=Chg.trans (S:=fun z=>z=b) (T:=fun z=>z=w.heap.size) ak N (fun z hz h=>absurd hz (by omega));refine ⟨_,_,rfl,am.agg,af.o,fun q' hq'' =>?_,aj.chg N ag hS,ai⟩;rw [E] at hq'';injection hq'' with hq''
     subst hq'';exact ax
   | false=>
     have aq:=ze j;have a0:=j.cell 0;have a1:=j.cell 1;have a2:=j.cell 2;have a3:=j.cell 3;have a4:=j.cell 4;have a5:=j.cell 5;have f0:=j.frozen 0;have f1:=j.frozen 1;have f2:=j.frozen 2;have f3:=j.frozen 3;have f4:=j.frozen 4;have f5:=j.frozen 5;have Q:=u.cell 0;have R:=u.cell 1;have O:=u.cell 2;have V:=u.cell 3;have U:=u.cell 4;have X:=u.cell 5;simp at a0 a1 a2 a3 a4 a5 Q R O V U X;have aA:=ze ac;clear ah C aa an hx ao ad al j u ab ac;go_wp2_with fail;have m:=yx (x:=x) (A:=A) (k:=k) (c:=c) (s:=s) (y:=y) (B:=B) (k' :=k') (c' :=c') (t:=t) aq.o;have I:=m.cell 0;have M:=m.cell 1;have G:=m.cell 2;have K:=m.cell 3;have L:=m.cell 4;have F:=m.cell 5;simp only [World.rat] at I M G K L F;simp at I M G K L F;refine bodyPost_ret (v:=.tuple #[.agg #[.int .i64 x,.slice A k c,.bool s,.int .i64 y,.slice B k' c',.bool t],.bool false]) (by simp [results,results34,go_sem,I,M,G,K,L,F]) rfl ?_
     have aj:zB (w1.alloc (.cells #[.int .i64 x,.slice A k c,.bool s,.int .i64 y,.slice B k' c',.bool t] 55)) b:=⟨D,aA.o,fun p hp=>(ap.o p hp).imp fun q h=>⟨h.1,h.2.below HX.o⟩⟩;have hS:∀ z,z=w.heap.size->zZ (w1.alloc (.cells #[.int .i64 x,.slice A k c,.bool s,.int .i64 y,.slice B k' c',.bool t] 55)) z:=fun z hz=>by subst hz;exact aq.o.noDig (XJ _ _ _ _ _ _ _ _ _ _)
     have N:=Chg.ratSet (w:=w1.alloc (.cells #[.int .i64 x,.slice A k c,.bool s,.int .i64 y,.slice B k' c',.bool t] 55)) (g:=w.heap.size) (x:=x) (A:=A) (k:=k) (c:=c) (s:=s) (y:=y) (B:=B) (k' :=k') (c' :=c') (t:=t);have ak:Chg (fun z=>z=b) w (w1.alloc (.cells #[.int .i64 x,.slice A k c,.bool s,.int .i64 y,.slice B k' c',.bool t] 55)):=Chg.of_below (ext aw.o HX.o);have ai:=Chg.trans (S:=fun z=>z=b) (T:=fun z=>z=w.heap.size) ak N (fun z hz h=>absurd hz (by omega));refine ⟨_,_,rfl,⟨_,_,_,_,_,_,_,_,_,_,rfl⟩,af.o,fun q C=>?_,aj.chg N ag hS,ai⟩;have h:=af.o;rw [C] at h
     cases h
end Go.Proofs.YthbmhkiphmcogaaGreatDoor
namespace Go.Proofs.YthbmhkiphmcogaaGreatDoor
open Proofs.Tryz Go.RowKit
def Z1 (w:World) (b:Nat):Prop:=∀ p:Addr,p.block=b->w.cell? p=none
theorem ZM.noCells {w:World} {b:Nat} {D:List (List UInt8×Value)} (h:ZM w b D):Z1 w b:=by
 obtain ⟨j,c,hb,_⟩:=h
 intro p e
 subst e
 simp [World.cell?,hb]
theorem zB.noCells {w:World} {b:Nat} (h:zB w b):Z1 w b:=by obtain ⟨D,h,_⟩:=h;exact h.noCells
theorem zV.chg {S:Nat->Prop} {w w' :World} {B size n:Nat} {A:Option Addr} {xs:List Value} (h:zV w B size A n xs) (hc:Chg S w w') (hS:∀ b,b<B->S b->Z1 w b):zV w' B size A n xs:=
 ⟨h.1,fun hn=>by
  obtain ⟨r,e,hb,m⟩:=h.2 hn
  exact ⟨r,e,hb,fun j u hu=>hc.cell (m j u hu) (fun hs=>by
   have l:=hS _ (by rw [zz];exact hb) hs _ rfl
   rw [m j u hu] at l;cases l)⟩⟩
def yP (n:Nat) (f g:Nat->Value):List Value:=(List.range n).flatMap fun i=>[f i,g i]
theorem vJ (n:Nat) (f g:Nat->Value):yP (n+1) f g=yP n f g ++ [f n,g n]:=by
 unfold yP
 rw [List.range_succ,List.flatMap_append]
 simp
theorem zax (n:Nat) (f g:Nat->Value):(yP n f g).length=n*2:=by
 induction n with
 | zero=>rfl
 | succ n ih=>rw [vJ,List.length_append,ih];simp;omega
theorem zm8 {n:Nat} {f g:Nat->Value} {k:Nat} (hk:k<n):(yP n f g)[k*2]?=some (f k)/\(yP n f g)[k*2+1]?=some (g k):=by
 induction n with
 | zero=>omega
 | succ n ih=>
   rw [vJ];have b:=zax n f g
   rcases Nat.lt_or_ge k n with h | h
   . rw [List.getElem?_append_left (by omega),List.getElem?_append_left (by omega)];exact ih h
   . obtain rfl:k=n:=by omega
     rw [List.getElem?_append_right (by omega),List.getElem?_append_right (by omega),b,show k*2 - k*2=0 by omega,show k*2+1 - k*2=1 by omega];exact ⟨rfl,rfl⟩
theorem YS {n:Nat} {f g f' g' :Nat->Value} (h:∀ k,k<n->f k=f' k/\g k=g' k):yP n f g=yP n f' g' :=by
 induction n with
 | zero=>rfl
 | succ n ih=>rw [vJ,vJ,ih (fun k hk=>h k (by omega)),(h n (by omega)).1,(h n (by omega)).2]
theorem zo3 (ad:Addr) (i:Nat):(⟨(ad.add i).block,(ad.add i).off+1,none⟩:Addr)=ad.add (i+1):=by
 unfold Addr.add
 by_cases h:i=0
 . subst h;simp
 rw [if_neg h,if_neg (by omega)];simp [Nat.add_assoc]
theorem zV.at2 {w:World} {B n:Nat} {A:Option Addr} {f g:Nat->Value} (h:zV w B 2 A n (yP n f g)) {k:Nat} (hk:k<n):
 ∃ b,A=some b/\b.block<B/\w.cell? (b.add (k*2))=some (f k)/\w.cell? ⟨(b.add (k*2)).block,(b.add (k*2)).off+1,none⟩=some (g k):=by
 obtain ⟨b,e,hb,l⟩:=h.2 (by omega)
 have j:=zm8 (f:=f) (g:=g) hk
 exact ⟨b,e,hb,l _ _ j.1,by rw [zo3];exact l _ _ j.2⟩
def zN (l:List UInt8):Prop:=l.length<=1073741824
def Zb (l:List zR) (i:Nat):Value:=str (l.getD i default).name
def Zg (l:List zR) (i:Nat):Value:=str (l.getD i default).coef
def zk (w:World) (B:Nat) (v:Value) (l:List zR):Prop:=
 ∃ A c,v= .slice A l.length c/\l.length<=c/\c<=maxLen/\l.length<=100000/\zV w B 2 A l.length (yP l.length (Zb l) (Zg l))/\∀ x∈l,zN x.name/\zN x.coef
def vM (l:List zQ) (i:Nat):Value:=str (l.getD i default).bound
def zT (w:World) (B:Nat) (v:Value) (l:List zQ):Prop:=
 ∃ A c H,v= .slice A l.length c/\l.length<=c/\c<=maxLen/\l.length<=100000/\zV w B 2 A l.length (yP l.length H (vM l))/\(∀ i,i<l.length->zk w B (H i) (l.getD i default).terms)/\∀ x∈l,zN x.bound
abbrev vr (w:World) (v:Value) (l:List zR):Prop:=zk w w.heap.size v l
abbrev yN (w:World) (v:Value) (l:List zQ):Prop:=zT w w.heap.size v l
section
variable {S:Nat->Prop} {w w' :World} {B B' :Nat} {v:Value}
theorem zk.chg {l:List zR} (h:zk w B v l) (hc:Chg S w w') (hS:∀ b,b<B->S b->Z1 w b):zk w' B v l:=by
 obtain ⟨A,c,r,m,e,u,y,j⟩:=h
 exact ⟨A,c,r,m,e,u,y.chg hc hS,j⟩
theorem zk.more {l:List zR} (h:zk w B v l) (hB:B<=B'):zk w B' v l:=by
 obtain ⟨A,c,m,j,b,r,u,e⟩:=h
 exact ⟨A,c,m,j,b,r,u.more hB,e⟩
theorem zT.chg {l:List zQ} (h:zT w B v l) (hc:Chg S w w') (hS:∀ b,b<B->S b->Z1 w b):zT w' B v l:=by
 obtain ⟨A,c,H,u,r,e,y,z,j,m⟩:=h
 exact ⟨A,c,H,u,r,e,y,z.chg hc hS,fun i hi=>(j i hi).chg hc hS,m⟩
theorem zT.more {l:List zQ} (h:zT w B v l) (hB:B<=B'):zT w B' v l:=by
 obtain ⟨A,c,H,r,m,b,u,y,e,j⟩:=h
 exact ⟨A,c,H,r,m,b,u,y.more hB,fun i hi=>(e i hi).more hB,j⟩
theorem zk.below {l:List zR} (h:zk w B v l) (hb:Below w.heap.size w w'):zk w' B v l:=h.chg (S:=fun _=>False) (Chg.of_below hb) (fun _ _ h=>h.elim)
theorem zT.below {l:List zQ} (h:zT w B v l) (hb:Below w.heap.size w w'):zT w' B v l:=h.chg (S:=fun _=>False) (Chg.of_below hb) (fun _ _ h=>h.elim)
end
theorem zk.len {w:World} {B:Nat} {A:Option Addr} {n c:Nat} {l:List zR} (h:zk w B (.slice A n c) l):n=l.length:=by obtain ⟨_,_,e,_⟩:=h;injection e
theorem zk.bound {w:World} {B:Nat} {v:Value} {l:List zR} (h:zk w B v l):l.length<=100000:=by obtain ⟨_,_,_,_,_,h,_⟩:=h;exact h
theorem zk.at_ {w:World} {B:Nat} {A:Option Addr} {n c:Nat} {l:List zR} (h:zk w B (.slice A n c) l) {k:Nat} (hk:k<l.length):
 ∃ b,A=some b/\b.block<B/\w.cell? (b.add (k*2))=some (str l[k].name)/\w.cell? ⟨(b.add (k*2)).block,(b.add (k*2)).off+1,none⟩=some (str l[k].coef)/\zN l[k].name/\zN l[k].coef:=by
 obtain ⟨A',c',e,_,_,_,u,r⟩:=h
 injection e with e1 e2 e3
 subst e1
 obtain ⟨b,e,hb,j,c1⟩:=u.at2 hk
 have m:=r _ (List.getElem_mem hk)
 have hd:l.getD k default=l[k]:=by simp [List.getD,List.getElem?_eq_getElem hk]
 simp only [Zb,Zg,hd] at j c1
 exact ⟨b,e,hb,j,c1,m.1,m.2⟩
theorem zT.len {w:World} {B:Nat} {A:Option Addr} {n c:Nat} {l:List zQ} (h:zT w B (.slice A n c) l):n=l.length:=by obtain ⟨_,_,_,e,_⟩:=h;injection e
theorem zT.at_ {w:World} {B:Nat} {A:Option Addr} {n c:Nat} {l:List zQ} (h:zT w B (.slice A n c) l) {k:Nat} (hk:k<l.length):
 ∃ b m nt j,A=some b/\b.block<B/\w.cell? (b.add (k*2))=some (.slice m nt j)/\w.cell? ⟨(b.add (k*2)).block,(b.add (k*2)).off+1,none⟩=some (str l[k].bound)/\zk w B (.slice m nt j) l[k].terms/\zN l[k].bound:=by
 obtain ⟨A',c',H,e,_,_,_,E,z,C⟩:=h
 injection e with e1 e2 e3
 subst e1
 obtain ⟨b,e,hb,u,c1⟩:=E.at2 hk
 have D:=C _ (List.getElem_mem hk)
 have hd:l.getD k default=l[k]:=by simp [List.getD,List.getElem?_eq_getElem hk]
 have r:=z k hk
 rw [hd] at r
 simp only [vM,hd] at c1
 obtain ⟨m,j,y,_⟩:=id r
 rw [y] at u r
 exact ⟨b,m,_,j,e,hb,u,c1,r,D⟩
theorem zB.keepR {w w' :World} {b:Nat} {v:Value} {q:Rat} (h:zB w b) (hc:Chg (· =b) w w') (hv:yc w v q):yc w' v q:=hc.rat hv (fun _ e=>by subst e;exact h.noDig)
theorem zB.keepN {w w' :World} {b:Nat} {v:Value} {q:Int} (h:zB w b) (hc:Chg (· =b) w w') (hv:yb w v q):yb w' v q:=hc.num hv (fun _ e=>by subst e;exact h.noDig)
theorem zB.keepT {w w' :World} {b B:Nat} {v:Value} {l:List zR} (h:zB w b) (hc:Chg (· =b) w w') (hv:zk w B v l):zk w' B v l:=hv.chg hc (fun _ _ e=>by subst e;exact h.noCells)
theorem zB.keepRows {w w' :World} {b B:Nat} {v:Value} {l:List zQ} (h:zB w b) (hc:Chg (· =b) w w') (hv:zT w B v l):zT w' B v l:=hv.chg hc (fun _ _ e=>by subst e;exact h.noCells)
theorem zB.keepBlk {w w' :World} {b g:Nat} {t:TypeId} {cs:Array Value} (h:zB w b) (hc:Chg (· =b) w w') (hk:Blk w g t cs):Blk w' g t cs:=hc.blk hk (fun e=>by
 subst e
 obtain ⟨D,⟨j,c,hb,_⟩,_⟩:=h
 unfold Blk at hk
 rw [hb] at hk;cases hk)
end Go.Proofs.YthbmhkiphmcogaaGreatDoor
namespace Go.Proofs.YthbmhkiphmcogaaGreatDoor
open Proofs.Tryz Go.RowKit Go.Deep
attribute [local go_sem ↓] Go.wp_at_zero Go.wp_at_succ
def zlt (L g:Nat):Value:=.slice (some ⟨g,0,none⟩) L L
theorem zny (L g:Nat):Z0 (zlt L g):=zM _ _ _
structure Zv (base:Nat) (w:World) (mv:Value) (L m:Nat) (g:Nat->Nat) (A:Nat->Nat->Int):Prop where
 own:Zm w base 119 1 mv m ((List.range m).map fun i=>zlt L (g i))
 inj:∀ i j,i<m->j<m->g i=g j->i=j
 rows:∀ i,i<m->base<=g i/\ve w (g i) L L (A i)
theorem ziy {w:World} {base m size L n:Nat} {v:Value} {xs:List Value} {f:Nat->Int} {g:Nat} (h:Zm w base 119 size v m xs) (hr:ve w g L n f):v.ownBlock≠some g:=by
 intro e
 rcases h.1.2 with ⟨rfl,_⟩ | ⟨g',l,j,rfl,_,b,_⟩
 . cases e
 . obtain rfl:g' =g:=by simpa [Value.ownBlock] using e
   obtain ⟨⟨cs,hb,_⟩,_⟩:=hr;unfold Blk at hb;rw [b] at hb;injection hb with hb
   injection hb with _ h2 _
   exact absurd h2 (by decide)
section
variable {S:Nat->Prop} {w w' :World} {base L m:Nat} {mv:Value} {g:Nat->Nat} {A:Nat->Nat->Int}
theorem Zv.chg (h:Zv base w mv L m g A) (hc:Chg S w w') (h1:∀ i,i<m->¬ S (g i)) (h2:∀ b,mv.ownBlock=some b->¬ S b) (hS:∀ b,S b->zZ w b):Zv base w' mv L m g A:=
 ⟨h.own.chg hc h2,h.inj,fun i hi=>⟨(h.rows i hi).1,(h.rows i hi).2.chg hc (h1 i hi) hS⟩⟩
theorem Zv.below (h:Zv base w mv L m g A) (hb:Below w.heap.size w w'):Zv base w' mv L m g A:=
 h.chg (S:=fun _=>False) (Chg.of_below hb) (fun _ _ h=>h) (fun _ _ h=>h) (fun _ h=>h.elim)
theorem Zv.nil (base:Nat) (w:World) (L:Nat) (g:Nat->Nat) (A:Nat->Nat->Int):Zv base w (.slice none 0 0) L 0 g A:=
 ⟨Zz _ _ _ _,fun i j hi=>by omega,fun i hi=>by omega⟩
end
section
variable {w w' :World} {base L m gm cap:Nat} {g:Nat->Nat} {A:Nat->Nat->Int}
theorem Zv.cell (h:Zv base w (.slice (some ⟨gm,0,none⟩) m cap) L m g A) {i:Nat} (hi:i<m):w.cell? ⟨gm,i,none⟩=some (.slice (some ⟨g i,0,none⟩) L L):=by
 rw [h.own.1.cellAt i (by omega)]
 simp [hi,zlt]
theorem Zv.frozen (h:Zv base w (.slice (some ⟨gm,0,none⟩) m cap) L m g A) (i:Nat):w.frozen? ⟨gm,i,none⟩=false:=h.own.1.frozenAt i
theorem Zv.lt (h:Zv base w (.slice (some ⟨gm,0,none⟩) m cap) L m g A):base<=gm/\gm<w.heap.size:=h.own.1.lt gm rfl
theorem Zv.ne (h:Zv base w (.slice (some ⟨gm,0,none⟩) m cap) L m g A) {i:Nat} (hi:i<m):gm≠g i:=fun e=>ziy h.own (h.rows i hi).2 (by rw [<- e];rfl)
theorem Zv.set {i k:Nat} {q:Int} {A' :Nat->Nat->Int} {x:Int} {ng:Bool} {X:Option Addr} {n1 c:Nat} (h:Zv base w (.slice (some ⟨gm,0,none⟩) m cap) L m g A) (hi:i<m) (u:k<L)
 (hv:yb w (.agg #[.int .i64 x,.slice X n1 c,.bool ng]) q) (hA:∀ i' k',A' i' k' =if i' =i/\k' =k then q else A i' k'):
 Zv base (World.numAt w (g i) k x X n1 c ng) (.slice (some ⟨gm,0,none⟩) m cap) L m g A' :=by
 have r:=Zu (w:=w) (g:=g i) (k:=k) (x:=x) (ng:=ng) (A:=X) (n:=n1) (c:=c)
 have hS:∀ b,b=g i->zZ w b:=fun b e=>by subst e;exact (h.rows i hi).2.noDig
 refine ⟨h.own.chg r (fun b hb e=>?_),h.inj,fun j hj=>⟨(h.rows j hj).1,?_⟩⟩
 . have:gm=b:=by simpa [Value.ownBlock] using hb
   exact h.ne hi (this.trans e)
 by_cases l:j=i
 rotate_left
 . have e:A' j=A j:=by funext k';rw [hA,if_neg (fun h=>l h.1)]
   rw [e];exact (h.rows j hj).2.chg r (fun e=>l (h.inj j i hj hi e)) hS
 subst l
 refine (h.rows j hj).2.set u hv fun k' hk' =>?_
 rw [hA]
 by_cases e:k' =k
 . exact .inl ⟨e,by rw [if_pos ⟨rfl,e⟩]⟩
 exact .inr ⟨e,hk',by rw [if_neg (fun h=>e h.2)]⟩
end
def zvs (w:World) (v:Value) (n:Nat) (f:Nat->Int):Prop:=
 ∃ A cap,v= .slice A n cap/\n<=cap/\cap<=maxLen/\(0<n->∃ g,A=some ⟨g,0,none⟩/\g<w.heap.size/\∀ k,k<n->zem w g k (f k))
def Z8 (w:World) (base:Nat) (v:Value) (n:Nat) (f:Nat->Int):Prop:=
 ∃ xs,Zm w base 53 3 v n xs/\∀ k,k<n->∃ (x:Int) (A:Option Addr) (a c:Nat) (ng:Bool),xs[k*3]?=some (.int .i64 x)/\xs[k*3+1]?=some (.slice A a c)/\xs[k*3+2]?=some (.bool ng)/\
  yb w (.agg #[.int .i64 x,.slice A a c,.bool ng]) (f k)
section
variable {S:Nat->Prop} {w w' :World} {base n:Nat} {v:Value} {f:Nat->Int}
theorem Z8.chg (h:Z8 w base v n f) (hc:Chg S w w') (h2:∀ b,v.ownBlock=some b->¬ S b) (hS:∀ b,S b->zZ w b):Z8 w' base v n f:=by
 obtain ⟨xs,r,e⟩:=h
 refine ⟨xs,r.chg hc h2,fun k hk=>?_⟩
 obtain ⟨x,A,a,c,ng,j,m,l,u⟩:=e k hk
 exact ⟨x,A,a,c,ng,j,m,l,hc.num u hS⟩
theorem Z8.nil (w:World) (base:Nat) (f:Nat->Int):Z8 w base (.slice none 0 0) 0 f:=⟨[],Zz _ _ _ _,fun k hk=>by omega⟩
theorem Z8.nums (h:Z8 w base v n f):zvs w v n f:=by
 obtain ⟨xs,b,j⟩:=h
 rcases b.1.2 with ⟨rfl,e⟩ | ⟨g,cap,B,rfl,hb,C,l,r,D,E⟩
 . subst e
   exact ⟨none,0,rfl,Nat.le_refl _,by unfold maxLen;omega,fun h=>by omega⟩
 . refine ⟨_,cap,rfl,l,r,fun e=>⟨g,rfl,(b.1.lt g rfl).2,fun k hk=>?_⟩⟩
   obtain ⟨x,A,a,c,ng,m,y,u,z⟩:=j k hk;refine ⟨x,A,a,c,ng,?_,?_,?_,z⟩
   . rw [b.1.cellAt _ (by omega)];exact m
   . rw [b.1.cellAt _ (by omega)];exact y
   . rw [b.1.cellAt _ (by omega)];exact u
theorem Z8.push {w3:World} {v3:Value} {xs:List Value} {q:Int} {f' :Nat->Int} {x:Int} {ng:Bool} {A:Option Addr} {a c:Nat} (h1:Zm w base 53 3 v n xs)
 (h3:∀ k,k<n->∃ (x:Int) (A:Option Addr) (a c:Nat) (ng:Bool),xs[k*3]?=some (.int .i64 x)/\xs[k*3+1]?=some (.slice A a c)/\xs[k*3+2]?=some (.bool ng)/\yb w (.agg #[.int .i64 x,.slice A a c,.bool ng]) (f k))
 (hown:Zm w3 base 53 3 v3 (n+1) (xs ++ [.int .i64 x,.slice A a c,.bool ng])) (hg:w.grownBy w3 v.ownBlock) (hv:yb w (.agg #[.int .i64 x,.slice A a c,.bool ng]) q)
 (hf:∀ k,k<n->f' k=f k) (hq:f' n=q):Z8 w3 base v3 (n+1) f' :=by
 have j:xs.length=n*3:=h1.1.1
 have l:Chg (fun b=>v.ownBlock=some b) w w3:=⟨hg.os,hg.tape,hg.output,hg.size,fun k hk hS=>hg.block k hk (fun e=>hS e.symm)⟩
 have hS:∀ b,v.ownBlock=some b->zZ w b:=h1.2
 refine ⟨_,hown,fun k hk=>?_⟩
 rcases Nat.lt_or_ge k n with h | h
 . obtain ⟨u,A',a',c',m,r,y,z,B⟩:=h3 k h
   refine ⟨u,A',a',c',m,?_,?_,?_,?_⟩
   . rw [List.getElem?_append_left (by omega)];exact r
   . rw [List.getElem?_append_left (by omega)];exact y
   . rw [List.getElem?_append_left (by omega)];exact z
   . rw [hf k h];exact l.num B hS
 . obtain rfl:k=n:=by omega
   refine ⟨x,A,a,c,ng,?_,?_,?_,?_⟩
   . rw [List.getElem?_append_right (by omega),j,show k*3 - k*3=0 by omega];rfl
   . rw [List.getElem?_append_right (by omega),j,show k*3+1 - k*3=1 by omega];rfl
   . rw [List.getElem?_append_right (by omega),j,show k*3+2 - k*3=2 by omega];rfl
   . rw [hq];exact l.num hv hS
end
theorem Zv.push {w w3:World} {base L m:Nat} {mv v3:Value} {g:Nat->Nat} {T:Nat->Nat->Int} {gl:Nat} {f:Nat->Int} (h:Zv base w mv L m g T) (hr:ve w gl L L f) (hb:base<=gl) (hne:∀ j,j<m->g j≠gl)
 (hown:Zm w3 base 119 1 v3 (m+1) (((List.range m).map fun i=>zlt L (g i)) ++ [zlt L gl])) (hg:w.grownBy w3 mv.ownBlock) (hT:∀ j,j<L->T m j=f j):
 Zv base w3 v3 L (m+1) (fun i=>if i=m then gl else g i) T:=by
 have u:Chg (fun b=>mv.ownBlock=some b) w w3:=⟨hg.os,hg.tape,hg.output,hg.size,fun k hk hS=>hg.block k hk (fun e=>hS e.symm)⟩
 have hS:∀ b,mv.ownBlock=some b->zZ w b:=h.own.2
 refine ⟨?_,fun i j hi hj e=>?_,fun i hi=>?_⟩
 . have e:(List.range (m+1)).map (fun i=>zlt L (if i=m then gl else g i))=((List.range m).map fun i=>zlt L (g i)) ++ [zlt L gl]:=by
    rw [List.range_succ,List.map_append]
    congr 1
    rotate_left
    . simp
    apply List.map_congr_left
    intro i hi;rw [if_neg (by have:=List.mem_range.1 hi;omega)]
   rw [e];exact hown
 . by_cases l:i=m
   . by_cases r:j=m
     . omega
     rw [if_pos l,if_neg r] at e;exact absurd e.symm (hne j (by omega))
   by_cases r:j=m
   . rw [if_neg l,if_pos r] at e;exact absurd e (hne i (by omega))
   rw [if_neg l,if_neg r] at e;exact h.inj i j (by omega) (by omega) e
 . by_cases l:i=m
   . rw [if_pos l]
     refine ⟨hb,(hr.fewer fun k hk=>⟨hk,?_⟩).chg u (ziy h.own hr) hS⟩;rw [l];exact hT k hk
   rw [if_neg l]
   exact ⟨(h.rows i (by omega)).1,(h.rows i (by omega)).2.chg u (ziy h.own (h.rows i (by omega)).2) hS⟩
def yH (n:Nat):Array Value:=madeCells #[.int .i64 0,.slice none 0 0,.bool false] (n*3)
theorem zej (n:Nat):(yH n).size=n*3:=by simp [yH,madeCells]
theorem X5 (n k j:Nat) (hk:k<n) (hj:j<3):(yH n)[k*3+j]?=some ((#[.int .i64 0,.slice none 0 0,.bool false]:Array Value)[j]!):=by
 unfold yH madeCells
 rw [Array.getElem?_map,Array.getElem?_range,if_pos (by omega)]
 simp only [Option.map_some]
 congr 2
 show (k*3+j) % 3=j
 omega
theorem zbs (n:Nat):Ze (yH n):=by
 intro i x h
 have l:=Array.mem_of_getElem? h
 unfold yH madeCells at l
 rw [Array.mem_map] at l
 obtain ⟨j,_,e⟩:=l
 have m:j % 3<3:=Nat.mod_lt _ (by omega)
 have b:(#[Value.int .i64 0,Value.slice none 0 0,Value.bool false]:Array Value)[j % 3]! ∈(#[Value.int .i64 0,Value.slice none 0 0,Value.bool false]:Array Value):=by
  rw [getElem!_pos (#[Value.int .i64 0,Value.slice none 0 0,Value.bool false]:Array Value) (j % 3) m]
  exact Array.getElem_mem _
 simp at b
 simp at e
 rcases b with b | b | b
 . rw [b] at e;cases e
 . rw [b] at e;cases e
 . rw [b] at e;cases e
theorem zks:(Tryz.prog.info? 53).map (fun i=>(i.zero,i.size,i.bytes))=some (some (.agg #[.int .i64 0,.slice none 0 0,.bool false]),3,40):=by kernel_rfl
theorem Tryz.underlying119:Tryz.prog.underlying 119=some (.slice 53):=by kernel_rfl
theorem zcu (k:IntKind) (n:Nat) (hn:n<=1000) (w:World):
 (Instr.makeSlice 119 (.int k (n:Int)) (.int k (n:Int))).run Tryz.prog w= .ok (.slice (some ⟨w.heap.size,0,none⟩) n n) (w.alloc (.cells (yH n) 53)):=by
 obtain ⟨i,hi,b⟩:=Option.map_eq_some_iff.1 zks
 simp only [Prod.mk.injEq] at b
 obtain ⟨e,j,hb⟩:=b
 rw [run_make (P:=Tryz.prog) w 119 53 i _ underlying119 hi e k k n n (by omega) (by omega) (by rw [hb];omega) (by omega)]
 rw [j]
 rfl
theorem zlk (w:World) (ng:Bool):yb w (.agg #[.int .i64 0,.slice none 0 0,.bool ng]) 0:=.inl ⟨0,ng,rfl,by omega,by omega,rfl⟩
theorem zf7 (w:World) (L:Nat):ve (w.alloc (.cells (yH L) 53)) w.heap.size L L (fun _=>0):=by
 have hb:=Blk.new w 53 (yH L)
 refine ⟨⟨_,hb,zej L,zbs L⟩,fun k hk=>⟨0,none,0,0,false,?_,?_,?_,zlk _ _⟩⟩
 . rw [hb.cell];exact X5 L k 0 hk (by omega)
 . rw [hb.cell];exact X5 L k 1 hk (by omega)
 . rw [hb.cell];exact X5 L k 2 hk (by omega)
end Go.Proofs.YthbmhkiphmcogaaGreatDoor
namespace Go.Proofs.YthbmhkiphmcogaaGreatDoor
open Proofs.Tryz Go.RowKit Go.Deep
theorem Zv.congr {base:Nat} {w:World} {mv:Value} {L m:Nat} {g:Nat->Nat} {A A' :Nat->Nat->Int} (h:Zv base w mv L m g A) (hA:∀ i k,i<m->k<L->A' i k=A i k):Zv base w mv L m g A' :=
 ⟨h.own,h.inj,fun i hi=>⟨(h.rows i hi).1,(h.rows i hi).2.fewer fun k hk=>⟨hk,hA i k hi hk⟩⟩⟩
theorem Zv.at_ {base:Nat} {w:World} {mv:Value} {L m:Nat} {g:Nat->Nat} {A:Nat->Nat->Int} (h:Zv base w mv L m g A) {i k:Nat} (hi:i<m) (hk:k<L):zem w (g i) k (A i k):=(h.rows i hi).2.2 k hk
def Yo (w:World) (gb:Nat) (z:Int):Prop:=
 ∃ (x:Int) (A:Option Addr) (n c:Nat) (ng:Bool),Blk w gb 53 #[.int .i64 x,.slice A n c,.bool ng]/\yb w (.agg #[.int .i64 x,.slice A n c,.bool ng]) z
theorem Yo.chg {S:Nat->Prop} {w w' :World} {gb:Nat} {z:Int} (h:Yo w gb z) (hc:Chg S w w') (hg:¬ S gb) (hS:∀ b,S b->zZ w b):Yo w' gb z:=by
 obtain ⟨x,A,n,c,ng,e,j⟩:=h
 exact ⟨x,A,n,c,ng,hc.blk e hg,hc.num j hS⟩
theorem Yo.below {w w' :World} {gb:Nat} {z:Int} (h:Yo w gb z) (hb:Below w.heap.size w w'):Yo w' gb z:=h.chg (S:=fun _=>False) (Chg.of_below hb) (fun h=>h) (fun _ h=>h.elim)
theorem Yo.lt {w:World} {gb:Nat} {z:Int} (h:Yo w gb z):gb<w.heap.size:=by obtain ⟨x,A,n,c,ng,b,e⟩:=h;exact b.lt
structure ya where
 gt:Nat
 bk:Option Nat
 rA:Option Addr
 rc:Nat
 nA:Option Addr
 nn:Nat
 nc:Nat
 gm:Nat
 cm:Nat
 g:Nat->Nat
 bv:Value
 ov:Value
def ya.rows (F:ya) (m b:Nat):Prop:=∃ i,i<=m/\b=F.g i
def ya.S (F:ya) (m b:Nat):Prop:=b=F.gt\/F.rows m b\/F.bv.ownBlock=some b\/F.ov.ownBlock=some b
def ya.cells (F:ya) (m:Nat) (x:Int) (A:Option Addr) (n c:Nat) (ng:Bool):Array Value:=
 #[.map F.bk,.slice F.rA m F.rc,.slice F.nA F.nn F.nc,.slice (some ⟨F.gm,0,none⟩) (m+1) F.cm,.int .i64 x,.slice A n c,.bool ng,F.bv,F.ov]
def xd (m:Nat) (f:Nat->Nat):List Value:=(List.range m).map fun i=>.int .i64 (f i:Nat)
theorem Zi {m:Nat} {f:Nat->Nat} {i:Nat} (hi:i<m):(xd m f)[i]?=some (.int .i64 (f i:Nat)):=by simp [xd,hi]
theorem YB (m:Nat) (f:Nat->Nat):(xd m f).length=m:=by simp [xd]
theorem zb6 (m:Nat) (f:Nat->Nat) (r x:Nat):(xd m f).set r (.int .i64 (x:Nat))=xd m (fun i=>if i=r then x else f i):=by
 apply List.ext_getElem?
 intro j
 rw [List.getElem?_set]
 rcases Nat.lt_or_ge j m with b | b
 . by_cases h:r=j
   . subst h;rw [if_pos rfl,YB,if_pos b,Zi b,if_pos rfl]
   rw [if_neg h,Zi b,Zi b,if_neg (fun e=>h e.symm)]
 . have l:∀ g,(xd m g)[j]?=none:=fun g=>List.getElem?_eq_none (by rw [YB];exact b)
   rw [l,l,YB]
   by_cases h:r=j
   . rw [if_pos h,if_neg (by omega)]
   rw [if_neg h]
structure yi (base m L:Nat) (F:ya) (w:World) (T:yE):Prop where
 blk:∃ x A n c ng,Blk w F.gt 128 (F.cells m x A n c ng)/\yb w (.agg #[.int .i64 x,.slice A n c,.bool ng]) T.den
 mat:Zv base w (.slice (some ⟨F.gm,0,none⟩) (m+1) F.cm) L (m+1) F.g T.cell
 bas:Zm w base 3 1 F.bv m (xd m T.basic)
 oth:Zm w base 3 1 F.ov (L - 1) (xd (L - 1) T.other)
 ne:∀ b,F.bv.ownBlock=some b->F.ov.ownBlock≠some b
 lo:base<=F.gt
 cols:L=2*F.nn+2
theorem yX {w:World} {b g:Nat} {t t' :TypeId} {cs cs' :Array Value} {fr:Nat×Nat} (h:Blk w b t cs) (k:w.heap[g]?=some (.cells cs' t' fr)) (ht:t≠t'):b≠g:=by
 intro e
 subst e
 unfold Blk at h
 rw [h] at k
 injection k with k
 injection k with _ k2 _
 exact ht k2
theorem ve.heap {w:World} {g L n:Nat} {f:Nat->Int} (h:ve w g L n f):∃ cs,Blk w g 53 cs:=by obtain ⟨⟨cs,h,_⟩,_⟩:=h;exact ⟨cs,h⟩
theorem Zm.heap {w:World} {base size n:Nat} {e:TypeId} {v:Value} {xs:List Value} {b:Nat} (h:Zm w base e size v n xs) (hb:v.ownBlock=some b):∃ cs,w.heap[b]?=some (.cells cs e (0,0)):=by
 rcases h.1.2 with ⟨rfl,_⟩ | ⟨g',cap,j,rfl,_,l,_⟩
 . cases hb
 . obtain rfl:g' =b:=by simpa [Value.ownBlock] using hb
   exact ⟨j,l⟩
structure Pv (w0:World) (base m L:Nat) (F:ya) (cs:Array Value) (A:Nat->Nat->Int) (w:World):Prop where
 mat:Zv base w (.slice (some ⟨F.gm,0,none⟩) (m+1) F.cm) L (m+1) F.g A
 tab:Blk w F.gt 128 cs
 chg:Chg (F.rows m) w0 w
 old:∀ i,i<=m->F.g i<w0.heap.size/\∃ cs,Blk w0 (F.g i) 53 cs
 oldt:F.gt<w0.heap.size
 oldm:F.gm<w0.heap.size
 lo:base<=w0.heap.size
section
variable {w0 w w' :World} {base m L:Nat} {F:ya} {cs:Array Value} {A A' :Nat->Nat->Int}
theorem Pv.below (h:Pv w0 base m L F cs A w) (hb:Below w.heap.size w w'):Pv w0 base m L F cs A w' :=
 ⟨h.mat.below hb,h.tab.below hb h.tab.lt,h.chg.trans (Chg.of_below (S:=F.rows m) hb) (fun _ _ h=>h),h.old,h.oldt,h.oldm,h.lo⟩
theorem Pv.congr (h:Pv w0 base m L F cs A w) (hA:∀ i k,i<=m->k<L->A' i k=A i k):Pv w0 base m L F cs A' w:=
 ⟨h.mat.congr fun i k hi hk=>hA i k (by omega) hk,h.tab,h.chg,h.old,h.oldt,h.oldm,h.lo⟩
theorem Pv.ge (h:Pv w0 base m L F cs A w):w0.heap.size<=w.heap.size:=h.chg.size
theorem Pv.box {gx:Nat} (h:Pv w0 base m L F cs A w) (hc:Chg (· =gx) w w') (hx:w0.heap.size<=gx) (hS:zZ w gx):Pv w0 base m L F cs A w' :=by
 have j:∀ i,i<=m->F.g i≠gx:=fun i hi e=>by have:=(h.old i hi).1;omega
 have r:=h.oldm
 have l:=h.oldt
 refine ⟨h.mat.chg hc (fun i hi=>j i (by omega)) (fun b hb e=>?_) (fun b e=>by subst e;exact hS),hc.blk h.tab (by omega),h.chg.trans hc (fun b hb e=>by omega),h.old,h.oldt,h.oldm,h.lo⟩
 have:F.gm=b:=by simpa [Value.ownBlock] using hb
 omega
theorem Pv.ntab (h:Pv w0 base m L F cs A w) {i:Nat} (hi:i<=m):F.gt≠F.g i:=by
 obtain ⟨b,hb⟩:=(h.mat.rows i (by omega)).2.heap
 exact yX h.tab hb (by decide)
theorem Pv.set {i k:Nat} {q x:Int} {ng:Bool} {X:Option Addr} {n1 c:Nat} (h:Pv w0 base m L F cs A w) (hi:i<=m) (hk:k<L) (hv:yb w (.agg #[.int .i64 x,.slice X n1 c,.bool ng]) q)
 (hA:∀ i' k',i' <=m->k' <L->A' i' k' =if i' =i/\k' =k then q else A i' k'):Pv w0 base m L F cs A' (World.numAt w (F.g i) k x X n1 c ng):=by
 have j:=Zu (w:=w) (g:=F.g i) (k:=k) (x:=x) (ng:=ng) (A:=X) (n:=n1) (c:=c)
 refine ⟨((h.mat.set (A' :=fun i' k' =>if i' =i/\k' =k then q else A i' k') (by omega) hk hv (fun _ _=>rfl))).congr fun i' k' hi' hk' =>hA i' k' (by omega) hk',j.blk h.tab (h.ntab hi),
  h.chg.trans j (fun b hb e=>⟨i,hi,e⟩),h.old,h.oldt,h.oldm,h.lo⟩
theorem Pv.noDig (h:Pv w0 base m L F cs A w) {i:Nat} (hi:i<=m):zZ w (F.g i):=(h.mat.rows i (by omega)).2.noDig
theorem Pv.keepBox {i k gx:Nat} {z x:Int} {ng:Bool} {X:Option Addr} {n1 c:Nat} (h:Pv w0 base m L F cs A w) (hi:i<=m) (hb:Yo w gx z) (hx:w0.heap.size<=gx):Yo (World.numAt w (F.g i) k x X n1 c ng) gx z:=
 hb.chg Zu (fun e=>by have:=(h.old i hi).1;omega) (fun b e=>by subst e;exact h.noDig hi)
theorem Pv.own (h:Pv w0 base m L F cs A w) {v:Value} {n:Nat} {xs:List Value} (ho:Zm w0 base 3 1 v n xs):Zm w base 3 1 v n xs:=ho.chg h.chg (fun b hb hs=>by
 obtain ⟨i,hi,rfl⟩:=hs
 obtain ⟨r,e⟩:=(h.old i hi).2
 obtain ⟨l,j⟩:=ho.heap hb
 exact yX e j (by decide) rfl)
theorem Pv.anew {S:Nat->Prop} {cs' :Array Value} (h:Pv w0 base m L F cs A w) (hc:Chg S w w') (h1:∀ b,S b->∀ i,i<=m->b≠F.g i) (h2:¬ S F.gm) (hS:∀ b,S b->zZ w b) (ht:Blk w' F.gt 128 cs'):Pv w' base m L F cs' A w' :=by
 have e:Zv base w' (.slice (some ⟨F.gm,0,none⟩) (m+1) F.cm) L (m+1) F.g A:=h.mat.chg hc (fun i hi hs=>h1 _ hs i (by omega) rfl) (fun b hb hs=>h2 (by
  have:F.gm=b:=by simpa [Value.ownBlock] using hb
  rw [this];exact hs)) hS
 exact ⟨e,ht,Chg.refl w',fun i hi=>⟨(e.rows i (by omega)).2.lt,(e.rows i (by omega)).2.heap⟩,ht.lt,e.lt.2,Nat.le_trans h.lo (Nat.le_trans h.ge hc.size)⟩
theorem yi.of_pv {T:yE} {x:Int} {X:Option Addr} {n c:Nat} {ng:Bool} (h:Pv w0 base m L F (F.cells m x X n c ng) A w) (hd:yb w (.agg #[.int .i64 x,.slice X n c,.bool ng]) T.den) (hA:∀ i k,i<=m->k<L->T.cell i k=A i k)
 (hb:Zm w base 3 1 F.bv m (xd m T.basic)) (ho:Zm w base 3 1 F.ov (L - 1) (xd (L - 1) T.other)) (hne:∀ b,F.bv.ownBlock=some b->F.ov.ownBlock≠some b) (hlo:base<=F.gt)
 (hcols:L=2*F.nn+2):yi base m L F w T:=
 ⟨⟨x,X,n,c,ng,h.tab,hd⟩,h.mat.congr fun i k hi hk=>hA i k (by omega) hk,hb,ho,hne,hlo,hcols⟩
end
theorem zfw {F:ya} {m:Nat} {x:Int} {A:Option Addr} {n c:Nat} {ng:Bool} (h3:Z0 F.bv) (h4:Z0 F.ov):Ze (F.cells m x A n c ng):=by
 intro i d h
 unfold ya.cells at h
 match i with
 | 0=>simp at h
 | 1=>simp at h
 | 2=>simp at h
 | 3=>simp at h
 | 4=>simp at h
 | 5=>simp at h
 | 6=>simp at h
 | 7=>simp at h;exact h3 d h
 | 8=>simp at h;exact h4 d h
 | i+9=>simp at h
theorem xN {w:World} {base size n:Nat} {e:TypeId} {v:Value} {xs:List Value} (h:Zm w base e size v n xs):Z0 v:=by
 rcases h.1.2 with ⟨rfl,_⟩ | ⟨g,cap,b,rfl,_⟩
 . exact zM _ _ _
 . exact zM _ _ _
section
variable {S:Nat->Prop} {w w' :World} {base m L:Nat} {F:ya} {T:yE}
theorem yi.below (h:yi base m L F w T) (hb:Below w.heap.size w w'):yi base m L F w' T:=by
 obtain ⟨⟨x,A,n,c,ng,b,r⟩,e,y,z,j,l,u⟩:=h
 exact ⟨⟨x,A,n,c,ng,b.below hb b.lt,r.below hb⟩,e.below hb,y.below hb,z.below hb,j,l,u⟩
theorem yi.cell3 (h:yi base m L F w T):w.cell? ⟨F.gt,3,none⟩=some (.slice (some ⟨F.gm,0,none⟩) (m+1) F.cm):=by obtain ⟨⟨x,A,n,c,ng,b,_⟩,_⟩:=h;rw [b.cell];rfl
theorem yi.cell1 (h:yi base m L F w T):w.cell? ⟨F.gt,1,none⟩=some (.slice F.rA m F.rc):=by obtain ⟨⟨x,A,n,c,ng,b,_⟩,_⟩:=h;rw [b.cell];rfl
theorem yi.cell2 (h:yi base m L F w T):w.cell? ⟨F.gt,2,none⟩=some (.slice F.nA F.nn F.nc):=by obtain ⟨⟨x,A,n,c,ng,b,_⟩,_⟩:=h;rw [b.cell];rfl
theorem yi.cell7 (h:yi base m L F w T):w.cell? ⟨F.gt,7,none⟩=some F.bv:=by obtain ⟨⟨x,A,n,c,ng,b,_⟩,_⟩:=h;rw [b.cell];rfl
theorem yi.cell8 (h:yi base m L F w T):w.cell? ⟨F.gt,8,none⟩=some F.ov:=by obtain ⟨⟨x,A,n,c,ng,b,_⟩,_⟩:=h;rw [b.cell];rfl
theorem yi.lt (h:yi base m L F w T):F.gt<w.heap.size:=by obtain ⟨⟨x,A,n,c,ng,b,_⟩,_⟩:=h;exact b.lt
theorem yi.lt2 (h:yi base m L F w T):2<=L:=by have:=h.cols;omega
theorem yi.others (h:yi base m L F w T):∃ b e,F.ov= .slice (some ⟨b,0,none⟩) (L - 1) e/\b<w.heap.size/\∀ k,k<L - 1->w.cell? ⟨b,k,none⟩=some (.int .i64 (T.other k:Nat)):=by
 obtain ⟨b,e,j,_,_⟩:=h.oth.1.form (by have:=h.lt2;omega)
 have ho:=h.oth
 rw [j] at ho
 exact ⟨b,e,j,(ho.1.lt b rfl).2,fun k hk=>by rw [ho.1.cellAt k (by omega)];exact Zi hk⟩
theorem yi.basics (h:yi base m L F w T) (hm:0<m):∃ b e,F.bv= .slice (some ⟨b,0,none⟩) m e/\b<w.heap.size/\∀ i,i<m->w.cell? ⟨b,i,none⟩=some (.int .i64 (T.basic i:Nat)):=by
 obtain ⟨b,e,j,_,_⟩:=h.bas.1.form hm
 have hb:=h.bas
 rw [j] at hb
 exact ⟨b,e,j,(hb.1.lt b rfl).2,fun i hi=>by rw [hb.1.cellAt i (by omega)];exact Zi hi⟩
end
theorem zon {F:ya} {m:Nat} {x y:Int} {A B:Option Addr} {n c k d:Nat} {ng s:Bool} {w:World} (h:Blk w F.gt 128 (F.cells m x A n c ng)):
 Blk (((w.setCell ⟨F.gt,4,none⟩ (.int .i64 y)).setCell ⟨F.gt,5,none⟩ (.slice B k d)).setCell ⟨F.gt,6,none⟩ (.bool s)) F.gt 128 (F.cells m y B k d s):=((h.set_ 4 _).set_ 5 _).set_ 6 _
theorem zpe {g:Nat} {y:Int} {B:Option Addr} {k d:Nat} {s:Bool} {w:World}:Chg (· =g) w (((w.setCell ⟨g,4,none⟩ (.int .i64 y)).setCell ⟨g,5,none⟩ (.slice B k d)).setCell ⟨g,6,none⟩ (.bool s)):=
 Chg.setCell (S:=fun b=>b=g) (Chg.setCell (S:=fun b=>b=g) (Chg.setCell (S:=fun b=>b=g) (Chg.refl w) (p:=⟨g,4,none⟩) rfl _) (p:=⟨g,5,none⟩) rfl _) (p:=⟨g,6,none⟩) rfl _
theorem Yl {w:World} {g:Nat} {x:Int} {A:Option Addr} {n c:Nat} {ng:Bool}:Chg (· =g) w (World.num w g x A n c ng):=
 Chg.setCell (S:=fun b=>b=g) (Chg.setCell (S:=fun b=>b=g) (Chg.setCell (S:=fun b=>b=g) (Chg.refl w) (p:=⟨g,0,none⟩) rfl _) (p:=⟨g,1,none⟩) rfl _) (p:=⟨g,2,none⟩) rfl _
theorem zci {w:World} {g:Nat} {x x0 z:Int} {A A0:Option Addr} {n c n0 c0:Nat} {ng ng0:Bool} (hk:Blk w g 53 #[.int .i64 x0,.slice A0 n0 c0,.bool ng0]) (hv:yb w (.agg #[.int .i64 x,.slice A n c,.bool ng]) z):
 Yo (World.num w g x A n c ng) g z:=⟨x,A,n,c,ng,ys hk,zC hv hk⟩
end Go.Proofs.YthbmhkiphmcogaaGreatDoor
namespace Go.Proofs.YthbmhkiphmcogaaGreatDoor
open Proofs.Tryz Go.RowKit Go.Deep
attribute [local go_sem ↓] Go.wp_at_zero Go.wp_at_succ
theorem zow (s:ByteArray) (w:World):Calls Tryz.prog 175 #[.string s] w (zbj w (.bool false)):=by
 have d:(s == s)=true:=(MapKept.bytes_beq s s).2 rfl
 have b:(s != s)=false:=by unfold bne;rw [d];rfl
 go_enter func175,ntmps175
 go_wp2_with fail
 go_ret
 exact ⟨by simp,rfl⟩
theorem zsq (a b:ByteArray) (w:World):Calls Tryz.prog 146 #[.string a,.string b] w (zbj w (.bool (Op.bytesLess a.toList b.toList))):=by
 have h:=fun s w=>zow s w
 obtain ⟨x,j⟩:∃ x,Hid (Op.bytesLess a.toList b.toList=x):=⟨_,rfl⟩
 go_enter func146,ntmps146
 go_wp2_with fail
 refine (h _ _).mono ?_
 rintro e w1 ⟨rfl,rfl⟩
 go_wp2_with fail
 go_ret
 exact ⟨by simp,rfl⟩
theorem Xo:∀ (x y:List UInt8),Op.bytesLess x y=decide (x<y)
 | [],[]=>by simp [Op.bytesLess]
 | _ :: _,[]=>by simp [Op.bytesLess]
 | [],_ :: _=>by simp [Op.bytesLess]
 | a :: x,b :: y=>by
   rw [Op.bytesLess,Xo x y]
   by_cases h:a<b
   . simp [h,List.cons_lt_cons_iff]
   by_cases e:a=b
   . subst e;simp [h,List.cons_lt_cons_iff]
   simp [h,e,List.cons_lt_cons_iff]
theorem zoo (a b:List UInt8) (w:World):Calls Tryz.prog 146 #[str a,str b] w (zbj w (.bool (decide (a<b)))):=by
 have h:=zsq ⟨a.toArray⟩ ⟨b.toArray⟩ w
 rw [Xo,Lib.toList_data,Lib.toList_data] at h
 exact h
def zF (w:World) (B:Nat) (v:Value) (l:List (List UInt8)):Prop:=
 ∃ A c,v= .slice A l.length c/\l.length<=c/\c<=maxLen/\l.length<=100000/\zV w B 1 A l.length (l.map str)/\∀ x∈l,zN x
section
variable {S:Nat->Prop} {w w' :World} {B B' :Nat} {v:Value} {l:List (List UInt8)}
theorem zF.chg (h:zF w B v l) (hc:Chg S w w') (hS:∀ b,b<B->S b->Z1 w b):zF w' B v l:=by
 obtain ⟨A,c,r,m,e,u,y,j⟩:=h
 exact ⟨A,c,r,m,e,u,y.chg hc hS,j⟩
theorem zF.below (h:zF w B v l) (hb:Below w.heap.size w w'):zF w' B v l:=h.chg (S:=fun _=>False) (Chg.of_below hb) (fun _ _ h=>h.elim)
theorem zF.more (h:zF w B v l) (hB:B<=B'):zF w B' v l:=by
 obtain ⟨A,c,m,j,b,r,u,e⟩:=h
 exact ⟨A,c,m,j,b,r,u.more hB,e⟩
end
theorem zF.at_ {w:World} {B:Nat} {A:Option Addr} {n c:Nat} {l:List (List UInt8)} (h:zF w B (.slice A n c) l) {k:Nat} (hk:k<l.length):
 ∃ b,A=some b/\b.block<B/\w.cell? (b.add k)=some (str l[k]):=by
 obtain ⟨A',c',e,_,_,_,m,r⟩:=h
 injection e with e1 e2 e3
 subst e1
 obtain ⟨b,u,e,hb,hu,j⟩:=m.at_ hk
 refine ⟨b,e,hb,?_⟩
 rw [j, <- hu]
 simp [hk]
theorem zF.len {w:World} {B:Nat} {A:Option Addr} {n c:Nat} {l:List (List UInt8)} (h:zF w B (.slice A n c) l):n=l.length:=by obtain ⟨_,_,e,_⟩:=h;injection e
def BinR (w0:World) (n k:Nat) (iv jv:Value) (wr:World):Prop:=∃ i j:Nat,i<=k/\k<=j/\j<=n/\iv= .int .i64 i/\jv= .int .i64 j/\w0=wr
theorem VZ (A:Option Addr) (n c:Nat) (l:List (List UInt8)) (s:List UInt8) (B k:Nat) (w:World) (hn:zF w B (.slice A n c) l) (hk:k<l.length) (hs:l[k]=s)
 (hlo:∀ i (h:i<l.length),i<k->l[i]<s) (y:∀ i (h:i<l.length),k<=i->¬ l[i]<s) (hl:l.length<=100000):
 Calls Tryz.prog 108 #[.slice A n c,str s] w (zbj w (.tuple #[.int .i64 k,.bool true])):=by
 obtain rfl:=hn.len
 have F:=ze hn
 have L:=ze hs
 have J:=ze hlo
 have N:=ze y
 have D:=fun a w=>zoo a s w
 have G:=ze D
 clear hn hs hlo y D
 go_enter func108,ntmps108
 go_wp2_with fail
 go_loopw [7,8] (BinR w l.length k) (fun iv jv _=>(intOf jv).toNat - (intOf iv).toNat)
 case atStart=>exact ⟨0,l.length,Nat.zero_le _,by omega,Nat.le_refl _,rfl,rfl,rfl⟩
 case round=>
  obtain ⟨i,j,hi,X,U,rfl,rfl,rfl⟩:=hrel
  by_cases Q:i<j
  rotate_left
  . obtain rfl:k=i:=by omega
    obtain rfl:k=j:=by omega
    have T:(k:Int)<(l.length:Int):=by omega
    obtain ⟨I,u,M,c1⟩:=F.o.at_ hk;subst u;rw [L.o] at c1;have d1:((⟨s.toArray⟩:ByteArray) == ⟨s.toArray⟩)=true:=(MapKept.bytes_beq _ _).2 rfl;go_wp2_with fail;go_ret2;exact ⟨by go_num,rfl⟩
  have Y:(i:Int)<(j:Int):=by omega
  obtain ⟨h,E⟩:∃ h,h=(i+j) / 2:=⟨_,rfl⟩;have z:h<l.length:=by omega
  have y:(h:Int)<(l.length:Int):=by omega
  have R:IntKind.i64.wrap ((i:Int)+(j:Int))=(i:Int)+(j:Int):=by rw [IntKind.wrap_i64];omega
  have O:((i:Int)+(j:Int)) / 2=(h:Int):=by omega
  obtain ⟨I,u,M,c1⟩:=F.o.at_ z;subst u;have V:i<=h:=by omega
  have S:h<j:=by omega
  have HH:=ze E;clear E
  by_cases r:l[h]<s
  . have b:=G.o l[h] w
    rw [decide_eq_true r] at b
    have K:h<k:=by
     rcases Nat.lt_or_ge h k with m | m
     . exact m
     . exact absurd r (N.o h z m)
    have C:=ze b;clear r b;go_wp2_with fail;refine C.o.mono ?_;rintro e w1 ⟨rfl,rfl⟩;go_wp2_with fail;go_round
    case rel=>exact ⟨h+1,j,by omega,by omega,by omega,by go_num,rfl,rfl⟩
    case measure=>simp [intOf];omega
  have b:=G.o l[h] w
  rw [decide_eq_false r] at b
  have K:k<=h:=by
   rcases Nat.lt_or_ge h k with m | m
   . exact absurd (J.o h z m) r
   . exact m
  have C:=ze b;clear r b;go_wp2_with fail;refine C.o.mono ?_;rintro e w1 ⟨rfl,rfl⟩;go_wp2_with fail;go_round
  case rel=>exact ⟨i,h,by omega,by omega,by omega,rfl,by go_num,rfl⟩
  case measure=>simp [intOf];omega
theorem zm7 (a b:List UInt8) (first:Bool) (w:World):Calls Tryz.prog 105 #[str a,str b,.bool first] w (zbj w (.int .i64 (yS a b first))):=by
 have r:=Xo a b
 have m:(a == b)=decide (a=b):=by by_cases h:a=b<;>simp [h]
 cases first with
 | true=>
   have j:=ze (show yS a b true=0 by unfold yS;rw [if_pos (.inl rfl)]);clear r m
   go_enter func105,ntmps105
   go_wp2_with fail;go_ret;exact ⟨by rw [j.o];rfl,rfl⟩
 | false=>
   by_cases e:a<b
   . have j:=ze (show yS a b false=0 by unfold yS;rw [if_pos (.inr e)])
     rw [decide_eq_true e] at r;clear m e
     go_enter func105,ntmps105
     go_wp2_with fail;go_ret;exact ⟨by rw [j.o];rfl,rfl⟩
   rw [decide_eq_false e] at r
   by_cases l:a=b
   . have j:=ze (show yS a b false=6 by unfold yS;rw [if_neg (by rintro (h | h);cases h;exact e h),if_pos l])
     rw [decide_eq_true l] at m;clear e l
     go_enter func105,ntmps105
     go_wp2_with fail;go_ret;exact ⟨by rw [j.o];rfl,rfl⟩
   have j:=ze (show yS a b false=1 by unfold yS;rw [if_neg (by rintro (h | h);cases h;exact e h),if_neg l])
   rw [decide_eq_false l] at m;clear e l
   go_enter func105,ntmps105
   go_wp2_with fail;go_ret;exact ⟨by rw [j.o];rfl,rfl⟩
def zmt (w:World) (g k:Nat) (q:Rat):Prop:=
 ∃ (x:Int) (A:Option Addr) (n c:Nat) (s:Bool) (y:Int) (B:Option Addr) (n' c' :Nat) (t:Bool),w.cell? ⟨g,k*6,none⟩=some (.int .i64 x)/\w.cell? ⟨g,k*6+1,none⟩=some (.slice A n c)/\w.cell? ⟨g,k*6+2,none⟩=some (.bool s)/\
  w.cell? ⟨g,k*6+3,none⟩=some (.int .i64 y)/\w.cell? ⟨g,k*6+4,none⟩=some (.slice B n' c')/\w.cell? ⟨g,k*6+5,none⟩=some (.bool t)/\yc w (.agg #[.int .i64 x,.slice A n c,.bool s,.int .i64 y,.slice B n' c',.bool t]) q
def xo (w:World) (g L n:Nat) (f:Nat->Rat):Prop:=(∃ cs,Blk w g 55 cs/\cs.size=L*6/\Ze cs)/\∀ k,k<n->zmt w g k (f k)
abbrev World.ratAt (w:World) (g k:Nat) (x:Int) (A:Option Addr) (n c:Nat) (s:Bool) (y:Int) (B:Option Addr) (n' c' :Nat) (t:Bool):World:=
 (((((w.setCell ⟨g,k*6,none⟩ (.int .i64 x)).setCell ⟨g,k*6+1,none⟩ (.slice A n c)).setCell ⟨g,k*6+2,none⟩ (.bool s)).setCell ⟨g,k*6+3,none⟩ (.int .i64 y)).setCell ⟨g,k*6+4,none⟩ (.slice B n' c')).setCell ⟨g,k*6+5,none⟩ (.bool t)
section
variable {S:Nat->Prop} {w w' :World} {g L n:Nat} {f:Nat->Rat}
theorem zmt.chg {k:Nat} {q:Rat} (h:zmt w g k q) (hc:Chg S w w') (hg:¬ S g) (hS:∀ b,S b->zZ w b):zmt w' g k q:=by
 obtain ⟨x,A,n,c,s,y,B,n',c',t,j,r,m,e,u,z,l⟩:=h
 exact ⟨x,A,n,c,s,y,B,n',c',t,hc.cell j hg,hc.cell r hg,hc.cell m hg,hc.cell e hg,hc.cell u hg,hc.cell z hg,hc.rat l hS⟩
theorem xo.lt (h:xo w g L n f):g<w.heap.size:=by obtain ⟨⟨cs,h,_⟩,_⟩:=h;exact h.lt
theorem xo.noDig (h:xo w g L n f):zZ w g:=by obtain ⟨⟨cs,h,_,b⟩,_⟩:=h;exact h.noDig b
theorem xo.heap (h:xo w g L n f):∃ cs,Blk w g 55 cs:=by obtain ⟨⟨cs,h,_⟩,_⟩:=h;exact ⟨cs,h⟩
theorem xo.chg (h:xo w g L n f) (hc:Chg S w w') (hg:¬ S g) (hS:∀ b,S b->zZ w b):xo w' g L n f:=by
 obtain ⟨⟨cs,e,m,l⟩,j⟩:=h
 exact ⟨⟨cs,hc.blk e hg,m,l⟩,fun k hk=>(j k hk).chg hc hg hS⟩
theorem xo.below (h:xo w g L n f) (hb:Below w.heap.size w w'):xo w' g L n f:=h.chg (S:=fun _=>False) (Chg.of_below hb) (fun h=>h) (fun _ h=>h.elim)
theorem xo.frozen (h:xo w g L n f) (i:Nat):w.frozen? ⟨g,i,none⟩=false:=by obtain ⟨⟨cs,h,_⟩,_⟩:=h;exact h.frozen i
theorem xo.slots (h:xo w g L n f) {k:Nat} (hk:k<L):∃ u0 u1 u2 u3 u4 u5,w.cell? ⟨g,k*6,none⟩=some u0/\w.cell? ⟨g,k*6+1,none⟩=some u1/\w.cell? ⟨g,k*6+2,none⟩=some u2/\w.cell? ⟨g,k*6+3,none⟩=some u3/\w.cell? ⟨g,k*6+4,none⟩=some u4/\w.cell? ⟨g,k*6+5,none⟩=some u5:=by
 obtain ⟨⟨cs,b,j,e⟩,_⟩:=h
 refine ⟨cs[k*6]'(by omega),cs[k*6+1]'(by omega),cs[k*6+2]'(by omega),cs[k*6+3]'(by omega),cs[k*6+4]'(by omega),cs[k*6+5]'(by omega),?_,?_,?_,?_,?_,?_⟩
 all_goals rw [b.cell,Array.getElem?_eq_getElem]
theorem xo.fewer (h:xo w g L n f) {m:Nat} {f' :Nat->Rat} (hm:∀ k,k<m->k<n/\f' k=f k):xo w g L m f' :=by
 refine ⟨h.1,fun k hk=>?_⟩
 obtain ⟨b,e⟩:=hm k hk
 rw [e];exact h.2 k b
theorem Vn {k:Nat} {x y:Int} {s t:Bool} {A B:Option Addr} {n c n' c' :Nat}:Chg (· =g) w (World.ratAt w g k x A n c s y B n' c' t):=by
 simp only [World.ratAt]
 apply Chg.setCell (S:=fun b=>b=g) ?_ (by rfl)
 apply Chg.setCell (S:=fun b=>b=g) ?_ (by rfl)
 apply Chg.setCell (S:=fun b=>b=g) ?_ (by rfl)
 apply Chg.setCell (S:=fun b=>b=g) ?_ (by rfl)
 apply Chg.setCell (S:=fun b=>b=g) ?_ (by rfl)
 apply Chg.setCell (S:=fun b=>b=g) ?_ (by rfl)
 exact Chg.refl w
theorem xo.set {k m' :Nat} {q:Rat} {f' :Nat->Rat} {x y:Int} {s t:Bool} {A B:Option Addr} {n1 c n' c' :Nat} (h:xo w g L n f) (hk:k<L) (hv:yc w (.agg #[.int .i64 x,.slice A n1 c,.bool s,.int .i64 y,.slice B n' c',.bool t]) q)
 (hf:∀ j,j<m' ->(j=k/\f' j=q)\/(j≠k/\j<n/\f' j=f j)):xo (World.ratAt w g k x A n1 c s y B n' c' t) g L m' f' :=by
 have m:=Vn (w:=w) (g:=g) (k:=k) (x:=x) (s:=s) (A:=A) (n:=n1) (c:=c) (y:=y) (t:=t) (B:=B) (n' :=n') (c' :=c')
 have hS:∀ b,b=g->zZ w b:=fun b e=>by subst e;exact h.noDig
 have u :=m.rat hv hS
 obtain ⟨⟨cs,l,J,N⟩,K⟩:=h
 have hb:=(((((l.set_ (k*6) (.int .i64 x)).set_ (k*6+1) (.slice A n1 c)).set_ (k*6+2) (.bool s)).set_ (k*6+3) (.int .i64 y)).set_ (k*6+4) (.slice B n' c')).set_ (k*6+5) (.bool t)
 refine ⟨⟨_,hb,by simpa using J,xI (xI (xI (xI (xI (xI N (vi _) _) (zM _ _ _) _) (ZD _) _) (vi _) _) (zM _ _ _) _) (ZD _) _⟩,fun j hj=>?_⟩
 rcases hf j hj with ⟨rfl,e⟩ | ⟨X,O,e⟩
 . rw [e]
   refine ⟨x,A,n1,c,s,y,B,n',c',t,?_,?_,?_,?_,?_,?_,u⟩
   all_goals rw [hb.cell];simp [Array.getElem?_setIfInBounds];omega
 . rw [e]
   obtain ⟨r,M,E,d1,s1,U,F,D,R,V,G,I,C,S,Q,T,z⟩:=K j O;rw [l.cell] at G I C S Q T;refine ⟨r,M,E,d1,s1,U,F,D,R,V,?_,?_,?_,?_,?_,?_,m.rat z hS⟩
   all_goals
    rw [hb.cell,Array.getElem?_setIfInBounds,if_neg (by omega),Array.getElem?_setIfInBounds,if_neg (by omega),Array.getElem?_setIfInBounds,if_neg (by omega),Array.getElem?_setIfInBounds,if_neg (by omega),Array.getElem?_setIfInBounds,if_neg (by omega),Array.getElem?_setIfInBounds,if_neg (by omega)]
    assumption
end
def vP (n:Nat):Array Value:=madeCells #[.int .i64 0,.slice none 0 0,.bool false,.int .i64 0,.slice none 0 0,.bool false] (n*6)
theorem zeo (n:Nat):(vP n).size=n*6:=by simp [vP,madeCells]
theorem zbu (n:Nat):Ze (vP n):=by
 intro i x h
 have l:=Array.mem_of_getElem? h
 unfold vP madeCells at l
 rw [Array.mem_map] at l
 obtain ⟨j,_,e⟩:=l
 have m:j % 6<6:=Nat.mod_lt _ (by omega)
 have b:(#[Value.int .i64 0,Value.slice none 0 0,Value.bool false,Value.int .i64 0,Value.slice none 0 0,Value.bool false]:Array Value)[j % 6]! ∈(#[Value.int .i64 0,Value.slice none 0 0,Value.bool false,Value.int .i64 0,Value.slice none 0 0,Value.bool false]:Array Value):=by
  rw [getElem!_pos (#[Value.int .i64 0,Value.slice none 0 0,Value.bool false,Value.int .i64 0,Value.slice none 0 0,Value.bool false]:Array Value) (j % 6) m]
  exact Array.getElem_mem _
 simp at b
 simp at e
 rcases b with b | b | b | b | b | b<;>(rw [b] at e;cases e)
theorem zri:(Tryz.prog.info? 55).map (fun i=>(i.zero,i.size,i.bytes))=some (some (.agg #[.int .i64 0,.slice none 0 0,.bool false,.int .i64 0,.slice none 0 0,.bool false]),6,80):=by kernel_rfl
theorem Tryz.underlying78:Tryz.prog.underlying 78=some (.slice 55):=by kernel_rfl
theorem zh4 (k:IntKind) (n:Nat) (hn:n<=100000) (w:World):
 (Instr.makeSlice 78 (.int k (n:Int)) (.int k (n:Int))).run Tryz.prog w= .ok (.slice (some ⟨w.heap.size,0,none⟩) n n) (w.alloc (.cells (vP n) 55)):=by
 obtain ⟨i,hi,b⟩:=Option.map_eq_some_iff.1 zri
 simp only [Prod.mk.injEq] at b
 obtain ⟨e,j,hb⟩:=b
 rw [run_make (P:=Tryz.prog) w 78 55 i _ underlying78 hi e k k n n (by omega) (by omega) (by rw [hb];omega) (by omega)]
 rw [j]
 rfl
theorem zlj (w:World) (L:Nat) (f:Nat->Rat):xo (w.alloc (.cells (vP L) 55)) w.heap.size L 0 f:=
 ⟨⟨_,Blk.new w _ _,zeo L,zbu L⟩,fun k hk=>by omega⟩
theorem zo9 (z:Int) (w:World) (s t:Bool) (h1: -4611686018427387904<z) (h2:z<4611686018427387904):yc w (.agg #[.int .i64 z,.slice none 0 0,.bool s,.int .i64 1,.slice none 0 0,.bool t]) (z:Rat):=
 ⟨_,_,_,_,_,_,_,_,_,_,rfl,.inl ⟨z,s,rfl,h1,h2,by simp⟩,.inl ⟨1,t,rfl,by omega,by omega,by simp⟩⟩
theorem YC (z:Int) (w:World) (h1: -4611686018427387904<z) (h2:z<4611686018427387904):Calls Tryz.prog 35 #[.int .i64 z] w (zdv w (z:Rat)):=by
 have b:=Blk.new w 55 #[.int .i64 z,.slice none 0 0,.bool false,.int .i64 1,.slice none 0 0,.bool false]
 have j:=b.cell 0
 have l:=b.cell 1
 have e:=b.cell 2
 have m:=b.cell 3
 have r:=b.cell 4
 have u:=b.cell 5
 simp at j l e m r u
 have y:=ze (zo9 z (w.alloc (.cells #[.int .i64 z,.slice none 0 0,.bool false,.int .i64 1,.slice none 0 0,.bool false] 55)) false false h1 h2)
 clear b
 go_enter func35,ntmps35
 go_wp2_with fail
 refine bodyPost_ret (v:=.agg #[.int .i64 z,.slice none 0 0,.bool false,.int .i64 1,.slice none 0 0,.bool false]) (by simp [results,results35,go_sem,j,l,e,m,r,u]) rfl ?_
 exact ⟨_,rfl,y.o,zf _ _⟩
theorem zn8:(Tryz.prog.info? 31).map (fun i=>(i.zero,i.size,i.bytes))=some (some (.string ⟨#[]⟩),1,16):=by kernel_rfl
theorem zu0:(Tryz.prog.info? 131).map (fun i=>(i.zero,i.size,i.bytes))=some (some (.agg #[.string ⟨#[]⟩,.string ⟨#[]⟩]),2,32):=by kernel_rfl
theorem Tryz.underlying42:Tryz.prog.underlying 42=some (.slice 31):=by kernel_rfl
theorem Tryz.underlying41:Tryz.prog.underlying 41=some (.slice 131):=by kernel_rfl
def zwn (w:World) (e:Ending) (w' :World):Prop:=∃ A n c,e= .returned (.slice A n c)/\Below w.heap.size w w'
theorem zmt.cells {w:World} {g k:Nat} {q:Rat} (h:zmt w g k q):∃ (x:Int) (A:Option Addr) (n c:Nat) (s:Bool) (y:Int) (B:Option Addr) (n' c' :Nat) (t:Bool),w.cell? ⟨g,k*6,none⟩=some (.int .i64 x)/\w.cell? ⟨g,k*6+1,none⟩=some (.slice A n c)/\w.cell? ⟨g,k*6+2,none⟩=some (.bool s)/\
 w.cell? ⟨g,k*6+3,none⟩=some (.int .i64 y)/\w.cell? ⟨g,k*6+4,none⟩=some (.slice B n' c')/\w.cell? ⟨g,k*6+5,none⟩=some (.bool t)/\yc w (.agg #[.int .i64 x,.slice A n c,.bool s,.int .i64 y,.slice B n' c',.bool t]) q:=h
theorem zhu {w:World} {base n size:Nat} {e:TypeId} {v:Value} {xs:List Value} (h:Zm w base e size v n xs):∃ A n c,v= .slice A n c:=by
 rcases h.1.2 with ⟨rfl,_⟩ | ⟨g,cap,b,rfl,_⟩
 . exact ⟨_,_,_,rfl⟩
 . exact ⟨_,_,_,rfl⟩
theorem zbb {w w' :World} {v:Value} (hg:w.grownBy w' v.ownBlock):Chg (fun b=>v.ownBlock=some b) w w' :=⟨hg.os,hg.tape,hg.output,hg.size,fun k hk hS=>hg.block k hk (fun e=>hS e.symm)⟩
theorem ztd {w:World} {x:Nat} {cs1 cs2:Array Value} {t1 t2:TypeId} {f2:Nat×Nat} (h1:Blk w x t1 cs1) (h2:w.heap[x]?=some (.cells cs2 t2 f2)) (ht:t1≠t2):False:=by
 unfold Blk at h1
 rw [h1] at h2
 injection h2 with h2
 injection h2 with _ h3 _
 exact ht h3
def FrsR (w0:World) (m g:Nat) (f:Nat->Rat) (iv ov:Value) (wr:World):Prop:=
 ∃ (i:Nat) (v:Value) (xs:List Value),i<=m/\iv= .int .i64 i/\ov=v/\Hid (Zm wr w0.heap.size 31 1 v i xs)/\Hid (xo wr g m m f)/\Hid (Below w0.heap.size w0 wr)
theorem zjc (g m:Nat) (f:Nat->Rat) (w:World) (hr:xo w g m m f) (hf:∀ k,k<m->Z9 67108864 (f k)) (hm:m<=100000):
 Calls Tryz.prog 31 #[.slice (some ⟨g,0,none⟩) m m] w (zwn w):=by
 have r:=ze hr
 have HF:=ze hf
 have l:=ze (vh w)
 clear hr hf
 go_enter func31,ntmps31
 go_wp2_with fail
 go_loopw [8,3] (FrsR w m g f) (fun iv _ _=>m - (intOf iv).toNat)
 case atStart=>exact ⟨0,_,[],Nat.zero_le _,rfl,rfl,Zz _ _ _ _,r,l⟩
 case round=>
  clear r l
  obtain ⟨i,v,xs,hi,rfl,rfl,z,r,l⟩:=hrel
  by_cases R:i<m
  rotate_left
  . obtain rfl:m=i:=by omega
    obtain ⟨A,n,c,rfl⟩:=zhu z.o;go_wp2_with fail;go_ret;exact ⟨_,_,_,rfl,l.o⟩
  have ak:(i:Int)<(m:Int):=by omega
  obtain ⟨x,A,n,c,s,y,B,n',c',t,c0,c1,c2,c3,c4,c5,I⟩:=(r.o.2 i R).cells;have C:=zf wr (.cells #[.int .i64 x,.slice A n c,.bool s,.int .i64 y,.slice B n' c',.bool t] 55);have D:=ze (Blk.new wr 55 #[.int .i64 x,.slice A n c,.bool s,.int .i64 y,.slice B n' c',.bool t]);have G:=ze (I.below C);have X:=ze (HF.o i R);replace z:=ze (z.o.below C);replace r:=ze (r.o.below C);replace l:=eb_ l C;clear C I
  go_upto_region 5 with fail
  clear c0 c1 c2 c3 c4 c5;generalize wr.alloc (.cells #[.int .i64 x,.slice A n c,.bool s,.int .i64 y,.slice B n' c',.bool t] 55)=W2 at D G z r l |-;generalize wr.heap.size=gr at D |-;have Q:=D.o.cell 0;have r1:=D.o.cell 1;have L:=D.o.cell 2;have V:=D.o.cell 3;have r4:=D.o.cell 4;have K:=D.o.cell 5;simp at Q r1 L V r4 K;go_wp2_with fail;refine (V4 _ _ _ G.o X.o).mono ?_;rintro e w3 ⟨rfl,E⟩;obtain ⟨T,U⟩:∃ T:ByteArray,T=⟨(zw (f i)).toArray⟩:=⟨_,rfl⟩;rw [<- U];clear U;replace z:=ze (z.o.below E);replace r:=ze (r.o.below E);replace l:=eb_ l E;clear E D G X Q r1 L V r4 K;have C:=zf w3 (.cells #[.string T] 31);have aa:∀ u∈[Value.string T],u.oneCell' =true:=by intro u hu;rw [List.mem_singleton] at hu;subst hu;rfl
  have Y:∀ u∈[Value.string T],Z0 u:=by intro u hu;rw [List.mem_singleton] at hu;subst hu;exact yq _
  have J:∀ u∈(Value.string ⟨#[]⟩).cells,Z0 u:=by intro u hu;simp [Value.cells] at hu;subst hu;exact yq _
  obtain ⟨i0,ac,ad,ab,ag⟩:=info_parts zn8;have O:=Blk.new w3 31 #[.string T]
  have Z:∀ (j:Nat) (u:Value),[Value.string T][j]?=some u->(w3.alloc (.cells #[.string T] 31)).cell? ((⟨w3.heap.size,0,none⟩:Addr).add j)=some u:=by
   intro j u hu
   match j with
   | 0=>
     simp at hu;subst hu;have:=O.cell 0
     simp [Addr.add]
   | j+1=>simp at hu
  replace z:=ze (z.o.below C);replace r:=ze (r.o.below C);replace l:=eb_ l C;clear C O;go_wp2_with (at_builtin;go_must (refine zS (P:=Tryz.prog) rfl (.tmp 12) (.tmp 15) _ rfl w.heap.size 31 i0 _ 1 16 underlying42 ac ad ab ag rfl (by omega) _ i xs rfl z.o ⟨w3.heap.size,0,none⟩ 1 1 [.string T] rfl rfl (by omega) Z aa Y J ?o4 ?o5 ?o6 ?_))
  case o4=>unfold maxLen;omega
  case o5=>omega
  case o6=>exact l.o.size
  intro v3 N M F ae;clear Z aa Y J;have S:=fun b hb=>(z.o.1.lt b hb).1
  have ah:Hid (xo N g m m f):=r.o.chg (zbb F) (fun e=>by
   obtain ⟨cs,k1⟩:=z.o.heap e;obtain ⟨aj,k2⟩:=r.o.heap
   exact ztd k2 k1 (by decide)) (fun b e=>z.o.2 b e)
  have af:Hid (Below w.heap.size w N):=l.o.grown F l.o.size S;have ai:=ze M;clear z r l M F ae S;go_wp2_with fail;go_roundw
  case rel=>exact ⟨i+1,_,_,by omega,by go_num,rfl,ai,ah,af⟩
  case measure=>simp [intOf];omega
def VlsR (w0:World) (m g B:Nat) (f:Nat->Rat) (nv:Value) (names:List (List UInt8)) (iv ov:Value) (wr:World):Prop:=
 ∃ (i k:Nat) (v:Value) (xs:List Value),i<=m/\k<=i/\iv= .int .i64 i/\ov=v/\Hid (Zm wr w0.heap.size 131 2 v k xs)/\Hid (xo wr g m m f)/\Hid (zF wr w0.heap.size nv names)/\Hid (Below w0.heap.size w0 wr)
theorem zhc (g m:Nat) (f:Nat->Rat) (A0:Option Addr) (cN:Nat) (names:List (List UInt8)) (w:World) (hn:zF w w.heap.size (.slice A0 m cN) names) (hr:xo w g m m f) (hf:∀ k,k<m->Z9 67108864 (f k)) (hm:m<=100000):
 Calls Tryz.prog 30 #[.slice A0 m cN,.slice (some ⟨g,0,none⟩) m m] w (zwn w):=by
 obtain rfl:=hn.len
 have C:=ze hn
 have r:=ze hr
 have HF:=ze hf
 have l:=ze (vh w)
 clear hr hf hn
 go_enter func30,ntmps30
 go_wp2_with fail
 go_loopw [10,5] (VlsR w names.length g w.heap.size f (.slice A0 names.length cN) names) (fun iv _ _=>names.length - (intOf iv).toNat)
 case atStart=>exact ⟨0,0,_,[],Nat.zero_le _,Nat.le_refl _,rfl,rfl,Zz _ _ _ _,r,C,l⟩
 case round=>
  clear r l C
  obtain ⟨i,k,v,xs,hi,hk,rfl,rfl,D,r,C,l⟩:=hrel
  by_cases N:i<names.length
  rotate_left
  . obtain rfl:names.length=i:=by omega
    obtain ⟨A,n,c,rfl⟩:=zhu D.o;go_wp2_with fail;go_ret;exact ⟨_,_,_,rfl,l.o⟩
  have av:(i:Int)<(names.length:Int):=by omega
  obtain ⟨ad,eA,af,p0⟩:=C.o.at_ N;subst eA;obtain ⟨x,A,n,c,s,y,B,n',c',t,R,c1,c2,K,M,L,F⟩:=(r.o.2 i N).cells;have HQ:=ze F;have ae:=ze (HF.o i N);have aa:=fun w' (h:Below wr.heap.size wr w')=>Yg _ _ w' (F.below h)
  have E:=aa wr (vh wr);clear F aa
  by_cases J:ze1 (f i) 0=0
  . rw [J] at E
    go_wp2_with fail;refine E.mono ?_;rintro e w3 ⟨rfl,z⟩;clear E;replace D:=ze (D.o.below z);replace r:=ze (r.o.below z);replace C:=ze (C.o.below z);replace l:=eb_ l z;clear z R c1 c2 K M L p0 af HQ;go_wp2_with fail;go_roundw
    case rel=>exact ⟨i+1,k,_,_,by omega,by omega,by go_num,rfl,D,r,C,l⟩
    case measure=>simp [intOf];omega
  obtain ⟨Q,X⟩:∃ Q,ze1 (f i) 0=Q:=⟨_,rfl⟩
  rw [X] at E J;have d1:(Q != 0)=true:=by rw [bne_iff_ne];exact J
  have d2:(Q == 0)=false:=by rw [beq_eq_false_iff_ne];exact J
  clear X J;go_wp2_with fail;refine E.mono ?_;rintro e w3 ⟨rfl,z⟩;clear E;replace D:=ze (D.o.below z);replace r:=ze (r.o.below z);replace C:=ze (C.o.below z);replace l:=eb_ l z;clear z R c1 c2 K M L p0 af HQ;obtain ⟨x,A,n,c,s,y,B,n',c',t,R,c1,c2,K,M,L,F⟩:=(r.o.2 i N).cells;have Y:=V4 _ _ _ F ae.o;have ab:=ze Y;clear F Y;go_wp2_with fail;refine ab.o.mono ?_;rintro e G ⟨rfl,z⟩;obtain ⟨T,hT⟩:∃ T:ByteArray,T=⟨(zw (f i)).toArray⟩:=⟨_,rfl⟩;rw [<- hT];clear hT ab;replace D:=ze (D.o.below z);replace r:=ze (r.o.below z);replace C:=ze (C.o.below z);replace l:=eb_ l z;clear z ae R c1 c2 K M L;have I:=zf G (.cells #[str names[i],.string T] 131);have ai:∀ u∈[str names[i],Value.string T],u.oneCell' =true:=by intro u hu;simp at hu;rcases hu with rfl | rfl<;>rfl
  have ag:∀ u∈[str names[i],Value.string T],Z0 u:=by intro u hu;simp at hu;rcases hu with rfl | rfl<;>exact yq _
  have Z:∀ u∈(Value.agg #[.string ⟨#[]⟩,.string ⟨#[]⟩]).cells,Z0 u:=by intro u hu;simp [Value.cells] at hu;subst hu;exact yq _
  obtain ⟨i0,al,am,aj,ap⟩:=info_parts zu0;have S:=Blk.new G 131 #[str names[i],.string T]
  have ah:∀ (j:Nat) (u:Value),[str names[i],Value.string T][j]?=some u->(G.alloc (.cells #[str names[i],.string T] 131)).cell? ((⟨G.heap.size,0,none⟩:Addr).add j)=some u:=by
   intro j u hu
   match j with
   | 0=>
     simp at hu;subst hu;have:=S.cell 0
     simp [Addr.add]
   | 1=>
     simp at hu;subst hu;have:=S.cell 1
     simp [Addr.add]
   | j+2=>simp at hu
  replace D:=ze (D.o.below I);replace r:=ze (r.o.below I);replace C:=ze (C.o.below I);replace l:=eb_ l I;clear I S;go_wp2_with (at_builtin;go_must (refine zS (P:=Tryz.prog) rfl (.tmp 21) (.tmp 29) _ rfl w.heap.size 131 i0 _ 2 32 underlying41 al am aj ap rfl (by omega) _ k xs rfl D.o ⟨G.heap.size,0,none⟩ 1 1 [str names[i],.string T] rfl rfl (by omega) ah ai ag Z ?o4 ?o5 ?o6 ?_))
  case o4=>unfold maxLen;omega
  case o5=>omega
  case o6=>exact l.o.size
  intro v3 V ac O an;clear ah ai ag Z;have U:=fun b hb=>(D.o.1.lt b hb).1
  have aq:Hid (xo V g names.length names.length f):=r.o.chg (zbb O) (fun e=>by
   obtain ⟨cs,k1⟩:=D.o.heap e;obtain ⟨au,k2⟩:=r.o.heap
   exact ztd k2 k1 (by decide)) (fun b e=>D.o.2 b e)
  have ak:Hid (zF V w.heap.size (.slice (some ad) names.length cN) names):=C.o.chg (zbb O) (fun b hb e=>by have:=U b e;omega);have ao:Hid (Below w.heap.size w V):=l.o.grown O l.o.size U;have ar:=ze ac;clear D r C l ac O an U;go_wp2_with fail;go_roundw
  case rel=>exact ⟨i+1,k+1,_,_,by omega,by omega,by go_num,rfl,ar,aq,ak,ao⟩
  case measure=>simp [intOf];omega
end Go.Proofs.YthbmhkiphmcogaaGreatDoor
