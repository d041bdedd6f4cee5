/- Parts of the proof. -/
import Derived.Maps.OwnOps
import Derived.Test.YtobdoblpnanclaaGreatDoorMo15
set_option linter.all false
set_option maxRecDepth 100000
set_option maxHeartbeats 32000000
namespace Go.Proofs.YtobdoblpnanclaaGreatDoor
open Proofs.Tryz Go.RowKit
def XH (D:List (List UInt8×Value)):List (Value×Value):=D.map fun p=>(str p.1,p.2)
def Zm (w:World) (b:Nat) (D:List (List UInt8×Value)):Prop:=∃ es clock,w.heap[b]?=some (.map es clock)/\es.toList.map (fun e=>(e.key,e.val))=XH D/\(es.toList.map (·.born)).Nodup/\∀ e∈es.toList,e.born<clock
theorem Zm.lt {w:World} {b:Nat} {D:List (List UInt8×Value)} (h:Zm w b D):b<w.heap.size:=by
 obtain ⟨e,c,hb,_⟩:=h
 exact (Array.getElem?_eq_some_iff.1 hb).1
theorem Zm.keep {w w' :World} {b:Nat} {D:List (List UInt8×Value)} (h:Zm w b D) (hk:w'.heap[b]?=w.heap[b]?):Zm w' b D:=by
 obtain ⟨j,c,hb,e⟩:=h
 exact ⟨j,c,hk.trans hb,e⟩
theorem Zm.below {B:Nat} {w w' :World} {b:Nat} {D:List (List UInt8×Value)} (h:Zm w b D) (hb:Below B w w') (hl:b<B):Zm w' b D:=h.keep (hb.block b hl)
theorem Zm.new (w:World):Zm (w.alloc (.map #[] 0)) w.heap.size []:=⟨#[],0,heap_alloc_new w _,rfl,by simp,by simp⟩
def VK (s:List UInt8):List (List UInt8×Value)->Nat->Option (Nat×Value)
 | [],_=>none
 | p :: D,i=>if p.1=s then some (i,p.2) else VK s D (i+1)
def VW (s:List UInt8) (D:List (List UInt8×Value)):Option Value:=(VK s D 0).map (·.2)
theorem zus (a b:List UInt8):((⟨a.toArray⟩:ByteArray) == ⟨b.toArray⟩)=decide (a=b):=by
 by_cases h:a=b
 . subst h;rw [uE rfl];exact (MapKept.bytes_beq _ _).2 rfl
 rw [uF h]
 cases h1:((⟨a.toArray⟩:ByteArray) == ⟨b.toArray⟩) with
 | false=>rfl
 | true=>
   have e:=(MapKept.bytes_beq _ _).1 h1;injection e with e
   exact absurd (by simpa using congrArg Array.toList e) h
theorem Ye (s:List UInt8):∀ (l:List MapEntry) (D:List (List UInt8×Value)) (i:Nat),l.map (fun e=>(e.key,e.val))=XH D->Instr.findNow .string (str s) l i=some (VK s D i)
 | [],[],i,_=>rfl
 | [],_ :: _,_,h=>by simp [XH] at h
 | _ :: _,[],_,h=>by simp [XH] at h
 | e :: l,p :: D,i,h=>by
   simp only [XH,List.map_cons,List.cons.injEq,Prod.mk.injEq] at h;obtain ⟨⟨m,j⟩,r⟩:=h
   have u:Instr.sameNow .string (str s) e.key=some (decide (p.1=s)):=by
    rw [m]
    show some ((⟨s.toArray⟩:ByteArray) == ⟨p.1.toArray⟩)=_
    rw [zus]
    congr 1
    exact decide_eq_decide.2 ⟨Eq.symm,Eq.symm⟩
   unfold Instr.findNow VK;rw [u]
   by_cases b:p.1=s
   . rw [uE b,if_pos b,j]
   rw [uF b,if_neg b]
   exact Ye s l D (i+1) r
theorem Vy (s:List UInt8):∀ (D:List (List UInt8×Value)) (i:Nat),VK s D i=(VK s D 0).map fun p=>(p.1+i,p.2)
 | [],_=>rfl
 | p :: D,i=>by
   unfold VK
   by_cases h:p.1=s
   . rw [if_pos h,if_pos h];simp
   rw [if_neg h,if_neg h,Vy s D (i+1),Vy s D 1]
   cases VK s D 0 with
   | none=>rfl
   | some q=>simp only [Option.map_some];congr 2;omega
section
variable {P:Program} {w:World} {t k e:TypeId} {b:Nat} {D:List (List UInt8×Value)}
theorem Yl {z:Value} (ht:P.underlying t=some (.map k e)) (hk:P.underlying k=some .string) (hz:(zeroValue e).run P w= .ok z w) (h:Zm w b D) (s:List UInt8) (c:Bool):
 (Instr.lookup t (.map (some b)) (str s) c).run P w= .ok (if c then .tuple #[(VW s D).getD z,.bool (VW s D).isSome] else (VW s D).getD z) w:=by
 obtain ⟨l,u,hb,r,_⟩:=h
 have j:=Ye s l.toList D 0 r
 have m:(Instr.checkKey l.isEmpty 10000 k (str s)).run P w= .ok () w:=MapKept.run_checkKey (k:=str s) hk (by simp [MapKept.IsKey]) l.isEmpty 9999
 unfold VW
 cases hs:VK s D 0 with
 | none=>
   rw [hs] at j
   simp [Instr.lookup,run_underlying ht,MapKept.run_getObj_map hb,m,MapKept.run_findKey hk j,Result.andThen,hz]
 | some p=>
   rw [hs] at j
   simp [Instr.lookup,run_underlying ht,MapKept.run_getObj_map hb,m,MapKept.run_findKey hk j,Result.andThen]
def zjp (s:List UInt8) (v:Value) (D:List (List UInt8×Value)):List (List UInt8×Value):=match VK s D 0 with
 | none=>D ++ [(s,v)]
 | some p=>D.set p.1 (s,v)
theorem zbw (s:List UInt8):∀ (D:List (List UInt8×Value)) (i:Nat) (p:Nat×Value),VK s D i=some p->i<=p.1/\D[p.1 - i]?=some (s,p.2)
 | [],_,_,h=>by cases h
 | q :: D,i,p,h=>by
   unfold VK at h
   by_cases b:q.1=s
   rotate_left
   . rw [if_neg b] at h
     obtain ⟨j,e⟩:=zbw s D (i+1) p h;refine ⟨by omega,?_⟩;rw [show p.1 - i=(p.1 - (i+1))+1 by omega,List.getElem?_cons_succ];exact e
   rw [if_pos b] at h
   injection h with h
   subst h
   simp [<- b]
theorem Zk (ht:P.underlying t=some (.map k e)) (hk:P.underlying k=some .string) (h:Zm w b D) (s:List UInt8) (v:Value):
 ∃ w',(Instr.mapUpdate t (.map (some b)) (str s) v).run P w= .ok () w' /\Zm w' b (zjp s v D)/\w.grownBy w' (some b)/\w'.heap.size=w.heap.size:=by
 obtain ⟨m,I,hb,B,M,E⟩:=h
 have C:=Ye s m.toList D 0 B
 have O:(Instr.checkKey false 10000 k (str s)).run P w= .ok () w:=MapKept.run_checkKey (k:=str s) hk (by simp [MapKept.IsKey]) false 9999
 have K:∀ o,w.grownBy { w with heap:=w.heap.setIfInBounds b o } (some b):=fun o=>⟨rfl,rfl,rfl,by simp,fun r hr hn=>by
  have Q:b≠r:=fun e=>hn (by rw [e])
  simp [Q]⟩
 have J:b<w.heap.size:=(Array.getElem?_eq_some_iff.1 hb).1
 unfold zjp
 cases hs:VK s D 0 with
 | none=>
   rw [hs] at C;refine ⟨{ w with heap:=w.heap.setIfInBounds b (.map (m.push { key:=str s,val:=v,born:=I }) (I+1)) },?_,⟨_,_,by simp [J];exact ⟨rfl,rfl⟩,?_,?_,?_⟩,K _,by simp⟩
   . simp [Instr.mapUpdate,run_underlying ht,MapKept.run_getObj_map hb,O,MapKept.run_findKey hk C,MapKept.run_setObj_map _ hb,Result.andThen]
   . simp only [Array.toList_push,List.map_append,List.map_cons,List.map_nil,B,XH]
   . simp only [Array.toList_push,List.map_append,List.map_cons,List.map_nil]
     rw [List.nodup_append];refine ⟨M,by simp,fun a ha b hb' e=>?_⟩;simp only [uM] at hb';obtain ⟨x,u,rfl⟩:=List.mem_map.1 ha;have:=E x u
     omega
   . intro x u
     rw [Array.toList_push,List.mem_append,uM] at u
     rcases u with u | rfl
     . have:=E x u;omega
     . exact Nat.lt_succ_self _
 | some p=>
   rw [hs] at C;have F:=zbw s D 0 p hs;rw [Nat.sub_zero] at F;have V:m.size=D.length:=by have:=congrArg List.length B;simpa [XH] using this
   have R:p.1<D.length:=(List.getElem?_eq_some_iff.1 F.2).1
   have T:(((m[p.1]?).map (·.key)).getD (str s))=str s:=by
    have z:(m.toList.map (fun e=>(e.key,e.val)))[p.1]?=some (str s,p.2):=by
     rw [B];unfold XH;rw [List.getElem?_map,F.2];rfl
    rw [List.getElem?_map,Array.getElem?_toList] at z
    cases h2:m[p.1]? with
    | none=>rw [h2] at z;cases z
    | some x=>
      rw [h2] at z;simp only [Option.map_some,Option.some.injEq,Prod.mk.injEq] at z
      simp [z.1]
   have S:(Instr.keyThatStays (((m[p.1]?).map (·.key)).getD (str s)) (str s)).run P w= .ok (str s) w:=by
    rw [T];unfold Instr.keyThatStays
    have:Instr.sameBits 10000 (str s) (str s)=true:=by
     show Instr.sameBits (9999+1) _ _=true
     unfold Instr.sameBits;exact (MapKept.bytes_beq _ _).2 rfl
    rw [if_pos this];rfl
   refine ⟨{ w with heap:=w.heap.setIfInBounds b (.map (m.modify p.1 fun e=>{ e with key:=str s,val:=v }) I) },?_,⟨_,_,by simp [J];exact ⟨rfl,rfl⟩,?_,?_⟩,K _,by simp⟩
   . simp only [Instr.mapUpdate,Sem.run_bind,run_underlying ht,MapKept.run_getObj_map hb,O,MapKept.run_findKey hk C,S,MapKept.run_setObj_map _ hb,Result.andThen]
   . unfold XH at B |-
     apply List.ext_getElem?
     intro j;have L:=congrArg (fun l=>l[j]?) B;simp only [List.getElem?_map,Array.getElem?_toList] at L;rw [List.getElem?_map,List.getElem?_map,Array.getElem?_toList,Array.getElem?_modify,List.getElem?_set]
     by_cases G:p.1=j
     rotate_left
     . rw [if_neg G,if_neg G];exact L
     subst G
     rw [if_pos rfl,if_pos rfl,if_pos R];have:p.1<m.size:=by omega
     rw [Array.getElem?_eq_getElem this]
     rfl
   . have N:(m.modify p.1 fun e=>{ e with key:=str s,val:=v }).toList.map (·.born)=m.toList.map (·.born):=by
      apply List.ext_getElem?
      intro j;rw [List.getElem?_map,List.getElem?_map,Array.getElem?_toList,Array.getElem?_toList,Array.getElem?_modify]
      split
      . cases m[j]?<;>rfl
      rfl
     refine ⟨by rw [N];exact M,fun x u=>?_⟩;have:x.born∈m.toList.map (·.born):=by rw [<- N];exact List.mem_map.2 ⟨x,u,rfl⟩
     obtain ⟨y,U,e⟩:=List.mem_map.1 this;have:=E y U
     omega
end
section
variable {P:Program} {ops:Array Oper} {rest:List Oper} {o:Oper} {a:Act} {Q:Exit->Act->World->Prop}
end
theorem zf3 {s:List UInt8} {v:Value} {D:List (List UInt8×Value)} (h:VW s D=some v):(s,v)∈D:=by
 unfold VW at h
 obtain ⟨p,b,rfl⟩:=Option.map_eq_some_iff.1 h
 exact List.mem_of_getElem? (zbw s D 0 p b).2
def zO (w:World) (b:Nat):Prop:=∀ p:Addr,p.block=b->∀ x,w.cell? p≠some (.int .u32 x)
section
variable {S T:Nat->Prop} {w w1 w2 w' :World}
theorem Chg.map {b:Nat} {D:List (List UInt8×Value)} (h:Chg S w w') (hb:Zm w b D) (hg:¬ S b):Zm w' b D:=hb.keep (h.block b hb.lt hg)
theorem Chg.nat {v:Value} {n:Nat} (h:Chg S w w') (hn:yt w v n) (hS:∀ b,S b->zO w b):yt w' v n:=by
 obtain ⟨A,c,E,e,B,y,l,C,z⟩:=hn
 refine ⟨A,c,E,e,B,y,⟨l.1,fun h0=>?_⟩,C,z⟩
 obtain ⟨G,D,hb,F⟩:=l.2 h0
 refine ⟨G,D,uK hb h.size,fun j u hu=>?_⟩
 have m:=F j u hu
 have r:∃ d:Nat,u= .int .u32 (d:Int):=by
  unfold Xc at hu
  rw [List.getElem?_map] at hu
  obtain ⟨d,_,e⟩:=Option.map_eq_some_iff.1 hu
  exact ⟨d,e.symm⟩
 obtain ⟨d,rfl⟩:=r
 exact h.cell m (fun hs=>hS _ hs _ rfl _ m)
theorem Chg.num {v:Value} {z:Int} (h:Chg S w w') (hn:zN w v z) (hS:∀ b,S b->zO w b):zN w' v z:=by
 rcases hn with j | ⟨m,k,c,n,ng,e,j,l⟩
 . exact .inl j
 . exact .inr ⟨m,k,c,n,ng,e,h.nat j hS,l⟩
theorem Chg.rat {v:Value} {q:Rat} (h:Chg S w w') (hn:zV w v q) (hS:∀ b,S b->zO w b):zV w' v q:=by
 obtain ⟨x,A,k,c,s,y,B,k',c',t,rfl,e,j⟩:=hn
 exact ⟨_,_,_,_,_,_,_,_,_,_,rfl,h.num e hS,h.num j hS⟩
end
theorem Chg.ratSet {w:World} {g:Nat} {x y:Int} {A B:Option Addr} {k c k' c' :Nat} {s t:Bool}:Chg (· =g) w (World.rat w g x A k c s y B k' c' t):=by
 simp only [World.rat]
 apply Chg.setCell (S:=fun b=>b=g) ?_ (by rfl)
 apply Chg.setCell (S:=fun b=>b=g) ?_ (by rfl)
 apply Chg.setCell (S:=fun b=>b=g) ?_ (by rfl)
 apply Chg.setCell (S:=fun b=>b=g) ?_ (by rfl)
 apply Chg.setCell (S:=fun b=>b=g) ?_ (by rfl)
 apply Chg.setCell (S:=fun b=>b=g) ?_ (by rfl)
 exact Chg.refl w
theorem Zm.noDig {w:World} {b:Nat} {D:List (List UInt8×Value)} (h:Zm w b D):zO w b:=by
 obtain ⟨l,c,hb,_⟩:=h
 intro p e x j
 subst e
 simp [World.cell?,hb] at j
def zu (w:World) (b:Nat):Prop:=∃ D,Zm w b D/\∀ p∈D,∃ q,zj p.1=some q/\zV w p.2 q
theorem zu.lt {w:World} {b:Nat} (h:zu w b):b<w.heap.size:=by obtain ⟨D,h,_⟩:=h;exact h.lt
theorem zu.noDig {w:World} {b:Nat} (h:zu w b):zO w b:=by obtain ⟨D,h,_⟩:=h;exact h.noDig
theorem zu.chg {S:Nat->Prop} {w w' :World} {b:Nat} (h:zu w b) (hc:Chg S w w') (hb:¬ S b) (hS:∀ b,S b->zO w b):zu w' b:=by
 obtain ⟨D,e,l⟩:=h
 refine ⟨D,hc.map e hb,fun p hp=>?_⟩
 obtain ⟨q,m,j⟩:=l p hp
 exact ⟨q,m,hc.rat j hS⟩
theorem zu.below {w w' :World} {b:Nat} (h:zu w b) (hb:Below w.heap.size w w'):zu w' b:=h.chg (S:=fun _=>False) (Chg.of_below hb) (fun h=>h) (fun _ h=>h.elim)
theorem zu.new (w:World):zu (w.alloc (.map #[] 0)) w.heap.size:=⟨[],Zm.new w,fun p hp=>by cases hp⟩
theorem zqb {s:List UInt8} {v:Value} {D:List (List UInt8×Value)} {p:List UInt8×Value} (h:p∈zjp s v D):p∈D\/p=(s,v):=by
 unfold zjp at h
 split at h
 rotate_left
 . exact List.mem_or_eq_of_mem_set h
 rcases List.mem_append.1 h with h | h
 . exact .inl h
 . exact .inr (by simpa using h)
theorem zu.put {w w' :World} {b:Nat} {s:List UInt8} {v:Value} {q:Rat} {D:List (List UInt8×Value)} (h:∀ p∈D,∃ q,zj p.1=some q/\zV w p.2 q) (hm:Zm w b D) (hq:zj s=some q) (hv:zV w v q)
 (hm' :Zm w' b (zjp s v D)) (hg:w.grownBy w' (some b)):zu w' b:=by
 have l:Chg (fun k=>k=b) w w' :=Chg.of_grown hg rfl
 have hS:∀ k,k=b->zO w k:=fun k e=>by subst e;exact hm.noDig
 refine ⟨_,hm',fun p hp=>?_⟩
 rcases zqb hp with j | j
 . obtain ⟨u,m,r⟩:=h p j
   exact ⟨u,m,l.rat r hS⟩
 . subst j
   exact ⟨q,hq,l.rat hv hS⟩
theorem zV.agg {w:World} {v:Value} {q:Rat} (h:zV w v q):zvh v:=by
 obtain ⟨x,A,k,c,s,y,B,k',c',t,rfl,b,e⟩:=h
 exact ⟨_,_,_,_,_,_,_,_,_,_,rfl⟩
def ztt (w:World) (b:Nat) (l:List UInt8) (e:Ending) (w' :World):Prop:=
 ∃ v ok,e= .returned (.tuple #[v,.bool ok])/\zvh v/\ok=(zj l).isSome/\(∀ q,zj l=some q->zV w' v q)/\zu w' b/\Chg (· =b) w w'
open Go.Deep
def ZP (v:Value):Prop:=∀ x,v≠ .int .u32 x
theorem V9 {w:World} {b:Nat} {cs:Array Value} {t:TypeId} {fr:Nat×Nat} (h:w.heap[b]?=some (.cells cs t fr)) (hn:∀ u∈cs,ZP u):zO w b:=by
 intro p j x e
 unfold World.cell? at e
 rw [j,h] at e
 simp only at e
 split at e
 . cases e
 exact hn _ (Array.mem_of_getElem? e) x rfl
theorem zdn {cs:Array Value} (h:vD cs):∀ u∈cs,ZP u:=by
 intro u hu x e
 subst e
 obtain ⟨i,hi,e⟩:=Array.mem_iff_getElem.1 hu
 exact h i x (by rw [Array.getElem?_eq_getElem hi,e])
theorem ZK {cs:Array Value} (h:∀ u∈cs,ZP u):vD cs:=fun i d e=>h _ (Array.mem_of_getElem? e) d rfl
theorem Blk.noDig {w:World} {g:Nat} {t:TypeId} {cs:Array Value} (h:Blk w g t cs) (hn:vD cs):zO w g:=V9 h (zdn hn)
theorem xe (x:Int):ZP (.int .i64 x):=fun _ e=>by cases e
theorem vH (b:Bool):ZP (.bool b):=fun _ e=>by cases e
theorem yf (A:Option Addr) (n c:Nat):ZP (.slice A n c):=fun _ e=>by cases e
theorem vY (s:ByteArray):ZP (.string s):=fun _ e=>by cases e
theorem zq7 (b:Option Nat):ZP (.map b):=fun _ e=>by cases e
section
variable {S:Nat->Prop} {w w' :World}
theorem Chg.noDig {b:Nat} (h:Chg S w w') (hn:zO w b) (hb:b<w.heap.size) (hS:¬ S b):zO w' b:=by
 intro p e x j
 refine hn p e x ?_
 rw [<- j]
 unfold World.cell?
 rw [e,h.block b hb hS]
end
def zd8 (w:World) (g k:Nat) (z:Int):Prop:=
 ∃ (x:Int) (A:Option Addr) (n c:Nat) (ng:Bool),w.cell? ⟨g,k*3,none⟩=some (.int .i64 x)/\w.cell? ⟨g,k*3+1,none⟩=some (.slice A n c)/\w.cell? ⟨g,k*3+2,none⟩=some (.bool ng)/\
  zN w (.agg #[.int .i64 x,.slice A n c,.bool ng]) z
def xq (w:World) (g L n:Nat) (f:Nat->Int):Prop:=(∃ cs,Blk w g 58 cs/\cs.size=L*3/\vD cs)/\∀ k,k<n->zd8 w g k (f k)
abbrev World.numAt (w:World) (g k:Nat) (x:Int) (A:Option Addr) (n c:Nat) (ng:Bool):World:=
 ((w.setCell ⟨g,k*3,none⟩ (.int .i64 x)).setCell ⟨g,k*3+1,none⟩ (.slice A n c)).setCell ⟨g,k*3+2,none⟩ (.bool ng)
section
variable {S:Nat->Prop} {w w' :World} {g L n:Nat} {f:Nat->Int}
theorem zd8.chg {k:Nat} {q:Int} (h:zd8 w g k q) (hc:Chg S w w') (hg:¬ S g) (hS:∀ b,S b->zO w b):zd8 w' g k q:=by
 obtain ⟨x,A,n,c,ng,l,e,j,m⟩:=h
 exact ⟨x,A,n,c,ng,hc.cell l hg,hc.cell e hg,hc.cell j hg,hc.num m hS⟩
theorem zd8.below {k:Nat} {q:Int} (h:zd8 w g k q) (hb:Below w.heap.size w w'):zd8 w' g k q:=h.chg (S:=fun _=>False) (Chg.of_below hb) (fun h=>h) (fun _ h=>h.elim)
theorem xq.lt (h:xq w g L n f):g<w.heap.size:=by obtain ⟨⟨cs,h,_⟩,_⟩:=h;exact h.lt
theorem xq.noDig (h:xq w g L n f):zO w g:=by obtain ⟨⟨cs,h,_,b⟩,_⟩:=h;exact h.noDig b
theorem xq.chg (h:xq w g L n f) (hc:Chg S w w') (hg:¬ S g) (hS:∀ b,S b->zO w b):xq w' g L n f:=by
 obtain ⟨⟨cs,e,j,m⟩,l⟩:=h
 exact ⟨⟨cs,hc.blk e hg,j,m⟩,fun k hk=>(l k hk).chg hc hg hS⟩
theorem xq.below (h:xq w g L n f) (hb:Below w.heap.size w w'):xq w' g L n f:=h.chg (S:=fun _=>False) (Chg.of_below hb) (fun h=>h) (fun _ h=>h.elim)
theorem xq.frozen (h:xq w g L n f) (i:Nat):w.frozen? ⟨g,i,none⟩=false:=by obtain ⟨⟨cs,h,_⟩,_⟩:=h;exact h.frozen i
theorem xq.slots (h:xq w g L n f) {k:Nat} (hk:k<L):∃ u0 u1 u2,w.cell? ⟨g,k*3,none⟩=some u0/\w.cell? ⟨g,k*3+1,none⟩=some u1/\w.cell? ⟨g,k*3+2,none⟩=some u2:=by
 obtain ⟨⟨cs,b,e,j⟩,_⟩:=h
 refine ⟨cs[k*3]'(by omega),cs[k*3+1]'(by omega),cs[k*3+2]'(by omega),?_,?_,?_⟩
 all_goals rw [b.cell,Array.getElem?_eq_getElem]
theorem xq.fewer (h:xq w g L n f) {m:Nat} {f' :Nat->Int} (hm:∀ k,k<m->k<n/\f' k=f k):xq w g L m f' :=by
 refine ⟨h.1,fun k hk=>?_⟩
 obtain ⟨b,e⟩:=hm k hk
 rw [e];exact h.2 k b
theorem vm {k:Nat} {x:Int} {ng:Bool} {A:Option Addr} {n c:Nat}:Chg (· =g) w (World.numAt w g k x A n c ng):=
 Chg.setCell (S:=fun b=>b=g) (Chg.setCell (S:=fun b=>b=g) (Chg.setCell (S:=fun b=>b=g) (Chg.refl w) (p:=⟨g,k*3,none⟩) rfl _) (p:=⟨g,k*3+1,none⟩) rfl _) (p:=⟨g,k*3+2,none⟩) rfl _
theorem xb {cs:Array Value} (h:vD cs) {u:Value} (hu:ZP u) (i:Nat):vD (cs.setIfInBounds i u):=by
 intro j x e
 rw [Array.getElem?_setIfInBounds] at e
 split at e
 rotate_left
 . exact h j x e
 split at e
 . injection e with e;exact hu x e
 cases e
theorem xq.set {k m' :Nat} {q:Int} {f' :Nat->Int} {x:Int} {ng:Bool} {A:Option Addr} {n1 c:Nat} (h:xq w g L n f) (hk:k<L) (hv:zN w (.agg #[.int .i64 x,.slice A n1 c,.bool ng]) q)
 (hf:∀ j,j<m' ->(j=k/\f' j=q)\/(j≠k/\j<n/\f' j=f j)):xq (World.numAt w g k x A n1 c ng) g L m' f' :=by
 have u:=vm (w:=w) (g:=g) (k:=k) (x:=x) (ng:=ng) (A:=A) (n:=n1) (c:=c)
 have hS:∀ b,b=g->zO w b:=fun b e=>by subst e;exact h.noDig
 have z :=u.num hv hS
 obtain ⟨⟨cs,r,E,G⟩,F⟩:=h
 have hb:=((r.set_ (k*3) (.int .i64 x)).set_ (k*3+1) (.slice A n1 c)).set_ (k*3+2) (.bool ng)
 refine ⟨⟨_,hb,by simpa using E,xb (xb (xb G (xe _) _) (yf _ _ _) _) (vH _) _⟩,fun j hj=>?_⟩
 rcases hf j hj with ⟨rfl,e⟩ | ⟨J,C,e⟩
 . rw [e]
   refine ⟨x,A,n1,c,ng,?_,?_,?_,z⟩
   . rw [hb.cell];simp [Array.getElem?_setIfInBounds];omega
   . rw [hb.cell];simp [Array.getElem?_setIfInBounds];omega
   . rw [hb.cell];simp [Array.getElem?_setIfInBounds];omega
 . rw [e]
   obtain ⟨I,A',n',c',B,l,m,y,D⟩:=F j C;rw [r.cell] at l m y;refine ⟨I,A',n',c',B,?_,?_,?_,u.num D hS⟩
   . rw [hb.cell,Array.getElem?_setIfInBounds,if_neg (by omega),Array.getElem?_setIfInBounds,if_neg (by omega),Array.getElem?_setIfInBounds,if_neg (by omega)];exact l
   . rw [hb.cell,Array.getElem?_setIfInBounds,if_neg (by omega),Array.getElem?_setIfInBounds,if_neg (by omega),Array.getElem?_setIfInBounds,if_neg (by omega)];exact m
   . rw [hb.cell,Array.getElem?_setIfInBounds,if_neg (by omega),Array.getElem?_setIfInBounds,if_neg (by omega),Array.getElem?_setIfInBounds,if_neg (by omega)];exact y
end
def vE (w:World) (base:Nat) (e:TypeId) (size:Nat) (v:Value) (n:Nat) (xs:List Value):Prop:=w.ownsRow base e size v n xs/\∀ g,v.ownBlock=some g->zO w g
theorem Zr (w:World) (base:Nat) (e:TypeId) (size:Nat):vE w base e size (.slice none 0 0) 0 []:=⟨World.ownsRow_nil w base e size,fun g h=>by cases h⟩
section
variable {S:Nat->Prop} {w w' :World} {base n size:Nat} {e:TypeId} {v:Value} {xs:List Value}
theorem vE.chg (h:vE w base e size v n xs) (hc:Chg S w w') (hS:∀ g,v.ownBlock=some g->¬ S g):vE w' base e size v n xs:=by
 obtain ⟨b,r⟩:=h
 have l:=b.lt
 refine ⟨⟨b.1,?_⟩,fun g hg=>hc.noDig (r g hg) (l g hg).2 (hS g hg)⟩
 rcases b.2 with j | ⟨g,y,m,rfl,j,u,z⟩
 . exact .inl j
 . exact .inr ⟨g,y,m,rfl,j,(hc.block g (l g rfl).2 (hS g rfl)).trans u,z⟩
theorem vE.below (h:vE w base e size v n xs) (hb:Below w.heap.size w w'):vE w' base e size v n xs:=h.chg (S:=fun _=>False) (Chg.of_below hb) (fun _ _ h=>h)
theorem vE.stored {g cap:Nat} (h:vE w base e size (.slice (some ⟨g,0,none⟩) n cap) n xs) (j:Nat) {u:Value} (hu:ZP u):
 vE (w.setCell ⟨g,j,none⟩ u) base e size (.slice (some ⟨g,0,none⟩) n cap) n (xs.set j u):=by
 refine ⟨(h.1.stored j u).1,fun k hk=>?_⟩
 obtain rfl:g=k:=by simpa [Value.ownBlock] using hk
 have r:=h.2 g rfl
 rcases h.1.2 with b | ⟨g',z,l,b,hb,m,_⟩
 . simp at b
 . simp only [Value.slice.injEq,Option.some.injEq,Addr.mk.injEq,and_true,true_and] at b
   obtain ⟨rfl,rfl⟩:=b;refine V9 (heap_setCell_same w g j l e u m) ?_;refine zdn (xb ?_ hu j);intro i x y;exact r ⟨g,i,none⟩ rfl x (by rw [cell_of_row w g i l e (0,0) m];exact y)
end
theorem XR {z:Array Value} {k:Nat} {u:Value} (h:u∈Builtin.zeroCells z k) (hz:0<z.size):u∈z:=by
 unfold Builtin.zeroCells at h
 rw [Array.mem_map] at h
 obtain ⟨i,_,rfl⟩:=h
 have:=Nat.mod_lt i hz
 rw [getElem!_pos z _ this]
 exact Array.getElem_mem this
section
variable {P:Program} (w:World)
theorem Y2 (base:Nat) (t ty e:TypeId) (i:TypeInfo) (z:Value) (size bytes:Nat) (ht:P.underlying t=some (.slice e)) (hi:P.info? e=some i) (hz:i.zero=some z)
 (hsize:i.size=size) (hby:i.bytes=bytes) (hzs:z.cells.size=size) (hsz:0<size)
 (v:Value) (n:Nat) (xs:List Value) (hown:vE w base e size v n xs)
 (ad:Addr) (m c:Nat) (news:List Value) (hl:news.length=m*size) (hm:0<m) (hnews:∀ j u,news[j]?=some u->w.cell? (ad.add j)=some u) (h1:∀ u∈news,u.oneCell' =true)
 (hno:∀ u∈news,ZP u) (hzn:∀ u∈z.cells,ZP u) (h63:n+m<=maxLen) (hbytes:(n+m)*bytes<=140737488355328) (hbase:base<=w.heap.size):
 ∃ y w',(Builtin.append_ #[t,t] ty #[v,.slice (some ad) m c]).run P w= .ok y w' /\vE w' base e size y (n+m) (xs ++ news)/\w.grownBy w' v.ownBlock/\(y.ownBlock=v.ownBlock\/y.ownBlock=some w.heap.size):=by
 obtain ⟨y,w',D,N,X,_,R⟩:=run_append_own_at (P:=P) w base t ty e i z size bytes ht hi hz hsize hby hzs hsz v n xs hown.1 ad m c news hl hnews h1 h63 hbytes hbase
 refine ⟨y,w',D,⟨N,fun g hg=>?_⟩,X,R⟩
 subst hsize
 subst hby
 have Y:n+m<=9223372036854775807:=by simp only [maxLen] at h63;omega
 have Q:∀ u∈xs,ZP u:=by
  rcases hown.1.2 with ⟨rfl,F⟩ | ⟨g',C,b,rfl,U,B,V,O,M,L⟩
  . have:xs=[]:=uI (by rw [hown.1.1,F];omega)
    subst this;intro u hu;cases hu
  . intro u hu x E
    subst E;rw [<- L] at hu;have G:=List.mem_of_mem_take hu;obtain ⟨k,I,l⟩:=List.mem_iff_getElem.1 G;refine hown.2 g' rfl ⟨g',k,none⟩ rfl x ?_;rw [cell_of_row w g' k b e (0,0) B, <- Array.getElem?_toList,List.getElem?_eq_getElem I,l]
 rcases hown.1.2 with ⟨rfl,F⟩ | ⟨g',C,b,rfl,U,B,V,O,M,L⟩
 . subst F
   have r:=run_append_nil (P:=P) w t ty e i z ht hi hz ad m c news hl hnews hm (by omega) (by have hb:=hbytes;simp only [Nat.zero_add] at hb;omega);rw [D] at r;injection r with l e2
   subst l e2;obtain rfl:w.heap.size=g:=by simpa [Value.ownBlock] using hg
   refine V9 (heap_alloc_new w.drew _) ?_;intro u hu
   rcases Array.mem_append.1 hu with h | h
   . exact hno u (by simpa using h)
   . exact hzn u (XR h (by omega))
 . by_cases J:n+m<=C
   rotate_left
   . have S:∀ j u,xs[j]?=some u->w.cell? ((⟨g',0,none⟩:Addr).add j)=some u:=hown.1.cells (g:=g') rfl
     have r:=run_append_grow (P:=P) w t ty e i z ht hi hz ⟨g',0,none⟩ n C xs hown.1.1 S ad m c news hl hnews (by omega) (by omega) (growslice_fits (by omega) hbytes);rw [D] at r;injection r with l e2
     subst l e2;obtain rfl:w.heap.size=g:=by simpa [Value.ownBlock] using hg
     refine V9 (heap_alloc_new w.drew _) ?_;intro u hu
     rcases Array.mem_append.1 hu with h | h
     . rcases Array.mem_append.1 h with h | h
       . exact Q u (by simpa using h)
       . exact hno u (by simpa using h)
     . exact hzn u (XR h (by omega))
   have T:n*i.size+news.length<=b.size:=by rw [hl,M, <- Nat.add_mul];exact Nat.mul_le_mul_right _ J
   have r:=run_append_room (P:=P) w t ty e i ht hi g' n C b B ad m c news hl hnews h1 J T;rw [D] at r;injection r with l e2
   subst l e2;obtain rfl:g' =g:=by simpa [Value.ownBlock] using hg
   refine V9 (setRow_heap w g' b _ e _ B) ?_
   have K:∀ u∈b.toList,ZP u:=by
    intro u hu x E;subst E;obtain ⟨k,I,l⟩:=List.mem_iff_getElem.1 hu;refine hown.2 g' rfl ⟨g',k,none⟩ rfl x ?_;rw [cell_of_row w g' k b e (0,0) B, <- Array.getElem?_toList,List.getElem?_eq_getElem I,l]
   intro u hu;have G:u∈b.toList.take (n*i.size) ++ news ++ b.toList.drop (n*i.size+news.length):=by simpa using hu
   rcases List.mem_append.1 G with h | h
   . rcases List.mem_append.1 h with h | h
     . exact K u (List.mem_of_mem_take h)
     . exact hno u h
   . exact K u (List.mem_of_mem_drop h)
theorem yk {w:World} {ops:Array Oper} {rest:List Oper} {o:Oper} {a:Act} {Q:Exit->Act->World->Prop} (hgd:o.guard=none) (s x:Operand) (t:TypeId)
 (ho:o.op= .call { callee:=.builtin .append,args:=#[s,x],argTypes:=#[t,t] })
 (base:Nat) (e:TypeId) (i:TypeInfo) (z:Value) (size bytes:Nat) (ht:P.underlying t=some (.slice e)) (hi:P.info? e=some i) (hz:i.zero=some z)
 (hsize:i.size=size) (hby:i.bytes=bytes) (hzs:z.cells.size=size) (hsz:0<size)
 (v:Value) (n:Nat) (xs:List Value) (hs:a.eval s=v) (hown:vE w base e size v n xs)
 (ad:Addr) (m c:Nat) (news:List Value) (hx:a.eval x= .slice (some ad) m c) (hl:news.length=m*size) (hm:0<m) (hnews:∀ j u,news[j]?=some u->w.cell? (ad.add j)=some u) (h1:∀ u∈news,u.oneCell' =true)
 (hno:∀ u∈news,ZP u) (hzn:∀ u∈z.cells,ZP u) (h63:n+m<=maxLen) (hbytes:(n+m)*bytes<=140737488355328) (hbase:base<=w.heap.size)
 (h:∀ b w',vE w' base e size b (n+m) (xs ++ news)->w.grownBy w' v.ownBlock->(b.ownBlock=v.ownBlock\/b.ownBlock=some w.heap.size)->wpList P ops Q rest (a.put o.dst b) w'):wpList P ops Q (o :: rest) a w:=
 wpList_plain hgd fun K hK=>by
  obtain ⟨b,w',l,r,B,y⟩:=Y2 (P:=P) w base t o.type e i z size bytes ht hi hz hsize hby hzs hsz v n xs hown ad m c news hl hm hnews h1 hno hzn h63 hbytes hbase
  unfold Oper.wp execOp
  simp only [ho,resolve,invoke,builtin,Sem.run_bind,Sem.run_pure,Result.andThen_ok,List.map_toArray,List.map_cons,List.map_nil,hs,hx,l]
  exact hK _ _ (h b w' r B y)
end
def Yu (w:World) (b:Nat):Prop:=∀ p:Addr,p.block=b->w.cell? p=none
theorem Zm.noCells {w:World} {b:Nat} {D:List (List UInt8×Value)} (h:Zm w b D):Yu w b:=by
 obtain ⟨j,c,hb,_⟩:=h
 intro p e
 subst e
 simp [World.cell?,hb]
theorem zu.noCells {w:World} {b:Nat} (h:zu w b):Yu w b:=by obtain ⟨D,h,_⟩:=h;exact h.noCells
theorem ys.chg {S:Nat->Prop} {w w' :World} {B size n:Nat} {A:Option Addr} {xs:List Value} (h:ys w B size A n xs) (hc:Chg S w w') (hS:∀ b,b<B->S b->Yu w b):ys w' B size A n xs:=
 ⟨h.1,fun hn=>by
  obtain ⟨r,e,hb,m⟩:=h.2 hn
  exact ⟨r,e,hb,fun j u hu=>hc.cell (m j u hu) (fun hs=>by
   have l:=hS _ (by rw [zU];exact hb) hs _ rfl
   rw [m j u hu] at l;cases l)⟩⟩
def vC (n:Nat) (f g:Nat->Value):List Value:=(List.range n).flatMap fun i=>[f i,g i]
theorem Zl (n:Nat) (f g:Nat->Value):vC (n+1) f g=vC n f g ++ [f n,g n]:=by
 unfold vC
 rw [List.range_succ,List.flatMap_append]
 simp
theorem zfy (n:Nat) (f g:Nat->Value):(vC n f g).length=n*2:=by
 induction n with
 | zero=>rfl
 | succ n ih=>rw [Zl,List.length_append,ih];simp;omega
theorem zl1 {n:Nat} {f g:Nat->Value} {k:Nat} (hk:k<n):(vC n f g)[k*2]?=some (f k)/\(vC n f g)[k*2+1]?=some (g k):=by
 induction n with
 | zero=>omega
 | succ n ih=>
   rw [Zl];have hl:=zfy n f g
   rcases uL k n with h | h
   . rw [List.getElem?_append_left (by omega),List.getElem?_append_left (by omega)];exact ih h
   . obtain rfl:k=n:=by omega
     rw [List.getElem?_append_right (by omega),List.getElem?_append_right (by omega),hl,show k*2 - k*2=0 by omega,show k*2+1 - k*2=1 by omega];exact ⟨rfl,rfl⟩
theorem zaz {n:Nat} {f g f' g' :Nat->Value} (h:∀ k,k<n->f k=f' k/\g k=g' k):vC n f g=vC n f' g' :=by
 induction n with
 | zero=>rfl
 | succ n ih=>rw [Zl,Zl,ih (fun k hk=>h k (by omega)),(h n (by omega)).1,(h n (by omega)).2]
theorem zm8 (ad:Addr) (i:Nat):(⟨(ad.add i).block,(ad.add i).off+1,none⟩:Addr)=ad.add (i+1):=by
 unfold Addr.add
 by_cases h:i=0
 . subst h;simp
 rw [if_neg h,if_neg (by omega)];simp [Nat.add_assoc]
theorem ys.at2 {w:World} {B n:Nat} {A:Option Addr} {f g:Nat->Value} (h:ys w B 2 A n (vC n f g)) {k:Nat} (hk:k<n):
 ∃ b,A=some b/\b.block<B/\w.cell? (b.add (k*2))=some (f k)/\w.cell? ⟨(b.add (k*2)).block,(b.add (k*2)).off+1,none⟩=some (g k):=by
 obtain ⟨b,e,hb,l⟩:=h.2 (by omega)
 have j:=zl1 (f:=f) (g:=g) hk
 exact ⟨b,e,hb,l _ _ j.1,by rw [zm8];exact l _ _ j.2⟩
def yc (l:List UInt8):Prop:=l.length<=1073741824
def XT (l:List zr) (i:Nat):Value:=str (l.getD i default).name
def XN (l:List zr) (i:Nat):Value:=str (l.getD i default).coef
def zh (w:World) (B:Nat) (v:Value) (l:List zr):Prop:=
 ∃ A c,v= .slice A l.length c/\l.length<=c/\c<=maxLen/\l.length<=100000/\ys w B 2 A l.length (vC l.length (XT l) (XN l))/\∀ x∈l,yc x.name/\yc x.coef
def YH (l:List zS) (i:Nat):Value:=str (l.getD i default).bound
def zR (w:World) (B:Nat) (v:Value) (l:List zS):Prop:=
 ∃ A c H,v= .slice A l.length c/\l.length<=c/\c<=maxLen/\l.length<=100000/\ys w B 2 A l.length (vC l.length H (YH l))/\(∀ i,i<l.length->zh w B (H i) (l.getD i default).terms)/\∀ x∈l,yc x.bound
abbrev yu (w:World) (v:Value) (l:List zr):Prop:=zh w w.heap.size v l
abbrev Zi (w:World) (v:Value) (l:List zS):Prop:=zR w w.heap.size v l
section
variable {S:Nat->Prop} {w w' :World} {B B' :Nat} {v:Value}
theorem zh.chg {l:List zr} (h:zh w B v l) (hc:Chg S w w') (hS:∀ b,b<B->S b->Yu w b):zh w' B v l:=by
 obtain ⟨A,c,r,j,y,m,u,e⟩:=h
 exact ⟨A,c,r,j,y,m,u.chg hc hS,e⟩
theorem zh.more {l:List zr} (h:zh w B v l) (hB:B<=B'):zh w B' v l:=by
 obtain ⟨A,c,m,e,u,j,r,b⟩:=h
 exact ⟨A,c,m,e,u,j,r.more hB,b⟩
theorem zR.chg {l:List zS} (h:zR w B v l) (hc:Chg S w w') (hS:∀ b,b<B->S b->Yu w b):zR w' B v l:=by
 obtain ⟨A,c,H,u,j,z,m,y,e,r⟩:=h
 exact ⟨A,c,H,u,j,z,m,y.chg hc hS,fun i hi=>(e i hi).chg hc hS,r⟩
theorem zR.more {l:List zS} (h:zR w B v l) (hB:B<=B'):zR w B' v l:=by
 obtain ⟨A,c,H,r,e,y,j,u,b,m⟩:=h
 exact ⟨A,c,H,r,e,y,j,u.more hB,fun i hi=>(b i hi).more hB,m⟩
theorem zh.below {l:List zr} (h:zh w B v l) (hb:Below w.heap.size w w'):zh w' B v l:=h.chg (S:=fun _=>False) (Chg.of_below hb) (fun _ _ h=>h.elim)
theorem zR.below {l:List zS} (h:zR w B v l) (hb:Below w.heap.size w w'):zR w' B v l:=h.chg (S:=fun _=>False) (Chg.of_below hb) (fun _ _ h=>h.elim)
end
theorem zh.len {w:World} {B:Nat} {A:Option Addr} {n c:Nat} {l:List zr} (h:zh w B (.slice A n c) l):n=l.length:=by obtain ⟨_,_,e,_⟩:=h;injection e
theorem zh.bound {w:World} {B:Nat} {v:Value} {l:List zr} (h:zh w B v l):l.length<=100000:=by obtain ⟨_,_,_,_,_,h,_⟩:=h;exact h
theorem zh.at_ {w:World} {B:Nat} {A:Option Addr} {n c:Nat} {l:List zr} (h:zh w B (.slice A n c) l) {k:Nat} (hk:k<l.length):
 ∃ b,A=some b/\b.block<B/\w.cell? (b.add (k*2))=some (str l[k].name)/\w.cell? ⟨(b.add (k*2)).block,(b.add (k*2)).off+1,none⟩=some (str l[k].coef)/\yc l[k].name/\yc l[k].coef:=by
 obtain ⟨A',c',e,_,_,_,y,u⟩:=h
 injection e with e1 e2 e3
 subst e1
 obtain ⟨b,e,hb,m,r⟩:=y.at2 hk
 have j:=u _ (uO hk)
 have hd:=xGD (d:=default) hk
 simp only [XT,XN,hd] at m r
 exact ⟨b,e,hb,m,r,j.1,j.2⟩
theorem zR.len {w:World} {B:Nat} {A:Option Addr} {n c:Nat} {l:List zS} (h:zR w B (.slice A n c) l):n=l.length:=by obtain ⟨_,_,_,e,_⟩:=h;injection e
theorem zR.at_ {w:World} {B:Nat} {A:Option Addr} {n c:Nat} {l:List zS} (h:zR w B (.slice A n c) l) {k:Nat} (hk:k<l.length):
 ∃ b j nt r,A=some b/\b.block<B/\w.cell? (b.add (k*2))=some (.slice j nt r)/\w.cell? ⟨(b.add (k*2)).block,(b.add (k*2)).off+1,none⟩=some (str l[k].bound)/\zh w B (.slice j nt r) l[k].terms/\yc l[k].bound:=by
 obtain ⟨A',c',H,e,_,_,_,D,z,C⟩:=h
 injection e with e1 e2 e3
 subst e1
 obtain ⟨b,e,hb,u,y⟩:=D.at2 hk
 have F:=C _ (uO hk)
 have hd:=xGD (d:=default) hk
 have m:=z k hk
 rw [hd] at m
 simp only [YH,hd] at y
 obtain ⟨j,r,E,_⟩:=id m
 rw [E] at u m
 exact ⟨b,j,_,r,e,hb,u,y,m,F⟩
theorem zu.keepR {w w' :World} {b:Nat} {v:Value} {q:Rat} (h:zu w b) (hc:Chg (· =b) w w') (hv:zV w v q):zV w' v q:=hc.rat hv (fun _ e=>by subst e;exact h.noDig)
theorem zu.keepN {w w' :World} {b:Nat} {v:Value} {q:Int} (h:zu w b) (hc:Chg (· =b) w w') (hv:zN w v q):zN w' v q:=hc.num hv (fun _ e=>by subst e;exact h.noDig)
theorem zu.keepT {w w' :World} {b B:Nat} {v:Value} {l:List zr} (h:zu w b) (hc:Chg (· =b) w w') (hv:zh w B v l):zh w' B v l:=hv.chg hc (fun _ _ e=>by subst e;exact h.noCells)
theorem zu.keepRows {w w' :World} {b B:Nat} {v:Value} {l:List zS} (h:zu w b) (hc:Chg (· =b) w w') (hv:zR w B v l):zR w' B v l:=hv.chg hc (fun _ _ e=>by subst e;exact h.noCells)
theorem zu.keepBlk {w w' :World} {b g:Nat} {t:TypeId} {cs:Array Value} (h:zu w b) (hc:Chg (· =b) w w') (hk:Blk w g t cs):Blk w' g t cs:=hc.blk hk (fun e=>by
 subst e
 obtain ⟨D,⟨j,c,hb,_⟩,_⟩:=h
 unfold Blk at hk
 rw [hb] at hk;cases hk)
theorem xre {w w' :World} {v:Value} {l:List zS} (h:Hid (zR w w.heap.size v l)) (hb:Below w.heap.size w w'):Hid (zR w' w'.heap.size v l):=(zR.below h.out hb).more hb.size
theorem xte {w w' :World} {v:Value} {l:List zr} (h:Hid (zh w w.heap.size v l)) (hb:Below w.heap.size w w'):Hid (zh w' w'.heap.size v l):=(zh.below h.out hb).more hb.size
attribute [local go_sem ↓] Go.wp_at_zero Go.wp_at_succ
theorem zdm:prog.underlying 51=some (.map 25 60):=by kernel_rfl
theorem zcj:prog.underlying 25=some .string:=by kernel_rfl
theorem ze6 (w:World):(zeroValue 60).run prog w= .ok (.agg #[.int .i64 0,.slice none 0 0,.bool false,.int .i64 0,.slice none 0 0,.bool false]) w:=by kernel_rfl
theorem xu (b:Nat) (a:ByteArray) (w:World) (hB:zu w b) (ha:a.size<=1073741824):
 Calls prog 50 #[.map (some b),.string a] w (ztt w b (bts a)):=by
 obtain ⟨D,hm,hD⟩:=hB
 have hl:=Yl (w:=w.alloc (.cells #[.int .i64 0,.slice none 0 0,.bool false,.int .i64 0,.slice none 0 0,.bool false] 60)) zdm zcj (ze6 _) (hm.keep (Below.heap_alloc _ _ _ hm.lt)) (bts a) true
 rw [show str (bts a)= .string a from by rw [zm3]] at hl
 obtain ⟨U,HD,HA⟩:=hz3 hm hD ha
 clear hm hD ha
 cases hg:VW (bts a) D with
 | some v=>
   rw [hg] at hl;simp only [Option.getD_some,Option.isSome_some,if_true] at hl;obtain ⟨q,r,hv⟩:=HD.o _ (zf3 hg);obtain ⟨x,A,k,c,s,y,B,k',c',t,rfl,h1,h2⟩:=hv;clear hg
   go_in
   go_wp2_with fail;have V:=(Blk.new w 60 #[.int .i64 x,.slice A k c,.bool s,.int .i64 y,.slice B k' c',.bool t]).alloc (.cells #[.int .i64 x,.slice A k c,.bool s,.int .i64 y,.slice B k' c',.bool t] 60);obtain ⟨e0,e1,e2,e3,e4,e5,_⟩:=bp6 V;have J:=ext (zf w (.cells #[.int .i64 x,.slice A k c,.bool s,.int .i64 y,.slice B k' c',.bool t] 60)) (zf _ (.cells #[.int .i64 x,.slice A k c,.bool s,.int .i64 y,.slice B k' c',.bool t] 60));refine bodyPost_ret (v:=.tuple #[.agg #[.int .i64 x,.slice A k c,.bool s,.int .i64 y,.slice B k' c',.bool t],.bool true]) (by simp [results,results50,go_sem,e0,e1,e2,e3,e4,e5]) rfl ?_;have hr:zV w (.agg #[.int .i64 x,.slice A k c,.bool s,.int .i64 y,.slice B k' c',.bool t]) q:=⟨_,_,_,_,_,_,_,_,_,_,rfl,h1,h2⟩;refine ⟨_,_,rfl,hr.agg,by rw [r];rfl,fun q' u =>?_,zu.below ⟨D,U.o,HD.o⟩ J,Chg.of_below J⟩;rw [r] at u;injection u with u
   subst u;exact hr.below J
 | none=>
   rw [hg] at hl;simp only [Option.getD_none,Option.isSome_none,if_true] at hl;have ag:=fun w=>Zu a w HA.o
   have V:=(Blk.new w 60 #[.int .i64 0,.slice none 0 0,.bool false,.int .i64 0,.slice none 0 0,.bool false]).alloc (.cells #[.int .i64 0,.slice none 0 0,.bool false,.int .i64 0,.slice none 0 0,.bool false] 60);have J:=ext (zf w (.cells #[.int .i64 0,.slice none 0 0,.bool false,.int .i64 0,.slice none 0 0,.bool false] 60)) (zf _ (.cells #[.int .i64 0,.slice none 0 0,.bool false,.int .i64 0,.slice none 0 0,.bool false] 60));have aj:=ze V;have HW:=ze J;clear hg V J
   go_in
   go_wp2_with fail;refine (ag _).mono ?_;rintro e w1 ⟨v,ok,rfl,⟨x,A,k,c,s,y,B,k',c',t,rfl⟩,ah,r,Q⟩;have ab:=aj.o.below Q aj.o.lt;have L:=ext HW.o Q;have M:Zm w1 b D:=U.o.below L U.o.lt;have aa:b≠w.heap.size:=Nat.ne_of_lt U.o.lt;have ad:∀ p∈D,∃ q,zj p.1=some q/\zV w1 p.2 q:=fun p hp=>(HD.o p hp).imp fun q h=>⟨h.1,h.2.below L⟩
   have Z:=zf w1 (.cells #[.int .i64 x,.slice A k c,.bool s,.int .i64 y,.slice B k' c',.bool t] 60);have l:=ab.alloc (.cells #[.int .i64 x,.slice A k c,.bool s,.int .i64 y,.slice B k' c',.bool t] 60);have Y:=Blk.new w1 60 #[.int .i64 x,.slice A k c,.bool s,.int .i64 y,.slice B k' c',.bool t];have N:=M.below Z M.lt;have ay:=M.lt;obtain ⟨R,HQ,an,ao,O⟩:=hz5 ah r L ad Z
   cases ok with
   | true=>
     obtain ⟨w2,hu,au,X,ax⟩:=Zk zdm zcj N (bts a) (.agg #[.int .i64 x,.slice A k c,.bool s,.int .i64 y,.slice B k' c',.bool t]);rw [zm3] at hu;have m:=l.grown X (fun e=>aa (by injection e with e;exact e.symm));have ak:=Y.grown X (fun e=>by injection e with e;omega);have al:=ze m;have a0:=m.cell 0;have a1:=m.cell 1;have a2:=m.cell 2;have a3:=m.cell 3;have a4:=m.cell 4;have a5:=m.cell 5;obtain ⟨f0,f1,f2,f3,f4,f5⟩:=fp6 m;obtain ⟨e0,e1,e2,e3,e4,e5,_⟩:=bp6 ak;simp at a0 a1 a2 a3 a4 a5;clear ah r L ad Z ag Q ab l Y m ak M;go_wp2_with fail;have j:=yj (x:=x) (A:=A) (k:=k) (c:=c) (s:=s) (y:=y) (B:=B) (k' :=k') (c' :=c') (t:=t) al.o;have r0:=j.cell 0;have E:=j.cell 1;have I:=j.cell 2;have C:=j.cell 3;have F:=j.cell 4;have G:=j.cell 5;simp only [World.rat] at r0 E I C F G
     simp at r0 E I C F G;refine bodyPost_ret (v:=.tuple #[.agg #[.int .i64 x,.slice A k c,.bool s,.int .i64 y,.slice B k' c',.bool t],.bool true]) (by simp [results,results50,go_sem,r0,E,I,C,F,G]) rfl ?_;obtain ⟨q,u⟩:=Option.isSome_iff_exists.1 R.o.symm;have ac:=(HQ.o q u).below O.o;have aw:∀ z,z=b->zO _ z:=fun z hz=>by subst hz;exact N.noDig
     have am:Chg (fun z=>z=b) _ w2:=Chg.of_grown X rfl;have av:zV w2 _ q:=am.rat ac aw;have af:zu w2 b:=zu.put (fun p hp=>(ao.o p hp).imp fun q h=>⟨h.1,h.2.below O.o⟩) N u ac au X;have hS:∀ z,z=w.heap.size->zO w2 z:=fun z hz=>by subst hz;exact al.o.noDig (Yg _ _ _ _ _ _ _ _ _ _)
     have K:=Chg.ratSet (w:=w2) (g:=w.heap.size) (x:=x) (A:=A) (k:=k) (c:=c) (s:=s) (y:=y) (B:=B) (k' :=k') (c' :=c') (t:=t);have ar:zV _ _ q:=K.rat av hS;have ai:Chg (fun z=>z=b) w w2:=Chg.trans (S:=fun z=>z=b) (T:=fun z=>z=b) (Chg.of_below (ext an.o O.o)) am (fun z _ h=>h);have ae:Chg (fun z=>z=b) w _:=Chg.trans (S:=fun z=>z=b) (T:=fun z=>z=w.heap.size) ai K (fun z hz h=>absurd hz (by omega));refine ⟨_,_,rfl,ac.agg,R.o,fun q' hq'' =>?_,af.chg K aa hS,ae⟩;rw [u] at hq'';injection hq'' with hq''
     subst hq'';exact ar
   | false=>
     have ap:=ze l;have a0:=l.cell 0;have a1:=l.cell 1;have a2:=l.cell 2;have a3:=l.cell 3;have a4:=l.cell 4;have a5:=l.cell 5;obtain ⟨f0,f1,f2,f3,f4,f5⟩:=fp6 l;obtain ⟨e0,e1,e2,e3,e4,e5,_⟩:=bp6 Y;simp at a0 a1 a2 a3 a4 a5;have aq:=ze N;clear ah r L ad Z ag Q ab l Y M N;go_wp2_with fail;have j:=yj (x:=x) (A:=A) (k:=k) (c:=c) (s:=s) (y:=y) (B:=B) (k' :=k') (c' :=c') (t:=t) ap.o;have r0:=j.cell 0;have E:=j.cell 1;have I:=j.cell 2;have C:=j.cell 3;have F:=j.cell 4;have G:=j.cell 5;simp only [World.rat] at r0 E I C F G;simp at r0 E I C F G;refine bodyPost_ret (v:=.tuple #[.agg #[.int .i64 x,.slice A k c,.bool s,.int .i64 y,.slice B k' c',.bool t],.bool false]) (by simp [results,results50,go_sem,r0,E,I,C,F,G]) rfl ?_
     have af:zu (w1.alloc (.cells #[.int .i64 x,.slice A k c,.bool s,.int .i64 y,.slice B k' c',.bool t] 60)) b:=⟨D,aq.o,fun p hp=>(ao.o p hp).imp fun q h=>⟨h.1,h.2.below O.o⟩⟩;have hS:∀ z,z=w.heap.size->zO (w1.alloc (.cells #[.int .i64 x,.slice A k c,.bool s,.int .i64 y,.slice B k' c',.bool t] 60)) z:=fun z hz=>by subst hz;exact ap.o.noDig (Yg _ _ _ _ _ _ _ _ _ _)
     have K:=Chg.ratSet (w:=w1.alloc (.cells #[.int .i64 x,.slice A k c,.bool s,.int .i64 y,.slice B k' c',.bool t] 60)) (g:=w.heap.size) (x:=x) (A:=A) (k:=k) (c:=c) (s:=s) (y:=y) (B:=B) (k' :=k') (c' :=c') (t:=t);have ai:Chg (fun z=>z=b) w (w1.alloc (.cells #[.int .i64 x,.slice A k c,.bool s,.int .i64 y,.slice B k' c',.bool t] 60)):=Chg.of_below (ext an.o O.o);have ae:=Chg.trans (S:=fun z=>z=b) (T:=fun z=>z=w.heap.size) ai K (fun z hz h=>absurd hz (by omega));refine ⟨_,_,rfl,⟨_,_,_,_,_,_,_,_,_,_,rfl⟩,R.o,fun q r=>?_,af.chg K aa hS,ae⟩;have h:=R.o;rw [r] at h
     cases h
def zk2 (L g:Nat):Value:=.slice (some ⟨g,0,none⟩) L L
theorem zne (L g:Nat):ZP (zk2 L g):=yf _ _ _
structure vF (base:Nat) (w:World) (mv:Value) (L m:Nat) (g:Nat->Nat) (A:Nat->Nat->Int):Prop where
 own:vE w base 89 1 mv m ((List.range m).map fun i=>zk2 L (g i))
 inj:∀ i j,i<m->j<m->g i=g j->i=j
 rows:∀ i,i<m->base<=g i/\xq w (g i) L L (A i)
theorem zjx {w:World} {base m size L n:Nat} {v:Value} {xs:List Value} {f:Nat->Int} {g:Nat} (h:vE w base 89 size v m xs) (hr:xq w g L n f):v.ownBlock≠some g:=by
 intro e
 rcases h.1.2 with ⟨rfl,_⟩ | ⟨g',l,j,rfl,_,b,_⟩
 . cases e
 . obtain rfl:g' =g:=by simpa [Value.ownBlock] using e
   obtain ⟨⟨cs,hb,_⟩,_⟩:=hr;unfold Blk at hb;rw [b] at hb;injection hb with hb
   injection hb with _ h2 _
   exact absurd h2 (by decide)
section
variable {S:Nat->Prop} {w w' :World} {base L m:Nat} {mv:Value} {g:Nat->Nat} {A:Nat->Nat->Int}
theorem vF.chg (h:vF base w mv L m g A) (hc:Chg S w w') (h1:∀ i,i<m->¬ S (g i)) (h2:∀ b,mv.ownBlock=some b->¬ S b) (hS:∀ b,S b->zO w b):vF base w' mv L m g A:=
 ⟨h.own.chg hc h2,h.inj,fun i hi=>⟨(h.rows i hi).1,(h.rows i hi).2.chg hc (h1 i hi) hS⟩⟩
theorem vF.below (h:vF base w mv L m g A) (hb:Below w.heap.size w w'):vF base w' mv L m g A:=
 h.chg (S:=fun _=>False) (Chg.of_below hb) (fun _ _ h=>h) (fun _ _ h=>h) (fun _ h=>h.elim)
theorem vF.nil (base:Nat) (w:World) (L:Nat) (g:Nat->Nat) (A:Nat->Nat->Int):vF base w (.slice none 0 0) L 0 g A:=
 ⟨Zr _ _ _ _,fun i j hi=>by omega,fun i hi=>by omega⟩
end
section
variable {w w' :World} {base L m gm cap:Nat} {g:Nat->Nat} {A:Nat->Nat->Int}
theorem vF.cell (h:vF base w (.slice (some ⟨gm,0,none⟩) m cap) L m g A) {i:Nat} (hi:i<m):w.cell? ⟨gm,i,none⟩=some (.slice (some ⟨g i,0,none⟩) L L):=by
 rw [h.own.1.cellAt i (by omega)]
 simp [hi,zk2]
theorem vF.frozen (h:vF base w (.slice (some ⟨gm,0,none⟩) m cap) L m g A) (i:Nat):w.frozen? ⟨gm,i,none⟩=false:=h.own.1.frozenAt i
theorem vF.lt (h:vF base w (.slice (some ⟨gm,0,none⟩) m cap) L m g A):base<=gm/\gm<w.heap.size:=h.own.1.lt gm rfl
theorem vF.ne (h:vF base w (.slice (some ⟨gm,0,none⟩) m cap) L m g A) {i:Nat} (hi:i<m):gm≠g i:=fun e=>zjx h.own (h.rows i hi).2 (by rw [<- e];rfl)
theorem vF.set {i k:Nat} {q:Int} {A' :Nat->Nat->Int} {x:Int} {ng:Bool} {X:Option Addr} {n1 c:Nat} (h:vF base w (.slice (some ⟨gm,0,none⟩) m cap) L m g A) (hi:i<m) (u:k<L)
 (hv:zN w (.agg #[.int .i64 x,.slice X n1 c,.bool ng]) q) (hA:∀ i' k',A' i' k' =if i' =i/\k' =k then q else A i' k'):
 vF base (World.numAt w (g i) k x X n1 c ng) (.slice (some ⟨gm,0,none⟩) m cap) L m g A' :=by
 have r:=vm (w:=w) (g:=g i) (k:=k) (x:=x) (ng:=ng) (A:=X) (n:=n1) (c:=c)
 have hS:∀ b,b=g i->zO w b:=fun b e=>by subst e;exact (h.rows i hi).2.noDig
 refine ⟨h.own.chg r (fun b hb e=>?_),h.inj,fun j hj=>⟨(h.rows j hj).1,?_⟩⟩
 . have:gm=b:=by simpa [Value.ownBlock] using hb
   exact h.ne hi (this.trans e)
 by_cases l:j=i
 rotate_left
 . have e:A' j=A j:=by funext k';rw [hA,if_neg (fun h=>l h.1)]
   rw [e];exact (h.rows j hj).2.chg r (fun e=>l (h.inj j i hj hi e)) hS
 subst l
 refine (h.rows j hj).2.set u hv fun k' hk' =>?_
 rw [hA]
 by_cases e:k' =k
 . exact .inl ⟨e,by rw [if_pos ⟨rfl,e⟩]⟩
 exact .inr ⟨e,hk',by rw [if_neg (fun h=>e h.2)]⟩
end
def zuc (w:World) (v:Value) (n:Nat) (f:Nat->Int):Prop:=
 ∃ A cap,v= .slice A n cap/\n<=cap/\cap<=maxLen/\(0<n->∃ g,A=some ⟨g,0,none⟩/\g<w.heap.size/\∀ k,k<n->zd8 w g k (f k))
def vR (w:World) (base:Nat) (v:Value) (n:Nat) (f:Nat->Int):Prop:=
 ∃ xs,vE w base 58 3 v n xs/\∀ k,k<n->∃ (x:Int) (A:Option Addr) (a c:Nat) (ng:Bool),xs[k*3]?=some (.int .i64 x)/\xs[k*3+1]?=some (.slice A a c)/\xs[k*3+2]?=some (.bool ng)/\
  zN w (.agg #[.int .i64 x,.slice A a c,.bool ng]) (f k)
section
variable {S:Nat->Prop} {w w' :World} {base n:Nat} {v:Value} {f:Nat->Int}
theorem vR.chg (h:vR w base v n f) (hc:Chg S w w') (h2:∀ b,v.ownBlock=some b->¬ S b) (hS:∀ b,S b->zO w b):vR w' base v n f:=by
 obtain ⟨xs,m,r⟩:=h
 refine ⟨xs,m.chg hc h2,fun k hk=>?_⟩
 obtain ⟨x,A,a,c,ng,e,j,u,l⟩:=r k hk
 exact ⟨x,A,a,c,ng,e,j,u,hc.num l hS⟩
theorem vR.nil (w:World) (base:Nat) (f:Nat->Int):vR w base (.slice none 0 0) 0 f:=⟨[],Zr _ _ _ _,fun k hk=>by omega⟩
theorem vR.nums (h:vR w base v n f):zuc w v n f:=by
 obtain ⟨xs,b,y⟩:=h
 rcases b.1.2 with ⟨rfl,e⟩ | ⟨g,cap,B,rfl,hb,E,u,r,D,C⟩
 . subst e
   exact ⟨none,0,rfl,uA,by unfold maxLen;omega,fun h=>by omega⟩
 . refine ⟨_,cap,rfl,u,r,fun e=>⟨g,rfl,(b.1.lt g rfl).2,fun k hk=>?_⟩⟩
   obtain ⟨x,A,a,c,ng,j,l,z,m⟩:=y k hk;refine ⟨x,A,a,c,ng,?_,?_,?_,m⟩
   . rw [b.1.cellAt _ (by omega)];exact j
   . rw [b.1.cellAt _ (by omega)];exact l
   . rw [b.1.cellAt _ (by omega)];exact z
theorem vR.push {w3:World} {v3:Value} {xs:List Value} {q:Int} {f' :Nat->Int} {x:Int} {ng:Bool} {A:Option Addr} {a c:Nat} (h1:vE w base 58 3 v n xs)
 (h3:∀ k,k<n->∃ (x:Int) (A:Option Addr) (a c:Nat) (ng:Bool),xs[k*3]?=some (.int .i64 x)/\xs[k*3+1]?=some (.slice A a c)/\xs[k*3+2]?=some (.bool ng)/\zN w (.agg #[.int .i64 x,.slice A a c,.bool ng]) (f k))
 (hown:vE w3 base 58 3 v3 (n+1) (xs ++ [.int .i64 x,.slice A a c,.bool ng])) (hg:w.grownBy w3 v.ownBlock) (hv:zN w (.agg #[.int .i64 x,.slice A a c,.bool ng]) q)
 (hf:∀ k,k<n->f' k=f k) (hq:f' n=q):vR w3 base v3 (n+1) f' :=by
 have hl:xs.length=n*3:=h1.1.1
 have j:Chg (fun b=>v.ownBlock=some b) w w3:=⟨hg.os,hg.tape,hg.output,hg.size,fun k hk hS=>hg.block k hk (fun e=>hS e.symm)⟩
 have hS:∀ b,v.ownBlock=some b->zO w b:=h1.2
 refine ⟨_,hown,fun k hk=>?_⟩
 rcases uL k n with h | h
 . obtain ⟨y,A',a',c',m,l,r,z,u⟩:=h3 k h
   refine ⟨y,A',a',c',m,?_,?_,?_,?_⟩
   . rw [List.getElem?_append_left (by omega)];exact l
   . rw [List.getElem?_append_left (by omega)];exact r
   . rw [List.getElem?_append_left (by omega)];exact z
   . rw [hf k h];exact j.num u hS
 . obtain rfl:k=n:=by omega
   refine ⟨x,A,a,c,ng,?_,?_,?_,?_⟩
   . rw [List.getElem?_append_right (by omega),hl,show k*3 - k*3=0 by omega];rfl
   . rw [List.getElem?_append_right (by omega),hl,show k*3+1 - k*3=1 by omega];rfl
   . rw [List.getElem?_append_right (by omega),hl,show k*3+2 - k*3=2 by omega];rfl
   . rw [hq];exact j.num hv hS
end
theorem vF.push {w w3:World} {base L m:Nat} {mv v3:Value} {g:Nat->Nat} {T:Nat->Nat->Int} {gl:Nat} {f:Nat->Int} (h:vF base w mv L m g T) (hr:xq w gl L L f) (hb:base<=gl) (hne:∀ j,j<m->g j≠gl)
 (hown:vE w3 base 89 1 v3 (m+1) (((List.range m).map fun i=>zk2 L (g i)) ++ [zk2 L gl])) (hg:w.grownBy w3 mv.ownBlock) (hT:∀ j,j<L->T m j=f j):
 vF base w3 v3 L (m+1) (fun i=>if i=m then gl else g i) T:=by
 have u:Chg (fun b=>mv.ownBlock=some b) w w3:=⟨hg.os,hg.tape,hg.output,hg.size,fun k hk hS=>hg.block k hk (fun e=>hS e.symm)⟩
 have hS:∀ b,mv.ownBlock=some b->zO w b:=h.own.2
 refine ⟨?_,fun i j hi hj e=>?_,fun i hi=>?_⟩
 . have e:(List.range (m+1)).map (fun i=>zk2 L (if i=m then gl else g i))=((List.range m).map fun i=>zk2 L (g i)) ++ [zk2 L gl]:=by
    rw [List.range_succ,List.map_append]
    congr 1
    rotate_left
    . simp
    apply List.map_congr_left
    intro i hi;rw [if_neg (by have:=List.mem_range.1 hi;omega)]
   rw [e];exact hown
 . by_cases l:i=m
   . by_cases r:j=m
     . omega
     rw [if_pos l,if_neg r] at e;exact absurd e.symm (hne j (by omega))
   by_cases r:j=m
   . rw [if_neg l,if_pos r] at e;exact absurd e (hne i (by omega))
   rw [if_neg l,if_neg r] at e;exact h.inj i j (by omega) (by omega) e
 . by_cases l:i=m
   . rw [if_pos l]
     refine ⟨hb,(hr.fewer fun k hk=>⟨hk,?_⟩).chg u (zjx h.own hr) hS⟩;rw [l];exact hT k hk
   rw [if_neg l]
   exact ⟨(h.rows i (by omega)).1,(h.rows i (by omega)).2.chg u (zjx h.own (h.rows i (by omega)).2) hS⟩
def yx (n:Nat):Array Value:=madeCells #[.int .i64 0,.slice none 0 0,.bool false] (n*3)
theorem zd4 (n:Nat):(yx n).size=n*3:=by simp [yx,madeCells]
theorem YF (n k j:Nat) (hk:k<n) (hj:j<3):(yx n)[k*3+j]?=some ((#[.int .i64 0,.slice none 0 0,.bool false]:Array Value)[j]!):=by
 unfold yx madeCells
 rw [Array.getElem?_map,Array.getElem?_range,if_pos (by omega)]
 simp only [Option.map_some]
 congr 2
 show (k*3+j) % 3=j
 omega
theorem zap (n:Nat):vD (yx n):=by
 intro i x h
 have l:=Array.mem_of_getElem? h
 unfold yx madeCells at l
 rw [Array.mem_map] at l
 obtain ⟨j,_,e⟩:=l
 have m:j % 3<3:=Nat.mod_lt _ (by omega)
 have b:(#[Value.int .i64 0,Value.slice none 0 0,Value.bool false]:Array Value)[j % 3]! ∈(#[Value.int .i64 0,Value.slice none 0 0,Value.bool false]:Array Value):=by
  rw [getElem!_pos (#[Value.int .i64 0,Value.slice none 0 0,Value.bool false]:Array Value) (j % 3) m]
  exact Array.getElem_mem _
 simp at b;simp at e
 rcases b with b | b | b
 . rw [b] at e;cases e
 . rw [b] at e;cases e
 . rw [b] at e;cases e
theorem zk5:(prog.info? 58).map (fun i=>(i.zero,i.size,i.bytes))=some (some (.agg #[.int .i64 0,.slice none 0 0,.bool false]),3,40):=by kernel_rfl
theorem Tryz.underlying89:prog.underlying 89=some (.slice 58):=by kernel_rfl
theorem zdb (k:IntKind) (n:Nat) (hn:n<=1000) (w:World):
 (Instr.makeSlice 89 (.int k (n:Int)) (.int k (n:Int))).run prog w= .ok (.slice (some ⟨w.heap.size,0,none⟩) n n) (w.alloc (.cells (yx n) 58)):=by
 obtain ⟨i,hi,b⟩:=Option.map_eq_some_iff.1 zk5
 simp only [Prod.mk.injEq] at b
 obtain ⟨j,e,hb⟩:=b
 rw [run_make (P:=prog) w 89 58 i _ underlying89 hi j k k n n (by omega) (by omega) (by rw [hb];omega) (by omega)]
 rw [e]
 rfl
theorem zkd (w:World) (ng:Bool):zN w (.agg #[.int .i64 0,.slice none 0 0,.bool ng]) 0:=.inl ⟨0,ng,rfl,by omega,by omega,rfl⟩
theorem zf7 (w:World) (L:Nat):xq (w.alloc (.cells (yx L) 58)) w.heap.size L L (fun _=>0):=by
 have hb:=Blk.new w 58 (yx L)
 refine ⟨⟨_,hb,zd4 L,zap L⟩,fun k hk=>⟨0,none,0,0,false,?_,?_,?_,zkd _ _⟩⟩
 . rw [hb.cell];exact YF L k 0 hk (by omega)
 . rw [hb.cell];exact YF L k 1 hk (by omega)
 . rw [hb.cell];exact YF L k 2 hk (by omega)
theorem vF.congr {base:Nat} {w:World} {mv:Value} {L m:Nat} {g:Nat->Nat} {A A' :Nat->Nat->Int} (h:vF base w mv L m g A) (hA:∀ i k,i<m->k<L->A' i k=A i k):vF base w mv L m g A' :=
 ⟨h.own,h.inj,fun i hi=>⟨(h.rows i hi).1,(h.rows i hi).2.fewer fun k hk=>⟨hk,hA i k hi hk⟩⟩⟩
theorem vF.at_ {base:Nat} {w:World} {mv:Value} {L m:Nat} {g:Nat->Nat} {A:Nat->Nat->Int} (h:vF base w mv L m g A) {i k:Nat} (hi:i<m) (hk:k<L):zd8 w (g i) k (A i k):=(h.rows i hi).2.2 k hk
def Z3 (w:World) (gb:Nat) (z:Int):Prop:=
 ∃ (x:Int) (A:Option Addr) (n c:Nat) (ng:Bool),Blk w gb 58 #[.int .i64 x,.slice A n c,.bool ng]/\zN w (.agg #[.int .i64 x,.slice A n c,.bool ng]) z
theorem Z3.chg {S:Nat->Prop} {w w' :World} {gb:Nat} {z:Int} (h:Z3 w gb z) (hc:Chg S w w') (hg:¬ S gb) (hS:∀ b,S b->zO w b):Z3 w' gb z:=by
 obtain ⟨x,A,n,c,ng,e,j⟩:=h
 exact ⟨x,A,n,c,ng,hc.blk e hg,hc.num j hS⟩
theorem Z3.below {w w' :World} {gb:Nat} {z:Int} (h:Z3 w gb z) (hb:Below w.heap.size w w'):Z3 w' gb z:=h.chg (S:=fun _=>False) (Chg.of_below hb) (fun h=>h) (fun _ h=>h.elim)
theorem Z3.lt {w:World} {gb:Nat} {z:Int} (h:Z3 w gb z):gb<w.heap.size:=by obtain ⟨x,A,n,c,ng,b,e⟩:=h;exact b.lt
structure zG where
 gt:Nat
 bk:Option Nat
 rA:Option Addr
 rc:Nat
 nA:Option Addr
 nn:Nat
 nc:Nat
 gm:Nat
 cm:Nat
 g:Nat->Nat
 bv:Value
 ov:Value
def zG.rows (F:zG) (m b:Nat):Prop:=∃ i,i<=m/\b=F.g i
def zG.S (F:zG) (m b:Nat):Prop:=b=F.gt\/F.rows m b\/F.bv.ownBlock=some b\/F.ov.ownBlock=some b
def zG.cells (F:zG) (m:Nat) (x:Int) (A:Option Addr) (n c:Nat) (ng:Bool):Array Value:=
 #[.map F.bk,.slice F.rA m F.rc,.slice F.nA F.nn F.nc,.slice (some ⟨F.gm,0,none⟩) (m+1) F.cm,.int .i64 x,.slice A n c,.bool ng,F.bv,F.ov]
def yI (m:Nat) (f:Nat->Nat):List Value:=(List.range m).map fun i=>.int .i64 (f i:Nat)
theorem vr {m:Nat} {f:Nat->Nat} {i:Nat} (hi:i<m):(yI m f)[i]?=some (.int .i64 (f i:Nat)):=by simp [yI,hi]
theorem ZV (m:Nat) (f:Nat->Nat):(yI m f).length=m:=by simp [yI]
theorem za7 (m:Nat) (f:Nat->Nat) (r x:Nat):(yI m f).set r (.int .i64 (x:Nat))=yI m (fun i=>if i=r then x else f i):=by
 apply List.ext_getElem?
 intro j
 rw [List.getElem?_set]
 rcases uL j m with b | b
 . by_cases h:r=j
   . subst h;rw [if_pos rfl,ZV,if_pos b,vr b,if_pos rfl]
   rw [if_neg h,vr b,vr b,if_neg (fun e=>h e.symm)]
 . have l:∀ g,(yI m g)[j]?=none:=fun g=>List.getElem?_eq_none (by rw [ZV];exact b)
   rw [l,l,ZV]
   by_cases h:r=j
   . rw [if_pos h,if_neg (by omega)]
   rw [if_neg h]
structure zI (base m L:Nat) (F:zG) (w:World) (T:zk):Prop where
 blk:∃ x A n c ng,Blk w F.gt 101 (F.cells m x A n c ng)/\zN w (.agg #[.int .i64 x,.slice A n c,.bool ng]) T.den
 mat:vF base w (.slice (some ⟨F.gm,0,none⟩) (m+1) F.cm) L (m+1) F.g T.cell
 bas:vE w base 3 1 F.bv m (yI m T.basic)
 oth:vE w base 3 1 F.ov (L - 1) (yI (L - 1) T.other)
 ne:∀ b,F.bv.ownBlock=some b->F.ov.ownBlock≠some b
 lo:base<=F.gt
 cols:L=2*F.nn+2
theorem xp {w:World} {b g:Nat} {t t' :TypeId} {cs cs' :Array Value} {fr:Nat×Nat} (h:Blk w b t cs) (k:w.heap[g]?=some (.cells cs' t' fr)) (ht:t≠t'):b≠g:=by
 intro e
 subst e
 unfold Blk at h
 rw [h] at k
 injection k with k
 injection k with _ k2 _
 exact ht k2
theorem xq.heap {w:World} {g L n:Nat} {f:Nat->Int} (h:xq w g L n f):∃ cs,Blk w g 58 cs:=by obtain ⟨⟨cs,h,_⟩,_⟩:=h;exact ⟨cs,h⟩
theorem vE.heap {w:World} {base size n:Nat} {e:TypeId} {v:Value} {xs:List Value} {b:Nat} (h:vE w base e size v n xs) (hb:v.ownBlock=some b):∃ cs,w.heap[b]?=some (.cells cs e (0,0)):=by
 rcases h.1.2 with ⟨rfl,_⟩ | ⟨g',cap,j,rfl,_,l,_⟩
 . cases hb
 . obtain rfl:g' =b:=by simpa [Value.ownBlock] using hb
   exact ⟨j,l⟩
structure Pv (w0:World) (base m L:Nat) (F:zG) (cs:Array Value) (A:Nat->Nat->Int) (w:World):Prop where
 mat:vF base w (.slice (some ⟨F.gm,0,none⟩) (m+1) F.cm) L (m+1) F.g A
 tab:Blk w F.gt 101 cs
 chg:Chg (F.rows m) w0 w
 old:∀ i,i<=m->F.g i<w0.heap.size/\∃ cs,Blk w0 (F.g i) 58 cs
 oldt:F.gt<w0.heap.size
 oldm:F.gm<w0.heap.size
 lo:base<=w0.heap.size
section
variable {w0 w w' :World} {base m L:Nat} {F:zG} {cs:Array Value} {A A' :Nat->Nat->Int}
theorem Pv.below (h:Pv w0 base m L F cs A w) (hb:Below w.heap.size w w'):Pv w0 base m L F cs A w' :=
 ⟨h.mat.below hb,h.tab.below hb h.tab.lt,h.chg.trans (Chg.of_below (S:=F.rows m) hb) (fun _ _ h=>h),h.old,h.oldt,h.oldm,h.lo⟩
theorem Pv.congr (h:Pv w0 base m L F cs A w) (hA:∀ i k,i<=m->k<L->A' i k=A i k):Pv w0 base m L F cs A' w:=
 ⟨h.mat.congr fun i k hi hk=>hA i k (by omega) hk,h.tab,h.chg,h.old,h.oldt,h.oldm,h.lo⟩
theorem Pv.ge (h:Pv w0 base m L F cs A w):w0.heap.size<=w.heap.size:=h.chg.size
theorem Pv.box {gx:Nat} (h:Pv w0 base m L F cs A w) (hc:Chg (· =gx) w w') (hx:w0.heap.size<=gx) (hS:zO w gx):Pv w0 base m L F cs A w' :=by
 have j:∀ i,i<=m->F.g i≠gx:=fun i hi e=>by have:=(h.old i hi).1;omega
 have l:=h.oldm
 have r:=h.oldt
 refine ⟨h.mat.chg hc (fun i hi=>j i (by omega)) (fun b hb e=>?_) (fun b e=>by subst e;exact hS),hc.blk h.tab (by omega),h.chg.trans hc (fun b hb e=>by omega),h.old,h.oldt,h.oldm,h.lo⟩
 have:F.gm=b:=by simpa [Value.ownBlock] using hb
 omega
theorem Pv.ntab (h:Pv w0 base m L F cs A w) {i:Nat} (hi:i<=m):F.gt≠F.g i:=by
 obtain ⟨b,hb⟩:=(h.mat.rows i (by omega)).2.heap
 exact xp h.tab hb (by decide)
theorem Pv.set {i k:Nat} {q x:Int} {ng:Bool} {X:Option Addr} {n1 c:Nat} (h:Pv w0 base m L F cs A w) (hi:i<=m) (hk:k<L) (hv:zN w (.agg #[.int .i64 x,.slice X n1 c,.bool ng]) q)
 (hA:∀ i' k',i' <=m->k' <L->A' i' k' =if i' =i/\k' =k then q else A i' k'):Pv w0 base m L F cs A' (World.numAt w (F.g i) k x X n1 c ng):=by
 have j:=vm (w:=w) (g:=F.g i) (k:=k) (x:=x) (ng:=ng) (A:=X) (n:=n1) (c:=c)
 refine ⟨((h.mat.set (A' :=fun i' k' =>if i' =i/\k' =k then q else A i' k') (by omega) hk hv (fun _ _=>rfl))).congr fun i' k' hi' hk' =>hA i' k' (by omega) hk',j.blk h.tab (h.ntab hi),
  h.chg.trans j (fun b hb e=>⟨i,hi,e⟩),h.old,h.oldt,h.oldm,h.lo⟩
theorem Pv.noDig (h:Pv w0 base m L F cs A w) {i:Nat} (hi:i<=m):zO w (F.g i):=(h.mat.rows i (by omega)).2.noDig
theorem Pv.keepBox {i k gx:Nat} {z x:Int} {ng:Bool} {X:Option Addr} {n1 c:Nat} (h:Pv w0 base m L F cs A w) (hi:i<=m) (hb:Z3 w gx z) (hx:w0.heap.size<=gx):Z3 (World.numAt w (F.g i) k x X n1 c ng) gx z:=
 hb.chg vm (fun e=>by have:=(h.old i hi).1;omega) (fun b e=>by subst e;exact h.noDig hi)
theorem Pv.own (h:Pv w0 base m L F cs A w) {v:Value} {n:Nat} {xs:List Value} (ho:vE w0 base 3 1 v n xs):vE w base 3 1 v n xs:=ho.chg h.chg (fun b hb hs=>by
 obtain ⟨i,hi,rfl⟩:=hs
 obtain ⟨r,j⟩:=(h.old i hi).2
 obtain ⟨l,e⟩:=ho.heap hb
 exact xp j e (by decide) rfl)
theorem Pv.anew {S:Nat->Prop} {cs' :Array Value} (h:Pv w0 base m L F cs A w) (hc:Chg S w w') (h1:∀ b,S b->∀ i,i<=m->b≠F.g i) (h2:¬ S F.gm) (hS:∀ b,S b->zO w b) (ht:Blk w' F.gt 101 cs'):Pv w' base m L F cs' A w' :=by
 have e:vF base w' (.slice (some ⟨F.gm,0,none⟩) (m+1) F.cm) L (m+1) F.g A:=h.mat.chg hc (fun i hi hs=>h1 _ hs i (by omega) rfl) (fun b hb hs=>h2 (by
  have:F.gm=b:=by simpa [Value.ownBlock] using hb
  rw [this];exact hs)) hS
 exact ⟨e,ht,Chg.refl w',fun i hi=>⟨(e.rows i (by omega)).2.lt,(e.rows i (by omega)).2.heap⟩,ht.lt,e.lt.2,uC h.lo (uC h.ge hc.size)⟩
theorem zI.of_pv {T:zk} {x:Int} {X:Option Addr} {n c:Nat} {ng:Bool} (h:Pv w0 base m L F (F.cells m x X n c ng) A w) (hd:zN w (.agg #[.int .i64 x,.slice X n c,.bool ng]) T.den) (hA:∀ i k,i<=m->k<L->T.cell i k=A i k)
 (hb:vE w base 3 1 F.bv m (yI m T.basic)) (ho:vE w base 3 1 F.ov (L - 1) (yI (L - 1) T.other)) (hne:∀ b,F.bv.ownBlock=some b->F.ov.ownBlock≠some b) (hlo:base<=F.gt)
 (hcols:L=2*F.nn+2):zI base m L F w T:=
 ⟨⟨x,X,n,c,ng,h.tab,hd⟩,h.mat.congr fun i k hi hk=>hA i k (by omega) hk,hb,ho,hne,hlo,hcols⟩
end
theorem zfk {F:zG} {m:Nat} {x:Int} {A:Option Addr} {n c:Nat} {ng:Bool} (h3:ZP F.bv) (h4:ZP F.ov):vD (F.cells m x A n c ng):=by
 intro i d h
 unfold zG.cells at h
 match i with
 | 0=>simp at h
 | 1=>simp at h
 | 2=>simp at h
 | 3=>simp at h
 | 4=>simp at h
 | 5=>simp at h
 | 6=>simp at h
 | 7=>simp at h;exact h3 d h
 | 8=>simp at h;exact h4 d h
 | i+9=>simp at h
theorem xH {w:World} {base size n:Nat} {e:TypeId} {v:Value} {xs:List Value} (h:vE w base e size v n xs):ZP v:=by
 rcases h.1.2 with ⟨rfl,_⟩ | ⟨g,cap,b,rfl,_⟩
 . exact yf _ _ _
 . exact yf _ _ _
section
variable {S:Nat->Prop} {w w' :World} {base m L:Nat} {F:zG} {T:zk}
theorem zI.below (h:zI base m L F w T) (hb:Below w.heap.size w w'):zI base m L F w' T:=by
 obtain ⟨⟨x,A,n,c,ng,b,l⟩,z,r,y,e,u,j⟩:=h
 exact ⟨⟨x,A,n,c,ng,b.below hb b.lt,l.below hb⟩,z.below hb,r.below hb,y.below hb,e,u,j⟩
theorem zI.cell3 (h:zI base m L F w T):w.cell? ⟨F.gt,3,none⟩=some (.slice (some ⟨F.gm,0,none⟩) (m+1) F.cm):=by obtain ⟨⟨x,A,n,c,ng,b,_⟩,_⟩:=h;rw [b.cell];rfl
theorem zI.cell1 (h:zI base m L F w T):w.cell? ⟨F.gt,1,none⟩=some (.slice F.rA m F.rc):=by obtain ⟨⟨x,A,n,c,ng,b,_⟩,_⟩:=h;rw [b.cell];rfl
theorem zI.cell2 (h:zI base m L F w T):w.cell? ⟨F.gt,2,none⟩=some (.slice F.nA F.nn F.nc):=by obtain ⟨⟨x,A,n,c,ng,b,_⟩,_⟩:=h;rw [b.cell];rfl
theorem zI.cell7 (h:zI base m L F w T):w.cell? ⟨F.gt,7,none⟩=some F.bv:=by obtain ⟨⟨x,A,n,c,ng,b,_⟩,_⟩:=h;rw [b.cell];rfl
theorem zI.cell8 (h:zI base m L F w T):w.cell? ⟨F.gt,8,none⟩=some F.ov:=by obtain ⟨⟨x,A,n,c,ng,b,_⟩,_⟩:=h;rw [b.cell];rfl
theorem zI.lt (h:zI base m L F w T):F.gt<w.heap.size:=by obtain ⟨⟨x,A,n,c,ng,b,_⟩,_⟩:=h;exact b.lt
theorem zI.lt2 (h:zI base m L F w T):2<=L:=by have:=h.cols;omega
theorem zI.others (h:zI base m L F w T):∃ go b,F.ov= .slice (some ⟨go,0,none⟩) (L - 1) b/\go<w.heap.size/\∀ k,k<L - 1->w.cell? ⟨go,k,none⟩=some (.int .i64 (T.other k:Nat)):=by
 obtain ⟨go,b,e,_,_⟩:=h.oth.1.form (by have:=h.lt2;omega)
 have ho:=h.oth
 rw [e] at ho
 exact ⟨go,b,e,(ho.1.lt go rfl).2,fun k hk=>by rw [ho.1.cellAt k (by omega)];exact vr hk⟩
theorem zI.basics (h:zI base m L F w T) (hm:0<m):∃ gb b,F.bv= .slice (some ⟨gb,0,none⟩) m b/\gb<w.heap.size/\∀ i,i<m->w.cell? ⟨gb,i,none⟩=some (.int .i64 (T.basic i:Nat)):=by
 obtain ⟨gb,b,eb,_,_⟩:=h.bas.1.form hm
 have hb:=h.bas
 rw [eb] at hb
 exact ⟨gb,b,eb,(hb.1.lt gb rfl).2,fun i hi=>by rw [hb.1.cellAt i (by omega)];exact vr hi⟩
end
theorem zn8 {F:zG} {m:Nat} {x y:Int} {A B:Option Addr} {n c k d:Nat} {ng s:Bool} {w:World} (h:Blk w F.gt 101 (F.cells m x A n c ng)):
 Blk (((w.setCell ⟨F.gt,4,none⟩ (.int .i64 y)).setCell ⟨F.gt,5,none⟩ (.slice B k d)).setCell ⟨F.gt,6,none⟩ (.bool s)) F.gt 101 (F.cells m y B k d s):=((h.set_ 4 _).set_ 5 _).set_ 6 _
theorem zow {g:Nat} {y:Int} {B:Option Addr} {k d:Nat} {s:Bool} {w:World}:Chg (· =g) w (((w.setCell ⟨g,4,none⟩ (.int .i64 y)).setCell ⟨g,5,none⟩ (.slice B k d)).setCell ⟨g,6,none⟩ (.bool s)):=
 Chg.setCell (S:=fun b=>b=g) (Chg.setCell (S:=fun b=>b=g) (Chg.setCell (S:=fun b=>b=g) (Chg.refl w) (p:=⟨g,4,none⟩) rfl _) (p:=⟨g,5,none⟩) rfl _) (p:=⟨g,6,none⟩) rfl _
theorem Zy {w:World} {g:Nat} {x:Int} {A:Option Addr} {n c:Nat} {ng:Bool}:Chg (· =g) w (World.num w g x A n c ng):=
 Chg.setCell (S:=fun b=>b=g) (Chg.setCell (S:=fun b=>b=g) (Chg.setCell (S:=fun b=>b=g) (Chg.refl w) (p:=⟨g,0,none⟩) rfl _) (p:=⟨g,1,none⟩) rfl _) (p:=⟨g,2,none⟩) rfl _
theorem zbt {w:World} {g:Nat} {x x0 z:Int} {A A0:Option Addr} {n c n0 c0:Nat} {ng ng0:Bool} (hk:Blk w g 58 #[.int .i64 x0,.slice A0 n0 c0,.bool ng0]) (hv:zN w (.agg #[.int .i64 x,.slice A n c,.bool ng]) z):
 Z3 (World.num w g x A n c ng) g z:=⟨x,A,n,c,ng,yg hk,zz hv hk⟩
theorem zdp (s:ByteArray) (w:World):Calls prog 120 #[.string s] w (zaw w (.bool false)):=by
 have d:(s == s)=true:=(MapKept.bytes_beq s s).2 rfl
 have b:(s != s)=false:=by unfold bne;rw [d];rfl
 go_in
 go_wp2
 go_ret
 exact ⟨by simp,rfl⟩
theorem zrn (a b:ByteArray) (w:World):Calls prog 112 #[.string a,.string b] w (zaw w (.bool (Op.bytesLess a.toList b.toList))):=by
 have h:=fun s w=>zdp s w
 obtain ⟨x,j⟩:∃ x,Hid (Op.bytesLess a.toList b.toList=x):=⟨_,rfl⟩
 go_in
 go_wp2_with fail
 refine (h _ _).mono ?_
 rintro e w1 ⟨rfl,rfl⟩
 go_wp2
 go_ret
 exact ⟨by simp,rfl⟩
theorem Y5:∀ (x y:List UInt8),Op.bytesLess x y=decide (x<y)
 | [],[]=>by simp [Op.bytesLess]
 | _ :: _,[]=>by simp [Op.bytesLess]
 | [],_ :: _=>by simp [Op.bytesLess]
 | a :: x,b :: y=>by
   rw [Op.bytesLess,Y5 x y]
   by_cases h:a<b
   . simp [h,List.cons_lt_cons_iff]
   by_cases e:a=b
   . subst e;simp [h,List.cons_lt_cons_iff]
   simp [h,e,List.cons_lt_cons_iff]
theorem zn3 (a b:List UInt8) (w:World):Calls prog 112 #[str a,str b] w (zaw w (.bool (decide (a<b)))):=by
 have h:=zrn ⟨a.toArray⟩ ⟨b.toArray⟩ w
 rw [Y5,Lib.toList_data,Lib.toList_data] at h
 exact h
def zT (w:World) (B:Nat) (v:Value) (l:List (List UInt8)):Prop:=
 ∃ A c,v= .slice A l.length c/\l.length<=c/\c<=maxLen/\l.length<=100000/\ys w B 1 A l.length (l.map str)/\∀ x∈l,yc x
section
variable {S:Nat->Prop} {w w' :World} {B B' :Nat} {v:Value} {l:List (List UInt8)}
theorem zT.chg (h:zT w B v l) (hc:Chg S w w') (hS:∀ b,b<B->S b->Yu w b):zT w' B v l:=by
 obtain ⟨A,c,r,j,y,m,u,e⟩:=h
 exact ⟨A,c,r,j,y,m,u.chg hc hS,e⟩
theorem zT.below (h:zT w B v l) (hb:Below w.heap.size w w'):zT w' B v l:=h.chg (S:=fun _=>False) (Chg.of_below hb) (fun _ _ h=>h.elim)
theorem zT.more (h:zT w B v l) (hB:B<=B'):zT w B' v l:=by
 obtain ⟨A,c,m,e,u,j,r,b⟩:=h
 exact ⟨A,c,m,e,u,j,r.more hB,b⟩
end
theorem zT.at_ {w:World} {B:Nat} {A:Option Addr} {n c:Nat} {l:List (List UInt8)} (h:zT w B (.slice A n c) l) {k:Nat} (hk:k<l.length):
 ∃ b,A=some b/\b.block<B/\w.cell? (b.add k)=some (str l[k]):=by
 obtain ⟨A',c',e,_,_,_,j,r⟩:=h
 injection e with e1 e2 e3
 subst e1
 obtain ⟨b,u,e,hb,hu,m⟩:=j.at_ hk
 refine ⟨b,e,hb,?_⟩
 rw [m, <- hu]
 simp [hk]
theorem zT.len {w:World} {B:Nat} {A:Option Addr} {n c:Nat} {l:List (List UInt8)} (h:zT w B (.slice A n c) l):n=l.length:=by obtain ⟨_,_,e,_⟩:=h;injection e
def BinR (w0:World) (n k:Nat) (iv jv:Value) (wr:World):Prop:=∃ i j:Nat,i<=k/\k<=j/\j<=n/\iv= .int .i64 i/\jv= .int .i64 j/\w0=wr
theorem VC (A:Option Addr) (n c:Nat) (l:List (List UInt8)) (s:List UInt8) (B k:Nat) (w:World) (hn:zT w B (.slice A n c) l) (hk:k<l.length) (hs:l[k]=s)
 (hlo:∀ i (h:i<l.length),i<k->l[i]<s) (z:∀ i (h:i<l.length),k<=i->¬ l[i]<s) (hl:l.length<=100000):
 Calls prog 73 #[.slice A n c,str s] w (zaw w (.tuple #[.int .i64 k,.bool true])):=by
 obtain rfl:=hn.len
 obtain ⟨I,M,N,O⟩:=hz4 hn hs hlo z
 have D:=fun a w=>zn3 a s w
 have E:=ze D
 clear hn hs hlo z D
 go_in
 go_wp2
 go_loopw [7,8] (BinR w l.length k) (fun iv jv _=>(intOf jv).toNat - (intOf iv).toNat)
 case atStart=>exact ⟨0,l.length,uB,by omega,uA,rfl,rfl,rfl⟩
 case round=>
  obtain ⟨i,j,hi,hj,T,rfl,rfl,rfl⟩:=hrel
  by_cases S:i<j
  rotate_left
  . obtain rfl:k=i:=by omega
    obtain rfl:k=j:=by omega
    have Q:(k:Int)<(l.length:Int):=by omega
    obtain ⟨K,y,L,F⟩:=I.o.at_ hk;subst y;rw [M.o] at F;have U:((⟨s.toArray⟩:ByteArray) == ⟨s.toArray⟩)=true:=(MapKept.bytes_beq _ _).2 rfl;go_wp2;go_ret2;exact ⟨by go_num,rfl⟩
  have Y:(i:Int)<(j:Int):=by omega
  obtain ⟨h,G⟩:=uQ ((i+j) / 2);have u:h<l.length:=by omega
  have z:(h:Int)<(l.length:Int):=by omega
  have Z:IntKind.i64.wrap ((i:Int)+(j:Int))=(i:Int)+(j:Int):=by rw [IntKind.wrap_i64];omega
  have X:((i:Int)+(j:Int)) / 2=(h:Int):=by omega
  obtain ⟨K,y,L,F⟩:=I.o.at_ u;subst y;have V:i<=h:=by omega
  have R:h<j:=by omega
  have HH:=ze G;clear G
  by_cases r:l[h]<s
  . have m:=E.o l[h] w
    rw [uE r] at m
    have J:h<k:=by
     rcases uL h k with b | b
     . exact b
     . exact absurd r (O.o h u b)
    have C:=ze m;clear r m;go_wp2_with fail;refine C.o.mono ?_;rintro e w1 ⟨rfl,rfl⟩;go_wp2;go_round
    case rel=>exact ⟨h+1,j,by omega,by omega,by omega,by go_num,rfl,rfl⟩
    case measure=>simp [intOf];omega
  have m:=E.o l[h] w
  rw [uF r] at m
  have J:k<=h:=by
   rcases uL h k with b | b
   . exact absurd (N.o h u b) r
   . exact b
  have C:=ze m;clear r m;go_wp2_with fail;refine C.o.mono ?_;rintro e w1 ⟨rfl,rfl⟩;go_wp2;go_round
  case rel=>exact ⟨i,h,by omega,by omega,by omega,rfl,by go_num,rfl⟩
  case measure=>simp [intOf];omega
theorem xne {w w' :World} {v:Value} {l:List (List UInt8)} (h:Hid (zT w w.heap.size v l)) (hb:Below w.heap.size w w'):Hid (zT w' w'.heap.size v l):=(zT.below h.out hb).more hb.size
theorem zev (a b:List UInt8) (first:Bool) (w:World):Calls prog 51 #[str a,str b,.bool first] w (zaw w (.int .i64 (yM a b first))):=by
 have hl:=Y5 a b
 have m:(a == b)=decide (a=b):=by by_cases h:a=b<;>simp [h]
 cases first with
 | true=>
   have j:=ze (show yM a b true=0 by unfold yM;rw [if_pos (.inl rfl)]);clear hl m
   go_in
   go_wp2;go_ret;exact ⟨by rw [j.o];rfl,rfl⟩
 | false=>
   by_cases e:a<b
   . have j:=ze (show yM a b false=0 by unfold yM;rw [if_pos (.inr e)])
     rw [uE e] at hl;clear m e
     go_in
     go_wp2;go_ret;exact ⟨by rw [j.o];rfl,rfl⟩
   rw [uF e] at hl
   by_cases l:a=b
   . have j:=ze (show yM a b false=6 by unfold yM;rw [if_neg (by rintro (h | h);cases h;exact e h),if_pos l])
     rw [uE l] at m;clear e l
     go_in
     go_wp2;go_ret;exact ⟨by rw [j.o];rfl,rfl⟩
   have j:=ze (show yM a b false=1 by unfold yM;rw [if_neg (by rintro (h | h);cases h;exact e h),if_neg l])
   rw [uF l] at m;clear e l
   go_in
   go_wp2;go_ret;exact ⟨by rw [j.o];rfl,rfl⟩
def zl3 (w:World) (g k:Nat) (q:Rat):Prop:=
 ∃ (x:Int) (A:Option Addr) (n c:Nat) (s:Bool) (y:Int) (B:Option Addr) (n' c' :Nat) (t:Bool),w.cell? ⟨g,k*6,none⟩=some (.int .i64 x)/\w.cell? ⟨g,k*6+1,none⟩=some (.slice A n c)/\w.cell? ⟨g,k*6+2,none⟩=some (.bool s)/\
  w.cell? ⟨g,k*6+3,none⟩=some (.int .i64 y)/\w.cell? ⟨g,k*6+4,none⟩=some (.slice B n' c')/\w.cell? ⟨g,k*6+5,none⟩=some (.bool t)/\zV w (.agg #[.int .i64 x,.slice A n c,.bool s,.int .i64 y,.slice B n' c',.bool t]) q
def yH (w:World) (g L n:Nat) (f:Nat->Rat):Prop:=(∃ cs,Blk w g 60 cs/\cs.size=L*6/\vD cs)/\∀ k,k<n->zl3 w g k (f k)
abbrev World.ratAt (w:World) (g k:Nat) (x:Int) (A:Option Addr) (n c:Nat) (s:Bool) (y:Int) (B:Option Addr) (n' c' :Nat) (t:Bool):World:=
 (((((w.setCell ⟨g,k*6,none⟩ (.int .i64 x)).setCell ⟨g,k*6+1,none⟩ (.slice A n c)).setCell ⟨g,k*6+2,none⟩ (.bool s)).setCell ⟨g,k*6+3,none⟩ (.int .i64 y)).setCell ⟨g,k*6+4,none⟩ (.slice B n' c')).setCell ⟨g,k*6+5,none⟩ (.bool t)
section
variable {S:Nat->Prop} {w w' :World} {g L n:Nat} {f:Nat->Rat}
theorem zl3.chg {k:Nat} {q:Rat} (h:zl3 w g k q) (hc:Chg S w w') (hg:¬ S g) (hS:∀ b,S b->zO w b):zl3 w' g k q:=by
 obtain ⟨x,A,n,c,s,y,B,n',c',t,u,m,j,z,l,r,e⟩:=h
 exact ⟨x,A,n,c,s,y,B,n',c',t,hc.cell u hg,hc.cell m hg,hc.cell j hg,hc.cell z hg,hc.cell l hg,hc.cell r hg,hc.rat e hS⟩
theorem yH.lt (h:yH w g L n f):g<w.heap.size:=by obtain ⟨⟨cs,h,_⟩,_⟩:=h;exact h.lt
theorem yH.noDig (h:yH w g L n f):zO w g:=by obtain ⟨⟨cs,h,_,b⟩,_⟩:=h;exact h.noDig b
theorem yH.heap (h:yH w g L n f):∃ cs,Blk w g 60 cs:=by obtain ⟨⟨cs,h,_⟩,_⟩:=h;exact ⟨cs,h⟩
theorem yH.chg (h:yH w g L n f) (hc:Chg S w w') (hg:¬ S g) (hS:∀ b,S b->zO w b):yH w' g L n f:=by
 obtain ⟨⟨cs,e,j,m⟩,l⟩:=h
 exact ⟨⟨cs,hc.blk e hg,j,m⟩,fun k hk=>(l k hk).chg hc hg hS⟩
theorem yH.below (h:yH w g L n f) (hb:Below w.heap.size w w'):yH w' g L n f:=h.chg (S:=fun _=>False) (Chg.of_below hb) (fun h=>h) (fun _ h=>h.elim)
theorem yH.frozen (h:yH w g L n f) (i:Nat):w.frozen? ⟨g,i,none⟩=false:=by obtain ⟨⟨cs,h,_⟩,_⟩:=h;exact h.frozen i
theorem yH.slots (h:yH w g L n f) {k:Nat} (hk:k<L):∃ u0 u1 u2 u3 u4 u5,w.cell? ⟨g,k*6,none⟩=some u0/\w.cell? ⟨g,k*6+1,none⟩=some u1/\w.cell? ⟨g,k*6+2,none⟩=some u2/\w.cell? ⟨g,k*6+3,none⟩=some u3/\w.cell? ⟨g,k*6+4,none⟩=some u4/\w.cell? ⟨g,k*6+5,none⟩=some u5:=by
 obtain ⟨⟨cs,b,e,j⟩,_⟩:=h
 refine ⟨cs[k*6]'(by omega),cs[k*6+1]'(by omega),cs[k*6+2]'(by omega),cs[k*6+3]'(by omega),cs[k*6+4]'(by omega),cs[k*6+5]'(by omega),?_,?_,?_,?_,?_,?_⟩
 all_goals rw [b.cell,Array.getElem?_eq_getElem]
theorem yH.fewer (h:yH w g L n f) {m:Nat} {f' :Nat->Rat} (hm:∀ k,k<m->k<n/\f' k=f k):yH w g L m f' :=by
 refine ⟨h.1,fun k hk=>?_⟩
 obtain ⟨b,e⟩:=hm k hk
 rw [e];exact h.2 k b
theorem Y4 {k:Nat} {x y:Int} {s t:Bool} {A B:Option Addr} {n c n' c' :Nat}:Chg (· =g) w (World.ratAt w g k x A n c s y B n' c' t):=by
 simp only [World.ratAt]
 apply Chg.setCell (S:=fun b=>b=g) ?_ (by rfl)
 apply Chg.setCell (S:=fun b=>b=g) ?_ (by rfl)
 apply Chg.setCell (S:=fun b=>b=g) ?_ (by rfl)
 apply Chg.setCell (S:=fun b=>b=g) ?_ (by rfl)
 apply Chg.setCell (S:=fun b=>b=g) ?_ (by rfl)
 apply Chg.setCell (S:=fun b=>b=g) ?_ (by rfl)
 exact Chg.refl w
theorem yH.set {k m' :Nat} {q:Rat} {f' :Nat->Rat} {x y:Int} {s t:Bool} {A B:Option Addr} {n1 c n' c' :Nat} (h:yH w g L n f) (hk:k<L) (hv:zV w (.agg #[.int .i64 x,.slice A n1 c,.bool s,.int .i64 y,.slice B n' c',.bool t]) q)
 (hf:∀ j,j<m' ->(j=k/\f' j=q)\/(j≠k/\j<n/\f' j=f j)):yH (World.ratAt w g k x A n1 c s y B n' c' t) g L m' f' :=by
 have m:=Y4 (w:=w) (g:=g) (k:=k) (x:=x) (s:=s) (A:=A) (n:=n1) (c:=c) (y:=y) (t:=t) (B:=B) (n' :=n') (c' :=c')
 have hS:∀ b,b=g->zO w b:=fun b e=>by subst e;exact h.noDig
 have F :=m.rat hv hS
 obtain ⟨⟨cs,l,D,R⟩,J⟩:=h
 have hb:=(((((l.set_ (k*6) (.int .i64 x)).set_ (k*6+1) (.slice A n1 c)).set_ (k*6+2) (.bool s)).set_ (k*6+3) (.int .i64 y)).set_ (k*6+4) (.slice B n' c')).set_ (k*6+5) (.bool t)
 refine ⟨⟨_,hb,by simpa using D,xb (xb (xb (xb (xb (xb R (xe _) _) (yf _ _ _) _) (vH _) _) (xe _) _) (yf _ _ _) _) (vH _) _⟩,fun j hj=>?_⟩
 rcases hf j hj with ⟨rfl,e⟩ | ⟨Z,N,e⟩
 . rw [e]
   refine ⟨x,A,n1,c,s,y,B,n',c',t,?_,?_,?_,?_,?_,?_,F⟩
   all_goals rw [hb.cell];simp [Array.getElem?_setIfInBounds];omega
 . rw [e]
   obtain ⟨Y,G,S,K,Q,E,T,C,u,O,r,U,M,V,X,z,I⟩:=J j N;rw [l.cell] at r U M V X z;refine ⟨Y,G,S,K,Q,E,T,C,u,O,?_,?_,?_,?_,?_,?_,m.rat I hS⟩
   all_goals
    rw [hb.cell,Array.getElem?_setIfInBounds,if_neg (by omega),Array.getElem?_setIfInBounds,if_neg (by omega),Array.getElem?_setIfInBounds,if_neg (by omega),Array.getElem?_setIfInBounds,if_neg (by omega),Array.getElem?_setIfInBounds,if_neg (by omega),Array.getElem?_setIfInBounds,if_neg (by omega)]
    assumption
end
def xT (n:Nat):Array Value:=madeCells #[.int .i64 0,.slice none 0 0,.bool false,.int .i64 0,.slice none 0 0,.bool false] (n*6)
theorem zd2 (n:Nat):(xT n).size=n*6:=by simp [xT,madeCells]
theorem zaf (n:Nat):vD (xT n):=by
 intro i x h
 have l:=Array.mem_of_getElem? h
 unfold xT madeCells at l
 rw [Array.mem_map] at l
 obtain ⟨j,_,e⟩:=l
 have m:j % 6<6:=Nat.mod_lt _ (by omega)
 have b:(#[Value.int .i64 0,Value.slice none 0 0,Value.bool false,Value.int .i64 0,Value.slice none 0 0,Value.bool false]:Array Value)[j % 6]! ∈(#[Value.int .i64 0,Value.slice none 0 0,Value.bool false,Value.int .i64 0,Value.slice none 0 0,Value.bool false]:Array Value):=by
  rw [getElem!_pos (#[Value.int .i64 0,Value.slice none 0 0,Value.bool false,Value.int .i64 0,Value.slice none 0 0,Value.bool false]:Array Value) (j % 6) m]
  exact Array.getElem_mem _
 simp at b;simp at e
 rcases b with b | b | b | b | b | b<;>(rw [b] at e;cases e)
theorem zk8:(prog.info? 60).map (fun i=>(i.zero,i.size,i.bytes))=some (some (.agg #[.int .i64 0,.slice none 0 0,.bool false,.int .i64 0,.slice none 0 0,.bool false]),6,80):=by kernel_rfl
theorem Tryz.underlying61:prog.underlying 61=some (.slice 60):=by kernel_rfl
theorem zgw (k:IntKind) (n:Nat) (hn:n<=100000) (w:World):
 (Instr.makeSlice 61 (.int k (n:Int)) (.int k (n:Int))).run prog w= .ok (.slice (some ⟨w.heap.size,0,none⟩) n n) (w.alloc (.cells (xT n) 60)):=by
 obtain ⟨i,hi,b⟩:=Option.map_eq_some_iff.1 zk8
 simp only [Prod.mk.injEq] at b
 obtain ⟨j,e,hb⟩:=b
 rw [run_make (P:=prog) w 61 60 i _ underlying61 hi j k k n n (by omega) (by omega) (by rw [hb];omega) (by omega)]
 rw [e]
 rfl
theorem zkc (w:World) (L:Nat) (f:Nat->Rat):yH (w.alloc (.cells (xT L) 60)) w.heap.size L 0 f:=
 ⟨⟨_,Blk.new w _ _,zd2 L,zaf L⟩,fun k hk=>by omega⟩
theorem znm (z:Int) (w:World) (s t:Bool) (h1: -4611686018427387904<z) (h2:z<4611686018427387904):zV w (.agg #[.int .i64 z,.slice none 0 0,.bool s,.int .i64 1,.slice none 0 0,.bool t]) (z:Rat):=
 ⟨_,_,_,_,_,_,_,_,_,_,rfl,.inl ⟨z,s,rfl,h1,h2,by simp⟩,.inl ⟨1,t,rfl,by omega,by omega,by simp⟩⟩
theorem ZN (z:Int) (w:World) (h1: -4611686018427387904<z) (h2:z<4611686018427387904):Calls prog 54 #[.int .i64 z] w (zeb w (z:Rat)):=by
 have b:=Blk.new w 60 #[.int .i64 z,.slice none 0 0,.bool false,.int .i64 1,.slice none 0 0,.bool false]
 obtain ⟨j,l,r,m,e,y,_⟩:=bp6 b
 have u:=ze (znm z (w.alloc (.cells #[.int .i64 z,.slice none 0 0,.bool false,.int .i64 1,.slice none 0 0,.bool false] 60)) false false h1 h2)
 clear b
 go_in
 go_wp2_with fail
 refine bodyPost_ret (v:=.agg #[.int .i64 z,.slice none 0 0,.bool false,.int .i64 1,.slice none 0 0,.bool false]) (by simp [results,results54,go_sem,j,l,r,m,e,y]) rfl ?_
 exact ⟨_,rfl,u.o,zf _ _⟩
theorem zn9:(prog.info? 25).map (fun i=>(i.zero,i.size,i.bytes))=some (some (.string ⟨#[]⟩),1,16):=by kernel_rfl
theorem zt9:(prog.info? 78).map (fun i=>(i.zero,i.size,i.bytes))=some (some (.agg #[.string ⟨#[]⟩,.string ⟨#[]⟩]),2,32):=by kernel_rfl
theorem Tryz.underlying27:prog.underlying 27=some (.slice 25):=by kernel_rfl
theorem Tryz.underlying26:prog.underlying 26=some (.slice 78):=by kernel_rfl
def zv6 (w:World) (e:Ending) (w' :World):Prop:=∃ A n c,e= .returned (.slice A n c)/\Below w.heap.size w w'
theorem zl3.cells {w:World} {g k:Nat} {q:Rat} (h:zl3 w g k q):∃ (x:Int) (A:Option Addr) (n c:Nat) (s:Bool) (y:Int) (B:Option Addr) (n' c' :Nat) (t:Bool),w.cell? ⟨g,k*6,none⟩=some (.int .i64 x)/\w.cell? ⟨g,k*6+1,none⟩=some (.slice A n c)/\w.cell? ⟨g,k*6+2,none⟩=some (.bool s)/\
 w.cell? ⟨g,k*6+3,none⟩=some (.int .i64 y)/\w.cell? ⟨g,k*6+4,none⟩=some (.slice B n' c')/\w.cell? ⟨g,k*6+5,none⟩=some (.bool t)/\zV w (.agg #[.int .i64 x,.slice A n c,.bool s,.int .i64 y,.slice B n' c',.bool t]) q:=h
theorem zco {w:World} {base n size:Nat} {e:TypeId} {v:Value} {xs:List Value} (h:vE w base e size v n xs):∃ A n c,v= .slice A n c:=by
 rcases h.1.2 with ⟨rfl,_⟩ | ⟨g,cap,b,rfl,_⟩
 . exact ⟨_,_,_,rfl⟩
 . exact ⟨_,_,_,rfl⟩
theorem X6 {w w' :World} {v:Value} (hg:w.grownBy w' v.ownBlock):Chg (fun b=>v.ownBlock=some b) w w' :=⟨hg.os,hg.tape,hg.output,hg.size,fun k hk hS=>hg.block k hk (fun e=>hS e.symm)⟩
theorem zs0 {w:World} {x:Nat} {cs1 cs2:Array Value} {t1 t2:TypeId} {f2:Nat×Nat} (h1:Blk w x t1 cs1) (h2:w.heap[x]?=some (.cells cs2 t2 f2)) (ht:t1≠t2):False:=by
 unfold Blk at h1
 rw [h1] at h2
 injection h2 with h2
 injection h2 with _ h3 _
 exact ht h3
def FrsR (w0:World) (m g:Nat) (f:Nat->Rat) (iv ov:Value) (wr:World):Prop:=
 ∃ (i:Nat) (v:Value) (xs:List Value),i<=m/\iv= .int .i64 i/\ov=v/\Hid (vE wr w0.heap.size 25 1 v i xs)/\Hid (yH wr g m m f)/\Hid (Below w0.heap.size w0 wr)
theorem zdh (g m:Nat) (f:Nat->Rat) (w:World) (hr:yH w g m m f) (hf:∀ k,k<m->xJ 67108864 (f k)) (hm:m<=100000):
 Calls prog 17 #[.slice (some ⟨g,0,none⟩) m m] w (zv6 w):=by
 have r:=ze hr
 have HF:=ze hf
 have l:=ze (xh w)
 clear hr hf
 go_in
 go_wp2
 go_loopw [8,3] (FrsR w m g f) (fun iv _ _=>m - (intOf iv).toNat)
 case atStart=>exact ⟨0,_,[],uB,rfl,rfl,Zr _ _ _ _,r,l⟩
 case round=>
  clear r l
  obtain ⟨i,v,xs,hi,rfl,rfl,z,r,l⟩:=hrel
  by_cases M:i<m
  rotate_left
  . obtain rfl:m=i:=by omega
    obtain ⟨A,n,c,rfl⟩:=zco z.o;go_wp2;go_ret;exact ⟨_,_,_,rfl,l.o⟩
  have ai:(i:Int)<(m:Int):=by omega
  obtain ⟨x,A,n,c,s,y,B,n',c',t,c0,c1,c2,c3,c4,c5,N⟩:=(r.o.2 i M).cells;have C:=zf wr (.cells #[.int .i64 x,.slice A n c,.bool s,.int .i64 y,.slice B n' c',.bool t] 60);have D:=ze (Blk.new wr 60 #[.int .i64 x,.slice A n c,.bool s,.int .i64 y,.slice B n' c',.bool t]);have G:=ze (N.below C);have U:=ze (HF.o i M);replace z:=ze (z.o.below C);replace r:=ze (r.o.below C);replace l:=eb_ l C;clear C N
  go_upto_region 5 with fail
  clear c0 c1 c2 c3 c4 c5;generalize wr.alloc (.cells #[.int .i64 x,.slice A n c,.bool s,.int .i64 y,.slice B n' c',.bool t] 60)=W2 at D G z r l |-;generalize wr.heap.size=gr at D |-;obtain ⟨r0,r1,r2,Y,r4,r5,_⟩:=bq6 D;go_wp2_with fail;refine (zbz _ _ _ G.o U.o).mono ?_;rintro e w3 ⟨rfl,E⟩;obtain ⟨T,O⟩:∃ T:ByteArray,T=⟨(ya (f i)).toArray⟩:=⟨_,rfl⟩;rw [<- O];clear O;replace z:=ze (z.o.below E);replace r:=ze (r.o.below E);replace l:=eb_ l E;clear E D G U r0 r1 r2 Y r4 r5;have C:=zf w3 (.cells #[.string T] 25);have V:∀ u∈[Value.string T],u.oneCell' =true:=by intro u hu;rw [uM] at hu;subst hu;rfl
  have Q:∀ u∈[Value.string T],ZP u:=by intro u hu;rw [uM] at hu;subst hu;exact vY _
  have K:∀ u∈(Value.string ⟨#[]⟩).cells,ZP u:=by intro u hu;simp [Value.cells] at hu;subst hu;exact vY _
  obtain ⟨i0,ag,aa,ad,ae⟩:=info_parts zn9;have S:=Blk.new w3 25 #[.string T]
  have R:∀ (j:Nat) (u:Value),[Value.string T][j]?=some u->(w3.alloc (.cells #[.string T] 25)).cell? ((⟨w3.heap.size,0,none⟩:Addr).add j)=some u:=by
   intro j u hu
   match j with
   | 0=>
     simp at hu;subst hu;have:=S.cell 0
     simp [Addr.add]
   | j+1=>simp at hu
  replace z:=ze (z.o.below C);replace r:=ze (r.o.below C);replace l:=eb_ l C;clear C S;go_wp2_with (at_builtin;go_must (refine yk (P:=prog) rfl (.tmp 12) (.tmp 15) _ rfl w.heap.size 25 i0 _ 1 16 underlying27 ag aa ad ae rfl (by omega) _ i xs rfl z.o ⟨w3.heap.size,0,none⟩ 1 1 [.string T] rfl rfl (by omega) R V Q K ?o4 ?o5 ?o6 ?_))
  case o4=>unfold maxLen;omega
  case o5=>omega
  case o6=>exact l.o.size
  intro v3 J L F ac;clear R V Q K;have I:=fun b hb=>(z.o.1.lt b hb).1
  have ab:Hid (yH J g m m f):=r.o.chg (X6 F) (fun e=>by
   obtain ⟨cs,X⟩:=z.o.heap e;obtain ⟨ah,k2⟩:=r.o.heap
   exact zs0 k2 X (by decide)) (fun b e=>z.o.2 b e)
  have af:Hid (Below w.heap.size w J):=l.o.grown F l.o.size I;have Z:=ze L;clear z r l L F ac I;go_wp2;go_roundw
  case rel=>exact ⟨i+1,_,_,by omega,by go_num,rfl,Z,ab,af⟩
  case measure=>simp [intOf];omega
def VlsR (w0:World) (m g B:Nat) (f:Nat->Rat) (nv:Value) (names:List (List UInt8)) (iv ov:Value) (wr:World):Prop:=
 ∃ (i k:Nat) (v:Value) (xs:List Value),i<=m/\k<=i/\iv= .int .i64 i/\ov=v/\Hid (vE wr w0.heap.size 78 2 v k xs)/\Hid (yH wr g m m f)/\Hid (zT wr w0.heap.size nv names)/\Hid (Below w0.heap.size w0 wr)
theorem Xv (g m:Nat) (f:Nat->Rat) (A0:Option Addr) (cN:Nat) (names:List (List UInt8)) (w:World) (hn:zT w w.heap.size (.slice A0 m cN) names) (hr:yH w g m m f) (hf:∀ k,k<m->xJ 67108864 (f k)) (hm:m<=100000):
 Calls prog 16 #[.slice A0 m cN,.slice (some ⟨g,0,none⟩) m m] w (zv6 w):=by
 obtain rfl:=hn.len
 obtain ⟨D,l,HF⟩:=hz3 hn hr hf
 have r:=ze (xh w)
 clear hr hf hn
 go_in
 go_wp2
 go_loopw [10,5] (VlsR w names.length g w.heap.size f (.slice A0 names.length cN) names) (fun iv _ _=>names.length - (intOf iv).toNat)
 case atStart=>exact ⟨0,0,_,[],uB,uA,rfl,rfl,Zr _ _ _ _,l,D,r⟩
 case round=>
  clear l r D
  obtain ⟨i,k,v,xs,hi,hk,rfl,rfl,C,l,D,r⟩:=hrel
  by_cases L:i<names.length
  rotate_left
  . obtain rfl:names.length=i:=by omega
    obtain ⟨A,n,c,rfl⟩:=zco C.o;go_wp2;go_ret;exact ⟨_,_,_,rfl,r.o⟩
  have av:(i:Int)<(names.length:Int):=by omega
  obtain ⟨ad,eA,af,p0⟩:=D.o.at_ L;subst eA;obtain ⟨x,A,n,c,s,y,B,n',c',t,S,M,N,O,R,Q,E⟩:=(l.o.2 i L).cells;have HQ:=ze E;have ah:=ze (HF.o i L);have ag:=fun w' (h:Below wr.heap.size wr w')=>xK _ _ w' (E.below h)
  have F:=ag wr (xh wr);clear E ag
  by_cases I:XG (f i) 0=0
  . rw [I] at F
    go_wp2_with fail;refine F.mono ?_;rintro e w3 ⟨rfl,z⟩;clear F;replace C:=ze (C.o.below z);replace l:=ze (l.o.below z);replace D:=ze (D.o.below z);replace r:=eb_ r z;clear z S M N O R Q p0 af HQ;go_wp2;go_roundw
    case rel=>exact ⟨i+1,k,_,_,by omega,by omega,by go_num,rfl,C,l,D,r⟩
    case measure=>simp [intOf];omega
  obtain ⟨sg,ab⟩:=uR (XG (f i) 0)
  rw [ab] at F I;have d1:(sg != 0)=true:=by rw [bne_iff_ne];exact I
  have d2:(sg == 0)=false:=by rw [beq_eq_false_iff_ne];exact I
  clear ab I;go_wp2_with fail;refine F.mono ?_;rintro e w3 ⟨rfl,z⟩;clear F;replace C:=ze (C.o.below z);replace l:=ze (l.o.below z);replace D:=ze (D.o.below z);replace r:=eb_ r z;clear z S M N O R Q p0 af HQ;obtain ⟨x,A,n,c,s,y,B,n',c',t,S,M,N,O,R,Q,E⟩:=(l.o.2 i L).cells;have X:=zbz _ _ _ E ah.o;have aa:=ze X;clear E X;go_wp2_with fail;refine aa.o.mono ?_;rintro e G ⟨rfl,z⟩;obtain ⟨T,hT⟩:∃ T:ByteArray,T=⟨(ya (f i)).toArray⟩:=⟨_,rfl⟩;rw [<- hT];clear hT aa;replace C:=ze (C.o.below z);replace l:=ze (l.o.below z);replace D:=ze (D.o.below z);replace r:=eb_ r z;clear z ah S M N O R Q;have J:=zf G (.cells #[str names[i],.string T] 78);have ai:∀ u∈[str names[i],Value.string T],u.oneCell' =true:=by intro u hu;simp at hu;rcases hu with rfl | rfl<;>rfl
  have ac:∀ u∈[str names[i],Value.string T],ZP u:=by intro u hu;simp at hu;rcases hu with rfl | rfl<;>exact vY _
  have Y:∀ u∈(Value.agg #[.string ⟨#[]⟩,.string ⟨#[]⟩]).cells,ZP u:=by intro u hu;simp [Value.cells] at hu;subst hu;exact vY _
  obtain ⟨i0,ar,ak,ao,ap⟩:=info_parts zt9;have V:=Blk.new G 78 #[str names[i],.string T]
  have ae:∀ (j:Nat) (u:Value),[str names[i],Value.string T][j]?=some u->(G.alloc (.cells #[str names[i],.string T] 78)).cell? ((⟨G.heap.size,0,none⟩:Addr).add j)=some u:=by
   intro j u hu
   match j with
   | 0=>
     simp at hu;subst hu;have:=V.cell 0
     simp [Addr.add]
   | 1=>
     simp at hu;subst hu;have:=V.cell 1
     simp [Addr.add]
   | j+2=>simp at hu
  replace C:=ze (C.o.below J);replace l:=ze (l.o.below J);replace D:=ze (D.o.below J);replace r:=eb_ r J;clear J V;go_wp2_with (at_builtin;go_must (refine yk (P:=prog) rfl (.tmp 21) (.tmp 29) _ rfl w.heap.size 78 i0 _ 2 32 underlying26 ar ak ao ap rfl (by omega) _ k xs rfl C.o ⟨G.heap.size,0,none⟩ 1 1 [str names[i],.string T] rfl rfl (by omega) ae ai ac Y ?o4 ?o5 ?o6 ?_))
  case o4=>unfold maxLen;omega
  case o5=>omega
  case o6=>exact r.o.size
  intro v3 w5 Z K an;clear ae ai ac Y;have U:=fun b hb=>(C.o.1.lt b hb).1
  have am:Hid (yH w5 g names.length names.length f):=l.o.chg (X6 K) (fun e=>by
   obtain ⟨cs,k1⟩:=C.o.heap e;obtain ⟨au,k2⟩:=l.o.heap
   exact zs0 k2 k1 (by decide)) (fun b e=>C.o.2 b e)
  have al:Hid (zT w5 w.heap.size (.slice (some ad) names.length cN) names):=D.o.chg (X6 K) (fun b hb e=>by have:=U b e;omega);have aq:Hid (Below w.heap.size w w5):=r.o.grown K r.o.size U;have aj:=ze Z;clear C l D r Z K an U;go_wp2;go_roundw
  case rel=>exact ⟨i+1,k+1,_,_,by omega,by omega,by go_num,rfl,aj,am,al,aq⟩
  case measure=>simp [intOf];omega
end Go.Proofs.YtobdoblpnanclaaGreatDoor
