/- Parts of the proof: memory, numbers, walks of the functions that are called. -/
import Derived.Maps.OwnOps
import Derived.Test.YtkmcmmcencdcpaaGreatDoorMt16
set_option linter.unusedVariables false
set_option linter.unusedSimpArgs false
set_option maxRecDepth 100000
set_option maxHeartbeats 32000000
namespace Go.Proofs.YtkmcmmcencdcpaaGreatDoor
open Go.RowKit
def zcp (D:List (List UInt8×Value)):List (Value×Value):=D.map fun p=>(str p.1,p.2)
def Z0 (w:World) (b:Nat) (D:List (List UInt8×Value)):Prop:=∃ es clock,w.heap[b]?=some (.map es clock)/\es.toList.map (fun e=>(e.key,e.val))=zcp D/\(es.toList.map (·.born)).Nodup/\∀ e∈es.toList,e.born<clock
theorem Z0.lt {w:World} {b:Nat} {D:List (List UInt8×Value)} (h:Z0 w b D):b<w.heap.size:=by
 obtain ⟨es,c,hb,_⟩:=h
 exact (Array.getElem?_eq_some_iff.1 hb).1
theorem Z0.keep {w w' :World} {b:Nat} {D:List (List UInt8×Value)} (h:Z0 w b D) (hk:w'.heap[b]?=w.heap[b]?):Z0 w' b D:=by
 obtain ⟨es,c,hb,he⟩:=h
 exact ⟨es,c,hk.trans hb,he⟩
theorem Z0.below {B:Nat} {w w' :World} {b:Nat} {D:List (List UInt8×Value)} (h:Z0 w b D) (hb:Below B w w') (hl:b<B):Z0 w' b D:=h.keep (hb.block b hl)
theorem Z0.new (w:World):Z0 (w.alloc (.map #[] 0)) w.heap.size []:=⟨#[],0,heap_alloc_new w _,rfl,by simp,by simp⟩
def zne (s:List UInt8):List (List UInt8×Value)->Nat->Option (Nat×Value)
 | [],_=>none
 | p :: D,i=>if p.1=s then some (i,p.2) else zne s D (i+1)
def zpa (s:List UInt8) (D:List (List UInt8×Value)):Option Value:=(zne s D 0).map (·.2)
theorem zqd (a b:List UInt8):((⟨a.toArray⟩:ByteArray) == ⟨b.toArray⟩)=decide (a=b):=by
 by_cases h:a=b
 . subst h;rw [decide_eq_true rfl];exact (MapKept.bytes_beq _ _).2 rfl
 . rw [decide_eq_false h]
   cases h1:((⟨a.toArray⟩:ByteArray) == ⟨b.toArray⟩) with
   | false=>rfl
   | true=>
     have h2:=(MapKept.bytes_beq _ _).1 h1;injection h2 with h2
     exact absurd (by simpa using congrArg Array.toList h2) h
theorem YL (s:List UInt8):∀ (l:List MapEntry) (D:List (List UInt8×Value)) (i:Nat),l.map (fun e=>(e.key,e.val))=zcp D->Instr.findNow .string (str s) l i=some (zne s D i)
 | [],[],i,_=>rfl
 | [],_ :: _,_,h=>by simp [zcp] at h
 | _ :: _,[],_,h=>by simp [zcp] at h
 | e :: l,p :: D,i,h=>by
   simp only [zcp,List.map_cons,List.cons.injEq,Prod.mk.injEq] at h;obtain ⟨⟨h1,h2⟩,h3⟩:=h
   have hs:Instr.sameNow .string (str s) e.key=some (decide (p.1=s)):=by
    rw [h1]
    show some ((⟨s.toArray⟩:ByteArray) == ⟨p.1.toArray⟩)=_
    rw [zqd]
    congr 1
    exact decide_eq_decide.2 ⟨Eq.symm,Eq.symm⟩
   unfold Instr.findNow zne;rw [hs]
   by_cases hp:p.1=s
   . rw [decide_eq_true hp,if_pos hp,h2]
   . rw [decide_eq_false hp,if_neg hp]
     exact YL s l D (i+1) h3
section
variable {P:Program} {w:World} {t k e:TypeId} {b:Nat} {D:List (List UInt8×Value)}
theorem zbr {z:Value} (ht:P.underlying t=some (.map k e)) (hk:P.underlying k=some .string) (hz:(zeroValue e).run P w= .ok z w) (h:Z0 w b D) (s:List UInt8) (c:Bool):
 (Instr.lookup t (.map (some b)) (str s) c).run P w= .ok (if c then .tuple #[(zpa s D).getD z,.bool (zpa s D).isSome] else (zpa s D).getD z) w:=by
 obtain ⟨es,clock,hb,he,_⟩:=h
 have hf:=YL s es.toList D 0 he
 have hc:(Instr.checkKey es.isEmpty 10000 k (str s)).run P w= .ok () w:=MapKept.run_checkKey (k:=str s) hk (by simp [MapKept.IsKey]) es.isEmpty 9999
 unfold zpa
 cases hs:zne s D 0 with
 | none=>
   rw [hs] at hf
   simp [Instr.lookup,run_underlying ht,MapKept.run_getObj_map hb,hc,MapKept.run_findKey hk hf,Result.andThen,hz]
 | some p=>
   rw [hs] at hf
   simp [Instr.lookup,run_underlying ht,MapKept.run_getObj_map hb,hc,MapKept.run_findKey hk hf,Result.andThen]
def zr5 (s:List UInt8) (v:Value) (D:List (List UInt8×Value)):List (List UInt8×Value):=match zne s D 0 with
 | none=>D ++ [(s,v)]
 | some p=>D.set p.1 (s,v)
theorem zdi (s:List UInt8):∀ (D:List (List UInt8×Value)) (i:Nat) (p:Nat×Value),zne s D i=some p->i<=p.1/\D[p.1 - i]?=some (s,p.2)
 | [],_,_,h=>by cases h
 | q :: D,i,p,h=>by
   unfold zne at h
   by_cases hq:q.1=s
   . rw [if_pos hq] at h
     injection h with h
     subst h
     simp [<- hq]
   . rw [if_neg hq] at h
     obtain ⟨h1,h2⟩:=zdi s D (i+1) p h;refine ⟨by omega,?_⟩;rw [show p.1 - i=(p.1 - (i+1))+1 by omega,List.getElem?_cons_succ];exact h2
theorem Vr (ht:P.underlying t=some (.map k e)) (hk:P.underlying k=some .string) (h:Z0 w b D) (s:List UInt8) (v:Value):
 ∃ w',(Instr.mapUpdate t (.map (some b)) (str s) v).run P w= .ok () w' /\Z0 w' b (zr5 s v D)/\w.grownBy w' (some b)/\w'.heap.size=w.heap.size:=by
 obtain ⟨es,clock,hb,he,hbn,hbc⟩:=h
 have hf:=YL s es.toList D 0 he
 have hc:(Instr.checkKey false 10000 k (str s)).run P w= .ok () w:=MapKept.run_checkKey (k:=str s) hk (by simp [MapKept.IsKey]) false 9999
 have hg:∀ o,w.grownBy { w with heap:=w.heap.setIfInBounds b o } (some b):=fun o=>⟨rfl,rfl,rfl,by simp,fun r hr hn=>by
  have hne:b≠r:=fun e=>hn (by rw [e])
  simp [hne]⟩
 have hlt:b<w.heap.size:=(Array.getElem?_eq_some_iff.1 hb).1
 unfold zr5
 cases hs:zne s D 0 with
 | none=>
   rw [hs] at hf;refine ⟨{ w with heap:=w.heap.setIfInBounds b (.map (es.push { key:=str s,val:=v,born:=clock }) (clock+1)) },?_,⟨_,_,by simp [hlt];exact ⟨rfl,rfl⟩,?_,?_,?_⟩,hg _,by simp⟩
   . simp [Instr.mapUpdate,run_underlying ht,MapKept.run_getObj_map hb,hc,MapKept.run_findKey hk hf,MapKept.run_setObj_map _ hb,Result.andThen]
   . simp only [Array.toList_push,List.map_append,List.map_cons,List.map_nil,he,zcp]
   . simp only [Array.toList_push,List.map_append,List.map_cons,List.map_nil]
     rw [List.nodup_append];refine ⟨hbn,by simp,fun a ha b hb' e=>?_⟩;simp only [List.mem_singleton] at hb';obtain ⟨x,hx,rfl⟩:=List.mem_map.1 ha;have:=hbc x hx
     omega
   . intro x hx
     rw [Array.toList_push,List.mem_append,List.mem_singleton] at hx
     rcases hx with hx | rfl
     . have:=hbc x hx;omega
     . exact Nat.lt_succ_self _
 | some p=>
   rw [hs] at hf;have hg2:=zdi s D 0 p hs;rw [Nat.sub_zero] at hg2;have hlen:es.size=D.length:=by have:=congrArg List.length he;simpa [zcp] using this
   have hpl:p.1<D.length:=(List.getElem?_eq_some_iff.1 hg2.2).1
   have hkey:(((es[p.1]?).map (·.key)).getD (str s))=str s:=by
    have h1:(es.toList.map (fun e=>(e.key,e.val)))[p.1]?=some (str s,p.2):=by
     rw [he];unfold zcp;rw [List.getElem?_map,hg2.2];rfl
    rw [List.getElem?_map,Array.getElem?_toList] at h1
    cases h2:es[p.1]? with
    | none=>rw [h2] at h1;cases h1
    | some x=>
      rw [h2] at h1;simp only [Option.map_some,Option.some.injEq,Prod.mk.injEq] at h1
      simp [h1.1]
   have hst:(Instr.keyThatStays (((es[p.1]?).map (·.key)).getD (str s)) (str s)).run P w= .ok (str s) w:=by
    rw [hkey];unfold Instr.keyThatStays
    have:Instr.sameBits 10000 (str s) (str s)=true:=by
     show Instr.sameBits (9999+1) _ _=true
     unfold Instr.sameBits;exact (MapKept.bytes_beq _ _).2 rfl
    rw [if_pos this];rfl
   refine ⟨{ w with heap:=w.heap.setIfInBounds b (.map (es.modify p.1 fun e=>{ e with key:=str s,val:=v }) clock) },?_,⟨_,_,by simp [hlt];exact ⟨rfl,rfl⟩,?_,?_⟩,hg _,by simp⟩
   . simp only [Instr.mapUpdate,Sem.run_bind,run_underlying ht,MapKept.run_getObj_map hb,hc,MapKept.run_findKey hk hf,hst,MapKept.run_setObj_map _ hb,Result.andThen]
   . unfold zcp at he |-
     apply List.ext_getElem?
     intro j;have hj:=congrArg (fun l=>l[j]?) he;simp only [List.getElem?_map,Array.getElem?_toList] at hj;rw [List.getElem?_map,List.getElem?_map,Array.getElem?_toList,Array.getElem?_modify,List.getElem?_set]
     by_cases hjp:p.1=j
     . subst hjp
       rw [if_pos rfl,if_pos rfl,if_pos hpl];have:p.1<es.size:=by omega
       rw [Array.getElem?_eq_getElem this]
       rfl
     . rw [if_neg hjp,if_neg hjp];exact hj
   . have hb1:(es.modify p.1 fun e=>{ e with key:=str s,val:=v }).toList.map (·.born)=es.toList.map (·.born):=by
      apply List.ext_getElem?
      intro j;rw [List.getElem?_map,List.getElem?_map,Array.getElem?_toList,Array.getElem?_toList,Array.getElem?_modify]
      split
      . cases es[j]?<;>rfl
      . rfl
     refine ⟨by rw [hb1];exact hbn,fun x hx=>?_⟩;have:x.born∈es.toList.map (·.born):=by rw [<- hb1];exact List.mem_map.2 ⟨x,hx,rfl⟩
     obtain ⟨y,hy,e⟩:=List.mem_map.1 this;have:=hbc y hy
     omega
end
section
variable {P:Program} {ops:Array Oper} {rest:List Oper} {o:Oper} {a:Act} {Q:Exit->Act->World->Prop}
end
theorem zny {s:List UInt8} {v:Value} {D:List (List UInt8×Value)} (h:zpa s D=some v):(s,v)∈D:=by
 unfold zpa at h
 obtain ⟨p,hp,rfl⟩:=Option.map_eq_some_iff.1 h
 exact List.mem_of_getElem? (zdi s D 0 p hp).2
def yn (w:World) (b:Nat):Prop:=∀ p:Addr,p.block=b->∀ x,w.cell? p≠some (.int .u32 x)
section
variable {S T:Nat->Prop} {w w1 w2 w' :World}
theorem Chg.map {b:Nat} {D:List (List UInt8×Value)} (h:Chg S w w') (hb:Z0 w b D) (hg:¬ S b):Z0 w' b D:=hb.keep (h.block b hb.lt hg)
theorem Chg.nat {v:Value} {n:Nat} (h:Chg S w w') (hn:y6 w v n) (hS:∀ b,S b->yn w b):y6 w' v n:=by
 obtain ⟨A,c,ds,e,h1,h2,hr,h3,h4⟩:=hn
 refine ⟨A,c,ds,e,h1,h2,⟨hr.1,fun h0=>?_⟩,h3,h4⟩
 obtain ⟨ad,eA,hb,hc⟩:=hr.2 h0
 refine ⟨ad,eA,Nat.lt_of_lt_of_le hb h.size,fun j u hu=>?_⟩
 have h5:=hc j u hu
 have h6:∃ d:Nat,u= .int .u32 (d:Int):=by
  unfold YE at hu
  rw [List.getElem?_map] at hu
  obtain ⟨d,_,e⟩:=Option.map_eq_some_iff.1 hu
  exact ⟨d,e.symm⟩
 obtain ⟨d,rfl⟩:=h6
 exact h.cell h5 (fun hs=>hS _ hs _ rfl _ h5)
theorem Chg.num {v:Value} {z:Int} (h:Chg S w w') (hn:zR w v z) (hS:∀ b,S b->yn w b):zR w' v z:=by
 rcases hn with h1 | ⟨ad,k,c,n,ng,e,h1,h2⟩
 . exact .inl h1
 . exact .inr ⟨ad,k,c,n,ng,e,h.nat h1 hS,h2⟩
theorem Chg.rat {v:Value} {q:Rat} (h:Chg S w w') (hn:yC w v q) (hS:∀ b,S b->yn w b):yC w' v q:=by
 obtain ⟨x,A,k,c,s,y,B,k',c',t,rfl,h1,h2⟩:=hn
 exact ⟨_,_,_,_,_,_,_,_,_,_,rfl,h.num h1 hS,h.num h2 hS⟩
end
theorem Chg.ratSet {w:World} {g:Nat} {x y:Int} {A B:Option Addr} {k c k' c' :Nat} {s t:Bool}:Chg (· =g) w (World.rat w g x A k c s y B k' c' t):=by
 simp only [World.rat]
 apply Chg.setCell (S:=fun b=>b=g) ?_ (by rfl)
 apply Chg.setCell (S:=fun b=>b=g) ?_ (by rfl)
 apply Chg.setCell (S:=fun b=>b=g) ?_ (by rfl)
 apply Chg.setCell (S:=fun b=>b=g) ?_ (by rfl)
 apply Chg.setCell (S:=fun b=>b=g) ?_ (by rfl)
 apply Chg.setCell (S:=fun b=>b=g) ?_ (by rfl)
 exact Chg.refl w
theorem Z0.noDig {w:World} {b:Nat} {D:List (List UInt8×Value)} (h:Z0 w b D):yn w b:=by
 obtain ⟨es,c,hb,_⟩:=h
 intro p hp x hc
 subst hp
 simp [World.cell?,hb] at hc
def zB (w:World) (b:Nat):Prop:=∃ D,Z0 w b D/\∀ p∈D,∃ q,zp p.1=some q/\yC w p.2 q
theorem zB.lt {w:World} {b:Nat} (h:zB w b):b<w.heap.size:=by obtain ⟨D,h,_⟩:=h;exact h.lt
theorem zB.noDig {w:World} {b:Nat} (h:zB w b):yn w b:=by obtain ⟨D,h,_⟩:=h;exact h.noDig
theorem zB.chg {S:Nat->Prop} {w w' :World} {b:Nat} (h:zB w b) (hc:Chg S w w') (hb:¬ S b) (hS:∀ b,S b->yn w b):zB w' b:=by
 obtain ⟨D,h1,h2⟩:=h
 refine ⟨D,hc.map h1 hb,fun p hp=>?_⟩
 obtain ⟨q,hq,hr⟩:=h2 p hp
 exact ⟨q,hq,hc.rat hr hS⟩
theorem zB.below {w w' :World} {b:Nat} (h:zB w b) (hb:Below w.heap.size w w'):zB w' b:=h.chg (S:=fun _=>False) (Chg.of_below hb) (fun h=>h) (fun _ h=>h.elim)
theorem zB.new (w:World):zB (w.alloc (.map #[] 0)) w.heap.size:=⟨[],Z0.new w,fun p hp=>by cases hp⟩
theorem zmt {s:List UInt8} {v:Value} {D:List (List UInt8×Value)} {p:List UInt8×Value} (h:p∈zr5 s v D):p∈D\/p=(s,v):=by
 unfold zr5 at h
 split at h
 . rcases List.mem_append.1 h with h | h
   . exact .inl h
   . exact .inr (by simpa using h)
 . exact List.mem_or_eq_of_mem_set h
theorem zB.put {w w' :World} {b:Nat} {s:List UInt8} {v:Value} {q:Rat} {D:List (List UInt8×Value)} (h:∀ p∈D,∃ q,zp p.1=some q/\yC w p.2 q) (hm:Z0 w b D) (hq:zp s=some q) (hv:yC w v q)
 (hm' :Z0 w' b (zr5 s v D)) (hg:w.grownBy w' (some b)):zB w' b:=by
 have hc:Chg (fun k=>k=b) w w' :=Chg.of_grown hg rfl
 have hS:∀ k,k=b->yn w k:=fun k e=>by subst e;exact hm.noDig
 refine ⟨_,hm',fun p hp=>?_⟩
 rcases zmt hp with h1 | h1
 . obtain ⟨q',h2,h3⟩:=h p h1
   exact ⟨q',h2,hc.rat h3 hS⟩
 . subst h1
   exact ⟨q,hq,hc.rat hv hS⟩
theorem yC.agg {w:World} {v:Value} {q:Rat} (h:yC w v q):zq3 v:=by
 obtain ⟨x,A,k,c,s,y,B,k',c',t,rfl,h1,h2⟩:=h
 exact ⟨_,_,_,_,_,_,_,_,_,_,rfl⟩
def zpo (w:World) (b:Nat) (l:List UInt8) (e:Ending) (w' :World):Prop:=
 ∃ v ok,e= .returned (.tuple #[v,.bool ok])/\zq3 v/\ok=(zp l).isSome/\(∀ q,zp l=some q->yC w' v q)/\zB w' b/\Chg (· =b) w w'
end Go.Proofs.YtkmcmmcencdcpaaGreatDoor
namespace Go.Proofs.YtkmcmmcencdcpaaGreatDoor
open Go.RowKit Go.Deep
def ZO (v:Value):Prop:=∀ x,v≠ .int .u32 x
theorem XJ {w:World} {b:Nat} {cs:Array Value} {t:TypeId} {fr:Nat×Nat} (h:w.heap[b]?=some (.cells cs t fr)) (hn:∀ u∈cs,ZO u):yn w b:=by
 intro p hp x hc
 unfold World.cell? at hc
 rw [hp,h] at hc
 simp only at hc
 split at hc
 . cases hc
 . exact hn _ (Array.mem_of_getElem? hc) x rfl
theorem zbd {cs:Array Value} (h:vN cs):∀ u∈cs,ZO u:=by
 intro u hu x e
 subst e
 obtain ⟨i,hi,e⟩:=Array.mem_iff_getElem.1 hu
 exact h i x (by rw [Array.getElem?_eq_getElem hi,e])
theorem ZC {cs:Array Value} (h:∀ u∈cs,ZO u):vN cs:=fun i d e=>h _ (Array.mem_of_getElem? e) d rfl
theorem Blk.noDig {w:World} {g:Nat} {t:TypeId} {cs:Array Value} (h:Blk w g t cs) (hn:vN cs):yn w g:=XJ h (zbd hn)
theorem xC (x:Int):ZO (.int .i64 x):=fun _ e=>by cases e
theorem Zt (b:Bool):ZO (.bool b):=fun _ e=>by cases e
theorem ys (A:Option Addr) (n c:Nat):ZO (.slice A n c):=fun _ e=>by cases e
theorem vY (s:ByteArray):ZO (.string s):=fun _ e=>by cases e
theorem zn3 (b:Option Nat):ZO (.map b):=fun _ e=>by cases e
section
variable {S:Nat->Prop} {w w' :World}
theorem Chg.noDig {b:Nat} (h:Chg S w w') (hn:yn w b) (hb:b<w.heap.size) (hS:¬ S b):yn w' b:=by
 intro p hp x hc
 refine hn p hp x ?_
 rw [<- hc]
 unfold World.cell?
 rw [hp,h.block b hb hS]
end
def zbm (w:World) (g k:Nat) (z:Int):Prop:=
 ∃ (x:Int) (A:Option Addr) (n c:Nat) (ng:Bool),w.cell? ⟨g,k*3,none⟩=some (.int .i64 x)/\w.cell? ⟨g,k*3+1,none⟩=some (.slice A n c)/\w.cell? ⟨g,k*3+2,none⟩=some (.bool ng)/\
  zR w (.agg #[.int .i64 x,.slice A n c,.bool ng]) z
def xy (w:World) (g L n:Nat) (f:Nat->Int):Prop:=(∃ cs,Blk w g 91 cs/\cs.size=L*3/\vN cs)/\∀ k,k<n->zbm w g k (f k)
abbrev World.numAt (w:World) (g k:Nat) (x:Int) (A:Option Addr) (n c:Nat) (ng:Bool):World:=
 ((w.setCell ⟨g,k*3,none⟩ (.int .i64 x)).setCell ⟨g,k*3+1,none⟩ (.slice A n c)).setCell ⟨g,k*3+2,none⟩ (.bool ng)
section
variable {S:Nat->Prop} {w w' :World} {g L n:Nat} {f:Nat->Int}
theorem zbm.chg {k:Nat} {q:Int} (h:zbm w g k q) (hc:Chg S w w') (hg:¬ S g) (hS:∀ b,S b->yn w b):zbm w' g k q:=by
 obtain ⟨x,A,n,c,ng,h0,h1,h2,h3⟩:=h
 exact ⟨x,A,n,c,ng,hc.cell h0 hg,hc.cell h1 hg,hc.cell h2 hg,hc.num h3 hS⟩
theorem zbm.below {k:Nat} {q:Int} (h:zbm w g k q) (hb:Below w.heap.size w w'):zbm w' g k q:=h.chg (S:=fun _=>False) (Chg.of_below hb) (fun h=>h) (fun _ h=>h.elim)
theorem xy.lt (h:xy w g L n f):g<w.heap.size:=by obtain ⟨⟨cs,h,_⟩,_⟩:=h;exact h.lt
theorem xy.noDig (h:xy w g L n f):yn w g:=by obtain ⟨⟨cs,h,_,hn⟩,_⟩:=h;exact h.noDig hn
theorem xy.chg (h:xy w g L n f) (hc:Chg S w w') (hg:¬ S g) (hS:∀ b,S b->yn w b):xy w' g L n f:=by
 obtain ⟨⟨cs,h1,h2,h3⟩,h4⟩:=h
 exact ⟨⟨cs,hc.blk h1 hg,h2,h3⟩,fun k hk=>(h4 k hk).chg hc hg hS⟩
theorem xy.below (h:xy w g L n f) (hb:Below w.heap.size w w'):xy w' g L n f:=h.chg (S:=fun _=>False) (Chg.of_below hb) (fun h=>h) (fun _ h=>h.elim)
theorem xy.frozen (h:xy w g L n f) (i:Nat):w.frozen? ⟨g,i,none⟩=false:=by obtain ⟨⟨cs,h,_⟩,_⟩:=h;exact h.frozen i
theorem xy.slots (h:xy w g L n f) {k:Nat} (hk:k<L):∃ u0 u1 u2,w.cell? ⟨g,k*3,none⟩=some u0/\w.cell? ⟨g,k*3+1,none⟩=some u1/\w.cell? ⟨g,k*3+2,none⟩=some u2:=by
 obtain ⟨⟨cs,h1,h2,h3⟩,_⟩:=h
 refine ⟨cs[k*3]'(by omega),cs[k*3+1]'(by omega),cs[k*3+2]'(by omega),?_,?_,?_⟩
 all_goals rw [h1.cell,Array.getElem?_eq_getElem]
theorem xy.fewer (h:xy w g L n f) {m:Nat} {f' :Nat->Int} (hm:∀ k,k<m->k<n/\f' k=f k):xy w g L m f' :=by
 refine ⟨h.1,fun k hk=>?_⟩
 obtain ⟨h1,h2⟩:=hm k hk
 rw [h2];exact h.2 k h1
theorem vE {k:Nat} {x:Int} {ng:Bool} {A:Option Addr} {n c:Nat}:Chg (· =g) w (World.numAt w g k x A n c ng):=
 Chg.setCell (S:=fun b=>b=g) (Chg.setCell (S:=fun b=>b=g) (Chg.setCell (S:=fun b=>b=g) (Chg.refl w) (p:=⟨g,k*3,none⟩) rfl _) (p:=⟨g,k*3+1,none⟩) rfl _) (p:=⟨g,k*3+2,none⟩) rfl _
theorem xi {cs:Array Value} (h:vN cs) {u:Value} (hu:ZO u) (i:Nat):vN (cs.setIfInBounds i u):=by
 intro j x e
 rw [Array.getElem?_setIfInBounds] at e
 split at e
 . split at e
   . injection e with e;exact hu x e
   . cases e
 . exact h j x e
theorem xy.set {k m' :Nat} {q:Int} {f' :Nat->Int} {x:Int} {ng:Bool} {A:Option Addr} {n1 c:Nat} (h:xy w g L n f) (hk:k<L) (hv:zR w (.agg #[.int .i64 x,.slice A n1 c,.bool ng]) q)
 (hf:∀ j,j<m' ->(j=k/\f' j=q)\/(j≠k/\j<n/\f' j=f j)):xy (World.numAt w g k x A n1 c ng) g L m' f' :=by
 have hc:=vE (w:=w) (g:=g) (k:=k) (x:=x) (ng:=ng) (A:=A) (n:=n1) (c:=c)
 have hS:∀ b,b=g->yn w b:=fun b e=>by subst e;exact h.noDig
 have hv' :=hc.num hv hS
 obtain ⟨⟨cs,h1,h2,h3⟩,h4⟩:=h
 have hb:=((h1.set_ (k*3) (.int .i64 x)).set_ (k*3+1) (.slice A n1 c)).set_ (k*3+2) (.bool ng)
 refine ⟨⟨_,hb,by simpa using h2,xi (xi (xi h3 (xC _) _) (ys _ _ _) _) (Zt _) _⟩,fun j hj=>?_⟩
 rcases hf j hj with ⟨rfl,e⟩ | ⟨hne,hjn,e⟩
 . rw [e]
   refine ⟨x,A,n1,c,ng,?_,?_,?_,hv'⟩
   . rw [hb.cell];simp [Array.getElem?_setIfInBounds];omega
   . rw [hb.cell];simp [Array.getElem?_setIfInBounds];omega
   . rw [hb.cell];simp [Array.getElem?_setIfInBounds];omega
 . rw [e]
   obtain ⟨x',A',n',c',ng',e0,e1,e2,e3⟩:=h4 j hjn;rw [h1.cell] at e0 e1 e2;refine ⟨x',A',n',c',ng',?_,?_,?_,hc.num e3 hS⟩
   . rw [hb.cell,Array.getElem?_setIfInBounds,if_neg (by omega),Array.getElem?_setIfInBounds,if_neg (by omega),Array.getElem?_setIfInBounds,if_neg (by omega)];exact e0
   . rw [hb.cell,Array.getElem?_setIfInBounds,if_neg (by omega),Array.getElem?_setIfInBounds,if_neg (by omega),Array.getElem?_setIfInBounds,if_neg (by omega)];exact e1
   . rw [hb.cell,Array.getElem?_setIfInBounds,if_neg (by omega),Array.getElem?_setIfInBounds,if_neg (by omega),Array.getElem?_setIfInBounds,if_neg (by omega)];exact e2
end
def vJ (w:World) (base:Nat) (e:TypeId) (size:Nat) (v:Value) (n:Nat) (xs:List Value):Prop:=w.ownsRow base e size v n xs/\∀ g,v.ownBlock=some g->yn w g
theorem Z2 (w:World) (base:Nat) (e:TypeId) (size:Nat):vJ w base e size (.slice none 0 0) 0 []:=⟨World.ownsRow_nil w base e size,fun g h=>by cases h⟩
section
variable {S:Nat->Prop} {w w' :World} {base n size:Nat} {e:TypeId} {v:Value} {xs:List Value}
theorem vJ.chg (h:vJ w base e size v n xs) (hc:Chg S w w') (hS:∀ g,v.ownBlock=some g->¬ S g):vJ w' base e size v n xs:=by
 obtain ⟨h1,h2⟩:=h
 have hlt:=h1.lt
 refine ⟨⟨h1.1,?_⟩,fun g hg=>hc.noDig (h2 g hg) (hlt g hg).2 (hS g hg)⟩
 rcases h1.2 with h3 | ⟨g,cap,cur,rfl,h3,h4,h5⟩
 . exact .inl h3
 . exact .inr ⟨g,cap,cur,rfl,h3,(hc.block g (hlt g rfl).2 (hS g rfl)).trans h4,h5⟩
theorem vJ.below (h:vJ w base e size v n xs) (hb:Below w.heap.size w w'):vJ w' base e size v n xs:=h.chg (S:=fun _=>False) (Chg.of_below hb) (fun _ _ h=>h)
theorem vJ.stored {g cap:Nat} (h:vJ w base e size (.slice (some ⟨g,0,none⟩) n cap) n xs) (j:Nat) {u:Value} (hu:ZO u):
 vJ (w.setCell ⟨g,j,none⟩ u) base e size (.slice (some ⟨g,0,none⟩) n cap) n (xs.set j u):=by
 refine ⟨(h.1.stored j u).1,fun k hk=>?_⟩
 obtain rfl:g=k:=by simpa [Value.ownBlock] using hk
 have h2:=h.2 g rfl
 rcases h.1.2 with h' | ⟨g',cap',cur,h',hb,hg,_⟩
 . simp at h'
 . simp only [Value.slice.injEq,Option.some.injEq,Addr.mk.injEq,and_true,true_and] at h'
   obtain ⟨rfl,rfl⟩:=h';refine XJ (heap_setCell_same w g j cur e u hg) ?_;refine zbd (xi ?_ hu j);intro i x hx;exact h2 ⟨g,i,none⟩ rfl x (by rw [cell_of_row w g i cur e (0,0) hg];exact hx)
end
theorem Xp {z:Array Value} {k:Nat} {u:Value} (h:u∈Builtin.zeroCells z k) (hz:0<z.size):u∈z:=by
 unfold Builtin.zeroCells at h
 rw [Array.mem_map] at h
 obtain ⟨i,_,rfl⟩:=h
 have:=Nat.mod_lt i hz
 rw [getElem!_pos z _ this]
 exact Array.getElem_mem this
section
variable {P:Program} (w:World)
theorem Yl (base:Nat) (t ty e:TypeId) (i:TypeInfo) (z:Value) (size bytes:Nat) (ht:P.underlying t=some (.slice e)) (hi:P.info? e=some i) (hz:i.zero=some z)
 (hsize:i.size=size) (hby:i.bytes=bytes) (hzs:z.cells.size=size) (hsz:0<size)
 (v:Value) (n:Nat) (xs:List Value) (hown:vJ w base e size v n xs)
 (ad:Addr) (m c:Nat) (news:List Value) (hl:news.length=m*size) (hm:0<m) (hnews:∀ j u,news[j]?=some u->w.cell? (ad.add j)=some u) (h1:∀ u∈news,u.oneCell' =true)
 (hno:∀ u∈news,ZO u) (hzn:∀ u∈z.cells,ZO u) (h63:n+m<=maxLen) (hbytes:(n+m)*bytes<=140737488355328) (hbase:base<=w.heap.size):
 ∃ v' w',(Builtin.append_ #[t,t] ty #[v,.slice (some ad) m c]).run P w= .ok v' w' /\vJ w' base e size v' (n+m) (xs ++ news)/\w.grownBy w' v.ownBlock/\(v'.ownBlock=v.ownBlock\/v'.ownBlock=some w.heap.size):=by
 obtain ⟨v',w',hrun,h2,h3,_,h5⟩:=run_append_own_at (P:=P) w base t ty e i z size bytes ht hi hz hsize hby hzs hsz v n xs hown.1 ad m c news hl hnews h1 h63 hbytes hbase
 refine ⟨v',w',hrun,⟨h2,fun g hg=>?_⟩,h3,h5⟩
 subst hsize
 subst hby
 have hsmall:n+m<=9223372036854775807:=by simp only [maxLen] at h63;omega
 have hxs:∀ u∈xs,ZO u:=by
  rcases hown.1.2 with ⟨rfl,h0⟩ | ⟨g',cap,cur,rfl,hbg,hg',hnc,hcm,hcs,htake⟩
  . have:xs=[]:=List.eq_nil_of_length_eq_zero (by rw [hown.1.1,h0];omega)
    subst this;intro u hu;cases hu
  . intro u hu x e0
    subst e0;rw [<- htake] at hu;have hu2:=List.mem_of_mem_take hu;obtain ⟨k,hk,e1⟩:=List.mem_iff_getElem.1 hu2;refine hown.2 g' rfl ⟨g',k,none⟩ rfl x ?_;rw [cell_of_row w g' k cur e (0,0) hg', <- Array.getElem?_toList,List.getElem?_eq_getElem hk,e1]
 rcases hown.1.2 with ⟨rfl,h0⟩ | ⟨g',cap,cur,rfl,hbg,hg',hnc,hcm,hcs,htake⟩
 . subst h0
   have hr:=run_append_nil (P:=P) w t ty e i z ht hi hz ad m c news hl hnews hm (by omega) (by have hb:=hbytes;simp only [Nat.zero_add] at hb;omega);rw [hrun] at hr;injection hr with e1 e2
   subst e1 e2;obtain rfl:w.heap.size=g:=by simpa [Value.ownBlock] using hg
   refine XJ (heap_alloc_new w.drew _) ?_;intro u hu
   rcases Array.mem_append.1 hu with h | h
   . exact hno u (by simpa using h)
   . exact hzn u (Xp h (by omega))
 . by_cases hroom:n+m<=cap
   . have hfit:n*i.size+news.length<=cur.size:=by rw [hl,hcs, <- Nat.add_mul];exact Nat.mul_le_mul_right _ hroom
     have hr:=run_append_room (P:=P) w t ty e i ht hi g' n cap cur hg' ad m c news hl hnews h1 hroom hfit;rw [hrun] at hr;injection hr with e1 e2
     subst e1 e2;obtain rfl:g' =g:=by simpa [Value.ownBlock] using hg
     refine XJ (setRow_heap w g' cur _ e _ hg') ?_
     have hcur:∀ u∈cur.toList,ZO u:=by
      intro u hu x e0;subst e0;obtain ⟨k,hk,e1⟩:=List.mem_iff_getElem.1 hu;refine hown.2 g' rfl ⟨g',k,none⟩ rfl x ?_;rw [cell_of_row w g' k cur e (0,0) hg', <- Array.getElem?_toList,List.getElem?_eq_getElem hk,e1]
     intro u hu;have hu2:u∈cur.toList.take (n*i.size) ++ news ++ cur.toList.drop (n*i.size+news.length):=by simpa using hu
     rcases List.mem_append.1 hu2 with h | h
     . rcases List.mem_append.1 h with h | h
       . exact hcur u (List.mem_of_mem_take h)
       . exact hno u h
     . exact hcur u (List.mem_of_mem_drop h)
   . have holds:∀ j u,xs[j]?=some u->w.cell? ((⟨g',0,none⟩:Addr).add j)=some u:=hown.1.cells (g:=g') rfl
     have hr:=run_append_grow (P:=P) w t ty e i z ht hi hz ⟨g',0,none⟩ n cap xs hown.1.1 holds ad m c news hl hnews (by omega) (by omega) (growslice_fits (by omega) hbytes);rw [hrun] at hr;injection hr with e1 e2
     subst e1 e2;obtain rfl:w.heap.size=g:=by simpa [Value.ownBlock] using hg
     refine XJ (heap_alloc_new w.drew _) ?_;intro u hu
     rcases Array.mem_append.1 hu with h | h
     . rcases Array.mem_append.1 h with h | h
       . exact hxs u (by simpa using h)
       . exact hno u (by simpa using h)
     . exact hzn u (Xp h (by omega))
theorem yz {w:World} {ops:Array Oper} {rest:List Oper} {o:Oper} {a:Act} {Q:Exit->Act->World->Prop} (hgd:o.guard=none) (s x:Operand) (t:TypeId)
 (ho:o.op= .call { callee:=.builtin .append,args:=#[s,x],argTypes:=#[t,t] })
 (base:Nat) (e:TypeId) (i:TypeInfo) (z:Value) (size bytes:Nat) (ht:P.underlying t=some (.slice e)) (hi:P.info? e=some i) (hz:i.zero=some z)
 (hsize:i.size=size) (hby:i.bytes=bytes) (hzs:z.cells.size=size) (hsz:0<size)
 (v:Value) (n:Nat) (xs:List Value) (hs:a.eval s=v) (hown:vJ w base e size v n xs)
 (ad:Addr) (m c:Nat) (news:List Value) (hx:a.eval x= .slice (some ad) m c) (hl:news.length=m*size) (hm:0<m) (hnews:∀ j u,news[j]?=some u->w.cell? (ad.add j)=some u) (h1:∀ u∈news,u.oneCell' =true)
 (hno:∀ u∈news,ZO u) (hzn:∀ u∈z.cells,ZO u) (h63:n+m<=maxLen) (hbytes:(n+m)*bytes<=140737488355328) (hbase:base<=w.heap.size)
 (h:∀ v' w',vJ w' base e size v' (n+m) (xs ++ news)->w.grownBy w' v.ownBlock->(v'.ownBlock=v.ownBlock\/v'.ownBlock=some w.heap.size)->wpList P ops Q rest (a.put o.dst v') w'):wpList P ops Q (o :: rest) a w:=
 wpList_plain hgd fun K hK=>by
  obtain ⟨v',w',hrun,h2,h3,h4⟩:=Yl (P:=P) w base t o.type e i z size bytes ht hi hz hsize hby hzs hsz v n xs hown ad m c news hl hm hnews h1 hno hzn h63 hbytes hbase
  unfold Oper.wp execOp
  simp only [ho,resolve,invoke,builtin,Sem.run_bind,Sem.run_pure,Result.andThen_ok,List.map_toArray,List.map_cons,List.map_nil,hs,hx,hrun]
  exact hK _ _ (h v' w' h2 h3 h4)
end
end Go.Proofs.YtkmcmmcencdcpaaGreatDoor
namespace Go.Proofs.YtkmcmmcencdcpaaGreatDoor
open Go.RowKit Go.Deep
attribute [local go_sem ↓] Go.wp_at_zero Go.wp_at_succ
theorem zey:Tryz.prog.underlying 80=some (.map 34 93):=by kernel_rfl
theorem zej:Tryz.prog.underlying 34=some .string:=by kernel_rfl
theorem zm8 (w:World):(zeroValue 93).run Tryz.prog w= .ok (.agg #[.int .i64 0,.slice none 0 0,.bool false,.int .i64 0,.slice none 0 0,.bool false]) w:=by kernel_rfl
theorem vD (b:Nat) (a:ByteArray) (w:World) (hB:zB w b) (ha:a.size<=1073741824):
 Calls Tryz.prog 85 #[.map (some b),.string a] w (zpo w b (bts a)):=by
 obtain ⟨D,hm,hD⟩:=hB
 have hl:=zbr (w:=w.alloc (.cells #[.int .i64 0,.slice none 0 0,.bool false,.int .i64 0,.slice none 0 0,.bool false] 93)) zey zej (zm8 _) (hm.keep (Below.heap_alloc _ _ _ hm.lt)) (bts a) true
 rw [show str (bts a)= .string a from by rw [zmm]] at hl
 have HM:=ze hm
 have HD:=ze hD
 have HA:=ze ha
 clear hm hD ha
 cases hg:zpa (bts a) D with
 | some v=>
   rw [hg] at hl;simp only [Option.getD_some,Option.isSome_some,if_true] at hl;obtain ⟨q,hq,hv⟩:=HD.out _ (zny hg);obtain ⟨x,A,k,c,s,y,B,k',c',t,rfl,h1,h2⟩:=hv;clear hg
   go_enter Tryz.func85,Tryz.ntmps85
   go_wp2_with fail;have kR:=(Blk.new w 93 #[.int .i64 x,.slice A k c,.bool s,.int .i64 y,.slice B k' c',.bool t]).alloc (.cells #[.int .i64 x,.slice A k c,.bool s,.int .i64 y,.slice B k' c',.bool t] 93);have e0:=kR.cell 0;have e1:=kR.cell 1;have e2:=kR.cell 2;have e3:=kR.cell 3;have e4:=kR.cell 4;have e5:=kR.cell 5;simp at e0 e1 e2 e3 e4 e5;have hW:=ext (zf w (.cells #[.int .i64 x,.slice A k c,.bool s,.int .i64 y,.slice B k' c',.bool t] 93)) (zf _ (.cells #[.int .i64 x,.slice A k c,.bool s,.int .i64 y,.slice B k' c',.bool t] 93));refine bodyPost_ret (v:=.tuple #[.agg #[.int .i64 x,.slice A k c,.bool s,.int .i64 y,.slice B k' c',.bool t],.bool true]) (by simp [results,Tryz.results85,go_sem,e0,e1,e2,e3,e4,e5]) rfl ?_;have hr:yC w (.agg #[.int .i64 x,.slice A k c,.bool s,.int .i64 y,.slice B k' c',.bool t]) q:=⟨_,_,_,_,_,_,_,_,_,_,rfl,h1,h2⟩;refine ⟨_,_,rfl,hr.agg,by rw [hq];rfl,fun q' hq' =>?_,zB.below ⟨D,HM.out,HD.out⟩ hW,Chg.of_below hW⟩;rw [hq] at hq';injection hq' with hq'
   subst hq';exact hr.below hW
 | none=>
   rw [hg] at hl;simp only [Option.getD_none,Option.isSome_none,if_true] at hl;have hrat:=fun w=>YP a w HA.out
   have kR:=(Blk.new w 93 #[.int .i64 0,.slice none 0 0,.bool false,.int .i64 0,.slice none 0 0,.bool false]).alloc (.cells #[.int .i64 0,.slice none 0 0,.bool false,.int .i64 0,.slice none 0 0,.bool false] 93);have hW:=ext (zf w (.cells #[.int .i64 0,.slice none 0 0,.bool false,.int .i64 0,.slice none 0 0,.bool false] 93)) (zf _ (.cells #[.int .i64 0,.slice none 0 0,.bool false,.int .i64 0,.slice none 0 0,.bool false] 93));have HKR:=ze kR;have HW:=ze hW;clear hg kR hW
   go_enter Tryz.func85,Tryz.ntmps85
   go_wp2_with fail;refine (hrat _).mono ?_;rintro e w1 ⟨v,ok,rfl,⟨x,A,k,c,s,y,B,k',c',t,rfl⟩,hok,hq,hbl⟩;have kR1:=HKR.out.below hbl HKR.out.lt;have hW1:=ext HW.out hbl;have hm1:Z0 w1 b D:=HM.out.below hW1 HM.out.lt;have hne:b≠w.heap.size:=Nat.ne_of_lt HM.out.lt;have hD1:∀ p∈D,∃ q,zp p.1=some q/\yC w1 p.2 q:=fun p hp=>(HD.out p hp).imp fun q h=>⟨h.1,h.2.below hW1⟩
   have hx:=zf w1 (.cells #[.int .i64 x,.slice A k c,.bool s,.int .i64 y,.slice B k' c',.bool t] 93);have kR2:=kR1.alloc (.cells #[.int .i64 x,.slice A k c,.bool s,.int .i64 y,.slice B k' c',.bool t] 93);have kX2:=Blk.new w1 93 #[.int .i64 x,.slice A k c,.bool s,.int .i64 y,.slice B k' c',.bool t];have hm2:=hm1.below hx hm1.lt;have hb1:=hm1.lt;have HOK:=ze hok;have HQ:=ze hq;have HW1:=ze hW1;have HD1:=ze hD1;have HX:=ze hx
   cases ok with
   | true=>
     obtain ⟨w2,hu,hm3,hg2,hs2⟩:=Vr zey zej hm2 (bts a) (.agg #[.int .i64 x,.slice A k c,.bool s,.int .i64 y,.slice B k' c',.bool t]);rw [zmm] at hu;have kR3:=kR2.grown hg2 (fun e=>hne (by injection e with e;exact e.symm));have kX3:=kX2.grown hg2 (fun e=>by injection e with e;omega);have HKR3:=ze kR3;have a0:=kR3.cell 0;have a1:=kR3.cell 1;have a2:=kR3.cell 2;have a3:=kR3.cell 3;have a4:=kR3.cell 4;have a5:=kR3.cell 5;have f0:=kR3.frozen 0;have f1:=kR3.frozen 1;have f2:=kR3.frozen 2;have f3:=kR3.frozen 3;have f4:=kR3.frozen 4;have f5:=kR3.frozen 5;have e0:=kX3.cell 0;have e1:=kX3.cell 1;have e2:=kX3.cell 2;have e3:=kX3.cell 3;have e4:=kX3.cell 4;have e5:=kX3.cell 5;simp at a0 a1 a2 a3 a4 a5 e0 e1 e2 e3 e4 e5;clear hok hq hW1 hD1 hx hrat hbl kR1 kR2 kX2 kR3 kX3 hm1;go_wp2_with fail;have kR4:=yu (x:=x) (A:=A) (k:=k) (c:=c) (s:=s) (y:=y) (B:=B) (k' :=k') (c' :=c') (t:=t) HKR3.out;have r0:=kR4.cell 0;have r1:=kR4.cell 1;have r2:=kR4.cell 2;have r3:=kR4.cell 3;have r4:=kR4.cell 4;have r5:=kR4.cell 5;simp only [World.rat] at r0 r1 r2 r3 r4 r5
     simp at r0 r1 r2 r3 r4 r5;refine bodyPost_ret (v:=.tuple #[.agg #[.int .i64 x,.slice A k c,.bool s,.int .i64 y,.slice B k' c',.bool t],.bool true]) (by simp [results,Tryz.results85,go_sem,r0,r1,r2,r3,r4,r5]) rfl ?_;obtain ⟨q,hq'⟩:=Option.isSome_iff_exists.1 HOK.out.symm;have hv2:=(HQ.out q hq').below HX.out;have hS2:∀ z,z=b->yn _ z:=fun z hz=>by subst hz;exact hm2.noDig
     have hcg:Chg (fun z=>z=b) _ w2:=Chg.of_grown hg2 rfl;have hv3:yC w2 _ q:=hcg.rat hv2 hS2;have hbk:zB w2 b:=zB.put (fun p hp=>(HD1.out p hp).imp fun q h=>⟨h.1,h.2.below HX.out⟩) hm2 hq' hv2 hm3 hg2;have hS:∀ z,z=w.heap.size->yn w2 z:=fun z hz=>by subst hz;exact HKR3.out.noDig (Xd _ _ _ _ _ _ _ _ _ _)
     have hcr:=Chg.ratSet (w:=w2) (g:=w.heap.size) (x:=x) (A:=A) (k:=k) (c:=c) (s:=s) (y:=y) (B:=B) (k' :=k') (c' :=c') (t:=t);have hv4:yC _ _ q:=hcr.rat hv3 hS;have hc1:Chg (fun z=>z=b) w w2:=Chg.trans (S:=fun z=>z=b) (T:=fun z=>z=b) (Chg.of_below (ext HW1.out HX.out)) hcg (fun z _ h=>h);have hc2:Chg (fun z=>z=b) w _:=Chg.trans (S:=fun z=>z=b) (T:=fun z=>z=w.heap.size) hc1 hcr (fun z hz h=>absurd hz (by omega));refine ⟨_,_,rfl,hv2.agg,HOK.out,fun q' hq'' =>?_,hbk.chg hcr hne hS,hc2⟩;rw [hq'] at hq'';injection hq'' with hq''
     subst hq'';exact hv4
   | false=>
     have HKR2:=ze kR2;have a0:=kR2.cell 0;have a1:=kR2.cell 1;have a2:=kR2.cell 2;have a3:=kR2.cell 3;have a4:=kR2.cell 4;have a5:=kR2.cell 5;have f0:=kR2.frozen 0;have f1:=kR2.frozen 1;have f2:=kR2.frozen 2;have f3:=kR2.frozen 3;have f4:=kR2.frozen 4;have f5:=kR2.frozen 5;have e0:=kX2.cell 0;have e1:=kX2.cell 1;have e2:=kX2.cell 2;have e3:=kX2.cell 3;have e4:=kX2.cell 4;have e5:=kX2.cell 5;simp at a0 a1 a2 a3 a4 a5 e0 e1 e2 e3 e4 e5;have HM2:=ze hm2;clear hok hq hW1 hD1 hx hrat hbl kR1 kR2 kX2 hm1 hm2;go_wp2_with fail;have kR4:=yu (x:=x) (A:=A) (k:=k) (c:=c) (s:=s) (y:=y) (B:=B) (k' :=k') (c' :=c') (t:=t) HKR2.out;have r0:=kR4.cell 0;have r1:=kR4.cell 1;have r2:=kR4.cell 2;have r3:=kR4.cell 3;have r4:=kR4.cell 4;have r5:=kR4.cell 5;simp only [World.rat] at r0 r1 r2 r3 r4 r5;simp at r0 r1 r2 r3 r4 r5;refine bodyPost_ret (v:=.tuple #[.agg #[.int .i64 x,.slice A k c,.bool s,.int .i64 y,.slice B k' c',.bool t],.bool false]) (by simp [results,Tryz.results85,go_sem,r0,r1,r2,r3,r4,r5]) rfl ?_
     have hbk:zB (w1.alloc (.cells #[.int .i64 x,.slice A k c,.bool s,.int .i64 y,.slice B k' c',.bool t] 93)) b:=⟨D,HM2.out,fun p hp=>(HD1.out p hp).imp fun q h=>⟨h.1,h.2.below HX.out⟩⟩;have hS:∀ z,z=w.heap.size->yn (w1.alloc (.cells #[.int .i64 x,.slice A k c,.bool s,.int .i64 y,.slice B k' c',.bool t] 93)) z:=fun z hz=>by subst hz;exact HKR2.out.noDig (Xd _ _ _ _ _ _ _ _ _ _)
     have hcr:=Chg.ratSet (w:=w1.alloc (.cells #[.int .i64 x,.slice A k c,.bool s,.int .i64 y,.slice B k' c',.bool t] 93)) (g:=w.heap.size) (x:=x) (A:=A) (k:=k) (c:=c) (s:=s) (y:=y) (B:=B) (k' :=k') (c' :=c') (t:=t);have hc1:Chg (fun z=>z=b) w (w1.alloc (.cells #[.int .i64 x,.slice A k c,.bool s,.int .i64 y,.slice B k' c',.bool t] 93)):=Chg.of_below (ext HW1.out HX.out);have hc2:=Chg.trans (S:=fun z=>z=b) (T:=fun z=>z=w.heap.size) hc1 hcr (fun z hz h=>absurd hz (by omega));refine ⟨_,_,rfl,⟨_,_,_,_,_,_,_,_,_,_,rfl⟩,HOK.out,fun q hq=>?_,hbk.chg hcr hne hS,hc2⟩;have h:=HOK.out;rw [hq] at h
     cases h
end Go.Proofs.YtkmcmmcencdcpaaGreatDoor
namespace Go.Proofs.YtkmcmmcencdcpaaGreatDoor
open Go.RowKit
def X1 (w:World) (b:Nat):Prop:=∀ p:Addr,p.block=b->w.cell? p=none
theorem Z0.noCells {w:World} {b:Nat} {D:List (List UInt8×Value)} (h:Z0 w b D):X1 w b:=by
 obtain ⟨es,c,hb,_⟩:=h
 intro p hp
 subst hp
 simp [World.cell?,hb]
theorem zB.noCells {w:World} {b:Nat} (h:zB w b):X1 w b:=by obtain ⟨D,h,_⟩:=h;exact h.noCells
theorem zY.chg {S:Nat->Prop} {w w' :World} {B size n:Nat} {A:Option Addr} {xs:List Value} (h:zY w B size A n xs) (hc:Chg S w w') (hS:∀ b,b<B->S b->X1 w b):zY w' B size A n xs:=
 ⟨h.1,fun hn=>by
  obtain ⟨ad,e,hb,hcl⟩:=h.2 hn
  exact ⟨ad,e,hb,fun j u hu=>hc.cell (hcl j u hu) (fun hs=>by
   have h1:=hS _ (by rw [zF];exact hb) hs _ rfl
   rw [hcl j u hu] at h1;cases h1)⟩⟩
def v8 (n:Nat) (f g:Nat->Value):List Value:=(List.range n).flatMap fun i=>[f i,g i]
theorem Zg (n:Nat) (f g:Nat->Value):v8 (n+1) f g=v8 n f g ++ [f n,g n]:=by
 unfold v8
 rw [List.range_succ,List.flatMap_append]
 simp
theorem zdd (n:Nat) (f g:Nat->Value):(v8 n f g).length=n*2:=by
 induction n with
 | zero=>rfl
 | succ n ih=>rw [Zg,List.length_append,ih];simp;omega
theorem zjo {n:Nat} {f g:Nat->Value} {k:Nat} (hk:k<n):(v8 n f g)[k*2]?=some (f k)/\(v8 n f g)[k*2+1]?=some (g k):=by
 induction n with
 | zero=>omega
 | succ n ih=>
   rw [Zg];have hl:=zdd n f g
   rcases Nat.lt_or_ge k n with h | h
   . rw [List.getElem?_append_left (by omega),List.getElem?_append_left (by omega)];exact ih h
   . obtain rfl:k=n:=by omega
     rw [List.getElem?_append_right (by omega),List.getElem?_append_right (by omega),hl,show k*2 - k*2=0 by omega,show k*2+1 - k*2=1 by omega];exact ⟨rfl,rfl⟩
theorem VA {n:Nat} {f g f' g' :Nat->Value} (h:∀ k,k<n->f k=f' k/\g k=g' k):v8 n f g=v8 n f' g' :=by
 induction n with
 | zero=>rfl
 | succ n ih=>rw [Zg,Zg,ih (fun k hk=>h k (by omega)),(h n (by omega)).1,(h n (by omega)).2]
theorem zln (ad:Addr) (i:Nat):(⟨(ad.add i).block,(ad.add i).off+1,none⟩:Addr)=ad.add (i+1):=by
 unfold Addr.add
 by_cases h:i=0
 . subst h;simp
 . rw [if_neg h,if_neg (by omega)];simp [Nat.add_assoc]
theorem zY.at2 {w:World} {B n:Nat} {A:Option Addr} {f g:Nat->Value} (h:zY w B 2 A n (v8 n f g)) {k:Nat} (hk:k<n):
 ∃ ad,A=some ad/\ad.block<B/\w.cell? (ad.add (k*2))=some (f k)/\w.cell? ⟨(ad.add (k*2)).block,(ad.add (k*2)).off+1,none⟩=some (g k):=by
 obtain ⟨ad,e,hb,hc⟩:=h.2 (by omega)
 have h1:=zjo (f:=f) (g:=g) hk
 exact ⟨ad,e,hb,hc _ _ h1.1,by rw [zln];exact hc _ _ h1.2⟩
def yo (l:List UInt8):Prop:=l.length<=1073741824
def Xn (l:List zG) (i:Nat):Value:=str (l.getD i default).name
def Xt (l:List zG) (i:Nat):Value:=str (l.getD i default).coef
def zk (w:World) (B:Nat) (v:Value) (l:List zG):Prop:=
 ∃ A c,v= .slice A l.length c/\l.length<=c/\c<=maxLen/\l.length<=100000/\zY w B 2 A l.length (v8 l.length (Xn l) (Xt l))/\∀ x∈l,yo x.name/\yo x.coef
def Yy (l:List yU) (i:Nat):Value:=str (l.getD i default).bound
def zV (w:World) (B:Nat) (v:Value) (l:List yU):Prop:=
 ∃ A c H,v= .slice A l.length c/\l.length<=c/\c<=maxLen/\l.length<=100000/\zY w B 2 A l.length (v8 l.length H (Yy l))/\(∀ i,i<l.length->zk w B (H i) (l.getD i default).terms)/\∀ x∈l,yo x.bound
abbrev ya (w:World) (v:Value) (l:List zG):Prop:=zk w w.heap.size v l
abbrev xD (w:World) (v:Value) (l:List yU):Prop:=zV w w.heap.size v l
section
variable {S:Nat->Prop} {w w' :World} {B B' :Nat} {v:Value}
theorem zk.chg {l:List zG} (h:zk w B v l) (hc:Chg S w w') (hS:∀ b,b<B->S b->X1 w b):zk w' B v l:=by
 obtain ⟨A,c,h1,h2,h3,h4,h5,h6⟩:=h
 exact ⟨A,c,h1,h2,h3,h4,h5.chg hc hS,h6⟩
theorem zk.more {l:List zG} (h:zk w B v l) (hB:B<=B'):zk w B' v l:=by
 obtain ⟨A,c,h1,h2,h3,h4,h5,h6⟩:=h
 exact ⟨A,c,h1,h2,h3,h4,h5.more hB,h6⟩
theorem zV.chg {l:List yU} (h:zV w B v l) (hc:Chg S w w') (hS:∀ b,b<B->S b->X1 w b):zV w' B v l:=by
 obtain ⟨A,c,H,h1,h2,h3,h4,h5,h6,h7⟩:=h
 exact ⟨A,c,H,h1,h2,h3,h4,h5.chg hc hS,fun i hi=>(h6 i hi).chg hc hS,h7⟩
theorem zV.more {l:List yU} (h:zV w B v l) (hB:B<=B'):zV w B' v l:=by
 obtain ⟨A,c,H,h1,h2,h3,h4,h5,h6,h7⟩:=h
 exact ⟨A,c,H,h1,h2,h3,h4,h5.more hB,fun i hi=>(h6 i hi).more hB,h7⟩
theorem zk.below {l:List zG} (h:zk w B v l) (hb:Below w.heap.size w w'):zk w' B v l:=h.chg (S:=fun _=>False) (Chg.of_below hb) (fun _ _ h=>h.elim)
theorem zV.below {l:List yU} (h:zV w B v l) (hb:Below w.heap.size w w'):zV w' B v l:=h.chg (S:=fun _=>False) (Chg.of_below hb) (fun _ _ h=>h.elim)
end
theorem zk.len {w:World} {B:Nat} {A:Option Addr} {n c:Nat} {l:List zG} (h:zk w B (.slice A n c) l):n=l.length:=by obtain ⟨_,_,e,_⟩:=h;injection e
theorem zk.bound {w:World} {B:Nat} {v:Value} {l:List zG} (h:zk w B v l):l.length<=100000:=by obtain ⟨_,_,_,_,_,h,_⟩:=h;exact h
theorem zk.at_ {w:World} {B:Nat} {A:Option Addr} {n c:Nat} {l:List zG} (h:zk w B (.slice A n c) l) {k:Nat} (hk:k<l.length):
 ∃ ad,A=some ad/\ad.block<B/\w.cell? (ad.add (k*2))=some (str l[k].name)/\w.cell? ⟨(ad.add (k*2)).block,(ad.add (k*2)).off+1,none⟩=some (str l[k].coef)/\yo l[k].name/\yo l[k].coef:=by
 obtain ⟨A',c',e,_,_,_,h5,h6⟩:=h
 injection e with e1 e2 e3
 subst e1
 obtain ⟨ad,e,hb,c0,c1⟩:=h5.at2 hk
 have hs:=h6 _ (List.getElem_mem hk)
 have hd:l.getD k default=l[k]:=by simp [List.getD,List.getElem?_eq_getElem hk]
 simp only [Xn,Xt,hd] at c0 c1
 exact ⟨ad,e,hb,c0,c1,hs.1,hs.2⟩
theorem zV.len {w:World} {B:Nat} {A:Option Addr} {n c:Nat} {l:List yU} (h:zV w B (.slice A n c) l):n=l.length:=by obtain ⟨_,_,_,e,_⟩:=h;injection e
theorem zV.at_ {w:World} {B:Nat} {A:Option Addr} {n c:Nat} {l:List yU} (h:zV w B (.slice A n c) l) {k:Nat} (hk:k<l.length):
 ∃ ad AT nt ct,A=some ad/\ad.block<B/\w.cell? (ad.add (k*2))=some (.slice AT nt ct)/\w.cell? ⟨(ad.add (k*2)).block,(ad.add (k*2)).off+1,none⟩=some (str l[k].bound)/\zk w B (.slice AT nt ct) l[k].terms/\yo l[k].bound:=by
 obtain ⟨A',c',H,e,_,_,_,h5,h6,h7⟩:=h
 injection e with e1 e2 e3
 subst e1
 obtain ⟨ad,e,hb,c0,c1⟩:=h5.at2 hk
 have hs:=h7 _ (List.getElem_mem hk)
 have hd:l.getD k default=l[k]:=by simp [List.getD,List.getElem?_eq_getElem hk]
 have ht:=h6 k hk
 rw [hd] at ht
 simp only [Yy,hd] at c1
 obtain ⟨AT,ct,eH,_⟩:=id ht
 rw [eH] at c0 ht
 exact ⟨ad,AT,_,ct,e,hb,c0,c1,ht,hs⟩
theorem zB.keepR {w w' :World} {b:Nat} {v:Value} {q:Rat} (h:zB w b) (hc:Chg (· =b) w w') (hv:yC w v q):yC w' v q:=hc.rat hv (fun _ e=>by subst e;exact h.noDig)
theorem zB.keepN {w w' :World} {b:Nat} {v:Value} {q:Int} (h:zB w b) (hc:Chg (· =b) w w') (hv:zR w v q):zR w' v q:=hc.num hv (fun _ e=>by subst e;exact h.noDig)
theorem zB.keepT {w w' :World} {b B:Nat} {v:Value} {l:List zG} (h:zB w b) (hc:Chg (· =b) w w') (hv:zk w B v l):zk w' B v l:=hv.chg hc (fun _ _ e=>by subst e;exact h.noCells)
theorem zB.keepRows {w w' :World} {b B:Nat} {v:Value} {l:List yU} (h:zB w b) (hc:Chg (· =b) w w') (hv:zV w B v l):zV w' B v l:=hv.chg hc (fun _ _ e=>by subst e;exact h.noCells)
theorem zB.keepBlk {w w' :World} {b g:Nat} {t:TypeId} {cs:Array Value} (h:zB w b) (hc:Chg (· =b) w w') (hk:Blk w g t cs):Blk w' g t cs:=hc.blk hk (fun e=>by
 subst e
 obtain ⟨D,⟨es,c,hb,_⟩,_⟩:=h
 unfold Blk at hk
 rw [hb] at hk;cases hk)
end Go.Proofs.YtkmcmmcencdcpaaGreatDoor
namespace Go.Proofs.YtkmcmmcencdcpaaGreatDoor
open Go.RowKit Go.Deep
attribute [local go_sem ↓] Go.wp_at_zero Go.wp_at_succ
def zho (L g:Nat):Value:=.slice (some ⟨g,0,none⟩) L L
theorem zkb (L g:Nat):ZO (zho L g):=ys _ _ _
structure vC (base:Nat) (w:World) (mv:Value) (L m:Nat) (g:Nat->Nat) (A:Nat->Nat->Int):Prop where
 own:vJ w base 187 1 mv m ((List.range m).map fun i=>zho L (g i))
 inj:∀ i j,i<m->j<m->g i=g j->i=j
 rows:∀ i,i<m->base<=g i/\xy w (g i) L L (A i)
theorem zfq {w:World} {base m size L n:Nat} {v:Value} {xs:List Value} {f:Nat->Int} {g:Nat} (h:vJ w base 187 size v m xs) (hr:xy w g L n f):v.ownBlock≠some g:=by
 intro e
 rcases h.1.2 with ⟨rfl,_⟩ | ⟨g',cap,cur,rfl,_,hg,_⟩
 . cases e
 . obtain rfl:g' =g:=by simpa [Value.ownBlock] using e
   obtain ⟨⟨cs,hb,_⟩,_⟩:=hr;unfold Blk at hb;rw [hg] at hb;injection hb with hb
   injection hb with _ h2 _
   exact absurd h2 (by decide)
section
variable {S:Nat->Prop} {w w' :World} {base L m:Nat} {mv:Value} {g:Nat->Nat} {A:Nat->Nat->Int}
theorem vC.chg (h:vC base w mv L m g A) (hc:Chg S w w') (h1:∀ i,i<m->¬ S (g i)) (h2:∀ b,mv.ownBlock=some b->¬ S b) (hS:∀ b,S b->yn w b):vC base w' mv L m g A:=
 ⟨h.own.chg hc h2,h.inj,fun i hi=>⟨(h.rows i hi).1,(h.rows i hi).2.chg hc (h1 i hi) hS⟩⟩
theorem vC.below (h:vC base w mv L m g A) (hb:Below w.heap.size w w'):vC base w' mv L m g A:=
 h.chg (S:=fun _=>False) (Chg.of_below hb) (fun _ _ h=>h) (fun _ _ h=>h) (fun _ h=>h.elim)
theorem vC.nil (base:Nat) (w:World) (L:Nat) (g:Nat->Nat) (A:Nat->Nat->Int):vC base w (.slice none 0 0) L 0 g A:=
 ⟨Z2 _ _ _ _,fun i j hi=>by omega,fun i hi=>by omega⟩
end
section
variable {w w' :World} {base L m gm cap:Nat} {g:Nat->Nat} {A:Nat->Nat->Int}
theorem vC.cell (h:vC base w (.slice (some ⟨gm,0,none⟩) m cap) L m g A) {i:Nat} (hi:i<m):w.cell? ⟨gm,i,none⟩=some (.slice (some ⟨g i,0,none⟩) L L):=by
 rw [h.own.1.cellAt i (by omega)]
 simp [hi,zho]
theorem vC.frozen (h:vC base w (.slice (some ⟨gm,0,none⟩) m cap) L m g A) (i:Nat):w.frozen? ⟨gm,i,none⟩=false:=h.own.1.frozenAt i
theorem vC.lt (h:vC base w (.slice (some ⟨gm,0,none⟩) m cap) L m g A):base<=gm/\gm<w.heap.size:=h.own.1.lt gm rfl
theorem vC.ne (h:vC base w (.slice (some ⟨gm,0,none⟩) m cap) L m g A) {i:Nat} (hi:i<m):gm≠g i:=fun e=>zfq h.own (h.rows i hi).2 (by rw [<- e];rfl)
theorem vC.set {i k:Nat} {q:Int} {A' :Nat->Nat->Int} {x:Int} {ng:Bool} {X:Option Addr} {n1 c:Nat} (h:vC base w (.slice (some ⟨gm,0,none⟩) m cap) L m g A) (hi:i<m) (hk:k<L)
 (hv:zR w (.agg #[.int .i64 x,.slice X n1 c,.bool ng]) q) (hA:∀ i' k',A' i' k' =if i' =i/\k' =k then q else A i' k'):
 vC base (World.numAt w (g i) k x X n1 c ng) (.slice (some ⟨gm,0,none⟩) m cap) L m g A' :=by
 have hc:=vE (w:=w) (g:=g i) (k:=k) (x:=x) (ng:=ng) (A:=X) (n:=n1) (c:=c)
 have hS:∀ b,b=g i->yn w b:=fun b e=>by subst e;exact (h.rows i hi).2.noDig
 refine ⟨h.own.chg hc (fun b hb e=>?_),h.inj,fun j hj=>⟨(h.rows j hj).1,?_⟩⟩
 . have:gm=b:=by simpa [Value.ownBlock] using hb
   exact h.ne hi (this.trans e)
 . by_cases hji:j=i
   . subst hji
     refine (h.rows j hj).2.set hk hv fun k' hk' =>?_
     rw [hA]
     by_cases e:k' =k
     . exact .inl ⟨e,by rw [if_pos ⟨rfl,e⟩]⟩
     . exact .inr ⟨e,hk',by rw [if_neg (fun h=>e h.2)]⟩
   . have e:A' j=A j:=by funext k';rw [hA,if_neg (fun h=>hji h.1)]
     rw [e];exact (h.rows j hj).2.chg hc (fun e=>hji (h.inj j i hj hi e)) hS
end
def zqj (w:World) (v:Value) (n:Nat) (f:Nat->Int):Prop:=
 ∃ A cap,v= .slice A n cap/\n<=cap/\cap<=maxLen/\(0<n->∃ g,A=some ⟨g,0,none⟩/\g<w.heap.size/\∀ k,k<n->zbm w g k (f k))
def vQ (w:World) (base:Nat) (v:Value) (n:Nat) (f:Nat->Int):Prop:=
 ∃ xs,vJ w base 91 3 v n xs/\∀ k,k<n->∃ (x:Int) (A:Option Addr) (a c:Nat) (ng:Bool),xs[k*3]?=some (.int .i64 x)/\xs[k*3+1]?=some (.slice A a c)/\xs[k*3+2]?=some (.bool ng)/\
  zR w (.agg #[.int .i64 x,.slice A a c,.bool ng]) (f k)
section
variable {S:Nat->Prop} {w w' :World} {base n:Nat} {v:Value} {f:Nat->Int}
theorem vQ.chg (h:vQ w base v n f) (hc:Chg S w w') (h2:∀ b,v.ownBlock=some b->¬ S b) (hS:∀ b,S b->yn w b):vQ w' base v n f:=by
 obtain ⟨xs,h1,h3⟩:=h
 refine ⟨xs,h1.chg hc h2,fun k hk=>?_⟩
 obtain ⟨x,A,a,c,ng,e0,e1,e2,e3⟩:=h3 k hk
 exact ⟨x,A,a,c,ng,e0,e1,e2,hc.num e3 hS⟩
theorem vQ.nil (w:World) (base:Nat) (f:Nat->Int):vQ w base (.slice none 0 0) 0 f:=⟨[],Z2 _ _ _ _,fun k hk=>by omega⟩
theorem vQ.nums (h:vQ w base v n f):zqj w v n f:=by
 obtain ⟨xs,h1,h3⟩:=h
 rcases h1.1.2 with ⟨rfl,hn⟩ | ⟨g,cap,cur,rfl,hb,hg,hnc,hcm,hcs,ht⟩
 . subst hn
   exact ⟨none,0,rfl,Nat.le_refl _,by unfold maxLen;omega,fun h=>by omega⟩
 . refine ⟨_,cap,rfl,hnc,hcm,fun hn=>⟨g,rfl,(h1.1.lt g rfl).2,fun k hk=>?_⟩⟩
   obtain ⟨x,A,a,c,ng,e0,e1,e2,e3⟩:=h3 k hk;refine ⟨x,A,a,c,ng,?_,?_,?_,e3⟩
   . rw [h1.1.cellAt _ (by omega)];exact e0
   . rw [h1.1.cellAt _ (by omega)];exact e1
   . rw [h1.1.cellAt _ (by omega)];exact e2
theorem vQ.push {w3:World} {v3:Value} {xs:List Value} {q:Int} {f' :Nat->Int} {x:Int} {ng:Bool} {A:Option Addr} {a c:Nat} (h1:vJ w base 91 3 v n xs)
 (h3:∀ k,k<n->∃ (x:Int) (A:Option Addr) (a c:Nat) (ng:Bool),xs[k*3]?=some (.int .i64 x)/\xs[k*3+1]?=some (.slice A a c)/\xs[k*3+2]?=some (.bool ng)/\zR w (.agg #[.int .i64 x,.slice A a c,.bool ng]) (f k))
 (hown:vJ w3 base 91 3 v3 (n+1) (xs ++ [.int .i64 x,.slice A a c,.bool ng])) (hg:w.grownBy w3 v.ownBlock) (hv:zR w (.agg #[.int .i64 x,.slice A a c,.bool ng]) q)
 (hf:∀ k,k<n->f' k=f k) (hq:f' n=q):vQ w3 base v3 (n+1) f' :=by
 have hl:xs.length=n*3:=h1.1.1
 have hc:Chg (fun b=>v.ownBlock=some b) w w3:=⟨hg.os,hg.tape,hg.output,hg.size,fun k hk hS=>hg.block k hk (fun e=>hS e.symm)⟩
 have hS:∀ b,v.ownBlock=some b->yn w b:=h1.2
 refine ⟨_,hown,fun k hk=>?_⟩
 rcases Nat.lt_or_ge k n with h | h
 . obtain ⟨x',A',a',c',ng',e0,e1,e2,e3⟩:=h3 k h
   refine ⟨x',A',a',c',ng',?_,?_,?_,?_⟩
   . rw [List.getElem?_append_left (by omega)];exact e0
   . rw [List.getElem?_append_left (by omega)];exact e1
   . rw [List.getElem?_append_left (by omega)];exact e2
   . rw [hf k h];exact hc.num e3 hS
 . obtain rfl:k=n:=by omega
   refine ⟨x,A,a,c,ng,?_,?_,?_,?_⟩
   . rw [List.getElem?_append_right (by omega),hl,show k*3 - k*3=0 by omega];rfl
   . rw [List.getElem?_append_right (by omega),hl,show k*3+1 - k*3=1 by omega];rfl
   . rw [List.getElem?_append_right (by omega),hl,show k*3+2 - k*3=2 by omega];rfl
   . rw [hq];exact hc.num hv hS
end
theorem vC.push {w w3:World} {base L m:Nat} {mv v3:Value} {g:Nat->Nat} {T:Nat->Nat->Int} {gl:Nat} {f:Nat->Int} (h:vC base w mv L m g T) (hr:xy w gl L L f) (hb:base<=gl) (hne:∀ j,j<m->g j≠gl)
 (hown:vJ w3 base 187 1 v3 (m+1) (((List.range m).map fun i=>zho L (g i)) ++ [zho L gl])) (hg:w.grownBy w3 mv.ownBlock) (hT:∀ j,j<L->T m j=f j):
 vC base w3 v3 L (m+1) (fun i=>if i=m then gl else g i) T:=by
 have hc:Chg (fun b=>mv.ownBlock=some b) w w3:=⟨hg.os,hg.tape,hg.output,hg.size,fun k hk hS=>hg.block k hk (fun e=>hS e.symm)⟩
 have hS:∀ b,mv.ownBlock=some b->yn w b:=h.own.2
 refine ⟨?_,fun i j hi hj e=>?_,fun i hi=>?_⟩
 . have e:(List.range (m+1)).map (fun i=>zho L (if i=m then gl else g i))=((List.range m).map fun i=>zho L (g i)) ++ [zho L gl]:=by
    rw [List.range_succ,List.map_append]
    congr 1
    . apply List.map_congr_left
      intro i hi;rw [if_neg (by have:=List.mem_range.1 hi;omega)]
    . simp
   rw [e];exact hown
 . by_cases i1:i=m
   . by_cases j1:j=m
     . omega
     . rw [if_pos i1,if_neg j1] at e;exact absurd e.symm (hne j (by omega))
   . by_cases j1:j=m
     . rw [if_neg i1,if_pos j1] at e;exact absurd e (hne i (by omega))
     . rw [if_neg i1,if_neg j1] at e;exact h.inj i j (by omega) (by omega) e
 . by_cases i1:i=m
   . rw [if_pos i1]
     refine ⟨hb,(hr.fewer fun k hk=>⟨hk,?_⟩).chg hc (zfq h.own hr) hS⟩;rw [i1];exact hT k hk
   . rw [if_neg i1]
     exact ⟨(h.rows i (by omega)).1,(h.rows i (by omega)).2.chg hc (zfq h.own (h.rows i (by omega)).2) hS⟩
def y7 (n:Nat):Array Value:=madeCells #[.int .i64 0,.slice none 0 0,.bool false] (n*3)
theorem zbo (n:Nat):(y7 n).size=n*3:=by simp [y7,madeCells]
theorem Y4 (n k j:Nat) (hk:k<n) (hj:j<3):(y7 n)[k*3+j]?=some ((#[.int .i64 0,.slice none 0 0,.bool false]:Array Value)[j]!):=by
 unfold y7 madeCells
 rw [Array.getElem?_map,Array.getElem?_range,if_pos (by omega)]
 simp only [Option.map_some]
 congr 2
 show (k*3+j) % 3=j
 omega
theorem V2 (n:Nat):vN (y7 n):=by
 intro i x h
 have h2:=Array.mem_of_getElem? h
 unfold y7 madeCells at h2
 rw [Array.mem_map] at h2
 obtain ⟨j,_,e⟩:=h2
 have h3:j % 3<3:=Nat.mod_lt _ (by omega)
 have h4:(#[Value.int .i64 0,Value.slice none 0 0,Value.bool false]:Array Value)[j % 3]! ∈(#[Value.int .i64 0,Value.slice none 0 0,Value.bool false]:Array Value):=by
  rw [getElem!_pos (#[Value.int .i64 0,Value.slice none 0 0,Value.bool false]:Array Value) (j % 3) h3]
  exact Array.getElem_mem _
 simp at h4
 simp at e
 rcases h4 with h4 | h4 | h4
 . rw [h4] at e;cases e
 . rw [h4] at e;cases e
 . rw [h4] at e;cases e
theorem zhx:(Tryz.prog.info? 91).map (fun i=>(i.zero,i.size,i.bytes))=some (some (.agg #[.int .i64 0,.slice none 0 0,.bool false]),3,40):=by kernel_rfl
theorem Tryz.underlying187:Tryz.prog.underlying 187=some (.slice 91):=by kernel_rfl
theorem zar (k:IntKind) (n:Nat) (hn:n<=1000) (w:World):
 (Instr.makeSlice 187 (.int k (n:Int)) (.int k (n:Int))).run Tryz.prog w= .ok (.slice (some ⟨w.heap.size,0,none⟩) n n) (w.alloc (.cells (y7 n) 91)):=by
 obtain ⟨i,hi,hzz⟩:=Option.map_eq_some_iff.1 zhx
 simp only [Prod.mk.injEq] at hzz
 obtain ⟨hz,hs,hb⟩:=hzz
 rw [run_make (P:=Tryz.prog) w 187 91 i _ Tryz.underlying187 hi hz k k n n (by omega) (by omega) (by rw [hb];omega) (by omega)]
 rw [hs]
 rfl
theorem zhw (w:World) (ng:Bool):zR w (.agg #[.int .i64 0,.slice none 0 0,.bool ng]) 0:=.inl ⟨0,ng,rfl,by omega,by omega,rfl⟩
theorem zde (w:World) (L:Nat):xy (w.alloc (.cells (y7 L) 91)) w.heap.size L L (fun _=>0):=by
 have hb:=Blk.new w 91 (y7 L)
 refine ⟨⟨_,hb,zbo L,V2 L⟩,fun k hk=>⟨0,none,0,0,false,?_,?_,?_,zhw _ _⟩⟩
 . rw [hb.cell];exact Y4 L k 0 hk (by omega)
 . rw [hb.cell];exact Y4 L k 1 hk (by omega)
 . rw [hb.cell];exact Y4 L k 2 hk (by omega)
end Go.Proofs.YtkmcmmcencdcpaaGreatDoor
namespace Go.Proofs.YtkmcmmcencdcpaaGreatDoor
open Go.RowKit Go.Deep
theorem vC.congr {base:Nat} {w:World} {mv:Value} {L m:Nat} {g:Nat->Nat} {A A' :Nat->Nat->Int} (h:vC base w mv L m g A) (hA:∀ i k,i<m->k<L->A' i k=A i k):vC base w mv L m g A' :=
 ⟨h.own,h.inj,fun i hi=>⟨(h.rows i hi).1,(h.rows i hi).2.fewer fun k hk=>⟨hk,hA i k hi hk⟩⟩⟩
theorem vC.at_ {base:Nat} {w:World} {mv:Value} {L m:Nat} {g:Nat->Nat} {A:Nat->Nat->Int} (h:vC base w mv L m g A) {i k:Nat} (hi:i<m) (hk:k<L):zbm w (g i) k (A i k):=(h.rows i hi).2.2 k hk
def Zw (w:World) (gb:Nat) (z:Int):Prop:=
 ∃ (x:Int) (A:Option Addr) (n c:Nat) (ng:Bool),Blk w gb 91 #[.int .i64 x,.slice A n c,.bool ng]/\zR w (.agg #[.int .i64 x,.slice A n c,.bool ng]) z
theorem Zw.chg {S:Nat->Prop} {w w' :World} {gb:Nat} {z:Int} (h:Zw w gb z) (hc:Chg S w w') (hg:¬ S gb) (hS:∀ b,S b->yn w b):Zw w' gb z:=by
 obtain ⟨x,A,n,c,ng,h1,h2⟩:=h
 exact ⟨x,A,n,c,ng,hc.blk h1 hg,hc.num h2 hS⟩
theorem Zw.below {w w' :World} {gb:Nat} {z:Int} (h:Zw w gb z) (hb:Below w.heap.size w w'):Zw w' gb z:=h.chg (S:=fun _=>False) (Chg.of_below hb) (fun h=>h) (fun _ h=>h.elim)
theorem Zw.lt {w:World} {gb:Nat} {z:Int} (h:Zw w gb z):gb<w.heap.size:=by obtain ⟨x,A,n,c,ng,h1,h2⟩:=h;exact h1.lt
structure zS where
 gt:Nat
 bk:Option Nat
 rA:Option Addr
 rc:Nat
 nA:Option Addr
 nn:Nat
 nc:Nat
 gm:Nat
 cm:Nat
 g:Nat->Nat
 bv:Value
 ov:Value
def zS.rows (F:zS) (m b:Nat):Prop:=∃ i,i<=m/\b=F.g i
def zS.S (F:zS) (m b:Nat):Prop:=b=F.gt\/F.rows m b\/F.bv.ownBlock=some b\/F.ov.ownBlock=some b
def zS.cells (F:zS) (m:Nat) (x:Int) (A:Option Addr) (n c:Nat) (ng:Bool):Array Value:=
 #[.map F.bk,.slice F.rA m F.rc,.slice F.nA F.nn F.nc,.slice (some ⟨F.gm,0,none⟩) (m+1) F.cm,.int .i64 x,.slice A n c,.bool ng,F.bv,F.ov]
def yP (m:Nat) (f:Nat->Nat):List Value:=(List.range m).map fun i=>.int .i64 (f i:Nat)
theorem vp {m:Nat} {f:Nat->Nat} {i:Nat} (hi:i<m):(yP m f)[i]?=some (.int .i64 (f i:Nat)):=by simp [yP,hi]
theorem ZJ (m:Nat) (f:Nat->Nat):(yP m f).length=m:=by simp [yP]
theorem VL (m:Nat) (f:Nat->Nat) (r x:Nat):(yP m f).set r (.int .i64 (x:Nat))=yP m (fun i=>if i=r then x else f i):=by
 apply List.ext_getElem?
 intro j
 rw [List.getElem?_set]
 rcases Nat.lt_or_ge j m with hj | hj
 . by_cases h:r=j
   . subst h;rw [if_pos rfl,ZJ,if_pos hj,vp hj,if_pos rfl]
   . rw [if_neg h,vp hj,vp hj,if_neg (fun e=>h e.symm)]
 . have e1:∀ g,(yP m g)[j]?=none:=fun g=>List.getElem?_eq_none (by rw [ZJ];exact hj)
   rw [e1,e1,ZJ]
   by_cases h:r=j
   . rw [if_pos h,if_neg (by omega)]
   . rw [if_neg h]
structure yb (base m L:Nat) (F:zS) (w:World) (T:yy):Prop where
 blk:∃ x A n c ng,Blk w F.gt 196 (F.cells m x A n c ng)/\zR w (.agg #[.int .i64 x,.slice A n c,.bool ng]) T.den
 mat:vC base w (.slice (some ⟨F.gm,0,none⟩) (m+1) F.cm) L (m+1) F.g T.cell
 bas:vJ w base 3 1 F.bv m (yP m T.basic)
 oth:vJ w base 3 1 F.ov (L - 1) (yP (L - 1) T.other)
 ne:∀ b,F.bv.ownBlock=some b->F.ov.ownBlock≠some b
 lo:base<=F.gt
 cols:L=2*F.nn+2
theorem xM {w:World} {b g:Nat} {t t' :TypeId} {cs cs' :Array Value} {fr:Nat×Nat} (h:Blk w b t cs) (k:w.heap[g]?=some (.cells cs' t' fr)) (ht:t≠t'):b≠g:=by
 intro e
 subst e
 unfold Blk at h
 rw [h] at k
 injection k with k
 injection k with _ k2 _
 exact ht k2
theorem xy.heap {w:World} {g L n:Nat} {f:Nat->Int} (h:xy w g L n f):∃ cs,Blk w g 91 cs:=by obtain ⟨⟨cs,h,_⟩,_⟩:=h;exact ⟨cs,h⟩
theorem vJ.heap {w:World} {base size n:Nat} {e:TypeId} {v:Value} {xs:List Value} {b:Nat} (h:vJ w base e size v n xs) (hb:v.ownBlock=some b):∃ cs,w.heap[b]?=some (.cells cs e (0,0)):=by
 rcases h.1.2 with ⟨rfl,_⟩ | ⟨g',cap,cur,rfl,_,hg,_⟩
 . cases hb
 . obtain rfl:g' =b:=by simpa [Value.ownBlock] using hb
   exact ⟨cur,hg⟩
structure Pv (w0:World) (base m L:Nat) (F:zS) (cs:Array Value) (A:Nat->Nat->Int) (w:World):Prop where
 mat:vC base w (.slice (some ⟨F.gm,0,none⟩) (m+1) F.cm) L (m+1) F.g A
 tab:Blk w F.gt 196 cs
 chg:Chg (F.rows m) w0 w
 old:∀ i,i<=m->F.g i<w0.heap.size/\∃ cs,Blk w0 (F.g i) 91 cs
 oldt:F.gt<w0.heap.size
 oldm:F.gm<w0.heap.size
 lo:base<=w0.heap.size
section
variable {w0 w w' :World} {base m L:Nat} {F:zS} {cs:Array Value} {A A' :Nat->Nat->Int}
theorem Pv.below (h:Pv w0 base m L F cs A w) (hb:Below w.heap.size w w'):Pv w0 base m L F cs A w' :=
 ⟨h.mat.below hb,h.tab.below hb h.tab.lt,h.chg.trans (Chg.of_below (S:=F.rows m) hb) (fun _ _ h=>h),h.old,h.oldt,h.oldm,h.lo⟩
theorem Pv.congr (h:Pv w0 base m L F cs A w) (hA:∀ i k,i<=m->k<L->A' i k=A i k):Pv w0 base m L F cs A' w:=
 ⟨h.mat.congr fun i k hi hk=>hA i k (by omega) hk,h.tab,h.chg,h.old,h.oldt,h.oldm,h.lo⟩
theorem Pv.ge (h:Pv w0 base m L F cs A w):w0.heap.size<=w.heap.size:=h.chg.size
theorem Pv.box {gx:Nat} (h:Pv w0 base m L F cs A w) (hc:Chg (· =gx) w w') (hx:w0.heap.size<=gx) (hS:yn w gx):Pv w0 base m L F cs A w' :=by
 have h1:∀ i,i<=m->F.g i≠gx:=fun i hi e=>by have:=(h.old i hi).1;omega
 have h2:=h.oldm
 have h3:=h.oldt
 refine ⟨h.mat.chg hc (fun i hi=>h1 i (by omega)) (fun b hb e=>?_) (fun b e=>by subst e;exact hS),hc.blk h.tab (by omega),h.chg.trans hc (fun b hb e=>by omega),h.old,h.oldt,h.oldm,h.lo⟩
 have:F.gm=b:=by simpa [Value.ownBlock] using hb
 omega
theorem Pv.ntab (h:Pv w0 base m L F cs A w) {i:Nat} (hi:i<=m):F.gt≠F.g i:=by
 obtain ⟨cs',hb⟩:=(h.mat.rows i (by omega)).2.heap
 exact xM h.tab hb (by decide)
theorem Pv.set {i k:Nat} {q x:Int} {ng:Bool} {X:Option Addr} {n1 c:Nat} (h:Pv w0 base m L F cs A w) (hi:i<=m) (hk:k<L) (hv:zR w (.agg #[.int .i64 x,.slice X n1 c,.bool ng]) q)
 (hA:∀ i' k',i' <=m->k' <L->A' i' k' =if i' =i/\k' =k then q else A i' k'):Pv w0 base m L F cs A' (World.numAt w (F.g i) k x X n1 c ng):=by
 have hc:=vE (w:=w) (g:=F.g i) (k:=k) (x:=x) (ng:=ng) (A:=X) (n:=n1) (c:=c)
 refine ⟨((h.mat.set (A' :=fun i' k' =>if i' =i/\k' =k then q else A i' k') (by omega) hk hv (fun _ _=>rfl))).congr fun i' k' hi' hk' =>hA i' k' (by omega) hk',hc.blk h.tab (h.ntab hi),
  h.chg.trans hc (fun b hb e=>⟨i,hi,e⟩),h.old,h.oldt,h.oldm,h.lo⟩
theorem Pv.noDig (h:Pv w0 base m L F cs A w) {i:Nat} (hi:i<=m):yn w (F.g i):=(h.mat.rows i (by omega)).2.noDig
theorem Pv.keepBox {i k gx:Nat} {z x:Int} {ng:Bool} {X:Option Addr} {n1 c:Nat} (h:Pv w0 base m L F cs A w) (hi:i<=m) (hb:Zw w gx z) (hx:w0.heap.size<=gx):Zw (World.numAt w (F.g i) k x X n1 c ng) gx z:=
 hb.chg vE (fun e=>by have:=(h.old i hi).1;omega) (fun b e=>by subst e;exact h.noDig hi)
theorem Pv.own (h:Pv w0 base m L F cs A w) {v:Value} {n:Nat} {xs:List Value} (ho:vJ w0 base 3 1 v n xs):vJ w base 3 1 v n xs:=ho.chg h.chg (fun b hb hs=>by
 obtain ⟨i,hi,rfl⟩:=hs
 obtain ⟨cs1,h1⟩:=(h.old i hi).2
 obtain ⟨cs2,h2⟩:=ho.heap hb
 exact xM h1 h2 (by decide) rfl)
theorem Pv.anew {S:Nat->Prop} {cs' :Array Value} (h:Pv w0 base m L F cs A w) (hc:Chg S w w') (h1:∀ b,S b->∀ i,i<=m->b≠F.g i) (h2:¬ S F.gm) (hS:∀ b,S b->yn w b) (ht:Blk w' F.gt 196 cs'):Pv w' base m L F cs' A w' :=by
 have hm:vC base w' (.slice (some ⟨F.gm,0,none⟩) (m+1) F.cm) L (m+1) F.g A:=h.mat.chg hc (fun i hi hs=>h1 _ hs i (by omega) rfl) (fun b hb hs=>h2 (by
  have:F.gm=b:=by simpa [Value.ownBlock] using hb
  rw [this];exact hs)) hS
 exact ⟨hm,ht,Chg.refl w',fun i hi=>⟨(hm.rows i (by omega)).2.lt,(hm.rows i (by omega)).2.heap⟩,ht.lt,hm.lt.2,Nat.le_trans h.lo (Nat.le_trans h.ge hc.size)⟩
theorem yb.of_pv {T:yy} {x:Int} {X:Option Addr} {n c:Nat} {ng:Bool} (h:Pv w0 base m L F (F.cells m x X n c ng) A w) (hd:zR w (.agg #[.int .i64 x,.slice X n c,.bool ng]) T.den) (hA:∀ i k,i<=m->k<L->T.cell i k=A i k)
 (hb:vJ w base 3 1 F.bv m (yP m T.basic)) (ho:vJ w base 3 1 F.ov (L - 1) (yP (L - 1) T.other)) (hne:∀ b,F.bv.ownBlock=some b->F.ov.ownBlock≠some b) (hlo:base<=F.gt)
 (hcols:L=2*F.nn+2):yb base m L F w T:=
 ⟨⟨x,X,n,c,ng,h.tab,hd⟩,h.mat.congr fun i k hi hk=>hA i k (by omega) hk,hb,ho,hne,hlo,hcols⟩
end
theorem zdg {F:zS} {m:Nat} {x:Int} {A:Option Addr} {n c:Nat} {ng:Bool} (h3:ZO F.bv) (h4:ZO F.ov):vN (F.cells m x A n c ng):=by
 intro i d h
 unfold zS.cells at h
 match i with
 | 0=>simp at h
 | 1=>simp at h
 | 2=>simp at h
 | 3=>simp at h
 | 4=>simp at h
 | 5=>simp at h
 | 6=>simp at h
 | 7=>simp at h;exact h3 d h
 | 8=>simp at h;exact h4 d h
 | i+9=>simp at h
theorem xG {w:World} {base size n:Nat} {e:TypeId} {v:Value} {xs:List Value} (h:vJ w base e size v n xs):ZO v:=by
 rcases h.1.2 with ⟨rfl,_⟩ | ⟨g,cap,cur,rfl,_⟩
 . exact ys _ _ _
 . exact ys _ _ _
section
variable {S:Nat->Prop} {w w' :World} {base m L:Nat} {F:zS} {T:yy}
theorem yb.below (h:yb base m L F w T) (hb:Below w.heap.size w w'):yb base m L F w' T:=by
 obtain ⟨⟨x,A,n,c,ng,h1,h2⟩,h3,h4,h5,h6,h7,h8⟩:=h
 exact ⟨⟨x,A,n,c,ng,h1.below hb h1.lt,h2.below hb⟩,h3.below hb,h4.below hb,h5.below hb,h6,h7,h8⟩
theorem yb.cell3 (h:yb base m L F w T):w.cell? ⟨F.gt,3,none⟩=some (.slice (some ⟨F.gm,0,none⟩) (m+1) F.cm):=by obtain ⟨⟨x,A,n,c,ng,h1,_⟩,_⟩:=h;rw [h1.cell];rfl
theorem yb.cell1 (h:yb base m L F w T):w.cell? ⟨F.gt,1,none⟩=some (.slice F.rA m F.rc):=by obtain ⟨⟨x,A,n,c,ng,h1,_⟩,_⟩:=h;rw [h1.cell];rfl
theorem yb.cell2 (h:yb base m L F w T):w.cell? ⟨F.gt,2,none⟩=some (.slice F.nA F.nn F.nc):=by obtain ⟨⟨x,A,n,c,ng,h1,_⟩,_⟩:=h;rw [h1.cell];rfl
theorem yb.cell7 (h:yb base m L F w T):w.cell? ⟨F.gt,7,none⟩=some F.bv:=by obtain ⟨⟨x,A,n,c,ng,h1,_⟩,_⟩:=h;rw [h1.cell];rfl
theorem yb.cell8 (h:yb base m L F w T):w.cell? ⟨F.gt,8,none⟩=some F.ov:=by obtain ⟨⟨x,A,n,c,ng,h1,_⟩,_⟩:=h;rw [h1.cell];rfl
theorem yb.lt (h:yb base m L F w T):F.gt<w.heap.size:=by obtain ⟨⟨x,A,n,c,ng,h1,_⟩,_⟩:=h;exact h1.lt
theorem yb.lt2 (h:yb base m L F w T):2<=L:=by have:=h.cols;omega
theorem yb.others (h:yb base m L F w T):∃ go co,F.ov= .slice (some ⟨go,0,none⟩) (L - 1) co/\go<w.heap.size/\∀ k,k<L - 1->w.cell? ⟨go,k,none⟩=some (.int .i64 (T.other k:Nat)):=by
 obtain ⟨go,co,eo,_,_⟩:=h.oth.1.form (by have:=h.lt2;omega)
 have ho:=h.oth
 rw [eo] at ho
 exact ⟨go,co,eo,(ho.1.lt go rfl).2,fun k hk=>by rw [ho.1.cellAt k (by omega)];exact vp hk⟩
theorem yb.basics (h:yb base m L F w T) (hm:0<m):∃ gb cb,F.bv= .slice (some ⟨gb,0,none⟩) m cb/\gb<w.heap.size/\∀ i,i<m->w.cell? ⟨gb,i,none⟩=some (.int .i64 (T.basic i:Nat)):=by
 obtain ⟨gb,cb,eb,_,_⟩:=h.bas.1.form hm
 have hb:=h.bas
 rw [eb] at hb
 exact ⟨gb,cb,eb,(hb.1.lt gb rfl).2,fun i hi=>by rw [hb.1.cellAt i (by omega)];exact vp hi⟩
end
theorem zmc {F:zS} {m:Nat} {x y:Int} {A B:Option Addr} {n c k d:Nat} {ng s:Bool} {w:World} (h:Blk w F.gt 196 (F.cells m x A n c ng)):
 Blk (((w.setCell ⟨F.gt,4,none⟩ (.int .i64 y)).setCell ⟨F.gt,5,none⟩ (.slice B k d)).setCell ⟨F.gt,6,none⟩ (.bool s)) F.gt 196 (F.cells m y B k d s):=((h.set_ 4 _).set_ 5 _).set_ 6 _
theorem zml {g:Nat} {y:Int} {B:Option Addr} {k d:Nat} {s:Bool} {w:World}:Chg (· =g) w (((w.setCell ⟨g,4,none⟩ (.int .i64 y)).setCell ⟨g,5,none⟩ (.slice B k d)).setCell ⟨g,6,none⟩ (.bool s)):=
 Chg.setCell (S:=fun b=>b=g) (Chg.setCell (S:=fun b=>b=g) (Chg.setCell (S:=fun b=>b=g) (Chg.refl w) (p:=⟨g,4,none⟩) rfl _) (p:=⟨g,5,none⟩) rfl _) (p:=⟨g,6,none⟩) rfl _
theorem Zx {w:World} {g:Nat} {x:Int} {A:Option Addr} {n c:Nat} {ng:Bool}:Chg (· =g) w (World.num w g x A n c ng):=
 Chg.setCell (S:=fun b=>b=g) (Chg.setCell (S:=fun b=>b=g) (Chg.setCell (S:=fun b=>b=g) (Chg.refl w) (p:=⟨g,0,none⟩) rfl _) (p:=⟨g,1,none⟩) rfl _) (p:=⟨g,2,none⟩) rfl _
theorem VX {w:World} {g:Nat} {x x0 z:Int} {A A0:Option Addr} {n c n0 c0:Nat} {ng ng0:Bool} (hk:Blk w g 91 #[.int .i64 x0,.slice A0 n0 c0,.bool ng0]) (hv:zR w (.agg #[.int .i64 x,.slice A n c,.bool ng]) z):
 Zw (World.num w g x A n c ng) g z:=⟨x,A,n,c,ng,yl hk,zy hv hk⟩
end Go.Proofs.YtkmcmmcencdcpaaGreatDoor
namespace Go.Proofs.YtkmcmmcencdcpaaGreatDoor
open Go.RowKit Go.Deep
attribute [local go_sem ↓] Go.wp_at_zero Go.wp_at_succ
theorem zba (s:ByteArray) (w:World):Calls Tryz.prog 201 #[.string s] w (Vd w (.bool false)):=by
 have d:(s == s)=true:=(MapKept.bytes_beq s s).2 rfl
 have d2:(s != s)=false:=by unfold bne;rw [d];rfl
 go_enter Tryz.func201,Tryz.ntmps201
 go_wp2_with fail
 go_ret
 exact ⟨by simp,rfl⟩
theorem znm (a b:ByteArray) (w:World):Calls Tryz.prog 213 #[.string a,.string b] w (Vd w (.bool (Op.bytesLess a.toList b.toList))):=by
 have h:=fun s w=>zba s w
 obtain ⟨x,HX⟩:∃ x,Hid (Op.bytesLess a.toList b.toList=x):=⟨_,rfl⟩
 go_enter Tryz.func213,Tryz.ntmps213
 go_wp2_with fail
 refine (h _ _).mono ?_
 rintro e w1 ⟨rfl,rfl⟩
 go_wp2_with fail
 go_ret
 exact ⟨by simp,rfl⟩
theorem vS:∀ (x y:List UInt8),Op.bytesLess x y=decide (x<y)
 | [],[]=>by simp [Op.bytesLess]
 | _ :: _,[]=>by simp [Op.bytesLess]
 | [],_ :: _=>by simp [Op.bytesLess]
 | a :: x,b :: y=>by
   rw [Op.bytesLess,vS x y]
   by_cases h:a<b
   . simp [h,List.cons_lt_cons_iff]
   . by_cases e:a=b
     . subst e;simp [h,List.cons_lt_cons_iff]
     . simp [h,e,List.cons_lt_cons_iff]
theorem zj3 (a b:List UInt8) (w:World):Calls Tryz.prog 213 #[str a,str b] w (Vd w (.bool (decide (a<b)))):=by
 have h:=znm ⟨a.toArray⟩ ⟨b.toArray⟩ w
 rw [vS,Lib.toList_data,Lib.toList_data] at h
 exact h
def yg (w:World) (B:Nat) (v:Value) (l:List (List UInt8)):Prop:=
 ∃ A c,v= .slice A l.length c/\l.length<=c/\c<=maxLen/\l.length<=100000/\zY w B 1 A l.length (l.map str)/\∀ x∈l,yo x
section
variable {S:Nat->Prop} {w w' :World} {B B' :Nat} {v:Value} {l:List (List UInt8)}
theorem yg.chg (h:yg w B v l) (hc:Chg S w w') (hS:∀ b,b<B->S b->X1 w b):yg w' B v l:=by
 obtain ⟨A,c,h1,h2,h3,h4,h5,h6⟩:=h
 exact ⟨A,c,h1,h2,h3,h4,h5.chg hc hS,h6⟩
theorem yg.below (h:yg w B v l) (hb:Below w.heap.size w w'):yg w' B v l:=h.chg (S:=fun _=>False) (Chg.of_below hb) (fun _ _ h=>h.elim)
theorem yg.more (h:yg w B v l) (hB:B<=B'):yg w B' v l:=by
 obtain ⟨A,c,h1,h2,h3,h4,h5,h6⟩:=h
 exact ⟨A,c,h1,h2,h3,h4,h5.more hB,h6⟩
end
theorem yg.at_ {w:World} {B:Nat} {A:Option Addr} {n c:Nat} {l:List (List UInt8)} (h:yg w B (.slice A n c) l) {k:Nat} (hk:k<l.length):
 ∃ ad,A=some ad/\ad.block<B/\w.cell? (ad.add k)=some (str l[k]):=by
 obtain ⟨A',c',e,_,_,_,h5,h6⟩:=h
 injection e with e1 e2 e3
 subst e1
 obtain ⟨ad,u,e,hb,hu,hc⟩:=h5.at_ hk
 refine ⟨ad,e,hb,?_⟩
 rw [hc, <- hu]
 simp [hk]
theorem yg.len {w:World} {B:Nat} {A:Option Addr} {n c:Nat} {l:List (List UInt8)} (h:yg w B (.slice A n c) l):n=l.length:=by obtain ⟨_,_,e,_⟩:=h;injection e
def BinR (w0:World) (n k:Nat) (iv jv:Value) (wr:World):Prop:=∃ i j:Nat,i<=k/\k<=j/\j<=n/\iv= .int .i64 i/\jv= .int .i64 j/\w0=wr
theorem XI (A:Option Addr) (n c:Nat) (l:List (List UInt8)) (s:List UInt8) (B k:Nat) (w:World) (hn:yg w B (.slice A n c) l) (hk:k<l.length) (hs:l[k]=s)
 (hlo:∀ i (h:i<l.length),i<k->l[i]<s) (hhi:∀ i (h:i<l.length),k<=i->¬ l[i]<s) (hl:l.length<=100000):
 Calls Tryz.prog 184 #[.slice A n c,str s] w (Vd w (.tuple #[.int .i64 k,.bool true])):=by
 obtain rfl:=hn.len
 have HN:=ze hn
 have HS:=ze hs
 have HLO:=ze hlo
 have HHI:=ze hhi
 have hless:=fun a w=>zj3 a s w
 have HLE:=ze hless
 clear hn hs hlo hhi hless
 go_enter Tryz.func184,Tryz.ntmps184
 go_wp2_with fail
 go_loopw [7,8] (BinR w l.length k) (fun iv jv _=>(intOf jv).toNat - (intOf iv).toNat)
 case atStart=>exact ⟨0,l.length,Nat.zero_le _,by omega,Nat.le_refl _,rfl,rfl,rfl⟩
 case round=>
  obtain ⟨i,j,hi,hj,hjl,rfl,rfl,rfl⟩:=hrel
  by_cases hij:i<j
  . have hii:(i:Int)<(j:Int):=by omega
    obtain ⟨h,hh⟩:∃ h,h=(i+j) / 2:=⟨_,rfl⟩;have hhl:h<l.length:=by omega
    have hhi:(h:Int)<(l.length:Int):=by omega
    have e1:IntKind.i64.wrap ((i:Int)+(j:Int))=(i:Int)+(j:Int):=by rw [IntKind.wrap_i64];omega
    have e2:((i:Int)+(j:Int)) / 2=(h:Int):=by omega
    obtain ⟨ad,eA,hbb,c1⟩:=HN.out.at_ hhl;subst eA;have h1:i<=h:=by omega
    have h2:h<j:=by omega
    have HH:=ze hh;clear hh
    by_cases hlt:l[h]<s
    . have hcall:=HLE.out l[h] w
      rw [decide_eq_true hlt] at hcall
      have hhk:h<k:=by
       rcases Nat.lt_or_ge h k with h3 | h3
       . exact h3
       . exact absurd hlt (HHI.out h hhl h3)
      have HC:=ze hcall;clear hlt hcall;go_wp2_with fail;refine HC.out.mono ?_;rintro e w1 ⟨rfl,rfl⟩;go_wp2_with fail;go_round
      case rel=>exact ⟨h+1,j,by omega,by omega,by omega,by go_num,rfl,rfl⟩
      case measure=>simp [intOf];omega
    . have hcall:=HLE.out l[h] w
      rw [decide_eq_false hlt] at hcall
      have hhk:k<=h:=by
       rcases Nat.lt_or_ge h k with h3 | h3
       . exact absurd (HLO.out h hhl h3) hlt
       . exact h3
      have HC:=ze hcall;clear hlt hcall;go_wp2_with fail;refine HC.out.mono ?_;rintro e w1 ⟨rfl,rfl⟩;go_wp2_with fail;go_round
      case rel=>exact ⟨i,h,by omega,by omega,by omega,rfl,by go_num,rfl⟩
      case measure=>simp [intOf];omega
  . obtain rfl:k=i:=by omega
    obtain rfl:k=j:=by omega
    have hki:(k:Int)<(l.length:Int):=by omega
    obtain ⟨ad,eA,hbb,c1⟩:=HN.out.at_ hk;subst eA;rw [HS.out] at c1;have d1:((⟨s.toArray⟩:ByteArray) == ⟨s.toArray⟩)=true:=(MapKept.bytes_beq _ _).2 rfl;go_wp2_with fail;go_ret2;exact ⟨by go_num,rfl⟩
theorem zcg (a b:List UInt8) (first:Bool) (w:World):Calls Tryz.prog 91 #[str a,str b,.bool first] w (Vd w (.int .i64 (yh a b first))):=by
 have hl:=vS a b
 have he:(a == b)=decide (a=b):=by by_cases h:a=b<;>simp [h]
 cases first with
 | true=>
   have HE:=ze (show yh a b true=0 by unfold yh;rw [if_pos (.inl rfl)]);clear hl he
   go_enter Tryz.func91,Tryz.ntmps91
   go_wp2_with fail;go_ret;exact ⟨by rw [HE.out];rfl,rfl⟩
 | false=>
   by_cases h1:a<b
   . have HE:=ze (show yh a b false=0 by unfold yh;rw [if_pos (.inr h1)])
     rw [decide_eq_true h1] at hl;clear he h1
     go_enter Tryz.func91,Tryz.ntmps91
     go_wp2_with fail;go_ret;exact ⟨by rw [HE.out];rfl,rfl⟩
   . rw [decide_eq_false h1] at hl
     by_cases h2:a=b
     . have HE:=ze (show yh a b false=6 by unfold yh;rw [if_neg (by rintro (h | h);cases h;exact h1 h),if_pos h2])
       rw [decide_eq_true h2] at he;clear h1 h2
       go_enter Tryz.func91,Tryz.ntmps91
       go_wp2_with fail;go_ret;exact ⟨by rw [HE.out];rfl,rfl⟩
     . have HE:=ze (show yh a b false=1 by unfold yh;rw [if_neg (by rintro (h | h);cases h;exact h1 h),if_neg h2])
       rw [decide_eq_false h2] at he;clear h1 h2
       go_enter Tryz.func91,Tryz.ntmps91
       go_wp2_with fail;go_ret;exact ⟨by rw [HE.out];rfl,rfl⟩
def zi1 (w:World) (g k:Nat) (q:Rat):Prop:=
 ∃ (x:Int) (A:Option Addr) (n c:Nat) (s:Bool) (y:Int) (B:Option Addr) (n' c' :Nat) (t:Bool),w.cell? ⟨g,k*6,none⟩=some (.int .i64 x)/\w.cell? ⟨g,k*6+1,none⟩=some (.slice A n c)/\w.cell? ⟨g,k*6+2,none⟩=some (.bool s)/\
  w.cell? ⟨g,k*6+3,none⟩=some (.int .i64 y)/\w.cell? ⟨g,k*6+4,none⟩=some (.slice B n' c')/\w.cell? ⟨g,k*6+5,none⟩=some (.bool t)/\yC w (.agg #[.int .i64 x,.slice A n c,.bool s,.int .i64 y,.slice B n' c',.bool t]) q
def xa (w:World) (g L n:Nat) (f:Nat->Rat):Prop:=(∃ cs,Blk w g 93 cs/\cs.size=L*6/\vN cs)/\∀ k,k<n->zi1 w g k (f k)
abbrev World.ratAt (w:World) (g k:Nat) (x:Int) (A:Option Addr) (n c:Nat) (s:Bool) (y:Int) (B:Option Addr) (n' c' :Nat) (t:Bool):World:=
 (((((w.setCell ⟨g,k*6,none⟩ (.int .i64 x)).setCell ⟨g,k*6+1,none⟩ (.slice A n c)).setCell ⟨g,k*6+2,none⟩ (.bool s)).setCell ⟨g,k*6+3,none⟩ (.int .i64 y)).setCell ⟨g,k*6+4,none⟩ (.slice B n' c')).setCell ⟨g,k*6+5,none⟩ (.bool t)
section
variable {S:Nat->Prop} {w w' :World} {g L n:Nat} {f:Nat->Rat}
theorem zi1.chg {k:Nat} {q:Rat} (h:zi1 w g k q) (hc:Chg S w w') (hg:¬ S g) (hS:∀ b,S b->yn w b):zi1 w' g k q:=by
 obtain ⟨x,A,n,c,s,y,B,n',c',t,h0,h1,h2,h3,h4,h5,h6⟩:=h
 exact ⟨x,A,n,c,s,y,B,n',c',t,hc.cell h0 hg,hc.cell h1 hg,hc.cell h2 hg,hc.cell h3 hg,hc.cell h4 hg,hc.cell h5 hg,hc.rat h6 hS⟩
theorem xa.lt (h:xa w g L n f):g<w.heap.size:=by obtain ⟨⟨cs,h,_⟩,_⟩:=h;exact h.lt
theorem xa.noDig (h:xa w g L n f):yn w g:=by obtain ⟨⟨cs,h,_,hn⟩,_⟩:=h;exact h.noDig hn
theorem xa.heap (h:xa w g L n f):∃ cs,Blk w g 93 cs:=by obtain ⟨⟨cs,h,_⟩,_⟩:=h;exact ⟨cs,h⟩
theorem xa.chg (h:xa w g L n f) (hc:Chg S w w') (hg:¬ S g) (hS:∀ b,S b->yn w b):xa w' g L n f:=by
 obtain ⟨⟨cs,h1,h2,h3⟩,h4⟩:=h
 exact ⟨⟨cs,hc.blk h1 hg,h2,h3⟩,fun k hk=>(h4 k hk).chg hc hg hS⟩
theorem xa.below (h:xa w g L n f) (hb:Below w.heap.size w w'):xa w' g L n f:=h.chg (S:=fun _=>False) (Chg.of_below hb) (fun h=>h) (fun _ h=>h.elim)
theorem xa.frozen (h:xa w g L n f) (i:Nat):w.frozen? ⟨g,i,none⟩=false:=by obtain ⟨⟨cs,h,_⟩,_⟩:=h;exact h.frozen i
theorem xa.slots (h:xa w g L n f) {k:Nat} (hk:k<L):∃ u0 u1 u2 u3 u4 u5,w.cell? ⟨g,k*6,none⟩=some u0/\w.cell? ⟨g,k*6+1,none⟩=some u1/\w.cell? ⟨g,k*6+2,none⟩=some u2/\w.cell? ⟨g,k*6+3,none⟩=some u3/\w.cell? ⟨g,k*6+4,none⟩=some u4/\w.cell? ⟨g,k*6+5,none⟩=some u5:=by
 obtain ⟨⟨cs,h1,h2,h3⟩,_⟩:=h
 refine ⟨cs[k*6]'(by omega),cs[k*6+1]'(by omega),cs[k*6+2]'(by omega),cs[k*6+3]'(by omega),cs[k*6+4]'(by omega),cs[k*6+5]'(by omega),?_,?_,?_,?_,?_,?_⟩
 all_goals rw [h1.cell,Array.getElem?_eq_getElem]
theorem xa.fewer (h:xa w g L n f) {m:Nat} {f' :Nat->Rat} (hm:∀ k,k<m->k<n/\f' k=f k):xa w g L m f' :=by
 refine ⟨h.1,fun k hk=>?_⟩
 obtain ⟨h1,h2⟩:=hm k hk
 rw [h2];exact h.2 k h1
theorem YK {k:Nat} {x y:Int} {s t:Bool} {A B:Option Addr} {n c n' c' :Nat}:Chg (· =g) w (World.ratAt w g k x A n c s y B n' c' t):=by
 simp only [World.ratAt]
 apply Chg.setCell (S:=fun b=>b=g) ?_ (by rfl)
 apply Chg.setCell (S:=fun b=>b=g) ?_ (by rfl)
 apply Chg.setCell (S:=fun b=>b=g) ?_ (by rfl)
 apply Chg.setCell (S:=fun b=>b=g) ?_ (by rfl)
 apply Chg.setCell (S:=fun b=>b=g) ?_ (by rfl)
 apply Chg.setCell (S:=fun b=>b=g) ?_ (by rfl)
 exact Chg.refl w
theorem xa.set {k m' :Nat} {q:Rat} {f' :Nat->Rat} {x y:Int} {s t:Bool} {A B:Option Addr} {n1 c n' c' :Nat} (h:xa w g L n f) (hk:k<L) (hv:yC w (.agg #[.int .i64 x,.slice A n1 c,.bool s,.int .i64 y,.slice B n' c',.bool t]) q)
 (hf:∀ j,j<m' ->(j=k/\f' j=q)\/(j≠k/\j<n/\f' j=f j)):xa (World.ratAt w g k x A n1 c s y B n' c' t) g L m' f' :=by
 have hc:=YK (w:=w) (g:=g) (k:=k) (x:=x) (s:=s) (A:=A) (n:=n1) (c:=c) (y:=y) (t:=t) (B:=B) (n' :=n') (c' :=c')
 have hS:∀ b,b=g->yn w b:=fun b e=>by subst e;exact h.noDig
 have hv' :=hc.rat hv hS
 obtain ⟨⟨cs,h1,h2,h3⟩,h4⟩:=h
 have hb:=(((((h1.set_ (k*6) (.int .i64 x)).set_ (k*6+1) (.slice A n1 c)).set_ (k*6+2) (.bool s)).set_ (k*6+3) (.int .i64 y)).set_ (k*6+4) (.slice B n' c')).set_ (k*6+5) (.bool t)
 refine ⟨⟨_,hb,by simpa using h2,xi (xi (xi (xi (xi (xi h3 (xC _) _) (ys _ _ _) _) (Zt _) _) (xC _) _) (ys _ _ _) _) (Zt _) _⟩,fun j hj=>?_⟩
 rcases hf j hj with ⟨rfl,e⟩ | ⟨hne,hjn,e⟩
 . rw [e]
   refine ⟨x,A,n1,c,s,y,B,n',c',t,?_,?_,?_,?_,?_,?_,hv'⟩
   all_goals rw [hb.cell];simp [Array.getElem?_setIfInBounds];omega
 . rw [e]
   obtain ⟨x1,A1,m1,d1,s1,y1,B1,m2,d2,t1,e0,e1,e2,e3,e4,e5,e6⟩:=h4 j hjn;rw [h1.cell] at e0 e1 e2 e3 e4 e5;refine ⟨x1,A1,m1,d1,s1,y1,B1,m2,d2,t1,?_,?_,?_,?_,?_,?_,hc.rat e6 hS⟩
   all_goals
    rw [hb.cell,Array.getElem?_setIfInBounds,if_neg (by omega),Array.getElem?_setIfInBounds,if_neg (by omega),Array.getElem?_setIfInBounds,if_neg (by omega),Array.getElem?_setIfInBounds,if_neg (by omega),Array.getElem?_setIfInBounds,if_neg (by omega),Array.getElem?_setIfInBounds,if_neg (by omega)]
    assumption
end
def xY (n:Nat):Array Value:=madeCells #[.int .i64 0,.slice none 0 0,.bool false,.int .i64 0,.slice none 0 0,.bool false] (n*6)
theorem zbs (n:Nat):(xY n).size=n*6:=by simp [xY,madeCells]
theorem Vj (n:Nat):vN (xY n):=by
 intro i x h
 have h2:=Array.mem_of_getElem? h
 unfold xY madeCells at h2
 rw [Array.mem_map] at h2
 obtain ⟨j,_,e⟩:=h2
 have h3:j % 6<6:=Nat.mod_lt _ (by omega)
 have h4:(#[Value.int .i64 0,Value.slice none 0 0,Value.bool false,Value.int .i64 0,Value.slice none 0 0,Value.bool false]:Array Value)[j % 6]! ∈(#[Value.int .i64 0,Value.slice none 0 0,Value.bool false,Value.int .i64 0,Value.slice none 0 0,Value.bool false]:Array Value):=by
  rw [getElem!_pos (#[Value.int .i64 0,Value.slice none 0 0,Value.bool false,Value.int .i64 0,Value.slice none 0 0,Value.bool false]:Array Value) (j % 6) h3]
  exact Array.getElem_mem _
 simp at h4
 simp at e
 rcases h4 with h4 | h4 | h4 | h4 | h4 | h4<;>(rw [h4] at e;cases e)
theorem zom:(Tryz.prog.info? 93).map (fun i=>(i.zero,i.size,i.bytes))=some (some (.agg #[.int .i64 0,.slice none 0 0,.bool false,.int .i64 0,.slice none 0 0,.bool false]),6,80):=by kernel_rfl
theorem Tryz.underlying129:Tryz.prog.underlying 129=some (.slice 93):=by kernel_rfl
theorem zff (k:IntKind) (n:Nat) (hn:n<=100000) (w:World):
 (Instr.makeSlice 129 (.int k (n:Int)) (.int k (n:Int))).run Tryz.prog w= .ok (.slice (some ⟨w.heap.size,0,none⟩) n n) (w.alloc (.cells (xY n) 93)):=by
 obtain ⟨i,hi,hzz⟩:=Option.map_eq_some_iff.1 zom
 simp only [Prod.mk.injEq] at hzz
 obtain ⟨hz,hs,hb⟩:=hzz
 rw [run_make (P:=Tryz.prog) w 129 93 i _ Tryz.underlying129 hi hz k k n n (by omega) (by omega) (by rw [hb];omega) (by omega)]
 rw [hs]
 rfl
theorem zhj (w:World) (L:Nat) (f:Nat->Rat):xa (w.alloc (.cells (xY L) 93)) w.heap.size L 0 f:=
 ⟨⟨_,Blk.new w _ _,zbs L,Vj L⟩,fun k hk=>by omega⟩
theorem zlx (z:Int) (w:World) (s t:Bool) (h1: -4611686018427387904<z) (h2:z<4611686018427387904):yC w (.agg #[.int .i64 z,.slice none 0 0,.bool s,.int .i64 1,.slice none 0 0,.bool t]) (z:Rat):=
 ⟨_,_,_,_,_,_,_,_,_,_,rfl,.inl ⟨z,s,rfl,h1,h2,by simp⟩,.inl ⟨1,t,rfl,by omega,by omega,by simp⟩⟩
theorem XZ (z:Int) (w:World) (h1: -4611686018427387904<z) (h2:z<4611686018427387904):Calls Tryz.prog 92 #[.int .i64 z] w (zds w (z:Rat)):=by
 have hk:=Blk.new w 93 #[.int .i64 z,.slice none 0 0,.bool false,.int .i64 1,.slice none 0 0,.bool false]
 have q0:=hk.cell 0
 have q1:=hk.cell 1
 have q2:=hk.cell 2
 have q3:=hk.cell 3
 have q4:=hk.cell 4
 have q5:=hk.cell 5
 simp at q0 q1 q2 q3 q4 q5
 have HR:=ze (zlx z (w.alloc (.cells #[.int .i64 z,.slice none 0 0,.bool false,.int .i64 1,.slice none 0 0,.bool false] 93)) false false h1 h2)
 clear hk
 go_enter Tryz.func92,Tryz.ntmps92
 go_wp2_with fail
 refine bodyPost_ret (v:=.agg #[.int .i64 z,.slice none 0 0,.bool false,.int .i64 1,.slice none 0 0,.bool false]) (by simp [results,Tryz.results92,go_sem,q0,q1,q2,q3,q4,q5]) rfl ?_
 exact ⟨_,rfl,HR.out,zf _ _⟩
theorem zlr:(Tryz.prog.info? 34).map (fun i=>(i.zero,i.size,i.bytes))=some (some (.string ⟨#[]⟩),1,16):=by kernel_rfl
theorem zps:(Tryz.prog.info? 84).map (fun i=>(i.zero,i.size,i.bytes))=some (some (.agg #[.string ⟨#[]⟩,.string ⟨#[]⟩]),2,32):=by kernel_rfl
theorem Tryz.underlying45:Tryz.prog.underlying 45=some (.slice 34):=by kernel_rfl
theorem Tryz.underlying31:Tryz.prog.underlying 31=some (.slice 84):=by kernel_rfl
def zra (w:World) (e:Ending) (w' :World):Prop:=∃ A n c,e= .returned (.slice A n c)/\Below w.heap.size w w'
theorem zi1.cells {w:World} {g k:Nat} {q:Rat} (h:zi1 w g k q):∃ (x:Int) (A:Option Addr) (n c:Nat) (s:Bool) (y:Int) (B:Option Addr) (n' c' :Nat) (t:Bool),w.cell? ⟨g,k*6,none⟩=some (.int .i64 x)/\w.cell? ⟨g,k*6+1,none⟩=some (.slice A n c)/\w.cell? ⟨g,k*6+2,none⟩=some (.bool s)/\
 w.cell? ⟨g,k*6+3,none⟩=some (.int .i64 y)/\w.cell? ⟨g,k*6+4,none⟩=some (.slice B n' c')/\w.cell? ⟨g,k*6+5,none⟩=some (.bool t)/\yC w (.agg #[.int .i64 x,.slice A n c,.bool s,.int .i64 y,.slice B n' c',.bool t]) q:=h
theorem zdx {w:World} {base n size:Nat} {e:TypeId} {v:Value} {xs:List Value} (h:vJ w base e size v n xs):∃ A n c,v= .slice A n c:=by
 rcases h.1.2 with ⟨rfl,_⟩ | ⟨g,cap,cur,rfl,_⟩
 . exact ⟨_,_,_,rfl⟩
 . exact ⟨_,_,_,rfl⟩
theorem Vq {w w' :World} {v:Value} (hg:w.grownBy w' v.ownBlock):Chg (fun b=>v.ownBlock=some b) w w' :=⟨hg.os,hg.tape,hg.output,hg.size,fun k hk hS=>hg.block k hk (fun e=>hS e.symm)⟩
theorem zo7 {w:World} {x:Nat} {cs1 cs2:Array Value} {t1 t2:TypeId} {f2:Nat×Nat} (h1:Blk w x t1 cs1) (h2:w.heap[x]?=some (.cells cs2 t2 f2)) (ht:t1≠t2):False:=by
 unfold Blk at h1
 rw [h1] at h2
 injection h2 with h2
 injection h2 with _ h3 _
 exact ht h3
def FrsR (w0:World) (m g:Nat) (f:Nat->Rat) (iv ov:Value) (wr:World):Prop:=
 ∃ (i:Nat) (v:Value) (xs:List Value),i<=m/\iv= .int .i64 i/\ov=v/\Hid (vJ wr w0.heap.size 34 1 v i xs)/\Hid (xa wr g m m f)/\Hid (Below w0.heap.size w0 wr)
theorem zgy (g m:Nat) (f:Nat->Rat) (w:World) (hr:xa w g m m f) (hf:∀ k,k<m->ZW 67108864 (f k)) (hm:m<=100000):
 Calls Tryz.prog 81 #[.slice (some ⟨g,0,none⟩) m m] w (zra w):=by
 have HR:=ze hr
 have HF:=ze hf
 have HW:=ze (xw w)
 clear hr hf
 go_enter Tryz.func81,Tryz.ntmps81
 go_wp2_with fail
 go_loopw [8,3] (FrsR w m g f) (fun iv _ _=>m - (intOf iv).toNat)
 case atStart=>exact ⟨0,_,[],Nat.zero_le _,rfl,rfl,Z2 _ _ _ _,HR,HW⟩
 case round=>
  clear HR HW
  obtain ⟨i,v,xs,hi,rfl,rfl,HO,HR,HW⟩:=hrel
  by_cases him:i<m
  . have hii:(i:Int)<(m:Int):=by omega
    obtain ⟨x,A,n,c,s,y,B,n',c',t,c0,c1,c2,c3,c4,c5,hq⟩:=(HR.out.2 i him).cells;have hx:=zf wr (.cells #[.int .i64 x,.slice A n c,.bool s,.int .i64 y,.slice B n' c',.bool t] 93);have HK:=ze (Blk.new wr 93 #[.int .i64 x,.slice A n c,.bool s,.int .i64 y,.slice B n' c',.bool t]);have HQ:=ze (hq.below hx);have HFI:=ze (HF.out i him);replace HO:=ze (HO.out.below hx);replace HR:=ze (HR.out.below hx);replace HW:=eb_ HW hx;clear hx hq
    go_upto_region 5 with fail
    clear c0 c1 c2 c3 c4 c5;generalize wr.alloc (.cells #[.int .i64 x,.slice A n c,.bool s,.int .i64 y,.slice B n' c',.bool t] 93)=W2 at HK HQ HO HR HW |-;generalize wr.heap.size=gr at HK |-;have r0:=HK.out.cell 0;have r1:=HK.out.cell 1;have r2:=HK.out.cell 2;have r3:=HK.out.cell 3;have r4:=HK.out.cell 4;have r5:=HK.out.cell 5;simp at r0 r1 r2 r3 r4 r5;go_wp2_with fail;refine (zaa _ _ _ HQ.out HFI.out).mono ?_;rintro e w3 ⟨rfl,hb3⟩;obtain ⟨T,hT⟩:∃ T:ByteArray,T=⟨(zT (f i)).toArray⟩:=⟨_,rfl⟩;rw [<- hT];clear hT;replace HO:=ze (HO.out.below hb3);replace HR:=ze (HR.out.below hb3);replace HW:=eb_ HW hb3;clear hb3 HK HQ HFI r0 r1 r2 r3 r4 r5;have hx:=zf w3 (.cells #[.string T] 34);have hone:∀ u∈[Value.string T],u.oneCell' =true:=by intro u hu;rw [List.mem_singleton] at hu;subst hu;rfl
    have hnoi:∀ u∈[Value.string T],ZO u:=by intro u hu;rw [List.mem_singleton] at hu;subst hu;exact vY _
    have hzn:∀ u∈(Value.string ⟨#[]⟩).cells,ZO u:=by intro u hu;simp [Value.cells] at hu;subst hu;exact vY _
    obtain ⟨i0,hi0,hz0,hz1,hz2⟩:=info_parts zlr;have hnew:=Blk.new w3 34 #[.string T]
    have hcell:∀ (j:Nat) (u:Value),[Value.string T][j]?=some u->(w3.alloc (.cells #[.string T] 34)).cell? ((⟨w3.heap.size,0,none⟩:Addr).add j)=some u:=by
     intro j u hu
     match j with
     | 0=>
       simp at hu;subst hu;have:=hnew.cell 0
       simp [Addr.add]
     | j+1=>simp at hu
    replace HO:=ze (HO.out.below hx);replace HR:=ze (HR.out.below hx);replace HW:=eb_ HW hx;clear hx hnew;go_wp2_with (at_builtin;go_must (refine yz (P:=Tryz.prog) rfl (.tmp 12) (.tmp 15) _ rfl w.heap.size 34 i0 _ 1 16 Tryz.underlying45 hi0 hz0 hz1 hz2 rfl (by omega) _ i xs rfl HO.out ⟨w3.heap.size,0,none⟩ 1 1 [.string T] rfl rfl (by omega) hcell hone hnoi hzn ?o4 ?o5 ?o6 ?_))
    case o4=>unfold maxLen;omega
    case o5=>omega
    case o6=>exact HW.out.size
    intro v3 w4 hown3 hgr3 hat3;clear hcell hone hnoi hzn;have hge:=fun b hb=>(HO.out.1.lt b hb).1
    have HRX:Hid (xa w4 g m m f):=HR.out.chg (Vq hgr3) (fun e=>by
     obtain ⟨cs,k1⟩:=HO.out.heap e;obtain ⟨cs',k2⟩:=HR.out.heap
     exact zo7 k2 k1 (by decide)) (fun b e=>HO.out.2 b e)
    have HWX:Hid (Below w.heap.size w w4):=HW.out.grown hgr3 HW.out.size hge;have HOX:=ze hown3;clear HO HR HW hown3 hgr3 hat3 hge;go_wp2_with fail;go_roundw
    case rel=>exact ⟨i+1,_,_,by omega,by go_num,rfl,HOX,HRX,HWX⟩
    case measure=>simp [intOf];omega
  . obtain rfl:m=i:=by omega
    obtain ⟨A,n,c,rfl⟩:=zdx HO.out;go_wp2_with fail;go_ret;exact ⟨_,_,_,rfl,HW.out⟩
def VlsR (w0:World) (m g B:Nat) (f:Nat->Rat) (nv:Value) (names:List (List UInt8)) (iv ov:Value) (wr:World):Prop:=
 ∃ (i k:Nat) (v:Value) (xs:List Value),i<=m/\k<=i/\iv= .int .i64 i/\ov=v/\Hid (vJ wr w0.heap.size 84 2 v k xs)/\Hid (xa wr g m m f)/\Hid (yg wr w0.heap.size nv names)/\Hid (Below w0.heap.size w0 wr)
theorem zer (g m:Nat) (f:Nat->Rat) (A0:Option Addr) (cN:Nat) (names:List (List UInt8)) (w:World) (hn:yg w w.heap.size (.slice A0 m cN) names) (hr:xa w g m m f) (hf:∀ k,k<m->ZW 67108864 (f k)) (hm:m<=100000):
 Calls Tryz.prog 80 #[.slice A0 m cN,.slice (some ⟨g,0,none⟩) m m] w (zra w):=by
 obtain rfl:=hn.len
 have HN:=ze hn
 have HR:=ze hr
 have HF:=ze hf
 have HW:=ze (xw w)
 clear hr hf hn
 go_enter Tryz.func80,Tryz.ntmps80
 go_wp2_with fail
 go_loopw [10,5] (VlsR w names.length g w.heap.size f (.slice A0 names.length cN) names) (fun iv _ _=>names.length - (intOf iv).toNat)
 case atStart=>exact ⟨0,0,_,[],Nat.zero_le _,Nat.le_refl _,rfl,rfl,Z2 _ _ _ _,HR,HN,HW⟩
 case round=>
  clear HR HW HN
  obtain ⟨i,k,v,xs,hi,hk,rfl,rfl,HO,HR,HN,HW⟩:=hrel
  by_cases him:i<names.length
  . have hii:(i:Int)<(names.length:Int):=by omega
    obtain ⟨ad,eA,hbb,p0⟩:=HN.out.at_ him;subst eA;obtain ⟨x,A,n,c,s,y,B,n',c',t,c0,c1,c2,c3,c4,c5,hq⟩:=(HR.out.2 i him).cells;have HQ:=ze hq;have HFI:=ze (HF.out i him);have hsg:=fun w' (h:Below wr.heap.size wr w')=>VE _ _ w' (hq.below h)
    have hsg0:=hsg wr (xw wr);clear hq hsg
    by_cases hz:zgi (f i) 0=0
    . rw [hz] at hsg0
      go_wp2_with fail;refine hsg0.mono ?_;rintro e w3 ⟨rfl,hb3⟩;clear hsg0;replace HO:=ze (HO.out.below hb3);replace HR:=ze (HR.out.below hb3);replace HN:=ze (HN.out.below hb3);replace HW:=eb_ HW hb3;clear hb3 c0 c1 c2 c3 c4 c5 p0 hbb HQ;go_wp2_with fail;go_roundw
      case rel=>exact ⟨i+1,k,_,_,by omega,by omega,by go_num,rfl,HO,HR,HN,HW⟩
      case measure=>simp [intOf];omega
    . obtain ⟨sg,hsg1⟩:∃ sg,zgi (f i) 0=sg:=⟨_,rfl⟩
      rw [hsg1] at hsg0 hz;have d1:(sg != 0)=true:=by rw [bne_iff_ne];exact hz
      have d2:(sg == 0)=false:=by rw [beq_eq_false_iff_ne];exact hz
      clear hsg1 hz;go_wp2_with fail;refine hsg0.mono ?_;rintro e w3 ⟨rfl,hb3⟩;clear hsg0;replace HO:=ze (HO.out.below hb3);replace HR:=ze (HR.out.below hb3);replace HN:=ze (HN.out.below hb3);replace HW:=eb_ HW hb3;clear hb3 c0 c1 c2 c3 c4 c5 p0 hbb HQ;obtain ⟨x,A,n,c,s,y,B,n',c',t,c0,c1,c2,c3,c4,c5,hq⟩:=(HR.out.2 i him).cells;have hfr:=zaa _ _ _ hq HFI.out;have HFR:=ze hfr;clear hq hfr;go_wp2_with fail;refine HFR.out.mono ?_;rintro e w4 ⟨rfl,hb3⟩;obtain ⟨T,hT⟩:∃ T:ByteArray,T=⟨(zT (f i)).toArray⟩:=⟨_,rfl⟩;rw [<- hT];clear hT HFR;replace HO:=ze (HO.out.below hb3);replace HR:=ze (HR.out.below hb3);replace HN:=ze (HN.out.below hb3);replace HW:=eb_ HW hb3;clear hb3 HFI c0 c1 c2 c3 c4 c5;have hx:=zf w4 (.cells #[str names[i],.string T] 84);have hone:∀ u∈[str names[i],Value.string T],u.oneCell' =true:=by intro u hu;simp at hu;rcases hu with rfl | rfl<;>rfl
      have hnoi:∀ u∈[str names[i],Value.string T],ZO u:=by intro u hu;simp at hu;rcases hu with rfl | rfl<;>exact vY _
      have hzn:∀ u∈(Value.agg #[.string ⟨#[]⟩,.string ⟨#[]⟩]).cells,ZO u:=by intro u hu;simp [Value.cells] at hu;subst hu;exact vY _
      obtain ⟨i0,hi0,hz0,hz1,hz2⟩:=info_parts zps;have hnew:=Blk.new w4 84 #[str names[i],.string T]
      have hcell:∀ (j:Nat) (u:Value),[str names[i],Value.string T][j]?=some u->(w4.alloc (.cells #[str names[i],.string T] 84)).cell? ((⟨w4.heap.size,0,none⟩:Addr).add j)=some u:=by
       intro j u hu
       match j with
       | 0=>
         simp at hu;subst hu;have:=hnew.cell 0
         simp [Addr.add]
       | 1=>
         simp at hu;subst hu;have:=hnew.cell 1
         simp [Addr.add]
       | j+2=>simp at hu
      replace HO:=ze (HO.out.below hx);replace HR:=ze (HR.out.below hx);replace HN:=ze (HN.out.below hx);replace HW:=eb_ HW hx;clear hx hnew;go_wp2_with (at_builtin;go_must (refine yz (P:=Tryz.prog) rfl (.tmp 21) (.tmp 29) _ rfl w.heap.size 84 i0 _ 2 32 Tryz.underlying31 hi0 hz0 hz1 hz2 rfl (by omega) _ k xs rfl HO.out ⟨w4.heap.size,0,none⟩ 1 1 [str names[i],.string T] rfl rfl (by omega) hcell hone hnoi hzn ?o4 ?o5 ?o6 ?_))
      case o4=>unfold maxLen;omega
      case o5=>omega
      case o6=>exact HW.out.size
      intro v3 w5 hown3 hgr3 hat3;clear hcell hone hnoi hzn;have hge:=fun b hb=>(HO.out.1.lt b hb).1
      have HRX:Hid (xa w5 g names.length names.length f):=HR.out.chg (Vq hgr3) (fun e=>by
       obtain ⟨cs,k1⟩:=HO.out.heap e;obtain ⟨cs',k2⟩:=HR.out.heap
       exact zo7 k2 k1 (by decide)) (fun b e=>HO.out.2 b e)
      have HNX:Hid (yg w5 w.heap.size (.slice (some ad) names.length cN) names):=HN.out.chg (Vq hgr3) (fun b hb e=>by have:=hge b e;omega);have HWX:Hid (Below w.heap.size w w5):=HW.out.grown hgr3 HW.out.size hge;have HOX:=ze hown3;clear HO HR HN HW hown3 hgr3 hat3 hge;go_wp2_with fail;go_roundw
      case rel=>exact ⟨i+1,k+1,_,_,by omega,by omega,by go_num,rfl,HOX,HRX,HNX,HWX⟩
      case measure=>simp [intOf];omega
  . obtain rfl:names.length=i:=by omega
    obtain ⟨A,n,c,rfl⟩:=zdx HO.out;go_wp2_with fail;go_ret;exact ⟨_,_,_,rfl,HW.out⟩
end Go.Proofs.YtkmcmmcencdcpaaGreatDoor
