/- Parts of the proof. -/
import Derived.Maps.RangeWalk
import Derived.Test.YthbmhkiphmcogaaGreatDoorMe23
set_option linter.all false
namespace Go.Proofs.YthbmhkiphmcogaaGreatDoor
open Proofs.Tryz Go.RowKit Go.Deep
open Go.ChangeMaps (setBlock)
theorem XH {s:List UInt8} {v:Value}:∀ {D:List (List UInt8×Value)},(D.map (·.1)).Nodup->(s,v)∈D->za6 s D=some v
 | [],_,h=>by cases h
 | p :: D,hn,h=>by
   rw [List.map_cons,List.nodup_cons] at hn;rw [Zy]
   rcases List.mem_cons.1 h with rfl | h
   . rw [if_pos rfl]
   . rw [if_neg (fun e=>hn.1 (List.mem_map.2 ⟨(s,v),h,e.symm⟩))]
     exact XH hn.2 h
def zq6 (s:List UInt8) (D:List (List UInt8×Value)):List (List UInt8×Value):=match za5 s D 0 with
 | none=>D
 | some p=>D.eraseIdx p.1
theorem zoh (s:List UInt8) (p:List UInt8×Value) (D:List (List UInt8×Value)):zq6 s (p :: D)=if p.1=s then D else p :: zq6 s D:=by
 unfold zq6
 conv=>lhs;unfold za5
 by_cases h:p.1=s
 . rw [if_pos h,if_pos h];rfl
 rw [if_neg h,if_neg h,zag s D 1]
 cases za5 s D 0 with
 | none=>rfl
 | some q=>rfl
theorem zq0 {s:List UInt8} {D:List (List UInt8×Value)} (h:s ∉ D.map (·.1)):za6 s D=none:=by
 unfold za6
 rw [zij.2 (fun p hp e=>h (List.mem_map.2 ⟨p,hp,e⟩))]
 rfl
theorem zfm (s:List UInt8):∀ {D:List (List UInt8×Value)},(D.map (·.1)).Nodup->∀ s',za6 s' (zq6 s D)=if s' =s then none else za6 s' D
 | [],_,s' =>by by_cases h:s' =s<;>simp [zq6,za5,za6,h]
 | p :: D,hn,s' =>by
   rw [List.map_cons,List.nodup_cons] at hn;rw [zoh]
   by_cases h:p.1=s
   . rw [if_pos h]
     by_cases e:s' =s
     . subst e;rw [if_pos rfl];exact zq0 (h ▸ hn.1)
     rw [if_neg e,Zy,if_neg (fun k=>e (k.symm.trans h))]
   rw [if_neg h,Zy,zfm s hn.2 s',Zy]
   by_cases e:s' =s
   . rw [if_pos e,if_pos e,if_neg (fun k=>h (k.trans e))]
   rw [if_neg e,if_neg e]
theorem zhz (s:List UInt8) (D:List (List UInt8×Value)) (hn:(D.map (·.1)).Nodup):((zq6 s D).map (·.1)).Nodup:=by
 unfold zq6
 split
 . exact hn
 exact hn.sublist ((List.eraseIdx_sublist _ _).map _)
def ztw (F:List UInt8->Option Rat) (s:List UInt8):List UInt8->Option Rat:=fun t=>if t=s then none else F t
def xF (w:World) (g r:Nat) (F:List UInt8->Option Rat) (n:Nat) (cur:Option (List UInt8)):Prop:=
 ∃ es clock seen D,w.heap[g]?=some (.map es clock)/\es.toList.map (fun e=>(e.key,e.val))=XW D/\(es.toList.map (·.born)).Nodup/\(∀ e∈es.toList,e.born<clock)/\w.heap[r]?=some (.mapIter (some g) clock seen clock)/\(D.map (·.1)).Nodup/\
  (∀ s,match za6 s D with | none=>F s=none | some v=>∃ q,F s=some q/\yc w v q)/\(∀ e∈es.toList,seen.contains e.born=true->∀ s,e.key=str s->cur≠some s->F s≠some 0)/\(leftOf es seen).size=n
theorem zbx {es:Array MapEntry} {D:List (List UInt8×Value)} (h:es.toList.map (fun e=>(e.key,e.val))=XW D) {e:MapEntry} (he:e∈es.toList):∃ s,e.key=str s/\(s,e.val)∈D:=by
 have l:(e.key,e.val)∈XW D:=by rw [<- h];exact List.mem_map.2 ⟨e,he,rfl⟩
 obtain ⟨p,j,b⟩:=List.mem_map.1 l
 injection b with e2 e3
 exact ⟨p.1,e2.symm,by rw [<- e3];exact j⟩
theorem zqa {a b:List UInt8} (h:str a=str b):a=b:=by
 injection h with h
 have:=congrArg (fun x:ByteArray=>x.data.toList) h
 simpa using this
theorem Yi.range {P:Program} {w:World} {g:Nat} {F:List UInt8->Option Rat} {t k e:TypeId} (ht:P.underlying t=some (.map k e)) (h:Yi w g F):
 ∃ w' n,(Instr.range t (.map (some g))).run P w= .ok (.pointer (some ⟨w.heap.size,0,none⟩)) w' /\xF w' g w.heap.size F n none/\Below w.heap.size w w' /\w'.heap.size=w.heap.size+1:=by
 obtain ⟨D,⟨l,b,hb,y,E,C⟩,z,m⟩:=h
 have r:g<w.heap.size:=(Array.getElem?_eq_some_iff.1 hb).1
 have j:=zf w (.mapIter (some g) b #[] b)
 refine ⟨_,_,run_range_map w t k e g l b ht hb,⟨l,b,#[],D,(j.block g r).trans hb,y,E,C,heap_alloc_new w _,z,fun s=>?_,fun e _ h=>by simp at h,rfl⟩,j,by simp⟩
 have:=m s
 cases hg:za6 s D with
 | none=>rw [hg] at this;exact this
 | some v=>
   rw [hg] at this;obtain ⟨q,B,u⟩:=this;exact ⟨q,B,u.below j⟩
theorem zpz {w:World} {g r:Nat} {es:Array MapEntry} {clock:Nat} {m:Option Nat} {s c:Nat} {seen:Array Nat} (h:w.heap[g]?=some (.map es clock)) (h' :w.heap[r]?=some (.mapIter m s seen c)):g≠r:=fun e=>by
 subst e;rw [h] at h';cases h'
theorem zer {w:World} {r:Nat} {m:Option Nat} {s c:Nat} {seen:Array Nat} (h' :w.heap[r]?=some (.mapIter m s seen c)):zZ w r:=by
 intro p b x e
 subst b
 simp [World.cell?,h'] at e
theorem YZ {w w1:World} {r:Nat} {o:Obj} (h:w1=w\/w1=w.drew):Chg (· =r) w (setBlock w1 r o):=by
 have j:w.grownBy (setBlock w1 r o) (some r):=by
  rcases h with rfl | rfl
  . exact ⟨rfl,rfl,rfl,by simp [setBlock],fun k hk hn=>by
     have b:r≠k:=fun e=>hn (by rw [e])
     simp [setBlock,b]⟩
  . exact ⟨rfl,rfl,rfl,by simp [setBlock],fun k hk hn=>by
     have b:r≠k:=fun e=>hn (by rw [e])
     show (w.heap.setIfInBounds r o)[k]?=w.heap[k]?
     simp [b]⟩
 exact Chg.of_grown j rfl
theorem xF.next {P:Program} {w:World} {g r n:Nat} {F:List UInt8->Option Rat} {ty:TypeId} (h:xF w g r F n none):
 (n=0/\(Instr.next (.pointer (some ⟨r,0,none⟩)) false ty).run P w= .ok (.tuple #[.bool false]) w)\/
 ∃ s v q w' n',(Instr.next (.pointer (some ⟨r,0,none⟩)) false ty).run P w= .ok (.tuple #[.bool true,str s,v]) w' /\(Instr.entry (.pointer (some ⟨r,0,none⟩))).run P w' = .ok (.tuple #[str s,v]) w' /\F s=some q/\yc w' v q/\xF w' g r F n' (some s)/\n' <n/\Chg (· =r) w w' :=by
 obtain ⟨m,b,j,D,E,S,G,R,y,Q,hF,hz,hs⟩:=h
 have T:=zpz E y
 rcases run_next_at (P:=P) w ty r g b b j m b y E R (Nat.le_refl _) with ⟨h0,J⟩ | ⟨e,C,w1,O,J⟩
 . exact .inl ⟨hs.symm.trans h0,J⟩
 . have K:=mem_left C
   obtain ⟨s,I,V⟩:=zbx S K.1;have U:=XH Q V;have L:=hF s;rw [U] at L;obtain ⟨q,X,Y⟩:=L;have B:Chg (· =r) w (setBlock w1 r (.mapIter (some g) b (j.push e.born) b)):=YZ O;have hS:∀ z,z=r->zZ w z:=fun z e=>by subst e;exact zer y
   have M:(setBlock w1 r (.mapIter (some g) b (j.push e.born) b)).heap[r]?=some (.mapIter (some g) b (j.push e.born) b):=by
    have C:r<w1.heap.size:=by rcases O with rfl | rfl<;>exact (Array.getElem?_eq_some_iff.1 y).1
    show (w1.heap.setIfInBounds r _)[r]?=_
    simp [C]
   have N:(setBlock w1 r (.mapIter (some g) b (j.push e.born) b)).heap[g]?=some (.map m b):=(B.block g (Array.getElem?_eq_some_iff.1 E).1 T).trans E;refine .inr ⟨s,e.val,q,_,_,by rw [J,I],?_,X,B.rat Y hS,⟨m,b,j.push e.born,D,N,S,G,R,M,Q,fun s' =>?_,fun x hx l s' hx' hcur=>?_,rfl⟩,?_,B⟩
   . rw [run_entry_at _ r g b j m b e M N K.1 G,I]
   . have:=hF s'
     split at this
     . exact this
     obtain ⟨q',ab,aa⟩:=this
     exact ⟨q',ab,B.rat aa hS⟩
   . rw [Array.contains_push,Bool.or_eq_true] at l
     rcases l with l | l
     . exact hz x hx l s' hx' (by simp)
     . exfalso
       have hb:x.born=e.born:=by first | exact eq_of_beq l | exact (eq_of_beq l).symm
       have Z:x=e:=by
        have h1:=find_born e m.toList G K.1;have u:=find_born x m.toList G hx;rw [hb] at u;rw [h1] at u;injection u with u
        exact u.symm
       subst Z;exact hcur (congrArg some (zqa (I.symm.trans hx')))
   . have:=left_shrinks m j e C
     omega
theorem xF.stays {w:World} {g r n:Nat} {F:List UInt8->Option Rat} {s:List UInt8} (h:xF w g r F n (some s)) (hq:F s≠some 0):xF w g r F n none:=by
 obtain ⟨y,j,b,D,z,u,G,E,m,B,hF,l,C⟩:=h
 refine ⟨y,j,b,D,z,u,G,E,m,B,hF,fun x hx hxs s' hx' _=>?_,C⟩
 by_cases e:s=s'
 . subst e;exact hq
 exact l x hx hxs s' hx' (fun h=>e (by injection h))
theorem xF.drop {P:Program} {w:World} {g r n:Nat} {F:List UInt8->Option Rat} {s:List UInt8} {t k e ty:TypeId} (ht:P.underlying t=some (.map k e)) (hk:P.underlying k=some .string) (h:xF w g r F n (some s)):
 ∃ w' n',(Builtin.delete_ #[t,k] ty #[.map (some g),str s]).run P w= .ok (.tuple #[]) w' /\xF w' g r (ztw F s) n' none/\n' <=n/\Chg (· =g) w w' :=by
 obtain ⟨b,y,u,D,m,G,hn,J,I,C,hF,hz,hs⟩:=h
 have U:=zpz m I
 have E:=YW s b.toList D 0 G
 have K:(Instr.checkKey b.isEmpty 10000 k (str s)).run P w= .ok () w:=MapKept.run_checkKey (k:=str s) hk (by simp [MapKept.IsKey]) b.isEmpty 9999
 have V:g<w.heap.size:=(Array.getElem?_eq_some_iff.1 m).1
 have hS:∀ z,z=g->zZ w z:=fun z e=>by
  subst e
  intro p X x J
  subst X
  simp [World.cell?,m] at J
 have key:∀ j :Array MapEntry,j.toList.map (fun e=>(e.key,e.val))=XW (zq6 s D)->j.toList.Sublist b.toList->xF (setBlock w g (.map j y)) g r (ztw F s) (leftOf j u).size none:=by
  intro j M l
  have N:Chg (· =g) w (setBlock w g (.map j y)):=YZ (.inl rfl)
  refine ⟨j,y,u,zq6 s D,by simp [setBlock,V],M,hn.sublist (l.map _),fun x hx=>J x (l.subset hx),(N.block r (Array.getElem?_eq_some_iff.1 I).1 U.symm).trans I,zhz s D C,fun s' =>?_,fun x hx hxs s' hx' _=>?_,rfl⟩
  rotate_left
  . obtain ⟨s2,Y,Z⟩:=zbx M hx
    obtain rfl:s2=s' :=zqa (Y.symm.trans hx')
    have Q:s2≠s:=fun e=>by
     subst e;have S:=XH (zhz s2 D C) Z;rw [zfm s2 C s2,if_pos rfl] at S
     cases S
    unfold ztw;rw [if_neg Q];exact hz x (l.subset hx) hxs s2 hx' (fun e=>Q (by injection e with e;exact e.symm))
  rw [zfm s C s']
  unfold ztw
  by_cases e:s' =s
  . rw [if_pos e,if_pos e]
  rw [if_neg e,if_neg e]
  have:=hF s'
  split at this
  . exact this
  obtain ⟨q',ab,aa⟩:=this
  exact ⟨q',ab,N.rat aa hS⟩
 have O:∀ j :Array MapEntry,j.toList.Sublist b.toList->(leftOf j u).size<=n:=fun j l=>by
  rw [<- hs]
  unfold leftOf
  have R:∀ a:Array MapEntry,(a.filter fun e=> !u.contains e.born).size=(a.toList.filter fun e=> !u.contains e.born).length:=fun a=>by rw [<- Array.length_toList,Array.toList_filter]
  rw [R,R]
  exact (l.filter _).length_le
 have B:zq6 s D=match za5 s D 0 with | none=>D | some p=>D.eraseIdx p.1:=rfl
 cases hsk:za5 s D 0 with
 | none=>
   rw [hsk] at E B;refine ⟨setBlock w g (.map b y),_,?_,key b (by rw [B];exact G) (List.Sublist.refl _),O b (List.Sublist.refl _),YZ (.inl rfl)⟩
   simp [Builtin.delete_,run_underlying ht,MapKept.run_getObj_map m,K,MapKept.run_findKey hk E,MapKept.run_setObj_map _ m,Result.andThen,setBlock]
 | some p=>
   rw [hsk] at E B;have T:=zco s D 0 p hsk;rw [Nat.sub_zero] at T;have ad:b.size=D.length:=by have:=congrArg List.length G;simpa [XW] using this
   have ac:p.1<D.length:=(List.getElem?_eq_some_iff.1 T.2).1
   have l:(b.eraseIdxIfInBounds p.1).toList=b.toList.eraseIdx p.1:=by
    unfold Array.eraseIdxIfInBounds;rw [dif_pos (by omega)]
    simp
   have L:(b.eraseIdxIfInBounds p.1).toList.Sublist b.toList:=by rw [l];exact List.eraseIdx_sublist _ _
   refine ⟨setBlock w g (.map (b.eraseIdxIfInBounds p.1) y),_,?_,key _ ?_ L,O _ L,YZ (.inl rfl)⟩
   . simp [Builtin.delete_,run_underlying ht,MapKept.run_getObj_map m,K,MapKept.run_findKey hk E,MapKept.run_setObj_map _ m,Result.andThen,setBlock]
   rw [l,B,Go.ChangeMaps.map_eraseIdx,G]
   unfold XW;rw [Go.ChangeMaps.map_eraseIdx]
theorem xF.over {w:World} {g r:Nat} {F:List UInt8->Option Rat} (h:xF w g r F 0 none):Yi w g F/\∀ s,F s≠some 0:=by
 obtain ⟨b,u,m,D,B,j,K,J,L,C,hF,z,I⟩:=h
 refine ⟨⟨D,⟨b,u,B,j,K,J⟩,C,hF⟩,fun s h0=>?_⟩
 have:=hF s
 split at this
 . rw [this] at h0;cases h0
 rename_i v G
 have y:=zfr G;have E:(str s,v)∈b.toList.map (fun e=>(e.key,e.val)):=by rw [j];exact List.mem_map.2 ⟨_,y,rfl⟩
 obtain ⟨x,l,ex⟩:=List.mem_map.1 E;injection ex with e1 e2
 exact z x l (all_seen b m I x l) s e1 (by simp) h0
theorem xF.map {w:World} {g r n:Nat} {F:List UInt8->Option Rat} {c:Option (List UInt8)} (h:xF w g r F n c):Yi w g F:=by
 obtain ⟨j,b,z,D,l,e,y,u,C,m,hF,B,E⟩:=h
 exact ⟨D,⟨j,b,l,e,y,u⟩,m,hF⟩
theorem xF.chg {S:Nat->Prop} {w w' :World} {g r n:Nat} {F:List UInt8->Option Rat} {c:Option (List UInt8)} (h:xF w g r F n c) (hC:Chg S w w') (hg' :¬ S g) (hr' :¬ S r) (hS:∀ b,S b->zZ w b):xF w' g r F n c:=by
 obtain ⟨z,m,l,D,j,y,I,G,e,B,hF,u,C⟩:=h
 refine ⟨z,m,l,D,(hC.block g (Array.getElem?_eq_some_iff.1 j).1 hg').trans j,y,I,G,(hC.block r (Array.getElem?_eq_some_iff.1 e).1 hr').trans e,B,fun s=>?_,u,C⟩
 have:=hF s
 split at this
 . exact this
 obtain ⟨q,E,e⟩:=this
 exact ⟨q,E,hC.rat e hS⟩
theorem xF.below {w w' :World} {g r n:Nat} {F:List UInt8->Option Rat} {c:Option (List UInt8)} (h:xF w g r F n c) (hb:Below w.heap.size w w'):xF w' g r F n c:=h.chg (S:=fun _=>False) (Chg.of_below hb) (fun h=>h) (fun h=>h) (fun _ h=>h.elim)
theorem xF.noDigR {w:World} {g r n:Nat} {F:List UInt8->Option Rat} {c:Option (List UInt8)} (h:xF w g r F n c):zZ w r:=by
 obtain ⟨m,j,e,D,u,l,z,y,b,_⟩:=h
 exact zer b
theorem xF.neR {w:World} {g r n x:Nat} {F:List UInt8->Option Rat} {c:Option (List UInt8)} {t:TypeId} {cs:Array Value} (h:xF w g r F n c) (hk:Blk w x t cs):r≠x:=fun e=>by
 obtain ⟨u,l,j,D,y,m,B,z,b,_⟩:=h
 subst e
 unfold Blk at hk
 rw [b] at hk;cases hk
theorem xF.left_eq {w:World} {g r n:Nat} {F:List UInt8->Option Rat} {c:Option (List UInt8)} (h:xF w g r F n c):w.rangeLeft g r=n:=by
 obtain ⟨z,m,l,D,e,y,E,C,b,B,hF,u,j⟩:=h
 simp only [World.rangeLeft,e,b]
 exact j
theorem xF.neB {w:World} {g r n b:Nat} {F:List UInt8->Option Rat} {c:Option (List UInt8)} (h:xF w g r F n c) (hB:zB w b):b≠r:=fun e=>by
 obtain ⟨B,u,l,D,C,y,G,E,j,_⟩:=h
 obtain ⟨m,⟨z,c',hb,_⟩,_⟩:=hB
 subst e
 rw [hb] at j;cases j
end Go.Proofs.YthbmhkiphmcogaaGreatDoor
namespace Go.Proofs.YthbmhkiphmcogaaGreatDoor
open Proofs.Tryz Go.RowKit Go.Deep
attribute [local go_sem ↓] Go.wp_at_zero Go.wp_at_succ
def noF:List UInt8->Option Rat:=fun _=>none
def VV (rows:List zQ) (ws:Nat->Rat):Nat->List UInt8->Option Rat
 | 0=>noF
 | n+1=>if ws n=0 then VV rows ws n else V6 (ws n) (VV rows ws n) (rows.getD n default).terms
def Xh (rows:List zQ) (ws:Nat->Rat):Nat->Rat
 | 0=>0
 | n+1=>if ws n=0 then Xh rows ws n else Xh rows ws n+VT (rows.getD n default)*ws n
def nzF (F:List UInt8->Option Rat):List UInt8->Option Rat:=fun s=>if F s=some 0 then none else F s
def zdo (w:World) (v:Value) (n:Nat) (f:Nat->Rat):Prop:=∃ A c,v= .slice A n c/\(0<n->∃ g L,A=some ⟨g,0,none⟩/\n<=L/\xo w g L n f)
theorem zdo.chg {S:Nat->Prop} {w w' :World} {v:Value} {n:Nat} {f:Nat->Rat} (h:zdo w v n f) (hc:Chg S w w') (hg:∀ g cs,Blk w g 55 cs->¬ S g) (hS:∀ b,S b->zZ w b):zdo w' v n f:=by
 obtain ⟨A,c,e,h⟩:=h
 refine ⟨A,c,e,fun hn=>?_⟩
 obtain ⟨g,L,r,m,j⟩:=h hn
 obtain ⟨cs,l⟩:=j.heap
 exact ⟨g,L,r,m,j.chg hc (hg g cs l) hS⟩
theorem zdo.below {w w' :World} {v:Value} {n:Nat} {f:Nat->Rat} (h:zdo w v n f) (hb:Below w.heap.size w w'):zdo w' v n f:=h.chg (S:=fun _=>False) (Chg.of_below hb) (fun _ _ _ h=>h) (fun _ h=>h.elim)
structure zv9 (rows:List zQ) (ws:Nat->Rat):Prop where
 ok:∀ i,i<rows.length->ws i≠0->zwk (ws i) (Xh rows ws i) (VV rows ws i) (rows.getD i default)
 few:rows.length<=100000
structure SuS (w0 w:World) (b gs gm gR B n:Nat) (rv wv:Value) (rows:List zQ) (ws:Nat->Rat) (F:List UInt8->Option Rat) (q:Rat):Prop where
 book:zB w b
 map:Yi w gm F
 box:xp w gs gm q
 res:Blk w gR 94 #[.map none,.int .i64 0,.slice none 0 0,.bool false,.int .i64 0,.slice none 0 0,.bool false]
 rows:zT w B rv rows
 wts:zdo w wv n ws
 neb:gm≠b
 nes:gs≠gR
 hBm:B<=gm
 hBs:B<=gs
 chg:Chg (fun x=>x=b\/B<=x) w0 w
variable {w0 w w' :World} {b gs gm gR B n:Nat} {rv wv:Value} {rows:List zQ} {ws:Nat->Rat} {F:List UInt8->Option Rat} {q:Rat}
theorem SuS.below (h:SuS w0 w b gs gm gR B n rv wv rows ws F q) (hb:Below w.heap.size w w'):SuS w0 w' b gs gm gR B n rv wv rows ws F q:=by
 have e:=h.res
 exact ⟨h.book.below hb,h.map.below hb,h.box.below hb,e.below hb e.lt,h.rows.below hb,h.wts.below hb,h.neb,h.nes,h.hBm,h.hBs,yh h.chg hb⟩
theorem xp.blk {gs gm:Nat} {q:Rat} (h:xp w gs gm q):∃ cs,Blk w gs 94 cs:=by
 obtain ⟨_,_,_,_,_,_,_,_,_,_,b,_⟩:=h
 exact ⟨_,b⟩
theorem SuS.add (h:SuS w0 w b gs gm gR B n rv wv rows ws F q) {F' :List UInt8->Option Rat} {q' :Rat} (hB:zB w' b) (hM:Yi w' gm F') (hS:xp w' gs gm q') (hc:Chg (fun x=>x=b\/x=gm\/x=gs) w w'):SuS w0 w' b gs gm gR B n rv wv rows ws F' q' :=by
 have l:=h.res
 obtain ⟨y,m⟩:=h.box.blk
 have r:∀ x,(x=b\/x=gm\/x=gs)->zZ w x:=by
  rintro x (rfl | rfl | rfl)
  . exact h.book.noDig
  . exact h.map.noDig
  . exact h.box.noDig
 refine ⟨hB,hM,hS,hc.blk l ?_,h.rows.chg hc ?_,h.wts.chg hc ?_ r,h.neb,h.nes,h.hBm,h.hBs,h.chg.trans hc ?_⟩
 . rintro (e | e | e)
   . exact h.book.neB l e.symm
   . exact h.map.ne l e.symm
   . exact h.nes e.symm
 . rintro x u (e | e | e)
   . subst e;exact h.book.noCells
   . have:=h.hBm;omega
   . have:=h.hBs;omega
 . rintro g cs j (e | e | e)
   . exact h.book.neB j e.symm
   . exact h.map.ne j e.symm
   . subst e;exact yX j m (by decide) rfl
 . rintro x u (e | e | e)
   . exact .inl e
   . subst e;exact .inr h.hBm
   . subst e;exact .inr h.hBs
theorem xp.chg {S:Nat->Prop} {gs gm:Nat} {q:Rat} (h:xp w gs gm q) (hc:Chg S w w') (hg:¬ S gs) (hS:∀ x,S x->zZ w x):xp w' gs gm q:=by
 obtain ⟨_,_,_,_,_,_,_,_,_,_,b,e⟩:=h
 exact ⟨_,_,_,_,_,_,_,_,_,_,hc.blk b hg,hc.rat e hS⟩
structure SuT (w0 w:World) (b gs gm gR B r n:Nat) (F:List UInt8->Option Rat) (q:Rat) (cur:Option (List UInt8)):Prop where
 book:zB w b
 rng:xF w gm r F n cur
 box:xp w gs gm q
 res:Blk w gR 94 #[.map none,.int .i64 0,.slice none 0 0,.bool false,.int .i64 0,.slice none 0 0,.bool false]
 neb:gm≠b
 nes:gs≠gR
 hBm:B<=gm
 hBr:B<=r
 chg:Chg (fun x=>x=b\/B<=x) w0 w
theorem SuT.below {r n:Nat} {cur:Option (List UInt8)} (h:SuT w0 w b gs gm gR B r n F q cur) (hb:Below w.heap.size w w'):SuT w0 w' b gs gm gR B r n F q cur:=by
 have e:=h.res
 exact ⟨h.book.below hb,h.rng.below hb,h.box.below hb,e.below hb e.lt,h.neb,h.nes,h.hBm,h.hBr,yh h.chg hb⟩
theorem SuT.turn {r n n' x:Nat} {cur cur' :Option (List UInt8)} {F' :List UInt8->Option Rat} (h:SuT w0 w b gs gm gR B r n F q cur) (hx:x=r\/x=gm) (hc:Chg (· =x) w w') (hr:xF w' gm r F' n' cur'):SuT w0 w' b gs gm gR B r n' F' q cur' :=by
 have u:=h.res
 obtain ⟨C,z⟩:=h.box.blk
 have m:∀ y,y=x->zZ w y:=by
  rintro y rfl
  rcases hx with rfl | rfl
  . exact h.rng.noDigR
  . exact h.rng.map.noDig
 have j:∀ g t cs,Blk w g t cs->¬ g=x:=by
  rintro g t cs l rfl
  rcases hx with e | e
  . exact h.rng.neR l e.symm
  . exact h.rng.map.ne l e.symm
 refine ⟨h.book.chg hc ?_ m,hr,h.box.chg hc (j _ _ _ z) m,hc.blk u (j _ _ _ u),h.neb,h.nes,h.hBm,h.hBr,h.chg.trans hc ?_⟩
 . rcases hx with rfl | rfl
   . exact h.rng.neB h.book
   . exact fun e=>h.neb e.symm
 rintro y _ rfl
 rcases hx with rfl | rfl
 . exact .inr h.hBr
 . exact .inr h.hBm
theorem SuT.stays {r n:Nat} {s:List UInt8} (h:SuT w0 w b gs gm gR B r n F q (some s)) (hq:F s≠some 0):SuT w0 w b gs gm gR B r n F q none:=
 ⟨h.book,h.rng.stays hq,h.box,h.res,h.neb,h.nes,h.hBm,h.hBr,h.chg⟩
theorem SuS.range {r k:Nat} (h:SuS w0 w b gs gm gR B n rv wv rows ws F q) (hr:xF w' gm r F k none) (hb:Below w.heap.size w w') (hBr:B<=r):SuT w0 w' b gs gm gR B r k F q none:=
 have e :=h.below hb
 ⟨e.book,hr,e.box,e.res,e.neb,e.nes,e.hBm,hBr,e.chg⟩
def SuqR (w0:World) (b gs gm gR B r:Nat) (F:List UInt8->Option Rat) (q:Rat) (_:Value) (wr:World):Prop:=
 ∃ F' n,Hid (SuT w0 wr b gs gm gR B r n F' q none)/\Hid (∀ s,F' s=F s\/(F' s=none/\F s=some 0))
theorem zwl {F F' :List UInt8->Option Rat} (h:∀ s,F' s=F s\/(F' s=none/\F s=some 0)) (h0:∀ s,F' s≠some 0):F' =nzF F:=by
 funext s
 unfold nzF
 rcases h s with e | ⟨e,b⟩
 . rw [if_neg (fun h=>h0 s (e.trans h)),e]
 . rw [if_pos b,e]
def World.sc7 (w:World) (g:Nat) (m:Option Nat) (x:Int) (A:Option Addr) (k c:Nat) (s:Bool) (y:Int) (C:Option Addr) (k' c' :Nat) (t:Bool):World:=World.rat1 (w.setCell ⟨g,0,none⟩ (.map m)) g x A k c s y C k' c' t
theorem zoc {g:Nat} {m:Option Nat} {x:Int} {A:Option Addr} {k c:Nat} {s:Bool} {y:Int} {C:Option Addr} {k' c' :Nat} {t:Bool}:Chg (· =g) w (World.sc7 w g m x A k c s y C k' c' t):=by
 have e:Chg (· =g) w (w.setCell ⟨g,0,none⟩ (.map m)):=by
  apply Chg.setCell (S:=fun b=>b=g) ?_ (by rfl)
  exact Chg.refl w
 exact vm e zfx
theorem zpl {g:Nat} {m:Option Nat} {x:Int} {A:Option Addr} {k c:Nat} {s:Bool} {y:Int} {C:Option Addr} {k' c' :Nat} {t:Bool} (h:Blk w g 94 #[.map none,.int .i64 0,.slice none 0 0,.bool false,.int .i64 0,.slice none 0 0,.bool false]):Blk (World.sc7 w g m x A k c s y C k' c' t) g 94 #[.map m,.int .i64 x,.slice A k c,.bool s,.int .i64 y,.slice C k' c',.bool t]:=
 ((((((h.set_ 0 _).set_ 1 _).set_ 2 _).set_ 3 _).set_ 4 _).set_ 5 _).set_ 6 _
def SusR (w0:World) (b gs gm gR B n:Nat) (rv wv:Value) (rows:List zQ) (ws:Nat->Rat) (kv:Value) (wr:World):Prop:=
 ∃ k:Nat,k<=rows.length/\kv= .int .i64 k/\Hid (SuS w0 wr b gs gm gR B n rv wv rows ws (VV rows ws k) (Xh rows ws k))
def zv4 (w:World) (b B:Nat) (F:List UInt8->Option Rat) (q:Rat) (e:Ending) (w' :World):Prop:=
 ∃ (gm:Nat) (x:Int) (A:Option Addr) (k c:Nat) (s:Bool) (y:Int) (C:Option Addr) (k' c' :Nat) (t:Bool),e= .returned (.agg #[.map (some gm),.int .i64 x,.slice A k c,.bool s,.int .i64 y,.slice C k' c',.bool t])/\yc w' (.agg #[.int .i64 x,.slice A k c,.bool s,.int .i64 y,.slice C k' c',.bool t]) q/\Yi w' gm F/\gm≠b/\B<=gm/\zB w' b/\Chg (fun x=>x=b\/B<=x) w w'
set_option maxRecDepth 100000 in
set_option maxHeartbeats 8000000 in
theorem zp8 (b:Nat) (A:Option Addr) (n c:Nat) (wv:Value) (rows:List zQ) (ws:Nat->Rat) (w:World) (hB:zB w b) (hr:yN w (.slice A n c) rows) (hw:zdo w wv rows.length ws) (ho:zv9 rows ws):
 Calls Tryz.prog 39 #[.map (some b),.slice A n c,wv] w (zv4 w b w.heap.size (nzF (VV rows ws rows.length)) (Xh rows ws rows.length)):=by
 obtain rfl:=hr.len
 obtain ⟨AW,cW,rfl,aY⟩:=id hw
 have HO:=ze ho
 clear aY ho
 obtain ⟨W,hW⟩:∃ W,W=(w.alloc (.cells #[.map none,.int .i64 0,.slice none 0 0,.bool false,.int .i64 0,.slice none 0 0,.bool false] 94)).alloc (.map #[] 0):=⟨_,rfl⟩
 have l:=ext (zf w (.cells #[.map none,.int .i64 0,.slice none 0 0,.bool false,.int .i64 0,.slice none 0 0,.bool false] 94)) (zf (w.alloc (.cells #[.map none,.int .i64 0,.slice none 0 0,.bool false,.int .i64 0,.slice none 0 0,.bool false] 94)) (.map #[] 0))
 have av:=(Blk.new w 94 #[.map none,.int .i64 0,.slice none 0 0,.bool false,.int .i64 0,.slice none 0 0,.bool false]).alloc (.map #[] 0)
 have ag:=Yi.new (w.alloc (.cells #[.map none,.int .i64 0,.slice none 0 0,.bool false,.int .i64 0,.slice none 0 0,.bool false] 94))
 simp only [World.size_alloc] at ag
 rw [<- hW] at l av ag
 have HM:=ze ag
 have HK:=ze av
 have HB:=ze (hB.below l)
 have HR:=ze (zT.below hr l)
 have HW:=ze (hw.below l)
 have HZ:=ze l
 have a7:=ze hB.lt
 clear hB hr hw l av ag
 have a9:=@run_makeMap Tryz.prog
 go_enter func39,ntmps39
 go_upto_region 1 with fail
 go_wp2_with fail
 rw [<- hW]
 clear hW a9
 refine (YC 0 W (by omega) (by omega)).mono ?_
 rintro e w1 ⟨v,rfl,U,aq⟩
 obtain ⟨x9,A9,k9,c9,s9,y9,B9,au,aw,t9,rfl⟩:=U.agg
 have D:=zf w1 (.cells #[.map (some (w.heap.size+1)),.int .i64 x9,.slice A9 k9 c9,.bool s9,.int .i64 y9,.slice B9 au aw,.bool t9] 94)
 have O:=ext aq D
 have j:Hid (SuS w (w1.alloc (.cells #[.map (some (w.heap.size+1)),.int .i64 x9,.slice A9 k9 c9,.bool s9,.int .i64 y9,.slice B9 au aw,.bool t9] 94)) b w1.heap.size (w.heap.size+1) w.heap.size w.heap.size rows.length (.slice A rows.length c) (.slice AW rows.length cW) rows ws (VV rows ws 0) (Xh rows ws 0)):=by
  have hl:=aq.size
  have bg:=HZ.o.size
  have bh:=HK.o.lt
  refine ⟨HB.o.below O,HM.o.below O,⟨_,_,_,_,_,_,_,_,_,_,Blk.new w1 _ _,(show yc w1 _ (((0:Int):Rat)) from U).below D⟩,HK.o.below O HK.o.lt,zT.below HR.o O,HW.o.below O,by have:=a7.o;omega,by omega,by omega,by omega,Chg.of_below (ext HZ.o O)⟩
 clear HM HK HB HR HW HZ D O U aq
 go_upto_region 2 with fail
 generalize w1.alloc (.cells #[.map (some (w.heap.size+1)),.int .i64 x9,.slice A9 k9 c9,.bool s9,.int .i64 y9,.slice B9 au aw,.bool t9] 94)=W1 at j |-
 generalize w1.heap.size=gs at j |-
 go_wp2_with fail
 go_loopw [17] (SusR w b gs (w.heap.size+1) w.heap.size w.heap.size rows.length (.slice A rows.length c) (.slice AW rows.length cW) rows ws) (fun kv _=>rows.length - (intOf kv).toNat)
 case atStart=>exact ⟨0,Nat.zero_le _,rfl,j⟩
 case round=>
  clear j
  obtain ⟨k,hk,rfl,j⟩:=hrel
  by_cases aj:k<rows.length
  . have be:(k:Int)<(rows.length:Int):=by omega
    obtain ⟨ad,AT,nt,Z,eA,bb,p0,p1,ht,aW⟩:=j.o.rows.at_ aj;subst eA;obtain ⟨A',c',e,az⟩:=j.o.wts;injection e with e1 e2 e3
    subst e1;obtain ⟨Y,L,e4,bi,aS⟩:=az (by omega);subst e4;have G:=ze aS;have F:=ze ht;have D:=zf wr (.cells #[.slice AT nt Z,str rows[k].bound] 33);have X:=ze (Blk.new wr 33 #[.slice AT nt Z,str rows[k].bound]);replace j:=ze (j.o.below D);replace G:=ze (G.o.below D);replace F:=ze (zk.below F.o D);clear ht aW aS D e2 e3 az
    go_upto_region 5 with fail
    clear p0 p1 bb;generalize wr.alloc (.cells #[.slice AT nt Z,str rows[k].bound] 33)=W2 at X G F j |-;generalize wr.heap.size=gt at X |-;obtain ⟨x,A,n,c,s,y,B,n',c',t,c0,c1,c2,c3,M,c5,hq⟩:=(G.o.2 k (by omega)).cells;have Q:=ze hq;clear hq;go_wp2_with fail;refine (Yg _ (ws k) _ Q.o).mono ?_;rintro e w3 ⟨rfl,aa⟩;clear c0 c1 c2 c3 M c5 Q;replace j:=ze (j.o.below aa);replace G:=ze (G.o.below aa);replace F:=ze (zk.below F.o aa);replace X:=kb_ X aa;clear aa
    by_cases l:ws k=0
    . have ac:ze1 (ws k) 0=0:=by rw [l];rfl
      have ab:VV rows ws (k+1)=VV rows ws k/\Xh rows ws (k+1)=Xh rows ws k:=⟨by rw [VV,if_pos l],by rw [Xh,if_pos l]⟩;have ae:=ze ab;clear l ab X G F;rw [ac];clear ac;have bc:IntKind.i64.wrap ((k:Int)+1)=((k+1:Nat):Int):=by rw [IntKind.wrap_i64];have:=HO.o.few;omega
      go_wp2_with fail;go_roundw
      case rel=>exact ⟨k+1,by omega,by go_num,by rw [ae.o.1,ae.o.2];exact j⟩
      case measure=>simp [intOf];omega
    obtain ⟨σ,N⟩:∃ σ,σ=ze1 (ws k) 0:=⟨_,rfl⟩
    have aB:¬ σ=0:=fun e=>l (by
     have:=zhr (ws k);rw [<- N,e] at this
     simpa using this.symm)
    rw [<- N];clear N;have hd:rows.getD k default=rows[k]:=by simp [List.getD,List.getElem?_eq_getElem aj]
    have ab:VV rows ws (k+1)=V6 (ws k) (VV rows ws k) rows[k].terms/\Xh rows ws (k+1)=Xh rows ws k+VT rows[k]*ws k:=⟨by rw [VV,if_neg l,hd],by rw [Xh,if_neg l,hd]⟩;have ar:=HO.o.ok k aj l;rw [hd] at ar;have aU:=ze ar;have ae:=ze ab;clear l ab ar hd
    go_upto_region 6 with fail
    clear aB;obtain ⟨x,A,n,c,s,y,B,n',c',t,c0,c1,c2,c3,M,c5,hq⟩:=(G.o.2 k (by omega)).cells;have Q:=ze hq;have E:=G.o.lt;obtain ⟨r0,r1,rL⟩:=zxb X.o;clear hq;refine zJ (S:=fun w' =>Hid (Below w3.heap.size w3 w')/\w'.cell? ⟨gt,0,none⟩=some (.slice AT nt Z)/\w'.cell? ⟨gt,1,none⟩=some (str rows[k].bound)/\w'.cell? ⟨Y,k*6,none⟩=some (.int .i64 x)/\w'.cell? ⟨Y,k*6+1,none⟩=some (.slice A n c)/\w'.cell? ⟨Y,k*6+2,none⟩=some (.bool s)/\w'.cell? ⟨Y,k*6+3,none⟩=some (.int .i64 y)/\w'.cell? ⟨Y,k*6+4,none⟩=some (.slice B n' c')/\w'.cell? ⟨Y,k*6+5,none⟩=some (.bool t)) 6 (by kernel_rfl) (by kernel_rfl) (zl (zu w3) (fun hB=>⟨zh hB rL r0,zh hB rL r1,zh hB E c0,zh hB E c1,zh hB E c2,zh hB E c3,zh hB E M,zh hB E c5⟩)) (fun hHeld=>?_);refine HH.tk 0 ?_;refine HH.tk 1 ?_;refine HH.tk 2 ?_;refine HH.tk 3 ?_;refine HH.tk 4 ?_;refine HH.tk 5 ?_;have af:=(hHeld.1).out;replace j:=ze (j.o.below af);replace F:=ze (zk.below F.o af);replace Q:=ze (Q.o.below af);clear af hHeld;refine HH.done (by kernel_rfl) ?_
    simp only [List.drop_succ_cons,List.drop_zero];clear c0 c1 c2 c3 M c5 E r0 r1 rL G X;go_wp2_with fail;refine (zmf b gs (w.heap.size+1) AT nt Z rows[k] _ (ws k) (Xh rows ws k) (VV rows ws k) _ j.o.book j.o.map j.o.box j.o.neb Q.o (zk.more F.o j.o.chg.size) aU.o).mono ?_;rintro e w5 ⟨rfl,aN,aG,aC,aQ⟩;replace j:=ze (j.o.add aN aG aC aQ);clear aN aG aC aQ F Q aU;have bc:IntKind.i64.wrap ((k:Int)+1)=((k+1:Nat):Int):=by rw [IntKind.wrap_i64];have:=HO.o.few;omega
    go_wp2_with fail;go_roundw
    case rel=>exact ⟨k+1,by omega,by go_num,by rw [ae.o.1,ae.o.2];exact j⟩
    case measure=>simp [intOf];omega
  obtain rfl:rows.length=k:=by omega
  obtain ⟨g0,E⟩:=j.o.box.map;obtain ⟨w5,n5,aV,aL,ay,ba⟩:=j.o.map.range (P:=Tryz.prog) YE;have ak:=ze (j.o.range aL ay j.o.chg.size);clear aL ay ba j;go_wp2_with fail
  try go_frame
  clear aV g0 E;generalize wr.heap.size=r at ak |-
  go_loopw [10] (SuqR w b gs (w.heap.size+1) w.heap.size w.heap.size r (VV rows ws rows.length) (Xh rows ws rows.length)) (fun _ wr=>wr.rangeLeft (w.heap.size+1) r)
  case atStart=>exact ⟨_,n5,ak,ze (fun s=>.inl rfl)⟩
  case round=>
   clear ak;obtain ⟨F',n',j,HF⟩:=hrel
   rcases (j.o.rng).next (P:=Tryz.prog) (ty:=0) with ⟨rfl,aD⟩ | ⟨s0,v0,q1,w6,n6,aD,a8,aE,U,aJ,aI,aP⟩
   . obtain ⟨hM,aF⟩:=j.o.rng.over
     have HM:Hid (Yi _ (w.heap.size+1) (nzF (VV rows ws rows.length))):=ze (by rw [<- zwl HF.o aF];exact hM);obtain ⟨x4,A4,k4,M,s4,y4,B4,an,ap,t4,K,aK⟩:=j.o.box;have aZ:=ze aK;have o0:=K.cell 0;have o1:=K.cell 1;have o2:=K.cell 2;have o3:=K.cell 3;have o4:=K.cell 4;have o5:=K.cell 5;have o6:=K.cell 6;have u:=j.o.res;have a0:=u.cell 0;have a1:=u.cell 1;have a2:=u.cell 2;have a3:=u.cell 3;have a4:=u.cell 4;have a5:=u.cell 5;have a6:=u.cell 6;have f0:=u.frozen 0;have f1:=u.frozen 1;have f2:=u.frozen 2;have f3:=u.frozen 3;have f4:=u.frozen 4;have f5:=u.frozen 5;have f6:=u.frozen 6;simp at o0 o1 o2 o3 o4 o5 o6 a0 a1 a2 a3 a4 a5 a6;have ah:=ze u;clear K aK u hM aF HF;go_wp2_with fail;have R:=zpl (w:=wr) (m:=some (w.heap.size+1)) (x:=x4) (A:=A4) (k:=k4) (c:=M) (s:=s4) (y:=y4) (C:=B4) (k' :=an) (c' :=ap) (t:=t4) ah.o;have e0:=R.cell 0;have e1:=R.cell 1;have e2:=R.cell 2;have e3:=R.cell 3;have e4:=R.cell 4;have e5:=R.cell 5
     have e6:=R.cell 6;simp only [World.sc7,World.rat1] at e0 e1 e2 e3 e4 e5 e6;simp at e0 e1 e2 e3 e4 e5 e6;refine bodyPost_ret (v:=.agg #[.map (some (w.heap.size+1)),.int .i64 x4,.slice A4 k4 M,.bool s4,.int .i64 y4,.slice B4 an ap,.bool t4]) (by simp [results,results39,go_sem,e0,e1,e2,e3,e4,e5,e6]) rfl ?_;have V:Chg (· =w.heap.size) wr (World.sc7 wr w.heap.size (some (w.heap.size+1)) x4 A4 k4 M s4 y4 B4 an ap t4):=zoc;have am:∀ z,z=w.heap.size->zZ wr z:=fun z e=>by subst e;exact ah.o.noDig (zf6 _ _ _ _ _ _ _ _ _ _ _)
     exact ⟨_,_,_,_,_,_,_,_,_,_,_,rfl,V.rat aZ.o am,HM.o.chg V (HM.o.ne ah.o) am,j.o.neb,j.o.hBm,j.o.book.chg V (j.o.book.neB ah.o) am,j.o.chg.trans (S:=fun x=>x=b\/w.heap.size<=x) (T:=fun x=>x=w.heap.size) V (fun x _ h=>.inr (Nat.le_of_eq h.symm))⟩
   . obtain ⟨x1,A1,k1,c1,s1,y1,B1,al,ao,t1,rfl⟩:=U.agg
     have aO:=ze (j.o.turn (.inl rfl) aP aJ);have D:=zf w6 (.cells #[.int .i64 x1,.slice A1 k1 c1,.bool s1,.int .i64 y1,.slice B1 al ao,.bool t1] 55);have J:=ze (Blk.new w6 55 #[.int .i64 x1,.slice A1 k1 c1,.bool s1,.int .i64 y1,.slice B1 al ao,.bool t1]);have I:=ze (aO.o.below D);have ai:=ze (U.below D);have ax:=ze aE;have aT:=ze aI;clear D U aJ aP aO aE aI
     go_upto_region 11 with fail
     clear aD a8;generalize w6.alloc (.cells #[.int .i64 x1,.slice A1 k1 c1,.bool s1,.int .i64 y1,.slice B1 al ao,.bool t1] 55)=W7 at J I ai |-;generalize w6.heap.size=gx at J |-;have r0:=J.o.cell 0;have r1:=J.o.cell 1;have r2:=J.o.cell 2;have r3:=J.o.cell 3;have r4:=J.o.cell 4;have r5:=J.o.cell 5;simp at r0 r1 r2 r3 r4 r5;go_wp2_with fail;refine (Yg _ q1 _ ai.o).mono ?_;rintro e w8 ⟨rfl,aM⟩;replace I:=ze (I.o.below aM);clear aM r0 r1 r2 r3 r4 r5 J ai
     by_cases l:q1=0
     rotate_left
     . obtain ⟨σ,N⟩:∃ σ,σ=ze1 q1 0:=⟨_,rfl⟩
       have aB:¬ σ=0:=fun e=>l (by
        have:=zhr q1;rw [<- N,e] at this
        simpa using this.symm)
       rw [<- N];replace I:=ze (I.o.stays (fun e=>l (by rw [ax.o] at e;injection e)));clear N l;go_wp2_with fail;go_roundw
       case rel=>exact ⟨_,n6,I,HF⟩
       case measure=>rw [I.o.rng.left_eq,j.o.rng.left_eq];exact aT.o
     have ac:ze1 q1 0=0:=by rw [l];rfl
     rw [ac];obtain ⟨g0,E⟩:=I.o.box.map;obtain ⟨w9,n9,bf,aA,aR,V⟩:=I.o.rng.drop (P:=Tryz.prog) (ty:=0) YE Vv;have aH:=ze (I.o.turn (.inr rfl) V aA);have bd:=ze aR
     have aX:Hid (∀ s,ztw F' s0 s=VV rows ws rows.length s\/(ztw F' s0 s=none/\VV rows ws rows.length s=some 0)):=ze (fun s=>by
      have h1:=HF.o s;unfold ztw
      by_cases e:s=s0
      . subst e
        rw [if_pos rfl]
        rcases h1 with h1 | ⟨h1,h2⟩
        . exact .inr ⟨rfl,by rw [<- h1,ax.o,l]⟩
        . exact .inr ⟨rfl,h2⟩
      . rw [if_neg e];exact h1)
     clear aA V aR l ac E;go_wp2_with fail;go_roundw
     case rel=>exact ⟨_,n9,aH,aX⟩
     case measure=>rw [aH.o.rng.left_eq,j.o.rng.left_eq];have:=aT.o;have:=bd.o;omega
end Go.Proofs.YthbmhkiphmcogaaGreatDoor
namespace Go.Proofs.YthbmhkiphmcogaaGreatDoor
open Proofs.Tryz Go.RowKit Go.Deep Go.Maps Go.Sort
open Go.WideElems (rd rg rd_mk rg_of)
open Go.WideShapes (sorted_perm)
attribute [local go_sem ↓] Go.wp_at_zero Go.wp_at_succ
theorem zgb:∀ {l ns:List (List UInt8)},l.Nodup->(∀ x∈l,x∈ns)->l.length<=ns.length
 | [],_,_,_=>Nat.zero_le _
 | a :: l,ns,hn,h=>by
   rw [List.nodup_cons] at hn;have b:=h a List.mem_cons_self;have j:=zgb (l:=l) (ns:=ns.erase a) hn.2 (fun x hx=>(List.mem_erase_of_ne (fun e=>hn.1 (by rw [<- e];exact hx))).2 (h x (List.mem_cons_of_mem _ hx)));rw [List.length_erase_of_mem b] at j;have:=List.length_pos_of_mem b;rw [List.length_cons]
   omega
def zlc:Value->Option (DataW Unit×List MemPlace):=fun _=>some (.lit (.bool true),[])
theorem zoe {a b:List UInt8} (h:str a=str b):a=b:=zqa h
theorem Yi.owns {w:World} {g:Nat} {F:List UInt8->Option Rat} {ns:List (List UInt8)} (h:Yi w g F) (hns:∀ s,(F s).isSome=true->s∈ns) (hl:ns.length<=100000) (hs:∀ s∈ns,zN s):
 ∃ n D0 ks,w.ownsMap Tryz.prog 9 zlc g n D0/\Maps.size D0<=100000/\(strKeys D0).Perm ks/\ks.Nodup/\∀ x,x∈ks↔(F x).isSome=true:=by
 obtain ⟨D,⟨b,E,hb,u,U,J⟩,r,hF⟩:=h
 have y:∀ x,x∈D.map (·.1)↔(F x).isSome=true:=fun x=>by
  have:=hF x
  constructor
  . intro l
    obtain ⟨p,N,rfl⟩:=List.mem_map.1 l;rw [XH (v:=p.2) r N] at this;obtain ⟨q,K,_⟩:=this;rw [K];rfl
  intro l
  cases hg:za6 x D with
  | none=>rw [hg] at this;rw [this] at l;cases l
  | some v=>exact List.mem_map.2 ⟨_,zfr hg,rfl⟩
 have B:∀ e∈b.toList,∃ s,e.key=str s/\s∈D.map (·.1)/\rd Tryz.prog 9 zlc e=some (.string s,.lit (.bool true)):=fun e he' =>by
  obtain ⟨s,j,m⟩:=zbx u he'
  have G:s∈D.map (·.1):=List.mem_map.2 ⟨_,m,rfl⟩
  refine ⟨s,j,G,?_⟩
  have L:keyOf Tryz.prog 9 (str s)=some (.string s):=WideMaps.keyOf_string_mk underlying9 (by
   show s.toArray.size<=maxLen
   rw [List.size_toArray];have:=hs s (hns s ((y s).1 G));unfold zN at this
   unfold maxLen;omega)
  have:=rd_mk (P:=Tryz.prog) (k:=9) (R:=zlc) (born:=e.born) (val:=e.val) L rfl
  rw [<- j] at this
  exact this
 have M:b.size=D.length:=by have:=congrArg List.length u;simpa [XW] using this
 have X:D.length<=100000:=by
  have j:(D.map (·.1)).length<=ns.length:=zgb r (fun x l=>hns x ((y x).1 l))
  rw [List.length_map] at j
  omega
 have I:(b.toList.map (·.key)).Nodup:=by
  have j:b.toList.map (·.key)=D.map (fun p=>str p.1):=by
   have:=congrArg (List.map Prod.fst) u;unfold XW at this;rw [List.map_map,List.map_map] at this;exact this
  rw [j]
  have m:D.map (fun p=>str p.1)=(D.map (·.1)).map str:=by rw [List.map_map];rfl
  rw [m]
  refine List.pairwise_map.2 (r.imp (fun hne e=>hne (zoe e)))
 have T:Go.WideElems.Fit (H:=Unit) Tryz.prog 9 zlc b E:=⟨by rw [M];unfold maxLen;omega,⟨J,U,I⟩,fun x l=>by obtain ⟨s,_,_,z⟩:=B x l;exact ⟨_,z⟩⟩
 have C:w.ownsMap Tryz.prog 9 zlc g b.size (.map ((b.toList.map (rg Tryz.prog 9 zlc)).foldr DataW.insert [])):=⟨b,E,hb,T,Nat.le_refl _,rfl⟩
 refine ⟨b.size,_,D.map (·.1),C,?_,?_,r,y⟩
 . have:=C.size_le;omega
 have j:(strKeys (.map ((b.toList.map (rg Tryz.prog 9 zlc)).foldr DataW.insert []))).Perm ((b.toList.map (rg Tryz.prog 9 zlc)).map fun p=>strOf p.1):=(sorted_perm _).map _
 have m:((b.toList.map (rg Tryz.prog 9 zlc)).map fun p=>strOf p.1)=D.map (·.1):=by
  have z:(b.toList.map (rg Tryz.prog 9 zlc)).map (fun p=>strOf p.1)=b.toList.map (fun e=>strOf (rg Tryz.prog 9 zlc e).1):=by simp only [List.map_map,Function.comp_def]
  rw [z]
  have Q:b.toList.map (fun e=>str (strOf (rg Tryz.prog 9 zlc e).1))=D.map (fun p=>str p.1):=by
   have:=congrArg (List.map Prod.fst) u;unfold XW at this;rw [List.map_map,List.map_map] at this;rw [<- show List.map (Prod.fst ∘ fun p=>(str p.1,p.2)) D=D.map (fun p=>str p.1) from rfl, <- this];refine List.map_congr_left (fun e he' =>?_);obtain ⟨s,V,_,S⟩:=B e he';rw [rg_of S];exact V.symm
  have O:(b.toList.map (fun e=>strOf (rg Tryz.prog 9 zlc e).1)).map str=(D.map (·.1)).map str:=by simp only [List.map_map,Function.comp_def];exact Q
  exact (List.map_inj_right (fun _ _ e=>zoe e)).1 O
 rw [<- m];exact j
def zk5 (l:List (List UInt8)) (F:List UInt8->Option Rat):Prop:=zns l/\∀ x,x∈l↔(F x).isSome=true
end Go.Proofs.YthbmhkiphmcogaaGreatDoor
