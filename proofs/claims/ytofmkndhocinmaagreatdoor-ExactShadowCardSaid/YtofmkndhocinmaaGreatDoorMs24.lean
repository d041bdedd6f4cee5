/- Parts of the proof. -/
import Derived.Maps.RangeWalk
import Derived.Test.YtofmkndhocinmaaGreatDoorMs23
set_option linter.all false
namespace Go.Proofs.YtofmkndhocinmaaGreatDoor
open Proofs.Tryz Go.RowKit Go.Deep
open Go.ChangeMaps (setBlock)
theorem YF {s:List UInt8} {v:Value}:∀ {D:List (List UInt8×Value)},(D.map (·.1)).Nodup->(s,v)∈D->Vp s D=some v
 | [],_,h=>by cases h
 | p :: D,hn,h=>by
   rw [List.map_cons,List.nodup_cons] at hn;rw [vN]
   rcases List.mem_cons.1 h with rfl | h
   . rw [if_pos rfl]
   . rw [if_neg (fun e=>hn.1 (List.mem_map.2 ⟨(s,v),h,e.symm⟩))]
     exact YF hn.2 h
def zol (s:List UInt8) (D:List (List UInt8×Value)):List (List UInt8×Value):=match Vs s D 0 with
 | none=>D
 | some p=>D.eraseIdx p.1
theorem zm9 (s:List UInt8) (p:List UInt8×Value) (D:List (List UInt8×Value)):zol s (p :: D)=if p.1=s then D else p :: zol s D:=by
 unfold zol
 conv=>lhs;unfold Vs
 by_cases h:p.1=s
 . rw [if_pos h,if_pos h];rfl
 rw [if_neg h,if_neg h,XY s D 1]
 cases Vs s D 0 with
 | none=>rfl
 | some q=>rfl
theorem zoa {s:List UInt8} {D:List (List UInt8×Value)} (h:s ∉ D.map (·.1)):Vp s D=none:=by
 unfold Vp
 rw [ze4.2 (fun p hp e=>h (List.mem_map.2 ⟨p,hp,e⟩))]
 rfl
theorem zei (s:List UInt8):∀ {D:List (List UInt8×Value)},(D.map (·.1)).Nodup->∀ s',Vp s' (zol s D)=if s' =s then none else Vp s' D
 | [],_,s' =>by by_cases h:s' =s<;>simp [zol,Vs,Vp,h]
 | p :: D,hn,s' =>by
   rw [List.map_cons,List.nodup_cons] at hn;rw [zm9]
   by_cases h:p.1=s
   . rw [if_pos h]
     by_cases e:s' =s
     . subst e;rw [if_pos rfl];exact zoa (h ▸ hn.1)
     rw [if_neg e,vN,if_neg (fun k=>e (k.symm.trans h))]
   rw [if_neg h,vN,zei s hn.2 s',vN]
   by_cases e:s' =s
   . rw [if_pos e,if_pos e,if_neg (fun k=>h (k.trans e))]
   rw [if_neg e,if_neg e]
theorem zfy (s:List UInt8) (D:List (List UInt8×Value)) (hn:(D.map (·.1)).Nodup):((zol s D).map (·.1)).Nodup:=by
 unfold zol
 split
 . exact hn
 exact hn.sublist ((List.eraseIdx_sublist _ _).map _)
def zrm (F:List UInt8->Option Rat) (s:List UInt8):List UInt8->Option Rat:=fun t=>if t=s then none else F t
def xe (w:World) (g r:Nat) (F:List UInt8->Option Rat) (n:Nat) (cur:Option (List UInt8)):Prop:=
 ∃ es clock seen D,w.heap[g]?=some (.map es clock)/\es.toList.map (fun e=>(e.key,e.val))=YR D/\(es.toList.map (·.born)).Nodup/\(∀ e∈es.toList,e.born<clock)/\w.heap[r]?=some (.mapIter (some g) clock seen clock)/\(D.map (·.1)).Nodup/\
  (∀ s,match Vp s D with | none=>F s=none | some v=>∃ q,F s=some q/\zE w v q)/\(∀ e∈es.toList,seen.contains e.born=true->∀ s,e.key=str s->cur≠some s->F s≠some 0)/\(leftOf es seen).size=n
theorem V2 {es:Array MapEntry} {D:List (List UInt8×Value)} (h:es.toList.map (fun e=>(e.key,e.val))=YR D) {e:MapEntry} (he:e∈es.toList):∃ s,e.key=str s/\(s,e.val)∈D:=by
 have b:(e.key,e.val)∈YR D:=by rw [<- h];exact List.mem_map.2 ⟨e,he,rfl⟩
 obtain ⟨p,j,l⟩:=List.mem_map.1 b
 injection l with e2 e3
 exact ⟨p.1,e2.symm,by rw [<- e3];exact j⟩
theorem zmw {a b:List UInt8} (h:str a=str b):a=b:=by
 injection h with h
 have:=congrArg (fun x:ByteArray=>x.data.toList) h
 simpa using this
theorem Z7.range {P:Program} {w:World} {g:Nat} {F:List UInt8->Option Rat} {t k e:TypeId} (ht:P.underlying t=some (.map k e)) (h:Z7 w g F):
 ∃ w' n,(Instr.range t (.map (some g))).run P w= .ok (.pointer (some ⟨w.heap.size,0,none⟩)) w' /\xe w' g w.heap.size F n none/\Below w.heap.size w w' /\w'.heap.size=w.heap.size+1:=by
 obtain ⟨D,⟨l,b,hb,r,E,C⟩,y,B⟩:=h
 have u:g<w.heap.size:=(Array.getElem?_eq_some_iff.1 hb).1
 have j:=zf w (.mapIter (some g) b #[] b)
 refine ⟨_,_,run_range_map w t k e g l b ht hb,⟨l,b,#[],D,(j.block g u).trans hb,r,E,C,heap_alloc_new w _,y,fun s=>?_,fun e _ h=>by simp at h,rfl⟩,j,by simp⟩
 have:=B s
 cases hg:Vp s D with
 | none=>rw [hg] at this;exact this
 | some v=>
   rw [hg] at this;obtain ⟨q,m,z⟩:=this;exact ⟨q,m,z.below j⟩
theorem zll {w:World} {g r:Nat} {es:Array MapEntry} {clock:Nat} {m:Option Nat} {s c:Nat} {seen:Array Nat} (h:w.heap[g]?=some (.map es clock)) (h' :w.heap[r]?=some (.mapIter m s seen c)):g≠r:=fun e=>by
 subst e;rw [h] at h';cases h'
theorem zdh {w:World} {r:Nat} {m:Option Nat} {s c:Nat} {seen:Array Nat} (h' :w.heap[r]?=some (.mapIter m s seen c)):zK w r:=by
 intro p b x e
 subst b
 simp [World.cell?,h'] at e
theorem Yn {w w1:World} {r:Nat} {o:Obj} (h:w1=w\/w1=w.drew):Chg (· =r) w (setBlock w1 r o):=by
 have j:w.grownBy (setBlock w1 r o) (some r):=by
  rcases h with rfl | rfl
  . exact ⟨rfl,rfl,rfl,by simp [setBlock],fun k hk hn=>by
     have b:r≠k:=fun e=>hn (by rw [e])
     simp [setBlock,b]⟩
  . exact ⟨rfl,rfl,rfl,by simp [setBlock],fun k hk hn=>by
     have b:r≠k:=fun e=>hn (by rw [e])
     show (w.heap.setIfInBounds r o)[k]?=w.heap[k]?
     simp [b]⟩
 exact Chg.of_grown j rfl
theorem xe.next {P:Program} {w:World} {g r n:Nat} {F:List UInt8->Option Rat} {ty:TypeId} (h:xe w g r F n none):
 (n=0/\(Instr.next (.pointer (some ⟨r,0,none⟩)) false ty).run P w= .ok (.tuple #[.bool false]) w)\/
 ∃ s v q w' n',(Instr.next (.pointer (some ⟨r,0,none⟩)) false ty).run P w= .ok (.tuple #[.bool true,str s,v]) w' /\(Instr.entry (.pointer (some ⟨r,0,none⟩))).run P w' = .ok (.tuple #[str s,v]) w' /\F s=some q/\zE w' v q/\xe w' g r F n' (some s)/\n' <n/\Chg (· =r) w w' :=by
 obtain ⟨m,b,j,D,B,R,G,S,E,M,hF,hz,hs⟩:=h
 have T:=zll B E
 rcases run_next_at (P:=P) w ty r g b b j m b E B S (uA) with ⟨X,J⟩ | ⟨e,C,w1,Q,J⟩
 . exact .inl ⟨hs.symm.trans X,J⟩
 . have K:=mem_left C
   obtain ⟨s,I,ab⟩:=V2 R K.1;have Y:=YF M ab;have O:=hF s;rw [Y] at O;obtain ⟨q,Z,hv⟩:=O;have y:Chg (· =r) w (setBlock w1 r (.mapIter (some g) b (j.push e.born) b)):=Yn Q;have hS:∀ z,z=r->zK w z:=fun z e=>by subst e;exact zdh E
   have L:(setBlock w1 r (.mapIter (some g) b (j.push e.born) b)).heap[r]?=some (.mapIter (some g) b (j.push e.born) b):=by
    have C:r<w1.heap.size:=by rcases Q with rfl | rfl<;>exact (Array.getElem?_eq_some_iff.1 E).1
    show (w1.heap.setIfInBounds r _)[r]?=_
    simp [C]
   have N:(setBlock w1 r (.mapIter (some g) b (j.push e.born) b)).heap[g]?=some (.map m b):=(y.block g (Array.getElem?_eq_some_iff.1 B).1 T).trans B;refine .inr ⟨s,e.val,q,_,_,by rw [J,I],?_,Z,y.rat hv hS,⟨m,b,j.push e.born,D,N,R,G,S,L,M,fun s' =>?_,fun x hx l s' hx' hcur=>?_,rfl⟩,?_,y⟩
   . rw [run_entry_at _ r g b j m b e L N K.1 G,I]
   . have:=hF s'
     split at this
     . exact this
     obtain ⟨q',aa,V⟩:=this
     exact ⟨q',aa,y.rat V hS⟩
   . rw [Array.contains_push,Bool.or_eq_true] at l
     rcases l with l | l
     . exact hz x hx l s' hx' (by simp)
     . exfalso
       have hb:x.born=e.born:=by first | exact eq_of_beq l | exact (eq_of_beq l).symm
       have U:x=e:=by
        have h1:=find_born e m.toList G K.1;have u:=find_born x m.toList G hx;rw [hb] at u;rw [h1] at u;injection u with u
        exact u.symm
       subst U;exact hcur (congrArg some (zmw (I.symm.trans hx')))
   . have:=left_shrinks m j e C
     omega
theorem xe.stays {w:World} {g r n:Nat} {F:List UInt8->Option Rat} {s:List UInt8} (h:xe w g r F n (some s)) (hq:F s≠some 0):xe w g r F n none:=by
 obtain ⟨m,y,u,D,B,b,l,C,j,E,hF,G,z⟩:=h
 refine ⟨m,y,u,D,B,b,l,C,j,E,hF,fun x hx hxs s' hx' _=>?_,z⟩
 by_cases e:s=s'
 . subst e;exact hq
 exact G x hx hxs s' hx' (fun h=>e (by injection h))
theorem xe.drop {P:Program} {w:World} {g r n:Nat} {F:List UInt8->Option Rat} {s:List UInt8} {t k e ty:TypeId} (ht:P.underlying t=some (.map k e)) (hk:P.underlying k=some .string) (h:xe w g r F n (some s)):
 ∃ w' n',(Builtin.delete_ #[t,k] ty #[.map (some g),str s]).run P w= .ok (.tuple #[]) w' /\xe w' g r (zrm F s) n' none/\n' <=n/\Chg (· =g) w w' :=by
 obtain ⟨b,y,u,D,m,G,hn,J,I,B,hF,Z,hs⟩:=h
 have V:=zll m I
 have C:=Yh s b.toList D 0 G
 have T:(Instr.checkKey b.isEmpty 10000 k (str s)).run P w= .ok () w:=MapKept.run_checkKey (k:=str s) hk (by simp [MapKept.IsKey]) b.isEmpty 9999
 have U:g<w.heap.size:=(Array.getElem?_eq_some_iff.1 m).1
 have hS:∀ z,z=g->zK w z:=fun z e=>by
  subst e
  intro p hp x J
  subst hp
  simp [World.cell?,m] at J
 have key:∀ j :Array MapEntry,j.toList.map (fun e=>(e.key,e.val))=YR (zol s D)->j.toList.Sublist b.toList->xe (setBlock w g (.map j y)) g r (zrm F s) (leftOf j u).size none:=by
  intro j O l
  have K:Chg (· =g) w (setBlock w g (.map j y)):=Yn (.inl rfl)
  refine ⟨j,y,u,zol s D,by simp [setBlock,U],O,hn.sublist (l.map _),fun x hx=>J x (l.subset hx),(K.block r (Array.getElem?_eq_some_iff.1 I).1 V.symm).trans I,zfy s D B,fun s' =>?_,fun x hx hxs s' hx' _=>?_,rfl⟩
  rotate_left
  . obtain ⟨s2,X,h3⟩:=V2 O hx
    obtain rfl:s2=s' :=zmw (X.symm.trans hx')
    have Q:s2≠s:=fun e=>by
     subst e;have L:=YF (zfy s2 D B) h3;rw [zei s2 B s2,if_pos rfl] at L
     cases L
    unfold zrm;rw [if_neg Q];exact Z x (l.subset hx) hxs s2 hx' (fun e=>Q (by injection e with e;exact e.symm))
  rw [zei s B s']
  unfold zrm
  by_cases e:s' =s
  . rw [if_pos e,if_pos e]
  rw [if_neg e,if_neg e]
  have:=hF s'
  split at this
  . exact this
  obtain ⟨q',aa,Y⟩:=this
  exact ⟨q',aa,K.rat Y hS⟩
 have S:∀ j :Array MapEntry,j.toList.Sublist b.toList->(leftOf j u).size<=n:=fun j l=>by
  rw [<- hs]
  unfold leftOf
  have R:∀ a:Array MapEntry,(a.filter fun e=> !u.contains e.born).size=(a.toList.filter fun e=> !u.contains e.born).length:=fun a=>by rw [<- Array.length_toList,Array.toList_filter]
  rw [R,R]
  exact (l.filter _).length_le
 have E:zol s D=match Vs s D 0 with | none=>D | some p=>D.eraseIdx p.1:=rfl
 cases hsk:Vs s D 0 with
 | none=>
   rw [hsk] at C E;refine ⟨setBlock w g (.map b y),_,?_,key b (by rw [E];exact G) (List.Sublist.refl _),S b (List.Sublist.refl _),Yn (.inl rfl)⟩
   simp [Builtin.delete_,run_underlying ht,MapKept.run_getObj_map m,T,MapKept.run_findKey hk C,MapKept.run_setObj_map _ m,Result.andThen,setBlock]
 | some p=>
   rw [hsk] at C E;have N:=zaq s D 0 p hsk;rw [Nat.sub_zero] at N;have ac:b.size=D.length:=by have:=congrArg List.length G;simpa [YR] using this
   have ab:p.1<D.length:=(List.getElem?_eq_some_iff.1 N.2).1
   have l:(b.eraseIdxIfInBounds p.1).toList=b.toList.eraseIdx p.1:=by
    unfold Array.eraseIdxIfInBounds;rw [dif_pos (by omega)]
    simp
   have M:(b.eraseIdxIfInBounds p.1).toList.Sublist b.toList:=by rw [l];exact List.eraseIdx_sublist _ _
   refine ⟨setBlock w g (.map (b.eraseIdxIfInBounds p.1) y),_,?_,key _ ?_ M,S _ M,Yn (.inl rfl)⟩
   . simp [Builtin.delete_,run_underlying ht,MapKept.run_getObj_map m,T,MapKept.run_findKey hk C,MapKept.run_setObj_map _ m,Result.andThen,setBlock]
   rw [l,E,Go.ChangeMaps.map_eraseIdx,G]
   unfold YR;rw [Go.ChangeMaps.map_eraseIdx]
theorem xe.over {w:World} {g r:Nat} {F:List UInt8->Option Rat} (h:xe w g r F 0 none):Z7 w g F/\∀ s,F s≠some 0:=by
 obtain ⟨b,C,B,D,G,j,z,I,L,J,hF,K,E⟩:=h
 refine ⟨⟨D,⟨b,C,G,j,z,I⟩,J,hF⟩,fun s h0=>?_⟩
 have:=hF s
 split at this
 . rw [this] at h0;cases h0
 rename_i v u
 have m:=zeq u;have y:(str s,v)∈b.toList.map (fun e=>(e.key,e.val)):=by rw [j];exact List.mem_map.2 ⟨_,m,rfl⟩
 obtain ⟨x,l,ex⟩:=List.mem_map.1 y;injection ex with e1 e2
 exact K x l (all_seen b B E x l) s e1 (by simp) h0
theorem xe.map {w:World} {g r n:Nat} {F:List UInt8->Option Rat} {c:Option (List UInt8)} (h:xe w g r F n c):Z7 w g F:=by
 obtain ⟨j,l,B,D,m,b,e,u,z,y,hF,E,C⟩:=h
 exact ⟨D,⟨j,l,m,b,e,u⟩,y,hF⟩
theorem xe.chg {S:Nat->Prop} {w w' :World} {g r n:Nat} {F:List UInt8->Option Rat} {c:Option (List UInt8)} (h:xe w g r F n c) (hC:Chg S w w') (hg' :¬ S g) (hr' :¬ S r) (hS:∀ b,S b->zK w b):xe w' g r F n c:=by
 obtain ⟨y,B,z,D,j,m,u,E,e,G,hF,I,C⟩:=h
 refine ⟨y,B,z,D,(hC.block g (Array.getElem?_eq_some_iff.1 j).1 hg').trans j,m,u,E,(hC.block r (Array.getElem?_eq_some_iff.1 e).1 hr').trans e,G,fun s=>?_,I,C⟩
 have:=hF s
 split at this
 . exact this
 obtain ⟨q,l,e⟩:=this
 exact ⟨q,l,hC.rat e hS⟩
theorem xe.below {w w' :World} {g r n:Nat} {F:List UInt8->Option Rat} {c:Option (List UInt8)} (h:xe w g r F n c) (hb:Below w.heap.size w w'):xe w' g r F n c:=h.chg (S:=fun _=>False) (Chg.of_below hb) (fun h=>h) (fun h=>h) (fun _ h=>h.elim)
theorem xe.noDigR {w:World} {g r n:Nat} {F:List UInt8->Option Rat} {c:Option (List UInt8)} (h:xe w g r F n c):zK w r:=by
 obtain ⟨j,m,l,D,u,e,z,y,b,_⟩:=h
 exact zdh b
theorem xe.neR {w:World} {g r n x:Nat} {F:List UInt8->Option Rat} {c:Option (List UInt8)} {t:TypeId} {cs:Array Value} (h:xe w g r F n c) (hk:Blk w x t cs):r≠x:=fun e=>by
 obtain ⟨l,u,m,D,y,j,B,z,b,_⟩:=h
 subst e
 unfold Blk at hk
 rw [b] at hk;cases hk
theorem xe.left_eq {w:World} {g r n:Nat} {F:List UInt8->Option Rat} {c:Option (List UInt8)} (h:xe w g r F n c):w.rangeLeft g r=n:=by
 obtain ⟨u,z,y,D,j,l,m,B,b,C,hF,E,e⟩:=h
 simp only [World.rangeLeft,j,b]
 exact e
theorem xe.neB {w:World} {g r n b:Nat} {F:List UInt8->Option Rat} {c:Option (List UInt8)} (h:xe w g r F n c) (hB:zr w b):b≠r:=fun e=>by
 obtain ⟨m,y,u,D,B,l,E,C,j,_⟩:=h
 obtain ⟨z,⟨G,c',hb,_⟩,_⟩:=hB
 subst e
 rw [hb] at j;cases j
attribute [local go_sem ↓] Go.wp_at_zero Go.wp_at_succ
def noF:List UInt8->Option Rat:=fun _=>none
def Va (rows:List zF) (ws:Nat->Rat):Nat->List UInt8->Option Rat
 | 0=>noF
 | n+1=>if ws n=0 then Va rows ws n else Xx (ws n) (Va rows ws n) (rows.getD n default).terms
def Vq (rows:List zF) (ws:Nat->Rat):Nat->Rat
 | 0=>0
 | n+1=>if ws n=0 then Vq rows ws n else Vq rows ws n+zgt (rows.getD n default)*ws n
def nzF (F:List UInt8->Option Rat):List UInt8->Option Rat:=fun s=>if F s=some 0 then none else F s
def zcc (w:World) (v:Value) (n:Nat) (f:Nat->Rat):Prop:=∃ A c,v= .slice A n c/\(0<n->∃ g L,A=some ⟨g,0,none⟩/\n<=L/\yX w g L n f)
theorem zcc.chg {S:Nat->Prop} {w w' :World} {v:Value} {n:Nat} {f:Nat->Rat} (h:zcc w v n f) (hc:Chg S w w') (hg:∀ g cs,Blk w g 62 cs->¬ S g) (hS:∀ b,S b->zK w b):zcc w' v n f:=by
 obtain ⟨A,c,e,h⟩:=h
 refine ⟨A,c,e,fun hn=>?_⟩
 obtain ⟨g,L,m,r,j⟩:=h hn
 obtain ⟨cs,l⟩:=j.heap
 exact ⟨g,L,m,r,j.chg hc (hg g cs l) hS⟩
theorem zcc.below {w w' :World} {v:Value} {n:Nat} {f:Nat->Rat} (h:zcc w v n f) (hb:Below w.heap.size w w'):zcc w' v n f:=h.chg (S:=fun _=>False) (Chg.of_below hb) (fun _ _ _ h=>h) (fun _ h=>h.elim)
structure zto (rows:List zF) (ws:Nat->Rat):Prop where
 ok:∀ i,i<rows.length->ws i≠0->zt9 (ws i) (Vq rows ws i) (Va rows ws i) (rows.getD i default)
 few:rows.length<=100000
structure SuS (w0 w:World) (b gs gm gR B n:Nat) (rv wv:Value) (rows:List zF) (ws:Nat->Rat) (F:List UInt8->Option Rat) (q:Rat):Prop where
 book:zr w b
 map:Z7 w gm F
 box:yW w gs gm q
 res:Blk w gR 102 #[.map none,.int .i64 0,.slice none 0 0,.bool false,.int .i64 0,.slice none 0 0,.bool false]
 rows:zW w B rv rows
 wts:zcc w wv n ws
 neb:gm≠b
 nes:gs≠gR
 hBm:B<=gm
 hBs:B<=gs
 chg:Chg (fun x=>x=b\/B<=x) w0 w
variable {w0 w w' :World} {b gs gm gR B n:Nat} {rv wv:Value} {rows:List zF} {ws:Nat->Rat} {F:List UInt8->Option Rat} {q:Rat}
theorem SuS.below (h:SuS w0 w b gs gm gR B n rv wv rows ws F q) (hb:Below w.heap.size w w'):SuS w0 w' b gs gm gR B n rv wv rows ws F q:=by
 have e:=h.res
 exact ⟨h.book.below hb,h.map.below hb,h.box.below hb,e.below hb e.lt,h.rows.below hb,h.wts.below hb,h.neb,h.nes,h.hBm,h.hBs,zC h.chg hb⟩
theorem yW.blk {gs gm:Nat} {q:Rat} (h:yW w gs gm q):∃ cs,Blk w gs 102 cs:=by
 obtain ⟨_,_,_,_,_,_,_,_,_,_,b,_⟩:=h
 exact ⟨_,b⟩
theorem SuS.add (h:SuS w0 w b gs gm gR B n rv wv rows ws F q) {F' :List UInt8->Option Rat} {q' :Rat} (hB:zr w' b) (hM:Z7 w' gm F') (hS:yW w' gs gm q') (hc:Chg (fun x=>x=b\/x=gm\/x=gs) w w'):SuS w0 w' b gs gm gR B n rv wv rows ws F' q' :=by
 have l:=h.res
 obtain ⟨y,m⟩:=h.box.blk
 have u:∀ x,(x=b\/x=gm\/x=gs)->zK w x:=by
  rintro x (rfl | rfl | rfl)
  . exact h.book.noDig
  . exact h.map.noDig
  . exact h.box.noDig
 refine ⟨hB,hM,hS,hc.blk l ?_,h.rows.chg hc ?_,h.wts.chg hc ?_ u,h.neb,h.nes,h.hBm,h.hBs,h.chg.trans hc ?_⟩
 . rintro (e | e | e)
   . exact h.book.neB l e.symm
   . exact h.map.ne l e.symm
   . exact h.nes e.symm
 . rintro x r (e | e | e)
   . subst e;exact h.book.noCells
   . have:=h.hBm;omega
   . have:=h.hBs;omega
 . rintro g cs j (e | e | e)
   . exact h.book.neB j e.symm
   . exact h.map.ne j e.symm
   . subst e;exact yZ j m (by decide) rfl
 . rintro x r (e | e | e)
   . exact .inl e
   . subst e;exact .inr h.hBm
   . subst e;exact .inr h.hBs
theorem yW.chg {S:Nat->Prop} {gs gm:Nat} {q:Rat} (h:yW w gs gm q) (hc:Chg S w w') (hg:¬ S gs) (hS:∀ x,S x->zK w x):yW w' gs gm q:=by
 obtain ⟨_,_,_,_,_,_,_,_,_,_,b,e⟩:=h
 exact ⟨_,_,_,_,_,_,_,_,_,_,hc.blk b hg,hc.rat e hS⟩
structure SuT (w0 w:World) (b gs gm gR B r n:Nat) (F:List UInt8->Option Rat) (q:Rat) (cur:Option (List UInt8)):Prop where
 book:zr w b
 rng:xe w gm r F n cur
 box:yW w gs gm q
 res:Blk w gR 102 #[.map none,.int .i64 0,.slice none 0 0,.bool false,.int .i64 0,.slice none 0 0,.bool false]
 neb:gm≠b
 nes:gs≠gR
 hBm:B<=gm
 hBr:B<=r
 chg:Chg (fun x=>x=b\/B<=x) w0 w
theorem SuT.below {r n:Nat} {cur:Option (List UInt8)} (h:SuT w0 w b gs gm gR B r n F q cur) (hb:Below w.heap.size w w'):SuT w0 w' b gs gm gR B r n F q cur:=by
 have e:=h.res
 exact ⟨h.book.below hb,h.rng.below hb,h.box.below hb,e.below hb e.lt,h.neb,h.nes,h.hBm,h.hBr,zC h.chg hb⟩
theorem SuT.turn {r n n' x:Nat} {cur cur' :Option (List UInt8)} {F' :List UInt8->Option Rat} (h:SuT w0 w b gs gm gR B r n F q cur) (hx:x=r\/x=gm) (hc:Chg (· =x) w w') (hr:xe w' gm r F' n' cur'):SuT w0 w' b gs gm gR B r n' F' q cur' :=by
 have m:=h.res
 obtain ⟨C,z⟩:=h.box.blk
 have u:∀ y,y=x->zK w y:=by
  rintro y rfl
  rcases hx with rfl | rfl
  . exact h.rng.noDigR
  . exact h.rng.map.noDig
 have l:∀ g t cs,Blk w g t cs->¬ g=x:=by
  rintro g t cs j rfl
  rcases hx with e | e
  . exact h.rng.neR j e.symm
  . exact h.rng.map.ne j e.symm
 refine ⟨h.book.chg hc ?_ u,hr,h.box.chg hc (l _ _ _ z) u,hc.blk m (l _ _ _ m),h.neb,h.nes,h.hBm,h.hBr,h.chg.trans hc ?_⟩
 . rcases hx with rfl | rfl
   . exact h.rng.neB h.book
   . exact fun e=>h.neb e.symm
 rintro y _ rfl
 rcases hx with rfl | rfl
 . exact .inr h.hBr
 . exact .inr h.hBm
theorem SuT.stays {r n:Nat} {s:List UInt8} (h:SuT w0 w b gs gm gR B r n F q (some s)) (hq:F s≠some 0):SuT w0 w b gs gm gR B r n F q none:=
 ⟨h.book,h.rng.stays hq,h.box,h.res,h.neb,h.nes,h.hBm,h.hBr,h.chg⟩
theorem SuS.range {r k:Nat} (h:SuS w0 w b gs gm gR B n rv wv rows ws F q) (hr:xe w' gm r F k none) (hb:Below w.heap.size w w') (hBr:B<=r):SuT w0 w' b gs gm gR B r k F q none:=
 have e :=h.below hb
 ⟨e.book,hr,e.box,e.res,e.neb,e.nes,e.hBm,hBr,e.chg⟩
def SuqR (w0:World) (b gs gm gR B r:Nat) (F:List UInt8->Option Rat) (q:Rat) (_:Value) (wr:World):Prop:=
 ∃ F' n,Hid (SuT w0 wr b gs gm gR B r n F' q none)/\Hid (∀ s,F' s=F s\/(F' s=none/\F s=some 0))
theorem zui {F F' :List UInt8->Option Rat} (h:∀ s,F' s=F s\/(F' s=none/\F s=some 0)) (h0:∀ s,F' s≠some 0):F' =nzF F:=by
 funext s
 unfold nzF
 rcases h s with e | ⟨e,e0⟩
 . rw [if_neg (fun h=>h0 s (e.trans h)),e]
 . rw [if_pos e0,e]
def World.sc7 (w:World) (g:Nat) (m:Option Nat) (x:Int) (A:Option Addr) (k c:Nat) (s:Bool) (y:Int) (C:Option Addr) (k' c' :Nat) (t:Bool):World:=World.rat1 (w.setCell ⟨g,0,none⟩ (.map m)) g x A k c s y C k' c' t
theorem znd {g:Nat} {m:Option Nat} {x:Int} {A:Option Addr} {k c:Nat} {s:Bool} {y:Int} {C:Option Addr} {k' c' :Nat} {t:Bool}:Chg (· =g) w (World.sc7 w g m x A k c s y C k' c' t):=by
 have e:Chg (· =g) w (w.setCell ⟨g,0,none⟩ (.map m)):=by
  apply Chg.setCell (S:=fun b=>b=g) ?_ (by rfl)
  exact Chg.refl w
 exact yg e zdw
theorem zlv {g:Nat} {m:Option Nat} {x:Int} {A:Option Addr} {k c:Nat} {s:Bool} {y:Int} {C:Option Addr} {k' c' :Nat} {t:Bool} (h:Blk w g 102 #[.map none,.int .i64 0,.slice none 0 0,.bool false,.int .i64 0,.slice none 0 0,.bool false]):Blk (World.sc7 w g m x A k c s y C k' c' t) g 102 #[.map m,.int .i64 x,.slice A k c,.bool s,.int .i64 y,.slice C k' c',.bool t]:=
 ((((((h.set_ 0 _).set_ 1 _).set_ 2 _).set_ 3 _).set_ 4 _).set_ 5 _).set_ 6 _
def SusR (w0:World) (b gs gm gR B n:Nat) (rv wv:Value) (rows:List zF) (ws:Nat->Rat) (kv:Value) (wr:World):Prop:=
 ∃ k:Nat,k<=rows.length/\kv= .int .i64 k/\Hid (SuS w0 wr b gs gm gR B n rv wv rows ws (Va rows ws k) (Vq rows ws k))
def zt4 (w:World) (b B:Nat) (F:List UInt8->Option Rat) (q:Rat) (e:Ending) (w' :World):Prop:=
 ∃ (gm:Nat) (x:Int) (A:Option Addr) (k c:Nat) (s:Bool) (y:Int) (C:Option Addr) (k' c' :Nat) (t:Bool),e= .returned (.agg #[.map (some gm),.int .i64 x,.slice A k c,.bool s,.int .i64 y,.slice C k' c',.bool t])/\zE w' (.agg #[.int .i64 x,.slice A k c,.bool s,.int .i64 y,.slice C k' c',.bool t]) q/\Z7 w' gm F/\gm≠b/\B<=gm/\zr w' b/\Chg (fun x=>x=b\/B<=x) w w'
set_option maxRecDepth 100000 in
set_option maxHeartbeats 8000000 in
theorem zmi (b:Nat) (A:Option Addr) (n c:Nat) (wv:Value) (rows:List zF) (ws:Nat->Rat) (w:World) (hB:zr w b) (hr:yM w (.slice A n c) rows) (hw:zcc w wv rows.length ws) (ho:zto rows ws):
 Calls prog 49 #[.map (some b),.slice A n c,wv] w (zt4 w b w.heap.size (nzF (Va rows ws rows.length)) (Vq rows ws rows.length)):=by
 obtain rfl:=hr.len
 obtain ⟨AW,cW,rfl,bc⟩:=id hw
 have HO:=ze ho
 clear bc ho
 obtain ⟨W,hW⟩:=uQ ((w.alloc (.cells #[.map none,.int .i64 0,.slice none 0 0,.bool false,.int .i64 0,.slice none 0 0,.bool false] 102)).alloc (.map #[] 0))
 have l:=ext (zf w (.cells #[.map none,.int .i64 0,.slice none 0 0,.bool false,.int .i64 0,.slice none 0 0,.bool false] 102)) (zf (w.alloc (.cells #[.map none,.int .i64 0,.slice none 0 0,.bool false,.int .i64 0,.slice none 0 0,.bool false] 102)) (.map #[] 0))
 have an:=(Blk.new w 102 #[.map none,.int .i64 0,.slice none 0 0,.bool false,.int .i64 0,.slice none 0 0,.bool false]).alloc (.map #[] 0)
 have ah:=Z7.new (w.alloc (.cells #[.map none,.int .i64 0,.slice none 0 0,.bool false,.int .i64 0,.slice none 0 0,.bool false] 102))
 simp only [World.size_alloc] at ah
 rw [<- hW] at l an ah
 have Y:=ze ah
 have HK:=ze an
 have HB:=ze (hB.below l)
 have HR:=ze (zW.below hr l)
 have HW:=ze (hw.below l)
 have HZ:=ze l
 have aZ:=ze hB.lt
 clear hB hr hw l an ah
 have bd:=@run_makeMap prog
 go_in
 go_upto_region 1 with fail
 go_wp2_with fail
 rw [<- hW]
 clear hW bd
 refine (Ze 0 W (by omega) (by omega)).mono ?_
 rintro e w1 ⟨v,rfl,R,ax⟩
 obtain ⟨x9,A9,k9,c9,s9,y9,B9,au,ak,t9,rfl⟩:=R.agg
 have u:=zf w1 (.cells #[.map (some (w.heap.size+1)),.int .i64 x9,.slice A9 k9 c9,.bool s9,.int .i64 y9,.slice B9 au ak,.bool t9] 102)
 have O:=ext ax u
 have j:Hid (SuS w (w1.alloc (.cells #[.map (some (w.heap.size+1)),.int .i64 x9,.slice A9 k9 c9,.bool s9,.int .i64 y9,.slice B9 au ak,.bool t9] 102)) b w1.heap.size (w.heap.size+1) w.heap.size w.heap.size rows.length (.slice A rows.length c) (.slice AW rows.length cW) rows ws (Va rows ws 0) (Vq rows ws 0)):=by
  have hl:=ax.size
  have bk:=HZ.o.size
  have bj:=HK.o.lt
  refine ⟨HB.o.below O,Y.o.below O,⟨_,_,_,_,_,_,_,_,_,_,Blk.new w1 _ _,(show zE w1 _ (((0:Int):Rat)) from R).below u⟩,HK.o.below O HK.o.lt,zW.below HR.o O,HW.o.below O,by have:=aZ.o;omega,by omega,by omega,by omega,Chg.of_below (ext HZ.o O)⟩
 clear Y HK HB HR HW HZ u O R ax
 go_upto_region 2 with fail
 generalize w1.alloc (.cells #[.map (some (w.heap.size+1)),.int .i64 x9,.slice A9 k9 c9,.bool s9,.int .i64 y9,.slice B9 au ak,.bool t9] 102)=W1 at j |-
 generalize w1.heap.size=gs at j |-
 go_wp2
 go_loopw [17] (SusR w b gs (w.heap.size+1) w.heap.size w.heap.size rows.length (.slice A rows.length c) (.slice AW rows.length cW) rows ws) (fun kv _=>rows.length - (intOf kv).toNat)
 case atStart=>exact ⟨0,uB,rfl,j⟩
 case round=>
  clear j
  obtain ⟨k,hk,rfl,j⟩:=hrel
  by_cases ar:k<rows.length
  . have bh:(k:Int)<(rows.length:Int):=by omega
    obtain ⟨ad,AT,nt,ct,eA,aX,p0,p1,ht,bb⟩:=j.o.rows.at_ ar;subst eA;obtain ⟨A',c',e,az⟩:=j.o.wts;injection e with Z e2 e3
    subst Z;obtain ⟨X,L,e4,bi,aL⟩:=az (by omega);subst e4;have E:=ze aL;have I:=ze ht;have u:=zf wr (.cells #[.slice AT nt ct,str rows[k].bound] 36);have U:=ze (Blk.new wr 36 #[.slice AT nt ct,str rows[k].bound]);replace j:=ze (j.o.below u);replace E:=ze (E.o.below u);replace I:=ze (zi.below I.o u);clear ht bb aL u e2 e3 az
    go_upto_region 5 with fail
    clear p0 p1 aX;generalize wr.alloc (.cells #[.slice AT nt ct,str rows[k].bound] 36)=W2 at U E I j |-;generalize wr.heap.size=gt at U |-;obtain ⟨x,A,n,c,s,y,B,n',c',t,c0,c1,c2,c3,K,c5,hq⟩:=(E.o.2 k (by omega)).cells;have M:=ze hq;clear hq;go_wp2_with fail;refine (vy _ (ws k) _ M.o).mono ?_;rintro e w3 ⟨rfl,aa⟩;clear c0 c1 c2 c3 K c5 M;replace j:=ze (j.o.below aa);replace E:=ze (E.o.below aa);replace I:=ze (zi.below I.o aa);replace U:=kb_ U aa;clear aa
    by_cases l:ws k=0
    . have ab:Y7 (ws k) 0=0:=by rw [l];rfl
      have ac:Va rows ws (k+1)=Va rows ws k/\Vq rows ws (k+1)=Vq rows ws k:=⟨by rw [Va,if_pos l],by rw [Vq,if_pos l]⟩;have ae:=ze ac;clear l ac U E I;rw [ab];clear ab;have a7:IntKind.i64.wrap ((k:Int)+1)=((k+1:Nat):Int):=by rw [IntKind.wrap_i64];have:=HO.o.few;omega
      go_wp2;go_roundw
      case rel=>exact ⟨k+1,by omega,by go_num,by rw [ae.o.1,ae.o.2];exact j⟩
      case measure=>simp [intOf];omega
    obtain ⟨σ,Q⟩:=uQ (Y7 (ws k) 0)
    have aP:¬ σ=0:=fun e=>l (by
     have:=zch (ws k);rw [<- Q,e] at this
     simpa using this.symm)
    rw [<- Q];clear Q;have hd:=xGD (d:=default) ar;have ac:Va rows ws (k+1)=Xx (ws k) (Va rows ws k) rows[k].terms/\Vq rows ws (k+1)=Vq rows ws k+zgt rows[k]*ws k:=⟨by rw [Va,if_neg l,hd],by rw [Vq,if_neg l,hd]⟩;have al:=HO.o.ok k ar l;rw [hd] at al;have aM:=ze al;have ae:=ze ac;clear l ac al hd
    go_upto_region 6 with fail
    clear aP;obtain ⟨x,A,n,c,s,y,B,n',c',t,c0,c1,c2,c3,K,c5,hq⟩:=(E.o.2 k (by omega)).cells;have M:=ze hq;have D:=E.o.lt;obtain ⟨r0,r1,rL⟩:=ztz U.o;clear hq;have aN:∀ w',Hid (Below w3.heap.size w3 w')->w'.cell? ⟨gt,0,none⟩=some (.slice AT nt ct)/\w'.cell? ⟨gt,1,none⟩=some (str rows[k].bound)/\w'.cell? ⟨X,k*6,none⟩=some (.int .i64 x)/\w'.cell? ⟨X,k*6+1,none⟩=some (.slice A n c)/\w'.cell? ⟨X,k*6+2,none⟩=some (.bool s)/\w'.cell? ⟨X,k*6+3,none⟩=some (.int .i64 y)/\w'.cell? ⟨X,k*6+4,none⟩=some (.slice B n' c')/\w'.cell? ⟨X,k*6+5,none⟩=some (.bool t):=fun w' hB=>⟨zk hB rL r0,zk hB rL r1,zk hB D c0,zk hB D c1,zk hB D c2,zk hB D c3,zk hB D K,zk hB D c5⟩
    refine XJ aN 6 (zw w3) fun hU=>?_;refine tK 0 ?_;refine tK 1 ?_;refine tK 2 ?_;refine tK 3 ?_;refine tK 4 ?_;refine tK 5 ?_;have af:=(hU.1).out;replace j:=ze (j.o.below af);replace I:=ze (zi.below I.o af);replace M:=ze (M.o.below af);clear af hU aN;refine hdn ?_;simp only [xDR];clear c0 c1 c2 c3 K c5 D r0 r1 rL E U;go_wp2_with fail;refine (zk1 b gs (w.heap.size+1) AT nt ct rows[k] _ (ws k) (Vq rows ws k) (Va rows ws k) _ j.o.book j.o.map j.o.box j.o.neb M.o (zi.more I.o j.o.chg.size) aM.o).mono ?_;rintro e w5 ⟨rfl,aO,aI,aA,aR⟩;replace j:=ze (j.o.add aO aI aA aR);clear aO aI aA aR I M aM;have a7:IntKind.i64.wrap ((k:Int)+1)=((k+1:Nat):Int):=by rw [IntKind.wrap_i64];have:=HO.o.few;omega
    go_wp2;go_roundw
    case rel=>exact ⟨k+1,by omega,by go_num,by rw [ae.o.1,ae.o.2];exact j⟩
    case measure=>simp [intOf];omega
  obtain rfl:rows.length=k:=by omega
  obtain ⟨g0,D⟩:=j.o.box.map;obtain ⟨w5,n5,bf,aS,aU,aY⟩:=j.o.map.range (P:=prog) ZW;have av:=ze (j.o.range aS aU j.o.chg.size);clear aS aU aY j;go_wp2_with fail
  try go_frame
  clear bf g0 D;generalize wr.heap.size=r at av |-
  go_loopw [10] (SuqR w b gs (w.heap.size+1) w.heap.size w.heap.size r (Va rows ws rows.length) (Vq rows ws rows.length)) (fun _ wr=>wr.rangeLeft (w.heap.size+1) r)
  case atStart=>exact ⟨_,n5,av,ze (fun s=>.inl rfl)⟩
  case round=>
   clear av;obtain ⟨F',n',j,HF⟩:=hrel
   rcases (j.o.rng).next (P:=prog) (ty:=0) with ⟨rfl,aQ⟩ | ⟨s0,v0,q1,w6,n6,aQ,a9,aH,R,aE,aC,aJ⟩
   . obtain ⟨hM,aW⟩:=j.o.rng.over
     have Y:Hid (Z7 _ (w.heap.size+1) (nzF (Va rows ws rows.length))):=ze (by rw [<- zui HF.o aW];exact hM);obtain ⟨x4,A4,k4,K,s4,y4,B4,aq,ap,t4,J,ay⟩:=j.o.box;have ba:=ze ay;have o0:=J.cell 0;have o1:=J.cell 1;have o2:=J.cell 2;have o3:=J.cell 3;have o4:=J.cell 4;have o5:=J.cell 5;have o6:=J.cell 6;have G:=j.o.res;have a0:=G.cell 0;have a1:=G.cell 1;have a2:=G.cell 2;have a3:=G.cell 3;have a4:=G.cell 4;have a5:=G.cell 5;have a6:=G.cell 6;obtain ⟨f0,f1,f2,f3,f4,f5,f6⟩:=fp7 G;simp at o0 o1 o2 o3 o4 o5 o6 a0 a1 a2 a3 a4 a5 a6;have ag:=ze G;clear J ay G hM aW HF;go_wp2_with fail;have V:=zlv (w:=wr) (m:=some (w.heap.size+1)) (x:=x4) (A:=A4) (k:=k4) (c:=K) (s:=s4) (y:=y4) (C:=B4) (k' :=aq) (c' :=ap) (t:=t4) ag.o;have e0:=V.cell 0;have Z:=V.cell 1;have e2:=V.cell 2;have e3:=V.cell 3;have e4:=V.cell 4;have e5:=V.cell 5
     have e6:=V.cell 6;simp only [World.sc7,World.rat1] at e0 Z e2 e3 e4 e5 e6;simp at e0 Z e2 e3 e4 e5 e6;refine bodyPost_ret (v:=.agg #[.map (some (w.heap.size+1)),.int .i64 x4,.slice A4 k4 K,.bool s4,.int .i64 y4,.slice B4 aq ap,.bool t4]) (by simp [results,results49,go_sem,e0,Z,e2,e3,e4,e5,e6]) rfl ?_;have N:Chg (· =w.heap.size) wr (World.sc7 wr w.heap.size (some (w.heap.size+1)) x4 A4 k4 K s4 y4 B4 aq ap t4):=znd;have aj:∀ z,z=w.heap.size->zK wr z:=fun z e=>by subst e;exact ag.o.noDig (zef _ _ _ _ _ _ _ _ _ _ _)
     exact ⟨_,_,_,_,_,_,_,_,_,_,_,rfl,N.rat ba.o aj,Y.o.chg N (Y.o.ne ag.o) aj,j.o.neb,j.o.hBm,j.o.book.chg N (j.o.book.neB ag.o) aj,j.o.chg.trans (S:=fun x=>x=b\/w.heap.size<=x) (T:=fun x=>x=w.heap.size) N (fun x _ h=>.inr (Nat.le_of_eq h.symm))⟩
   . obtain ⟨x1,A1,k1,c1,s1,y1,B1,ao,aw,t1,rfl⟩:=R.agg
     have aG:=ze (j.o.turn (.inl rfl) aJ aE);have u:=zf w6 (.cells #[.int .i64 x1,.slice A1 k1 c1,.bool s1,.int .i64 y1,.slice B1 ao aw,.bool t1] 62);have ai:=ze (Blk.new w6 62 #[.int .i64 x1,.slice A1 k1 c1,.bool s1,.int .i64 y1,.slice B1 ao aw,.bool t1]);have F:=ze (aG.o.below u);have am:=ze (R.below u);have aV:=ze aH;have aD:=ze aC;clear u R aE aJ aG aH aC
     go_upto_region 11 with fail
     clear aQ a9;generalize w6.alloc (.cells #[.int .i64 x1,.slice A1 k1 c1,.bool s1,.int .i64 y1,.slice B1 ao aw,.bool t1] 62)=W7 at ai F am |-;generalize w6.heap.size=gx at ai |-;obtain ⟨r0,r1,r2,r3,r4,r5,_⟩:=bq6 ai;go_wp2_with fail;refine (vy _ q1 _ am.o).mono ?_;rintro e w8 ⟨rfl,aB⟩;replace F:=ze (F.o.below aB);clear aB r0 r1 r2 r3 r4 r5 ai am
     by_cases l:q1=0
     rotate_left
     . obtain ⟨σ,Q⟩:=uQ (Y7 q1 0)
       have aP:¬ σ=0:=fun e=>l (by
        have:=zch q1;rw [<- Q,e] at this
        simpa using this.symm)
       rw [<- Q];replace F:=ze (F.o.stays (fun e=>l (by rw [aV.o] at e;injection e)));clear Q l;go_wp2;go_roundw
       case rel=>exact ⟨_,n6,F,HF⟩
       case measure=>rw [F.o.rng.left_eq,j.o.rng.left_eq];exact aD.o
     have ab:Y7 q1 0=0:=by rw [l];rfl
     rw [ab];obtain ⟨g0,D⟩:=F.o.box.map;obtain ⟨w9,n9,bg,aF,aK,N⟩:=F.o.rng.drop (P:=prog) (ty:=0) ZW Xn;have aT:=ze (F.o.turn (.inr rfl) N aF);have be:=ze aK
     have a8:Hid (∀ s,zrm F' s0 s=Va rows ws rows.length s\/(zrm F' s0 s=none/\Va rows ws rows.length s=some 0)):=ze (fun s=>by
      have h1:=HF.o s;unfold zrm
      by_cases e:s=s0
      . subst e
        rw [if_pos rfl]
        rcases h1 with h1 | ⟨h1,h2⟩
        . exact .inr ⟨rfl,by rw [<- h1,aV.o,l]⟩
        . exact .inr ⟨rfl,h2⟩
      . rw [if_neg e];exact h1)
     clear aF N aK l ab D;go_wp2;go_roundw
     case rel=>exact ⟨_,n9,aT,a8⟩
     case measure=>rw [aT.o.rng.left_eq,j.o.rng.left_eq];have:=aD.o;have:=be.o;omega
open Go.Maps Go.Sort
open Go.WideElems (rd rg rd_mk rg_of)
open Go.WideShapes (sorted_perm)
def zjk:Value->Option (DataW Unit×List MemPlace):=fun _=>some (.lit (.bool true),[])
theorem zme {a b:List UInt8} (h:str a=str b):a=b:=zmw h
theorem Z7.owns {w:World} {g:Nat} {F:List UInt8->Option Rat} {ns:List (List UInt8)} (h:Z7 w g F) (hns:∀ s,(F s).isSome=true->s∈ns) (hl:ns.length<=100000) (hs:∀ s∈ns,zB s):
 ∃ n D0 ks,w.ownsMap prog 9 zjk g n D0/\Maps.size D0<=100000/\(strKeys D0).Perm ks/\ks.Nodup/\∀ x,x∈ks↔(F x).isSome=true:=by
 obtain ⟨D,⟨b,G,hb,u,V,J⟩,r,hF⟩:=h
 have z:∀ x,x∈D.map (·.1)↔(F x).isSome=true:=fun x=>by
  have:=hF x
  constructor
  . intro l
    obtain ⟨p,S,rfl⟩:=List.mem_map.1 l;rw [YF (v:=p.2) r S] at this;obtain ⟨q,L,_⟩:=this;rw [L];rfl
  intro l
  cases hg:Vp x D with
  | none=>rw [hg] at this;rw [this] at l;cases l
  | some v=>exact List.mem_map.2 ⟨_,zeq hg,rfl⟩
 have C:∀ e∈b.toList,∃ s,e.key=str s/\s∈D.map (·.1)/\rd prog 9 zjk e=some (.string s,.lit (.bool true)):=fun e he' =>by
  obtain ⟨s,j,m⟩:=V2 u he'
  have E:s∈D.map (·.1):=List.mem_map.2 ⟨_,m,rfl⟩
  refine ⟨s,j,E,?_⟩
  have K:keyOf prog 9 (str s)=some (.string s):=WideMaps.keyOf_string_mk underlying9 (by
   show s.toArray.size<=maxLen
   rw [List.size_toArray];have:=hs s (hns s ((z s).1 E));unfold zB at this
   unfold maxLen;omega)
  have:=rd_mk (P:=prog) (k:=9) (R:=zjk) (born:=e.born) (val:=e.val) K rfl
  rw [<- j] at this
  exact this
 have Q:b.size=D.length:=by have:=congrArg List.length u;simpa [YR] using this
 have X:D.length<=100000:=by
  have j:(D.map (·.1)).length<=ns.length:=zak r (fun x l=>hns x ((z x).1 l))
  rw [List.length_map] at j
  omega
 have I:(b.toList.map (·.key)).Nodup:=by
  have j:b.toList.map (·.key)=D.map (fun p=>str p.1):=by
   have:=congrArg (List.map Prod.fst) u;unfold YR at this;rw [List.map_map,List.map_map] at this;exact this
  rw [j]
  have m:D.map (fun p=>str p.1)=(D.map (·.1)).map str:=by rw [List.map_map];rfl
  rw [m]
  refine List.pairwise_map.2 (r.imp (fun hne e=>hne (zme e)))
 have T:Go.WideElems.Fit (H:=Unit) prog 9 zjk b G:=⟨by rw [Q];unfold maxLen;omega,⟨J,V,I⟩,fun x l=>by obtain ⟨s,_,_,y⟩:=C x l;exact ⟨_,y⟩⟩
 have B:w.ownsMap prog 9 zjk g b.size (.map ((b.toList.map (rg prog 9 zjk)).foldr DataW.insert [])):=⟨b,G,hb,T,uA,rfl⟩
 refine ⟨b.size,_,D.map (·.1),B,?_,?_,r,z⟩
 . have:=B.size_le;omega
 have j:(strKeys (.map ((b.toList.map (rg prog 9 zjk)).foldr DataW.insert []))).Perm ((b.toList.map (rg prog 9 zjk)).map fun p=>strOf p.1):=(sorted_perm _).map _
 have m:((b.toList.map (rg prog 9 zjk)).map fun p=>strOf p.1)=D.map (·.1):=by
  have y:(b.toList.map (rg prog 9 zjk)).map (fun p=>strOf p.1)=b.toList.map (fun e=>strOf (rg prog 9 zjk e).1):=by simp only [List.map_map,Function.comp_def]
  rw [y]
  have M:b.toList.map (fun e=>str (strOf (rg prog 9 zjk e).1))=D.map (fun p=>str p.1):=by
   have:=congrArg (List.map Prod.fst) u;unfold YR at this;rw [List.map_map,List.map_map] at this;rw [<- show List.map (Prod.fst ∘ fun p=>(str p.1,p.2)) D=D.map (fun p=>str p.1) from rfl, <- this];refine List.map_congr_left fun e he' =>?_;obtain ⟨s,O,_,U⟩:=C e he';rw [rg_of U];exact O.symm
  have N:(b.toList.map (fun e=>strOf (rg prog 9 zjk e).1)).map str=(D.map (·.1)).map str:=by simp only [List.map_map,Function.comp_def];exact M
  exact (List.map_inj_right (fun _ _ e=>zme e)).1 N
 rw [<- m];exact j
end Go.Proofs.YtofmkndhocinmaaGreatDoor
