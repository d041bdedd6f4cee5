/- Parts of the proof. -/
import Derived.Maps.RangeWalk
import Derived.Test.YtobdoblpnanclaaGreatDoorMo24
set_option linter.all false
set_option maxHeartbeats 32000000
namespace Go.Proofs.YtobdoblpnanclaaGreatDoor
open Proofs.Tryz Go.RowKit Go.Deep
open Go.ChangeMaps (setBlock)
theorem YM {s:List UInt8} {v:Value}:∀ {D:List (List UInt8×Value)},(D.map (·.1)).Nodup->(s,v)∈D->VW s D=some v
 | [],_,h=>by cases h
 | p :: D,hn,h=>by
   rw [List.map_cons,List.nodup_cons] at hn;rw [vG]
   rcases List.mem_cons.1 h with rfl | h
   . rw [if_pos rfl]
   . rw [if_neg (fun e=>hn.1 (List.mem_map.2 ⟨(s,v),h,e.symm⟩))]
     exact YM hn.2 h
def zp7 (s:List UInt8) (D:List (List UInt8×Value)):List (List UInt8×Value):=match VK s D 0 with
 | none=>D
 | some p=>D.eraseIdx p.1
theorem zol (s:List UInt8) (p:List UInt8×Value) (D:List (List UInt8×Value)):zp7 s (p :: D)=if p.1=s then D else p :: zp7 s D:=by
 unfold zp7
 conv=>lhs;unfold VK
 by_cases h:p.1=s
 . rw [if_pos h,if_pos h];rfl
 rw [if_neg h,if_neg h,Vy s D 1]
 cases VK s D 0 with
 | none=>rfl
 | some q=>rfl
theorem zpu {s:List UInt8} {D:List (List UInt8×Value)} (h:s ∉ D.map (·.1)):VW s D=none:=by
 unfold VW
 rw [zgk.2 (fun p hp e=>h (List.mem_map.2 ⟨p,hp,e⟩))]
 rfl
theorem zfs (s:List UInt8):∀ {D:List (List UInt8×Value)},(D.map (·.1)).Nodup->∀ s',VW s' (zp7 s D)=if s' =s then none else VW s' D
 | [],_,s' =>by by_cases h:s' =s<;>simp [zp7,VK,VW,h]
 | p :: D,hn,s' =>by
   rw [List.map_cons,List.nodup_cons] at hn;rw [zol]
   by_cases h:p.1=s
   . rw [if_pos h]
     by_cases e:s' =s
     . subst e;rw [if_pos rfl];exact zpu (h ▸ hn.1)
     rw [if_neg e,vG,if_neg (fun k=>e (k.symm.trans h))]
   rw [if_neg h,vG,zfs s hn.2 s',vG]
   by_cases e:s' =s
   . rw [if_pos e,if_pos e,if_neg (fun k=>h (k.trans e))]
   rw [if_neg e,if_neg e]
theorem zhn (s:List UInt8) (D:List (List UInt8×Value)) (hn:(D.map (·.1)).Nodup):((zp7 s D).map (·.1)).Nodup:=by
 unfold zp7
 split
 . exact hn
 exact hn.sublist ((List.eraseIdx_sublist _ _).map _)
def zto (F:List UInt8->Option Rat) (s:List UInt8):List UInt8->Option Rat:=fun t=>if t=s then none else F t
def yU (w:World) (g r:Nat) (F:List UInt8->Option Rat) (n:Nat) (cur:Option (List UInt8)):Prop:=
 ∃ es clock seen D,w.heap[g]?=some (.map es clock)/\es.toList.map (fun e=>(e.key,e.val))=XH D/\(es.toList.map (·.born)).Nodup/\(∀ e∈es.toList,e.born<clock)/\w.heap[r]?=some (.mapIter (some g) clock seen clock)/\(D.map (·.1)).Nodup/\
  (∀ s,match VW s D with | none=>F s=none | some v=>∃ q,F s=some q/\zV w v q)/\(∀ e∈es.toList,seen.contains e.born=true->∀ s,e.key=str s->cur≠some s->F s≠some 0)/\(leftOf es seen).size=n
theorem zec {es:Array MapEntry} {D:List (List UInt8×Value)} (h:es.toList.map (fun e=>(e.key,e.val))=XH D) {e:MapEntry} (he:e∈es.toList):∃ s,e.key=str s/\(s,e.val)∈D:=by
 have b:(e.key,e.val)∈XH D:=by rw [<- h];exact List.mem_map.2 ⟨e,he,rfl⟩
 obtain ⟨p,j,l⟩:=List.mem_map.1 b
 injection l with e2 e3
 exact ⟨p.1,e2.symm,by rw [<- e3];exact j⟩
theorem zss {a b:List UInt8} (h:str a=str b):a=b:=by
 injection h with h
 have:=congrArg (fun x:ByteArray=>x.data.toList) h
 simpa using this
theorem Zw.range {P:Program} {w:World} {g:Nat} {F:List UInt8->Option Rat} {t k e:TypeId} (ht:P.underlying t=some (.map k e)) (h:Zw w g F):
 ∃ w' n,(Instr.range t (.map (some g))).run P w= .ok (.pointer (some ⟨w.heap.size,0,none⟩)) w' /\yU w' g w.heap.size F n none/\Below w.heap.size w w' /\w'.heap.size=w.heap.size+1:=by
 obtain ⟨D,⟨l,b,hb,r,C,B⟩,u,z⟩:=h
 have hl:g<w.heap.size:=(Array.getElem?_eq_some_iff.1 hb).1
 have j:=zf w (.mapIter (some g) b #[] b)
 refine ⟨_,_,run_range_map w t k e g l b ht hb,⟨l,b,#[],D,(j.block g hl).trans hb,r,C,B,heap_alloc_new w _,u,fun s=>?_,fun e _ h=>by simp at h,rfl⟩,j,by simp⟩
 have:=z s
 cases hg:VW s D with
 | none=>rw [hg] at this;exact this
 | some v=>
   rw [hg] at this;obtain ⟨q,m,y⟩:=this;exact ⟨q,m,y.below j⟩
theorem zmp {w:World} {g r:Nat} {es:Array MapEntry} {clock:Nat} {m:Option Nat} {s c:Nat} {seen:Array Nat} (h:w.heap[g]?=some (.map es clock)) (h' :w.heap[r]?=some (.mapIter m s seen c)):g≠r:=fun e=>by
 subst e;rw [h] at h';cases h'
theorem zet {w:World} {r:Nat} {m:Option Nat} {s c:Nat} {seen:Array Nat} (h' :w.heap[r]?=some (.mapIter m s seen c)):zO w r:=by
 intro p b x e
 subst b
 simp [World.cell?,h'] at e
theorem Yh {w w1:World} {r:Nat} {o:Obj} (h:w1=w\/w1=w.drew):Chg (· =r) w (setBlock w1 r o):=by
 have j:w.grownBy (setBlock w1 r o) (some r):=by
  rcases h with rfl | rfl
  . exact ⟨rfl,rfl,rfl,by simp [setBlock],fun k hk hn=>by
     have b:r≠k:=fun e=>hn (by rw [e])
     simp [setBlock,b]⟩
  . exact ⟨rfl,rfl,rfl,by simp [setBlock],fun k hk hn=>by
     have b:r≠k:=fun e=>hn (by rw [e])
     show (w.heap.setIfInBounds r o)[k]?=w.heap[k]?
     simp [b]⟩
 exact Chg.of_grown j rfl
theorem yU.next {P:Program} {w:World} {g r n:Nat} {F:List UInt8->Option Rat} {ty:TypeId} (h:yU w g r F n none):
 (n=0/\(Instr.next (.pointer (some ⟨r,0,none⟩)) false ty).run P w= .ok (.tuple #[.bool false]) w)\/
 ∃ s v q w' n',(Instr.next (.pointer (some ⟨r,0,none⟩)) false ty).run P w= .ok (.tuple #[.bool true,str s,v]) w' /\(Instr.entry (.pointer (some ⟨r,0,none⟩))).run P w' = .ok (.tuple #[str s,v]) w' /\F s=some q/\zV w' v q/\yU w' g r F n' (some s)/\n' <n/\Chg (· =r) w w' :=by
 obtain ⟨m,b,j,D,C,R,G,S,E,M,hF,hz,hs⟩:=h
 have T:=zmp C E
 rcases run_next_at (P:=P) w ty r g b b j m b E C S (uA) with ⟨X,J⟩ | ⟨e,hl,u,Q,J⟩
 . exact .inl ⟨hs.symm.trans X,J⟩
 . have K:=mem_left hl
   obtain ⟨s,I,ab⟩:=zec R K.1;have Y:=YM M ab;have O:=hF s;rw [Y] at O;obtain ⟨q,Z,hv⟩:=O;have B:Chg (· =r) w (setBlock u r (.mapIter (some g) b (j.push e.born) b)):=Yh Q;have hS:∀ z,z=r->zO w z:=fun z e=>by subst e;exact zet E
   have L:(setBlock u r (.mapIter (some g) b (j.push e.born) b)).heap[r]?=some (.mapIter (some g) b (j.push e.born) b):=by
    have hl:r<u.heap.size:=by rcases Q with rfl | rfl<;>exact (Array.getElem?_eq_some_iff.1 E).1
    show (u.heap.setIfInBounds r _)[r]?=_
    simp [hl]
   have N:(setBlock u r (.mapIter (some g) b (j.push e.born) b)).heap[g]?=some (.map m b):=(B.block g (Array.getElem?_eq_some_iff.1 C).1 T).trans C;refine .inr ⟨s,e.val,q,_,_,by rw [J,I],?_,Z,B.rat hv hS,⟨m,b,j.push e.born,D,N,R,G,S,L,M,fun s' =>?_,fun x hx l s' hx' hcur=>?_,rfl⟩,?_,B⟩
   . rw [run_entry_at _ r g b j m b e L N K.1 G,I]
   . have:=hF s'
     split at this
     . exact this
     obtain ⟨q',aa,V⟩:=this
     exact ⟨q',aa,B.rat V hS⟩
   . rw [Array.contains_push,Bool.or_eq_true] at l
     rcases l with l | l
     . exact hz x hx l s' hx' (by simp)
     . exfalso
       have hb:x.born=e.born:=by first | exact eq_of_beq l | exact (eq_of_beq l).symm
       have U:x=e:=by
        have h1:=find_born e m.toList G K.1;have y:=find_born x m.toList G hx;rw [hb] at y;rw [h1] at y;injection y with y
        exact y.symm
       subst U;exact hcur (congrArg some (zss (I.symm.trans hx')))
   . have:=left_shrinks m j e hl
     omega
theorem yU.stays {w:World} {g r n:Nat} {F:List UInt8->Option Rat} {s:List UInt8} (h:yU w g r F n (some s)) (hq:F s≠some 0):yU w g r F n none:=by
 obtain ⟨m,y,u,D,B,b,l,C,j,E,hF,G,z⟩:=h
 refine ⟨m,y,u,D,B,b,l,C,j,E,hF,fun x hx hxs s' hx' _=>?_,z⟩
 by_cases e:s=s'
 . subst e;exact hq
 exact G x hx hxs s' hx' (fun h=>e (by injection h))
theorem yU.drop {P:Program} {w:World} {g r n:Nat} {F:List UInt8->Option Rat} {s:List UInt8} {t k e ty:TypeId} (ht:P.underlying t=some (.map k e)) (hk:P.underlying k=some .string) (h:yU w g r F n (some s)):
 ∃ w' n',(Builtin.delete_ #[t,k] ty #[.map (some g),str s]).run P w= .ok (.tuple #[]) w' /\yU w' g r (zto F s) n' none/\n' <=n/\Chg (· =g) w w' :=by
 obtain ⟨b,B,y,D,m,I,hn,K,J,C,hF,hz,hs⟩:=h
 have X:=zmp m J
 have E:=Ye s b.toList D 0 I
 have U:(Instr.checkKey b.isEmpty 10000 k (str s)).run P w= .ok () w:=MapKept.run_checkKey (k:=str s) hk (by simp [MapKept.IsKey]) b.isEmpty 9999
 have V:g<w.heap.size:=(Array.getElem?_eq_some_iff.1 m).1
 have hS:∀ z,z=g->zO w z:=fun z e=>by
  subst e
  intro p hp x K
  subst hp
  simp [World.cell?,m] at K
 have key:∀ j :Array MapEntry,j.toList.map (fun e=>(e.key,e.val))=XH (zp7 s D)->j.toList.Sublist b.toList->yU (setBlock w g (.map j B)) g r (zto F s) (leftOf j y).size none:=by
  intro j Q l
  have L:Chg (· =g) w (setBlock w g (.map j B)):=Yh (.inl rfl)
  refine ⟨j,B,y,zp7 s D,by simp [setBlock,V],Q,hn.sublist (l.map _),fun x hx=>K x (l.subset hx),(L.block r (Array.getElem?_eq_some_iff.1 J).1 X.symm).trans J,zhn s D C,fun s' =>?_,fun x hx hxs s' hx' _=>?_,rfl⟩
  rotate_left
  . obtain ⟨u,Y,h3⟩:=zec Q hx
    obtain rfl:u=s' :=zss (Y.symm.trans hx')
    have R:u≠s:=fun e=>by
     subst e;have M:=YM (zhn u D C) h3;rw [zfs u C u,if_pos rfl] at M
     cases M
    unfold zto;rw [if_neg R];exact hz x (l.subset hx) hxs u hx' (fun e=>R (by injection e with e;exact e.symm))
  rw [zfs s C s']
  unfold zto
  by_cases e:s' =s
  . rw [if_pos e,if_pos e]
  rw [if_neg e,if_neg e]
  have:=hF s'
  split at this
  . exact this
  obtain ⟨q',aa,Z⟩:=this
  exact ⟨q',aa,L.rat Z hS⟩
 have T:∀ j :Array MapEntry,j.toList.Sublist b.toList->(leftOf j y).size<=n:=fun j l=>by
  rw [<- hs]
  unfold leftOf
  have S:∀ a:Array MapEntry,(a.filter fun e=> !y.contains e.born).size=(a.toList.filter fun e=> !y.contains e.born).length:=fun a=>by rw [<- Array.length_toList,Array.toList_filter]
  rw [S,S]
  exact (l.filter _).length_le
 have G:zp7 s D=match VK s D 0 with | none=>D | some p=>D.eraseIdx p.1:=rfl
 cases hsk:VK s D 0 with
 | none=>
   rw [hsk] at E G;refine ⟨setBlock w g (.map b B),_,?_,key b (by rw [G];exact I) (List.Sublist.refl _),T b (List.Sublist.refl _),Yh (.inl rfl)⟩
   simp [Builtin.delete_,run_underlying ht,MapKept.run_getObj_map m,U,MapKept.run_findKey hk E,MapKept.run_setObj_map _ m,Result.andThen,setBlock]
 | some p=>
   rw [hsk] at E G;have O:=zbw s D 0 p hsk;rw [Nat.sub_zero] at O;have ac:b.size=D.length:=by have:=congrArg List.length I;simpa [XH] using this
   have ab:p.1<D.length:=(List.getElem?_eq_some_iff.1 O.2).1
   have l:(b.eraseIdxIfInBounds p.1).toList=b.toList.eraseIdx p.1:=by
    unfold Array.eraseIdxIfInBounds;rw [dif_pos (by omega)]
    simp
   have N:(b.eraseIdxIfInBounds p.1).toList.Sublist b.toList:=by rw [l];exact List.eraseIdx_sublist _ _
   refine ⟨setBlock w g (.map (b.eraseIdxIfInBounds p.1) B),_,?_,key _ ?_ N,T _ N,Yh (.inl rfl)⟩
   . simp [Builtin.delete_,run_underlying ht,MapKept.run_getObj_map m,U,MapKept.run_findKey hk E,MapKept.run_setObj_map _ m,Result.andThen,setBlock]
   rw [l,G,Go.ChangeMaps.map_eraseIdx,I]
   unfold XH;rw [Go.ChangeMaps.map_eraseIdx]
theorem yU.over {w:World} {g r:Nat} {F:List UInt8->Option Rat} (h:yU w g r F 0 none):Zw w g F/\∀ s,F s≠some 0:=by
 obtain ⟨b,B,z,D,E,j,y,G,K,I,hF,J,C⟩:=h
 refine ⟨⟨D,⟨b,B,E,j,y,G⟩,I,hF⟩,fun s h0=>?_⟩
 have:=hF s
 split at this
 . rw [this] at h0;cases h0
 rename_i v hv
 have m:=zf3 hv;have u:(str s,v)∈b.toList.map (fun e=>(e.key,e.val)):=by rw [j];exact List.mem_map.2 ⟨_,m,rfl⟩
 obtain ⟨x,l,ex⟩:=List.mem_map.1 u;injection ex with e1 e2
 exact J x l (all_seen b z C x l) s e1 (by simp) h0
theorem yU.map {w:World} {g r n:Nat} {F:List UInt8->Option Rat} {c:Option (List UInt8)} (h:yU w g r F n c):Zw w g F:=by
 obtain ⟨j,l,B,D,m,b,e,u,z,y,hF,E,C⟩:=h
 exact ⟨D,⟨j,l,m,b,e,u⟩,y,hF⟩
theorem yU.chg {S:Nat->Prop} {w w' :World} {g r n:Nat} {F:List UInt8->Option Rat} {c:Option (List UInt8)} (h:yU w g r F n c) (hC:Chg S w w') (hg' :¬ S g) (hr' :¬ S r) (hS:∀ b,S b->zO w b):yU w' g r F n c:=by
 obtain ⟨y,B,z,D,j,m,u,E,e,G,hF,I,C⟩:=h
 refine ⟨y,B,z,D,(hC.block g (Array.getElem?_eq_some_iff.1 j).1 hg').trans j,m,u,E,(hC.block r (Array.getElem?_eq_some_iff.1 e).1 hr').trans e,G,fun s=>?_,I,C⟩
 have:=hF s
 split at this
 . exact this
 obtain ⟨q,l,e⟩:=this
 exact ⟨q,l,hC.rat e hS⟩
theorem yU.below {w w' :World} {g r n:Nat} {F:List UInt8->Option Rat} {c:Option (List UInt8)} (h:yU w g r F n c) (hb:Below w.heap.size w w'):yU w' g r F n c:=h.chg (S:=fun _=>False) (Chg.of_below hb) (fun h=>h) (fun h=>h) (fun _ h=>h.elim)
theorem yU.noDigR {w:World} {g r n:Nat} {F:List UInt8->Option Rat} {c:Option (List UInt8)} (h:yU w g r F n c):zO w r:=by
 obtain ⟨j,m,l,D,u,e,z,y,b,_⟩:=h
 exact zet b
theorem yU.neR {w:World} {g r n x:Nat} {F:List UInt8->Option Rat} {c:Option (List UInt8)} {t:TypeId} {cs:Array Value} (h:yU w g r F n c) (hk:Blk w x t cs):r≠x:=fun e=>by
 obtain ⟨l,u,m,D,y,j,B,z,b,_⟩:=h
 subst e
 unfold Blk at hk
 rw [b] at hk;cases hk
theorem yU.left_eq {w:World} {g r n:Nat} {F:List UInt8->Option Rat} {c:Option (List UInt8)} (h:yU w g r F n c):w.rangeLeft g r=n:=by
 obtain ⟨u,z,y,D,j,l,m,B,b,C,hF,E,e⟩:=h
 simp only [World.rangeLeft,j,b]
 exact e
theorem yU.neB {w:World} {g r n b:Nat} {F:List UInt8->Option Rat} {c:Option (List UInt8)} (h:yU w g r F n c) (hB:zu w b):b≠r:=fun e=>by
 obtain ⟨m,y,u,D,B,l,E,C,j,_⟩:=h
 obtain ⟨z,⟨G,c',hb,_⟩,_⟩:=hB
 subst e
 rw [hb] at j;cases j
attribute [local go_sem ↓] Go.wp_at_zero Go.wp_at_succ
def noF:List UInt8->Option Rat:=fun _=>none
def YZ (rows:List zS) (ws:Nat->Rat):Nat->List UInt8->Option Rat
 | 0=>noF
 | n+1=>if ws n=0 then YZ rows ws n else zbl (ws n) (YZ rows ws n) (rows.getD n default).terms
def Y0 (rows:List zS) (ws:Nat->Rat):Nat->Rat
 | 0=>0
 | n+1=>if ws n=0 then Y0 rows ws n else Y0 rows ws n+YR (rows.getD n default)*ws n
def nzF (F:List UInt8->Option Rat):List UInt8->Option Rat:=fun s=>if F s=some 0 then none else F s
def zd7 (w:World) (v:Value) (n:Nat) (f:Nat->Rat):Prop:=∃ A c,v= .slice A n c/\(0<n->∃ g L,A=some ⟨g,0,none⟩/\n<=L/\yH w g L n f)
theorem zd7.chg {S:Nat->Prop} {w w' :World} {v:Value} {n:Nat} {f:Nat->Rat} (h:zd7 w v n f) (hc:Chg S w w') (hg:∀ g cs,Blk w g 60 cs->¬ S g) (hS:∀ b,S b->zO w b):zd7 w' v n f:=by
 obtain ⟨A,c,e,h⟩:=h
 refine ⟨A,c,e,fun hn=>?_⟩
 obtain ⟨g,L,m,r,j⟩:=h hn
 obtain ⟨cs,l⟩:=j.heap
 exact ⟨g,L,m,r,j.chg hc (hg g cs l) hS⟩
theorem zd7.below {w w' :World} {v:Value} {n:Nat} {f:Nat->Rat} (h:zd7 w v n f) (hb:Below w.heap.size w w'):zd7 w' v n f:=h.chg (S:=fun _=>False) (Chg.of_below hb) (fun _ _ _ h=>h) (fun _ h=>h.elim)
structure zvl (rows:List zS) (ws:Nat->Rat):Prop where
 ok:∀ i,i<rows.length->ws i≠0->zv3 (ws i) (Y0 rows ws i) (YZ rows ws i) (rows.getD i default)
 few:rows.length<=100000
structure SuS (w0 w:World) (b gs gm gR B n:Nat) (rv wv:Value) (rows:List zS) (ws:Nat->Rat) (F:List UInt8->Option Rat) (q:Rat):Prop where
 book:zu w b
 map:Zw w gm F
 box:yP w gs gm q
 res:Blk w gR 121 #[.map none,.int .i64 0,.slice none 0 0,.bool false,.int .i64 0,.slice none 0 0,.bool false]
 rows:zR w B rv rows
 wts:zd7 w wv n ws
 neb:gm≠b
 nes:gs≠gR
 hBm:B<=gm
 hBs:B<=gs
 chg:Chg (fun x=>x=b\/B<=x) w0 w
variable {w0 w w' :World} {b gs gm gR B n:Nat} {rv wv:Value} {rows:List zS} {ws:Nat->Rat} {F:List UInt8->Option Rat} {q:Rat}
theorem SuS.below (h:SuS w0 w b gs gm gR B n rv wv rows ws F q) (hb:Below w.heap.size w w'):SuS w0 w' b gs gm gR B n rv wv rows ws F q:=by
 have e:=h.res
 exact ⟨h.book.below hb,h.map.below hb,h.box.below hb,e.below hb e.lt,h.rows.below hb,h.wts.below hb,h.neb,h.nes,h.hBm,h.hBs,zD h.chg hb⟩
theorem yP.blk {gs gm:Nat} {q:Rat} (h:yP w gs gm q):∃ cs,Blk w gs 121 cs:=by
 obtain ⟨_,_,_,_,_,_,_,_,_,_,b,_⟩:=h
 exact ⟨_,b⟩
theorem SuS.add (h:SuS w0 w b gs gm gR B n rv wv rows ws F q) {F' :List UInt8->Option Rat} {q' :Rat} (hB:zu w' b) (hM:Zw w' gm F') (hS:yP w' gs gm q') (hc:Chg (fun x=>x=b\/x=gm\/x=gs) w w'):SuS w0 w' b gs gm gR B n rv wv rows ws F' q' :=by
 have l:=h.res
 obtain ⟨y,m⟩:=h.box.blk
 have u:∀ x,(x=b\/x=gm\/x=gs)->zO w x:=by
  rintro x (rfl | rfl | rfl)
  . exact h.book.noDig
  . exact h.map.noDig
  . exact h.box.noDig
 refine ⟨hB,hM,hS,hc.blk l ?_,h.rows.chg hc ?_,h.wts.chg hc ?_ u,h.neb,h.nes,h.hBm,h.hBs,h.chg.trans hc ?_⟩
 . rintro (e | e | e)
   . exact h.book.neB l e.symm
   . exact h.map.ne l e.symm
   . exact h.nes e.symm
 . rintro x r (e | e | e)
   . subst e;exact h.book.noCells
   . have:=h.hBm;omega
   . have:=h.hBs;omega
 . rintro g cs j (e | e | e)
   . exact h.book.neB j e.symm
   . exact h.map.ne j e.symm
   . subst e;exact xp j m (by decide) rfl
 . rintro x r (e | e | e)
   . exact .inl e
   . subst e;exact .inr h.hBm
   . subst e;exact .inr h.hBs
theorem yP.chg {S:Nat->Prop} {gs gm:Nat} {q:Rat} (h:yP w gs gm q) (hc:Chg S w w') (hg:¬ S gs) (hS:∀ x,S x->zO w x):yP w' gs gm q:=by
 obtain ⟨_,_,_,_,_,_,_,_,_,_,b,e⟩:=h
 exact ⟨_,_,_,_,_,_,_,_,_,_,hc.blk b hg,hc.rat e hS⟩
structure SuT (w0 w:World) (b gs gm gR B r n:Nat) (F:List UInt8->Option Rat) (q:Rat) (cur:Option (List UInt8)):Prop where
 book:zu w b
 rng:yU w gm r F n cur
 box:yP w gs gm q
 res:Blk w gR 121 #[.map none,.int .i64 0,.slice none 0 0,.bool false,.int .i64 0,.slice none 0 0,.bool false]
 neb:gm≠b
 nes:gs≠gR
 hBm:B<=gm
 hBr:B<=r
 chg:Chg (fun x=>x=b\/B<=x) w0 w
theorem SuT.below {r n:Nat} {cur:Option (List UInt8)} (h:SuT w0 w b gs gm gR B r n F q cur) (hb:Below w.heap.size w w'):SuT w0 w' b gs gm gR B r n F q cur:=by
 have e:=h.res
 exact ⟨h.book.below hb,h.rng.below hb,h.box.below hb,e.below hb e.lt,h.neb,h.nes,h.hBm,h.hBr,zD h.chg hb⟩
theorem SuT.turn {r n n' x:Nat} {cur cur' :Option (List UInt8)} {F' :List UInt8->Option Rat} (h:SuT w0 w b gs gm gR B r n F q cur) (hx:x=r\/x=gm) (hc:Chg (· =x) w w') (hr:yU w' gm r F' n' cur'):SuT w0 w' b gs gm gR B r n' F' q cur' :=by
 have m:=h.res
 obtain ⟨C,z⟩:=h.box.blk
 have u:∀ y,y=x->zO w y:=by
  rintro y rfl
  rcases hx with rfl | rfl
  . exact h.rng.noDigR
  . exact h.rng.map.noDig
 have l:∀ g t cs,Blk w g t cs->¬ g=x:=by
  rintro g t cs j rfl
  rcases hx with e | e
  . exact h.rng.neR j e.symm
  . exact h.rng.map.ne j e.symm
 refine ⟨h.book.chg hc ?_ u,hr,h.box.chg hc (l _ _ _ z) u,hc.blk m (l _ _ _ m),h.neb,h.nes,h.hBm,h.hBr,h.chg.trans hc ?_⟩
 . rcases hx with rfl | rfl
   . exact h.rng.neB h.book
   . exact fun e=>h.neb e.symm
 rintro y _ rfl
 rcases hx with rfl | rfl
 . exact .inr h.hBr
 . exact .inr h.hBm
theorem SuT.stays {r n:Nat} {s:List UInt8} (h:SuT w0 w b gs gm gR B r n F q (some s)) (hq:F s≠some 0):SuT w0 w b gs gm gR B r n F q none:=
 ⟨h.book,h.rng.stays hq,h.box,h.res,h.neb,h.nes,h.hBm,h.hBr,h.chg⟩
theorem SuS.range {r k:Nat} (h:SuS w0 w b gs gm gR B n rv wv rows ws F q) (hr:yU w' gm r F k none) (hb:Below w.heap.size w w') (hBr:B<=r):SuT w0 w' b gs gm gR B r k F q none:=
 have e :=h.below hb
 ⟨e.book,hr,e.box,e.res,e.neb,e.nes,e.hBm,hBr,e.chg⟩
def SuqR (w0:World) (b gs gm gR B r:Nat) (F:List UInt8->Option Rat) (q:Rat) (_:Value) (wr:World):Prop:=
 ∃ F' n,Hid (SuT w0 wr b gs gm gR B r n F' q none)/\Hid (∀ s,F' s=F s\/(F' s=none/\F s=some 0))
theorem zv8 {F F' :List UInt8->Option Rat} (h:∀ s,F' s=F s\/(F' s=none/\F s=some 0)) (h0:∀ s,F' s≠some 0):F' =nzF F:=by
 funext s
 unfold nzF
 rcases h s with e | ⟨e,b⟩
 . rw [if_neg (fun h=>h0 s (e.trans h)),e]
 . rw [if_pos b,e]
def World.sc7 (w:World) (g:Nat) (m:Option Nat) (x:Int) (A:Option Addr) (k c:Nat) (s:Bool) (y:Int) (C:Option Addr) (k' c' :Nat) (t:Bool):World:=World.rat1 (w.setCell ⟨g,0,none⟩ (.map m)) g x A k c s y C k' c' t
theorem zug {g:Nat} {m:Option Nat} {x:Int} {A:Option Addr} {k c:Nat} {s:Bool} {y:Int} {C:Option Addr} {k' c' :Nat} {t:Bool}:Chg (· =g) w (World.sc7 w g m x A k c s y C k' c' t):=by
 have e:Chg (· =g) w (w.setCell ⟨g,0,none⟩ (.map m)):=by
  apply Chg.setCell (S:=fun b=>b=g) ?_ (by rfl)
  exact Chg.refl w
 exact yp e ze8
theorem zth {g:Nat} {m:Option Nat} {x:Int} {A:Option Addr} {k c:Nat} {s:Bool} {y:Int} {C:Option Addr} {k' c' :Nat} {t:Bool} (h:Blk w g 121 #[.map none,.int .i64 0,.slice none 0 0,.bool false,.int .i64 0,.slice none 0 0,.bool false]):Blk (World.sc7 w g m x A k c s y C k' c' t) g 121 #[.map m,.int .i64 x,.slice A k c,.bool s,.int .i64 y,.slice C k' c',.bool t]:=
 ((((((h.set_ 0 _).set_ 1 _).set_ 2 _).set_ 3 _).set_ 4 _).set_ 5 _).set_ 6 _
def SusR (w0:World) (b gs gm gR B n:Nat) (rv wv:Value) (rows:List zS) (ws:Nat->Rat) (kv:Value) (wr:World):Prop:=
 ∃ k:Nat,k<=rows.length/\kv= .int .i64 k/\Hid (SuS w0 wr b gs gm gR B n rv wv rows ws (YZ rows ws k) (Y0 rows ws k))
def zvz (w:World) (b B:Nat) (F:List UInt8->Option Rat) (q:Rat) (e:Ending) (w' :World):Prop:=
 ∃ (gm:Nat) (x:Int) (A:Option Addr) (k c:Nat) (s:Bool) (y:Int) (C:Option Addr) (k' c' :Nat) (t:Bool),e= .returned (.agg #[.map (some gm),.int .i64 x,.slice A k c,.bool s,.int .i64 y,.slice C k' c',.bool t])/\zV w' (.agg #[.int .i64 x,.slice A k c,.bool s,.int .i64 y,.slice C k' c',.bool t]) q/\Zw w' gm F/\gm≠b/\B<=gm/\zu w' b/\Chg (fun x=>x=b\/B<=x) w w'
set_option maxRecDepth 100000 in
theorem znu (b:Nat) (A:Option Addr) (n c:Nat) (wv:Value) (rows:List zS) (ws:Nat->Rat) (w:World) (hB:zu w b) (hr:Zi w (.slice A n c) rows) (hw:zd7 w wv rows.length ws) (ho:zvl rows ws):
 Calls prog 58 #[.map (some b),.slice A n c,wv] w (zvz w b w.heap.size (nzF (YZ rows ws rows.length)) (Y0 rows ws rows.length)):=by
 obtain rfl:=hr.len
 obtain ⟨AW,cW,rfl,bc⟩:=id hw
 have HO:=ze ho
 clear bc ho
 obtain ⟨W,hW⟩:=uQ ((w.alloc (.cells #[.map none,.int .i64 0,.slice none 0 0,.bool false,.int .i64 0,.slice none 0 0,.bool false] 121)).alloc (.map #[] 0))
 have l:=ext (zf w (.cells #[.map none,.int .i64 0,.slice none 0 0,.bool false,.int .i64 0,.slice none 0 0,.bool false] 121)) (zf (w.alloc (.cells #[.map none,.int .i64 0,.slice none 0 0,.bool false,.int .i64 0,.slice none 0 0,.bool false] 121)) (.map #[] 0))
 have an:=(Blk.new w 121 #[.map none,.int .i64 0,.slice none 0 0,.bool false,.int .i64 0,.slice none 0 0,.bool false]).alloc (.map #[] 0)
 have ah:=Zw.new (w.alloc (.cells #[.map none,.int .i64 0,.slice none 0 0,.bool false,.int .i64 0,.slice none 0 0,.bool false] 121))
 simp only [World.size_alloc] at ah
 rw [<- hW] at l an ah
 have Z:=ze ah
 have HK:=ze an
 have HB:=ze (hB.below l)
 have HR:=ze (zR.below hr l)
 have HW:=ze (hw.below l)
 have HZ:=ze l
 have aZ:=ze hB.lt
 clear hB hr hw l an ah
 have bd:=@run_makeMap prog
 go_in
 go_upto_region 1 with fail
 go_wp2_with fail
 rw [<- hW]
 clear hW bd
 refine (ZN 0 W (by omega) (by omega)).mono ?_
 rintro e U ⟨v,rfl,hv,ax⟩
 obtain ⟨x9,A9,k9,c9,s9,y9,B9,au,ak,t9,rfl⟩:=hv.agg
 have u:=zf U (.cells #[.map (some (w.heap.size+1)),.int .i64 x9,.slice A9 k9 c9,.bool s9,.int .i64 y9,.slice B9 au ak,.bool t9] 121)
 have Q:=ext ax u
 have j:Hid (SuS w (U.alloc (.cells #[.map (some (w.heap.size+1)),.int .i64 x9,.slice A9 k9 c9,.bool s9,.int .i64 y9,.slice B9 au ak,.bool t9] 121)) b U.heap.size (w.heap.size+1) w.heap.size w.heap.size rows.length (.slice A rows.length c) (.slice AW rows.length cW) rows ws (YZ rows ws 0) (Y0 rows ws 0)):=by
  have hl:=ax.size
  have bk:=HZ.o.size
  have bj:=HK.o.lt
  refine ⟨HB.o.below Q,Z.o.below Q,⟨_,_,_,_,_,_,_,_,_,_,Blk.new U _ _,(show zV U _ (((0:Int):Rat)) from hv).below u⟩,HK.o.below Q HK.o.lt,zR.below HR.o Q,HW.o.below Q,by have:=aZ.o;omega,by omega,by omega,by omega,Chg.of_below (ext HZ.o Q)⟩
 clear Z HK HB HR HW HZ u Q hv ax
 go_upto_region 2 with fail
 generalize U.alloc (.cells #[.map (some (w.heap.size+1)),.int .i64 x9,.slice A9 k9 c9,.bool s9,.int .i64 y9,.slice B9 au ak,.bool t9] 121)=W1 at j |-
 generalize U.heap.size=gs at j |-
 go_wp2
 go_loopw [17] (SusR w b gs (w.heap.size+1) w.heap.size w.heap.size rows.length (.slice A rows.length c) (.slice AW rows.length cW) rows ws) (fun kv _=>rows.length - (intOf kv).toNat)
 case atStart=>exact ⟨0,uB,rfl,j⟩
 case round=>
  clear j
  obtain ⟨k,hk,rfl,j⟩:=hrel
  by_cases ar:k<rows.length
  . have bh:(k:Int)<(rows.length:Int):=by omega
    obtain ⟨ad,AT,nt,ct,eA,aX,p0,p1,ht,bb⟩:=j.o.rows.at_ ar;subst eA;obtain ⟨A',c',e,az⟩:=j.o.wts;injection e with e1 e2 e3
    subst e1;obtain ⟨Y,L,e4,bi,aL⟩:=az (by omega);subst e4;have E:=ze aL;have I:=ze ht;have u:=zf wr (.cells #[.slice AT nt ct,str rows[k].bound] 31);have V:=ze (Blk.new wr 31 #[.slice AT nt ct,str rows[k].bound]);replace j:=ze (j.o.below u);replace E:=ze (E.o.below u);replace I:=ze (zh.below I.o u);clear ht bb aL u e2 e3 az
    go_upto_region 5 with fail
    clear p0 p1 aX;generalize wr.alloc (.cells #[.slice AT nt ct,str rows[k].bound] 31)=W2 at V E I j |-;generalize wr.heap.size=gt at V |-;obtain ⟨x,A,n,c,s,y,B,n',c',t,c0,K,c2,c3,M,c5,hq⟩:=(E.o.2 k (by omega)).cells;have N:=ze hq;clear hq;go_wp2_with fail;refine (xK _ (ws k) _ N.o).mono ?_;rintro e w3 ⟨rfl,aa⟩;clear c0 K c2 c3 M c5 N;replace j:=ze (j.o.below aa);replace E:=ze (E.o.below aa);replace I:=ze (zh.below I.o aa);replace V:=kb_ V aa;clear aa
    by_cases l:ws k=0
    . have ab:XG (ws k) 0=0:=by rw [l];rfl
      have ac:YZ rows ws (k+1)=YZ rows ws k/\Y0 rows ws (k+1)=Y0 rows ws k:=⟨by rw [YZ,if_pos l],by rw [Y0,if_pos l]⟩;have ae:=ze ac;clear l ac V E I;rw [ab];clear ab;have a7:IntKind.i64.wrap ((k:Int)+1)=((k+1:Nat):Int):=by rw [IntKind.wrap_i64];have:=HO.o.few;omega
      go_wp2;go_roundw
      case rel=>exact ⟨k+1,by omega,by go_num,by rw [ae.o.1,ae.o.2];exact j⟩
      case measure=>simp [intOf];omega
    obtain ⟨σ,R⟩:=uQ (XG (ws k) 0)
    have aP:¬ σ=0:=fun e=>l (by
     have:=zh3 (ws k);rw [<- R,e] at this
     simpa using this.symm)
    rw [<- R];clear R;have hd:=xGD (d:=default) ar;have ac:YZ rows ws (k+1)=zbl (ws k) (YZ rows ws k) rows[k].terms/\Y0 rows ws (k+1)=Y0 rows ws k+YR rows[k]*ws k:=⟨by rw [YZ,if_neg l,hd],by rw [Y0,if_neg l,hd]⟩;have al:=HO.o.ok k ar l;rw [hd] at al;have aM:=ze al;have ae:=ze ac;clear l ac al hd
    go_upto_region 6 with fail
    clear aP;obtain ⟨x,A,n,c,s,y,B,n',c',t,c0,K,c2,c3,M,c5,hq⟩:=(E.o.2 k (by omega)).cells;have N:=ze hq;have D:=E.o.lt;obtain ⟨r0,r1,rL⟩:=zwu V.o;clear hq;have aN:∀ w',Hid (Below w3.heap.size w3 w')->w'.cell? ⟨gt,0,none⟩=some (.slice AT nt ct)/\w'.cell? ⟨gt,1,none⟩=some (str rows[k].bound)/\w'.cell? ⟨Y,k*6,none⟩=some (.int .i64 x)/\w'.cell? ⟨Y,k*6+1,none⟩=some (.slice A n c)/\w'.cell? ⟨Y,k*6+2,none⟩=some (.bool s)/\w'.cell? ⟨Y,k*6+3,none⟩=some (.int .i64 y)/\w'.cell? ⟨Y,k*6+4,none⟩=some (.slice B n' c')/\w'.cell? ⟨Y,k*6+5,none⟩=some (.bool t):=fun w' hB=>⟨zl hB rL r0,zl hB rL r1,zl hB D c0,zl hB D K,zl hB D c2,zl hB D c3,zl hB D M,zl hB D c5⟩
    refine zb7 aN 6 (zv w3) fun hU=>?_;refine tK 0 ?_;refine tK 1 ?_;refine tK 2 ?_;refine tK 3 ?_;refine tK 4 ?_;refine tK 5 ?_;have af:=(hU.1).out;replace j:=ze (j.o.below af);replace I:=ze (zh.below I.o af);replace N:=ze (N.o.below af);clear af hU aN;refine hdn ?_;simp only [xDR];clear c0 K c2 c3 M c5 D r0 r1 rL E V;go_wp2_with fail;refine (zmc b gs (w.heap.size+1) AT nt ct rows[k] _ (ws k) (Y0 rows ws k) (YZ rows ws k) _ j.o.book j.o.map j.o.box j.o.neb N.o (zh.more I.o j.o.chg.size) aM.o).mono ?_;rintro e w5 ⟨rfl,aO,aI,aA,aR⟩;replace j:=ze (j.o.add aO aI aA aR);clear aO aI aA aR I N aM;have a7:IntKind.i64.wrap ((k:Int)+1)=((k+1:Nat):Int):=by rw [IntKind.wrap_i64];have:=HO.o.few;omega
    go_wp2;go_roundw
    case rel=>exact ⟨k+1,by omega,by go_num,by rw [ae.o.1,ae.o.2];exact j⟩
    case measure=>simp [intOf];omega
  obtain rfl:rows.length=k:=by omega
  obtain ⟨g0,D⟩:=j.o.box.map;obtain ⟨w5,n5,bf,aS,aU,aY⟩:=j.o.map.range (P:=prog) Y6;have av:=ze (j.o.range aS aU j.o.chg.size);clear aS aU aY j;go_wp2_with fail
  try go_frame
  clear bf g0 D;generalize wr.heap.size=r at av |-
  go_loopw [10] (SuqR w b gs (w.heap.size+1) w.heap.size w.heap.size r (YZ rows ws rows.length) (Y0 rows ws rows.length)) (fun _ wr=>wr.rangeLeft (w.heap.size+1) r)
  case atStart=>exact ⟨_,n5,av,ze (fun s=>.inl rfl)⟩
  case round=>
   clear av;obtain ⟨F',n',j,HF⟩:=hrel
   rcases (j.o.rng).next (P:=prog) (ty:=0) with ⟨rfl,aQ⟩ | ⟨s0,v0,q1,w6,n6,aQ,a9,aH,hv,aE,aC,aJ⟩
   . obtain ⟨hM,aW⟩:=j.o.rng.over
     have Z:Hid (Zw _ (w.heap.size+1) (nzF (YZ rows ws rows.length))):=ze (by rw [<- zv8 HF.o aW];exact hM);obtain ⟨x4,A4,k4,M,s4,y4,B4,aq,ap,t4,J,ay⟩:=j.o.box;have ba:=ze ay;have o0:=J.cell 0;have o1:=J.cell 1;have o2:=J.cell 2;have o3:=J.cell 3;have o4:=J.cell 4;have o5:=J.cell 5;have o6:=J.cell 6;have G:=j.o.res;have a0:=G.cell 0;have a1:=G.cell 1;have a2:=G.cell 2;have a3:=G.cell 3;have a4:=G.cell 4;have a5:=G.cell 5;have a6:=G.cell 6;obtain ⟨f0,f1,f2,f3,f4,f5,f6⟩:=fp7 G;simp at o0 o1 o2 o3 o4 o5 o6 a0 a1 a2 a3 a4 a5 a6;have ag:=ze G;clear J ay G hM aW HF;go_wp2_with fail;have X:=zth (w:=wr) (m:=some (w.heap.size+1)) (x:=x4) (A:=A4) (k:=k4) (c:=M) (s:=s4) (y:=y4) (C:=B4) (k' :=aq) (c' :=ap) (t:=t4) ag.o;have e0:=X.cell 0;have e1:=X.cell 1;have e2:=X.cell 2;have e3:=X.cell 3;have e4:=X.cell 4;have e5:=X.cell 5
     have e6:=X.cell 6;simp only [World.sc7,World.rat1] at e0 e1 e2 e3 e4 e5 e6;simp at e0 e1 e2 e3 e4 e5 e6;refine bodyPost_ret (v:=.agg #[.map (some (w.heap.size+1)),.int .i64 x4,.slice A4 k4 M,.bool s4,.int .i64 y4,.slice B4 aq ap,.bool t4]) (by simp [results,results58,go_sem,e0,e1,e2,e3,e4,e5,e6]) rfl ?_;have O:Chg (· =w.heap.size) wr (World.sc7 wr w.heap.size (some (w.heap.size+1)) x4 A4 k4 M s4 y4 B4 aq ap t4):=zug;have aj:∀ z,z=w.heap.size->zO wr z:=fun z e=>by subst e;exact ag.o.noDig (zkv _ _ _ _ _ _ _ _ _ _ _)
     exact ⟨_,_,_,_,_,_,_,_,_,_,_,rfl,O.rat ba.o aj,Z.o.chg O (Z.o.ne ag.o) aj,j.o.neb,j.o.hBm,j.o.book.chg O (j.o.book.neB ag.o) aj,j.o.chg.trans (S:=fun x=>x=b\/w.heap.size<=x) (T:=fun x=>x=w.heap.size) O (fun x _ h=>.inr (Nat.le_of_eq h.symm))⟩
   . obtain ⟨x1,A1,k1,K,s1,y1,B1,ao,aw,t1,rfl⟩:=hv.agg
     have aG:=ze (j.o.turn (.inl rfl) aJ aE);have u:=zf w6 (.cells #[.int .i64 x1,.slice A1 k1 K,.bool s1,.int .i64 y1,.slice B1 ao aw,.bool t1] 60);have ai:=ze (Blk.new w6 60 #[.int .i64 x1,.slice A1 k1 K,.bool s1,.int .i64 y1,.slice B1 ao aw,.bool t1]);have F:=ze (aG.o.below u);have am:=ze (hv.below u);have aV:=ze aH;have aD:=ze aC;clear u hv aE aJ aG aH aC
     go_upto_region 11 with fail
     clear aQ a9;generalize w6.alloc (.cells #[.int .i64 x1,.slice A1 k1 K,.bool s1,.int .i64 y1,.slice B1 ao aw,.bool t1] 60)=W7 at ai F am |-;generalize w6.heap.size=gx at ai |-;obtain ⟨r0,r1,r2,r3,r4,r5,_⟩:=bq6 ai;go_wp2_with fail;refine (xK _ q1 _ am.o).mono ?_;rintro e w8 ⟨rfl,aB⟩;replace F:=ze (F.o.below aB);clear aB r0 r1 r2 r3 r4 r5 ai am
     by_cases l:q1=0
     rotate_left
     . obtain ⟨σ,R⟩:=uQ (XG q1 0)
       have aP:¬ σ=0:=fun e=>l (by
        have:=zh3 q1;rw [<- R,e] at this
        simpa using this.symm)
       rw [<- R];replace F:=ze (F.o.stays (fun e=>l (by rw [aV.o] at e;injection e)));clear R l;go_wp2;go_roundw
       case rel=>exact ⟨_,n6,F,HF⟩
       case measure=>rw [F.o.rng.left_eq,j.o.rng.left_eq];exact aD.o
     have ab:XG q1 0=0:=by rw [l];rfl
     rw [ab];obtain ⟨g0,D⟩:=F.o.box.map;obtain ⟨w9,n9,bg,aF,aK,O⟩:=F.o.rng.drop (P:=prog) (ty:=0) Y6 Vq;have aT:=ze (F.o.turn (.inr rfl) O aF);have be:=ze aK
     have a8:Hid (∀ s,zto F' s0 s=YZ rows ws rows.length s\/(zto F' s0 s=none/\YZ rows ws rows.length s=some 0)):=ze (fun s=>by
      have h1:=HF.o s;unfold zto
      by_cases e:s=s0
      . subst e
        rw [if_pos rfl]
        rcases h1 with h1 | ⟨h1,h2⟩
        . exact .inr ⟨rfl,by rw [<- h1,aV.o,l]⟩
        . exact .inr ⟨rfl,h2⟩
      . rw [if_neg e];exact h1)
     clear aF O aK l ab D;go_wp2;go_roundw
     case rel=>exact ⟨_,n9,aT,a8⟩
     case measure=>rw [aT.o.rng.left_eq,j.o.rng.left_eq];have:=aD.o;have:=be.o;omega
def zg0 (xs:List Value) (k:Nat) (w:World) (q:Rat):Prop:=
 ∃ (x:Int) (A:Option Addr) (a c:Nat) (s:Bool) (y:Int) (B:Option Addr) (a' c' :Nat) (t:Bool),xs[k*6]?=some (.int .i64 x)/\xs[k*6+1]?=some (.slice A a c)/\xs[k*6+2]?=some (.bool s)/\
  xs[k*6+3]?=some (.int .i64 y)/\xs[k*6+4]?=some (.slice B a' c')/\xs[k*6+5]?=some (.bool t)/\zV w (.agg #[.int .i64 x,.slice A a c,.bool s,.int .i64 y,.slice B a' c',.bool t]) q
def Z6 (w:World) (base:Nat) (v:Value) (n:Nat) (f:Nat->Rat):Prop:=
 ∃ xs,vE w base 60 6 v n xs/\∀ k,k<n->zg0 xs k w (f k)
section
variable {S:Nat->Prop} {w w' :World} {base n:Nat} {v:Value} {f:Nat->Rat}
theorem zg0.chg {xs:List Value} {k:Nat} {q:Rat} (h:zg0 xs k w q) (hc:Chg S w w') (hS:∀ b,S b->zO w b):zg0 xs k w' q:=by
 obtain ⟨x,A,a,c,s,y,B,a',c',t,e,l,z,m,u,j,r⟩:=h
 exact ⟨x,A,a,c,s,y,B,a',c',t,e,l,z,m,u,j,hc.rat r hS⟩
theorem Z6.chg (h:Z6 w base v n f) (hc:Chg S w w') (h2:∀ b,v.ownBlock=some b->¬ S b) (hS:∀ b,S b->zO w b):Z6 w' base v n f:=by
 obtain ⟨xs,e,j⟩:=h
 exact ⟨xs,e.chg hc h2,fun k hk=>(j k hk).chg hc hS⟩
theorem Z6.below (h:Z6 w base v n f) (hb:Below w.heap.size w w'):Z6 w' base v n f:=h.chg (S:=fun _=>False) (Chg.of_below hb) (fun _ _ h=>h) (fun _ h=>h.elim)
theorem Z6.nil (w:World) (base:Nat) (f:Nat->Rat):Z6 w base (.slice none 0 0) 0 f:=⟨[],Zr _ _ _ _,fun k hk=>by omega⟩
theorem Z6.wts (h:Z6 w base v n f):zd7 w v n f:=by
 obtain ⟨xs,b,I⟩:=h
 rcases b.1.2 with ⟨rfl,r⟩ | ⟨g,l,j,rfl,hb,m,F,K,M,L⟩
 . subst r
   exact ⟨none,0,rfl,fun h=>by omega⟩
 . refine ⟨_,l,rfl,fun r=>⟨g,l,rfl,F,⟨⟨j,m,by omega,?_⟩,fun k e=>?_⟩⟩⟩
   . intro i d hd
     have e:Blk w g 60 j:=m;exact (b.2 g rfl) ⟨g,i,none⟩ rfl d (by rw [e.cell i];exact hd)
   obtain ⟨x,A,a,c,s,y,B,a',c',t,u,C,J,E,G,z,D⟩:=I k e
   refine ⟨x,A,a,c,s,y,B,a',c',t,?_,?_,?_,?_,?_,?_,D⟩
   . rw [b.1.cellAt _ (by omega)];exact u
   . rw [b.1.cellAt _ (by omega)];exact C
   . rw [b.1.cellAt _ (by omega)];exact J
   . rw [b.1.cellAt _ (by omega)];exact E
   . rw [b.1.cellAt _ (by omega)];exact G
   . rw [b.1.cellAt _ (by omega)];exact z
theorem Z6.push {w3:World} {v3:Value} {xs:List Value} {q:Rat} {f' :Nat->Rat} {x y:Int} {s t:Bool} {A B:Option Addr} {a c a' c' :Nat} (h1:vE w base 60 6 v n xs)
 (h3:∀ k,k<n->zg0 xs k w (f k))
 (hown:vE w3 base 60 6 v3 (n+1) (xs ++ [.int .i64 x,.slice A a c,.bool s,.int .i64 y,.slice B a' c',.bool t])) (hg:w.grownBy w3 v.ownBlock) (hv:zV w (.agg #[.int .i64 x,.slice A a c,.bool s,.int .i64 y,.slice B a' c',.bool t]) q)
 (hf:∀ k,k<n->f' k=f k) (hq:f' n=q):Z6 w3 base v3 (n+1) f' :=by
 have hl:xs.length=n*6:=h1.1.1
 have j:Chg (fun b=>v.ownBlock=some b) w w3:=⟨hg.os,hg.tape,hg.output,hg.size,fun k hk hS=>hg.block k hk (fun e=>hS e.symm)⟩
 have hS:∀ b,v.ownBlock=some b->zO w b:=h1.2
 refine ⟨_,hown,fun k hk=>?_⟩
 rcases uL k n with h | h
 . obtain ⟨L,A',z,N,r,K,E,J,l,I,m,C,M,F,G,u,D⟩:=h3 k h
   refine ⟨L,A',z,N,r,K,E,J,l,I,?_,?_,?_,?_,?_,?_,?_⟩
   . rw [List.getElem?_append_left (by omega)];exact m
   . rw [List.getElem?_append_left (by omega)];exact C
   . rw [List.getElem?_append_left (by omega)];exact M
   . rw [List.getElem?_append_left (by omega)];exact F
   . rw [List.getElem?_append_left (by omega)];exact G
   . rw [List.getElem?_append_left (by omega)];exact u
   . rw [hf k h];exact j.rat D hS
 . obtain rfl:k=n:=by omega
   refine ⟨x,A,a,c,s,y,B,a',c',t,?_,?_,?_,?_,?_,?_,?_⟩
   . rw [List.getElem?_append_right (by omega),hl,show k*6 - k*6=0 by omega];rfl
   . rw [List.getElem?_append_right (by omega),hl,show k*6+1 - k*6=1 by omega];rfl
   . rw [List.getElem?_append_right (by omega),hl,show k*6+2 - k*6=2 by omega];rfl
   . rw [List.getElem?_append_right (by omega),hl,show k*6+3 - k*6=3 by omega];rfl
   . rw [List.getElem?_append_right (by omega),hl,show k*6+4 - k*6=4 by omega];rfl
   . rw [List.getElem?_append_right (by omega),hl,show k*6+5 - k*6=5 by omega];rfl
   . rw [hq];exact j.rat hv hS
end
def zmm (t:List UInt8):Option Rat:=match zj t with | none=>none | some q=>if q<0 then none else some q
def Zx (l:List (List UInt8)) (k:Nat):Rat:=(zmm (l.getD k [])).getD 0
def vT (l:List (List UInt8)) (n:Nat):Bool:=decide (l.length=n) && l.all fun t=>(zmm t).isSome
def zwn (w:World) (l:List (List UInt8)) (n:Nat) (e:Ending) (w' :World):Prop:=
 ∃ v,e= .returned (.tuple #[v,.bool (vT l n)])/\(vT l n=true->zd7 w' v l.length (Zx l))/\Below w.heap.size w w'
def WghR (w0:World) (wv:Value) (l:List (List UInt8)) (iv ov:Value) (wr:World):Prop:=
 ∃ (i:Nat) (v:Value),i<=l.length/\iv= .int .i64 i/\ov=v/\Hid (Z6 wr w0.heap.size v i (Zx l))/\Hid (∀ j,j<i->(zmm (l.getD j [])).isSome=true)/\Hid (zT wr w0.heap.size wv l)/\Hid (Below w0.heap.size w0 wr)
theorem ztz {l:List (List UInt8)} {n i:Nat} (hi:i<l.length) (h:zmm l[i]=none):vT l n=false:=by
 unfold vT
 rw [Bool.and_eq_false_iff]
 refine .inr (by
  rw [<- Bool.not_eq_true,List.all_eq_true]
  intro b
  have:=b l[i] (uO hi)
  rw [h] at this
  cases this)
theorem zkk {l:List (List UInt8)} {n:Nat} (h:¬ l.length=n):vT l n=false:=by
 unfold vT
 rw [uF h];rfl
theorem zru {l:List (List UInt8)} (h:∀ j,j<l.length->(zmm (l.getD j [])).isSome=true):vT l l.length=true:=by
 unfold vT
 rw [uE rfl,Bool.true_and,List.all_eq_true]
 intro t b
 obtain ⟨i,hi,rfl⟩:=List.mem_iff_getElem.1 b
 have:=h i hi
 simpa [List.getD,List.getElem?_eq_getElem hi] using this
set_option maxRecDepth 100000 in
theorem zfb (b:Nat) (rv:Value) (A:Option Addr) (n c nr cr:Nat) (AR:Option Addr) (l:List (List UInt8)) (w:World) (hw:zT w w.heap.size (.slice A n c) l) (hnr:nr<=100000):
 Calls prog 57 #[.map (some b),.slice AR nr cr,.slice A n c] w (zwn w l nr):=by
 obtain rfl:=hw.len
 have h1:l.length<=100000:=by obtain ⟨_,_,_,_,_,h,_⟩:=id hw;exact h
 have ak:∀ x∈l,yc x:=by obtain ⟨_,_,_,_,_,_,_,h⟩:=id hw;exact h
 have r:=ze hw
 have aE:=ze ak
 have m:=ze (xh w)
 clear hw ak
 go_in
 by_cases aa:l.length=nr
 rotate_left
 . have aF:((l.length:Int) == (nr:Int))=false:=uD (by omega)
   go_wp2;go_ret2;exact ⟨.slice none 0 0,by rw [zkk aa];rfl,(fun h=>by rw [zkk aa] at h;cases h),m.o⟩
 subst aa
 have aI:(l.length:Int)=(l.length:Int):=rfl;go_wp2
 go_loopw [20,8] (WghR w (.slice A l.length c) l) (fun iv _ _=>l.length - (intOf iv).toNat)
 case atStart=>exact ⟨0,_,uB,rfl,rfl,Z6.nil _ _ _,fun j hj=>by omega,r,m⟩
 case round=>
  clear m r;obtain ⟨i,v,hi,rfl,rfl,z,HY,r,m⟩:=hrel
  by_cases Z:i<l.length
  rotate_left
  . obtain rfl:l.length=i:=by omega
    obtain ⟨xs,Q,_⟩:=id z.o;obtain ⟨A5,n5,c5,rfl⟩:=zco Q;clear Q;go_wp2;go_ret2;exact ⟨.slice A5 n5 c5,by rw [zru HY.o];rfl,(fun _=>z.o.wts),m.o⟩
  have aJ:(i:Int)<(l.length:Int):=by omega
  obtain ⟨ad,eA,aG,p0⟩:=r.o.at_ Z;subst eA;have ab:=Zu ⟨l[i].toArray⟩ wr (by rw [<- zt,yG];exact aE.o _ (uO Z));simp only [yG] at ab;have ac:=ze ab;have af:Hid (l.getD i []=l[i]):=by show _=_;simp [List.getD,List.getElem?_eq_getElem Z]
  have M:=ze (fun n=>ztz (n:=n) Z);generalize ht:l[i]=t at p0 ac af M;clear ab ht;go_wp2_with fail;refine ac.o.mono ?_;rintro e w2 ⟨aH,b2,rfl,⟨x,J,D,B,s,y,G,F,E,I,rfl⟩,au,hq,V⟩;have U:=ze au;have HQ:=ze hq;replace z:=ze (z.o.below V);replace r:=ze (r.o.below V);replace m:=eb_ m V;clear au hq V ac p0;have C:=zf w2 (.cells #[.int .i64 x,.slice J D B,.bool s,.int .i64 y,.slice G F E,.bool I] 60);have N:=ze (Blk.new w2 60 #[.int .i64 x,.slice J D B,.bool s,.int .i64 y,.slice G F E,.bool I]);replace z:=ze (z.o.below C);replace r:=ze (r.o.below C);replace m:=eb_ m C;have Y:=ze (fun q h=>(HQ.o q h).below C);clear C HQ
  go_upto_region 8 with fail
  generalize w2.alloc (.cells #[.int .i64 x,.slice J D B,.bool s,.int .i64 y,.slice G F E,.bool I] 60)=W2 at N Y z r m |-;generalize w2.heap.size=gr at N |-;obtain ⟨r0,r1,r2,r3,r4,r5,_⟩:=bq6 N
  cases hr:zj t with
  | none=>
    have hb:b2=false:=by rw [U.o,hr];rfl
    subst hb;have R:=ze (M.o l.length (by unfold zmm;rw [hr]));clear hr U Y M;go_wp2;go_ret2;exact ⟨.slice none 0 0,by rw [R.o];rfl,(fun h=>by rw [R.o] at h;cases h),m.o⟩
  | some q=>
    have hb:b2=true:=by rw [U.o,hr];rfl
    subst hb;have K:=ze (Y.o q hr);have X:=ze hr;clear hr U Y;go_wp2_with fail;refine (xK _ q _ K.o).mono ?_;rintro e w3 ⟨rfl,O⟩;have ao:=ze (N.o.below O N.o.lt);replace K:=ze (K.o.below O);replace z:=ze (z.o.below O);replace r:=ze (r.o.below O);replace m:=eb_ m O;clear O N r0 r1 r2 r3 r4 r5;obtain ⟨r0,r1,r2,r3,r4,r5,_⟩:=bq6 ao
    by_cases L:q<0
    . have hc:XG q 0<0:=by unfold XG;rw [if_pos L];decide
      have R:=ze (M.o l.length (by unfold zmm;rw [X.o];simp only;rw [if_pos L]));clear L M X;go_wp2;go_ret2;exact ⟨.slice none 0 0,by rw [R.o];rfl,(fun h=>by rw [R.o] at h;cases h),m.o⟩
    have hc:¬ XG q 0<0:=by unfold XG;rw [if_neg L];split<;>decide
    have an:Hid (zmm t=some q):=by show _=_;unfold zmm;rw [X.o];simp only;rw [if_neg L]
    clear L M X;have C:=zf w3 (.cells #[.int .i64 x,.slice J D B,.bool s,.int .i64 y,.slice G F E,.bool I] 60);have ar:=Blk.new w3 60 #[.int .i64 x,.slice J D B,.bool s,.int .i64 y,.slice G F E,.bool I]
    have am:∀ (j:Nat) (u:Value),[Value.int .i64 x,.slice J D B,.bool s,.int .i64 y,.slice G F E,.bool I][j]?=some u->(w3.alloc (.cells #[.int .i64 x,.slice J D B,.bool s,.int .i64 y,.slice G F E,.bool I] 60)).cell? ((⟨w3.heap.size,0,none⟩:Addr).add j)=some u:=by
     intro j u hu
     have e:((⟨w3.heap.size,0,none⟩:Addr).add j)=⟨w3.heap.size,j,none⟩:=by
      unfold Addr.add
      by_cases h:j=0
      . subst h;rfl
      simp [h]
     rw [e,ar.cell j, <- hu]
     simp
    have ah:∀ u∈[Value.int .i64 x,.slice J D B,.bool s,.int .i64 y,.slice G F E,.bool I],u.oneCell' =true:=by intro u hu;simp at hu;rcases hu with rfl | rfl | rfl | rfl | rfl | rfl<;>rfl
    have al:∀ u∈[Value.int .i64 x,.slice J D B,.bool s,.int .i64 y,.slice G F E,.bool I],ZP u:=by
     intro u hu;simp at hu;rcases hu with rfl | rfl | rfl | rfl | rfl | rfl<;>first | exact xe _ | exact yf _ _ _ | exact vH _
    have ai:∀ u∈(Value.agg #[.int .i64 0,.slice none 0 0,.bool false,.int .i64 0,.slice none 0 0,.bool false]).cells,ZP u:=by
     intro u hu;simp [Value.cells] at hu;rcases hu with rfl | rfl | rfl | rfl | rfl | rfl<;>first | exact xe _ | exact yf _ _ _ | exact vH _
    obtain ⟨i0,aC,av,aD,az⟩:=info_parts zk8;replace z:=ze (z.o.below C);replace r:=ze (r.o.below C);replace m:=eb_ m C;replace K:=ze (K.o.below C);obtain ⟨xs,Q,ap⟩:=z.o;have S:=ze Q;have aq:=ze ap;have ag:Hid (w.heap.size<=(w3.alloc (.cells #[.int .i64 x,.slice J D B,.bool s,.int .i64 y,.slice G F E,.bool I] 60)).heap.size):=m.o.size;clear C ar Q ap z;go_wp2_with (at_builtin;go_must (refine yk (P:=prog) rfl (.tmp 36) (.tmp 38) _ rfl w.heap.size 60 i0 _ 6 80 underlying61 aC av aD az rfl (by omega) _ i xs rfl S.o ⟨w3.heap.size,0,none⟩ 1 1 [Value.int .i64 x,.slice J D B,.bool s,.int .i64 y,.slice G F E,.bool I] rfl rfl (by omega) am ah al ai ?o4 ?o5 ?o6 ?_))
    case o4=>unfold maxLen;omega
    case o5=>omega
    case o6=>exact ag.o
    intro aw w4 aj T ay;clear am ah al ai;have ae:=fun b hb=>(S.o.1.lt b hb).1
    have HP:Hid (Z6 w4 w.heap.size aw (i+1) (Zx l)):=Z6.push S.o aq.o aj T K.o (fun k hk=>rfl) (by unfold Zx;rw [af.o,an.o];rfl);have ax:Hid (zT w4 w.heap.size (.slice (some ad) l.length c) l):=r.o.chg (X6 T) (fun b hb e=>absurd hb (Nat.not_lt.2 (ae b e)));have aB:Hid (Below w.heap.size w w4):=m.o.grown T m.o.size ae
    have aA:Hid (∀ j,j<i+1->(zmm (l.getD j [])).isSome=true):=ze fun j hj=>by
     by_cases e:j=i
     . subst e;rw [af.o,an.o];rfl
     exact HY.o j (by omega)
    clear S aq r m aj T ay ae HY K ao r0 r1 r2 r3 r4 r5 ag;go_wp2;go_roundw
    case rel=>exact ⟨i+1,_,by omega,by go_num,rfl,HP,aA,ax,aB⟩
    case measure=>simp [intOf];omega
end Go.Proofs.YtobdoblpnanclaaGreatDoor
