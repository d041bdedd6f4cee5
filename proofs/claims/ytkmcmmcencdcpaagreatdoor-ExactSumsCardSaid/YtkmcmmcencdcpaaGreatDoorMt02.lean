/- Parts of the proof: memory, numbers, walks of the functions that are called. -/
import Derived.Below
import Derived.Deep.AppendLies
import Derived.Deep.Draws
import Derived.Laws.OwnMore
import Derived.Laws.Rows
import Derived.WalkKit
import Derived.Test.YtkmcmmcencdcpaaGreatDoorMt01
set_option linter.unusedVariables false
set_option linter.unusedSimpArgs false
namespace Go.Proofs.YtkmcmmcencdcpaaGreatDoor
open Go.RowKit
theorem ze {p:Prop} (h:p):Hid p:=h
theorem zI {p:Prop} (h:Hid p):p:=h
theorem zF (a:Addr) (n:Nat):(a.add n).block=a.block:=by unfold Addr.add;split<;>rfl
theorem zbw (a:Addr) (i j:Nat):(a.add i).add j=a.add (i+j):=by
 unfold Addr.add
 by_cases hi:i=0<;>by_cases hj:j=0<;>simp [hi,hj,Nat.add_assoc]
def zY (w:World) (B size:Nat) (A:Option Addr) (n:Nat) (xs:List Value):Prop:=
 xs.length=n*size/\(0<n->∃ ad,A=some ad/\ad.block<B/\∀ j u,xs[j]?=some u->w.cell? (ad.add j)=some u)
section
variable {w w' :World} {B B' size n:Nat} {A:Option Addr} {xs:List Value}
theorem zY.none_:zY w B size A 0 []:=⟨by simp,fun h=>absurd h (by omega)⟩
theorem zY.at_ {k:Nat} (h:zY w B 1 A n xs) (hk:k<n):∃ ad u,A=some ad/\ad.block<B/\xs[k]?=some u/\w.cell? (ad.add k)=some u:=by
 obtain ⟨ad,e,hb,hc⟩:=h.2 (by omega)
 have hl:k<xs.length:=by have:=h.1;omega
 exact ⟨ad,xs[k],e,hb,List.getElem?_eq_getElem hl,hc k _ (List.getElem?_eq_getElem hl)⟩
theorem zY.keep (h:zY w B size A n xs) (hk:∀ p:Addr,p.block<B->w'.cell? p=w.cell? p):zY w' B size A n xs:=
 ⟨h.1,fun hn=>by
  obtain ⟨ad,e,hb,hc⟩:=h.2 hn
  exact ⟨ad,e,hb,fun j u hu=>(hk _ (by rw [zF];exact hb)).trans (hc j u hu)⟩⟩
theorem zY.more (h:zY w B size A n xs) (hB:B<=B'):zY w B' size A n xs:=
 ⟨h.1,fun hn=>by
  obtain ⟨ad,e,hb,hc⟩:=h.2 hn
  exact ⟨ad,e,by omega,hc⟩⟩
theorem zY.below (h:zY w B size A n xs) (hb:Below B w w'):zY w' B size A n xs:=h.keep fun _ hp=>hb.cell hp
theorem zY.drew (h:zY w B size A n xs):zY w.drew B size A n xs:=h
theorem zY.alloc (h:zY w B size A n xs) (hB:B<=w.heap.size) (o:Obj):zY (w.alloc o) B size A n xs:=h.keep fun p hp=>World.cell?_alloc_lt w o p (by omega)
theorem zY.cut (h:zY w B size A n xs) {k cap:Nat} (hk:k<=n) (hc:n<=cap):
 zY w B size (if cap=k then A else A.map (·.add (k*size))) (n - k) (xs.drop (k*size)):=by
 refine ⟨by rw [List.length_drop,h.1,Nat.sub_mul],fun hn=>?_⟩
 obtain ⟨ad,rfl,hb,hcell⟩:=h.2 (by omega)
 rw [if_neg (by omega)]
 refine ⟨ad.add (k*size),rfl,by rw [zF];exact hb,fun j u hu=>?_⟩
 rw [zbw]
 exact hcell _ u (by rw [<- hu,List.getElem?_drop])
theorem zY.head (h:zY w B size A n xs) {k:Nat} (hk:k<=n):zY w B size A k (xs.take (k*size)):=by
 refine ⟨by rw [List.length_take,h.1];exact Nat.min_eq_left (Nat.mul_le_mul_right _ hk),fun hn=>?_⟩
 obtain ⟨ad,rfl,hb,hcell⟩:=h.2 (by omega)
 exact ⟨ad,rfl,hb,fun j u hu=>hcell j u (by
  rw [List.getElem?_take] at hu
  split at hu
  . exact hu
  . cases hu)⟩
theorem zY.of_own {base:Nat} {e:TypeId} {c:Nat} (h:w.ownsRow base e size (.slice A n c) n xs):zY w w.heap.size size A n xs:=by
 refine ⟨h.1,fun hn=>?_⟩
 obtain ⟨g,cap,hv,_,hlt⟩:=h.form hn
 have hA:A=some ⟨g,0,none⟩:=by injection hv
 subst hA
 exact ⟨_,rfl,hlt,h.cells (g:=g) rfl⟩
end
def Blk (w:World) (g:Nat) (t:TypeId) (cs:Array Value):Prop:=w.heap[g]?=some (.cells cs t (0,0))
section
variable {w w' :World} {g:Nat} {t:TypeId} {cs:Array Value}
theorem Blk.lt (h:Blk w g t cs):g<w.heap.size:=by
 rcases Nat.lt_or_ge g w.heap.size with hlt | hge
 . exact hlt
 . unfold Blk at h;rw [Array.getElem?_eq_none hge] at h;cases h
theorem Blk.cell (h:Blk w g t cs) (i:Nat):w.cell? ⟨g,i,none⟩=cs[i]?:=cell_of_row w g i cs t (0,0) h
theorem Blk.frozen (h:Blk w g t cs) (i:Nat):w.frozen? ⟨g,i,none⟩=false:=by
 unfold Blk at h
 simp [World.frozen?,h]
theorem Blk.new (w:World) (t:TypeId) (cs:Array Value):Blk (w.alloc (.cells cs t)) w.heap.size t cs:=heap_alloc_new w _
theorem Blk.drew (h:Blk w g t cs):Blk w.drew g t cs:=h
theorem Blk.drewN (h:Blk w g t cs) (n:Nat):Blk (w.drewN n) g t cs:=h
theorem Blk.alloc (h:Blk w g t cs) (o:Obj):Blk (w.alloc o) g t cs:=(Below.heap_alloc w o g h.lt).trans h
theorem Blk.set_ (h:Blk w g t cs) (i:Nat) (u:Value):Blk (w.setCell ⟨g,i,none⟩ u) g t (cs.setIfInBounds i u):=by
 unfold Blk at h |-
 simp [World.setCell,Array.getElem?_modify,h]
theorem Blk.far (h:Blk w g t cs) {p:Addr} (hp:g≠p.block) (u:Value):Blk (w.setCell p u) g t cs:=(Below.heap_setCell w p u g hp).trans h
theorem Blk.below {B:Nat} (h:Blk w g t cs) (hb:Below B w w') (hg:g<B):Blk w' g t cs:=(hb.block g hg).trans h
theorem Blk.grown {row:Option Nat} (h:Blk w g t cs) (hb:w.grownBy w' row) (hg:some g≠row):Blk w' g t cs:=(hb.block g h.lt hg).trans h
theorem Blk.reads {n:Nat} (h:Blk w g t cs) (hn:n<=cs.size):zY w w.heap.size 1 (some ⟨g,0,none⟩) n (cs.toList.take n):=by
 refine ⟨by simp [Nat.min_eq_left hn],fun _=>⟨_,rfl,h.lt,fun j u hu=>?_⟩⟩
 have e:(⟨g,0,none⟩:Addr).add j=⟨g,j,none⟩:=by
  unfold Addr.add
  by_cases hj:j=0
  . subst hj;rfl
  . simp [hj]
 rw [e,h.cell j]
 rw [List.getElem?_take] at hu
 split at hu
 . rw [<- hu];simp
 . cases hu
end
theorem zsv {w:World} {g:Nat} {t:TypeId} {a0:Value} (h:Blk w g t #[a0]):w.cell? ⟨g,0,none⟩=some a0/\g<w.heap.size:=
 ⟨h.cell 0,h.lt⟩
theorem bkc2 {w:World} {g:Nat} {t:TypeId} {a0 a1:Value} (h:Blk w g t #[a0,a1]):w.cell? ⟨g,0,none⟩=some a0/\w.cell? ⟨g,1,none⟩=some a1/\g<w.heap.size:=
 ⟨h.cell 0,h.cell 1,h.lt⟩
theorem bkc3 {w:World} {g:Nat} {t:TypeId} {a0 a1 a2:Value} (h:Blk w g t #[a0,a1,a2]):w.cell? ⟨g,0,none⟩=some a0/\w.cell? ⟨g,1,none⟩=some a1/\w.cell? ⟨g,2,none⟩=some a2/\g<w.heap.size:=
 ⟨h.cell 0,h.cell 1,h.cell 2,h.lt⟩
theorem bkc5 {w:World} {g:Nat} {t:TypeId} {a0 a1 a2 a3 a4:Value} (h:Blk w g t #[a0,a1,a2,a3,a4]):w.cell? ⟨g,0,none⟩=some a0/\w.cell? ⟨g,1,none⟩=some a1/\w.cell? ⟨g,2,none⟩=some a2/\w.cell? ⟨g,3,none⟩=some a3/\w.cell? ⟨g,4,none⟩=some a4/\g<w.heap.size:=
 ⟨h.cell 0,h.cell 1,h.cell 2,h.cell 3,h.cell 4,h.lt⟩
theorem bkc6 {w:World} {g:Nat} {t:TypeId} {a0 a1 a2 a3 a4 a5:Value} (h:Blk w g t #[a0,a1,a2,a3,a4,a5]):w.cell? ⟨g,0,none⟩=some a0/\w.cell? ⟨g,1,none⟩=some a1/\w.cell? ⟨g,2,none⟩=some a2/\w.cell? ⟨g,3,none⟩=some a3/\w.cell? ⟨g,4,none⟩=some a4/\w.cell? ⟨g,5,none⟩=some a5/\g<w.heap.size:=
 ⟨h.cell 0,h.cell 1,h.cell 2,h.cell 3,h.cell 4,h.cell 5,h.lt⟩
theorem zsr {w:World} {g:Nat} {t:TypeId} {a0 a1 a2 a3 a4 a5 a6 a7 a8 a9:Value} (h:Blk w g t #[a0,a1,a2,a3,a4,a5,a6,a7,a8,a9]):w.cell? ⟨g,0,none⟩=some a0/\w.cell? ⟨g,1,none⟩=some a1/\w.cell? ⟨g,2,none⟩=some a2/\w.cell? ⟨g,3,none⟩=some a3/\w.cell? ⟨g,4,none⟩=some a4/\w.cell? ⟨g,5,none⟩=some a5/\w.cell? ⟨g,6,none⟩=some a6/\w.cell? ⟨g,7,none⟩=some a7/\w.cell? ⟨g,8,none⟩=some a8/\w.cell? ⟨g,9,none⟩=some a9/\g<w.heap.size:=
 ⟨h.cell 0,h.cell 1,h.cell 2,h.cell 3,h.cell 4,h.cell 5,h.cell 6,h.cell 7,h.cell 8,h.cell 9,h.lt⟩
def YE (ds:List Nat):List Value:=ds.map fun (d:Nat)=>Value.int .u32 (d:Int)
def Zp (ds:List Nat):List Value:=ds.map fun (d:Nat)=>Value.int .i64 (d:Int)
theorem vm (ds:List Nat):(YE ds).length=ds.length:=by simp [YE]
theorem Yw (ds:List Nat):(Zp ds).length=ds.length:=by simp [Zp]
theorem yQ {ds:List Nat} {k:Nat} (hk:k<ds.length):(YE ds)[k]?=some (.int .u32 (ds[k]:Int)):=by simp [YE,hk]
theorem xR {ds:List Nat} {k:Nat} (hk:k<ds.length):(Zp ds)[k]?=some (.int .i64 (ds[k]:Int)):=by simp [Zp,hk]
theorem zan (ds:List Nat) (k:Nat):(YE ds).take k=YE (ds.take k):=by simp [YE,List.map_take]
theorem zkc (ds:List Nat) (k:Nat):(Zp ds).take k=Zp (ds.take k):=by simp [Zp,List.map_take]
theorem X5 (a b:List Nat):Zp (a ++ b)=Zp a ++ Zp b:=by simp [Zp]
def Vb (w:World) (B:Nat) (v:Value) (n:Nat):Prop:=
 ∃ A c ds,v= .slice A ds.length c/\ds.length<=c/\c<=maxLen/\zY w B 1 A ds.length (YE ds)/\yJ 4294967296 ds/\val 4294967296 ds=n
abbrev y6 (w:World) (v:Value) (n:Nat):Prop:=Vb w w.heap.size v n
theorem Vb.below {w w' :World} {B B' :Nat} {v:Value} {n:Nat} (h:Vb w B v n) (hb:Below B w w') (hB:B<=B'):Vb w' B' v n:=by
 obtain ⟨A,c,ds,h1,h2,h3,h4,h5,h6⟩:=h
 exact ⟨A,c,ds,h1,h2,h3,(h4.below hb).more hB,h5,h6⟩
theorem y6.below {w w' :World} {v:Value} {n:Nat} (h:y6 w v n) (hb:Below w.heap.size w w'):y6 w' v n:=Vb.below h hb hb.size
def zo3 (w:World) (B n:Nat) (e:Ending) (w' :World):Prop:=∃ v,e= .returned v/\Vb w B v n/\w=w'
def XL (w:World) (n:Nat) (e:Ending) (w' :World):Prop:=∃ v,e= .returned v/\y6 w' v n/\Below w.heap.size w w'
theorem zj4 {ds:List Nat} {k:Nat} (hk:k<ds.length) (h:val 4294967296 (ds.take (k+1))=val 4294967296 ds) (h0:ds[k]=0):val 4294967296 (ds.take k)=val 4294967296 ds:=by
 rw [yH _ _ _ hk,h0] at h
 omega
def yv (ds:List Nat):Array Value:=(YE ds).toArray
theorem zeh (ds:List Nat):(yv ds).size=ds.length:=by simp [yv,vm]
theorem xm {ds:List Nat} {k:Nat} (hk:k<ds.length):(yv ds)[k]?=some (.int .u32 (ds[k]:Int)):=by
 unfold yv;rw [List.getElem?_toArray];exact yQ hk
theorem yK (ds:List Nat) (k d:Nat):(yv ds).setIfInBounds k (.int .u32 (d:Int))=yv (ds.set k d):=by
 unfold yv YE
 simp [List.map_set]
theorem zfe (n:Nat):madeCells #[Value.int .u32 0] n=yv (List.replicate n 0):=by
 apply Array.ext'
 rw [toList_madeCells_one]
 simp [yv,YE]
theorem ve {w:World} {g t:Nat} {ds:List Nat} (h:Blk w g t (yv ds)):zY w w.heap.size 1 (some ⟨g,0,none⟩) ds.length (YE ds):=by
 have:=h.reads (n:=ds.length) (by rw [zeh];exact Nat.le_refl _)
 rw [show (yv ds).toList.take ds.length=YE ds by rw [<- vm ds];simp [yv]] at this
 exact this
def RetD (w:World) (v:Value) (e:Ending) (w' :World):Prop:=e= .returned v/\∃ n,w' =w.drewN n
def Vc (w:World) (v:Value) (e:Ending) (w' :World):Prop:=e= .returned v/\Below w.heap.size w w'
theorem zl {B:Nat} {a w:World} (h:Below B a w) (n:Nat):Below B a (w.drewN n):=⟨h.os,h.tape,h.output,h.size,h.block⟩
def Ret2 (w:World) (v0 v1:Value) (e:Ending) (w' :World):Prop:=e= .returned (.tuple #[v0,v1])/\w=w'
def Vd (w:World) (v:Value) (e:Ending) (w' :World):Prop:=e= .returned v/\w=w'
section
variable {P:Program} {f:FuncId} {args:Array Value} {w:World} {n a:Nat} {v:Value}
theorem zpr (h:Calls P f args (w.drewN n) (Vd (w.drewN n) v)):Calls P f args (w.drewN n) fun e w'' =>e= .returned v/\∃ m,w'' =w.drewN m:=
 h.mono fun _ _ ⟨he,hm⟩=>⟨he,n,hm.symm⟩
theorem znh (h:Calls P f args (w.drewN (a+n)) (Vd (w.drewN (a+n)) v)):Calls P f args (w.drewN (a+n)) fun e w'' =>e= .returned v/\∃ m,w'' =w.drewN (a+m):=
 h.mono fun _ _ ⟨he,hm⟩=>⟨he,n,hm.symm⟩
end
theorem ext {a b c:World} (h:Below a.heap.size a b) (k:Below b.heap.size b c):Below a.heap.size a c:=h.trans (k.mono h.size)
theorem zf (w:World) (o:Obj):Below w.heap.size w (w.alloc o):=(Below.refl _ _).alloc (Nat.le_refl _) o
theorem xw (w:World):Below w.heap.size w w:=Below.refl _ _
theorem kb_ {w w2:World} {g:Nat} {t:TypeId} {cs:Array Value} (h:Hid (Blk w g t cs)) (hb:Below w.heap.size w w2):Hid (Blk w2 g t cs):=Blk.below h.out hb (Blk.lt h.out)
theorem eb_ {a b c:World} (h:Hid (Below a.heap.size a b)) (k:Below b.heap.size b c):Hid (Below a.heap.size a c):=ext h.out k
theorem zw (w:World) (n:Nat):Below w.heap.size w (w.drewN n):=zl (Below.refl _ _) n
structure Chg (S:Nat->Prop) (w w' :World):Prop where
 os:w'.os=w.os
 tape:w'.tape=w.tape
 output:w'.output=w.output
 size:w.heap.size<=w'.heap.size
 block:∀ k,k<w.heap.size->¬ S k->w'.heap[k]?=w.heap[k]?
section
variable {S T:Nat->Prop} {w w1 w2 w' :World}
theorem Chg.refl (w:World):Chg S w w:=⟨rfl,rfl,rfl,Nat.le_refl _,fun _ _ _=>rfl⟩
theorem Chg.of_below (h:Below w.heap.size w w'):Chg S w w' :=⟨h.os,h.tape,h.output,h.size,fun k hk _=>h.block k hk⟩
theorem Chg.of_grown {g:Nat} (h:w.grownBy w' (some g)) (hg:S g):Chg S w w' :=
 ⟨h.os,h.tape,h.output,h.size,fun k hk hS=>h.block k hk (fun e=>hS (by injection e with e;rw [e];exact hg))⟩
theorem Chg.trans (h:Chg S w w1) (k:Chg T w1 w2) (hT:∀ b,b<w.heap.size->T b->S b):Chg S w w2:=
 ⟨k.os.trans h.os,k.tape.trans h.tape,k.output.trans h.output,Nat.le_trans h.size k.size,
  fun i hi hS=>(k.block i (Nat.lt_of_lt_of_le hi h.size) (fun ht=>hS (hT i hi ht))).trans (h.block i hi hS)⟩
theorem Chg.mono (h:Chg S w w') (hT:∀ b,b<w.heap.size->S b->T b):Chg T w w' :=⟨h.os,h.tape,h.output,h.size,fun k hk hS=>h.block k hk (fun hs=>hS (hT k hk hs))⟩
theorem Chg.below {B:Nat} (h:Chg S w w') (hB:B<=w.heap.size) (hS:∀ b,S b->B<=b):Below B w w' :=
 ⟨h.os,h.tape,h.output,h.size,fun k hk=>h.block k (Nat.lt_of_lt_of_le hk hB) (fun hs=>by have:=hS k hs;omega)⟩
theorem Chg.blk {g:Nat} {t:TypeId} {cs:Array Value} (h:Chg S w w') (hk:Blk w g t cs) (hg:¬ S g):Blk w' g t cs:=(h.block g hk.lt hg).trans hk
theorem Chg.cell {p:Addr} {v:Value} (h:Chg S w w') (hc:w.cell? p=some v) (hp:¬ S p.block):w'.cell? p=some v:=
 (World.cell?_of_block (h.block p.block (World.block_lt_of_cell? w _ hc) hp)).trans hc
end
theorem Chg.setCell {S:Nat->Prop} {w w' :World} (h:Chg S w w') {p:Addr} (hp:S p.block) (u:Value):Chg S w (w'.setCell p u):=
 ⟨h.os,h.tape,h.output,by have:=h.size;simpa [World.setCell] using this,fun k hk hS=>(Below.heap_setCell w' p u k (fun e=>hS (e ▸ hp))).trans (h.block k hk hS)⟩
end Go.Proofs.YtkmcmmcencdcpaaGreatDoor
