/- Parts of the proof. -/
import Derived.Below
import Derived.Deep.AppendLies
import Derived.Deep.Draws
import Derived.Laws.OwnMore
import Derived.Laws.Rows
import Derived.WalkKit
import Derived.Test.YtobdoblpnanclaaGreatDoorMo01
import Derived.BigQuiet
import Derived.Deep.QuietTactic
import Derived.WalkLawsBesides
import Derived.WalkSpells
import Derived.Test.YtobdoblpnanclaaGreatDoorRows
set_option linter.all false
namespace Go.Proofs.YtobdoblpnanclaaGreatDoor
open Proofs.Tryz Go.RowKit
theorem ze {p:Prop} (h:p):Hid p:=h
theorem zW {p:Prop} (h:Hid p):p:=h
theorem zU (a:Addr) (n:Nat):(a.add n).block=a.block:=by unfold Addr.add;split<;>rfl
theorem zl8 (a:Addr) (i j:Nat):(a.add i).add j=a.add (i+j):=by
 unfold Addr.add
 by_cases hi:i=0<;>by_cases b:j=0<;>simp [hi,b,Nat.add_assoc]
def ys (w:World) (B size:Nat) (A:Option Addr) (n:Nat) (xs:List Value):Prop:=
 xs.length=n*size/\(0<n->∃ ad,A=some ad/\ad.block<B/\∀ j u,xs[j]?=some u->w.cell? (ad.add j)=some u)
section
variable {w w' :World} {B B' size n:Nat} {A:Option Addr} {xs:List Value}
theorem ys.none_:ys w B size A 0 []:=⟨by simp,fun h=>absurd h (by omega)⟩
theorem ys.at_ {k:Nat} (h:ys w B 1 A n xs) (hk:k<n):∃ b u,A=some b/\b.block<B/\xs[k]?=some u/\w.cell? (b.add k)=some u:=by
 obtain ⟨b,e,hb,j⟩:=h.2 (by omega)
 have hl:k<xs.length:=by have:=h.1;omega
 exact ⟨b,xs[k],e,hb,List.getElem?_eq_getElem hl,j k _ (List.getElem?_eq_getElem hl)⟩
theorem ys.keep (h:ys w B size A n xs) (hk:∀ p:Addr,p.block<B->w'.cell? p=w.cell? p):ys w' B size A n xs:=
 ⟨h.1,fun hn=>by
  obtain ⟨l,e,hb,b⟩:=h.2 hn
  exact ⟨l,e,hb,fun j u hu=>(hk _ (by rw [zU];exact hb)).trans (b j u hu)⟩⟩
theorem ys.more (h:ys w B size A n xs) (hB:B<=B'):ys w B' size A n xs:=
 ⟨h.1,fun hn=>by
  obtain ⟨j,e,hb,b⟩:=h.2 hn
  exact ⟨j,e,by omega,b⟩⟩
theorem ys.below (h:ys w B size A n xs) (hb:Below B w w'):ys w' B size A n xs:=h.keep fun _ hp=>hb.cell hp
theorem ys.alloc (h:ys w B size A n xs) (hB:B<=w.heap.size) (o:Obj):ys (w.alloc o) B size A n xs:=h.keep fun p hp=>World.cell?_alloc_lt w o p (by omega)
theorem ys.head (h:ys w B size A n xs) {k:Nat} (hk:k<=n):ys w B size A k (xs.take (k*size)):=by
 refine ⟨by rw [List.length_take,h.1];exact Nat.min_eq_left (Nat.mul_le_mul_right _ hk),fun hn=>?_⟩
 obtain ⟨e,rfl,hb,b⟩:=h.2 (by omega)
 exact ⟨e,rfl,hb,fun j u hu=>b j u (by
  rw [List.getElem?_take] at hu
  split at hu
  . exact hu
  cases hu)⟩
theorem ys.of_own {base:Nat} {e:TypeId} {c:Nat} (h:w.ownsRow base e size (.slice A n c) n xs):ys w w.heap.size size A n xs:=by
 refine ⟨h.1,fun hn=>?_⟩
 obtain ⟨g,l,hv,_,j⟩:=h.form hn
 have b:A=some ⟨g,0,none⟩:=by injection hv
 subst b
 exact ⟨_,rfl,j,h.cells (g:=g) rfl⟩
end
def Blk (w:World) (g:Nat) (t:TypeId) (cs:Array Value):Prop:=w.heap[g]?=some (.cells cs t (0,0))
section
variable {w w' :World} {g:Nat} {t:TypeId} {cs:Array Value}
theorem Blk.lt (h:Blk w g t cs):g<w.heap.size:=by
 rcases uL g w.heap.size with e | b
 . exact e
 . unfold Blk at h;rw [Array.getElem?_eq_none b] at h;cases h
theorem Blk.cell (h:Blk w g t cs) (i:Nat):w.cell? ⟨g,i,none⟩=cs[i]?:=cell_of_row w g i cs t (0,0) h
theorem Blk.frozen (h:Blk w g t cs) (i:Nat):w.frozen? ⟨g,i,none⟩=false:=by
 unfold Blk at h
 simp [World.frozen?,h]
theorem Blk.new (w:World) (t:TypeId) (cs:Array Value):Blk (w.alloc (.cells cs t)) w.heap.size t cs:=heap_alloc_new w _
theorem Blk.drew (h:Blk w g t cs):Blk w.drew g t cs:=h
theorem Blk.drewN (h:Blk w g t cs) (n:Nat):Blk (w.drewN n) g t cs:=h
theorem Blk.alloc (h:Blk w g t cs) (o:Obj):Blk (w.alloc o) g t cs:=(Below.heap_alloc w o g h.lt).trans h
theorem Blk.set_ (h:Blk w g t cs) (i:Nat) (u:Value):Blk (w.setCell ⟨g,i,none⟩ u) g t (cs.setIfInBounds i u):=by
 unfold Blk at h |-
 simp [World.setCell,Array.getElem?_modify,h]
theorem Blk.far (h:Blk w g t cs) {p:Addr} (hp:g≠p.block) (u:Value):Blk (w.setCell p u) g t cs:=(Below.heap_setCell w p u g hp).trans h
theorem Blk.below {B:Nat} (h:Blk w g t cs) (hb:Below B w w') (hg:g<B):Blk w' g t cs:=(hb.block g hg).trans h
theorem Blk.grown {row:Option Nat} (h:Blk w g t cs) (hb:w.grownBy w' row) (hg:some g≠row):Blk w' g t cs:=(hb.block g h.lt hg).trans h
theorem Blk.reads {n:Nat} (h:Blk w g t cs) (hn:n<=cs.size):ys w w.heap.size 1 (some ⟨g,0,none⟩) n (cs.toList.take n):=by
 refine ⟨by simp [Nat.min_eq_left hn],fun _=>⟨_,rfl,h.lt,fun j u hu=>?_⟩⟩
 have e:(⟨g,0,none⟩:Addr).add j=⟨g,j,none⟩:=by
  unfold Addr.add
  by_cases b:j=0
  . subst b;rfl
  simp [b]
 rw [e,h.cell j]
 rw [List.getElem?_take] at hu
 split at hu
 . rw [<- hu];simp
 cases hu
end
section
variable {w:World} {g:Nat} {t:TypeId} {cs:List Value}
theorem bp1 {a0:Value} (h:Blk w g t (a0::cs).toArray):w.cell? ⟨g,0,none⟩=some a0∧g<w.heap.size:=
 ⟨h.cell 0,h.lt⟩
theorem bq1 {a0:Value} (h:Hid (Blk w g t (a0::cs).toArray)):w.cell? ⟨g,0,none⟩=some a0∧g<w.heap.size:=
 ⟨h.out.cell 0,h.out.lt⟩
theorem bq2 {a0 a1:Value} (h:Hid (Blk w g t (a0::a1::cs).toArray)):w.cell? ⟨g,0,none⟩=some a0∧w.cell? ⟨g,1,none⟩=some a1∧g<w.heap.size:=
 ⟨h.out.cell 0,h.out.cell 1,h.out.lt⟩
theorem bp3 {a0 a1 a2:Value} (h:Blk w g t (a0::a1::a2::cs).toArray):w.cell? ⟨g,0,none⟩=some a0∧w.cell? ⟨g,1,none⟩=some a1∧w.cell? ⟨g,2,none⟩=some a2∧g<w.heap.size:=
 ⟨h.cell 0,h.cell 1,h.cell 2,h.lt⟩
theorem bq3 {a0 a1 a2:Value} (h:Hid (Blk w g t (a0::a1::a2::cs).toArray)):w.cell? ⟨g,0,none⟩=some a0∧w.cell? ⟨g,1,none⟩=some a1∧w.cell? ⟨g,2,none⟩=some a2∧g<w.heap.size:=
 ⟨h.out.cell 0,h.out.cell 1,h.out.cell 2,h.out.lt⟩
theorem bp5 {a0 a1 a2 a3 a4:Value} (h:Blk w g t (a0::a1::a2::a3::a4::cs).toArray):w.cell? ⟨g,0,none⟩=some a0∧w.cell? ⟨g,1,none⟩=some a1∧w.cell? ⟨g,2,none⟩=some a2∧w.cell? ⟨g,3,none⟩=some a3∧w.cell? ⟨g,4,none⟩=some a4∧g<w.heap.size:=
 ⟨h.cell 0,h.cell 1,h.cell 2,h.cell 3,h.cell 4,h.lt⟩
theorem bq5 {a0 a1 a2 a3 a4:Value} (h:Hid (Blk w g t (a0::a1::a2::a3::a4::cs).toArray)):w.cell? ⟨g,0,none⟩=some a0∧w.cell? ⟨g,1,none⟩=some a1∧w.cell? ⟨g,2,none⟩=some a2∧w.cell? ⟨g,3,none⟩=some a3∧w.cell? ⟨g,4,none⟩=some a4∧g<w.heap.size:=
 ⟨h.out.cell 0,h.out.cell 1,h.out.cell 2,h.out.cell 3,h.out.cell 4,h.out.lt⟩
theorem bp6 {a0 a1 a2 a3 a4 a5:Value} (h:Blk w g t (a0::a1::a2::a3::a4::a5::cs).toArray):w.cell? ⟨g,0,none⟩=some a0∧w.cell? ⟨g,1,none⟩=some a1∧w.cell? ⟨g,2,none⟩=some a2∧w.cell? ⟨g,3,none⟩=some a3∧w.cell? ⟨g,4,none⟩=some a4∧w.cell? ⟨g,5,none⟩=some a5∧g<w.heap.size:=
 ⟨h.cell 0,h.cell 1,h.cell 2,h.cell 3,h.cell 4,h.cell 5,h.lt⟩
theorem bq6 {a0 a1 a2 a3 a4 a5:Value} (h:Hid (Blk w g t (a0::a1::a2::a3::a4::a5::cs).toArray)):w.cell? ⟨g,0,none⟩=some a0∧w.cell? ⟨g,1,none⟩=some a1∧w.cell? ⟨g,2,none⟩=some a2∧w.cell? ⟨g,3,none⟩=some a3∧w.cell? ⟨g,4,none⟩=some a4∧w.cell? ⟨g,5,none⟩=some a5∧g<w.heap.size:=
 ⟨h.out.cell 0,h.out.cell 1,h.out.cell 2,h.out.cell 3,h.out.cell 4,h.out.cell 5,h.out.lt⟩
theorem bp7 {a0 a1 a2 a3 a4 a5 a6:Value} (h:Blk w g t (a0::a1::a2::a3::a4::a5::a6::cs).toArray):w.cell? ⟨g,0,none⟩=some a0∧w.cell? ⟨g,1,none⟩=some a1∧w.cell? ⟨g,2,none⟩=some a2∧w.cell? ⟨g,3,none⟩=some a3∧w.cell? ⟨g,4,none⟩=some a4∧w.cell? ⟨g,5,none⟩=some a5∧w.cell? ⟨g,6,none⟩=some a6∧g<w.heap.size:=
 ⟨h.cell 0,h.cell 1,h.cell 2,h.cell 3,h.cell 4,h.cell 5,h.cell 6,h.lt⟩
theorem bq8 {a0 a1 a2 a3 a4 a5 a6 a7:Value} (h:Hid (Blk w g t (a0::a1::a2::a3::a4::a5::a6::a7::cs).toArray)):w.cell? ⟨g,0,none⟩=some a0∧w.cell? ⟨g,1,none⟩=some a1∧w.cell? ⟨g,2,none⟩=some a2∧w.cell? ⟨g,3,none⟩=some a3∧w.cell? ⟨g,4,none⟩=some a4∧w.cell? ⟨g,5,none⟩=some a5∧w.cell? ⟨g,6,none⟩=some a6∧w.cell? ⟨g,7,none⟩=some a7∧g<w.heap.size:=
 ⟨h.out.cell 0,h.out.cell 1,h.out.cell 2,h.out.cell 3,h.out.cell 4,h.out.cell 5,h.out.cell 6,h.out.cell 7,h.out.lt⟩
theorem bq9 {a0 a1 a2 a3 a4 a5 a6 a7 a8:Value} (h:Hid (Blk w g t (a0::a1::a2::a3::a4::a5::a6::a7::a8::cs).toArray)):w.cell? ⟨g,0,none⟩=some a0∧w.cell? ⟨g,1,none⟩=some a1∧w.cell? ⟨g,2,none⟩=some a2∧w.cell? ⟨g,3,none⟩=some a3∧w.cell? ⟨g,4,none⟩=some a4∧w.cell? ⟨g,5,none⟩=some a5∧w.cell? ⟨g,6,none⟩=some a6∧w.cell? ⟨g,7,none⟩=some a7∧w.cell? ⟨g,8,none⟩=some a8∧g<w.heap.size:=
 ⟨h.out.cell 0,h.out.cell 1,h.out.cell 2,h.out.cell 3,h.out.cell 4,h.out.cell 5,h.out.cell 6,h.out.cell 7,h.out.cell 8,h.out.lt⟩
end
theorem fp3 {w:World} {g:Nat} {t:TypeId} {cs:Array Value} (h:Blk w g t cs):w.frozen? ⟨g,0,none⟩=false∧w.frozen? ⟨g,1,none⟩=false∧w.frozen? ⟨g,2,none⟩=false:=
 ⟨h.frozen 0,h.frozen 1,h.frozen 2⟩
theorem fq3 {w:World} {g:Nat} {t:TypeId} {cs:Array Value} (h:Hid (Blk w g t cs)):w.frozen? ⟨g,0,none⟩=false∧w.frozen? ⟨g,1,none⟩=false∧w.frozen? ⟨g,2,none⟩=false:=
 ⟨h.out.frozen 0,h.out.frozen 1,h.out.frozen 2⟩
theorem fp5 {w:World} {g:Nat} {t:TypeId} {cs:Array Value} (h:Blk w g t cs):w.frozen? ⟨g,0,none⟩=false∧w.frozen? ⟨g,1,none⟩=false∧w.frozen? ⟨g,2,none⟩=false∧w.frozen? ⟨g,3,none⟩=false∧w.frozen? ⟨g,4,none⟩=false:=
 ⟨h.frozen 0,h.frozen 1,h.frozen 2,h.frozen 3,h.frozen 4⟩
theorem fq5 {w:World} {g:Nat} {t:TypeId} {cs:Array Value} (h:Hid (Blk w g t cs)):w.frozen? ⟨g,0,none⟩=false∧w.frozen? ⟨g,1,none⟩=false∧w.frozen? ⟨g,2,none⟩=false∧w.frozen? ⟨g,3,none⟩=false∧w.frozen? ⟨g,4,none⟩=false:=
 ⟨h.out.frozen 0,h.out.frozen 1,h.out.frozen 2,h.out.frozen 3,h.out.frozen 4⟩
theorem fp6 {w:World} {g:Nat} {t:TypeId} {cs:Array Value} (h:Blk w g t cs):w.frozen? ⟨g,0,none⟩=false∧w.frozen? ⟨g,1,none⟩=false∧w.frozen? ⟨g,2,none⟩=false∧w.frozen? ⟨g,3,none⟩=false∧w.frozen? ⟨g,4,none⟩=false∧w.frozen? ⟨g,5,none⟩=false:=
 ⟨h.frozen 0,h.frozen 1,h.frozen 2,h.frozen 3,h.frozen 4,h.frozen 5⟩
theorem fq6 {w:World} {g:Nat} {t:TypeId} {cs:Array Value} (h:Hid (Blk w g t cs)):w.frozen? ⟨g,0,none⟩=false∧w.frozen? ⟨g,1,none⟩=false∧w.frozen? ⟨g,2,none⟩=false∧w.frozen? ⟨g,3,none⟩=false∧w.frozen? ⟨g,4,none⟩=false∧w.frozen? ⟨g,5,none⟩=false:=
 ⟨h.out.frozen 0,h.out.frozen 1,h.out.frozen 2,h.out.frozen 3,h.out.frozen 4,h.out.frozen 5⟩
theorem fp7 {w:World} {g:Nat} {t:TypeId} {cs:Array Value} (h:Blk w g t cs):w.frozen? ⟨g,0,none⟩=false∧w.frozen? ⟨g,1,none⟩=false∧w.frozen? ⟨g,2,none⟩=false∧w.frozen? ⟨g,3,none⟩=false∧w.frozen? ⟨g,4,none⟩=false∧w.frozen? ⟨g,5,none⟩=false∧w.frozen? ⟨g,6,none⟩=false:=
 ⟨h.frozen 0,h.frozen 1,h.frozen 2,h.frozen 3,h.frozen 4,h.frozen 5,h.frozen 6⟩
theorem fp9 {w:World} {g:Nat} {t:TypeId} {cs:Array Value} (h:Blk w g t cs):w.frozen? ⟨g,0,none⟩=false∧w.frozen? ⟨g,1,none⟩=false∧w.frozen? ⟨g,2,none⟩=false∧w.frozen? ⟨g,3,none⟩=false∧w.frozen? ⟨g,4,none⟩=false∧w.frozen? ⟨g,5,none⟩=false∧w.frozen? ⟨g,6,none⟩=false∧w.frozen? ⟨g,7,none⟩=false∧w.frozen? ⟨g,8,none⟩=false:=
 ⟨h.frozen 0,h.frozen 1,h.frozen 2,h.frozen 3,h.frozen 4,h.frozen 5,h.frozen 6,h.frozen 7,h.frozen 8⟩
theorem fp10 {w:World} {g:Nat} {t:TypeId} {cs:Array Value} (h:Blk w g t cs):w.frozen? ⟨g,0,none⟩=false∧w.frozen? ⟨g,1,none⟩=false∧w.frozen? ⟨g,2,none⟩=false∧w.frozen? ⟨g,3,none⟩=false∧w.frozen? ⟨g,4,none⟩=false∧w.frozen? ⟨g,5,none⟩=false∧w.frozen? ⟨g,6,none⟩=false∧w.frozen? ⟨g,7,none⟩=false∧w.frozen? ⟨g,8,none⟩=false∧w.frozen? ⟨g,9,none⟩=false:=
 ⟨h.frozen 0,h.frozen 1,h.frozen 2,h.frozen 3,h.frozen 4,h.frozen 5,h.frozen 6,h.frozen 7,h.frozen 8,h.frozen 9⟩
theorem zwx {w:World} {g:Nat} {t:TypeId} {a0:Value} (h:Blk w g t #[a0]):w.cell? ⟨g,0,none⟩=some a0/\g<w.heap.size:=
 ⟨h.cell 0,h.lt⟩
theorem zwu {w:World} {g:Nat} {t:TypeId} {a0 a1:Value} (h:Blk w g t #[a0,a1]):w.cell? ⟨g,0,none⟩=some a0/\w.cell? ⟨g,1,none⟩=some a1/\g<w.heap.size:=
 ⟨h.cell 0,h.cell 1,h.lt⟩
theorem bkc3 {w:World} {g:Nat} {t:TypeId} {a0 a1 a2:Value} (h:Blk w g t #[a0,a1,a2]):w.cell? ⟨g,0,none⟩=some a0/\w.cell? ⟨g,1,none⟩=some a1/\w.cell? ⟨g,2,none⟩=some a2/\g<w.heap.size:=
 ⟨h.cell 0,h.cell 1,h.cell 2,h.lt⟩
theorem zso {w:World} {g:Nat} {t:TypeId} {a0 a1 a2 a3 a4:Value} (h:Blk w g t #[a0,a1,a2,a3,a4]):w.cell? ⟨g,0,none⟩=some a0/\w.cell? ⟨g,1,none⟩=some a1/\w.cell? ⟨g,2,none⟩=some a2/\w.cell? ⟨g,3,none⟩=some a3/\w.cell? ⟨g,4,none⟩=some a4/\g<w.heap.size:=
 ⟨h.cell 0,h.cell 1,h.cell 2,h.cell 3,h.cell 4,h.lt⟩
theorem bkc6 {w:World} {g:Nat} {t:TypeId} {a0 a1 a2 a3 a4 a5:Value} (h:Blk w g t #[a0,a1,a2,a3,a4,a5]):w.cell? ⟨g,0,none⟩=some a0/\w.cell? ⟨g,1,none⟩=some a1/\w.cell? ⟨g,2,none⟩=some a2/\w.cell? ⟨g,3,none⟩=some a3/\w.cell? ⟨g,4,none⟩=some a4/\w.cell? ⟨g,5,none⟩=some a5/\g<w.heap.size:=
 ⟨h.cell 0,h.cell 1,h.cell 2,h.cell 3,h.cell 4,h.cell 5,h.lt⟩
theorem bkc7 {w:World} {g:Nat} {t:TypeId} {a0 a1 a2 a3 a4 a5 a6:Value} (h:Blk w g t #[a0,a1,a2,a3,a4,a5,a6]):w.cell? ⟨g,0,none⟩=some a0/\w.cell? ⟨g,1,none⟩=some a1/\w.cell? ⟨g,2,none⟩=some a2/\w.cell? ⟨g,3,none⟩=some a3/\w.cell? ⟨g,4,none⟩=some a4/\w.cell? ⟨g,5,none⟩=some a5/\w.cell? ⟨g,6,none⟩=some a6/\g<w.heap.size:=
 ⟨h.cell 0,h.cell 1,h.cell 2,h.cell 3,h.cell 4,h.cell 5,h.cell 6,h.lt⟩
theorem zww {w:World} {g:Nat} {t:TypeId} {a0 a1 a2 a3 a4 a5 a6 a7:Value} (h:Blk w g t #[a0,a1,a2,a3,a4,a5,a6,a7]):w.cell? ⟨g,0,none⟩=some a0/\w.cell? ⟨g,1,none⟩=some a1/\w.cell? ⟨g,2,none⟩=some a2/\w.cell? ⟨g,3,none⟩=some a3/\w.cell? ⟨g,4,none⟩=some a4/\w.cell? ⟨g,5,none⟩=some a5/\w.cell? ⟨g,6,none⟩=some a6/\w.cell? ⟨g,7,none⟩=some a7/\g<w.heap.size:=
 ⟨h.cell 0,h.cell 1,h.cell 2,h.cell 3,h.cell 4,h.cell 5,h.cell 6,h.cell 7,h.lt⟩
def Xc (ds:List Nat):List Value:=ds.map fun (d:Nat)=>Value.int .u32 (d:Int)
theorem vk (ds:List Nat):(Xc ds).length=ds.length:=by simp [Xc]
theorem yJ {ds:List Nat} {k:Nat} (hk:k<ds.length):(Xc ds)[k]?=some (.int .u32 (ds[k]:Int)):=by simp [Xc,hk]
theorem zcf (ds:List Nat) (k:Nat):(Xc ds).take k=Xc (ds.take k):=by simp [Xc,List.map_take]
def Vk (w:World) (B:Nat) (v:Value) (n:Nat):Prop:=
 ∃ A c ds,v= .slice A ds.length c/\ds.length<=c/\c<=maxLen/\ys w B 1 A ds.length (Xc ds)/\xI 4294967296 ds/\val 4294967296 ds=n
abbrev yt (w:World) (v:Value) (n:Nat):Prop:=Vk w w.heap.size v n
theorem Vk.below {w w' :World} {B B' :Nat} {v:Value} {n:Nat} (h:Vk w B v n) (hb:Below B w w') (hB:B<=B'):Vk w' B' v n:=by
 obtain ⟨A,c,u,l,e,r,j,m,b⟩:=h
 exact ⟨A,c,u,l,e,r,(j.below hb).more hB,m,b⟩
theorem yt.below {w w' :World} {v:Value} {n:Nat} (h:yt w v n) (hb:Below w.heap.size w w'):yt w' v n:=Vk.below h hb hb.size
def zsq (w:World) (B n:Nat) (e:Ending) (w' :World):Prop:=∃ v,e= .returned v/\Vk w B v n/\w=w'
def Vo (w:World) (n:Nat) (e:Ending) (w' :World):Prop:=∃ v,e= .returned v/\yt w' v n/\Below w.heap.size w w'
theorem zpj {ds:List Nat} {k:Nat} (hk:k<ds.length) (h:val 4294967296 (ds.take (k+1))=val 4294967296 ds) (h0:ds[k]=0):val 4294967296 (ds.take k)=val 4294967296 ds:=by
 rw [yQ _ _ _ hk,h0] at h
 omega
def ym (ds:List Nat):Array Value:=(Xc ds).toArray
theorem zhb (ds:List Nat):(ym ds).size=ds.length:=by simp [ym,vk]
theorem xa {ds:List Nat} {k:Nat} (hk:k<ds.length):(ym ds)[k]?=some (.int .u32 (ds[k]:Int)):=by
 unfold ym;rw [List.getElem?_toArray];exact yJ hk
theorem yE (ds:List Nat) (k d:Nat):(ym ds).setIfInBounds k (.int .u32 (d:Int))=ym (ds.set k d):=by
 unfold ym Xc
 simp [List.map_set]
theorem zhv (n:Nat):madeCells #[Value.int .u32 0] n=ym (List.replicate n 0):=by
 apply Array.ext'
 rw [toList_madeCells_one]
 simp [ym,Xc]
theorem xV {w:World} {g t:Nat} {ds:List Nat} (h:Blk w g t (ym ds)):ys w w.heap.size 1 (some ⟨g,0,none⟩) ds.length (Xc ds):=by
 have:=h.reads (n:=ds.length) (by rw [zhb];exact uA)
 rw [show (ym ds).toList.take ds.length=Xc ds by rw [<- vk ds];simp [ym]] at this
 exact this
def RetD (w:World) (v:Value) (e:Ending) (w' :World):Prop:=e= .returned v/\∃ n,w' =w.drewN n
def zj3 (w:World) (v:Value) (e:Ending) (w' :World):Prop:=e= .returned v/\Below w.heap.size w w'
theorem zo {B:Nat} {a w:World} (h:Below B a w) (n:Nat):Below B a (w.drewN n):=⟨h.os,h.tape,h.output,h.size,h.block⟩
def Ret2 (w:World) (v0 v1:Value) (e:Ending) (w' :World):Prop:=e= .returned (.tuple #[v0,v1])/\w=w'
def zaw (w:World) (v:Value) (e:Ending) (w' :World):Prop:=e= .returned v/\w=w'
section
variable {P:Program} {f:FuncId} {args:Array Value} {w:World} {n a:Nat} {v:Value}
theorem zu2 (h:Calls P f args (w.drewN n) (zaw (w.drewN n) v)):Calls P f args (w.drewN n) fun e w'' =>e= .returned v/\∃ m,w'' =w.drewN m:=
 h.mono fun _ _ ⟨he,hm⟩=>⟨he,n,hm.symm⟩
theorem zrx (h:Calls P f args (w.drewN (a+n)) (zaw (w.drewN (a+n)) v)):Calls P f args (w.drewN (a+n)) fun e w'' =>e= .returned v/\∃ m,w'' =w.drewN (a+m):=
 h.mono fun _ _ ⟨he,hm⟩=>⟨he,n,hm.symm⟩
end
theorem ext {a b c:World} (h:Below a.heap.size a b) (k:Below b.heap.size b c):Below a.heap.size a c:=h.trans (k.mono h.size)
theorem zf (w:World) (o:Obj):Below w.heap.size w (w.alloc o):=(Below.refl _ _).alloc (uA) o
theorem xh (w:World):Below w.heap.size w w:=Below.refl _ _
theorem kb_ {w w2:World} {g:Nat} {t:TypeId} {cs:Array Value} (h:Hid (Blk w g t cs)) (hb:Below w.heap.size w w2):Hid (Blk w2 g t cs):=Blk.below h.out hb (Blk.lt h.out)
theorem eb_ {a b c:World} (h:Hid (Below a.heap.size a b)) (k:Below b.heap.size b c):Hid (Below a.heap.size a c):=ext h.out k
theorem yD (w:World) (n:Nat):Below w.heap.size w (w.drewN n):=zo (Below.refl _ _) n
theorem hz3 {pa:Prop} {pb:Prop} {pc:Prop} (a:pa) (b:pb) (c:pc):Hid pa/\Hid pb/\Hid pc:=⟨a,b,c⟩
theorem hz4 {pa:Prop} {pb:Prop} {pc:Prop} {pd:Prop} (a:pa) (b:pb) (c:pc) (d:pd):Hid pa/\Hid pb/\Hid pc/\Hid pd:=⟨a,b,c,d⟩
theorem hz5 {pa:Prop} {pb:Prop} {pc:Prop} {pd:Prop} {pe:Prop} (a:pa) (b:pb) (c:pc) (d:pd) (e:pe):Hid pa/\Hid pb/\Hid pc/\Hid pd/\Hid pe:=⟨a,b,c,d,e⟩
theorem hz6 {pa:Prop} {pb:Prop} {pc:Prop} {pd:Prop} {pe:Prop} {pf:Prop} (a:pa) (b:pb) (c:pc) (d:pd) (e:pe) (f:pf):Hid pa/\Hid pb/\Hid pc/\Hid pd/\Hid pe/\Hid pf:=⟨a,b,c,d,e,f⟩
theorem hz7 {pa:Prop} {pb:Prop} {pc:Prop} {pd:Prop} {pe:Prop} {pf:Prop} {pg:Prop} (a:pa) (b:pb) (c:pc) (d:pd) (e:pe) (f:pf) (g:pg):Hid pa/\Hid pb/\Hid pc/\Hid pd/\Hid pe/\Hid pf/\Hid pg:=⟨a,b,c,d,e,f,g⟩
theorem hz8 {pa:Prop} {pb:Prop} {pc:Prop} {pd:Prop} {pe:Prop} {pf:Prop} {pg:Prop} {ph:Prop} (a:pa) (b:pb) (c:pc) (d:pd) (e:pe) (f:pf) (g:pg) (h:ph):Hid pa/\Hid pb/\Hid pc/\Hid pd/\Hid pe/\Hid pf/\Hid pg/\Hid ph:=⟨a,b,c,d,e,f,g,h⟩
theorem xGD {α:Type} {l:List α} {k:Nat} {d:α} (h:k<l.length):l.getD k d=l[k]:=by simp [List.getD,List.getElem?_eq_getElem h]
structure Chg (S:Nat->Prop) (w w' :World):Prop where
 os:w'.os=w.os
 tape:w'.tape=w.tape
 output:w'.output=w.output
 size:w.heap.size<=w'.heap.size
 block:∀ k,k<w.heap.size->¬ S k->w'.heap[k]?=w.heap[k]?
section
variable {S T:Nat->Prop} {w w1 w2 w' :World}
theorem Chg.refl (w:World):Chg S w w:=⟨rfl,rfl,rfl,uA,fun _ _ _=>rfl⟩
theorem Chg.of_below (h:Below w.heap.size w w'):Chg S w w' :=⟨h.os,h.tape,h.output,h.size,fun k hk _=>h.block k hk⟩
theorem Chg.of_grown {g:Nat} (h:w.grownBy w' (some g)) (hg:S g):Chg S w w' :=
 ⟨h.os,h.tape,h.output,h.size,fun k hk hS=>h.block k hk (fun e=>hS (by injection e with e;rw [e];exact hg))⟩
theorem Chg.trans (h:Chg S w w1) (k:Chg T w1 w2) (hT:∀ b,b<w.heap.size->T b->S b):Chg S w w2:=
 ⟨k.os.trans h.os,k.tape.trans h.tape,k.output.trans h.output,uC h.size k.size,
  fun i hi hS=>(k.block i (uK hi h.size) (fun ht=>hS (hT i hi ht))).trans (h.block i hi hS)⟩
theorem Chg.mono (h:Chg S w w') (hT:∀ b,b<w.heap.size->S b->T b):Chg T w w' :=⟨h.os,h.tape,h.output,h.size,fun k hk hS=>h.block k hk (fun hs=>hS (hT k hk hs))⟩
theorem Chg.below {B:Nat} (h:Chg S w w') (hB:B<=w.heap.size) (hS:∀ b,S b->B<=b):Below B w w' :=
 ⟨h.os,h.tape,h.output,h.size,fun k hk=>h.block k (uK hk hB) (fun hs=>by have:=hS k hs;omega)⟩
theorem Chg.blk {g:Nat} {t:TypeId} {cs:Array Value} (h:Chg S w w') (hk:Blk w g t cs) (hg:¬ S g):Blk w' g t cs:=(h.block g hk.lt hg).trans hk
theorem Chg.cell {p:Addr} {v:Value} (h:Chg S w w') (hc:w.cell? p=some v) (hp:¬ S p.block):w'.cell? p=some v:=
 (World.cell?_of_block (h.block p.block (World.block_lt_of_cell? w _ hc) hp)).trans hc
end
theorem Chg.setCell {S:Nat->Prop} {w w' :World} (h:Chg S w w') {p:Addr} (hp:S p.block) (u:Value):Chg S w (w'.setCell p u):=
 ⟨h.os,h.tape,h.output,by have:=h.size;simpa [World.setCell] using this,fun k hk hS=>(Below.heap_setCell w' p u k (fun e=>hS (e ▸ hp))).trans (h.block k hk hS)⟩
def zpo (w:World) (A:Option Addr) (c:Nat) (ds:List Nat) (e:Ending) (w' :World):Prop:=
 ∃ k,k<=ds.length/\e= .returned (.slice A k c)/\xI 4294967296 (ds.take k)/\val 4294967296 (ds.take k)=val 4294967296 ds/\w=w'
theorem zhx {k:Nat} {ds:List Nat} (hs:zP 4294967296 ds) (hk:k<=ds.length) (hlast:∀ h:0<k,ds[k - 1]≠0):xI 4294967296 (ds.take k):=by
 have b:(ds.take k).length=k:=by rw [List.length_take];omega
 refine xI.mk_ (hs.take k) ?_
 intro h
 rw [List.getElem_take]
 have:=hlast (by omega)
 simp only [b]
 exact this
theorem zhe (A:Option Addr) (c:Nat) (ds:List Nat) (w:World) (B:Nat) (hr:ys w B 1 A ds.length (Xc ds)) (hs:zP 4294967296 ds) (hl:ds.length<=c) (hc:c<=maxLen):
 Calls prog 96 #[.slice A ds.length c] w (zpo w A c ds):=by
 have r:=ze hc
 unfold maxLen at hc
 go_in
 go_wp2
 go_loop [0] (fun v=>∃ k:Nat,k<=ds.length/\v= .slice A k c/\Hid (val 4294967296 (ds.take k)=val 4294967296 ds)) (fun v=>match v with | .slice _ n _=>n | _=>0)
 case atStart=>exact ⟨ds.length,uA,rfl,by rw [List.take_length];exact rfl⟩
 case round=>
  obtain ⟨k,b,rfl,j⟩:=hrel
  by_cases m:0<k
  rotate_left
  . obtain rfl:k=0:=by omega
    go_wp2;go_ret;exact ⟨0,b,rfl,zhx hs b (fun h=>absurd h (by omega)),j.o,rfl⟩
  obtain ⟨z,u,rfl,hb,e,y⟩:=hr.at_ (k:=k - 1) (by omega)
  rw [yJ (by omega)] at e;injection e with e
  subst e
  by_cases l:ds[k - 1]=0
  rotate_left
  . have g0:((ds[k - 1]:Int) == 0)=false:=by rw [beq_eq_false_iff_ne];omega
    go_wp2;go_ret;exact ⟨k,b,rfl,zhx hs b (fun _=>l),j.o,rfl⟩
  have g0:((ds[k - 1]:Int) == 0)=true:=by rw [l];rfl
  go_wp2;go_round
  case rel=>
   refine ⟨k - 1,by omega,rfl,?_⟩;exact zpj (by omega) (by rw [show k - 1+1=k by omega];exact j.o) l
  case measure=>simp;omega
theorem zi6 (A:Option Addr) (c:Nat) (ds:List Nat) (w:World) (B:Nat) (hr:ys w B 1 A ds.length (Xc ds)) (hs:zP 4294967296 ds) (hl:ds.length<=c) (hc:c<=maxLen):
 Calls prog 96 #[.slice A ds.length c] w (zsq w B (val 4294967296 ds)):=by
 refine (zhe A c ds w B hr hs hl hc).mono ?_
 rintro e w' ⟨k,j,rfl,l,hv,rfl⟩
 have b:(ds.take k).length=k:=by rw [List.length_take];omega
 refine ⟨_,rfl,⟨A,c,ds.take k,by rw [b],by omega,hc,?_,l,hv⟩,rfl⟩
 have:=hr.head (k:=k) j
 rw [b, <- zcf]
 simpa using this
theorem Zv (A:Option Addr) (n c:Nat) (ds:List Nat) (w:World) (B:Nat) (hr:ys w B 1 A n (Xc ds)) (hs:zP 4294967296 ds) (hl:n<=c) (hc:c<=maxLen):
 Calls prog 96 #[.slice A n c] w (zsq w B (val 4294967296 ds)):=by
 have b:ds.length=n:=by have:=hr.1;rw [vk] at this;omega
 subst b
 exact zi6 A c ds w B hr hs hl hc
theorem ze3 (A:Option Addr) (n c:Nat) (ds:List Nat) (w:World) (B:Nat) (hr:ys w B 1 A n (Xc ds)) (hs:zP 4294967296 ds) (hl:n<=c) (hc:c<=maxLen):
 Calls prog 96 #[.slice A n c] w (zpo w A c ds):=by
 have b:ds.length=n:=by have:=hr.1;rw [vk] at this;omega
 subst b
 exact zhe A c ds w B hr hs hl hc
end Go.Proofs.YtobdoblpnanclaaGreatDoor
