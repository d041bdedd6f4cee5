/- Parts of the proof. -/
import Derived.Test.YthbmhkiphmcogaaGreatDoorMe44
import Derived.Test.YthbmhkiphmcogaaGreatDoorMe45
set_option linter.all false
namespace Go.Proofs.YthbmhkiphmcogaaGreatDoor
open Proofs.Tryz Go.RowKit Go.Deep
attribute [local go_sem ↓] Go.wp_at_zero Go.wp_at_succ
def Yn (rows:List zQ) (s:List UInt8):List zQ:=if vw rows s=0 then vz rows s else []
def zrk (w:World) (z:Int) (L:List zQ) (e:Ending) (w' :World):Prop:=
 ∃ A c,e= .returned (.tuple #[.slice A L.length c,.int .i64 z])/\yN w' (.slice A L.length c) L/\Below w.heap.size w w'
theorem ze6 (w:World):yN w (.slice none 0 0) []:=
 ⟨none,0,fun _=>str [],rfl,Nat.le_refl _,Nat.zero_le _,Nat.zero_le _,⟨rfl,fun h=>absurd h (Nat.lt_irrefl 0)⟩,fun i hi=>absurd hi (Nat.not_lt_zero i),fun x hx=>by cases hx⟩
theorem zdc {rows:List zQ} {s:List UInt8} (h:vw rows s=0):yA rows=0:=by
 unfold vw at h
 by_cases e:yA rows=0
 . exact e
 rw [if_pos e] at h;exact absurd h e
theorem zrc {rows:List zQ} {s:List UInt8} {w w' :World} {e:Ending} (h:zpm w rows s e w'):zrk w (vw rows s) (Yn rows s) e w' :=by
 obtain ⟨v,rfl,l,m,hb⟩:=h
 unfold Yn
 by_cases b:vw rows s=0
 . obtain ⟨j,A,c,rfl⟩:=l b
   rw [zhs (zdc b)] at j;rw [if_pos b];rw [zhs (zdc b)] at*;exact ⟨A,c,rfl,j,hb⟩
 obtain rfl:=m b
 rw [if_neg b];exact ⟨none,0,rfl,ze6 w',hb⟩
theorem zxi {rows:List zQ} {s:List UInt8} {w w' :World} {e:Ending} (h:zto w rows s e w'):zrk w (vw rows s) (Yn rows s) e w' :=by
 obtain ⟨v,rfl,j,l,hb⟩:=h
 rw [<- zqj] at j l |-
 unfold Yn
 by_cases b:vw rows s=0
 . obtain ⟨m,A,c,rfl⟩:=j b
   rw [if_pos b];exact ⟨A,c,rfl,m,hb⟩
 obtain rfl:=l b
 rw [if_neg b];exact ⟨none,0,rfl,ze6 w',hb⟩
theorem zst {rows:List zQ} {s:List UInt8} (hs:xK rows):(YG (Yn rows s)).length<=1000000000000:=by
 unfold Yn
 by_cases b:vw rows s=0
 . rw [if_pos b];exact zu3 hs (zdc b)
 rw [if_neg b];exact Nat.zero_le _
set_option maxRecDepth 100000 in
set_option maxHeartbeats 8000000 in
theorem zeh (A:Option Addr) (n c:Nat) (rows:List zQ) (s:List UInt8) (w:World) (hr:zav w w.heap.size (.slice A n c) rows) (hs:s.length<=reachBytes):
 Calls Tryz.prog 3 #[.slice A n c,str s] w (zfq w (.bool true)):=by
 obtain rfl:=hr.len
 have X:=zpg A rows.length c rows w _ hr
 have ad:(str s)= .string ⟨s.toArray⟩:=rfl
 have HG:=ze X
 have HR:=ze hr
 have R:=ze hs
 clear X hr hs
 have U:∀ A c w,xK rows->yN w (.slice A rows.length c) rows->Calls Tryz.prog 6 #[.slice A rows.length c,str s] w (zrk w (vw rows s) (Yn rows s)):=fun A c w hs h=>
  (zdk A rows.length c rows s w h (fun _=>Nat.le_trans (znm rows) (Nat.le_trans hs.names (by omega))) (zj7 hs)).mono (fun e w' h=>zrc h)
 have T:∀ A c w,xK rows->yN w (.slice A rows.length c) rows->Calls Tryz.prog 7 #[.slice A rows.length c,str s] w (zrk w (vw rows s) (Yn rows s)):=fun A c w hs h=>
  (zf2 A rows.length c rows s w h (fun _=>Nat.le_trans hs.names (by omega)) (zxp hs)).mono (fun e w' h=>zxi h)
 have J:=ze U
 have N:=ze T
 clear U T
 go_enter func3,ntmps3
 go_wp2_with fail
 refine HG.o.mono ?_
 rintro e w1 ⟨g,rfl,⟨m,rfl⟩,K⟩
 have I:Hid (zav (w.drewN m) w.heap.size (.slice A rows.length c) rows):=HR
 have l:Hid (Below w.heap.size w (w.drewN m)):=zo (vh w) m
 generalize w.drewN m=W at I l |-
 clear HG HR
 by_cases C:g=true\/100<s.length
 rotate_left
 . obtain ⟨ab,ac⟩:g=false/\¬ (100:Int)<(s.length:Int):=by
    refine ⟨by cases g with | true=>exact absurd (.inl rfl) C | false=>rfl,fun h=>C (.inr (by omega))⟩
   subst ab;have r:=ze (K rfl);clear K C;have O:=ze r.o.each;have M:Hid (yN W (.slice A rows.length c) rows):=(I.o.small O.o.1 O.o.2).more l.o.size;have Q:Hid ((YG (Yn rows s)).length<=1000000000000):=zst r.o;have hw:=fun A c B w hr=>zkd A (Yn rows s).length c B (Yn rows s) w hr Q.o
   have y:=ze hw;have F:=ze (fun A c w=>J.o A c w r.o);have G:=ze (fun A c w=>N.o A c w r.o);obtain ⟨L,hL⟩:∃ L,L=Yn rows s:=⟨_,rfl⟩;obtain ⟨z,hz⟩:∃ z,z=vw rows s:=⟨_,rfl⟩;rw [<- hL] at Q y F G;rw [<- hz] at F G;obtain ⟨t,ht⟩:∃ t,t=YG L:=⟨_,rfl⟩;rw [<- ht] at y;have dz:(z == z)=true:=beq_self_eq_true z;have d1:((⟨t.toArray⟩:ByteArray) == ⟨t.toArray⟩)=true:=(MapKept.bytes_beq _ _).2 rfl;clear hw J N O r I hL hz ht;have aa:=R.o;go_wp2_with fail;refine (F.o _ _ _ M.o).mono ?_;rintro e w1 ⟨A1,c1,rfl,h1,D⟩;have b:=ze (ext l.o D);have E:=ze h1;have Y:Hid (yN w1 (.slice A rows.length c) rows):=(M.o.below D).more D.size;clear h1 D F M;go_wp2_with fail;refine (G.o _ _ _ Y.o).mono ?_;rintro e u ⟨A2,c2,rfl,Z,j⟩;replace b:=eb_ b j;replace E:=ze (E.o.below j);have V:=ze Z;clear Z j G Y;go_wp2_with fail;refine (y.o _ _ _ _ E.o).mono ?_;rintro e w3 ⟨rfl,m3,rfl⟩;go_wp2_with fail
   refine (y.o _ _ _ _ (show zT (u.drewN m3) u.heap.size _ L from V.o)).mono ?_;rintro e w4 ⟨rfl,m4,rfl⟩;replace b:Hid (Below w.heap.size w (u.drewN (m3+m4))):=zo b.o _;clear E V y;go_wp2_with fail;refine (zda _).mono ?_;rintro e w5 ⟨rfl,S⟩;replace b:=eb_ b S;clear S;go_wp2_with fail;go_ret;exact ⟨rfl,b.o⟩
 clear K I J N
 cases g with
 | true=>
   go_wp2_with fail;refine (zda _).mono ?_;rintro e u ⟨rfl,j⟩;have b:=ze (ext l.o j);clear j;go_wp2_with fail;go_ret;exact ⟨rfl,b.o⟩
 | false=>
   have ac:(100:Int)<(s.length:Int):=by rcases C with h | h;cases h;omega
   have aa:=R.o;go_wp2_with fail;refine (zda _).mono ?_;rintro e u ⟨rfl,j⟩;have b:=ze (ext l.o j);clear j;go_wp2_with fail;go_ret;exact ⟨rfl,b.o⟩
theorem zp7 (A:Option Addr) (n c:Nat) (rows:List zQ) (s:ByteArray) (w:World) (hs:s.size<=reachBytes) (hr:zav w w.heap.size (.slice A n c) rows):
 Calls Tryz.prog 3 #[.slice A n c,.string s] w (zfq w (.bool true)):=by
 have h:=zeh A n c rows s.data.toList w hr (by simpa using hs)
 rwa [<- zqd s _ rfl] at h
end Go.Proofs.YthbmhkiphmcogaaGreatDoor
