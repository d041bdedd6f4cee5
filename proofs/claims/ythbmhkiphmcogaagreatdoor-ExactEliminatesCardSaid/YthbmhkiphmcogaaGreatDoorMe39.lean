/- Parts of the proof. -/
import Derived.Test.YthbmhkiphmcogaaGreatDoorMe23
set_option linter.all false
namespace Go.Proofs.YthbmhkiphmcogaaGreatDoor
open Proofs.Tryz Go.RowKit Go.Deep
attribute [local go_sem ↓] Go.wp_at_zero Go.wp_at_succ
structure zjb (goal:List zR) (s:List UInt8):Prop where
 err:yp goal=0
 all:∀ t∈goal,t.name=s
def zwd (w:World) (s:List UInt8) (e:Ending) (w' :World):Prop:=
 ∃ b v,e= .returned (.tuple #[.map (some b),v,.int .i64 0])/\zB w' b/\zF w' w'.heap.size v [s]/\w.heap.size<=b/\Below w.heap.size w w'
set_option maxRecDepth 100000 in
set_option maxHeartbeats 4000000 in
theorem zke (A A2:Option Addr) (n c n2 c2:Nat) (rows:List zQ) (goal:List zR) (s:List UInt8) (w:World) (G:yN w (.slice A n c) rows) (hg:vr w (.slice A2 n2 c2) goal) (h1:VM rows s) (h2:zjb goal s):
 Calls Tryz.prog 27 #[.slice A n c,.slice A2 n2 c2] w (zwd w s):=by
 have ab:=@run_makeMap Tryz.prog
 have z:=zf w (.map #[] 0)
 have m:=ze (zB.new w)
 have D:=ze (zT.below G z)
 have E:=ze (zk.below hg z)
 have y:Hid (Chg (· =w.heap.size) w (w.alloc (.map #[] 0))):=Chg.of_below z
 have J:=ze h1
 have H2:=ze h2
 clear G hg h1 h2 z
 go_enter func27,ntmps27
 go_upto_region 2 with fail
 clear ab
 have ac:Hid (w.heap.size<=w.heap.size):=Nat.le_refl _
 generalize w.alloc (.map #[] 0)=W at m D E y |-
 obtain ⟨b,hb⟩:∃ b,b=w.heap.size:=⟨_,rfl⟩
 have X:Hid (w.heap.size<=b):=Nat.le_of_eq hb.symm
 have ad:=m.o.lt
 have V:Hid (w.heap.size<=W.heap.size):=y.o.size
 rw [<- hb] at m y |-
 clear hb ac ad
 have N:=zfb b A n c rows s W m.o (D.o.more V.o) J.o
 have S:=ze N
 clear N
 go_wp2_with fail
 refine S.o.mono ?_
 rintro e w1 ⟨rfl,I,C⟩
 replace D:=ze (m.o.keepRows C D.o)
 replace E:=ze (m.o.keepT C E.o)
 replace y:=ze (vm y.o C)
 replace m:=ze I
 clear I C S V
 have L:=zff b A2 n2 c2 goal w1 m.o (E.o.more y.o.size)
 rw [H2.o.err] at L
 have Q:=ze L
 clear L
 go_wp2_with fail
 refine Q.o.mono ?_
 rintro e B ⟨rfl,I,C⟩
 replace D:=ze (m.o.keepRows C D.o)
 replace E:=ze (m.o.keepT C E.o)
 replace y:=ze (vm y.o C)
 replace m:=ze I
 clear I C Q
 have z:=zf B (.cells #[.slice A2 n2 c2] 30)
 have K:=Blk.new B 30 #[.slice A2 n2 c2]
 have U:Hid (Zm (B.alloc (.cells #[.slice A2 n2 c2] 30)) B.heap.size 30 1 (.slice (some ⟨B.heap.size,0,none⟩) 1 1) 1 [.slice A2 n2 c2]):=by
  refine ⟨⟨rfl,.inr ⟨_,1,_,rfl,Nat.le_refl _,K,Nat.le_refl _,by unfold maxLen;omega,rfl,rfl⟩⟩,fun g hg=>?_⟩
  injection hg with hg
  subst hg
  exact K.noDig (Zq (by intro u hu;simp at hu;subst hu;exact zM _ _ _))
 have R:=zhj B.heap.size 1 A n c (.slice (some ⟨B.heap.size,0,none⟩) 1 1) [.slice A2 n2 c2] rows [goal] s (B.alloc (.cells #[.slice A2 n2 c2] 30)) ((zT.below D.o z).more y.o.size) U.o
  ⟨rfl,fun j hj=>by
   have:j=0:=by simp at hj;omega
   subst this
   exact (zk.below E.o z).more y.o.size⟩ rfl (by omega) z.size J.o.small
  (by
    intro l F t T
    rcases List.mem_append.1 F with F | F
    . rw [List.mem_singleton] at F;subst F;exact H2.o.all t T
    . rw [List.mem_map] at F
      obtain ⟨r,G,rfl⟩:=F
      exact J.o.all r G t T)
  (by
    obtain ⟨r,G,aa⟩:=J.o.ex
    exact ⟨r.terms,List.mem_append.2 (.inr (by rw [List.mem_map];exact ⟨r,G,rfl⟩)),aa⟩)
 have O:=ze R
 have Z:=ze z
 clear R z K U D E
 go_wp2_with fail
 refine O.o.mono ?_
 rintro e w3 ⟨v,rfl,hn,Y⟩
 have M:Below B.heap.size B w3:=Z.o.trans Y
 replace m:=ze (m.o.below M)
 replace y:=ze (yh y.o M)
 have HN:=ze hn
 obtain ⟨A3,c3,rfl,_⟩:=hn
 clear Y M O Z
 go_wp2_with fail
 go_ret3
 exact ⟨b,_,rfl,m.o,HN.o,X.o,y.o.below (Nat.le_refl _) (fun x e=>by subst e;exact X.o)⟩
end Go.Proofs.YthbmhkiphmcogaaGreatDoor
