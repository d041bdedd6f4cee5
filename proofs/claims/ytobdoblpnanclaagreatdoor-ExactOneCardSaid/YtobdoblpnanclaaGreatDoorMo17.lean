/- Parts of the proof. -/
import Derived.Conc.Holds
import Derived.Lib.SmallJoins
import Derived.ProofKit
import Derived.SizedLaws
import Derived.Test.YtobdoblpnanclaaGreatDoorMo16
set_option linter.all false
set_option maxRecDepth 100000
set_option maxHeartbeats 32000000
namespace Go.Proofs.YtobdoblpnanclaaGreatDoor
open Proofs.Tryz Go.RowKit Go.Deep Go.ChangeShapes Go.WideShapes
def ZA (l:List UInt8):Prop:=l.length<=reachBytes
def yY (w:World) (B:Nat) (v:Value) (l:List zr):Prop:=
 l.length<=reachBytes/\∃ A c,v= .slice A l.length c/\l.length<=c/\c<=maxLen/\ys w B 2 A l.length (vC l.length (XT l) (XN l))/\∀ x∈l,ZA x.name/\ZA x.coef
def Xd (w:World) (B:Nat) (v:Value) (l:List zS):Prop:=
 l.length<=reachBytes/\∃ A c H,v= .slice A l.length c/\l.length<=c/\c<=maxLen/\ys w B 2 A l.length (vC l.length H (YH l))/\(∀ i,i<l.length->yY w B (H i) (l.getD i default).terms)/\∀ x∈l,ZA x.bound
theorem yY.below {w w' :World} {B:Nat} {v:Value} {l:List zr} (h:yY w B v l) (hb:Below B w w'):yY w' B v l:=by
 obtain ⟨r,A,c,j,b,u,e,m⟩:=h
 exact ⟨r,A,c,j,b,u,e.below hb,m⟩
theorem Xd.below {w w' :World} {B:Nat} {v:Value} {l:List zS} (h:Xd w B v l) (hb:Below B w w'):Xd w' B v l:=by
 obtain ⟨u,A,c,H,m,e,y,j,r,b⟩:=h
 exact ⟨u,A,c,H,m,e,y,j.below hb,fun i hi=>(r i hi).below hb,b⟩
theorem yY.small {w:World} {B:Nat} {v:Value} {l:List zr} (h:yY w B v l) (hl:l.length<=100000) (hs:∀ x∈l,yc x.name/\yc x.coef):zh w B v l:=by
 obtain ⟨_,A,c,j,b,m,e,r⟩:=h
 exact ⟨A,c,j,b,m,hl,e,hs⟩
theorem Xd.small {w:World} {B:Nat} {v:Value} {l:List zS} (h:Xd w B v l) (hl:l.length<=100000) (hs:∀ r∈l,r.terms.length<=100000/\yc r.bound/\∀ x∈r.terms,yc x.name/\yc x.coef):zR w B v l:=by
 obtain ⟨_,A,c,H,u,j,z,m,y,C⟩:=h
 refine ⟨A,c,H,u,j,z,hl,m,fun i hi=>?_,fun x hx=>(hs x hx).2.1⟩
 have e:=xGD (d:=default) hi
 have h:=y i hi
 rw [e] at h |-
 have b:=hs _ (uO hi)
 exact h.small b.1 b.2.2
theorem yY.len {w:World} {B:Nat} {A:Option Addr} {n c:Nat} {l:List zr} (h:yY w B (.slice A n c) l):n=l.length:=by obtain ⟨_,_,_,e,_⟩:=h;injection e
theorem Xd.len {w:World} {B:Nat} {A:Option Addr} {n c:Nat} {l:List zS} (h:Xd w B (.slice A n c) l):n=l.length:=by obtain ⟨_,_,_,_,e,_⟩:=h;injection e
theorem Xd.max {w:World} {B:Nat} {v:Value} {l:List zS} (h:Xd w B v l):l.length<=reachBytes:=h.1
theorem yY.max {w:World} {B:Nat} {v:Value} {l:List zr} (h:yY w B v l):l.length<=reachBytes:=h.1
theorem yY.at_ {w:World} {B:Nat} {A:Option Addr} {n c:Nat} {l:List zr} (h:yY w B (.slice A n c) l) {k:Nat} (hk:k<l.length):
 ∃ b,A=some b/\b.block<B/\w.cell? (b.add (k*2))=some (str l[k].name)/\w.cell? ⟨(b.add (k*2)).block,(b.add (k*2)).off+1,none⟩=some (str l[k].coef)/\ZA l[k].name/\ZA l[k].coef:=by
 obtain ⟨_,A',c',e,_,_,y,u⟩:=h
 injection e with e1 e2 e3
 subst e1
 obtain ⟨b,e,hb,m,r⟩:=y.at2 hk
 have j:=u _ (uO hk)
 have hd:=xGD (d:=default) hk
 simp only [XT,XN,hd] at m r
 exact ⟨b,e,hb,m,r,j.1,j.2⟩
theorem Xd.at_ {w:World} {B:Nat} {A:Option Addr} {n c:Nat} {l:List zS} (h:Xd w B (.slice A n c) l) {k:Nat} (hk:k<l.length):
 ∃ b j nt r,A=some b/\b.block<B/\w.cell? (b.add (k*2))=some (.slice j nt r)/\w.cell? ⟨(b.add (k*2)).block,(b.add (k*2)).off+1,none⟩=some (str l[k].bound)/\yY w B (.slice j nt r) l[k].terms/\ZA l[k].bound:=by
 obtain ⟨_,A',c',H,e,_,_,D,z,C⟩:=h
 injection e with e1 e2 e3
 subst e1
 obtain ⟨b,e,hb,u,y⟩:=D.at2 hk
 have F:=C _ (uO hk)
 have hd:=xGD (d:=default) hk
 have m:=z k hk
 rw [hd] at m
 simp only [YH,hd] at y
 obtain ⟨_,j,r,E,_⟩:=id m
 rw [E] at u m
 exact ⟨b,j,_,r,e,hb,u,y,m,F⟩
theorem zcy {α:Type} {Q:Nat->α->Prop}:∀ (len:Nat),(∀ i,i<len->∃ e,Q i e)->∃ l:List α,l.length=len/\∀ i (h:i<l.length),Q i l[i]
 | 0,_=>⟨[],rfl,fun i h=>absurd h (by simp)⟩
 | n+1,h=>by
   obtain ⟨l,hl,r⟩:=zcy n (fun i hi=>h i (by omega));obtain ⟨e,j⟩:=h n (by omega);refine ⟨l ++ [e],by simp [hl],fun i hi=>?_⟩
   rcases uL i l.length with b | b
   . rw [List.getElem_append_left b];exact r i b
   . have m:i=n:=by simp at hi;omega
     subst m;rw [List.getElem_append_right b]
     simpa [hl] using j
theorem zkz {α:Type} {f:α->List Value} {k:Nat} (hk:∀ e,(f e).length=k):∀ (l:List α) (i r:Nat) (hi:i<l.length),r<k->(l.flatMap f)[i*k+r]?=(f l[i])[r]?
 | [],i,r,hi,_=>absurd hi (by simp)
 | e :: l,0,r,_,hr=>by
   rw [List.flatMap_cons,Nat.zero_mul,Nat.zero_add,List.getElem?_append_left (by rw [hk];exact hr)]
   rfl
 | e :: l,i+1,r,hi,hr=>by
   rw [List.flatMap_cons,List.getElem?_append_right (by rw [hk,Nat.succ_mul];omega),hk,show (i+1)*k+r - k=i*k+r by rw [Nat.succ_mul];omega,zkz hk l i r (by simpa using hi) hr]
   rfl
theorem Vc {α:Type} {f:α->List Value} {k:Nat} (hk:∀ e,(f e).length=k):∀ (l:List α),(l.flatMap f).length=l.length*k
 | []=>by simp
 | e :: l=>by rw [List.flatMap_cons,List.length_append,hk,Vc hk l,List.length_cons,Nat.succ_mul];omega
theorem zv7 {α:Type} (d:α) (f g:α->Value) (l:List α):l.flatMap (fun e=>[f e,g e])=vC l.length (fun i=>f (l.getD i d)) (fun i=>g (l.getD i d)):=by
 have e:l=(List.range l.length).map (fun i=>l.getD i d):=by
  apply List.ext_getElem
  . simp
  intro i b j
  simp [List.getD,List.getElem?_eq_getElem b]
 conv=>lhs;rw [e]
 rw [List.flatMap_map]
 rfl
section
variable {H:Type} {enc:TypeId×Value->H} {P:Program} {w:World} {spare:Nat->Bool} {held:Bool}
theorem zan {α:Type} {f:α->List Value} {k B:Nat} {good:α->Prop} {t e:TypeId} {fuel:Nat} {cs:List Value} {x:DataW H×List MemPlace} (hk:∀ e,(f e).length=k) (hk0:0<k) (hby:0<P.bytesOf e) (ht:P.underlying t=some (.slice e)) (hc:P.cellsOf e=k)
 (step:∀ (n:Nat) (F :List Value) (y:DataW H×List MemPlace),DataW.trod enc P w 0 spare held n e F =some y->(∀ z∈y.1.weights P e,z<=reachBytes)->(∀ p∈y.2,p.block<B)->∃ r:α,F =f r/\good r)
 (hw:∀ z∈x.1.weights P t,z<=reachBytes) (hB:∀ p∈x.2,p.block<B) (h:DataW.trod enc P w 0 spare held fuel t cs=some x):
 ∃ (A:Option Addr) (c:Nat) (l:List α),cs=[.slice A l.length c]/\l.length<=c/\c<=maxLen/\ys w B k A l.length (l.flatMap f)/\(∀ r∈l,good r)/\l.length<=reachBytes:=by
 rcases open_slice ht h with ⟨rfl,_⟩ | ⟨a,len,S,m,n,D,Pl,rfl,_,hl,U,O,rfl,M⟩
 . exact ⟨none,0,[],rfl,by simp,by unfold maxLen;omega,ys.none_,fun r h=>absurd h (by simp),uB⟩
 . have aa:len<=m:=by rw [O];split<;>omega
   rw [hc] at M hB
   obtain ⟨l,G,I⟩:=zcy (Q:=fun i r=>w.cells? 0 (a.add (i*k)) k=some (f r)/\good r) len (fun i hi=>by
    obtain ⟨F,C,N⟩:=M i (by omega)
    obtain ⟨r,T,R⟩:=step n F _ N (fun z E=>hw z (by
     unfold DataW.weights;rw [ht];simp only [List.mem_cons,List.mem_append];refine .inr (.inl ?_)
     have X:∀ (L:List (DataW H)) (d:DataW H),d∈L->∀ z∈d.weights P e,z∈DataW.weightsAll P e L:=by
      intro L
      induction L with
      | nil=>intro d hd;cases hd
      | cons b L ih=>
        intro d hd z E;unfold DataW.weightsAll;rw [List.mem_append]
        rcases List.mem_cons.1 hd with rfl | hd
        . exact .inl E
        . exact .inr (ih d hd z E)
     exact X _ (D i) (List.mem_map.2 ⟨i,List.mem_range.2 hi,rfl⟩) z E)) (fun p hp=>hB p (List.mem_append.2 (.inr (List.mem_flatMap.2 ⟨i,List.mem_range.2 (by omega),hp⟩))))
    exact ⟨r,by rw [<- T];exact C,R⟩)
   refine ⟨some a,S,l,by rw [G],by omega,U,⟨Vc hk l,fun h0=>⟨a,rfl,?_,fun j u hu=>?_⟩⟩,fun r hel=>?_,?_⟩
   . exact hB (.cell a.block (a.off+0)) (List.mem_append.2 (.inl (MemPlace.mem_row.2 ⟨0,Nat.mul_pos (by omega) hk0,rfl⟩)))
   . have Y:j<l.length*k:=by
      have:=(List.getElem?_eq_some_iff.1 hu).1;rw [Vc hk] at this;exact this
     have hi:j / k<l.length:=Nat.div_lt_of_lt_mul (by rw [uH];exact Y);have K:j % k<k:=Nat.mod_lt _ hk0;have J:j / k*k+j % k=j:=by rw [uH];exact Nat.div_add_mod j k
     have C:=(World.cells?_some (I _ hi).1).2.2 (j % k) K;rw [zl8,J] at C;rw [C, <- zkz hk l _ _ hi K,J];exact hu
   . obtain ⟨i,hi,rfl⟩:=List.mem_iff_getElem.1 hel
     exact (I i hi).2
   . have V:=hw (((List.range len).map D).length*P.bytesOf e+((List.range (m - len)).map fun j=>D (len+j)).length*P.bytesOf e) (by
      unfold DataW.weights;rw [ht, <- Nat.add_mul]
      exact uP ..)
     rw [List.length_map,List.length_range] at V
     have Z:=Nat.le_mul_of_pos_right len hby
     rw [G];omega
theorem zq6 (s:ByteArray):str s.data.toList= .string s:=by cases s;rfl
theorem YA {t:TypeId} (ht:P.underlying t=some .string) (n:Nat) (cs' :List Value) (y:DataW H×List MemPlace) (h:DataW.trod enc P w 0 spare held n t cs' =some y) (hw:∀ z∈y.1.weights P t,z<=reachBytes):
 ∃ el:List UInt8,cs' =[str el]/\ZA el:=by
 obtain ⟨s,rfl,rfl,_⟩:=DataW.trod_string ht h
 refine ⟨s.data.toList,by rw [zq6],?_⟩
 have:=hw s.data.toList.length (by unfold DataW.weights;simp)
 exact this
theorem zo9 {t:TypeId} {f0 f1:Field} {B:Nat} (ht:P.underlying t=some (.struct #[f0,f1])) (hc:P.cellsOf t=2) (e0:f0.offset=0) (e1:f1.offset=1) (c0:P.cellsOf f0.type=1) (c1:P.cellsOf f1.type=1) (u0:P.underlying f0.type=some .string) (u1:P.underlying f1.type=some .string)
 (n:Nat) (cs' :List Value) (y:DataW H×List MemPlace) (h:DataW.trod enc P w 0 spare held n t cs' =some y) (hw:∀ z∈y.1.weights P t,z<=reachBytes) (hB:∀ p∈y.2,p.block<B):
 ∃ el:zr,cs' =[str el.name,str el.coef]/\(ZA el.name/\ZA el.coef):=by
 obtain ⟨E,F,m,rfl,hl,l,j⟩:=trod_struct2 ht h
 rw [hc] at hl
 match cs',hl with
 | [a,b],_=>
   rw [e0,c0] at l;rw [e1,c1] at j
   obtain ⟨u,e,C⟩:=YA u0 _ _ _ l (fun z hz=>hw z (by
    unfold DataW.weights;rw [ht]
    simp [DataW.weightsEach,hz]))
   obtain ⟨r,hb,D⟩:=YA u1 _ _ _ j (fun z hz=>hw z (by
    unfold DataW.weights;rw [ht]
    simp [DataW.weightsEach,hz]))
   simp at e hb;exact ⟨⟨u,r⟩,by rw [e,hb],C,D⟩
theorem VU {B:Nat} {t e:TypeId} {f0 f1:Field} {fuel:Nat} {cs:List Value} {x:DataW H×List MemPlace} (hby:0<P.bytesOf e) (hs:P.underlying t=some (.slice e)) (ht:P.underlying e=some (.struct #[f0,f1])) (hc:P.cellsOf e=2) (e0:f0.offset=0) (e1:f1.offset=1) (c0:P.cellsOf f0.type=1) (c1:P.cellsOf f1.type=1) (u0:P.underlying f0.type=some .string) (u1:P.underlying f1.type=some .string)
 (h:DataW.trod enc P w 0 spare held fuel t cs=some x) (hw:∀ z∈x.1.weights P t,z<=reachBytes) (hB:∀ p∈x.2,p.block<B):∃ (v:Value) (l:List zr),cs=[v]/\yY w B v l:=by
 obtain ⟨A,c,l,rfl,r,j,b,m,u⟩:=zan (f:=fun e:zr=>[str e.name,str e.coef]) (k:=2) (B:=B) (good:=fun e=>ZA e.name/\ZA e.coef) (fun _=>rfl) (by omega) hby hs hc (zo9 ht hc e0 e1 c0 c1 u0 u1) hw hB h
 refine ⟨_,l,rfl,u,A,c,rfl,r,j,?_,m⟩
 rw [zv7 default (fun e:zr=>str e.name) (fun e=>str e.coef) l] at b
 exact b
theorem zhi {B:Nat} {t e ee:TypeId} {f0 f1 g0 g1:Field} {fuel:Nat} {cs:List Value} {x:DataW H×List MemPlace} (hby:0<P.bytesOf e) (hby' :0<P.bytesOf ee) (hs:P.underlying t=some (.slice e)) (ht:P.underlying e=some (.struct #[g0,g1])) (hc:P.cellsOf e=2) (e0:g0.offset=0) (e1:g1.offset=1) (c0:P.cellsOf g0.type=1) (c1:P.cellsOf g1.type=1)
 (u0:P.underlying g0.type=some (.slice ee)) (u1:P.underlying g1.type=some .string)
 (ht' :P.underlying ee=some (.struct #[f0,f1])) (hc' :P.cellsOf ee=2) (e0' :f0.offset=0) (e1' :f1.offset=1) (c0' :P.cellsOf f0.type=1) (c1' :P.cellsOf f1.type=1) (u0' :P.underlying f0.type=some .string) (u1' :P.underlying f1.type=some .string)
 (h:DataW.trod enc P w 0 spare held fuel t cs=some x) (j:∀ z∈x.1.weights P t,z<=reachBytes) (C:∀ p∈x.2,p.block<B):∃ (v:Value) (l:List zS),cs=[v]/\Xd w B v l:=by
 obtain ⟨A,c,l,rfl,r,K,F,E,u⟩:=zan (f:=fun e:Value×zS=>[e.1,str e.2.bound]) (k:=2) (B:=B) (good:=fun e=>ZA e.2.bound/\yY w B e.1 e.2.terms) (fun _=>rfl) (by omega) hby hs hc
  (by
    intro n N y h j C;obtain ⟨Q,R,m,rfl,hl,u,r⟩:=trod_struct2 ht h;rw [hc] at hl
    match N,hl with
    | [a,b],_=>
      rw [e0,c0] at u;rw [e1,c1] at r
      obtain ⟨v,J,D,L⟩:=VU hby' u0 ht' hc' e0' e1' c0' c1' u0' u1' u (fun z hz=>j z (by
       unfold DataW.weights;rw [ht]
       simp [DataW.weightsEach,hz])) (fun p hp=>C p (List.mem_append.2 (.inl hp)))
      obtain ⟨I,hb,O⟩:=YA u1 _ _ _ r (fun z hz=>j z (by
       unfold DataW.weights;rw [ht]
       simp [DataW.weightsEach,hz]))
      simp at D hb
      exact ⟨(v,⟨J,I⟩),by rw [D,hb],O,L⟩) j C h
 rw [zv7 (undef,default) (fun e:Value×zS=>e.1) (fun e=>str e.2.bound) l] at F
 have G:∀ i,i<l.length->(l.map (·.2)).getD i default=(l.getD i (undef,default)).2:=fun i hi=>by
  simp [List.getD,List.getElem?_eq_getElem hi]
 refine ⟨_,l.map (·.2),rfl,by rw [List.length_map];exact u,A,c,fun i=>(l.getD i (undef,default)).1,by rw [List.length_map],by rw [List.length_map];exact r,K,?_,fun i hi=>?_,fun x hx=>?_⟩
 . rw [List.length_map,zaz (f' :=fun i=>(l.getD i (undef,default)).1) (g' :=fun i=>str (l.getD i (undef,default)).2.bound) (fun k hk=>⟨rfl,by unfold YH;rw [G k hk]⟩)]
   exact F
 . rw [List.length_map] at hi
   rw [G i hi];have e8:l.getD i (undef,default)=l[i]:=by simp [List.getD,List.getElem?_eq_getElem hi]
   show yY w B (l.getD i (undef,default)).1 _
   rw [e8];exact (E _ (uO hi)).2
 . obtain ⟨y,M,rfl⟩:=List.mem_map.1 hx
   exact (E y M).1
end
theorem zee:prog.underlying 44=some (.struct #[⟨ "Name",9,0,false, "", "",0⟩,⟨ "Coef",25,1,false, "", "",16⟩]):=by kernel_rfl
theorem zc0:prog.underlying 31=some (.struct #[⟨ "Terms",23,0,false, "", "",0⟩,⟨ "Bound",25,1,false, "", "",24⟩]):=by kernel_rfl
theorem zjk:prog.underlying 78=some (.struct #[⟨ "Name",9,0,false, "", "",0⟩,⟨ "Value",25,1,false, "", "",16⟩]):=by kernel_rfl
theorem zm5 {H:Type} {enc:TypeId×Value->H} {w:World} {spare:Nat->Bool} {held:Bool} {fuel:Nat} {cs:List Value} {x:DataW H×List MemPlace} (h:DataW.trod enc prog w 0 spare held fuel 22 cs=some x) (hw:∀ z∈x.1.weights prog 22,z<=reachBytes) (hB:∀ p∈x.2,p.block<w.heap.size):
 ∃ (v:Value) (l:List zS),cs=[v]/\Xd w w.heap.size v l:=
 zhi (uG (by kernel_rfl)) (uG (by kernel_rfl)) (by kernel_rfl) zc0 (by kernel_rfl) rfl rfl (by kernel_rfl) (by kernel_rfl) (by kernel_rfl) (by kernel_rfl) zee (by kernel_rfl) rfl rfl (by kernel_rfl) (by kernel_rfl) (by kernel_rfl) (by kernel_rfl) h hw hB
theorem zgp {H:Type} {enc:TypeId×Value->H} {w:World} {spare:Nat->Bool} {held:Bool} {fuel:Nat} {cs:List Value} {x:DataW H×List MemPlace} (h:DataW.trod enc prog w 0 spare held fuel 23 cs=some x) (hw:∀ z∈x.1.weights prog 23,z<=reachBytes) (hB:∀ p∈x.2,p.block<w.heap.size):
 ∃ (v:Value) (l:List zr),cs=[v]/\yY w w.heap.size v l:=
 VU (uG (by kernel_rfl)) (by kernel_rfl) zee (by kernel_rfl) rfl rfl (by kernel_rfl) (by kernel_rfl) (by kernel_rfl) (by kernel_rfl) h hw hB
theorem zef {H:Type} {enc:TypeId×Value->H} {w:World} {spare:Nat->Bool} {held:Bool} {fuel:Nat} {cs:List Value} {x:DataW H×List MemPlace} (h:DataW.trod enc prog w 0 spare held fuel 26 cs=some x) (hw:∀ z∈x.1.weights prog 26,z<=reachBytes) (hB:∀ p∈x.2,p.block<w.heap.size):
 ∃ (v:Value) (l:List zr),cs=[v]/\yY w w.heap.size v l:=
 VU (uG (by kernel_rfl)) (by kernel_rfl) zjk (by kernel_rfl) rfl rfl (by kernel_rfl) (by kernel_rfl) (by kernel_rfl) (by kernel_rfl) h hw hB
attribute [local go_sem ↓] Go.wp_at_zero Go.wp_at_succ
def zE (l:List zr):Nat:=(l.map fun t=>t.name.length+t.coef.length).sum
def vX (l:List zS):Nat:=(l.map fun r=>r.bound.length+zE r.terms).sum
def yV (l:List zS):Nat:=(l.map fun r=>r.terms.length).sum
def yK (l:List zS):Prop:=l.length<=820/\(l.length<=12\/800<l.length)/\yV l<=400/\vX l<=8000/\(l.length<=800->yV l<=40/\vX l<=1500)
theorem vB {α:Type} (f:α->Nat) (l:List α) (i:Nat) (h:i<l.length):((l.take (i+1)).map f).sum=((l.take i).map f).sum+f l[i]:=by
 rw [List.take_add_one,List.getElem?_eq_getElem h,List.map_append,List.sum_append]
 simp
theorem xD {α:Type} (f:α->Nat):∀ (l:List α) (x:α),x∈l->f x<=(l.map f).sum
 | [],x,h=>by cases h
 | y :: l,x,h=>by
   rw [List.map_cons,List.sum_cons]
   rcases List.mem_cons.1 h with rfl | h
   . omega
   . have:=xD f l x h;omega
theorem yK.each {l:List zS} (h:yK l):l.length<=100000/\∀ r∈l,r.terms.length<=100000/\yc r.bound/\∀ x∈r.terms,yc x.name/\yc x.coef:=by
 obtain ⟨z,_,e,b,_⟩:=h
 refine ⟨by omega,fun r hr=>?_⟩
 have m:=xD (fun r:zS=>r.terms.length) l r hr
 have j:=xD (fun r:zS=>r.bound.length+zE r.terms) l r hr
 unfold yV at e
 unfold vX at b
 refine ⟨by omega,by unfold yc;omega,fun x hx=>?_⟩
 have u:=xD (fun t:zr=>t.name.length+t.coef.length) r.terms x hx
 unfold zE at j
 unfold yc
 have y:zE r.terms=(List.map (fun t:zr=>t.name.length+t.coef.length) r.terms).sum:=rfl
 simp only [zE] at b
 omega
theorem zch (l:List zS):(yd (l.map (·.terms))).length=yV l:=by
 unfold yd yV
 induction l with
 | nil=>rfl
 | cons a l ih=>
   rw [List.map_cons,List.flatMap_cons,List.length_append,ih,List.map_cons,List.sum_cons,List.length_map]
def zrp (w:World) (l:List zS) (e:Ending) (w' :World):Prop:=∃ g:Bool,e= .returned (.bool g)/\(∃ m,w' =w.drewN m)/\(g=false->yK l)
def GreR (w0:World) (l:List zS) (nv tv iv:Value) (wr:World):Prop:=
 ∃ i n t:Nat,i<=l.length/\nv= .int .i64 n/\tv= .int .i64 t/\iv= .int .i64 i/\Hid (n=vX (l.take i))/\Hid (t=yV (l.take i))/\Hid (t<=400/\(l.length<=800->t<=40))/\Hid (n<=(i+2*t)*reachBytes)/\∃ m,wr=w0.drewN m
def GreK (w0:World) (l:List zr) (n0:Nat) (nv kv:Value) (wr:World):Prop:=
 ∃ k n:Nat,k<=l.length/\nv= .int .i64 n/\kv= .int .i64 k/\Hid (n=n0+zE (l.take k))/\Hid (n<=n0+2*k*reachBytes)/\∃ m,wr=w0.drewN m
theorem yi:reachBytes=140737488351232:=rfl
theorem zhu (A:Option Addr) (n c:Nat) (rows:List zS) (w:World) (B:Nat) (hr:Xd w B (.slice A n c) rows):
 Calls prog 4 #[.slice A n c] w (zrp w rows):=by
 obtain rfl:=hr.len
 have aC:=hr.max
 rw [yi] at aC
 by_cases K:(12<rows.length/\rows.length<=800)\/820<rows.length
 . have l:Hid (∀ P:Prop,(true=false->P)):=fun P h=>by cases h
   rcases K with ⟨Y,hb⟩ | Y
   . have T:(12:Int)<(rows.length:Int):=by omega
     have z:(rows.length:Int)<=800:=by omega
     clear hr Y hb
     go_in
     go_wp2;go_ret;exact ⟨true,rfl,⟨0,rfl⟩,l.o _⟩
   . have T:(12:Int)<(rows.length:Int):=by omega
     have z:¬ (rows.length:Int)<=800:=by omega
     have e:(820:Int)<(rows.length:Int):=by omega
     clear hr Y
     go_in
     go_wp2;go_ret;exact ⟨true,rfl,⟨0,rfl⟩,l.o _⟩
 have l:Hid (∀ P:Prop,(true=false->P)):=fun P h=>by cases h
 have al:Hid (rows.length<=820/\(rows.length<=12\/800<rows.length)):=ze (by omega)
 have HR:=ze hr
 have aL:rows.length<=820:=by omega
 have aI:∃ x:Bool,Hid (decide ((12:Int)<(rows.length:Int))=x)/\(x=true->¬ (rows.length:Int)<=800):=⟨_,rfl,fun h=>by have:=uG h;omega⟩
 have d9:¬ (820:Int)<(rows.length:Int):=by omega
 have key:∀ g:Bool,∀ (i n t:Nat),i=rows.length->n=vX (rows.take i)->t=yV (rows.take i)->(t<=400/\(rows.length<=800->t<=40))->(g=false->n<=8000/\(rows.length<=800->n<=1500))->(g=false->yK rows):=by
  intro g i n t hi hn j aE D h
  have:=D h
  rw [hi,List.take_length] at hn j
  have:=al.o
  unfold yK
  subst hn j
  exact ⟨by omega,by omega,by omega,by omega,fun h=>⟨aE.2 h,(D ‹_›).2 h⟩⟩
 have aF:=ze key
 clear hr K key aI
 rcases uL 12 rows.length with aA | aA
 all_goals
  rcases uL 800 rows.length with h8 | h8
  all_goals first
   | (exfalso;have:=al.o;omega)
   | skip
 all_goals
  first
  | (have T:¬ (12:Int)<(rows.length:Int):=by omega)
  | (have T:(12:Int)<(rows.length:Int):=by omega)
  first
  | (have z:(rows.length:Int)<=800:=by omega
     have az :decide ((rows.length:Int)<=800)=true:=uE z)
  | (have z:¬ (rows.length:Int)<=800:=by omega
     have az :decide ((rows.length:Int)<=800)=false:=uF z)
  go_in
  go_wp2
  go_loopw [3,4,5] (GreR w rows) (fun _ _ iv _=>rows.length - (intOf iv).toNat)
  case atStart=>exact ⟨0,0,0,uB,rfl,rfl,rfl,by rw [List.take_zero];exact rfl,by rw [List.take_zero];exact rfl,ze ⟨by omega,fun _=>by omega⟩,ze (by omega),0,rfl⟩
  case round=>
   obtain ⟨i,n,t,hi,rfl,rfl,rfl,HN,HT,ac,ah,u,rfl⟩:=hrel
   by_cases M:i<rows.length
   . have aO:(i:Int)<(rows.length:Int):=by omega
     obtain ⟨ad,AT,nt,ct,Z,aJ,p0,p1,j,J⟩:=HR.o.at_ M;subst Z;obtain rfl:=j.len;have ai:=j.max;unfold ZA at J;rw [yi] at ai J;have af:=ah.o;have au:=ac.o.1;rw [yi] at af;have aD:(i+2*t)*140737488351232<=(820+800)*140737488351232:=Nat.mul_le_mul_right _ (by omega);have e1:IntKind.i64.wrap ((n:Int)+(rows[i].bound.length:Int))=((n+rows[i].bound.length:Nat):Int):=by rw [IntKind.wrap_i64];omega
     have e2:IntKind.i64.wrap ((t:Int)+(rows[i].terms.length:Int))=((t+rows[i].terms.length:Nat):Int):=by rw [IntKind.wrap_i64];omega
     have V:n+rows[i].bound.length<=1700*140737488351232:=by omega
     have an:=ze j;have sT:yV (rows.take (i+1))=yV (rows.take i)+rows[i].terms.length:=vB _ _ _ M;have sN:vX (rows.take (i+1))=vX (rows.take i)+(rows[i].bound.length+zE rows[i].terms):=vB _ _ _ M;obtain ⟨ap,ae,ay⟩:=hz3 sT sN J;clear sT sN j af aD au ai;obtain ⟨b,Q⟩:=uQ (t+rows[i].terms.length);obtain ⟨I,R⟩:=uQ (n+rows[i].bound.length);rw [<- Q] at e2;rw [<- R] at e1 V;have N:=ze Q;have O:=ze R;obtain ⟨r,L⟩:=uQ (rows[i]);have aH:=ze L;have aq:r.bound.length=rows[i].bound.length:=by rw [L]
     rw [<- L] at p0 p1 e1 e2 an ap ae N O;clear Q R L aq J
     by_cases ao:400<b\/(40<b/\rows.length<=800)
     . rcases ao with hb | ⟨aa,aw⟩
       . have e:(40:Int)<(b:Int):=by omega
         have U:(400:Int)<(b:Int):=by omega
         clear hb V;go_wp2;go_ret;exact ⟨true,rfl,⟨u,rfl⟩,l.o _⟩
       . first
         | (exfalso;omega)
         | (have e:(40:Int)<(b:Int):=by omega
            clear aa V;go_wp2;go_ret
            exact ⟨true,rfl,⟨u,rfl⟩,l.o _⟩)
     . have U:¬ (400:Int)<(b:Int):=by omega
       have ax:Hid (b<=400/\(rows.length<=800->b<=40)):=ze ⟨by omega,fun _=>by omega⟩;have aN:r.terms.length<=400:=by have:=N.o;omega
       rcases uL 40 b with ak | ak
       all_goals
        first
        | (have e:¬ (40:Int)<(b:Int):=by omega)
        | (have e:(40:Int)<(b:Int):=by omega)
        clear ao ak
        first
        | (exfalso;omega)
        | skip
        go_wp2
        go_loopw [3,6] (GreK w r.terms I) (fun _ kv _=>r.terms.length - (intOf kv).toNat)
        case atStart=>exact ⟨0,I,uB,rfl,rfl,by rw [List.take_zero];exact rfl,ze (by omega),u,rfl⟩
        case round=>
         obtain ⟨k,m,hk,rfl,rfl,C,G,mk,rfl⟩:=hrel
         by_cases aj:k<r.terms.length
         . have aK:(k:Int)<(r.terms.length:Int):=by omega
           obtain ⟨aM,Z,aB,q0,q1,X,S⟩:=an.o.at_ aj;subst Z;unfold ZA at X S;rw [yi] at X S;have am:=G.o;rw [yi] at am;have aG:2*k*140737488351232<=800*140737488351232:=Nat.mul_le_mul_right _ (by omega);have e3:IntKind.i64.wrap ((r.terms[k].name.length:Int)+(r.terms[k].coef.length:Int))=((r.terms[k].name.length+r.terms[k].coef.length:Nat):Int):=by rw [IntKind.wrap_i64];omega
           have e4:IntKind.i64.wrap ((m:Int)+((r.terms[k].name.length+r.terms[k].coef.length:Nat):Int))=((m+(r.terms[k].name.length+r.terms[k].coef.length):Nat):Int):=by rw [IntKind.wrap_i64];omega
           have e5:IntKind.i64.wrap ((m:Int)+((r.terms[k].name.length:Int)+(r.terms[k].coef.length:Int)))=((m+(r.terms[k].name.length+r.terms[k].coef.length):Nat):Int):=by rw [IntKind.wrap_i64];omega
           have sK:zE (r.terms.take (k+1))=zE (r.terms.take k)+(r.terms[k].name.length+r.terms[k].coef.length):=vB _ _ _ aj;have F:Hid (m+(r.terms[k].name.length+r.terms[k].coef.length)=I+zE (r.terms.take (k+1))):=ze (by have:=C.o;omega);have E:Hid (m+(r.terms[k].name.length+r.terms[k].coef.length)<=I+2*(k+1)*reachBytes):=ze (by rw [yi];omega);clear sK am aG C G X S aB;generalize r.terms[k].name=x at q0 e3 e4 e5 F E;generalize r.terms[k].coef=y at q1 e3 e4 e5 F E;go_wp2_with fail
           go_region
           go_wp2;go_roundw
           case rel=>exact ⟨k+1,_,by omega,rfl,by go_num,F,E,mk+1,rfl⟩
           case measure=>simp [intOf];omega
         . obtain rfl:r.terms.length=k:=by omega
           rw [List.take_length] at C;have F:Hid (m=vX (rows.take (i+1))):=ze (by rw [ae.o,C.o,O.o,HN.o];omega);have ar:Hid (b=yV (rows.take (i+1))):=ze (by rw [ap.o,N.o,HT.o])
           have E:Hid (m<=(i+1+2*b)*reachBytes):=ze (by
            have K:=G.o;have h2:=ah.o;have h3:=ay.o;have h4:=O.o;have h5:=N.o;rw [yi] at K h2 |-;rw [<- aH.o] at h3;rw [h5]
            omega)
           clear C G;go_wp2;go_roundw
           case rel=>exact ⟨i+1,m,b,by omega,rfl,rfl,by go_num,F,ar,ax,E,mk,rfl⟩
           case measure=>simp [intOf];omega
   . obtain rfl:rows.length=i:=by omega
     clear M
     by_cases D:8000<n\/(1500<n/\rows.length<=800)
     . rcases D with hb | ⟨aa,aw⟩
       . have e:(1500:Int)<(n:Int):=by omega
         have U:(8000:Int)<(n:Int):=by omega
         clear hb;go_wp2;go_ret;exact ⟨true,rfl,⟨u,rfl⟩,l.o _⟩
       . first
         | (exfalso;omega)
         | (have e:(1500:Int)<(n:Int):=by omega
            clear aa;go_wp2;go_ret
            exact ⟨true,rfl,⟨u,rfl⟩,l.o _⟩)
     . have ag:=aF.o false rows.length n t rfl HN.o HT.o ac.o (fun _=>⟨by omega,fun _=>by omega⟩)
       have av:=ze (ag rfl);have U:¬ (8000:Int)<(n:Int):=by omega
       rcases uL 1500 n with ab | ab
       all_goals
        first
        | (have e:¬ (1500:Int)<(n:Int):=by omega)
        | (have e:(1500:Int)<(n:Int):=by omega)
        clear D ab ag
        first
        | (exfalso;omega)
        | skip
        go_wp2;go_ret;exact ⟨false,rfl,⟨u,rfl⟩,fun _=>av.o⟩
def zsx (w:World) (l:List zr) (e:Ending) (w' :World):Prop:=∃ g:Bool,e= .returned (.bool g)/\(∃ m,w' =w.drewN m)/\(g=false->l.length<=70/\zE l<=1000)
def TerR (w0:World) (l:List zr) (nv iv:Value) (wr:World):Prop:=
 ∃ i n:Nat,i<=l.length/\i<=100/\nv= .int .i64 n/\iv= .int .i64 i/\Hid (n=zE (l.take i))/\Hid (n<=2*i*reachBytes)/\∃ m,wr=w0.drewN m
theorem zmq (A:Option Addr) (n c B:Nat) (l:List zr) (w:World) (ht:yY w B (.slice A n c) l):
 Calls prog 5 #[.slice A n c] w (zsx w l):=by
 obtain rfl:=ht.len
 have X:=ht.max
 rw [yi] at X
 have T:=ze ht
 have F:Hid (∀ P:Prop,(true=false->P)):=fun P h=>by cases h
 clear ht
 go_in
 go_wp2
 go_loopw [3,4] (TerR w l) (fun _ iv _=>l.length - (intOf iv).toNat)
 case atStart=>exact ⟨0,0,uB,by omega,rfl,rfl,by rw [List.take_zero];exact rfl,ze (by omega),0,rfl⟩
 case round=>
  obtain ⟨i,n,hi,r,rfl,rfl,j,J,m,rfl⟩:=hrel
  by_cases b:i<l.length/\i<100
  . obtain ⟨b,aa⟩:=b
    have C:(i:Int)<(l.length:Int):=by omega
    have hid:decide ((i:Int)<(l.length:Int))=true:=uE C;have S:(i:Int)<100:=by omega
    obtain ⟨ad,Q,Y,O,V,z,D⟩:=T.o.at_ b;subst Q;unfold ZA at z D;rw [yi] at z D;have hb:=J.o;rw [yi] at hb;have Z:2*i*140737488351232<=200*140737488351232:=Nat.mul_le_mul_right _ (by omega);have L:IntKind.i64.wrap ((l[i].name.length:Int)+(l[i].coef.length:Int))=((l[i].name.length+l[i].coef.length:Nat):Int):=by rw [IntKind.wrap_i64];omega
    have M:IntKind.i64.wrap ((n:Int)+((l[i].name.length+l[i].coef.length:Nat):Int))=((n+(l[i].name.length+l[i].coef.length):Nat):Int):=by rw [IntKind.wrap_i64];omega
    have G:IntKind.i64.wrap ((n:Int)+((l[i].name.length:Int)+(l[i].coef.length:Int)))=((n+(l[i].name.length+l[i].coef.length):Nat):Int):=by rw [IntKind.wrap_i64];omega
    have sK:zE (l.take (i+1))=zE (l.take i)+(l[i].name.length+l[i].coef.length):=vB _ _ _ b;have u:Hid (n+(l[i].name.length+l[i].coef.length)=zE (l.take (i+1))):=ze (by have:=j.o;omega);have E:Hid (n+(l[i].name.length+l[i].coef.length)<=2*(i+1)*reachBytes):=ze (by rw [yi];omega);clear sK hb Z j J z D Y;generalize l[i].name=x at O L M G u E;generalize l[i].coef=y at V L M G u E;go_wp2
    go_quiet (fail)
    go_wp2;go_roundw
    case rel=>exact ⟨i+1,_,by omega,by omega,rfl,by go_num,u,E,_,rfl⟩
    case measure=>simp [intOf];omega
  by_cases e:70<l.length
  . have K:(70:Int)<(l.length:Int):=by omega
    have d8:decide ((70:Int)<(l.length:Int))=true:=uE K
    rcases uL i l.length with hl | hl
    . have ae:(i:Int)<(l.length:Int):=by omega
      have C:decide ((i:Int)<(l.length:Int))=true:=uE (by omega);have S:decide ((i:Int)<100)=false:=uF (by omega);clear b hl e r;go_wp2;go_ret;exact ⟨true,rfl,⟨m,rfl⟩,F.o _⟩
    . have C:decide ((i:Int)<(l.length:Int))=false:=uF (by omega)
      have ab:decide (i<l.length)=false:=uF (by omega);clear b hl e r;go_wp2;go_ret;exact ⟨true,rfl,⟨m,rfl⟩,F.o _⟩
  obtain rfl:l.length=i:=by omega
  rw [List.take_length] at j;have K:decide ((70:Int)<(l.length:Int))=false:=uF (by omega);have R:=ze e;have ac:¬ (l.length:Int)<(l.length:Int):=by omega
  clear b e r
  by_cases I:1000<n
  rotate_left
  . have N:decide ((1000:Int)<(n:Int))=false:=uF (by omega)
    have U:Hid (l.length<=70/\zE l<=1000):=ze ⟨by have:=R.o;omega,by rw [<- j.o];omega⟩;clear I;go_wp2;go_ret;exact ⟨false,rfl,⟨m,rfl⟩,fun _=>U.o⟩
  have N:decide ((1000:Int)<(n:Int))=true:=uE (by omega)
  have d4:(1000:Int)<(n:Int):=by omega
  clear I;go_wp2;go_ret;exact ⟨true,rfl,⟨m,rfl⟩,F.o _⟩
theorem ze2 (A:Option Addr) (n c B:Nat) (l:List zr) (w:World) (ht:yY w B (.slice A n c) l):
 Calls prog 10 #[.slice A n c] w (zsx w l):=by
 obtain rfl:=ht.len
 have X:=ht.max
 rw [yi] at X
 have T:=ze ht
 have F:Hid (∀ P:Prop,(true=false->P)):=fun P h=>by cases h
 clear ht
 go_in
 go_wp2
 go_loopw [3,4] (TerR w l) (fun _ iv _=>l.length - (intOf iv).toNat)
 case atStart=>exact ⟨0,0,uB,by omega,rfl,rfl,by rw [List.take_zero];exact rfl,ze (by omega),0,rfl⟩
 case round=>
  obtain ⟨i,n,hi,r,rfl,rfl,j,J,m,rfl⟩:=hrel
  by_cases b:i<l.length/\i<100
  . obtain ⟨b,aa⟩:=b
    have C:(i:Int)<(l.length:Int):=by omega
    have hid:decide ((i:Int)<(l.length:Int))=true:=uE C;have S:(i:Int)<100:=by omega
    obtain ⟨ad,Q,Y,O,V,z,D⟩:=T.o.at_ b;subst Q;unfold ZA at z D;rw [yi] at z D;have hb:=J.o;rw [yi] at hb;have Z:2*i*140737488351232<=200*140737488351232:=Nat.mul_le_mul_right _ (by omega);have L:IntKind.i64.wrap ((l[i].name.length:Int)+(l[i].coef.length:Int))=((l[i].name.length+l[i].coef.length:Nat):Int):=by rw [IntKind.wrap_i64];omega
    have M:IntKind.i64.wrap ((n:Int)+((l[i].name.length+l[i].coef.length:Nat):Int))=((n+(l[i].name.length+l[i].coef.length):Nat):Int):=by rw [IntKind.wrap_i64];omega
    have G:IntKind.i64.wrap ((n:Int)+((l[i].name.length:Int)+(l[i].coef.length:Int)))=((n+(l[i].name.length+l[i].coef.length):Nat):Int):=by rw [IntKind.wrap_i64];omega
    have sK:zE (l.take (i+1))=zE (l.take i)+(l[i].name.length+l[i].coef.length):=vB _ _ _ b;have u:Hid (n+(l[i].name.length+l[i].coef.length)=zE (l.take (i+1))):=ze (by have:=j.o;omega);have E:Hid (n+(l[i].name.length+l[i].coef.length)<=2*(i+1)*reachBytes):=ze (by rw [yi];omega);clear sK hb Z j J z D Y;generalize l[i].name=x at O L M G u E;generalize l[i].coef=y at V L M G u E;go_wp2
    go_quiet (fail)
    go_wp2;go_roundw
    case rel=>exact ⟨i+1,_,by omega,by omega,rfl,by go_num,u,E,_,rfl⟩
    case measure=>simp [intOf];omega
  by_cases e:70<l.length
  . have K:(70:Int)<(l.length:Int):=by omega
    have d8:decide ((70:Int)<(l.length:Int))=true:=uE K
    rcases uL i l.length with hl | hl
    . have ae:(i:Int)<(l.length:Int):=by omega
      have C:decide ((i:Int)<(l.length:Int))=true:=uE (by omega);have S:decide ((i:Int)<100)=false:=uF (by omega);clear b hl e r;go_wp2;go_ret;exact ⟨true,rfl,⟨m,rfl⟩,F.o _⟩
    . have C:decide ((i:Int)<(l.length:Int))=false:=uF (by omega)
      have ab:decide (i<l.length)=false:=uF (by omega);clear b hl e r;go_wp2;go_ret;exact ⟨true,rfl,⟨m,rfl⟩,F.o _⟩
  obtain rfl:l.length=i:=by omega
  rw [List.take_length] at j;have K:decide ((70:Int)<(l.length:Int))=false:=uF (by omega);have R:=ze e;have ac:¬ (l.length:Int)<(l.length:Int):=by omega
  clear b e r
  by_cases I:1000<n
  rotate_left
  . have N:decide ((1000:Int)<(n:Int))=false:=uF (by omega)
    have U:Hid (l.length<=70/\zE l<=1000):=ze ⟨by have:=R.o;omega,by rw [<- j.o];omega⟩;clear I;go_wp2;go_ret;exact ⟨false,rfl,⟨m,rfl⟩,fun _=>U.o⟩
  have N:decide ((1000:Int)<(n:Int))=true:=uE (by omega)
  have d4:(1000:Int)<(n:Int):=by omega
  clear I;go_wp2;go_ret;exact ⟨true,rfl,⟨m,rfl⟩,F.o _⟩
end Go.Proofs.YtobdoblpnanclaaGreatDoor
