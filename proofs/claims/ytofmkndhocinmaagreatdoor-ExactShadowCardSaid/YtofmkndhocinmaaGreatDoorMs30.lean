/- Parts of the proof. -/
import Derived.Conc.Holds
import Derived.Lib.SmallJoins
import Derived.ProofKit
import Derived.SizedLaws
import Derived.Test.YtofmkndhocinmaaGreatDoorMs16
set_option linter.all false
set_option maxHeartbeats 32000000
namespace Go.Proofs.YtofmkndhocinmaaGreatDoor
open Proofs.Tryz Go.RowKit Go.Deep Go.ChangeShapes Go.WideShapes
def X6 (l:List UInt8):Prop:=l.length<=reachBytes
def Zd (w:World) (B:Nat) (v:Value) (l:List zm):Prop:=
 l.length<=reachBytes/\∃ A c,v= .slice A l.length c/\l.length<=c/\c<=maxLen/\ym w B 2 A l.length (yG l.length (vw l) (vq l))/\∀ x∈l,X6 x.name/\X6 x.coef
def VC (w:World) (B:Nat) (v:Value) (l:List zF):Prop:=
 l.length<=reachBytes/\∃ A c H,v= .slice A l.length c/\l.length<=c/\c<=maxLen/\ym w B 2 A l.length (yG l.length H (vk l))/\(∀ i,i<l.length->Zd w B (H i) (l.getD i default).terms)/\∀ x∈l,X6 x.bound
theorem Zd.small {w:World} {B:Nat} {v:Value} {l:List zm} (h:Zd w B v l) (hl:l.length<=100000) (hs:∀ x∈l,zB x.name/\zB x.coef):zi w B v l:=by
 obtain ⟨_,A,c,j,b,m,e,r⟩:=h
 exact ⟨A,c,j,b,m,hl,e,hs⟩
theorem VC.small {w:World} {B:Nat} {v:Value} {l:List zF} (h:VC w B v l) (hl:l.length<=100000) (hs:∀ r∈l,r.terms.length<=100000/\zB r.bound/\∀ x∈r.terms,zB x.name/\zB x.coef):zW w B v l:=by
 obtain ⟨_,A,c,H,u,j,z,m,y,C⟩:=h
 refine ⟨A,c,H,u,j,z,hl,m,fun i hi=>?_,fun x hx=>(hs x hx).2.1⟩
 have e:=xGD (d:=default) hi
 have h:=y i hi
 rw [e] at h |-
 have b:=hs _ (uO hi)
 exact h.small b.1 b.2.2
theorem Zd.len {w:World} {B:Nat} {A:Option Addr} {n c:Nat} {l:List zm} (h:Zd w B (.slice A n c) l):n=l.length:=by obtain ⟨_,_,_,e,_⟩:=h;injection e
theorem VC.len {w:World} {B:Nat} {A:Option Addr} {n c:Nat} {l:List zF} (h:VC w B (.slice A n c) l):n=l.length:=by obtain ⟨_,_,_,_,e,_⟩:=h;injection e
theorem VC.max {w:World} {B:Nat} {v:Value} {l:List zF} (h:VC w B v l):l.length<=reachBytes:=h.1
theorem Zd.max {w:World} {B:Nat} {v:Value} {l:List zm} (h:Zd w B v l):l.length<=reachBytes:=h.1
theorem Zd.at_ {w:World} {B:Nat} {A:Option Addr} {n c:Nat} {l:List zm} (h:Zd w B (.slice A n c) l) {k:Nat} (hk:k<l.length):
 ∃ b,A=some b/\b.block<B/\w.cell? (b.add (k*2))=some (str l[k].name)/\w.cell? ⟨(b.add (k*2)).block,(b.add (k*2)).off+1,none⟩=some (str l[k].coef)/\X6 l[k].name/\X6 l[k].coef:=by
 obtain ⟨_,A',c',e,_,_,u,r⟩:=h
 injection e with e1 e2 e3
 subst e1
 obtain ⟨b,e,hb,m,c1⟩:=u.at2 hk
 have j:=r _ (uO hk)
 have hd:=xGD (d:=default) hk
 simp only [vw,vq,hd] at m c1
 exact ⟨b,e,hb,m,c1,j.1,j.2⟩
theorem VC.at_ {w:World} {B:Nat} {A:Option Addr} {n c:Nat} {l:List zF} (h:VC w B (.slice A n c) l) {k:Nat} (hk:k<l.length):
 ∃ b j nt r,A=some b/\b.block<B/\w.cell? (b.add (k*2))=some (.slice j nt r)/\w.cell? ⟨(b.add (k*2)).block,(b.add (k*2)).off+1,none⟩=some (str l[k].bound)/\Zd w B (.slice j nt r) l[k].terms/\X6 l[k].bound:=by
 obtain ⟨_,A',c',H,e,_,_,C,y,z⟩:=h
 injection e with e1 e2 e3
 subst e1
 obtain ⟨b,e,hb,u,c1⟩:=C.at2 hk
 have E:=z _ (uO hk)
 have hd:=xGD (d:=default) hk
 have m:=y k hk
 rw [hd] at m
 simp only [vk,hd] at c1
 obtain ⟨_,j,r,D,_⟩:=id m
 rw [D] at u m
 exact ⟨b,j,_,r,e,hb,u,c1,m,E⟩
theorem zbw {α:Type} {Q:Nat->α->Prop}:∀ (len:Nat),(∀ i,i<len->∃ e,Q i e)->∃ l:List α,l.length=len/\∀ i (h:i<l.length),Q i l[i]
 | 0,_=>⟨[],rfl,fun i h=>absurd h (by simp)⟩
 | n+1,h=>by
   obtain ⟨l,j,m⟩:=zbw n (fun i hi=>h i (by omega));obtain ⟨e,r⟩:=h n (by omega);refine ⟨l ++ [e],by simp [j],fun i hi=>?_⟩
   rcases uL i l.length with b | b
   . rw [List.getElem_append_left b];exact m i b
   . have u:i=n:=by simp at hi;omega
     subst u;rw [List.getElem_append_right b]
     simpa [j] using r
theorem zjm {α:Type} {f:α->List Value} {k:Nat} (hk:∀ e,(f e).length=k):∀ (l:List α) (i r:Nat) (hi:i<l.length),r<k->(l.flatMap f)[i*k+r]?=(f l[i])[r]?
 | [],i,r,hi,_=>absurd hi (by simp)
 | e :: l,0,r,_,hr=>by
   rw [List.flatMap_cons,Nat.zero_mul,Nat.zero_add,List.getElem?_append_left (by rw [hk];exact hr)]
   rfl
 | e :: l,i+1,r,hi,hr=>by
   rw [List.flatMap_cons,List.getElem?_append_right (by rw [hk,Nat.succ_mul];omega),hk,show (i+1)*k+r - k=i*k+r by rw [Nat.succ_mul];omega,zjm hk l i r (by simpa using hi) hr]
   rfl
theorem XF {α:Type} {f:α->List Value} {k:Nat} (hk:∀ e,(f e).length=k):∀ (l:List α),(l.flatMap f).length=l.length*k
 | []=>by simp
 | e :: l=>by rw [List.flatMap_cons,List.length_append,hk,XF hk l,List.length_cons,Nat.succ_mul];omega
theorem zuh {α:Type} (d:α) (f g:α->Value) (l:List α):l.flatMap (fun e=>[f e,g e])=yG l.length (fun i=>f (l.getD i d)) (fun i=>g (l.getD i d)):=by
 have e:l=(List.range l.length).map (fun i=>l.getD i d):=by
  apply List.ext_getElem
  . simp
  intro i b j
  simp [List.getD,List.getElem?_eq_getElem b]
 conv=>lhs;rw [e]
 rw [List.flatMap_map]
 rfl
section
variable {H:Type} {enc:TypeId×Value->H} {P:Program} {w:World} {spare:Nat->Bool} {held:Bool}
theorem zdk {α:Type} {f:α->List Value} {k B:Nat} {good:α->Prop} {t e:TypeId} {fuel:Nat} {cs:List Value} {x:DataW H×List MemPlace} (hk:∀ e,(f e).length=k) (hk0:0<k) (hby:0<P.bytesOf e) (ht:P.underlying t=some (.slice e)) (hc:P.cellsOf e=k)
 (step:∀ (n:Nat) (F :List Value) (y:DataW H×List MemPlace),DataW.trod enc P w 0 spare held n e F =some y->(∀ z∈y.1.weights P e,z<=reachBytes)->(∀ p∈y.2,p.block<B)->∃ r:α,F =f r/\good r)
 (hw:∀ z∈x.1.weights P t,z<=reachBytes) (hB:∀ p∈x.2,p.block<B) (h:DataW.trod enc P w 0 spare held fuel t cs=some x):
 ∃ (A:Option Addr) (c:Nat) (l:List α),cs=[.slice A l.length c]/\l.length<=c/\c<=maxLen/\ym w B k A l.length (l.flatMap f)/\(∀ r∈l,good r)/\l.length<=reachBytes:=by
 rcases open_slice ht h with ⟨rfl,_⟩ | ⟨a,len,S,m,n,D,Pl,rfl,_,hl,U,O,rfl,M⟩
 . exact ⟨none,0,[],rfl,by simp,by unfold maxLen;omega,ym.none_,fun r h=>absurd h (by simp),uB⟩
 . have aa:len<=m:=by rw [O];split<;>omega
   rw [hc] at M hB
   obtain ⟨l,G,I⟩:=zbw (Q:=fun i r=>w.cells? 0 (a.add (i*k)) k=some (f r)/\good r) len (fun i hi=>by
    obtain ⟨F,C,N⟩:=M i (by omega)
    obtain ⟨r,T,R⟩:=step n F _ N (fun z E=>hw z (by
     unfold DataW.weights;rw [ht];simp only [List.mem_cons,List.mem_append];refine .inr (.inl ?_)
     have X:∀ (L:List (DataW H)) (d:DataW H),d∈L->∀ z∈d.weights P e,z∈DataW.weightsAll P e L:=by
      intro L
      induction L with
      | nil=>intro d hd;cases hd
      | cons b L ih=>
        intro d hd z E;unfold DataW.weightsAll;rw [List.mem_append]
        rcases List.mem_cons.1 hd with rfl | hd
        . exact .inl E
        . exact .inr (ih d hd z E)
     exact X _ (D i) (List.mem_map.2 ⟨i,List.mem_range.2 hi,rfl⟩) z E)) (fun p hp=>hB p (List.mem_append.2 (.inr (List.mem_flatMap.2 ⟨i,List.mem_range.2 (by omega),hp⟩))))
    exact ⟨r,by rw [<- T];exact C,R⟩)
   refine ⟨some a,S,l,by rw [G],by omega,U,⟨XF hk l,fun h0=>⟨a,rfl,?_,fun j u hu=>?_⟩⟩,fun r hel=>?_,?_⟩
   . exact hB (.cell a.block (a.off+0)) (List.mem_append.2 (.inl (MemPlace.mem_row.2 ⟨0,Nat.mul_pos (by omega) hk0,rfl⟩)))
   . have Y:j<l.length*k:=by
      have:=(List.getElem?_eq_some_iff.1 hu).1;rw [XF hk] at this;exact this
     have hi:j / k<l.length:=Nat.div_lt_of_lt_mul (by rw [uH];exact Y);have K:j % k<k:=Nat.mod_lt _ hk0;have J:j / k*k+j % k=j:=by rw [uH];exact Nat.div_add_mod j k
     have C:=(World.cells?_some (I _ hi).1).2.2 (j % k) K;rw [zkx,J] at C;rw [C, <- zjm hk l _ _ hi K,J];exact hu
   . obtain ⟨i,hi,rfl⟩:=List.mem_iff_getElem.1 hel
     exact (I i hi).2
   . have V:=hw (((List.range len).map D).length*P.bytesOf e+((List.range (m - len)).map fun j=>D (len+j)).length*P.bytesOf e) (by
      unfold DataW.weights;rw [ht, <- Nat.add_mul]
      exact uP ..)
     rw [List.length_map,List.length_range] at V
     have Z:=Nat.le_mul_of_pos_right len hby
     rw [G];omega
theorem zpi (s:ByteArray):str s.data.toList= .string s:=by cases s;rfl
theorem zck {t:TypeId} (ht:P.underlying t=some .string) (n:Nat) (cs' :List Value) (y:DataW H×List MemPlace) (h:DataW.trod enc P w 0 spare held n t cs' =some y) (hw:∀ z∈y.1.weights P t,z<=reachBytes):
 ∃ el:List UInt8,cs' =[str el]/\X6 el:=by
 obtain ⟨s,rfl,rfl,_⟩:=DataW.trod_string ht h
 refine ⟨s.data.toList,by rw [zpi],?_⟩
 have:=hw s.data.toList.length (by unfold DataW.weights;simp)
 exact this
theorem znt {t:TypeId} {f0 f1:Field} {B:Nat} (ht:P.underlying t=some (.struct #[f0,f1])) (hc:P.cellsOf t=2) (e0:f0.offset=0) (e1:f1.offset=1) (c0:P.cellsOf f0.type=1) (c1:P.cellsOf f1.type=1) (u0:P.underlying f0.type=some .string) (u1:P.underlying f1.type=some .string)
 (n:Nat) (cs' :List Value) (y:DataW H×List MemPlace) (h:DataW.trod enc P w 0 spare held n t cs' =some y) (hw:∀ z∈y.1.weights P t,z<=reachBytes) (hB:∀ p∈y.2,p.block<B):
 ∃ el:zm,cs' =[str el.name,str el.coef]/\(X6 el.name/\X6 el.coef):=by
 obtain ⟨y0,D,m,rfl,e,r,l⟩:=trod_struct2 ht h
 rw [hc] at e
 match cs',e with
 | [a,b],_=>
   rw [e0,c0] at r;rw [e1,c1] at l
   obtain ⟨u,j,C⟩:=zck u0 _ _ _ r (fun z hz=>hw z (by
    unfold DataW.weights;rw [ht]
    simp [DataW.weightsEach,hz]))
   obtain ⟨b1,hb,s1⟩:=zck u1 _ _ _ l (fun z hz=>hw z (by
    unfold DataW.weights;rw [ht]
    simp [DataW.weightsEach,hz]))
   simp at j hb;exact ⟨⟨u,b1⟩,by rw [j,hb],C,s1⟩
theorem zc4 {B:Nat} {t e:TypeId} {f0 f1:Field} {fuel:Nat} {cs:List Value} {x:DataW H×List MemPlace} (hby:0<P.bytesOf e) (hs:P.underlying t=some (.slice e)) (ht:P.underlying e=some (.struct #[f0,f1])) (hc:P.cellsOf e=2) (e0:f0.offset=0) (e1:f1.offset=1) (c0:P.cellsOf f0.type=1) (c1:P.cellsOf f1.type=1) (u0:P.underlying f0.type=some .string) (u1:P.underlying f1.type=some .string)
 (h:DataW.trod enc P w 0 spare held fuel t cs=some x) (hw:∀ z∈x.1.weights P t,z<=reachBytes) (hB:∀ p∈x.2,p.block<B):∃ (v:Value) (l:List zm),cs=[v]/\Zd w B v l:=by
 obtain ⟨A,c,l,rfl,r,j,b,m,u⟩:=zdk (f:=fun e:zm=>[str e.name,str e.coef]) (k:=2) (B:=B) (good:=fun e=>X6 e.name/\X6 e.coef) (fun _=>rfl) (by omega) hby hs hc (znt ht hc e0 e1 c0 c1 u0 u1) hw hB h
 refine ⟨_,l,rfl,u,A,c,rfl,r,j,?_,m⟩
 rw [zuh default (fun e:zm=>str e.name) (fun e=>str e.coef) l] at b
 exact b
theorem zft {B:Nat} {t e ee:TypeId} {f0 f1 g0 g1:Field} {fuel:Nat} {cs:List Value} {x:DataW H×List MemPlace} (hby:0<P.bytesOf e) (hby' :0<P.bytesOf ee) (hs:P.underlying t=some (.slice e)) (ht:P.underlying e=some (.struct #[g0,g1])) (hc:P.cellsOf e=2) (e0:g0.offset=0) (e1:g1.offset=1) (c0:P.cellsOf g0.type=1) (c1:P.cellsOf g1.type=1)
 (u0:P.underlying g0.type=some (.slice ee)) (u1:P.underlying g1.type=some .string)
 (ht' :P.underlying ee=some (.struct #[f0,f1])) (hc' :P.cellsOf ee=2) (e0' :f0.offset=0) (e1' :f1.offset=1) (c0' :P.cellsOf f0.type=1) (c1' :P.cellsOf f1.type=1) (u0' :P.underlying f0.type=some .string) (u1' :P.underlying f1.type=some .string)
 (h:DataW.trod enc P w 0 spare held fuel t cs=some x) (j:∀ z∈x.1.weights P t,z<=reachBytes) (C:∀ p∈x.2,p.block<B):∃ (v:Value) (l:List zF),cs=[v]/\VC w B v l:=by
 obtain ⟨A,c,l,rfl,r,K,G,E,u⟩:=zdk (f:=fun e:Value×zF=>[e.1,str e.2.bound]) (k:=2) (B:=B) (good:=fun e=>X6 e.2.bound/\Zd w B e.1 e.2.terms) (fun _=>rfl) (by omega) hby hs hc
  (by
    intro n N y h j C;obtain ⟨y0,Q,m,rfl,D,u,r⟩:=trod_struct2 ht h;rw [hc] at D
    match N,D with
    | [a,b],_=>
      rw [e0,c0] at u;rw [e1,c1] at r
      obtain ⟨v,J,F,L⟩:=zc4 hby' u0 ht' hc' e0' e1' c0' c1' u0' u1' u (fun z hz=>j z (by
       unfold DataW.weights;rw [ht]
       simp [DataW.weightsEach,hz])) (fun p hp=>C p (List.mem_append.2 (.inl hp)))
      obtain ⟨b1,hb,s1⟩:=zck u1 _ _ _ r (fun z hz=>j z (by
       unfold DataW.weights;rw [ht]
       simp [DataW.weightsEach,hz]))
      simp at F hb
      exact ⟨(v,⟨J,b1⟩),by rw [F,hb],s1,L⟩) j C h
 rw [zuh (undef,default) (fun e:Value×zF=>e.1) (fun e=>str e.2.bound) l] at G
 have I:∀ i,i<l.length->(l.map (·.2)).getD i default=(l.getD i (undef,default)).2:=fun i hi=>by
  simp [List.getD,List.getElem?_eq_getElem hi]
 refine ⟨_,l.map (·.2),rfl,by rw [List.length_map];exact u,A,c,fun i=>(l.getD i (undef,default)).1,by rw [List.length_map],by rw [List.length_map];exact r,K,?_,fun i hi=>?_,fun x hx=>?_⟩
 . rw [List.length_map,Yg (f' :=fun i=>(l.getD i (undef,default)).1) (g' :=fun i=>str (l.getD i (undef,default)).2.bound) (fun k hk=>⟨rfl,by unfold vk;rw [I k hk]⟩)]
   exact G
 . rw [List.length_map] at hi
   rw [I i hi];have O:l.getD i (undef,default)=l[i]:=by simp [List.getD,List.getElem?_eq_getElem hi]
   show Zd w B (l.getD i (undef,default)).1 _
   rw [O];exact (E _ (uO hi)).2
 . obtain ⟨y,M,rfl⟩:=List.mem_map.1 hx
   exact (E y M).1
end
theorem zj6:prog.underlying 38=some (.struct #[⟨ "Name",9,0,false, "", "",0⟩,⟨ "Coef",32,1,false, "", "",16⟩]):=by kernel_rfl
theorem zm0:prog.underlying 36=some (.struct #[⟨ "Terms",34,0,false, "", "",0⟩,⟨ "Bound",32,1,false, "", "",24⟩]):=by kernel_rfl
theorem zh0:prog.underlying 45=some (.struct #[⟨ "Name",9,0,false, "", "",0⟩,⟨ "Value",32,1,false, "", "",16⟩]):=by kernel_rfl
theorem zlz {H:Type} {enc:TypeId×Value->H} {w:World} {spare:Nat->Bool} {held:Bool} {fuel:Nat} {cs:List Value} {x:DataW H×List MemPlace} (h:DataW.trod enc prog w 0 spare held fuel 22 cs=some x) (hw:∀ z∈x.1.weights prog 22,z<=reachBytes) (hB:∀ p∈x.2,p.block<w.heap.size):
 ∃ (v:Value) (l:List zF),cs=[v]/\VC w w.heap.size v l:=
 zft (uG (by kernel_rfl)) (uG (by kernel_rfl)) (by kernel_rfl) zm0 (by kernel_rfl) rfl rfl (by kernel_rfl) (by kernel_rfl) (by kernel_rfl) (by kernel_rfl) zj6 (by kernel_rfl) rfl rfl (by kernel_rfl) (by kernel_rfl) (by kernel_rfl) (by kernel_rfl) h hw hB
theorem zj9 {H:Type} {enc:TypeId×Value->H} {w:World} {spare:Nat->Bool} {held:Bool} {fuel:Nat} {cs:List Value} {x:DataW H×List MemPlace} (h:DataW.trod enc prog w 0 spare held fuel 23 cs=some x) (hw:∀ z∈x.1.weights prog 23,z<=reachBytes) (hB:∀ p∈x.2,p.block<w.heap.size):
 ∃ (v:Value) (l:List zm),cs=[v]/\Zd w w.heap.size v l:=
 zc4 (uG (by kernel_rfl)) (by kernel_rfl) zh0 (by kernel_rfl) rfl rfl (by kernel_rfl) (by kernel_rfl) (by kernel_rfl) (by kernel_rfl) h hw hB
attribute [local go_sem ↓] Go.wp_at_zero Go.wp_at_succ
def zV (l:List zm):Nat:=(l.map fun t=>t.name.length+t.coef.length).sum
def Zg (l:List zF):Nat:=(l.map fun r=>r.bound.length+zV r.terms).sum
def yT (l:List zF):Nat:=(l.map fun r=>r.terms.length).sum
def xJ (l:List zF):Prop:=l.length<=820/\(l.length<=12\/800<l.length)/\yT l<=400/\Zg l<=8000/\(l.length<=800->yT l<=40/\Zg l<=1500)
theorem ZK {α:Type} (f:α->Nat) (l:List α) (i:Nat) (h:i<l.length):((l.take (i+1)).map f).sum=((l.take i).map f).sum+f l[i]:=by
 rw [List.take_add_one,List.getElem?_eq_getElem h,List.map_append,List.sum_append]
 simp
theorem xH {α:Type} (f:α->Nat):∀ (l:List α) (x:α),x∈l->f x<=(l.map f).sum
 | [],x,h=>by cases h
 | y :: l,x,h=>by
   rw [List.map_cons,List.sum_cons]
   rcases List.mem_cons.1 h with rfl | h
   . omega
   . have:=xH f l x h;omega
theorem xJ.each {l:List zF} (h:xJ l):l.length<=100000/\∀ r∈l,r.terms.length<=100000/\zB r.bound/\∀ x∈r.terms,zB x.name/\zB x.coef:=by
 obtain ⟨z,_,e,b,_⟩:=h
 refine ⟨by omega,fun r hr=>?_⟩
 have m:=xH (fun r:zF=>r.terms.length) l r hr
 have j:=xH (fun r:zF=>r.bound.length+zV r.terms) l r hr
 unfold yT at e
 unfold Zg at b
 refine ⟨by omega,by unfold zB;omega,fun x hx=>?_⟩
 have u:=xH (fun t:zm=>t.name.length+t.coef.length) r.terms x hx
 unfold zV at j
 unfold zB
 have y:zV r.terms=(List.map (fun t:zm=>t.name.length+t.coef.length) r.terms).sum:=rfl
 simp only [zV] at b
 omega
theorem zhf (l:List zF):(yt (l.map (·.terms))).length=yT l:=by
 unfold yt yT
 induction l with
 | nil=>rfl
 | cons a l ih=>
   rw [List.map_cons,List.flatMap_cons,List.length_append,ih,List.map_cons,List.sum_cons,List.length_map]
def zpz (w:World) (l:List zF) (e:Ending) (w' :World):Prop:=∃ g:Bool,e= .returned (.bool g)/\(∃ m,w' =w.drewN m)/\(g=false->xJ l)
def GreR (w0:World) (l:List zF) (nv tv iv:Value) (wr:World):Prop:=
 ∃ i n t:Nat,i<=l.length/\nv= .int .i64 n/\tv= .int .i64 t/\iv= .int .i64 i/\Hid (n=Zg (l.take i))/\Hid (t=yT (l.take i))/\Hid (t<=400/\(l.length<=800->t<=40))/\Hid (n<=(i+2*t)*reachBytes)/\∃ m,wr=w0.drewN m
def GreK (w0:World) (l:List zm) (n0:Nat) (nv kv:Value) (wr:World):Prop:=
 ∃ k n:Nat,k<=l.length/\nv= .int .i64 n/\kv= .int .i64 k/\Hid (n=n0+zV (l.take k))/\Hid (n<=n0+2*k*reachBytes)/\∃ m,wr=w0.drewN m
theorem v8:reachBytes=140737488351232:=rfl
set_option maxRecDepth 100000 in
theorem znm (A:Option Addr) (n c:Nat) (rows:List zF) (w:World) (B:Nat) (hr:VC w B (.slice A n c) rows):
 Calls prog 4 #[.slice A n c] w (zpz w rows):=by
 obtain rfl:=hr.len
 have aB:=hr.max
 rw [v8] at aB
 by_cases K:(12<rows.length/\rows.length<=800)\/820<rows.length
 . have l:Hid (∀ P:Prop,(true=false->P)):=fun P h=>by cases h
   rcases K with ⟨X,hb⟩ | X
   . have d1:(12:Int)<(rows.length:Int):=by omega
     have z:(rows.length:Int)<=800:=by omega
     clear hr X hb
     go_in
     go_wp2;go_ret;exact ⟨true,rfl,⟨0,rfl⟩,l.o _⟩
   . have d1:(12:Int)<(rows.length:Int):=by omega
     have z:¬ (rows.length:Int)<=800:=by omega
     have e:(820:Int)<(rows.length:Int):=by omega
     clear hr X
     go_in
     go_wp2;go_ret;exact ⟨true,rfl,⟨0,rfl⟩,l.o _⟩
 have l:Hid (∀ P:Prop,(true=false->P)):=fun P h=>by cases h
 have ak:Hid (rows.length<=820/\(rows.length<=12\/800<rows.length)):=ze (by omega)
 have HR:=ze hr
 have aK:rows.length<=820:=by omega
 have aH:∃ x:Bool,Hid (decide ((12:Int)<(rows.length:Int))=x)/\(x=true->¬ (rows.length:Int)<=800):=⟨_,rfl,fun h=>by have:=uG h;omega⟩
 have d9:¬ (820:Int)<(rows.length:Int):=by omega
 have key:∀ g:Bool,∀ (i n t:Nat),i=rows.length->n=Zg (rows.take i)->t=yT (rows.take i)->(t<=400/\(rows.length<=800->t<=40))->(g=false->n<=8000/\(rows.length<=800->n<=1500))->(g=false->xJ rows):=by
  intro g i n t hi hn j aD D h
  have:=D h
  rw [hi,List.take_length] at hn j
  have:=ak.o
  unfold xJ
  subst hn j
  exact ⟨by omega,by omega,by omega,by omega,fun h=>⟨aD.2 h,(D ‹_›).2 h⟩⟩
 have aE:=ze key
 clear hr K key aH
 rcases uL 12 rows.length with az | az
 all_goals
  rcases uL 800 rows.length with h8 | h8
  all_goals first
   | (exfalso;have:=ak.o;omega)
   | skip
 all_goals
  first
  | (have d1:¬ (12:Int)<(rows.length:Int):=by omega)
  | (have d1:(12:Int)<(rows.length:Int):=by omega)
  first
  | (have z:(rows.length:Int)<=800:=by omega
     have ay :decide ((rows.length:Int)<=800)=true:=uE z)
  | (have z:¬ (rows.length:Int)<=800:=by omega
     have ay :decide ((rows.length:Int)<=800)=false:=uF z)
  go_in
  go_wp2
  go_loopw [3,4,5] (GreR w rows) (fun _ _ iv _=>rows.length - (intOf iv).toNat)
  case atStart=>exact ⟨0,0,0,uB,rfl,rfl,rfl,by rw [List.take_zero];exact rfl,by rw [List.take_zero];exact rfl,ze ⟨by omega,fun _=>by omega⟩,ze (by omega),0,rfl⟩
  case round=>
   obtain ⟨i,n,t,hi,rfl,rfl,rfl,HN,HT,ab,ag,u,rfl⟩:=hrel
   by_cases M:i<rows.length
   . have aN:(i:Int)<(rows.length:Int):=by omega
     obtain ⟨ad,AT,nt,ct,Y,aI,p0,p1,j,J⟩:=HR.o.at_ M;subst Y;obtain rfl:=j.len;have ah:=j.max;unfold X6 at J;rw [v8] at ah J;have ae:=ag.o;have ar:=ab.o.1;rw [v8] at ae;have aC:(i+2*t)*140737488351232<=(820+800)*140737488351232:=Nat.mul_le_mul_right _ (by omega);have e1:IntKind.i64.wrap ((n:Int)+(rows[i].bound.length:Int))=((n+rows[i].bound.length:Nat):Int):=by rw [IntKind.wrap_i64];omega
     have e2:IntKind.i64.wrap ((t:Int)+(rows[i].terms.length:Int))=((t+rows[i].terms.length:Nat):Int):=by rw [IntKind.wrap_i64];omega
     have U:n+rows[i].bound.length<=1700*140737488351232:=by omega
     have am:=ze j;have sT:yT (rows.take (i+1))=yT (rows.take i)+rows[i].terms.length:=ZK _ _ _ M;have sN:Zg (rows.take (i+1))=Zg (rows.take i)+(rows[i].bound.length+zV rows[i].terms):=ZK _ _ _ M;obtain ⟨ao,ac,ax⟩:=hz3 sT sN J;clear sT sN j ae aC ar ah;obtain ⟨b,Q⟩:=uQ (t+rows[i].terms.length);obtain ⟨I,R⟩:=uQ (n+rows[i].bound.length);rw [<- Q] at e2;rw [<- R] at e1 U;have N:=ze Q;have O:=ze R;obtain ⟨r,L⟩:=uQ (rows[i]);have aG:=ze L;have ap:r.bound.length=rows[i].bound.length:=by rw [L]
     rw [<- L] at p0 p1 e1 e2 am ao ac N O;clear Q R L ap J
     by_cases an:400<b\/(40<b/\rows.length<=800)
     . rcases an with hb | ⟨Z,av⟩
       . have e:(40:Int)<(b:Int):=by omega
         have T:(400:Int)<(b:Int):=by omega
         clear hb U;go_wp2;go_ret;exact ⟨true,rfl,⟨u,rfl⟩,l.o _⟩
       . first
         | (exfalso;omega)
         | (have e:(40:Int)<(b:Int):=by omega
            clear Z U;go_wp2;go_ret
            exact ⟨true,rfl,⟨u,rfl⟩,l.o _⟩)
     . have T:¬ (400:Int)<(b:Int):=by omega
       have aw:Hid (b<=400/\(rows.length<=800->b<=40)):=ze ⟨by omega,fun _=>by omega⟩;have aM:r.terms.length<=400:=by have:=N.o;omega
       rcases uL 40 b with aj | aj
       all_goals
        first
        | (have e:¬ (40:Int)<(b:Int):=by omega)
        | (have e:(40:Int)<(b:Int):=by omega)
        clear an aj
        first
        | (exfalso;omega)
        | skip
        go_wp2
        go_loopw [3,6] (GreK w r.terms I) (fun _ kv _=>r.terms.length - (intOf kv).toNat)
        case atStart=>exact ⟨0,I,uB,rfl,rfl,by rw [List.take_zero];exact rfl,ze (by omega),u,rfl⟩
        case round=>
         obtain ⟨k,m,hk,rfl,rfl,C,G,mk,rfl⟩:=hrel
         by_cases ai:k<r.terms.length
         . have aJ:(k:Int)<(r.terms.length:Int):=by omega
           obtain ⟨aL,Y,aA,q0,q1,V,S⟩:=am.o.at_ ai;subst Y;unfold X6 at V S;rw [v8] at V S;have al:=G.o;rw [v8] at al;have aF:2*k*140737488351232<=800*140737488351232:=Nat.mul_le_mul_right _ (by omega);have e3:IntKind.i64.wrap ((r.terms[k].name.length:Int)+(r.terms[k].coef.length:Int))=((r.terms[k].name.length+r.terms[k].coef.length:Nat):Int):=by rw [IntKind.wrap_i64];omega
           have e4:IntKind.i64.wrap ((m:Int)+((r.terms[k].name.length+r.terms[k].coef.length:Nat):Int))=((m+(r.terms[k].name.length+r.terms[k].coef.length):Nat):Int):=by rw [IntKind.wrap_i64];omega
           have e5:IntKind.i64.wrap ((m:Int)+((r.terms[k].name.length:Int)+(r.terms[k].coef.length:Int)))=((m+(r.terms[k].name.length+r.terms[k].coef.length):Nat):Int):=by rw [IntKind.wrap_i64];omega
           have sK:zV (r.terms.take (k+1))=zV (r.terms.take k)+(r.terms[k].name.length+r.terms[k].coef.length):=ZK _ _ _ ai;have F:Hid (m+(r.terms[k].name.length+r.terms[k].coef.length)=I+zV (r.terms.take (k+1))):=ze (by have:=C.o;omega);have E:Hid (m+(r.terms[k].name.length+r.terms[k].coef.length)<=I+2*(k+1)*reachBytes):=ze (by rw [v8];omega);clear sK al aF C G V S aA;generalize r.terms[k].name=x at q0 e3 e4 e5 F E;generalize r.terms[k].coef=y at q1 e3 e4 e5 F E;go_wp2_with fail
           go_region
           go_wp2;go_roundw
           case rel=>exact ⟨k+1,_,by omega,rfl,by go_num,F,E,mk+1,rfl⟩
           case measure=>simp [intOf];omega
         . obtain rfl:r.terms.length=k:=by omega
           rw [List.take_length] at C;have F:Hid (m=Zg (rows.take (i+1))):=ze (by rw [ac.o,C.o,O.o,HN.o];omega);have aq:Hid (b=yT (rows.take (i+1))):=ze (by rw [ao.o,N.o,HT.o])
           have E:Hid (m<=(i+1+2*b)*reachBytes):=ze (by
            have K:=G.o;have h2:=ag.o;have h3:=ax.o;have h4:=O.o;have h5:=N.o;rw [v8] at K h2 |-;rw [<- aG.o] at h3;rw [h5]
            omega)
           clear C G;go_wp2;go_roundw
           case rel=>exact ⟨i+1,m,b,by omega,rfl,rfl,by go_num,F,aq,aw,E,mk,rfl⟩
           case measure=>simp [intOf];omega
   . obtain rfl:rows.length=i:=by omega
     clear M
     by_cases D:8000<n\/(1500<n/\rows.length<=800)
     . rcases D with hb | ⟨Z,av⟩
       . have e:(1500:Int)<(n:Int):=by omega
         have T:(8000:Int)<(n:Int):=by omega
         clear hb;go_wp2;go_ret;exact ⟨true,rfl,⟨u,rfl⟩,l.o _⟩
       . first
         | (exfalso;omega)
         | (have e:(1500:Int)<(n:Int):=by omega
            clear Z;go_wp2;go_ret
            exact ⟨true,rfl,⟨u,rfl⟩,l.o _⟩)
     . have af:=aE.o false rows.length n t rfl HN.o HT.o ab.o (fun _=>⟨by omega,fun _=>by omega⟩)
       have au:=ze (af rfl);have T:¬ (8000:Int)<(n:Int):=by omega
       rcases uL 1500 n with aa | aa
       all_goals
        first
        | (have e:¬ (1500:Int)<(n:Int):=by omega)
        | (have e:(1500:Int)<(n:Int):=by omega)
        clear D aa af
        first
        | (exfalso;omega)
        | skip
        go_wp2;go_ret;exact ⟨false,rfl,⟨u,rfl⟩,fun _=>au.o⟩
def zuf (w:World) (l:List zm) (e:Ending) (w' :World):Prop:=∃ g:Bool,e= .returned (.bool g)/\(∃ m,w' =w.drewN m)/\(g=false->l.length<=70/\zV l<=1000)
def TerR (w0:World) (l:List zm) (nv iv:Value) (wr:World):Prop:=
 ∃ i n:Nat,i<=l.length/\i<=100/\nv= .int .i64 n/\iv= .int .i64 i/\Hid (n=zV (l.take i))/\Hid (n<=2*i*reachBytes)/\∃ m,wr=w0.drewN m
set_option maxRecDepth 100000 in
theorem zk5 (A:Option Addr) (n c B:Nat) (l:List zm) (w:World) (ht:Zd w B (.slice A n c) l):
 Calls prog 5 #[.slice A n c] w (zuf w l):=by
 obtain rfl:=ht.len
 have Y:=ht.max
 rw [v8] at Y
 have U:=ze ht
 have G:Hid (∀ P:Prop,(true=false->P)):=fun P h=>by cases h
 clear ht
 go_in
 go_wp2
 go_loopw [3,4] (TerR w l) (fun _ iv _=>l.length - (intOf iv).toNat)
 case atStart=>exact ⟨0,0,uB,by omega,rfl,rfl,by rw [List.take_zero];exact rfl,ze (by omega),0,rfl⟩
 case round=>
  obtain ⟨i,n,hi,r,rfl,rfl,j,K,m,rfl⟩:=hrel
  by_cases b:i<l.length/\i<100
  . obtain ⟨b,ab⟩:=b
    have D:(i:Int)<(l.length:Int):=by omega
    have hid:decide ((i:Int)<(l.length:Int))=true:=uE D;have T:(i:Int)<100:=by omega
    obtain ⟨ad,R,Z,Q,X,z,E⟩:=U.o.at_ b;subst R;unfold X6 at z E;rw [v8] at z E;have hb:=K.o;rw [v8] at hb;have aa:2*i*140737488351232<=200*140737488351232:=Nat.mul_le_mul_right _ (by omega);have M:IntKind.i64.wrap ((l[i].name.length:Int)+(l[i].coef.length:Int))=((l[i].name.length+l[i].coef.length:Nat):Int):=by rw [IntKind.wrap_i64];omega
    have N:IntKind.i64.wrap ((n:Int)+((l[i].name.length+l[i].coef.length:Nat):Int))=((n+(l[i].name.length+l[i].coef.length):Nat):Int):=by rw [IntKind.wrap_i64];omega
    have I:IntKind.i64.wrap ((n:Int)+((l[i].name.length:Int)+(l[i].coef.length:Int)))=((n+(l[i].name.length+l[i].coef.length):Nat):Int):=by rw [IntKind.wrap_i64];omega
    have sK:zV (l.take (i+1))=zV (l.take i)+(l[i].name.length+l[i].coef.length):=ZK _ _ _ b;have u:Hid (n+(l[i].name.length+l[i].coef.length)=zV (l.take (i+1))):=ze (by have:=j.o;omega);have F:Hid (n+(l[i].name.length+l[i].coef.length)<=2*(i+1)*reachBytes):=ze (by rw [v8];omega);clear sK hb aa j K z E Z;generalize l[i].name=x at Q M N I u F;generalize l[i].coef=y at X M N I u F;go_wp2
    go_quiet (fail)
    go_wp2;go_roundw
    case rel=>exact ⟨i+1,_,by omega,by omega,rfl,by go_num,u,F,_,rfl⟩
    case measure=>simp [intOf];omega
  by_cases e:70<l.length
  . have L:(70:Int)<(l.length:Int):=by omega
    have d8:decide ((70:Int)<(l.length:Int))=true:=uE L
    rcases uL i l.length with C | C
    . have af:(i:Int)<(l.length:Int):=by omega
      have D:decide ((i:Int)<(l.length:Int))=true:=uE (by omega);have T:decide ((i:Int)<100)=false:=uF (by omega);clear b C e r;go_wp2;go_ret;exact ⟨true,rfl,⟨m,rfl⟩,G.o _⟩
    . have D:decide ((i:Int)<(l.length:Int))=false:=uF (by omega)
      have ac:decide (i<l.length)=false:=uF (by omega);clear b C e r;go_wp2;go_ret;exact ⟨true,rfl,⟨m,rfl⟩,G.o _⟩
  obtain rfl:l.length=i:=by omega
  rw [List.take_length] at j;have L:decide ((70:Int)<(l.length:Int))=false:=uF (by omega);have S:=ze e;have ae:¬ (l.length:Int)<(l.length:Int):=by omega
  clear b e r
  by_cases J:1000<n
  rotate_left
  . have O:decide ((1000:Int)<(n:Int))=false:=uF (by omega)
    have V:Hid (l.length<=70/\zV l<=1000):=ze ⟨by have:=S.o;omega,by rw [<- j.o];omega⟩;clear J;go_wp2;go_ret;exact ⟨false,rfl,⟨m,rfl⟩,fun _=>V.o⟩
  have O:decide ((1000:Int)<(n:Int))=true:=uE (by omega)
  have d4:(1000:Int)<(n:Int):=by omega
  clear J;go_wp2;go_ret;exact ⟨true,rfl,⟨m,rfl⟩,G.o _⟩
end Go.Proofs.YtofmkndhocinmaaGreatDoor
