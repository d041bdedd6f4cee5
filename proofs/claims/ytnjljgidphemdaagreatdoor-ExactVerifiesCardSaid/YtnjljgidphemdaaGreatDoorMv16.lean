/- Parts of the proof. -/
import Derived.Conc.Holds
import Derived.Lib.SmallJoins
import Derived.ProofKit
import Derived.SizedLaws
import Derived.Test.YtnjljgidphemdaaGreatDoorMv15
set_option linter.all false
set_option maxRecDepth 100000
set_option maxHeartbeats 32000000
namespace Go.Proofs.YtnjljgidphemdaaGreatDoor
open Proofs.Tryz Go.RowKit Go.Deep Go.ChangeShapes Go.WideShapes
def Yi (l:List UInt8):Prop:=l.length<=reachBytes
def xE (w:World) (B:Nat) (v:Value) (l:List zu):Prop:=
 l.length<=reachBytes/\∃ A c,v= .slice A l.length c/\l.length<=c/\c<=maxLen/\yc w B 2 A l.length (v8 l.length (Ye l) (Yc l))/\∀ x∈l,Yi x.name/\Yi x.coef
def XR (w:World) (B:Nat) (v:Value) (l:List zU):Prop:=
 l.length<=reachBytes/\∃ A c H,v= .slice A l.length c/\l.length<=c/\c<=maxLen/\yc w B 2 A l.length (v8 l.length H (Xv l))/\(∀ i,i<l.length->xE w B (H i) (l.getD i default).terms)/\∀ x∈l,Yi x.bound
theorem xE.below {w w' :World} {B:Nat} {v:Value} {l:List zu} (h:xE w B v l) (hb:Below B w w'):xE w' B v l:=by
 obtain ⟨r,A,c,j,b,u,e,m⟩:=h
 exact ⟨r,A,c,j,b,u,e.below hb,m⟩
theorem XR.below {w w' :World} {B:Nat} {v:Value} {l:List zU} (h:XR w B v l) (hb:Below B w w'):XR w' B v l:=by
 obtain ⟨u,A,c,H,m,e,y,j,r,b⟩:=h
 exact ⟨u,A,c,H,m,e,y,j.below hb,fun i hi=>(r i hi).below hb,b⟩
theorem xE.small {w:World} {B:Nat} {v:Value} {l:List zu} (h:xE w B v l) (hl:l.length<=100000) (hs:∀ x∈l,zS x.name/\zS x.coef):zh w B v l:=by
 obtain ⟨_,A,c,j,b,m,e,r⟩:=h
 exact ⟨A,c,j,b,m,hl,e,hs⟩
theorem XR.small {w:World} {B:Nat} {v:Value} {l:List zU} (h:XR w B v l) (hl:l.length<=100000) (hs:∀ r∈l,r.terms.length<=100000/\zS r.bound/\∀ x∈r.terms,zS x.name/\zS x.coef):zH w B v l:=by
 obtain ⟨_,A,c,H,u,j,z,m,y,C⟩:=h
 refine ⟨A,c,H,u,j,z,hl,m,fun i hi=>?_,fun x hx=>(hs x hx).2.1⟩
 have e:=xGD (d:=default) hi
 have h:=y i hi
 rw [e] at h |-
 have b:=hs _ (uO hi)
 exact h.small b.1 b.2.2
theorem xE.len {w:World} {B:Nat} {A:Option Addr} {n c:Nat} {l:List zu} (h:xE w B (.slice A n c) l):n=l.length:=by obtain ⟨_,_,_,e,_⟩:=h;injection e
theorem XR.len {w:World} {B:Nat} {A:Option Addr} {n c:Nat} {l:List zU} (h:XR w B (.slice A n c) l):n=l.length:=by obtain ⟨_,_,_,_,e,_⟩:=h;injection e
theorem XR.max {w:World} {B:Nat} {v:Value} {l:List zU} (h:XR w B v l):l.length<=reachBytes:=h.1
theorem xE.max {w:World} {B:Nat} {v:Value} {l:List zu} (h:xE w B v l):l.length<=reachBytes:=h.1
theorem xE.at_ {w:World} {B:Nat} {A:Option Addr} {n c:Nat} {l:List zu} (h:xE w B (.slice A n c) l) {k:Nat} (hk:k<l.length):
 ∃ b,A=some b/\b.block<B/\w.cell? (b.add (k*2))=some (str l[k].name)/\w.cell? ⟨(b.add (k*2)).block,(b.add (k*2)).off+1,none⟩=some (str l[k].coef)/\Yi l[k].name/\Yi l[k].coef:=by
 obtain ⟨_,A',c',e,_,_,y,u⟩:=h
 injection e with e1 e2 e3
 subst e1
 obtain ⟨b,e,hb,m,r⟩:=y.at2 hk
 have j:=u _ (uO hk)
 have hd:=xGD (d:=default) hk
 simp only [Ye,Yc,hd] at m r
 exact ⟨b,e,hb,m,r,j.1,j.2⟩
theorem XR.at_ {w:World} {B:Nat} {A:Option Addr} {n c:Nat} {l:List zU} (h:XR w B (.slice A n c) l) {k:Nat} (hk:k<l.length):
 ∃ b j nt r,A=some b/\b.block<B/\w.cell? (b.add (k*2))=some (.slice j nt r)/\w.cell? ⟨(b.add (k*2)).block,(b.add (k*2)).off+1,none⟩=some (str l[k].bound)/\xE w B (.slice j nt r) l[k].terms/\Yi l[k].bound:=by
 obtain ⟨_,A',c',H,e,_,_,D,z,C⟩:=h
 injection e with e1 e2 e3
 subst e1
 obtain ⟨b,e,hb,u,y⟩:=D.at2 hk
 have F:=C _ (uO hk)
 have hd:=xGD (d:=default) hk
 have m:=z k hk
 rw [hd] at m
 simp only [Xv,hd] at y
 obtain ⟨_,j,r,E,_⟩:=id m
 rw [E] at u m
 exact ⟨b,j,_,r,e,hb,u,y,m,F⟩
theorem zeb {α:Type} {Q:Nat->α->Prop}:∀ (len:Nat),(∀ i,i<len->∃ e,Q i e)->∃ l:List α,l.length=len/\∀ i (h:i<l.length),Q i l[i]
 | 0,_=>⟨[],rfl,fun i h=>absurd h (by simp)⟩
 | n+1,h=>by
   obtain ⟨l,j,m⟩:=zeb n (fun i hi=>h i (by omega));obtain ⟨e,r⟩:=h n (by omega);refine ⟨l ++ [e],by simp [j],fun i hi=>?_⟩
   rcases uL i l.length with b | b
   . rw [List.getElem_append_left b];exact m i b
   . have u:i=n:=by simp at hi;omega
     subst u;rw [List.getElem_append_right b]
     simpa [j] using r
theorem zm0 {α:Type} {f:α->List Value} {k:Nat} (hk:∀ e,(f e).length=k):∀ (l:List α) (i r:Nat) (hi:i<l.length),r<k->(l.flatMap f)[i*k+r]?=(f l[i])[r]?
 | [],i,r,hi,_=>absurd hi (by simp)
 | e :: l,0,r,_,hr=>by
   rw [List.flatMap_cons,Nat.zero_mul,Nat.zero_add,List.getElem?_append_left (by rw [hk];exact hr)]
   rfl
 | e :: l,i+1,r,hi,hr=>by
   rw [List.flatMap_cons,List.getElem?_append_right (by rw [hk,Nat.succ_mul];omega),hk,show (i+1)*k+r - k=i*k+r by rw [Nat.succ_mul];omega,zm0 hk l i r (by simpa using hi) hr]
   rfl
theorem VW {α:Type} {f:α->List Value} {k:Nat} (hk:∀ e,(f e).length=k):∀ (l:List α),(l.flatMap f).length=l.length*k
 | []=>by simp
 | e :: l=>by rw [List.flatMap_cons,List.length_append,hk,VW hk l,List.length_cons,Nat.succ_mul];omega
theorem zyd {α:Type} (d:α) (f g:α->Value) (l:List α):l.flatMap (fun e=>[f e,g e])=v8 l.length (fun i=>f (l.getD i d)) (fun i=>g (l.getD i d)):=by
 have e:l=(List.range l.length).map (fun i=>l.getD i d):=by
  apply List.ext_getElem
  . simp
  intro i b j
  simp [List.getD,List.getElem?_eq_getElem b]
 conv=>lhs;rw [e]
 rw [List.flatMap_map]
 rfl
section
variable {H:Type} {enc:TypeId×Value->H} {P:Program} {w:World} {spare:Nat->Bool} {held:Bool}
theorem zbx {α:Type} {f:α->List Value} {k B:Nat} {good:α->Prop} {t e:TypeId} {fuel:Nat} {cs:List Value} {x:DataW H×List MemPlace} (hk:∀ e,(f e).length=k) (hk0:0<k) (hby:0<P.bytesOf e) (ht:P.underlying t=some (.slice e)) (hc:P.cellsOf e=k)
 (step:∀ (n:Nat) (F :List Value) (y:DataW H×List MemPlace),DataW.trod enc P w 0 spare held n e F =some y->(∀ z∈y.1.weights P e,z<=reachBytes)->(∀ p∈y.2,p.block<B)->∃ r:α,F =f r/\good r)
 (hw:∀ z∈x.1.weights P t,z<=reachBytes) (hB:∀ p∈x.2,p.block<B) (h:DataW.trod enc P w 0 spare held fuel t cs=some x):
 ∃ (A:Option Addr) (c:Nat) (l:List α),cs=[.slice A l.length c]/\l.length<=c/\c<=maxLen/\yc w B k A l.length (l.flatMap f)/\(∀ r∈l,good r)/\l.length<=reachBytes:=by
 rcases open_slice ht h with ⟨rfl,_⟩ | ⟨a,len,S,m,n,D,Pl,rfl,_,hl,U,O,rfl,M⟩
 . exact ⟨none,0,[],rfl,by simp,by unfold maxLen;omega,yc.none_,fun r h=>absurd h (by simp),uB⟩
 . have aa:len<=m:=by rw [O];split<;>omega
   rw [hc] at M hB
   obtain ⟨l,G,I⟩:=zeb (Q:=fun i r=>w.cells? 0 (a.add (i*k)) k=some (f r)/\good r) len (fun i hi=>by
    obtain ⟨F,C,N⟩:=M i (by omega)
    obtain ⟨r,T,R⟩:=step n F _ N (fun z E=>hw z (by
     unfold DataW.weights;rw [ht];simp only [List.mem_cons,List.mem_append];refine .inr (.inl ?_)
     have X:∀ (L:List (DataW H)) (d:DataW H),d∈L->∀ z∈d.weights P e,z∈DataW.weightsAll P e L:=by
      intro L
      induction L with
      | nil=>intro d hd;cases hd
      | cons b L ih=>
        intro d hd z E;unfold DataW.weightsAll;rw [List.mem_append]
        rcases List.mem_cons.1 hd with rfl | hd
        . exact .inl E
        . exact .inr (ih d hd z E)
     exact X _ (D i) (List.mem_map.2 ⟨i,List.mem_range.2 hi,rfl⟩) z E)) (fun p hp=>hB p (List.mem_append.2 (.inr (List.mem_flatMap.2 ⟨i,List.mem_range.2 (by omega),hp⟩))))
    exact ⟨r,by rw [<- T];exact C,R⟩)
   refine ⟨some a,S,l,by rw [G],by omega,U,⟨VW hk l,fun h0=>⟨a,rfl,?_,fun j u hu=>?_⟩⟩,fun r hel=>?_,?_⟩
   . exact hB (.cell a.block (a.off+0)) (List.mem_append.2 (.inl (MemPlace.mem_row.2 ⟨0,Nat.mul_pos (by omega) hk0,rfl⟩)))
   . have Y:j<l.length*k:=by
      have:=(List.getElem?_eq_some_iff.1 hu).1;rw [VW hk] at this;exact this
     have hi:j / k<l.length:=Nat.div_lt_of_lt_mul (by rw [uH];exact Y);have K:j % k<k:=Nat.mod_lt _ hk0;have J:j / k*k+j % k=j:=by rw [uH];exact Nat.div_add_mod j k
     have C:=(World.cells?_some (I _ hi).1).2.2 (j % k) K;rw [zf3,J] at C;rw [C, <- zm0 hk l _ _ hi K,J];exact hu
   . obtain ⟨i,hi,rfl⟩:=List.mem_iff_getElem.1 hel
     exact (I i hi).2
   . have V:=hw (((List.range len).map D).length*P.bytesOf e+((List.range (m - len)).map fun j=>D (len+j)).length*P.bytesOf e) (by
      unfold DataW.weights;rw [ht, <- Nat.add_mul]
      exact uP ..)
     rw [List.length_map,List.length_range] at V
     have Z:=Nat.le_mul_of_pos_right len hby
     rw [G];omega
theorem ztj (s:ByteArray):str s.data.toList= .string s:=by cases s;rfl
theorem Xq {t:TypeId} (ht:P.underlying t=some .string) (n:Nat) (cs' :List Value) (y:DataW H×List MemPlace) (h:DataW.trod enc P w 0 spare held n t cs' =some y) (hw:∀ z∈y.1.weights P t,z<=reachBytes):
 ∃ el:List UInt8,cs' =[str el]/\Yi el:=by
 obtain ⟨s,rfl,rfl,_⟩:=DataW.trod_string ht h
 refine ⟨s.data.toList,by rw [ztj],?_⟩
 have:=hw s.data.toList.length (by unfold DataW.weights;simp)
 exact this
theorem zro {t:TypeId} {f0 f1:Field} {B:Nat} (ht:P.underlying t=some (.struct #[f0,f1])) (hc:P.cellsOf t=2) (e0:f0.offset=0) (e1:f1.offset=1) (c0:P.cellsOf f0.type=1) (c1:P.cellsOf f1.type=1) (u0:P.underlying f0.type=some .string) (u1:P.underlying f1.type=some .string)
 (n:Nat) (cs' :List Value) (y:DataW H×List MemPlace) (h:DataW.trod enc P w 0 spare held n t cs' =some y) (hw:∀ z∈y.1.weights P t,z<=reachBytes) (hB:∀ p∈y.2,p.block<B):
 ∃ el:zu,cs' =[str el.name,str el.coef]/\(Yi el.name/\Yi el.coef):=by
 obtain ⟨F,G,m,rfl,e,r,l⟩:=trod_struct2 ht h
 rw [hc] at e
 match cs',e with
 | [a,b],_=>
   rw [e0,c0] at r;rw [e1,c1] at l
   obtain ⟨C,j,D⟩:=Xq u0 _ _ _ r (fun z hz=>hw z (by
    unfold DataW.weights;rw [ht]
    simp [DataW.weightsEach,hz]))
   obtain ⟨u,hb,E⟩:=Xq u1 _ _ _ l (fun z hz=>hw z (by
    unfold DataW.weights;rw [ht]
    simp [DataW.weightsEach,hz]))
   simp at j hb;exact ⟨⟨C,u⟩,by rw [j,hb],D,E⟩
theorem zbk {B:Nat} {t e:TypeId} {f0 f1:Field} {fuel:Nat} {cs:List Value} {x:DataW H×List MemPlace} (hby:0<P.bytesOf e) (hs:P.underlying t=some (.slice e)) (ht:P.underlying e=some (.struct #[f0,f1])) (hc:P.cellsOf e=2) (e0:f0.offset=0) (e1:f1.offset=1) (c0:P.cellsOf f0.type=1) (c1:P.cellsOf f1.type=1) (u0:P.underlying f0.type=some .string) (u1:P.underlying f1.type=some .string)
 (h:DataW.trod enc P w 0 spare held fuel t cs=some x) (hw:∀ z∈x.1.weights P t,z<=reachBytes) (hB:∀ p∈x.2,p.block<B):∃ (v:Value) (l:List zu),cs=[v]/\xE w B v l:=by
 obtain ⟨A,c,l,rfl,r,j,b,m,u⟩:=zbx (f:=fun e:zu=>[str e.name,str e.coef]) (k:=2) (B:=B) (good:=fun e=>Yi e.name/\Yi e.coef) (fun _=>rfl) (by omega) hby hs hc (zro ht hc e0 e1 c0 c1 u0 u1) hw hB h
 refine ⟨_,l,rfl,u,A,c,rfl,r,j,?_,m⟩
 rw [zyd default (fun e:zu=>str e.name) (fun e=>str e.coef) l] at b
 exact b
theorem zis {B:Nat} {t e ee:TypeId} {f0 f1 g0 g1:Field} {fuel:Nat} {cs:List Value} {x:DataW H×List MemPlace} (hby:0<P.bytesOf e) (hby' :0<P.bytesOf ee) (hs:P.underlying t=some (.slice e)) (ht:P.underlying e=some (.struct #[g0,g1])) (hc:P.cellsOf e=2) (e0:g0.offset=0) (e1:g1.offset=1) (c0:P.cellsOf g0.type=1) (c1:P.cellsOf g1.type=1)
 (u0:P.underlying g0.type=some (.slice ee)) (u1:P.underlying g1.type=some .string)
 (ht' :P.underlying ee=some (.struct #[f0,f1])) (hc' :P.cellsOf ee=2) (e0' :f0.offset=0) (e1' :f1.offset=1) (c0' :P.cellsOf f0.type=1) (c1' :P.cellsOf f1.type=1) (u0' :P.underlying f0.type=some .string) (u1' :P.underlying f1.type=some .string)
 (h:DataW.trod enc P w 0 spare held fuel t cs=some x) (u:∀ z∈x.1.weights P t,z<=reachBytes) (C:∀ p∈x.2,p.block<B):∃ (v:Value) (l:List zU),cs=[v]/\XR w B v l:=by
 obtain ⟨A,c,l,rfl,r,L,G,E,j⟩:=zbx (f:=fun e:Value×zU=>[e.1,str e.2.bound]) (k:=2) (B:=B) (good:=fun e=>Yi e.2.bound/\xE w B e.1 e.2.terms) (fun _=>rfl) (by omega) hby hs hc
  (by
    intro n O y h u C;obtain ⟨T,S,m,rfl,F,j,r⟩:=trod_struct2 ht h;rw [hc] at F
    match O,F with
    | [a,b],_=>
      rw [e0,c0] at j;rw [e1,c1] at r
      obtain ⟨v,K,I,M⟩:=zbk hby' u0 ht' hc' e0' e1' c0' c1' u0' u1' j (fun z hz=>u z (by
       unfold DataW.weights;rw [ht]
       simp [DataW.weightsEach,hz])) (fun p hp=>C p (List.mem_append.2 (.inl hp)))
      obtain ⟨J,hb,R⟩:=Xq u1 _ _ _ r (fun z hz=>u z (by
       unfold DataW.weights;rw [ht]
       simp [DataW.weightsEach,hz]))
      simp at I hb
      exact ⟨(v,⟨K,J⟩),by rw [I,hb],R,M⟩) u C h
 rw [zyd (undef,default) (fun e:Value×zU=>e.1) (fun e=>str e.2.bound) l] at G
 have D:∀ i,i<l.length->(l.map (·.2)).getD i default=(l.getD i (undef,default)).2:=fun i hi=>by
  simp [List.getD,List.getElem?_eq_getElem hi]
 refine ⟨_,l.map (·.2),rfl,by rw [List.length_map];exact j,A,c,fun i=>(l.getD i (undef,default)).1,by rw [List.length_map],by rw [List.length_map];exact r,L,?_,fun i hi=>?_,fun x hx=>?_⟩
 . rw [List.length_map,Va (f' :=fun i=>(l.getD i (undef,default)).1) (g' :=fun i=>str (l.getD i (undef,default)).2.bound) (fun k hk=>⟨rfl,by unfold Xv;rw [D k hk]⟩)]
   exact G
 . rw [List.length_map] at hi
   rw [D i hi];have Q:l.getD i (undef,default)=l[i]:=by simp [List.getD,List.getElem?_eq_getElem hi]
   show xE w B (l.getD i (undef,default)).1 _
   rw [Q];exact (E _ (uO hi)).2
 . obtain ⟨y,N,rfl⟩:=List.mem_map.1 hx
   exact (E y N).1
end
theorem zfl:prog.underlying 45=some (.struct #[⟨ "Name",9,0,false, "", "",0⟩,⟨ "Coef",25,1,false, "", "",16⟩]):=by kernel_rfl
theorem zee:prog.underlying 31=some (.struct #[⟨ "Terms",23,0,false, "", "",0⟩,⟨ "Bound",25,1,false, "", "",24⟩]):=by kernel_rfl
theorem zlc:prog.underlying 81=some (.struct #[⟨ "Name",9,0,false, "", "",0⟩,⟨ "Value",25,1,false, "", "",16⟩]):=by kernel_rfl
theorem zpk {H:Type} {enc:TypeId×Value->H} {w:World} {spare:Nat->Bool} {held:Bool} {fuel:Nat} {cs:List Value} {x:DataW H×List MemPlace} (h:DataW.trod enc prog w 0 spare held fuel 22 cs=some x) (hw:∀ z∈x.1.weights prog 22,z<=reachBytes) (hB:∀ p∈x.2,p.block<w.heap.size):
 ∃ (v:Value) (l:List zU),cs=[v]/\XR w w.heap.size v l:=
 zis (uG (by kernel_rfl)) (uG (by kernel_rfl)) (by kernel_rfl) zee (by kernel_rfl) rfl rfl (by kernel_rfl) (by kernel_rfl) (by kernel_rfl) (by kernel_rfl) zfl (by kernel_rfl) rfl rfl (by kernel_rfl) (by kernel_rfl) (by kernel_rfl) (by kernel_rfl) h hw hB
theorem zh6 {H:Type} {enc:TypeId×Value->H} {w:World} {spare:Nat->Bool} {held:Bool} {fuel:Nat} {cs:List Value} {x:DataW H×List MemPlace} (h:DataW.trod enc prog w 0 spare held fuel 23 cs=some x) (hw:∀ z∈x.1.weights prog 23,z<=reachBytes) (hB:∀ p∈x.2,p.block<w.heap.size):
 ∃ (v:Value) (l:List zu),cs=[v]/\xE w w.heap.size v l:=
 zbk (uG (by kernel_rfl)) (by kernel_rfl) zfl (by kernel_rfl) rfl rfl (by kernel_rfl) (by kernel_rfl) (by kernel_rfl) (by kernel_rfl) h hw hB
theorem zfm {H:Type} {enc:TypeId×Value->H} {w:World} {spare:Nat->Bool} {held:Bool} {fuel:Nat} {cs:List Value} {x:DataW H×List MemPlace} (h:DataW.trod enc prog w 0 spare held fuel 26 cs=some x) (hw:∀ z∈x.1.weights prog 26,z<=reachBytes) (hB:∀ p∈x.2,p.block<w.heap.size):
 ∃ (v:Value) (l:List zu),cs=[v]/\xE w w.heap.size v l:=
 zbk (uG (by kernel_rfl)) (by kernel_rfl) zlc (by kernel_rfl) rfl rfl (by kernel_rfl) (by kernel_rfl) (by kernel_rfl) (by kernel_rfl) h hw hB
attribute [local go_sem ↓] Go.wp_at_zero Go.wp_at_succ
def zK (l:List zu):Nat:=(l.map fun t=>t.name.length+t.coef.length).sum
def Z5 (l:List zU):Nat:=(l.map fun r=>r.bound.length+zK r.terms).sum
def xb (l:List zU):Nat:=(l.map fun r=>r.terms.length).sum
def xI (l:List zU):Prop:=l.length<=820/\(l.length<=12\/800<l.length)/\xb l<=400/\Z5 l<=8000/\(l.length<=800->xb l<=40/\Z5 l<=1500)
theorem Zf {α:Type} (f:α->Nat) (l:List α) (i:Nat) (h:i<l.length):((l.take (i+1)).map f).sum=((l.take i).map f).sum+f l[i]:=by
 rw [List.take_add_one,List.getElem?_eq_getElem h,List.map_append,List.sum_append]
 simp
theorem vj {α:Type} (f:α->Nat):∀ (l:List α) (x:α),x∈l->f x<=(l.map f).sum
 | [],x,h=>by cases h
 | y :: l,x,h=>by
   rw [List.map_cons,List.sum_cons]
   rcases List.mem_cons.1 h with rfl | h
   . omega
   . have:=vj f l x h;omega
theorem xI.each {l:List zU} (h:xI l):l.length<=100000/\∀ r∈l,r.terms.length<=100000/\zS r.bound/\∀ x∈r.terms,zS x.name/\zS x.coef:=by
 obtain ⟨z,_,e,b,_⟩:=h
 refine ⟨by omega,fun r hr=>?_⟩
 have m:=vj (fun r:zU=>r.terms.length) l r hr
 have j:=vj (fun r:zU=>r.bound.length+zK r.terms) l r hr
 unfold xb at e
 unfold Z5 at b
 refine ⟨by omega,by unfold zS;omega,fun x hx=>?_⟩
 have u:=vj (fun t:zu=>t.name.length+t.coef.length) r.terms x hx
 unfold zK at j
 unfold zS
 have y:zK r.terms=(List.map (fun t:zu=>t.name.length+t.coef.length) r.terms).sum:=rfl
 simp only [zK] at b
 omega
theorem zdx (l:List zU):(zP (l.map (·.terms))).length=xb l:=by
 unfold zP xb
 induction l with
 | nil=>rfl
 | cons a l ih=>
   rw [List.map_cons,List.flatMap_cons,List.length_append,ih,List.map_cons,List.sum_cons,List.length_map]
def zt1 (w:World) (l:List zU) (e:Ending) (w' :World):Prop:=∃ g:Bool,e= .returned (.bool g)/\(∃ m,w' =w.drewN m)/\(g=false->xI l)
def GreR (w0:World) (l:List zU) (nv tv iv:Value) (wr:World):Prop:=
 ∃ i n t:Nat,i<=l.length/\nv= .int .i64 n/\tv= .int .i64 t/\iv= .int .i64 i/\Hid (n=Z5 (l.take i))/\Hid (t=xb (l.take i))/\Hid (t<=400/\(l.length<=800->t<=40))/\Hid (n<=(i+2*t)*reachBytes)/\∃ m,wr=w0.drewN m
def GreK (w0:World) (l:List zu) (n0:Nat) (nv kv:Value) (wr:World):Prop:=
 ∃ k n:Nat,k<=l.length/\nv= .int .i64 n/\kv= .int .i64 k/\Hid (n=n0+zK (l.take k))/\Hid (n<=n0+2*k*reachBytes)/\∃ m,wr=w0.drewN m
theorem yv:reachBytes=140737488351232:=rfl
theorem zi9 (A:Option Addr) (n c:Nat) (rows:List zU) (w:World) (B:Nat) (hr:XR w B (.slice A n c) rows):
 Calls prog 4 #[.slice A n c] w (zt1 w rows):=by
 obtain rfl:=hr.len
 have aC:=hr.max
 rw [yv] at aC
 by_cases K:(12<rows.length/\rows.length<=800)\/820<rows.length
 . have l:Hid (∀ P:Prop,(true=false->P)):=fun P h=>by cases h
   rcases K with ⟨Y,hb⟩ | Y
   . have T:(12:Int)<(rows.length:Int):=by omega
     have z:(rows.length:Int)<=800:=by omega
     clear hr Y hb
     go_in
     go_wp2;go_ret;exact ⟨true,rfl,⟨0,rfl⟩,l.o _⟩
   . have T:(12:Int)<(rows.length:Int):=by omega
     have z:¬ (rows.length:Int)<=800:=by omega
     have e:(820:Int)<(rows.length:Int):=by omega
     clear hr Y
     go_in
     go_wp2;go_ret;exact ⟨true,rfl,⟨0,rfl⟩,l.o _⟩
 have l:Hid (∀ P:Prop,(true=false->P)):=fun P h=>by cases h
 have al:Hid (rows.length<=820/\(rows.length<=12\/800<rows.length)):=ze (by omega)
 have HR:=ze hr
 have aL:rows.length<=820:=by omega
 have aI:∃ x:Bool,Hid (decide ((12:Int)<(rows.length:Int))=x)/\(x=true->¬ (rows.length:Int)<=800):=⟨_,rfl,fun h=>by have:=uG h;omega⟩
 have d9:¬ (820:Int)<(rows.length:Int):=by omega
 have key:∀ g:Bool,∀ (i n t:Nat),i=rows.length->n=Z5 (rows.take i)->t=xb (rows.take i)->(t<=400/\(rows.length<=800->t<=40))->(g=false->n<=8000/\(rows.length<=800->n<=1500))->(g=false->xI rows):=by
  intro g i n t hi hn j aE D h
  have:=D h
  rw [hi,List.take_length] at hn j
  have:=al.o
  unfold xI
  subst hn j
  exact ⟨by omega,by omega,by omega,by omega,fun h=>⟨aE.2 h,(D ‹_›).2 h⟩⟩
 have aF:=ze key
 clear hr K key aI
 rcases uL 12 rows.length with aA | aA
 all_goals
  rcases uL 800 rows.length with h8 | h8
  all_goals first
   | (exfalso;have:=al.o;omega)
   | skip
 all_goals
  first
  | (have T:¬ (12:Int)<(rows.length:Int):=by omega)
  | (have T:(12:Int)<(rows.length:Int):=by omega)
  first
  | (have z:(rows.length:Int)<=800:=by omega
     have az :decide ((rows.length:Int)<=800)=true:=uE z)
  | (have z:¬ (rows.length:Int)<=800:=by omega
     have az :decide ((rows.length:Int)<=800)=false:=uF z)
  go_in
  go_wp2
  go_loopw [3,4,5] (GreR w rows) (fun _ _ iv _=>rows.length - (intOf iv).toNat)
  case atStart=>exact ⟨0,0,0,uB,rfl,rfl,rfl,by rw [List.take_zero];exact rfl,by rw [List.take_zero];exact rfl,ze ⟨by omega,fun _=>by omega⟩,ze (by omega),0,rfl⟩
  case round=>
   obtain ⟨i,n,t,hi,rfl,rfl,rfl,HN,HT,ac,ah,u,rfl⟩:=hrel
   by_cases M:i<rows.length
   . have aO:(i:Int)<(rows.length:Int):=by omega
     obtain ⟨ad,AT,nt,ct,Z,aJ,p0,p1,j,J⟩:=HR.o.at_ M;subst Z;obtain rfl:=j.len;have ai:=j.max;unfold Yi at J;rw [yv] at ai J;have af:=ah.o;have au:=ac.o.1;rw [yv] at af;have aD:(i+2*t)*140737488351232<=(820+800)*140737488351232:=Nat.mul_le_mul_right _ (by omega);have e1:IntKind.i64.wrap ((n:Int)+(rows[i].bound.length:Int))=((n+rows[i].bound.length:Nat):Int):=by rw [IntKind.wrap_i64];omega
     have e2:IntKind.i64.wrap ((t:Int)+(rows[i].terms.length:Int))=((t+rows[i].terms.length:Nat):Int):=by rw [IntKind.wrap_i64];omega
     have V:n+rows[i].bound.length<=1700*140737488351232:=by omega
     have an:=ze j;have sT:xb (rows.take (i+1))=xb (rows.take i)+rows[i].terms.length:=Zf _ _ _ M;have sN:Z5 (rows.take (i+1))=Z5 (rows.take i)+(rows[i].bound.length+zK rows[i].terms):=Zf _ _ _ M;obtain ⟨ap,ae,ay⟩:=hz3 sT sN J;clear sT sN j af aD au ai;obtain ⟨b,Q⟩:=uQ (t+rows[i].terms.length);obtain ⟨I,R⟩:=uQ (n+rows[i].bound.length);rw [<- Q] at e2;rw [<- R] at e1 V;have N:=ze Q;have O:=ze R;obtain ⟨r,L⟩:=uQ (rows[i]);have aH:=ze L;have aq:r.bound.length=rows[i].bound.length:=by rw [L]
     rw [<- L] at p0 p1 e1 e2 an ap ae N O;clear Q R L aq J
     by_cases ao:400<b\/(40<b/\rows.length<=800)
     . rcases ao with hb | ⟨aa,aw⟩
       . have e:(40:Int)<(b:Int):=by omega
         have U:(400:Int)<(b:Int):=by omega
         clear hb V;go_wp2;go_ret;exact ⟨true,rfl,⟨u,rfl⟩,l.o _⟩
       . first
         | (exfalso;omega)
         | (have e:(40:Int)<(b:Int):=by omega
            clear aa V;go_wp2;go_ret
            exact ⟨true,rfl,⟨u,rfl⟩,l.o _⟩)
     . have U:¬ (400:Int)<(b:Int):=by omega
       have ax:Hid (b<=400/\(rows.length<=800->b<=40)):=ze ⟨by omega,fun _=>by omega⟩;have aN:r.terms.length<=400:=by have:=N.o;omega
       rcases uL 40 b with ak | ak
       all_goals
        first
        | (have e:¬ (40:Int)<(b:Int):=by omega)
        | (have e:(40:Int)<(b:Int):=by omega)
        clear ao ak
        first
        | (exfalso;omega)
        | skip
        go_wp2
        go_loopw [3,6] (GreK w r.terms I) (fun _ kv _=>r.terms.length - (intOf kv).toNat)
        case atStart=>exact ⟨0,I,uB,rfl,rfl,by rw [List.take_zero];exact rfl,ze (by omega),u,rfl⟩
        case round=>
         obtain ⟨k,m,hk,rfl,rfl,C,G,mk,rfl⟩:=hrel
         by_cases aj:k<r.terms.length
         . have aK:(k:Int)<(r.terms.length:Int):=by omega
           obtain ⟨aM,Z,aB,q0,q1,X,S⟩:=an.o.at_ aj;subst Z;unfold Yi at X S;rw [yv] at X S;have am:=G.o;rw [yv] at am;have aG:2*k*140737488351232<=800*140737488351232:=Nat.mul_le_mul_right _ (by omega);have e3:IntKind.i64.wrap ((r.terms[k].name.length:Int)+(r.terms[k].coef.length:Int))=((r.terms[k].name.length+r.terms[k].coef.length:Nat):Int):=by rw [IntKind.wrap_i64];omega
           have e4:IntKind.i64.wrap ((m:Int)+((r.terms[k].name.length+r.terms[k].coef.length:Nat):Int))=((m+(r.terms[k].name.length+r.terms[k].coef.length):Nat):Int):=by rw [IntKind.wrap_i64];omega
           have e5:IntKind.i64.wrap ((m:Int)+((r.terms[k].name.length:Int)+(r.terms[k].coef.length:Int)))=((m+(r.terms[k].name.length+r.terms[k].coef.length):Nat):Int):=by rw [IntKind.wrap_i64];omega
           have sK:zK (r.terms.take (k+1))=zK (r.terms.take k)+(r.terms[k].name.length+r.terms[k].coef.length):=Zf _ _ _ aj;have F:Hid (m+(r.terms[k].name.length+r.terms[k].coef.length)=I+zK (r.terms.take (k+1))):=ze (by have:=C.o;omega);have E:Hid (m+(r.terms[k].name.length+r.terms[k].coef.length)<=I+2*(k+1)*reachBytes):=ze (by rw [yv];omega);clear sK am aG C G X S aB;generalize r.terms[k].name=x at q0 e3 e4 e5 F E;generalize r.terms[k].coef=y at q1 e3 e4 e5 F E;go_wp2_with fail
           go_region
           go_wp2;go_roundw
           case rel=>exact ⟨k+1,_,by omega,rfl,by go_num,F,E,mk+1,rfl⟩
           case measure=>simp [intOf];omega
         . obtain rfl:r.terms.length=k:=by omega
           rw [List.take_length] at C;have F:Hid (m=Z5 (rows.take (i+1))):=ze (by rw [ae.o,C.o,O.o,HN.o];omega);have ar:Hid (b=xb (rows.take (i+1))):=ze (by rw [ap.o,N.o,HT.o])
           have E:Hid (m<=(i+1+2*b)*reachBytes):=ze (by
            have K:=G.o;have h2:=ah.o;have h3:=ay.o;have h4:=O.o;have h5:=N.o;rw [yv] at K h2 |-;rw [<- aH.o] at h3;rw [h5]
            omega)
           clear C G;go_wp2;go_roundw
           case rel=>exact ⟨i+1,m,b,by omega,rfl,rfl,by go_num,F,ar,ax,E,mk,rfl⟩
           case measure=>simp [intOf];omega
   . obtain rfl:rows.length=i:=by omega
     clear M
     by_cases D:8000<n\/(1500<n/\rows.length<=800)
     . rcases D with hb | ⟨aa,aw⟩
       . have e:(1500:Int)<(n:Int):=by omega
         have U:(8000:Int)<(n:Int):=by omega
         clear hb;go_wp2;go_ret;exact ⟨true,rfl,⟨u,rfl⟩,l.o _⟩
       . first
         | (exfalso;omega)
         | (have e:(1500:Int)<(n:Int):=by omega
            clear aa;go_wp2;go_ret
            exact ⟨true,rfl,⟨u,rfl⟩,l.o _⟩)
     . have ag:=aF.o false rows.length n t rfl HN.o HT.o ac.o (fun _=>⟨by omega,fun _=>by omega⟩)
       have av:=ze (ag rfl);have U:¬ (8000:Int)<(n:Int):=by omega
       rcases uL 1500 n with ab | ab
       all_goals
        first
        | (have e:¬ (1500:Int)<(n:Int):=by omega)
        | (have e:(1500:Int)<(n:Int):=by omega)
        clear D ab ag
        first
        | (exfalso;omega)
        | skip
        go_wp2;go_ret;exact ⟨false,rfl,⟨u,rfl⟩,fun _=>av.o⟩
def zuy (w:World) (l:List zu) (e:Ending) (w' :World):Prop:=∃ g:Bool,e= .returned (.bool g)/\(∃ m,w' =w.drewN m)/\(g=false->l.length<=70/\zK l<=1000)
def TerR (w0:World) (l:List zu) (nv iv:Value) (wr:World):Prop:=
 ∃ i n:Nat,i<=l.length/\i<=100/\nv= .int .i64 n/\iv= .int .i64 i/\Hid (n=zK (l.take i))/\Hid (n<=2*i*reachBytes)/\∃ m,wr=w0.drewN m
theorem zo6 (A:Option Addr) (n c B:Nat) (l:List zu) (w:World) (ht:xE w B (.slice A n c) l):
 Calls prog 5 #[.slice A n c] w (zuy w l):=by
 obtain rfl:=ht.len
 have Y:=ht.max
 rw [yv] at Y
 have U:=ze ht
 have G:Hid (∀ P:Prop,(true=false->P)):=fun P h=>by cases h
 clear ht
 go_in
 go_wp2
 go_loopw [3,4] (TerR w l) (fun _ iv _=>l.length - (intOf iv).toNat)
 case atStart=>exact ⟨0,0,uB,by omega,rfl,rfl,by rw [List.take_zero];exact rfl,ze (by omega),0,rfl⟩
 case round=>
  obtain ⟨i,n,hi,r,rfl,rfl,j,K,m,rfl⟩:=hrel
  by_cases b:i<l.length/\i<100
  . obtain ⟨b,ab⟩:=b
    have D:(i:Int)<(l.length:Int):=by omega
    have hid:decide ((i:Int)<(l.length:Int))=true:=uE D;have T:(i:Int)<100:=by omega
    obtain ⟨ad,R,Z,Q,X,z,E⟩:=U.o.at_ b;subst R;unfold Yi at z E;rw [yv] at z E;have hb:=K.o;rw [yv] at hb;have aa:2*i*140737488351232<=200*140737488351232:=Nat.mul_le_mul_right _ (by omega);have M:IntKind.i64.wrap ((l[i].name.length:Int)+(l[i].coef.length:Int))=((l[i].name.length+l[i].coef.length:Nat):Int):=by rw [IntKind.wrap_i64];omega
    have N:IntKind.i64.wrap ((n:Int)+((l[i].name.length+l[i].coef.length:Nat):Int))=((n+(l[i].name.length+l[i].coef.length):Nat):Int):=by rw [IntKind.wrap_i64];omega
    have I:IntKind.i64.wrap ((n:Int)+((l[i].name.length:Int)+(l[i].coef.length:Int)))=((n+(l[i].name.length+l[i].coef.length):Nat):Int):=by rw [IntKind.wrap_i64];omega
    have sK:zK (l.take (i+1))=zK (l.take i)+(l[i].name.length+l[i].coef.length):=Zf _ _ _ b;have u:Hid (n+(l[i].name.length+l[i].coef.length)=zK (l.take (i+1))):=ze (by have:=j.o;omega);have F:Hid (n+(l[i].name.length+l[i].coef.length)<=2*(i+1)*reachBytes):=ze (by rw [yv];omega);clear sK hb aa j K z E Z;generalize l[i].name=x at Q M N I u F;generalize l[i].coef=y at X M N I u F;go_wp2
    go_quiet (fail)
    go_wp2;go_roundw
    case rel=>exact ⟨i+1,_,by omega,by omega,rfl,by go_num,u,F,_,rfl⟩
    case measure=>simp [intOf];omega
  by_cases e:70<l.length
  . have L:(70:Int)<(l.length:Int):=by omega
    have d8:decide ((70:Int)<(l.length:Int))=true:=uE L
    rcases uL i l.length with C | C
    . have af:(i:Int)<(l.length:Int):=by omega
      have D:decide ((i:Int)<(l.length:Int))=true:=uE (by omega);have T:decide ((i:Int)<100)=false:=uF (by omega);clear b C e r;go_wp2;go_ret;exact ⟨true,rfl,⟨m,rfl⟩,G.o _⟩
    . have D:decide ((i:Int)<(l.length:Int))=false:=uF (by omega)
      have ac:decide (i<l.length)=false:=uF (by omega);clear b C e r;go_wp2;go_ret;exact ⟨true,rfl,⟨m,rfl⟩,G.o _⟩
  obtain rfl:l.length=i:=by omega
  rw [List.take_length] at j;have L:decide ((70:Int)<(l.length:Int))=false:=uF (by omega);have S:=ze e;have ae:¬ (l.length:Int)<(l.length:Int):=by omega
  clear b e r
  by_cases J:1000<n
  rotate_left
  . have O:decide ((1000:Int)<(n:Int))=false:=uF (by omega)
    have V:Hid (l.length<=70/\zK l<=1000):=ze ⟨by have:=S.o;omega,by rw [<- j.o];omega⟩;clear J;go_wp2;go_ret;exact ⟨false,rfl,⟨m,rfl⟩,fun _=>V.o⟩
  have O:decide ((1000:Int)<(n:Int))=true:=uE (by omega)
  have d4:(1000:Int)<(n:Int):=by omega
  clear J;go_wp2;go_ret;exact ⟨true,rfl,⟨m,rfl⟩,G.o _⟩
theorem zf9 (A:Option Addr) (n c B:Nat) (l:List zu) (w:World) (ht:xE w B (.slice A n c) l):
 Calls prog 14 #[.slice A n c] w (zuy w l):=by
 obtain rfl:=ht.len
 have Y:=ht.max
 rw [yv] at Y
 have U:=ze ht
 have G:Hid (∀ P:Prop,(true=false->P)):=fun P h=>by cases h
 clear ht
 go_in
 go_wp2
 go_loopw [3,4] (TerR w l) (fun _ iv _=>l.length - (intOf iv).toNat)
 case atStart=>exact ⟨0,0,uB,by omega,rfl,rfl,by rw [List.take_zero];exact rfl,ze (by omega),0,rfl⟩
 case round=>
  obtain ⟨i,n,hi,r,rfl,rfl,j,K,m,rfl⟩:=hrel
  by_cases b:i<l.length/\i<100
  . obtain ⟨b,ab⟩:=b
    have D:(i:Int)<(l.length:Int):=by omega
    have hid:decide ((i:Int)<(l.length:Int))=true:=uE D;have T:(i:Int)<100:=by omega
    obtain ⟨ad,R,Z,Q,X,z,E⟩:=U.o.at_ b;subst R;unfold Yi at z E;rw [yv] at z E;have hb:=K.o;rw [yv] at hb;have aa:2*i*140737488351232<=200*140737488351232:=Nat.mul_le_mul_right _ (by omega);have M:IntKind.i64.wrap ((l[i].name.length:Int)+(l[i].coef.length:Int))=((l[i].name.length+l[i].coef.length:Nat):Int):=by rw [IntKind.wrap_i64];omega
    have N:IntKind.i64.wrap ((n:Int)+((l[i].name.length+l[i].coef.length:Nat):Int))=((n+(l[i].name.length+l[i].coef.length):Nat):Int):=by rw [IntKind.wrap_i64];omega
    have I:IntKind.i64.wrap ((n:Int)+((l[i].name.length:Int)+(l[i].coef.length:Int)))=((n+(l[i].name.length+l[i].coef.length):Nat):Int):=by rw [IntKind.wrap_i64];omega
    have sK:zK (l.take (i+1))=zK (l.take i)+(l[i].name.length+l[i].coef.length):=Zf _ _ _ b;have u:Hid (n+(l[i].name.length+l[i].coef.length)=zK (l.take (i+1))):=ze (by have:=j.o;omega);have F:Hid (n+(l[i].name.length+l[i].coef.length)<=2*(i+1)*reachBytes):=ze (by rw [yv];omega);clear sK hb aa j K z E Z;generalize l[i].name=x at Q M N I u F;generalize l[i].coef=y at X M N I u F;go_wp2
    go_quiet (fail)
    go_wp2;go_roundw
    case rel=>exact ⟨i+1,_,by omega,by omega,rfl,by go_num,u,F,_,rfl⟩
    case measure=>simp [intOf];omega
  by_cases e:70<l.length
  . have L:(70:Int)<(l.length:Int):=by omega
    have d8:decide ((70:Int)<(l.length:Int))=true:=uE L
    rcases uL i l.length with C | C
    . have af:(i:Int)<(l.length:Int):=by omega
      have D:decide ((i:Int)<(l.length:Int))=true:=uE (by omega);have T:decide ((i:Int)<100)=false:=uF (by omega);clear b C e r;go_wp2;go_ret;exact ⟨true,rfl,⟨m,rfl⟩,G.o _⟩
    . have D:decide ((i:Int)<(l.length:Int))=false:=uF (by omega)
      have ac:decide (i<l.length)=false:=uF (by omega);clear b C e r;go_wp2;go_ret;exact ⟨true,rfl,⟨m,rfl⟩,G.o _⟩
  obtain rfl:l.length=i:=by omega
  rw [List.take_length] at j;have L:decide ((70:Int)<(l.length:Int))=false:=uF (by omega);have S:=ze e;have ae:¬ (l.length:Int)<(l.length:Int):=by omega
  clear b e r
  by_cases J:1000<n
  rotate_left
  . have O:decide ((1000:Int)<(n:Int))=false:=uF (by omega)
    have V:Hid (l.length<=70/\zK l<=1000):=ze ⟨by have:=S.o;omega,by rw [<- j.o];omega⟩;clear J;go_wp2;go_ret;exact ⟨false,rfl,⟨m,rfl⟩,fun _=>V.o⟩
  have O:decide ((1000:Int)<(n:Int))=true:=uE (by omega)
  have d4:(1000:Int)<(n:Int):=by omega
  clear J;go_wp2;go_ret;exact ⟨true,rfl,⟨m,rfl⟩,G.o _⟩
end Go.Proofs.YtnjljgidphemdaaGreatDoor
