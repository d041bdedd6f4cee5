/- Parts of the proof. -/
import Derived.Conc.Holds
import Derived.Lib.SmallJoins
import Derived.ProofKit
import Derived.SizedLaws
import Derived.Test.YthbmhkiphmcogaaGreatDoorMe15
set_option linter.all false
namespace Go.Proofs.YthbmhkiphmcogaaGreatDoor
open Proofs.Tryz Go.RowKit Go.Deep Go.ChangeShapes Go.WideShapes
def VW (l:List UInt8):Prop:=l.length<=reachBytes
def Xm (w:World) (B:Nat) (v:Value) (l:List zR):Prop:=
 l.length<=reachBytes/\∃ A c,v= .slice A l.length c/\l.length<=c/\c<=maxLen/\zV w B 2 A l.length (yP l.length (Zb l) (Zg l))/\∀ x∈l,VW x.name/\VW x.coef
def zav (w:World) (B:Nat) (v:Value) (l:List zQ):Prop:=
 l.length<=reachBytes/\∃ A c H,v= .slice A l.length c/\l.length<=c/\c<=maxLen/\zV w B 2 A l.length (yP l.length H (vM l))/\(∀ i,i<l.length->Xm w B (H i) (l.getD i default).terms)/\∀ x∈l,VW x.bound
theorem Xm.small {w:World} {B:Nat} {v:Value} {l:List zR} (h:Xm w B v l) (hl:l.length<=100000) (hs:∀ x∈l,zN x.name/\zN x.coef):zk w B v l:=by
 obtain ⟨_,A,c,j,e,b,m,r⟩:=h
 exact ⟨A,c,j,e,b,hl,m,hs⟩
theorem zav.small {w:World} {B:Nat} {v:Value} {l:List zQ} (h:zav w B v l) (hl:l.length<=100000) (hs:∀ r∈l,r.terms.length<=100000/\zN r.bound/\∀ x∈r.terms,zN x.name/\zN x.coef):zT w B v l:=by
 obtain ⟨_,A,c,H,u,m,j,y,z,C⟩:=h
 refine ⟨A,c,H,u,m,j,hl,y,fun i hi=>?_,fun x hx=>(hs x hx).2.1⟩
 have e:l.getD i default=l[i]:=by simp [List.getD,List.getElem?_eq_getElem hi]
 have h:=z i hi
 rw [e] at h |-
 have b:=hs _ (List.getElem_mem hi)
 exact h.small b.1 b.2.2
theorem Xm.len {w:World} {B:Nat} {A:Option Addr} {n c:Nat} {l:List zR} (h:Xm w B (.slice A n c) l):n=l.length:=by obtain ⟨_,_,_,e,_⟩:=h;injection e
theorem zav.len {w:World} {B:Nat} {A:Option Addr} {n c:Nat} {l:List zQ} (h:zav w B (.slice A n c) l):n=l.length:=by obtain ⟨_,_,_,_,e,_⟩:=h;injection e
theorem zav.max {w:World} {B:Nat} {v:Value} {l:List zQ} (h:zav w B v l):l.length<=reachBytes:=h.1
theorem Xm.max {w:World} {B:Nat} {v:Value} {l:List zR} (h:Xm w B v l):l.length<=reachBytes:=h.1
theorem Xm.at_ {w:World} {B:Nat} {A:Option Addr} {n c:Nat} {l:List zR} (h:Xm w B (.slice A n c) l) {k:Nat} (hk:k<l.length):
 ∃ b,A=some b/\b.block<B/\w.cell? (b.add (k*2))=some (str l[k].name)/\w.cell? ⟨(b.add (k*2)).block,(b.add (k*2)).off+1,none⟩=some (str l[k].coef)/\VW l[k].name/\VW l[k].coef:=by
 obtain ⟨_,A',c',e,_,_,u,r⟩:=h
 injection e with e1 e2 e3
 subst e1
 obtain ⟨b,e,hb,j,c1⟩:=u.at2 hk
 have m:=r _ (List.getElem_mem hk)
 have hd:l.getD k default=l[k]:=by simp [List.getD,List.getElem?_eq_getElem hk]
 simp only [Zb,Zg,hd] at j c1
 exact ⟨b,e,hb,j,c1,m.1,m.2⟩
theorem zav.at_ {w:World} {B:Nat} {A:Option Addr} {n c:Nat} {l:List zQ} (h:zav w B (.slice A n c) l) {k:Nat} (hk:k<l.length):
 ∃ b m nt j,A=some b/\b.block<B/\w.cell? (b.add (k*2))=some (.slice m nt j)/\w.cell? ⟨(b.add (k*2)).block,(b.add (k*2)).off+1,none⟩=some (str l[k].bound)/\Xm w B (.slice m nt j) l[k].terms/\VW l[k].bound:=by
 obtain ⟨_,A',c',H,e,_,_,E,z,C⟩:=h
 injection e with e1 e2 e3
 subst e1
 obtain ⟨b,e,hb,u,c1⟩:=E.at2 hk
 have D:=C _ (List.getElem_mem hk)
 have hd:l.getD k default=l[k]:=by simp [List.getD,List.getElem?_eq_getElem hk]
 have r:=z k hk
 rw [hd] at r
 simp only [vM,hd] at c1
 obtain ⟨_,m,j,y,_⟩:=id r
 rw [y] at u r
 exact ⟨b,m,_,j,e,hb,u,c1,r,D⟩
theorem zc5 {α:Type} {Q:Nat->α->Prop}:∀ (len:Nat),(∀ i,i<len->∃ e,Q i e)->∃ l:List α,l.length=len/\∀ i (h:i<l.length),Q i l[i]
 | 0,_=>⟨[],rfl,fun i h=>absurd h (by simp)⟩
 | n+1,h=>by
   obtain ⟨l,j,r⟩:=zc5 n (fun i hi=>h i (by omega));obtain ⟨e,m⟩:=h n (by omega);refine ⟨l ++ [e],by simp [j],fun i hi=>?_⟩
   rcases Nat.lt_or_ge i l.length with b | b
   . rw [List.getElem_append_left b];exact r i b
   . have u:i=n:=by simp at hi;omega
     subst u;rw [List.getElem_append_right b]
     simpa [j] using m
theorem zkw {α:Type} {f:α->List Value} {k:Nat} (hk:∀ e,(f e).length=k):∀ (l:List α) (i r:Nat) (hi:i<l.length),r<k->(l.flatMap f)[i*k+r]?=(f l[i])[r]?
 | [],i,r,hi,_=>absurd hi (by simp)
 | e :: l,0,r,_,hr=>by
   rw [List.flatMap_cons,Nat.zero_mul,Nat.zero_add,List.getElem?_append_left (by rw [hk];exact hr)]
   rfl
 | e :: l,i+1,r,hi,hr=>by
   rw [List.flatMap_cons,List.getElem?_append_right (by rw [hk,Nat.succ_mul];omega),hk,show (i+1)*k+r - k=i*k+r by rw [Nat.succ_mul];omega,zkw hk l i r (by simpa using hi) hr]
   rfl
theorem VJ {α:Type} {f:α->List Value} {k:Nat} (hk:∀ e,(f e).length=k):∀ (l:List α),(l.flatMap f).length=l.length*k
 | []=>by simp
 | e :: l=>by rw [List.flatMap_cons,List.length_append,hk,VJ hk l,List.length_cons,Nat.succ_mul];omega
theorem zxj {α:Type} (d:α) (f g:α->Value) (l:List α):l.flatMap (fun e=>[f e,g e])=yP l.length (fun i=>f (l.getD i d)) (fun i=>g (l.getD i d)):=by
 have e:l=(List.range l.length).map (fun i=>l.getD i d):=by
  apply List.ext_getElem
  . simp
  intro i b j
  simp [List.getD,List.getElem?_eq_getElem b]
 conv=>lhs;rw [e]
 rw [List.flatMap_map]
 rfl
section
variable {H:Type} {enc:TypeId×Value->H} {P:Program} {w:World} {spare:Nat->Bool} {held:Bool}
theorem zfa {α:Type} {f:α->List Value} {k B:Nat} {good:α->Prop} {t e:TypeId} {fuel:Nat} {cs:List Value} {x:DataW H×List MemPlace} (hk:∀ e,(f e).length=k) (hk0:0<k) (hby:0<P.bytesOf e) (ht:P.underlying t=some (.slice e)) (hc:P.cellsOf e=k)
 (step:∀ (n:Nat) (C :List Value) (y:DataW H×List MemPlace),DataW.trod enc P w 0 spare held n e C =some y->(∀ z∈y.1.weights P e,z<=reachBytes)->(∀ p∈y.2,p.block<B)->∃ r:α,C =f r/\good r)
 (hw:∀ z∈x.1.weights P t,z<=reachBytes) (hB:∀ p∈x.2,p.block<B) (h:DataW.trod enc P w 0 spare held fuel t cs=some x):
 ∃ (A:Option Addr) (c:Nat) (l:List α),cs=[.slice A l.length c]/\l.length<=c/\c<=maxLen/\zV w B k A l.length (l.flatMap f)/\(∀ r∈l,good r)/\l.length<=reachBytes:=by
 rcases open_slice ht h with ⟨rfl,_⟩ | ⟨a,len,Y,m,n,D,Pl,rfl,_,Z,U,S,rfl,J⟩
 . exact ⟨none,0,[],rfl,by simp,by unfold maxLen;omega,zV.none_,fun r h=>absurd h (by simp),Nat.zero_le _⟩
 . have aa:len<=m:=by rw [S];split<;>omega
   rw [hc] at J hB
   obtain ⟨l,K,I⟩:=zc5 (Q:=fun i r=>w.cells? 0 (a.add (i*k)) k=some (f r)/\good r) len (fun i hi=>by
    obtain ⟨C,E,O⟩:=J i (by omega)
    obtain ⟨r,T,R⟩:=step n C _ O (fun z F=>hw z (by
     unfold DataW.weights;rw [ht];simp only [List.mem_cons,List.mem_append];refine .inr (.inl ?_)
     have N:∀ (L:List (DataW H)) (d:DataW H),d∈L->∀ z∈d.weights P e,z∈DataW.weightsAll P e L:=by
      intro L
      induction L with
      | nil=>intro d hd;cases hd
      | cons b L ih=>
        intro d hd z F;unfold DataW.weightsAll;rw [List.mem_append]
        rcases List.mem_cons.1 hd with rfl | hd
        . exact .inl F
        . exact .inr (ih d hd z F)
     exact N _ (D i) (List.mem_map.2 ⟨i,List.mem_range.2 hi,rfl⟩) z F)) (fun p hp=>hB p (List.mem_append.2 (.inr (List.mem_flatMap.2 ⟨i,List.mem_range.2 (by omega),hp⟩))))
    exact ⟨r,by rw [<- T];exact E,R⟩)
   refine ⟨some a,Y,l,by rw [K],by omega,U,⟨VJ hk l,fun h0=>⟨a,rfl,?_,fun j u hu=>?_⟩⟩,fun r hel=>?_,?_⟩
   . exact hB (.cell a.block (a.off+0)) (List.mem_append.2 (.inl (MemPlace.mem_row.2 ⟨0,Nat.mul_pos (by omega) hk0,rfl⟩)))
   . have V:j<l.length*k:=by
      have:=(List.getElem?_eq_some_iff.1 hu).1;rw [VJ hk] at this;exact this
     have hi:j / k<l.length:=Nat.div_lt_of_lt_mul (by rw [Nat.mul_comm];exact V);have G:j % k<k:=Nat.mod_lt _ hk0;have M:j / k*k+j % k=j:=by rw [Nat.mul_comm];exact Nat.div_add_mod j k
     have E:=(World.cells?_some (I _ hi).1).2.2 (j % k) G;rw [zfe,M] at E;rw [E, <- zkw hk l _ _ hi G,M];exact hu
   . obtain ⟨i,hi,rfl⟩:=List.mem_iff_getElem.1 hel
     exact (I i hi).2
   . have X:=hw (((List.range len).map D).length*P.bytesOf e+((List.range (m - len)).map fun j=>D (len+j)).length*P.bytesOf e) (by
      unfold DataW.weights;rw [ht, <- Nat.add_mul]
      exact List.mem_cons_self ..)
     rw [List.length_map,List.length_range] at X
     have h8:=Nat.le_mul_of_pos_right len hby
     rw [K];omega
theorem zrv (s:ByteArray):str s.data.toList= .string s:=by cases s;rfl
theorem zd3 {t:TypeId} (ht:P.underlying t=some .string) (n:Nat) (cs' :List Value) (y:DataW H×List MemPlace) (h:DataW.trod enc P w 0 spare held n t cs' =some y) (hw:∀ z∈y.1.weights P t,z<=reachBytes):
 ∃ el:List UInt8,cs' =[str el]/\VW el:=by
 obtain ⟨s,rfl,rfl,_⟩:=DataW.trod_string ht h
 refine ⟨s.data.toList,by rw [zrv],?_⟩
 have:=hw s.data.toList.length (by unfold DataW.weights;simp)
 exact this
theorem zqx {t:TypeId} {f0 f1:Field} {B:Nat} (ht:P.underlying t=some (.struct #[f0,f1])) (hc:P.cellsOf t=2) (e0:f0.offset=0) (e1:f1.offset=1) (c0:P.cellsOf f0.type=1) (c1:P.cellsOf f1.type=1) (u0:P.underlying f0.type=some .string) (u1:P.underlying f1.type=some .string)
 (n:Nat) (cs' :List Value) (y:DataW H×List MemPlace) (h:DataW.trod enc P w 0 spare held n t cs' =some y) (hw:∀ z∈y.1.weights P t,z<=reachBytes) (hB:∀ p∈y.2,p.block<B):
 ∃ el:zR,cs' =[str el.name,str el.coef]/\(VW el.name/\VW el.coef):=by
 obtain ⟨y0,D,m,rfl,e,j,l⟩:=trod_struct2 ht h
 rw [hc] at e
 match cs',e with
 | [a,b],_=>
   rw [e0,c0] at j;rw [e1,c1] at l
   obtain ⟨C,r,u⟩:=zd3 u0 _ _ _ j (fun z hz=>hw z (by
    unfold DataW.weights;rw [ht]
    simp [DataW.weightsEach,hz]))
   obtain ⟨b1,hb,s1⟩:=zd3 u1 _ _ _ l (fun z hz=>hw z (by
    unfold DataW.weights;rw [ht]
    simp [DataW.weightsEach,hz]))
   simp at r hb;exact ⟨⟨C,b1⟩,by rw [r,hb],u,s1⟩
theorem zmx {B:Nat} {t e:TypeId} {f0 f1:Field} {fuel:Nat} {cs:List Value} {x:DataW H×List MemPlace} (hby:0<P.bytesOf e) (hs:P.underlying t=some (.slice e)) (ht:P.underlying e=some (.struct #[f0,f1])) (hc:P.cellsOf e=2) (e0:f0.offset=0) (e1:f1.offset=1) (c0:P.cellsOf f0.type=1) (c1:P.cellsOf f1.type=1) (u0:P.underlying f0.type=some .string) (u1:P.underlying f1.type=some .string)
 (h:DataW.trod enc P w 0 spare held fuel t cs=some x) (hw:∀ z∈x.1.weights P t,z<=reachBytes) (hB:∀ p∈x.2,p.block<B):∃ (v:Value) (l:List zR),cs=[v]/\Xm w B v l:=by
 obtain ⟨A,c,l,rfl,r,m,b,u,j⟩:=zfa (f:=fun e:zR=>[str e.name,str e.coef]) (k:=2) (B:=B) (good:=fun e=>VW e.name/\VW e.coef) (fun _=>rfl) (by omega) hby hs hc (zqx ht hc e0 e1 c0 c1 u0 u1) hw hB h
 refine ⟨_,l,rfl,j,A,c,rfl,r,m,?_,u⟩
 rw [zxj default (fun e:zR=>str e.name) (fun e=>str e.coef) l] at b
 exact b
theorem zg0 {B:Nat} {t e ee:TypeId} {f0 f1 g0 g1:Field} {fuel:Nat} {cs:List Value} {x:DataW H×List MemPlace} (hby:0<P.bytesOf e) (hby' :0<P.bytesOf ee) (hs:P.underlying t=some (.slice e)) (ht:P.underlying e=some (.struct #[g0,g1])) (hc:P.cellsOf e=2) (e0:g0.offset=0) (e1:g1.offset=1) (c0:P.cellsOf g0.type=1) (c1:P.cellsOf g1.type=1)
 (u0:P.underlying g0.type=some (.slice ee)) (u1:P.underlying g1.type=some .string)
 (ht' :P.underlying ee=some (.struct #[f0,f1])) (hc' :P.cellsOf ee=2) (e0' :f0.offset=0) (e1' :f1.offset=1) (c0' :P.cellsOf f0.type=1) (c1' :P.cellsOf f1.type=1) (u0' :P.underlying f0.type=some .string) (u1' :P.underlying f1.type=some .string)
 (h:DataW.trod enc P w 0 spare held fuel t cs=some x) (r:∀ z∈x.1.weights P t,z<=reachBytes) (C:∀ p∈x.2,p.block<B):∃ (v:Value) (l:List zQ),cs=[v]/\zav w B v l:=by
 obtain ⟨A,c,l,rfl,u,N,D,I,j⟩:=zfa (f:=fun e:Value×zQ=>[e.1,str e.2.bound]) (k:=2) (B:=B) (good:=fun e=>VW e.2.bound/\Xm w B e.1 e.2.terms) (fun _=>rfl) (by omega) hby hs hc
  (by
    intro n K y h r C;obtain ⟨y0,Q,m,rfl,F,j,u⟩:=trod_struct2 ht h;rw [hc] at F
    match K,F with
    | [a,b],_=>
      rw [e0,c0] at j;rw [e1,c1] at u
      obtain ⟨v,M,E,O⟩:=zmx hby' u0 ht' hc' e0' e1' c0' c1' u0' u1' j (fun z hz=>r z (by
       unfold DataW.weights;rw [ht]
       simp [DataW.weightsEach,hz])) (fun p hp=>C p (List.mem_append.2 (.inl hp)))
      obtain ⟨b1,hb,s1⟩:=zd3 u1 _ _ _ u (fun z hz=>r z (by
       unfold DataW.weights;rw [ht]
       simp [DataW.weightsEach,hz]))
      simp at E hb
      exact ⟨(v,⟨M,b1⟩),by rw [E,hb],s1,O⟩) r C h
 rw [zxj (undef,default) (fun e:Value×zQ=>e.1) (fun e=>str e.2.bound) l] at D
 have G:∀ i,i<l.length->(l.map (·.2)).getD i default=(l.getD i (undef,default)).2:=fun i hi=>by
  simp [List.getD,List.getElem?_eq_getElem hi]
 refine ⟨_,l.map (·.2),rfl,by rw [List.length_map];exact j,A,c,fun i=>(l.getD i (undef,default)).1,by rw [List.length_map],by rw [List.length_map];exact u,N,?_,fun i hi=>?_,fun x hx=>?_⟩
 . rw [List.length_map,YS (f' :=fun i=>(l.getD i (undef,default)).1) (g' :=fun i=>str (l.getD i (undef,default)).2.bound) (fun k hk=>⟨rfl,by unfold vM;rw [G k hk]⟩)]
   exact D
 . rw [List.length_map] at hi
   rw [G i hi];have L:l.getD i (undef,default)=l[i]:=by simp [List.getD,List.getElem?_eq_getElem hi]
   show Xm w B (l.getD i (undef,default)).1 _
   rw [L];exact (I _ (List.getElem_mem hi)).2
 . obtain ⟨y,J,rfl⟩:=List.mem_map.1 hx
   exact (I y J).1
end
theorem zl7:Tryz.prog.underlying 35=some (.struct #[⟨ "Name",9,0,false, "", "",0⟩,⟨ "Coef",31,1,false, "", "",16⟩]):=by kernel_rfl
theorem zob:Tryz.prog.underlying 33=some (.struct #[⟨ "Terms",30,0,false, "", "",0⟩,⟨ "Bound",31,1,false, "", "",24⟩]):=by kernel_rfl
theorem zqr {H:Type} {enc:TypeId×Value->H} {w:World} {spare:Nat->Bool} {held:Bool} {fuel:Nat} {cs:List Value} {x:DataW H×List MemPlace} (h:DataW.trod enc Tryz.prog w 0 spare held fuel 22 cs=some x) (hw:∀ z∈x.1.weights Tryz.prog 22,z<=reachBytes) (hB:∀ p∈x.2,p.block<w.heap.size):
 ∃ (v:Value) (l:List zQ),cs=[v]/\zav w w.heap.size v l:=
 zg0 (of_decide_eq_true (by kernel_rfl)) (of_decide_eq_true (by kernel_rfl)) (by kernel_rfl) zob (by kernel_rfl) rfl rfl (by kernel_rfl) (by kernel_rfl) (by kernel_rfl) (by kernel_rfl) zl7 (by kernel_rfl) rfl rfl (by kernel_rfl) (by kernel_rfl) (by kernel_rfl) (by kernel_rfl) h hw hB
end Go.Proofs.YthbmhkiphmcogaaGreatDoor
namespace Go.Proofs.YthbmhkiphmcogaaGreatDoor
open Proofs.Tryz Go.RowKit Go.Deep
attribute [local go_sem ↓] Go.wp_at_zero Go.wp_at_succ
def xH (l:List zR):Nat:=(l.map fun t=>t.name.length+t.coef.length).sum
def Zs (l:List zQ):Nat:=(l.map fun r=>r.bound.length+xH r.terms).sum
def xX (l:List zQ):Nat:=(l.map fun r=>r.terms.length).sum
def xK (l:List zQ):Prop:=l.length<=820/\(l.length<=12\/800<l.length)/\xX l<=400/\Zs l<=8000/\(l.length<=800->xX l<=40/\Zs l<=1500)
theorem Xx {α:Type} (f:α->Nat) (l:List α) (i:Nat) (h:i<l.length):((l.take (i+1)).map f).sum=((l.take i).map f).sum+f l[i]:=by
 rw [List.take_add_one,List.getElem?_eq_getElem h,List.map_append,List.sum_append]
 simp
theorem ZU {α:Type} (f:α->Nat):∀ (l:List α) (x:α),x∈l->f x<=(l.map f).sum
 | [],x,h=>by cases h
 | y :: l,x,h=>by
   rw [List.map_cons,List.sum_cons]
   rcases List.mem_cons.1 h with rfl | h
   . omega
   . have:=ZU f l x h;omega
theorem xK.each {l:List zQ} (h:xK l):l.length<=100000/\∀ r∈l,r.terms.length<=100000/\zN r.bound/\∀ x∈r.terms,zN x.name/\zN x.coef:=by
 obtain ⟨z,_,e,b,_⟩:=h
 refine ⟨by omega,fun r hr=>?_⟩
 have u:=ZU (fun r:zQ=>r.terms.length) l r hr
 have j:=ZU (fun r:zQ=>r.bound.length+xH r.terms) l r hr
 unfold xX at e
 unfold Zs at b
 refine ⟨by omega,by unfold zN;omega,fun x hx=>?_⟩
 have y:=ZU (fun t:zR=>t.name.length+t.coef.length) r.terms x hx
 unfold xH at j
 unfold zN
 have m:xH r.terms=(List.map (fun t:zR=>t.name.length+t.coef.length) r.terms).sum:=rfl
 simp only [xH] at b
 omega
theorem zkj (l:List zQ):(yg (l.map (·.terms))).length=xX l:=by
 unfold yg xX
 induction l with
 | nil=>rfl
 | cons a l ih=>
   rw [List.map_cons,List.flatMap_cons,List.length_append,ih,List.map_cons,List.sum_cons,List.length_map]
def zs5 (w:World) (l:List zQ) (e:Ending) (w' :World):Prop:=∃ g:Bool,e= .returned (.bool g)/\(∃ m,w' =w.drewN m)/\(g=false->xK l)
def GreR (w0:World) (l:List zQ) (nv tv iv:Value) (wr:World):Prop:=
 ∃ i n t:Nat,i<=l.length/\nv= .int .i64 n/\tv= .int .i64 t/\iv= .int .i64 i/\Hid (n=Zs (l.take i))/\Hid (t=xX (l.take i))/\Hid (t<=400/\(l.length<=800->t<=40))/\Hid (n<=(i+2*t)*reachBytes)/\∃ m,wr=w0.drewN m
def GreK (w0:World) (l:List zR) (n0:Nat) (nv kv:Value) (wr:World):Prop:=
 ∃ k n:Nat,k<=l.length/\nv= .int .i64 n/\kv= .int .i64 k/\Hid (n=n0+xH (l.take k))/\Hid (n<=n0+2*k*reachBytes)/\∃ m,wr=w0.drewN m
theorem YH:reachBytes=140737488351232:=rfl
set_option maxRecDepth 100000 in
set_option maxHeartbeats 4000000 in
theorem zpg (A:Option Addr) (n c:Nat) (rows:List zQ) (w:World) (B:Nat) (hr:zav w B (.slice A n c) rows):
 Calls Tryz.prog 4 #[.slice A n c] w (zs5 w rows):=by
 obtain rfl:=hr.len
 have au:=hr.max
 rw [YH] at au
 by_cases I:(12<rows.length/\rows.length<=800)\/820<rows.length
 . have j:Hid (∀ P:Prop,(true=false->P)):=fun P h=>by cases h
   rcases I with ⟨Z,hb⟩ | Z
   . have d1:(12:Int)<(rows.length:Int):=by omega
     have E:(rows.length:Int)<=800:=by omega
     clear hr Z hb
     go_enter func4,ntmps4
     go_wp2_with fail;go_ret;exact ⟨true,rfl,⟨0,rfl⟩,j.o _⟩
   . have d1:(12:Int)<(rows.length:Int):=by omega
     have E:¬ (rows.length:Int)<=800:=by omega
     have e:(820:Int)<(rows.length:Int):=by omega
     clear hr Z
     go_enter func4,ntmps4
     go_wp2_with fail;go_ret;exact ⟨true,rfl,⟨0,rfl⟩,j.o _⟩
 have j:Hid (∀ P:Prop,(true=false->P)):=fun P h=>by cases h
 have ac:Hid (rows.length<=820/\(rows.length<=12\/800<rows.length)):=ze (by omega)
 have HR:=ze hr
 have aL:rows.length<=820:=by omega
 have aG:∃ x:Bool,Hid (decide ((12:Int)<(rows.length:Int))=x)/\(x=true->¬ (rows.length:Int)<=800):=⟨_,rfl,fun h=>by have:=of_decide_eq_true h;omega⟩
 have d9:¬ (820:Int)<(rows.length:Int):=by omega
 have key:∀ g:Bool,∀ (i n t:Nat),i=rows.length->n=Zs (rows.take i)->t=xX (rows.take i)->(t<=400/\(rows.length<=800->t<=40))->(g=false->n<=8000/\(rows.length<=800->n<=1500))->(g=false->xK rows):=by
  intro g i n t hi hn l aw C h
  have:=C h
  rw [hi,List.take_length] at hn l
  have:=ac.o
  unfold xK
  subst hn l
  exact ⟨by omega,by omega,by omega,by omega,fun h=>⟨aw.2 h,(C ‹_›).2 h⟩⟩
 have aB:=ze key
 clear hr I key aG
 rcases Nat.lt_or_ge 12 rows.length with aE | aE
 all_goals
  rcases Nat.lt_or_ge 800 rows.length with h8 | h8
  all_goals first
   | (exfalso;have:=ac.o;omega)
   | skip
 all_goals
  first
  | (have d1:¬ (12:Int)<(rows.length:Int):=by omega)
  | (have d1:(12:Int)<(rows.length:Int):=by omega)
  first
  | (have E:(rows.length:Int)<=800:=by omega
     have aH :decide ((rows.length:Int)<=800)=true:=decide_eq_true E)
  | (have E:¬ (rows.length:Int)<=800:=by omega
     have aH :decide ((rows.length:Int)<=800)=false:=decide_eq_false E)
  go_enter func4,ntmps4
  go_wp2_with fail
  go_loopw [3,4,5] (GreR w rows) (fun _ _ iv _=>rows.length - (intOf iv).toNat)
  case atStart=>exact ⟨0,0,0,Nat.zero_le _,rfl,rfl,rfl,by rw [List.take_zero];exact rfl,by rw [List.take_zero];exact rfl,ze ⟨by omega,fun _=>by omega⟩,ze (by omega),0,rfl⟩
  case round=>
   obtain ⟨i,n,t,hi,rfl,rfl,rfl,HN,HT,al,am,u,rfl⟩:=hrel
   by_cases N:i<rows.length
   . have aK:(i:Int)<(rows.length:Int):=by omega
     obtain ⟨ad,AT,nt,ct,T,aM,p0,p1,l,J⟩:=HR.o.at_ N;subst T;obtain rfl:=l.len;have aj:=l.max;unfold VW at J;rw [YH] at aj J;have an:=am.o;have aA:=al.o.1;rw [YH] at an;have aD:(i+2*t)*140737488351232<=(820+800)*140737488351232:=Nat.mul_le_mul_right _ (by omega);have e1:IntKind.i64.wrap ((n:Int)+(rows[i].bound.length:Int))=((n+rows[i].bound.length:Nat):Int):=by rw [IntKind.wrap_i64];omega
     have e2:IntKind.i64.wrap ((t:Int)+(rows[i].terms.length:Int))=((t+rows[i].terms.length:Nat):Int):=by rw [IntKind.wrap_i64];omega
     have Q:n+rows[i].bound.length<=1700*140737488351232:=by omega
     have aa:=ze l;have sT:xX (rows.take (i+1))=xX (rows.take i)+rows[i].terms.length:=Xx _ _ _ N;have sN:Zs (rows.take (i+1))=Zs (rows.take i)+(rows[i].bound.length+xH rows[i].terms):=Xx _ _ _ N;have ao:=ze sT;have ab:=ze sN;have ap:=ze J;clear sT sN l an aD aA aj;obtain ⟨b,S⟩:∃ b,b=t+rows[i].terms.length:=⟨_,rfl⟩;obtain ⟨z,U⟩:∃ z,z=n+rows[i].bound.length:=⟨_,rfl⟩;rw [<- S] at e2;rw [<- U] at e1 Q;have K:=ze S;have X:=ze U;obtain ⟨r,M⟩:∃ r,r=rows[i]:=⟨_,rfl⟩;have aq:=ze M;have aF:r.bound.length=rows[i].bound.length:=by rw [M]
     rw [<- M] at p0 p1 e1 e2 aa ao ab K X;clear S U M aF J
     by_cases ai:400<b\/(40<b/\rows.length<=800)
     . rcases ai with hb | ⟨Y,ax⟩
       . have e:(40:Int)<(b:Int):=by omega
         have V:(400:Int)<(b:Int):=by omega
         clear hb Q;go_wp2_with fail;go_ret;exact ⟨true,rfl,⟨u,rfl⟩,j.o _⟩
       . first
         | (exfalso;omega)
         | (have e:(40:Int)<(b:Int):=by omega
            clear Y Q;go_wp2_with fail;go_ret
            exact ⟨true,rfl,⟨u,rfl⟩,j.o _⟩)
     . have V:¬ (400:Int)<(b:Int):=by omega
       have ar:Hid (b<=400/\(rows.length<=800->b<=40)):=ze ⟨by omega,fun _=>by omega⟩;have aN:r.terms.length<=400:=by have:=K.o;omega
       rcases Nat.lt_or_ge 40 b with ag | ag
       all_goals
        first
        | (have e:¬ (40:Int)<(b:Int):=by omega)
        | (have e:(40:Int)<(b:Int):=by omega)
        clear ai ag
        first
        | (exfalso;omega)
        | skip
        go_wp2_with fail
        go_loopw [3,6] (GreK w r.terms z) (fun _ kv _=>r.terms.length - (intOf kv).toNat)
        case atStart=>exact ⟨0,z,Nat.zero_le _,rfl,rfl,by rw [List.take_zero];exact rfl,ze (by omega),u,rfl⟩
        case round=>
         obtain ⟨k,m,hk,rfl,rfl,F,L,mk,rfl⟩:=hrel
         by_cases ah:k<r.terms.length
         . have aI:(k:Int)<(r.terms.length:Int):=by omega
           obtain ⟨aJ,T,av,q0,q1,O,R⟩:=aa.o.at_ ah;subst T;unfold VW at O R;rw [YH] at O R;have ae:=L.o;rw [YH] at ae;have ay:2*k*140737488351232<=800*140737488351232:=Nat.mul_le_mul_right _ (by omega);have e3:IntKind.i64.wrap ((r.terms[k].name.length:Int)+(r.terms[k].coef.length:Int))=((r.terms[k].name.length+r.terms[k].coef.length:Nat):Int):=by rw [IntKind.wrap_i64];omega
           have e4:IntKind.i64.wrap ((m:Int)+((r.terms[k].name.length+r.terms[k].coef.length:Nat):Int))=((m+(r.terms[k].name.length+r.terms[k].coef.length):Nat):Int):=by rw [IntKind.wrap_i64];omega
           have e5:IntKind.i64.wrap ((m:Int)+((r.terms[k].name.length:Int)+(r.terms[k].coef.length:Int)))=((m+(r.terms[k].name.length+r.terms[k].coef.length):Nat):Int):=by rw [IntKind.wrap_i64];omega
           have sK:xH (r.terms.take (k+1))=xH (r.terms.take k)+(r.terms[k].name.length+r.terms[k].coef.length):=Xx _ _ _ ah;have D:Hid (m+(r.terms[k].name.length+r.terms[k].coef.length)=z+xH (r.terms.take (k+1))):=ze (by have:=F.o;omega);have G:Hid (m+(r.terms[k].name.length+r.terms[k].coef.length)<=z+2*(k+1)*reachBytes):=ze (by rw [YH];omega);clear sK ae ay F L O R av;generalize r.terms[k].name=x at q0 e3 e4 e5 D G;generalize r.terms[k].coef=y at q1 e3 e4 e5 D G;go_wp2_with fail
           go_region
           go_wp2_with fail;go_roundw
           case rel=>exact ⟨k+1,_,by omega,rfl,by go_num,D,G,mk+1,rfl⟩
           case measure=>simp [intOf];omega
         . obtain rfl:r.terms.length=k:=by omega
           rw [List.take_length] at F;have D:Hid (m=Zs (rows.take (i+1))):=ze (by rw [ab.o,F.o,X.o,HN.o];omega);have aC:Hid (b=xX (rows.take (i+1))):=ze (by rw [ao.o,K.o,HT.o])
           have G:Hid (m<=(i+1+2*b)*reachBytes):=ze (by
            have I:=L.o;have h2:=am.o;have h3:=ap.o;have h4:=X.o;have h5:=K.o;rw [YH] at I h2 |-;rw [<- aq.o] at h3;rw [h5]
            omega)
           clear F L;go_wp2_with fail;go_roundw
           case rel=>exact ⟨i+1,m,b,by omega,rfl,rfl,by go_num,D,aC,ar,G,mk,rfl⟩
           case measure=>simp [intOf];omega
   . obtain rfl:rows.length=i:=by omega
     clear N
     by_cases C:8000<n\/(1500<n/\rows.length<=800)
     . rcases C with hb | ⟨Y,ax⟩
       . have e:(1500:Int)<(n:Int):=by omega
         have V:(8000:Int)<(n:Int):=by omega
         clear hb;go_wp2_with fail;go_ret;exact ⟨true,rfl,⟨u,rfl⟩,j.o _⟩
       . first
         | (exfalso;omega)
         | (have e:(1500:Int)<(n:Int):=by omega
            clear Y;go_wp2_with fail;go_ret
            exact ⟨true,rfl,⟨u,rfl⟩,j.o _⟩)
     . have af:=aB.o false rows.length n t rfl HN.o HT.o al.o (fun _=>⟨by omega,fun _=>by omega⟩)
       have az:=ze (af rfl);have V:¬ (8000:Int)<(n:Int):=by omega
       rcases Nat.lt_or_ge 1500 n with ak | ak
       all_goals
        first
        | (have e:¬ (1500:Int)<(n:Int):=by omega)
        | (have e:(1500:Int)<(n:Int):=by omega)
        clear C ak af
        first
        | (exfalso;omega)
        | skip
        go_wp2_with fail;go_ret;exact ⟨false,rfl,⟨u,rfl⟩,fun _=>az.o⟩
end Go.Proofs.YthbmhkiphmcogaaGreatDoor
