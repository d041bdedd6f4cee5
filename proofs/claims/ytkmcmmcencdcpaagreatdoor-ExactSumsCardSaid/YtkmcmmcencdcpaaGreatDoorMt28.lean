/- Parts of the proof: memory, numbers, walks of the functions that are called. -/
import Derived.Conc.Holds
import Derived.Lib.SmallJoins
import Derived.ProofKit
import Derived.SizedLaws
import Derived.Test.YtkmcmmcencdcpaaGreatDoorMt17
set_option linter.unusedVariables false
set_option linter.unusedSimpArgs false
set_option maxRecDepth 100000
set_option maxHeartbeats 32000000
namespace Go.Proofs.YtkmcmmcencdcpaaGreatDoor
open Go.RowKit Go.Deep Go.ChangeShapes Go.WideShapes
def Xi (l:List UInt8):Prop:=l.length<=reachBytes
def xX (w:World) (B:Nat) (v:Value) (l:List zG):Prop:=
 l.length<=reachBytes/\∃ A c,v= .slice A l.length c/\l.length<=c/\c<=maxLen/\zY w B 2 A l.length (v8 l.length (Xn l) (Xt l))/\∀ x∈l,Xi x.name/\Xi x.coef
def XK (w:World) (B:Nat) (v:Value) (l:List yU):Prop:=
 l.length<=reachBytes/\∃ A c H,v= .slice A l.length c/\l.length<=c/\c<=maxLen/\zY w B 2 A l.length (v8 l.length H (Yy l))/\(∀ i,i<l.length->xX w B (H i) (l.getD i default).terms)/\∀ x∈l,Xi x.bound
theorem xX.small {w:World} {B:Nat} {v:Value} {l:List zG} (h:xX w B v l) (hl:l.length<=100000) (hs:∀ x∈l,yo x.name/\yo x.coef):zk w B v l:=by
 obtain ⟨_,A,c,h1,h2,h3,h4,h5⟩:=h
 exact ⟨A,c,h1,h2,h3,hl,h4,hs⟩
theorem XK.small {w:World} {B:Nat} {v:Value} {l:List yU} (h:XK w B v l) (hl:l.length<=100000) (hs:∀ r∈l,r.terms.length<=100000/\yo r.bound/\∀ x∈r.terms,yo x.name/\yo x.coef):zV w B v l:=by
 obtain ⟨_,A,c,H,h1,h2,h3,h4,h5,h6⟩:=h
 refine ⟨A,c,H,h1,h2,h3,hl,h4,fun i hi=>?_,fun x hx=>(hs x hx).2.1⟩
 have e:l.getD i default=l[i]:=by simp [List.getD,List.getElem?_eq_getElem hi]
 have h:=h5 i hi
 rw [e] at h |-
 have h7:=hs _ (List.getElem_mem hi)
 exact h.small h7.1 h7.2.2
theorem xX.len {w:World} {B:Nat} {A:Option Addr} {n c:Nat} {l:List zG} (h:xX w B (.slice A n c) l):n=l.length:=by obtain ⟨_,_,_,e,_⟩:=h;injection e
theorem XK.len {w:World} {B:Nat} {A:Option Addr} {n c:Nat} {l:List yU} (h:XK w B (.slice A n c) l):n=l.length:=by obtain ⟨_,_,_,_,e,_⟩:=h;injection e
theorem XK.max {w:World} {B:Nat} {v:Value} {l:List yU} (h:XK w B v l):l.length<=reachBytes:=h.1
theorem xX.max {w:World} {B:Nat} {v:Value} {l:List zG} (h:xX w B v l):l.length<=reachBytes:=h.1
theorem xX.at_ {w:World} {B:Nat} {A:Option Addr} {n c:Nat} {l:List zG} (h:xX w B (.slice A n c) l) {k:Nat} (hk:k<l.length):
 ∃ ad,A=some ad/\ad.block<B/\w.cell? (ad.add (k*2))=some (str l[k].name)/\w.cell? ⟨(ad.add (k*2)).block,(ad.add (k*2)).off+1,none⟩=some (str l[k].coef)/\Xi l[k].name/\Xi l[k].coef:=by
 obtain ⟨_,A',c',e,_,_,h5,h6⟩:=h
 injection e with e1 e2 e3
 subst e1
 obtain ⟨ad,e,hb,c0,c1⟩:=h5.at2 hk
 have hs:=h6 _ (List.getElem_mem hk)
 have hd:l.getD k default=l[k]:=by simp [List.getD,List.getElem?_eq_getElem hk]
 simp only [Xn,Xt,hd] at c0 c1
 exact ⟨ad,e,hb,c0,c1,hs.1,hs.2⟩
theorem XK.at_ {w:World} {B:Nat} {A:Option Addr} {n c:Nat} {l:List yU} (h:XK w B (.slice A n c) l) {k:Nat} (hk:k<l.length):
 ∃ ad AT nt ct,A=some ad/\ad.block<B/\w.cell? (ad.add (k*2))=some (.slice AT nt ct)/\w.cell? ⟨(ad.add (k*2)).block,(ad.add (k*2)).off+1,none⟩=some (str l[k].bound)/\xX w B (.slice AT nt ct) l[k].terms/\Xi l[k].bound:=by
 obtain ⟨_,A',c',H,e,_,_,h5,h6,h7⟩:=h
 injection e with e1 e2 e3
 subst e1
 obtain ⟨ad,e,hb,c0,c1⟩:=h5.at2 hk
 have hs:=h7 _ (List.getElem_mem hk)
 have hd:l.getD k default=l[k]:=by simp [List.getD,List.getElem?_eq_getElem hk]
 have ht:=h6 k hk
 rw [hd] at ht
 simp only [Yy,hd] at c1
 obtain ⟨_,AT,ct,eH,_⟩:=id ht
 rw [eH] at c0 ht
 exact ⟨ad,AT,_,ct,e,hb,c0,c1,ht,hs⟩
theorem zah {α:Type} {Q:Nat->α->Prop}:∀ (len:Nat),(∀ i,i<len->∃ e,Q i e)->∃ l:List α,l.length=len/\∀ i (h:i<l.length),Q i l[i]
 | 0,_=>⟨[],rfl,fun i h=>absurd h (by simp)⟩
 | n+1,h=>by
   obtain ⟨l,hl,hq⟩:=zah n (fun i hi=>h i (by omega));obtain ⟨e,he⟩:=h n (by omega);refine ⟨l ++ [e],by simp [hl],fun i hi=>?_⟩
   rcases Nat.lt_or_ge i l.length with h1 | h1
   . rw [List.getElem_append_left h1];exact hq i h1
   . have hi2:i=n:=by simp at hi;omega
     subst hi2;rw [List.getElem_append_right h1]
     simpa [hl] using he
theorem zh7 {α:Type} {f:α->List Value} {k:Nat} (hk:∀ e,(f e).length=k):∀ (l:List α) (i r:Nat) (hi:i<l.length),r<k->(l.flatMap f)[i*k+r]?=(f l[i])[r]?
 | [],i,r,hi,_=>absurd hi (by simp)
 | e :: l,0,r,_,hr=>by
   rw [List.flatMap_cons,Nat.zero_mul,Nat.zero_add,List.getElem?_append_left (by rw [hk];exact hr)]
   rfl
 | e :: l,i+1,r,hi,hr=>by
   rw [List.flatMap_cons,List.getElem?_append_right (by rw [hk,Nat.succ_mul];omega),hk,show (i+1)*k+r - k=i*k+r by rw [Nat.succ_mul];omega,zh7 hk l i r (by simpa using hi) hr]
   rfl
theorem Xx {α:Type} {f:α->List Value} {k:Nat} (hk:∀ e,(f e).length=k):∀ (l:List α),(l.flatMap f).length=l.length*k
 | []=>by simp
 | e :: l=>by rw [List.flatMap_cons,List.length_append,hk,Xx hk l,List.length_cons,Nat.succ_mul];omega
theorem zrp {α:Type} (d:α) (f g:α->Value) (l:List α):l.flatMap (fun e=>[f e,g e])=v8 l.length (fun i=>f (l.getD i d)) (fun i=>g (l.getD i d)):=by
 have e:l=(List.range l.length).map (fun i=>l.getD i d):=by
  apply List.ext_getElem
  . simp
  . intro i h1 h2
    simp [List.getD,List.getElem?_eq_getElem h1]
 conv=>lhs;rw [e]
 rw [List.flatMap_map]
 rfl
section
variable {H:Type} {enc:TypeId×Value->H} {P:Program} {w:World} {spare:Nat->Bool} {held:Bool}
theorem zb4 {α:Type} {f:α->List Value} {k B:Nat} {good:α->Prop} {t e:TypeId} {fuel:Nat} {cs:List Value} {x:DataW H×List MemPlace} (hk:∀ e,(f e).length=k) (hk0:0<k) (hby:0<P.bytesOf e) (ht:P.underlying t=some (.slice e)) (hc:P.cellsOf e=k)
 (step:∀ (n:Nat) (cs' :List Value) (y:DataW H×List MemPlace),DataW.trod enc P w 0 spare held n e cs' =some y->(∀ z∈y.1.weights P e,z<=reachBytes)->(∀ p∈y.2,p.block<B)->∃ el:α,cs' =f el/\good el)
 (hw:∀ z∈x.1.weights P t,z<=reachBytes) (hB:∀ p∈x.2,p.block<B) (h:DataW.trod enc P w 0 spare held fuel t cs=some x):
 ∃ (A:Option Addr) (c:Nat) (l:List α),cs=[.slice A l.length c]/\l.length<=c/\c<=maxLen/\zY w B k A l.length (l.flatMap f)/\(∀ el∈l,good el)/\l.length<=reachBytes:=by
 rcases open_slice ht h with ⟨rfl,_⟩ | ⟨a,len,cap,m,n,D,Pl,rfl,_,hl,hm,hmm,rfl,hx⟩
 . exact ⟨none,0,[],rfl,by simp,by unfold maxLen;omega,zY.none_,fun el h=>absurd h (by simp),Nat.zero_le _⟩
 . have hlm:len<=m:=by rw [hmm];split<;>omega
   rw [hc] at hx hB
   obtain ⟨l,hll,hq⟩:=zah (Q:=fun i el=>w.cells? 0 (a.add (i*k)) k=some (f el)/\good el) len (fun i hi=>by
    obtain ⟨cs',h1,h2⟩:=hx i (by omega)
    obtain ⟨el,h3,h4⟩:=step n cs' _ h2 (fun z hz=>hw z (by
     unfold DataW.weights;rw [ht];simp only [List.mem_cons,List.mem_append];refine .inr (.inl ?_)
     have hmem:∀ (L:List (DataW H)) (d:DataW H),d∈L->∀ z∈d.weights P e,z∈DataW.weightsAll P e L:=by
      intro L
      induction L with
      | nil=>intro d hd;cases hd
      | cons b L ih=>
        intro d hd z hz;unfold DataW.weightsAll;rw [List.mem_append]
        rcases List.mem_cons.1 hd with rfl | hd
        . exact .inl hz
        . exact .inr (ih d hd z hz)
     exact hmem _ (D i) (List.mem_map.2 ⟨i,List.mem_range.2 hi,rfl⟩) z hz)) (fun p hp=>hB p (List.mem_append.2 (.inr (List.mem_flatMap.2 ⟨i,List.mem_range.2 (by omega),hp⟩))))
    exact ⟨el,by rw [<- h3];exact h1,h4⟩)
   refine ⟨some a,cap,l,by rw [hll],by omega,hm,⟨Xx hk l,fun h0=>⟨a,rfl,?_,fun j u hu=>?_⟩⟩,fun el hel=>?_,?_⟩
   . exact hB (.cell a.block (a.off+0)) (List.mem_append.2 (.inl (MemPlace.mem_row.2 ⟨0,Nat.mul_pos (by omega) hk0,rfl⟩)))
   . have hj:j<l.length*k:=by
      have:=(List.getElem?_eq_some_iff.1 hu).1;rw [Xx hk] at this;exact this
     have hi:j / k<l.length:=Nat.div_lt_of_lt_mul (by rw [Nat.mul_comm];exact hj);have hr:j % k<k:=Nat.mod_lt _ hk0;have hjj:j / k*k+j % k=j:=by rw [Nat.mul_comm];exact Nat.div_add_mod j k
     have h1:=(World.cells?_some (hq _ hi).1).2.2 (j % k) hr;rw [zbw,hjj] at h1;rw [h1, <- zh7 hk l _ _ hi hr,hjj];exact hu
   . obtain ⟨i,hi,rfl⟩:=List.mem_iff_getElem.1 hel
     exact (hq i hi).2
   . have h9:=hw (((List.range len).map D).length*P.bytesOf e+((List.range (m - len)).map fun j=>D (len+j)).length*P.bytesOf e) (by
      unfold DataW.weights;rw [ht, <- Nat.add_mul]
      exact List.mem_cons_self ..)
     rw [List.length_map,List.length_range] at h9
     have h8:=Nat.le_mul_of_pos_right len hby
     rw [hll];omega
theorem zm9 (s:ByteArray):str s.data.toList= .string s:=by cases s;rfl
theorem za6 {t:TypeId} (ht:P.underlying t=some .string) (n:Nat) (cs' :List Value) (y:DataW H×List MemPlace) (h:DataW.trod enc P w 0 spare held n t cs' =some y) (hw:∀ z∈y.1.weights P t,z<=reachBytes):
 ∃ el:List UInt8,cs' =[str el]/\Xi el:=by
 obtain ⟨s,rfl,rfl,_⟩:=DataW.trod_string ht h
 refine ⟨s.data.toList,by rw [zm9],?_⟩
 have:=hw s.data.toList.length (by unfold DataW.weights;simp)
 exact this
theorem zmi {t:TypeId} {f0 f1:Field} {B:Nat} (ht:P.underlying t=some (.struct #[f0,f1])) (hc:P.cellsOf t=2) (e0:f0.offset=0) (e1:f1.offset=1) (c0:P.cellsOf f0.type=1) (c1:P.cellsOf f1.type=1) (u0:P.underlying f0.type=some .string) (u1:P.underlying f1.type=some .string)
 (n:Nat) (cs' :List Value) (y:DataW H×List MemPlace) (h:DataW.trod enc P w 0 spare held n t cs' =some y) (hw:∀ z∈y.1.weights P t,z<=reachBytes) (hB:∀ p∈y.2,p.block<B):
 ∃ el:zG,cs' =[str el.name,str el.coef]/\(Xi el.name/\Xi el.coef):=by
 obtain ⟨y0,y1,m,rfl,hl,h0,h1⟩:=trod_struct2 ht h
 rw [hc] at hl
 match cs',hl with
 | [a,b],_=>
   rw [e0,c0] at h0;rw [e1,c1] at h1
   obtain ⟨a1,ha,s0⟩:=za6 u0 _ _ _ h0 (fun z hz=>hw z (by
    unfold DataW.weights;rw [ht]
    simp [DataW.weightsEach,hz]))
   obtain ⟨b1,hb,s1⟩:=za6 u1 _ _ _ h1 (fun z hz=>hw z (by
    unfold DataW.weights;rw [ht]
    simp [DataW.weightsEach,hz]))
   simp at ha hb;exact ⟨⟨a1,b1⟩,by rw [ha,hb],s0,s1⟩
theorem Vw {B:Nat} {t e:TypeId} {f0 f1:Field} {fuel:Nat} {cs:List Value} {x:DataW H×List MemPlace} (hby:0<P.bytesOf e) (hs:P.underlying t=some (.slice e)) (ht:P.underlying e=some (.struct #[f0,f1])) (hc:P.cellsOf e=2) (e0:f0.offset=0) (e1:f1.offset=1) (c0:P.cellsOf f0.type=1) (c1:P.cellsOf f1.type=1) (u0:P.underlying f0.type=some .string) (u1:P.underlying f1.type=some .string)
 (h:DataW.trod enc P w 0 spare held fuel t cs=some x) (hw:∀ z∈x.1.weights P t,z<=reachBytes) (hB:∀ p∈x.2,p.block<B):∃ (v:Value) (l:List zG),cs=[v]/\xX w B v l:=by
 obtain ⟨A,c,l,rfl,h1,h2,h3,h4,h0⟩:=zb4 (f:=fun e:zG=>[str e.name,str e.coef]) (k:=2) (B:=B) (good:=fun e=>Xi e.name/\Xi e.coef) (fun _=>rfl) (by omega) hby hs hc (zmi ht hc e0 e1 c0 c1 u0 u1) hw hB h
 refine ⟨_,l,rfl,h0,A,c,rfl,h1,h2,?_,h4⟩
 rw [zrp default (fun e:zG=>str e.name) (fun e=>str e.coef) l] at h3
 exact h3
theorem zd2 {B:Nat} {t e ee:TypeId} {f0 f1 g0 g1:Field} {fuel:Nat} {cs:List Value} {x:DataW H×List MemPlace} (hby:0<P.bytesOf e) (hby' :0<P.bytesOf ee) (hs:P.underlying t=some (.slice e)) (ht:P.underlying e=some (.struct #[g0,g1])) (hc:P.cellsOf e=2) (e0:g0.offset=0) (e1:g1.offset=1) (c0:P.cellsOf g0.type=1) (c1:P.cellsOf g1.type=1)
 (u0:P.underlying g0.type=some (.slice ee)) (u1:P.underlying g1.type=some .string)
 (ht' :P.underlying ee=some (.struct #[f0,f1])) (hc' :P.cellsOf ee=2) (e0' :f0.offset=0) (e1' :f1.offset=1) (c0' :P.cellsOf f0.type=1) (c1' :P.cellsOf f1.type=1) (u0' :P.underlying f0.type=some .string) (u1' :P.underlying f1.type=some .string)
 (h:DataW.trod enc P w 0 spare held fuel t cs=some x) (hw:∀ z∈x.1.weights P t,z<=reachBytes) (hB:∀ p∈x.2,p.block<B):∃ (v:Value) (l:List yU),cs=[v]/\XK w B v l:=by
 obtain ⟨A,c,l,rfl,h1,h2,h3,h4,h0⟩:=zb4 (f:=fun e:Value×yU=>[e.1,str e.2.bound]) (k:=2) (B:=B) (good:=fun e=>Xi e.2.bound/\xX w B e.1 e.2.terms) (fun _=>rfl) (by omega) hby hs hc
  (by
    intro n cs' y h hw hB;obtain ⟨y0,y1,m,rfl,hl,h0,h1⟩:=trod_struct2 ht h;rw [hc] at hl
    match cs',hl with
    | [a,b],_=>
      rw [e0,c0] at h0;rw [e1,c1] at h1
      obtain ⟨v,tl,ha,hT⟩:=Vw hby' u0 ht' hc' e0' e1' c0' c1' u0' u1' h0 (fun z hz=>hw z (by
       unfold DataW.weights;rw [ht]
       simp [DataW.weightsEach,hz])) (fun p hp=>hB p (List.mem_append.2 (.inl hp)))
      obtain ⟨b1,hb,s1⟩:=za6 u1 _ _ _ h1 (fun z hz=>hw z (by
       unfold DataW.weights;rw [ht]
       simp [DataW.weightsEach,hz]))
      simp at ha hb
      exact ⟨(v,⟨tl,b1⟩),by rw [ha,hb],s1,hT⟩) hw hB h
 rw [zrp (undef,default) (fun e:Value×yU=>e.1) (fun e=>str e.2.bound) l] at h3
 have e9:∀ i,i<l.length->(l.map (·.2)).getD i default=(l.getD i (undef,default)).2:=fun i hi=>by
  simp [List.getD,List.getElem?_eq_getElem hi]
 refine ⟨_,l.map (·.2),rfl,by rw [List.length_map];exact h0,A,c,fun i=>(l.getD i (undef,default)).1,by rw [List.length_map],by rw [List.length_map];exact h1,h2,?_,fun i hi=>?_,fun x hx=>?_⟩
 . rw [List.length_map,VA (f' :=fun i=>(l.getD i (undef,default)).1) (g' :=fun i=>str (l.getD i (undef,default)).2.bound) (fun k hk=>⟨rfl,by unfold Yy;rw [e9 k hk]⟩)]
   exact h3
 . rw [List.length_map] at hi
   rw [e9 i hi];have e8:l.getD i (undef,default)=l[i]:=by simp [List.getD,List.getElem?_eq_getElem hi]
   show xX w B (l.getD i (undef,default)).1 _
   rw [e8];exact (h4 _ (List.getElem_mem hi)).2
 . obtain ⟨y,hy,rfl⟩:=List.mem_map.1 hx
   exact (h4 y hy).1
end
theorem zcf:Tryz.prog.underlying 60=some (.struct #[⟨ "Name",9,0,false, "", "",0⟩,⟨ "Coef",34,1,false, "", "",16⟩]):=by kernel_rfl
theorem zjw:Tryz.prog.underlying 49=some (.struct #[⟨ "Terms",30,0,false, "", "",0⟩,⟨ "Bound",34,1,false, "", "",24⟩]):=by kernel_rfl
theorem zgl:Tryz.prog.underlying 84=some (.struct #[⟨ "Name",9,0,false, "", "",0⟩,⟨ "Value",34,1,false, "", "",16⟩]):=by kernel_rfl
theorem zmj {H:Type} {enc:TypeId×Value->H} {w:World} {spare:Nat->Bool} {held:Bool} {fuel:Nat} {cs:List Value} {x:DataW H×List MemPlace} (h:DataW.trod enc Tryz.prog w 0 spare held fuel 22 cs=some x) (hw:∀ z∈x.1.weights Tryz.prog 22,z<=reachBytes) (hB:∀ p∈x.2,p.block<w.heap.size):
 ∃ (v:Value) (l:List yU),cs=[v]/\XK w w.heap.size v l:=
 zd2 (of_decide_eq_true (by kernel_rfl)) (of_decide_eq_true (by kernel_rfl)) (by kernel_rfl) zjw (by kernel_rfl) rfl rfl (by kernel_rfl) (by kernel_rfl) (by kernel_rfl) (by kernel_rfl) zcf (by kernel_rfl) rfl rfl (by kernel_rfl) (by kernel_rfl) (by kernel_rfl) (by kernel_rfl) h hw hB
theorem zlj {H:Type} {enc:TypeId×Value->H} {w:World} {spare:Nat->Bool} {held:Bool} {fuel:Nat} {cs:List Value} {x:DataW H×List MemPlace} (h:DataW.trod enc Tryz.prog w 0 spare held fuel 30 cs=some x) (hw:∀ z∈x.1.weights Tryz.prog 30,z<=reachBytes) (hB:∀ p∈x.2,p.block<w.heap.size):
 ∃ (v:Value) (l:List zG),cs=[v]/\xX w w.heap.size v l:=
 Vw (of_decide_eq_true (by kernel_rfl)) (by kernel_rfl) zcf (by kernel_rfl) rfl rfl (by kernel_rfl) (by kernel_rfl) (by kernel_rfl) (by kernel_rfl) h hw hB
theorem zi9 {H:Type} {enc:TypeId×Value->H} {w:World} {spare:Nat->Bool} {held:Bool} {fuel:Nat} {cs:List Value} {x:DataW H×List MemPlace} (h:DataW.trod enc Tryz.prog w 0 spare held fuel 31 cs=some x) (hw:∀ z∈x.1.weights Tryz.prog 31,z<=reachBytes) (hB:∀ p∈x.2,p.block<w.heap.size):
 ∃ (v:Value) (l:List zG),cs=[v]/\xX w w.heap.size v l:=
 Vw (of_decide_eq_true (by kernel_rfl)) (by kernel_rfl) zgl (by kernel_rfl) rfl rfl (by kernel_rfl) (by kernel_rfl) (by kernel_rfl) (by kernel_rfl) h hw hB
end Go.Proofs.YtkmcmmcencdcpaaGreatDoor
namespace Go.Proofs.YtkmcmmcencdcpaaGreatDoor
open Go.RowKit Go.Deep
attribute [local go_sem ↓] Go.wp_at_zero Go.wp_at_succ
def zO (l:List zG):Nat:=(l.map fun t=>t.name.length+t.coef.length).sum
def vX (l:List yU):Nat:=(l.map fun r=>r.bound.length+zO r.terms).sum
def xI (l:List yU):Nat:=(l.map fun r=>r.terms.length).sum
def Zs (l:List yU):Prop:=l.length<=820/\(l.length<=12\/800<l.length)/\xI l<=400/\vX l<=8000/\(l.length<=800->xI l<=40/\vX l<=1500)
theorem vZ {α:Type} (f:α->Nat) (l:List α) (i:Nat) (h:i<l.length):((l.take (i+1)).map f).sum=((l.take i).map f).sum+f l[i]:=by
 rw [List.take_add_one,List.getElem?_eq_getElem h,List.map_append,List.sum_append]
 simp
theorem vy {α:Type} (f:α->Nat):∀ (l:List α) (x:α),x∈l->f x<=(l.map f).sum
 | [],x,h=>by cases h
 | y :: l,x,h=>by
   rw [List.map_cons,List.sum_cons]
   rcases List.mem_cons.1 h with rfl | h
   . omega
   . have:=vy f l x h;omega
theorem Zs.each {l:List yU} (h:Zs l):l.length<=100000/\∀ r∈l,r.terms.length<=100000/\yo r.bound/\∀ x∈r.terms,yo x.name/\yo x.coef:=by
 obtain ⟨h1,_,h3,h4,_⟩:=h
 refine ⟨by omega,fun r hr=>?_⟩
 have e1:=vy (fun r:yU=>r.terms.length) l r hr
 have e2:=vy (fun r:yU=>r.bound.length+zO r.terms) l r hr
 unfold xI at h3
 unfold vX at h4
 refine ⟨by omega,by unfold yo;omega,fun x hx=>?_⟩
 have e3:=vy (fun t:zG=>t.name.length+t.coef.length) r.terms x hx
 unfold zO at e2
 unfold yo
 have e4:zO r.terms=(List.map (fun t:zG=>t.name.length+t.coef.length) r.terms).sum:=rfl
 simp only [zO] at h4
 omega
theorem zge (l:List yU):(zZ (l.map (·.terms))).length=xI l:=by
 unfold zZ xI
 induction l with
 | nil=>rfl
 | cons a l ih=>
   rw [List.map_cons,List.flatMap_cons,List.length_append,ih,List.map_cons,List.sum_cons,List.length_map]
def zmw (w:World) (l:List yU) (e:Ending) (w' :World):Prop:=∃ g:Bool,e= .returned (.bool g)/\(∃ m,w' =w.drewN m)/\(g=false->Zs l)
def GreR (w0:World) (l:List yU) (nv tv iv:Value) (wr:World):Prop:=
 ∃ i n t:Nat,i<=l.length/\nv= .int .i64 n/\tv= .int .i64 t/\iv= .int .i64 i/\Hid (n=vX (l.take i))/\Hid (t=xI (l.take i))/\Hid (t<=400/\(l.length<=800->t<=40))/\Hid (n<=(i+2*t)*reachBytes)/\∃ m,wr=w0.drewN m
def GreK (w0:World) (l:List zG) (n0:Nat) (nv kv:Value) (wr:World):Prop:=
 ∃ k n:Nat,k<=l.length/\nv= .int .i64 n/\kv= .int .i64 k/\Hid (n=n0+zO (l.take k))/\Hid (n<=n0+2*k*reachBytes)/\∃ m,wr=w0.drewN m
theorem xk:reachBytes=140737488351232:=rfl
theorem zlk (A:Option Addr) (n c:Nat) (rows:List yU) (w:World) (B:Nat) (hr:XK w B (.slice A n c) rows):
 Calls Tryz.prog 8 #[.slice A n c] w (zmw w rows):=by
 obtain rfl:=hr.len
 have hmx:=hr.max
 rw [xk] at hmx
 by_cases h1:(12<rows.length/\rows.length<=800)\/820<rows.length
 . have HX:Hid (∀ P:Prop,(true=false->P)):=fun P h=>by cases h
   rcases h1 with ⟨ha,hb⟩ | ha
   . have d1:(12:Int)<(rows.length:Int):=by omega
     have d2:(rows.length:Int)<=800:=by omega
     clear hr ha hb
     go_enter Tryz.func8,Tryz.ntmps8
     go_wp2_with fail;go_ret;exact ⟨true,rfl,⟨0,rfl⟩,HX.out _⟩
   . have d1:(12:Int)<(rows.length:Int):=by omega
     have d2:¬ (rows.length:Int)<=800:=by omega
     have d3:(820:Int)<(rows.length:Int):=by omega
     clear hr ha
     go_enter Tryz.func8,Tryz.ntmps8
     go_wp2_with fail;go_ret;exact ⟨true,rfl,⟨0,rfl⟩,HX.out _⟩
 have HX:Hid (∀ P:Prop,(true=false->P)):=fun P h=>by cases h
 have H820:Hid (rows.length<=820/\(rows.length<=12\/800<rows.length)):=ze (by omega)
 have HR:=ze hr
 have h820:rows.length<=820:=by omega
 have hstart:∃ x:Bool,Hid (decide ((12:Int)<(rows.length:Int))=x)/\(x=true->¬ (rows.length:Int)<=800):=⟨_,rfl,fun h=>by have:=of_decide_eq_true h;omega⟩
 have d9:¬ (820:Int)<(rows.length:Int):=by omega
 have key:∀ g:Bool,∀ (i n t:Nat),i=rows.length->n=vX (rows.take i)->t=xI (rows.take i)->(t<=400/\(rows.length<=800->t<=40))->(g=false->n<=8000/\(rows.length<=800->n<=1500))->(g=false->Zs rows):=by
  intro g i n t hi hn ht ht2 hg h
  have:=hg h
  rw [hi,List.take_length] at hn ht
  have:=H820.out
  unfold Zs
  subst hn ht
  exact ⟨by omega,by omega,by omega,by omega,fun h=>⟨ht2.2 h,(hg ‹_›).2 h⟩⟩
 have HKEY:=ze key
 clear hr h1 key hstart
 rcases Nat.lt_or_ge 12 rows.length with h12 | h12
 all_goals
  rcases Nat.lt_or_ge 800 rows.length with h8 | h8
  all_goals first
   | (exfalso;have:=H820.out;omega)
   | skip
 all_goals
  first
  | (have d1:¬ (12:Int)<(rows.length:Int):=by omega)
  | (have d1:(12:Int)<(rows.length:Int):=by omega)
  first
  | (have d2:(rows.length:Int)<=800:=by omega
     have d2' :decide ((rows.length:Int)<=800)=true:=decide_eq_true d2)
  | (have d2:¬ (rows.length:Int)<=800:=by omega
     have d2' :decide ((rows.length:Int)<=800)=false:=decide_eq_false d2)
  go_enter Tryz.func8,Tryz.ntmps8
  go_wp2_with fail
  go_loopw [3,4,5] (GreR w rows) (fun _ _ iv _=>rows.length - (intOf iv).toNat)
  case atStart=>exact ⟨0,0,0,Nat.zero_le _,rfl,rfl,rfl,by rw [List.take_zero];exact rfl,by rw [List.take_zero];exact rfl,ze ⟨by omega,fun _=>by omega⟩,ze (by omega),0,rfl⟩
  case round=>
   obtain ⟨i,n,t,hi,rfl,rfl,rfl,HN,HT,HTB,HNB,mw,rfl⟩:=hrel
   by_cases hil:i<rows.length
   . have hii:(i:Int)<(rows.length:Int):=by omega
     obtain ⟨ad,AT,nt,ct,eA,hbb,p0,p1,ht,hsb⟩:=HR.out.at_ hil;subst eA;obtain rfl:=ht.len;have htm:=ht.max;unfold Xi at hsb;rw [xk] at htm hsb;have hnb:=HNB.out;have htb:=HTB.out.1;rw [xk] at hnb;have hmul:(i+2*t)*140737488351232<=(820+800)*140737488351232:=Nat.mul_le_mul_right _ (by omega);have e1:IntKind.i64.wrap ((n:Int)+(rows[i].bound.length:Int))=((n+rows[i].bound.length:Nat):Int):=by rw [IntKind.wrap_i64];omega
     have e2:IntKind.i64.wrap ((t:Int)+(rows[i].terms.length:Int))=((t+rows[i].terms.length:Nat):Int):=by rw [IntKind.wrap_i64];omega
     have hn0:n+rows[i].bound.length<=1700*140737488351232:=by omega
     have HTM:=ze ht;have sT:xI (rows.take (i+1))=xI (rows.take i)+rows[i].terms.length:=vZ _ _ _ hil;have sN:vX (rows.take (i+1))=vX (rows.take i)+(rows[i].bound.length+zO rows[i].terms):=vZ _ _ _ hil;have HST:=ze sT;have HSN:=ze sN;have HSB:=ze hsb;clear sT sN ht hnb hmul htb htm;obtain ⟨tn,htn⟩:∃ tn,tn=t+rows[i].terms.length:=⟨_,rfl⟩;obtain ⟨n0,hn00⟩:∃ n0,n0=n+rows[i].bound.length:=⟨_,rfl⟩;rw [<- htn] at e2;rw [<- hn00] at e1 hn0;have HTN:=ze htn;have HN0:=ze hn00;obtain ⟨r,hrr⟩:∃ r,r=rows[i]:=⟨_,rfl⟩;have HRR:=ze hrr;have hlen:r.bound.length=rows[i].bound.length:=by rw [hrr]
     rw [<- hrr] at p0 p1 e1 e2 HTM HST HSN HTN HN0;clear htn hn00 hrr hlen hsb
     by_cases hbig:400<tn\/(40<tn/\rows.length<=800)
     . rcases hbig with hb | ⟨hb1,hb2⟩
       . have d3:(40:Int)<(tn:Int):=by omega
         have d4:(400:Int)<(tn:Int):=by omega
         clear hb hn0;go_wp2_with fail;go_ret;exact ⟨true,rfl,⟨mw,rfl⟩,HX.out _⟩
       . first
         | (exfalso;omega)
         | (have d3:(40:Int)<(tn:Int):=by omega
            clear hb1 hn0;go_wp2_with fail;go_ret
            exact ⟨true,rfl,⟨mw,rfl⟩,HX.out _⟩)
     . have d4:¬ (400:Int)<(tn:Int):=by omega
       have HBG:Hid (tn<=400/\(rows.length<=800->tn<=40)):=ze ⟨by omega,fun _=>by omega⟩;have htl:r.terms.length<=400:=by have:=HTN.out;omega
       rcases Nat.lt_or_ge 40 tn with h40 | h40
       all_goals
        first
        | (have d3:¬ (40:Int)<(tn:Int):=by omega)
        | (have d3:(40:Int)<(tn:Int):=by omega)
        clear hbig h40
        first
        | (exfalso;omega)
        | skip
        go_wp2_with fail
        go_loopw [3,6] (GreK w r.terms n0) (fun _ kv _=>r.terms.length - (intOf kv).toNat)
        case atStart=>exact ⟨0,n0,Nat.zero_le _,rfl,rfl,by rw [List.take_zero];exact rfl,ze (by omega),mw,rfl⟩
        case round=>
         obtain ⟨k,m,hk,rfl,rfl,HM,HMB,mk,rfl⟩:=hrel
         by_cases hkl:k<r.terms.length
         . have hki:(k:Int)<(r.terms.length:Int):=by omega
           obtain ⟨ad2,eA,hbb2,q0,q1,hs1,hs2⟩:=HTM.out.at_ hkl;subst eA;unfold Xi at hs1 hs2;rw [xk] at hs1 hs2;have hmb:=HMB.out;rw [xk] at hmb;have hk4:2*k*140737488351232<=800*140737488351232:=Nat.mul_le_mul_right _ (by omega);have e3:IntKind.i64.wrap ((r.terms[k].name.length:Int)+(r.terms[k].coef.length:Int))=((r.terms[k].name.length+r.terms[k].coef.length:Nat):Int):=by rw [IntKind.wrap_i64];omega
           have e4:IntKind.i64.wrap ((m:Int)+((r.terms[k].name.length+r.terms[k].coef.length:Nat):Int))=((m+(r.terms[k].name.length+r.terms[k].coef.length):Nat):Int):=by rw [IntKind.wrap_i64];omega
           have e5:IntKind.i64.wrap ((m:Int)+((r.terms[k].name.length:Int)+(r.terms[k].coef.length:Int)))=((m+(r.terms[k].name.length+r.terms[k].coef.length):Nat):Int):=by rw [IntKind.wrap_i64];omega
           have sK:zO (r.terms.take (k+1))=zO (r.terms.take k)+(r.terms[k].name.length+r.terms[k].coef.length):=vZ _ _ _ hkl;have HM2:Hid (m+(r.terms[k].name.length+r.terms[k].coef.length)=n0+zO (r.terms.take (k+1))):=ze (by have:=HM.out;omega);have HB2:Hid (m+(r.terms[k].name.length+r.terms[k].coef.length)<=n0+2*(k+1)*reachBytes):=ze (by rw [xk];omega);clear sK hmb hk4 HM HMB hs1 hs2 hbb2;generalize r.terms[k].name=x at q0 e3 e4 e5 HM2 HB2;generalize r.terms[k].coef=y at q1 e3 e4 e5 HM2 HB2;go_wp2_with fail
           go_region
           go_wp2_with fail;go_roundw
           case rel=>exact ⟨k+1,_,by omega,rfl,by go_num,HM2,HB2,mk+1,rfl⟩
           case measure=>simp [intOf];omega
         . obtain rfl:r.terms.length=k:=by omega
           rw [List.take_length] at HM;have HM2:Hid (m=vX (rows.take (i+1))):=ze (by rw [HSN.out,HM.out,HN0.out,HN.out];omega);have HT2:Hid (tn=xI (rows.take (i+1))):=ze (by rw [HST.out,HTN.out,HT.out])
           have HB2:Hid (m<=(i+1+2*tn)*reachBytes):=ze (by
            have h1:=HMB.out;have h2:=HNB.out;have h3:=HSB.out;have h4:=HN0.out;have h5:=HTN.out;rw [xk] at h1 h2 |-;rw [<- HRR.out] at h3;rw [h5]
            omega)
           clear HM HMB;go_wp2_with fail;go_roundw
           case rel=>exact ⟨i+1,m,tn,by omega,rfl,rfl,by go_num,HM2,HT2,HBG,HB2,mk,rfl⟩
           case measure=>simp [intOf];omega
   . obtain rfl:rows.length=i:=by omega
     clear hil
     by_cases hg:8000<n\/(1500<n/\rows.length<=800)
     . rcases hg with hb | ⟨hb1,hb2⟩
       . have d3:(1500:Int)<(n:Int):=by omega
         have d4:(8000:Int)<(n:Int):=by omega
         clear hb;go_wp2_with fail;go_ret;exact ⟨true,rfl,⟨mw,rfl⟩,HX.out _⟩
       . first
         | (exfalso;omega)
         | (have d3:(1500:Int)<(n:Int):=by omega
            clear hb1;go_wp2_with fail;go_ret
            exact ⟨true,rfl,⟨mw,rfl⟩,HX.out _⟩)
     . have hgg:=HKEY.out false rows.length n t rfl HN.out HT.out HTB.out (fun _=>⟨by omega,fun _=>by omega⟩)
       have HGG:=ze (hgg rfl);have d4:¬ (8000:Int)<(n:Int):=by omega
       rcases Nat.lt_or_ge 1500 n with h15 | h15
       all_goals
        first
        | (have d3:¬ (1500:Int)<(n:Int):=by omega)
        | (have d3:(1500:Int)<(n:Int):=by omega)
        clear hg h15 hgg
        first
        | (exfalso;omega)
        | skip
        go_wp2_with fail;go_ret;exact ⟨false,rfl,⟨mw,rfl⟩,fun _=>HGG.out⟩
def zo0 (w:World) (l:List zG) (e:Ending) (w' :World):Prop:=∃ g:Bool,e= .returned (.bool g)/\(∃ m,w' =w.drewN m)/\(g=false->l.length<=70/\zO l<=1000)
def TerR (w0:World) (l:List zG) (nv iv:Value) (wr:World):Prop:=
 ∃ i n:Nat,i<=l.length/\i<=100/\nv= .int .i64 n/\iv= .int .i64 i/\Hid (n=zO (l.take i))/\Hid (n<=2*i*reachBytes)/\∃ m,wr=w0.drewN m
theorem zku (A:Option Addr) (n c B:Nat) (l:List zG) (w:World) (ht:xX w B (.slice A n c) l):
 Calls Tryz.prog 12 #[.slice A n c] w (zo0 w l):=by
 obtain rfl:=ht.len
 have hmx:=ht.max
 rw [xk] at hmx
 have HT:=ze ht
 have HX:Hid (∀ P:Prop,(true=false->P)):=fun P h=>by cases h
 clear ht
 go_enter Tryz.func12,Tryz.ntmps12
 go_wp2_with fail
 go_loopw [3,4] (TerR w l) (fun _ iv _=>l.length - (intOf iv).toNat)
 case atStart=>exact ⟨0,0,Nat.zero_le _,by omega,rfl,rfl,by rw [List.take_zero];exact rfl,ze (by omega),0,rfl⟩
 case round=>
  obtain ⟨i,n,hi,hi1,rfl,rfl,HN,HB,m,rfl⟩:=hrel
  by_cases hil:i<l.length/\i<100
  . obtain ⟨hil,hi2⟩:=hil
    have hii:(i:Int)<(l.length:Int):=by omega
    have hid:decide ((i:Int)<(l.length:Int))=true:=decide_eq_true hii;have hij:(i:Int)<100:=by omega
    obtain ⟨ad,eA,hbb,q0,q1,hs1,hs2⟩:=HT.out.at_ hil;subst eA;unfold Xi at hs1 hs2;rw [xk] at hs1 hs2;have hb:=HB.out;rw [xk] at hb;have hk4:2*i*140737488351232<=200*140737488351232:=Nat.mul_le_mul_right _ (by omega);have e3:IntKind.i64.wrap ((l[i].name.length:Int)+(l[i].coef.length:Int))=((l[i].name.length+l[i].coef.length:Nat):Int):=by rw [IntKind.wrap_i64];omega
    have e4:IntKind.i64.wrap ((n:Int)+((l[i].name.length+l[i].coef.length:Nat):Int))=((n+(l[i].name.length+l[i].coef.length):Nat):Int):=by rw [IntKind.wrap_i64];omega
    have e5:IntKind.i64.wrap ((n:Int)+((l[i].name.length:Int)+(l[i].coef.length:Int)))=((n+(l[i].name.length+l[i].coef.length):Nat):Int):=by rw [IntKind.wrap_i64];omega
    have sK:zO (l.take (i+1))=zO (l.take i)+(l[i].name.length+l[i].coef.length):=vZ _ _ _ hil;have HM2:Hid (n+(l[i].name.length+l[i].coef.length)=zO (l.take (i+1))):=ze (by have:=HN.out;omega);have HB2:Hid (n+(l[i].name.length+l[i].coef.length)<=2*(i+1)*reachBytes):=ze (by rw [xk];omega);clear sK hb hk4 HN HB hs1 hs2 hbb;generalize l[i].name=x at q0 e3 e4 e5 HM2 HB2;generalize l[i].coef=y at q1 e3 e4 e5 HM2 HB2;go_wp2_with fail
    go_quiet (fail)
    go_wp2_with fail;go_roundw
    case rel=>exact ⟨i+1,_,by omega,by omega,rfl,by go_num,HM2,HB2,_,rfl⟩
    case measure=>simp [intOf];omega
  . by_cases h70:70<l.length
    . have d7:(70:Int)<(l.length:Int):=by omega
      have d8:decide ((70:Int)<(l.length:Int))=true:=decide_eq_true d7
      rcases Nat.lt_or_ge i l.length with hl | hl
      . have hiP:(i:Int)<(l.length:Int):=by omega
        have hii:decide ((i:Int)<(l.length:Int))=true:=decide_eq_true (by omega);have hij:decide ((i:Int)<100)=false:=decide_eq_false (by omega);clear hil hl h70 hi1;go_wp2_with fail;go_ret;exact ⟨true,rfl,⟨m,rfl⟩,HX.out _⟩
      . have hii:decide ((i:Int)<(l.length:Int))=false:=decide_eq_false (by omega)
        have hin:decide (i<l.length)=false:=decide_eq_false (by omega);clear hil hl h70 hi1;go_wp2_with fail;go_ret;exact ⟨true,rfl,⟨m,rfl⟩,HX.out _⟩
    . obtain rfl:l.length=i:=by omega
      rw [List.take_length] at HN;have d7:decide ((70:Int)<(l.length:Int))=false:=decide_eq_false (by omega);have H70:=ze h70;have hnl:¬ (l.length:Int)<(l.length:Int):=by omega
      clear hil h70 hi1
      by_cases hg:1000<n
      . have d3:decide ((1000:Int)<(n:Int))=true:=decide_eq_true (by omega)
        have d4:(1000:Int)<(n:Int):=by omega
        clear hg;go_wp2_with fail;go_ret;exact ⟨true,rfl,⟨m,rfl⟩,HX.out _⟩
      . have d3:decide ((1000:Int)<(n:Int))=false:=decide_eq_false (by omega)
        have HG:Hid (l.length<=70/\zO l<=1000):=ze ⟨by have:=H70.out;omega,by rw [<- HN.out];omega⟩;clear hg;go_wp2_with fail;go_ret;exact ⟨false,rfl,⟨m,rfl⟩,fun _=>HG.out⟩
theorem zjg (A:Option Addr) (n c B:Nat) (l:List zG) (w:World) (ht:xX w B (.slice A n c) l):
 Calls Tryz.prog 13 #[.slice A n c] w (zo0 w l):=by
 obtain rfl:=ht.len
 have hmx:=ht.max
 rw [xk] at hmx
 have HT:=ze ht
 have HX:Hid (∀ P:Prop,(true=false->P)):=fun P h=>by cases h
 clear ht
 go_enter Tryz.func13,Tryz.ntmps13
 go_wp2_with fail
 go_loopw [3,4] (TerR w l) (fun _ iv _=>l.length - (intOf iv).toNat)
 case atStart=>exact ⟨0,0,Nat.zero_le _,by omega,rfl,rfl,by rw [List.take_zero];exact rfl,ze (by omega),0,rfl⟩
 case round=>
  obtain ⟨i,n,hi,hi1,rfl,rfl,HN,HB,m,rfl⟩:=hrel
  by_cases hil:i<l.length/\i<100
  . obtain ⟨hil,hi2⟩:=hil
    have hii:(i:Int)<(l.length:Int):=by omega
    have hid:decide ((i:Int)<(l.length:Int))=true:=decide_eq_true hii;have hij:(i:Int)<100:=by omega
    obtain ⟨ad,eA,hbb,q0,q1,hs1,hs2⟩:=HT.out.at_ hil;subst eA;unfold Xi at hs1 hs2;rw [xk] at hs1 hs2;have hb:=HB.out;rw [xk] at hb;have hk4:2*i*140737488351232<=200*140737488351232:=Nat.mul_le_mul_right _ (by omega);have e3:IntKind.i64.wrap ((l[i].name.length:Int)+(l[i].coef.length:Int))=((l[i].name.length+l[i].coef.length:Nat):Int):=by rw [IntKind.wrap_i64];omega
    have e4:IntKind.i64.wrap ((n:Int)+((l[i].name.length+l[i].coef.length:Nat):Int))=((n+(l[i].name.length+l[i].coef.length):Nat):Int):=by rw [IntKind.wrap_i64];omega
    have e5:IntKind.i64.wrap ((n:Int)+((l[i].name.length:Int)+(l[i].coef.length:Int)))=((n+(l[i].name.length+l[i].coef.length):Nat):Int):=by rw [IntKind.wrap_i64];omega
    have sK:zO (l.take (i+1))=zO (l.take i)+(l[i].name.length+l[i].coef.length):=vZ _ _ _ hil;have HM2:Hid (n+(l[i].name.length+l[i].coef.length)=zO (l.take (i+1))):=ze (by have:=HN.out;omega);have HB2:Hid (n+(l[i].name.length+l[i].coef.length)<=2*(i+1)*reachBytes):=ze (by rw [xk];omega);clear sK hb hk4 HN HB hs1 hs2 hbb;generalize l[i].name=x at q0 e3 e4 e5 HM2 HB2;generalize l[i].coef=y at q1 e3 e4 e5 HM2 HB2;go_wp2_with fail
    go_quiet (fail)
    go_wp2_with fail;go_roundw
    case rel=>exact ⟨i+1,_,by omega,by omega,rfl,by go_num,HM2,HB2,_,rfl⟩
    case measure=>simp [intOf];omega
  . by_cases h70:70<l.length
    . have d7:(70:Int)<(l.length:Int):=by omega
      have d8:decide ((70:Int)<(l.length:Int))=true:=decide_eq_true d7
      rcases Nat.lt_or_ge i l.length with hl | hl
      . have hiP:(i:Int)<(l.length:Int):=by omega
        have hii:decide ((i:Int)<(l.length:Int))=true:=decide_eq_true (by omega);have hij:decide ((i:Int)<100)=false:=decide_eq_false (by omega);clear hil hl h70 hi1;go_wp2_with fail;go_ret;exact ⟨true,rfl,⟨m,rfl⟩,HX.out _⟩
      . have hii:decide ((i:Int)<(l.length:Int))=false:=decide_eq_false (by omega)
        have hin:decide (i<l.length)=false:=decide_eq_false (by omega);clear hil hl h70 hi1;go_wp2_with fail;go_ret;exact ⟨true,rfl,⟨m,rfl⟩,HX.out _⟩
    . obtain rfl:l.length=i:=by omega
      rw [List.take_length] at HN;have d7:decide ((70:Int)<(l.length:Int))=false:=decide_eq_false (by omega);have H70:=ze h70;have hnl:¬ (l.length:Int)<(l.length:Int):=by omega
      clear hil h70 hi1
      by_cases hg:1000<n
      . have d3:decide ((1000:Int)<(n:Int))=true:=decide_eq_true (by omega)
        have d4:(1000:Int)<(n:Int):=by omega
        clear hg;go_wp2_with fail;go_ret;exact ⟨true,rfl,⟨m,rfl⟩,HX.out _⟩
      . have d3:decide ((1000:Int)<(n:Int))=false:=decide_eq_false (by omega)
        have HG:Hid (l.length<=70/\zO l<=1000):=ze ⟨by have:=H70.out;omega,by rw [<- HN.out];omega⟩;clear hg;go_wp2_with fail;go_ret;exact ⟨false,rfl,⟨m,rfl⟩,fun _=>HG.out⟩
end Go.Proofs.YtkmcmmcencdcpaaGreatDoor
