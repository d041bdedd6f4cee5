/- Parts of the proof: memory, numbers, walks of the functions that are called. -/
import Derived.Conc.Holds
import Derived.Lib.SmallJoins
import Derived.ProofKit
import Derived.SizedLaws
import Derived.Test.YtacfcmdlgebhgaaGreatMg27
set_option linter.unusedVariables false
set_option linter.unusedSimpArgs false
namespace Go.Proofs.YtacfcmdlgebhgaaGreat
open Go.RowKit Go.Deep Go.ChangeShapes Go.WideShapes
theorem zeh:Tryz.prog.underlying 26=some (.struct #[⟨ "Nodes",22,0,false, "", "",0⟩,⟨ "Pipes",23,1,false, "", "",24⟩,⟨ "Heads",24,2,false, "", "",48⟩,⟨ "Wells",24,3,false, "", "",72⟩]):=by kernel_rfl
theorem zae:Tryz.prog.underlying 43=some (.struct #[⟨ "Node",3,0,false, "", "",0⟩,⟨ "Value",28,1,false, "", "",8⟩]):=by kernel_rfl
theorem zps:Tryz.prog.underlying 41=some (.struct #[⟨ "Name",9,0,false, "", "",0⟩,⟨ "From",3,1,false, "", "",16⟩,⟨ "To",3,2,false, "", "",24⟩,⟨ "Low",28,3,false, "", "",32⟩,⟨ "High",28,4,false, "", "",48⟩]):=by kernel_rfl
theorem Y1:Tryz.prog.cellsOf 43=2:=by kernel_rfl
theorem zjp:Tryz.prog.cellsOf 41=5:=by kernel_rfl
theorem zb4 {a:Assume} {C:Checked} {os:Os} {f:FuncId} {r:Reach} {Pre:World->Array Value->Prop} {Post:World->Array Value->Value->World->Prop} (h:ReturnsInHanded a C os f r Pre Post):ReturnsInLeavingWide a C os f r Pre Post:=
 fun enter=>ReturnsInOpen.mono (fun _ _ _ x=>⟨x.2.1,onlyLeaving_of_quiet x.1,x.2.2⟩) (fun _ x=>x) (h enter)
theorem zfj {α:Type} {Q:Nat->α->Prop}:∀ (len:Nat),(∀ i,i<len->∃ e,Q i e)->∃ l:List α,l.length=len/\∀ i (h:i<l.length),Q i l[i]
 | 0,_=>⟨[],rfl,fun i h=>absurd h (by simp)⟩
 | n+1,h=>by
   obtain ⟨l,hl,hq⟩:=zfj n (fun i hi=>h i (by omega));obtain ⟨e,he⟩:=h n (by omega);refine ⟨l ++ [e],by simp [hl],fun i hi=>?_⟩
   rcases Nat.lt_or_ge i l.length with h1 | h1
   . rw [List.getElem_append_left h1];exact hq i h1
   . have hi2:i=n:=by simp at hi;omega
     subst hi2;rw [List.getElem_append_right h1]
     simpa [hl] using he
theorem znp {α:Type} {f:α->List Value} {k:Nat} (hk:∀ e,(f e).length=k):∀ (l:List α) (i r:Nat) (hi:i<l.length),r<k->(l.flatMap f)[i*k+r]?=(f l[i])[r]?
 | [],i,r,hi,_=>absurd hi (by simp)
 | e :: l,0,r,_,hr=>by
   rw [List.flatMap_cons,Nat.zero_mul,Nat.zero_add,List.getElem?_append_left (by rw [hk];exact hr)]
   rfl
 | e :: l,i+1,r,hi,hr=>by
   rw [List.flatMap_cons,List.getElem?_append_right (by rw [hk,Nat.succ_mul];omega),hk,show (i+1)*k+r - k=i*k+r by rw [Nat.succ_mul];omega,znp hk l i r (by simpa using hi) hr]
   rfl
theorem VX {α:Type} {f:α->List Value} {k:Nat} (hk:∀ e,(f e).length=k):∀ (l:List α),(l.flatMap f).length=l.length*k
 | []=>by simp
 | e :: l=>by rw [List.flatMap_cons,List.length_append,hk,VX hk l,List.length_cons,Nat.succ_mul];omega
section
variable {H:Type} {enc:TypeId×Value->H} {P:Program} {w:World} {spare:Nat->Bool} {held:Bool}
theorem ZJ {α:Type} {f:α->List Value} {k B:Nat} {good:α->Prop} {t e:TypeId} {fuel:Nat} {cs:List Value} {x:DataW H×List MemPlace} (hk:∀ e,(f e).length=k) (hk0:0<k) (ht:P.underlying t=some (.slice e)) (hc:P.cellsOf e=k)
 (step:∀ (n:Nat) (cs' :List Value) (y:DataW H×List MemPlace),DataW.trod enc P w 0 spare held n e cs' =some y->(∀ z∈y.1.weights P e,z<=reachBytes)->∃ el:α,cs' =f el/\good el)
 (hw:∀ z∈x.1.weights P t,z<=reachBytes) (hB:∀ p∈x.2,p.block<B) (h:DataW.trod enc P w 0 spare held fuel t cs=some x):
 ∃ (A:Option Addr) (c:Nat) (l:List α),cs=[.slice A l.length c]/\l.length<=c/\c<=maxLen/\zK w B k A l.length (l.flatMap f)/\∀ el∈l,good el:=by
 rcases open_slice ht h with ⟨rfl,_⟩ | ⟨a,len,cap,m,n,D,Pl,rfl,_,hl,hm,hmm,rfl,hx⟩
 . exact ⟨none,0,[],rfl,by simp,by unfold maxLen;omega,zK.none_,fun el h=>absurd h (by simp)⟩
 . have hlm:len<=m:=by rw [hmm];split<;>omega
   rw [hc] at hx hB
   obtain ⟨l,hll,hq⟩:=zfj (Q:=fun i el=>w.cells? 0 (a.add (i*k)) k=some (f el)/\good el) len (fun i hi=>by
    obtain ⟨cs',h1,h2⟩:=hx i (by omega)
    obtain ⟨el,h3,h4⟩:=step n cs' _ h2 (fun z hz=>hw z (by
     unfold DataW.weights;rw [ht];simp only [List.mem_cons,List.mem_append];refine .inr (.inl ?_)
     have hmem:∀ (L:List (DataW H)) (d:DataW H),d∈L->∀ z∈d.weights P e,z∈DataW.weightsAll P e L:=by
      intro L
      induction L with
      | nil=>intro d hd;cases hd
      | cons b L ih=>
        intro d hd z hz;unfold DataW.weightsAll;rw [List.mem_append]
        rcases List.mem_cons.1 hd with rfl | hd
        . exact .inl hz
        . exact .inr (ih d hd z hz)
     exact hmem _ (D i) (List.mem_map.2 ⟨i,List.mem_range.2 hi,rfl⟩) z hz))
    exact ⟨el,by rw [<- h3];exact h1,h4⟩)
   refine ⟨some a,cap,l,by rw [hll],by omega,hm,⟨VX hk l,fun h0=>⟨a,rfl,?_,fun j u hu=>?_⟩⟩,fun el hel=>?_⟩
   . exact hB (.cell a.block (a.off+0)) (List.mem_append.2 (.inl (MemPlace.mem_row.2 ⟨0,Nat.mul_pos (by omega) hk0,rfl⟩)))
   . have hj:j<l.length*k:=by
      have:=(List.getElem?_eq_some_iff.1 hu).1;rw [VX hk] at this;exact this
     have hi:j / k<l.length:=Nat.div_lt_of_lt_mul (by rw [Nat.mul_comm];exact hj);have hr:j % k<k:=Nat.mod_lt _ hk0;have hjj:j / k*k+j % k=j:=by rw [Nat.mul_comm];exact Nat.div_add_mod j k
     have h1:=(World.cells?_some (hq _ hi).1).2.2 (j % k) hr;rw [zow,hjj] at h1;rw [h1, <- znp hk l _ _ hi hr,hjj];exact hu
   . obtain ⟨i,hi,rfl⟩:=List.mem_iff_getElem.1 hel
     exact (hq i hi).2
theorem zuo (s:ByteArray):str s.data.toList= .string s:=by cases s;rfl
theorem Z1 {t:TypeId} (ht:P.underlying t=some .string) (n:Nat) (cs' :List Value) (y:DataW H×List MemPlace) (h:DataW.trod enc P w 0 spare held n t cs' =some y) (hw:∀ z∈y.1.weights P t,z<=reachBytes):
 ∃ el:List UInt8,cs' =[str el]/\ZO el:=by
 obtain ⟨s,rfl,rfl,_⟩:=DataW.trod_string ht h
 refine ⟨s.data.toList,by rw [zuo],?_⟩
 have:=hw s.data.toList.length (by unfold DataW.weights;simp)
 unfold ZO
 unfold reachBytes at this
 omega
theorem zbt {t:TypeId} {f0 f1:Field} (ht:P.underlying t=some (.struct #[f0,f1])) (hc:P.cellsOf t=2) (e0:f0.offset=0) (e1:f1.offset=1) (c0:P.cellsOf f0.type=1) (c1:P.cellsOf f1.type=1) (u0:P.underlying f0.type=some (.int .i64)) (u1:P.underlying f1.type=some .string)
 (n:Nat) (cs' :List Value) (y:DataW H×List MemPlace) (h:DataW.trod enc P w 0 spare held n t cs' =some y) (hw:∀ z∈y.1.weights P t,z<=reachBytes):
 ∃ el:yU,cs' =Zt el/\ZO el.value:=by
 obtain ⟨y0,y1,m,rfl,hl,h0,h1⟩:=trod_struct2 ht h
 rw [hc] at hl
 match cs',hl with
 | [a,b],_=>
   rw [e0,c0] at h0;rw [e1,c1] at h1;obtain ⟨z,hz,rfl,_⟩:=DataW.trod_int u0 h0
   obtain ⟨el,hel,hs⟩:=Z1 u1 _ _ _ h1 (fun z hz=>hw z (by
    unfold DataW.weights;rw [ht]
    simp [DataW.weightsEach,hz]))
   simp at hz hel;exact ⟨⟨z,el⟩,by rw [hz,hel];rfl,hs⟩
theorem zsv {t:TypeId} {f0 f1 f2 f3 f4:Field} (ht:P.underlying t=some (.struct #[f0,f1,f2,f3,f4])) (hc:P.cellsOf t=5) (e0:f0.offset=0) (e1:f1.offset=1) (e2:f2.offset=2) (e3:f3.offset=3) (e4:f4.offset=4)
 (c0:P.cellsOf f0.type=1) (c1:P.cellsOf f1.type=1) (c2:P.cellsOf f2.type=1) (c3:P.cellsOf f3.type=1) (c4:P.cellsOf f4.type=1)
 (u0:P.underlying f0.type=some .string) (u1:P.underlying f1.type=some (.int .i64)) (u2:P.underlying f2.type=some (.int .i64)) (u3:P.underlying f3.type=some .string) (u4:P.underlying f4.type=some .string)
 (n:Nat) (cs' :List Value) (y:DataW H×List MemPlace) (h:DataW.trod enc P w 0 spare held n t cs' =some y) (hw:∀ z∈y.1.weights P t,z<=reachBytes):
 ∃ el:zee,cs' =YL el/\(ZO el.name/\ZO el.low/\ZO el.high):=by
 obtain ⟨xs,m,_,rfl,hl,hlen,hf⟩:=DataW.trod_struct ht h
 match xs,hlen with
 | [y0,y1,y2,y3,y4],_=>
   rw [hc] at hl;have h0:=hf 0 f0 rfl;have h1:=hf 1 f1 rfl;have h2:=hf 2 f2 rfl;have h3:=hf 3 f3 rfl;have h4:=hf 4 f4 rfl;simp only [List.getElem?_cons_zero,List.getElem?_cons_succ] at h0 h1 h2 h3 h4
   match cs',hl with
   | [a,b,c,d,e],_=>
     rw [e0,c0] at h0;rw [e1,c1] at h1;rw [e2,c2] at h2;rw [e3,c3] at h3;rw [e4,c4] at h4;obtain ⟨z1,hz1,rfl,_⟩:=DataW.trod_int u1 h1;obtain ⟨z2,hz2,rfl,_⟩:=DataW.trod_int u2 h2;obtain ⟨l0,hl0,s0⟩:=Z1 u0 _ _ _ h0 (fun z hz=>hw z (by unfold DataW.weights;rw [ht];simp [DataW.weightsEach,hz]));obtain ⟨l3,hl3,s3⟩:=Z1 u3 _ _ _ h3 (fun z hz=>hw z (by unfold DataW.weights;rw [ht];simp [DataW.weightsEach,hz]));obtain ⟨l4,hl4,s4⟩:=Z1 u4 _ _ _ h4 (fun z hz=>hw z (by unfold DataW.weights;rw [ht];simp [DataW.weightsEach,hz]));simp at hz1 hz2 hl0 hl3 hl4;exact ⟨⟨l0,z1,z2,l3,l4⟩,by rw [hz1,hz2,hl0,hl3,hl4];rfl,s0,s3,s4⟩
end
theorem zm4 (l:List (List UInt8)):l.flatMap (fun s=>[str s])=l.map str:=by
 induction l with
 | nil=>rfl
 | cons a l ih=>rw [List.flatMap_cons,ih];rfl
theorem zep:Tryz.prog.underlying 9=some .string:=by kernel_rfl
theorem Zz:Tryz.prog.underlying 28=some .string:=by kernel_rfl
theorem Ya:Tryz.prog.underlying 3=some (.int .i64):=by kernel_rfl
theorem zkp:Tryz.prog.underlying 22=some (.slice 9):=by kernel_rfl
theorem zp0:Tryz.prog.underlying 23=some (.slice 41):=by kernel_rfl
theorem VV:Tryz.prog.underlying 24=some (.slice 43):=by kernel_rfl
theorem zxl {l:List Value} (h:l.length=4):∃ a b c d,l=[a,b,c,d]:=by
 match l,h with
 | [a,b,c,d],_=>exact ⟨a,b,c,d,rfl⟩
set_option maxRecDepth 100000 in
theorem zve {H:Type} {enc:TypeId×Value->H} {W:World} {fuel:Nat} {vs:Array Value} {x:DataW H×List MemPlace} {spare:Nat->Bool} {held:Bool} (h:DataW.trod enc Tryz.prog W 0 spare held fuel 26 vs.toList=some x)
 (hw:∀ z∈x.1.weights Tryz.prog 26,z<=reachBytes) (hB:∀ p∈x.2,p.block<W.heap.size):∃ n,Vl W (.agg vs) n:=by
 obtain ⟨y0,y1,y2,y3,m,rfl,hl,h0,h1,h2,h3⟩:=Go.Joins.trod_struct4 zeh h
 rw [show Tryz.prog.cellsOf 26=4 by kernel_rfl] at hl
 obtain ⟨vs⟩:=vs
 obtain ⟨a,b,c,d,rfl⟩:=zxl hl
 rw [show Tryz.prog.cellsOf (⟨ "Nodes",22,0,false, "", "",0⟩:Field).type=1 by kernel_rfl] at h0
 rw [show Tryz.prog.cellsOf (⟨ "Pipes",23,1,false, "", "",24⟩:Field).type=1 by kernel_rfl] at h1
 rw [show Tryz.prog.cellsOf (⟨ "Heads",24,2,false, "", "",48⟩:Field).type=1 by kernel_rfl] at h2
 rw [show Tryz.prog.cellsOf (⟨ "Wells",24,3,false, "", "",72⟩:Field).type=1 by kernel_rfl] at h3
 have hw' :∀ z,z∈DataW.weightsEach Tryz.prog [22,23,24,24] [y0.1,y1.1,y2.1,y3.1]->z<=reachBytes:=fun z hz=>hw z (by unfold DataW.weights;rw [zeh];exact hz)
 simp only [DataW.weightsEach,List.mem_append,List.append_nil] at hw'
 simp only [List.mem_append] at hB
 obtain ⟨A0,c0,l0,e0,b0,m0,r0,g0⟩:=ZJ (f:=fun s:List UInt8=>[str s]) (k:=1) (B:=W.heap.size) (good:=ZO) (fun _=>rfl) (by omega) zkp (by kernel_rfl) (Z1 zep) (fun z hz=>hw' z (.inl hz)) (fun p hp=>hB p (.inl hp)) h0
 obtain ⟨A1,c1,l1,e1,b1,m1,r1,g1⟩:=ZJ (f:=YL) (k:=5) (B:=W.heap.size) (good:=fun p=>ZO p.name/\ZO p.low/\ZO p.high) (fun _=>rfl) (by omega) zp0 zjp (zsv zps zjp rfl rfl rfl rfl rfl (by kernel_rfl) (by kernel_rfl) (by kernel_rfl) (by kernel_rfl) (by kernel_rfl) zep Ya Ya Zz Zz) (fun z hz=>hw' z (.inr (.inl hz))) (fun p hp=>hB p (.inr (.inl hp))) h1
 obtain ⟨A2,c2,l2,e2,b2,m2,r2,g2⟩:=ZJ (f:=Zt) (k:=2) (B:=W.heap.size) (good:=fun p=>ZO p.value) (fun _=>rfl) (by omega) VV Y1 (zbt zae Y1 rfl rfl (by kernel_rfl) (by kernel_rfl) Ya Zz) (fun z hz=>hw' z (.inr (.inr (.inl hz)))) (fun p hp=>hB p (.inr (.inr (.inl hp)))) h2
 obtain ⟨A3,c3,l3,e3,b3,m3,r3,g3⟩:=ZJ (f:=Zt) (k:=2) (B:=W.heap.size) (good:=fun p=>ZO p.value) (fun _=>rfl) (by omega) VV Y1 (zbt zae Y1 rfl rfl (by kernel_rfl) (by kernel_rfl) Ya Zz) (fun z hz=>hw' z (.inr (.inr (.inr hz)))) (fun p hp=>hB p (.inr (.inr (.inr hp)))) h3
 simp at e0 e1 e2 e3
 subst e0 e1 e2 e3
 rw [zm4] at r0
 exact ⟨⟨l0,l1,l2,l3⟩,A0,c0,A1,c1,A2,c2,A3,c3,rfl,⟨b0,m0,r0,g0⟩,⟨b1,m1,r1,g1⟩,⟨b2,m2,r2,g2⟩,⟨b3,m3,r3,g3⟩⟩
theorem zfp:Tryz.prog.underlying 31=some (.struct #[⟨ "Cond",27,0,false, "", "",0⟩,⟨ "Heads",27,1,false, "", "",24⟩,⟨ "Flows",27,2,false, "", "",48⟩,⟨ "Node",3,3,false, "", "",72⟩,⟨ "Pipe",3,4,false, "", "",80⟩,⟨ "A",3,5,false, "", "",88⟩,⟨ "B",3,6,false, "", "",96⟩,⟨ "First",28,7,false, "", "",104⟩,⟨ "Second",28,8,false, "", "",120⟩,⟨ "Wells",29,9,false, "", "",136⟩,⟨ "Limits",24,10,false, "", "",160⟩]):=by kernel_rfl
theorem zb3:Tryz.prog.underlying 27=some (.slice 28):=by kernel_rfl
theorem zqr:Tryz.prog.underlying 29=some (.slice 3):=by kernel_rfl
theorem ztd {l:List Value} (h:l.length=11):∃ a b c d e f g i j k m,l=[a,b,c,d,e,f,g,i,j,k,m]:=by
 match l,h with
 | [a,b,c,d,e,f,g,i,j,k,m],_=>exact ⟨a,b,c,d,e,f,g,i,j,k,m,rfl⟩
section
variable {H:Type} {enc:TypeId×Value->H} {P:Program} {w:World} {spare:Nat->Bool} {held:Bool}
theorem ztt {t:TypeId} (ht:P.underlying t=some (.int .i64)) (n:Nat) (cs' :List Value) (y:DataW H×List MemPlace) (h:DataW.trod enc P w 0 spare held n t cs' =some y) (hw:∀ z∈y.1.weights P t,z<=reachBytes):
 ∃ el:Int,cs' =[.int .i64 el]/\True:=by
 obtain ⟨z,hz,_,_⟩:=DataW.trod_int ht h
 exact ⟨z,hz,trivial⟩
end
theorem zr4 (l:List Int):l.flatMap (fun z=>[Value.int .i64 z])=VD l:=by
 induction l with
 | nil=>rfl
 | cons a l ih=>rw [List.flatMap_cons,ih];rfl
theorem zli {H:Type} {xs:List (DataW H×List MemPlace)} (h:xs.length=11):∃ y0 y1 y2 y3 y4 y5 y6 y7 y8 y9 y10,xs=[y0,y1,y2,y3,y4,y5,y6,y7,y8,y9,y10]:=by
 match xs,h with
 | [a,b,c,d,e,f,g,i,j,k,m],_=>exact ⟨a,b,c,d,e,f,g,i,j,k,m,rfl⟩
set_option maxRecDepth 100000 in
theorem zt0 {H:Type} {enc:TypeId×Value->H} {W:World} {fuel:Nat} {vs:Array Value} {x:DataW H×List MemPlace} {spare:Nat->Bool} {held:Bool} (h:DataW.trod enc Tryz.prog W 0 spare held fuel 31 vs.toList=some x)
 (hw:∀ z∈x.1.weights Tryz.prog 31,z<=reachBytes) (hB:∀ p∈x.2,p.block<W.heap.size):∃ a,zb5 W (.agg vs) a:=by
 obtain ⟨xs,m,_,rfl,hl,hlen,hf⟩:=DataW.trod_struct zfp h
 rw [show Tryz.prog.cellsOf 31=11 by kernel_rfl] at hl
 obtain ⟨vs⟩:=vs
 obtain ⟨v0,v1,v2,v3,v4,v5,v6,v7,v8,v9,v10,rfl⟩:=ztd hl
 obtain ⟨y0,y1,y2,y3,y4,y5,y6,y7,y8,y9,y10,rfl⟩:=zli hlen
 have hw' :∀ z,z∈DataW.weightsEach Tryz.prog [27,27,27,3,3,3,3,28,28,29,24] [y0.1,y1.1,y2.1,y3.1,y4.1,y5.1,y6.1,y7.1,y8.1,y9.1,y10.1]->z<=reachBytes:=fun z hz=>hw z (by unfold DataW.weights;rw [zfp];exact hz)
 simp only [DataW.weightsEach,List.mem_append,List.append_nil] at hw'
 simp only [List.flatMap_cons,List.flatMap_nil,List.mem_append,List.append_nil] at hB
 have h0:=hf 0 ⟨ "Cond",27,0,false, "", "",0⟩ rfl
 rw [show Tryz.prog.cellsOf (⟨ "Cond",27,0,false, "", "",0⟩:Field).type=1 by kernel_rfl] at h0
 have h1:=hf 1 ⟨ "Heads",27,1,false, "", "",24⟩ rfl
 rw [show Tryz.prog.cellsOf (⟨ "Heads",27,1,false, "", "",24⟩:Field).type=1 by kernel_rfl] at h1
 have h2:=hf 2 ⟨ "Flows",27,2,false, "", "",48⟩ rfl
 rw [show Tryz.prog.cellsOf (⟨ "Flows",27,2,false, "", "",48⟩:Field).type=1 by kernel_rfl] at h2
 have h3:=hf 3 ⟨ "Node",3,3,false, "", "",72⟩ rfl
 rw [show Tryz.prog.cellsOf (⟨ "Node",3,3,false, "", "",72⟩:Field).type=1 by kernel_rfl] at h3
 have h4:=hf 4 ⟨ "Pipe",3,4,false, "", "",80⟩ rfl
 rw [show Tryz.prog.cellsOf (⟨ "Pipe",3,4,false, "", "",80⟩:Field).type=1 by kernel_rfl] at h4
 have h5:=hf 5 ⟨ "A",3,5,false, "", "",88⟩ rfl
 rw [show Tryz.prog.cellsOf (⟨ "A",3,5,false, "", "",88⟩:Field).type=1 by kernel_rfl] at h5
 have h6:=hf 6 ⟨ "B",3,6,false, "", "",96⟩ rfl
 rw [show Tryz.prog.cellsOf (⟨ "B",3,6,false, "", "",96⟩:Field).type=1 by kernel_rfl] at h6
 have h7:=hf 7 ⟨ "First",28,7,false, "", "",104⟩ rfl
 rw [show Tryz.prog.cellsOf (⟨ "First",28,7,false, "", "",104⟩:Field).type=1 by kernel_rfl] at h7
 have h8:=hf 8 ⟨ "Second",28,8,false, "", "",120⟩ rfl
 rw [show Tryz.prog.cellsOf (⟨ "Second",28,8,false, "", "",120⟩:Field).type=1 by kernel_rfl] at h8
 have h9:=hf 9 ⟨ "Wells",29,9,false, "", "",136⟩ rfl
 rw [show Tryz.prog.cellsOf (⟨ "Wells",29,9,false, "", "",136⟩:Field).type=1 by kernel_rfl] at h9
 have h10:=hf 10 ⟨ "Limits",24,10,false, "", "",160⟩ rfl
 rw [show Tryz.prog.cellsOf (⟨ "Limits",24,10,false, "", "",160⟩:Field).type=1 by kernel_rfl] at h10
 simp only [List.getElem?_cons_zero,List.getElem?_cons_succ] at h0 h1 h2 h3 h4 h5 h6 h7 h8 h9 h10
 obtain ⟨A0,c0,l0,e0,b0,m0,r0,g0⟩:=ZJ (f:=fun s:List UInt8=>[str s]) (k:=1) (B:=W.heap.size) (good:=ZO) (fun _=>rfl) (by omega) zb3 (by kernel_rfl) (Z1 Zz) (fun z hz=>hw' z (.inl hz)) (fun p hp=>hB p (.inl hp)) h0
 obtain ⟨A1,c1,l1,e1,b1,m1,r1,g1⟩:=ZJ (f:=fun s:List UInt8=>[str s]) (k:=1) (B:=W.heap.size) (good:=ZO) (fun _=>rfl) (by omega) zb3 (by kernel_rfl) (Z1 Zz) (fun z hz=>hw' z (.inr (.inl hz))) (fun p hp=>hB p (.inr (.inl hp))) h1
 obtain ⟨A2,c2,l2,e2,b2,m2,r2,g2⟩:=ZJ (f:=fun s:List UInt8=>[str s]) (k:=1) (B:=W.heap.size) (good:=ZO) (fun _=>rfl) (by omega) zb3 (by kernel_rfl) (Z1 Zz) (fun z hz=>hw' z (.inr (.inr (.inl hz)))) (fun p hp=>hB p (.inr (.inr (.inl hp)))) h2
 obtain ⟨A9,c9,l9,e9,b9,m9,r9,g9⟩:=ZJ (f:=fun z:Int=>[Value.int .i64 z]) (k:=1) (B:=W.heap.size) (good:=fun _=>True) (fun _=>rfl) (by omega) zqr (by kernel_rfl) (ztt Ya) (fun z hz=>hw' z (.inr (.inr (.inr (.inr (.inr (.inr (.inr (.inr (.inr (.inl hz))))))))))) (fun p hp=>hB p (.inr (.inr (.inr (.inr (.inr (.inr (.inr (.inr (.inr (.inl hp))))))))))) h9
 obtain ⟨A10,c10,l10,e10,b10,m10,r10,g10⟩:=ZJ (f:=Zt) (k:=2) (B:=W.heap.size) (good:=fun p=>ZO p.value) (fun _=>rfl) (by omega) VV Y1 (zbt zae Y1 rfl rfl (by kernel_rfl) (by kernel_rfl) Ya Zz) (fun z hz=>hw' z (.inr (.inr (.inr (.inr (.inr (.inr (.inr (.inr (.inr (.inr (hz)))))))))))) (fun p hp=>hB p (.inr (.inr (.inr (.inr (.inr (.inr (.inr (.inr (.inr (.inr (hp)))))))))))) h10
 obtain ⟨z3,e3,_,_⟩:=DataW.trod_int Ya h3
 obtain ⟨z4,e4,_,_⟩:=DataW.trod_int Ya h4
 obtain ⟨z5,e5,_,_⟩:=DataW.trod_int Ya h5
 obtain ⟨z6,e6,_,_⟩:=DataW.trod_int Ya h6
 obtain ⟨t7,e7,g7⟩:=Z1 Zz _ _ _ h7 (fun z hz=>hw' z (.inr (.inr (.inr (.inr (.inr (.inr (.inr (.inl hz)))))))))
 obtain ⟨t8,e8,g8⟩:=Z1 Zz _ _ _ h8 (fun z hz=>hw' z (.inr (.inr (.inr (.inr (.inr (.inr (.inr (.inr (.inl hz))))))))))
 simp at e0 e1 e2 e3 e4 e5 e6 e7 e8 e9 e10
 subst e0 e1 e2 e3 e4 e5 e6 e7 e8 e9 e10
 rw [zm4] at r0 r1 r2
 rw [zr4] at r9
 exact ⟨⟨l0,l1,l2,z3,z4,z5,z6,t7,t8,l9,l10⟩,A0,c0,A1,c1,A2,c2,A9,c9,A10,c10,rfl,⟨b0,m0,r0,g0⟩,⟨b1,m1,r1,g1⟩,⟨b2,m2,r2,g2⟩,⟨g7,g8⟩,⟨b9,m9,r9⟩,b10,m10,r10,g10⟩
end Go.Proofs.YtacfcmdlgebhgaaGreat
