/- Parts of the proof. -/
import Derived.Test.YtnjljgidphemdaaGreatDoorMv17
import Derived.Test.YtnjljgidphemdaaGreatDoorMv22
set_option linter.all false
namespace Go.Proofs.YtnjljgidphemdaaGreatDoor
open Proofs.Tryz Go.RowKit Go.Deep
attribute [local go_sem ↓] Go.wp_at_zero Go.wp_at_succ
def hdr (L g:Nat):Value:=.slice (some ⟨g,0,none⟩) L L
section
variable {S:Nat->Prop} {w w' :World} {base L m:Nat} {mv:Value} {g:Nat->Nat} {A:Nat->Nat->Rat}
end
section
variable {w w' :World} {base L m gm cap:Nat} {g:Nat->Nat} {A:Nat->Nat->Rat}
end
def Vj (w:World) (base:Nat) (v:Value) (n:Nat) (f:Nat->Rat):Prop:=
 ∃ xs,zo0 w base 112 3 v n xs/\∀ k,k<n->∃ (ng:Bool) (A:Option Addr) (a c:Nat) (B:Option Addr) (b d:Nat),xs[k*3]?=some (.bool ng)/\xs[k*3+1]?=some (.slice A a c)/\xs[k*3+2]?=some (.slice B b d)/\
  vW w (.agg #[.bool ng,.slice A a c,.slice B b d]) (f k)
section
variable {S:Nat->Prop} {w w' :World} {base n:Nat} {v:Value} {f:Nat->Rat}
theorem Vj.chg (h:Vj w base v n f) (hc:Chg S w w') (h2:∀ b,v.ownBlock=some b->¬ S b) (hS:∀ b,S b->zd7 w b):Vj w' base v n f:=by
 obtain ⟨xs,m,r⟩:=h
 refine ⟨xs,m.chg hc h2,fun k hk=>?_⟩
 obtain ⟨ng,A,a,c,B,b,d,e,j,u,l⟩:=r k hk
 exact ⟨ng,A,a,c,B,b,d,e,j,u,hc.ref l hS⟩
theorem Vj.below (h:Vj w base v n f) (hb:Below w.heap.size w w'):Vj w' base v n f:=h.chg (S:=fun _=>False) (Chg.of_below hb) (fun _ _ h=>h) (fun _ h=>h.elim)
theorem Vj.nil (w:World) (base:Nat) (f:Nat->Rat):Vj w base (.slice none 0 0) 0 f:=⟨[],zs9 _ _ _ _,fun k hk=>by omega⟩
theorem Vj.push {w3:World} {v3:Value} {xs:List Value} {q:Rat} {f' :Nat->Rat} {ng:Bool} {A B:Option Addr} {a c b d:Nat} (h1:zo0 w base 112 3 v n xs)
 (h3:∀ k,k<n->∃ (ng:Bool) (A:Option Addr) (a c:Nat) (B:Option Addr) (b d:Nat),xs[k*3]?=some (.bool ng)/\xs[k*3+1]?=some (.slice A a c)/\xs[k*3+2]?=some (.slice B b d)/\vW w (.agg #[.bool ng,.slice A a c,.slice B b d]) (f k))
 (hown:zo0 w3 base 112 3 v3 (n+1) (xs ++ [.bool ng,.slice A a c,.slice B b d])) (hg:w.grownBy w3 v.ownBlock) (hv:vW w (.agg #[.bool ng,.slice A a c,.slice B b d]) q)
 (hf:∀ k,k<n->f' k=f k) (hq:f' n=q):Vj w3 base v3 (n+1) f' :=by
 have j:xs.length=n*3:=h1.1.1
 have l:Chg (fun b=>v.ownBlock=some b) w w3:=⟨hg.os,hg.tape,hg.output,hg.size,fun k hk hS=>hg.block k hk (fun e=>hS e.symm)⟩
 have hS:∀ b,v.ownBlock=some b->zd7 w b:=h1.2
 refine ⟨_,hown,fun k hk=>?_⟩
 rcases uL k n with h | h
 . obtain ⟨r,A',a',c',z,b',d',m,u,C,y⟩:=h3 k h
   refine ⟨r,A',a',c',z,b',d',?_,?_,?_,?_⟩
   . rw [List.getElem?_append_left (by omega)];exact m
   . rw [List.getElem?_append_left (by omega)];exact u
   . rw [List.getElem?_append_left (by omega)];exact C
   . rw [hf k h];exact l.ref y hS
 . obtain rfl:k=n:=by omega
   refine ⟨ng,A,a,c,B,b,d,?_,?_,?_,?_⟩
   . rw [List.getElem?_append_right (by omega),j,show k*3 - k*3=0 by omega];rfl
   . rw [List.getElem?_append_right (by omega),j,show k*3+1 - k*3=1 by omega];rfl
   . rw [List.getElem?_append_right (by omega),j,show k*3+2 - k*3=2 by omega];rfl
   . rw [hq];exact l.ref hv hS
end
theorem zv8:(prog.info? 112).map (fun i=>(i.zero,i.size,i.bytes))=some (some (.agg #[.bool false,.slice none 0 0,.slice none 0 0]),3,56):=by kernel_rfl
theorem Tryz.underlying105:prog.underlying 105=some (.slice 112):=by kernel_rfl
theorem zb4 {w:World} {ops:Array Oper} {rest:List Oper} {o:Oper} {a:Act} {Q:Exit->Act->World->Prop} (hgd:o.guard=none) (s x:Operand)
 (ho:o.op= .call { callee:=.builtin .append,args:=#[s,x],argTypes:=#[105,105] })
 (base:Nat) (v:Value) (n:Nat) (f f' :Nat->Rat) (hs:a.eval s=v) (hO:Vj w base v n f) (gk c:Nat) (hx:a.eval x= .slice (some ⟨gk,0,none⟩) 1 c)
 {t:TypeId} {ng:Bool} {X Y:Option Addr} {n1 c1 n2 c2:Nat} (hk:Blk w gk t #[.bool ng,.slice X n1 c1,.slice Y n2 c2]) {q:Rat} (hv:vW w (.agg #[.bool ng,.slice X n1 c1,.slice Y n2 c2]) q)
 (hn:n<=1000) (hbase:base<=w.heap.size) (hf:∀ k,k<n->f' k=f k) (hq:f' n=q)
 (h:∀ r w',Vj w' base r (n+1) f' ->Chg (fun b=>v.ownBlock=some b) w w' ->(∀ b,v.ownBlock=some b->base<=b/\zd7 w b)->wpList prog ops Q rest (a.put o.dst r) w'):wpList prog ops Q (o :: rest) a w:=by
 obtain ⟨y,C,D,E,z⟩:=info_parts zv8
 obtain ⟨xs,m,F⟩:=hO
 have G:∀ (j:Nat) (u:Value),[Value.bool ng,.slice X n1 c1,.slice Y n2 c2][j]?=some u->w.cell? ((⟨gk,0,none⟩:Addr).add j)=some u:=by
  intro j u hu
  have e:((⟨gk,0,none⟩:Addr).add j)=⟨gk,j,none⟩:=by
   unfold Addr.add
   by_cases h:j=0
   . subst h;rfl
   simp [h]
  rw [e,hk.cell j, <- hu]
  simp
 refine VR (P:=prog) hgd s x _ ho base 112 y _ 3 56 underlying105 C D E z rfl (by omega) v n xs hs m ⟨gk,0,none⟩ 1 c [.bool ng,.slice X n1 c1,.slice Y n2 c2] hx rfl (by omega) G ?_ ?_ (zq4 (zuu _ _ _ _ _ _ _)) (by unfold maxLen;omega) (by omega) hbase ?_
 . intro u hu;simp at hu;rcases hu with rfl | rfl | rfl<;>rfl
 . intro u hu
   simp at hu
   rcases hu with rfl | rfl | rfl
   . exact zqa _
   . exact zfi _ _ _
   . exact zfi _ _ _
 . intro r w' B l I
   exact h r w' (Vj.push m F B l hv hf hq) ⟨l.os,l.tape,l.output,l.size,fun k hk hS=>l.block k hk (fun e=>hS e.symm)⟩ (fun b hb=>⟨(m.1.lt b hb).1,m.2 b hb⟩)
end Go.Proofs.YtnjljgidphemdaaGreatDoor
