/- Parts of the proof. -/
import Derived.Test.YtobdoblpnanclaaGreatDoorMo30
import Derived.Test.YtobdoblpnanclaaGreatDoorMo17
set_option linter.all false
namespace Go.Proofs.YtobdoblpnanclaaGreatDoor
open Proofs.Tryz Go.RowKit
structure ZO (r:zS):Prop where
 coef:∀ t∈r.terms,∃ q,zj t.coef=some q/\q≠0/\yz 12 q
 name:(r.terms.map (·.name)).Nodup
 bnd:∃ q,zj r.bound=some q/\yz 12 q
theorem znp {r:zS} (h:xz r=0):yh r.terms=0/\xP r.bound=0:=by
 unfold xz at h
 by_cases e:yh r.terms=0
 . rw [if_neg (fun h2=>h2 e)] at h;exact ⟨e,h⟩
 rw [if_pos e] at h;exact absurd h e
theorem XA {l:List zr} (h:yh l=0) {i:Nat} (hi:i<l.length):(∃ q,zj l[i].coef=some q/\q≠0/\yz 12 q)/\(i=0\/(l.getD (i - 1) default).name<l[i].name):=by
 have j:=yT.1 h i hi
 have r:=xGD (d:=default) hi
 unfold vj at j
 rw [r] at j
 split at j
 . omega
 split at j
 . rename_i b;exact absurd j b
 rename_i b
 have b:xZ l[i].coef=0:=by simpa using b
 refine ⟨?_,?_⟩
 rotate_left
 . unfold yM at j
   by_cases e:decide (i=0)=true\/(l.getD (i - 1) default).name<l[i].name
   rotate_left
   . rw [if_neg e] at j
     split at j<;>cases j
   rcases e with e | e
   . exact .inl (by simpa using e)
   . exact .inr e
 unfold xZ at b
 cases hr:zj l[i].coef with
 | none=>rw [hr] at b;simp at b
 | some q=>
   rw [hr] at b;simp only at b
   by_cases e:q=0
   . rw [if_pos e] at b;cases b
   rw [if_neg e] at b
   by_cases m:yz 12 q
   . exact ⟨q,rfl,e,m⟩
   rw [if_neg m] at b;cases b
theorem VY {l:List zr} (h:yh l=0):zih (l.map (·.name)):=by
 unfold zih
 rw [List.pairwise_iff_getElem]
 have step:∀ i (b:i+1<l.length),(l[i]'(by omega)).name<(l[i+1]).name:=fun i b=>by
  rcases (XA h b).2 with m | m
  . omega
  . simpa [List.getD,List.getElem?_eq_getElem (show i<l.length by omega)] using m
 intro i j hi r u
 rw [List.length_map] at hi r
 simp only [List.getElem_map]
 have key:∀ d (b:i+d+1<l.length),(l[i]'(by omega)).name<(l[i+d+1]).name:=by
  intro d
  induction d with
  | zero=>intro b;exact step i b
  | succ d ih=>intro b;exact Xo (ih (by omega)) (step (i+d+1) b)
 have:=key (j - i - 1) (by omega)
 have e:i+(j - i - 1)+1=j:=by omega
 simpa only [e] using this
theorem vS {l:List (List UInt8)} (h:zih l):l.Nodup:=h.imp (fun hlt e=>by rw [e] at hlt;exact xF _ hlt)
theorem zqh {r:zS} (h:xz r=0):ZO r:=by
 obtain ⟨e,b⟩:=znp h
 refine ⟨fun t ht=>?_,vS (VY e),?_⟩
 . obtain ⟨i,hi,rfl⟩:=List.mem_iff_getElem.1 ht
   exact (XA e hi).1
 unfold xP at b
 cases hr:zj r.bound with
 | none=>rw [hr] at b;cases b
 | some q=>
   rw [hr] at b;simp only at b
   by_cases e:yz 12 q
   . exact ⟨q,rfl,e⟩
   rw [if_neg e] at b;cases b
theorem zc9 {rows:List zS} (h:yB rows=0):rows.length<=800/\∀ r∈rows,ZO r:=by
 have hl:¬ 800<rows.length:=fun hh=>by rw [za4 hh] at h;omega
 refine ⟨by omega,fun r hr=>zqh ?_⟩
 unfold yB at h
 rw [if_neg hl] at h
 have j:xt rows.length (fun i=>xz (rows.getD i default))=0:=by
  by_cases e:xt rows.length (fun i=>xz (rows.getD i default))=0
  . exact e
  rw [if_pos e] at h;exact h
 obtain ⟨i,hi,e⟩:=List.mem_iff_getElem.1 hr
 have:=yT.1 j i hi
 have b:rows.getD i default=r:=by simp [List.getD,List.getElem?_eq_getElem hi,e]
 rw [<- b];exact this
theorem zb3 {s:List UInt8}:∀ {l:List zr},s ∉ l.map (·.name)->Zq l s=0
 | [],_=>rfl
 | t :: l,h=>by
   rw [List.map_cons,List.mem_cons] at h;unfold Zq;rw [if_neg (fun e=>h (.inl e.symm)),zb3 (fun e=>h (.inr e))]
theorem zfd {s:List UInt8}:∀ {l:List zr},(∀ t∈l,∃ q,zj t.coef=some q/\yz 12 q)->Dz 12 (Zq l s)
 | [],_=>Dz.zero 12
 | t :: l,h=>by
   unfold Zq
   by_cases e:t.name=s
   . rw [if_pos e]
     obtain ⟨q,j,b⟩:=h t uP;rw [j];exact b.sz
   rw [if_neg e]
   exact zfd (fun t ht=>h t (List.mem_cons_of_mem _ ht))
theorem zc4 (t:zr) (l:List zr) (s:List UInt8):Zq (t :: l) s=if t.name=s then (zj t.coef).getD 0 else Zq l s:=rfl
theorem zjj {wt:Rat} {s:List UInt8}:∀ {l:List zr} {F:List UInt8->Option Rat},(l.map (·.name)).Nodup->(zbl wt F l s).getD 0=(F s).getD 0+Zq l s*wt/\((zbl wt F l s).isSome=true↔(F s).isSome=true\/s∈l.map (·.name))
 | [],F,_=>by
   refine ⟨?_,by simp [zbl]⟩
   show (F s).getD 0=(F s).getD 0+0*wt
   rw [Rat.zero_mul,Rat.add_zero]
 | t :: l,F,hn=>by
   rw [List.map_cons,List.nodup_cons] at hn;have h:=zjj (wt:=wt) (s:=s) (l:=l) (F:=zsv wt F t) hn.2;have e:zbl wt F (t :: l)=zbl wt (zsv wt F t) l:=rfl;rw [e,h.1];refine ⟨?_,?_⟩
   . rw [zc4]
     by_cases b:t.name=s
     rotate_left
     . rw [if_neg b]
       unfold zsv ztq;rw [if_neg (fun h=>b h.symm)]
     subst b
     rw [if_pos rfl,zb3 hn.1,Rat.zero_mul,Rat.add_zero];unfold zsv ztq yX;rw [if_pos rfl]
     rfl
   rw [h.2,List.map_cons,List.mem_cons]
   unfold zsv ztq
   by_cases b:s=t.name
   . rw [if_pos b]
     simp [b]
   rw [if_neg b]
   simp [b]
theorem ztk {r:zS} (h:ZO r) (x:List UInt8):Dz 12 (Zq r.terms x):=zfd (fun t ht=>by obtain ⟨q,b,_,e⟩:=h.coef t ht;exact ⟨q,b,e⟩)
theorem zns {r:zS} (h:ZO r) (k:Nat) (x:List UInt8):Dz 12 (Zq (r.terms.take k) x):=zfd (fun t ht=>by obtain ⟨q,b,_,e⟩:=h.coef t (List.mem_of_mem_take ht);exact ⟨q,b,e⟩)
theorem zb0 {r:zS} (h:ZO r):zj r.bound=some (YR r)/\yz 12 (YR r):=by
 obtain ⟨q,b,j⟩:=h.bnd
 have e:YR r=q:=by unfold YR;rw [b];rfl
 rw [e]
 exact ⟨b,j⟩
theorem rl {e:Nat} {q:Rat} (h:Dz e q) (he:e<=1000):xJ 8388608 q:=(xJ.of_dz h).more (by omega)
def zf9 (p:List zr) (f:List UInt8->Rat):List (List UInt8)->Rat
 | []=>0
 | x :: N=>f x*Zq p x+zf9 p f N
theorem zjm {p:List zr} {f g:List UInt8->Rat}:∀ N,zf9 p (fun x=>f x+g x) N=zf9 p f N+zf9 p g N
 | []=>(Rat.add_zero 0).symm
 | x :: N=>by
   unfold zf9;rw [zjm N,Rat.add_mul,Rat.add_assoc,Rat.add_assoc,Rat.add_left_comm (g x*Zq p x)]
theorem znk {p:List zr} {f:List UInt8->Rat} {c:Rat}:∀ N,zf9 p (fun x=>f x*c) N=zf9 p f N*c
 | []=>(Rat.zero_mul c).symm
 | x :: N=>by
   unfold zf9;rw [znk N,Rat.add_mul,Rat.mul_assoc,Rat.mul_assoc,Rat.mul_comm c]
theorem V5 {p:List zr} {f:List UInt8->Rat}:∀ N,(∀ x∈N,f x=0)->zf9 p f N=0
 | [],_=>rfl
 | x :: N,h=>by
   unfold zf9;rw [h x uP,Rat.zero_mul,V5 N (fun y hy=>h y (List.mem_cons_of_mem _ hy)),Rat.zero_add]
theorem zgi {p:List zr} {f g:List UInt8->Rat}:∀ N,(∀ x∈N,f x=g x)->zf9 p f N=zf9 p g N
 | [],_=>rfl
 | x :: N,h=>by
   unfold zf9;rw [h x uP,zgi N (fun y hy=>h y (List.mem_cons_of_mem _ hy))]
theorem zo3 {p:List zr} {s:List UInt8} {c:Rat}:∀ N:List (List UInt8),N.Nodup->s∈N->zf9 p (fun x=>if s=x then c else 0) N=c*Zq p s
 | [],_,h=>by cases h
 | x :: N,hn,h=>by
   rw [List.nodup_cons] at hn;unfold zf9
   by_cases e:s=x
   . subst e
     rw [if_pos rfl,V5 N (fun y hy=>if_neg (fun e=>hn.1 (by rw [e];exact hy))),Rat.add_zero]
   rw [if_neg e,Rat.zero_mul,Rat.zero_add]
   exact zo3 N hn.2 ((List.mem_cons.1 h).resolve_left e)
theorem zoy {l:List zr} (hn:(l.map (·.name)).Nodup) {k:Nat} (b:k<l.length) (x:List UInt8):
 Zq (l.take (k+1)) x=Zq (l.take k) x+(if l[k].name=x then yX l[k] else 0):=by
 induction l generalizing k with
 | nil=>cases b
 | cons t l ih=>
   rw [List.map_cons,List.nodup_cons] at hn
   cases k with
   | zero=>
     show (if t.name=x then (zj t.coef).getD 0 else 0)=0+(if t.name=x then yX t else 0)
     rw [Rat.zero_add];rfl
   | succ k=>
     have b:k<l.length:=by simpa using b
     have:=ih hn.2 b
     show (if t.name=x then (zj t.coef).getD 0 else Zq (l.take (k+1)) x)=(if t.name=x then (zj t.coef).getD 0 else Zq (l.take k) x)+(if l[k].name=x then yX l[k] else 0)
     by_cases e:t.name=x
     rotate_left
     . rw [if_neg e,if_neg e];exact this
     rw [if_pos e,if_pos e,if_neg,Rat.add_zero]
     intro j;exact hn.1 (by rw [e, <- j];exact List.mem_map.2 ⟨_,uO b,rfl⟩)
theorem zm6 {p l:List zr} (hn:(l.map (·.name)).Nodup) {N:List (List UInt8)} (hN:N.Nodup) (hm:∀ t∈l,t.name∈N):∀ k,k<=l.length->XI p l k=zf9 p (Zq (l.take k)) N
 | 0,_=>(V5 (p:=p) (f:=Zq (l.take 0)) N (fun x _=>rfl)).symm
 | k+1,b=>by
   have b:k<l.length:=b;have e:=xGD (d:=default) b;rw [zgi N (fun x _=>zoy hn b x),zjm,zo3 N hN (hm _ (uO b)), <- zm6 hn hN hm k (by omega), <- e]
   rfl
end Go.Proofs.YtobdoblpnanclaaGreatDoor
