/- Parts of the proof. -/
import Derived.Test.YthbmhkiphmcogaaGreatDoorMe29
import Derived.Test.YthbmhkiphmcogaaGreatDoorMe31
set_option linter.all false
namespace Go.Proofs.YthbmhkiphmcogaaGreatDoor
open Proofs.Tryz Go.RowKit
structure VR (r:zQ):Prop where
 coef:∀ t∈r.terms,∃ q,zp t.coef=some q/\q≠0/\yo 12 q
 name:(r.terms.map (·.name)).Nodup
 bnd:∃ q,zp r.bound=some q/\yo 12 q
theorem zoj {r:zQ} (h:xa r=0):yp r.terms=0/\yG r.bound=0:=by
 unfold xa at h
 by_cases e:yp r.terms=0
 . rw [if_neg (fun h2=>h2 e)] at h;exact ⟨e,h⟩
 rw [if_pos e] at h;exact absurd h e
theorem zeu {l:List zR} (h:yp l=0) {i:Nat} (hi:i<l.length):(∃ q,zp l[i].coef=some q/\q≠0/\yo 12 q)/\(i=0\/(l.getD (i - 1) default).name<l[i].name):=by
 have j:=Zf.1 h i hi
 have r:l.getD i default=l[i]:=by simp [List.getD,List.getElem?_eq_getElem hi]
 unfold yC at j
 rw [r] at j
 split at j
 . omega
 split at j
 . rename_i b;exact absurd j b
 rename_i b
 have b:xy l[i].coef=0:=by simpa using b
 refine ⟨?_,?_⟩
 rotate_left
 . unfold yS at j
   by_cases e:decide (i=0)=true\/(l.getD (i - 1) default).name<l[i].name
   rotate_left
   . rw [if_neg e] at j
     split at j<;>cases j
   rcases e with e | e
   . exact .inl (by simpa using e)
   . exact .inr e
 unfold xy at b
 cases hr:zp l[i].coef with
 | none=>rw [hr] at b;simp at b
 | some q=>
   rw [hr] at b;simp only at b
   by_cases e:q=0
   . rw [if_pos e] at b;cases b
   rw [if_neg e] at b
   by_cases m:yo 12 q
   . exact ⟨q,rfl,e,m⟩
   rw [if_neg m] at b;cases b
theorem zmz {l:List zR} (h:yp l=0):zns (l.map (·.name)):=by
 unfold zns
 rw [List.pairwise_iff_getElem]
 have step:∀ i (b:i+1<l.length),(l[i]'(by omega)).name<(l[i+1]).name:=fun i b=>by
  rcases (zeu h b).2 with m | m
  . omega
  . simpa [List.getD,List.getElem?_eq_getElem (show i<l.length by omega)] using m
 intro i j hi r u
 rw [List.length_map] at hi r
 simp only [List.getElem_map]
 have key:∀ d (b:i+d+1<l.length),(l[i]'(by omega)).name<(l[i+d+1]).name:=by
  intro d
  induction d with
  | zero=>intro b;exact step i b
  | succ d ih=>intro b;exact zcx (ih (by omega)) (step (i+d+1) b)
 have:=key (j - i - 1) (by omega)
 have e:i+(j - i - 1)+1=j:=by omega
 simpa only [e] using this
theorem zmh {l:List (List UInt8)} (h:zns l):l.Nodup:=h.imp (fun hlt e=>by rw [e] at hlt;exact Xu _ hlt)
theorem zrx {r:zQ} (h:xa r=0):VR r:=by
 obtain ⟨e,b⟩:=zoj h
 refine ⟨fun t ht=>?_,zmh (zmz e),?_⟩
 . obtain ⟨i,hi,rfl⟩:=List.mem_iff_getElem.1 ht
   exact (zeu e hi).1
 unfold yG at b
 cases hr:zp r.bound with
 | none=>rw [hr] at b;cases b
 | some q=>
   rw [hr] at b;simp only at b
   by_cases e:yo 12 q
   . exact ⟨q,rfl,e⟩
   rw [if_neg e] at b;cases b
theorem Zx {rows:List zQ} (h:yA rows=0):rows.length<=800/\∀ r∈rows,VR r:=by
 have b:¬ 800<rows.length:=fun hh=>by rw [Ve hh] at h;omega
 refine ⟨by omega,fun r hr=>zrx ?_⟩
 unfold yA at h
 rw [if_neg b] at h
 have l:vY rows.length (fun i=>xa (rows.getD i default))=0:=by
  by_cases e:vY rows.length (fun i=>xa (rows.getD i default))=0
  . exact e
  rw [if_pos e] at h;exact h
 obtain ⟨i,hi,e⟩:=List.mem_iff_getElem.1 hr
 have:=Zf.1 l i hi
 have j:rows.getD i default=r:=by simp [List.getD,List.getElem?_eq_getElem hi,e]
 rw [<- j];exact this
theorem zk6 {s:List UInt8}:∀ {l:List zR},s ∉ l.map (·.name)->xU l s=0
 | [],_=>rfl
 | t :: l,h=>by
   rw [List.map_cons,List.mem_cons] at h;unfold xU;rw [if_neg (fun e=>h (.inl e.symm)),zk6 (fun e=>h (.inr e))]
theorem zga {s:List UInt8}:∀ {l:List zR},(∀ t∈l,∃ q,zp t.coef=some q/\yo 12 q)->Dz 12 (xU l s)
 | [],_=>Dz.zero 12
 | t :: l,h=>by
   unfold xU
   by_cases e:t.name=s
   . rw [if_pos e]
     obtain ⟨q,b,j⟩:=h t List.mem_cons_self;rw [b];exact j.sz
   rw [if_neg e]
   exact zga (fun t ht=>h t (List.mem_cons_of_mem _ ht))
theorem znx (t:zR) (l:List zR) (s:List UInt8):xU (t :: l) s=if t.name=s then (zp t.coef).getD 0 else xU l s:=rfl
theorem zbm {wt:Rat} {s:List UInt8}:∀ {l:List zR} {F:List UInt8->Option Rat},(l.map (·.name)).Nodup->(V6 wt F l s).getD 0=(F s).getD 0+xU l s*wt/\((V6 wt F l s).isSome=true↔(F s).isSome=true\/s∈l.map (·.name))
 | [],F,_=>by
   refine ⟨?_,by simp [V6]⟩
   show (F s).getD 0=(F s).getD 0+0*wt
   rw [Rat.zero_mul,Rat.add_zero]
 | t :: l,F,hn=>by
   rw [List.map_cons,List.nodup_cons] at hn;have h:=zbm (wt:=wt) (s:=s) (l:=l) (F:=zs9 wt F t) hn.2;have e:V6 wt F (t :: l)=V6 wt (zs9 wt F t) l:=rfl;rw [e,h.1];refine ⟨?_,?_⟩
   . rw [znx]
     by_cases b:t.name=s
     rotate_left
     . rw [if_neg b]
       unfold zs9 zt8;rw [if_neg (fun h=>b h.symm)]
     subst b
     rw [if_pos rfl,zk6 hn.1,Rat.zero_mul,Rat.add_zero];unfold zs9 zt8 XV;rw [if_pos rfl]
     rfl
   rw [h.2,List.map_cons,List.mem_cons]
   unfold zs9 zt8
   by_cases b:s=t.name
   . rw [if_pos b]
     simp [b]
   rw [if_neg b]
   simp [b]
theorem vN {r:zQ} (h:VR r) (x:List UInt8):Dz 12 (xU r.terms x):=zga (fun t ht=>by obtain ⟨q,b,_,e⟩:=h.coef t ht;exact ⟨q,b,e⟩)
theorem zhp {r:zQ} (h:VR r) (k:Nat) (x:List UInt8):Dz 12 (xU (r.terms.take k) x):=zga (fun t ht=>by obtain ⟨q,b,_,e⟩:=h.coef t (List.mem_of_mem_take ht);exact ⟨q,b,e⟩)
theorem yQ {r:zQ} (h:VR r):zp r.bound=some (VT r)/\yo 12 (VT r):=by
 obtain ⟨q,b,j⟩:=h.bnd
 have e:VT r=q:=by unfold VT;rw [b];rfl
 rw [e]
 exact ⟨b,j⟩
theorem zft {e:Nat} {q:Rat} (h:Dz e q) (he:e<=1000):(zw q).length<=3000:=by
 have b:=Dz.short h (Nat.lt_succ_self e)
 unfold zw
 have m:=b.1
 have r:=b.2
 by_cases l:q.num<0<;>by_cases j:q.den=1<;>simp [l,j]<;>omega
theorem Vt {e:Nat} {q:Rat} (h:Dz e q) (he:e<=1000):zN (zw q):=by
 have:=zft h he
 unfold zN
 omega
theorem rl {e:Nat} {q:Rat} (h:Dz e q) (he:e<=1000):Z9 8388608 q:=(Z9.of_dz h).more (by omega)
theorem nl {e:Nat} {q:Rat} (h:Dz e q) (he:e<=1000):XE 8388608 q:=(Dz.nlen h).mono (by omega)
theorem YP {rows:List zQ} (hs:xK rows) {r:zQ} (hr:r∈rows):r.terms.length<=1000:=by
 have e:=ZU (fun r:zQ=>r.terms.length) rows r hr
 have b:xX rows<=400:=hs.2.2.1
 unfold xX at b
 omega
end Go.Proofs.YthbmhkiphmcogaaGreatDoor
