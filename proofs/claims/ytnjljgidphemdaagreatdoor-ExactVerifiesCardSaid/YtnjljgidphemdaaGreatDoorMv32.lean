/- Parts of the proof. -/
import Derived.Test.YtnjljgidphemdaaGreatDoorMv31
import Derived.Test.YtnjljgidphemdaaGreatDoorMv16
set_option linter.all false
namespace Go.Proofs.YtnjljgidphemdaaGreatDoor
open Proofs.Tryz Go.RowKit
structure ZW (r:zU):Prop where
 coef:∀ t∈r.terms,∃ q,zl t.coef=some q/\q≠0/\yG 12 q
 name:(r.terms.map (·.name)).Nodup
 bnd:∃ q,zl r.bound=some q/\yG 12 q
theorem zd3 {r:zU} (h:yF r=0):zX r.terms=0/\yD r.bound=0:=by
 unfold yF at h
 by_cases e:zX r.terms=0
 . rw [if_neg (fun h2=>h2 e)] at h;exact ⟨e,h⟩
 rw [if_pos e] at h;exact absurd h e
theorem zbz {l:List zu} (h:zX l=0) {i:Nat} (hi:i<l.length):(∃ q,zl l[i].coef=some q/\q≠0/\yG 12 q)/\(i=0\/(l.getD (i - 1) default).name<l[i].name):=by
 have j:=yX.1 h i hi
 have r:=xGD (d:=default) hi
 unfold y6 at j
 rw [r] at j
 split at j
 . omega
 split at j
 . rename_i b;exact absurd j b
 rename_i b
 have b:xd l[i].coef=0:=by simpa using b
 refine ⟨?_,?_⟩
 rotate_left
 . unfold yi at j
   by_cases e:decide (i=0)=true\/(l.getD (i - 1) default).name<l[i].name
   rotate_left
   . rw [if_neg e] at j
     split at j<;>cases j
   rcases e with e | e
   . exact .inl (by simpa using e)
   . exact .inr e
 unfold xd at b
 cases hr:zl l[i].coef with
 | none=>rw [hr] at b;simp at b
 | some q=>
   rw [hr] at b;simp only at b
   by_cases e:q=0
   . rw [if_pos e] at b;cases b
   rw [if_neg e] at b
   by_cases m:yG 12 q
   . exact ⟨q,rfl,e,m⟩
   rw [if_neg m] at b;cases b
theorem zbo {l:List zu} (h:zX l=0):zi6 (l.map (·.name)):=by
 unfold zi6
 rw [List.pairwise_iff_getElem]
 have step:∀ i (b:i+1<l.length),(l[i]'(by omega)).name<(l[i+1]).name:=fun i b=>by
  rcases (zbz h b).2 with m | m
  . omega
  . simpa [List.getD,List.getElem?_eq_getElem (show i<l.length by omega)] using m
 intro i j hi r u
 rw [List.length_map] at hi r
 simp only [List.getElem_map]
 have key:∀ d (b:i+d+1<l.length),(l[i]'(by omega)).name<(l[i+d+1]).name:=by
  intro d
  induction d with
  | zero=>intro b;exact step i b
  | succ d ih=>intro b;exact Xh (ih (by omega)) (step (i+d+1) b)
 have:=key (j - i - 1) (by omega)
 have e:i+(j - i - 1)+1=j:=by omega
 simpa only [e] using this
theorem VB {l:List (List UInt8)} (h:zi6 l):l.Nodup:=h.imp (fun hlt e=>by rw [e] at hlt;exact xQ _ hlt)
theorem zgm {r:zU} (h:yF r=0):ZW r:=by
 obtain ⟨e,b⟩:=zd3 h
 refine ⟨fun t ht=>?_,VB (zbo e),?_⟩
 . obtain ⟨i,hi,rfl⟩:=List.mem_iff_getElem.1 ht
   exact (zbz e hi).1
 unfold yD at b
 cases hr:zl r.bound with
 | none=>rw [hr] at b;cases b
 | some q=>
   rw [hr] at b;simp only at b
   by_cases e:yG 12 q
   . exact ⟨q,rfl,e⟩
   rw [if_neg e] at b;cases b
theorem ziy {rows:List zU} (h:yf rows=0):rows.length<=800/\∀ r∈rows,ZW r:=by
 have j:¬ 800<rows.length:=fun hh=>by rw [Zx hh] at h;omega
 refine ⟨by omega,fun r hr=>zgm ?_⟩
 unfold yf at h
 rw [if_neg j] at h
 have l:yM rows.length (fun i=>yF (rows.getD i default))=0:=by
  by_cases e:yM rows.length (fun i=>yF (rows.getD i default))=0
  . exact e
  rw [if_pos e] at h;exact h
 obtain ⟨i,hi,e⟩:=List.mem_iff_getElem.1 hr
 have:=yX.1 l i hi
 have b:rows.getD i default=r:=by simp [List.getD,List.getElem?_eq_getElem hi,e]
 rw [<- b];exact this
theorem zm9 {s:List UInt8}:∀ {l:List zu},s ∉ l.map (·.name)->ZR l s=0
 | [],_=>rfl
 | t :: l,h=>by
   rw [List.map_cons,List.mem_cons] at h;unfold ZR;rw [if_neg (fun e=>h (.inl e.symm)),zm9 (fun e=>h (.inr e))]
theorem zgp {s:List UInt8}:∀ {l:List zu},(∀ t∈l,∃ q,zl t.coef=some q/\yG 12 q)->Dz 12 (ZR l s)
 | [],_=>Dz.zero 12
 | t :: l,h=>by
   unfold ZR
   by_cases e:t.name=s
   . rw [if_pos e]
     obtain ⟨q,j,b⟩:=h t uP;rw [j];exact b.sz
   rw [if_neg e]
   exact zgp (fun t ht=>h t (List.mem_cons_of_mem _ ht))
theorem zqt (t:zu) (l:List zu) (s:List UInt8):ZR (t :: l) s=if t.name=s then (zl t.coef).getD 0 else ZR l s:=rfl
theorem zlb {wt:Rat} {s:List UInt8}:∀ {l:List zu} {F:List UInt8->Option Rat},(l.map (·.name)).Nodup->(zcv wt F l s).getD 0=(F s).getD 0+ZR l s*wt/\((zcv wt F l s).isSome=true↔(F s).isSome=true\/s∈l.map (·.name))
 | [],F,_=>by
   refine ⟨?_,by simp [zcv]⟩
   show (F s).getD 0=(F s).getD 0+0*wt
   rw [Rat.zero_mul,Rat.add_zero]
 | t :: l,F,hn=>by
   rw [List.map_cons,List.nodup_cons] at hn;have h:=zlb (wt:=wt) (s:=s) (l:=l) (F:=zuw wt F t) hn.2;have e:zcv wt F (t :: l)=zcv wt (zuw wt F t) l:=rfl;rw [e,h.1];refine ⟨?_,?_⟩
   . rw [zqt]
     by_cases b:t.name=s
     rotate_left
     . rw [if_neg b]
       unfold zuw zvl;rw [if_neg (fun h=>b h.symm)]
     subst b
     rw [if_pos rfl,zm9 hn.1,Rat.zero_mul,Rat.add_zero];unfold zuw zvl ZS;rw [if_pos rfl]
     rfl
   rw [h.2,List.map_cons,List.mem_cons]
   unfold zuw zvl
   by_cases b:s=t.name
   . rw [if_pos b]
     simp [b]
   rw [if_neg b]
   simp [b]
theorem zkd {r:zU} (h:ZW r) (x:List UInt8):Dz 12 (ZR r.terms x):=zgp (fun t ht=>by obtain ⟨q,b,_,e⟩:=h.coef t ht;exact ⟨q,b,e⟩)
theorem zp0 {r:zU} (h:ZW r) (k:Nat) (x:List UInt8):Dz 12 (ZR (r.terms.take k) x):=zgp (fun t ht=>by obtain ⟨q,b,_,e⟩:=h.coef t (List.mem_of_mem_take ht);exact ⟨q,b,e⟩)
theorem YR {r:zU} (h:ZW r):zl r.bound=some (XY r)/\yG 12 (XY r):=by
 obtain ⟨q,b,j⟩:=h.bnd
 have e:XY r=q:=by unfold XY;rw [b];rfl
 rw [e]
 exact ⟨b,j⟩
theorem rl {e:Nat} {q:Rat} (h:Dz e q) (he:e<=1000):Zu 8388608 q:=(Zu.of_dz h).more (by omega)
theorem nl {e:Nat} {q:Rat} (h:Dz e q) (he:e<=1000):XV 8388608 q:=(Dz.nlen h).mono (by omega)
theorem zeh {rows:List zU} (hs:xI rows) {r:zU} (hr:r∈rows):r.terms.length<=1000:=by
 have e:=vj (fun r:zU=>r.terms.length) rows r hr
 have b:xb rows<=400:=hs.2.2.1
 unfold xb at b
 omega
end Go.Proofs.YtnjljgidphemdaaGreatDoor
