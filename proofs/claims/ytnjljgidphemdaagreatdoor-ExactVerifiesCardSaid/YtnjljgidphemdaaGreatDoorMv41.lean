/- Parts of the proof. -/
import Derived.Test.YtnjljgidphemdaaGreatDoorMv16
import Derived.Test.YtnjljgidphemdaaGreatDoorMv40
set_option linter.all false
namespace Go.Proofs.YtnjljgidphemdaaGreatDoor
open Proofs.Tryz Go.RowKit Go.Deep
attribute [local go_sem ↓] Go.wp_at_zero Go.wp_at_succ
theorem xI.names {l:List zU} (h:xI l):(zP (l.map (·.terms))).length<=400:=by
 rw [zdx];exact h.2.2.1
theorem zf8 (rows:List zU):(zR rows []).length<=(zP (rows.map (·.terms))).length:=Z7 _
theorem zep {l:List UInt8} {q:Rat} {M:Nat} (h:zl l=some q) (hl:l.length<=M) (hM:1<=M):Dz M q:=by
 have e:=(yN.1 h).1
 have j:(dec q.num.natAbs).length<=l.length:=by
  rw [e];unfold zI
  rw [List.length_append,List.length_append];omega
 have b:(dec q.den).length<=M:=by
  by_cases hd:q.den=1
  . rw [hd,zgl];exact hM
  have:(dec q.den).length<=l.length:=by
   rw [e];unfold zI;rw [List.length_append,if_neg hd,List.length_cons];omega
  omega
 exact yG.sz ⟨by omega,b⟩
theorem zhi {l:List zu} (h:zX l=0) {k:Nat} (hk:k<l.length):∃ q,zl (l.getD k default).coef=some q:=by
 have j:=yX.1 h k hk
 unfold y6 at j
 split at j
 . omega
 split at j
 . omega
 rename_i m
 have b:xd (l.getD k default).coef=0:=by
  by_cases e:xd (l.getD k default).coef=0
  . exact e
  exact absurd e m
 unfold xd at b
 cases hr:zl (l.getD k default).coef with
 | none=>rw [hr] at b;simp at b
 | some q=>exact ⟨q,rfl⟩
theorem zvz {p:List zu} (hb:zK p<=1000) (s:List UInt8):Dz 1000 (ZR p s):=by
 have b:∀ t∈p,t.coef.length<=1000:=fun t ht=>by
  have:=vj (fun t:zu=>t.name.length+t.coef.length) p t ht
  unfold zK at hb
  have e:t.name.length+t.coef.length<=(p.map fun t=>t.name.length+t.coef.length).sum:=this
  omega
 clear hb
 induction p with
 | nil=>exact Dz.zero _
 | cons t p ih=>
   unfold ZR
   split
   rotate_left
   . exact ih (fun t ht=>b t (List.mem_cons_of_mem _ ht))
   cases hr:zl t.coef with
   | none=>exact Dz.zero _
   | some q=>exact zep hr (b t (uP ..)) (by omega)
theorem zhb {l p:List zu} (hl:l.length<=400) (hb:zK l<=8000) (he:zX l=0) (hp:zK p<=1000) (hpe:yI p=0):XT l p:=by
 refine ⟨hl,fun k hk=>?_,zfh.of hpe,zvz hp⟩
 obtain ⟨q,b⟩:=zhi he hk
 have e:=xGD (d:=default) hk
 have j:=vj (fun t:zu=>t.name.length+t.coef.length) l _ (uO hk)
 have m:l[k].name.length+l[k].coef.length<=zK l:=j
 exact ⟨q,b,zep b (by rw [e];omega) (by omega)⟩
theorem zim {rows:List zU} (h:yf rows=0) {k:Nat} (hk:k<rows.length):zX (rows.getD k default).terms=0/\∃ q,zl (rows.getD k default).bound=some q:=by
 unfold yf at h
 split at h
 . omega
 split at h
 . rename_i l;exact absurd h l
 rename_i l
 have m:yM rows.length (fun i=>yF (rows.getD i default))=0:=by
  by_cases e:yM rows.length (fun i=>yF (rows.getD i default))=0
  . exact e
  exact absurd e l
 have b:=yX.1 m k hk;unfold yF at b
 split at b
 . rename_i j;exact absurd b j
 rename_i j
 refine ⟨by
  by_cases e:zX (rows.getD k default).terms=0
  . exact e
  exact absurd e j,?_⟩
 unfold yD at b
 cases hr:zl (rows.getD k default).bound with
 | none=>rw [hr] at b;simp at b
 | some q=>exact ⟨q,rfl⟩
theorem zmw {rows:List zU} {p:List zu} (hs:xI rows) (he:yf rows=0) (hp:zK p<=1000) (hpe:yI p=0) (k:Nat) (hk:k<rows.length):zkp p (rows.getD k default):=by
 obtain ⟨j,q,b⟩:=zim he hk
 have e:=xGD (d:=default) hk
 have l:=vj (fun r:zU=>r.bound.length+zK r.terms) rows _ (uO hk)
 have B:rows[k].bound.length+zK rows[k].terms<=Z5 rows:=l
 have m:=vj (fun r:zU=>r.terms.length) rows _ (uO hk)
 have z:rows[k].terms.length<=xb rows:=m
 obtain ⟨_,_,u,y,_⟩:=hs
 rw [e] at j b |-
 exact ⟨zhb (by omega) (by omega) j hp hpe,q,b,zep b (by omega) (by omega)⟩
end Go.Proofs.YtnjljgidphemdaaGreatDoor
