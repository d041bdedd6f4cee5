/- Parts of the proof. -/
import Derived.Test.YtofmkndhocinmaaGreatDoorMs30
import Derived.Test.YtofmkndhocinmaaGreatDoorMs39
set_option linter.all false
namespace Go.Proofs.YtofmkndhocinmaaGreatDoor
open Proofs.Tryz Go.RowKit Go.Deep
attribute [local go_sem ↓] Go.wp_at_zero Go.wp_at_succ
theorem xJ.names {l:List zF} (h:xJ l):(yt (l.map (·.terms))).length<=400:=by
 rw [zhf];exact h.2.2.1
theorem zk4 (rows:List zF):(ye rows []).length<=(yt (rows.map (·.terms))).length:=Yl _
theorem zh2 {l:List UInt8} {q:Rat} {M:Nat} (h:zj l=some q) (hl:l.length<=M) (hM:1<=M):Dz M q:=by
 have e:=(yR.1 h).1
 have j:(dec q.num.natAbs).length<=l.length:=by
  rw [e];unfold zu
  rw [List.length_append,List.length_append];omega
 have b:(dec q.den).length<=M:=by
  by_cases hd:q.den=1
  . rw [hd,zlu];exact hM
  have:(dec q.den).length<=l.length:=by
   rw [e];unfold zu;rw [List.length_append,if_neg hd,List.length_cons];omega
  omega
 exact yC.sz ⟨by omega,b⟩
theorem zer {l:List zm} (h:ya l=0) {k:Nat} (hk:k<l.length):∃ q,zj (l.getD k default).coef=some q:=by
 have j:=ys.1 h k hk
 unfold xT at j
 split at j
 . omega
 split at j
 . omega
 rename_i m
 have b:xF (l.getD k default).coef=0:=by
  by_cases e:xF (l.getD k default).coef=0
  . exact e
  exact absurd e m
 unfold xF at b
 cases hr:zj (l.getD k default).coef with
 | none=>rw [hr] at b;simp at b
 | some q=>exact ⟨q,rfl⟩
theorem zd8 {p:List zm} (hb:zV p<=1000) (s:List UInt8):Dz 1000 (yd p s):=by
 have b:∀ t∈p,t.coef.length<=1000:=fun t ht=>by
  have:=xH (fun t:zm=>t.name.length+t.coef.length) p t ht
  unfold zV at hb
  have e:t.name.length+t.coef.length<=(p.map fun t=>t.name.length+t.coef.length).sum:=this
  omega
 clear hb
 induction p with
 | nil=>exact Dz.zero _
 | cons t p ih=>
   unfold yd
   split
   rotate_left
   . exact ih (fun t ht=>b t (List.mem_cons_of_mem _ ht))
   cases hr:zj t.coef with
   | none=>exact Dz.zero _
   | some q=>exact zh2 hr (b t (uP ..)) (by omega)
theorem zp4 {l p:List zm} (hl:l.length<=400) (hb:zV l<=8000) (he:ya l=0) (hp:zV p<=1000) (hpe:yb p=0):zb2 l p:=by
 refine ⟨hl,fun k hk=>?_,Zr.of hpe,1000,by omega,by omega,zd8 hp⟩
 obtain ⟨q,b⟩:=zer he hk
 have e:=xGD (d:=default) hk
 have j:=xH (fun t:zm=>t.name.length+t.coef.length) l _ (uO hk)
 have m:l[k].name.length+l[k].coef.length<=zV l:=j
 exact ⟨q,b,zh2 b (by rw [e];omega) (by omega)⟩
theorem zfk {rows:List zF} (h:zY rows=0) {k:Nat} (hk:k<rows.length):ya (rows.getD k default).terms=0/\∃ q,zj (rows.getD k default).bound=some q:=by
 unfold zY at h
 split at h
 . omega
 split at h
 . rename_i l;exact absurd h l
 rename_i l
 have m:xq rows.length (fun i=>yN (rows.getD i default))=0:=by
  by_cases e:xq rows.length (fun i=>yN (rows.getD i default))=0
  . exact e
  exact absurd e l
 have b:=ys.1 m k hk;unfold yN at b
 split at b
 . rename_i j;exact absurd b j
 rename_i j
 refine ⟨by
  by_cases e:ya (rows.getD k default).terms=0
  . exact e
  exact absurd e j,?_⟩
 unfold xt at b
 cases hr:zj (rows.getD k default).bound with
 | none=>rw [hr] at b;simp at b
 | some q=>exact ⟨q,rfl⟩
theorem zpy {rows:List zF} {p:List zm} (hs:xJ rows) (he:zY rows=0) (hp:zV p<=1000) (hpe:yb p=0) (k:Nat) (hk:k<rows.length):zfe p (rows.getD k default):=by
 obtain ⟨j,q,b⟩:=zfk he hk
 have e:=xGD (d:=default) hk
 have l:=xH (fun r:zF=>r.bound.length+zV r.terms) rows _ (uO hk)
 have B:rows[k].bound.length+zV rows[k].terms<=Zg rows:=l
 have m:=xH (fun r:zF=>r.terms.length) rows _ (uO hk)
 have z:rows[k].terms.length<=yT rows:=m
 obtain ⟨_,_,u,y,_⟩:=hs
 rw [e] at j b |-
 exact ⟨zp4 (by omega) (by omega) j hp hpe,q,b,zh2 b (by omega) (by omega)⟩
theorem Zd.few {w:World} {B:Nat} {v:Value} {l:List zm} (h:Zd w B v l) (h1:l.length<=70) (h2:zV l<=1000):zi w B v l:=
 h.small (by omega) (fun x hx=>by
  have:=xH (fun t:zm=>t.name.length+t.coef.length) l x hx
  have b:x.name.length+x.coef.length<=zV l:=this
  unfold zB
  omega)
end Go.Proofs.YtofmkndhocinmaaGreatDoor
