/- Parts of the proof. -/
import Derived.Test.YtobdoblpnanclaaGreatDoorMo24
import Derived.Test.YtobdoblpnanclaaGreatDoorMo36
set_option linter.all false
namespace Go.Proofs.YtobdoblpnanclaaGreatDoor
open Proofs.Tryz
theorem zn7 (q:Rat):(q.num:Rat) / (q.den:Rat)=q:=by
 have h:=Rat.num_divInt_den q
 rw [Rat.divInt_eq_div] at h
 exact h
theorem Xz (a s:Int) (hs:0<s):s*(Rat.divInt a s).num=a*(Rat.divInt a s).den:=by
 have e:=zn7 (Rat.divInt a s)
 have b:Rat.divInt a s=(a:Rat) / (s:Rat):=Rat.divInt_eq_div a s
 have m:((Rat.divInt a s).den:Rat)≠0:=by
  have:=(Rat.divInt a s).den_nz
  exact_mod_cast this
 have l:(s:Rat)≠0:=by
  have:s≠0:=by omega
  exact_mod_cast this
 have j:(s:Rat)*((Rat.divInt a s).num:Rat)=(a:Rat)*((Rat.divInt a s).den:Rat):=by
  generalize ((Rat.divInt a s).num:Rat)=N at*
  generalize ((Rat.divInt a s).den:Rat)=D at*
  rw [b] at e
  grind
 exact_mod_cast j
theorem Zp {a s:Int} (ha:0<a) (hs:0<s):0<(Rat.divInt a s).num:=by
 have e:=Xz a s hs
 have j:0<((Rat.divInt a s).den:Int):=by have:=(Rat.divInt a s).den_pos;omega
 have b:0<a*((Rat.divInt a s).den:Int):=Int.mul_pos ha j
 rw [<- e] at b
 exact Int.pos_of_mul_pos_right b hs
theorem VB {a s:Int} (ha:0<a) (hs:0<s):(Rat.divInt a s).num<=a:=by
 have j:=Xz a s hs
 have e:=(Rat.divInt a s).reduced
 have b:(Rat.divInt a s).num.natAbs ∣ a.natAbs*(Rat.divInt a s).den:=by
  have:(Rat.divInt a s).num ∣ a*((Rat.divInt a s).den:Int):=⟨s,by rw [<- j,Int.mul_comm]⟩
  have:=Int.natAbs_dvd_natAbs.2 this
  rwa [Int.natAbs_mul,Int.natAbs_natCast] at this
 have l:=Nat.Coprime.dvd_of_dvd_mul_right e b
 have m:=Nat.le_of_dvd (by omega) l
 have:=Zp ha hs
 omega
section
variable {d:Int} {l:List zr}
theorem vN (hd:0<d):∀ n,0<xi d l n
 | 0=>hd
 | n+1=>by
   have b:=vN hd n;have h:0<((qOf (l.getD n default).coef).den:Int):=by have:=(qOf (l.getD n default).coef).den_pos;omega
   exact Int.mul_pos b (Zp h b)
theorem zei (hd:0<d) (n k:Nat):xi d l n ∣ xi d l (n+k):=by
 induction k with
 | zero=>exact Int.dvd_refl _
 | succ k ih=>exact Int.dvd_trans ih ⟨_,rfl⟩
theorem zjv (hd:0<d) {t n:Nat} (ht:t<n):((qOf (l.getD t default).coef).den:Int) ∣ xi d l n:=by
 have e:((qOf (l.getD t default).coef).den:Int) ∣ xi d l (t+1):=⟨_,Xz _ _ (vN hd t)⟩
 have b:=zei (l:=l) hd (t+1) (n - (t+1))
 rw [show t+1+(n - (t+1))=n by omega] at b
 exact Int.dvd_trans e b
theorem zjc (hd:0<d) (n:Nat):d ∣ xi d l n:=by
 have:=zei (l:=l) hd 0 n
 rwa [Nat.zero_add] at this
theorem zgn {D:Int} (hd:0<d) (hD0:0<D):∀ n,(∀ t,t<n->((qOf (l.getD t default).coef).den:Int)<=D)->xi d l n<=d*D ^ n
 | 0,_=>by show d<=d*D ^ 0;rw [Int.pow_zero,Int.mul_one];exact Int.le_refl _
 | n+1,h=>by
   have e:=zgn hd hD0 n fun t ht=>h t (by omega)
   have b:=vN (l:=l) hd n;have j:0<((qOf (l.getD n default).coef).den:Int):=by have:=(qOf (l.getD n default).coef).den_pos;omega
   have r:=VB j b;have m:=Zp j b;have u:=h n (by omega)
   show xi d l n*(Rat.divInt ((qOf (l.getD n default).coef).den:Int) (xi d l n)).num<=d*D ^ (n+1)
   rw [Int.pow_succ, <- Int.mul_assoc];exact Int.mul_le_mul e (by omega) (by omega) (Int.le_trans (Int.le_of_lt b) e)
end
theorem za5 {q:Rat} {s:Int} (h:(q.den:Int) ∣ s):((vK q s:Int):Rat)=q*(s:Rat):=by
 obtain ⟨k,rfl⟩:=h
 have hd:(q.den:Int)≠0:=by have:=q.den_nz;omega
 unfold vK
 rw [Int.mul_tdiv_cancel_left _ hd]
 have e:=zn7 q
 have b:((q.den:Int):Rat)≠0:=by exact_mod_cast hd
 push_cast at b |-
 generalize (q.num:Rat)=N at*
 generalize (q.den:Rat)=D at*
 grind
theorem zed {q:Rat} {s:Int}:(vK q s).natAbs<=q.num.natAbs*s.natAbs:=by
 unfold vK
 rw [Int.natAbs_mul]
 apply Nat.mul_le_mul_left
 rw [Int.natAbs_tdiv]
 exact Nat.div_le_self _ _
section
variable {names:List (List UInt8)} {b sc:Int} {l:List zr}
theorem zaa {n:Nat} (h:n<l.length):l.getD n default=l[n]:=by simp [List.getD,List.getElem?_eq_getElem h]
theorem zic:∀ t,VL names b sc l t 0=b
 | 0=>rfl
 | t+1=>by unfold VL;rw [if_neg (by omega),if_neg (by omega),zic t]
theorem zhf (j:Nat):∀ t,VL names b sc l t (2*j+1)= -(VL names b sc l t (2*j+2))
 | 0=>by unfold VL;rw [if_neg (by omega),if_neg (by omega)];rfl
 | t+1=>by
   unfold VL
   by_cases e:j=xR names l t
   . rw [if_pos (by omega),if_neg (by omega),if_pos (by omega)]
   rw [if_neg (by omega),if_neg (by omega),if_neg (by omega),if_neg (by omega),zhf j t]
theorem ztp (hn:(l.map (·.name)).Nodup) (hN:∀ t∈l,X2 names t.name) {s t:Nat} (hs:s<l.length) (ht:t<l.length) (h:xR names l s=xR names l t):s=t:=by
 unfold xR at h
 rw [zaa hs,zaa ht] at h
 have b:=(hN _ (uO hs)).at_
 have r:=(hN _ (uO ht)).at_
 have e:l[s].name=l[t].name:=by
  rw [<- b, <- r]
  congr 1
 have:=(List.nodup_iff_pairwise_ne.1 hn)
 have m:=List.getElem_inj (xs:=l.map (·.name)) (i:=s) (j:=t) (h₀:=by simpa using hs) (h₁:=by simpa using ht) hn
 exact m.1 (by simpa using e)
theorem zsd (hN:∀ t∈l,X2 names t.name) {t:Nat} (ht:t<l.length):xR names l t<names.length:=by
 unfold xR
 rw [zaa ht]
 exact (hN _ (uO ht)).lt
theorem zex (hn:(l.map (·.name)).Nodup) (hN:∀ t∈l,X2 names t.name) {t:Nat} (ht:t<l.length):∀ s,s<=t->VL names b sc l s (2*xR names l t+2)=0
 | 0,_=>by unfold VL;rw [if_neg (by omega)]
 | s+1,hs=>by
   unfold VL;have j:xR names l s≠xR names l t:=fun e=>by have:=ztp hn hN (by omega) ht e;omega
   rw [if_neg (by omega),if_neg (by omega),zex hn hN ht s (by omega)]
theorem zki (hn:(l.map (·.name)).Nodup) (hN:∀ t∈l,X2 names t.name) (D:Nat->Rat):∀ t,t<=l.length->
 (zJ names.length fun j=>(VL names b sc l t (2*j+2):Rat)*D j)=zJ t fun s=>(yW sc l s:Rat)*D (xR names l s)
 | 0,_=>yC fun j u=>by
   unfold VL;rw [if_neg (by omega)];exact Rat.zero_mul _
 | t+1,ht=>by
   have y:=zki hn hN D t (by omega);have m:=zsd hN (by omega:t<l.length)
   show _=zJ t (fun s=>(yW sc l s:Rat)*D (xR names l s))+(yW sc l t:Rat)*D (xR names l t)
   rw [<- y,Y1 m,Y1 (f:=fun j=>(VL names b sc l t (2*j+2):Rat)*D j) m,zex hn hN (by omega) t (uA)]
   have r:(zJ names.length fun j=>if j=xR names l t then 0 else (VL names b sc l (t+1) (2*j+2):Rat)*D j)=zJ names.length fun j=>if j=xR names l t then 0 else (VL names b sc l t (2*j+2):Rat)*D j:=by
    apply zw
    intro j u
    by_cases e:j=xR names l t
    . rw [if_pos e,if_pos e]
    rw [if_neg e,if_neg e]
    have:VL names b sc l (t+1) (2*j+2)=VL names b sc l t (2*j+2):=by
     show (if 2*j+2=1+2*xR names l t then _ else if 2*j+2=2+2*xR names l t then _ else _)=_
     rw [if_neg (by omega),if_neg (by omega)]
    rw [this]
   have z:VL names b sc l (t+1) (2*xR names l t+2)=yW sc l t:=by
    show (if 2*xR names l t+2=1+2*xR names l t then _ else if 2*xR names l t+2=2+2*xR names l t then _ else _)=_
    rw [if_neg (by omega),if_pos (by omega)]
   rw [r,z];have:((0:Int):Rat)=0:=rfl;rw [this]
   grind
theorem zfm {d:Int} (hd:0<d) (Y:List UInt8->Rat) (D:Nat->Rat) (hD:∀ t,t<l.length->D (xR names l t)=Y (l.getD t default).name):∀ t,t<=l.length->
 (zJ t fun s=>(yW (xi d l l.length) l s:Rat)*D (xR names l s))=(xi d l l.length:Rat)*Ym (l.take t) Y
 | 0,_=>by rw [List.take_zero];show (0:Rat)=_*0;grind
 | t+1,ht=>by
   show zJ t (fun s=>(yW (xi d l l.length) l s:Rat)*D (xR names l s))+_=_
   rw [zfm hd Y D hD t (by omega)];simp only [];rw [List.take_add_one,List.getElem?_eq_getElem (by omega:t<l.length),Option.toList,zgt,hD t (by omega),zaa (by omega)]
   have e:(yW (xi d l l.length) l t:Rat)=yX l[t]*(xi d l l.length:Rat):=by
    unfold yW;rw [za5 (zjv hd (by omega)),zaa (by omega)]
    rfl
   rw [e]
   grind
end
section
variable {rows:List zS} {names:List (List UInt8)}
theorem zdc {i:Nat} (h:i<rows.length):rows.getD i default=rows[i]:=by simp [List.getD,List.getElem?_eq_getElem h]
theorem zdd {i:Nat} (h:i<rows.length):zjq rows names i=zls names (rows.getD i default):=by unfold zjq;rw [if_pos h]
theorem zby {r:zS} {k:Nat} (h:k<2*names.length+1):zls names r k=VL names (vK (qOf r.bound) (xC r)) (xC r) r.terms r.terms.length k:=by unfold zls;rw [if_neg (by omega)]
theorem Zg:(Z7 rows names).Start rows.length names.length where
 den:=rfl
 bas:=fun i hi=>rfl
 oth:=fun k hk=>if_pos hk
 room:=if_neg (by omega)
 twin:=fun i j hi hj=>by
  show zjq rows names i (2*j+1)= -(zjq rows names i (2*j+2))
  rw [zdd hi,zby (by omega),zby (by omega)]
  exact zhf j _
 one:=fun i hi=>by
  show zjq rows names i (2*names.length+1)=1
  rw [zdd hi]
  exact if_pos rfl
theorem zie (k:Nat):(Z7 rows names).cell rows.length k=0:=by
 show zjq rows names rows.length k=0
 unfold zjq
 rw [if_neg (by omega)]
theorem zqf {i:Nat}:0<Vu rows i:=vN (by have:=(qOf (rows.getD i default).bound).den_pos;omega) _
theorem zue {i:Nat} (hi:i<rows.length) (hn:((rows.getD i default).terms.map (·.name)).Nodup) (hN:∀ t∈(rows.getD i default).terms,X2 names t.name) (Y:List UInt8->Rat) (D:Nat->Rat) (hD:∀ t,t<(rows.getD i default).terms.length->D (xR names (rows.getD i default).terms t)=Y ((rows.getD i default).terms.getD t default).name):
 (zJ names.length fun j=>((Z7 rows names).cell i (2*j+2):Rat)*D j)=(Vu rows i:Rat)*Ym (rows.getD i default).terms Y:=by
 have e:(zJ names.length fun j=>((Z7 rows names).cell i (2*j+2):Rat)*D j)=zJ names.length fun j=>(VL names (vK (qOf (rows.getD i default).bound) (xC (rows.getD i default))) (xC (rows.getD i default)) (rows.getD i default).terms (rows.getD i default).terms.length (2*j+2):Rat)*D j:=by
  apply zw
  intro j b
  show (zjq rows names i (2*j+2):Rat)*_=_
  rw [zdd hi,zby (by omega)]
 rw [e,zki hn hN D _ (uA)]
 have:=zfm (names:=names) (l:=(rows.getD i default).terms) (d:=((qOf (rows.getD i default).bound).den:Int)) (by have:=(qOf (rows.getD i default).bound).den_pos;omega) Y D hD _ (uA)
 rw [List.take_length] at this
 exact this
theorem zm1 {i:Nat} (hi:i<rows.length):((Z7 rows names).cell i 0:Rat)=(Vu rows i:Rat)*YR (rows.getD i default):=by
 show (zjq rows names i 0:Rat)=_
 rw [zdd hi,zby (by omega),zic]
 have hd:0<((qOf (rows.getD i default).bound).den:Int):=by have:=(qOf (rows.getD i default).bound).den_pos;omega
 have b:=za5 (zjc (l:=(rows.getD i default).terms) hd (rows.getD i default).terms.length)
 rw [Rat.mul_comm]
 exact b
end
def gN (names:List (List UInt8)) (sc:Int) (l:List zr):Nat->Nat->Int
 | 0=>fun _=>0
 | t+1=>fun u=>gN names sc l t u+(if u=2*xR names l t then yW sc l t else 0)+(if u=2*xR names l t+1 then -(yW sc l t) else 0)
section
variable {m n:Nat} {U:zk}
theorem V6 (h:U.Perm m n) {u:Nat} (hu:u<m+n) (hn:ziy U.basic u m=none):∃ k,k<n/\ziy U.other u n=some k:=by
 rcases h.cov u hu with ⟨i,hi,e⟩ | ⟨k,b,e⟩
 . exact absurd e (Xs hn i hi)
 . cases ho:ziy U.other u n with
   | none=>exact absurd e (Xs ho k b)
   | some k' =>exact ⟨k',(ZM ho).1,rfl⟩
theorem zoz (h:U.Perm m n) {u:Nat} (hu:u<m+n) (z:Int) {k:Nat} (hk:k<n+1):
 Xy U m (n+1) (u:Int) z k=U.den*(if k=0 then 0 else if U.other (k - 1)=u then z else 0)+xk m fun j=>U.cell j k*(if U.basic j=u then z else 0):=by
 unfold Xy
 rw [vh,Nat.add_sub_cancel,vh]
 cases hi:ziy U.basic u m with
 | some i=>
   obtain ⟨l,e⟩:=ZM hi;simp only [];rw [YN l (fun j hj hne=>by rw [if_neg (fun e2=>hne (h.bb j i hj l (by rw [e,e2]))),Int.mul_zero]),if_pos e]
   by_cases b:k=0
   . rw [if_pos b];omega
   rw [if_neg b,if_neg (fun e2=>h.bo i (k - 1) l (by omega) (by rw [e,e2]))];omega
 | none=>
   obtain ⟨k',r,ho⟩:=V6 h hu hi;have e:=(ZM ho).2;simp only [];rw [Yz (fun j hj=>by rw [if_neg (Xs hi j hj),Int.mul_zero]),ho]
   show (if (k:Int)=(k' :Int)+1 then U.den*z else 0)=_
   by_cases y:k=k' +1
   . subst y
     rw [if_pos (by omega),if_neg (by omega),Nat.add_sub_cancel,if_pos e];omega
   rw [if_neg (by omega)]
   by_cases b:k=0
   . rw [if_pos b];omega
   rw [if_neg b,if_neg (fun e2=>by have:=h.oo (k - 1) k' (by omega) r (by rw [e,e2]);omega)];omega
end
section
variable {names:List (List UInt8)} {sc:Int} {l:List zr} {m:Nat} {U:zk}
theorem Vg (t u:Nat):gN names sc l (t+1) u=gN names sc l t u+(if u=2*xR names l t then yW sc l t else 0)+(if u=2*xR names l t+1 then -(yW sc l t) else 0):=rfl
theorem zgu (h:U.Perm m (2*names.length+1)) (hp:∀ t,t<l.length->xR names l t<names.length):∀ t,t<=l.length->∀ k,k<2*names.length+1+1->
 YJ U names m (2*names.length+1+1) sc l t k=U.den*(if k=0 then 0 else gN names sc l t (U.other (k - 1)))+xk m fun j=>U.cell j k*gN names sc l t (U.basic j)
 | 0,_,k,hk=>by
   show (0:Int)=U.den*(if k=0 then 0 else 0)+xk m fun j=>U.cell j k*0
   rw [ite_self,Yz (fun j y=>Int.mul_zero _),Int.mul_zero];rfl
 | t+1,ht,k,hk=>by
   have B:=hp t (by omega)
   show YJ U names m (2*names.length+1+1) sc l t k+Xy U m (2*names.length+1+1) ((2*xR names l t:Nat):Int) (yW sc l t) k+Xy U m (2*names.length+1+1) ((2*xR names l t+1:Nat):Int) (-(yW sc l t)) k=_
   rw [zgu h hp t (by omega) k hk,zoz h (by omega) _ hk,zoz h (by omega) _ hk]
   have e:(xk m fun j=>U.cell j k*gN names sc l (t+1) (U.basic j))=(xk m fun j=>U.cell j k*gN names sc l t (U.basic j))+(xk m fun j=>U.cell j k*(if U.basic j=2*xR names l t then yW sc l t else 0))+xk m fun j=>U.cell j k*(if U.basic j=2*xR names l t+1 then -(yW sc l t) else 0):=by
    have z:=Zt (n:=m) (f:=fun j=>U.cell j k*gN names sc l t (U.basic j)) (g:=fun j=>U.cell j k*(if U.basic j=2*xR names l t then yW sc l t else 0)) 1 1;have r:=Zt (n:=m) (f:=fun j=>1*(U.cell j k*gN names sc l t (U.basic j))+1*(U.cell j k*(if U.basic j=2*xR names l t then yW sc l t else 0))) (g:=fun j=>U.cell j k*(if U.basic j=2*xR names l t+1 then -(yW sc l t) else 0)) 1 1;rw [z] at r
    have u:(xk m fun j=>U.cell j k*gN names sc l (t+1) (U.basic j))=xk m fun j=>1*(1*(U.cell j k*gN names sc l t (U.basic j))+1*(U.cell j k*(if U.basic j=2*xR names l t then yW sc l t else 0)))+1*(U.cell j k*(if U.basic j=2*xR names l t+1 then -(yW sc l t) else 0)):=by
     apply yv
     intro j y;rw [Vg];simp only [Int.one_mul,Int.mul_add]
    rw [u,r]
    omega
   rw [e]
   by_cases b:k=0
   . simp only [if_pos b];omega
   simp only [if_neg b]
   rw [Vg,Int.mul_add,Int.mul_add]
   omega
theorem zu8 (hp:∀ t,t<l.length->xR names l t<names.length):∀ t,t<=l.length->∀ u,2*names.length<=u->gN names sc l t u=0
 | 0,_,_,_=>rfl
 | t+1,ht,u,hu=>by
   have:=hp t (by omega);rw [Vg,zu8 hp t (by omega) u hu,if_neg (by omega),if_neg (by omega)];rfl
theorem zpm (j:Nat):∀ t,gN names sc l t (2*j+1)= -(gN names sc l t (2*j))
 | 0=>rfl
 | t+1=>by
   rw [Vg,Vg,zpm j t]
   by_cases e:j=xR names l t
   rotate_left
   . rw [if_neg (by omega),if_neg (by omega),if_neg (by omega),if_neg (by omega)];omega
   subst e
   rw [if_neg (by omega),if_pos rfl,if_pos rfl,if_neg (by omega)];omega
theorem ztm {C:Nat} (hC:∀ t,t<l.length->(yW sc l t).natAbs<=C) (u:Nat):∀ t,t<=l.length->(gN names sc l t u).natAbs<=t*C
 | 0,_=>uB
 | t+1,ht=>by
   have b:=ztm hC u t (by omega);have:=hC t (by omega);rw [Vg,Nat.add_mul]
   split<;>split<;>omega
theorem zst (hp:∀ t,t<l.length->xR names l t<names.length) (y:Nat->Rat):∀ t,t<=l.length->
 (zJ (2*names.length) fun u=>(gN names sc l t u:Rat)*y u)=zJ t fun s=>(yW sc l s:Rat)*(y (2*xR names l s) - y (2*xR names l s+1))
 | 0,_=>yC fun u hu=>by show ((0:Int):Rat)*y u=0;exact Rat.zero_mul _
 | t+1,ht=>by
   have m:=hp t (by omega)
   show _=zJ t (fun s=>(yW sc l s:Rat)*(y (2*xR names l s) - y (2*xR names l s+1)))+(yW sc l t:Rat)*(y (2*xR names l t) - y (2*xR names l t+1))
   rw [<- zst hp y t (by omega)]
   have e:(zJ (2*names.length) fun u=>(gN names sc l (t+1) u:Rat)*y u)=zJ (2*names.length) fun u=>((gN names sc l t u:Rat)*y u+(if u=2*xR names l t then (yW sc l t:Rat)*y u else 0))+(if u=2*xR names l t+1 then -((yW sc l t:Rat)*y u) else 0):=by
    apply zw
    intro u hu;rw [Vg]
    push_cast
    by_cases j:u=2*xR names l t
    . subst j
      rw [if_pos rfl,if_neg (by omega),if_pos rfl,if_neg (by omega)];have:((0:Int):Rat)=0:=rfl;rw [this];grind
    by_cases b:u=2*xR names l t+1
    rotate_left
    . rw [if_neg j,if_neg b,if_neg j,if_neg b]
      have:((0:Int):Rat)=0:=rfl;rw [this];grind
    subst b
    rw [if_neg (by omega),if_pos rfl,if_neg (by omega),if_pos rfl];have:((0:Int):Rat)=0:=rfl;rw [this]
    push_cast
    grind
   rw [e,Yc,Yc,vu (a:=2*xR names l t) (f:=fun u=>if u=2*xR names l t then (yW sc l t:Rat)*y u else 0) (by omega) (fun k hk hne=>if_neg hne),vu (a:=2*xR names l t+1) (f:=fun u=>if u=2*xR names l t+1 then -((yW sc l t:Rat)*y u) else 0) (by omega) (fun k hk hne=>if_neg hne),if_pos rfl,if_pos rfl]
   grind
end
theorem zo6 {z:Int} {e M:Nat} (h:z.natAbs<=10 ^ e) (hM:e<M):len 4294967296 z.natAbs<=M:=by
 have b:Dz e ((z:Int):Rat):=by
  refine ⟨?_,?_⟩
  . rw [Rat.num_intCast];exact h
  rw [Rat.den_intCast];exact Nat.pow_pos (by omega)
 have j:=(Dz.short b hM).len.1
 rwa [Rat.num_intCast] at j
open Go.RowKit Go.Deep
attribute [local go_sem ↓] Go.wp_at_zero Go.wp_at_succ
def zcv (kd:Nat) (val:Rat):List UInt8:=if kd=1 then ya val else []
def zvw (z:Int) (kd:Nat) (val:Rat) (w:World) (e:Ending) (w' :World):Prop:=
 ∃ (k:Nat) (t:List UInt8) (A1 A2 A3:Option Addr) (n1 c1 n2 c2 n3 c3:Nat),e= .returned (.tuple #[.agg #[.int .u8 k,str t,.slice A1 n1 c1,.slice A2 n2 c2,.slice A3 n3 c3],.int .i64 z])/\(z=0->k=kd/\t=zcv kd val)/\Below w.heap.size w w'
theorem XQ.kinds {rows:List zS} {names:List (List UInt8)} {goal:List zr} {kd:Nat} {val:Rat} {pt ry ws:Option (Nat->Rat)} (h:XQ rows names goal kd val pt ry ws):
 (kd=1/\∃ f g,pt=some f/\ry=none/\ws=some g)\/(kd=2/\∃ g,pt=none/\ry=none/\ws=some g)\/(kd=3/\∃ f g,pt=some f/\ry=some g/\ws=none):=by
 cases h with
 | empty U hf fU ho=>exact .inr (.inl ⟨rfl,_,rfl,rfl,rfl⟩)
 | free U W d hf fU ha fV hw fW hd hdL v0 vd=>exact .inr (.inr ⟨rfl,_,_,rfl,rfl,rfl⟩)
 | best U W hf fU ha fV hw fW v0=>exact .inl ⟨rfl,_,_,rfl,rfl,rfl⟩
theorem zh0.form {w:World} {v:Value} {n:Nat} {o:Option (Nat->Rat)} (h:zh0 w v n o):∃ (A:Option Addr) (k c:Nat),v= .slice A k c:=by
 cases o with
 | none=>exact ⟨_,_,_,h⟩
 | some f=>obtain ⟨g,e,_⟩:=h;exact ⟨_,_,_,e⟩
def zb9 (n:Nat):Option (Nat->Rat)->Prop
 | none=>True
 | some f=>∀ k,k<n->xJ 67108864 (f k)
structure zv0 (rows:List zS) (goal:List zr) (kd:Nat) (val:Rat):Prop where
 go:zty rows (zy rows [goal])
 ends:∃ pt ry ws,XQ rows (zy rows [goal]) goal kd val pt ry ws/\zb9 (zy rows [goal]).length pt/\zb9 (zy rows [goal]).length ry/\zb9 rows.length ws
 val:xJ 67108864 val
set_option maxRecDepth 100000 in
set_option maxHeartbeats 8000000 in
theorem Xh (n1 c1 n2 c2:Nat) (rA gA:Option Addr) (rows:List zS) (goal:List zr) (kd:Nat) (val:Rat) (w:World) (hr:Zi w (.slice rA n1 c1) rows) (hg:yu w (.slice gA n2 c2) goal)
 (hcnt:rows.length<=800->(zy rows []).length<=100000) (hcnt2:yB rows=0->(zy rows [goal]).length<=100000) (hok:xy rows goal=0->zv0 rows goal kd val):
 Calls prog 8 #[.slice rA n1 c1,.slice gA n2 c2] w (zvw (xy rows goal) kd val w):=by
 obtain rfl:=hr.len
 have u:=zf w (.cells #[.int .u8 0,.string ⟨#[]⟩,.slice none 0 0,.slice none 0 0,.slice none 0 0] 29)
 have j:=ze (Blk.new w 29 #[.int .u8 0,.string ⟨#[]⟩,.slice none 0 0,.slice none 0 0,.slice none 0 0])
 have HR:=ze ((zR.below hr u).more u.size)
 have HG:=ze ((zh.below hg u).more u.size)
 have m:=ze u
 have ao:=ze hok
 have aw:=X4 rA gA rows.length c1 n2 c2 rows goal _ HR.o HG.o hcnt hcnt2
 obtain ⟨z,hz⟩:=uR (xy rows goal)
 unfold zjb at aw
 rw [hz] at aw |-
 have HZ:=ze hz
 have aD:=ze aw
 clear hr hg hok u aw hz hcnt hcnt2
 go_in
 go_upto_region 1 with fail
 generalize w.alloc (.cells #[.int .u8 0,.string ⟨#[]⟩,.slice none 0 0,.slice none 0 0,.slice none 0 0] 29)=W0 at j HR HG m aD |-
 obtain ⟨C,aG⟩:=uQ w.heap.size
 rw [<- aG] at j |-
 have G:=ze aG
 clear aG
 have aR:=ze j.o.lt
 go_wp2_with fail
 refine aD.o.mono ?_
 rintro e w1 ⟨o,nA,nn,nc,rfl,aF,aq⟩
 have Q:=j.o.below aq j.o.lt
 clear aD
 by_cases aB:z=0
 rotate_left
 . replace j:=ze Q
   replace m:=eb_ m aq;have R:(z != 0)=true:=by simpa using aB
   clear aq Q aF HR HG;obtain ⟨z0,Z,z2,z3,z4,_⟩:=bq5 j;obtain ⟨z5,z6,z7,z8,z9⟩:=fq5 j;have aa:=((((j.o.set_ 0 (.int .u8 0)).set_ 1 (.string ⟨#[]⟩)).set_ 2 (.slice none 0 0)).set_ 3 (.slice none 0 0)).set_ 4 (.slice none 0 0);obtain ⟨e0,L,N,O,X,_⟩:=bp5 aa;have ap:=ze (((((m.o.setCell (p:=⟨C,0,none⟩) (Nat.le_of_eq G.o.symm) (.int .u8 0)).setCell (p:=⟨C,1,none⟩) (Nat.le_of_eq G.o.symm) (.string ⟨#[]⟩)).setCell (p:=⟨C,2,none⟩) (Nat.le_of_eq G.o.symm) (.slice none 0 0)).setCell (p:=⟨C,3,none⟩) (Nat.le_of_eq G.o.symm) (.slice none 0 0)).setCell (p:=⟨C,4,none⟩) (Nat.le_of_eq G.o.symm) (.slice none 0 0));clear aa m j;go_wp2_with fail
   refine bodyPost_ret (v:=.tuple #[.agg #[.int .u8 0,.string ⟨#[]⟩,.slice none 0 0,.slice none 0 0,.slice none 0 0],.int .i64 z]) (by simp [results,results8,go_sem,e0,L,N,O,X]) rfl ?_;exact ⟨0,[],_,_,_,_,_,_,_,_,_,rfl,fun h=>absurd h aB,ap.o⟩
 subst aB
 obtain ⟨b,rfl,aI,az,aN⟩:=aF rfl;clear aF;have ao:=ze (ao.o HZ.o);replace j:=ze Q;replace HR:=xre HR aq;replace HG:=xte HG aq;have aU:Hid (w.heap.size<=b):=uC m.o.size aN;have aQ:Hid (C≠b):=by have:=aR.o;show _≠_;omega
 replace m:=eb_ m aq;obtain ⟨pt,ry,ws,aE,aT,aM,aS⟩:=ao.o.ends;obtain rfl:=az.len;have a1:=ao.o.go.nn;have a0:=ao.o.go.mm;have aJ:=ze (zaj b rows.length c1 (zy rows [goal]).length nc n2 c2 rA nA gA rows (zy rows [goal]) goal kd val pt ry ws w1 aI HR.o az HG.o ao.o.go aE);have ay:=ze aE.kinds;obtain ⟨aL,aX,aV⟩:=hz3 aT aM aS;clear aq aI az aN aR aE aT aM aS Q;go_wp2_with fail;refine aJ.o.mono ?_;rintro e w2 ⟨x,A,n4,c4,s1,y,B,n5,c5,t,pv,rv,wv,rfl,aO,aH,aA,aC,aP,aY,ax⟩;obtain ⟨Ap,np,cp,rfl⟩:=aH.form;obtain ⟨Ar,nr,cr,rfl⟩:=aA.form;obtain ⟨Aw,nw,cw,rfl⟩:=aC.form;have Q:=ax.blk j.o aQ.o;have aK:Below w.heap.size w w2:=m.o.trans (ax.below m.o.size (fun z e=>by subst e;exact aU.o));have u:=zf w2 (.cells #[.int .u8 kd,.int .i64 x,.slice A n4 c4,.bool s1,.int .i64 y,.slice B n5 c5,.bool t,.slice Ap np cp,.slice Ar nr cr,.slice Aw nw cw] 63)
 have E:=ze (Blk.new w2 63 #[.int .u8 kd,.int .i64 x,.slice A n4 c4,.bool s1,.int .i64 y,.slice B n5 c5,.bool t,.slice Ap np cp,.slice Ar nr cr,.slice Aw nw cw]);replace j:=ze (Q.below u Q.lt);replace m:=ze (ext aK u);have ar:=ze (fun h=>(aO h).below u);have af:=ze (aH.below u);have ae:=ze (aA.below u);have ac:=ze (aC.below u);have ag:=ze ((aP.below u).more (uC ax.size u.size));have an:Hid (C<w2.heap.size):=Q.lt;clear aO aH aA aC aP aY ax Q aK u aJ HR HG aU aQ
 go_upto_region 5 with fail
 generalize w2.alloc (.cells #[.int .u8 kd,.int .i64 x,.slice A n4 c4,.bool s1,.int .i64 y,.slice B n5 c5,.bool t,.slice Ap np cp,.slice Ar nr cr,.slice Aw nw cw] 63)=W3 at E j m ar af ae ac ag |-;generalize aZ:w2.heap.size=g9 at E an |-;clear aZ;have r0:=(bq1 E).1;have u:=zf W3 (.cells #[.int .u8 kd,.string ⟨#[]⟩,.slice none 0 0,.slice none 0 0,.slice none 0 0] 29);have l:=ze (Blk.new W3 29 #[.int .u8 kd,.string ⟨#[]⟩,.slice none 0 0,.slice none 0 0,.slice none 0 0]);replace j:=kb_ j u;have am:Hid (g9<W3.heap.size):=E.o.lt;replace E:=kb_ E u;replace m:=eb_ m u;have au:=ze (fun h=>(ar.o h).below u);replace af:=ze (af.o.below u);replace ae:=ze (ae.o.below u);replace ac:=ze (ac.o.below u);replace ag:=ze ((ag.o.below u).more u.size);clear u ar
 go_upto_region 6 with fail
 generalize W3.alloc (.cells #[.int .u8 kd,.string ⟨#[]⟩,.slice none 0 0,.slice none 0 0,.slice none 0 0] 29)=W4 at E j l m au af ae ac ag |-;obtain ⟨D,ab⟩:=uQ W3.heap.size;rw [<- ab] at l am |-;clear ab r0
 rcases ay.o with ⟨rfl,f,g,rfl,rfl,rfl⟩ | ⟨rfl,g,rfl,rfl,rfl⟩ | ⟨rfl,f,g,rfl,rfl,rfl⟩
 . clear ay
   obtain ⟨gp,L,hp⟩:=af.o;obtain ⟨gw,N,hw⟩:=ac.o;have O:Value.slice Ar nr cr= .slice none 0 0:=ae.o;injection L with L X e5
   injection N with N e6 e7
   injection O with O e8 e9
   subst L X e5 N e6 e7 O e8 e9;have ar:=ze (au.o rfl);have av:=ze hp;have al:=ze hw;clear au af ac ae hp hw;have r0:=(bq1 E).1
   go_upto_region 8 with fail
   clear r0;have r1:=E.o.cell 1;have r2:=E.o.cell 2;have r3:=E.o.cell 3;have r4:=E.o.cell 4;have r5:=E.o.cell 5;have r6:=E.o.cell 6;have r7:=E.o.cell 7;have r9:=E.o.cell 9;have Y:=E.o.lt;simp at r1 r2 r3 r4 r5 r6 r7 r9;have ad:∀ w',Hid (Below W4.heap.size W4 w')->w'.cell? ⟨g9,1,none⟩=some (.int .i64 x)/\w'.cell? ⟨g9,2,none⟩=some (.slice A n4 c4)/\w'.cell? ⟨g9,3,none⟩=some (.bool s1)/\w'.cell? ⟨g9,4,none⟩=some (.int .i64 y)/\w'.cell? ⟨g9,5,none⟩=some (.slice B n5 c5)/\w'.cell? ⟨g9,6,none⟩=some (.bool t)/\w'.cell? ⟨g9,7,none⟩=some (.slice (some ⟨gp,0,none⟩) (zy rows [goal]).length (zy rows [goal]).length)/\w'.cell? ⟨g9,9,none⟩=some (.slice (some ⟨gw,0,none⟩) rows.length rows.length):=fun w' hB=>⟨zl hB Y r1,zl hB Y r2,zl hB Y r3,zl hB Y r4,zl hB Y r5,zl hB Y r6,zl hB Y r7,zl hB Y r9⟩
   refine y8 ad 2 9 11 (zv W4) fun r=>?_;simp only [xDR]
   iterate 2 refine zH ?_
   refine zB ?_;refine tK 3 ?_;refine tK 4 ?_;refine tK 5 ?_;refine tK 7 ?_;refine tK 8 ?_;refine rK 2 fun K hK=>?_
   go_simp
   go_at_call 15;refine (zbz _ val _ (ar.o.below r.1.out) ao.o.val).mono ?_;rintro e w5 ⟨rfl,M⟩;obtain ⟨T,hT⟩:∃ T:ByteArray,T=⟨(ya val).toArray⟩:=⟨_,rfl⟩;rw [<- hT];have aW:=ze hT;clear hT;refine hK.out _ _ (zm (zp M r.1) (ad _)) ?_;clear hK K r;intro r
   try simp only [Act.put,xST]
   clear M;refine tK 10 ?_;refine rK 6 fun K hK=>?_
   go_simp
   go_at_call 16;refine (Xv gp (zy rows [goal]).length f nA nc (zy rows [goal]) _ ((ag.o.below r.1.out).more r.1.out.size) (av.o.below r.1.out) aL.o (by omega)).mono ?_;rintro e w6 ⟨S,U,R,rfl,M⟩;refine hK.out _ _ (zm (zp M r.1) (ad _)) ?_;clear hK K r;intro r
   try simp only [Act.put,xST]
   clear M;refine rK 9 fun K hK=>?_
   go_simp
   go_at_call 17;refine (zdh gw rows.length _ _ (al.o.below r.1.out) aV.o (by omega)).mono ?_;rintro e w7 ⟨I,J,F,rfl,M⟩;refine hK.out _ _ (zm (zp M r.1) (ad _)) ?_;clear hK K r;intro r
   try simp only [Act.put,xST]
   clear M;have ah:=(r.1).out
   try clear z0 Z z2 z3 z4 zL y0 y1 y2 y3 V yL
   replace j:=kb_ j ah;replace l:=kb_ l ah;replace m:=eb_ m ah;clear ah r ad;refine hdn ?_;simp only [xDR];obtain ⟨z0,Z,z2,z3,z4,zL⟩:=zso j.o;obtain ⟨y0,y1,y2,y3,V,yL⟩:=zso l.o;clear r1 r2 r3 r4 r5 r6 r7 r9 Y ar av al ag E zL yL;have f1:=l.o.frozen 1;have f2:=l.o.frozen 2;have f4:=l.o.frozen 4;obtain ⟨z5,z6,z7,z8,z9⟩:=fq5 j;have ai:¬ C=D:=by have:=an.o;have:=am.o;omega
   go_upto_region 13 with fail
   clear f1 f2 f4 z0 Z z2 z3 z4 z5 z6 z7 z8 z9 y0 y1 y2 y3 V;have ab:w.heap.size<=D:=by have:=G.o;have:=an.o;have:=am.o;omega
   have ak:=(((m.o.setCell (p:=⟨D,1,none⟩) ab (.string T)).setCell (p:=⟨D,2,none⟩) ab (.slice S U R)).setCell (p:=⟨D,4,none⟩) ab (.slice I J F));have aj:=(((l.o.set_ 1 (.string T)).set_ 2 (.slice S U R)).set_ 4 (.slice I J F));have Q:=(((j.o.far (p:=⟨D,1,none⟩) ai (.string T)).far (p:=⟨D,2,none⟩) ai (.slice S U R)).far (p:=⟨D,4,none⟩) ai (.slice I J F));replace m:=ze ak;replace l:=ze aj;replace j:=ze Q;clear ak aj Q;generalize (((w7.setCell ⟨D,1,none⟩ (.string T)).setCell ⟨D,2,none⟩ (.slice S U R)).setCell ⟨D,4,none⟩ (.slice I J F))=W8 at m l j |-;have y0:=l.o.cell 0;have y1:=l.o.cell 1;have y2:=l.o.cell 2;have y3:=l.o.cell 3;have V:=l.o.cell 4;have z0:=j.o.cell 0;have Z:=j.o.cell 1;have z2:=j.o.cell 2;have z3:=j.o.cell 3;have z4:=j.o.cell 4;obtain ⟨z5,z6,z7,z8,z9⟩:=fq5 j;simp at y0 y1 y2 y3 V z0 Z z2 z3 z4
   have aa:=(((((j.o.set_ 0 (.int .u8 1)).set_ 1 (.string T)).set_ 2 (.slice S U R)).set_ 3 (.slice none 0 0)).set_ 4 (.slice I J F));obtain ⟨e0,L,N,O,X,_⟩:=bp5 aa;have ap:=ze (((((m.o.setCell (p:=⟨C,0,none⟩) (Nat.le_of_eq G.o.symm) (.int .u8 1)).setCell (p:=⟨C,1,none⟩) (Nat.le_of_eq G.o.symm) (.string T)).setCell (p:=⟨C,2,none⟩) (Nat.le_of_eq G.o.symm) (.slice S U R)).setCell (p:=⟨C,3,none⟩) (Nat.le_of_eq G.o.symm) (.slice none 0 0)).setCell (p:=⟨C,4,none⟩) (Nat.le_of_eq G.o.symm) (.slice I J F));clear aa m l j;go_wp2_with fail;refine bodyPost_ret (v:=.tuple #[.agg #[.int .u8 1,.string T,.slice S U R,.slice none 0 0,.slice I J F],.int .i64 0]) (by simp [results,results8,go_sem,e0,L,N,O,X]) rfl ?_;exact ⟨1,ya val,_,_,_,_,_,_,_,_,_,by rw [aW.o];rfl,fun _=>⟨rfl,rfl⟩,ap.o⟩
 . clear ay au
   obtain ⟨gw,N,hw⟩:=ac.o;have L:Value.slice Ap np cp= .slice none 0 0:=af.o;have O:Value.slice Ar nr cr= .slice none 0 0:=ae.o;injection L with L X e5
   injection N with N e6 e7
   injection O with O e8 e9
   subst L X e5 N e6 e7 O e8 e9;have al:=ze hw;clear af ac ae hw;have r0:=E.o.cell 0;have r9:=E.o.cell 9;simp at r0 r9
   go_upto_region 10 with fail
   go_wp2_with fail;refine (zdh gw rows.length _ _ al.o aV.o (by omega)).mono ?_;rintro e w5 ⟨I,J,F,rfl,M⟩;replace j:=kb_ j M;replace l:=kb_ l M;replace m:=eb_ m M;clear M r0 r9 al ag E;have V:=l.o.cell 4;simp at V;have f4:=l.o.frozen 4;have ai:¬ C=D:=by have:=an.o;have:=am.o;omega
   go_upto_region 13 with fail
   clear f4 V;have ab:w.heap.size<=D:=by have:=G.o;have:=an.o;have:=am.o;omega
   have ak:=(m.o.setCell (p:=⟨D,4,none⟩) ab (.slice I J F));have aj:=(l.o.set_ 4 (.slice I J F));have Q:=(j.o.far (p:=⟨D,4,none⟩) ai (.slice I J F));replace m:=ze ak;replace l:=ze aj;replace j:=ze Q;clear ak aj Q;generalize (w5.setCell ⟨D,4,none⟩ (.slice I J F))=W8 at m l j |-;have y0:=l.o.cell 0;have y1:=l.o.cell 1;have y2:=l.o.cell 2;have y3:=l.o.cell 3;have V:=l.o.cell 4;have z0:=j.o.cell 0;have Z:=j.o.cell 1;have z2:=j.o.cell 2;have z3:=j.o.cell 3;have z4:=j.o.cell 4;obtain ⟨z5,z6,z7,z8,z9⟩:=fq5 j;simp at y0 y1 y2 y3 V z0 Z z2 z3 z4;have aa:=(((((j.o.set_ 0 (.int .u8 2)).set_ 1 (.string ⟨#[]⟩)).set_ 2 (.slice none 0 0)).set_ 3 (.slice none 0 0)).set_ 4 (.slice I J F));obtain ⟨e0,L,N,O,X,_⟩:=bp5 aa
   have ap:=ze (((((m.o.setCell (p:=⟨C,0,none⟩) (Nat.le_of_eq G.o.symm) (.int .u8 2)).setCell (p:=⟨C,1,none⟩) (Nat.le_of_eq G.o.symm) (.string ⟨#[]⟩)).setCell (p:=⟨C,2,none⟩) (Nat.le_of_eq G.o.symm) (.slice none 0 0)).setCell (p:=⟨C,3,none⟩) (Nat.le_of_eq G.o.symm) (.slice none 0 0)).setCell (p:=⟨C,4,none⟩) (Nat.le_of_eq G.o.symm) (.slice I J F));clear aa m l j;go_wp2_with fail;refine bodyPost_ret (v:=.tuple #[.agg #[.int .u8 2,.string ⟨#[]⟩,.slice none 0 0,.slice none 0 0,.slice I J F],.int .i64 0]) (by simp [results,results8,go_sem,e0,L,N,O,X]) rfl ?_;exact ⟨2,[],_,_,_,_,_,_,_,_,_,rfl,fun _=>⟨rfl,rfl⟩,ap.o⟩
 . clear ay au
   obtain ⟨gp,L,hp⟩:=af.o;obtain ⟨gw,O,hw⟩:=ae.o;have N:Value.slice Aw nw cw= .slice none 0 0:=ac.o;injection L with L X e5
   injection N with N e6 e7
   injection O with O e8 e9
   subst L X e5 N e6 e7 O e8 e9;have av:=ze hp;have al:=ze hw;clear af ac ae hp hw;have r0:=(bq1 E).1
   go_upto_region 12 with fail
   clear r0;obtain ⟨_,_,_,_,_,_,_,r7,r8,Y⟩:=bq9 E;have ad:∀ w',Hid (Below W4.heap.size W4 w')->w'.cell? ⟨g9,7,none⟩=some (.slice (some ⟨gp,0,none⟩) (zy rows [goal]).length (zy rows [goal]).length)/\w'.cell? ⟨g9,8,none⟩=some (.slice (some ⟨gw,0,none⟩) (zy rows [goal]).length (zy rows [goal]).length):=fun w' hB=>⟨zl hB Y r7,zl hB Y r8⟩
   refine y8 ad 3 6 9 (zv W4) fun r=>?_;simp only [xDR]
   iterate 3 refine zH ?_
   refine zB ?_;refine tK 4 ?_;refine tK 5 ?_;refine tK 6 ?_;refine rK 3 fun K hK=>?_
   go_simp
   go_at_call 16;refine (Xv gp (zy rows [goal]).length f nA nc (zy rows [goal]) _ ((ag.o.below r.1.out).more r.1.out.size) (av.o.below r.1.out) aL.o (by omega)).mono ?_;rintro e w6 ⟨S,U,R,rfl,M⟩;refine hK.out _ _ (zm (zp M r.1) (ad _)) ?_;clear hK K r;intro r
   try simp only [Act.put,xST]
   clear M;refine tK 8 ?_;refine rK 7 fun K hK=>?_
   go_simp
   go_at_call 16;refine (Xv gw (zy rows [goal]).length g nA nc (zy rows [goal]) _ ((ag.o.below r.1.out).more r.1.out.size) (al.o.below r.1.out) aX.o (by omega)).mono ?_;rintro e w7 ⟨I,J,F,rfl,M⟩;refine hK.out _ _ (zm (zp M r.1) (ad _)) ?_;clear hK K r;intro r
   try simp only [Act.put,xST]
   clear M;have ah:=(r.1).out
   try clear z0 Z z2 z3 z4 zL y0 y1 y2 y3 V yL
   replace j:=kb_ j ah;replace l:=kb_ l ah;replace m:=eb_ m ah;clear ah r ad;refine hdn ?_;simp only [xDR];obtain ⟨z0,Z,z2,z3,z4,zL⟩:=zso j.o;obtain ⟨y0,y1,y2,y3,V,yL⟩:=zso l.o;clear r7 r8 Y av al ag E zL yL;have f2:=l.o.frozen 2;have f3:=l.o.frozen 3;have ai:¬ C=D:=by have:=an.o;have:=am.o;omega
   go_upto_region 13 with fail
   clear f2 f3 z0 Z z2 z3 z4 y0 y1 y2 y3 V;have ab:w.heap.size<=D:=by have:=G.o;have:=an.o;have:=am.o;omega
   have ak:=((m.o.setCell (p:=⟨D,2,none⟩) ab (.slice S U R)).setCell (p:=⟨D,3,none⟩) ab (.slice I J F));have aj:=((l.o.set_ 2 (.slice S U R)).set_ 3 (.slice I J F));have Q:=((j.o.far (p:=⟨D,2,none⟩) ai (.slice S U R)).far (p:=⟨D,3,none⟩) ai (.slice I J F));replace m:=ze ak;replace l:=ze aj;replace j:=ze Q;clear ak aj Q;generalize ((w7.setCell ⟨D,2,none⟩ (.slice S U R)).setCell ⟨D,3,none⟩ (.slice I J F))=W8 at m l j |-;have y0:=l.o.cell 0;have y1:=l.o.cell 1;have y2:=l.o.cell 2;have y3:=l.o.cell 3;have V:=l.o.cell 4;have z0:=j.o.cell 0;have Z:=j.o.cell 1;have z2:=j.o.cell 2;have z3:=j.o.cell 3;have z4:=j.o.cell 4;obtain ⟨z5,z6,z7,z8,z9⟩:=fq5 j;simp at y0 y1 y2 y3 V z0 Z z2 z3 z4;have aa:=(((((j.o.set_ 0 (.int .u8 3)).set_ 1 (.string ⟨#[]⟩)).set_ 2 (.slice S U R)).set_ 3 (.slice I J F)).set_ 4 (.slice none 0 0));have e0:=aa.cell 0
   obtain ⟨_,L,N,O,X,_⟩:=bp5 aa;simp at e0;have ap:=ze (((((m.o.setCell (p:=⟨C,0,none⟩) (Nat.le_of_eq G.o.symm) (.int .u8 3)).setCell (p:=⟨C,1,none⟩) (Nat.le_of_eq G.o.symm) (.string ⟨#[]⟩)).setCell (p:=⟨C,2,none⟩) (Nat.le_of_eq G.o.symm) (.slice S U R)).setCell (p:=⟨C,3,none⟩) (Nat.le_of_eq G.o.symm) (.slice I J F)).setCell (p:=⟨C,4,none⟩) (Nat.le_of_eq G.o.symm) (.slice none 0 0));clear aa m l j;go_wp2_with fail;refine bodyPost_ret (v:=.tuple #[.agg #[.int .u8 3,.string ⟨#[]⟩,.slice S U R,.slice I J F,.slice none 0 0],.int .i64 0]) (by simp [results,results8,go_sem,e0,L,N,O,X]) rfl ?_;exact ⟨3,[],_,_,_,_,_,_,_,_,_,rfl,fun _=>⟨rfl,rfl⟩,ap.o⟩
end Go.Proofs.YtobdoblpnanclaaGreatDoor
