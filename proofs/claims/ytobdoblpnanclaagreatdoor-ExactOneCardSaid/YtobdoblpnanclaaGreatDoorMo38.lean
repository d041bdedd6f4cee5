/- Parts of the proof. -/
import Derived.Test.YtobdoblpnanclaaGreatDoorMo31
import Derived.Test.YtobdoblpnanclaaGreatDoorMo37
set_option linter.all false
set_option maxRecDepth 100000
set_option maxHeartbeats 32000000
namespace Go.Proofs.YtobdoblpnanclaaGreatDoor
open Proofs.Tryz
@[irreducible] def p10 (e : Nat) : Nat := 10 ^ e
theorem Yy (e:Nat):p10 e=10 ^ e:=by unfold p10;rfl
theorem Xt (a b:Nat):p10 a*p10 b=p10 (a+b):=by rw [Yy,Yy,Yy,Nat.pow_add]
theorem zu5 (a n:Nat):p10 a ^ n=p10 (a*n):=by rw [Yy,Yy,Nat.pow_mul]
theorem Yj {a b:Nat} (h:a<=b):p10 a<=p10 b:=by rw [Yy,Yy];exact Nat.pow_le_pow_right (by omega) h
theorem zar (a:Nat):0<p10 a:=by rw [Yy];exact Nat.pow_pos (by omega)
theorem zup:p10 2=100:=Yy 2
theorem YP {n e:Nat} (h:n<=100):n*p10 e<=p10 (e+2):=by
 rw [Nat.add_comm, <- Xt,zup]
 exact Nat.mul_le_mul_right _ h
theorem X3 {z:Int} {e M:Nat} (h:z.natAbs<=p10 e) (hM:e<M):len 4294967296 z.natAbs<=M:=zo6 (by rw [<- Yy];exact h) hM
theorem zia {q:Rat} (h:yz 12 q):q.num.natAbs<=p10 12/\q.den<=p10 12:=by rw [Yy];exact h.sz
theorem zk4 {names:List (List UInt8)} (hi:zih names) {s:List UInt8} (hm:s∈names):X2 names s:=by
 have b:names.idxOf s<names.length:=List.idxOf_lt_length_iff.2 hm
 have j:names[names.idxOf s]=s:=List.getElem_idxOf b
 have l:=List.pairwise_iff_getElem.1 hi
 refine ⟨b,fun i h hlt2=>?_,fun i h hle hc=>?_⟩
 . have:=l i (names.idxOf s) h b hlt2
   rwa [j] at this
 rcases uL (names.idxOf s) i with m | m
 . have:=l (names.idxOf s) i b h m
   rw [j] at this;exact zg7 this hc
 . have e:names.idxOf s=i:=by omega
   subst e;rw [j] at hc;exact xF _ hc
structure Z5 (names:List (List UInt8)) (l:List zr) (K:Nat):Prop where
 few:l.length<=K
 nd:(l.map (·.name)).Nodup
 nm:∀ t∈l,X2 names t.name
 sh:∀ t∈l,∃ q,zj t.coef=some q/\yz 12 q
section
variable {names:List (List UInt8)} {l:List zr} {K:Nat}
theorem Z5.q (h:Z5 names l K) {t:Nat} (ht:t<l.length):zj (l.getD t default).coef=some (qOf (l.getD t default).coef)/\yz 12 (qOf (l.getD t default).coef):=by
 obtain ⟨q,b,j⟩:=h.sh _ (uO ht)
 rw [zaa ht]
 have e:qOf l[t].coef=q:=by unfold qOf;rw [b];rfl
 rw [e]
 exact ⟨b,j⟩
theorem Z5.pos (h:Z5 names l K):∀ t,t<l.length->xR names l t<names.length:=fun t ht=>zsd h.nm ht
theorem Xf {q:Rat} (h:yz 12 q):((q.den:Nat):Int)<=10 ^ 12:=by have:=h.sz.2;omega
theorem Z5.scale (h:Z5 names l K) {d:Int} (hd:0<d) (hd2:d<=10 ^ 12) {n:Nat} (hn:n<=l.length):(xi d l n).natAbs<=p10 (12*(K+1)):=by
 rw [Yy]
 have m:=zgn (l:=l) (D:=10 ^ 12) hd (by decide) n (fun t ht=>Xf (h.q (by omega)).2)
 have j:=vN (l:=l) hd n
 have e:d*(10 ^ 12) ^ n<=10 ^ 12*(10 ^ 12) ^ n:=Int.mul_le_mul_of_nonneg_right hd2 (Int.le_of_lt (Int.pow_pos (by decide)))
 have b:(10:Int) ^ 12*(10 ^ 12) ^ n=((10 ^ (12*(n+1)):Nat):Int):=by
  rw [<- Int.pow_succ', <- Int.pow_mul]
  push_cast
  rfl
 have r:10 ^ (12*(n+1))<=10 ^ (12*(K+1)):=Nat.pow_le_pow_right (by omega) (by have:=h.few;omega)
 rw [b] at e
 omega
theorem Z5.coef (h:Z5 names l K) {d:Int} (hd:0<d) (hd2:d<=10 ^ 12) {t:Nat} (ht:t<l.length):(yW (xi d l l.length) l t).natAbs<=p10 (12*(K+2)):=by
 unfold yW
 refine uC zed ?_
 have e:=(zia (h.q ht).2).1
 have j:=h.scale hd hd2 (uA)
 have b:=Nat.mul_le_mul e j
 rw [Xt] at b
 exact uC b (Yj (by omega))
theorem Z5.good (h:Z5 names l K):zwp l:=fun t ht=>by
 obtain ⟨q,b,j⟩:=h.sh t ht
 have e:qOf t.coef=q:=by unfold qOf;rw [b];rfl
 exact ⟨by rw [b];rfl,by rw [e];exact (xJ.of_dz j.sz).more (by omega)⟩
theorem Z5.scaleOk (h:Z5 names l K) {b:List UInt8} {qb:Rat} (hb:zj b=some qb) (hs:yz 12 qb) (hK:K<=100):ze7 b l:=by
 have e:qOf b=qb:=by unfold qOf;rw [hb];rfl
 have hd:0<((qOf b).den:Int):=by have:=(qOf b).den_pos;omega
 have r:((qOf b).den:Int)<=10 ^ 12:=by rw [e];exact Xf hs
 have u:p10 (12*(K+1))<=p10 1212:=Yj (by omega)
 refine ⟨by rw [hb];rfl,by rw [e];exact (xJ.of_dz hs.sz).more (by omega),h.good,fun n hn=>?_,fun n hn=>⟨X3 (uC (h.scale hd r hn) u) (by omega),?_⟩⟩
 rotate_left
 . have:=vN (l:=l) hd n;omega
 have m:0<((qOf (l.getD n default).coef).den:Int):=by have:=(qOf (l.getD n default).coef).den_pos;omega
 have j:=vN (l:=l) hd n;have z:=VB m j;have y:=Zp m j;have B:=Xf (h.q hn).2;exact zo6 (e:=12) (by omega) (by omega)
end
structure vW (rows:List zS) (goal:List zr) (names:List (List UInt8)):Prop where
 m12:rows.length<=12
 n80:names.length<=80
 row:∀ i,i<rows.length->Z5 names (rows.getD i default).terms 40
 bnd:∀ i,i<rows.length->∃ q,zj (rows.getD i default).bound=some q/\yz 12 q
 goal:Z5 names goal 70
section
variable {rows:List zS} {goal:List zr} {names:List (List UInt8)}
theorem vW.bq (h:vW rows goal names) {i:Nat} (hi:i<rows.length):yz 12 (qOf (rows.getD i default).bound):=by
 obtain ⟨q,b,j⟩:=h.bnd i hi
 have e:qOf (rows.getD i default).bound=q:=by unfold qOf;rw [b];rfl
 rw [e];exact j
theorem vW.rowOk (h:vW rows goal names):∀ r∈rows,ztn names r:=fun r hr=>by
 obtain ⟨i,hi,rfl⟩:=List.getElem_of_mem hr
 have b:=h.row i hi
 obtain ⟨q,e,j⟩:=h.bnd i hi
 rw [zdc hi] at b e
 exact ⟨b.scaleOk e j (by omega),b.nm⟩
theorem vW.scl (h:vW rows goal names) {i:Nat} (hi:i<rows.length):(Vu rows i).natAbs<=p10 492:=
 (h.row i hi).scale (by have:=(qOf (rows.getD i default).bound).den_pos;omega) (Xf (h.bq hi)) (uA)
theorem zpt {b sc:Int} {l:List zr} {X:Nat} (hb:b.natAbs<=X) (hX:∀ t,t<l.length->(yW sc l t).natAbs<=X) (k:Nat):∀ t,t<=l.length->(VL names b sc l t k).natAbs<=X
 | 0,_=>by unfold VL;split<;>omega
 | t+1,ht=>by
   have:=hX t (by omega);have:=zpt hb hX k t (by omega);unfold VL
   split
   . omega
   split<;>omega
theorem vW.cells (h:vW rows goal names):∀ i k,i<rows.length->k<2*names.length+2->((Z7 rows names).cell i k).natAbs<=p10 504:=by
 intro i k hi l
 show (zjq rows names i k).natAbs<=_
 rw [zdd hi]
 have hd:0<((qOf (rows.getD i default).bound).den:Int):=by have:=(qOf (rows.getD i default).bound).den_pos;omega
 have j:=h.scl hi
 unfold zls
 split
 . exact zar _
 refine zpt ?_ (fun t ht=>(h.row i hi).coef hd (Xf (h.bq hi)) ht) k _ (uA)
 refine uC zed ?_;have e:=(zia (h.bq hi)).1;have b:=Nat.mul_le_mul e j;rw [Xt] at b;exact b
theorem zdg (c:Nat):∀ n,XL n (fun _=>c)=c ^ n
 | 0=>rfl
 | n+1=>by unfold XL;rw [zdg c n,Nat.pow_succ]
theorem vW.prod (h:vW rows goal names):XL rows.length (fun _=>rows.length*p10 504)<=p10 6072:=by
 rw [zdg]
 have e:=h.m12
 have b:rows.length*p10 504<=p10 506:=YP (by omega)
 have j:(p10 506) ^ 12=p10 6072:=zu5 506 12
 rw [<- j]
 exact uC (Nat.pow_le_pow_left b _) (Nat.pow_le_pow_right (zar _) e)
theorem vW.gdiv (h:vW rows goal names):0<yq goal/\(yq goal).natAbs<=p10 852/\(∀ t,t<goal.length->(yW (yq goal) goal t).natAbs<=p10 864)/\∀ u,(gN names (yq goal) goal goal.length u).natAbs<=p10 866:=by
 have e:((qOf [48]).den:Int)=1:=by
  have b:zj [48]=some 0:=by decide+kernel
  have:qOf [48]=0:=by unfold qOf;rw [b];rfl
  rw [this];rfl
 have hd:0<((qOf [48]).den:Int):=by omega
 have j:((qOf [48]).den:Int)<=10 ^ 12:=by rw [e];decide
 have l:∀ t,t<goal.length->(yW (yq goal) goal t).natAbs<=p10 864:=fun t ht=>h.goal.coef hd j ht
 refine ⟨vN hd _,h.goal.scale hd j (uA),l,fun u=>?_⟩
 have b:=ztm (names:=names) l u _ (uA)
 have m:=h.goal.few
 exact uC b (YP (e:=864) (by omega))
theorem vW.bounds (h:vW rows goal names) {U:zk} (hi:U.Inv ((Z7 rows names).vecs rows.length names.length) (fun i=>(Z7 rows names).cell i 0) rows.length (2*names.length+2)):
 U.den.natAbs<=p10 6072/\∀ i k,i<rows.length->k<2*names.length+2->(U.cell i k).natAbs<=p10 6072:=by
 have b:1<=p10 504:=zar _
 obtain ⟨j,e⟩:=hi.small (X:=fun _=>p10 504) (fun u i hi=>by
  unfold zk.vecs
  split
  . rw [Int.natAbs_neg];exact h.cells i _ hi (by omega)
  split
  . exact b
  split
  . exact b
  exact uB) (fun i hi=>h.cells i 0 hi (by omega))
 exact ⟨uC j h.prod,fun i k hi hk=>uC (e i k hi hk) h.prod⟩
theorem vW.aimed (h:vW rows goal names) {U:zk} {g:Nat->Int} (hg:∀ u,(g u).natAbs<=p10 866) (hi:U.Inv ((Z7 rows names).vecs rows.length names.length) (fun i=>(Z7 rows names).cell i 0) rows.length (2*names.length+2)) (ha:U.Aim g rows.length (2*names.length+2)) {k:Nat} (hk:k<2*names.length+2):
 (U.cell rows.length k).natAbs<=p10 6940:=by
 obtain ⟨j,b⟩:=h.bounds hi
 refine uC (ha.small j b hg hk) ?_
 have l:=h.m12
 rw [Xt]
 exact YP (e:=6938) (by omega)
theorem vW.fits (h:vW rows goal names) {U:zk} {g:Nat->Int} (hg:∀ u,(g u).natAbs<=p10 866) (hi:U.Inv ((Z7 rows names).vecs rows.length names.length) (fun i=>(Z7 rows names).cell i 0) rows.length (2*names.length+2)) (ha:U.Aim g rows.length (2*names.length+2)):
 U.Fits rows.length (2*names.length+2):=by
 obtain ⟨j,e⟩:=h.bounds hi
 refine ⟨hi.den,X3 j (by omega),fun i k hi2 hk=>?_⟩
 rcases uL i rows.length with b | b
 . exact X3 (e i k b hk) (by omega)
 . obtain rfl:i=rows.length:=by omega
   exact X3 (h.aimed hg hi ha hk) (by omega)
end
section
variable {rows:List zS} {goal:List zr} {names:List (List UInt8)} {W:zk}
def Yof (names:List (List UInt8)) (f:Nat->Rat) (s:List UInt8):Rat:=f (names.idxOf s)
theorem zg8 {a b:Int} {X:Nat} (hb:b≠0) (ha:a.natAbs<=X) (hb2:b.natAbs<=X):Sz X (Rat.divInt a b):=by
 refine zuh hb ?_ ha hb2
 have e:=zje hb
 rw [Rat.divInt_eq_div]
 grind
theorem zh4 {q:Rat} {e M:Nat} (h:Sz (p10 e) q) (hM:e<M):xJ M q:=by
 rw [Yy] at h
 exact (xJ.of_dz (e:=e) h).more (by omega)
theorem zk6 (W:zk) (nn c j:Nat):∀ i,zff W nn c i j=zJ i fun k=>if W.basic k<2*nn/\j=W.basic k / 2 then (if W.basic k % 2=0 then (W.cell k c:Rat) / (W.den:Rat) else -((W.cell k c:Rat) / (W.den:Rat))) else 0
 | 0=>rfl
 | i+1=>by
   show (if W.basic i<2*nn/\j=W.basic i / 2 then zff W nn c i j+_ else zff W nn c i j)=zJ i _+_
   rw [<- zk6 W nn c j i,Rat.divInt_eq_div];simp only []
   by_cases h:W.basic i<2*nn/\j=W.basic i / 2
   . rw [if_pos h,if_pos h]
   rw [if_neg h,if_neg h];grind
theorem zfn {m nn c j:Nat} (hj:j<nn):VJ W nn m c j=W.pv m c (2*j) - W.pv m c (2*j+1):=by
 have u:W.pv m c (2*j) - W.pv m c (2*j+1)=zff W nn c m j+((if 0<c/\2*j=W.other (c - 1) then 1 else 0) - if 0<c/\2*j+1=W.other (c - 1) then 1 else 0):=by
  unfold zk.pv
  rw [zk6]
  have e:(zJ m fun k=>if W.basic k<2*nn/\j=W.basic k / 2 then (if W.basic k % 2=0 then (W.cell k c:Rat) / (W.den:Rat) else -((W.cell k c:Rat) / (W.den:Rat))) else 0)=
   1*(zJ m fun i=>if W.basic i=2*j then (W.cell i c:Rat) / (W.den:Rat) else 0)+ -1*zJ m fun i=>if W.basic i=2*j+1 then (W.cell i c:Rat) / (W.den:Rat) else 0:=by
   rw [<- ZE]
   apply zw
   intro k y
   by_cases b:W.basic k=2*j
   . rw [if_pos (by omega),if_pos (by omega),if_pos b,if_neg (by omega)];grind
   by_cases r:W.basic k=2*j+1
   . rw [if_pos (by omega),if_neg (by omega),if_neg b,if_pos r];grind
   rw [if_neg (by omega),if_neg b,if_neg r];grind
  rw [e]
  grind
 rw [u]
 unfold VJ
 by_cases l:0<c
 rotate_left
 . rw [if_neg (fun h=>l h.1),if_neg (fun h=>l h.1),if_neg (fun h=>l h.1)];grind
 by_cases b:2*j=W.other (c - 1)
 . rw [if_pos (by omega),if_pos (by omega),if_pos ⟨l,b⟩,if_neg (by omega)];grind
 by_cases r:2*j+1=W.other (c - 1)
 . rw [if_pos (by omega),if_neg (by omega),if_neg (fun h=>b h.2),if_pos ⟨l,r⟩];grind
 rw [if_neg (by omega),if_neg (fun h=>b h.2),if_neg (fun h=>r h.2)];grind
theorem zs6 {m nn:Nat} (h:W.Perm m (2*nn+1)) (sc:Nat->Int) {b:Int} (i:Nat):∀ n,n<=2*nn+1->wtN W nn m sc b n i= -(zJ n fun k=>if W.other k=2*nn+i then (W.cell m (k+1):Rat) else 0)*(sc i:Rat) / ((W.den:Rat)*(b:Rat))
 | 0,_=>by show (0:Rat)= -(0:Rat)*_ / _;rw [Rat.div_def];grind
 | n+1,hn=>by
   have j:=zs6 h sc (b:=b) i n (by omega)
   show (if W.other n=2*nn+i then _ else wtN W nn m sc b n i)= -(zJ n _+if W.other n=2*nn+i then (W.cell m (n+1):Rat) else 0)*_ / _
   by_cases e:W.other n=2*nn+i
   rotate_left
   . rw [if_neg e,if_neg e,j]
     congr 2
     grind
   rw [if_pos e,if_pos e,yC,Rat.divInt_eq_div]
   . push_cast
     congr 1
     grind
   intro k r
   rw [if_neg];intro l;have:=h.oo k n (by omega) (by omega) (by rw [e,l])
   omega
theorem zfo {m nn:Nat} (h:W.Perm m (2*nn+1)) (sc:Nat->Int) {b:Int} (i:Nat):wtN W nn m sc b (2*nn+1) i= -(W.at_ (2*nn+1) m (2*nn+i))*(sc i:Rat) / ((W.den:Rat)*(b:Rat)):=zs6 h sc i _ (uA)
theorem vW.rowSum (h:vW rows goal names) {i:Nat} (hi:i<rows.length) (f:Nat->Rat):(zJ names.length fun j=>((Z7 rows names).cell i (2*j+2):Rat)*f j)=(Vu rows i:Rat)*Ym (rows.getD i default).terms (Yof names f):=
 zue hi (h.row i hi).nd (h.row i hi).nm (Yof names f) f fun t ht=>rfl
theorem znv {l:List zr} {Y Z:List UInt8->Rat} (h:∀ t∈l,Y t.name=Z t.name):Ym l Y=Ym l Z:=by
 induction l with
 | nil=>rfl
 | cons t l ih=>
   show yX t*Y t.name+Ym l Y=yX t*Z t.name+Ym l Z
   rw [h t (uP ..),ih fun t ht=>h t (List.mem_cons_of_mem _ ht)]
theorem Z5.lin {l:List zr} {K:Nat} (h:Z5 names l K) (Z:List UInt8->Rat):Ym l Z=Ym l (Yof names fun j=>Z (names.getD j [])):=by
 apply znv
 intro t e
 have b:=h.nm t e
 show Z t.name=Z (names.getD (names.idxOf t.name) [])
 rw [List.getD_eq_getElem?_getD,List.getElem?_eq_getElem b.lt,Option.getD_some,b.at_]
theorem vW.goalSum (h:vW rows goal names) (f:Nat->Rat) (y:Nat->Rat) (hy:∀ j,j<names.length->f j=y (2*j) - y (2*j+1)):(zJ (2*names.length) fun u=>(gN names (yq goal) goal goal.length u:Rat)*y u)=(yq goal:Rat)*Ym goal (Yof names f):=by
 rw [zst h.goal.pos y _ (uA)]
 have hd:0<((qOf [48]).den:Int):=by have:=(qOf [48]).den_pos;omega
 have b:=zfm (names:=names) (l:=goal) hd (Yof names f) f (fun t ht=>rfl) _ (uA)
 rw [List.take_length] at b
 rw [<- show (zJ goal.length fun s=>(yW (yq goal) goal s:Rat)*f (xR names goal s))=(yq goal:Rat)*Ym goal (Yof names f) from b]
 apply zw
 intro s e
 rw [hy _ (h.goal.pos s e)]
theorem zdz {i:Nat}:(0:Rat)<(Vu rows i:Rat):=by have:=zqf (rows:=rows) (i:=i);exact_mod_cast this
theorem vW.keeps (h:vW rows goal names) {f:Nat->Rat} (hk:∀ i,i<rows.length->(zJ names.length fun j=>((Z7 rows names).cell i (2*j+2):Rat)*f j)<=((Z7 rows names).cell i 0:Rat)):zib rows (Yof names f):=by
 intro i hi
 have b:=hk i hi
 rw [h.rowSum hi,zm1 hi] at b
 exact Rat.le_of_mul_le_mul_left b zdz
theorem vW.rays (h:vW rows goal names) {f:Nat->Rat} (hk:∀ i,i<rows.length->(zJ names.length fun j=>((Z7 rows names).cell i (2*j+2):Rat)*f j)<=0):∀ i,i<rows.length->Ym (rows.getD i default).terms (Yof names f)<=0:=by
 intro i hi
 have b:=hk i hi
 rw [h.rowSum hi] at b
 refine Rat.le_of_mul_le_mul_left ?_ (zdz (rows:=rows) (i:=i))
 rw [Rat.mul_zero]
 exact b
theorem vW.tell (h:vW rows goal names) (hp:W.Perm rows.length (2*names.length+1)) {b:Int} {G:Nat->Rat}
 (hd:∀ j,j<names.length->(zJ rows.length fun i=> -(W.at_ (2*names.length+1) rows.length (2*names.length+i))*((Z7 rows names).cell i (2*j+2):Rat))=(W.den:Rat)*G j) (Z:List UInt8->Rat):
 zp8 rows (wtN W names.length rows.length (Vu rows) b (2*names.length+1)) Z=(zJ names.length fun j=>((W.den:Rat)*G j)*Z (names.getD j [])) / ((W.den:Rat)*(b:Rat)):=by
 unfold zp8
 have m:(zJ rows.length fun i=>wtN W names.length rows.length (Vu rows) b (2*names.length+1) i*Ym (rows.getD i default).terms Z)=zJ rows.length fun i=>((1:Rat) / ((W.den:Rat)*(b:Rat)))*(zJ names.length fun j=>(-(W.at_ (2*names.length+1) rows.length (2*names.length+i))*((Z7 rows names).cell i (2*j+2):Rat))*Z (names.getD j [])):=by
  apply zw
  intro i hi
  have l:=h.rowSum hi (fun j=>Z (names.getD j []))
  rw [<- (h.row i hi).lin Z] at l
  rw [zfo hp]
  have u:(zJ names.length fun j=>(-(W.at_ (2*names.length+1) rows.length (2*names.length+i))*((Z7 rows names).cell i (2*j+2):Rat))*Z (names.getD j []))= -(W.at_ (2*names.length+1) rows.length (2*names.length+i))*((Vu rows i:Rat)*Ym (rows.getD i default).terms Z):=by
   rw [<- l, <- vf];exact zw fun j e=>by grind
  rw [u,Rat.div_def,Rat.div_def]
  grind
 rw [m,vf,Xi,Rat.div_def,Rat.div_def]
 have r:(zJ names.length fun j=>zJ rows.length fun i=>(-(W.at_ (2*names.length+1) rows.length (2*names.length+i))*((Z7 rows names).cell i (2*j+2):Rat))*Z (names.getD j []))=zJ names.length fun j=>((W.den:Rat)*G j)*Z (names.getD j []):=by
  apply zw
  intro j e
  rw [<- hd j e,Rat.mul_comm (zJ rows.length _), <- vf]
  exact zw fun i hi=>by grind
 rw [r]
 grind
theorem vW.bound (h:vW rows goal names) (hp:W.Perm rows.length (2*names.length+1)) {b:Int}:
 zvd rows (wtN W names.length rows.length (Vu rows) b (2*names.length+1))=(zJ rows.length fun i=> -(W.at_ (2*names.length+1) rows.length (2*names.length+i))*((Z7 rows names).cell i 0:Rat)) / ((W.den:Rat)*(b:Rat)):=by
 unfold zvd
 rw [Rat.div_def,Rat.mul_comm (zJ rows.length _), <- vf]
 apply zw
 intro i hi
 rw [zfo hp,zm1 hi,Rat.div_def]
 grind
theorem zsp (hp:W.Perm rows.length (2*names.length+1)) (hd:0<W.den) {b:Int} (hb:0<b) {i:Nat} (hle:W.at_ (2*names.length+1) rows.length (2*names.length+i)<=0):0<=wtN W names.length rows.length (Vu rows) b (2*names.length+1) i:=by
 rw [zfo hp,Rat.div_def]
 have e:(0:Rat)<(W.den:Rat):=by exact_mod_cast hd
 have j:(0:Rat)<(b:Rat):=by exact_mod_cast hb
 exact Rat.mul_nonneg (Rat.mul_nonneg (by grind) (Rat.le_of_lt zdz)) (Rat.le_of_lt (Rat.inv_pos.2 (Rat.mul_pos e j)))
end
section
variable {rows:List zS} {goal:List zr} {names:List (List UInt8)} {U W:zk}
theorem vW.vec (h:vW rows goal names) (hi:W.Inv ((Z7 rows names).vecs rows.length names.length) (fun i=>(Z7 rows names).cell i 0) rows.length (2*names.length+2)) (hp:W.Perm rows.length (2*names.length+1)) {c:Nat} (hc:c<2*names.length+2):zhg W names.length rows.length c:=by
 obtain ⟨B,u⟩:=h.bounds hi
 have hd:=hi.den
 have C:=h.m12
 have F:=h.n80
 have key:∀ j i,i<=rows.length->∃ z:Int,zff W names.length c i j=Rat.divInt z W.den/\z.natAbs<=i*p10 6072:=by
  intro j i
  have D:(W.den:Rat)≠0:=by
   have:W.den≠0:=by omega
   exact_mod_cast this
  induction i with
  | zero=>intro _;exact ⟨0,by show (0:Rat)=_;rw [Rat.divInt_eq_div];have:((0:Int):Rat)=0:=rfl;rw [this];grind,by simp⟩
  | succ i ih=>
    intro b;obtain ⟨z,l,r⟩:=ih (by omega);have E:=u i c (by omega) hc
    show ∃ z:Int,(if W.basic i<2*names.length/\j=W.basic i / 2 then zff W names.length c i j+(if W.basic i % 2=0 then Rat.divInt (W.cell i c) W.den else -(Rat.divInt (W.cell i c) W.den)) else zff W names.length c i j)=Rat.divInt z W.den/\z.natAbs<=(i+1)*p10 6072
    rw [l,Nat.add_mul]
    by_cases e:W.basic i<2*names.length/\j=W.basic i / 2
    rotate_left
    . rw [if_neg e];exact ⟨z,rfl,by omega⟩
    rw [if_pos e]
    by_cases y:W.basic i % 2=0
    . rw [if_pos y]
      refine ⟨z+W.cell i c,?_,by omega⟩;rw [Rat.divInt_eq_div,Rat.divInt_eq_div,Rat.divInt_eq_div];push_cast;grind
    rw [if_neg y]
    refine ⟨z - W.cell i c,?_,by omega⟩;rw [Rat.divInt_eq_div,Rat.divInt_eq_div,Rat.divInt_eq_div];push_cast;grind
 have m:W.den.natAbs<=p10 6074:=uC B (Yj (by omega))
 refine ⟨fun i hi=>by have:=hp.bl i hi;omega,fun k hk=>by have:=hp.ol k hk;omega,fun i j b hj=>?_,fun i b=>?_⟩
 rotate_left
 . exact zh4 (zg8 (by omega) (uC (u i c b hc) (Yj (by omega))) m) (by omega)
 obtain ⟨z,l,r⟩:=key j i b
 rw [l];exact zh4 (zg8 (by omega) (uC r (uC (Nat.mul_le_mul_right _ b) (YP (e:=6072) (by omega)))) m) (by omega)
theorem vW.vecS (h:vW rows goal names) (hi:W.Inv ((Z7 rows names).vecs rows.length names.length) (fun i=>(Z7 rows names).cell i 0) rows.length (2*names.length+2)) (hp:W.Perm rows.length (2*names.length+1)) {c:Nat} (hc:c<2*names.length+2):zb9 names.length (some (VJ W names.length rows.length c)):=by
 obtain ⟨j,y⟩:=h.bounds hi
 have hd:=hi.den
 have hv:=h.vec hi hp hc
 intro k m
 have G:(W.den:Rat)≠0:=by
  have:W.den≠0:=by omega
  exact_mod_cast this
 rw [zfn m]
 have one:∀ u,u<rows.length+(2*names.length+1)->∃ z:Int,W.pv rows.length c u=Rat.divInt z W.den/\z.natAbs<=p10 6072:=by
  intro u hu
  rcases hp.cov u hu with ⟨i,b,e⟩ | ⟨l,hl,e⟩
  . exact ⟨W.cell i c,by rw [<- e,zk.pv_row hp (by omega) b,Rat.divInt_eq_div],y i c b hc⟩
  . rw [<- e,zk.pv_col hp (by omega) hl]
    split
    . exact ⟨W.den,by rw [Rat.divInt_eq_div];grind,j⟩
    exact ⟨0,by rw [Rat.divInt_eq_div];have:((0:Int):Rat)=0:=rfl;rw [this];grind,by simp⟩
 obtain ⟨D,B,F⟩:=one (2*k) (by omega)
 obtain ⟨r,E,J⟩:=one (2*k+1) (by omega)
 have C:W.pv rows.length c (2*k) - W.pv rows.length c (2*k+1)=Rat.divInt (D - r) W.den:=by
  rw [B,E,Rat.divInt_eq_div,Rat.divInt_eq_div,Rat.divInt_eq_div];push_cast;grind
 rw [C]
 have I:2*p10 6072<=p10 6074:=YP (by omega)
 exact zh4 (e:=6074) (zg8 (by omega) (by omega) (uC j (Yj (by omega)))) (by omega)
theorem zdl {m nn:Nat} {sc:Nat->Int} {b:Int} (hd:0<W.den) (hb:0<b) (hd2:W.den.natAbs<=p10 6072) (hb2:b.natAbs<=p10 852) (hc:∀ k,k<2*nn+2->(W.cell m k).natAbs<=p10 6940) (i:Nat) (hs:(sc i).natAbs<=p10 492):∀ n,n<=2*nn+1->xJ 67108864 (wtN W nn m sc b n i)
 | 0,_=>(xJ.of_dz (Dz.zero 0)).more (by omega)
 | n+1,hn=>by
   show xJ 67108864 (if W.other n=2*nn+i then _ else wtN W nn m sc b n i)
   split
   rotate_left
   . exact zdl hd hb hd2 hb2 hc i hs n (by omega)
   refine zh4 (e:=7432) (zg8 (Int.mul_ne_zero (by omega) (by omega)) ?_ ?_) (by omega)
   rotate_left
   . rw [Int.natAbs_mul]
     have:=Nat.mul_le_mul hd2 hb2;rw [Xt] at this;exact uC this (Yj (by omega))
   rw [Int.natAbs_mul,Int.natAbs_neg]
   have:=Nat.mul_le_mul (hc (n+1) (by omega)) hs
   rwa [Xt] at this
theorem vW.aimT (h:vW rows goal names) (hU:zcu (Z7 rows names) rows.length names.length U) {t:Nat} (ht:t<=goal.length):YI (Z7 rows names) rows.length names.length (gN names (yq goal) goal t) (U.aimed rows.length (YJ U names rows.length (2*names.length+1+1) (yq goal) goal t)):=by
 refine zpg hU rfl rfl rfl (fun i k hi=>if_neg (by omega)) fun k hk=>?_
 have b:=zgu (sc:=yq goal) hU.perm h.goal.pos t ht k hk
 have l:(U.aimed rows.length (YJ U names rows.length (2*names.length+1+1) (yq goal) goal t)).cell rows.length k=YJ U names rows.length (2*names.length+1+1) (yq goal) goal t k:=if_pos rfl
 rw [l,b]
 congr 1
 apply yv
 intro j m
 have e:(U.aimed rows.length (YJ U names rows.length (2*names.length+1+1) (yq goal) goal t)).cell j k=U.cell j k:=if_neg (by omega)
 rw [e]
 rfl
theorem vW.gBound (h:vW rows goal names) {t:Nat} (ht:t<=goal.length) (u:Nat):(gN names (yq goal) goal t u).natAbs<=p10 866:=by
 have b:=ztm (names:=names) h.gdiv.2.2.1 u t ht
 have j:=h.goal.few
 exact uC b (YP (e:=864) (by omega))
theorem vW.goalLe (h:vW rows goal names) (hU:zcu (Z7 rows names) rows.length names.length U) {t k:Nat} (ht:t<=goal.length) (hk:k<2*names.length+2):(YJ U names rows.length (2*names.length+1+1) (yq goal) goal t k).natAbs<=p10 6940:=by
 have b:=h.aimT hU ht
 have e:=h.aimed (fun u=>h.gBound ht u) b.inv b.aim hk
 have j:(U.aimed rows.length (YJ U names rows.length (2*names.length+1+1) (yq goal) goal t)).cell rows.length k=YJ U names rows.length (2*names.length+1+1) (yq goal) goal t k:=if_pos rfl
 rwa [j] at e
theorem vW.cntLe (h:vW rows goal names) (hU:zcu (Z7 rows names) rows.length names.length U) {k:Nat} (hk:k<2*names.length+2) (u:Nat) {z:Int} (hz:z.natAbs<=p10 864):(Xy U rows.length (2*names.length+1+1) (u:Int) z k).natAbs<=p10 6940:=by
 obtain ⟨j,e⟩:=h.bounds hU.inv
 have b:p10 6072*p10 864<=p10 6940:=by rw [Xt];exact Yj (by omega)
 unfold Xy
 split
 . rename_i i hi
   rw [vh] at hi;rw [Int.natAbs_mul];exact uC (Nat.mul_le_mul (e i k (ZM hi).1 hk) hz) b
 split
 . rw [Int.natAbs_mul];exact uC (Nat.mul_le_mul j hz) b
 simp
theorem vW.aimOk (h:vW rows goal names) (hU:zcu (Z7 rows names) rows.length names.length U):zl4 U names rows.length (2*names.length+1+1) goal where
 ok:=h.goal.scaleOk (qb:=0) (by decide+kernel) ⟨by decide+kernel,by decide+kernel⟩ (by omega)
 nm:=h.goal.nm
 fit:=fun t ht=>X3 (h.gdiv.2.2.1 t ht) (by omega)
 len1:=fun t k ht hk=>X3 (h.goalLe hU (by omega) hk) (by omega)
 len2:=fun t k ht hk=>by
  have b:=h.goalLe hU (t:=t) (by omega) hk
  have j:=h.cntLe hU hk (2*xR names goal t) (h.gdiv.2.2.1 t ht)
  have l:2*p10 6940<=p10 6942:=YP (by omega)
  exact X3 (e:=6942) (by omega) (by omega)
 known:=fun u hu hn=>by
  rw [vh] at hn
  obtain ⟨k,_,e⟩:=V6 hU.perm (by omega) hn
  rw [Nat.add_sub_cancel,vh,e]
  exact fun h=>by cases h
def znw (rows:List zS) (goal:List zr) (names:List (List UInt8)) (kd:Nat) (val:Rat) (pt ry ws:Option (Nat->Rat)):Prop:=
 (kd=1/\∃ f g,pt=some f/\ws=some g/\zdw rows goal val (Yof names f) g)\/(kd=2/\∃ g,ws=some g/\zgx rows g)\/(kd=3/\∃ f g,pt=some f/\ry=some g/\ztc rows goal (Yof names f) (Yof names g))
theorem vW.goes (h:vW rows goal names):zty rows names where
 rok:=h.rowOk
 mm:=by have:=h.m12;omega
 nn:=by have:=h.n80;omega
 fit:=h.fits (g:=fun _=>0) (fun u=>by simp) Zg.inv (fun k hk=>by
  rw [zie,ite_self,Yz (fun j hj=>Int.mul_zero _),Int.mul_zero];rfl)
 scl:=fun i hi=>X3 (h.scl hi) (by omega)
theorem vW.emptyF (h:vW rows goal names) (hU:NoPt (Z7 rows names) rows.length names.length U):zgx rows (wtN U names.length rows.length (Vu rows) 1 (2*names.length+1)):=by
 have hd:=hU.inv.den
 have e:(0:Rat)<(U.den:Rat):=by exact_mod_cast hd
 obtain ⟨m,b⟩:=zk.dual Zg hU.perm hU.aim hU.sol (fun i hi=>if_neg (by omega)) (fun j hj=>by rw [if_neg (by omega),if_neg (by omega)];rfl) (fun u _=>hU.top u)
 refine ⟨fun i hi=>zsp hU.perm hd (by omega) (hU.top _),fun Z=>?_,?_⟩
 . rw [h.tell hU.perm (G:=fun _=>0) (fun j hj=>by rw [m j hj,if_neg (by omega)];rfl),yC (fun j hj=>by grind),Rat.div_def]
   exact Rat.zero_mul _
 rw [h.bound hU.perm,b,Rat.div_def]
 have r:(U.cell rows.length 0:Rat)<0:=by exact_mod_cast hU.neg
 have l:(0:Rat)<((U.den:Rat)*((1:Int):Rat))⁻¹:=Rat.inv_pos.2 (Rat.mul_pos e (by decide));have y:=Rat.mul_pos (by grind:0< -(U.cell rows.length 0:Rat)) l
 grind
theorem vW.keepW (h:vW rows goal names) {g:Nat->Int} (hW:YI (Z7 rows names) rows.length names.length g W) (hg:∀ u,2*names.length<=u->g u=0):zib rows (Yof names (VJ W names.length rows.length 0)):=by
 apply h.keeps
 intro i hi
 have b:=(zk.primal Zg hW.perm hW.inv.den hW.aim hW.sol hW.feas hW.room hg).1 i hi
 rwa [show (zJ names.length fun j=>((Z7 rows names).cell i (2*j+2):Rat)*VJ W names.length rows.length 0 j)=zJ names.length fun j=>((Z7 rows names).cell i (2*j+2):Rat)*(W.pv rows.length 0 (2*j) - W.pv rows.length 0 (2*j+1)) from zw fun j hj=>by rw [zfn hj]]
theorem vW.sumG (h:vW rows goal names) (c:Nat):(zJ (2*names.length) fun u=>(gN names (yq goal) goal goal.length u:Rat)*W.pv rows.length c u)=(yq goal:Rat)*Ym goal (Yof names (VJ W names.length rows.length c)):=
 h.goalSum _ _ fun j hj=>zfn hj
theorem vW.bestF (h:vW rows goal names) (hW:zou (Z7 rows names) rows.length names.length (gN names (yq goal) goal goal.length) W):
 zdw rows goal (Rat.divInt (W.cell rows.length 0) (W.den*yq goal)) (Yof names (VJ W names.length rows.length 0)) (wtN W names.length rows.length (Vu rows) (yq goal) (2*names.length+1)):=by
 have hd:=hW.inv.den
 have z:(0:Rat)<(W.den:Rat):=by exact_mod_cast hd
 have hS:=h.gdiv.1
 have D:(0:Rat)<(yq goal:Rat):=by exact_mod_cast hS
 have b:=fun u hu=>zu8 (sc:=yq goal) h.goal.pos goal.length (uA) u hu
 obtain ⟨B,y⟩:=zk.dual Zg hW.perm hW.aim hW.sol (fun i hi=>b _ (by omega)) (fun j l=>zpm j _) hW.top
 have m:=(zk.primal Zg hW.perm hd hW.aim hW.sol hW.feas hW.room b).2
 rw [h.sumG 0] at m
 have C:Rat.divInt (W.cell rows.length 0) (W.den*yq goal)=(W.cell rows.length 0:Rat) / ((W.den:Rat)*(yq goal:Rat)):=by rw [Rat.divInt_eq_div];push_cast;rfl
 have E:(W.den:Rat)*(yq goal:Rat)≠0:=by have:=Rat.mul_pos z D;grind
 rw [C]
 refine ⟨h.keepW hW.1 b,?_,fun i hi=>zsp hW.perm hd hS (hW.top _ (by omega)),fun Z=>?_,?_⟩
 . rw [<- m]
   generalize Ym goal (Yof names (VJ W names.length rows.length 0))=L
   grind
 . rw [h.tell hW.perm (G:=fun j=>(gN names (yq goal) goal goal.length (2*j):Rat)) B]
   have r:=h.goalSum (fun j=>Z (names.getD j [])) (fun u=>if u % 2=0 then Z (names.getD (u / 2) []) else 0) (fun j l=>by
    rw [if_pos (by omega),if_neg (by omega),show 2*j / 2=j by omega];grind)
   rw [<- h.goal.lin Z,zes] at r
   have e:(zJ names.length fun j=>(W.den:Rat)*(gN names (yq goal) goal goal.length (2*j):Rat)*Z (names.getD j []))=(W.den:Rat)*((yq goal:Rat)*Ym goal Z):=by
    rw [<- r, <- vf]
    apply zw
    intro j l;rw [if_pos (by omega),if_neg (by omega),show 2*j / 2=j by omega]
    grind
   rw [e];generalize Ym goal Z=L
   grind
 . rw [h.bound hW.perm,y]
   exact Rat.le_refl
theorem vW.freeF (h:vW rows goal names) {d:Nat} (hW:znb (Z7 rows names) rows.length names.length (gN names (yq goal) goal goal.length) d W):
 ztc rows goal (Yof names (VJ W names.length rows.length 0)) (Yof names (VJ W names.length rows.length d)):=by
 have hd:=hW.inv.den
 have l:(0:Rat)<(W.den:Rat):=by exact_mod_cast hd
 have y:(0:Rat)<(yq goal:Rat):=by exact_mod_cast h.gdiv.1
 have b:=fun u hu=>zu8 (sc:=yq goal) h.goal.pos goal.length (uA) u hu
 obtain ⟨m,e⟩:=zk.ray Zg hW.perm hd hW.aim hW.sol hW.room b hW.d0 hW.dn hW.ne hW.col
 rw [h.sumG d] at e
 refine ⟨h.keepW hW.1 b,h.rays fun i hi=>?_,?_⟩
 . have r:=m i hi
   rwa [show (zJ names.length fun j=>((Z7 rows names).cell i (2*j+2):Rat)*VJ W names.length rows.length d j)=zJ names.length fun j=>((Z7 rows names).cell i (2*j+2):Rat)*(W.pv rows.length d (2*j) - W.pv rows.length d (2*j+1)) from zw fun j hj=>by rw [zfn hj]]
 have r:(0:Rat)<(W.cell rows.length d:Rat):=by exact_mod_cast hW.up
 apply Classical.byContradiction
 intro B;have z:=Rat.mul_nonneg (Rat.le_of_lt (Rat.mul_pos l y)) (by grind:0<= -(Ym goal (Yof names (VJ W names.length rows.length d))))
 grind
theorem vW.solve (h:vW rows goal names):∃ kd val pt ry ws,XQ rows names goal kd val pt ry ws/\zb9 names.length pt/\zb9 names.length ry/\zb9 rows.length ws/\xJ 67108864 val/\znw rows goal names kd val pt ry ws:=by
 have M:=h.m12
 have O:=h.n80
 have I:∀ V:zk,V.Inv ((Z7 rows names).vecs rows.length names.length) (fun i=>(Z7 rows names).cell i 0) rows.length (2*names.length+2)->V.Aim (fun u=>if u=2*names.length+rows.length then -1 else 0) rows.length (2*names.length+2)->V.Fits rows.length (2*names.length+2):=
  fun V hi ha=>h.fits (fun u=>by
   have:=zar 866
   split
   . show 1<=_;omega
   simp) hi ha
 obtain ⟨U,ok,B,J,K⟩:=zhw (T0:=Z7 rows names) Zg zie I
 cases ok with
 | false=>
   have m:=K rfl;obtain ⟨z,G⟩:=h.bounds m.inv;refine ⟨2,0,none,none,_,.empty U B (I U m.inv m.aim) (fun k hk=>by have:=m.perm.ol k hk;omega),trivial,trivial,fun i hi=>?_,(xJ.of_dz (Dz.zero 0)).more (by omega),.inr (.inl ⟨rfl,_,rfl,h.emptyF m⟩)⟩
   exact zdl (b:=1) m.inv.den (by omega) z (show 1<=p10 852 from zar _) (fun k hk=>h.aimed (fun u=>by
    have:=zar 866
    split
    . show 1<=_;omega
    simp) m.inv m.aim hk) i (h.scl hi) _ (uA)
 | true=>
   have m:=J rfl;have r:=h.aimT m (Nat.le_refl goal.length)
   have y:∀ V:zk,V.Inv ((Z7 rows names).vecs rows.length names.length) (fun i=>(Z7 rows names).cell i 0) rows.length (2*names.length+2)->V.Aim (gN names (yq goal) goal goal.length) rows.length (2*names.length+2)->V.Fits rows.length (2*names.length+2):=
    fun V hi ha=>h.fits (fun u=>h.gBound (uA) u) hi ha
   have F:U.Fits rows.length (2*names.length+2):=by
    have N:=y _ r.inv r.aim;obtain ⟨z,G⟩:=h.bounds m.inv
    cases B with
    | now hl=>exact h.goes.fit
    | yes V l d hl f1 f2 E fU hz f3=>exact f3
   obtain ⟨W,d,E,hb,L⟩:=zlf r y
   rcases uN d with C | C
   . subst C
     have j:=hb rfl;obtain ⟨z,G⟩:=h.bounds j.inv;have D:=h.gdiv;refine ⟨1,_,_,none,_,.best U W B F (h.aimOk m) (y _ r.inv r.aim) E (y _ j.inv j.aim) (h.vec j.inv j.perm (by omega)),h.vecS j.inv j.perm (by omega),trivial,fun i hi=>?_,?_,.inl ⟨rfl,_,_,rfl,rfl,h.bestF j⟩⟩
     . exact zdl j.inv.den D.1 z D.2.1 (fun k hk=>h.aimed (fun u=>h.gBound (uA) u) j.inv j.aim hk) i (h.scl hi) _ (uA)
     have hd:=j.inv.den
     refine zh4 (e:=6940) (zg8 (Int.mul_ne_zero (by omega) (by have:=D.1;omega)) (h.aimed (fun u=>h.gBound (uA) u) j.inv j.aim (by omega)) ?_) (by omega);rw [Int.natAbs_mul];have:=Nat.mul_le_mul z D.2.1;rw [Xt] at this;exact uC this (Yj (by omega))
   . have j:=L C
     exact ⟨3,0,_,_,none,.free U W d B F (h.aimOk m) (y _ r.inv r.aim) E (y _ j.inv j.aim) C (by have:=j.dn;omega) (h.vec j.inv j.perm (by omega)) (h.vec j.inv j.perm (by have:=j.dn;omega)),h.vecS j.inv j.perm (by omega),h.vecS j.inv j.perm (by have:=j.dn;omega),trivial,(xJ.of_dz (Dz.zero 0)).more (by omega),.inr (.inr ⟨rfl,_,_,rfl,rfl,h.freeF j⟩)⟩
end
theorem zjd {rows:List zS} {goal:List zr} (h:xy rows goal=0):yB rows=0/\yh goal=0/\(zy rows [goal]).length<=80:=by
 unfold xy at h
 split at h
 . exact absurd h ‹_›
 split at h
 . exact absurd h ‹_›
 split at h
 . cases h
 rename_i b e j
 exact ⟨Classical.byContradiction b,Classical.byContradiction e,by omega⟩
theorem zgf {rows:List zS} {goal:List zr} {x:List UInt8}:x∈zy rows [goal]↔(∃ t∈goal,t.name=x)\/∃ r∈rows,∃ t∈r.terms,t.name=x:=by
 unfold zy
 rw [(yn _).2]
 unfold yd
 simp [List.mem_flatMap]
 constructor
 . rintro (h | ⟨_,⟨r,j,rfl⟩,t,b,e⟩)
   . exact .inl h
   . exact .inr ⟨r,j,t,b,e⟩
 rintro (h | ⟨r,j,t,b,e⟩)
 . exact .inl h
 . exact .inr ⟨_,⟨r,j,rfl⟩,t,b,e⟩
theorem zuo {rows:List zS} {goal:List zr} (hs:yK rows) (hg:goal.length<=70) (h:xy rows goal=0):vW rows goal (zy rows [goal]):=by
 obtain ⟨B,l,D⟩:=zjd h
 obtain ⟨E,u⟩:=zc9 B
 have j:zih (zy rows [goal]):=(yn _).1
 obtain ⟨_,F,_,_,C⟩:=hs
 obtain ⟨y,_⟩:=C E
 refine ⟨by omega,D,fun i hi=>?_,fun i hi=>?_,?_⟩
 . rw [zdc hi]
   have m:=u _ (uO hi);refine ⟨?_,m.name,fun t ht=>zk4 j (zgf.2 (.inr ⟨_,uO hi,t,ht,rfl⟩)),fun t ht=>by obtain ⟨q,b,_,e⟩:=m.coef t ht;exact ⟨q,b,e⟩⟩;have b:=xD (fun r:zS=>r.terms.length) rows _ (uO hi);have z:(rows.map fun r:zS=>r.terms.length).sum<=40:=y;exact uC b z
 . rw [zdc hi]
   exact (u _ (uO hi)).bnd
 . refine ⟨hg,vS (VY l),fun t ht=>zk4 j (zgf.2 (.inl ⟨t,ht,rfl⟩)),fun t ht=>?_⟩
   obtain ⟨i,hi,rfl⟩:=List.getElem_of_mem ht;obtain ⟨q,b,_,e⟩:=(XA l hi).1;exact ⟨q,b,e⟩
theorem znw.plain {rows:List zS} {goal:List zr} {names:List (List UInt8)} {kd:Nat} {val:Rat} {pt ry ws:Option (Nat->Rat)} (h:znw rows goal names kd val pt ry ws):zgh rows goal kd val:=by
 rcases h with ⟨e,f,g,_,_,h⟩ | ⟨e,g,_,h⟩ | ⟨e,f,g,_,_,h⟩
 . exact .inl ⟨e,_,_,h⟩
 . exact .inr (.inl ⟨e,_,h⟩)
 . exact .inr (.inr ⟨e,_,_,h⟩)
theorem zgg {rows:List zS} {goal:List zr} (hs:yK rows) (hg:goal.length<=70):∃ kd val,xy rows goal=0->zv0 rows goal kd val/\zgh rows goal kd val:=by
 by_cases h:xy rows goal=0
 rotate_left
 . exact ⟨0,0,fun b=>absurd b h⟩
 have e:=zuo hs hg h
 obtain ⟨kd,val,pt,ry,ws,m,b,u,l,r,j⟩:=e.solve;exact ⟨kd,val,fun _=>⟨⟨e.goes,⟨pt,ry,ws,m,b,u,l⟩,r⟩,j.plain⟩⟩
open Go.RowKit Go.Deep
attribute [local go_sem ↓] Go.wp_at_zero Go.wp_at_succ
theorem zov:xy Yv XS=0:=by
 have j:=zjl.err0.1
 have b:=zt6.err
 unfold xy
 rw [if_neg (fun h=>h j),if_neg (fun h=>h b),if_neg]
 have l:=Za (yd ([XS] ++ Yv.map (·.terms)))
 have e:(yd ([XS] ++ Yv.map (·.terms))).length=3:=rfl
 have m:(zy Yv [XS]).length<=3:=by rw [<- e];exact l
 omega
theorem zqa:yK Yv:=⟨by decide,by decide,by decide,by decide,fun _=>⟨by decide,by decide⟩⟩
theorem zuu:zdw Yv XS 6 (fun _=>3) (fun i=>if i=0 then 2 else 0):=by
 have j:yX ⟨[120],[49]⟩=1:=by unfold yX;rw [rd1];rfl
 have e:yX ⟨[120],[50]⟩=2:=by unfold yX;rw [rd2];rfl
 have cm:yX ⟨[120],[45,49]⟩= -1:=by unfold yX;rw [rdm];rfl
 have l:YR ⟨[⟨[120],[45,49]⟩],[48]⟩=0:=by unfold YR;rw [rd0];rfl
 have b:YR ⟨[⟨[120],[49]⟩],[51]⟩=3:=by unfold YR;rw [rd3];rfl
 refine ⟨fun i hi=>?_,?_,fun i hi=>?_,fun Z=>?_,?_⟩
 . have h:i=0\/i=1:=by have:i<2:=hi;omega
   rcases h with rfl | rfl
   . show yX ⟨[120],[49]⟩*3+0<=YR ⟨[⟨[120],[49]⟩],[51]⟩
     rw [j,b];grind
   . show yX ⟨[120],[45,49]⟩*3+0<=YR ⟨[⟨[120],[45,49]⟩],[48]⟩
     rw [cm,l];grind
 . show yX ⟨[120],[50]⟩*3+0=6
   rw [e];grind
 . split<;>decide
 . show 0+2*(yX ⟨[120],[49]⟩*Z [120]+0)+0*(yX ⟨[120],[45,49]⟩*Z [120]+0)=yX ⟨[120],[50]⟩*Z [120]+0
   rw [j,cm,e];grind
 . show 0+2*YR ⟨[⟨[120],[49]⟩],[51]⟩+0*YR ⟨[⟨[120],[45,49]⟩],[48]⟩<=6
   rw [l,b];grind
theorem ZU (w:World):Calls prog 7 #[] w (zj3 w (.bool true)):=by
 have m:=fun w=>ztl ⟨#[49,47,50]⟩ ⟨#[49,47,51]⟩ w (by decide) (by decide)
 have G:op2 (· + ·) (bts ⟨#[49,47,50]⟩) (bts ⟨#[49,47,51]⟩)=([53,47,54],0):=zwm
 simp only [G] at m
 have R:=fun w=>zi3 zs9 zmt Yv [120] w zt5 zjl
 have K:=ze m
 have S:=ze R
 clear m R G
 go_in
 go_wp2_with fail
 refine (K.o _).mono ?_
 rintro e w1 ⟨rfl,U⟩
 have b:=ze U
 clear U K
 go_wp2_with fail
 refine (S.o _).mono ?_
 rintro e w2 ⟨A,c,rfl,M,Q⟩
 replace b:=eb_ b Q
 have HR:=ze M
 clear Q M S
 have j:=zf w2 (.cells #[.string ⟨#[120]⟩,.string ⟨#[50]⟩] 44)
 have N:yu (w2.alloc (.cells #[.string ⟨#[120]⟩,.string ⟨#[50]⟩] 44)) (.slice (some ⟨w2.heap.size,0,none⟩) 1 1) XS:=
  ⟨some ⟨w2.heap.size,0,none⟩,1,rfl,uA,by unfold maxLen;omega,by decide,⟨rfl,fun _=>⟨_,rfl,by simp,zh9⟩⟩,fun x j=>by obtain rfl:=List.mem_singleton.1 j;exact ⟨by unfold yc;decide,by unfold yc;decide⟩⟩
 obtain ⟨kd,val,X⟩:=zgg (goal:=XS) zqa (by decide)
 obtain ⟨T,O⟩:=X zov
 obtain ⟨rfl,L⟩:=zg2 O (.inl ⟨rfl,_,_,zuu⟩)
 obtain rfl:=L rfl
 have hu:=zjd zov
 have u:=Xh Yv.length c 1 1 A (some ⟨w2.heap.size,0,none⟩) Yv XS 1 6 _ ((zR.below HR.o j).more j.size) N (fun _=>by rw [zjl.err0.2];decide) (fun _=>by omega) (fun _=>T)
 rw [zov] at u
 have I:=ze u
 replace b:=eb_ b j
 clear u N j X T O L hu
 go_wp2_with fail
 refine I.o.mono ?_
 rintro e w3 ⟨k,s,r,E,D,n1,y,F,z,l,B,rfl,Y,V⟩
 obtain ⟨rfl,rfl⟩:=Y rfl
 have Z:zcv 1 6=[54]:=by unfold zcv;rw [if_pos rfl,zw2]
 rw [Z]
 replace b:=eb_ b V
 clear V I
 have j:=zf w3 (.cells #[.int .u8 1,str [54],.slice r n1 y,.slice E F z,.slice D l B] 29)
 have J:=Blk.new w3 29 #[.int .u8 1,str [54],.slice r n1 y,.slice E F z,.slice D l B]
 have C:=ze J
 replace b:=eb_ b j
 clear j J
 go_upto_region 4 with fail
 generalize w3.alloc (.cells #[.int .u8 1,str [54],.slice r n1 y,.slice E F z,.slice D l B] 29)=W4 at b C |-
 generalize w3.heap.size=g at C |-
 obtain ⟨r0,r1,_⟩:=bq2 C
 go_wp2
 go_ret
 exact ⟨rfl,b.o⟩
theorem yK.names {l:List zS} (h:yK l):(yd (l.map (·.terms))).length<=400:=by
 rw [zch];exact h.2.2.1
theorem ze1 (rows:List zS):(zy rows []).length<=(yd (rows.map (·.terms))).length:=Za _
theorem zdf {l:List UInt8} {q:Rat} {M:Nat} (h:zj l=some q) (hl:l.length<=M) (hM:1<=M):Dz M q:=by
 have e:=(yA.1 h).1
 have j:(dec q.num.natAbs).length<=l.length:=by
  rw [e];unfold ya
  rw [List.length_append,List.length_append];omega
 have b:(dec q.den).length<=M:=by
  by_cases hd:q.den=1
  . rw [hd,zm0];exact hM
  have:(dec q.den).length<=l.length:=by
   rw [e];unfold ya;rw [List.length_append,if_neg hd,List.length_cons];omega
  omega
 exact yz.sz ⟨by omega,b⟩
theorem zf4 {l:List zr} (h:yh l=0) {k:Nat} (hk:k<l.length):∃ q,zj (l.getD k default).coef=some q:=by
 have j:=yT.1 h k hk
 unfold vj at j
 split at j
 . omega
 split at j
 . omega
 rename_i m
 have b:xZ (l.getD k default).coef=0:=by
  by_cases e:xZ (l.getD k default).coef=0
  . exact e
  exact absurd e m
 unfold xZ at b
 cases hr:zj (l.getD k default).coef with
 | none=>rw [hr] at b;simp at b
 | some q=>exact ⟨q,rfl⟩
theorem zt8 {p:List zr} (hb:zE p<=1000) (s:List UInt8):Dz 1000 (Zq p s):=by
 have b:∀ t∈p,t.coef.length<=1000:=fun t ht=>by
  have:=xD (fun t:zr=>t.name.length+t.coef.length) p t ht
  unfold zE at hb
  have e:t.name.length+t.coef.length<=(p.map fun t=>t.name.length+t.coef.length).sum:=this
  omega
 clear hb
 induction p with
 | nil=>exact Dz.zero _
 | cons t p ih=>
   unfold Zq
   split
   rotate_left
   . exact ih (fun t ht=>b t (List.mem_cons_of_mem _ ht))
   cases hr:zj t.coef with
   | none=>exact Dz.zero _
   | some q=>exact zdf hr (b t (uP ..)) (by omega)
theorem zfw {l p:List zr} (hl:l.length<=400) (hb:zE l<=8000) (he:yh l=0) (hp:zE p<=1000) (hpe:xm p=0):Xx l p:=by
 refine ⟨hl,fun k hk=>?_,zga.of hpe,1000,by omega,by omega,zt8 hp⟩
 obtain ⟨q,b⟩:=zf4 he hk
 have e:=xGD (d:=default) hk
 have j:=xD (fun t:zr=>t.name.length+t.coef.length) l _ (uO hk)
 have m:l[k].name.length+l[k].coef.length<=zE l:=j
 exact ⟨q,b,zdf b (by rw [e];omega) (by omega)⟩
theorem zg5 {rows:List zS} (h:yB rows=0) {k:Nat} (hk:k<rows.length):yh (rows.getD k default).terms=0/\∃ q,zj (rows.getD k default).bound=some q:=by
 unfold yB at h
 split at h
 . omega
 split at h
 . rename_i l;exact absurd h l
 rename_i l
 have m:xt rows.length (fun i=>xz (rows.getD i default))=0:=by
  by_cases e:xt rows.length (fun i=>xz (rows.getD i default))=0
  . exact e
  exact absurd e l
 have b:=yT.1 m k hk;unfold xz at b
 split at b
 . rename_i j;exact absurd b j
 rename_i j
 refine ⟨by
  by_cases e:yh (rows.getD k default).terms=0
  . exact e
  exact absurd e j,?_⟩
 unfold xP at b
 cases hr:zj (rows.getD k default).bound with
 | none=>rw [hr] at b;simp at b
 | some q=>exact ⟨q,rfl⟩
theorem zkx {rows:List zS} {p:List zr} (hs:yK rows) (he:yB rows=0) (hp:zE p<=1000) (hpe:xm p=0) (k:Nat) (hk:k<rows.length):zlo p (rows.getD k default):=by
 obtain ⟨j,q,b⟩:=zg5 he hk
 have e:=xGD (d:=default) hk
 have l:=xD (fun r:zS=>r.bound.length+zE r.terms) rows _ (uO hk)
 have B:rows[k].bound.length+zE rows[k].terms<=vX rows:=l
 have m:=xD (fun r:zS=>r.terms.length) rows _ (uO hk)
 have z:rows[k].terms.length<=yV rows:=m
 obtain ⟨_,_,u,y,_⟩:=hs
 rw [e] at j b |-
 exact ⟨zfw (by omega) (by omega) j hp hpe,q,b,zdf b (by omega) (by omega)⟩
section
variable {rows:List zS} {ws:Nat->Rat}
theorem YW {n:Nat} (hn:n<rows.length):rows.getD n default∈rows:=by
 have e:=xGD (d:=default) hn
 rw [e];exact uO hn
theorem zfu (hg:∀ r∈rows,ZO r) (s:List UInt8):∀ n,n<=rows.length->(YZ rows ws n s).getD 0=Yq rows ws s n/\((YZ rows ws n s).isSome=true↔s∈zel rows ws n)
 | 0,_=>⟨rfl,by simp [YZ,noF,zel]⟩
 | n+1,hn=>by
   have e:=zfu hg s n (by omega);have j:=zjj (wt:=ws n) (s:=s) (F:=YZ rows ws n) (hg _ (YW (n:=n) (by omega))).name;unfold YZ Yq zel
   by_cases b:ws n=0
   . rw [if_pos b,if_pos b,if_pos b];exact e
   rw [if_neg b,if_neg b,if_neg b,j.1,j.2,e.1]
   refine ⟨rfl,?_⟩;rw [e.2,List.mem_append]
theorem zi4 (hg:∀ r∈rows,ZO r) (s:List UInt8):nzF (YZ rows ws rows.length) s=if Yq rows ws s rows.length=0 then none else some (Yq rows ws s rows.length):=by
 obtain ⟨b,l⟩:=zfu (ws:=ws) hg s rows.length (uA)
 unfold nzF
 cases hf:YZ rows ws rows.length s with
 | none=>
   rw [hf] at b;have b:Yq rows ws s rows.length=0:=b.symm;rw [if_pos b,ite_self]
 | some c=>
   rw [hf] at b;have b:Yq rows ws s rows.length=c:=b.symm;rw [b]
   by_cases j:c=0
   . rw [if_pos j,if_pos (by rw [j])]
   rw [if_neg j,if_neg (fun e=>j (by injection e))]
def jnL (rows:List zS) (ws:Nat->Rat):List (List UInt8):=(xd (zel rows ws rows.length)).filter fun s=>decide (Yq rows ws s rows.length≠0)
def jnT (rows:List zS) (ws:Nat->Rat):List zr:=(jnL rows ws).map fun s=>{ name:=s,coef:=ya (Yq rows ws s rows.length) }
theorem ziz (hg:∀ r∈rows,ZO r):zkf (jnL rows ws) (nzF (YZ rows ws rows.length)):=by
 refine ⟨(yn _).1.sublist List.filter_sublist,fun x=>?_⟩
 unfold jnL
 rw [List.mem_filter,(yn _).2 x,zi4 hg x]
 by_cases b:Yq rows ws x rows.length=0
 . rw [if_pos b];simp [b]
 rw [if_neg b]
 simp only [Option.isSome_some,iff_true];refine ⟨?_,uE b⟩;obtain ⟨e,j⟩:=zfu (ws:=ws) hg x rows.length (uA);refine j.1 ?_
 cases hf:YZ rows ws rows.length x with
 | none=>rw [hf] at e;exact absurd e.symm b
 | some c=>rfl
instance:DecidableEq zr:=fun a b=>decidable_of_iff (a.name=b.name/\a.coef=b.coef) ⟨fun h=>by cases a;cases b;simp_all,fun h=>by subst h;exact ⟨rfl,rfl⟩⟩
def Xm (k:Nat) (F:List UInt8->Option Rat) (Q:Rat) (row:Option zS):Bool:=
 (decide (k=0) && decide (Q<0)) || match row with
   | none=>false
   | some r=>decide (k=r.terms.length) && (r.terms.all (fun t=>decide (F t.name=some (yX t))) && decide (Q<=YR r))
def zbm (rows:List zS) (ws:Nat->Rat):Bool:=decide (jnT rows ws=[]) && decide (Y0 rows ws rows.length<0)
def zl7 (rows:List zS) (ws:Nat->Rat) (r:zS):Bool:=decide (jnT rows ws=r.terms) && decide (Y0 rows ws rows.length<=YR r)
def zea (rows:List zS) (l:List (List UInt8)):Bool:=vT l rows.length && zbm rows (Zx l)
def zrt (rows:List zS) (r:zS) (l:List (List UInt8)):Bool:=vT l rows.length && zl7 rows (Zx l) r
def ZT (rows:List zS) (row:Option zS) (l:List (List UInt8)):Bool:=vT l rows.length && Xm (jnL rows (Zx l)).length (nzF (YZ rows (Zx l) rows.length)) (Y0 rows (Zx l) rows.length) row
structure zc7 (r:zS):Prop where
 coef:∀ t∈r.terms,∃ q,zj t.coef=some q/\q≠0/\yz 12 q
 bnd:∃ q,zj r.bound=some q/\Dz 2000 q
theorem zc7.bq {r:zS} (h:zc7 r):zj r.bound=some (YR r)/\Dz 2000 (YR r):=by
 obtain ⟨q,b,j⟩:=h.bnd
 have e:YR r=q:=by unfold YR;rw [b];rfl
 rw [e]
 exact ⟨b,j⟩
theorem ze9:jnT rows ws=[]↔(jnL rows ws).length=0:=by
 unfold jnT
 rw [List.map_eq_nil_iff,List.length_eq_zero_iff]
theorem znd {Q:Rat} (h:Q=Y0 rows ws rows.length):Xm (jnL rows ws).length (nzF (YZ rows ws rows.length)) Q none=zbm rows ws:=by
 subst h
 unfold Xm zbm
 rw [Bool.or_false]
 congr 1
 exact decide_eq_decide.2 ze9.symm
theorem zox {l m:List (List UInt8)} (hl:zih l) (hm:zih m) (h:∀ x∈l,x∈m) (hn:m.length<=l.length):l=m:=by
 refine YC l m hl hm (fun x=>⟨h x,fun hx=>?_⟩)
 refine Classical.byContradiction fun hn2=>?_
 have e:=zbq (l:=x :: l) (ns:=m) (List.nodup_cons.2 ⟨hn2,vS hl⟩) (fun y b=>by
  rcases List.mem_cons.1 b with rfl | b
  . exact hx
  . exact h y b)
 rw [List.length_cons] at e
 omega
theorem zhj:(jnT rows ws).map (·.name)=jnL rows ws:=by
 unfold jnT
 rw [List.map_map]
 exact (List.map_congr_left (fun x _=>rfl)).trans (List.map_id _)
theorem znn (hg:∀ r∈rows,ZO r) {r:zS} (hr:zc7 r) (hi:zih (r.terms.map (·.name))) (hs:∀ s,yz 50000 (Yq rows ws s rows.length)):
 Xm (jnL rows ws).length (nzF (YZ rows ws rows.length)) (Y0 rows ws rows.length) (some r)=(zbm rows ws || zl7 rows ws r):=by
 have z:(decide ((jnL rows ws).length=0) && decide (Y0 rows ws rows.length<0))=zbm rows ws:=by
  unfold zbm
  congr 1
  exact decide_eq_decide.2 ze9.symm
 have F:(decide ((jnL rows ws).length=r.terms.length) && r.terms.all (fun t=>decide (nzF (YZ rows ws rows.length) t.name=some (yX t))))=decide (jnT rows ws=r.terms):=by
  rw [Bool.eq_iff_iff,Bool.and_eq_true,decide_eq_true_eq,decide_eq_true_eq,List.all_eq_true]
  constructor
  rotate_left
  . intro h
    refine ⟨by rw [<- h];unfold jnT;rw [List.length_map],fun t b=>?_⟩;rw [<- h] at b;unfold jnT at b;obtain ⟨x,l,rfl⟩:=List.mem_map.1 b;have j:Yq rows ws x rows.length≠0:=by unfold jnL at l;simpa using (List.mem_filter.1 l).2
    refine uE ?_
    show nzF (YZ rows ws rows.length) x=_
    rw [zi4 hg,if_neg j];unfold yX;rw [ZB (hs x)];rfl
  rintro ⟨D,B⟩
  have u:∀ t∈r.terms,Yq rows ws t.name rows.length≠0/\Yq rows ws t.name rows.length=yX t:=fun t b=>by
   have e:nzF (YZ rows ws rows.length) t.name=some (yX t):=by simpa using B t b
   rw [zi4 hg] at e
   by_cases j:Yq rows ws t.name rows.length=0
   . rw [if_pos j] at e;cases e
   rw [if_neg j] at e;exact ⟨j,by injection e⟩
  have E:r.terms.map (·.name)=jnL rows ws:=by
   refine zox hi (ziz hg).1 (fun x l=>?_) (by rw [List.length_map,D];exact uA);obtain ⟨t,b,rfl⟩:=List.mem_map.1 l;rw [(ziz hg).2,zi4 hg,if_neg (u t b).1];rfl
  unfold jnT;rw [<- E,List.map_map];refine (List.map_congr_left (fun t b=>?_)).trans (List.map_id _);obtain ⟨q,m,_⟩:=hr.coef t b;have y:yX t=q:=by unfold yX;rw [m];rfl
  have C:=(yA.1 m).1
  show zr.mk t.name (ya (Yq rows ws t.name rows.length))=t
  rw [(u t b).2,y, <- C]
 show (_ || (_ && (_ && _)))=_
 rw [z, <- Bool.and_assoc,F]
 rfl
end
structure Vh (rows:List zS) (ws:Nat->Rat):Prop where
 small:yK rows
 ok:yB rows=0
 wt:∀ i,i<rows.length->Dz 2000 (ws i)/\0<=ws i
theorem zpy {e:Nat} {q:Rat} (h:Dz e q) (he:e<=40000):yc (ya q):=by
 have b:=Dz.short h (Nat.lt_succ_self e)
 unfold ya yc
 have r:=b.1
 have m:=b.2
 by_cases l:q.num<0<;>by_cases j:q.den=1<;>simp [l,j]<;>omega
theorem rlE {e:Nat} {q:Rat} (h:Dz e q) (he:e<=40000):xJ 8388608 q:=(xJ.of_dz h).more (by omega)
theorem nlE {e:Nat} {q:Rat} (h:Dz e q) (he:e<=40000):zut 8388608 q:=(Dz.nlen h).mono (by omega)
section
variable {rows:List zS} {ws:Nat->Rat}
theorem Vh.few (h:Vh rows ws):rows.length<=12:=by
 have:=(zc9 h.ok).1
 rcases h.small.2.1 with h | h<;>omega
theorem Vh.good (h:Vh rows ws):∀ r∈rows,ZO r:=(zc9 h.ok).2
theorem Vh.col (h:Vh rows ws) (s:List UInt8):∀ n,n<=rows.length->Dz (n*2020+12) (Yq rows ws s n)
 | 0,_=>Dz.zero _
 | n+1,hn=>by
   have b:=h.col s n (by omega);unfold Yq
   by_cases e:ws n=0
   . rw [if_pos e];exact b.more (by omega)
   rw [if_neg e]
   exact Dz.add b (Dz.mul (ztk (h.good _ (YW (n:=n) (by omega))) s) (h.wt n (by omega)).1 (uA)) (by omega)
theorem Vh.bnd (h:Vh rows ws):∀ n,n<=rows.length->Dz (n*2020+12) (Y0 rows ws n)
 | 0,_=>Dz.zero _
 | n+1,hn=>by
   have b:=h.bnd n (by omega);unfold Y0
   by_cases e:ws n=0
   . rw [if_pos e];exact b.more (by omega)
   rw [if_neg e]
   exact Dz.add b (Dz.mul (zb0 (h.good _ (YW (n:=n) (by omega)))).2.sz (h.wt n (by omega)).1 (uA)) (by omega)
theorem Vh.sus (h:Vh rows ws):zvl rows ws where
 few:=by have:=h.few;omega
 ok:=fun i hi hw=>by
  have y:=h.few
  have m:=YW hi
  have b:=h.good _ m
  have e:=(h.wt i hi).1
  refine ⟨fun t ht=>?_,rlE e (by omega),fun k hk x=>?_,⟨_,(zb0 b).1,rlE (zb0 b).2.sz (by omega),rlE (Dz.mul (zb0 b).2.sz e (uA)) (by omega)⟩,(h.small.each.2 _ m).2.1,rlE (h.bnd i (by omega)) (by omega)⟩
  . obtain ⟨c,j,_,r⟩:=b.coef t ht
    exact ⟨c,j,rlE r.sz (by omega),rlE (Dz.mul r.sz e (uA)) (by omega)⟩
  have j:=zjj (wt:=ws i) (s:=x) (l:=(rows.getD i default).terms.take k) (F:=YZ rows ws i) (b.name.sublist ((List.take_sublist k _).map _))
  rw [j.1,(zfu h.good x i (by omega)).1];have u:=Dz.add (h.col x i (by omega)) (Dz.mul (zns b k x) e (Nat.le_refl (12+2000))) (Nat.le_refl (i*2020+12+(12+2000)+1));exact rlE u (by omega)
theorem Vh.keys (h:Vh rows ws):zkf (jnL rows ws) (nzF (YZ rows ws rows.length)):=ziz h.good
theorem Vh.bound (h:Vh rows ws):xJ 8388608 (Y0 rows ws rows.length)/\zut 8388608 (Y0 rows ws rows.length)/\yc (ya (Y0 rows ws rows.length))/\zj (ya (Y0 rows ws rows.length))=some (Y0 rows ws rows.length):=by
 have b:=h.bnd _ (uA)
 have e:=h.few
 exact ⟨rlE b (by omega),nlE b (by omega),zpy b (by omega),ZB (Dz.short b (by omega))⟩
theorem Vh.vals (h:Vh rows ws) (s:List UInt8) (q:Rat) (hq:nzF (YZ rows ws rows.length) s=some q):xJ 8388608 q:=by
 rw [zi4 h.good] at hq
 by_cases b:Yq rows ws s rows.length=0
 . rw [if_pos b] at hq;cases hq
 rw [if_neg b] at hq
 injection hq with hq
 rw [<- hq];exact rlE (h.col s _ (uA)) (by have:=h.few;omega)
theorem zi1 (hs:yK rows) (h0:yB rows=0) {l:List (List UInt8)} (hl:∀ t∈l,t.length<=2000) (hw:vT l rows.length=true):Vh rows (Zx l):=by
 unfold vT at hw
 rw [Bool.and_eq_true,decide_eq_true_eq,List.all_eq_true] at hw
 refine ⟨hs,h0,fun i hi=>?_⟩
 have j:i<l.length:=by omega
 have e:l.getD i []=l[i]:=by simp [List.getD,List.getElem?_eq_getElem j]
 have b:=hw.2 _ (uO j)
 unfold Zx
 rw [e]
 unfold zmm at b |-
 cases hr:zj l[i] with
 | none=>rw [hr] at b;cases b
 | some q=>
   rw [hr] at b;simp only at b |-
   by_cases m:q<0
   . rw [if_pos m] at b;cases b
   rw [if_neg m]
   exact ⟨zdf hr (hl _ (uO j)) (by omega),Rat.not_lt.1 m⟩
theorem Vh.prov (h:Vh rows ws) {r:zS} (hr:zc7 r) (hi:zih (r.terms.map (·.name))):
 Xm (jnL rows ws).length (nzF (YZ rows ws rows.length)) (Y0 rows ws rows.length) (some r)=(zbm rows ws || zl7 rows ws r):=
 znn h.good hr hi (fun s=>Dz.short (h.col s _ (uA)) (by have:=h.few;omega))
theorem Vh.excl (h:Vh rows ws) {p:List zr} (hp:∀ k,k<rows.length->zfr p rows k=false):zbm rows ws=false:=by
 refine Bool.eq_false_iff.2 fun hh=>?_
 unfold zbm at hh
 rw [Bool.and_eq_true,decide_eq_true_eq,decide_eq_true_eq,ze9,List.length_eq_zero_iff] at hh
 obtain ⟨C,z⟩:=hh
 have E:∀ x,Yq rows ws x rows.length=0:=fun x=>by
  refine Classical.byContradiction fun b=>?_
  have:=h.keys.2 x
  rw [zi4 h.good,if_neg b,C] at this
  exact absurd (this.2 rfl) (by simp)
 have key:∀ n,n<=rows.length->zf9 p (fun x=>Yq rows ws x n) (xd (yd (rows.map (·.terms))))<=Y0 rows ws n:=by
  intro n
  induction n with
  | zero=>
    intro _
    show zf9 p (fun _=>(0:Rat)) _<=0
    rw [V5 _ (fun x _=>rfl)];exact Rat.le_refl
  | succ n ih=>
    intro u;have m:=YW (n:=n) u;have D:=h.good _ m
    have y:∀ t∈(rows.getD n default).terms,t.name∈xd (yd (rows.map (·.terms))):=fun t e=>
     ((yn _).2 _).2 (List.mem_flatMap.2 ⟨_,List.mem_map.2 ⟨_,m,rfl⟩,List.mem_map.2 ⟨t,e,rfl⟩⟩)
    have e:=zm6 (p:=p) D.name (vS (yn (yd (rows.map (·.terms)))).1) y _ (uA);rw [List.take_length] at e;have hb:=hp n u;have B:XI p (rows.getD n default).terms (rows.getD n default).terms.length<=YR (rows.getD n default):=Rat.not_lt.1 (of_decide_eq_false hb)
    by_cases b:ws n=0
    . have j:(fun x=>Yq rows ws x (n+1))=fun x=>Yq rows ws x n:=funext fun x=>by
       show (if ws n=0 then Yq rows ws x n else _)=_
       rw [if_pos b]
      have l:Y0 rows ws (n+1)=Y0 rows ws n:=by
       show (if ws n=0 then Y0 rows ws n else _)=_
       rw [if_pos b]
      rw [j,l];exact ih (by omega)
    have j:(fun x=>Yq rows ws x (n+1))=fun x=>Yq rows ws x n+Zq (rows.getD n default).terms x*ws n:=funext fun x=>by
     show (if ws n=0 then Yq rows ws x n else _)=_
     rw [if_neg b]
    have l:Y0 rows ws (n+1)=Y0 rows ws n+YR (rows.getD n default)*ws n:=by
     show (if ws n=0 then Y0 rows ws n else _)=_
     rw [if_neg b]
    rw [j,l,zjm (f:=fun x=>Yq rows ws x n) (g:=fun x=>Zq (rows.getD n default).terms x*ws n),znk, <- e];exact Rat.le_trans (Rat.add_le_add_right.2 (ih (by omega))) (Rat.add_le_add_left.2 (Rat.mul_le_mul_of_nonneg_right B (h.wt n (by omega)).2))
 have r:=key _ (uA)
 rw [V5 _ (fun x _=>E x)] at r
 exact absurd z (Rat.not_lt.2 r)
end
theorem Zw.count {w:World} {g:Nat} {F:List UInt8->Option Rat} {l:List (List UInt8)} (h:Zw w g F) (hk:zkf l F):∃ e j,w.heap[g]?=some (.map e j)/\e.size=l.length:=by
 obtain ⟨D,⟨e,j,hb,z,_⟩,r,hF⟩:=h
 have m:∀ x,x∈D.map (·.1)↔(F x).isSome=true:=fun x=>by
  have:=hF x
  constructor
  . intro b
    obtain ⟨p,u,rfl⟩:=List.mem_map.1 b;rw [YM (v:=p.2) r u] at this;obtain ⟨q,y,_⟩:=this;rw [y];rfl
  intro b
  cases hg:VW x D with
  | none=>rw [hg] at this;rw [this] at b;cases b
  | some v=>exact List.mem_map.2 ⟨_,zf3 hg,rfl⟩
 have E:e.size=D.length:=by have:=congrArg List.length z;simpa [XH] using this
 have C:=zbq r (fun x b=>(hk.2 x).2 ((m x).1 b))
 have B:=zbq (vS hk.1) (fun x b=>(m x).2 ((hk.2 x).1 b))
 rw [List.length_map] at C B
 exact ⟨e,j,hb,by omega⟩
theorem zi8 {w:World} {g:Nat} {t:TypeId} {v:Value} {cs:List Value} (h:Blk w g t (v :: cs).toArray) (hn:Yu w g):False:=by
 have b:=h.cell 0
 rw [hn ⟨g,0,none⟩ rfl] at b
 simp at b
theorem zln:prog.underlying 119=some (.map (prog.mapKeyOf 119) (prog.mapElemOf 119)):=by kernel_rfl
theorem Zw.len {w:World} {g:Nat} {F:List UInt8->Option Rat} {l:List (List UInt8)} (h:Zw w g F) (hk:zkf l F) (ty:TypeId):
 (Builtin.len_ #[119] ty #[.map (some g)]).run prog w= .ok (.int .i64 (l.length:Int)) w:=by
 obtain ⟨b,j,hb,e⟩:=h.count hk
 rw [run_len_map w 119 ty g b j zln hb,e]
 rfl
def zeo (w:World) (B:Nat) (rv:Value):Option zS->Prop
 | none=>rv= .pointer none
 | some r=>∃ g A n c,rv= .pointer (some ⟨g,0,none⟩)/\g<B/\Blk w g 31 #[.slice A n c,str r.bound]/\zh w B (.slice A n c) r.terms
theorem zeo.chg {S:Nat->Prop} {w w' :World} {B:Nat} {rv:Value} {row:Option zS} (h:zeo w B rv row) (hc:Chg S w w') (hS:∀ x,x<B->S x->Yu w x):zeo w' B rv row:=by
 cases row with
 | none=>exact h
 | some r=>
   obtain ⟨g,A,n,c,e,j,b,l⟩:=h;exact ⟨g,A,n,c,e,j,hc.blk b (fun hs=>zi8 b (hS g j hs)),l.chg hc hS⟩
structure zwh (w0 w:World) (b gm gs B:Nat) (rv:Value) (row:Option zS) (F:List UInt8->Option Rat) (Q:Rat):Prop where
 book:zu w b
 map:Zw w gm F
 box:yP w gs gm Q
 ptr:zeo w B rv row
 neb:gm≠b
 chg:Chg (fun x=>x=b\/B<=x) w0 w
section
variable {w0 w w' :World} {b gm gs B:Nat} {rv:Value} {row:Option zS} {F:List UInt8->Option Rat} {Q:Rat}
theorem zwh.below (h:zwh w0 w b gm gs B rv row F Q) (hb:Below w.heap.size w w'):zwh w0 w' b gm gs B rv row F Q:=
 ⟨h.book.below hb,h.map.below hb,h.box.below hb,h.ptr.chg (S:=fun _=>False) (Chg.of_below hb) (fun _ _ h=>h.elim),h.neb,zD h.chg hb⟩
end
structure zqs (w0 w:World) (b gm gs gr B:Nat) (tv:Value) (r:zS) (F:List UInt8->Option Rat) (Q:Rat):Prop where
 book:zu w b
 map:Zw w gm F
 box:yP w gs gm Q
 blk:Blk w gr 31 #[tv,str r.bound]
 terms:zh w B tv r.terms
 neb:gm≠b
 chg:Chg (fun x=>x=b\/B<=x) w0 w
section
variable {w0 w w' :World} {b gm gs gr B:Nat} {tv:Value} {r:zS} {F:List UInt8->Option Rat} {Q:Rat}
theorem zqs.below (h:zqs w0 w b gm gs gr B tv r F Q) (hb:Below w.heap.size w w'):zqs w0 w' b gm gs gr B tv r F Q:=by
 have e:=h.blk
 exact ⟨h.book.below hb,h.map.below hb,h.box.below hb,e.below hb e.lt,zh.below h.terms hb,h.neb,zD h.chg hb⟩
theorem zqs.read (h:zqs w0 w b gm gs gr B tv r F Q) (hB:zu w' b) (hc:Chg (· =b) w w'):zqs w0 w' b gm gs gr B tv r F Q:=by
 obtain ⟨cs,l⟩:=h.box.blk
 have j:∀ y,y=b->zO w y:=fun y e=>by subst e;exact h.book.noDig
 exact ⟨hB,h.map.chg hc h.neb j,h.box.chg hc (fun e=>h.book.neB l e.symm) j,h.book.keepBlk hc h.blk,h.book.keepT hc h.terms,h.neb,h.chg.trans hc (fun x _ e=>.inl e)⟩
end
theorem zfl (x y:Rat):XG x y=0↔x=y:=by
 unfold XG
 by_cases b:x<y
 . rw [if_pos b]
   exact ⟨fun h=>(by cases h),fun h=>(by subst h;exact absurd b Rat.lt_irrefl)⟩
 rw [if_neg b]
 by_cases e:y<x
 . rw [if_pos e]
   exact ⟨fun h=>(by cases h),fun h=>(by subst h;exact absurd e Rat.lt_irrefl)⟩
 rw [if_neg e]
 exact ⟨fun _=>Rat.le_antisymm (Rat.not_lt.1 e) (Rat.not_lt.1 b),fun _=>rfl⟩
def zvi (w:World) (b:Nat) (z:Bool) (e:Ending) (w' :World):Prop:=e= .returned (.bool z)/\zu w' b/\Chg (fun x=>x=b\/w.heap.size<=x) w w'
def zvg (F:List UInt8->Option Rat) (t:zr):Bool:=decide (F t.name=some (yX t))
def PrvR (w0:World) (b gm gs gr:Nat) (tv:Value) (r:zS) (F:List UInt8->Option Rat) (Q:Rat) (kv:Value) (wr:World):Prop:=
 ∃ k:Nat,k<=r.terms.length/\kv= .int .i64 k/\Hid (∀ j,j<k->zvg F (r.terms.getD j default)=true)/\Hid (zqs w0 wr b gm gs gr w0.heap.size tv r F Q)
theorem zva {k:Nat} {F:List UInt8->Option Rat} {Q:Rat} {d:Bool} (h:(decide (k=0) && decide (Q<0))=d):d=true->∀ row,Xm k F Q row=true:=fun hd row=>by
 unfold Xm
 rw [h,hd];rfl
theorem zrr {k:Nat} {F:List UInt8->Option Rat} {Q:Rat} {r:zS} (h:(decide (k=0) && decide (Q<0))=false) (hk:¬ k=r.terms.length):Xm k F Q (some r)=false:=by
 unfold Xm
 rw [h,Bool.false_or]
 show (decide _ && _)=false
 rw [uF hk,Bool.false_and]
theorem zlk {k:Nat} {F:List UInt8->Option Rat} {Q:Rat} (h:(decide (k=0) && decide (Q<0))=false):Xm k F Q none=false:=by
 unfold Xm
 rw [h];rfl
theorem zmu {k i:Nat} {F:List UInt8->Option Rat} {Q:Rat} {r:zS} (h:(decide (k=0) && decide (Q<0))=false) (hi:i<r.terms.length) (hm:zvg F r.terms[i]=false):Xm k F Q (some r)=false:=by
 unfold Xm
 rw [h,Bool.false_or]
 show (_ && (_ && _))=false
 have e:(r.terms.all (fun t=>decide (F t.name=some (yX t))))=false:=by
  refine Bool.eq_false_iff.2 fun hh=>?_
  have:=List.all_eq_true.1 hh _ (uO hi)
  rw [show decide (F r.terms[i].name=some (yX r.terms[i]))=false from hm] at this
  cases this
 rw [e,Bool.false_and,Bool.and_false]
theorem zqg {k:Nat} {F:List UInt8->Option Rat} {Q:Rat} {r:zS} (h:(decide (k=0) && decide (Q<0))=false) (hk:k=r.terms.length) (hm:∀ j,j<r.terms.length->zvg F (r.terms.getD j default)=true):Xm k F Q (some r)=decide (Q<=YR r):=by
 unfold Xm
 rw [h,Bool.false_or]
 show (decide _ && (_ && _))=_
 have e:(r.terms.all (fun t=>decide (F t.name=some (yX t))))=true:=List.all_eq_true.2 fun t ht=>by
  obtain ⟨i,hi,rfl⟩:=List.mem_iff_getElem.1 ht
  have:=hm i hi
  rwa [show r.terms.getD i default=r.terms[i] by simp [List.getD,List.getElem?_eq_getElem hi]] at this
 rw [uE hk,e,Bool.true_and,Bool.true_and]
theorem zr6 (x y:Rat):decide (XG x y<=0)=decide (x<=y):=by
 unfold XG
 by_cases e:x<y
 . rw [if_pos e,uE (Rat.le_of_lt e)];rfl
 rw [if_neg e]
 by_cases b:y<x
 . rw [if_pos b,uF (Rat.not_le.2 b)];rfl
 rw [if_neg b,uE (Rat.not_lt.1 b)];rfl
theorem zrz (x:Rat):decide (XG x 0<0)=decide (x<0):=by
 unfold XG
 by_cases b:x<0
 . rw [if_pos b,uE b];rfl
 rw [if_neg b,uF b]
 by_cases e:0<x
 . rw [if_pos e];rfl
 rw [if_neg e];rfl
theorem zdk (b:Nat) (A AW:Option Addr) (n c nw cw:Nat) (rv:Value) (rows:List zS) (l:List (List UInt8)) (row:Option zS) (w:World) (hB:zu w b) (hr:Zi w (.slice A n c) rows) (hl:zT w w.heap.size (.slice AW nw cw) l) (hp:zeo w w.heap.size rv row)
 (ho:vT l rows.length=true->Vh rows (Zx l)) (hrow:∀ r,row=some r->zc7 r/\yc r.bound):
 Calls prog 23 #[.map (some b),.slice A n c,.slice AW nw cw,rv] w (zvi w b (ZT rows row l)):=by
 obtain rfl:=hr.len
 have bb:rows.length<=100000:=by obtain ⟨_,_,_,_,_,_,h,_⟩:=id hr;exact h
 have bg:=zfb b (.bool true) AW nw cw rows.length c A l w hl bb
 obtain ⟨z,hz⟩:=uR (vT l rows.length)
 have br:ZT rows row l=(z && Xm (jnL rows (Zx l)).length (nzF (YZ rows (Zx l) rows.length)) (Y0 rows (Zx l) rows.length) row):=by unfold ZT;rw [hz]
 rw [hz] at ho
 obtain ⟨HZ,J,aP,HB,HR,HP,HO,aH⟩:=hz8 hz br bg hB hr hp ho hrow
 clear hB hr hl hp ho hrow bb bg hz br
 go_in
 go_wp2_with fail
 refine aP.o.mono ?_
 rintro e w1 ⟨v,rfl,hv,ac⟩
 rw [HZ.o] at hv |-
 replace HB:=ze (HB.o.below ac)
 cases z with
 | false=>
   have HC:Hid (Chg (fun x=>x=b\/w.heap.size<=x) w w1):=Chg.of_below ac;clear hv ac HR HP HO aH aP;go_wp2;go_ret;exact ⟨by rw [J.o];rfl,HB.o,HC.o⟩
 | true=>
   have HV:=ze (hv rfl);have ak:=ze (HO.o rfl)
   have a2:l.length=rows.length:=by
    have:=HZ.o;unfold vT at this;rw [Bool.and_eq_true,decide_eq_true_eq] at this;exact this.1
   rw [a2] at HV;have a8:=xre HR ac;have bp:=ze (HP.o.chg (S:=fun _=>False) (Chg.of_below ac) (fun _ _ h=>h.elim));have aE:=ze ac;clear hv ac HR HP HO aP HZ a2;obtain ⟨AV,cV,rfl,_⟩:=id HV.o;go_wp2_with fail;refine (znu b A rows.length c _ rows (Zx l) w1 HB.o a8.o HV.o ak.o.sus).mono ?_;rintro e w2 ⟨gm,x1,A1,k1,c1,N,y1,B1,aM,aW,t1,rfl,hq,hm,a0,bE,a9,aN⟩;have ao:=ze ak.o.keys;have a1:=ze ak.o.bound.1;have bm:=ze ak.o.vals
   have bf:=ze (bp.o.chg aN (fun x C hs=>by
    rcases hs with rfl | h
    . exact HB.o.noCells
    . have:=aE.o.size;omega))
   have bc:Hid (Chg (fun x=>x=b\/w.heap.size<=x) w w2):=(Chg.of_below (S:=fun x=>x=b\/w.heap.size<=x) aE.o).trans aN (fun x _ hs=>by
    rcases hs with h | h
    . exact .inl h
    . have:=aE.o.size;exact .inr (by omega))
   obtain ⟨F,hF⟩:=uQ (nzF (YZ rows (Zx l) rows.length));obtain ⟨Q,hQ⟩:=uQ (Y0 rows (Zx l) rows.length);obtain ⟨ks,bj⟩:=uQ (jnL rows (Zx l));rw [<- hF] at hm ao bm J;rw [<- hQ] at hq a1 J;rw [<- bj] at ao J;clear hF hQ bj ak a8 bp aE HV HB;have C:=zf w2 (.cells #[.map (some gm),.int .i64 x1,.slice A1 k1 c1,.bool N,.int .i64 y1,.slice B1 aM aW,.bool t1] 121)
   have D:Hid (zwh w (w2.alloc (.cells #[.map (some gm),.int .i64 x1,.slice A1 k1 c1,.bool N,.int .i64 y1,.slice B1 aM aW,.bool t1] 121)) b gm w2.heap.size w.heap.size rv row F Q):=
    ⟨a9.below C,hm.below C,⟨_,_,_,_,_,_,_,_,_,_,Blk.new w2 _ _,hq.below C⟩,bf.o.chg (S:=fun _=>False) (Chg.of_below C) (fun _ _ h=>h.elim),a0,zD bc.o C⟩
   clear hq hm a0 bE a9 aN C bf bc
   go_upto_region 5 with fail
   generalize w2.alloc (.cells #[.map (some gm),.int .i64 x1,.slice A1 k1 c1,.bool N,.int .i64 y1,.slice B1 aM aW,.bool t1] 121)=W at D |-;generalize w2.heap.size=gs at D |-;obtain ⟨M,aG⟩:=uQ ks.length;rw [<- aG] at J;have aT:=ze aG;clear aG
   go_cut [42] from 33 (fun s wc=>∃ z:Bool,s= .bool z/\Hid ((decide (M=0) && decide (Q<0))=z)/\Hid (zwh w wc b gm gs w.heap.size rv row F Q))
   case first=>
    have al:=fun ty=>D.o.map.len ao.o ty
    rw [<- aT.o] at al;obtain ⟨x4,A4,k4,c4,K,y4,B4,av,ar,t4,aq,aj⟩:=D.o.box;have ah:=ze aj;obtain ⟨r0,r1,r2,r3,r4,r5,r6,_⟩:=bp7 aq;clear aj aq
    by_cases aB:M=0
    . have a4:((M:Int) == 0)=true:=beq_iff_eq.2 (by omega)
      have aU:=ze aB;clear aB;go_wp2_with fail;refine (xK _ Q _ ah.o).mono ?_;rintro e w3 ⟨rfl,bd⟩;replace D:=ze (D.o.below bd);clear r0 r1 r2 r3 r4 r5 r6 ah bd a4 al;go_wp2;go_meet
      case rel=>exact ⟨_,rfl,ze (by rw [aU.o, <- zrz];rfl),D⟩
    have a4:((M:Int) == 0)=false:=uD (by omega)
    have aU:=ze aB;clear aB ah;go_wp2;go_meet
    case rel=>exact ⟨_,rfl,ze (by rw [uF aU.o,Bool.false_and]),D⟩
   case rest=>
   clear D;obtain ⟨z,rfl,aw,D⟩:=hcut
   cases z with
   | true=>
     go_wp2;go_ret;exact ⟨by rw [J.o,zva aw.o rfl row];rfl,D.o.book,D.o.chg⟩
   | false=>
     cases row with
     | none=>
       have bv:rv= .pointer none:=D.o.ptr;subst bv;go_wp2
       go_quiet (fail)
       go_wp2;go_ret;have u:=ze (D.o.below (zo (xh _) nq));exact ⟨by rw [J.o,zlk aw.o];rfl,u.o.book,u.o.chg⟩
     | some r=>
       obtain ⟨bn,bl⟩:=aH.o r rfl;have bh:=ze bn;have bx:=ze bl;obtain ⟨gr,A3,n3,c3,e,bK,aI,ax⟩:=D.o.ptr;subst e;obtain rfl:=ax.len;have al:=fun ty (m:Nat)=>(D.o.map.below (zo (xh wc) m)).len ao.o ty
       rw [<- aT.o] at al;have g0:=D.o.box.map;have bz:=g0.1;have p0:=(bp1 aI).1;clear bn bl aH g0
       by_cases aF:M=r.terms.length
       rotate_left
       . have a7:((M:Int) != (r.terms.length:Int))=true:=by simp;omega
         have bB:=ze aF;clear aF;go_wp2
         go_quiet (fail)
         go_wp2;go_ret;have u:=ze (D.o.below (zo (xh _) nq));exact ⟨by rw [J.o,zrr aw.o bB.o];rfl,u.o.book,u.o.chg⟩
       have a7:((M:Int) != (r.terms.length:Int))=false:=by simp;omega
       go_wp2
       go_quiet (fail)
       have u:Hid (zqs w (wc.drewN nq) b gm gs gr w.heap.size (.slice A3 r.terms.length c3) r F Q):=
        zqs.below ⟨D.o.book,D.o.map,D.o.box,aI,ax,D.o.neb,D.o.chg⟩ (zo (xh _) nq)
       have bD:=ze aF;have h8:r.terms.length<=100000:=by obtain ⟨_,_,_,_,_,h,_⟩:=id ax;exact h
       clear D al bz a7 aI ax p0 aF ao aT;generalize wc.drewN nq=W9 at u |-;have p0:=u.o.blk.cell 0;simp at p0;go_wp2
       go_loopw [61] (PrvR w b gm gs gr (.slice A3 r.terms.length c3) r F Q) (fun kv _=>r.terms.length - (intOf kv).toNat)
       case atStart=>exact ⟨0,uB,rfl,ze (fun j hj=>by omega),u⟩
       case round=>
        clear u p0;obtain ⟨k,hk,rfl,HF,u⟩:=hrel
        by_cases aD:k<r.terms.length
        rotate_left
        . obtain rfl:r.terms.length=k:=by omega
          have bG:=ze (zqg aw.o bD.o HF.o);obtain ⟨bk,aZ⟩:=bh.o.bq;have ba:=ze bk;have bu:Hid (xJ 8388608 (YR r)):=rlE aZ (by omega);have p1:=u.o.blk.cell 1;simp at p1;have aa:=xu b ⟨r.bound.toArray⟩ wr u.o.book (by rw [<- zt,yG];exact bx.o);rw [yG] at aa;have an:=ze aa;clear aa bk aZ;go_wp2_with fail;refine an.o.mono ?_;rintro e w2 ⟨v,ok,rfl,⟨U,A2,V,T,I,y2,B2,Y,X,t2,rfl⟩,aK,ap,ai,ae⟩;have C:=zf w2 (.cells #[.int .i64 U,.slice A2 V T,.bool I,.int .i64 y2,.slice B2 Y X,.bool t2] 60);have E:=ze (Blk.new w2 60 #[.int .i64 U,.slice A2 V T,.bool I,.int .i64 y2,.slice B2 Y X,.bool t2]);have G:=ze ((ap (YR r) ba.o).below C);replace u:=ze ((u.o.read ai ae).below C);clear aK ap ai ae an C p1 ba
          go_upto_region 18 with fail
          generalize w2.alloc (.cells #[.int .i64 U,.slice A2 V T,.bool I,.int .i64 y2,.slice B2 Y X,.bool t2] 60)=W3 at u E G |-;generalize w2.heap.size=gc at E |-;obtain ⟨x4,A4,k4,c4,K,y4,B4,av,ar,t4,aq,aj⟩:=u.o.box;have ah:=ze aj;obtain ⟨_,r1,r2,r3,r4,r5,r6,_⟩:=bp7 aq;obtain ⟨s0,N,I,s3,K,s5,_⟩:=bq6 E;have Z:=YO _ _ Q (YR r) W3 ah.o G.o a1.o bu.o;have aO:=zr6 Q (YR r);generalize hσ:XG Q (YR r)=σ at Z aO;have ab:=ze Z;have bF:=ze aO;clear Z aO hσ aq aj;go_wp2_with fail;refine ab.o.mono ?_;rintro e w5 ⟨rfl,O⟩;replace u:=ze (u.o.below O);clear O ab r1 r2 r3 r4 r5 r6 s0 N I s3 K s5 E G ah bu;go_wp2;go_ret;exact ⟨by rw [J.o,bG.o,Bool.true_and, <- bF.o];rfl,u.o.book,u.o.chg⟩
        have bH:(k:Int)<(r.terms.length:Int):=by omega
        obtain ⟨ad,eA,bw,p0,p1,bC,a3⟩:=u.o.terms.at_ aD;subst eA;obtain ⟨q,hq,_,bs⟩:=bh.o.coef r.terms[k] (uO aD);have HQ:=ze hq;have aX:Hid (xJ 8388608 q):=rl bs.sz (by omega);have a6:=ze a3;have aY:=xGD (d:=default) aD;have aQ:yX r.terms[k]=q:=by unfold yX;rw [hq];rfl
        have aC:Hid (F r.terms[k].name=some q->∀ j,j<k+1->zvg F (r.terms.getD j default)=true):=ze (fun e j hj=>by
         by_cases ej:j=k
         . subst ej;rw [aY];unfold zvg;rw [aQ];exact uE e
         exact HF.o j (by omega))
        have am:Hid (F r.terms[k].name≠some q->Xm M F Q (some r)=false):=ze (fun e=>zmu aw.o aD (by unfold zvg;rw [aQ];exact uF e));have bi:=fun q2=>bm.o r.terms[k].name q2
        have aV:=ze bi;generalize bA:r.terms[k]=t at p0 p1 HQ a6 aC am aV;have C:=zf wr (.cells #[str t.name,str t.coef] 44);have L:=ze (Blk.new wr 44 #[str t.name,str t.coef]);replace u:=ze (u.o.below C);clear hq bs bC a3 aY aQ bi bA C
        go_upto_region 12 with fail
        clear p0 p1 bw;generalize wr.alloc (.cells #[str t.name,str t.coef] 44)=W2 at L u |-;generalize wr.heap.size=gt at L |-;have t1:=L.o.cell 1;simp at t1;have aa:=xu b ⟨t.coef.toArray⟩ W2 u.o.book (by rw [<- zt,yG];exact a6.o);rw [yG] at aa;have an:=ze aa;clear aa;go_wp2_with fail;refine an.o.mono ?_;rintro e w2 ⟨v,ok,rfl,⟨U,A2,V,T,I,y2,B2,Y,X,t2,rfl⟩,aK,ap,ai,ae⟩;have C:=zf w2 (.cells #[.int .i64 U,.slice A2 V T,.bool I,.int .i64 y2,.slice B2 Y X,.bool t2] 60);have E:=ze (Blk.new w2 60 #[.int .i64 U,.slice A2 V T,.bool I,.int .i64 y2,.slice B2 Y X,.bool t2]);have G:=ze ((ap q HQ.o).below C);replace L:=ze ((u.o.book.keepBlk ae L.o).below C (u.o.book.keepBlk ae L.o).lt);replace u:=ze ((u.o.read ai ae).below C);clear aK ap ai ae an C t1 HQ
        go_upto_region 13 with fail
        generalize w2.alloc (.cells #[.int .i64 U,.slice A2 V T,.bool I,.int .i64 y2,.slice B2 Y X,.bool t2] 60)=W3 at L u E G |-;generalize w2.heap.size=gc at E |-;obtain ⟨vo,aJ,aS⟩:=u.o.map.look (P:=prog) Y6 Vq (ze6 _) t.name true;simp only [if_true] at aJ;have g0:=u.o.box.map.1;have n0:=(bq1 L).1
        obtain ⟨x4,A4,k4,c4,K,y4,B4,av,ar,t4,ev⟩:∃ (x:Int) (A:Option Addr) (k c:Nat) (s:Bool) (y:Int) (B:Option Addr) (k' c' :Nat) (t:Bool),vo= .agg #[.int .i64 x,.slice A k c,.bool s,.int .i64 y,.slice B k' c',.bool t]:=by
         rcases aS with ⟨_,e⟩ | ⟨q,_,h⟩
         . exact ⟨_,_,_,_,_,_,_,_,_,_,e⟩
         . exact h.agg
        subst ev;have af:=ze aS;generalize a5:(F t.name).isSome=bo at aJ;have aA:=ze a5;have C:=zf W3 (.cells #[.int .i64 x4,.slice A4 k4 c4,.bool K,.int .i64 y4,.slice B4 av ar,.bool t4] 60);have ag:=ze (Blk.new W3 60 #[.int .i64 x4,.slice A4 k4 c4,.bool K,.int .i64 y4,.slice B4 av ar,.bool t4]);replace af:=ze (show (F t.name=none)\/∃ q,F t.name=some q/\zV _ _ q from af.o.imp (fun h=>h.1) (fun ⟨q,h1,h2⟩=>⟨q,h1,h2.below C⟩));replace E:=kb_ E C;replace G:=ze (G.o.below C);replace u:=ze (u.o.below C);clear aS a5 C L
        go_upto_region 14 with fail
        generalize W3.alloc (.cells #[.int .i64 x4,.slice A4 k4 c4,.bool K,.int .i64 y4,.slice B4 av ar,.bool t4] 60)=W4 at u E G af ag |-;generalize W3.heap.size=gx at ag |-;clear aJ g0 n0
        rcases af.o with R | ⟨q2,R,be⟩
        . have hb:bo=false:=by rw [<- aA.o,R];rfl
          subst hb;have HN:=ze (am.o (by rw [R];exact fun e=>by cases e));clear R af aA ag E G;go_wp2;go_ret;exact ⟨by rw [J.o,HN.o];rfl,u.o.book,u.o.chg⟩
        . have hb:bo=true:=by rw [<- aA.o,R];rfl
          subst hb;have aR:=ze be;have aL:=ze (aV.o q2 R);have ay:=ze R;obtain ⟨r0,r1,r2,r3,r4,r5,_⟩:=bq6 ag;obtain ⟨s0,N,I,s3,K,s5,_⟩:=bq6 E;have Z:=YO _ _ q2 q W4 aR.o G.o aL.o aX.o;generalize hσ:XG q2 q=σ at Z;have ab:=ze Z;have az:=ze hσ;clear be R af aA Z hσ aV
          by_cases au:σ=0
          rotate_left
          . have HN:=ze (am.o (by
             rw [ay.o];intro e;injection e with e
             exact au (by rw [<- az.o];exact (zfl q2 q).2 e)))
            have bJ:(σ == 0)=false:=uD au;clear aC am az ay au;go_wp2_with fail;refine ab.o.mono ?_;rintro e w5 ⟨rfl,O⟩;replace u:=ze (u.o.below O);clear O ab r0 r1 r2 r3 r4 r5 s0 N I s3 K s5 ag E G aR aL aX;go_wp2;go_ret;exact ⟨by rw [J.o,HN.o];rfl,u.o.book,u.o.chg⟩
          have HY:=ze (aC.o (by rw [ay.o,(zfl q2 q).1 (az.o.trans au)]))
          subst au;clear aC am az ay;go_wp2_with fail;refine ab.o.mono ?_;rintro e w5 ⟨rfl,O⟩;replace u:=ze (u.o.below O);clear O ab r0 r1 r2 r3 r4 r5 s0 N I s3 K s5 ag E G aR aL aX;have bI:IntKind.i64.wrap ((k:Int)+1)=((k+1:Nat):Int):=by rw [IntKind.wrap_i64];omega
          go_wp2;go_roundw
          case rel=>exact ⟨k+1,by omega,by go_num,HY,u⟩
          case measure=>simp [intOf];omega
theorem zgd {rows:List zS} {l:List (List UInt8)}:ZT rows none l=zea rows l:=by
 unfold ZT zea
 rw [znd rfl]
theorem zha {rows:List zS} {r:zS} {l:List (List UInt8)} (ho:vT l rows.length=true->Vh rows (Zx l)) (hr:zc7 r) (hi:zih (r.terms.map (·.name))):ZT rows (some r) l=(zea rows l || zrt rows r l):=by
 unfold ZT zea zrt
 cases hz:vT l rows.length with
 | false=>rfl
 | true=>rw [Bool.true_and,Bool.true_and,Bool.true_and,(ho hz).prov hr hi]
structure zkn where
 kind:Int
 value:List UInt8
 point:List zr
 ray:List zr
 weights:List (List UInt8)
def za9 (a:zkn):Rat:=(zj a.value).getD 0
def zbf (goal:List zr) (a:zkn):zS:={ terms:=goal,bound:=a.value }
def Xl (rows:List zS) (p:List zr):Bool:=decide (xm p=0) && decide (Ys rows.length (zfr p rows)<0)
def zni (rows:List zS) (goal:List zr) (a:zkn):Bool:=(zj a.value).isSome && (Xl rows a.point && (decide (XI a.point goal goal.length=za9 a) && ZT rows (some (zbf goal a)) a.weights))
def zqe (rows:List zS) (goal:List zr) (a:zkn):Bool:=Xl rows a.point && ((zj a.value).isSome && (decide (XI a.point goal goal.length=za9 a) && zrt rows (zbf goal a) a.weights))
def zjw (rows:List zS) (goal:List zr) (a:zkn):Bool:=Xl rows a.point && (decide (xm a.ray=0) && zdj rows goal a.ray)
def zbj (rows:List zS) (goal:List zr) (a:zkn):Bool:=if a.kind=2 then zea rows a.weights else if a.kind=1 then zqe rows goal a else zjw rows goal a
def X1 (rows:List zS) (goal:List zr) (a:zkn):Int:=
 if xy rows goal≠0 then xy rows goal else if a.kind≠1/\a.kind≠2/\a.kind≠3 then 1 else if zbj rows goal a=true then 0 else 8
structure ztb (goal:List zr) (a:zkn):Prop where
 gl:goal.length<=70
 gb:zE goal<=1000
 pb:zE a.point<=1000
 rb:zE a.ray<=1000
 vl:a.value.length<=2000
 wl:∀ t∈a.weights,t.length<=2000
structure XK (rows:List zS) (goal:List zr) (a:zkn):Prop where
 small:yK rows
 r0:yB rows=0
 g0:yh goal=0
 sm:ztb goal a
section
variable {rows:List zS} {goal:List zr} {a:zkn}
theorem XK.ws (h:XK rows goal a):vT a.weights rows.length=true->Vh rows (Zx a.weights):=zi1 h.small h.r0 h.sm.wl
theorem XK.rowP (h:XK rows goal a) (hp:xm a.point=0):∀ k,k<rows.length->zlo a.point (rows.getD k default):=zkx h.small h.r0 h.sm.pb hp
theorem XK.rowR (h:XK rows goal a) (hp:xm a.ray=0):∀ k,k<rows.length->Xx (rows.getD k default).terms a.ray:=fun k hk=>(zkx h.small h.r0 h.sm.rb hp k hk).sum
theorem XK.goalP (h:XK rows goal a) (hp:xm a.point=0):Xx goal a.point:=zfw (by have:=h.sm.gl;omega) (by have:=h.sm.gb;omega) h.g0 h.sm.pb hp
theorem XK.goalR (h:XK rows goal a) (hp:xm a.ray=0):Xx goal a.ray:=zfw (by have:=h.sm.gl;omega) (by have:=h.sm.gb;omega) h.g0 h.sm.rb hp
theorem XK.val (h:XK rows goal a) {q:Rat} (hq:zj a.value=some q):Dz 2000 q:=zdf hq h.sm.vl (by omega)
theorem XK.fit (h:XK rows goal a) (b:(zj a.value).isSome=true):zc7 (zbf goal a):=by
 obtain ⟨q,b⟩:=Option.isSome_iff_exists.1 b
 refine ⟨fun t ht=>?_,q,b,h.val b⟩
 obtain ⟨i,hi,rfl⟩:=List.mem_iff_getElem.1 ht
 exact (XA h.g0 hi).1
theorem zqq {p:List zr} (h:Xl rows p=true):∀ k,k<rows.length->zfr p rows k=false:=by
 unfold Xl at h
 rw [Bool.and_eq_true,decide_eq_true_eq,decide_eq_true_eq] at h
 intro k e
 refine Bool.eq_false_iff.2 fun hb=>?_
 have b:=h.2
 unfold Ys at b
 cases hf:(List.range rows.length).find? (zfr p rows) with
 | none=>
   rw [List.find?_eq_none] at hf;exact hf k (by simpa using e) hb
 | some j=>rw [hf] at b;exact absurd b (by simp)
theorem ztx (h:XK rows goal a):zni rows goal a=zqe rows goal a:=by
 unfold zni zqe
 cases hv:(zj a.value).isSome with
 | false=>rw [Bool.false_and,Bool.false_and,Bool.and_false]
 | true=>
   rw [Bool.true_and,Bool.true_and]
   cases hh:Xl rows a.point with
   | false=>rfl
   | true=>
     rw [Bool.true_and,Bool.true_and]
     congr 1
     rw [zha h.ws (h.fit hv) (VY h.g0)]
     have b:zea rows a.weights=false:=by
      unfold zea
      cases hw:vT a.weights rows.length with
      | false=>rfl
      | true=>rw [Bool.true_and];exact (h.ws hw).excl (zqq hh)
     rw [b,Bool.false_or]
end
open Go.ChangeShapes Go.WideShapes
structure zav where
 ans:zkn
 weights:List (List UInt8)
 row:zS
def ZS (w:World) (B:Nat) (v:Value) (l:List (List UInt8)):Prop:=
 l.length<=reachBytes/\∃ A c,v= .slice A l.length c/\l.length<=c/\c<=maxLen/\ys w B 1 A l.length (l.map str)/\∀ x∈l,ZA x
structure za8 (w:World) (B:Nat) (vp vy vw vs vt:Value) (x:zav):Prop where
 val:ZA x.ans.value
 pt:yY w B vp x.ans.point
 ray:yY w B vy x.ans.ray
 wts:ZS w B vw x.ans.weights
 ws:ZS w B vs x.weights
 tm:yY w B vt x.row.terms
 bnd:ZA x.row.bound
section
variable {w w' :World} {B:Nat} {v vp vy vw vs vt:Value} {l:List (List UInt8)} {x:zav}
theorem ZS.below (h:ZS w B v l) (hb:Below B w w'):ZS w' B v l:=by
 obtain ⟨r,A,c,j,b,u,e,m⟩:=h
 exact ⟨r,A,c,j,b,u,e.below hb,m⟩
theorem za8.below (h:za8 w B vp vy vw vs vt x) (hb:Below B w w'):za8 w' B vp vy vw vs vt x:=
 ⟨h.val,h.pt.below hb,h.ray.below hb,h.wts.below hb,h.ws.below hb,h.tm.below hb,h.bnd⟩
theorem ZS.more {B' :Nat} (h:ZS w B v l) (hB:B<=B'):ZS w B' v l:=by
 obtain ⟨r,A,c,j,b,u,e,m⟩:=h
 exact ⟨r,A,c,j,b,u,e.more hB,m⟩
theorem ZS.max (h:ZS w B v l):l.length<=reachBytes:=h.1
theorem ZS.small (h:ZS w B v l) (hl:l.length<=100000) (hs:∀ x∈l,yc x):zT w B v l:=by
 obtain ⟨_,A,c,j,b,m,e,r⟩:=h
 exact ⟨A,c,j,b,m,hl,e,hs⟩
theorem ZS.at_ {A:Option Addr} {n c:Nat} (h:ZS w B (.slice A n c) l) {k:Nat} (hk:k<l.length):∃ b,A=some b/\b.block<B/\w.cell? (b.add k)=some (str l[k])/\ZA l[k]:=by
 obtain ⟨_,A',c',e,_,_,j,m⟩:=h
 injection e with e1 e2 e3
 subst e1
 obtain ⟨b,e,hb,r⟩:=j.2 (by omega)
 refine ⟨b,e,hb,?_,m _ (uO hk)⟩
 refine r k _ ?_
 rw [List.getElem?_map,List.getElem?_eq_getElem hk];rfl
end
section
variable {H:Type} {enc:TypeId×Value->H} {P:Program} {w:World} {spare:Nat->Bool} {held:Bool} {fuel:Nat} {cs:List Value} {x:DataW H×List MemPlace} {t:TypeId} {f0 f1 f2 f3 f4:Field}
theorem zg1 (ht:P.underlying t=some (.struct #[f0,f1,f2])) (h:DataW.trod enc P w 0 spare held fuel t cs=some x):
 ∃ y0 y1 y2 n,x=(.agg [y0.1,y1.1,y2.1],y0.2 ++ (y1.2 ++ y2.2))/\cs.length=P.cellsOf t/\DataW.trod enc P w 0 spare held n f0.type ((cs.drop f0.offset).take (P.cellsOf f0.type))=some y0/\
  DataW.trod enc P w 0 spare held n f1.type ((cs.drop f1.offset).take (P.cellsOf f1.type))=some y1/\DataW.trod enc P w 0 spare held n f2.type ((cs.drop f2.offset).take (P.cellsOf f2.type))=some y2:=by
 obtain ⟨xs,n,_,rfl,hl,e,b⟩:=DataW.trod_struct ht h
 match xs,e with
 | [y0,y1,y2],_=>exact ⟨y0,y1,y2,n,by simp,hl,by simpa using b 0 f0 rfl,by simpa using b 1 f1 rfl,by simpa using b 2 f2 rfl⟩
theorem zgz (ht:P.underlying t=some (.struct #[f0,f1,f2,f3,f4])) (h:DataW.trod enc P w 0 spare held fuel t cs=some x):
 ∃ y0 y1 y2 y3 y4 n,x=(.agg [y0.1,y1.1,y2.1,y3.1,y4.1],y0.2 ++ (y1.2 ++ (y2.2 ++ (y3.2 ++ y4.2))))/\cs.length=P.cellsOf t/\DataW.trod enc P w 0 spare held n f0.type ((cs.drop f0.offset).take (P.cellsOf f0.type))=some y0/\
  DataW.trod enc P w 0 spare held n f1.type ((cs.drop f1.offset).take (P.cellsOf f1.type))=some y1/\DataW.trod enc P w 0 spare held n f2.type ((cs.drop f2.offset).take (P.cellsOf f2.type))=some y2/\
  DataW.trod enc P w 0 spare held n f3.type ((cs.drop f3.offset).take (P.cellsOf f3.type))=some y3/\DataW.trod enc P w 0 spare held n f4.type ((cs.drop f4.offset).take (P.cellsOf f4.type))=some y4:=by
 obtain ⟨xs,n,_,rfl,hl,e,b⟩:=DataW.trod_struct ht h
 match xs,e with
 | [y0,y1,y2,y3,y4],_=>exact ⟨y0,y1,y2,y3,y4,n,by simp,hl,by simpa using b 0 f0 rfl,by simpa using b 1 f1 rfl,by simpa using b 2 f2 rfl,by simpa using b 3 f3 rfl,by simpa using b 4 f4 rfl⟩
theorem w3 {y0 y1 y2:DataW H} {K:Nat} (ht:P.underlying t=some (.struct #[f0,f1,f2])) (hw:∀ z∈(DataW.agg [y0,y1,y2]).weights P t,z<=K):(∀ z∈y0.weights P f0.type,z<=K)/\(∀ z∈y1.weights P f1.type,z<=K)/\(∀ z∈y2.weights P f2.type,z<=K):=by
 refine ⟨fun z hz=>hw z ?_,fun z hz=>hw z ?_,fun z hz=>hw z ?_⟩<;>(unfold DataW.weights;rw [ht];simp [DataW.weightsEach,hz])
theorem w5 {y0 y1 y2 y3 y4:DataW H} {K:Nat} (ht:P.underlying t=some (.struct #[f0,f1,f2,f3,f4])) (hw:∀ z∈(DataW.agg [y0,y1,y2,y3,y4]).weights P t,z<=K):
 (∀ z∈y0.weights P f0.type,z<=K)/\(∀ z∈y1.weights P f1.type,z<=K)/\(∀ z∈y2.weights P f2.type,z<=K)/\(∀ z∈y3.weights P f3.type,z<=K)/\(∀ z∈y4.weights P f4.type,z<=K):=by
 refine ⟨fun z hz=>hw z ?_,fun z hz=>hw z ?_,fun z hz=>hw z ?_,fun z hz=>hw z ?_,fun z hz=>hw z ?_⟩<;>(unfold DataW.weights;rw [ht];simp [DataW.weightsEach,hz])
theorem w2 {y0 y1:DataW H} {K:Nat} (ht:P.underlying t=some (.struct #[f0,f1])) (hw:∀ z∈(DataW.agg [y0,y1]).weights P t,z<=K):(∀ z∈y0.weights P f0.type,z<=K)/\(∀ z∈y1.weights P f1.type,z<=K):=by
 refine ⟨fun z hz=>hw z ?_,fun z hz=>hw z ?_⟩<;>(unfold DataW.weights;rw [ht];simp [DataW.weightsEach,hz])
theorem zwq:∀ l:List (List UInt8),(l.flatMap fun e:List UInt8=>[str e])=l.map str
 | []=>rfl
 | a :: l=>by rw [List.flatMap_cons,zwq l,List.map_cons];rfl
theorem zey {B:Nat} {e:TypeId} (hby:0<P.bytesOf e) (hs:P.underlying t=some (.slice e)) (ht:P.underlying e=some .string) (hc:P.cellsOf e=1)
 (h:DataW.trod enc P w 0 spare held fuel t cs=some x) (hw:∀ z∈x.1.weights P t,z<=reachBytes) (hB:∀ p∈x.2,p.block<B):∃ (v:Value) (l:List (List UInt8)),cs=[v]/\ZS w B v l:=by
 obtain ⟨A,c,l,rfl,r,j,b,m,u⟩:=zan (f:=fun e:List UInt8=>[str e]) (k:=1) (B:=B) (good:=fun e=>ZA e) (fun _=>rfl) (by omega) hby hs hc (fun n cs' y h hw _=>YA ht n cs' y h hw) hw hB h
 refine ⟨_,l,rfl,u,A,c,rfl,r,j,?_,m⟩
 rw [zwq] at b
 exact b
end
theorem zlh {H:Type} {enc:TypeId×Value->H} {w:World} {spare:Nat->Bool} {held:Bool} {fuel:Nat} {cs:List Value} {x:DataW H×List MemPlace} (h:DataW.trod enc prog w 0 spare held fuel 33 cs=some x) (hw:∀ z∈x.1.weights prog 33,z<=reachBytes) (hB:∀ p∈x.2,p.block<w.heap.size):
 ∃ (kd:Int) (vp vy vw vs vt:Value) (y:zav),y.ans.kind=kd/\cs=[.int .u8 kd,str y.ans.value,vp,vy,vw,vs,vt,str y.row.bound]/\za8 w w.heap.size vp vy vw vs vt y:=by
 obtain ⟨y0,U,y2,m,rfl,hl,l,B,j⟩:=zg1 underlying33 h
 obtain ⟨R,W1,W2⟩:=w3 underlying33 hw
 have ac :(∀ p∈y0.2,p.block<w.heap.size)/\(∀ p∈U.2,p.block<w.heap.size)/\(∀ p∈y2.2,p.block<w.heap.size):=
  ⟨fun p hp=>hB p (List.mem_append.2 (.inl hp)),fun p hp=>hB p (List.mem_append.2 (.inr (List.mem_append.2 (.inl hp)))),fun p hp=>hB p (List.mem_append.2 (.inr (List.mem_append.2 (.inr hp))))⟩
 clear hw hB h
 have aa:prog.cellsOf 33=8:=by kernel_rfl
 have c0:prog.cellsOf 29=5:=by kernel_rfl
 have c1:prog.cellsOf 27=1:=by kernel_rfl
 have c2:prog.cellsOf 31=2:=by kernel_rfl
 have G:prog.cellsOf 25=1:=by kernel_rfl
 have d2:prog.cellsOf 26=1:=by kernel_rfl
 have d3:prog.cellsOf 23=1:=by kernel_rfl
 rw [aa] at hl
 dsimp only at l B j R W1 W2
 rw [c0] at l
 rw [c1] at B
 rw [c2] at j
 match cs,hl with
 | [a0,a1,a2,a3,a4,a5,a6,a7],_=>
   have l:DataW.trod enc prog w 0 spare held m 29 [a0,a1,a2,a3,a4]=some y0:=l;have B:DataW.trod enc prog w 0 spare held m 27 [a5]=some U:=B;have j:DataW.trod enc prog w 0 spare held m 31 [a6,a7]=some y2:=j;obtain ⟨z0,X,V,z3,z4,e,rfl,_,g0,E,r,F,D⟩:=zgz underlying29 l;obtain ⟨V0,Y,Z,S,V4⟩:=w5 underlying29 R;have ab:prog.cellsOf 24=1:=by kernel_rfl
   dsimp only at g0 E r F D V0 Y Z S V4
   rw [ab] at g0;rw [G] at E;rw [d2] at r F;rw [c1] at D;have g0:DataW.trod enc prog w 0 spare held e 24 [a0]=some z0:=g0;have E:DataW.trod enc prog w 0 spare held e 25 [a1]=some X:=E;have r:DataW.trod enc prog w 0 spare held e 26 [a2]=some V:=r;have F:DataW.trod enc prog w 0 spare held e 26 [a3]=some z3:=F;have D:DataW.trod enc prog w 0 spare held e 27 [a4]=some z4:=D;obtain ⟨C,B1,B2⟩:=ac;have C:∀ p,p∈z0.2\/p∈X.2\/p∈V.2\/p∈z3.2\/p∈z4.2->p.block<w.heap.size:=fun p hp=>C p (by simpa using hp)
   obtain ⟨kd,I,_,_⟩:=DataW.trod_int underlying24 g0;obtain ⟨l1,M,s1⟩:=YA underlying25 _ _ _ E Y;obtain ⟨v2,l2,J,s2⟩:=zef r Z (fun p hp=>C p (.inr (.inr (.inl hp))));obtain ⟨v3,l3,K,s3⟩:=zef F S (fun p hp=>C p (.inr (.inr (.inr (.inl hp)))));obtain ⟨v4,l4,Q,s4⟩:=zey (uG (by kernel_rfl)) underlying27 underlying25 G D V4 (fun p hp=>C p (.inr (.inr (.inr (.inr hp)))));obtain ⟨v5,l5,L,s5⟩:=zey (uG (by kernel_rfl)) underlying27 underlying25 G B W1 B1;obtain ⟨r0,r1,T,rfl,_,u,b⟩:=trod_struct2 zc0 j;obtain ⟨U0,U1⟩:=w2 zc0 W2
   dsimp only at u b U0 U1
   rw [d3] at u;rw [G] at b;have u:DataW.trod enc prog w 0 spare held T 23 [a6]=some r0:=u;have b:DataW.trod enc prog w 0 spare held T 25 [a7]=some r1:=b;obtain ⟨v6,l6,N,s6⟩:=zgp u U0 (fun p hp=>B2 p (List.mem_append.2 (.inl hp)));obtain ⟨l7,O,s7⟩:=YA underlying25 _ _ _ b U1;injection I with I
   injection M with M
   injection J with J
   injection K with K
   injection Q with Q
   injection L with L
   injection N with N
   injection O with O
   subst I M J K Q L N O;exact ⟨kd,_,_,_,_,_,⟨⟨kd,l1,l2,l3,l4⟩,l5,⟨l6,l7⟩⟩,rfl,rfl,⟨s1,s2,s3,s4,s5,s6,s7⟩⟩
def YY (l:List (List UInt8)):Nat:=(l.map List.length).sum
structure zl6 (x:zav):Prop where
 bytes:x.ans.value.length+YY x.ans.weights+YY x.weights<=2000
 wl:x.ans.weights.length<=300
 sl:x.weights.length<=300
 pt:x.ans.point.length<=70/\zE x.ans.point<=1000
 ray:x.ans.ray.length<=70/\zE x.ans.ray<=1000
 row:yK [x.row]
def zv9 (w:World) (x:zav) (e:Ending) (w' :World):Prop:=∃ g:Bool,e= .returned (.bool g)/\Below w.heap.size w w' /\(g=false->zl6 x)
def ClsR (W:World) (l:List (List UInt8)) (b0 k0:Nat) (nv iv:Value) (wr:World):Prop:=
 ∃ i n m:Nat,i<=l.length/\i<=300/\nv= .int .i64 n/\iv= .int .i64 i/\Hid (n=b0+YY (l.take i))/\Hid (n<=(k0+i)*reachBytes)/\wr=W.drewN m
theorem zdv {l:List (List UInt8)} {i:Nat} (h:i<l.length):YY (l.take (i+1))=YY (l.take i)+l[i].length:=vB _ _ _ h
theorem yY.more {w:World} {B B' :Nat} {v:Value} {l:List zr} (h:yY w B v l) (hB:B<=B'):yY w B' v l:=by
 obtain ⟨r,A,c,j,b,u,e,m⟩:=h
 exact ⟨r,A,c,j,b,u,e.more hB,m⟩
theorem zt7 {w:World} {vt:Value} {r:zS} (ht:yY w w.heap.size vt r.terms) (hb:ZA r.bound):Xd (w.alloc (.cells #[vt,str r.bound] 31)) (w.heap.size+1) (.slice (some ⟨w.heap.size,0,none⟩) 1 1) [r]:=by
 have b:=zf w (.cells #[vt,str r.bound] 31)
 have m:=Blk.new w 31 #[vt,str r.bound]
 refine ⟨by rw [yi];simp,_,1,fun _=>vt,rfl,uA,by unfold maxLen;omega,⟨rfl,fun _=>⟨_,rfl,Nat.lt_succ_self _,fun j u hu=>?_⟩⟩,fun i hi=>?_,fun x b=>?_⟩
 . have l:j<2:=(List.getElem?_eq_some_iff.1 hu).1
   have e:((⟨w.heap.size,0,none⟩:Addr).add j)=⟨w.heap.size,j,none⟩:=by
    unfold Addr.add
    by_cases h:j=0
    . subst h;rfl
    simp [h]
   rw [e,m.cell j, <- hu]
   match j,l with
   | 0,_=>rfl
   | 1,_=>rfl
 . have:i=0:=by simp at hi;omega
   subst this;exact (ht.below b).more (Nat.le_succ _)
 . rw [uM] at b
   subst b;exact hb
theorem zlz (AP AY AW AS AT:Option Addr) (np cp ny cy cw cs nt ct:Nat) (kd:Int) (x:zav) (w:World) (hx:za8 w w.heap.size (.slice AP np cp) (.slice AY ny cy) (.slice AW x.ans.weights.length cw) (.slice AS x.weights.length cs) (.slice AT nt ct) x):
 Calls prog 6 #[.agg #[.int .u8 kd,str x.ans.value,.slice AP np cp,.slice AY ny cy,.slice AW x.ans.weights.length cw,.slice AS x.weights.length cs,.slice AT nt ct,str x.row.bound]] w (zv9 w x):=by
 have Z:=zf w (.cells #[.int .u8 kd,str x.ans.value,.slice AP np cp,.slice AY ny cy,.slice AW x.ans.weights.length cw,.slice AS x.weights.length cs,.slice AT nt ct,str x.row.bound] 33)
 have HK:=ze (Blk.new w 33 #[.int .u8 kd,str x.ans.value,.slice AP np cp,.slice AY ny cy,.slice AW x.ans.weights.length cw,.slice AS x.weights.length cs,.slice AT nt ct,str x.row.bound])
 have J:=ze (hx.below Z)
 have N:=ze Z
 have HV:Hid (x.ans.value.length<=reachBytes):=hx.val
 have ax:=ze hx.tm
 have m1:=hx.wts.max
 have D:=hx.ws.max
 rw [yi] at m1 D
 clear hx Z
 go_in
 go_upto_region 1 with fail
 generalize w.alloc (.cells #[.int .u8 kd,str x.ans.value,.slice AP np cp,.slice AY ny cy,.slice AW x.ans.weights.length cw,.slice AS x.weights.length cs,.slice AT nt ct,str x.row.bound] 33)=W at HK J N |-
 generalize am:w.heap.size=gC at HK |-
 clear am;obtain ⟨_,k1,k2,k3,k4,k5,k6,k7,_⟩:=bq8 HK
 have an:=HV.o
 rw [yi] at an
 go_wp2
 go_loopw [3,4] (ClsR W x.ans.weights x.ans.value.length 1) (fun _ iv _=>x.ans.weights.length - (intOf iv).toNat)
 case atStart=>exact ⟨0,_,0,uB,by omega,rfl,rfl,by rw [List.take_zero];exact rfl,ze (by rw [yi];omega),rfl⟩
 case round=>
  obtain ⟨i,n,m,hi,av,rfl,rfl,C,E,rfl⟩:=hrel
  obtain ⟨z,u⟩:=uR (decide (i<x.ans.weights.length/\i<300))
  have l:=ze u
  go_upto_region 3 with fail
  go_cut [19] from 10 to 30 (fun s wc=>s= .bool z/\wc=W.drewN m)
  case first=>
   by_cases b:i<x.ans.weights.length
   rotate_left
   . have I:¬ (i:Int)<(x.ans.weights.length:Int):=by omega
     have hb:z=false:=by rw [<- l.o];exact uF (fun h=>b h.1)
     subst hb;clear u;go_wp2;go_meet
     case rel=>exact ⟨rfl,rfl⟩
   have I:(i:Int)<(x.ans.weights.length:Int):=by omega
   have hid:decide ((i:Int)<(x.ans.weights.length:Int))=true:=uE I
   by_cases r:i<300
   . have T:(i:Int)<300:=by omega
     have hb:z=true:=by rw [<- l.o];exact uE ⟨b,r⟩
     subst hb;clear u;go_wp2;go_meet
     case rel=>exact ⟨rfl,rfl⟩
   have T:¬ (i:Int)<300:=by omega
   have hb:z=false:=by rw [<- l.o];exact uF (fun h=>r h.2)
   subst hb;clear u;go_wp2;go_meet
   case rel=>exact ⟨rfl,rfl⟩
  case rest=>
  obtain ⟨rfl,rfl⟩:=hcut
  clear u
  cases z with
  | true=>
    obtain ⟨b,r⟩:=uG l.o;obtain ⟨ad,S,X,Q,B⟩:=J.o.wts.at_ b;subst S;unfold ZA at B;rw [yi] at B;have hb:=E.o;rw [yi] at hb;have Y:(1+i)*140737488351232<=301*140737488351232:=Nat.mul_le_mul_right _ (by omega);have e3:IntKind.i64.wrap ((n:Int)+(x.ans.weights[i].length:Int))=((n+x.ans.weights[i].length:Nat):Int):=by rw [IntKind.wrap_i64];omega
    have L:Hid (n+x.ans.weights[i].length=x.ans.value.length+YY (x.ans.weights.take (i+1))):=ze (by have:=C.o;rw [zdv b];omega);have M:Hid (n+x.ans.weights[i].length<=(1+(i+1))*reachBytes):=ze (by rw [yi];omega);clear hb Y C E B X l;have I:(i:Int)<(x.ans.weights.length:Int):=by omega
    generalize x.ans.weights[i]=y at Q e3 L M;go_wp2;go_roundw
    case rel=>exact ⟨i+1,_,m,by omega,by omega,rfl,by go_num,L,M,rfl⟩
    case measure=>simp [intOf];omega
  | false=>
    have ag:Hid (x.ans.weights.length<=300->n=x.ans.value.length+YY x.ans.weights):=ze (fun O=>by
     have U:=of_decide_eq_false l.o
     have V:i=x.ans.weights.length:=by
      refine Classical.byContradiction fun h6=>U ⟨by omega,by omega⟩
     have:=C.o;rw [V,List.take_length] at this
     exact this)
    have ai:Hid (n<=301*reachBytes):=ze (uC E.o (Nat.mul_le_mul_right _ (by omega)));clear l C E hi av;go_wp2
    go_loopw [3,5] (ClsR W x.weights n 301) (fun _ iv _=>x.weights.length - (intOf iv).toNat)
    case atStart=>exact ⟨0,_,m,uB,by omega,rfl,rfl,by rw [List.take_zero];exact rfl,ze ai.o,rfl⟩
    case round=>
     obtain ⟨j,F,m,hj,aw,rfl,rfl,C,E,rfl⟩:=hrel;obtain ⟨z,u⟩:=uR (decide (j<x.weights.length/\j<300));have l:=ze u
     go_upto_region 7 with fail
     go_cut [39] from 31 to 49 (fun s wc=>s= .bool z/\wc=W.drewN m)
     case first=>
      by_cases b:j<x.weights.length
      rotate_left
      . have I:¬ (j:Int)<(x.weights.length:Int):=by omega
        have hb:z=false:=by rw [<- l.o];exact uF (fun h=>b h.1)
        subst hb;clear u;go_wp2;go_meet
        case rel=>exact ⟨rfl,rfl⟩
      have I:(j:Int)<(x.weights.length:Int):=by omega
      have hid:decide ((j:Int)<(x.weights.length:Int))=true:=uE I
      by_cases r:j<300
      . have T:(j:Int)<300:=by omega
        have hb:z=true:=by rw [<- l.o];exact uE ⟨b,r⟩
        subst hb;clear u;go_wp2;go_meet
        case rel=>exact ⟨rfl,rfl⟩
      have T:¬ (j:Int)<300:=by omega
      have hb:z=false:=by rw [<- l.o];exact uF (fun h=>r h.2)
      subst hb;clear u;go_wp2;go_meet
      case rel=>exact ⟨rfl,rfl⟩
     case rest=>
     obtain ⟨rfl,rfl⟩:=hcut;clear u
     cases z with
     | true=>
       obtain ⟨b,r⟩:=uG l.o;obtain ⟨ad,S,X,Q,B⟩:=J.o.ws.at_ b;subst S;unfold ZA at B;rw [yi] at B;have hb:=E.o;rw [yi] at hb;have Y:(301+j)*140737488351232<=601*140737488351232:=Nat.mul_le_mul_right _ (by omega);have e3:IntKind.i64.wrap ((F:Int)+(x.weights[j].length:Int))=((F+x.weights[j].length:Nat):Int):=by rw [IntKind.wrap_i64];omega
       have L:Hid (F+x.weights[j].length=n+YY (x.weights.take (j+1))):=ze (by have:=C.o;rw [zdv b];omega);have M:Hid (F+x.weights[j].length<=(301+(j+1))*reachBytes):=ze (by rw [yi];omega);clear hb Y C E B X l;have I:(j:Int)<(x.weights.length:Int):=by omega
       generalize x.weights[j]=y at Q e3 L M;go_wp2;go_roundw
       case rel=>exact ⟨j+1,_,m,by omega,by omega,rfl,by go_num,L,M,rfl⟩
       case measure=>simp [intOf];omega
     | false=>
       have ac:Hid (x.weights.length<=300->F=n+YY x.weights):=ze (fun O=>by
        have U:=of_decide_eq_false l.o
        have V:j=x.weights.length:=by
         refine Classical.byContradiction fun h6=>U ⟨by omega,by omega⟩
        have:=C.o;rw [V,List.take_length] at this
        exact this)
       have R:Hid (Below w.heap.size w (W.drewN m)):=zo N.o m;clear l C E hj aw
       by_cases b:2000<F
       . have d1:(2000:Int)<(F:Int):=by omega
         clear b;go_wp2;go_ret;exact ⟨true,rfl,R.o,fun h=>by cases h⟩
       have d1:¬ (2000:Int)<(F:Int):=by omega
       by_cases r:300<x.ans.weights.length
       . have d2:(300:Int)<(x.ans.weights.length:Int):=by omega
         clear b r;go_wp2;go_ret;exact ⟨true,rfl,R.o,fun h=>by cases h⟩
       have d2:¬ (300:Int)<(x.ans.weights.length:Int):=by omega
       by_cases O:300<x.weights.length
       . have d3:(300:Int)<(x.weights.length:Int):=by omega
         clear b r O;go_wp2;go_ret;exact ⟨true,rfl,R.o,fun h=>by cases h⟩
       have d3:¬ (300:Int)<(x.weights.length:Int):=by omega
       have ak:Hid (x.ans.value.length+YY x.ans.weights+YY x.weights<=2000):=ze (by
        have e1:=ag.o (by omega);have e2:=ac.o (by omega)
        omega)
       have ao:Hid (x.ans.weights.length<=300):=ze (by omega);have aj:Hid (x.weights.length<=300):=ze (by omega);have ar:Hid (za8 (W.drewN m) w.heap.size (.slice AP np cp) (.slice AY ny cy) (.slice AW x.ans.weights.length cw) (.slice AS x.weights.length cs) (.slice AT nt ct) x):=J.o.below (zo (Below.refl _ _) m);clear b r O ag ac ai;go_wp2_with fail;refine (ze2 AP np cp w.heap.size x.ans.point _ ar.o.pt).mono ?_;rintro e w2 ⟨g1,rfl,⟨D,rfl⟩,B⟩
       cases g1 with
       | true=>
         have G:Hid (Below w.heap.size w (W.drewN (m+D))):=zo N.o _;go_wp2;go_ret;exact ⟨true,rfl,G.o,fun h=>by cases h⟩
       | false=>
         have ap:=ze (B rfl);clear B;go_wp2_with fail;refine (ze2 AY ny cy w.heap.size x.ans.ray _ (J.o.ray.below (zo (Below.refl _ _) _))).mono ?_;rintro e w3 ⟨g2,rfl,⟨K,rfl⟩,ah⟩
         cases g2 with
         | true=>
           have G:Hid (Below w.heap.size w (W.drewN (m+D+K))):=zo N.o _;go_wp2;go_ret;exact ⟨true,rfl,G.o,fun h=>by cases h⟩
         | false=>
           have aq:=ze (ah rfl);clear ah;have G:Hid (Below w.heap.size w (W.drewN (m+D+K))):=zo N.o _
           have aa:Hid (Xd ((W.drewN (m+D+K)).alloc (.cells #[.slice AT nt ct,str x.row.bound] 31)) (W.heap.size+1) (.slice (some ⟨W.heap.size,0,none⟩) 1 1) [x.row]):=
            zt7 (w:=W.drewN (m+D+K)) ((J.o.tm.below (zo (Below.refl _ _) _)).more G.o.size) J.o.bnd
           have ae:=ze (zhu _ 1 1 [x.row] _ _ aa.o);have af:=ze (ext G.o (zf (W.drewN (m+D+K)) (.cells #[.slice AT nt ct,str x.row.bound] 31)));clear aa;go_wp2_with fail;refine ae.o.mono ?_;rintro e w4 ⟨g3,rfl,⟨m4,rfl⟩,ab⟩;have al:=ze (zo af.o m4);have au:=ze ab;clear ab ae af G;go_wp2;go_ret;exact ⟨g3,rfl,al.o,fun h=>⟨ak.o,ao.o,aj.o,ap.o,aq.o,au.o h⟩⟩
def zbk:List (List UInt8)->(List UInt8->Rat)->Rat
 | [],_=>0
 | x :: N,h=>h x+zbk N h
theorem X9 {g h:List UInt8->Rat}:∀ N,(∀ x∈N,g x=h x)->zbk N g=zbk N h
 | [],_=>rfl
 | x :: N,e=>by show g x+zbk N g=h x+zbk N h;rw [e x (uP ..),X9 N fun y hy=>e y (List.mem_cons_of_mem _ hy)]
theorem zfi {g h:List UInt8->Rat}:∀ N,zbk N (fun x=>g x+h x)=zbk N g+zbk N h
 | []=>by show (0:Rat)=0+0;grind
 | x :: N=>by show g x+h x+zbk N _=g x+zbk N g+(h x+zbk N h);rw [zfi N];grind
theorem zk0 {g:List UInt8->Rat} (c:Rat):∀ N,zbk N (fun x=>c*g x)=c*zbk N g
 | []=>by show (0:Rat)=c*0;grind
 | x :: N=>by show c*g x+zbk N _=c*(g x+zbk N g);rw [zk0 c N];grind
theorem Xp {g:List UInt8->Rat}:∀ N,(∀ x∈N,g x=0)->zbk N g=0
 | [],_=>rfl
 | x :: N,e=>by show g x+zbk N g=0;rw [e x (uP ..),Xp N fun y hy=>e y (List.mem_cons_of_mem _ hy)];grind
theorem zko {s:List UInt8} {c:Rat}:∀ N:List (List UInt8),N.Nodup->s∈N->zbk N (fun x=>if x=s then c else 0)=c
 | [],_,h=>by cases h
 | x :: N,hn,h=>by
   obtain ⟨b,j⟩:=List.nodup_cons.1 hn
   show (if x=s then c else 0)+zbk N _=c
   by_cases e:x=s
   . subst e
     rw [if_pos rfl,Xp N (fun y hy=>if_neg (fun e2:y=x=>b (by rw [<- e2];exact hy)))];grind
   rw [if_neg e,zko N j (by
    rcases List.mem_cons.1 h with h | h
    . exact absurd h.symm e
    . exact h)];grind
theorem zck {N:List (List UInt8)} (hN:N.Nodup) (Z:List UInt8->Rat):∀ l:List zr,(l.map (·.name)).Nodup->(∀ t∈l,t.name∈N)->Ym l Z=zbk N fun x=>Zq l x*Z x
 | [],_,_=>(Xp N fun x _=>by show (0:Rat)*Z x=0;grind).symm
 | t :: l,hn,hm=>by
   rw [List.map_cons] at hn;obtain ⟨b,j⟩:=List.nodup_cons.1 hn
   show yX t*Z t.name+Ym l Z=_
   rw [zck hN Z l j fun t ht=>hm t (List.mem_cons_of_mem _ ht)]
   have e:(zbk N fun x=>Zq (t :: l) x*Z x)=zbk N fun x=>(if x=t.name then yX t*Z t.name else 0)+Zq l x*Z x:=by
    apply X9
    intro x _;rw [zc4]
    by_cases e:x=t.name
    rotate_left
    . rw [if_neg (fun h=>e h.symm),if_neg e];grind
    subst e
    rw [if_pos rfl,if_pos rfl,zb3 b]
    show yX t*_=_
    grind
   rw [e,zfi,zko N hN (hm t (uP ..))]
section
variable {rows:List zS} {ws:Nat->Rat}
theorem VV (hg:∀ r∈rows,ZO r) {N:List (List UInt8)} (hN:N.Nodup) (hm:∀ r∈rows,∀ t∈r.terms,t.name∈N) (Z:List UInt8->Rat):∀ n,n<=rows.length->(zJ n fun i=>ws i*Ym (rows.getD i default).terms Z)=zbk N fun x=>Yq rows ws x n*Z x
 | 0,_=>(Xp N fun x _=>by show (0:Rat)*Z x=0;grind).symm
 | n+1,hn=>by
   have b:=YW (n:=n) hn
   show zJ n (fun i=>ws i*Ym (rows.getD i default).terms Z)+ws n*Ym (rows.getD n default).terms Z=_
   rw [VV hg hN hm Z n (by omega),zck hN Z _ (hg _ b).name (hm _ b)]
   have e:(zbk N fun x=>Yq rows ws x (n+1)*Z x)=zbk N fun x=>Yq rows ws x n*Z x+ws n*(Zq (rows.getD n default).terms x*Z x):=by
    apply X9
    intro x _
    show (if ws n=0 then Yq rows ws x n else Yq rows ws x n+Zq (rows.getD n default).terms x*ws n)*Z x=_
    by_cases e:ws n=0
    . rw [if_pos e,e];grind
    rw [if_neg e];grind
   rw [e,zfi,zk0]
theorem zkg:zvd rows ws=Y0 rows ws rows.length:=by
 have:∀ n,(zJ n fun i=>ws i*YR (rows.getD i default))=Y0 rows ws n:=by
  intro n
  induction n with
  | zero=>rfl
  | succ n ih=>
    show zJ n (fun i=>ws i*YR (rows.getD i default))+ws n*YR (rows.getD n default)=if ws n=0 then Y0 rows ws n else Y0 rows ws n+YR (rows.getD n default)*ws n
    rw [ih]
    by_cases e:ws n=0
    . rw [if_pos e,e];grind
    rw [if_neg e];grind
 exact this _
theorem Vh.in_ (h:Vh rows ws):∀ r∈rows,∀ t∈r.terms,t.name∈xd (yd (rows.map (·.terms))):=fun r hr t ht=>
 ((yn _).2 _).2 (List.mem_flatMap.2 ⟨_,List.mem_map.2 ⟨_,hr,rfl⟩,List.mem_map.2 ⟨t,ht,rfl⟩⟩)
theorem Vh.jn (h:Vh rows ws) (x:List UInt8):x∈jnL rows ws↔Yq rows ws x rows.length≠0:=by
 rw [h.keys.2 x,zi4 h.good]
 by_cases b:Yq rows ws x rows.length=0
 . rw [if_pos b];simp [b]
 rw [if_neg b];simp [b]
theorem znr (h:Vh rows ws) (hp:zbm rows ws=true) (Z:List UInt8->Rat):zp8 rows ws Z=0:=by
 unfold zbm at hp
 rw [Bool.and_eq_true,decide_eq_true_eq,decide_eq_true_eq,ze9,List.length_eq_zero_iff] at hp
 unfold zp8
 rw [VV h.good (vS (yn (yd (rows.map (·.terms)))).1) h.in_ Z _ (uA),Xp]
 intro x _
 have b:Yq rows ws x rows.length=0:=by
  refine Classical.byContradiction fun b=>?_
  have:=(h.jn x).2 b
  rw [hp.1] at this
  cases this
 rw [b];grind
theorem zj7 {c:List UInt8->Rat} (hc:∀ x,yz 50000 (c x)) (x:List UInt8):∀ L:List (List UInt8),Zq (L.map fun s=>{ name:=s,coef:=ya (c s) }) x=if x∈L then c x else 0
 | []=>by simp [Zq]
 | y :: L=>by
   rw [List.map_cons,zc4,zj7 hc x L]
   by_cases e:y=x
   . subst e
     rw [if_pos rfl,if_pos (uP ..),ZB (hc y)];rfl
   rw [if_neg e]
   by_cases h:x∈L
   . rw [if_pos h,if_pos (List.mem_cons_of_mem _ h)]
   rw [if_neg h,if_neg (fun b=>by
    rcases List.mem_cons.1 b with b | b
    . exact e b.symm
    . exact h b)]
theorem zo4 (h:Vh rows ws) {r:zS} (hp:zl7 rows ws r=true) (Z:List UInt8->Rat):zp8 rows ws Z=Ym r.terms Z:=by
 unfold zl7 at hp
 rw [Bool.and_eq_true,decide_eq_true_eq] at hp
 have z:∀ s,yz 50000 (Yq rows ws s rows.length):=fun s=>Dz.short (h.col s _ (uA)) (by have:=h.few;omega)
 have y:∀ x∈jnL rows ws,x∈xd (yd (rows.map (·.terms))):=by
  intro x b
  refine Classical.byContradiction fun hno=>(h.jn x).1 b ?_
  have:∀ n,n<=rows.length->Yq rows ws x n=0:=by
   intro n
   induction n with
   | zero=>intro _;rfl
   | succ n ih=>
     intro C;have u:=YW (n:=n) C
     show (if ws n=0 then Yq rows ws x n else Yq rows ws x n+Zq (rows.getD n default).terms x*ws n)=0
     rw [ih (by omega),zb3 (fun hc=>by
      obtain ⟨t,l,e⟩:=List.mem_map.1 hc
      exact hno (e ▸ h.in_ _ u t l)),ite_eq_left_iff]
     intro _
     grind
  exact this _ (uA)
 have m:=vS (yn (yd (rows.map (·.terms)))).1
 unfold zp8
 rw [VV h.good m h.in_ Z _ (uA), <- hp.1]
 rw [zck m Z (jnT rows ws) (by rw [zhj];exact vS h.keys.1) (fun t l=>by
  have:t.name∈(jnT rows ws).map (·.name):=List.mem_map.2 ⟨t,l,rfl⟩
  rw [zhj] at this
  exact y _ this)]
 apply X9
 intro x _
 have e:=zj7 z x (jnL rows ws)
 have B:Zq (jnT rows ws) x=if x∈jnL rows ws then Yq rows ws x rows.length else 0:=e
 rw [B]
 by_cases b:x∈jnL rows ws
 . rw [if_pos b]
 rw [if_neg b]
 have j:Yq rows ws x rows.length=0:=Classical.byContradiction fun j=>b ((h.jn x).2 j)
 rw [j]
theorem zsk {n:Nat} {p:Nat->Bool} (h:Ys n p<0):∀ k,k<n->p k=false:=by
 intro k b
 unfold Ys at h
 cases hf:(List.range n).find? p with
 | some j=>rw [hf] at h;exact absurd h (by simp only [];omega)
 | none=>
   rw [List.find?_eq_none] at hf
   simpa using hf k (by simpa using b)
theorem zej {p:List zr} (h:Xl rows p=true):zib rows (Zq p):=by
 unfold Xl at h
 rw [Bool.and_eq_true,decide_eq_true_eq,decide_eq_true_eq] at h
 intro i hi
 have hb:=zsk h.2 i hi
 have b:XI p (rows.getD i default).terms (rows.getD i default).terms.length<=YR (rows.getD i default):=Rat.not_lt.1 (of_decide_eq_false hb)
 rwa [zbs] at b
theorem zno (l:List (List UInt8)) (i:Nat):0<=Zx l i:=by
 unfold Zx zmm
 cases zj (l.getD i []) with
 | none=>exact Rat.le_refl
 | some q=>
   simp only []
   split
   . exact Rat.le_refl
   exact Rat.not_lt.1 ‹_›
theorem zo2 {goal:List zr} {a:zkn} (hs:yK rows) (hl:∀ t∈a.weights,t.length<=2000) (h:X1 rows goal a=0):xy rows goal=0/\∃ kd:Nat,a.kind=(kd:Int)/\zgh rows goal kd (za9 a)/\(kd=1->zj a.value=some (za9 a)):=by
 unfold X1 at h
 split at h
 . exact absurd h ‹_›
 rename_i E
 have r:xy rows goal=0:=Classical.byContradiction E;refine ⟨r,?_⟩;have u:=(zjd r).1
 split at h
 . cases h
 rename_i G
 split at h
 rotate_left
 . cases h
 rename_i b
 unfold zbj at b
 split at b
 . rename_i l
   refine ⟨2,l,.inr (.inl ⟨rfl,Zx a.weights,?_⟩),fun h=>by cases h⟩;unfold zea at b;rw [Bool.and_eq_true] at b;have e:=zi1 hs u hl b.1;have hb:=b.2;unfold zbm at hb;rw [Bool.and_eq_true,decide_eq_true_eq,decide_eq_true_eq] at hb;exact ⟨fun i _=>zno _ i,znr e b.2,by rw [zkg];exact hb.2⟩
 split at b
 . rename_i l y
   unfold zqe at b;rw [Bool.and_eq_true,Bool.and_eq_true,Bool.and_eq_true,decide_eq_true_eq] at b;obtain ⟨j,m,t3,t4⟩:=b;unfold zrt at t4;rw [Bool.and_eq_true] at t4;have e:=zi1 hs u hl t4.1
   have hv:zj a.value=some (za9 a):=by
    obtain ⟨q,B⟩:=Option.isSome_iff_exists.1 m;unfold za9;rw [B];rfl
   refine ⟨1,y,.inl ⟨rfl,Zq a.point,Zx a.weights,⟨zej j,by rw [<- zbs];exact t3,fun i _=>zno _ i,fun Z=>zo4 e t4.2 Z,?_⟩⟩,fun _=>hv⟩;have hb:=t4.2;unfold zl7 at hb;rw [Bool.and_eq_true,decide_eq_true_eq,decide_eq_true_eq] at hb;rw [zkg];exact hb.2
 rename_i l y
 have F:a.kind=3:=by omega
 unfold zjw at b;rw [Bool.and_eq_true,Bool.and_eq_true] at b;obtain ⟨j,m,t3⟩:=b;unfold zdj at t3;rw [Bool.and_eq_true,decide_eq_true_eq] at t3;refine ⟨3,F,.inr (.inr ⟨rfl,Zq a.point,Zq a.ray,⟨zej j,fun i hi=>?_,by rw [<- zbs];exact t3.2⟩⟩),fun h=>by cases h⟩
 have C:Ys rows.length (fun k=>zsl a.ray (rows.getD k default))<0:=by
  have:=t3.1;simp only [Bool.not_eq_true',decide_eq_false_iff_not] at this
  omega
 have D:=zsk C i hi;have z:XI a.ray (rows.getD i default).terms (rows.getD i default).terms.length<=0:=Rat.not_lt.1 (of_decide_eq_false D)
 rwa [zbs] at z
end
end Go.Proofs.YtobdoblpnanclaaGreatDoor
