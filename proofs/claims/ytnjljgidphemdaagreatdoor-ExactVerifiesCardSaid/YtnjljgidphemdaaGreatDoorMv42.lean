/- Parts of the proof. -/
import Derived.Test.YtnjljgidphemdaaGreatDoorMv32
import Derived.Test.YtnjljgidphemdaaGreatDoorMv41
set_option linter.all false
set_option maxRecDepth 100000
set_option maxHeartbeats 32000000
namespace Go.Proofs.YtnjljgidphemdaaGreatDoor
open Proofs.Tryz Go.RowKit
section
variable {rows:List zU} {ws:Nat->Rat}
theorem vT {n:Nat} (hn:n<rows.length):rows.getD n default∈rows:=by
 have e:=xGD (d:=default) hn
 rw [e];exact uO hn
theorem zg9 (hg:∀ r∈rows,ZW r) (s:List UInt8):∀ n,n<=rows.length->(XL rows ws n s).getD 0=Y0 rows ws s n/\((XL rows ws n s).isSome=true↔s∈Zk rows ws n)
 | 0,_=>⟨rfl,by simp [XL,noF,Zk]⟩
 | n+1,hn=>by
   have e:=zg9 hg s n (by omega);have j:=zlb (wt:=ws n) (s:=s) (F:=XL rows ws n) (hg _ (vT (n:=n) (by omega))).name;unfold XL Y0 Zk
   by_cases b:ws n=0
   . rw [if_pos b,if_pos b,if_pos b];exact e
   rw [if_neg b,if_neg b,if_neg b,j.1,j.2,e.1]
   refine ⟨rfl,?_⟩;rw [e.2,List.mem_append]
theorem znv (hg:∀ r∈rows,ZW r) (s:List UInt8):nzF (XL rows ws rows.length) s=if Y0 rows ws s rows.length=0 then none else some (Y0 rows ws s rows.length):=by
 obtain ⟨b,l⟩:=zg9 (ws:=ws) hg s rows.length (uA)
 unfold nzF
 cases hf:XL rows ws rows.length s with
 | none=>
   rw [hf] at b;have b:Y0 rows ws s rows.length=0:=b.symm;rw [if_pos b,ite_self]
 | some c=>
   rw [hf] at b;have b:Y0 rows ws s rows.length=c:=b.symm;rw [b]
   by_cases j:c=0
   . rw [if_pos j,if_pos (by rw [j])]
   rw [if_neg j,if_neg (fun e=>j (by injection e))]
def jnL (rows:List zU) (ws:Nat->Rat):List (List UInt8):=(ve (Zk rows ws rows.length)).filter fun s=>decide (Y0 rows ws s rows.length≠0)
def jnT (rows:List zU) (ws:Nat->Rat):List zu:=(jnL rows ws).map fun s=>{ name:=s,coef:=zI (Y0 rows ws s rows.length) }
theorem zuq {l:List (List UInt8)} (h:xh l (Zk rows ws rows.length)):yJ rows ws l=jnT rows ws:=by
 have e:l=ve (Zk rows ws rows.length):=ZC _ _ h.1 (yB _).1 (fun x=>by rw [h.2 x,(yB _).2 x])
 rw [e];rfl
theorem zkm (hg:∀ r∈rows,ZW r):zl8 (jnL rows ws) (nzF (XL rows ws rows.length)):=by
 refine ⟨(yB _).1.sublist List.filter_sublist,fun x=>?_⟩
 unfold jnL
 rw [List.mem_filter,(yB _).2 x,znv hg x]
 by_cases b:Y0 rows ws x rows.length=0
 . rw [if_pos b];simp [b]
 rw [if_neg b]
 simp only [Option.isSome_some,iff_true];refine ⟨?_,uE b⟩;obtain ⟨e,j⟩:=zg9 (ws:=ws) hg x rows.length (uA);refine j.1 ?_
 cases hf:XL rows ws rows.length x with
 | none=>rw [hf] at e;exact absurd e.symm b
 | some c=>rfl
instance:DecidableEq zu:=fun a b=>decidable_of_iff (a.name=b.name/\a.coef=b.coef) ⟨fun h=>by cases a;cases b;simp_all,fun h=>by subst h;exact ⟨rfl,rfl⟩⟩
def Vd (k:Nat) (F:List UInt8->Option Rat) (Q:Rat) (row:Option zU):Bool:=
 (decide (k=0) && decide (Q<0)) || match row with
   | none=>false
   | some r=>decide (k=r.terms.length) && (r.terms.all (fun t=>decide (F t.name=some (ZS t))) && decide (Q<=XY r))
def zek (rows:List zU) (ws:Nat->Rat):Bool:=decide (jnT rows ws=[]) && decide (ZA rows ws rows.length<0)
def zt6 (rows:List zU) (ws:Nat->Rat) (r:zU):Bool:=decide (jnT rows ws=r.terms) && decide (ZA rows ws rows.length<=XY r)
def Ya (rows:List zU) (l:List (List UInt8)):Bool:=xq l rows.length && zek rows (xC l)
def Vp (rows:List zU) (r:zU) (l:List (List UInt8)):Bool:=xq l rows.length && zt6 rows (xC l) r
def Y2 (rows:List zU) (row:Option zU) (l:List (List UInt8)):Bool:=xq l rows.length && Vd (jnL rows (xC l)).length (nzF (XL rows (xC l) rows.length)) (ZA rows (xC l) rows.length) row
structure zch (r:zU):Prop where
 coef:∀ t∈r.terms,∃ q,zl t.coef=some q/\q≠0/\yG 12 q
 bnd:∃ q,zl r.bound=some q/\Dz 2000 q
theorem ZW.fit {r:zU} (h:ZW r):zch r:=⟨h.coef,let ⟨q,h1,h2⟩:=h.bnd;⟨q,h1,Dz.more h2.sz (by omega)⟩⟩
theorem zch.bq {r:zU} (h:zch r):zl r.bound=some (XY r)/\Dz 2000 (XY r):=by
 obtain ⟨q,b,j⟩:=h.bnd
 have e:XY r=q:=by unfold XY;rw [b];rfl
 rw [e]
 exact ⟨b,j⟩
theorem zkb:jnT rows ws=[]↔(jnL rows ws).length=0:=by
 unfold jnT
 rw [List.map_eq_nil_iff,List.length_eq_zero_iff]
theorem zpq {Q:Rat} (h:Q=ZA rows ws rows.length):Vd (jnL rows ws).length (nzF (XL rows ws rows.length)) Q none=zek rows ws:=by
 subst h
 unfold Vd zek
 rw [Bool.or_false]
 congr 1
 exact decide_eq_decide.2 zkb.symm
theorem zrd {l m:List (List UInt8)} (hl:zi6 l) (hm:zi6 m) (h:∀ x∈l,x∈m) (hn:m.length<=l.length):l=m:=by
 refine ZC l m hl hm (fun x=>⟨h x,fun hx=>?_⟩)
 refine Classical.byContradiction fun hn2=>?_
 have e:=zcx (l:=x :: l) (ns:=m) (List.nodup_cons.2 ⟨hn2,VB hl⟩) (fun y b=>by
  rcases List.mem_cons.1 b with rfl | b
  . exact hx
  . exact h y b)
 rw [List.length_cons] at e
 omega
theorem zpy (hg:∀ r∈rows,ZW r) {r:zU} (hr:zch r) (hi:zi6 (r.terms.map (·.name))) (hs:∀ s,yG 50000 (Y0 rows ws s rows.length)):
 Vd (jnL rows ws).length (nzF (XL rows ws rows.length)) (ZA rows ws rows.length) (some r)=(zek rows ws || zt6 rows ws r):=by
 have z:(decide ((jnL rows ws).length=0) && decide (ZA rows ws rows.length<0))=zek rows ws:=by
  unfold zek
  congr 1
  exact decide_eq_decide.2 zkb.symm
 have F:(decide ((jnL rows ws).length=r.terms.length) && r.terms.all (fun t=>decide (nzF (XL rows ws rows.length) t.name=some (ZS t))))=decide (jnT rows ws=r.terms):=by
  rw [Bool.eq_iff_iff,Bool.and_eq_true,decide_eq_true_eq,decide_eq_true_eq,List.all_eq_true]
  constructor
  rotate_left
  . intro h
    refine ⟨by rw [<- h];unfold jnT;rw [List.length_map],fun t b=>?_⟩;rw [<- h] at b;unfold jnT at b;obtain ⟨x,l,rfl⟩:=List.mem_map.1 b;have j:Y0 rows ws x rows.length≠0:=by unfold jnL at l;simpa using (List.mem_filter.1 l).2
    refine uE ?_
    show nzF (XL rows ws rows.length) x=_
    rw [znv hg,if_neg j];unfold ZS;rw [Yj (hs x)];rfl
  rintro ⟨D,B⟩
  have u:∀ t∈r.terms,Y0 rows ws t.name rows.length≠0/\Y0 rows ws t.name rows.length=ZS t:=fun t b=>by
   have e:nzF (XL rows ws rows.length) t.name=some (ZS t):=by simpa using B t b
   rw [znv hg] at e
   by_cases j:Y0 rows ws t.name rows.length=0
   . rw [if_pos j] at e;cases e
   rw [if_neg j] at e;exact ⟨j,by injection e⟩
  have E:r.terms.map (·.name)=jnL rows ws:=by
   refine zrd hi (zkm hg).1 (fun x l=>?_) (by rw [List.length_map,D];exact uA);obtain ⟨t,b,rfl⟩:=List.mem_map.1 l;rw [(zkm hg).2,znv hg,if_neg (u t b).1];rfl
  unfold jnT;rw [<- E,List.map_map];refine (List.map_congr_left (fun t b=>?_)).trans (List.map_id _);obtain ⟨q,m,_⟩:=hr.coef t b;have y:ZS t=q:=by unfold ZS;rw [m];rfl
  have C:=(yN.1 m).1
  show zu.mk t.name (zI (Y0 rows ws t.name rows.length))=t
  rw [(u t b).2,y, <- C]
 show (_ || (_ && (_ && _)))=_
 rw [z, <- Bool.and_assoc,F]
 rfl
end
structure Vb (rows:List zU) (ws:Nat->Rat):Prop where
 small:xI rows
 ok:yf rows=0
 wt:∀ i,i<rows.length->Dz 2000 (ws i)/\0<=ws i
theorem zjr {e:Nat} {q:Rat} (h:Dz e q) (he:e<=40000):zS (zI q):=by
 have b:=Dz.short h (Nat.lt_succ_self e)
 unfold zI zS
 have r:=b.1
 have m:=b.2
 by_cases l:q.num<0<;>by_cases j:q.den=1<;>simp [l,j]<;>omega
theorem rlE {e:Nat} {q:Rat} (h:Dz e q) (he:e<=40000):Zu 8388608 q:=(Zu.of_dz h).more (by omega)
theorem nlE {e:Nat} {q:Rat} (h:Dz e q) (he:e<=40000):XV 8388608 q:=(Dz.nlen h).mono (by omega)
section
variable {rows:List zU} {ws:Nat->Rat}
theorem Vb.few (h:Vb rows ws):rows.length<=12:=by
 have:=(ziy h.ok).1
 rcases h.small.2.1 with h | h<;>omega
theorem Vb.good (h:Vb rows ws):∀ r∈rows,ZW r:=(ziy h.ok).2
theorem Vb.col (h:Vb rows ws) (s:List UInt8):∀ n,n<=rows.length->Dz (n*2020+12) (Y0 rows ws s n)
 | 0,_=>Dz.zero _
 | n+1,hn=>by
   have b:=h.col s n (by omega);unfold Y0
   by_cases e:ws n=0
   . rw [if_pos e];exact b.more (by omega)
   rw [if_neg e]
   exact Dz.add b (Dz.mul (zkd (h.good _ (vT (n:=n) (by omega))) s) (h.wt n (by omega)).1 (uA)) (by omega)
theorem Vb.bnd (h:Vb rows ws):∀ n,n<=rows.length->Dz (n*2020+12) (ZA rows ws n)
 | 0,_=>Dz.zero _
 | n+1,hn=>by
   have b:=h.bnd n (by omega);unfold ZA
   by_cases e:ws n=0
   . rw [if_pos e];exact b.more (by omega)
   rw [if_neg e]
   exact Dz.add b (Dz.mul (YR (h.good _ (vT (n:=n) (by omega)))).2.sz (h.wt n (by omega)).1 (uA)) (by omega)
theorem Vb.names (h:Vb rows ws):∀ n,n<=rows.length->(Zk rows ws n).length<=n*1000
 | 0,_=>uA
 | n+1,hn=>by
   have b:=h.names n (by omega);have j:=zeh h.small (vT (n:=n) (by omega));unfold Zk
   by_cases e:ws n=0
   . rw [if_pos e];exact uC b (Nat.mul_le_mul_right _ (Nat.le_succ n))
   rw [if_neg e,List.length_append,List.length_map,Nat.succ_mul];exact Nat.add_le_add b j
theorem Vb.sus (h:Vb rows ws):zxk rows ws where
 few:=by have:=h.few;omega
 ok:=fun i hi hw=>by
  have y:=h.few
  have m:=vT hi
  have b:=h.good _ m
  have e:=(h.wt i hi).1
  refine ⟨fun t ht=>?_,rlE e (by omega),fun k hk x=>?_,⟨_,(YR b).1,rlE (YR b).2.sz (by omega),rlE (Dz.mul (YR b).2.sz e (uA)) (by omega)⟩,(h.small.each.2 _ m).2.1,rlE (h.bnd i (by omega)) (by omega)⟩
  . obtain ⟨c,j,_,r⟩:=b.coef t ht
    exact ⟨c,j,rlE r.sz (by omega),rlE (Dz.mul r.sz e (uA)) (by omega)⟩
  have j:=zlb (wt:=ws i) (s:=x) (l:=(rows.getD i default).terms.take k) (F:=XL rows ws i) (b.name.sublist ((List.take_sublist k _).map _))
  rw [j.1,(zg9 h.good x i (by omega)).1];have u:=Dz.add (h.col x i (by omega)) (Dz.mul (zp0 b k x) e (Nat.le_refl (12+2000))) (Nat.le_refl (i*2020+12+(12+2000)+1));exact rlE u (by omega)
theorem Vb.join (h:Vb rows ws):zu6 rows ws where
 few:=by have:=h.few;omega
 coefs:=fun i hi t ht=>by obtain ⟨q,b,_⟩:=(h.good _ (vT hi)).coef t ht;rw [b];rfl
 bnd:=fun i hi=>(YR (h.good _ (vT hi))).1
 small:=fun i hi=>(h.small.each.2 _ (vT hi)).2.1
 bl:=fun i hi=>⟨nlE (YR (h.good _ (vT hi))).2.sz (by omega),nlE (Dz.mul (YR (h.good _ (vT hi))).2.sz (h.wt i hi).1 (uA)) (by omega)⟩
 wl:=fun i hi=>nlE (h.wt i hi).1 (by omega)
 bs:=fun i hi=>nlE (h.bnd i hi) (by have:=h.few;omega)
 cl:=fun i s hi=>⟨nlE (zkd (h.good _ (vT hi)) s) (by omega),nlE (Dz.mul (zkd (h.good _ (vT hi)) s) (h.wt i hi).1 (uA)) (by omega)⟩
 cs:=fun i s hi=>nlE (h.col s i hi) (by have:=h.few;omega)
 cnt:=fun i hi=>by
  have b:=h.names i (by omega)
  have e:=zeh h.small (vT hi)
  have j:=h.few
  omega
 out:=fun s=>zjr (h.col s _ (uA)) (by have:=h.few;omega)
theorem Vb.keys (h:Vb rows ws):zl8 (jnL rows ws) (nzF (XL rows ws rows.length)):=zkm h.good
theorem Vb.bound (h:Vb rows ws):Zu 8388608 (ZA rows ws rows.length)/\XV 8388608 (ZA rows ws rows.length)/\zS (zI (ZA rows ws rows.length))/\zl (zI (ZA rows ws rows.length))=some (ZA rows ws rows.length):=by
 have b:=h.bnd _ (uA)
 have e:=h.few
 exact ⟨rlE b (by omega),nlE b (by omega),zjr b (by omega),Yj (Dz.short b (by omega))⟩
theorem Vb.vals (h:Vb rows ws) (s:List UInt8) (q:Rat) (hq:nzF (XL rows ws rows.length) s=some q):Zu 8388608 q:=by
 rw [znv h.good] at hq
 by_cases b:Y0 rows ws s rows.length=0
 . rw [if_pos b] at hq;cases hq
 rw [if_neg b] at hq
 injection hq with hq
 rw [<- hq];exact rlE (h.col s _ (uA)) (by have:=h.few;omega)
theorem zp3 (hs:xI rows) (h0:yf rows=0) {l:List (List UInt8)} (hl:∀ t∈l,t.length<=2000) (hw:xq l rows.length=true):Vb rows (xC l):=by
 unfold xq at hw
 rw [Bool.and_eq_true,decide_eq_true_eq,List.all_eq_true] at hw
 refine ⟨hs,h0,fun i hi=>?_⟩
 have j:i<l.length:=by omega
 have e:l.getD i []=l[i]:=by simp [List.getD,List.getElem?_eq_getElem j]
 have b:=hw.2 _ (uO j)
 unfold xC
 rw [e]
 unfold zjw at b |-
 cases hr:zl l[i] with
 | none=>rw [hr] at b;cases b
 | some q=>
   rw [hr] at b;simp only at b |-
   by_cases m:q<0
   . rw [if_pos m] at b;cases b
   rw [if_neg m]
   exact ⟨zep hr (hl _ (uO j)) (by omega),Rat.not_lt.1 m⟩
theorem Vb.prov (h:Vb rows ws) {r:zU} (hr:zch r) (hi:zi6 (r.terms.map (·.name))):
 Vd (jnL rows ws).length (nzF (XL rows ws rows.length)) (ZA rows ws rows.length) (some r)=(zek rows ws || zt6 rows ws r):=
 zpy h.good hr hi (fun s=>Dz.short (h.col s _ (uA)) (by have:=h.few;omega))
def zhp (p:List zu) (f:List UInt8->Rat):List (List UInt8)->Rat
 | []=>0
 | x :: N=>f x*ZR p x+zhp p f N
theorem zle {p:List zu} {f g:List UInt8->Rat}:∀ N,zhp p (fun x=>f x+g x) N=zhp p f N+zhp p g N
 | []=>(Rat.add_zero 0).symm
 | x :: N=>by
   unfold zhp;rw [zle N,Rat.add_mul,Rat.add_assoc,Rat.add_assoc,Rat.add_left_comm (g x*ZR p x)]
theorem zpv {p:List zu} {f:List UInt8->Rat} {c:Rat}:∀ N,zhp p (fun x=>f x*c) N=zhp p f N*c
 | []=>(Rat.zero_mul c).symm
 | x :: N=>by
   unfold zhp;rw [zpv N,Rat.add_mul,Rat.mul_assoc,Rat.mul_assoc,Rat.mul_comm c]
theorem zav {p:List zu} {f:List UInt8->Rat}:∀ N,(∀ x∈N,f x=0)->zhp p f N=0
 | [],_=>rfl
 | x :: N,h=>by
   unfold zhp;rw [h x uP,Rat.zero_mul,zav N (fun y hy=>h y (List.mem_cons_of_mem _ hy)),Rat.zero_add]
theorem zhy {p:List zu} {f g:List UInt8->Rat}:∀ N,(∀ x∈N,f x=g x)->zhp p f N=zhp p g N
 | [],_=>rfl
 | x :: N,h=>by
   unfold zhp;rw [h x uP,zhy N (fun y hy=>h y (List.mem_cons_of_mem _ hy))]
theorem zri {p:List zu} {s:List UInt8} {c:Rat}:∀ N:List (List UInt8),N.Nodup->s∈N->zhp p (fun x=>if s=x then c else 0) N=c*ZR p s
 | [],_,h=>by cases h
 | x :: N,hn,h=>by
   rw [List.nodup_cons] at hn;unfold zhp
   by_cases e:s=x
   . subst e
     rw [if_pos rfl,zav N (fun y hy=>if_neg (fun e=>hn.1 (by rw [e];exact hy))),Rat.add_zero]
   rw [if_neg e,Rat.zero_mul,Rat.zero_add]
   exact zri N hn.2 ((List.mem_cons.1 h).resolve_left e)
theorem zre {l:List zu} (hn:(l.map (·.name)).Nodup) {k:Nat} (b:k<l.length) (x:List UInt8):
 ZR (l.take (k+1)) x=ZR (l.take k) x+(if l[k].name=x then ZS l[k] else 0):=by
 induction l generalizing k with
 | nil=>cases b
 | cons t l ih=>
   rw [List.map_cons,List.nodup_cons] at hn
   cases k with
   | zero=>
     show (if t.name=x then (zl t.coef).getD 0 else 0)=0+(if t.name=x then ZS t else 0)
     rw [Rat.zero_add];rfl
   | succ k=>
     have b:k<l.length:=by simpa using b
     have:=ih hn.2 b
     show (if t.name=x then (zl t.coef).getD 0 else ZR (l.take (k+1)) x)=(if t.name=x then (zl t.coef).getD 0 else ZR (l.take k) x)+(if l[k].name=x then ZS l[k] else 0)
     by_cases e:t.name=x
     rotate_left
     . rw [if_neg e,if_neg e];exact this
     rw [if_pos e,if_pos e,if_neg,Rat.add_zero]
     intro j;exact hn.1 (by rw [e, <- j];exact List.mem_map.2 ⟨_,uO b,rfl⟩)
theorem zpl {p l:List zu} (hn:(l.map (·.name)).Nodup) {N:List (List UInt8)} (hN:N.Nodup) (hm:∀ t∈l,t.name∈N):∀ k,k<=l.length->YD p l k=zhp p (ZR (l.take k)) N
 | 0,_=>(zav (p:=p) (f:=ZR (l.take 0)) N (fun x _=>rfl)).symm
 | k+1,b=>by
   have b:k<l.length:=b;have e:=xGD (d:=default) b;rw [zhy N (fun x _=>zre hn b x),zle,zri N hN (hm _ (uO b)), <- zpl hn hN hm k (by omega), <- e]
   rfl
theorem Vb.excl (h:Vb rows ws) {p:List zu} (hp:∀ k,k<rows.length->X8 p rows k=false):zek rows ws=false:=by
 refine Bool.eq_false_iff.2 fun hh=>?_
 unfold zek at hh
 rw [Bool.and_eq_true,decide_eq_true_eq,decide_eq_true_eq,zkb,List.length_eq_zero_iff] at hh
 obtain ⟨C,z⟩:=hh
 have E:∀ x,Y0 rows ws x rows.length=0:=fun x=>by
  refine Classical.byContradiction fun b=>?_
  have:=h.keys.2 x
  rw [znv h.good,if_neg b,C] at this
  exact absurd (this.2 rfl) (by simp)
 have key:∀ n,n<=rows.length->zhp p (fun x=>Y0 rows ws x n) (ve (zP (rows.map (·.terms))))<=ZA rows ws n:=by
  intro n
  induction n with
  | zero=>
    intro _
    show zhp p (fun _=>(0:Rat)) _<=0
    rw [zav _ (fun x _=>rfl)];exact Rat.le_refl
  | succ n ih=>
    intro u;have m:=vT (n:=n) u;have D:=h.good _ m
    have y:∀ t∈(rows.getD n default).terms,t.name∈ve (zP (rows.map (·.terms))):=fun t e=>
     ((yB _).2 _).2 (List.mem_flatMap.2 ⟨_,List.mem_map.2 ⟨_,m,rfl⟩,List.mem_map.2 ⟨t,e,rfl⟩⟩)
    have e:=zpl (p:=p) D.name (VB (yB (zP (rows.map (·.terms)))).1) y _ (uA);rw [List.take_length] at e;have hb:=hp n u;have B:YD p (rows.getD n default).terms (rows.getD n default).terms.length<=XY (rows.getD n default):=Rat.not_lt.1 (of_decide_eq_false hb)
    by_cases b:ws n=0
    . have j:(fun x=>Y0 rows ws x (n+1))=fun x=>Y0 rows ws x n:=funext fun x=>by
       show (if ws n=0 then Y0 rows ws x n else _)=_
       rw [if_pos b]
      have l:ZA rows ws (n+1)=ZA rows ws n:=by
       show (if ws n=0 then ZA rows ws n else _)=_
       rw [if_pos b]
      rw [j,l];exact ih (by omega)
    have j:(fun x=>Y0 rows ws x (n+1))=fun x=>Y0 rows ws x n+ZR (rows.getD n default).terms x*ws n:=funext fun x=>by
     show (if ws n=0 then Y0 rows ws x n else _)=_
     rw [if_neg b]
    have l:ZA rows ws (n+1)=ZA rows ws n+XY (rows.getD n default)*ws n:=by
     show (if ws n=0 then ZA rows ws n else _)=_
     rw [if_neg b]
    rw [j,l,zle (f:=fun x=>Y0 rows ws x n) (g:=fun x=>ZR (rows.getD n default).terms x*ws n),zpv, <- e];exact Rat.le_trans (Rat.add_le_add_right.2 (ih (by omega))) (Rat.add_le_add_left.2 (Rat.mul_le_mul_of_nonneg_right B (h.wt n (by omega)).2))
 have r:=key _ (uA)
 rw [zav _ (fun x _=>E x)] at r
 exact absurd z (Rat.not_lt.2 r)
end
open Go.Deep
attribute [local go_sem ↓] Go.wp_at_zero Go.wp_at_succ
theorem ZV.count {w:World} {g:Nat} {F:List UInt8->Option Rat} {l:List (List UInt8)} (h:ZV w g F) (hk:zl8 l F):∃ e j,w.heap[g]?=some (.map e j)/\e.size=l.length:=by
 obtain ⟨D,⟨e,j,hb,z,_⟩,r,hF⟩:=h
 have m:∀ x,x∈D.map (·.1)↔(F x).isSome=true:=fun x=>by
  have:=hF x
  constructor
  . intro b
    obtain ⟨p,u,rfl⟩:=List.mem_map.1 b;rw [X1 (v:=p.2) r u] at this;obtain ⟨q,y,_⟩:=this;rw [y];rfl
  intro b
  cases hg:zbm x D with
  | none=>rw [hg] at this;rw [this] at b;cases b
  | some v=>exact List.mem_map.2 ⟨_,zhh hg,rfl⟩
 have E:e.size=D.length:=by have:=congrArg List.length z;simpa [VF] using this
 have C:=zcx r (fun x b=>(hk.2 x).2 ((m x).1 b))
 have B:=zcx (VB hk.1) (fun x b=>(m x).2 ((hk.2 x).1 b))
 rw [List.length_map] at C B
 exact ⟨e,j,hb,by omega⟩
theorem zkx {w:World} {g:Nat} {t:TypeId} {v:Value} {cs:List Value} (h:Blk w g t (v :: cs).toArray) (hn:YZ w g):False:=by
 have b:=h.cell 0
 rw [hn ⟨g,0,none⟩ rfl] at b
 simp at b
theorem znt:prog.underlying 99=some (.map (prog.mapKeyOf 99) (prog.mapElemOf 99)):=by kernel_rfl
theorem ZV.len {w:World} {g:Nat} {F:List UInt8->Option Rat} {l:List (List UInt8)} (h:ZV w g F) (hk:zl8 l F) (ty:TypeId):
 (Builtin.len_ #[99] ty #[.map (some g)]).run prog w= .ok (.int .i64 (l.length:Int)) w:=by
 obtain ⟨b,j,hb,e⟩:=h.count hk
 rw [run_len_map w 99 ty g b j znt hb,e]
 rfl
def zea (w:World) (B:Nat) (rv:Value):Option zU->Prop
 | none=>rv= .pointer none
 | some r=>∃ g A n c,rv= .pointer (some ⟨g,0,none⟩)/\g<B/\Blk w g 31 #[.slice A n c,str r.bound]/\zh w B (.slice A n c) r.terms
theorem zea.chg {S:Nat->Prop} {w w' :World} {B:Nat} {rv:Value} {row:Option zU} (h:zea w B rv row) (hc:Chg S w w') (hS:∀ x,x<B->S x->YZ w x):zea w' B rv row:=by
 cases row with
 | none=>exact h
 | some r=>
   obtain ⟨g,A,n,c,e,j,b,l⟩:=h;exact ⟨g,A,n,c,e,j,hc.blk b (fun hs=>zkx b (hS g j hs)),l.chg hc hS⟩
structure zym (w0 w:World) (b gm gs B:Nat) (rv:Value) (row:Option zU) (F:List UInt8->Option Rat) (Q:Rat):Prop where
 book:zv w b
 map:ZV w gm F
 box:xk w gs gm Q
 ptr:zea w B rv row
 neb:gm≠b
 chg:Chg (fun x=>x=b\/B<=x) w0 w
section
variable {w0 w w' :World} {b gm gs B:Nat} {rv:Value} {row:Option zU} {F:List UInt8->Option Rat} {Q:Rat}
theorem zym.below (h:zym w0 w b gm gs B rv row F Q) (hb:Below w.heap.size w w'):zym w0 w' b gm gs B rv row F Q:=
 ⟨h.book.below hb,h.map.below hb,h.box.below hb,h.ptr.chg (S:=fun _=>False) (Chg.of_below hb) (fun _ _ h=>h.elim),h.neb,zJ h.chg hb⟩
end
structure zs1 (w0 w:World) (b gm gs gr B:Nat) (tv:Value) (r:zU) (F:List UInt8->Option Rat) (Q:Rat):Prop where
 book:zv w b
 map:ZV w gm F
 box:xk w gs gm Q
 blk:Blk w gr 31 #[tv,str r.bound]
 terms:zh w B tv r.terms
 neb:gm≠b
 chg:Chg (fun x=>x=b\/B<=x) w0 w
section
variable {w0 w w' :World} {b gm gs gr B:Nat} {tv:Value} {r:zU} {F:List UInt8->Option Rat} {Q:Rat}
theorem zs1.below (h:zs1 w0 w b gm gs gr B tv r F Q) (hb:Below w.heap.size w w'):zs1 w0 w' b gm gs gr B tv r F Q:=by
 have e:=h.blk
 exact ⟨h.book.below hb,h.map.below hb,h.box.below hb,e.below hb e.lt,zh.below h.terms hb,h.neb,zJ h.chg hb⟩
theorem zs1.read (h:zs1 w0 w b gm gs gr B tv r F Q) (hB:zv w' b) (hc:Chg (· =b) w w'):zs1 w0 w' b gm gs gr B tv r F Q:=by
 obtain ⟨cs,l⟩:=h.box.blk
 have j:∀ y,y=b->ye w y:=fun y e=>by subst e;exact h.book.noDig
 exact ⟨hB,h.map.chg hc h.neb j,h.box.chg hc (fun e=>h.book.neB l e.symm) j,h.book.keepBlk hc h.blk,h.book.keepT hc h.terms,h.neb,h.chg.trans hc (fun x _ e=>.inl e)⟩
end
theorem zc8 (x y:Rat):XX x y=0↔x=y:=by
 unfold XX
 by_cases b:x<y
 . rw [if_pos b]
   exact ⟨fun h=>(by cases h),fun h=>(by subst h;exact absurd b Rat.lt_irrefl)⟩
 rw [if_neg b]
 by_cases e:y<x
 . rw [if_pos e]
   exact ⟨fun h=>(by cases h),fun h=>(by subst h;exact absurd e Rat.lt_irrefl)⟩
 rw [if_neg e]
 exact ⟨fun _=>Rat.le_antisymm (Rat.not_lt.1 e) (Rat.not_lt.1 b),fun _=>rfl⟩
def zxg (w:World) (b:Nat) (z:Bool) (e:Ending) (w' :World):Prop:=e= .returned (.bool z)/\zv w' b/\Chg (fun x=>x=b\/w.heap.size<=x) w w'
def zxd (F:List UInt8->Option Rat) (t:zu):Bool:=decide (F t.name=some (ZS t))
def PrvR (w0:World) (b gm gs gr:Nat) (tv:Value) (r:zU) (F:List UInt8->Option Rat) (Q:Rat) (kv:Value) (wr:World):Prop:=
 ∃ k:Nat,k<=r.terms.length/\kv= .int .i64 k/\Hid (∀ j,j<k->zxd F (r.terms.getD j default)=true)/\Hid (zs1 w0 wr b gm gs gr w0.heap.size tv r F Q)
theorem zw5 {k:Nat} {F:List UInt8->Option Rat} {Q:Rat} {d:Bool} (h:(decide (k=0) && decide (Q<0))=d):d=true->∀ row,Vd k F Q row=true:=fun hd row=>by
 unfold Vd
 rw [h,hd];rfl
theorem zt3 {k:Nat} {F:List UInt8->Option Rat} {Q:Rat} {r:zU} (h:(decide (k=0) && decide (Q<0))=false) (hk:¬ k=r.terms.length):Vd k F Q (some r)=false:=by
 unfold Vd
 rw [h,Bool.false_or]
 show (decide _ && _)=false
 rw [uF hk,Bool.false_and]
theorem znn {k:Nat} {F:List UInt8->Option Rat} {Q:Rat} (h:(decide (k=0) && decide (Q<0))=false):Vd k F Q none=false:=by
 unfold Vd
 rw [h];rfl
theorem zpa {k i:Nat} {F:List UInt8->Option Rat} {Q:Rat} {r:zU} (h:(decide (k=0) && decide (Q<0))=false) (hi:i<r.terms.length) (hm:zxd F r.terms[i]=false):Vd k F Q (some r)=false:=by
 unfold Vd
 rw [h,Bool.false_or]
 show (_ && (_ && _))=false
 have e:(r.terms.all (fun t=>decide (F t.name=some (ZS t))))=false:=by
  refine Bool.eq_false_iff.2 fun hh=>?_
  have:=List.all_eq_true.1 hh _ (uO hi)
  rw [show decide (F r.terms[i].name=some (ZS r.terms[i]))=false from hm] at this
  cases this
 rw [e,Bool.false_and,Bool.and_false]
theorem zss {k:Nat} {F:List UInt8->Option Rat} {Q:Rat} {r:zU} (h:(decide (k=0) && decide (Q<0))=false) (hk:k=r.terms.length) (hm:∀ j,j<r.terms.length->zxd F (r.terms.getD j default)=true):Vd k F Q (some r)=decide (Q<=XY r):=by
 unfold Vd
 rw [h,Bool.false_or]
 show (decide _ && (_ && _))=_
 have e:(r.terms.all (fun t=>decide (F t.name=some (ZS t))))=true:=List.all_eq_true.2 fun t ht=>by
  obtain ⟨i,hi,rfl⟩:=List.mem_iff_getElem.1 ht
  have:=hm i hi
  rwa [show r.terms.getD i default=r.terms[i] by simp [List.getD,List.getElem?_eq_getElem hi]] at this
 rw [uE hk,e,Bool.true_and,Bool.true_and]
theorem zm4 (x y:Rat):decide (XX x y<=0)=decide (x<=y):=by
 unfold XX
 by_cases e:x<y
 . rw [if_pos e,uE (Rat.le_of_lt e)];rfl
 rw [if_neg e]
 by_cases b:y<x
 . rw [if_pos b,uF (Rat.not_le.2 b)];rfl
 rw [if_neg b,uE (Rat.not_lt.1 b)];rfl
theorem zt8 (x:Rat):decide (XX x 0<0)=decide (x<0):=by
 unfold XX
 by_cases b:x<0
 . rw [if_pos b,uE b];rfl
 rw [if_neg b,uF b]
 by_cases e:0<x
 . rw [if_pos e];rfl
 rw [if_neg e];rfl
theorem XF (b:Nat) (A AW:Option Addr) (n c nw cw:Nat) (rv:Value) (rows:List zU) (l:List (List UInt8)) (row:Option zU) (w:World) (hB:zv w b) (hr:yS w (.slice A n c) rows) (hl:zw w w.heap.size (.slice AW nw cw) l) (hp:zea w w.heap.size rv row)
 (ho:xq l rows.length=true->Vb rows (xC l)) (hrow:∀ r,row=some r->zch r/\zS r.bound):
 Calls prog 19 #[.map (some b),.slice A n c,.slice AW nw cw,rv] w (zxg w b (Y2 rows row l)):=by
 obtain rfl:=hr.len
 have bb:rows.length<=100000:=by obtain ⟨_,_,_,_,_,_,h,_⟩:=id hr;exact h
 have bg:=zgo b (.bool true) AW nw cw rows.length c A l w hl bb
 obtain ⟨z,hz⟩:=uR (xq l rows.length)
 have br:Y2 rows row l=(z && Vd (jnL rows (xC l)).length (nzF (XL rows (xC l) rows.length)) (ZA rows (xC l) rows.length) row):=by unfold Y2;rw [hz]
 rw [hz] at ho
 obtain ⟨HZ,J,aP,HB,HR,HP,HO,aH⟩:=hz8 hz br bg hB hr hp ho hrow
 clear hB hr hl hp ho hrow bb bg hz br
 go_in
 go_wp2_with fail
 refine aP.o.mono ?_
 rintro e w1 ⟨v,rfl,hv,ac⟩
 rw [HZ.o] at hv |-
 replace HB:=ze (HB.o.below ac)
 cases z with
 | false=>
   have HC:Hid (Chg (fun x=>x=b\/w.heap.size<=x) w w1):=Chg.of_below ac;clear hv ac HR HP HO aH aP;go_wp2;go_ret;exact ⟨by rw [J.o];rfl,HB.o,HC.o⟩
 | true=>
   have HV:=ze (hv rfl);have ak:=ze (HO.o rfl)
   have a2:l.length=rows.length:=by
    have:=HZ.o;unfold xq at this;rw [Bool.and_eq_true,decide_eq_true_eq] at this;exact this.1
   rw [a2] at HV;have a8:=xre HR ac;have bp:=ze (HP.o.chg (S:=fun _=>False) (Chg.of_below ac) (fun _ _ h=>h.elim));have aE:=ze ac;clear hv ac HR HP HO aP HZ a2;obtain ⟨AV,cV,rfl,_⟩:=id HV.o;go_wp2_with fail;refine (zp4 b A rows.length c _ rows (xC l) w1 HB.o a8.o HV.o ak.o.sus).mono ?_;rintro e w2 ⟨gm,x1,A1,k1,c1,N,y1,B1,aM,aW,t1,rfl,hq,hm,a0,bE,a9,aN⟩;have ao:=ze ak.o.keys;have a1:=ze ak.o.bound.1;have bm:=ze ak.o.vals
   have bf:=ze (bp.o.chg aN (fun x C hs=>by
    rcases hs with rfl | h
    . exact HB.o.noCells
    . have:=aE.o.size;omega))
   have bc:Hid (Chg (fun x=>x=b\/w.heap.size<=x) w w2):=(Chg.of_below (S:=fun x=>x=b\/w.heap.size<=x) aE.o).trans aN (fun x _ hs=>by
    rcases hs with h | h
    . exact .inl h
    . have:=aE.o.size;exact .inr (by omega))
   obtain ⟨F,hF⟩:=uQ (nzF (XL rows (xC l) rows.length));obtain ⟨Q,hQ⟩:=uQ (ZA rows (xC l) rows.length);obtain ⟨ks,bj⟩:=uQ (jnL rows (xC l));rw [<- hF] at hm ao bm J;rw [<- hQ] at hq a1 J;rw [<- bj] at ao J;clear hF hQ bj ak a8 bp aE HV HB;have C:=zf w2 (.cells #[.map (some gm),.int .i64 x1,.slice A1 k1 c1,.bool N,.int .i64 y1,.slice B1 aM aW,.bool t1] 101)
   have D:Hid (zym w (w2.alloc (.cells #[.map (some gm),.int .i64 x1,.slice A1 k1 c1,.bool N,.int .i64 y1,.slice B1 aM aW,.bool t1] 101)) b gm w2.heap.size w.heap.size rv row F Q):=
    ⟨a9.below C,hm.below C,⟨_,_,_,_,_,_,_,_,_,_,Blk.new w2 _ _,hq.below C⟩,bf.o.chg (S:=fun _=>False) (Chg.of_below C) (fun _ _ h=>h.elim),a0,zJ bc.o C⟩
   clear hq hm a0 bE a9 aN C bf bc
   go_upto_region 5 with fail
   generalize w2.alloc (.cells #[.map (some gm),.int .i64 x1,.slice A1 k1 c1,.bool N,.int .i64 y1,.slice B1 aM aW,.bool t1] 101)=W at D |-;generalize w2.heap.size=gs at D |-;obtain ⟨M,aG⟩:=uQ ks.length;rw [<- aG] at J;have aT:=ze aG;clear aG
   go_cut [42] from 33 (fun s wc=>∃ z:Bool,s= .bool z/\Hid ((decide (M=0) && decide (Q<0))=z)/\Hid (zym w wc b gm gs w.heap.size rv row F Q))
   case first=>
    have al:=fun ty=>D.o.map.len ao.o ty
    rw [<- aT.o] at al;obtain ⟨x4,A4,k4,c4,K,y4,B4,av,ar,t4,aq,aj⟩:=D.o.box;have ah:=ze aj;obtain ⟨r0,r1,r2,r3,r4,r5,r6,_⟩:=bp7 aq;clear aj aq
    by_cases aB:M=0
    . have a4:((M:Int) == 0)=true:=beq_iff_eq.2 (by omega)
      have aU:=ze aB;clear aB;go_wp2_with fail;refine (vz _ Q _ ah.o).mono ?_;rintro e w3 ⟨rfl,bd⟩;replace D:=ze (D.o.below bd);clear r0 r1 r2 r3 r4 r5 r6 ah bd a4 al;go_wp2;go_meet
      case rel=>exact ⟨_,rfl,ze (by rw [aU.o, <- zt8];rfl),D⟩
    have a4:((M:Int) == 0)=false:=uD (by omega)
    have aU:=ze aB;clear aB ah;go_wp2;go_meet
    case rel=>exact ⟨_,rfl,ze (by rw [uF aU.o,Bool.false_and]),D⟩
   case rest=>
   clear D;obtain ⟨z,rfl,aw,D⟩:=hcut
   cases z with
   | true=>
     go_wp2;go_ret;exact ⟨by rw [J.o,zw5 aw.o rfl row];rfl,D.o.book,D.o.chg⟩
   | false=>
     cases row with
     | none=>
       have bv:rv= .pointer none:=D.o.ptr;subst bv;go_wp2
       go_quiet (fail)
       go_wp2;go_ret;have u:=ze (D.o.below (zk (yR _) nq));exact ⟨by rw [J.o,znn aw.o];rfl,u.o.book,u.o.chg⟩
     | some r=>
       obtain ⟨bn,bl⟩:=aH.o r rfl;have bh:=ze bn;have bx:=ze bl;obtain ⟨gr,A3,n3,c3,e,bK,aI,ax⟩:=D.o.ptr;subst e;obtain rfl:=ax.len;have al:=fun ty (m:Nat)=>(D.o.map.below (zk (yR wc) m)).len ao.o ty
       rw [<- aT.o] at al;have g0:=D.o.box.map;have bz:=g0.1;have p0:=(bp1 aI).1;clear bn bl aH g0
       by_cases aF:M=r.terms.length
       rotate_left
       . have a7:((M:Int) != (r.terms.length:Int))=true:=by simp;omega
         have bB:=ze aF;clear aF;go_wp2
         go_quiet (fail)
         go_wp2;go_ret;have u:=ze (D.o.below (zk (yR _) nq));exact ⟨by rw [J.o,zt3 aw.o bB.o];rfl,u.o.book,u.o.chg⟩
       have a7:((M:Int) != (r.terms.length:Int))=false:=by simp;omega
       go_wp2
       go_quiet (fail)
       have u:Hid (zs1 w (wc.drewN nq) b gm gs gr w.heap.size (.slice A3 r.terms.length c3) r F Q):=
        zs1.below ⟨D.o.book,D.o.map,D.o.box,aI,ax,D.o.neb,D.o.chg⟩ (zk (yR _) nq)
       have bD:=ze aF;have h8:r.terms.length<=100000:=by obtain ⟨_,_,_,_,_,h,_⟩:=id ax;exact h
       clear D al bz a7 aI ax p0 aF ao aT;generalize wc.drewN nq=W9 at u |-;have p0:=u.o.blk.cell 0;simp at p0;go_wp2
       go_loopw [61] (PrvR w b gm gs gr (.slice A3 r.terms.length c3) r F Q) (fun kv _=>r.terms.length - (intOf kv).toNat)
       case atStart=>exact ⟨0,uB,rfl,ze (fun j hj=>by omega),u⟩
       case round=>
        clear u p0;obtain ⟨k,hk,rfl,HF,u⟩:=hrel
        by_cases aD:k<r.terms.length
        rotate_left
        . obtain rfl:r.terms.length=k:=by omega
          have bG:=ze (zss aw.o bD.o HF.o);obtain ⟨bk,aZ⟩:=bh.o.bq;have ba:=ze bk;have bu:Hid (Zu 8388608 (XY r)):=rlE aZ (by omega);have p1:=u.o.blk.cell 1;simp at p1;have aa:=xU b ⟨r.bound.toArray⟩ wr u.o.book (by rw [<- zm,yt];exact bx.o);rw [yt] at aa;have an:=ze aa;clear aa bk aZ;go_wp2_with fail;refine an.o.mono ?_;rintro e w2 ⟨v,ok,rfl,⟨U,A2,V,T,I,y2,B2,Y,X,t2,rfl⟩,aK,ap,ai,ae⟩;have C:=zf w2 (.cells #[.int .i64 U,.slice A2 V T,.bool I,.int .i64 y2,.slice B2 Y X,.bool t2] 70);have E:=ze (Blk.new w2 70 #[.int .i64 U,.slice A2 V T,.bool I,.int .i64 y2,.slice B2 Y X,.bool t2]);have G:=ze ((ap (XY r) ba.o).below C);replace u:=ze ((u.o.read ai ae).below C);clear aK ap ai ae an C p1 ba
          go_upto_region 18 with fail
          generalize w2.alloc (.cells #[.int .i64 U,.slice A2 V T,.bool I,.int .i64 y2,.slice B2 Y X,.bool t2] 70)=W3 at u E G |-;generalize w2.heap.size=gc at E |-;obtain ⟨x4,A4,k4,c4,K,y4,B4,av,ar,t4,aq,aj⟩:=u.o.box;have ah:=ze aj;obtain ⟨_,r1,r2,r3,r4,r5,r6,_⟩:=bp7 aq;obtain ⟨s0,N,I,s3,K,s5,_⟩:=bq6 E;have Z:=X5 _ _ Q (XY r) W3 ah.o G.o a1.o bu.o;have aO:=zm4 Q (XY r);generalize hσ:XX Q (XY r)=σ at Z aO;have ab:=ze Z;have bF:=ze aO;clear Z aO hσ aq aj;go_wp2_with fail;refine ab.o.mono ?_;rintro e w5 ⟨rfl,O⟩;replace u:=ze (u.o.below O);clear O ab r1 r2 r3 r4 r5 r6 s0 N I s3 K s5 E G ah bu;go_wp2;go_ret;exact ⟨by rw [J.o,bG.o,Bool.true_and, <- bF.o];rfl,u.o.book,u.o.chg⟩
        have bH:(k:Int)<(r.terms.length:Int):=by omega
        obtain ⟨ad,eA,bw,p0,p1,bC,a3⟩:=u.o.terms.at_ aD;subst eA;obtain ⟨q,hq,_,bs⟩:=bh.o.coef r.terms[k] (uO aD);have HQ:=ze hq;have aX:Hid (Zu 8388608 q):=rl bs.sz (by omega);have a6:=ze a3;have aY:=xGD (d:=default) aD;have aQ:ZS r.terms[k]=q:=by unfold ZS;rw [hq];rfl
        have aC:Hid (F r.terms[k].name=some q->∀ j,j<k+1->zxd F (r.terms.getD j default)=true):=ze (fun e j hj=>by
         by_cases ej:j=k
         . subst ej;rw [aY];unfold zxd;rw [aQ];exact uE e
         exact HF.o j (by omega))
        have am:Hid (F r.terms[k].name≠some q->Vd M F Q (some r)=false):=ze (fun e=>zpa aw.o aD (by unfold zxd;rw [aQ];exact uF e));have bi:=fun q2=>bm.o r.terms[k].name q2
        have aV:=ze bi;generalize bA:r.terms[k]=t at p0 p1 HQ a6 aC am aV;have C:=zf wr (.cells #[str t.name,str t.coef] 45);have L:=ze (Blk.new wr 45 #[str t.name,str t.coef]);replace u:=ze (u.o.below C);clear hq bs bC a3 aY aQ bi bA C
        go_upto_region 12 with fail
        clear p0 p1 bw;generalize wr.alloc (.cells #[str t.name,str t.coef] 45)=W2 at L u |-;generalize wr.heap.size=gt at L |-;have t1:=L.o.cell 1;simp at t1;have aa:=xU b ⟨t.coef.toArray⟩ W2 u.o.book (by rw [<- zm,yt];exact a6.o);rw [yt] at aa;have an:=ze aa;clear aa;go_wp2_with fail;refine an.o.mono ?_;rintro e w2 ⟨v,ok,rfl,⟨U,A2,V,T,I,y2,B2,Y,X,t2,rfl⟩,aK,ap,ai,ae⟩;have C:=zf w2 (.cells #[.int .i64 U,.slice A2 V T,.bool I,.int .i64 y2,.slice B2 Y X,.bool t2] 70);have E:=ze (Blk.new w2 70 #[.int .i64 U,.slice A2 V T,.bool I,.int .i64 y2,.slice B2 Y X,.bool t2]);have G:=ze ((ap q HQ.o).below C);replace L:=ze ((u.o.book.keepBlk ae L.o).below C (u.o.book.keepBlk ae L.o).lt);replace u:=ze ((u.o.read ai ae).below C);clear aK ap ai ae an C t1 HQ
        go_upto_region 13 with fail
        generalize w2.alloc (.cells #[.int .i64 U,.slice A2 V T,.bool I,.int .i64 y2,.slice B2 Y X,.bool t2] 70)=W3 at L u E G |-;generalize w2.heap.size=gc at E |-;obtain ⟨vo,aJ,aS⟩:=u.o.map.look (P:=prog) Xk zai (zgf _) t.name true;simp only [if_true] at aJ;have g0:=u.o.box.map.1;have n0:=(bq1 L).1
        obtain ⟨x4,A4,k4,c4,K,y4,B4,av,ar,t4,ev⟩:∃ (x:Int) (A:Option Addr) (k c:Nat) (s:Bool) (y:Int) (B:Option Addr) (k' c' :Nat) (t:Bool),vo= .agg #[.int .i64 x,.slice A k c,.bool s,.int .i64 y,.slice B k' c',.bool t]:=by
         rcases aS with ⟨_,e⟩ | ⟨q,_,h⟩
         . exact ⟨_,_,_,_,_,_,_,_,_,_,e⟩
         . exact h.agg
        subst ev;have af:=ze aS;generalize a5:(F t.name).isSome=bo at aJ;have aA:=ze a5;have C:=zf W3 (.cells #[.int .i64 x4,.slice A4 k4 c4,.bool K,.int .i64 y4,.slice B4 av ar,.bool t4] 70);have ag:=ze (Blk.new W3 70 #[.int .i64 x4,.slice A4 k4 c4,.bool K,.int .i64 y4,.slice B4 av ar,.bool t4]);replace af:=ze (show (F t.name=none)\/∃ q,F t.name=some q/\yk _ _ q from af.o.imp (fun h=>h.1) (fun ⟨q,h1,h2⟩=>⟨q,h1,h2.below C⟩));replace E:=kb_ E C;replace G:=ze (G.o.below C);replace u:=ze (u.o.below C);clear aS a5 C L
        go_upto_region 14 with fail
        generalize W3.alloc (.cells #[.int .i64 x4,.slice A4 k4 c4,.bool K,.int .i64 y4,.slice B4 av ar,.bool t4] 70)=W4 at u E G af ag |-;generalize W3.heap.size=gx at ag |-;clear aJ g0 n0
        rcases af.o with R | ⟨q2,R,be⟩
        . have hb:bo=false:=by rw [<- aA.o,R];rfl
          subst hb;have HN:=ze (am.o (by rw [R];exact fun e=>by cases e));clear R af aA ag E G;go_wp2;go_ret;exact ⟨by rw [J.o,HN.o];rfl,u.o.book,u.o.chg⟩
        . have hb:bo=true:=by rw [<- aA.o,R];rfl
          subst hb;have aR:=ze be;have aL:=ze (aV.o q2 R);have ay:=ze R;obtain ⟨r0,r1,r2,r3,r4,r5,_⟩:=bq6 ag;obtain ⟨s0,N,I,s3,K,s5,_⟩:=bq6 E;have Z:=X5 _ _ q2 q W4 aR.o G.o aL.o aX.o;generalize hσ:XX q2 q=σ at Z;have ab:=ze Z;have az:=ze hσ;clear be R af aA Z hσ aV
          by_cases au:σ=0
          rotate_left
          . have HN:=ze (am.o (by
             rw [ay.o];intro e;injection e with e
             exact au (by rw [<- az.o];exact (zc8 q2 q).2 e)))
            have bJ:(σ == 0)=false:=uD au;clear aC am az ay au;go_wp2_with fail;refine ab.o.mono ?_;rintro e w5 ⟨rfl,O⟩;replace u:=ze (u.o.below O);clear O ab r0 r1 r2 r3 r4 r5 s0 N I s3 K s5 ag E G aR aL aX;go_wp2;go_ret;exact ⟨by rw [J.o,HN.o];rfl,u.o.book,u.o.chg⟩
          have HY:=ze (aC.o (by rw [ay.o,(zc8 q2 q).1 (az.o.trans au)]))
          subst au;clear aC am az ay;go_wp2_with fail;refine ab.o.mono ?_;rintro e w5 ⟨rfl,O⟩;replace u:=ze (u.o.below O);clear O ab r0 r1 r2 r3 r4 r5 s0 N I s3 K s5 ag E G aR aL aX;have bI:IntKind.i64.wrap ((k:Int)+1)=((k+1:Nat):Int):=by rw [IntKind.wrap_i64];omega
          go_wp2;go_roundw
          case rel=>exact ⟨k+1,by omega,by go_num,HY,u⟩
          case measure=>simp [intOf];omega
def zul (w:World) (p:Bool×Int) (e:Ending) (w' :World):Prop:=e= .returned (.tuple #[.bool p.1,.int .i64 p.2])/\Below w.heap.size w w'
def za9 (rows:List zU) (l:List (List UInt8)):Bool×Int:=if yf rows≠0 then (false,yf rows) else (Ya rows l,0)
def Vm (rows:List zU) (r:zU) (l:List (List UInt8)):Bool×Int:=if Zh rows r≠0 then (false,Zh rows r) else (Ya rows l || Vp rows r l,0)
theorem zb9 {rows:List zU} {l:List (List UInt8)}:Y2 rows none l=Ya rows l:=by
 unfold Y2 Ya
 rw [zpq rfl]
theorem zce {rows:List zU} {r:zU} {l:List (List UInt8)} (ho:xq l rows.length=true->Vb rows (xC l)) (hr:zch r) (hi:zi6 (r.terms.map (·.name))):Y2 rows (some r) l=(Ya rows l || Vp rows r l):=by
 unfold Y2 Ya Vp
 cases hz:xq l rows.length with
 | false=>rfl
 | true=>rw [Bool.true_and,Bool.true_and,Bool.true_and,(ho hz).prov hr hi]
theorem zja {rows:List zU} {r:zU} (h:Zh rows r=0):yf rows=0/\yF r=0:=by
 unfold Zh at h
 by_cases e:yf rows=0
 rotate_left
 . rw [if_pos e] at h;exact absurd h e
 rw [if_neg (fun b=>b e)] at h
 by_cases b:yF r=0
 . exact ⟨e,b⟩
 rw [if_pos b] at h;exact absurd h b
theorem zcu (A AW:Option Addr) (n c nw cw:Nat) (rows:List zU) (l:List (List UInt8)) (w:World) (hr:yS w (.slice A n c) rows) (hl:zw w w.heap.size (.slice AW nw cw) l)
 (hcnt:rows.length<=800->(zR rows []).length<=100000) (ho:yf rows=0->xq l rows.length=true->Vb rows (xC l)):
 Calls prog 8 #[.slice A n c,.slice AW nw cw] w (zul w (za9 rows l)):=by
 have S:=@run_makeMap prog
 have B:=zf w (.map #[] 0)
 have m:=ze (zv.new w)
 have C:=ze ((zH.below hr B).more B.size)
 have F:=ze ((zw.below hl B).more B.size)
 have j:Hid (Chg (· =w.heap.size) w (w.alloc (.map #[] 0))):=Chg.of_below B
 have K:=ZN w.heap.size A n c rows _ m.o C.o hcnt
 generalize M:yf rows=z at K ho
 have y:=ze K
 have O:=ze ho
 have I:Hid (za9 rows l=if z≠0 then (false,z) else (Ya rows l,0)):=ze (by unfold za9;rw [M])
 clear K hr hl hcnt ho B M
 go_in
 go_upto_region 2 with fail
 clear S
 generalize w.alloc (.map #[] 0)=W at m C F j y |-
 obtain ⟨b,hb⟩:=uQ w.heap.size
 have J:Hid (w.heap.size<=b):=Nat.le_of_eq hb.symm
 rw [<- hb] at m j y |-
 clear hb
 by_cases E:z=0
 rotate_left
 . have X:(z == 0)=false:=uD E
   have T:Hid (za9 rows l=(false,z)):=ze (by rw [I.o,if_pos E]);clear E I;go_wp2_with fail;refine y.o.mono ?_;rintro e L ⟨rfl,D,u⟩;replace j:=ze (yn j.o u);clear D u y m C F;go_wp2;go_ret2;exact ⟨by rw [T.o];rfl,j.o.below (uA) (fun x e=>by subst e;exact J.o)⟩
 subst E
 have U:=ze (O.o rfl);clear O;go_wp2_with fail;refine y.o.mono ?_;rintro e L ⟨rfl,D,u⟩;have N:=ze ((m.o.keepRows u C.o).more u.size);have R:=ze ((zw.chg F.o u (fun x _ e=>by subst e;exact m.o.noCells)).more u.size);replace j:=ze (yn j.o u);replace m:=ze D;clear D u y C F;have G:=ze (XF b A AW n c nw cw (.pointer none) rows l none L m.o N.o R.o rfl U.o (fun r h=>by cases h));rw [zb9] at G;go_wp2_with fail;refine G.o.mono ?_;rintro e w2 ⟨rfl,_,Q⟩
 have V:Hid (Below w.heap.size w w2):=(j.o.below (uA) (fun x e=>by subst e;exact J.o)).trans (Q.below j.o.size (fun x e=>by
  rcases e with e | e
  . subst e;exact J.o
  . have:=j.o.size;omega))
 clear Q G j m N R;go_wp2;go_ret2;exact ⟨by rw [I.o];rfl,V.o⟩
def zv5 (w:World) (z:Int) (e:Ending) (w' :World):Prop:=
 ∃ o A n c,e= .returned (.tuple #[.map o,.slice A n c,.int .i64 z])/\(z=0->∃ b,o=some b/\zv w' b/\w.heap.size<=b)/\Below w.heap.size w w'
theorem zgh (A A2:Option Addr) (n c n2 c2:Nat) (rows:List zU) (r:zU) (w:World) (hr:yS w (.slice A n c) rows) (hg:zV w (.slice A2 n2 c2) r.terms) (hs:zS r.bound)
 (hcnt:rows.length<=800->(zR rows []).length<=100000) (hcnt2:yf rows=0->(zR rows [r.terms]).length<=100000):
 Calls prog 22 #[.slice A n c,.agg #[.slice A2 n2 c2,str r.bound]] w (zv5 w (Zh rows r)):=by
 have af:=@run_makeMap prog
 have aa:=zf w (.cells #[.slice A2 n2 c2,str r.bound] 31)
 have X:=zf (w.alloc (.cells #[.slice A2 n2 c2,str r.bound] 31)) (.map #[] 0)
 have I:=ext aa X
 have C:=ze ((Blk.new w 31 #[.slice A2 n2 c2,str r.bound]).alloc (.map #[] 0))
 have Q:=zv.new (w.alloc (.cells #[.slice A2 n2 c2,str r.bound] 31))
 rw [World.size_alloc] at Q
 have m:=ze Q
 have B:=ze ((zH.below hr I).more I.size)
 have u:=ze ((zh.below hg I).more I.size)
 have l:Hid (Chg (· =w.heap.size+1) w ((w.alloc (.cells #[.slice A2 n2 c2,str r.bound] 31)).alloc (.map #[] 0))):=Chg.of_below I
 have S:=ZN (w.heap.size+1) A n c rows _ m.o B.o hcnt
 generalize K:yf rows=z at S
 obtain ⟨G,ah,ae,HS⟩:=hz4 S hcnt hcnt2 hs
 clear S hr hg hcnt hcnt2 hs I aa X Q
 go_in
 go_upto_region 2 with fail
 clear af
 generalize (w.alloc (.cells #[.slice A2 n2 c2,str r.bound] 31)).alloc (.map #[] 0)=W at C m B u l G |-
 obtain ⟨b,hb⟩:=uQ (w.heap.size+1)
 have O:Hid (w.heap.size<=b):=ze (by omega)
 rw [<- hb] at m l G |-
 clear hb
 by_cases J:z=0
 rotate_left
 . have F:Hid (Zh rows r=z):=ze (by unfold Zh;rw [if_pos (by rw [K];exact J),K])
   have an:(z == 0)=false:=uD J;have aj:=ze J;clear K J;go_wp2_with fail;refine G.o.mono ?_;rintro e V ⟨rfl,E,j⟩;replace l:=ze (yn l.o j);clear E j G m B u C;go_wp2;go_ret3;exact ⟨none,none,0,0,by rw [F.o];rfl,(fun h=>by rw [F.o] at h;exact absurd h aj.o),l.o.below (uA) (fun x e=>by subst e;exact O.o)⟩
 subst J
 have R:=ze K;clear K;go_wp2_with fail;refine G.o.mono ?_;rintro e V ⟨rfl,E,j⟩;replace B:=ze ((m.o.keepRows j B.o).more j.size);replace u:=ze ((m.o.keepT j u.o).more j.size);replace C:=ze (m.o.keepBlk j C.o);replace l:=ze (yn l.o j);replace m:=ze E;clear E j G;have U:=zm1 b A2 n2 c2 r V m.o u.o HS.o;generalize D:yF r=y at U;have M:=ze U;obtain ⟨r0,Y,_⟩:=bq2 C;clear U
 by_cases L:y=0
 rotate_left
 . have F:Hid (Zh rows r=y):=ze (by unfold Zh;rw [if_neg (fun h=>h R.o),if_pos (by rw [D];exact L),D])
   have al:(y == 0)=false:=uD L;have ak:=ze L;clear D L;go_wp2_with fail;refine M.o.mono ?_;rintro e w2 ⟨rfl,E,j⟩;replace l:=ze (yn l.o j);clear E j M m B u C r0 Y;go_wp2;go_ret3;exact ⟨none,none,0,0,by rw [F.o];rfl,(fun h=>by rw [F.o] at h;exact absurd h ak.o),l.o.below (uA) (fun x e=>by subst e;exact O.o)⟩
 subst L
 have HY:=ze D;clear D;go_wp2_with fail;refine M.o.mono ?_;rintro e w2 ⟨rfl,E,j⟩;replace B:=ze ((m.o.keepRows j B.o).more j.size);replace u:=ze ((m.o.keepT j u.o).more j.size);replace C:=ze (m.o.keepBlk j C.o);replace l:=ze (yn l.o j);clear E j M r0 Y m;have Z:=YC A A2 n c n2 c2 rows r.terms w2 B.o u.o ah.o ae.o
 have ab:xW rows r.terms=Zh rows r:=by
  have e1:xW rows r.terms=YY rows r.terms:=by unfold xW;rw [if_neg (fun h=>h R.o),if_neg (fun h=>h (zd3 HY.o).1)];rfl
  have e2:Zh rows r=YY rows r.terms:=by unfold Zh;rw [if_neg (fun h=>h R.o),if_neg (fun h=>h HY.o)]
  rw [e1,e2]
 have ad:=ze Z;have F:=ze ab;have r0:=(bq1 C).1;clear Z ab B u;go_wp2_with fail;refine ad.o.mono ?_;rintro e w3 ⟨o,A3,n3,c3,rfl,N,T⟩;rw [F.o] at N |-;have ac:=ze N;have am:=ze T.size;have HW:Hid (Below w.heap.size w w3):=(l.o.below (uA) (fun x e=>by subst e;exact O.o)).trans (T.mono l.o.size);have ai:=ze l.o.size;clear N T ad r0 C l;obtain ⟨y,D⟩:=uQ (Zh rows r);rw [<- D] at ac |-;have ag:=ze D;clear D;go_wp2;go_ret3;rw [<- ag.o]
 exact ⟨o,A3,n3,c3,rfl,(fun h=>by
  obtain ⟨b3,h1,h2,_,h4⟩:=ac.o h
  exact ⟨b3,h1,h2,uC ai.o h4⟩),HW.o⟩
theorem zad (A A2 AW:Option Addr) (n c n2 c2 nw cw:Nat) (rows:List zU) (r:zU) (l:List (List UInt8)) (w:World) (hr:yS w (.slice A n c) rows) (hg:zV w (.slice A2 n2 c2) r.terms) (hs:zS r.bound) (hl:zw w w.heap.size (.slice AW nw cw) l)
 (hcnt:rows.length<=800->(zR rows []).length<=100000) (hcnt2:yf rows=0->(zR rows [r.terms]).length<=100000) (ho:yf rows=0->xq l rows.length=true->Vb rows (xC l)):
 Calls prog 10 #[.slice A n c,.agg #[.slice A2 n2 c2,str r.bound],.slice AW nw cw] w (zul w (Vm rows r l)):=by
 have u:=zf w (.cells #[.slice A2 n2 c2,str r.bound] 31)
 have y:=ze (Blk.new w 31 #[.slice A2 n2 c2,str r.bound])
 have D:=ze ((zH.below hr u).more u.size)
 have C:=ze ((zh.below hg u).more u.size)
 have I:=ze ((zw.below hl u).more u.size)
 have j:=ze u
 have N:=zgh A A2 n c n2 c2 rows r _ D.o C.o hs hcnt hcnt2
 generalize X:Zh rows r=z at N
 obtain ⟨J,E,S,HS⟩:=hz4 N X ho hs
 clear N hr hg hl hs hcnt hcnt2 ho u X
 go_in
 go_upto_region 1 with fail
 generalize w.alloc (.cells #[.slice A2 n2 c2,str r.bound] 31)=W at y D C I j J |-
 obtain ⟨r0,U,_⟩:=bq2 y
 go_wp2_with fail
 refine J.o.mono ?_
 rintro e K ⟨o,A3,n3,c3,rfl,M,m⟩
 by_cases B:z=0
 rotate_left
 . have ae:(z == 0)=false:=uD B
   have G:Hid (Vm rows r l=(false,z)):=ze (by unfold Vm;rw [if_pos (by rw [E.o];exact B),E.o]);replace j:=eb_ j m;clear M B m J D C I y r0 U;go_wp2;go_ret2;exact ⟨by rw [G.o];rfl,j.o⟩
 obtain ⟨b,rfl,hB,Y⟩:=M B
 subst B;have V:=ze hB;have Z:=xre D m;have ab:=xne I m;have R:=(zh.below C.o m).more m.size;obtain rfl:=R.len;have T:=uK y.o.lt m.size;have ac:Hid (zea K K.heap.size (.pointer (some ⟨w.heap.size,0,none⟩)) (some r)):=⟨_,_,_,_,rfl,T,y.o.below m y.o.lt,R⟩;obtain ⟨O,L⟩:=zja E.o;have Q:=(zgm L).fit;have F:=ze (XF b A AW n c nw cw _ rows l (some r) K V.o Z.o ab.o ac.o (S.o O) (fun r' e=>by injection e with e;subst e;exact ⟨Q,HS.o⟩));rw [zce (S.o O) Q (zbo (zd3 L).1)] at F;have G:Hid (Vm rows r l=(Ya rows l || Vp rows r l,0)):=ze (by unfold Vm;rw [if_neg (fun h=>h E.o)]);have ad:Hid (w.heap.size<=b):=ze (uC j.o.size Y);replace j:=eb_ j m;clear M hB Y R T O L Q m J D C I y ac r0 U S E;generalize hp:(Ya rows l || Vp rows r l)=p at F G;clear hp;go_wp2_with fail;refine F.o.mono ?_;rintro e w2 ⟨rfl,_,aa⟩
 replace j:=ze (j.o.trans (aa.below j.o.size (fun x e=>by
  rcases e with e | e
  . subst e;exact ad.o
  . have:=j.o.size;omega)))
 clear aa F V Z ab;go_wp2;go_ret2;exact ⟨by rw [G.o];rfl,j.o⟩
structure zk1 where
 kind:Int
 value:List UInt8
 point:List zu
 ray:List zu
 weights:List (List UInt8)
def zej (a:zk1):Rat:=(zl a.value).getD 0
def XO (goal:List zu) (a:zk1):zU:={ terms:=goal,bound:=a.value }
def YW (rows:List zU) (p:List zu):Bool:=decide (yI p=0) && decide (Y4 rows.length (X8 p rows)<0)
def zpt (rows:List zU) (goal:List zu) (a:zk1):Bool:=(zl a.value).isSome && (YW rows a.point && (decide (YD a.point goal goal.length=zej a) && Y2 rows (some (XO goal a)) a.weights))
def zj6 (rows:List zU) (goal:List zu) (a:zk1):Bool:=YW rows a.point && ((zl a.value).isSome && (decide (YD a.point goal goal.length=zej a) && Vp rows (XO goal a) a.weights))
def zff (rows:List zU) (goal:List zu) (a:zk1):Bool:=YW rows a.point && (decide (yI a.ray=0) && Xn rows goal a.ray)
def Z3 (rows:List zU) (goal:List zu) (a:zk1):Bool:=if a.kind=2 then Ya rows a.weights else if a.kind=1 then zj6 rows goal a else zff rows goal a
def Y9 (rows:List zU) (goal:List zu) (a:zk1):Int:=
 if xW rows goal≠0 then xW rows goal else if a.kind≠1/\a.kind≠2/\a.kind≠3 then 1 else if Z3 rows goal a=true then 0 else 8
structure zsn (goal:List zu) (a:zk1):Prop where
 gl:goal.length<=70
 gb:zK goal<=1000
 pb:zK a.point<=1000
 rb:zK a.ray<=1000
 vl:a.value.length<=2000
 wl:∀ t∈a.weights,t.length<=2000
structure Vn (rows:List zU) (goal:List zu) (a:zk1):Prop where
 small:xI rows
 r0:yf rows=0
 g0:zX goal=0
 sm:zsn goal a
section
variable {rows:List zU} {goal:List zu} {a:zk1}
theorem Vn.ws (h:Vn rows goal a):xq a.weights rows.length=true->Vb rows (xC a.weights):=zp3 h.small h.r0 h.sm.wl
theorem Vn.rowP (h:Vn rows goal a) (hp:yI a.point=0):∀ k,k<rows.length->zkp a.point (rows.getD k default):=zmw h.small h.r0 h.sm.pb hp
theorem Vn.rowR (h:Vn rows goal a) (hp:yI a.ray=0):∀ k,k<rows.length->XT (rows.getD k default).terms a.ray:=fun k hk=>(zmw h.small h.r0 h.sm.rb hp k hk).sum
theorem Vn.goalP (h:Vn rows goal a) (hp:yI a.point=0):XT goal a.point:=zhb (by have:=h.sm.gl;omega) (by have:=h.sm.gb;omega) h.g0 h.sm.pb hp
theorem Vn.goalR (h:Vn rows goal a) (hp:yI a.ray=0):XT goal a.ray:=zhb (by have:=h.sm.gl;omega) (by have:=h.sm.gb;omega) h.g0 h.sm.rb hp
theorem Vn.val (h:Vn rows goal a) {q:Rat} (hq:zl a.value=some q):Dz 2000 q:=zep hq h.sm.vl (by omega)
theorem Vn.fit (h:Vn rows goal a) (b:(zl a.value).isSome=true):zch (XO goal a):=by
 obtain ⟨q,b⟩:=Option.isSome_iff_exists.1 b
 refine ⟨fun t ht=>?_,q,b,h.val b⟩
 obtain ⟨i,hi,rfl⟩:=List.mem_iff_getElem.1 ht
 exact (zbz h.g0 hi).1
theorem zsz {p:List zu} (h:YW rows p=true):∀ k,k<rows.length->X8 p rows k=false:=by
 unfold YW at h
 rw [Bool.and_eq_true,decide_eq_true_eq,decide_eq_true_eq] at h
 intro k e
 refine Bool.eq_false_iff.2 fun hb=>?_
 have b:=h.2
 unfold Y4 at b
 cases hf:(List.range rows.length).find? (X8 p rows) with
 | none=>
   rw [List.find?_eq_none] at hf;exact hf k (by simpa using e) hb
 | some j=>rw [hf] at b;exact absurd b (by simp)
theorem zvs (h:Vn rows goal a):zpt rows goal a=zj6 rows goal a:=by
 unfold zpt zj6
 cases hv:(zl a.value).isSome with
 | false=>rw [Bool.false_and,Bool.false_and,Bool.and_false]
 | true=>
   rw [Bool.true_and,Bool.true_and]
   cases hh:YW rows a.point with
   | false=>rfl
   | true=>
     rw [Bool.true_and,Bool.true_and]
     congr 1
     rw [zce h.ws (h.fit hv) (zbo h.g0)]
     have b:Ya rows a.weights=false:=by
      unfold Ya
      cases hw:xq a.weights rows.length with
      | false=>rfl
      | true=>rw [Bool.true_and];exact (h.ws hw).excl (zsz hh)
     rw [b,Bool.false_or]
theorem zn8 {p:List zu} (h:∀ k,k<rows.length->zmb p (rows.getD k default)=false):Xn rows goal p=decide (0<YD p goal goal.length):=by
 unfold Xn
 rw [zb2 h]
 rfl
theorem znw {p:List zu} {k:Nat} (hk:k<rows.length) (h:zmb p (rows.getD k default)=true) (h0:∀ j,j<k->zmb p (rows.getD j default)=false):Xn rows goal p=false:=by
 unfold Xn
 rw [zg4 (p:=fun k=>zmb p (rows.getD k default)) hk h h0]
 have:decide ((k:Int) ≥ 0)=true:=uE (by omega)
 rw [this];rfl
end
open Go.ChangeShapes Go.WideShapes
structure zb7 where
 ans:zk1
 weights:List (List UInt8)
 row:zU
def Yy (w:World) (B:Nat) (v:Value) (l:List (List UInt8)):Prop:=
 l.length<=reachBytes/\∃ A c,v= .slice A l.length c/\l.length<=c/\c<=maxLen/\yc w B 1 A l.length (l.map str)/\∀ x∈l,Yi x
structure zcj (w:World) (B:Nat) (vp vy vw vs vt:Value) (x:zb7):Prop where
 val:Yi x.ans.value
 pt:xE w B vp x.ans.point
 ray:xE w B vy x.ans.ray
 wts:Yy w B vw x.ans.weights
 ws:Yy w B vs x.weights
 tm:xE w B vt x.row.terms
 bnd:Yi x.row.bound
section
variable {w w' :World} {B:Nat} {v vp vy vw vs vt:Value} {l:List (List UInt8)} {x:zb7}
theorem Yy.below (h:Yy w B v l) (hb:Below B w w'):Yy w' B v l:=by
 obtain ⟨r,A,c,j,b,u,e,m⟩:=h
 exact ⟨r,A,c,j,b,u,e.below hb,m⟩
theorem zcj.below (h:zcj w B vp vy vw vs vt x) (hb:Below B w w'):zcj w' B vp vy vw vs vt x:=
 ⟨h.val,h.pt.below hb,h.ray.below hb,h.wts.below hb,h.ws.below hb,h.tm.below hb,h.bnd⟩
theorem Yy.more {B' :Nat} (h:Yy w B v l) (hB:B<=B'):Yy w B' v l:=by
 obtain ⟨r,A,c,j,b,u,e,m⟩:=h
 exact ⟨r,A,c,j,b,u,e.more hB,m⟩
theorem Yy.max (h:Yy w B v l):l.length<=reachBytes:=h.1
theorem Yy.small (h:Yy w B v l) (hl:l.length<=100000) (hs:∀ x∈l,zS x):zw w B v l:=by
 obtain ⟨_,A,c,j,b,m,e,r⟩:=h
 exact ⟨A,c,j,b,m,hl,e,hs⟩
theorem Yy.at_ {A:Option Addr} {n c:Nat} (h:Yy w B (.slice A n c) l) {k:Nat} (hk:k<l.length):∃ b,A=some b/\b.block<B/\w.cell? (b.add k)=some (str l[k])/\Yi l[k]:=by
 obtain ⟨_,A',c',e,_,_,j,m⟩:=h
 injection e with e1 e2 e3
 subst e1
 obtain ⟨b,e,hb,r⟩:=j.2 (by omega)
 refine ⟨b,e,hb,?_,m _ (uO hk)⟩
 refine r k _ ?_
 rw [List.getElem?_map,List.getElem?_eq_getElem hk];rfl
end
section
variable {H:Type} {enc:TypeId×Value->H} {P:Program} {w:World} {spare:Nat->Bool} {held:Bool} {fuel:Nat} {cs:List Value} {x:DataW H×List MemPlace} {t:TypeId} {f0 f1 f2 f3 f4:Field}
theorem zii (ht:P.underlying t=some (.struct #[f0,f1,f2])) (h:DataW.trod enc P w 0 spare held fuel t cs=some x):
 ∃ y0 y1 y2 n,x=(.agg [y0.1,y1.1,y2.1],y0.2 ++ (y1.2 ++ y2.2))/\cs.length=P.cellsOf t/\DataW.trod enc P w 0 spare held n f0.type ((cs.drop f0.offset).take (P.cellsOf f0.type))=some y0/\
  DataW.trod enc P w 0 spare held n f1.type ((cs.drop f1.offset).take (P.cellsOf f1.type))=some y1/\DataW.trod enc P w 0 spare held n f2.type ((cs.drop f2.offset).take (P.cellsOf f2.type))=some y2:=by
 obtain ⟨xs,n,_,rfl,e,j,b⟩:=DataW.trod_struct ht h
 match xs,j with
 | [y0,y1,y2],_=>exact ⟨y0,y1,y2,n,by simp,e,by simpa using b 0 f0 rfl,by simpa using b 1 f1 rfl,by simpa using b 2 f2 rfl⟩
theorem zif (ht:P.underlying t=some (.struct #[f0,f1,f2,f3,f4])) (h:DataW.trod enc P w 0 spare held fuel t cs=some x):
 ∃ y0 y1 y2 y3 y4 n,x=(.agg [y0.1,y1.1,y2.1,y3.1,y4.1],y0.2 ++ (y1.2 ++ (y2.2 ++ (y3.2 ++ y4.2))))/\cs.length=P.cellsOf t/\DataW.trod enc P w 0 spare held n f0.type ((cs.drop f0.offset).take (P.cellsOf f0.type))=some y0/\
  DataW.trod enc P w 0 spare held n f1.type ((cs.drop f1.offset).take (P.cellsOf f1.type))=some y1/\DataW.trod enc P w 0 spare held n f2.type ((cs.drop f2.offset).take (P.cellsOf f2.type))=some y2/\
  DataW.trod enc P w 0 spare held n f3.type ((cs.drop f3.offset).take (P.cellsOf f3.type))=some y3/\DataW.trod enc P w 0 spare held n f4.type ((cs.drop f4.offset).take (P.cellsOf f4.type))=some y4:=by
 obtain ⟨xs,n,_,rfl,e,j,b⟩:=DataW.trod_struct ht h
 match xs,j with
 | [y0,y1,y2,y3,y4],_=>exact ⟨y0,y1,y2,y3,y4,n,by simp,e,by simpa using b 0 f0 rfl,by simpa using b 1 f1 rfl,by simpa using b 2 f2 rfl,by simpa using b 3 f3 rfl,by simpa using b 4 f4 rfl⟩
theorem w3 {y0 y1 y2:DataW H} {K:Nat} (ht:P.underlying t=some (.struct #[f0,f1,f2])) (hw:∀ z∈(DataW.agg [y0,y1,y2]).weights P t,z<=K):(∀ z∈y0.weights P f0.type,z<=K)/\(∀ z∈y1.weights P f1.type,z<=K)/\(∀ z∈y2.weights P f2.type,z<=K):=by
 refine ⟨fun z hz=>hw z ?_,fun z hz=>hw z ?_,fun z hz=>hw z ?_⟩<;>(unfold DataW.weights;rw [ht];simp [DataW.weightsEach,hz])
theorem w5 {y0 y1 y2 y3 y4:DataW H} {K:Nat} (ht:P.underlying t=some (.struct #[f0,f1,f2,f3,f4])) (hw:∀ z∈(DataW.agg [y0,y1,y2,y3,y4]).weights P t,z<=K):
 (∀ z∈y0.weights P f0.type,z<=K)/\(∀ z∈y1.weights P f1.type,z<=K)/\(∀ z∈y2.weights P f2.type,z<=K)/\(∀ z∈y3.weights P f3.type,z<=K)/\(∀ z∈y4.weights P f4.type,z<=K):=by
 refine ⟨fun z hz=>hw z ?_,fun z hz=>hw z ?_,fun z hz=>hw z ?_,fun z hz=>hw z ?_,fun z hz=>hw z ?_⟩<;>(unfold DataW.weights;rw [ht];simp [DataW.weightsEach,hz])
theorem w2 {y0 y1:DataW H} {K:Nat} (ht:P.underlying t=some (.struct #[f0,f1])) (hw:∀ z∈(DataW.agg [y0,y1]).weights P t,z<=K):(∀ z∈y0.weights P f0.type,z<=K)/\(∀ z∈y1.weights P f1.type,z<=K):=by
 refine ⟨fun z hz=>hw z ?_,fun z hz=>hw z ?_⟩<;>(unfold DataW.weights;rw [ht];simp [DataW.weightsEach,hz])
theorem zyw:∀ l:List (List UInt8),(l.flatMap fun e:List UInt8=>[str e])=l.map str
 | []=>rfl
 | a :: l=>by rw [List.flatMap_cons,zyw l,List.map_cons];rfl
theorem zf4 {B:Nat} {e:TypeId} (hby:0<P.bytesOf e) (hs:P.underlying t=some (.slice e)) (ht:P.underlying e=some .string) (hc:P.cellsOf e=1)
 (h:DataW.trod enc P w 0 spare held fuel t cs=some x) (hw:∀ z∈x.1.weights P t,z<=reachBytes) (hB:∀ p∈x.2,p.block<B):∃ (v:Value) (l:List (List UInt8)),cs=[v]/\Yy w B v l:=by
 obtain ⟨A,c,l,rfl,r,j,b,m,u⟩:=zbx (f:=fun e:List UInt8=>[str e]) (k:=1) (B:=B) (good:=fun e=>Yi e) (fun _=>rfl) (by omega) hby hs hc (fun n cs' y h hw _=>Xq ht n cs' y h hw) hw hB h
 refine ⟨_,l,rfl,u,A,c,rfl,r,j,?_,m⟩
 rw [zyw] at b
 exact b
end
theorem znk {H:Type} {enc:TypeId×Value->H} {w:World} {spare:Nat->Bool} {held:Bool} {fuel:Nat} {cs:List Value} {x:DataW H×List MemPlace} (h:DataW.trod enc prog w 0 spare held fuel 33 cs=some x) (hw:∀ z∈x.1.weights prog 33,z<=reachBytes) (hB:∀ p∈x.2,p.block<w.heap.size):
 ∃ (r:Int) (vp vy vw vs vt:Value) (y:zb7),y.ans.kind=r/\cs=[.int .u8 r,str y.ans.value,vp,vy,vw,vs,vt,str y.row.bound]/\zcj w w.heap.size vp vy vw vs vt y:=by
 obtain ⟨y0,V,y2,m,rfl,hl,l,C,j⟩:=zii underlying33 h
 obtain ⟨S,W1,W2⟩:=w3 underlying33 hw
 have ac :(∀ p∈y0.2,p.block<w.heap.size)/\(∀ p∈V.2,p.block<w.heap.size)/\(∀ p∈y2.2,p.block<w.heap.size):=
  ⟨fun p hp=>hB p (List.mem_append.2 (.inl hp)),fun p hp=>hB p (List.mem_append.2 (.inr (List.mem_append.2 (.inl hp)))),fun p hp=>hB p (List.mem_append.2 (.inr (List.mem_append.2 (.inr hp))))⟩
 clear hw hB h
 have aa:prog.cellsOf 33=8:=by kernel_rfl
 have c0:prog.cellsOf 29=5:=by kernel_rfl
 have c1:prog.cellsOf 27=1:=by kernel_rfl
 have c2:prog.cellsOf 31=2:=by kernel_rfl
 have I:prog.cellsOf 25=1:=by kernel_rfl
 have d2:prog.cellsOf 26=1:=by kernel_rfl
 have d3:prog.cellsOf 23=1:=by kernel_rfl
 rw [aa] at hl
 dsimp only at l C j S W1 W2
 rw [c0] at l
 rw [c1] at C
 rw [c2] at j
 match cs,hl with
 | [a0,a1,a2,a3,a4,a5,a6,a7],_=>
   have l:DataW.trod enc prog w 0 spare held m 29 [a0,a1,a2,a3,a4]=some y0:=l;have C:DataW.trod enc prog w 0 spare held m 27 [a5]=some V:=C;have j:DataW.trod enc prog w 0 spare held m 31 [a6,a7]=some y2:=j;obtain ⟨z0,Y,X,z3,z4,e,rfl,_,g0,F,u,G,E⟩:=zif underlying29 l;obtain ⟨V0,Z,V2,T,V4⟩:=w5 underlying29 S;have ab:prog.cellsOf 24=1:=by kernel_rfl
   dsimp only at g0 F u G E V0 Z V2 T V4
   rw [ab] at g0;rw [I] at F;rw [d2] at u G;rw [c1] at E;have g0:DataW.trod enc prog w 0 spare held e 24 [a0]=some z0:=g0;have F:DataW.trod enc prog w 0 spare held e 25 [a1]=some Y:=F;have u:DataW.trod enc prog w 0 spare held e 26 [a2]=some X:=u;have G:DataW.trod enc prog w 0 spare held e 26 [a3]=some z3:=G;have E:DataW.trod enc prog w 0 spare held e 27 [a4]=some z4:=E;obtain ⟨D,B1,B2⟩:=ac;have D:∀ p,p∈z0.2\/p∈Y.2\/p∈X.2\/p∈z3.2\/p∈z4.2->p.block<w.heap.size:=fun p hp=>D p (by simpa using hp)
   obtain ⟨r,J,_,_⟩:=DataW.trod_int underlying24 g0;obtain ⟨l1,N,s1⟩:=Xq underlying25 _ _ _ F Z;obtain ⟨v2,l2,K,s2⟩:=zfm u V2 (fun p hp=>D p (.inr (.inr (.inl hp))));obtain ⟨v3,l3,L,s3⟩:=zfm G T (fun p hp=>D p (.inr (.inr (.inr (.inl hp)))));obtain ⟨v4,l4,R,s4⟩:=zf4 (uG (by kernel_rfl)) underlying27 underlying25 I E V4 (fun p hp=>D p (.inr (.inr (.inr (.inr hp)))));obtain ⟨v5,l5,M,s5⟩:=zf4 (uG (by kernel_rfl)) underlying27 underlying25 I C W1 B1;obtain ⟨r0,r1,U,rfl,_,B,b⟩:=trod_struct2 zee j;obtain ⟨U0,U1⟩:=w2 zee W2
   dsimp only at B b U0 U1
   rw [d3] at B;rw [I] at b;have B:DataW.trod enc prog w 0 spare held U 23 [a6]=some r0:=B;have b:DataW.trod enc prog w 0 spare held U 25 [a7]=some r1:=b;obtain ⟨v6,l6,O,s6⟩:=zh6 B U0 (fun p hp=>B2 p (List.mem_append.2 (.inl hp)));obtain ⟨l7,Q,s7⟩:=Xq underlying25 _ _ _ b U1;injection J with J
   injection N with N
   injection K with K
   injection L with L
   injection R with R
   injection M with M
   injection O with O
   injection Q with Q
   subst J N K L R M O Q;exact ⟨r,_,_,_,_,_,⟨⟨r,l1,l2,l3,l4⟩,l5,⟨l6,l7⟩⟩,rfl,rfl,⟨s1,s2,s3,s4,s5,s6,s7⟩⟩
def XJ (l:List (List UInt8)):Nat:=(l.map List.length).sum
structure zog (x:zb7):Prop where
 bytes:x.ans.value.length+XJ x.ans.weights+XJ x.weights<=2000
 wl:x.ans.weights.length<=300
 sl:x.weights.length<=300
 pt:x.ans.point.length<=70/\zK x.ans.point<=1000
 ray:x.ans.ray.length<=70/\zK x.ans.ray<=1000
 row:xI [x.row]
def zyf (w:World) (x:zb7) (e:Ending) (w' :World):Prop:=∃ g:Bool,e= .returned (.bool g)/\Below w.heap.size w w' /\(g=false->zog x)
def ClsR (W:World) (l:List (List UInt8)) (b0 k0:Nat) (nv iv:Value) (wr:World):Prop:=
 ∃ i n m:Nat,i<=l.length/\i<=300/\nv= .int .i64 n/\iv= .int .i64 i/\Hid (n=b0+XJ (l.take i))/\Hid (n<=(k0+i)*reachBytes)/\wr=W.drewN m
theorem zez {l:List (List UInt8)} {i:Nat} (h:i<l.length):XJ (l.take (i+1))=XJ (l.take i)+l[i].length:=Zf _ _ _ h
theorem xE.more {w:World} {B B' :Nat} {v:Value} {l:List zu} (h:xE w B v l) (hB:B<=B'):xE w B' v l:=by
 obtain ⟨r,A,c,j,b,u,e,m⟩:=h
 exact ⟨r,A,c,j,b,u,e.more hB,m⟩
theorem zvy {w:World} {vt:Value} {r:zU} (ht:xE w w.heap.size vt r.terms) (hb:Yi r.bound):XR (w.alloc (.cells #[vt,str r.bound] 31)) (w.heap.size+1) (.slice (some ⟨w.heap.size,0,none⟩) 1 1) [r]:=by
 have b:=zf w (.cells #[vt,str r.bound] 31)
 have m:=Blk.new w 31 #[vt,str r.bound]
 refine ⟨by rw [yv];simp,_,1,fun _=>vt,rfl,uA,by unfold maxLen;omega,⟨rfl,fun _=>⟨_,rfl,Nat.lt_succ_self _,fun j u hu=>?_⟩⟩,fun i hi=>?_,fun x b=>?_⟩
 . have l:j<2:=(List.getElem?_eq_some_iff.1 hu).1
   have e:((⟨w.heap.size,0,none⟩:Addr).add j)=⟨w.heap.size,j,none⟩:=by
    unfold Addr.add
    by_cases h:j=0
    . subst h;rfl
    simp [h]
   rw [e,m.cell j, <- hu]
   match j,l with
   | 0,_=>rfl
   | 1,_=>rfl
 . have:i=0:=by simp at hi;omega
   subst this;exact (ht.below b).more (Nat.le_succ _)
 . rw [uM] at b
   subst b;exact hb
theorem zn5 (AP AY AW AS AT:Option Addr) (np cp ny cy cw cs nt ct:Nat) (kd:Int) (x:zb7) (w:World) (hx:zcj w w.heap.size (.slice AP np cp) (.slice AY ny cy) (.slice AW x.ans.weights.length cw) (.slice AS x.weights.length cs) (.slice AT nt ct) x):
 Calls prog 6 #[.agg #[.int .u8 kd,str x.ans.value,.slice AP np cp,.slice AY ny cy,.slice AW x.ans.weights.length cw,.slice AS x.weights.length cs,.slice AT nt ct,str x.row.bound]] w (zyf w x):=by
 have Z:=zf w (.cells #[.int .u8 kd,str x.ans.value,.slice AP np cp,.slice AY ny cy,.slice AW x.ans.weights.length cw,.slice AS x.weights.length cs,.slice AT nt ct,str x.row.bound] 33)
 have HK:=ze (Blk.new w 33 #[.int .u8 kd,str x.ans.value,.slice AP np cp,.slice AY ny cy,.slice AW x.ans.weights.length cw,.slice AS x.weights.length cs,.slice AT nt ct,str x.row.bound])
 have J:=ze (hx.below Z)
 have N:=ze Z
 have HV:Hid (x.ans.value.length<=reachBytes):=hx.val
 have ax:=ze hx.tm
 have m1:=hx.wts.max
 have D:=hx.ws.max
 rw [yv] at m1 D
 clear hx Z
 go_in
 go_upto_region 1 with fail
 generalize w.alloc (.cells #[.int .u8 kd,str x.ans.value,.slice AP np cp,.slice AY ny cy,.slice AW x.ans.weights.length cw,.slice AS x.weights.length cs,.slice AT nt ct,str x.row.bound] 33)=W at HK J N |-
 generalize am:w.heap.size=gC at HK |-
 clear am;obtain ⟨_,k1,k2,k3,k4,k5,k6,k7,_⟩:=bq8 HK
 have an:=HV.o
 rw [yv] at an
 go_wp2
 go_loopw [3,4] (ClsR W x.ans.weights x.ans.value.length 1) (fun _ iv _=>x.ans.weights.length - (intOf iv).toNat)
 case atStart=>exact ⟨0,_,0,uB,by omega,rfl,rfl,by rw [List.take_zero];exact rfl,ze (by rw [yv];omega),rfl⟩
 case round=>
  obtain ⟨i,n,m,hi,av,rfl,rfl,C,E,rfl⟩:=hrel
  obtain ⟨z,u⟩:=uR (decide (i<x.ans.weights.length/\i<300))
  have l:=ze u
  go_upto_region 3 with fail
  go_cut [19] from 10 to 30 (fun s wc=>s= .bool z/\wc=W.drewN m)
  case first=>
   by_cases b:i<x.ans.weights.length
   rotate_left
   . have I:¬ (i:Int)<(x.ans.weights.length:Int):=by omega
     have hb:z=false:=by rw [<- l.o];exact uF (fun h=>b h.1)
     subst hb;clear u;go_wp2;go_meet
     case rel=>exact ⟨rfl,rfl⟩
   have I:(i:Int)<(x.ans.weights.length:Int):=by omega
   have hid:decide ((i:Int)<(x.ans.weights.length:Int))=true:=uE I
   by_cases r:i<300
   . have T:(i:Int)<300:=by omega
     have hb:z=true:=by rw [<- l.o];exact uE ⟨b,r⟩
     subst hb;clear u;go_wp2;go_meet
     case rel=>exact ⟨rfl,rfl⟩
   have T:¬ (i:Int)<300:=by omega
   have hb:z=false:=by rw [<- l.o];exact uF (fun h=>r h.2)
   subst hb;clear u;go_wp2;go_meet
   case rel=>exact ⟨rfl,rfl⟩
  case rest=>
  obtain ⟨rfl,rfl⟩:=hcut
  clear u
  cases z with
  | true=>
    obtain ⟨b,r⟩:=uG l.o;obtain ⟨ad,S,X,Q,B⟩:=J.o.wts.at_ b;subst S;unfold Yi at B;rw [yv] at B;have hb:=E.o;rw [yv] at hb;have Y:(1+i)*140737488351232<=301*140737488351232:=Nat.mul_le_mul_right _ (by omega);have e3:IntKind.i64.wrap ((n:Int)+(x.ans.weights[i].length:Int))=((n+x.ans.weights[i].length:Nat):Int):=by rw [IntKind.wrap_i64];omega
    have L:Hid (n+x.ans.weights[i].length=x.ans.value.length+XJ (x.ans.weights.take (i+1))):=ze (by have:=C.o;rw [zez b];omega);have M:Hid (n+x.ans.weights[i].length<=(1+(i+1))*reachBytes):=ze (by rw [yv];omega);clear hb Y C E B X l;have I:(i:Int)<(x.ans.weights.length:Int):=by omega
    generalize x.ans.weights[i]=y at Q e3 L M;go_wp2;go_roundw
    case rel=>exact ⟨i+1,_,m,by omega,by omega,rfl,by go_num,L,M,rfl⟩
    case measure=>simp [intOf];omega
  | false=>
    have ag:Hid (x.ans.weights.length<=300->n=x.ans.value.length+XJ x.ans.weights):=ze (fun O=>by
     have U:=of_decide_eq_false l.o
     have V:i=x.ans.weights.length:=by
      refine Classical.byContradiction fun h6=>U ⟨by omega,by omega⟩
     have:=C.o;rw [V,List.take_length] at this
     exact this)
    have ai:Hid (n<=301*reachBytes):=ze (uC E.o (Nat.mul_le_mul_right _ (by omega)));clear l C E hi av;go_wp2
    go_loopw [3,5] (ClsR W x.weights n 301) (fun _ iv _=>x.weights.length - (intOf iv).toNat)
    case atStart=>exact ⟨0,_,m,uB,by omega,rfl,rfl,by rw [List.take_zero];exact rfl,ze ai.o,rfl⟩
    case round=>
     obtain ⟨j,F,m,hj,aw,rfl,rfl,C,E,rfl⟩:=hrel;obtain ⟨z,u⟩:=uR (decide (j<x.weights.length/\j<300));have l:=ze u
     go_upto_region 7 with fail
     go_cut [39] from 31 to 49 (fun s wc=>s= .bool z/\wc=W.drewN m)
     case first=>
      by_cases b:j<x.weights.length
      rotate_left
      . have I:¬ (j:Int)<(x.weights.length:Int):=by omega
        have hb:z=false:=by rw [<- l.o];exact uF (fun h=>b h.1)
        subst hb;clear u;go_wp2;go_meet
        case rel=>exact ⟨rfl,rfl⟩
      have I:(j:Int)<(x.weights.length:Int):=by omega
      have hid:decide ((j:Int)<(x.weights.length:Int))=true:=uE I
      by_cases r:j<300
      . have T:(j:Int)<300:=by omega
        have hb:z=true:=by rw [<- l.o];exact uE ⟨b,r⟩
        subst hb;clear u;go_wp2;go_meet
        case rel=>exact ⟨rfl,rfl⟩
      have T:¬ (j:Int)<300:=by omega
      have hb:z=false:=by rw [<- l.o];exact uF (fun h=>r h.2)
      subst hb;clear u;go_wp2;go_meet
      case rel=>exact ⟨rfl,rfl⟩
     case rest=>
     obtain ⟨rfl,rfl⟩:=hcut;clear u
     cases z with
     | true=>
       obtain ⟨b,r⟩:=uG l.o;obtain ⟨ad,S,X,Q,B⟩:=J.o.ws.at_ b;subst S;unfold Yi at B;rw [yv] at B;have hb:=E.o;rw [yv] at hb;have Y:(301+j)*140737488351232<=601*140737488351232:=Nat.mul_le_mul_right _ (by omega);have e3:IntKind.i64.wrap ((F:Int)+(x.weights[j].length:Int))=((F+x.weights[j].length:Nat):Int):=by rw [IntKind.wrap_i64];omega
       have L:Hid (F+x.weights[j].length=n+XJ (x.weights.take (j+1))):=ze (by have:=C.o;rw [zez b];omega);have M:Hid (F+x.weights[j].length<=(301+(j+1))*reachBytes):=ze (by rw [yv];omega);clear hb Y C E B X l;have I:(j:Int)<(x.weights.length:Int):=by omega
       generalize x.weights[j]=y at Q e3 L M;go_wp2;go_roundw
       case rel=>exact ⟨j+1,_,m,by omega,by omega,rfl,by go_num,L,M,rfl⟩
       case measure=>simp [intOf];omega
     | false=>
       have ac:Hid (x.weights.length<=300->F=n+XJ x.weights):=ze (fun O=>by
        have U:=of_decide_eq_false l.o
        have V:j=x.weights.length:=by
         refine Classical.byContradiction fun h6=>U ⟨by omega,by omega⟩
        have:=C.o;rw [V,List.take_length] at this
        exact this)
       have R:Hid (Below w.heap.size w (W.drewN m)):=zk N.o m;clear l C E hj aw
       by_cases b:2000<F
       . have d1:(2000:Int)<(F:Int):=by omega
         clear b;go_wp2;go_ret;exact ⟨true,rfl,R.o,fun h=>by cases h⟩
       have d1:¬ (2000:Int)<(F:Int):=by omega
       by_cases r:300<x.ans.weights.length
       . have d2:(300:Int)<(x.ans.weights.length:Int):=by omega
         clear b r;go_wp2;go_ret;exact ⟨true,rfl,R.o,fun h=>by cases h⟩
       have d2:¬ (300:Int)<(x.ans.weights.length:Int):=by omega
       by_cases O:300<x.weights.length
       . have d3:(300:Int)<(x.weights.length:Int):=by omega
         clear b r O;go_wp2;go_ret;exact ⟨true,rfl,R.o,fun h=>by cases h⟩
       have d3:¬ (300:Int)<(x.weights.length:Int):=by omega
       have ak:Hid (x.ans.value.length+XJ x.ans.weights+XJ x.weights<=2000):=ze (by
        have e1:=ag.o (by omega);have e2:=ac.o (by omega)
        omega)
       have ao:Hid (x.ans.weights.length<=300):=ze (by omega);have aj:Hid (x.weights.length<=300):=ze (by omega);have ar:Hid (zcj (W.drewN m) w.heap.size (.slice AP np cp) (.slice AY ny cy) (.slice AW x.ans.weights.length cw) (.slice AS x.weights.length cs) (.slice AT nt ct) x):=J.o.below (zk (Below.refl _ _) m);clear b r O ag ac ai;go_wp2_with fail;refine (zf9 AP np cp w.heap.size x.ans.point _ ar.o.pt).mono ?_;rintro e w2 ⟨g1,rfl,⟨D,rfl⟩,B⟩
       cases g1 with
       | true=>
         have G:Hid (Below w.heap.size w (W.drewN (m+D))):=zk N.o _;go_wp2;go_ret;exact ⟨true,rfl,G.o,fun h=>by cases h⟩
       | false=>
         have ap:=ze (B rfl);clear B;go_wp2_with fail;refine (zf9 AY ny cy w.heap.size x.ans.ray _ (J.o.ray.below (zk (Below.refl _ _) _))).mono ?_;rintro e w3 ⟨g2,rfl,⟨K,rfl⟩,ah⟩
         cases g2 with
         | true=>
           have G:Hid (Below w.heap.size w (W.drewN (m+D+K))):=zk N.o _;go_wp2;go_ret;exact ⟨true,rfl,G.o,fun h=>by cases h⟩
         | false=>
           have aq:=ze (ah rfl);clear ah;have G:Hid (Below w.heap.size w (W.drewN (m+D+K))):=zk N.o _
           have aa:Hid (XR ((W.drewN (m+D+K)).alloc (.cells #[.slice AT nt ct,str x.row.bound] 31)) (W.heap.size+1) (.slice (some ⟨W.heap.size,0,none⟩) 1 1) [x.row]):=
            zvy (w:=W.drewN (m+D+K)) ((J.o.tm.below (zk (Below.refl _ _) _)).more G.o.size) J.o.bnd
           have ae:=ze (zi9 _ 1 1 [x.row] _ _ aa.o);have af:=ze (ext G.o (zf (W.drewN (m+D+K)) (.cells #[.slice AT nt ct,str x.row.bound] 31)));clear aa;go_wp2_with fail;refine ae.o.mono ?_;rintro e w4 ⟨g3,rfl,⟨m4,rfl⟩,ab⟩;have al:=ze (zk af.o m4);have au:=ze ab;clear ab ae af G;go_wp2;go_ret;exact ⟨g3,rfl,al.o,fun h=>⟨ak.o,ao.o,aj.o,ap.o,aq.o,au.o h⟩⟩
end Go.Proofs.YtnjljgidphemdaaGreatDoor
