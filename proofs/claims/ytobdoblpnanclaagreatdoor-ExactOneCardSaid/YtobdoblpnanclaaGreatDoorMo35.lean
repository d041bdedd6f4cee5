/- Parts of the proof. -/
import Derived.Deep.LoopGhost
import Derived.Test.YtobdoblpnanclaaGreatDoorMo32
import Derived.Test.YtobdoblpnanclaaGreatDoorMo34
import Derived.Test.YtobdoblpnanclaaGreatDoorMo01
set_option linter.all false
namespace Go.Proofs.YtobdoblpnanclaaGreatDoor
open Proofs.Tryz Go.RowKit Go.Deep
attribute [local go_sem ↓] Go.wp_at_zero Go.wp_at_succ
inductive Vd (m L room:Nat) (but:Int):Nat->zk->zk->Nat->Prop
 | top (T:zk) (h:T.enter m but (L - 1)=0):Vd m L room but 0 T T 0
 | free (T:zk) (c:Nat) (h0:0<c) (h:T.enter m but (L - 1)=c) (hl:T.leave room c m=none):Vd m L room but 0 T T c
 | step (T U:zk) (c d r n:Nat) (h0:0<c) (h:T.enter m but (L - 1)=c) (hl:T.leave room c m=some r) (hf:(T.pivot r c).Fits m L) (hn:Vd m L room but n (T.pivot r c) U d):Vd m L room but (n+1) T U d
def zvp (base m L:Nat) (F:zG) (U:zk) (d:Nat) (w:World) (e:Ending) (w' :World):Prop:=e= .returned (.int .i64 (d:Nat))/\zI base m L F w' U/\Chg (F.S m) w w'
def zw7 (base m L:Nat) (F:zG) (but:Int) (U:zk) (d:Nat) (w:World) (g:Nat) (wr:World):Prop:=
 ∃ V,Hid (Vd m L (2*F.nn+m) but g V U d)/\Hid (zI base m L F wr V)/\Hid (V.Fits m L)/\Hid (Chg (F.S m) w wr)/\Hid (base<=wr.heap.size)
set_option maxRecDepth 100000 in
set_option maxHeartbeats 4000000 in
theorem zau (base m L:Nat) (F:zG) (T U:zk) (but:Int) (d n:Nat) (w:World) (hT:zI base m L F w T) (hf:T.Fits m L) (hn:Vd m L (2*F.nn+m) but n T U d) (hm:m<=100000) (hL:L<=100000) (hb:base<=w.heap.size):
 Calls prog 36 #[.pointer (some ⟨F.gt,0,none⟩),.int .i64 but] w (zvp base m L F U d w):=by
 have M:Hid (zw7 base m L F but U d w n w):=⟨T,hn,hT,hf,Chg.refl w,hb⟩
 clear hT hf hn hb
 go_in
 go_wp2
 go_loopg [] n (fun g wr=>Hid (zw7 base m L F but U d w g wr))
 case atStart=>exact M
 case round=>
  clear M
  obtain ⟨V,G,j,E,l,B⟩:=hrel.out
  have u:=zd5 base m L F V but wr j.o hm hL
  have D:=V.enter_le m but (L - 1)
  have J:=j.o.lt2
  have ab:=G.o
  cases ab with
  | top _ h=>
    rw [h] at u;have z:=ze u;clear h u D J hrel G;go_wp2_with fail;refine z.o.mono ?_;rintro e C ⟨rfl,b⟩;replace j:=ze (j.o.below b);replace l:Hid (Chg (F.S m) w C):=l.o.trans (Chg.of_below (S:=F.S m) b) (fun _ _ h=>h);clear b z;go_wp2;go_ret;exact ⟨by go_num,j.o,l.o⟩
  | free _ _ h0 h hl=>
    rw [h] at u D;have z:=ze u;have y:=fun w' (k:zI base m L F w' U)=>VF base m L F U d w' k E.o (by omega) hm hL
    rw [hl] at y;have Z:((d:Int) == 0)=false:=by rw [beq_eq_false_iff_ne];omega
    have R:decide (zac none<0)=true:=by decide
    have I:zac none= -1:=rfl;clear h u D J hrel G hl h0;go_wp2_with fail;refine z.o.mono ?_;rintro e C ⟨rfl,b⟩;replace j:=ze (j.o.below b);replace l:Hid (Chg (F.S m) w C):=l.o.trans (Chg.of_below (S:=F.S m) b) (fun _ _ h=>h);clear b z;go_wp2_with fail;refine (y _ j.o).mono ?_;rintro e w2 ⟨rfl,b⟩;replace j:=ze (j.o.below b);replace l:Hid (Chg (F.S m) w w2):=l.o.trans (Chg.of_below (S:=F.S m) b) (fun _ _ h=>h);clear b y;go_wp2;go_ret;exact ⟨by go_num,j.o,l.o⟩
  | step _ _ c _ r k h0 h hl hf hn=>
    rw [h] at u D;have z:=ze u;have y:=fun w' (k:zI base m L F w' V)=>VF base m L F V c w' k E.o (by omega) hm hL
    rw [hl] at y;have N:=V.leave_lt (2*F.nn+m) c m r hl;have O:=fun w' (k:zI base m L F w' V) (hb:base<=w'.heap.size)=>Vb base m L F V r c w' k E.o N.1 h0 (by omega) hm hL hb
    obtain ⟨X,HN,aa⟩:=hz3 O hn hf;have Z:((c:Int) == 0)=false:=by rw [beq_eq_false_iff_ne];omega
    have R:decide ((r:Int)<0)=false:=by rw [decide_eq_false_iff_not];omega
    have I:zac (some r)=(r:Int):=rfl;rw [I] at y;clear h u D J hrel G hl h0 O hn hf N I;go_wp2_with fail;refine z.o.mono ?_;rintro e C ⟨rfl,b⟩;replace j:=ze (j.o.below b);replace B:=ze (uC B.o b.size);replace l:Hid (Chg (F.S m) w C):=l.o.trans (Chg.of_below (S:=F.S m) b) (fun _ _ h=>h);clear b z;go_wp2_with fail;refine (y _ j.o).mono ?_;rintro e w2 ⟨rfl,b⟩;replace j:=ze (j.o.below b);replace B:=ze (uC B.o b.size);replace l:Hid (Chg (F.S m) w w2):=l.o.trans (Chg.of_below (S:=F.S m) b) (fun _ _ h=>h);clear b y;go_wp2_with fail;refine (X.o _ j.o B.o).mono ?_;rintro e w3 ⟨rfl,Q,K⟩;have Y:Hid (zw7 base m L F but U d w k w3):=⟨_,HN,Q,aa,l.o.trans K (fun _ _ h=>h),uC B.o K.size⟩;clear Q K j l B E;go_wp2;go_roundg k
    case rel=>exact Y
    case measure=>omega
def zk.lst (T:zk):Nat->Option Nat
 | 0=>none
 | i+1=>match T.lst i with
   | none=>if T.cell i 0<0 then some i else none
   | some j=>if T.cell i 0<0/\T.cell i 0<T.cell j 0 then some i else some j
def zk.roomy (T:zk) (m n:Nat):zk:={ T with cell:=fun i k=>if i=m/\k=n then -1 else T.cell i k }
def ziy (f:Nat->Nat) (u:Nat):Nat->Option Nat
 | 0=>none
 | n+1=>match ziy f u n with
   | some j=>some j
   | none=>if f n=u then some n else none
def zk.nz (T:zk) (i:Nat):Nat->Option Nat
 | 0=>none
 | k+1=>match T.nz i k with
   | some j=>some j
   | none=>if T.cell i (k+1)≠0 then some (k+1) else none
def zk.out (T:zk) (m n room:Nat):zk:=match ziy T.basic room m with
 | none=>T
 | some i=>match T.nz i n with
   | none=>T
   | some k=>T.pivot i k
inductive zld (m n room:Nat):zk->zk->Bool->Prop
 | now (T:zk) (h:T.lst m=none):zld m n room T T true
 | no (T U:zk) (l d:Nat) (h:T.lst m=some l) (f1:(T.roomy m n).Fits m (n+1)) (f2:((T.roomy m n).pivot l n).Fits m (n+1)) (hw:vU m (n+1) room (-1) ((T.roomy m n).pivot l n) U d) (fU:U.Fits m (n+1)) (hz:U.cell m 0<0):zld m n room T U false
 | yes (T U:zk) (l d:Nat) (h:T.lst m=some l) (f1:(T.roomy m n).Fits m (n+1)) (f2:((T.roomy m n).pivot l n).Fits m (n+1)) (hw:vU m (n+1) room (-1) ((T.roomy m n).pivot l n) U d) (fU:U.Fits m (n+1)) (hz:¬ U.cell m 0<0) (f3:(U.out m n room).Fits m (n+1)):zld m n room T (U.out m n room) true
theorem zk.lst_none {T:zk}:∀ {n:Nat},T.lst n=none->∀ i,i<n->0<=T.cell i 0
 | 0,_,i,hi=>by omega
 | n+1,h,i,hi=>by
   unfold zk.lst at h
   split at h
   rotate_left
   . split at h<;>cases h
   rename_i b
   split at h
   . cases h
   by_cases e:i=n
   . subst e;omega
   exact zk.lst_none b i (by omega)
theorem zk.lst_some {T:zk}:∀ {n l:Nat},T.lst n=some l->l<n/\T.cell l 0<0/\∀ i,i<n->T.cell l 0<=T.cell i 0
 | 0,l,h=>by cases h
 | n+1,l,h=>by
   unfold zk.lst at h
   split at h
   . rename_i y
     split at h
     rotate_left
     . cases h
     rename_i b
     injection h with h
     subst h;refine ⟨by omega,b,fun i hi=>?_⟩
     by_cases e:i=n
     . subst e;exact Int.le_refl _
     have:=zk.lst_none y i (by omega);omega
   rename_i j r
   obtain ⟨z,u,m⟩:=zk.lst_some r
   split at h
   . rename_i b
     injection h with h
     subst h;refine ⟨by omega,b.1,fun i hi=>?_⟩
     by_cases e:i=n
     . subst e;exact Int.le_refl _
     have:=m i (by omega);omega
   rename_i b
   injection h with h
   subst h;refine ⟨by omega,u,fun i hi=>?_⟩
   by_cases e:i=n
   . subst e;omega
   exact m i (by omega)
theorem Xs {f:Nat->Nat} {u:Nat}:∀ {n:Nat},ziy f u n=none->∀ i,i<n->f i≠u
 | 0,_,i,hi=>by omega
 | n+1,h,i,hi=>by
   unfold ziy at h
   split at h
   . cases h
   rename_i b
   split at h
   . cases h
   by_cases e:i=n
   . subst e;assumption
   exact Xs b i (by omega)
theorem ZM {f:Nat->Nat} {u:Nat}:∀ {n i:Nat},ziy f u n=some i->i<n/\f i=u
 | 0,i,h=>by cases h
 | n+1,i,h=>by
   unfold ziy at h
   split at h
   . rename_i j b
     injection h with h
     subst h;have:=ZM b;exact ⟨by omega,this.2⟩
   split at h
   . injection h with h;subst h;exact ⟨by omega,by assumption⟩
   cases h
theorem zk.nz_none {T:zk} {i:Nat}:∀ {n:Nat},T.nz i n=none->∀ k,0<k->k<=n->T.cell i k=0
 | 0,_,k,h0,hk=>by omega
 | n+1,h,k,h0,hk=>by
   unfold zk.nz at h
   split at h
   . cases h
   rename_i j
   split at h
   . cases h
   rename_i b
   by_cases e:k=n+1
   . subst e;exact Classical.byContradiction fun h2=>b h2
   exact zk.nz_none j k h0 (by omega)
theorem zk.nz_some {T:zk} {i:Nat}:∀ {n k:Nat},T.nz i n=some k->0<k/\k<=n/\T.cell i k≠0
 | 0,k,h=>by cases h
 | n+1,k,h=>by
   unfold zk.nz at h
   split at h
   . rename_i j b
     injection h with h
     subst h;have:=zk.nz_some b;exact ⟨this.1,by omega,this.2.2⟩
   split at h
   . injection h with h;subst h;exact ⟨by omega,uA,by assumption⟩
   cases h
section
variable {m nn:Nat} {T0:zk}
structure zcu (T0:zk) (m nn:Nat) (U:zk):Prop where
 inv:U.Inv (T0.vecs m nn) (fun i=>T0.cell i 0) m (2*nn+2)
 perm:U.Perm m (2*nn+1)
 sol:∀ x,U.Sol m (2*nn+1) x↔T0.Sol m (2*nn+1) x
 feas:U.Feas m
 room:∃ k,k<2*nn+1/\U.other k=2*nn+m
structure NoPt (T0:zk) (m nn:Nat) (U:zk):Prop where
 inv:U.Inv (T0.vecs m nn) (fun i=>T0.cell i 0) m (2*nn+2)
 perm:U.Perm m (2*nn+1)
 sol:∀ x,U.Sol m (2*nn+1) x↔T0.Sol m (2*nn+1) x
 aim:U.Aim (fun u=>if u=2*nn+m then -1 else 0) m (2*nn+2)
 neg:U.cell m 0<0
 top:∀ u,U.at_ (2*nn+1) m u<=0
theorem zk.at_le {U:zk} {m n:Nat} (h:∀ k,k<n->U.cell m (k+1)<=0) (u:Nat):U.at_ n m u<=0:=by
 unfold zk.at_
 have:(zJ n fun k=>if U.other k=u then (U.cell m (k+1):Rat) else 0)= -1*zJ n fun k=>if U.other k=u then -(U.cell m (k+1):Rat) else 0:=by
  rw [<- vf]
  apply zw
  intro k b
  split<;>grind
 rw [this]
 have e:0<=zJ n fun k=>if U.other k=u then -(U.cell m (k+1):Rat) else 0:=by
  apply zct
  intro k b
  split
  rotate_left
  . exact Rat.le_refl
  have:(U.cell m (k+1):Rat)<=0:=by exact_mod_cast h k b
  grind
 grind
theorem zhw (h0:T0.Start m nn) (hz:∀ k,T0.cell m k=0) (hfit:∀ U:zk,U.Inv (T0.vecs m nn) (fun i=>T0.cell i 0) m (2*nn+2)->U.Aim (fun u=>if u=2*nn+m then -1 else 0) m (2*nn+2)->U.Fits m (2*nn+2)):
 ∃ U ok,zld m (2*nn+1) (2*nn+m) T0 U ok/\(ok=true->zcu T0 m nn U)/\(ok=false->NoPt T0 m nn U):=by
 rcases hl:T0.lst m with _ | l
 . refine ⟨T0,true,.now _ hl,fun _=>⟨h0.inv,h0.perm,fun x=>Iff.rfl,fun i hi=>zk.lst_none hl i hi,2*nn,by omega,h0.room⟩,fun h=>by cases h⟩
 obtain ⟨J,aD,aq⟩:=zk.lst_some hl
 generalize C:(fun u=>if u=2*nn+m then -1 else 0:Nat->Int)=g at*
 generalize B:T0.roomy m (2*nn+1)=T1 at*
 have E:∀ i k,i<m->T1.cell i k=T0.cell i k:=by
  intro i k hi
  rw [<- B]
  show (if i=m/\k=2*nn+1 then -1 else T0.cell i k)=_
  rw [if_neg (by omega)]
 have cm:∀ k,T1.cell m k=if k=2*nn+1 then -1 else 0:=by
  intro k
  rw [<- B]
  show (if m=m/\k=2*nn+1 then -1 else T0.cell m k)=_
  rw [hz k]
  by_cases e:k=2*nn+1
  . rw [if_pos ⟨rfl,e⟩,if_pos e]
  . rw [if_neg (fun h=>e h.2),if_neg e]
 have I:T1.den=T0.den:=by rw [<- B];rfl
 have D:T1.basic=T0.basic:=by rw [<- B];rfl
 have o1:T1.other=T0.other:=by rw [<- B];rfl
 have R:T1.Inv (T0.vecs m nn) (fun i=>T0.cell i 0) m (2*nn+2):=by
  have:=h0.inv
  refine ⟨by rw [I];exact this.den,fun k i z hi=>?_,by rw [I,D];exact this.dt⟩
  have e:=this.ex k i z hi
  rw [I,D]
  unfold zk.colv at e |-
  rw [o1,e]
  apply yv
  intro j F
  rw [E j k F]
 have an:T1.Perm m (2*nn+1):=by
  have:=h0.perm
  exact ⟨by rw [D];exact this.bb,by rw [o1];exact this.oo,by rw [D,o1];exact this.bo,by rw [D];exact this.bl,by rw [o1];exact this.ol,by rw [D,o1];exact this.cov⟩
 have T:T1.Aim g m (2*nn+2):=by
  intro k z
  rw [Yz,cm k,I,h0.den,o1, <- C]
  . by_cases e0:k=0
    . subst e0;rw [if_neg (by omega),if_pos rfl];rfl
    . rw [if_neg e0]
      by_cases e:k=2*nn+1
      . subst e
        rw [Nat.add_sub_cancel,h0.room,if_pos rfl]
        simp
      . rw [if_neg e,h0.oth _ (by omega)]
        simp only [];rw [if_neg (by omega)];rfl
  . intro j F
    rw [D,h0.bas j F, <- C];simp only [];rw [if_neg (by omega),Int.mul_zero]
 have ak:T1.Ok (T0.vecs m nn) (fun i=>T0.cell i 0) g m (2*nn+1):=⟨R,T,an⟩
 have aw:∀ x,T1.Sol m (2*nn+1) x↔T0.Sol m (2*nn+1) x:=by
  intro x
  unfold zk.Sol zk.tell
  rw [I,D,o1]
  constructor
  . intro h i hi
    have:=h i hi;simp only [E i _ hi] at this;exact this
  . intro h i hi
    simp only [E i _ hi];exact h i hi
 have ax:T1.cell l (2*nn+1)=1:=by rw [E l _ J,h0.one l J]
 generalize G:T1.pivot l (2*nn+1)=T2 at*
 have K:T2.Ok (T0.vecs m nn) (fun i=>T0.cell i 0) g m (2*nn+1):=by rw [<- G];exact ak.pivot J (by omega) (uA) (by omega)
 have ay:∀ x,T2.Sol m (2*nn+1) x↔T0.Sol m (2*nn+1) x:=by intro x;rw [<- G,ak.sol J (by omega) (uA) (by omega)];exact aw x
 have az:T2.Feas m:=by
  intro i hi
  rw [<- G,zk.pivot_cell,if_neg (by omega)]
  by_cases e:i=l
  . subst e;rw [zk.bare_r (by omega),E i 0 hi];omega
  . have hb:=R.bare J (by omega:2*nn+1<2*nn+2) hi (by omega:0<2*nn+2) e (by omega)
    rw [I,h0.den,ax,E i 0 hi,E i (2*nn+1) hi,h0.one i hi,E l 0 J] at hb;have:=aq i hi
    omega
 have ai:∀ U:zk,U.Aim g m (2*nn+2)->(∀ i,i<m->U.basic i≠2*nn+m)->0<U.den->∀ k,k<2*nn+1->U.cell m (k+1)<=0:=by
  intro U ha hn hd k z
  rw [ha (k+1) (by omega),Yz,if_neg (by omega),Nat.add_sub_cancel, <- C]
  . simp only []
    by_cases e:U.other k=2*nn+m
    . rw [if_pos e];omega
    . rw [if_neg e];omega
  . intro j F
    rw [<- C];simp only [];rw [if_neg (hn j F),Int.mul_zero]
 have ao:∀ U:zk,(∀ k,k<2*nn+1->U.cell m (k+1)<=0)->U.enter m (-1) (2*nn+1)=0:=by
  intro U O
  apply Classical.byContradiction
  intro hc
  have:=zk.enter_pos (rfl:U.enter m (-1) (2*nn+1)=_) (by omega)
  have h2:=O (U.enter m (-1) (2*nn+1) - 1) (by omega)
  rw [show U.enter m (-1) (2*nn+1) - 1+1=U.enter m (-1) (2*nn+1) by omega] at h2
  omega
 obtain ⟨U,d,hw,y,ae,S,Z⟩:=zeq (room:=2*nn+m) (but:= -1) (fun U=>∀ x,U.Sol m (2*nn+1) x↔T0.Sol m (2*nn+1) x) T2 K az ay (fun U O=>hfit U O.inv O.aim)
  (fun V c r hV hQ hc0 N M x=>by
    have b:=zk.leave_some M;rw [hV.sol b.1 hc0 (zk.enter_pos N hc0).1 (by omega)]
    exact hQ x)
  (fun V c r hV hQ hc0 N M hbr=>by
    have b:=zk.leave_some M;have ap:=(zk.enter_pos N hc0).1;have al:=hV.pivot b.1 hc0 ap (by omega)
    apply ao
    apply ai _ al.aim _ al.inv.den
    intro i hi;have eb:(V.pivot r c).basic i=if i=r then V.other (c - 1) else V.basic i:=rfl
    rw [eb]
    by_cases e:i=r
    . rw [if_pos e, <- hbr];exact fun e2=>hV.perm.bo r (c - 1) b.1 (by omega) e2.symm
    . rw [if_neg e, <- hbr];exact fun e2=>e (hV.perm.bb i r hi b.1 e2))
 have Q:=y.inv.den
 have aA:d=0:=by
  apply Classical.byContradiction
  intro hd
  have M:=zk.leave_nil (Z.lv (by omega))
  have N:=zk.enter_pos Z.ent (by omega)
  by_cases aj:∃ i,i<m/\U.basic i=2*nn+m
  . obtain ⟨i,hi,e⟩:=aj
    have b:=y.aim d (by omega);rw [YN hi,if_neg (by omega), <- C] at b
    . simp only [] at b
      rw [e,if_pos rfl,if_neg (fun e2=>y.perm.bo i (d - 1) hi (by omega) (by rw [e,e2]))] at b;have:=M i hi
      omega
    . intro k z Y
      rw [<- C];simp only [];rw [if_neg (fun e2=>Y (y.perm.bb k i z hi (by rw [e,e2]))),Int.mul_zero]
  . have:=ai U y.aim (fun i hi e=>aj ⟨i,hi,e⟩) Q (d - 1) (by omega)
    rw [show d - 1+1=d by omega] at this
    omega
 subst aA
 have aB:∀ k,k<2*nn+1->U.cell m (k+1)<=0:=fun k z=>zk.enter_zero Z.ent k z (by omega)
 by_cases ad:U.cell m 0<0
 . refine ⟨U,false,.no _ _ l 0 hl (by rw [B];exact hfit _ R T) (by rw [B,G];exact hfit _ K.inv K.aim) (by rw [B,G];exact hw) (hfit _ y.inv y.aim) ad,(fun h=>by cases h),fun _=>?_⟩
   exact ⟨y.inv,y.perm,S,by rw [C];exact y.aim,ad,fun u=>zk.at_le aB u⟩
 ·
  have hp:=y.perm
  have au:∀ i,i<m->U.basic i=2*nn+m->U.cell i 0=0:=by
   intro i hi e;have b:=y.aim 0 (by omega);rw [YN hi,if_pos rfl, <- C] at b
   . simp only [] at b
     rw [e,if_pos rfl] at b;have:=ae i hi
     omega
   . intro k z Y
     rw [<- C];simp only [];rw [if_neg (fun e2=>Y (hp.bb k i z hi (by rw [e,e2]))),Int.mul_zero]
  have ac:(U.out m (2*nn+1) (2*nn+m)).Ok (T0.vecs m nn) (fun i=>T0.cell i 0) g m (2*nn+1)/\zcu T0 m nn (U.out m (2*nn+1) (2*nn+m)):=by
   unfold zk.out
   rcases hi:ziy U.basic (2*nn+m) m with _ | i
   . have X:=Xs hi
     refine ⟨y,y.inv,hp,S,ae,?_⟩
     rcases hp.cov (2*nn+m) (by omega) with ⟨i,ar,e⟩ | h
     . exact absurd e (X i ar)
     . exact h
   . obtain ⟨L,aa⟩:=ZM hi
     simp only [];have hv:=au i L aa
     rcases z:U.nz i (2*nn+1) with _ | k
     ·
      exfalso
      have X:=zk.nz_none z;obtain ⟨x,hx,_,am⟩:=h0.pt (fun _=>0) 1;have b:=(S x).2 hx i L;rw [aa,am] at b;unfold zk.tell at b;rw [hv,yC] at b
      . have aC:(0:Rat)<(U.den:Rat):=by exact_mod_cast Q
        have av:((0:Int):Rat)=0:=rfl;rw [av] at b
        grind
      . intro k z
        rw [X (k+1) (by omega) (by omega)];exact Rat.zero_mul _
     . obtain ⟨ah,af,ag⟩:=zk.nz_some z
       simp only [];have ab:=y.pivot L ah af ag;refine ⟨ab,ab.inv,ab.perm,fun x=>by rw [y.sol L ah af ag];exact S x,fun j F=>?_,k - 1,by omega,?_⟩
       . rw [zk.pivot_cell]
         by_cases e:j=i
         . subst e;rw [zk.bare_r (by omega),hv];split<;>omega
         . have hb:=y.inv.bare L (by omega:k<2*nn+2) F (by omega:0<2*nn+2) e (by omega)
           rw [hv,Int.mul_zero,Int.sub_zero] at hb;have b:=ae j F
           by_cases ec:U.cell i k<0
           . rw [if_pos ec]
             have:U.den*U.bare i k j 0<=U.den*0:=by rw [hb,Int.mul_zero];exact Int.mul_nonpos_of_nonneg_of_nonpos b (by omega)
             have:=Int.le_of_mul_le_mul_left this Q
             omega
           . rw [if_neg ec]
             have:U.den*0<=U.den*U.bare i k j 0:=by rw [hb,Int.mul_zero];exact Int.mul_nonneg b (by omega)
             exact Int.le_of_mul_le_mul_left this Q
       . show (if k - 1=k - 1 then U.basic i else U.other (k - 1))=_
         rw [if_pos rfl,aa]
  refine ⟨U.out m (2*nn+1) (2*nn+m),true,.yes _ _ l 0 hl (by rw [B];exact hfit _ R T) (by rw [B,G];exact hfit _ K.inv K.aim) (by rw [B,G];exact hw) (hfit _ y.inv y.aim) ad (hfit _ ac.1.inv ac.1.aim),fun _=>ac.2,fun h=>by cases h⟩
end
section
variable {m nn:Nat} {T0:zk} {g:Nat->Int}
structure YI (T0:zk) (m nn:Nat) (g:Nat->Int) (W:zk):Prop where
 inv:W.Inv (T0.vecs m nn) (fun i=>T0.cell i 0) m (2*nn+2)
 perm:W.Perm m (2*nn+1)
 sol:∀ x,W.Sol m (2*nn+1) x↔T0.Sol m (2*nn+1) x
 aim:W.Aim g m (2*nn+2)
 feas:W.Feas m
 room:∃ k,k<2*nn+1/\W.other k=2*nn+m
structure zou (T0:zk) (m nn:Nat) (g:Nat->Int) (W:zk):Prop extends YI T0 m nn g W where
 top:∀ u,u<2*nn+m->W.at_ (2*nn+1) m u<=0
structure znb (T0:zk) (m nn:Nat) (g:Nat->Int) (d:Nat) (W:zk):Prop extends YI T0 m nn g W where
 d0:0<d
 dn:d<=2*nn+1
 ne:W.other (d - 1)≠2*nn+m
 col:∀ i,i<m->0<=W.cell i d
 up:0<W.cell m d
theorem zk.at_le2 {U:zk} {m n u:Nat} (h:∀ k,k<n->U.other k=u->U.cell m (k+1)<=0):U.at_ n m u<=0:=by
 unfold zk.at_
 have:(zJ n fun k=>if U.other k=u then (U.cell m (k+1):Rat) else 0)= -1*zJ n fun k=>if U.other k=u then -(U.cell m (k+1):Rat) else 0:=by
  rw [<- vf]
  apply zw
  intro k b
  split<;>grind
 rw [this]
 have j:0<=zJ n fun k=>if U.other k=u then -(U.cell m (k+1):Rat) else 0:=by
  apply zct
  intro k b
  split
  rotate_left
  . exact Rat.le_refl
  rename_i e
  have:(U.cell m (k+1):Rat)<=0:=by exact_mod_cast h k b e
  grind
 grind
theorem zpg {U V:zk} (h:zcu T0 m nn U) (hd:V.den=U.den) (hb:V.basic=U.basic) (ho:V.other=U.other) (hc:∀ i k,i<m->V.cell i k=U.cell i k) (ha:V.Aim g m (2*nn+2)):YI T0 m nn g V where
 inv:=by
  have:=h.inv
  refine ⟨by rw [hd];exact this.den,fun k i hk hi=>?_,by rw [hd,hb];exact this.dt⟩
  have e:=this.ex k i hk hi
  rw [hd,hb]
  unfold zk.colv at e |-
  rw [ho,e]
  apply yv
  intro j b
  rw [hc j k b]
 perm:=by
  have:=h.perm
  exact ⟨by rw [hb];exact this.bb,by rw [ho];exact this.oo,by rw [hb,ho];exact this.bo,by rw [hb];exact this.bl,by rw [ho];exact this.ol,by rw [hb,ho];exact this.cov⟩
 sol:=by
  intro x
  rw [<- h.sol x]
  unfold zk.Sol zk.tell
  rw [hd,hb,ho]
  constructor
  . intro h i hi
    have:=h i hi;simp only [hc i _ hi] at this;exact this
  intro h i hi
  simp only [hc i _ hi];exact h i hi
 aim:=ha
 feas:=fun i hi=>by rw [hc i 0 hi];exact h.feas i hi
 room:=by rw [ho];exact h.room
theorem zlf {V:zk} (h:YI T0 m nn g V) (hfit:∀ U:zk,U.Inv (T0.vecs m nn) (fun i=>T0.cell i 0) m (2*nn+2)->U.Aim g m (2*nn+2)->U.Fits m (2*nn+2)):
 ∃ W d,vU m (2*nn+2) (2*nn+m) ((2*nn+m:Nat):Int) V W d/\(d=0->zou T0 m nn g W)/\(0<d->znb T0 m nn g d W):=by
 obtain ⟨W,d,C,l,D,⟨F,E⟩,y⟩:=zeq (room:=2*nn+m) (but:=((2*nn+m:Nat):Int)) (fun U=>(∀ x,U.Sol m (2*nn+1) x↔T0.Sol m (2*nn+1) x)/\∃ k,k<2*nn+1/\U.other k=2*nn+m) V
  ⟨h.inv,h.aim,h.perm⟩ h.feas ⟨h.sol,h.room⟩ (fun U hU=>hfit U hU.inv hU.aim)
  (fun U c r hU hQ hc0 hent hlv=>by
    have j:=zk.leave_some hlv;have B:=zk.enter_pos hent hc0;refine ⟨fun x=>by rw [hU.sol j.1 hc0 B.1 (by omega)];exact hQ.1 x,?_⟩;obtain ⟨k,b,e⟩:=hQ.2;refine ⟨k,b,?_⟩
    show (if k=c - 1 then U.basic r else U.other k)=_
    rw [if_neg,e];intro G
    apply B.2.1
    rw [<- G,e])
  (fun U c r hU hQ hc0 hent hlv hbr=>by
    obtain ⟨k,b,e⟩:=hQ.2
    exact absurd (by rw [hbr,e]) (hU.perm.bo r k (zk.leave_some hlv).1 b))
 have z:YI T0 m nn g W:=⟨l.inv,l.perm,F,l.aim,D,E⟩
 refine ⟨W,d,C,fun hd=>⟨z,fun u hu=>?_⟩,fun hd=>?_⟩
 rotate_left
 . have j:=zk.enter_pos y.ent hd
   exact ⟨z,hd,j.1,by have:=j.2.1;omega,zk.leave_nil (y.lv hd),j.2.2.1⟩
 subst hd
 apply zk.at_le2
 intro k b e;exact zk.enter_zero y.ent k b (by omega)
end
theorem zew {m L room d:Nat} {but:Int} {T U:zk} (h:vU m L room but T U d):∃ n,Vd m L room but n T U d:=by
 induction h with
 | top T h=>exact ⟨0,.top T h⟩
 | free T c h0 h hl=>exact ⟨0,.free T c h0 h hl⟩
 | step T U c d r h0 h hl hf _ b=>obtain ⟨n,b⟩:=b;exact ⟨n+1,.step T U c d r n h0 h hl hf b⟩
theorem vh {f:Nat->Nat} {u:Nat}:∀ n,xE f (u:Int) n=ziy f u n
 | 0=>rfl
 | n+1=>by
   unfold xE ziy;rw [vh n]
   cases ziy f u n with
   | some j=>rfl
   | none=>
     simp only []
     by_cases e:f n=u
     . rw [if_pos e,if_pos (by omega)]
     rw [if_neg e,if_neg (by omega)]
theorem zk.lst_up {T:zk} {i:Nat} (h:0<=T.cell i 0):T.lst (i+1)=T.lst i:=by
 show (match T.lst i with | none=>if T.cell i 0<0 then some i else none | some j=>if T.cell i 0<0/\T.cell i 0<T.cell j 0 then some i else some j)=_
 cases T.lst i with
 | none=>exact if_neg (by omega)
 | some j=>exact if_neg (by omega)
theorem zk.lst_first {T:zk} {i:Nat} (h:¬ 0<=T.cell i 0) (hn:T.lst i=none):T.lst (i+1)=some i:=by
 show (match T.lst i with | none=>if T.cell i 0<0 then some i else none | some j=>if T.cell i 0<0/\T.cell i 0<T.cell j 0 then some i else some j)=_
 rw [hn]
 exact if_pos (by omega)
theorem zk.lst_less {T:zk} {i j:Nat} (h:¬ 0<=T.cell i 0) (hn:T.lst i=some j) (hl:T.cell i 0<T.cell j 0):T.lst (i+1)=some i:=by
 show (match T.lst i with | none=>if T.cell i 0<0 then some i else none | some j=>if T.cell i 0<0/\T.cell i 0<T.cell j 0 then some i else some j)=_
 rw [hn]
 exact if_pos ⟨by omega,hl⟩
theorem zk.lst_keep {T:zk} {i j:Nat} (hn:T.lst i=some j) (hl:¬ T.cell i 0<T.cell j 0):T.lst (i+1)=some j:=by
 show (match T.lst i with | none=>if T.cell i 0<0 then some i else none | some j=>if T.cell i 0<0/\T.cell i 0<T.cell j 0 then some i else some j)=_
 rw [hn]
 exact if_neg (fun h=>hl h.2)
theorem zk.nz_next {T:zk} {i k:Nat} (h:T.cell i (k+1)=0) (hn:T.nz i k=none):T.nz i (k+1)=none:=by
 show (match T.nz i k with | some j=>some j | none=>if T.cell i (k+1)≠0 then some (k+1) else none)=none
 rw [hn]
 exact if_neg (fun h2=>h2 h)
theorem zk.nz_found {T:zk} {i k:Nat} (h:T.cell i (k+1)≠0) (hn:T.nz i k=none):∀ {n},k<n->T.nz i n=some (k+1)
 | 0,hk=>by omega
 | n+1,hk=>by
   show (match T.nz i n with | some j=>some j | none=>if T.cell i (n+1)≠0 then some (n+1) else none)=_
   by_cases e:k=n
   . subst e;rw [hn];exact if_pos h
   rw [zk.nz_found h hn (by omega)]
theorem zld.none_ {m n room:Nat} {T U:zk} {ok:Bool} (h:zld m n room T U ok) (hl:T.lst m=none):U=T/\ok=true:=by
 cases h with
 | now h=>exact ⟨rfl,rfl⟩
 | no _ l d h=>rw [hl] at h;cases h
 | yes U l d h=>rw [hl] at h;cases h
theorem zld.some_ {m n room l:Nat} {T U:zk} {ok:Bool} (h:zld m n room T U ok) (hl:T.lst m=some l):∃ (UU:zk) (dd:Nat),(T.roomy m n).Fits m (n+1)/\((T.roomy m n).pivot l n).Fits m (n+1)/\vU m (n+1) room (-1) ((T.roomy m n).pivot l n) UU dd/\UU.Fits m (n+1)/\
 ((UU.cell m 0<0/\U=UU/\ok=false)\/(¬ UU.cell m 0<0/\U=UU.out m n room/\ok=true/\(UU.out m n room).Fits m (n+1))):=by
 cases h with
 | now h=>rw [hl] at h;cases h
 | no _ l' d h f1 f2 hw fU hz=>rw [hl] at h;injection h with h;subst h;exact ⟨_,_,f1,f2,hw,fU,.inl ⟨hz,rfl,rfl⟩⟩
 | yes V l' d h f1 f2 hw fU hz f3=>rw [hl] at h;injection h with h;subst h;exact ⟨_,_,f1,f2,hw,fU,.inr ⟨hz,rfl,rfl,f3⟩⟩
theorem zI.setNum {base m L i k:Nat} {F:zG} {w:World} {T T' :zk} {x:Int} {X:Option Addr} {n1 c:Nat} {ng:Bool} {q:Int} (h:zI base m L F w T) (hb:base<=w.heap.size) (hi:i<=m) (hk:k<L)
 (hv:zN w (.agg #[.int .i64 x,.slice X n1 c,.bool ng]) q) (e1:T'.den=T.den) (e2:T'.basic=T.basic) (e3:T'.other=T.other) (hA:∀ i' k',T'.cell i' k' =if i' =i/\k' =k then q else T.cell i' k'):
 zI base m L F (World.numAt w (F.g i) k x X n1 c ng) T' /\Chg (F.S m) w (World.numAt w (F.g i) k x X n1 c ng):=by
 obtain ⟨⟨J,z,dn,G,dg,r,I⟩,j,B,M,E,D,C⟩:=h
 have u:Pv w base m L F (F.cells m J z dn G dg) T.cell w:=⟨j,r,Chg.refl w,fun i hi=>⟨(j.rows i (by omega)).2.lt,(j.rows i (by omega)).2.heap⟩,r.lt,j.lt.2,hb⟩
 have y:=vm (w:=w) (g:=F.g i) (k:=k) (x:=x) (ng:=ng) (A:=X) (n:=n1) (c:=c)
 have l:=u.set hi hk hv (A' :=T'.cell) (fun i' k' _ _=>hA i' k')
 have K:∀ b,b=F.g i->zO w b:=fun b e=>by subst e;exact u.noDig hi
 refine ⟨zI.of_pv l (by rw [e1];exact y.num I K) (fun i k _ _=>rfl) (by rw [e2];exact l.own B) (by rw [e3];exact l.own M) E D C,y.mono fun b _ e=>.inr (.inl ⟨i,hi,e⟩)⟩
def FgR (w0:World) (base m L:Nat) (F:zG) (T:zk) (lv iv:Value) (wr:World):Prop:=
 ∃ i:Nat,i<=m/\iv= .int .i64 (i:Nat)/\lv= .int .i64 (zac (T.lst i))/\Hid (zI base m L F wr T)/\Hid (Below w0.heap.size w0 wr)
def FgK (w0:World) (base m n L:Nat) (F:zG) (U:zk) (i:Nat) (kv:Value) (wr:World):Prop:=
 ∃ k:Nat,k<=n/\kv= .int .i64 ((k:Int)+1)/\Hid (U.nz i k=none)/\Hid (zI base m L F wr U)/\Hid (Chg (F.S m) w0 wr)/\Hid (base<=wr.heap.size)
def zwc (base m L:Nat) (F:zG) (U:zk) (ok:Bool) (w:World) (e:Ending) (w' :World):Prop:=e= .returned (.bool ok)/\zI base m L F w' U/\Chg (F.S m) w w'
set_option maxRecDepth 100000 in
set_option maxHeartbeats 8000000 in
theorem V8 (base m n:Nat) (F:zG) (T U:zk) (ok:Bool) (w:World) (hT:zI base m (n+1) F w T) (hf:T.Fits m (n+1)) (hw:zld m n (2*F.nn+m) T U ok) (hm:m<=100000) (hL:n+1<=100000) (hb:base<=w.heap.size):
 Calls prog 33 #[.pointer (some ⟨F.gt,0,none⟩)] w (zwc base m (n+1) F U ok w):=by
 have t1:=hT.cell1
 have HF:=ze hf
 have au:=ze hw
 have al:=ze (show 0<n+1 by omega)
 have bq:=al.o
 have B:=ze hT
 have I:=ze (xh w)
 have bz:=ze hb
 clear hT hf hw hb
 go_in
 go_wp2
 go_loopw [3,13] (FgR w base m (n+1) F T) (fun _ iv _=>m - (intOf iv).toNat)
 case atStart=>exact ⟨0,uB,rfl,rfl,B,I⟩
 case round=>
  clear B I t1
  obtain ⟨i,hi,rfl,rfl,B,I⟩:=hrel
  by_cases bN:i<m
  . have bD:(i:Int)<(m:Int):=by omega
    have bI:(i:Int)<(m:Int)+1:=by omega
    have t3:=B.o.cell3;have t4:=B.o.mat.cell (i:=i) (by omega);obtain ⟨ax,aA,an,ac,ag,a0,Y,Z,ha⟩:=B.o.mat.at_ (i:=i) (k:=0) (by omega) al.o;simp only [Nat.zero_mul,Nat.zero_add] at a0 Y Z;have Q:=B.o.lt;have mL:=B.o.mat.lt.2;have M:=(B.o.mat.rows i (by omega)).2.lt;obtain ⟨sg,ae⟩:∃ sg:Int,zZ (T.cell i 0) 0=sg:=⟨_,rfl⟩;have R:=zao (z:=T.cell i 0);have ab:=fun w' (h:zN w' (.agg #[.int .i64 ax,.slice aA an ac,.bool ag]) (T.cell i 0))=>ZD _ _ w' h
    rw [ae] at R ab;have V:=ze ha;have aa:=ze ab;clear ha ab ae
    by_cases hp:0<=T.cell i 0
    . have d1:decide (sg<0)=false:=uF (fun h=>by have:=R.2 hp;omega)
      have aj:Hid (T.lst (i+1)=T.lst i):=zk.lst_up hp;clear R hp
      go_upto_region 5 with fail
      have G:∀ w',Hid (Below wr.heap.size wr w')->w'.cell? ⟨F.gt,3,none⟩=some (.slice (some ⟨F.gm,0,none⟩) (m+1) F.cm)/\w'.cell? ⟨F.gm,i,none⟩=some (.slice (some ⟨F.g i,0,none⟩) (n+1) (n+1))/\w'.cell? ⟨F.g i,0,none⟩=some (.int .i64 ax)/\w'.cell? ⟨F.g i,1,none⟩=some (.slice aA an ac)/\w'.cell? ⟨F.g i,2,none⟩=some (.bool ag):=fun w' hB=>⟨zl hB Q t3,zl hB mL t4,zl hB M a0,zl hB M Y,zl hB M Z⟩
      refine y8 G 9 27 36 (zv wr) fun u=>?_;simp only [xDR]
      iterate 9 refine zH ?_
      refine zB ?_;refine rK 9 fun K E=>?_
      go_simp
      go_at_call 76;refine (aa.o _ (V.o.below u.1.out)).mono ?_;rintro e w1 ⟨rfl,D⟩;refine E.out _ _ (zm (zp D u.1) (G _)) ?_;clear E K u;intro u
      try simp only [Act.put,xST]
      clear D;refine tK 10 ?_;refine tK 11 ?_;refine sK 12 ?_;refine sK 13 ?_;refine sK 14 ?_;refine sK 15 ?_;refine sK 16 ?_;refine sK 17 ?_;refine sK 18 ?_;refine sK 19 ?_;refine sK 20 ?_;refine sK 21 ?_;refine sK 22 ?_;refine sK 23 ?_;refine sK 24 ?_;refine sK 25 ?_;refine sK 26 ?_;refine sK 27 ?_;refine sK 28 ?_;refine sK 29 ?_;refine sK 30 ?_;refine sK 31 ?_;refine sK 32 ?_;refine sK 33 ?_;refine sK 34 ?_;refine sK 35 ?_;have J:=(u.1).out;replace B:=ze (zI.below B.o J);replace I:=eb_ I J;clear J u G;refine hdn ?_;simp only [xDR];clear t3 t4 a0 Y Z Q mL M V aa;go_wp2;go_roundw
      case rel=>exact ⟨i+1,by omega,by go_num,by rw [aj.o],B,I⟩
      case measure=>simp [intOf];omega
    have d1:decide (sg<0)=true:=uE (by
     have h1:¬ 0<=sg:=fun h=>hp (R.1 h)
     omega)
    have HP:Hid (¬ 0<=T.cell i 0):=hp;clear R hp
    cases hlv:T.lst i with
    | none=>
      have aj:Hid (T.lst (i+1)=some i):=zk.lst_first HP.o hlv;have d2:decide (zac none<0)=true:=by decide
      have d3:zac none= -1:=rfl;clear hlv
      go_upto_region 5 with fail
      have G:∀ w',Hid (Below wr.heap.size wr w')->w'.cell? ⟨F.gt,3,none⟩=some (.slice (some ⟨F.gm,0,none⟩) (m+1) F.cm)/\w'.cell? ⟨F.gm,i,none⟩=some (.slice (some ⟨F.g i,0,none⟩) (n+1) (n+1))/\w'.cell? ⟨F.g i,0,none⟩=some (.int .i64 ax)/\w'.cell? ⟨F.g i,1,none⟩=some (.slice aA an ac)/\w'.cell? ⟨F.g i,2,none⟩=some (.bool ag):=fun w' hB=>⟨zl hB Q t3,zl hB mL t4,zl hB M a0,zl hB M Y,zl hB M Z⟩
      refine y8 G 9 27 36 (zv wr) fun u=>?_;simp only [xDR]
      iterate 9 refine zH ?_
      refine zB ?_;refine rK 9 fun K E=>?_
      go_simp
      go_at_call 76;refine (aa.o _ (V.o.below u.1.out)).mono ?_;rintro e w1 ⟨rfl,D⟩;refine E.out _ _ (zm (zp D u.1) (G _)) ?_;clear E K u;intro u
      try simp only [Act.put,xST]
      clear D;refine tK 10 ?_;refine tK 11 ?_;refine tK 12 ?_;refine tK 13 ?_;refine tK 14 ?_;refine sK 15 ?_;refine sK 16 ?_;refine sK 17 ?_;refine sK 18 ?_;refine sK 19 ?_;refine sK 20 ?_;refine sK 21 ?_;refine sK 22 ?_;refine sK 23 ?_;refine sK 24 ?_;refine sK 25 ?_;refine sK 26 ?_;refine sK 27 ?_;refine sK 28 ?_;refine sK 29 ?_;refine sK 30 ?_;refine sK 31 ?_;refine sK 32 ?_;refine sK 33 ?_;refine sK 34 ?_;refine tK 35 ?_;have J:=(u.1).out;replace B:=ze (zI.below B.o J);replace I:=eb_ I J;clear J u G;refine hdn ?_;simp only [xDR];clear t3 t4 a0 Y Z Q mL M V aa;go_wp2;go_roundw
      case rel=>exact ⟨i+1,by omega,by go_num,by rw [aj.o];rfl,B,I⟩
      case measure=>simp [intOf];omega
    | some j=>
      have bF:=(zk.lst_some hlv).1;have bJ:(j:Int)<(m:Int)+1:=by omega
      have bH:(0:Int)<=(j:Int):=by omega
      have d2:decide ((j:Int)<0)=false:=by rw [decide_eq_false_iff_not];omega
      have d3:zac (some j)=(j:Int):=rfl;have aP:=ze hlv;clear hlv;rw [d3];have s4:=B.o.mat.cell (i:=j) (by omega);obtain ⟨bx,bA,bn,bc,bg,b0,b1,b2,bl⟩:=B.o.mat.at_ (i:=j) (k:=0) (by omega) al.o;simp only [Nat.zero_mul,Nat.zero_add] at b0 b1 b2;have bL:=(B.o.mat.rows j (by omega)).2.lt;obtain ⟨cv,aI⟩:∃ cv:Int,zZ (T.cell i 0) (T.cell j 0)=cv:=⟨_,rfl⟩;have ah:=YD (T.cell i 0) (T.cell j 0);rw [aI] at ah;have aJ:=fun w' h1 O=>zc8 (.agg #[.int .i64 ax,.slice aA an ac,.bool ag]) (.agg #[.int .i64 bx,.slice bA bn bc,.bool bg]) (T.cell i 0) (T.cell j 0) w' h1 O ((HF.o.cell i 0 (by omega) (by omega)).le2 (by omega)) ((HF.o.cell j 0 (by omega) (by omega)).le2 (by omega))
      rw [aI] at aJ;have aW:=ze aJ;have bd:=ze bl;clear aJ aI bl
      obtain ⟨b,bb,aj⟩:∃ b:Bool,decide (cv<0)=b/\Hid (T.lst (i+1)=if b=true then some i else some j):=by
       rcases ah with ⟨ah,rfl⟩ | ⟨ah,rfl⟩ | ⟨ah,rfl⟩
       . exact ⟨true,rfl,zk.lst_less HP.o aP.o ah⟩
       . exact ⟨false,rfl,zk.lst_keep aP.o (by omega)⟩
       . exact ⟨false,rfl,zk.lst_keep aP.o (by omega)⟩
      clear ah
      go_upto_region 5 with fail
      have G:∀ w',Hid (Below wr.heap.size wr w')->w'.cell? ⟨F.gt,3,none⟩=some (.slice (some ⟨F.gm,0,none⟩) (m+1) F.cm)/\w'.cell? ⟨F.gm,i,none⟩=some (.slice (some ⟨F.g i,0,none⟩) (n+1) (n+1))/\w'.cell? ⟨F.g i,0,none⟩=some (.int .i64 ax)/\w'.cell? ⟨F.g i,1,none⟩=some (.slice aA an ac)/\w'.cell? ⟨F.g i,2,none⟩=some (.bool ag)/\w'.cell? ⟨F.gm,j,none⟩=some (.slice (some ⟨F.g j,0,none⟩) (n+1) (n+1))/\w'.cell? ⟨F.g j,0,none⟩=some (.int .i64 bx)/\w'.cell? ⟨F.g j,1,none⟩=some (.slice bA bn bc)/\w'.cell? ⟨F.g j,2,none⟩=some (.bool bg):=fun w' hB=>⟨zl hB Q t3,zl hB mL t4,zl hB M a0,zl hB M Y,zl hB M Z,zl hB mL s4,zl hB bL b0,zl hB bL b1,zl hB bL b2⟩
      refine y8 G 9 27 36 (zv wr) fun u=>?_;simp only [xDR]
      iterate 9 refine zH ?_
      refine zB ?_;refine rK 9 fun K E=>?_
      go_simp
      go_at_call 76;refine (aa.o _ (V.o.below u.1.out)).mono ?_;rintro e w1 ⟨rfl,D⟩;refine E.out _ _ (zm (zp D u.1) (G _)) ?_;clear E K u;intro u
      try simp only [Act.put,xST]
      clear D;refine tK 10 ?_;refine tK 11 ?_;refine tK 12 ?_;refine tK 13 ?_;refine tK 14 ?_;refine tK 15 ?_;refine tK 16 ?_;refine tK 17 ?_;refine tK 18 ?_;refine tK 19 ?_;refine tK 20 ?_;refine tK 21 ?_;refine tK 22 ?_;refine tK 23 ?_;refine tK 24 ?_;refine tK 25 ?_;refine tK 26 ?_;refine tK 27 ?_;refine tK 28 ?_;refine tK 29 ?_;refine tK 30 ?_;refine tK 31 ?_;refine tK 32 ?_;refine rK 33 fun K E=>?_;rw [if_pos (by rfl)]
      go_simp
      go_at_call 48;refine (aW.o _ (V.o.below u.1.out) (bd.o.below u.1.out)).mono ?_;rintro e w2 ⟨rfl,D⟩;refine E.out _ _ (zm (zp D u.1) (G _)) ?_;clear E K u;intro u
      try simp only [Act.put,xST]
      clear D;refine tK 34 ?_;refine tK 35 ?_;have J:=(u.1).out;replace B:=ze (zI.below B.o J);replace I:=eb_ I J;clear J u G;refine hdn ?_;simp only [xDR];clear t3 t4 a0 Y Z b0 b1 b2 s4 Q mL M bL V aa bd aW
      cases b with
      | true=>
        go_wp2;go_roundw
        case rel=>exact ⟨i+1,by omega,by go_num,by rw [aj.o];rfl,B,I⟩
        case measure=>simp [intOf];omega
      | false=>
        go_wp2;go_roundw
        case rel=>exact ⟨i+1,by omega,by go_num,by rw [aj.o];rfl,B,I⟩
        case measure=>simp [intOf];omega
  obtain rfl:m=i:=by omega
  cases hlv:T.lst m with
  | none=>
    have d2:decide (zac none<0)=true:=by decide
    have d3:zac none= -1:=rfl;obtain ⟨rfl,rfl⟩:=au.o.none_ hlv;clear hlv au;go_wp2;go_ret;exact ⟨by go_num,B.o,Chg.of_below I.o⟩
  | some l=>
    have a6:=(zk.lst_some hlv).1;have d2:decide ((l:Int)<0)=false:=by rw [decide_eq_false_iff_not];omega
    have d3:zac (some l)=(l:Int):=rfl;obtain ⟨C,dd,f1,f2,aY,fU,ba⟩:=au.o.some_ hlv;obtain ⟨aU,bh,aS,bm,aO,bB⟩:=hz6 f1 f2 aY fU ba a6;clear hlv f1 f2 aY fU ba a6 au;rw [d3]
    skip
    have t1:=B.o.cell1;have t3:=B.o.cell3;have t4:=B.o.mat.cell (i:=m) (by omega);have bG:(m:Int)<(m:Int)+1:=by omega
    go_upto_region 10 with fail
    go_region
    clear t1 t3 t4;replace B:=ze (B.o.below (zv _).out);replace I:=ze (ext I.o (zv _).out);generalize wr.drew=wr at B I |-
    skip
    have ap:=(B.o.mat.rows m (by omega)).2;obtain ⟨u0,u1,u2,s0,s1,s2⟩:=ap.slots (k:=n) (by omega);have f0:=ap.frozen (n*3);have f1:=ap.frozen (n*3+1);have f2:=ap.frozen (n*3+2);have n0:(0:Int)<=(n:Int):=by omega
    have n1:(n:Int)<(n:Int)+1:=by omega
    have aN:base<=wr.heap.size:=uC bz.o I.o.size;have av:=B.o.setNum (T' :=T.roomy m n) (i:=m) (k:=n) (x:= -1) (X:=none) (n1:=0) (c:=0) (ng:=false) (q:= -1) aN (uA) (by omega) (.inl ⟨-1,false,rfl,by omega,by omega,rfl⟩) rfl rfl rfl (fun _ _=>rfl);have aC:=ze av.1;have aE:Hid (Chg (F.S m) w (World.numAt wr (F.g m) n (-1) none 0 0 false)):=(Chg.of_below I.o).trans av.2 (fun _ _ h=>h);have aB:Hid (base<=(World.numAt wr (F.g m) n (-1) none 0 0 false).heap.size):=uC aN av.2.size;clear av ap aN B I
    go_upto_region 12 with fail
    clear s0 s1 s2 f0 f1 f2;obtain ⟨W1,ao⟩:∃ x,x=World.numAt wr (F.g m) n (-1) none 0 0 false:=⟨_,rfl⟩;rw [<- ao] at aC aE aB;replace ao:W1=((wr.setCell ⟨F.g m,n*3,none⟩ (.int .i64 (-1))).setCell ⟨F.g m,n*3+1,none⟩ (.slice none 0 0)).setCell ⟨F.g m,n*3+2,none⟩ (.bool false):=ao;rw [<- ao];clear ao;have aq:=ze (Vb base m (n+1) F (T.roomy m n) l n W1 aC.o aU.o bB.o (by have:=aC.o.cols;omega) (by omega) hm hL aB.o);go_wp2_with fail;refine aq.o.mono ?_;rintro e w2 ⟨rfl,aR,aG⟩;have aV:=ze aR;have a7:Hid (Chg (F.S m) w w2):=aE.o.trans aG (fun _ _ h=>h);have aH:Hid (base<=w2.heap.size):=uC aB.o aG.size;clear aR aG aq aC aE aB;obtain ⟨cn,aQ⟩:=zew aS.o;have bj:=ze (zau base m (n+1) F ((T.roomy m n).pivot l n) C (-1) dd cn w2 aV.o bh.o aQ hm hL aH.o);clear aQ aS;go_wp2_with fail;refine bj.o.mono ?_;rintro e w3 ⟨rfl,aT,aK⟩;have y:=ze aT;have N:Hid (Chg (F.S m) w w3):=a7.o.trans aK (fun _ _ h=>h);have ad:Hid (base<=w3.heap.size):=uC aH.o aK.size;clear aT aK bj aV a7 aH
    skip
    have t1:=y.o.cell1;have t3:=y.o.cell3;have t4:=y.o.mat.cell (i:=m) (by omega);obtain ⟨ax,aA,an,ac,ag,a0,Y,Z,ha⟩:=y.o.mat.at_ (i:=m) (k:=0) (by omega) al.o;simp only [Nat.zero_mul,Nat.zero_add] at a0 Y Z;have Q:=y.o.lt;have mL:=y.o.mat.lt.2;have M:=(y.o.mat.rows m (by omega)).2.lt;obtain ⟨sg,ae⟩:∃ sg:Int,zZ (C.cell m 0) 0=sg:=⟨_,rfl⟩;have R:=zao (z:=C.cell m 0);have ab:=fun w' (h:zN w' (.agg #[.int .i64 ax,.slice aA an ac,.bool ag]) (C.cell m 0))=>ZD _ _ w' h
    rw [ae] at R ab;have V:=ze ha;have aa:=ze ab;clear ha ab ae
    obtain ⟨b,bb,af⟩:∃ b:Bool,decide (sg<0)=b/\Hid (b=true↔C.cell m 0<0):=by
     refine ⟨decide (sg<0),rfl,?_⟩
     show _↔_
     rw [decide_eq_true_iff];have h1:=R.1;have O:=R.2
     constructor
     . intro h
       apply Classical.byContradiction
       intro hc;have:=O (by omega)
       omega
     intro h
     apply Classical.byContradiction
     intro hc;have:=h1 (by omega)
     omega
    clear R
    go_upto_region 14 with fail
    have G:∀ w',Hid (Below w3.heap.size w3 w')->w'.cell? ⟨F.gt,3,none⟩=some (.slice (some ⟨F.gm,0,none⟩) (m+1) F.cm)/\w'.cell? ⟨F.gt,1,none⟩=some (.slice F.rA m F.rc)/\w'.cell? ⟨F.gm,m,none⟩=some (.slice (some ⟨F.g m,0,none⟩) (n+1) (n+1))/\w'.cell? ⟨F.g m,0,none⟩=some (.int .i64 ax)/\w'.cell? ⟨F.g m,1,none⟩=some (.slice aA an ac)/\w'.cell? ⟨F.g m,2,none⟩=some (.bool ag):=fun w' hB=>⟨zl hB Q t3,zl hB Q t1,zl hB mL t4,zl hB M a0,zl hB M Y,zl hB M Z⟩
    refine y8 G 13 1 14 (zv w3) fun u=>?_;simp only [xDR]
    iterate 13 refine zH ?_
    refine zB ?_;refine rK 13 fun K E=>?_
    go_simp
    go_at_call 76;refine (aa.o _ (V.o.below u.1.out)).mono ?_;rintro e w4 ⟨rfl,D⟩;replace ad:Hid (base<=w4.heap.size):=uC ad.o (uC u.1.out.size D.size);refine E.out _ _ (zm (zp D u.1) (G _)) ?_;clear E K u;intro u
    try simp only [Act.put,xST]
    clear D;have J:=(u.1).out;replace y:=ze (zI.below y.o J);replace N:=ze (zD N.o J);clear J u G;refine hdn ?_;simp only [xDR];clear t1 t3 t4 a0 Y Z Q mL M V aa
    cases b with
    | true=>
      have u:U=C/\ok=false:=by
       have h:=af.o.1 rfl
       rcases aO.o with O | O
       . exact O.2
       . have:=O.1;omega
      obtain ⟨rfl,rfl⟩:=u;go_wp2;go_ret;exact ⟨by go_num,y.o,N.o⟩
    | false=>
      have u:U=C.out m n (2*F.nn+m)/\ok=true/\(C.out m n (2*F.nn+m)).Fits m (n+1):=by
       rcases aO.o with O | O
       . exact absurd (af.o.2 (by have:=O.1;omega)) (by decide)
       . exact O.2
      have HU:=ze u;clear u af aO
      skip
      have t7:=y.o.cell7;have Q:=y.o.lt;obtain ⟨a3,aD⟩:∃ r:Int,((2*F.nn+m:Nat):Int)=r:=⟨_,rfl⟩;obtain ⟨io,ai⟩:=uR (xE C.basic a3 m);have aM:=fun w' (h:zI base m (n+1) F w' C)=>zak base m (n+1) F C w' h hm hL
      have aF:=fun w' (h:zI base m (n+1) F w' C)=>zbc h hm a3
      rw [aD] at aM;rw [ai] at aF;have aZ:=ze aM;have a5:=ze aF;rw [<- aD,vh] at ai;clear aD aM aF
      go_upto_region 16 with fail
      have G:∀ w',Hid (Below w4.heap.size w4 w')->w'.cell? ⟨F.gt,7,none⟩=some F.bv:=fun w' hB=>zl hB Q t7
      refine y8 G 5 2 7 (zv w4) fun u=>?_;simp only [xDR]
      iterate 5 refine zH ?_
      refine zB ?_;refine rK 5 fun K E=>?_
      go_simp
      go_at_call 37;refine (aZ.o _ (y.o.below u.1.out)).mono ?_;rintro e w5 ⟨rfl,D⟩;replace ad:Hid (base<=w5.heap.size):=uC ad.o (uC u.1.out.size D.size);refine E.out _ _ (zm (zp D u.1) (G _)) ?_;clear E K u;intro u
      try simp only [Act.put,xST]
      clear D;refine rK 6 fun K E=>?_
      go_simp
      go_at_call 78;refine (a5.o _ (y.o.below u.1.out)).mono ?_;rintro e w6 ⟨rfl,rfl⟩;refine E.out _ _ (zm (u.1) (G _)) ?_;clear E K u;intro u
      try simp only [Act.put,xST]
      have J:=(u.1).out;replace y:=ze (zI.below y.o J);replace N:=ze (zD N.o J);clear J u G;refine hdn ?_;simp only [xDR];clear t7 Q aZ a5
      have ak:C.out m n (2*F.nn+m)=match ziy C.basic (2*F.nn+m) m with
       | none=>C
       | some i=>match C.nz i n with
         | none=>C
         | some k=>C.pivot i k:=rfl
      rw [ai] at ak
      cases io with
      | none=>
        have d4:decide (zac none ≥ 0)=false:=by decide
        have d5:zac none= -1:=rfl;have HE:=ze (HU.o.1.trans ak);have am:=ze HU.o.2.1;clear HU ak ai;go_wp2;go_ret;exact ⟨by rw [am.o];go_num,by rw [HE.o];first | exact y.o | (rw [be.o];exact y.o),N.o⟩
      | some i=>
        have br:=(ZM ai).1;have d4:decide ((i:Int) ≥ 0)=true:=by rw [decide_eq_true_iff];omega
        have d5:zac (some i)=(i:Int):=rfl;have bD:(i:Int)<(m:Int)+1:=by omega
        have az:=ze ak;have bs:=ze br;clear ak ai;rw [d5];obtain ⟨L,ar⟩:=uR (n+1);have a8:Hid (zI base m L F w5 C):=by rw [<- ar];exact y
        have bu:Hid (C.Fits m L):=by rw [<- ar];exact bm
        have aX:(n:Int)+1=(L:Int):=by omega
        rw [ar] at hL |-;have bf:=ze ar;have ay:=ze aX;clear ar aX y bm HF aU bh al bq n1 n0;go_wp2
        go_loopw [7] (FgK w base m n L F C i) (fun kv _=>n+1 - (intOf kv).toNat)
        case atStart=>exact ⟨0,uB,rfl,rfl,a8,N,ad⟩
        case round=>
         clear a8 N ad;obtain ⟨k,hk,rfl,aw,y,N,ad⟩:=hrel
         by_cases bw:k<n
         rotate_left
         . obtain rfl:k=n:=by omega
           have bp:((k:Int)+1)=(L:Int):=ay.o;have e:=HU.o.1.trans az.o;rw [aw.o] at e;have HE:=ze e;have am:=ze HU.o.2.1;have be:Hid (k+1=L):=by show _=_;omega
           clear HU az e ay bf;rw [bp];go_wp2;go_ret;exact ⟨by rw [am.o];go_num,by rw [HE.o];first | exact y.o | (rw [be.o];exact y.o),N.o⟩
         obtain ⟨K,E⟩:=uQ (k+1)
         have eK:(k:Int)+1=(K:Int):=by omega
         have bM:(K:Int)<(L:Int):=by have:=ay.o;omega
         have bK:(0:Int)<=(K:Int):=by omega
         have a9:K<L:=by have:=ay.o;omega
         rw [eK];have HK:=ze E;clear E eK;have t3:=y.o.cell3;have t4:=y.o.mat.cell (i:=i) (by omega);obtain ⟨ax,aA,an,ac,ag,a0,Y,Z,ha⟩:=y.o.mat.at_ (i:=i) (k:=K) (by omega) a9;have Q:=y.o.lt;have mL:=y.o.mat.lt.2;have M:=(y.o.mat.rows i (by omega)).2.lt;obtain ⟨sg,ae⟩:∃ sg:Int,zZ (C.cell i K) 0=sg:=⟨_,rfl⟩;have R:=YD (C.cell i K) 0;have ab:=fun w' (h:zN w' (.agg #[.int .i64 ax,.slice aA an ac,.bool ag]) (C.cell i K))=>ZD _ _ w' h
         rw [ae] at R ab;have V:=ze ha;have aa:=ze ab;clear ha ab ae
         obtain ⟨b,bb,af⟩:∃ b:Bool,(sg != 0)=b/\Hid (b=true↔C.cell i K≠0):=by
          rcases R with ⟨h,rfl⟩ | ⟨h,rfl⟩ | ⟨h,rfl⟩
          . exact ⟨true,rfl,by show _↔_;exact ⟨fun _=>by omega,fun _=>rfl⟩⟩
          . exact ⟨false,rfl,by show _↔_;exact ⟨fun O=>(by cases O),fun O=>absurd h O⟩⟩
          . exact ⟨true,rfl,by show _↔_;exact ⟨fun _=>by omega,fun _=>rfl⟩⟩
         clear R
         go_upto_region 21 with fail
         go_wp2_with fail;refine (aa.o _ V.o).mono ?_;rintro e w7 ⟨rfl,D⟩;replace ad:Hid (base<=w7.heap.size):=uC ad.o D.size;replace y:=ze (y.o.below D);replace N:=ze (zD N.o D);clear D;clear t3 t4 a0 Y Z Q mL M V aa
         cases b with
         | true=>
           have bk:C.nz i n=some K:=by rw [HK.o];exact zk.nz_found (by rw [<- HK.o];exact af.o.1 rfl) aw.o bw
           have e:=HU.o.1.trans az.o;rw [bk] at e;have HE:Hid (U=C.pivot i K):=e;have am:=ze HU.o.2.1;have aq:=ze (Vb base m L F C i K w7 y.o bu.o bs.o (by have:=HK.o;omega) a9 hm hL ad.o);clear HU az bk e af;go_wp2_with fail;refine aq.o.mono ?_;rintro e w8 ⟨rfl,bi,a4⟩;have bE:=ze bi;have bo:Hid (Chg (F.S m) w w8):=N.o.trans a4 (fun _ _ h=>h);clear bi a4 aq y N;go_wp2;go_ret;exact ⟨by rw [am.o];go_num,by rw [HE.o,bf.o];exact bE.o,bo.o⟩
         | false=>
           have bC:Hid (C.nz i K=none):=by
            rw [HK.o]
            exact zk.nz_next (by
             rw [<- HK.o]
             apply Classical.byContradiction
             intro hc
             exact absurd (af.o.2 hc) (by decide)) aw.o
           clear af aw;go_wp2;go_roundw
           case rel=>exact ⟨K,by have:=HK.o;omega,by go_num,bC,y,N,ad⟩
           case measure=>have:=HK.o;simp [intOf];omega
end Go.Proofs.YtobdoblpnanclaaGreatDoor
