/- Parts of the proof. -/
import Derived.Test.YtobdoblpnanclaaGreatDoorMo03
import Derived.Test.YtobdoblpnanclaaGreatDoorMo05
set_option linter.all false
namespace Go.Proofs.YtobdoblpnanclaaGreatDoor
open Proofs.Tryz Go.RowKit Go.Deep
def zv1 (da db:List Nat) (w:World) (bv iv:Value) (wr:World):Prop:=
 ∃ (k b:Nat) (O:List Nat),k<=da.length/\iv= .int .i64 k/\bv= .int .u32 b/\b<=1/\O.length=da.length/\zP 4294967296 O/\
  Hid (val 4294967296 (O.take k)+val 4294967296 (db.take k)=val 4294967296 (da.take k)+b*4294967296 ^ k)/\Blk wr w.heap.size 158 (ym O)/\Below w.heap.size w wr
theorem zv1.step {da db:List Nat} {w wr:World} {k b s b' :Nat} {O:List Nat} (hk:k<da.length) (hO:O.length=da.length) (hsO:zP 4294967296 O)
 (HV:Hid (val 4294967296 (O.take k)+val 4294967296 (db.take k)=val 4294967296 (da.take k)+b*4294967296 ^ k)) (hblk:Blk wr w.heap.size 158 (ym O)) (hbl:Below w.heap.size w wr)
 (hs:s<4294967296) (hb' :b' <=1) (HS:Hid (s+db.getD k 0+b=da.getD k 0+b' *4294967296)) (bv iv sv:Value) (hbv:bv= .int .u32 (b' :Int)) (hiv:iv= .int .i64 ((k+1:Nat):Int)) (hsv:sv= .int .u32 (s:Int)):
 zv1 da db w bv iv (wr.setCell ⟨w.heap.size,k,none⟩ sv):=by
 subst hbv hiv hsv
 refine ⟨k+1,b',O.set k s,by omega,rfl,rfl,hb',by simpa using hO,hsO.set _ _ hs,?_,?_,hbl.setCell (uA) _⟩
 . rw [xN _ _ _ (by omega),YE,List.length_take,Nat.min_eq_left (by omega),zM,zM]
   exact zmx HV.o HS.o
 have:=hblk.set_ k (.int .u32 (s:Int))
 rwa [yE] at this
theorem Z0 (va vb:Value) (a b:Nat) (w:World) (ha:yt w va a) (hb:yt w vb b) (hla:len 4294967296 a<=67108864) (I:b<=a):
 Calls prog 103 #[va,vb] w (Vo w (a - b)):=by
 obtain ⟨A,ca,j,rfl,h1,V,aa,F,rfl⟩:=ha
 obtain ⟨B,cb,E,rfl,k1,k2,af,Q,rfl⟩:=hb
 rw [<- F.length_eq (by omega)] at hla
 have ag:=Q.length_le (by omega) F I
 have ac:=F.1
 have ae:=Q.1
 have ad:=ze I
 clear I F Q V k2
 have ao:=fun w=>zcg .i64 j.length (by omega) w
 go_in
 go_wp2
 go_loopw [6,14] (zv1 j E w) (fun _ iv _=>j.length - (intOf iv).toNat)
 case atStart=>
  exact ⟨0,0,List.replicate j.length 0,by omega,rfl,rfl,by omega,by simp,zP.replicate (by omega) _,by simp [Hid,val],Blk.new _ _ _,(Below.refl _ _).alloc (uA) _⟩
 case round=>
  obtain ⟨k,b,O,hk,rfl,rfl,hb,r,J,K,y,z⟩:=hrel
  have hg:=y.lt
  by_cases m:k<j.length
  . have an:=(y.cell k).trans (xa (by omega))
    have am:=y.frozen k;obtain ⟨ak,u,rfl,ab,l,D⟩:=aa.at_ m;rw [yJ m] at l;injection l with l
    subst l;have ap:=(z.cell (p:=ak.add k) (by rw [zU];exact ab)).trans D;clear D;have S:j[k]<4294967296:=ac.get k m
    by_cases G:k<E.length
    rotate_left
    . go_wp2_with (go_at_call 123;refine (zur j[k] b S hb _).mono ?_;rintro e w' ⟨s,b',M,N,C,rfl,rfl⟩;have L:=ze C;clear C)
      go_roundw
      case rel=>exact zv1.step m r J K y z M N (by rw [zC m,Xn (by omega)];exact L) _ _ _ rfl (by go_num) rfl
      case measure=>simp [intOf];omega
    obtain ⟨Z,u,rfl,ai,l,D⟩:=af.at_ G
    rw [yJ G] at l;injection l with l
    subst l;have al:=(z.cell (p:=Z.add k) (by rw [zU];exact ai)).trans D;clear D;have X:E[k]<4294967296:=ae.get k G;go_wp2_with (go_at_call 123;refine (zdq j[k] E[k] b S X hb _).mono ?_;rintro e w' ⟨s,b',M,N,C,rfl,rfl⟩;have L:=ze C;clear C);go_roundw
    case rel=>exact zv1.step m r J K y z M N (by rw [zC m,zC G];exact L) _ _ _ rfl (by go_num) rfl
    case measure=>simp [intOf];omega
  obtain rfl:k=j.length:=by omega
  have T:=xV y;rw [r] at T
  have R:val 4294967296 O=val 4294967296 j - val 4294967296 E:=by
   have h:=K.o;have I:=ad.o;have ah:=Yx J;rw [<- r,List.take_length,r,List.take_length,uJ ag] at h;rw [r] at ah
   have:b=0:=by
    rcases uL 0 b with Y | Y
    . exfalso
      obtain rfl:b=1:=by omega
      omega
    . omega
   subst this
   omega
  have U:=ze R;clear R K;go_wp2_with (go_at_call 96;refine (Zv _ _ _ _ _ _ T J (uA) (by unfold maxLen;omega)).mono ?_;rintro e w' ⟨v,rfl,aj,rfl⟩);go_ret;refine ⟨v,rfl,?_,z⟩;rw [<- U.o];exact aj
def zwv (da db:List Nat) (w:World) (iv:Value) (wr:World):Prop:=
 ∃ (k:Nat) (O:List Nat),k<=da.length/\iv= .int .i64 k/\O.length=da.length+db.length/\zP 4294967296 O/\
  Hid (val 4294967296 O=val 4294967296 (da.take k)*val 4294967296 db)/\Hid (∀ p,k+db.length<=p->O.getD p 0=0)/\Blk wr w.heap.size 158 (ym O)/\Below w.heap.size w wr
def zwr (da db:List Nat) (k x:Nat) (w:World) (cv jv:Value) (wr:World):Prop:=
 ∃ (j c:Nat) (O:List Nat),j<=db.length/\jv= .int .i64 j/\cv= .int .u64 c/\c<4294967296/\O.length=da.length+db.length/\zP 4294967296 O/\
  Hid (val 4294967296 O+c*(4294967296 ^ k*4294967296 ^ j)=val 4294967296 (da.take k)*val 4294967296 db+x*4294967296 ^ k*val 4294967296 (db.take j))/\
  Hid (∀ p,k+db.length<=p->O.getD p 0=0)/\Blk wr w.heap.size 158 (ym O)/\Below w.heap.size w wr
theorem getD_set_ne (O:List Nat) (i p d:Nat) (h:i≠p):(O.set i d).getD p 0=O.getD p 0:=by
 rw [List.getD_eq_getElem?_getD,List.getD_eq_getElem?_getD,List.getElem?_set_ne h]
theorem zwr.step {da db:List Nat} {w wr:World} {k x j c:Nat} {O:List Nat} (hk:k<da.length) (hj:j<db.length) (hc:c<4294967296) (hO:O.length=da.length+db.length) (hsO:zP 4294967296 O)
 (HV:Hid (val 4294967296 O+c*(4294967296 ^ k*4294967296 ^ j)=val 4294967296 (da.take k)*val 4294967296 db+x*4294967296 ^ k*val 4294967296 (db.take j)))
 (HZ:Hid (∀ p,k+db.length<=p->O.getD p 0=0)) (hblk:Blk wr w.heap.size 158 (ym O)) (hbl:Below w.heap.size w wr) (hx:x<4294967296) (hsb:zP 4294967296 db)
 (o:Nat) (ho:O[k+j]'(by omega)=o) (t:Nat) (ht:t=c+x*db[j]+o) (cv jv sv:Value) (hcv:cv= .int .u64 ((t / 4294967296:Nat):Int)) (hjv:jv= .int .i64 ((j+1:Nat):Int)) (hsv:sv= .int .u32 ((t % 4294967296:Nat):Int)):
 zwr da db k x w cv jv (wr.setCell ⟨w.heap.size,k+j,none⟩ sv):=by
 subst hcv hjv hsv ht
 have e:o<4294967296:=by rw [<- ho];exact hsO.get _ _
 have hb:=zng hc hx (hsb.get j hj) e
 have b:=zmr 4294967296 O (k+j) ((c+x*db[j]+o) % 4294967296) (by omega)
 rw [ho,Nat.pow_add] at b
 refine ⟨j+1,_,O.set (k+j) ((c+x*db[j]+o) % 4294967296),by omega,rfl,rfl,(Nat.div_lt_iff_lt_mul (by omega)).2 hb,by simpa using hO,hsO.set _ _ (Nat.mod_lt _ (by omega)),?_,?_,?_,hbl.setCell (uA) _⟩
 . rw [yQ _ _ _ hj]
   exact zql HV.o b
 . intro p l
   rw [getD_set_ne _ _ _ _ (by omega)];exact HZ.o p l
 . have:=hblk.set_ (k+j) (.int .u32 (((c+x*db[j]+o) % 4294967296:Nat):Int))
   rwa [yE] at this
theorem zwv.step {da db:List Nat} {w wr:World} {k c:Nat} {O:List Nat} (hk:k<da.length) (hc:c<4294967296) (hO:O.length=da.length+db.length) (hsO:zP 4294967296 O)
 (HV:Hid (val 4294967296 O+c*(4294967296 ^ k*4294967296 ^ db.length)=val 4294967296 (da.take k)*val 4294967296 db+da[k]*4294967296 ^ k*val 4294967296 (db.take db.length)))
 (HZ:Hid (∀ p,k+db.length<=p->O.getD p 0=0)) (hblk:Blk wr w.heap.size 158 (ym O)) (hbl:Below w.heap.size w wr)
 (iv sv:Value) (hiv:iv= .int .i64 ((k+1:Nat):Int)) (hsv:sv= .int .u32 (c:Int)):
 zwv da db w iv (wr.setCell ⟨w.heap.size,k+db.length,none⟩ sv):=by
 subst hiv hsv
 have e:=HZ.o (k+db.length) (uA)
 rw [zC (by omega)] at e
 have b:=zmr 4294967296 O (k+db.length) c (by omega)
 rw [e,Nat.mul_zero,Nat.add_zero,Nat.pow_add,uH _ c] at b
 refine ⟨k+1,O.set (k+db.length) c,by omega,rfl,by simpa using hO,hsO.set _ _ hc,?_,?_,?_,hbl.setCell (uA) _⟩
 . have h:=HV.o
   rw [List.take_length] at h
   show val _ _=_
   rw [b,h,yQ _ _ _ hk,Nat.add_mul,uH da[k]]
 . intro p j
   rw [getD_set_ne _ _ _ _ (by omega)];exact HZ.o p (by omega)
 . have:=hblk.set_ (k+db.length) (.int .u32 (c:Int))
   rwa [yE] at this
theorem zci (va vb:Value) (a b:Nat) (w:World) (ha:yt w va a) (hb:yt w vb b) (hla:len 4294967296 a<=67108864) (hlb:len 4294967296 b<=67108864):
 Calls prog 90 #[va,vb] w (Vo w (a*b)):=by
 obtain ⟨A,ca,m,rfl,h1,V,Y,K,rfl⟩:=ha
 obtain ⟨B,cb,l,rfl,k1,k2,ac,L,rfl⟩:=hb
 rw [<- K.length_eq (by omega)] at hla
 rw [<- L.length_eq (by omega)] at hlb
 have ab:=K.1
 have Q:=L.1
 clear K L V k2
 have ah:=fun w=>zcg .i64 (m.length+l.length) (by omega) w
 rw [show ((m.length+l.length:Nat):Int)=(m.length:Int)+l.length by omega] at ah
 go_in
 go_wp2
 go_loopw [19] (zwv m l w) (fun iv _=>m.length - (intOf iv).toNat)
 case atStart=>
  refine ⟨0,List.replicate (m.length+l.length) 0,by omega,rfl,by simp,zP.replicate (by omega) _,by rw [zfg,List.take_zero,Yr,Nat.zero_mul];exact rfl,?_,Blk.new _ _ _,(Below.refl _ _).alloc (uA) _⟩
  intro p _
  rw [List.getD_eq_getElem?_getD,List.getElem?_replicate]
  split<;>rfl
 case round=>
  obtain ⟨k,O,hk,rfl,G,C,D,E,r,z⟩:=hrel
  have Z:=r.lt
  by_cases F:k<m.length
  rotate_left
  . obtain rfl:k=m.length:=by omega
    have R:=xV r;rw [G] at R
    have M:val 4294967296 O=val 4294967296 m*val 4294967296 l:=by
     have h:=D.o
     rwa [List.take_length] at h
    have T:=ze M;clear M D E;go_wp2_with (go_at_call 96;refine (Zv _ _ _ _ _ _ R C (uA) (by unfold maxLen;omega)).mono ?_;rintro e w' ⟨v,rfl,ag,rfl⟩);go_ret;refine ⟨v,rfl,?_,z⟩;rw [<- T.o];exact ag
  obtain ⟨ai,u,rfl,aa,y,I⟩:=Y.at_ F
  rw [yJ F] at y;injection y with y
  subst y;have aj:=(z.cell (p:=ai.add k) (by rw [zU];exact aa)).trans I;clear I;have ae:m[k]<4294967296:=ab.get k F;go_wp2;obtain ⟨N,ak⟩:∃ N:World,N=wr:=⟨_,rfl⟩;subst ak
  go_loopw [8,26] (zwr m l k m[k] w) (fun _ jv _=>l.length - (intOf jv).toNat)
  case atStart=>
   exact ⟨0,0,O,by omega,rfl,rfl,by omega,G,C,by rw [List.take_zero,Yr,Nat.zero_mul,Nat.mul_zero];exact D,E,r,z⟩
  case round=>
   clear D E r z C aj;obtain ⟨j,c,O,hj,rfl,rfl,S,G,C,D,E,r,z⟩:=hrel;have Z:=r.lt
   by_cases J:j<l.length
   rotate_left
   . obtain rfl:j=l.length:=by omega
     have ad:=(r.cell (k+l.length)).trans (xa (by omega));have U:=r.frozen (k+l.length);go_wp2;go_roundw
     case rel=>exact zwv.step F S G C D E r z _ _ (by go_num) (by go_num)
     case measure=>simp [intOf];omega
   obtain ⟨X,u,rfl,af,y,I⟩:=ac.at_ J
   rw [yJ J] at y;injection y with y
   subst y;have al:=(z.cell (p:=X.add j) (by rw [zU];exact af)).trans I;clear I;have am:l[j]<4294967296:=Q.get j J;have ad:=(r.cell (k+j)).trans (xa (by omega));have U:=r.frozen (k+j);have ao:O[k+j]<4294967296:=C.get _ _;have ap:m[k]*l[j]<=18446744065119617025:=uC (Nat.mul_le_mul (show m[k]<=4294967295 by omega) (show l[j]<=4294967295 by omega)) (by omega);have aq :(m[k]:Int)*(l[j]:Int)<=18446744065119617025:=by rw [<- Int.natCast_mul];omega
   have an:(0:Int)<=(m[k]:Int)*(l[j]:Int):=Int.mul_nonneg (by omega) (by omega);go_wp2;go_roundw
   case rel=>exact zwr.step F J S G C D E r z ae Q O[k+j] rfl _ rfl _ _ _ (by go_num) (by go_num) (by go_num)
   case measure=>simp [intOf];omega
def CmpR (da db:List Nat) (w:World) (iv:Value) (wr:World):Prop:=
 ∃ k m:Nat,k<=da.length/\iv= .int .i64 ((k:Int) - 1)/\Hid (∀ p,k<=p->da.getD p 0=db.getD p 0)/\wr=w.drewN m
theorem zwg {da db:List Nat} (hl:da.length=db.length) (hsa:zP 4294967296 da) (hsb:zP 4294967296 db) (k:Nat) (hk:k<da.length) (h:∀ p,k+1<=p->da.getD p 0=db.getD p 0) (hne:da.getD k 0≠db.getD k 0):
 zZ (da.getD k 0) (db.getD k 0)=zZ (val 4294967296 da) (val 4294967296 db):=by
 have r:∀ j (e:j<da.length) (b:j<db.length),k<j->da[j]=db[j]:=by
  intro j e b l
  have:=h j (by omega)
  rwa [zC e,zC b] at this
 rw [zC hk,zC (by omega)] at hne |-
 rcases uL da[k] (db[k]'(by omega)) with m | m
 . have:=zg6 hl hsa k hk r m
   unfold zZ;rw [if_pos (by omega),if_pos (by omega)]
 . have u :db[k]'(by omega)<da[k]:=by omega
   have:=zg6 hl.symm hsb k (by omega) (fun j e b l=>(r j b e l).symm) u;unfold zZ;rw [if_neg (by omega),if_pos (by omega),if_neg (by omega),if_pos (by omega)]
theorem XZ (va vb:Value) (a b:Nat) (w:World) (ha:yt w va a) (hb:yt w vb b) (hla:len 4294967296 a<=67108864) (hlb:len 4294967296 b<=67108864):
 Calls prog 102 #[va,vb] w (RetD w (.int .i64 (zZ a b))):=by
 obtain ⟨A,ca,j,rfl,Q,M,U,D,rfl⟩:=ha
 obtain ⟨B,cb,l,rfl,S,k2,R,F,rfl⟩:=hb
 rw [<- D.length_eq (by omega)] at hla
 rw [<- F.length_eq (by omega)] at hlb
 have V:=D.1
 have Y:=F.1
 by_cases hl:j.length=l.length
 rotate_left
 . have L:(zZ (j.length:Int) (l.length:Int) != 0)=true/\zZ (j.length:Int) (l.length:Int)=zZ (val 4294967296 j) (val 4294967296 l):=by
    unfold zZ
    rcases uL j.length l.length with h | h
    . have:=xI.lt_of_length (by omega) D.1 F h
      rw [if_pos (by omega),if_pos (by omega)];exact ⟨rfl,rfl⟩
    . have:=xI.lt_of_length (by omega) F.1 D (by omega)
      rw [if_neg (by omega),if_pos (by omega),if_neg (by omega),if_pos (by omega)];exact ⟨rfl,rfl⟩
   obtain ⟨ad,C⟩:=L;have HC:=ze C;clear C
   go_in
   go_wp2_with (go_at_call 121;refine (zkq _ _ _).mono ?_;rintro e w' ⟨rfl,rfl⟩);go_ret;exact ⟨by rw [<- HC.o];rfl,0,rfl⟩
 have L:zZ (j.length:Int) (l.length:Int)=0:=by unfold zZ;rw [if_neg (by omega),if_neg (by omega)]
 have aa:zZ (val 4294967296 j) (val 4294967296 l)=zZ (val 4294967296 j) (val 4294967296 l):=rfl;have E:=ze hl;rw [<- hl] at R S L |-;clear hl aa
 go_in
 go_wp2_with (go_at_call 121;refine (zkq _ _ _).mono ?_;rintro e w' ⟨rfl,rfl⟩)
 go_loopw [6] (CmpR j l w) (fun iv _=>(intOf iv+1).toNat)
 case atStart=>
  refine ⟨j.length,0,uA,rfl,?_,rfl⟩;intro p G;rw [Xn G,Xn (by have:=E.o;omega)]
 case round=>
  obtain ⟨k,m,hk,rfl,J,rfl⟩:=hrel
  by_cases ag:0<k
  rotate_left
  . obtain rfl:k=0:=by omega
    have O:zZ (val 4294967296 j) (val 4294967296 l)=0:=by
     have:j=l:=by
      apply List.ext_getElem E.o
      intro i Q M;have:=J.o i (by omega)
      rwa [zC Q,zC M] at this
     rw [this];unfold zZ;rw [if_neg (by omega),if_neg (by omega)]
    have T:=ze O;clear O;go_wp2;go_ret;exact ⟨by rw [T.o];rfl,m,rfl⟩
  have N:k - 1<l.length:=by have:=E.o;omega
  have I:k - 1<j.length:=by omega
  obtain ⟨ai,u,rfl,af,r,aj⟩:=U.at_ (k:=k - 1) I;rw [yJ I] at r;injection r with r
  subst r;obtain ⟨ae,u,rfl,ah,r,ac⟩:=R.at_ (k:=k - 1) (by omega);rw [yJ N] at r;injection r with r
  subst r;have z:j.getD (k - 1) 0=j[k - 1]:=zC I;have eb:l.getD (k - 1) 0=l[k - 1]:=zC N;have hi:((k:Int) - 1).toNat=k - 1:=by omega
  by_cases y:j.getD (k - 1) 0=l.getD (k - 1) 0
  rotate_left
  . have K:=ze y
    have g0:((j[k - 1]:Int) != (l[k - 1]:Int))=true:=by
     rw [<- z, <- eb,bne_iff_ne];omega
    have Z:=ze z;have X:=ze eb;clear y z eb;go_wp2
    go_quiet (fail)
    go_wp2
    go_quiet ((go_at_call 122;first | exact zrx (zke _ _ _) | exact zu2 (zke _ _ _)))
    go_wp2;go_ret;refine ⟨?_,_,by rw [World.drewN_drewN,World.drewN_drewN]⟩;have C:=zwg E.o V Y (k - 1) (by omega) (fun p G=>J.o p (by omega)) K.o;rw [Z.o,X.o] at C;exact congrArg Ending.returned (congrArg (Value.int IntKind.i64) C)
  have K:=ze y
  have g0:((j[k - 1]:Int) != (l[k - 1]:Int))=false:=by rw [<- z, <- eb,y,bne_self_eq_false]
  clear y z eb;go_wp2
  go_quiet (fail)
  go_wp2;go_roundw
  case rel=>
   refine ⟨k - 1,m+nq,by omega,congrArg _ (by omega),?_,rfl⟩;intro p G
   by_cases ab:p=k - 1
   . subst ab;exact K.o
   exact J.o p (by omega)
  case measure=>simp [intOf];omega
def zwt (da:List Nat) (d:Nat) (w:World) (rv iv:Value) (wr:World):Prop:=
 ∃ (k r:Nat) (O:List Nat),k<=da.length/\iv= .int .i64 ((k:Int) - 1)/\rv= .int .u64 r/\r<d/\O.length=da.length/\zP 4294967296 O/\
  Hid (val 4294967296 (da.drop k)=val 4294967296 (O.drop k)*d+r)/\Blk wr w.heap.size 158 (ym O)/\Below w.heap.size w wr
theorem zwt.step {da:List Nat} {d:Nat} {w wr:World} {k r:Nat} {O:List Nat} (hk:k<da.length) (hr:r<d) (hO:O.length=da.length) (hsO:zP 4294967296 O) (hsa:zP 4294967296 da)
 (HV:Hid (val 4294967296 (da.drop (k+1))=val 4294967296 (O.drop (k+1))*d+r)) (hblk:Blk wr w.heap.size 158 (ym O)) (hbl:Below w.heap.size w wr)
 (rv iv sv:Value) (hrv:rv= .int .u64 (((r*4294967296+da[k]) % d:Nat):Int)) (hiv:iv= .int .i64 ((k:Int) - 1)) (hsv:sv= .int .u32 (((r*4294967296+da[k]) / d:Nat):Int)):
 zwt da d w rv iv (wr.setCell ⟨w.heap.size,k,none⟩ sv):=by
 subst hrv hiv hsv
 obtain ⟨b,e⟩:=zka (by omega) hr (hsa.get k hk)
 refine ⟨k,_,O.set k ((r*4294967296+da[k]) / d),by omega,rfl,rfl,e,by simpa using hO,hsO.set _ _ b,?_,?_,hbl.setCell (uA) _⟩
 . show val _ _=_
   rw [zax _ _ _ _ (by omega),YB _ _ _ hk];exact zu1 HV.o
 have:=hblk.set_ k (.int .u32 (((r*4294967296+da[k]) / d:Nat):Int))
 rwa [yE] at this
def zsh (w:World) (q:Nat) (rv:Value) (e:Ending) (w' :World):Prop:=∃ v,e= .returned (.tuple #[v,rv])/\yt w' v q/\Below w.heap.size w w'
theorem zj8 (r x:Nat) (hr:r<4294967296) (hx:x<4294967296):bits .or .u64 ((r:Int)*4294967296) (x:Int)=((r*4294967296+x:Nat):Int):=by
 have:=u64_or_nat (r*4294967296) x (by omega) (by omega)
 rw [Int.natCast_mul] at this
 have j:(2:Nat) ^ 32=4294967296:=by decide
 have e:=zh6 (n:=32) (a:=r) (b:=x) (by omega)
 rw [j,uH] at e
 rw [e] at this
 exact this
def zu0 (w:World) (q:Nat) (rv:Value) (e:Ending) (w' :World):Prop:=
 ∃ k c,e= .returned (.tuple #[.slice (some ⟨w.heap.size,0,none⟩) k c,rv])/\yt w' (.slice (some ⟨w.heap.size,0,none⟩) k c) q/\w.heap.size<w'.heap.size/\Below w.heap.size w w'
theorem za3 (va:Value) (a d:Nat) (w:World) (ha:yt w va a) (hla:len 4294967296 a<=67108864) (hd0:0<d) (hd:d<4294967296):
 Calls prog 116 #[va,.int .u32 d] w (zu0 w (a / d) (.int .u32 ((a % d:Nat):Int))):=by
 obtain ⟨A,ca,b,rfl,h1,T,U,C,rfl⟩:=ha
 rw [<- C.length_eq (by omega)] at hla
 have J:=C.1
 clear C T
 have ah:=fun w=>zcg .i64 b.length (by omega) w
 go_in
 go_wp2
 go_loopw [7,8] (zwt b d w) (fun _ iv _=>(intOf iv+1).toNat)
 case atStart=>
  refine ⟨b.length,0,List.replicate b.length 0,uA,rfl,rfl,hd0,by simp,zP.replicate (by omega) _,?_,Blk.new _ _ _,(Below.refl _ _).alloc (uA) _⟩
  show val _ _=_
  rw [List.drop_length,List.drop_of_length_le (by simp),Yr,Nat.zero_mul]
 case round=>
  obtain ⟨k,r,O,hk,rfl,rfl,y,L,S,E,l,B⟩:=hrel
  have V:=l.lt
  by_cases af:0<k
  rotate_left
  . obtain rfl:k=0:=by omega
    have D:=xV l;rw [L] at D
    have G:val 4294967296 O=val 4294967296 b / d/\r=val 4294967296 b % d:=by
     have h:=E.o;rw [List.drop_zero,List.drop_zero] at h;rw [h,uH];exact ⟨by rw [Nat.mul_add_div hd0,Nat.div_eq_of_lt y,Nat.add_zero],by rw [Nat.mul_add_mod,Nat.mod_eq_of_lt y]⟩
    have F:=ze G;clear G E;go_wp2_with (go_at_call 96;refine (ze3 _ _ _ _ _ _ D S (uA) (by unfold maxLen;omega)).mono ?_;rintro e w' ⟨k,ae,rfl,I,K,rfl⟩;have X:=ze I;have aa:=ze K;clear I K);go_ret2;refine ⟨k,b.length,by rw [<- F.o.2];rfl,?_,V,B⟩;rw [<- F.o.1, <- aa.o];have R:(O.take k).length=k:=by rw [List.length_take];omega
    refine ⟨_,b.length,O.take k,by rw [R],by omega,by unfold maxLen;omega,?_,X.o,rfl⟩;have:=D.head (k:=k) (by omega);rw [R, <- zcf]
    simpa using this
  obtain ⟨k,rfl⟩:∃ j,k=j+1:=⟨k - 1,by omega⟩
  have m:k<b.length:=by omega
  have ab:k<O.length:=by omega
  have ag:=(l.cell k).trans (xa ab);have ad:=l.frozen k;obtain ⟨ac,u,rfl,Y,z,Q⟩:=U.at_ m;rw [yJ m] at z;injection z with z
  subst z;have ai:=(B.cell (p:=ac.add k) (by rw [zU];exact Y)).trans Q;clear Q;have M:b[k]<4294967296:=J.get k m;have aj:=zj8 r b[k] (by omega) M;have e1:(((k+1:Nat):Int) - 1)=(k:Int):=by omega
  rw [e1];go_wp2;have N:(r:Int)*4294967296+(b[k]:Int)=((r*4294967296+b[k]:Nat):Int):=by omega
  have Z:=(zka (β:=4294967296) (x:=b[k]) hd0 y M).1;go_roundw
  case rel=>exact zwt.step m y L S J E l B _ _ _ (by rw [N, <- Int.natCast_emod]) rfl (by rw [N, <- Int.natCast_ediv,show (4294967296:Int)=((4294967296:Nat):Int) by rfl, <- Int.natCast_emod,Nat.mod_eq_of_lt Z])
  case measure=>simp [intOf]<;>omega
theorem zjo (va:Value) (a d:Nat) (w:World) (ha:yt w va a) (hla:len 4294967296 a<=67108864) (hd0:0<d) (hd:d<4294967296):
 Calls prog 116 #[va,.int .u32 d] w (zsh w (a / d) (.int .u32 ((a % d:Nat):Int))):=by
 refine (za3 va a d w ha hla hd0 hd).mono ?_
 rintro e w' ⟨k,c,rfl,b,_,j⟩
 exact ⟨_,rfl,b,j⟩
def UpR (da:List Nat) (n:Nat) (w:World) (iv:Value) (wr:World):Prop:=
 ∃ (k:Nat) (O:List Nat),k<=da.length/\iv= .int .i64 k/\O.length=da.length+1/\zP 4294967296 O/\O.getD k 0<2 ^ n/\
  Hid (val 4294967296 (O.take k)+4294967296 ^ k*O.getD k 0=val 4294967296 (da.take k)*2 ^ n)/\Blk wr w.heap.size 158 (ym O)/\Below w.heap.size w wr
theorem yR {n:Nat} (hn:n<32):2 ^ n*2 ^ (32 - n)=4294967296:=by
 rw [<- Nat.pow_add,show n+(32 - n)=32 by omega]
theorem zvo {n o x:Nat} (hn:n<32) (ho:o<2 ^ n):o ||| (x*2 ^ n % 4294967296)=o+x*2 ^ n % 4294967296:=by
 have e:x*2 ^ n % 4294967296=2 ^ n*(x % 2 ^ (32 - n)):=by
  rw [<- yR hn];exact zi7 (Nat.two_pow_pos n)
 rw [e,VZ ho]
theorem zpb {n o x:Nat} (hn:n<32) (ho:o<2 ^ n):o+x*2 ^ n % 4294967296<4294967296:=by
 have e:x*2 ^ n % 4294967296=2 ^ n*(x % 2 ^ (32 - n)):=by
  rw [<- yR hn];exact zi7 (Nat.two_pow_pos n)
 have b:x % 2 ^ (32 - n)<2 ^ (32 - n):=Nat.mod_lt _ (Nat.two_pow_pos _)
 have j:2 ^ n*(x % 2 ^ (32 - n)+1)<=2 ^ n*2 ^ (32 - n):=Nat.mul_le_mul_left _ b
 rw [yR hn,Nat.mul_add,Nat.mul_one] at j
 omega
theorem zo1 {n x:Nat} (hn:n<32) (hx:x<4294967296):x*2 ^ n / 4294967296<2 ^ n:=by
 apply (Nat.div_lt_iff_lt_mul (by omega)).2
 rw [uH]
 exact Nat.mul_lt_mul_of_pos_left hx (Nat.two_pow_pos n)
theorem VS {n:Nat} (hn:n<32):2 ^ n<=2147483648:=by
 have:2 ^ n<=2 ^ 31:=Nat.pow_le_pow_right (by omega) (by omega)
 exact this
theorem UpR.step {da:List Nat} {n:Nat} {w wr:World} {k:Nat} {O:List Nat} (hk:k<da.length) (hn:n<32) (hO:O.length=da.length+1) (hsO:zP 4294967296 O) (hsa:zP 4294967296 da) (hlow:O.getD k 0<2 ^ n)
 (HV:Hid (val 4294967296 (O.take k)+4294967296 ^ k*O.getD k 0=val 4294967296 (da.take k)*2 ^ n)) (hblk:Blk wr w.heap.size 158 (ym O)) (hbl:Below w.heap.size w wr)
 (iv s1 s2:Value) (hiv:iv= .int .i64 ((k+1:Nat):Int)) (hs1:s1= .int .u32 ((O.getD k 0+da[k]*2 ^ n % 4294967296:Nat):Int)) (hs2:s2= .int .u32 ((da[k]*2 ^ n / 4294967296:Nat):Int)):
 UpR da n w iv ((wr.setCell ⟨w.heap.size,k,none⟩ s1).setCell ⟨w.heap.size,k+1,none⟩ s2):=by
 subst hiv hs1 hs2
 have l:=hsa.get k hk
 have j:=zo1 hn l
 have m:=VS hn
 have e:((O.set k (O.getD k 0+da[k]*2 ^ n % 4294967296)).set (k+1) (da[k]*2 ^ n / 4294967296)).length=da.length+1:=by simpa using hO
 have b:((O.set k (O.getD k 0+da[k]*2 ^ n % 4294967296)).set (k+1) (da[k]*2 ^ n / 4294967296)).getD (k+1) 0=da[k]*2 ^ n / 4294967296:=by
  rw [zC (by omega),List.getElem_set_self]
 refine ⟨k+1,(O.set k (O.getD k 0+da[k]*2 ^ n % 4294967296)).set (k+1) (da[k]*2 ^ n / 4294967296),by omega,rfl,e,(hsO.set _ _ (zpb hn hlow)).set _ _ (by omega),by rw [b];exact j,?_,?_,(hbl.setCell (uA) _).setCell (uA) _⟩
 . show _+_=_
   rw [b,List.take_set_of_le (uA),xN _ _ _ (by omega),YE,List.length_take,Nat.min_eq_left (by omega),yQ _ _ _ hk];exact zu3 HV.o
 have:=(hblk.set_ k (.int .u32 ((O.getD k 0+da[k]*2 ^ n % 4294967296:Nat):Int)))
 rw [yE] at this;have:=this.set_ (k+1) (.int .u32 ((da[k]*2 ^ n / 4294967296:Nat):Int))
 rwa [yE] at this
def zjy (w:World) (n a:Nat) (e:Ending) (w' :World):Prop:=
 ∃ O:List Nat,e= .returned (.slice (some ⟨w.heap.size,0,none⟩) n n)/\O.length=n/\zP 4294967296 O/\val 4294967296 O=a/\Blk w' w.heap.size 158 (ym O)/\Below w.heap.size w w'
theorem zd0 (va:Value) (a n:Nat) (w:World) (ha:yt w va a) (hla:len 4294967296 a<=67108864) (hn:n<32):
 Calls prog 133 #[va,.int .u64 n] w (zjy w (len 4294967296 a+1) (a*2 ^ n)):=by
 obtain ⟨A,Z,b,rfl,Y,I,K,B,rfl⟩:=ha
 rw [<- B.length_eq (by omega)] at hla |-
 have D:=B.1
 clear B I
 have Q:=fun w=>zcg .i64 (b.length+1) (by omega) w
 rw [show ((b.length+1:Nat):Int)=(b.length:Int)+1 by omega] at Q
 go_in
 go_wp2
 go_loopw [14] (UpR b n w) (fun iv _=>b.length - (intOf iv).toNat)
 case atStart=>
  refine ⟨0,List.replicate (b.length+1) 0,by omega,rfl,by simp,zP.replicate (by omega) _,?_,?_,Blk.new _ _ _,(Below.refl _ _).alloc (uA) _⟩
  . rw [zC (by simp),List.getElem_replicate];exact Nat.two_pow_pos n
  show _+_=_
  rw [zC (by simp),List.getElem_replicate,List.take_zero,List.take_zero,Yr,Nat.mul_zero,Nat.zero_mul]
 case round=>
  obtain ⟨k,O,X,rfl,E,C,y,G,e,z⟩:=hrel
  have U:=e.lt
  by_cases l:k<b.length
  rotate_left
  . obtain rfl:k=b.length:=by omega
    go_wp2;go_ret;refine ⟨O,rfl,E,C,?_,e,z⟩;have h:=G.o;rw [List.take_length, <- zM,uJ (by omega)] at h;exact h
  have m:k<O.length:=by omega
  have J:k+1<O.length:=by omega
  have ab:=(e.cell k).trans (xa m);have S:=e.frozen k;obtain ⟨R,u,rfl,L,r,F⟩:=K.at_ l;rw [yJ l] at r;injection r with r
  subst r;have ad:=(z.cell (p:=R.add k) (by rw [zU];exact L)).trans F;clear F;have M:b[k]<4294967296:=D.get k l;have V:=(e.cell (k+1)).trans (xa J);have T:=e.frozen (k+1);rw [zC m] at y;have N:=VS hn;have j:((2:Int) ^ n)=((2 ^ n:Nat):Int):=by rw [Int.natCast_pow];rfl
  have ac:b[k]*2 ^ n<=9223372034707292160:=uC (Nat.mul_le_mul (show b[k]<=4294967295 by omega) N) (by omega)
  have hw:IntKind.u64.wrap ((b[k]:Int)*2 ^ n)=((b[k]*2 ^ n:Nat):Int):=by
   rw [j, <- Int.natCast_mul,IntKind.wrap_u64];omega
  have ae:bits .or .u32 (O[k]:Int) ((b[k]:Int)*2 ^ n % 4294967296)=((O[k]+b[k]*2 ^ n % 4294967296:Nat):Int):=by
   rw [j, <- Int.natCast_mul,show (4294967296:Int)=((4294967296:Nat):Int) by rfl, <- Int.natCast_emod,u32_or_nat _ _ (C.get _ _) (Nat.mod_lt _ (by omega)),zvo hn y]
  clear j;go_wp2;have j:((2:Int) ^ n)=((2 ^ n:Nat):Int):=by rw [Int.natCast_pow];rfl
  have aa:=zo1 hn M;go_roundw
  case rel=>
   refine UpR.step l hn E C D (by rw [zC m];exact y) G e z _ _ _ (by go_num) ?_ ?_
   . rw [zC m,j]
     exact congrArg _ (by omega)
   rw [j, <- Int.natCast_mul]
   exact congrArg _ (by omega)
  case measure=>simp [intOf];omega
def zgq (da:List Nat) (n:Nat) (w:World) (iv:Value) (wr:World):Prop:=
 ∃ (k:Nat) (O:List Nat),k<=da.length/\iv= .int .i64 k/\O.length=da.length/\zP 4294967296 O/\Hid (∀ j,k<=j->O.getD j 0=0)/\Hid (∀ j,k=j+1->O.getD j 0=da.getD j 0 / 2 ^ n)/\
  Hid (val 4294967296 (O.take k)=val 4294967296 (da.take k) / 2 ^ n)/\Blk wr w.heap.size 158 (ym O)/\Below w.heap.size w wr
theorem XP {n x:Nat} (hn:n<32) (hx:x<4294967296):x / 2 ^ n<2 ^ (32 - n):=by
 apply (Nat.div_lt_iff_lt_mul (Nat.two_pow_pos n)).2
 rw [uH,yR hn];exact hx
theorem ztd {n o x:Nat} (hn:n<32) (ho:o<2 ^ (32 - n)):o ||| (x*2 ^ (32 - n) % 4294967296)=o+2 ^ (32 - n)*(x % 2 ^ n):=by
 have e:x*2 ^ (32 - n) % 4294967296=2 ^ (32 - n)*(x % 2 ^ n):=by
  rw [<- yR hn,uH (2 ^ n)];exact zi7 (Nat.two_pow_pos _)
 rw [e,VZ ho]
theorem zlt {n o x:Nat} (hn:n<32) (ho:o<2 ^ (32 - n)):o+2 ^ (32 - n)*(x % 2 ^ n)<4294967296:=by
 have b:x % 2 ^ n<2 ^ n:=Nat.mod_lt _ (Nat.two_pow_pos _)
 have e:2 ^ (32 - n)*(x % 2 ^ n+1)<=2 ^ (32 - n)*2 ^ n:=Nat.mul_le_mul_left _ b
 rw [uH _ (2 ^ n),yR hn,Nat.mul_add,Nat.mul_one] at e
 omega
theorem zr8 {b O:List Nat} {n k:Nat} (hn:n<32) (hk:k+1<b.length) (hO:O.length=b.length)
 (hp:O.getD k 0=b.getD k 0 / 2 ^ n) (HV:val 4294967296 (O.take (k+1))=val 4294967296 (b.take (k+1)) / 2 ^ n):
 val 4294967296 (((O.set (k+1) (b[k+1] / 2 ^ n)).set k (O.getD k 0+2 ^ (32 - n)*(b[k+1] % 2 ^ n))).take (k+2))=val 4294967296 (b.take (k+2)) / 2 ^ n:=by
 have hl:((O.set (k+1) (b[k+1] / 2 ^ n)).set k (O.getD k 0+2 ^ (32 - n)*(b[k+1] % 2 ^ n))).length=b.length:=by simpa using hO
 have l:((O.set (k+1) (b[k+1] / 2 ^ n)).set k (O.getD k 0+2 ^ (32 - n)*(b[k+1] % 2 ^ n))).getD (k+1) 0=b[k+1] / 2 ^ n:=by
  rw [getD_set_ne _ _ _ _ (by omega),zC (by simp;omega),List.getElem_set_self]
 have g0:((O.set (k+1) (b[k+1] / 2 ^ n)).set k (O.getD k 0+2 ^ (32 - n)*(b[k+1] % 2 ^ n))).getD k 0=O.getD k 0+2 ^ (32 - n)*(b[k+1] % 2 ^ n):=by
  rw [zC (by simp;omega),List.getElem_set_self]
 rw [zM _ _ (k+1),l,zM _ _ k,g0,List.take_set_of_le (by omega),List.take_set_of_le (by omega),yQ _ _ (k+1) hk]
 rw [zM] at HV
 have e:=zob (s:=2 ^ n) (t:=2 ^ (32 - n)) (i:=k) (A:=val 4294967296 (b.take (k+1))) (x:=b[k+1]) (Nat.two_pow_pos _) (Nat.two_pow_pos _)
 rw [yR hn] at e
 have j:=zmb (s:=2 ^ n) (t:=2 ^ (32 - n)) (x:=b[k+1]) (Nat.two_pow_pos _)
 rw [yR hn] at j
 rw [e, <- HV,j,Nat.pow_succ]
 generalize 2 ^ (32 - n)*(b[k+1] % 2 ^ n)=z
 generalize b[k+1] / 2 ^ n=y
 generalize 4294967296 ^ k=P
 generalize val 4294967296 (List.take k O)=V
 generalize O.getD k 0=o
 rw [Nat.mul_add,Nat.mul_add,Nat.mul_assoc]
 omega
theorem zos {da O:List Nat} {k:Nat} (hk:k<da.length) (hO:O.length=da.length) (HV:val 4294967296 (O.take k)=val 4294967296 (da.take k) / 2 ^ 0):
 val 4294967296 ((O.set k (da[k] / 2 ^ 0)).take (k+1))=val 4294967296 (da.take (k+1)) / 2 ^ 0:=by
 rw [xN _ _ _ (by omega),YE,List.length_take,Nat.min_eq_left (by omega),HV,yQ _ _ _ hk]
 simp only [Nat.pow_zero,Nat.div_one]
theorem zoh {da O:List Nat} {n:Nat} (hk:0<da.length) (hO:O.length=da.length):val 4294967296 ((O.set 0 (da[0] / 2 ^ n)).take (0+1))=val 4294967296 (da.take (0+1)) / 2 ^ n:=by
 rw [xN _ _ _ (by omega),yQ _ _ _ hk]
 simp [val]
theorem zgq.mk0 {da:List Nat} {n:Nat} {w wr:World} {k:Nat} {O:List Nat} (hk:k<da.length) (hn:n<32) (hO:O.length=da.length) (hsO:zP 4294967296 O) (hsa:zP 4294967296 da)
 (HZ:Hid (∀ j,k<=j->O.getD j 0=0)) (hv:val 4294967296 ((O.set k (da[k] / 2 ^ n)).take (k+1))=val 4294967296 (da.take (k+1)) / 2 ^ n) (hblk:Blk wr w.heap.size 158 (ym O)) (hbl:Below w.heap.size w wr)
 (iv s1:Value) (hiv:iv= .int .i64 ((k+1:Nat):Int)) (hs1:s1= .int .u32 ((da[k] / 2 ^ n:Nat):Int)):zgq da n w iv (wr.setCell ⟨w.heap.size,k,none⟩ s1):=by
 subst hiv hs1
 have e:=hsa.get k hk
 have l:da[k] / 2 ^ n<=da[k]:=Nat.div_le_self _ _
 refine ⟨k+1,O.set k (da[k] / 2 ^ n),by omega,rfl,by simpa using hO,hsO.set _ _ (by omega),?_,?_,hv,?_,hbl.setCell (uA) _⟩
 . intro j b
   rw [getD_set_ne _ _ _ _ (by omega)];exact HZ.o j (by omega)
 . intro j b
   obtain rfl:k=j:=by omega
   rw [zC (by simp;omega),List.getElem_set_self,zC hk]
 . have:=hblk.set_ k (.int .u32 ((da[k] / 2 ^ n:Nat):Int))
   rwa [yE] at this
theorem zgq.mk1 {da:List Nat} {n:Nat} {w wr:World} {k:Nat} {O:List Nat} (hk:k+1<da.length) (hn:n<32) (hO:O.length=da.length) (hsO:zP 4294967296 O) (hsa:zP 4294967296 da)
 (HZ:Hid (∀ j,k+1<=j->O.getD j 0=0)) (HP:Hid (∀ j,k+1=j+1->O.getD j 0=da.getD j 0 / 2 ^ n)) (HV:Hid (val 4294967296 (O.take (k+1))=val 4294967296 (da.take (k+1)) / 2 ^ n))
 (hblk:Blk wr w.heap.size 158 (ym O)) (hbl:Below w.heap.size w wr)
 (iv s1 s2:Value) (hiv:iv= .int .i64 ((k+1+1:Nat):Int)) (hs1:s1= .int .u32 ((da[k+1] / 2 ^ n:Nat):Int)) (hs2:s2= .int .u32 ((O.getD k 0+2 ^ (32 - n)*(da[k+1] % 2 ^ n):Nat):Int)):
 zgq da n w iv ((wr.setCell ⟨w.heap.size,k+1,none⟩ s1).setCell ⟨w.heap.size,k,none⟩ s2):=by
 subst hiv hs1 hs2
 have l:=hsa.get (k+1) hk
 have m:da[k+1] / 2 ^ n<=da[k+1]:=Nat.div_le_self _ _
 have b:=HP.o k rfl
 have ho:O.getD k 0<2 ^ (32 - n):=by rw [b];exact XP hn (hsa.getD (by omega) k)
 refine ⟨k+1+1,(O.set (k+1) (da[k+1] / 2 ^ n)).set k (O.getD k 0+2 ^ (32 - n)*(da[k+1] % 2 ^ n)),by omega,rfl,by simpa using hO,(hsO.set _ _ (by omega)).set _ _ (zlt hn ho),?_,?_,zr8 hn hk hO b HV.o,?_,(hbl.setCell (uA) _).setCell (uA) _⟩
 . intro j e
   rw [getD_set_ne _ _ _ _ (by omega),getD_set_ne _ _ _ _ (by omega)];exact HZ.o j (by omega)
 . intro j e
   obtain rfl:k+1=j:=by omega
   rw [getD_set_ne _ _ _ _ (by omega),zC (by simp;omega),List.getElem_set_self,zC hk]
 . have:=hblk.set_ (k+1) (.int .u32 ((da[k+1] / 2 ^ n:Nat):Int))
   rw [yE] at this;have:=this.set_ k (.int .u32 ((O.getD k 0+2 ^ (32 - n)*(da[k+1] % 2 ^ n):Nat):Int))
   rwa [yE] at this
theorem zqw (A:Option Addr) (la ca n:Nat) (da:List Nat) (w:World) (hra:ys w w.heap.size 1 A la (Xc da)) (hsa:zP 4294967296 da) (hla:la<=67108865) (hn:n<32):
 Calls prog 135 #[.slice A la ca,.int .u64 n] w (Vo w (val 4294967296 da / 2 ^ n)):=by
 obtain rfl:da.length=la:=by have:=hra.1;rw [vk] at this;omega
 have ad:=fun w=>zcg .i64 da.length (by omega) w
 go_in
 go_wp2
 go_loopw [13] (zgq da n w) (fun iv _=>da.length - (intOf iv).toNat)
 case atStart=>
  refine ⟨0,List.replicate da.length 0,by omega,rfl,by simp,zP.replicate (by omega) _,?_,?_,?_,Blk.new _ _ _,(Below.refl _ _).alloc (uA) _⟩
  . intro j _
    rw [List.getD_eq_getElem?_getD,List.getElem?_replicate]
    split<;>rfl
  . intro j hj;omega
  . show _=_
    rw [List.take_zero,List.take_zero,Yr,Nat.zero_div]
 case round=>
  obtain ⟨k,O,hk,rfl,m,B,z,E,D,b,y⟩:=hrel
  have hg:=b.lt
  by_cases l:k<da.length
  rotate_left
  . obtain rfl:k=da.length:=by omega
    have L:=xV b;rw [m] at L
    have F:val 4294967296 O=val 4294967296 da / 2 ^ n:=by
     have h:=D.o
     rwa [List.take_length,uJ (by omega)] at h
    have M:=ze F;clear F D z E;go_wp2_with (go_at_call 96;refine (Zv _ _ _ _ _ _ L B (uA) (by unfold maxLen;omega)).mono ?_;rintro e w' ⟨v,rfl,V,rfl⟩);go_ret;refine ⟨v,rfl,?_,y⟩;rw [<- M.o];exact V
  have K:k<O.length:=by omega
  have J:O[k]=0:=by rw [<- zC K];exact z.o k (uA)
  have G:=(b.cell k).trans (xa K);rw [J] at G;have Z:=b.frozen k;obtain ⟨X,u,rfl,Q,C,I⟩:=hra.at_ l;rw [yJ l] at C;injection C with C
  subst C;have ae:=(y.cell (p:=X.add k) (by rw [zU];exact Q)).trans I;clear I;have S:da[k]<4294967296:=hsa.get k l;have r:((2:Int) ^ n)=((2 ^ n:Nat):Int):=by rw [Int.natCast_pow];rfl
  have R:da[k] / 2 ^ n<4294967296:=by have:=Nat.div_le_self da[k] (2 ^ n);omega
  have Y:bits .or .u32 ((0:Nat):Int) ((da[k]:Int) / 2 ^ n)=((da[k] / 2 ^ n:Nat):Int):=by
   rw [r, <- Int.natCast_ediv,u32_or_nat _ _ (by omega) R,Nat.zero_or]
  rw [Int.natCast_zero] at Y G;clear r J
  by_cases ac:0<k
  rotate_left
  . go_wp2
    have r:((2:Int) ^ n)=((2 ^ n:Nat):Int):=by rw [Int.natCast_pow];rfl
    obtain rfl:k=0:=by omega
    go_roundw
    case rel=>exact zgq.mk0 l hn m B hsa z (zoh l m) b y _ _ (by go_num) (by rw [r, <- Int.natCast_ediv])
    case measure=>simp [intOf];omega
  have N:k - 1<O.length:=by omega
  have ab:=(b.cell (k - 1)).trans (xa N);have aa:=b.frozen (k - 1)
  by_cases af:0<n
  rotate_left
  . obtain rfl:n=0:=by omega
    go_wp2;go_roundw
    case rel=>exact zgq.mk0 l hn m B hsa z (zos l m D.o) b y _ _ (by go_num) (by
     have h:=u32_or_nat 0 da[k] (by omega) S;rw [Nat.zero_or,Int.natCast_zero] at h;rw [Nat.pow_zero,Nat.div_one]
     exact congrArg _ h)
    case measure=>simp [intOf];omega
  go_wp2
  have r:((2:Int) ^ n)=((2 ^ n:Nat):Int):=by rw [Int.natCast_pow];rfl
  have T:((2:Int) ^ (32 - n))=((2 ^ (32 - n):Nat):Int):=by rw [Int.natCast_pow];rfl
  obtain ⟨j,rfl⟩:∃ j,k=j+1:=⟨k - 1,by omega⟩;have ho:O.getD j 0<2 ^ (32 - n):=by rw [E.o j rfl];exact XP hn (hsa.getD (by omega) j)
  have U:O.getD j 0<4294967296:=B.getD (by omega) j;go_roundw
  case rel=>
   refine zgq.mk1 l hn m B hsa z E D b y _ _ _ (by go_num) (by rw [r, <- Int.natCast_ediv]) ?_;refine congrArg (Value.int IntKind.u32) ?_;have e:=ztd (x:=da[j+1]) hn ho;rw [T, <- Int.natCast_mul,show (4294967296:Int)=((4294967296:Nat):Int) by rfl, <- Int.natCast_emod, <- e, <- u32_or_nat _ _ U (Nat.mod_lt _ (by omega)),zC (show j<O.length by omega)]
   rfl
  case measure=>simp [intOf];omega
def Xe (w:World) (g:Nat) (pre win post:List Nat):Prop:=Blk w g 158 (ym (pre ++ win ++ post))
theorem Xe.cell {w:World} {g:Nat} {pre win post:List Nat} (h:Xe w g pre win post) {k j:Nat} (hk:pre.length=k) (hj:j<win.length):w.cell? ⟨g,k+j,none⟩=some (.int .u32 (win[j]:Int)):=by
 subst hk
 have hl:pre.length+j<(pre ++ win ++ post).length:=by simp;omega
 have:=(Blk.cell h (pre.length+j)).trans (xa hl)
 rw [this]
 congr 3
 rw [List.getElem_append_left (by simp;omega),List.getElem_append_right (by omega)]
 simp
theorem Xe.frozen {w:World} {g:Nat} {pre win post:List Nat} (h:Xe w g pre win post) (k:Nat):w.frozen? ⟨g,k,none⟩=false:=Blk.frozen h k
theorem Xe.set_ {w:World} {g:Nat} {pre win post:List Nat} (h:Xe w g pre win post) {k j:Nat} (hk:pre.length=k) (hj:j<win.length) (d:Nat):Xe (w.setCell ⟨g,k+j,none⟩ (.int .u32 (d:Int))) g pre (win.set j d) post:=by
 subst hk
 have:=Blk.set_ h (pre.length+j) (.int .u32 (d:Int))
 rw [yE] at this
 have e:(pre ++ win ++ post).set (pre.length+j) d=pre ++ win.set j d ++ post:=by
  rw [List.set_append_left _ _ (by simp;omega),List.set_append_right _ _ (by omega)]
  simp
 rw [e] at this
 exact this
theorem Xe.drewN {w:World} {g:Nat} {pre win post:List Nat} (h:Xe w g pre win post) (n:Nat):Xe (w.drewN n) g pre win post:=h
theorem zlq {a w:World} {row:Option Nat} (h:a.grownBy w row) (n:Nat):a.grownBy (w.drewN n) row:=⟨h.os,h.tape,h.output,h.size,h.block⟩
theorem zhh {a w:World} {row:Option Nat} (h:a.grownBy w row):a.grownBy w.drew row:=⟨h.os,h.tape,h.output,h.size,h.block⟩
theorem vO {a w:World} {g:Nat} (h:a.grownBy w (some g)) {p:Addr} (b:p.block=g\/a.heap.size<=p.block) (u:Value):a.grownBy (w.setCell p u) (some g):=
 ⟨h.os,h.tape,h.output,by simpa [World.setCell] using h.size,fun i hi hne=>(Below.heap_setCell w p u i (by
  rintro rfl
  rcases b with b | b
  . exact hne (by rw [b])
  . omega)).trans (h.block i hi hne)⟩
theorem VR {a w:World} {g:Nat} (h:a.grownBy w (some g)) {p:Addr} (hp:p.block<a.heap.size) (hne:p.block≠g):w.cell? p=a.cell? p:=
 World.cell?_of_block (h.block p.block hp (fun e=>hne (by injection e)))
def zsr (w:World) (top v1 q:Nat) (dv rv:Value) (wr:World):Prop:=
 ∃ d r n:Nat,dv= .int .u64 d/\rv= .int .u64 r/\Hid (top=d*v1+r)/\q<=d/\d<=4294967297/\r<4294967296/\wr=w.drewN n
def zs2 (w:World) (q:Nat) (dv:Value) (wr:World):Prop:=∃ d n:Nat,dv= .int .u64 d/\q<=d/\d<=q+1/\wr=w.drewN n
def zqk (w:World) (g d:Nat) (pre win post dv:List Nat) (cv bv iv:Value) (wr:World):Prop:=
 ∃ (i cy bo:Nat) (O:List Nat),i<=dv.length/\iv= .int .i64 i/\cv= .int .u64 cy/\bv= .int .u32 bo/\cy<4294967296/\bo<=1/\O.length=win.length/\zP 4294967296 O/\
  Hid (val 4294967296 (O.take i)+d*val 4294967296 (dv.take i)=val 4294967296 (win.take i)+(cy+bo)*4294967296 ^ i)/\Hid (∀ j,i<=j->O.getD j 0=win.getD j 0)/\
  Xe wr g pre O post/\w.grownBy wr (some g)
def zhk (w:World) (g:Nat) (pre win post dv:List Nat) (bv iv:Value) (wr:World):Prop:=
 ∃ (i c:Nat) (O:List Nat),i<=dv.length/\iv= .int .i64 i/\bv= .int .u32 c/\c<=1/\O.length=win.length/\zP 4294967296 O/\
  Hid (val 4294967296 (O.take i)+c*4294967296 ^ i=val 4294967296 (win.take i)+val 4294967296 (dv.take i))/\Hid (∀ j,i<=j->O.getD j 0=win.getD j 0)/\
  Xe wr g pre O post/\w.grownBy wr (some g)
theorem zhk.drew {w wr:World} {g:Nat} {pre win post dv:List Nat} {bv iv:Value} (h:zhk w g pre win post dv bv iv wr):zhk w g pre win post dv bv iv wr.drew:=by
 obtain ⟨i,c,O,u,m,B,r,z,b,y,j,e,l⟩:=h
 exact ⟨i,c,O,u,m,B,r,z,b,y,j,e,zhh l⟩
theorem Z9 {O:List Nat} {i s:Nat} (hi:i<O.length):val 4294967296 ((O.set i s).take (i+1))=val 4294967296 (O.take i)+4294967296 ^ i*s:=by
 rw [xN _ _ _ hi,YE,List.length_take,Nat.min_eq_left (by omega)]
theorem zqk.step {w wr:World} {g d i cy bo s b' k:Nat} {pre win post dv O:List Nat} (hi:i<dv.length) (hw:win.length=dv.length+1) (hd:d<=4294967296) (hcy:cy<4294967296) (hO:O.length=win.length) (hsO:zP 4294967296 O) (hsv:zP 4294967296 dv)
 (HV:Hid (val 4294967296 (O.take i)+d*val 4294967296 (dv.take i)=val 4294967296 (win.take i)+(cy+bo)*4294967296 ^ i)) (HS:Hid (∀ j,i<=j->O.getD j 0=win.getD j 0))
 (hwin:Xe wr g pre O post) (hgr:w.grownBy wr (some g)) (hk:pre.length=k) (hs:s<4294967296) (hb' :b' <=1) (HD:Hid (s+(cy+d*dv[i]) % 4294967296+bo=win.getD i 0+b' *4294967296))
 (cv bv iv sv:Value) (hcv:cv= .int .u64 (((cy+d*dv[i]) / 4294967296:Nat):Int)) (hbv:bv= .int .u32 (b' :Int)) (hiv:iv= .int .i64 ((i+1:Nat):Int)) (hsv' :sv= .int .u32 (s:Int)):
 zqk w g d pre win post dv cv bv iv (wr.setCell ⟨g,k+i,none⟩ sv):=by
 subst hcv hbv hiv hsv'
 have hv:=hsv.get i hi
 refine ⟨i+1,_,b',O.set i s,by omega,rfl,rfl,rfl,?_,hb',by simpa using hO,hsO.set _ _ hs,?_,?_,hwin.set_ hk (by omega) s,vO hgr (.inl rfl) _⟩
 . apply (Nat.div_lt_iff_lt_mul (by omega)).2
   have b:d*dv[i]<=4294967296*4294967295:=Nat.mul_le_mul hd (by omega)
   omega
 . show _=_
   rw [Z9 (by omega),zM,zM,zC hi];exact zqm (un:=dv[i]) (by omega) HD.o rfl HV.o
 . intro j e
   rw [getD_set_ne _ _ _ _ (by omega)];exact HS.o j (by omega)
theorem zhk.step {w wr:World} {g i c k:Nat} {pre win post dv O:List Nat} (hi:i<dv.length) (hw:win.length=dv.length+1) (hc:c<=1) (hO:O.length=win.length) (hsO:zP 4294967296 O) (hsv:zP 4294967296 dv)
 (HV:Hid (val 4294967296 (O.take i)+c*4294967296 ^ i=val 4294967296 (win.take i)+val 4294967296 (dv.take i))) (HS:Hid (∀ j,i<=j->O.getD j 0=win.getD j 0))
 (hwin:Xe wr g pre O post) (hgr:w.grownBy wr (some g)) (hk:pre.length=k) (x:Nat) (hx:x=O.getD i 0)
 (bv iv sv:Value) (hbv:bv= .int .u32 (((x+dv[i]+c) / 4294967296:Nat):Int)) (hiv:iv= .int .i64 ((i+1:Nat):Int)) (hsv' :sv= .int .u32 (((x+dv[i]+c) % 4294967296:Nat):Int)):
 zhk w g pre win post dv bv iv (wr.setCell ⟨g,k+i,none⟩ sv):=by
 subst hbv hiv hsv'
 have hv:=hsv.get i hi
 have l:x<4294967296:=by rw [hx];exact hsO.getD (by omega) i
 have b:x=win.getD i 0:=by rw [hx];exact HS.o i (uA)
 refine ⟨i+1,_,O.set i ((x+dv[i]+c) % 4294967296),by omega,rfl,rfl,by omega,by simpa using hO,hsO.set _ _ (Nat.mod_lt _ (by omega)),?_,?_,hwin.set_ hk (by omega) _,vO hgr (.inl rfl) _⟩
 . show _=_
   rw [Z9 (by omega),zM,zM,zC hi, <- b];have:=zkh (x:=x) (y:=dv[i]) HV.o;rw [show c+x+dv[i]=x+dv[i]+c by omega] at this;exact this
 intro j e
 rw [getD_set_ne _ _ _ _ (by omega)];exact HS.o j (by omega)
theorem zmf {win dv O:List Nat} {d cy bo s b' :Nat} (hw:win.length=dv.length+1) (hO:O.length=win.length)
 (HV:val 4294967296 (O.take dv.length)+d*val 4294967296 (dv.take dv.length)=val 4294967296 (win.take dv.length)+(cy+bo)*4294967296 ^ dv.length) (hs:s+cy+bo=win.getD dv.length 0+b' *4294967296):
 val 4294967296 (O.set dv.length s)+d*val 4294967296 dv=val 4294967296 win+b' *4294967296 ^ (dv.length+1):=by
 have j:val 4294967296 (O.set dv.length s)=val 4294967296 (O.take dv.length)+4294967296 ^ dv.length*s:=by
  rw [<- Z9 (by omega),uJ (by simp;omega)]
 have b:val 4294967296 win=val 4294967296 (win.take dv.length)+4294967296 ^ dv.length*win.getD dv.length 0:=by
  rw [<- zM,uJ (by omega)]
 rw [List.take_length] at HV
 rw [j,b,Nat.pow_succ]
 have e:4294967296 ^ dv.length*(s+cy+bo)=4294967296 ^ dv.length*(win.getD dv.length 0+b' *4294967296):=by rw [hs]
 generalize 4294967296 ^ dv.length=P at*
 rw [Nat.mul_add,Nat.mul_add,Nat.mul_add,uH b', <- Nat.mul_assoc,uH _ b'] at e
 rw [Nat.add_mul,uH cy,uH bo] at HV
 omega
theorem zmh {win dv O:List Nat} {c r:Nat} (hw:win.length=dv.length+1) (hO:O.length=win.length) (hsO:zP 4294967296 O) (hsw:zP 4294967296 win)
 (HV:val 4294967296 (O.take dv.length)+c*4294967296 ^ dv.length=val 4294967296 (win.take dv.length)+val 4294967296 (dv.take dv.length)) (hc:c<=1)
 (hsum:val 4294967296 win+val 4294967296 dv=r+4294967296 ^ (dv.length+1)):
 val 4294967296 (O.set dv.length ((win.getD dv.length 0+c) % 4294967296))=r:=by
 have b:val 4294967296 (O.set dv.length ((win.getD dv.length 0+c) % 4294967296))=val 4294967296 (O.take dv.length)+4294967296 ^ dv.length*((win.getD dv.length 0+c) % 4294967296):=by
  rw [<- Z9 (by omega),uJ (by simp;omega)]
 have m:val 4294967296 win=val 4294967296 (win.take dv.length)+4294967296 ^ dv.length*win.getD dv.length 0:=by
  rw [<- zM,uJ (by omega)]
 have u:val 4294967296 (O.take dv.length)<4294967296 ^ dv.length:=by
  have:=Yx (hsO.take dv.length)
  rwa [List.length_take,Nat.min_eq_left (by omega)] at this
 have B:=hsw.getD (by omega) dv.length
 rw [List.take_length] at HV
 rw [b]
 rw [m,Nat.pow_succ] at hsum
 generalize 4294967296 ^ dv.length=P at*
 generalize val 4294967296 (O.take dv.length)=L at*
 generalize win.getD dv.length 0=x at*
 generalize val 4294967296 (win.take dv.length)=W at*
 generalize val 4294967296 dv=V at*
 have j:L+P*(x+c)=r+P*4294967296:=by rw [Nat.mul_add,uH P c];omega
 have z:4294967296<=x+c:=by
  rcases uL (x+c) 4294967296 with h | h
  . exfalso
    have:P*(x+c+1)<=P*4294967296:=Nat.mul_le_mul_left _ h;rw [Nat.mul_add,Nat.mul_one] at this
    omega
  . exact h
 obtain ⟨y,e⟩:∃ y,x+c=y+4294967296:=⟨x+c - 4294967296,by omega⟩
 have l:(x+c) % 4294967296=y:=by omega
 rw [l]
 rw [e,Nat.mul_add] at j
 omega
theorem zma {win dv:List Nat} {m:Nat} (hm:2<=m) (hl:dv.length=m) (hw:win.length=m+1):
 val 4294967296 win=((win.getD m 0*4294967296+win.getD (m - 1) 0)*4294967296+win.getD (m - 2) 0)*4294967296 ^ (m - 2)+val 4294967296 (win.take (m - 2))/\
 val 4294967296 dv=(dv.getD (m - 1) 0*4294967296+dv.getD (m - 2) 0)*4294967296 ^ (m - 2)+val 4294967296 (dv.take (m - 2)):=by
 obtain ⟨k,rfl⟩:∃ k,m=k+2:=⟨m - 2,by omega⟩
 simp only [Nat.add_sub_cancel,show k+2 - 1=k+1 by omega]
 constructor
 rotate_left
 . have e:val 4294967296 dv=val 4294967296 (dv.take (k+1+1)):=by rw [uJ (by omega)]
   rw [e,zM,zM,Nat.pow_succ];generalize 4294967296 ^ k=P;simp only [Nat.mul_add,Nat.add_mul,Nat.mul_assoc,uH,Nat.mul_left_comm]
   omega
 have e:val 4294967296 win=val 4294967296 (win.take (k+2+1)):=by rw [uJ (by omega)]
 have b:4294967296 ^ (k+1)=4294967296 ^ k*4294967296:=Nat.pow_succ _ _;have j:4294967296 ^ (k+2)=4294967296 ^ k*4294967296*4294967296:=by rw [Nat.pow_succ,Nat.pow_succ]
 rw [e,zM,zM,zM,j,b];generalize 4294967296 ^ k=P;simp only [Nat.mul_add,Nat.add_mul,Nat.mul_assoc,uH,Nat.mul_left_comm]
 omega
end Go.Proofs.YtobdoblpnanclaaGreatDoor
