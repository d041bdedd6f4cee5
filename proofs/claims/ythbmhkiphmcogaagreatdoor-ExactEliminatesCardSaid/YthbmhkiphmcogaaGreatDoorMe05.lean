/- Parts of the proof. -/
import Derived.Test.YthbmhkiphmcogaaGreatDoorMe02
import Derived.Test.YthbmhkiphmcogaaGreatDoorMe04
set_option linter.all false
namespace Go.Proofs.YthbmhkiphmcogaaGreatDoor
open Proofs.Tryz Go.RowKit Go.Deep
def zw5 (da db:List Nat) (w:World) (bv iv:Value) (wr:World):Prop:=
 ∃ (k b:Nat) (O:List Nat),k<=da.length/\iv= .int .i64 k/\bv= .int .u32 b/\b<=1/\O.length=da.length/\zI 4294967296 O/\
  Hid (val 4294967296 (O.take k)+val 4294967296 (db.take k)=val 4294967296 (da.take k)+b*4294967296 ^ k)/\Blk wr w.heap.size 184 (y8 O)/\Below w.heap.size w wr
theorem zw5.step {da db:List Nat} {w wr:World} {k b s b' :Nat} {O:List Nat} (hk:k<da.length) (hO:O.length=da.length) (hsO:zI 4294967296 O)
 (HV:Hid (val 4294967296 (O.take k)+val 4294967296 (db.take k)=val 4294967296 (da.take k)+b*4294967296 ^ k)) (hblk:Blk wr w.heap.size 184 (y8 O)) (hbl:Below w.heap.size w wr)
 (hs:s<4294967296) (hb' :b' <=1) (HS:Hid (s+db.getD k 0+b=da.getD k 0+b' *4294967296)) (bv iv sv:Value) (hbv:bv= .int .u32 (b' :Int)) (hiv:iv= .int .i64 ((k+1:Nat):Int)) (hsv:sv= .int .u32 (s:Int)):
 zw5 da db w bv iv (wr.setCell ⟨w.heap.size,k,none⟩ sv):=by
 subst hbv hiv hsv
 refine ⟨k+1,b',O.set k s,by omega,rfl,rfl,hb',by simpa using hO,hsO.set _ _ hs,?_,?_,hbl.setCell (Nat.le_refl _) _⟩
 . rw [vK _ _ _ (by omega),Yb,List.length_take,Nat.min_eq_left (by omega),zO,zO]
   exact zpx HV.o HS.o
 have:=hblk.set_ k (.int .u32 (s:Int))
 rwa [yZ] at this
theorem Yj (va vb:Value) (a b:Nat) (w:World) (ha:yF w va a) (hb:yF w vb b) (hla:len 4294967296 a<=67108864) (F:b<=a):
 Calls Tryz.prog 99 #[va,vb] w (zat w (a - b)):=by
 obtain ⟨A,ca,j,rfl,h1,h2,Z,J,rfl⟩:=ha
 obtain ⟨B,cb,C,rfl,k1,k2,V,L,rfl⟩:=hb
 rw [<- J.length_eq (by omega)] at hla
 have ah:=L.length_le (by omega) J F
 have aa:=J.1
 have U:=L.1
 have ag:=ze F
 clear F J L h2 k2
 have am:=fun w=>zdh .i64 j.length (by omega) w
 go_enter func99,ntmps99
 go_wp2
 go_loopw [6,14] (zw5 j C w) (fun _ iv _=>j.length - (intOf iv).toNat)
 case atStart=>
  exact ⟨0,0,List.replicate j.length 0,by omega,rfl,rfl,by omega,by simp,zI.replicate (by omega) _,by simp [Hid,val],Blk.new _ _ _,(Below.refl _ _).alloc (Nat.le_refl _) _⟩
 case round=>
  obtain ⟨k,b,O,hk,rfl,rfl,hb,y,K,G,r,z⟩:=hrel
  have hg:=r.lt
  by_cases m:k<j.length
  . have aj:=(r.cell k).trans (xM (by omega))
    have ak:=r.frozen k;obtain ⟨ad,u,rfl,X,l,D⟩:=Z.at_ m;rw [xb m] at l;injection l with l
    subst l;have al:=(z.cell (p:=ad.add k) (by rw [zz];exact X)).trans D;clear D;have S:j[k]<4294967296:=aa.get k m
    by_cases I:k<C.length
    rotate_left
    . go_wp2_with (go_at_call 141;refine (zup j[k] b S hb _).mono ?_;rintro e w' ⟨s,b',Q,M,E,rfl,rfl⟩;have N:=ze E;clear E)
      go_roundw
      case rel=>exact zw5.step m y K G r z Q M (by rw [zv m,xq (by omega)];exact N) _ _ _ rfl (by go_num) rfl
      case measure=>simp [intOf];omega
    obtain ⟨ai,u,rfl,af,l,D⟩:=V.at_ I
    rw [xb I] at l;injection l with l
    subst l;have an:=(z.cell (p:=ai.add k) (by rw [zz];exact af)).trans D;clear D;have ab:C[k]<4294967296:=U.get k I;go_wp2_with (go_at_call 141;refine (zc3 j[k] C[k] b S ab hb _).mono ?_;rintro e w' ⟨s,b',Q,M,E,rfl,rfl⟩;have N:=ze E;clear E);go_roundw
    case rel=>exact zw5.step m y K G r z Q M (by rw [zv m,zv I];exact N) _ _ _ rfl (by go_num) rfl
    case measure=>simp [intOf];omega
  obtain rfl:k=j.length:=by omega
  have T:=vV r;rw [y] at T
  have R:val 4294967296 O=val 4294967296 j - val 4294967296 C:=by
   have h:=G.o;have F:=ag.o;have ae:=Xq K;rw [<- y,List.take_length,y,List.take_length,List.take_of_length_le ah] at h;rw [y] at ae
   have:b=0:=by
    rcases Nat.lt_or_ge 0 b with h0 | h0
    . exfalso
      obtain rfl:b=1:=by omega
      omega
    . omega
   subst this
   omega
  have ac:=ze R;clear R G;go_wp2_with (go_at_call 138;refine (Yf _ _ _ _ _ _ T K (Nat.le_refl _) (by unfold maxLen;omega)).mono ?_;rintro e w' ⟨v,rfl,Y,rfl⟩);go_ret;refine ⟨v,rfl,?_,z⟩;rw [<- ac.o];exact Y
def zxy (da db:List Nat) (w:World) (iv:Value) (wr:World):Prop:=
 ∃ (k:Nat) (O:List Nat),k<=da.length/\iv= .int .i64 k/\O.length=da.length+db.length/\zI 4294967296 O/\
  Hid (val 4294967296 O=val 4294967296 (da.take k)*val 4294967296 db)/\Hid (∀ p,k+db.length<=p->O.getD p 0=0)/\Blk wr w.heap.size 184 (y8 O)/\Below w.heap.size w wr
def zxr (da db:List Nat) (k x:Nat) (w:World) (cv jv:Value) (wr:World):Prop:=
 ∃ (j c:Nat) (O:List Nat),j<=db.length/\jv= .int .i64 j/\cv= .int .u64 c/\c<4294967296/\O.length=da.length+db.length/\zI 4294967296 O/\
  Hid (val 4294967296 O+c*(4294967296 ^ k*4294967296 ^ j)=val 4294967296 (da.take k)*val 4294967296 db+x*4294967296 ^ k*val 4294967296 (db.take j))/\
  Hid (∀ p,k+db.length<=p->O.getD p 0=0)/\Blk wr w.heap.size 184 (y8 O)/\Below w.heap.size w wr
theorem getD_set_ne (O:List Nat) (i p d:Nat) (h:i≠p):(O.set i d).getD p 0=O.getD p 0:=by
 rw [List.getD_eq_getElem?_getD,List.getD_eq_getElem?_getD,List.getElem?_set_ne h]
theorem zxr.step {da db:List Nat} {w wr:World} {k x j c:Nat} {O:List Nat} (hk:k<da.length) (hj:j<db.length) (hc:c<4294967296) (hO:O.length=da.length+db.length) (hsO:zI 4294967296 O)
 (HV:Hid (val 4294967296 O+c*(4294967296 ^ k*4294967296 ^ j)=val 4294967296 (da.take k)*val 4294967296 db+x*4294967296 ^ k*val 4294967296 (db.take j)))
 (HZ:Hid (∀ p,k+db.length<=p->O.getD p 0=0)) (hblk:Blk wr w.heap.size 184 (y8 O)) (hbl:Below w.heap.size w wr) (hx:x<4294967296) (hsb:zI 4294967296 db)
 (o:Nat) (ho:O[k+j]'(by omega)=o) (t:Nat) (ht:t=c+x*db[j]+o) (cv jv sv:Value) (hcv:cv= .int .u64 ((t / 4294967296:Nat):Int)) (hjv:jv= .int .i64 ((j+1:Nat):Int)) (hsv:sv= .int .u32 ((t % 4294967296:Nat):Int)):
 zxr da db k x w cv jv (wr.setCell ⟨w.heap.size,k+j,none⟩ sv):=by
 subst hcv hjv hsv ht
 have e:o<4294967296:=by rw [<- ho];exact hsO.get _ _
 have hb:=zh9 hc hx (hsb.get j hj) e
 have b:=zjw 4294967296 O (k+j) ((c+x*db[j]+o) % 4294967296) (by omega)
 rw [ho,Nat.pow_add] at b
 refine ⟨j+1,_,O.set (k+j) ((c+x*db[j]+o) % 4294967296),by omega,rfl,rfl,(Nat.div_lt_iff_lt_mul (by omega)).2 hb,by simpa using hO,hsO.set _ _ (Nat.mod_lt _ (by omega)),?_,?_,?_,hbl.setCell (Nat.le_refl _) _⟩
 . rw [yR _ _ _ hj]
   exact zlq HV.o b
 . intro p l
   rw [getD_set_ne _ _ _ _ (by omega)];exact HZ.o p l
 . have:=hblk.set_ (k+j) (.int .u32 (((c+x*db[j]+o) % 4294967296:Nat):Int))
   rwa [yZ] at this
theorem zxy.step {da db:List Nat} {w wr:World} {k c:Nat} {O:List Nat} (hk:k<da.length) (hc:c<4294967296) (hO:O.length=da.length+db.length) (hsO:zI 4294967296 O)
 (HV:Hid (val 4294967296 O+c*(4294967296 ^ k*4294967296 ^ db.length)=val 4294967296 (da.take k)*val 4294967296 db+da[k]*4294967296 ^ k*val 4294967296 (db.take db.length)))
 (HZ:Hid (∀ p,k+db.length<=p->O.getD p 0=0)) (hblk:Blk wr w.heap.size 184 (y8 O)) (hbl:Below w.heap.size w wr)
 (iv sv:Value) (hiv:iv= .int .i64 ((k+1:Nat):Int)) (hsv:sv= .int .u32 (c:Int)):
 zxy da db w iv (wr.setCell ⟨w.heap.size,k+db.length,none⟩ sv):=by
 subst hiv hsv
 have b:=HZ.o (k+db.length) (Nat.le_refl _)
 rw [zv (by omega)] at b
 have e:=zjw 4294967296 O (k+db.length) c (by omega)
 rw [b,Nat.mul_zero,Nat.add_zero,Nat.pow_add,Nat.mul_comm _ c] at e
 refine ⟨k+1,O.set (k+db.length) c,by omega,rfl,by simpa using hO,hsO.set _ _ hc,?_,?_,?_,hbl.setCell (Nat.le_refl _) _⟩
 . have h:=HV.o
   rw [List.take_length] at h
   show val _ _=_
   rw [e,h,yR _ _ _ hk,Nat.add_mul,Nat.mul_comm da[k]]
 . intro p j
   rw [getD_set_ne _ _ _ _ (by omega)];exact HZ.o p (by omega)
 . have:=hblk.set_ (k+db.length) (.int .u32 (c:Int))
   rwa [yZ] at this
theorem zdb (va vb:Value) (a b:Nat) (w:World) (ha:yF w va a) (hb:yF w vb b) (hla:len 4294967296 a<=67108864) (hlb:len 4294967296 b<=67108864):
 Calls Tryz.prog 96 #[va,vb] w (zat w (a*b)):=by
 obtain ⟨A,ca,m,rfl,h1,h2,aa,L,rfl⟩:=ha
 obtain ⟨B,cb,l,rfl,k1,k2,S,K,rfl⟩:=hb
 rw [<- L.length_eq (by omega)] at hla
 rw [<- K.length_eq (by omega)] at hlb
 have ac:=L.1
 have M:=K.1
 clear L K h2 k2
 have ab:=fun w=>zdh .i64 (m.length+l.length) (by omega) w
 rw [show ((m.length+l.length:Nat):Int)=(m.length:Int)+l.length by omega] at ab
 go_enter func96,ntmps96
 go_wp2
 go_loopw [19] (zxy m l w) (fun iv _=>m.length - (intOf iv).toNat)
 case atStart=>
  refine ⟨0,List.replicate (m.length+l.length) 0,by omega,rfl,by simp,zI.replicate (by omega) _,by rw [zay,List.take_zero,Zc,Nat.zero_mul];exact rfl,?_,Blk.new _ _ _,(Below.refl _ _).alloc (Nat.le_refl _) _⟩
  intro p _
  rw [List.getD_eq_getElem?_getD,List.getElem?_replicate]
  split<;>rfl
 case round=>
  obtain ⟨k,O,hk,rfl,I,D,C,E,r,z⟩:=hrel
  have hg:=r.lt
  by_cases F:k<m.length
  rotate_left
  . obtain rfl:k=m.length:=by omega
    have R:=vV r;rw [I] at R
    have N:val 4294967296 O=val 4294967296 m*val 4294967296 l:=by
     have h:=C.o
     rwa [List.take_length] at h
    have ad:=ze N;clear N C E;go_wp2_with (go_at_call 138;refine (Yf _ _ _ _ _ _ R D (Nat.le_refl _) (by unfold maxLen;omega)).mono ?_;rintro e w' ⟨v,rfl,V,rfl⟩);go_ret;refine ⟨v,rfl,?_,z⟩;rw [<- ad.o];exact V
  obtain ⟨ae,u,rfl,T,y,G⟩:=aa.at_ F
  rw [xb F] at y;injection y with y
  subst y;have Y:=(z.cell (p:=ae.add k) (by rw [zz];exact T)).trans G;clear G;have af:m[k]<4294967296:=ac.get k F;go_wp2;obtain ⟨wo,Z⟩:∃ wo:World,wo=wr:=⟨_,rfl⟩;subst Z
  go_loopw [8,26] (zxr m l k m[k] w) (fun _ jv _=>l.length - (intOf jv).toNat)
  case atStart=>
   exact ⟨0,0,O,by omega,rfl,rfl,by omega,I,D,by rw [List.take_zero,Zc,Nat.zero_mul,Nat.mul_zero];exact C,E,r,z⟩
  case round=>
   clear C E r z D Y;obtain ⟨j,c,O,hj,rfl,rfl,Q,I,D,C,E,r,z⟩:=hrel;have hg:=r.lt
   by_cases J:j<l.length
   rotate_left
   . obtain rfl:j=l.length:=by omega
     have U:=(r.cell (k+l.length)).trans (xM (by omega));have X:=r.frozen (k+l.length);go_wp2;go_roundw
     case rel=>exact zxy.step F Q I D C E r z _ _ (by go_num) (by go_num)
     case measure=>simp [intOf];omega
   obtain ⟨ah,u,rfl,ag,y,G⟩:=S.at_ J
   rw [xb J] at y;injection y with y
   subst y;have an:=(z.cell (p:=ah.add j) (by rw [zz];exact ag)).trans G;clear G;have al:l[j]<4294967296:=M.get j J;have U:=(r.cell (k+j)).trans (xM (by omega));have X:=r.frozen (k+j);have ak:O[k+j]<4294967296:=D.get _ _;have aj:m[k]*l[j]<=18446744065119617025:=Nat.le_trans (Nat.mul_le_mul (show m[k]<=4294967295 by omega) (show l[j]<=4294967295 by omega)) (by omega);have am :(m[k]:Int)*(l[j]:Int)<=18446744065119617025:=by rw [<- Int.natCast_mul];omega
   have ai:(0:Int)<=(m[k]:Int)*(l[j]:Int):=Int.mul_nonneg (by omega) (by omega);go_wp2;go_roundw
   case rel=>exact zxr.step F J Q I D C E r z af M O[k+j] rfl _ rfl _ _ _ (by go_num) (by go_num) (by go_num)
   case measure=>simp [intOf];omega
def CmpR (da db:List Nat) (w:World) (iv:Value) (wr:World):Prop:=
 ∃ k m:Nat,k<=da.length/\iv= .int .i64 ((k:Int) - 1)/\Hid (∀ p,k<=p->da.getD p 0=db.getD p 0)/\wr=w.drewN m
theorem zwf {da db:List Nat} (hl:da.length=db.length) (hsa:zI 4294967296 da) (hsb:zI 4294967296 db) (k:Nat) (hk:k<da.length) (h:∀ p,k+1<=p->da.getD p 0=db.getD p 0) (hne:da.getD k 0≠db.getD k 0):
 zP (da.getD k 0) (db.getD k 0)=zP (val 4294967296 da) (val 4294967296 db):=by
 have r:∀ j (e:j<da.length) (b:j<db.length),k<j->da[j]=db[j]:=by
  intro j e b m
  have:=h j (by omega)
  rwa [zv e,zv b] at this
 rw [zv hk,zv (by omega)] at hne |-
 rcases Nat.lt_or_ge da[k] (db[k]'(by omega)) with l | l
 . have:=zaj hl hsa k hk r l
   unfold zP;rw [if_pos (by omega),if_pos (by omega)]
 . have u :db[k]'(by omega)<da[k]:=by omega
   have:=zaj hl.symm hsb k (by omega) (fun j e b m=>(r j b e m).symm) u;unfold zP;rw [if_neg (by omega),if_pos (by omega),if_neg (by omega),if_pos (by omega)]
theorem VI (va vb:Value) (a b:Nat) (w:World) (ha:yF w va a) (hb:yF w vb b) (hla:len 4294967296 a<=67108864) (hlb:len 4294967296 b<=67108864):
 Calls Tryz.prog 98 #[va,vb] w (RetD w (.int .i64 (zP a b))):=by
 obtain ⟨A,ca,j,rfl,T,Q,Y,G,rfl⟩:=ha
 obtain ⟨B,cb,l,rfl,k1,k2,O,E,rfl⟩:=hb
 rw [<- G.length_eq (by omega)] at hla
 rw [<- E.length_eq (by omega)] at hlb
 have Z:=G.1
 have V:=E.1
 by_cases J:j.length=l.length
 rotate_left
 . have M:(zP (j.length:Int) (l.length:Int) != 0)=true/\zP (j.length:Int) (l.length:Int)=zP (val 4294967296 j) (val 4294967296 l):=by
    unfold zP
    rcases Nat.lt_or_ge j.length l.length with h | h
    . have:=yW.lt_of_length (by omega) G.1 E h
      rw [if_pos (by omega),if_pos (by omega)];exact ⟨rfl,rfl⟩
    . have:=yW.lt_of_length (by omega) E.1 G (by omega)
      rw [if_neg (by omega),if_pos (by omega),if_neg (by omega),if_pos (by omega)];exact ⟨rfl,rfl⟩
   obtain ⟨ai,z⟩:=M;have X:=ze z;clear z
   go_enter func98,ntmps98
   go_wp2_with (go_at_call 139;refine (zk9 _ _ _).mono ?_;rintro e w' ⟨rfl,rfl⟩);go_ret;exact ⟨by rw [<- X.o];rfl,0,rfl⟩
 have M:zP (j.length:Int) (l.length:Int)=0:=by unfold zP;rw [if_neg (by omega),if_neg (by omega)]
 have U:zP (val 4294967296 j) (val 4294967296 l)=zP (val 4294967296 j) (val 4294967296 l):=rfl;have F:=ze J;rw [<- J] at O k1 M |-;clear J U
 go_enter func98,ntmps98
 go_wp2_with (go_at_call 139;refine (zk9 _ _ _).mono ?_;rintro e w' ⟨rfl,rfl⟩)
 go_loopw [6] (CmpR j l w) (fun iv _=>(intOf iv+1).toNat)
 case atStart=>
  refine ⟨j.length,0,Nat.le_refl _,rfl,?_,rfl⟩;intro p K;rw [xq K,xq (by have:=F.o;omega)]
 case round=>
  obtain ⟨k,m,hk,rfl,L,rfl⟩:=hrel
  by_cases ad:0<k
  rotate_left
  . obtain rfl:k=0:=by omega
    have S:zP (val 4294967296 j) (val 4294967296 l)=0:=by
     have:j=l:=by
      apply List.ext_getElem F.o
      intro i T Q;have:=L.o i (by omega)
      rwa [zv T,zv Q] at this
     rw [this];unfold zP;rw [if_neg (by omega),if_neg (by omega)]
    have aa:=ze S;clear S;go_wp2;go_ret;exact ⟨by rw [aa.o];rfl,m,rfl⟩
  have R:k - 1<l.length:=by have:=F.o;omega
  have I:k - 1<j.length:=by omega
  obtain ⟨af,u,rfl,ac,r,ae⟩:=Y.at_ (k:=k - 1) I;rw [xb I] at r;injection r with r
  subst r;obtain ⟨aj,u,rfl,ah,r,ag⟩:=O.at_ (k:=k - 1) (by omega);rw [xb R] at r;injection r with r
  subst r;have C:j.getD (k - 1) 0=j[k - 1]:=zv I;have D:l.getD (k - 1) 0=l[k - 1]:=zv R;have hi:((k:Int) - 1).toNat=k - 1:=by omega
  by_cases y:j.getD (k - 1) 0=l.getD (k - 1) 0
  rotate_left
  . have N:=ze y
    have g0:((j[k - 1]:Int) != (l[k - 1]:Int))=true:=by
     rw [<- C, <- D,bne_iff_ne];omega
    have HA:=ze C;have HB:=ze D;clear y C D;go_wp2
    go_quiet (fail)
    go_wp2
    go_quiet ((go_at_call 140;first | exact zs3 (zkr _ _ _) | exact zvb (zkr _ _ _)))
    go_wp2;go_ret;refine ⟨?_,_,by rw [World.drewN_drewN,World.drewN_drewN]⟩;have z:=zwf F.o Z V (k - 1) (by omega) (fun p K=>L.o p (by omega)) N.o;rw [HA.o,HB.o] at z;exact congrArg Ending.returned (congrArg (Value.int IntKind.i64) z)
  have N:=ze y
  have g0:((j[k - 1]:Int) != (l[k - 1]:Int))=false:=by rw [<- C, <- D,y,bne_self_eq_false]
  clear y C D;go_wp2
  go_quiet (fail)
  go_wp2;go_roundw
  case rel=>
   refine ⟨k - 1,m+nq,by omega,congrArg _ (by omega),?_,rfl⟩;intro p K
   by_cases ab:p=k - 1
   . subst ab;exact N.o
   exact L.o p (by omega)
  case measure=>simp [intOf];omega
def zxw (da:List Nat) (d:Nat) (w:World) (rv iv:Value) (wr:World):Prop:=
 ∃ (k r:Nat) (O:List Nat),k<=da.length/\iv= .int .i64 ((k:Int) - 1)/\rv= .int .u64 r/\r<d/\O.length=da.length/\zI 4294967296 O/\
  Hid (val 4294967296 (da.drop k)=val 4294967296 (O.drop k)*d+r)/\Blk wr w.heap.size 184 (y8 O)/\Below w.heap.size w wr
theorem zxw.step {da:List Nat} {d:Nat} {w wr:World} {k r:Nat} {O:List Nat} (hk:k<da.length) (hr:r<d) (hO:O.length=da.length) (hsO:zI 4294967296 O) (hsa:zI 4294967296 da)
 (HV:Hid (val 4294967296 (da.drop (k+1))=val 4294967296 (O.drop (k+1))*d+r)) (hblk:Blk wr w.heap.size 184 (y8 O)) (hbl:Below w.heap.size w wr)
 (rv iv sv:Value) (hrv:rv= .int .u64 (((r*4294967296+da[k]) % d:Nat):Int)) (hiv:iv= .int .i64 ((k:Int) - 1)) (hsv:sv= .int .u32 (((r*4294967296+da[k]) / d:Nat):Int)):
 zxw da d w rv iv (wr.setCell ⟨w.heap.size,k,none⟩ sv):=by
 subst hrv hiv hsv
 obtain ⟨b,e⟩:=zk3 (by omega) hr (hsa.get k hk)
 refine ⟨k,_,O.set k ((r*4294967296+da[k]) / d),by omega,rfl,rfl,e,by simpa using hO,hsO.set _ _ b,?_,?_,hbl.setCell (Nat.le_refl _) _⟩
 . show val _ _=_
   rw [Vj _ _ _ _ (by omega),Yu _ _ _ hk];exact zus HV.o
 have:=hblk.set_ k (.int .u32 (((r*4294967296+da[k]) / d:Nat):Int))
 rwa [yZ] at this
def ztj (w:World) (q:Nat) (rv:Value) (e:Ending) (w' :World):Prop:=∃ v,e= .returned (.tuple #[v,rv])/\yF w' v q/\Below w.heap.size w w'
theorem zlw (r x:Nat) (hr:r<4294967296) (hx:x<4294967296):bits .or .u64 ((r:Int)*4294967296) (x:Int)=((r*4294967296+x:Nat):Int):=by
 have:=u64_or_nat (r*4294967296) x (by omega) (by omega)
 rw [Int.natCast_mul] at this
 have j:(2:Nat) ^ 32=4294967296:=by decide
 have e:=zic (n:=32) (a:=r) (b:=x) (by omega)
 rw [j,Nat.mul_comm] at e
 rw [e] at this
 exact this
def zu8 (w:World) (q:Nat) (rv:Value) (e:Ending) (w' :World):Prop:=
 ∃ k c,e= .returned (.tuple #[.slice (some ⟨w.heap.size,0,none⟩) k c,rv])/\yF w' (.slice (some ⟨w.heap.size,0,none⟩) k c) q/\w.heap.size<w'.heap.size/\Below w.heap.size w w'
theorem zcd (va:Value) (a d:Nat) (w:World) (ha:yF w va a) (hla:len 4294967296 a<=67108864) (hd0:0<d) (hd:d<4294967296):
 Calls Tryz.prog 128 #[va,.int .u32 d] w (zu8 w (a / d) (.int .u32 ((a % d:Nat):Int))):=by
 obtain ⟨A,ca,b,rfl,h1,h2,X,C,rfl⟩:=ha
 rw [<- C.length_eq (by omega)] at hla
 have I:=C.1
 clear C h2
 have ai:=fun w=>zdh .i64 b.length (by omega) w
 go_enter func128,ntmps128
 go_wp2
 go_loopw [7,8] (zxw b d w) (fun _ iv _=>(intOf iv+1).toNat)
 case atStart=>
  refine ⟨b.length,0,List.replicate b.length 0,Nat.le_refl _,rfl,rfl,hd0,by simp,zI.replicate (by omega) _,?_,Blk.new _ _ _,(Below.refl _ _).alloc (Nat.le_refl _) _⟩
  show val _ _=_
  rw [List.drop_length,List.drop_of_length_le (by simp),Zc,Nat.zero_mul]
 case round=>
  obtain ⟨k,r,O,hk,rfl,rfl,y,S,R,B,l,D⟩:=hrel
  have Z:=l.lt
  by_cases af:0<k
  rotate_left
  . obtain rfl:k=0:=by omega
    have E:=vV l;rw [S] at E
    have L:val 4294967296 O=val 4294967296 b / d/\r=val 4294967296 b % d:=by
     have h:=B.o;rw [List.drop_zero,List.drop_zero] at h;rw [h,Nat.mul_comm];exact ⟨by rw [Nat.mul_add_div hd0,Nat.div_eq_of_lt y,Nat.add_zero],by rw [Nat.mul_add_mod,Nat.mod_eq_of_lt y]⟩
    have K:=ze L;clear L B;go_wp2_with (go_at_call 138;refine (zfd _ _ _ _ _ _ E R (Nat.le_refl _) (by unfold maxLen;omega)).mono ?_;rintro e w' ⟨k,ad,rfl,N,G,rfl⟩;have ac:=ze N;have ab:=ze G;clear N G);go_ret2;refine ⟨k,b.length,by rw [<- K.o.2];rfl,?_,Z,D⟩;rw [<- K.o.1, <- ab.o];have J:(O.take k).length=k:=by rw [List.length_take];omega
    refine ⟨_,b.length,O.take k,by rw [J],by omega,by unfold maxLen;omega,?_,ac.o,rfl⟩;have:=E.head (k:=k) (by omega);rw [J, <- zde]
    simpa using this
  obtain ⟨k,rfl⟩:∃ j,k=j+1:=⟨k - 1,by omega⟩
  have m:k<b.length:=by omega
  have V:k<O.length:=by omega
  have ae:=(l.cell k).trans (xM V);have ag:=l.frozen k;obtain ⟨aa,u,rfl,T,z,Q⟩:=X.at_ m;rw [xb m] at z;injection z with z
  subst z;have ah:=(D.cell (p:=aa.add k) (by rw [zz];exact T)).trans Q;clear Q;have M:b[k]<4294967296:=I.get k m;have aj:=zlw r b[k] (by omega) M;have Y:(((k+1:Nat):Int) - 1)=(k:Int):=by omega
  rw [Y];go_wp2;have F:(r:Int)*4294967296+(b[k]:Int)=((r*4294967296+b[k]:Nat):Int):=by omega
  have U:=(zk3 (β:=4294967296) (x:=b[k]) hd0 y M).1;go_roundw
  case rel=>exact zxw.step m y S R I B l D _ _ _ (by rw [F, <- Int.natCast_emod]) rfl (by rw [F, <- Int.natCast_ediv,show (4294967296:Int)=((4294967296:Nat):Int) by rfl, <- Int.natCast_emod,Nat.mod_eq_of_lt U])
  case measure=>simp [intOf]<;>omega
theorem zkf (va:Value) (a d:Nat) (w:World) (ha:yF w va a) (hla:len 4294967296 a<=67108864) (hd0:0<d) (hd:d<4294967296):
 Calls Tryz.prog 128 #[va,.int .u32 d] w (ztj w (a / d) (.int .u32 ((a % d:Nat):Int))):=by
 refine (zcd va a d w ha hla hd0 hd).mono ?_
 rintro e w' ⟨k,c,rfl,b,_,j⟩
 exact ⟨_,rfl,b,j⟩
def UpR (da:List Nat) (n:Nat) (w:World) (iv:Value) (wr:World):Prop:=
 ∃ (k:Nat) (O:List Nat),k<=da.length/\iv= .int .i64 k/\O.length=da.length+1/\zI 4294967296 O/\O.getD k 0<2 ^ n/\
  Hid (val 4294967296 (O.take k)+4294967296 ^ k*O.getD k 0=val 4294967296 (da.take k)*2 ^ n)/\Blk wr w.heap.size 184 (y8 O)/\Below w.heap.size w wr
theorem x8 {n:Nat} (hn:n<32):2 ^ n*2 ^ (32 - n)=4294967296:=by
 rw [<- Nat.pow_add,show n+(32 - n)=32 by omega]
theorem zw7 {n o x:Nat} (hn:n<32) (ho:o<2 ^ n):o ||| (x*2 ^ n % 4294967296)=o+x*2 ^ n % 4294967296:=by
 have e:x*2 ^ n % 4294967296=2 ^ n*(x % 2 ^ (32 - n)):=by
  rw [<- x8 hn];exact zkn (Nat.two_pow_pos n)
 rw [e,zbo ho]
theorem zpd {n o x:Nat} (hn:n<32) (ho:o<2 ^ n):o+x*2 ^ n % 4294967296<4294967296:=by
 have e:x*2 ^ n % 4294967296=2 ^ n*(x % 2 ^ (32 - n)):=by
  rw [<- x8 hn];exact zkn (Nat.two_pow_pos n)
 have j:x % 2 ^ (32 - n)<2 ^ (32 - n):=Nat.mod_lt _ (Nat.two_pow_pos _)
 have b:2 ^ n*(x % 2 ^ (32 - n)+1)<=2 ^ n*2 ^ (32 - n):=Nat.mul_le_mul_left _ j
 rw [x8 hn,Nat.mul_add,Nat.mul_one] at b
 omega
theorem zoz {n x:Nat} (hn:n<32) (hx:x<4294967296):x*2 ^ n / 4294967296<2 ^ n:=by
 apply (Nat.div_lt_iff_lt_mul (by omega)).2
 rw [Nat.mul_comm]
 exact Nat.mul_lt_mul_of_pos_left hx (Nat.two_pow_pos n)
theorem zbl {n:Nat} (hn:n<32):2 ^ n<=2147483648:=by
 have:2 ^ n<=2 ^ 31:=Nat.pow_le_pow_right (by omega) (by omega)
 exact this
theorem UpR.step {da:List Nat} {n:Nat} {w wr:World} {k:Nat} {O:List Nat} (hk:k<da.length) (hn:n<32) (hO:O.length=da.length+1) (hsO:zI 4294967296 O) (hsa:zI 4294967296 da) (hlow:O.getD k 0<2 ^ n)
 (HV:Hid (val 4294967296 (O.take k)+4294967296 ^ k*O.getD k 0=val 4294967296 (da.take k)*2 ^ n)) (hblk:Blk wr w.heap.size 184 (y8 O)) (hbl:Below w.heap.size w wr)
 (iv s1 s2:Value) (hiv:iv= .int .i64 ((k+1:Nat):Int)) (hs1:s1= .int .u32 ((O.getD k 0+da[k]*2 ^ n % 4294967296:Nat):Int)) (hs2:s2= .int .u32 ((da[k]*2 ^ n / 4294967296:Nat):Int)):
 UpR da n w iv ((wr.setCell ⟨w.heap.size,k,none⟩ s1).setCell ⟨w.heap.size,k+1,none⟩ s2):=by
 subst hiv hs1 hs2
 have l:=hsa.get k hk
 have j:=zoz hn l
 have m:=zbl hn
 have e:((O.set k (O.getD k 0+da[k]*2 ^ n % 4294967296)).set (k+1) (da[k]*2 ^ n / 4294967296)).length=da.length+1:=by simpa using hO
 have b:((O.set k (O.getD k 0+da[k]*2 ^ n % 4294967296)).set (k+1) (da[k]*2 ^ n / 4294967296)).getD (k+1) 0=da[k]*2 ^ n / 4294967296:=by
  rw [zv (by omega),List.getElem_set_self]
 refine ⟨k+1,(O.set k (O.getD k 0+da[k]*2 ^ n % 4294967296)).set (k+1) (da[k]*2 ^ n / 4294967296),by omega,rfl,e,(hsO.set _ _ (zpd hn hlow)).set _ _ (by omega),by rw [b];exact j,?_,?_,(hbl.setCell (Nat.le_refl _) _).setCell (Nat.le_refl _) _⟩
 . show _+_=_
   rw [b,List.take_set_of_le (Nat.le_refl _),vK _ _ _ (by omega),Yb,List.length_take,Nat.min_eq_left (by omega),yR _ _ _ hk];exact zvm HV.o
 have:=(hblk.set_ k (.int .u32 ((O.getD k 0+da[k]*2 ^ n % 4294967296:Nat):Int)))
 rw [yZ] at this;have:=this.set_ (k+1) (.int .u32 ((da[k]*2 ^ n / 4294967296:Nat):Int))
 rwa [yZ] at this
def zkp (w:World) (n a:Nat) (e:Ending) (w' :World):Prop:=
 ∃ O:List Nat,e= .returned (.slice (some ⟨w.heap.size,0,none⟩) n n)/\O.length=n/\zI 4294967296 O/\val 4294967296 O=a/\Blk w' w.heap.size 184 (y8 O)/\Below w.heap.size w w'
theorem zdy (va:Value) (a n:Nat) (w:World) (ha:yF w va a) (hla:len 4294967296 a<=67108864) (hn:n<32):
 Calls Tryz.prog 165 #[va,.int .u64 n] w (zkp w (len 4294967296 a+1) (a*2 ^ n)):=by
 obtain ⟨A,ca,b,rfl,h1,N,L,y,rfl⟩:=ha
 rw [<- y.length_eq (by omega)] at hla |-
 have D:=y.1
 clear y N
 have M:=fun w=>zdh .i64 (b.length+1) (by omega) w
 rw [show ((b.length+1:Nat):Int)=(b.length:Int)+1 by omega] at M
 go_enter func165,ntmps165
 go_wp2
 go_loopw [14] (UpR b n w) (fun iv _=>b.length - (intOf iv).toNat)
 case atStart=>
  refine ⟨0,List.replicate (b.length+1) 0,by omega,rfl,by simp,zI.replicate (by omega) _,?_,?_,Blk.new _ _ _,(Below.refl _ _).alloc (Nat.le_refl _) _⟩
  . rw [zv (by simp),List.getElem_replicate];exact Nat.two_pow_pos n
  show _+_=_
  rw [zv (by simp),List.getElem_replicate,List.take_zero,List.take_zero,Zc,Nat.mul_zero,Nat.zero_mul]
 case round=>
  obtain ⟨k,O,X,rfl,G,B,C,E,e,z⟩:=hrel
  have hg:=e.lt
  by_cases l:k<b.length
  rotate_left
  . obtain rfl:k=b.length:=by omega
    go_wp2;go_ret;refine ⟨O,rfl,G,B,?_,e,z⟩;have h:=E.o;rw [List.take_length, <- zO,List.take_of_length_le (by omega)] at h;exact h
  have m:k<O.length:=by omega
  have J:k+1<O.length:=by omega
  have S:=(e.cell k).trans (xM m);have U:=e.frozen k;obtain ⟨Q,u,rfl,I,r,F⟩:=L.at_ l;rw [xb l] at r;injection r with r
  subst r;have Z:=(z.cell (p:=Q.add k) (by rw [zz];exact I)).trans F;clear F;have R:b[k]<4294967296:=D.get k l;have aa:=(e.cell (k+1)).trans (xM J);have T:=e.frozen (k+1);rw [zv m] at C;have K:=zbl hn;have j:((2:Int) ^ n)=((2 ^ n:Nat):Int):=by rw [Int.natCast_pow];rfl
  have Y:b[k]*2 ^ n<=9223372034707292160:=Nat.le_trans (Nat.mul_le_mul (show b[k]<=4294967295 by omega) K) (by omega)
  have hw:IntKind.u64.wrap ((b[k]:Int)*2 ^ n)=((b[k]*2 ^ n:Nat):Int):=by
   rw [j, <- Int.natCast_mul,IntKind.wrap_u64];omega
  have ab:bits .or .u32 (O[k]:Int) ((b[k]:Int)*2 ^ n % 4294967296)=((O[k]+b[k]*2 ^ n % 4294967296:Nat):Int):=by
   rw [j, <- Int.natCast_mul,show (4294967296:Int)=((4294967296:Nat):Int) by rfl, <- Int.natCast_emod,u32_or_nat _ _ (B.get _ _) (Nat.mod_lt _ (by omega)),zw7 hn C]
  clear j;go_wp2;have j:((2:Int) ^ n)=((2 ^ n:Nat):Int):=by rw [Int.natCast_pow];rfl
  have V:=zoz hn R;go_roundw
  case rel=>
   refine UpR.step l hn G B D (by rw [zv m];exact C) E e z _ _ _ (by go_num) ?_ ?_
   . rw [zv m,j]
     exact congrArg _ (by omega)
   rw [j, <- Int.natCast_mul]
   exact congrArg _ (by omega)
  case measure=>simp [intOf];omega
def zhf (da:List Nat) (n:Nat) (w:World) (iv:Value) (wr:World):Prop:=
 ∃ (k:Nat) (O:List Nat),k<=da.length/\iv= .int .i64 k/\O.length=da.length/\zI 4294967296 O/\Hid (∀ j,k<=j->O.getD j 0=0)/\Hid (∀ j,k=j+1->O.getD j 0=da.getD j 0 / 2 ^ n)/\
  Hid (val 4294967296 (O.take k)=val 4294967296 (da.take k) / 2 ^ n)/\Blk wr w.heap.size 184 (y8 O)/\Below w.heap.size w wr
theorem VF {n x:Nat} (hn:n<32) (hx:x<4294967296):x / 2 ^ n<2 ^ (32 - n):=by
 apply (Nat.div_lt_iff_lt_mul (Nat.two_pow_pos n)).2
 rw [Nat.mul_comm,x8 hn];exact hx
theorem zu2 {n o x:Nat} (hn:n<32) (ho:o<2 ^ (32 - n)):o ||| (x*2 ^ (32 - n) % 4294967296)=o+2 ^ (32 - n)*(x % 2 ^ n):=by
 have e:x*2 ^ (32 - n) % 4294967296=2 ^ (32 - n)*(x % 2 ^ n):=by
  rw [<- x8 hn,Nat.mul_comm (2 ^ n)];exact zkn (Nat.two_pow_pos _)
 rw [e,zbo ho]
theorem zmq {n o x:Nat} (hn:n<32) (ho:o<2 ^ (32 - n)):o+2 ^ (32 - n)*(x % 2 ^ n)<4294967296:=by
 have e:x % 2 ^ n<2 ^ n:=Nat.mod_lt _ (Nat.two_pow_pos _)
 have b:2 ^ (32 - n)*(x % 2 ^ n+1)<=2 ^ (32 - n)*2 ^ n:=Nat.mul_le_mul_left _ e
 rw [Nat.mul_comm _ (2 ^ n),x8 hn,Nat.mul_add,Nat.mul_one] at b
 omega
theorem zr5 {b O:List Nat} {n k:Nat} (hn:n<32) (hk:k+1<b.length) (hO:O.length=b.length)
 (hp:O.getD k 0=b.getD k 0 / 2 ^ n) (HV:val 4294967296 (O.take (k+1))=val 4294967296 (b.take (k+1)) / 2 ^ n):
 val 4294967296 (((O.set (k+1) (b[k+1] / 2 ^ n)).set k (O.getD k 0+2 ^ (32 - n)*(b[k+1] % 2 ^ n))).take (k+2))=val 4294967296 (b.take (k+2)) / 2 ^ n:=by
 have r:((O.set (k+1) (b[k+1] / 2 ^ n)).set k (O.getD k 0+2 ^ (32 - n)*(b[k+1] % 2 ^ n))).length=b.length:=by simpa using hO
 have l:((O.set (k+1) (b[k+1] / 2 ^ n)).set k (O.getD k 0+2 ^ (32 - n)*(b[k+1] % 2 ^ n))).getD (k+1) 0=b[k+1] / 2 ^ n:=by
  rw [getD_set_ne _ _ _ _ (by omega),zv (by simp;omega),List.getElem_set_self]
 have m:((O.set (k+1) (b[k+1] / 2 ^ n)).set k (O.getD k 0+2 ^ (32 - n)*(b[k+1] % 2 ^ n))).getD k 0=O.getD k 0+2 ^ (32 - n)*(b[k+1] % 2 ^ n):=by
  rw [zv (by simp;omega),List.getElem_set_self]
 rw [zO _ _ (k+1),l,zO _ _ k,m,List.take_set_of_le (by omega),List.take_set_of_le (by omega),yR _ _ (k+1) hk]
 rw [zO] at HV
 have j:=zpt (s:=2 ^ n) (t:=2 ^ (32 - n)) (i:=k) (A:=val 4294967296 (b.take (k+1))) (x:=b[k+1]) (Nat.two_pow_pos _) (Nat.two_pow_pos _)
 rw [x8 hn] at j
 have e:=zme (s:=2 ^ n) (t:=2 ^ (32 - n)) (x:=b[k+1]) (Nat.two_pow_pos _)
 rw [x8 hn] at e
 rw [j, <- HV,e,Nat.pow_succ]
 generalize 2 ^ (32 - n)*(b[k+1] % 2 ^ n)=z
 generalize b[k+1] / 2 ^ n=y
 generalize 4294967296 ^ k=P
 generalize val 4294967296 (List.take k O)=V
 generalize O.getD k 0=o
 rw [Nat.mul_add,Nat.mul_add,Nat.mul_assoc]
 omega
theorem znv {da O:List Nat} {k:Nat} (hk:k<da.length) (hO:O.length=da.length) (HV:val 4294967296 (O.take k)=val 4294967296 (da.take k) / 2 ^ 0):
 val 4294967296 ((O.set k (da[k] / 2 ^ 0)).take (k+1))=val 4294967296 (da.take (k+1)) / 2 ^ 0:=by
 rw [vK _ _ _ (by omega),Yb,List.length_take,Nat.min_eq_left (by omega),HV,yR _ _ _ hk]
 simp only [Nat.pow_zero,Nat.div_one]
theorem znz {da O:List Nat} {n:Nat} (hk:0<da.length) (hO:O.length=da.length):val 4294967296 ((O.set 0 (da[0] / 2 ^ n)).take (0+1))=val 4294967296 (da.take (0+1)) / 2 ^ n:=by
 rw [vK _ _ _ (by omega),yR _ _ _ hk]
 simp [val]
theorem zhf.mk0 {da:List Nat} {n:Nat} {w wr:World} {k:Nat} {O:List Nat} (hk:k<da.length) (hn:n<32) (hO:O.length=da.length) (hsO:zI 4294967296 O) (hsa:zI 4294967296 da)
 (HZ:Hid (∀ j,k<=j->O.getD j 0=0)) (hv:val 4294967296 ((O.set k (da[k] / 2 ^ n)).take (k+1))=val 4294967296 (da.take (k+1)) / 2 ^ n) (hblk:Blk wr w.heap.size 184 (y8 O)) (hbl:Below w.heap.size w wr)
 (iv s1:Value) (hiv:iv= .int .i64 ((k+1:Nat):Int)) (hs1:s1= .int .u32 ((da[k] / 2 ^ n:Nat):Int)):zhf da n w iv (wr.setCell ⟨w.heap.size,k,none⟩ s1):=by
 subst hiv hs1
 have l:=hsa.get k hk
 have e:da[k] / 2 ^ n<=da[k]:=Nat.div_le_self _ _
 refine ⟨k+1,O.set k (da[k] / 2 ^ n),by omega,rfl,by simpa using hO,hsO.set _ _ (by omega),?_,?_,hv,?_,hbl.setCell (Nat.le_refl _) _⟩
 . intro j b
   rw [getD_set_ne _ _ _ _ (by omega)];exact HZ.o j (by omega)
 . intro j b
   obtain rfl:k=j:=by omega
   rw [zv (by simp;omega),List.getElem_set_self,zv hk]
 . have:=hblk.set_ k (.int .u32 ((da[k] / 2 ^ n:Nat):Int))
   rwa [yZ] at this
theorem zhf.mk1 {da:List Nat} {n:Nat} {w wr:World} {k:Nat} {O:List Nat} (hk:k+1<da.length) (hn:n<32) (hO:O.length=da.length) (hsO:zI 4294967296 O) (hsa:zI 4294967296 da)
 (HZ:Hid (∀ j,k+1<=j->O.getD j 0=0)) (HP:Hid (∀ j,k+1=j+1->O.getD j 0=da.getD j 0 / 2 ^ n)) (HV:Hid (val 4294967296 (O.take (k+1))=val 4294967296 (da.take (k+1)) / 2 ^ n))
 (hblk:Blk wr w.heap.size 184 (y8 O)) (hbl:Below w.heap.size w wr)
 (iv s1 s2:Value) (hiv:iv= .int .i64 ((k+1+1:Nat):Int)) (hs1:s1= .int .u32 ((da[k+1] / 2 ^ n:Nat):Int)) (hs2:s2= .int .u32 ((O.getD k 0+2 ^ (32 - n)*(da[k+1] % 2 ^ n):Nat):Int)):
 zhf da n w iv ((wr.setCell ⟨w.heap.size,k+1,none⟩ s1).setCell ⟨w.heap.size,k,none⟩ s2):=by
 subst hiv hs1 hs2
 have m:=hsa.get (k+1) hk
 have l:da[k+1] / 2 ^ n<=da[k+1]:=Nat.div_le_self _ _
 have b:=HP.o k rfl
 have ho:O.getD k 0<2 ^ (32 - n):=by rw [b];exact VF hn (hsa.getD (by omega) k)
 refine ⟨k+1+1,(O.set (k+1) (da[k+1] / 2 ^ n)).set k (O.getD k 0+2 ^ (32 - n)*(da[k+1] % 2 ^ n)),by omega,rfl,by simpa using hO,(hsO.set _ _ (by omega)).set _ _ (zmq hn ho),?_,?_,zr5 hn hk hO b HV.o,?_,(hbl.setCell (Nat.le_refl _) _).setCell (Nat.le_refl _) _⟩
 . intro j e
   rw [getD_set_ne _ _ _ _ (by omega),getD_set_ne _ _ _ _ (by omega)];exact HZ.o j (by omega)
 . intro j e
   obtain rfl:k+1=j:=by omega
   rw [getD_set_ne _ _ _ _ (by omega),zv (by simp;omega),List.getElem_set_self,zv hk]
 . have:=hblk.set_ (k+1) (.int .u32 ((da[k+1] / 2 ^ n:Nat):Int))
   rw [yZ] at this;have:=this.set_ k (.int .u32 ((O.getD k 0+2 ^ (32 - n)*(da[k+1] % 2 ^ n):Nat):Int))
   rwa [yZ] at this
theorem zr4 (A:Option Addr) (la ca n:Nat) (da:List Nat) (w:World) (hra:zV w w.heap.size 1 A la (XY da)) (hsa:zI 4294967296 da) (hla:la<=67108865) (hn:n<32):
 Calls Tryz.prog 167 #[.slice A la ca,.int .u64 n] w (zat w (val 4294967296 da / 2 ^ n)):=by
 obtain rfl:da.length=la:=by have:=hra.1;rw [Zh] at this;omega
 have ae:=fun w=>zdh .i64 da.length (by omega) w
 go_enter func167,ntmps167
 go_wp2
 go_loopw [13] (zhf da n w) (fun iv _=>da.length - (intOf iv).toNat)
 case atStart=>
  refine ⟨0,List.replicate da.length 0,by omega,rfl,by simp,zI.replicate (by omega) _,?_,?_,?_,Blk.new _ _ _,(Below.refl _ _).alloc (Nat.le_refl _) _⟩
  . intro j _
    rw [List.getD_eq_getElem?_getD,List.getElem?_replicate]
    split<;>rfl
  . intro j hj;omega
  . show _=_
    rw [List.take_zero,List.take_zero,Zc,Nat.zero_div]
 case round=>
  obtain ⟨k,O,hk,rfl,r,B,y,E,C,b,z⟩:=hrel
  have hg:=b.lt
  by_cases l:k<da.length
  rotate_left
  . obtain rfl:k=da.length:=by omega
    have L:=vV b;rw [r] at L
    have I:val 4294967296 O=val 4294967296 da / 2 ^ n:=by
     have h:=C.o
     rwa [List.take_length,List.take_of_length_le (by omega)] at h
    have U:=ze I;clear I C y E;go_wp2_with (go_at_call 138;refine (Yf _ _ _ _ _ _ L B (Nat.le_refl _) (by unfold maxLen;omega)).mono ?_;rintro e w' ⟨v,rfl,N,rfl⟩);go_ret;refine ⟨v,rfl,?_,z⟩;rw [<- U.o];exact N
  have G:k<O.length:=by omega
  have J:O[k]=0:=by rw [<- zv G];exact y.o k (Nat.le_refl _)
  have F:=(b.cell k).trans (xM G);rw [J] at F;have ab:=b.frozen k;obtain ⟨V,u,rfl,M,D,K⟩:=hra.at_ l;rw [xb l] at D;injection D with D
  subst D;have ad:=(z.cell (p:=V.add k) (by rw [zz];exact M)).trans K;clear K;have X:da[k]<4294967296:=hsa.get k l;have m:((2:Int) ^ n)=((2 ^ n:Nat):Int):=by rw [Int.natCast_pow];rfl
  have R:da[k] / 2 ^ n<4294967296:=by have:=Nat.div_le_self da[k] (2 ^ n);omega
  have Y:bits .or .u32 ((0:Nat):Int) ((da[k]:Int) / 2 ^ n)=((da[k] / 2 ^ n:Nat):Int):=by
   rw [m, <- Int.natCast_ediv,u32_or_nat _ _ (by omega) R,Nat.zero_or]
  rw [Int.natCast_zero] at Y F;clear m J
  by_cases ac:0<k
  rotate_left
  . go_wp2
    have m:((2:Int) ^ n)=((2 ^ n:Nat):Int):=by rw [Int.natCast_pow];rfl
    obtain rfl:k=0:=by omega
    go_roundw
    case rel=>exact zhf.mk0 l hn r B hsa y (znz l r) b z _ _ (by go_num) (by rw [m, <- Int.natCast_ediv])
    case measure=>simp [intOf];omega
  have Q:k - 1<O.length:=by omega
  have af:=(b.cell (k - 1)).trans (xM Q);have Z:=b.frozen (k - 1)
  by_cases aa:0<n
  rotate_left
  . obtain rfl:n=0:=by omega
    go_wp2;go_roundw
    case rel=>exact zhf.mk0 l hn r B hsa y (znv l r C.o) b z _ _ (by go_num) (by
     have h:=u32_or_nat 0 da[k] (by omega) X;rw [Nat.zero_or,Int.natCast_zero] at h;rw [Nat.pow_zero,Nat.div_one]
     exact congrArg _ h)
    case measure=>simp [intOf];omega
  go_wp2
  have m:((2:Int) ^ n)=((2 ^ n:Nat):Int):=by rw [Int.natCast_pow];rfl
  have S:((2:Int) ^ (32 - n))=((2 ^ (32 - n):Nat):Int):=by rw [Int.natCast_pow];rfl
  obtain ⟨j,rfl⟩:∃ j,k=j+1:=⟨k - 1,by omega⟩;have ho:O.getD j 0<2 ^ (32 - n):=by rw [E.o j rfl];exact VF hn (hsa.getD (by omega) j)
  have T:O.getD j 0<4294967296:=B.getD (by omega) j;go_roundw
  case rel=>
   refine zhf.mk1 l hn r B hsa y E C b z _ _ _ (by go_num) (by rw [m, <- Int.natCast_ediv]) ?_;refine congrArg (Value.int IntKind.u32) ?_;have e:=zu2 (x:=da[j+1]) hn ho;rw [S, <- Int.natCast_mul,show (4294967296:Int)=((4294967296:Nat):Int) by rfl, <- Int.natCast_emod, <- e, <- u32_or_nat _ _ T (Nat.mod_lt _ (by omega)),zv (show j<O.length by omega)]
   rfl
  case measure=>simp [intOf];omega
def Vb (w:World) (g:Nat) (pre win post:List Nat):Prop:=Blk w g 184 (y8 (pre ++ win ++ post))
theorem Vb.cell {w:World} {g:Nat} {pre win post:List Nat} (h:Vb w g pre win post) {k j:Nat} (hk:pre.length=k) (hj:j<win.length):w.cell? ⟨g,k+j,none⟩=some (.int .u32 (win[j]:Int)):=by
 subst hk
 have b:pre.length+j<(pre ++ win ++ post).length:=by simp;omega
 have:=(Blk.cell h (pre.length+j)).trans (xM b)
 rw [this]
 congr 3
 rw [List.getElem_append_left (by simp;omega),List.getElem_append_right (by omega)]
 simp
theorem Vb.frozen {w:World} {g:Nat} {pre win post:List Nat} (h:Vb w g pre win post) (k:Nat):w.frozen? ⟨g,k,none⟩=false:=Blk.frozen h k
theorem Vb.set_ {w:World} {g:Nat} {pre win post:List Nat} (h:Vb w g pre win post) {k j:Nat} (hk:pre.length=k) (hj:j<win.length) (d:Nat):Vb (w.setCell ⟨g,k+j,none⟩ (.int .u32 (d:Int))) g pre (win.set j d) post:=by
 subst hk
 have:=Blk.set_ h (pre.length+j) (.int .u32 (d:Int))
 rw [yZ] at this
 have e:(pre ++ win ++ post).set (pre.length+j) d=pre ++ win.set j d ++ post:=by
  rw [List.set_append_left _ _ (by simp;omega),List.set_append_right _ _ (by omega)]
  simp
 rw [e] at this
 exact this
theorem Vb.drewN {w:World} {g:Nat} {pre win post:List Nat} (h:Vb w g pre win post) (n:Nat):Vb (w.drewN n) g pre win post:=h
theorem znh {a w:World} {row:Option Nat} (h:a.grownBy w row) (n:Nat):a.grownBy (w.drewN n) row:=⟨h.os,h.tape,h.output,h.size,h.block⟩
theorem zg6 {a w:World} {row:Option Nat} (h:a.grownBy w row):a.grownBy w.drew row:=⟨h.os,h.tape,h.output,h.size,h.block⟩
theorem Z6 {a w:World} {g:Nat} (h:a.grownBy w (some g)) {p:Addr} (b:p.block=g\/a.heap.size<=p.block) (u:Value):a.grownBy (w.setCell p u) (some g):=
 ⟨h.os,h.tape,h.output,by simpa [World.setCell] using h.size,fun i hi hne=>(Below.heap_setCell w p u i (by
  rintro rfl
  rcases b with b | b
  . exact hne (by rw [b])
  . omega)).trans (h.block i hi hne)⟩
theorem zbv {a w:World} {g:Nat} (h:a.grownBy w (some g)) {p:Addr} (hp:p.block<a.heap.size) (hne:p.block≠g):w.cell? p=a.cell? p:=
 World.cell?_of_block (h.block p.block hp (fun e=>hne (by injection e)))
def ztt (w:World) (top v1 q:Nat) (dv rv:Value) (wr:World):Prop:=
 ∃ d r n:Nat,dv= .int .u64 d/\rv= .int .u64 r/\Hid (top=d*v1+r)/\q<=d/\d<=4294967297/\r<4294967296/\wr=w.drewN n
def zs7 (w:World) (q:Nat) (dv:Value) (wr:World):Prop:=∃ d n:Nat,dv= .int .u64 d/\q<=d/\d<=q+1/\wr=w.drewN n
def zs1 (w:World) (g d:Nat) (pre win post dv:List Nat) (cv bv iv:Value) (wr:World):Prop:=
 ∃ (i cy bo:Nat) (O:List Nat),i<=dv.length/\iv= .int .i64 i/\cv= .int .u64 cy/\bv= .int .u32 bo/\cy<4294967296/\bo<=1/\O.length=win.length/\zI 4294967296 O/\
  Hid (val 4294967296 (O.take i)+d*val 4294967296 (dv.take i)=val 4294967296 (win.take i)+(cy+bo)*4294967296 ^ i)/\Hid (∀ j,i<=j->O.getD j 0=win.getD j 0)/\
  Vb wr g pre O post/\w.grownBy wr (some g)
def zg5 (w:World) (g:Nat) (pre win post dv:List Nat) (bv iv:Value) (wr:World):Prop:=
 ∃ (i c:Nat) (O:List Nat),i<=dv.length/\iv= .int .i64 i/\bv= .int .u32 c/\c<=1/\O.length=win.length/\zI 4294967296 O/\
  Hid (val 4294967296 (O.take i)+c*4294967296 ^ i=val 4294967296 (win.take i)+val 4294967296 (dv.take i))/\Hid (∀ j,i<=j->O.getD j 0=win.getD j 0)/\
  Vb wr g pre O post/\w.grownBy wr (some g)
theorem zg5.drew {w wr:World} {g:Nat} {pre win post dv:List Nat} {bv iv:Value} (h:zg5 w g pre win post dv bv iv wr):zg5 w g pre win post dv bv iv wr.drew:=by
 obtain ⟨i,c,O,m,r,b,y,B,j,l,u,e,z⟩:=h
 exact ⟨i,c,O,m,r,b,y,B,j,l,u,e,zg6 z⟩
theorem Yt {O:List Nat} {i s:Nat} (hi:i<O.length):val 4294967296 ((O.set i s).take (i+1))=val 4294967296 (O.take i)+4294967296 ^ i*s:=by
 rw [vK _ _ _ hi,Yb,List.length_take,Nat.min_eq_left (by omega)]
theorem zs1.step {w wr:World} {g d i cy bo s b' k:Nat} {pre win post dv O:List Nat} (hi:i<dv.length) (hw:win.length=dv.length+1) (hd:d<=4294967296) (hcy:cy<4294967296) (hO:O.length=win.length) (hsO:zI 4294967296 O) (hsv:zI 4294967296 dv)
 (HV:Hid (val 4294967296 (O.take i)+d*val 4294967296 (dv.take i)=val 4294967296 (win.take i)+(cy+bo)*4294967296 ^ i)) (HS:Hid (∀ j,i<=j->O.getD j 0=win.getD j 0))
 (hwin:Vb wr g pre O post) (hgr:w.grownBy wr (some g)) (hk:pre.length=k) (hs:s<4294967296) (hb' :b' <=1) (HD:Hid (s+(cy+d*dv[i]) % 4294967296+bo=win.getD i 0+b' *4294967296))
 (cv bv iv sv:Value) (hcv:cv= .int .u64 (((cy+d*dv[i]) / 4294967296:Nat):Int)) (hbv:bv= .int .u32 (b' :Int)) (hiv:iv= .int .i64 ((i+1:Nat):Int)) (hsv' :sv= .int .u32 (s:Int)):
 zs1 w g d pre win post dv cv bv iv (wr.setCell ⟨g,k+i,none⟩ sv):=by
 subst hcv hbv hiv hsv'
 have l:=hsv.get i hi
 refine ⟨i+1,_,b',O.set i s,by omega,rfl,rfl,rfl,?_,hb',by simpa using hO,hsO.set _ _ hs,?_,?_,hwin.set_ hk (by omega) s,Z6 hgr (.inl rfl) _⟩
 . apply (Nat.div_lt_iff_lt_mul (by omega)).2
   have e:d*dv[i]<=4294967296*4294967295:=Nat.mul_le_mul hd (by omega)
   omega
 . show _=_
   rw [Yt (by omega),zO,zO,zv hi];exact zr6 (un:=dv[i]) (by omega) HD.o rfl HV.o
 . intro j b
   rw [getD_set_ne _ _ _ _ (by omega)];exact HS.o j (by omega)
theorem zg5.step {w wr:World} {g i c k:Nat} {pre win post dv O:List Nat} (hi:i<dv.length) (hw:win.length=dv.length+1) (hc:c<=1) (hO:O.length=win.length) (hsO:zI 4294967296 O) (hsv:zI 4294967296 dv)
 (HV:Hid (val 4294967296 (O.take i)+c*4294967296 ^ i=val 4294967296 (win.take i)+val 4294967296 (dv.take i))) (HS:Hid (∀ j,i<=j->O.getD j 0=win.getD j 0))
 (hwin:Vb wr g pre O post) (hgr:w.grownBy wr (some g)) (hk:pre.length=k) (x:Nat) (hx:x=O.getD i 0)
 (bv iv sv:Value) (hbv:bv= .int .u32 (((x+dv[i]+c) / 4294967296:Nat):Int)) (hiv:iv= .int .i64 ((i+1:Nat):Int)) (hsv' :sv= .int .u32 (((x+dv[i]+c) % 4294967296:Nat):Int)):
 zg5 w g pre win post dv bv iv (wr.setCell ⟨g,k+i,none⟩ sv):=by
 subst hbv hiv hsv'
 have l:=hsv.get i hi
 have m:x<4294967296:=by rw [hx];exact hsO.getD (by omega) i
 have b:x=win.getD i 0:=by rw [hx];exact HS.o i (Nat.le_refl _)
 refine ⟨i+1,_,O.set i ((x+dv[i]+c) % 4294967296),by omega,rfl,rfl,by omega,by simpa using hO,hsO.set _ _ (Nat.mod_lt _ (by omega)),?_,?_,hwin.set_ hk (by omega) _,Z6 hgr (.inl rfl) _⟩
 . show _=_
   rw [Yt (by omega),zO,zO,zv hi, <- b];have:=zf0 (x:=x) (y:=dv[i]) HV.o;rw [show c+x+dv[i]=x+dv[i]+c by omega] at this;exact this
 intro j e
 rw [getD_set_ne _ _ _ _ (by omega)];exact HS.o j (by omega)
theorem zm2 {win dv O:List Nat} {d cy bo s b' :Nat} (hw:win.length=dv.length+1) (hO:O.length=win.length)
 (HV:val 4294967296 (O.take dv.length)+d*val 4294967296 (dv.take dv.length)=val 4294967296 (win.take dv.length)+(cy+bo)*4294967296 ^ dv.length) (hs:s+cy+bo=win.getD dv.length 0+b' *4294967296):
 val 4294967296 (O.set dv.length s)+d*val 4294967296 dv=val 4294967296 win+b' *4294967296 ^ (dv.length+1):=by
 have e:val 4294967296 (O.set dv.length s)=val 4294967296 (O.take dv.length)+4294967296 ^ dv.length*s:=by
  rw [<- Yt (by omega),List.take_of_length_le (by simp;omega)]
 have b:val 4294967296 win=val 4294967296 (win.take dv.length)+4294967296 ^ dv.length*win.getD dv.length 0:=by
  rw [<- zO,List.take_of_length_le (by omega)]
 rw [List.take_length] at HV
 rw [e,b,Nat.pow_succ]
 have j:4294967296 ^ dv.length*(s+cy+bo)=4294967296 ^ dv.length*(win.getD dv.length 0+b' *4294967296):=by rw [hs]
 generalize 4294967296 ^ dv.length=P at*
 rw [Nat.mul_add,Nat.mul_add,Nat.mul_add,Nat.mul_comm b', <- Nat.mul_assoc,Nat.mul_comm _ b'] at j
 rw [Nat.add_mul,Nat.mul_comm cy,Nat.mul_comm bo] at HV
 omega
theorem zmv {win dv O:List Nat} {c r:Nat} (hw:win.length=dv.length+1) (hO:O.length=win.length) (hsO:zI 4294967296 O) (hsw:zI 4294967296 win)
 (HV:val 4294967296 (O.take dv.length)+c*4294967296 ^ dv.length=val 4294967296 (win.take dv.length)+val 4294967296 (dv.take dv.length)) (hc:c<=1)
 (hsum:val 4294967296 win+val 4294967296 dv=r+4294967296 ^ (dv.length+1)):
 val 4294967296 (O.set dv.length ((win.getD dv.length 0+c) % 4294967296))=r:=by
 have l:val 4294967296 (O.set dv.length ((win.getD dv.length 0+c) % 4294967296))=val 4294967296 (O.take dv.length)+4294967296 ^ dv.length*((win.getD dv.length 0+c) % 4294967296):=by
  rw [<- Yt (by omega),List.take_of_length_le (by simp;omega)]
 have j:val 4294967296 win=val 4294967296 (win.take dv.length)+4294967296 ^ dv.length*win.getD dv.length 0:=by
  rw [<- zO,List.take_of_length_le (by omega)]
 have z:val 4294967296 (O.take dv.length)<4294967296 ^ dv.length:=by
  have:=Xq (hsO.take dv.length)
  rwa [List.length_take,Nat.min_eq_left (by omega)] at this
 have B:=hsw.getD (by omega) dv.length
 rw [List.take_length] at HV
 rw [l]
 rw [j,Nat.pow_succ] at hsum
 generalize 4294967296 ^ dv.length=P at*
 generalize val 4294967296 (O.take dv.length)=L at*
 generalize win.getD dv.length 0=x at*
 generalize val 4294967296 (win.take dv.length)=W at*
 generalize val 4294967296 dv=V at*
 have m:L+P*(x+c)=r+P*4294967296:=by rw [Nat.mul_add,Nat.mul_comm P c];omega
 have u:4294967296<=x+c:=by
  rcases Nat.lt_or_ge (x+c) 4294967296 with h | h
  . exfalso
    have:P*(x+c+1)<=P*4294967296:=Nat.mul_le_mul_left _ h;rw [Nat.mul_add,Nat.mul_one] at this
    omega
  . exact h
 obtain ⟨y,e⟩:∃ y,x+c=y+4294967296:=⟨x+c - 4294967296,by omega⟩
 have b:(x+c) % 4294967296=y:=by omega
 rw [b]
 rw [e,Nat.mul_add] at m
 omega
theorem zng {win dv:List Nat} {m:Nat} (hm:2<=m) (hl:dv.length=m) (hw:win.length=m+1):
 val 4294967296 win=((win.getD m 0*4294967296+win.getD (m - 1) 0)*4294967296+win.getD (m - 2) 0)*4294967296 ^ (m - 2)+val 4294967296 (win.take (m - 2))/\
 val 4294967296 dv=(dv.getD (m - 1) 0*4294967296+dv.getD (m - 2) 0)*4294967296 ^ (m - 2)+val 4294967296 (dv.take (m - 2)):=by
 obtain ⟨k,rfl⟩:∃ k,m=k+2:=⟨m - 2,by omega⟩
 simp only [Nat.add_sub_cancel,show k+2 - 1=k+1 by omega]
 constructor
 rotate_left
 . have e:val 4294967296 dv=val 4294967296 (dv.take (k+1+1)):=by rw [List.take_of_length_le (by omega)]
   rw [e,zO,zO,Nat.pow_succ];generalize 4294967296 ^ k=P;simp only [Nat.mul_add,Nat.add_mul,Nat.mul_assoc,Nat.mul_comm,Nat.mul_left_comm]
   omega
 have e:val 4294967296 win=val 4294967296 (win.take (k+2+1)):=by rw [List.take_of_length_le (by omega)]
 have b:4294967296 ^ (k+1)=4294967296 ^ k*4294967296:=Nat.pow_succ _ _;have j:4294967296 ^ (k+2)=4294967296 ^ k*4294967296*4294967296:=by rw [Nat.pow_succ,Nat.pow_succ]
 rw [e,zO,zO,zO,j,b];generalize 4294967296 ^ k=P;simp only [Nat.mul_add,Nat.add_mul,Nat.mul_assoc,Nat.mul_comm,Nat.mul_left_comm]
 omega
end Go.Proofs.YthbmhkiphmcogaaGreatDoor
