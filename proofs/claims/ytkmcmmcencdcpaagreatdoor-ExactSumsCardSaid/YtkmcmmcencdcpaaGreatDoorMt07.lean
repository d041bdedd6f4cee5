/- Parts of the proof: memory, numbers, walks of the functions that are called. -/
import Derived.Test.YtkmcmmcencdcpaaGreatDoorMt04
import Derived.Test.YtkmcmmcencdcpaaGreatDoorMt06
set_option linter.unusedVariables false
set_option linter.unusedSimpArgs false
namespace Go.Proofs.YtkmcmmcencdcpaaGreatDoor
open Go.RowKit Go.Deep
def zq4 (da db:List Nat) (w:World) (bv iv:Value) (wr:World):Prop:=
 ∃ (k b:Nat) (O:List Nat),k<=da.length/\iv= .int .i64 k/\bv= .int .u32 b/\b<=1/\O.length=da.length/\zD 4294967296 O/\
  Hid (val 4294967296 (O.take k)+val 4294967296 (db.take k)=val 4294967296 (da.take k)+b*4294967296 ^ k)/\Blk wr w.heap.size 221 (yv O)/\Below w.heap.size w wr
theorem zq4.step {da db:List Nat} {w wr:World} {k b s b' :Nat} {O:List Nat} (hk:k<da.length) (hO:O.length=da.length) (hsO:zD 4294967296 O)
 (HV:Hid (val 4294967296 (O.take k)+val 4294967296 (db.take k)=val 4294967296 (da.take k)+b*4294967296 ^ k)) (hblk:Blk wr w.heap.size 221 (yv O)) (hbl:Below w.heap.size w wr)
 (hs:s<4294967296) (hb' :b' <=1) (HS:Hid (s+db.getD k 0+b=da.getD k 0+b' *4294967296)) (bv iv sv:Value) (hbv:bv= .int .u32 (b' :Int)) (hiv:iv= .int .i64 ((k+1:Nat):Int)) (hsv:sv= .int .u32 (s:Int)):
 zq4 da db w bv iv (wr.setCell ⟨w.heap.size,k,none⟩ sv):=by
 subst hbv hiv hsv
 refine ⟨k+1,b',O.set k s,by omega,rfl,rfl,hb',by simpa using hO,hsO.set _ _ hs,?_,?_,hbl.setCell (Nat.le_refl _) _⟩
 . rw [xQ _ _ _ (by omega),Zk,List.length_take,Nat.min_eq_left (by omega),zJ,zJ]
   exact zkt HV.out HS.out
 . have:=hblk.set_ k (.int .u32 (s:Int))
   rwa [yK] at this
theorem Zv (va vb:Value) (a b:Nat) (w:World) (ha:y6 w va a) (hb:y6 w vb b) (hla:len 4294967296 a<=67108864) (hle:b<=a):
 Calls Tryz.prog 181 #[va,vb] w (XL w (a - b)):=by
 obtain ⟨A,ca,da,rfl,h1,h2,hra,h4,rfl⟩:=ha
 obtain ⟨B,cb,db,rfl,k1,k2,hrb,k4,rfl⟩:=hb
 rw [<- h4.length_eq (by omega)] at hla
 have hlen:=k4.length_le (by omega) h4 hle
 have hsa:=h4.1
 have hsb:=k4.1
 have HLE:=ze hle
 clear hle h4 k4 h2 k2
 have hmk:=fun w=>zay .i64 da.length (by omega) w
 go_enter Tryz.func181,Tryz.ntmps181
 go_wp2
 go_loopw [6,14] (zq4 da db w) (fun _ iv _=>da.length - (intOf iv).toNat)
 case atStart=>
  exact ⟨0,0,List.replicate da.length 0,by omega,rfl,rfl,by omega,by simp,zD.replicate (by omega) _,by simp [Hid,val],Blk.new _ _ _,(Below.refl _ _).alloc (Nat.le_refl _) _⟩
 case round=>
  obtain ⟨k,b,O,hk,rfl,rfl,hb,hO,hsO,HV,hblk,hbl⟩:=hrel
  have hg:=hblk.lt
  by_cases hlt:k<da.length
  . have hcello:=(hblk.cell k).trans (xm (by omega))
    have hfr:=hblk.frozen k;obtain ⟨ada,u,rfl,hba,hx,hcell⟩:=hra.at_ hlt;rw [yQ hlt] at hx;injection hx with hx
    subst hx;have hcella:=(hbl.cell (p:=ada.add k) (by rw [zF];exact hba)).trans hcell;clear hcell;have hx1:da[k]<4294967296:=hsa.get k hlt
    by_cases hkb:k<db.length
    . obtain ⟨adb,u,rfl,hbb,hx,hcell⟩:=hrb.at_ hkb
      rw [yQ hkb] at hx;injection hx with hx
      subst hx;have hcellb:=(hbl.cell (p:=adb.add k) (by rw [zF];exact hbb)).trans hcell;clear hcell;have hy1:db[k]<4294967296:=hsb.get k hkb;go_wp2_with (go_at_call 212;refine (za9 da[k] db[k] b hx1 hy1 hb _).mono ?_;rintro e w' ⟨s,b',hs,hb',hsum,rfl,rfl⟩;have HS:=ze hsum;clear hsum);go_roundw
      case rel=>exact zq4.step hlt hO hsO HV hblk hbl hs hb' (by rw [zu hlt,zu hkb];exact HS) _ _ _ rfl (by go_num) rfl
      case measure=>simp [intOf];omega
    . go_wp2_with (go_at_call 212;refine (zqa da[k] b hx1 hb _).mono ?_;rintro e w' ⟨s,b',hs,hb',hsum,rfl,rfl⟩;have HS:=ze hsum;clear hsum)
      go_roundw
      case rel=>exact zq4.step hlt hO hsO HV hblk hbl hs hb' (by rw [zu hlt,yX (by omega)];exact HS) _ _ _ rfl (by go_num) rfl
      case measure=>simp [intOf];omega
  . obtain rfl:k=da.length:=by omega
    have hr1:=ve hblk;rw [hO] at hr1
    have hv1:val 4294967296 O=val 4294967296 da - val 4294967296 db:=by
     have h:=HV.out;have hle:=HLE.out;have hOl:=Yh hsO;rw [<- hO,List.take_length,hO,List.take_length,List.take_of_length_le hlen] at h;rw [hO] at hOl
     have:b=0:=by
      rcases Nat.lt_or_ge 0 b with h0 | h0
      . exfalso
        obtain rfl:b=1:=by omega
        omega
      . omega
     subst this
     omega
    have HV1:=ze hv1;clear hv1 HV;go_wp2_with (go_at_call 174;refine (Zr _ _ _ _ _ _ hr1 hsO (Nat.le_refl _) (by unfold maxLen;omega)).mono ?_;rintro e w' ⟨v,rfl,hnat,rfl⟩);go_ret;refine ⟨v,rfl,?_,hbl⟩;rw [<- HV1.out];exact hnat
def zso (da db:List Nat) (w:World) (iv:Value) (wr:World):Prop:=
 ∃ (k:Nat) (O:List Nat),k<=da.length/\iv= .int .i64 k/\O.length=da.length+db.length/\zD 4294967296 O/\
  Hid (val 4294967296 O=val 4294967296 (da.take k)*val 4294967296 db)/\Hid (∀ p,k+db.length<=p->O.getD p 0=0)/\Blk wr w.heap.size 221 (yv O)/\Below w.heap.size w wr
def zsg (da db:List Nat) (k x:Nat) (w:World) (cv jv:Value) (wr:World):Prop:=
 ∃ (j c:Nat) (O:List Nat),j<=db.length/\jv= .int .i64 j/\cv= .int .u64 c/\c<4294967296/\O.length=da.length+db.length/\zD 4294967296 O/\
  Hid (val 4294967296 O+c*(4294967296 ^ k*4294967296 ^ j)=val 4294967296 (da.take k)*val 4294967296 db+x*4294967296 ^ k*val 4294967296 (db.take j))/\
  Hid (∀ p,k+db.length<=p->O.getD p 0=0)/\Blk wr w.heap.size 221 (yv O)/\Below w.heap.size w wr
theorem getD_set_ne (O:List Nat) (i p d:Nat) (h:i≠p):(O.set i d).getD p 0=O.getD p 0:=by
 rw [List.getD_eq_getElem?_getD,List.getD_eq_getElem?_getD,List.getElem?_set_ne h]
theorem zsg.step {da db:List Nat} {w wr:World} {k x j c:Nat} {O:List Nat} (hk:k<da.length) (hj:j<db.length) (hc:c<4294967296) (hO:O.length=da.length+db.length) (hsO:zD 4294967296 O)
 (HV:Hid (val 4294967296 O+c*(4294967296 ^ k*4294967296 ^ j)=val 4294967296 (da.take k)*val 4294967296 db+x*4294967296 ^ k*val 4294967296 (db.take j)))
 (HZ:Hid (∀ p,k+db.length<=p->O.getD p 0=0)) (hblk:Blk wr w.heap.size 221 (yv O)) (hbl:Below w.heap.size w wr) (hx:x<4294967296) (hsb:zD 4294967296 db)
 (o:Nat) (ho:O[k+j]'(by omega)=o) (t:Nat) (ht:t=c+x*db[j]+o) (cv jv sv:Value) (hcv:cv= .int .u64 ((t / 4294967296:Nat):Int)) (hjv:jv= .int .i64 ((j+1:Nat):Int)) (hsv:sv= .int .u32 ((t % 4294967296:Nat):Int)):
 zsg da db k x w cv jv (wr.setCell ⟨w.heap.size,k+j,none⟩ sv):=by
 subst hcv hjv hsv ht
 have ho1:o<4294967296:=by rw [<- ho];exact hsO.get _ _
 have hb:=zfa hc hx (hsb.get j hj) ho1
 have hs:=zfo 4294967296 O (k+j) ((c+x*db[j]+o) % 4294967296) (by omega)
 rw [ho,Nat.pow_add] at hs
 refine ⟨j+1,_,O.set (k+j) ((c+x*db[j]+o) % 4294967296),by omega,rfl,rfl,(Nat.div_lt_iff_lt_mul (by omega)).2 hb,by simpa using hO,hsO.set _ _ (Nat.mod_lt _ (by omega)),?_,?_,?_,hbl.setCell (Nat.le_refl _) _⟩
 . rw [yH _ _ _ hj]
   exact zhs HV.out hs
 . intro p hp
   rw [getD_set_ne _ _ _ _ (by omega)];exact HZ.out p hp
 . have:=hblk.set_ (k+j) (.int .u32 (((c+x*db[j]+o) % 4294967296:Nat):Int))
   rwa [yK] at this
theorem zso.step {da db:List Nat} {w wr:World} {k c:Nat} {O:List Nat} (hk:k<da.length) (hc:c<4294967296) (hO:O.length=da.length+db.length) (hsO:zD 4294967296 O)
 (HV:Hid (val 4294967296 O+c*(4294967296 ^ k*4294967296 ^ db.length)=val 4294967296 (da.take k)*val 4294967296 db+da[k]*4294967296 ^ k*val 4294967296 (db.take db.length)))
 (HZ:Hid (∀ p,k+db.length<=p->O.getD p 0=0)) (hblk:Blk wr w.heap.size 221 (yv O)) (hbl:Below w.heap.size w wr)
 (iv sv:Value) (hiv:iv= .int .i64 ((k+1:Nat):Int)) (hsv:sv= .int .u32 (c:Int)):
 zso da db w iv (wr.setCell ⟨w.heap.size,k+db.length,none⟩ sv):=by
 subst hiv hsv
 have h0:=HZ.out (k+db.length) (Nat.le_refl _)
 rw [zu (by omega)] at h0
 have hs:=zfo 4294967296 O (k+db.length) c (by omega)
 rw [h0,Nat.mul_zero,Nat.add_zero,Nat.pow_add,Nat.mul_comm _ c] at hs
 refine ⟨k+1,O.set (k+db.length) c,by omega,rfl,by simpa using hO,hsO.set _ _ hc,?_,?_,?_,hbl.setCell (Nat.le_refl _) _⟩
 . have h:=HV.out
   rw [List.take_length] at h
   show val _ _=_
   rw [hs,h,yH _ _ _ hk,Nat.add_mul,Nat.mul_comm da[k]]
 . intro p hp
   rw [getD_set_ne _ _ _ _ (by omega)];exact HZ.out p (by omega)
 . have:=hblk.set_ (k+db.length) (.int .u32 (c:Int))
   rwa [yK] at this
theorem zab (va vb:Value) (a b:Nat) (w:World) (ha:y6 w va a) (hb:y6 w vb b) (hla:len 4294967296 a<=67108864) (hlb:len 4294967296 b<=67108864):
 Calls Tryz.prog 172 #[va,vb] w (XL w (a*b)):=by
 obtain ⟨A,ca,da,rfl,h1,h2,hra,h4,rfl⟩:=ha
 obtain ⟨B,cb,db,rfl,k1,k2,hrb,k4,rfl⟩:=hb
 rw [<- h4.length_eq (by omega)] at hla
 rw [<- k4.length_eq (by omega)] at hlb
 have hsa:=h4.1
 have hsb:=k4.1
 clear h4 k4 h2 k2
 have hmk:=fun w=>zay .i64 (da.length+db.length) (by omega) w
 rw [show ((da.length+db.length:Nat):Int)=(da.length:Int)+db.length by omega] at hmk
 go_enter Tryz.func172,Tryz.ntmps172
 go_wp2
 go_loopw [19] (zso da db w) (fun iv _=>da.length - (intOf iv).toNat)
 case atStart=>
  refine ⟨0,List.replicate (da.length+db.length) 0,by omega,rfl,by simp,zD.replicate (by omega) _,by rw [XQ,List.take_zero,vk,Nat.zero_mul];exact rfl,?_,Blk.new _ _ _,(Below.refl _ _).alloc (Nat.le_refl _) _⟩
  intro p _
  rw [List.getD_eq_getElem?_getD,List.getElem?_replicate]
  split<;>rfl
 case round=>
  obtain ⟨k,O,hk,rfl,hO,hsO,HV,HZ,hblk,hbl⟩:=hrel
  have hg:=hblk.lt
  by_cases hlt:k<da.length
  . obtain ⟨ada,u,rfl,hba,hx,hcell⟩:=hra.at_ hlt
    rw [yQ hlt] at hx;injection hx with hx
    subst hx;have hcella:=(hbl.cell (p:=ada.add k) (by rw [zF];exact hba)).trans hcell;clear hcell;have hx1:da[k]<4294967296:=hsa.get k hlt;go_wp2;obtain ⟨wo,ewo⟩:∃ wo:World,wo=wr:=⟨_,rfl⟩;subst ewo
    go_loopw [8,26] (zsg da db k da[k] w) (fun _ jv _=>db.length - (intOf jv).toNat)
    case atStart=>
     exact ⟨0,0,O,by omega,rfl,rfl,by omega,hO,hsO,by rw [List.take_zero,vk,Nat.zero_mul,Nat.mul_zero];exact HV,HZ,hblk,hbl⟩
    case round=>
     clear HV HZ hblk hbl hsO hcella;obtain ⟨j,c,O,hj,rfl,rfl,hc,hO,hsO,HV,HZ,hblk,hbl⟩:=hrel;have hg:=hblk.lt
     by_cases hjl:j<db.length
     . obtain ⟨adb,u,rfl,hbb,hx,hcell⟩:=hrb.at_ hjl
       rw [yQ hjl] at hx;injection hx with hx
       subst hx;have hcellb:=(hbl.cell (p:=adb.add j) (by rw [zF];exact hbb)).trans hcell;clear hcell;have hy1:db[j]<4294967296:=hsb.get j hjl;have hcello:=(hblk.cell (k+j)).trans (xm (by omega));have hfr:=hblk.frozen (k+j);have ho1:O[k+j]<4294967296:=hsO.get _ _;have hpr:da[k]*db[j]<=18446744065119617025:=Nat.le_trans (Nat.mul_le_mul (show da[k]<=4294967295 by omega) (show db[j]<=4294967295 by omega)) (by omega);have hpr' :(da[k]:Int)*(db[j]:Int)<=18446744065119617025:=by rw [<- Int.natCast_mul];omega
       have hpz:(0:Int)<=(da[k]:Int)*(db[j]:Int):=Int.mul_nonneg (by omega) (by omega);go_wp2;go_roundw
       case rel=>exact zsg.step hlt hjl hc hO hsO HV HZ hblk hbl hx1 hsb O[k+j] rfl _ rfl _ _ _ (by go_num) (by go_num) (by go_num)
       case measure=>simp [intOf];omega
     . obtain rfl:j=db.length:=by omega
       have hcello:=(hblk.cell (k+db.length)).trans (xm (by omega));have hfr:=hblk.frozen (k+db.length);go_wp2;go_roundw
       case rel=>exact zso.step hlt hc hO hsO HV HZ hblk hbl _ _ (by go_num) (by go_num)
       case measure=>simp [intOf];omega
  . obtain rfl:k=da.length:=by omega
    have hr1:=ve hblk;rw [hO] at hr1
    have hv1:val 4294967296 O=val 4294967296 da*val 4294967296 db:=by
     have h:=HV.out
     rwa [List.take_length] at h
    have HV1:=ze hv1;clear hv1 HV HZ;go_wp2_with (go_at_call 174;refine (Zr _ _ _ _ _ _ hr1 hsO (Nat.le_refl _) (by unfold maxLen;omega)).mono ?_;rintro e w' ⟨v,rfl,hnat,rfl⟩);go_ret;refine ⟨v,rfl,?_,hbl⟩;rw [<- HV1.out];exact hnat
def CmpR (da db:List Nat) (w:World) (iv:Value) (wr:World):Prop:=
 ∃ k m:Nat,k<=da.length/\iv= .int .i64 ((k:Int) - 1)/\Hid (∀ p,k<=p->da.getD p 0=db.getD p 0)/\wr=w.drewN m
theorem zrv {da db:List Nat} (hl:da.length=db.length) (hsa:zD 4294967296 da) (hsb:zD 4294967296 db) (k:Nat) (hk:k<da.length) (h:∀ p,k+1<=p->da.getD p 0=db.getD p 0) (hne:da.getD k 0≠db.getD k 0):
 zK (da.getD k 0) (db.getD k 0)=zK (val 4294967296 da) (val 4294967296 db):=by
 have hs:∀ j (h1:j<da.length) (h2:j<db.length),k<j->da[j]=db[j]:=by
  intro j h1 h2 hj
  have:=h j (by omega)
  rwa [zu h1,zu h2] at this
 rw [zu hk,zu (by omega)] at hne |-
 rcases Nat.lt_or_ge da[k] (db[k]'(by omega)) with h0 | h0
 . have:=XH hl hsa k hk hs h0
   unfold zK;rw [if_pos (by omega),if_pos (by omega)]
 . have h0' :db[k]'(by omega)<da[k]:=by omega
   have:=XH hl.symm hsb k (by omega) (fun j h1 h2 hj=>(hs j h2 h1 hj).symm) h0';unfold zK;rw [if_neg (by omega),if_pos (by omega),if_neg (by omega),if_pos (by omega)]
theorem X2 (va vb:Value) (a b:Nat) (w:World) (ha:y6 w va a) (hb:y6 w vb b) (hla:len 4294967296 a<=67108864) (hlb:len 4294967296 b<=67108864):
 Calls Tryz.prog 180 #[va,vb] w (RetD w (.int .i64 (zK a b))):=by
 obtain ⟨A,ca,da,rfl,h1,h2,hra,h4,rfl⟩:=ha
 obtain ⟨B,cb,db,rfl,k1,k2,hrb,k4,rfl⟩:=hb
 rw [<- h4.length_eq (by omega)] at hla
 rw [<- k4.length_eq (by omega)] at hlb
 have hsa:=h4.1
 have hsb:=k4.1
 by_cases hl:da.length=db.length
 . have hc:zK (da.length:Int) (db.length:Int)=0:=by unfold zK;rw [if_neg (by omega),if_neg (by omega)]
   have hv0:zK (val 4294967296 da) (val 4294967296 db)=zK (val 4294967296 da) (val 4294967296 db):=rfl;have HL:=ze hl;rw [<- hl] at hrb k1 hc |-;clear hl hv0
   go_enter Tryz.func180,Tryz.ntmps180
   go_wp2_with (go_at_call 210;refine (zhy _ _ _).mono ?_;rintro e w' ⟨rfl,rfl⟩)
   go_loopw [6] (CmpR da db w) (fun iv _=>(intOf iv+1).toNat)
   case atStart=>
    refine ⟨da.length,0,Nat.le_refl _,rfl,?_,rfl⟩;intro p hp;rw [yX hp,yX (by have:=HL.out;omega)]
   case round=>
    obtain ⟨k,m,hk,rfl,HV,rfl⟩:=hrel
    by_cases hk0:0<k
    . have hkl:k - 1<db.length:=by have:=HL.out;omega
      have hka:k - 1<da.length:=by omega
      obtain ⟨ada,u,rfl,hba,hx,hcella⟩:=hra.at_ (k:=k - 1) hka;rw [yQ hka] at hx;injection hx with hx
      subst hx;obtain ⟨adb,u,rfl,hbb,hx,hcellb⟩:=hrb.at_ (k:=k - 1) (by omega);rw [yQ hkl] at hx;injection hx with hx
      subst hx;have ea:da.getD (k - 1) 0=da[k - 1]:=zu hka;have eb:db.getD (k - 1) 0=db[k - 1]:=zu hkl;have hi:((k:Int) - 1).toNat=k - 1:=by omega
      by_cases hne:da.getD (k - 1) 0=db.getD (k - 1) 0
      . have HE:=ze hne
        have g0:((da[k - 1]:Int) != (db[k - 1]:Int))=false:=by rw [<- ea, <- eb,hne,bne_self_eq_false]
        clear hne ea eb;go_wp2
        go_quiet (fail)
        go_wp2;go_roundw
        case rel=>
         refine ⟨k - 1,m+nq,by omega,congrArg _ (by omega),?_,rfl⟩;intro p hp
         by_cases hpk:p=k - 1
         . subst hpk;exact HE.out
         . exact HV.out p (by omega)
        case measure=>simp [intOf];omega
      . have HE:=ze hne
        have g0:((da[k - 1]:Int) != (db[k - 1]:Int))=true:=by
         rw [<- ea, <- eb,bne_iff_ne];omega
        have HA:=ze ea;have HB:=ze eb;clear hne ea eb;go_wp2
        go_quiet (fail)
        go_wp2
        go_quiet ((go_at_call 211;first | exact znh (zhq _ _ _) | exact zpr (zhq _ _ _)))
        go_wp2;go_ret;refine ⟨?_,_,by rw [World.drewN_drewN,World.drewN_drewN]⟩;have hc1:=zrv HL.out hsa hsb (k - 1) (by omega) (fun p hp=>HV.out p (by omega)) HE.out;rw [HA.out,HB.out] at hc1;exact congrArg Ending.returned (congrArg (Value.int IntKind.i64) hc1)
    . obtain rfl:k=0:=by omega
      have hv1:zK (val 4294967296 da) (val 4294967296 db)=0:=by
       have:da=db:=by
        apply List.ext_getElem HL.out
        intro i h1 h2;have:=HV.out i (by omega)
        rwa [zu h1,zu h2] at this
       rw [this];unfold zK;rw [if_neg (by omega),if_neg (by omega)]
      have HV1:=ze hv1;clear hv1;go_wp2;go_ret;exact ⟨by rw [HV1.out];rfl,m,rfl⟩
 . have hc:(zK (da.length:Int) (db.length:Int) != 0)=true/\zK (da.length:Int) (db.length:Int)=zK (val 4294967296 da) (val 4294967296 db):=by
    unfold zK
    rcases Nat.lt_or_ge da.length db.length with h | h
    . have:=yJ.lt_of_length (by omega) h4.1 k4 h
      rw [if_pos (by omega),if_pos (by omega)];exact ⟨rfl,rfl⟩
    . have:=yJ.lt_of_length (by omega) k4.1 h4 (by omega)
      rw [if_neg (by omega),if_pos (by omega),if_neg (by omega),if_pos (by omega)];exact ⟨rfl,rfl⟩
   obtain ⟨hc0,hc1⟩:=hc;have HC:=ze hc1;clear hc1
   go_enter Tryz.func180,Tryz.ntmps180
   go_wp2_with (go_at_call 210;refine (zhy _ _ _).mono ?_;rintro e w' ⟨rfl,rfl⟩);go_ret;exact ⟨by rw [<- HC.out];rfl,0,rfl⟩
def zsj (da:List Nat) (d:Nat) (w:World) (rv iv:Value) (wr:World):Prop:=
 ∃ (k r:Nat) (O:List Nat),k<=da.length/\iv= .int .i64 ((k:Int) - 1)/\rv= .int .u64 r/\r<d/\O.length=da.length/\zD 4294967296 O/\
  Hid (val 4294967296 (da.drop k)=val 4294967296 (O.drop k)*d+r)/\Blk wr w.heap.size 221 (yv O)/\Below w.heap.size w wr
theorem zsj.step {da:List Nat} {d:Nat} {w wr:World} {k r:Nat} {O:List Nat} (hk:k<da.length) (hr:r<d) (hO:O.length=da.length) (hsO:zD 4294967296 O) (hsa:zD 4294967296 da)
 (HV:Hid (val 4294967296 (da.drop (k+1))=val 4294967296 (O.drop (k+1))*d+r)) (hblk:Blk wr w.heap.size 221 (yv O)) (hbl:Below w.heap.size w wr)
 (rv iv sv:Value) (hrv:rv= .int .u64 (((r*4294967296+da[k]) % d:Nat):Int)) (hiv:iv= .int .i64 ((k:Int) - 1)) (hsv:sv= .int .u32 (((r*4294967296+da[k]) / d:Nat):Int)):
 zsj da d w rv iv (wr.setCell ⟨w.heap.size,k,none⟩ sv):=by
 subst hrv hiv hsv
 obtain ⟨h1,h2⟩:=zid (by omega) hr (hsa.get k hk)
 refine ⟨k,_,O.set k ((r*4294967296+da[k]) / d),by omega,rfl,rfl,h2,by simpa using hO,hsO.set _ _ h1,?_,?_,hbl.setCell (Nat.le_refl _) _⟩
 . show val _ _=_
   rw [YO _ _ _ _ (by omega),Z5 _ _ _ hk];exact zqt HV.out
 . have:=hblk.set_ k (.int .u32 (((r*4294967296+da[k]) / d:Nat):Int))
   rwa [yK] at this
def zot (w:World) (q:Nat) (rv:Value) (e:Ending) (w' :World):Prop:=∃ v,e= .returned (.tuple #[v,rv])/\y6 w' v q/\Below w.heap.size w w'
theorem zhf (r x:Nat) (hr:r<4294967296) (hx:x<4294967296):bits .or .u64 ((r:Int)*4294967296) (x:Int)=((r*4294967296+x:Nat):Int):=by
 have:=u64_or_nat (r*4294967296) x (by omega) (by omega)
 rw [Int.natCast_mul] at this
 have h2:(2:Nat) ^ 32=4294967296:=by decide
 have h3:=zfj (n:=32) (a:=r) (b:=x) (by omega)
 rw [h2,Nat.mul_comm] at h3
 rw [h3] at this
 exact this
def zp8 (w:World) (q:Nat) (rv:Value) (e:Ending) (w' :World):Prop:=
 ∃ k c,e= .returned (.tuple #[.slice (some ⟨w.heap.size,0,none⟩) k c,rv])/\y6 w' (.slice (some ⟨w.heap.size,0,none⟩) k c) q/\w.heap.size<w'.heap.size/\Below w.heap.size w w'
theorem VG (va:Value) (a d:Nat) (w:World) (ha:y6 w va a) (hla:len 4294967296 a<=67108864) (hd0:0<d) (hd:d<4294967296):
 Calls Tryz.prog 199 #[va,.int .u32 d] w (zp8 w (a / d) (.int .u32 ((a % d:Nat):Int))):=by
 obtain ⟨A,ca,da,rfl,h1,h2,hra,h4,rfl⟩:=ha
 rw [<- h4.length_eq (by omega)] at hla
 have hsa:=h4.1
 clear h4 h2
 have hmk:=fun w=>zay .i64 da.length (by omega) w
 go_enter Tryz.func199,Tryz.ntmps199
 go_wp2
 go_loopw [7,8] (zsj da d w) (fun _ iv _=>(intOf iv+1).toNat)
 case atStart=>
  refine ⟨da.length,0,List.replicate da.length 0,Nat.le_refl _,rfl,rfl,hd0,by simp,zD.replicate (by omega) _,?_,Blk.new _ _ _,(Below.refl _ _).alloc (Nat.le_refl _) _⟩
  show val _ _=_
  rw [List.drop_length,List.drop_of_length_le (by simp),vk,Nat.zero_mul]
 case round=>
  obtain ⟨k,r,O,hk,rfl,rfl,hr,hO,hsO,HV,hblk,hbl⟩:=hrel
  have hg:=hblk.lt
  by_cases hk0:0<k
  . obtain ⟨k,rfl⟩:∃ j,k=j+1:=⟨k - 1,by omega⟩
    have hlt:k<da.length:=by omega
    have hlO:k<O.length:=by omega
    have hcello:=(hblk.cell k).trans (xm hlO);have hfr:=hblk.frozen k;obtain ⟨ada,u,rfl,hba,hx,hcell⟩:=hra.at_ hlt;rw [yQ hlt] at hx;injection hx with hx
    subst hx;have hcella:=(hbl.cell (p:=ada.add k) (by rw [zF];exact hba)).trans hcell;clear hcell;have hx1:da[k]<4294967296:=hsa.get k hlt;have hso:=zhf r da[k] (by omega) hx1;have e1:(((k+1:Nat):Int) - 1)=(k:Int):=by omega
    rw [e1];go_wp2;have e2:(r:Int)*4294967296+(da[k]:Int)=((r*4294967296+da[k]:Nat):Int):=by omega
    have hq:=(zid (β:=4294967296) (x:=da[k]) hd0 hr hx1).1;go_roundw
    case rel=>exact zsj.step hlt hr hO hsO hsa HV hblk hbl _ _ _ (by rw [e2, <- Int.natCast_emod]) rfl (by rw [e2, <- Int.natCast_ediv,show (4294967296:Int)=((4294967296:Nat):Int) by rfl, <- Int.natCast_emod,Nat.mod_eq_of_lt hq])
    case measure=>simp [intOf]<;>omega
  . obtain rfl:k=0:=by omega
    have hr1:=ve hblk;rw [hO] at hr1
    have hv1:val 4294967296 O=val 4294967296 da / d/\r=val 4294967296 da % d:=by
     have h:=HV.out;rw [List.drop_zero,List.drop_zero] at h;rw [h,Nat.mul_comm];exact ⟨by rw [Nat.mul_add_div hd0,Nat.div_eq_of_lt hr,Nat.add_zero],by rw [Nat.mul_add_mod,Nat.mod_eq_of_lt hr]⟩
    have HV1:=ze hv1;clear hv1 HV;go_wp2_with (go_at_call 174;refine (zb7 _ _ _ _ _ _ hr1 hsO (Nat.le_refl _) (by unfold maxLen;omega)).mono ?_;rintro e w' ⟨k,hk1,rfl,hcan,hval,rfl⟩;have HCN:=ze hcan;have HVL:=ze hval;clear hcan hval);go_ret2;refine ⟨k,da.length,by rw [<- HV1.out.2];rfl,?_,hg,hbl⟩;rw [<- HV1.out.1, <- HVL.out];have hlk:(O.take k).length=k:=by rw [List.length_take];omega
    refine ⟨_,da.length,O.take k,by rw [hlk],by omega,by unfold maxLen;omega,?_,HCN.out,rfl⟩;have:=hr1.head (k:=k) (by omega);rw [hlk, <- zan]
    simpa using this
theorem zft (va:Value) (a d:Nat) (w:World) (ha:y6 w va a) (hla:len 4294967296 a<=67108864) (hd0:0<d) (hd:d<4294967296):
 Calls Tryz.prog 199 #[va,.int .u32 d] w (zot w (a / d) (.int .u32 ((a % d:Nat):Int))):=by
 refine (VG va a d w ha hla hd0 hd).mono ?_
 rintro e w' ⟨k,c,rfl,h1,_,h2⟩
 exact ⟨_,rfl,h1,h2⟩
def UpR (da:List Nat) (n:Nat) (w:World) (iv:Value) (wr:World):Prop:=
 ∃ (k:Nat) (O:List Nat),k<=da.length/\iv= .int .i64 k/\O.length=da.length+1/\zD 4294967296 O/\O.getD k 0<2 ^ n/\
  Hid (val 4294967296 (O.take k)+4294967296 ^ k*O.getD k 0=val 4294967296 (da.take k)*2 ^ n)/\Blk wr w.heap.size 221 (yv O)/\Below w.heap.size w wr
theorem yZ {n:Nat} (hn:n<32):2 ^ n*2 ^ (32 - n)=4294967296:=by
 rw [<- Nat.pow_add,show n+(32 - n)=32 by omega]
theorem zq9 {n o x:Nat} (hn:n<32) (ho:o<2 ^ n):o ||| (x*2 ^ n % 4294967296)=o+x*2 ^ n % 4294967296:=by
 have e:x*2 ^ n % 4294967296=2 ^ n*(x % 2 ^ (32 - n)):=by
  rw [<- yZ hn];exact zg0 (Nat.two_pow_pos n)
 rw [e,V5 ho]
theorem zj2 {n o x:Nat} (hn:n<32) (ho:o<2 ^ n):o+x*2 ^ n % 4294967296<4294967296:=by
 have e:x*2 ^ n % 4294967296=2 ^ n*(x % 2 ^ (32 - n)):=by
  rw [<- yZ hn];exact zg0 (Nat.two_pow_pos n)
 have h2:x % 2 ^ (32 - n)<2 ^ (32 - n):=Nat.mod_lt _ (Nat.two_pow_pos _)
 have h3:2 ^ n*(x % 2 ^ (32 - n)+1)<=2 ^ n*2 ^ (32 - n):=Nat.mul_le_mul_left _ h2
 rw [yZ hn,Nat.mul_add,Nat.mul_one] at h3
 omega
theorem zk2 {n x:Nat} (hn:n<32) (hx:x<4294967296):x*2 ^ n / 4294967296<2 ^ n:=by
 apply (Nat.div_lt_iff_lt_mul (by omega)).2
 rw [Nat.mul_comm]
 exact Nat.mul_lt_mul_of_pos_left hx (Nat.two_pow_pos n)
theorem Vu {n:Nat} (hn:n<32):2 ^ n<=2147483648:=by
 have:2 ^ n<=2 ^ 31:=Nat.pow_le_pow_right (by omega) (by omega)
 exact this
theorem UpR.step {da:List Nat} {n:Nat} {w wr:World} {k:Nat} {O:List Nat} (hk:k<da.length) (hn:n<32) (hO:O.length=da.length+1) (hsO:zD 4294967296 O) (hsa:zD 4294967296 da) (hlow:O.getD k 0<2 ^ n)
 (HV:Hid (val 4294967296 (O.take k)+4294967296 ^ k*O.getD k 0=val 4294967296 (da.take k)*2 ^ n)) (hblk:Blk wr w.heap.size 221 (yv O)) (hbl:Below w.heap.size w wr)
 (iv s1 s2:Value) (hiv:iv= .int .i64 ((k+1:Nat):Int)) (hs1:s1= .int .u32 ((O.getD k 0+da[k]*2 ^ n % 4294967296:Nat):Int)) (hs2:s2= .int .u32 ((da[k]*2 ^ n / 4294967296:Nat):Int)):
 UpR da n w iv ((wr.setCell ⟨w.heap.size,k,none⟩ s1).setCell ⟨w.heap.size,k+1,none⟩ s2):=by
 subst hiv hs1 hs2
 have hx:=hsa.get k hk
 have hh:=zk2 hn hx
 have h2n:=Vu hn
 have hl1:((O.set k (O.getD k 0+da[k]*2 ^ n % 4294967296)).set (k+1) (da[k]*2 ^ n / 4294967296)).length=da.length+1:=by simpa using hO
 have hg:((O.set k (O.getD k 0+da[k]*2 ^ n % 4294967296)).set (k+1) (da[k]*2 ^ n / 4294967296)).getD (k+1) 0=da[k]*2 ^ n / 4294967296:=by
  rw [zu (by omega),List.getElem_set_self]
 refine ⟨k+1,(O.set k (O.getD k 0+da[k]*2 ^ n % 4294967296)).set (k+1) (da[k]*2 ^ n / 4294967296),by omega,rfl,hl1,(hsO.set _ _ (zj2 hn hlow)).set _ _ (by omega),by rw [hg];exact hh,?_,?_,(hbl.setCell (Nat.le_refl _) _).setCell (Nat.le_refl _) _⟩
 . show _+_=_
   rw [hg,List.take_set_of_le (Nat.le_refl _),xQ _ _ _ (by omega),Zk,List.length_take,Nat.min_eq_left (by omega),yH _ _ _ hk];exact zql HV.out
 . have:=(hblk.set_ k (.int .u32 ((O.getD k 0+da[k]*2 ^ n % 4294967296:Nat):Int)))
   rw [yK] at this;have:=this.set_ (k+1) (.int .u32 ((da[k]*2 ^ n / 4294967296:Nat):Int))
   rwa [yK] at this
def zf9 (w:World) (n a:Nat) (e:Ending) (w' :World):Prop:=
 ∃ O:List Nat,e= .returned (.slice (some ⟨w.heap.size,0,none⟩) n n)/\O.length=n/\zD 4294967296 O/\val 4294967296 O=a/\Blk w' w.heap.size 221 (yv O)/\Below w.heap.size w w'
theorem zap (va:Value) (a n:Nat) (w:World) (ha:y6 w va a) (hla:len 4294967296 a<=67108864) (hn:n<32):
 Calls Tryz.prog 233 #[va,.int .u64 n] w (zf9 w (len 4294967296 a+1) (a*2 ^ n)):=by
 obtain ⟨A,ca,da,rfl,h1,h2,hra,h4,rfl⟩:=ha
 rw [<- h4.length_eq (by omega)] at hla |-
 have hsa:=h4.1
 clear h4 h2
 have hmk:=fun w=>zay .i64 (da.length+1) (by omega) w
 rw [show ((da.length+1:Nat):Int)=(da.length:Int)+1 by omega] at hmk
 go_enter Tryz.func233,Tryz.ntmps233
 go_wp2
 go_loopw [14] (UpR da n w) (fun iv _=>da.length - (intOf iv).toNat)
 case atStart=>
  refine ⟨0,List.replicate (da.length+1) 0,by omega,rfl,by simp,zD.replicate (by omega) _,?_,?_,Blk.new _ _ _,(Below.refl _ _).alloc (Nat.le_refl _) _⟩
  . rw [zu (by simp),List.getElem_replicate];exact Nat.two_pow_pos n
  . show _+_=_
    rw [zu (by simp),List.getElem_replicate,List.take_zero,List.take_zero,vk,Nat.mul_zero,Nat.zero_mul]
 case round=>
  obtain ⟨k,O,hk,rfl,hO,hsO,hlow,HV,hblk,hbl⟩:=hrel
  have hg:=hblk.lt
  by_cases hlt:k<da.length
  . have hlO:k<O.length:=by omega
    have hlO1:k+1<O.length:=by omega
    have hcello:=(hblk.cell k).trans (xm hlO);have hfr:=hblk.frozen k;obtain ⟨ada,u,rfl,hba,hx,hcell⟩:=hra.at_ hlt;rw [yQ hlt] at hx;injection hx with hx
    subst hx;have hcella:=(hbl.cell (p:=ada.add k) (by rw [zF];exact hba)).trans hcell;clear hcell;have hx1:da[k]<4294967296:=hsa.get k hlt;have hcello1:=(hblk.cell (k+1)).trans (xm hlO1);have hfr1:=hblk.frozen (k+1);rw [zu hlO] at hlow;have h2n:=Vu hn;have hpn:((2:Int) ^ n)=((2 ^ n:Nat):Int):=by rw [Int.natCast_pow];rfl
    have hpr:da[k]*2 ^ n<=9223372034707292160:=Nat.le_trans (Nat.mul_le_mul (show da[k]<=4294967295 by omega) h2n) (by omega)
    have hw:IntKind.u64.wrap ((da[k]:Int)*2 ^ n)=((da[k]*2 ^ n:Nat):Int):=by
     rw [hpn, <- Int.natCast_mul,IntKind.wrap_u64];omega
    have hso:bits .or .u32 (O[k]:Int) ((da[k]:Int)*2 ^ n % 4294967296)=((O[k]+da[k]*2 ^ n % 4294967296:Nat):Int):=by
     rw [hpn, <- Int.natCast_mul,show (4294967296:Int)=((4294967296:Nat):Int) by rfl, <- Int.natCast_emod,u32_or_nat _ _ (hsO.get _ _) (Nat.mod_lt _ (by omega)),zq9 hn hlow]
    clear hpn;go_wp2;have hpn:((2:Int) ^ n)=((2 ^ n:Nat):Int):=by rw [Int.natCast_pow];rfl
    have hhi:=zk2 hn hx1;go_roundw
    case rel=>
     refine UpR.step hlt hn hO hsO hsa (by rw [zu hlO];exact hlow) HV hblk hbl _ _ _ (by go_num) ?_ ?_
     . rw [zu hlO,hpn]
       exact congrArg _ (by omega)
     . rw [hpn, <- Int.natCast_mul]
       exact congrArg _ (by omega)
    case measure=>simp [intOf];omega
  . obtain rfl:k=da.length:=by omega
    go_wp2;go_ret;refine ⟨O,rfl,hO,hsO,?_,hblk,hbl⟩;have h:=HV.out;rw [List.take_length, <- zJ,List.take_of_length_le (by omega)] at h;exact h
def zd6 (da:List Nat) (n:Nat) (w:World) (iv:Value) (wr:World):Prop:=
 ∃ (k:Nat) (O:List Nat),k<=da.length/\iv= .int .i64 k/\O.length=da.length/\zD 4294967296 O/\Hid (∀ j,k<=j->O.getD j 0=0)/\Hid (∀ j,k=j+1->O.getD j 0=da.getD j 0 / 2 ^ n)/\
  Hid (val 4294967296 (O.take k)=val 4294967296 (da.take k) / 2 ^ n)/\Blk wr w.heap.size 221 (yv O)/\Below w.heap.size w wr
theorem Xm {n x:Nat} (hn:n<32) (hx:x<4294967296):x / 2 ^ n<2 ^ (32 - n):=by
 apply (Nat.div_lt_iff_lt_mul (Nat.two_pow_pos n)).2
 rw [Nat.mul_comm,yZ hn];exact hx
theorem zpg {n o x:Nat} (hn:n<32) (ho:o<2 ^ (32 - n)):o ||| (x*2 ^ (32 - n) % 4294967296)=o+2 ^ (32 - n)*(x % 2 ^ n):=by
 have e:x*2 ^ (32 - n) % 4294967296=2 ^ (32 - n)*(x % 2 ^ n):=by
  rw [<- yZ hn,Nat.mul_comm (2 ^ n)];exact zg0 (Nat.two_pow_pos _)
 rw [e,V5 ho]
theorem zi6 {n o x:Nat} (hn:n<32) (ho:o<2 ^ (32 - n)):o+2 ^ (32 - n)*(x % 2 ^ n)<4294967296:=by
 have h2:x % 2 ^ n<2 ^ n:=Nat.mod_lt _ (Nat.two_pow_pos _)
 have h3:2 ^ (32 - n)*(x % 2 ^ n+1)<=2 ^ (32 - n)*2 ^ n:=Nat.mul_le_mul_left _ h2
 rw [Nat.mul_comm _ (2 ^ n),yZ hn,Nat.mul_add,Nat.mul_one] at h3
 omega
theorem zol {da O:List Nat} {n k:Nat} (hn:n<32) (hk:k+1<da.length) (hO:O.length=da.length)
 (hp:O.getD k 0=da.getD k 0 / 2 ^ n) (HV:val 4294967296 (O.take (k+1))=val 4294967296 (da.take (k+1)) / 2 ^ n):
 val 4294967296 (((O.set (k+1) (da[k+1] / 2 ^ n)).set k (O.getD k 0+2 ^ (32 - n)*(da[k+1] % 2 ^ n))).take (k+2))=val 4294967296 (da.take (k+2)) / 2 ^ n:=by
 have hl:((O.set (k+1) (da[k+1] / 2 ^ n)).set k (O.getD k 0+2 ^ (32 - n)*(da[k+1] % 2 ^ n))).length=da.length:=by simpa using hO
 have g1:((O.set (k+1) (da[k+1] / 2 ^ n)).set k (O.getD k 0+2 ^ (32 - n)*(da[k+1] % 2 ^ n))).getD (k+1) 0=da[k+1] / 2 ^ n:=by
  rw [getD_set_ne _ _ _ _ (by omega),zu (by simp;omega),List.getElem_set_self]
 have g0:((O.set (k+1) (da[k+1] / 2 ^ n)).set k (O.getD k 0+2 ^ (32 - n)*(da[k+1] % 2 ^ n))).getD k 0=O.getD k 0+2 ^ (32 - n)*(da[k+1] % 2 ^ n):=by
  rw [zu (by simp;omega),List.getElem_set_self]
 rw [zJ _ _ (k+1),g1,zJ _ _ k,g0,List.take_set_of_le (by omega),List.take_set_of_le (by omega),yH _ _ (k+1) hk]
 rw [zJ] at HV
 have h1:=zlm (s:=2 ^ n) (t:=2 ^ (32 - n)) (i:=k) (A:=val 4294967296 (da.take (k+1))) (x:=da[k+1]) (Nat.two_pow_pos _) (Nat.two_pow_pos _)
 rw [yZ hn] at h1
 have h2:=zik (s:=2 ^ n) (t:=2 ^ (32 - n)) (x:=da[k+1]) (Nat.two_pow_pos _)
 rw [yZ hn] at h2
 rw [h1, <- HV,h2,Nat.pow_succ]
 generalize 2 ^ (32 - n)*(da[k+1] % 2 ^ n)=z
 generalize da[k+1] / 2 ^ n=y
 generalize 4294967296 ^ k=P
 generalize val 4294967296 (List.take k O)=V
 generalize O.getD k 0=o
 rw [Nat.mul_add,Nat.mul_add,Nat.mul_assoc]
 omega
theorem zjz {da O:List Nat} {k:Nat} (hk:k<da.length) (hO:O.length=da.length) (HV:val 4294967296 (O.take k)=val 4294967296 (da.take k) / 2 ^ 0):
 val 4294967296 ((O.set k (da[k] / 2 ^ 0)).take (k+1))=val 4294967296 (da.take (k+1)) / 2 ^ 0:=by
 rw [xQ _ _ _ (by omega),Zk,List.length_take,Nat.min_eq_left (by omega),HV,yH _ _ _ hk]
 simp only [Nat.pow_zero,Nat.div_one]
theorem zka {da O:List Nat} {n:Nat} (hk:0<da.length) (hO:O.length=da.length):val 4294967296 ((O.set 0 (da[0] / 2 ^ n)).take (0+1))=val 4294967296 (da.take (0+1)) / 2 ^ n:=by
 rw [xQ _ _ _ (by omega),yH _ _ _ hk]
 simp [val]
theorem zd6.mk0 {da:List Nat} {n:Nat} {w wr:World} {k:Nat} {O:List Nat} (hk:k<da.length) (hn:n<32) (hO:O.length=da.length) (hsO:zD 4294967296 O) (hsa:zD 4294967296 da)
 (HZ:Hid (∀ j,k<=j->O.getD j 0=0)) (hv:val 4294967296 ((O.set k (da[k] / 2 ^ n)).take (k+1))=val 4294967296 (da.take (k+1)) / 2 ^ n) (hblk:Blk wr w.heap.size 221 (yv O)) (hbl:Below w.heap.size w wr)
 (iv s1:Value) (hiv:iv= .int .i64 ((k+1:Nat):Int)) (hs1:s1= .int .u32 ((da[k] / 2 ^ n:Nat):Int)):zd6 da n w iv (wr.setCell ⟨w.heap.size,k,none⟩ s1):=by
 subst hiv hs1
 have hx:=hsa.get k hk
 have hq:da[k] / 2 ^ n<=da[k]:=Nat.div_le_self _ _
 refine ⟨k+1,O.set k (da[k] / 2 ^ n),by omega,rfl,by simpa using hO,hsO.set _ _ (by omega),?_,?_,hv,?_,hbl.setCell (Nat.le_refl _) _⟩
 . intro j hj
   rw [getD_set_ne _ _ _ _ (by omega)];exact HZ.out j (by omega)
 . intro j hj
   obtain rfl:k=j:=by omega
   rw [zu (by simp;omega),List.getElem_set_self,zu hk]
 . have:=hblk.set_ k (.int .u32 ((da[k] / 2 ^ n:Nat):Int))
   rwa [yK] at this
theorem zd6.mk1 {da:List Nat} {n:Nat} {w wr:World} {k:Nat} {O:List Nat} (hk:k+1<da.length) (hn:n<32) (hO:O.length=da.length) (hsO:zD 4294967296 O) (hsa:zD 4294967296 da)
 (HZ:Hid (∀ j,k+1<=j->O.getD j 0=0)) (HP:Hid (∀ j,k+1=j+1->O.getD j 0=da.getD j 0 / 2 ^ n)) (HV:Hid (val 4294967296 (O.take (k+1))=val 4294967296 (da.take (k+1)) / 2 ^ n))
 (hblk:Blk wr w.heap.size 221 (yv O)) (hbl:Below w.heap.size w wr)
 (iv s1 s2:Value) (hiv:iv= .int .i64 ((k+1+1:Nat):Int)) (hs1:s1= .int .u32 ((da[k+1] / 2 ^ n:Nat):Int)) (hs2:s2= .int .u32 ((O.getD k 0+2 ^ (32 - n)*(da[k+1] % 2 ^ n):Nat):Int)):
 zd6 da n w iv ((wr.setCell ⟨w.heap.size,k+1,none⟩ s1).setCell ⟨w.heap.size,k,none⟩ s2):=by
 subst hiv hs1 hs2
 have hx:=hsa.get (k+1) hk
 have hq:da[k+1] / 2 ^ n<=da[k+1]:=Nat.div_le_self _ _
 have hp:=HP.out k rfl
 have ho:O.getD k 0<2 ^ (32 - n):=by rw [hp];exact Xm hn (hsa.getD (by omega) k)
 refine ⟨k+1+1,(O.set (k+1) (da[k+1] / 2 ^ n)).set k (O.getD k 0+2 ^ (32 - n)*(da[k+1] % 2 ^ n)),by omega,rfl,by simpa using hO,(hsO.set _ _ (by omega)).set _ _ (zi6 hn ho),?_,?_,zol hn hk hO hp HV.out,?_,(hbl.setCell (Nat.le_refl _) _).setCell (Nat.le_refl _) _⟩
 . intro j hj
   rw [getD_set_ne _ _ _ _ (by omega),getD_set_ne _ _ _ _ (by omega)];exact HZ.out j (by omega)
 . intro j hj
   obtain rfl:k+1=j:=by omega
   rw [getD_set_ne _ _ _ _ (by omega),zu (by simp;omega),List.getElem_set_self,zu hk]
 . have:=hblk.set_ (k+1) (.int .u32 ((da[k+1] / 2 ^ n:Nat):Int))
   rw [yK] at this;have:=this.set_ k (.int .u32 ((O.getD k 0+2 ^ (32 - n)*(da[k+1] % 2 ^ n):Nat):Int))
   rwa [yK] at this
theorem znw (A:Option Addr) (la ca n:Nat) (da:List Nat) (w:World) (hra:zY w w.heap.size 1 A la (YE da)) (hsa:zD 4294967296 da) (hla:la<=67108865) (hn:n<32):
 Calls Tryz.prog 235 #[.slice A la ca,.int .u64 n] w (XL w (val 4294967296 da / 2 ^ n)):=by
 obtain rfl:da.length=la:=by have:=hra.1;rw [vm] at this;omega
 have hmk:=fun w=>zay .i64 da.length (by omega) w
 go_enter Tryz.func235,Tryz.ntmps235
 go_wp2
 go_loopw [13] (zd6 da n w) (fun iv _=>da.length - (intOf iv).toNat)
 case atStart=>
  refine ⟨0,List.replicate da.length 0,by omega,rfl,by simp,zD.replicate (by omega) _,?_,?_,?_,Blk.new _ _ _,(Below.refl _ _).alloc (Nat.le_refl _) _⟩
  . intro j _
    rw [List.getD_eq_getElem?_getD,List.getElem?_replicate]
    split<;>rfl
  . intro j hj;omega
  . show _=_
    rw [List.take_zero,List.take_zero,vk,Nat.zero_div]
 case round=>
  obtain ⟨k,O,hk,rfl,hO,hsO,HZ,HP,HV,hblk,hbl⟩:=hrel
  have hg:=hblk.lt
  by_cases hlt:k<da.length
  . have hlO:k<O.length:=by omega
    have hz:O[k]=0:=by rw [<- zu hlO];exact HZ.out k (Nat.le_refl _)
    have hcello:=(hblk.cell k).trans (xm hlO);rw [hz] at hcello;have hfr:=hblk.frozen k;obtain ⟨ada,u,rfl,hba,hx,hcell⟩:=hra.at_ hlt;rw [yQ hlt] at hx;injection hx with hx
    subst hx;have hcella:=(hbl.cell (p:=ada.add k) (by rw [zF];exact hba)).trans hcell;clear hcell;have hx1:da[k]<4294967296:=hsa.get k hlt;have hpn:((2:Int) ^ n)=((2 ^ n:Nat):Int):=by rw [Int.natCast_pow];rfl
    have hq:da[k] / 2 ^ n<4294967296:=by have:=Nat.div_le_self da[k] (2 ^ n);omega
    have hso:bits .or .u32 ((0:Nat):Int) ((da[k]:Int) / 2 ^ n)=((da[k] / 2 ^ n:Nat):Int):=by
     rw [hpn, <- Int.natCast_ediv,u32_or_nat _ _ (by omega) hq,Nat.zero_or]
    rw [Int.natCast_zero] at hso hcello;clear hpn hz
    by_cases hk0:0<k
    . have hlO1:k - 1<O.length:=by omega
      have hcello1:=(hblk.cell (k - 1)).trans (xm hlO1);have hfr1:=hblk.frozen (k - 1)
      by_cases hn0:0<n
      . go_wp2
        have hpn:((2:Int) ^ n)=((2 ^ n:Nat):Int):=by rw [Int.natCast_pow];rfl
        have hpm:((2:Int) ^ (32 - n))=((2 ^ (32 - n):Nat):Int):=by rw [Int.natCast_pow];rfl
        obtain ⟨j,rfl⟩:∃ j,k=j+1:=⟨k - 1,by omega⟩;have ho:O.getD j 0<2 ^ (32 - n):=by rw [HP.out j rfl];exact Xm hn (hsa.getD (by omega) j)
        have ho1:O.getD j 0<4294967296:=hsO.getD (by omega) j;go_roundw
        case rel=>
         refine zd6.mk1 hlt hn hO hsO hsa HZ HP HV hblk hbl _ _ _ (by go_num) (by rw [hpn, <- Int.natCast_ediv]) ?_;refine congrArg (Value.int IntKind.u32) ?_;have e:=zpg (x:=da[j+1]) hn ho;rw [hpm, <- Int.natCast_mul,show (4294967296:Int)=((4294967296:Nat):Int) by rfl, <- Int.natCast_emod, <- e, <- u32_or_nat _ _ ho1 (Nat.mod_lt _ (by omega)),zu (show j<O.length by omega)]
         rfl
        case measure=>simp [intOf];omega
      . obtain rfl:n=0:=by omega
        go_wp2;go_roundw
        case rel=>exact zd6.mk0 hlt hn hO hsO hsa HZ (zjz hlt hO HV.out) hblk hbl _ _ (by go_num) (by
         have h:=u32_or_nat 0 da[k] (by omega) hx1;rw [Nat.zero_or,Int.natCast_zero] at h;rw [Nat.pow_zero,Nat.div_one]
         exact congrArg _ h)
        case measure=>simp [intOf];omega
    . go_wp2
      have hpn:((2:Int) ^ n)=((2 ^ n:Nat):Int):=by rw [Int.natCast_pow];rfl
      obtain rfl:k=0:=by omega
      go_roundw
      case rel=>exact zd6.mk0 hlt hn hO hsO hsa HZ (zka hlt hO) hblk hbl _ _ (by go_num) (by rw [hpn, <- Int.natCast_ediv])
      case measure=>simp [intOf];omega
  . obtain rfl:k=da.length:=by omega
    have hr1:=ve hblk;rw [hO] at hr1
    have hv1:val 4294967296 O=val 4294967296 da / 2 ^ n:=by
     have h:=HV.out
     rwa [List.take_length,List.take_of_length_le (by omega)] at h
    have HV1:=ze hv1;clear hv1 HV HZ HP;go_wp2_with (go_at_call 174;refine (Zr _ _ _ _ _ _ hr1 hsO (Nat.le_refl _) (by unfold maxLen;omega)).mono ?_;rintro e w' ⟨v,rfl,hnat,rfl⟩);go_ret;refine ⟨v,rfl,?_,hbl⟩;rw [<- HV1.out];exact hnat
def YF (w:World) (g:Nat) (pre win post:List Nat):Prop:=Blk w g 221 (yv (pre ++ win ++ post))
theorem YF.cell {w:World} {g:Nat} {pre win post:List Nat} (h:YF w g pre win post) {k j:Nat} (hk:pre.length=k) (hj:j<win.length):w.cell? ⟨g,k+j,none⟩=some (.int .u32 (win[j]:Int)):=by
 subst hk
 have hl:pre.length+j<(pre ++ win ++ post).length:=by simp;omega
 have:=(Blk.cell h (pre.length+j)).trans (xm hl)
 rw [this]
 congr 3
 rw [List.getElem_append_left (by simp;omega),List.getElem_append_right (by omega)]
 simp
theorem YF.frozen {w:World} {g:Nat} {pre win post:List Nat} (h:YF w g pre win post) (k:Nat):w.frozen? ⟨g,k,none⟩=false:=Blk.frozen h k
theorem YF.set_ {w:World} {g:Nat} {pre win post:List Nat} (h:YF w g pre win post) {k j:Nat} (hk:pre.length=k) (hj:j<win.length) (d:Nat):YF (w.setCell ⟨g,k+j,none⟩ (.int .u32 (d:Int))) g pre (win.set j d) post:=by
 subst hk
 have:=Blk.set_ h (pre.length+j) (.int .u32 (d:Int))
 rw [yK] at this
 have e:(pre ++ win ++ post).set (pre.length+j) d=pre ++ win.set j d ++ post:=by
  rw [List.set_append_left _ _ (by simp;omega),List.set_append_right _ _ (by omega)]
  simp
 rw [e] at this
 exact this
theorem YF.drewN {w:World} {g:Nat} {pre win post:List Nat} (h:YF w g pre win post) (n:Nat):YF (w.drewN n) g pre win post:=h
theorem zin {a w:World} {row:Option Nat} (h:a.grownBy w row) (n:Nat):a.grownBy (w.drewN n) row:=⟨h.os,h.tape,h.output,h.size,h.block⟩
theorem zeg {a w:World} {row:Option Nat} (h:a.grownBy w row):a.grownBy w.drew row:=⟨h.os,h.tape,h.output,h.size,h.block⟩
theorem vR {a w:World} {g:Nat} (h:a.grownBy w (some g)) {p:Addr} (hp:p.block=g\/a.heap.size<=p.block) (u:Value):a.grownBy (w.setCell p u) (some g):=
 ⟨h.os,h.tape,h.output,by simpa [World.setCell] using h.size,fun i hi hne=>(Below.heap_setCell w p u i (by
  rintro rfl
  rcases hp with hp | hp
  . exact hne (by rw [hp])
  . omega)).trans (h.block i hi hne)⟩
theorem Vg {a w:World} {g:Nat} (h:a.grownBy w (some g)) {p:Addr} (hp:p.block<a.heap.size) (hne:p.block≠g):w.cell? p=a.cell? p:=
 World.cell?_of_block (h.block p.block hp (fun e=>hne (by injection e)))
def zou (w:World) (top v1 q:Nat) (dv rv:Value) (wr:World):Prop:=
 ∃ d r n:Nat,dv= .int .u64 d/\rv= .int .u64 r/\Hid (top=d*v1+r)/\q<=d/\d<=4294967297/\r<4294967296/\wr=w.drewN n
def zoz (w:World) (q:Nat) (dv:Value) (wr:World):Prop:=∃ d n:Nat,dv= .int .u64 d/\q<=d/\d<=q+1/\wr=w.drewN n
def zm6 (w:World) (g d:Nat) (pre win post dv:List Nat) (cv bv iv:Value) (wr:World):Prop:=
 ∃ (i cy bo:Nat) (O:List Nat),i<=dv.length/\iv= .int .i64 i/\cv= .int .u64 cy/\bv= .int .u32 bo/\cy<4294967296/\bo<=1/\O.length=win.length/\zD 4294967296 O/\
  Hid (val 4294967296 (O.take i)+d*val 4294967296 (dv.take i)=val 4294967296 (win.take i)+(cy+bo)*4294967296 ^ i)/\Hid (∀ j,i<=j->O.getD j 0=win.getD j 0)/\
  YF wr g pre O post/\w.grownBy wr (some g)
def zdz (w:World) (g:Nat) (pre win post dv:List Nat) (bv iv:Value) (wr:World):Prop:=
 ∃ (i c:Nat) (O:List Nat),i<=dv.length/\iv= .int .i64 i/\bv= .int .u32 c/\c<=1/\O.length=win.length/\zD 4294967296 O/\
  Hid (val 4294967296 (O.take i)+c*4294967296 ^ i=val 4294967296 (win.take i)+val 4294967296 (dv.take i))/\Hid (∀ j,i<=j->O.getD j 0=win.getD j 0)/\
  YF wr g pre O post/\w.grownBy wr (some g)
theorem zdz.drew {w wr:World} {g:Nat} {pre win post dv:List Nat} {bv iv:Value} (h:zdz w g pre win post dv bv iv wr):zdz w g pre win post dv bv iv wr.drew:=by
 obtain ⟨i,c,O,h1,h2,h3,h4,h5,h6,h7,h8,h9,h10⟩:=h
 exact ⟨i,c,O,h1,h2,h3,h4,h5,h6,h7,h8,h9,zeg h10⟩
theorem Z4 {O:List Nat} {i s:Nat} (hi:i<O.length):val 4294967296 ((O.set i s).take (i+1))=val 4294967296 (O.take i)+4294967296 ^ i*s:=by
 rw [xQ _ _ _ hi,Zk,List.length_take,Nat.min_eq_left (by omega)]
theorem zm6.step {w wr:World} {g d i cy bo s b' k:Nat} {pre win post dv O:List Nat} (hi:i<dv.length) (hw:win.length=dv.length+1) (hd:d<=4294967296) (hcy:cy<4294967296) (hO:O.length=win.length) (hsO:zD 4294967296 O) (hsv:zD 4294967296 dv)
 (HV:Hid (val 4294967296 (O.take i)+d*val 4294967296 (dv.take i)=val 4294967296 (win.take i)+(cy+bo)*4294967296 ^ i)) (HS:Hid (∀ j,i<=j->O.getD j 0=win.getD j 0))
 (hwin:YF wr g pre O post) (hgr:w.grownBy wr (some g)) (hk:pre.length=k) (hs:s<4294967296) (hb' :b' <=1) (HD:Hid (s+(cy+d*dv[i]) % 4294967296+bo=win.getD i 0+b' *4294967296))
 (cv bv iv sv:Value) (hcv:cv= .int .u64 (((cy+d*dv[i]) / 4294967296:Nat):Int)) (hbv:bv= .int .u32 (b' :Int)) (hiv:iv= .int .i64 ((i+1:Nat):Int)) (hsv' :sv= .int .u32 (s:Int)):
 zm6 w g d pre win post dv cv bv iv (wr.setCell ⟨g,k+i,none⟩ sv):=by
 subst hcv hbv hiv hsv'
 have hv:=hsv.get i hi
 refine ⟨i+1,_,b',O.set i s,by omega,rfl,rfl,rfl,?_,hb',by simpa using hO,hsO.set _ _ hs,?_,?_,hwin.set_ hk (by omega) s,vR hgr (.inl rfl) _⟩
 . apply (Nat.div_lt_iff_lt_mul (by omega)).2
   have h1:d*dv[i]<=4294967296*4294967295:=Nat.mul_le_mul hd (by omega)
   omega
 . show _=_
   rw [Z4 (by omega),zJ,zJ,zu hi];exact znn (un:=dv[i]) (by omega) HD.out rfl HV.out
 . intro j hj
   rw [getD_set_ne _ _ _ _ (by omega)];exact HS.out j (by omega)
theorem zdz.step {w wr:World} {g i c k:Nat} {pre win post dv O:List Nat} (hi:i<dv.length) (hw:win.length=dv.length+1) (hc:c<=1) (hO:O.length=win.length) (hsO:zD 4294967296 O) (hsv:zD 4294967296 dv)
 (HV:Hid (val 4294967296 (O.take i)+c*4294967296 ^ i=val 4294967296 (win.take i)+val 4294967296 (dv.take i))) (HS:Hid (∀ j,i<=j->O.getD j 0=win.getD j 0))
 (hwin:YF wr g pre O post) (hgr:w.grownBy wr (some g)) (hk:pre.length=k) (x:Nat) (hx:x=O.getD i 0)
 (bv iv sv:Value) (hbv:bv= .int .u32 (((x+dv[i]+c) / 4294967296:Nat):Int)) (hiv:iv= .int .i64 ((i+1:Nat):Int)) (hsv' :sv= .int .u32 (((x+dv[i]+c) % 4294967296:Nat):Int)):
 zdz w g pre win post dv bv iv (wr.setCell ⟨g,k+i,none⟩ sv):=by
 subst hbv hiv hsv'
 have hv:=hsv.get i hi
 have hx1:x<4294967296:=by rw [hx];exact hsO.getD (by omega) i
 have hxw:x=win.getD i 0:=by rw [hx];exact HS.out i (Nat.le_refl _)
 refine ⟨i+1,_,O.set i ((x+dv[i]+c) % 4294967296),by omega,rfl,rfl,by omega,by simpa using hO,hsO.set _ _ (Nat.mod_lt _ (by omega)),?_,?_,hwin.set_ hk (by omega) _,vR hgr (.inl rfl) _⟩
 . show _=_
   rw [Z4 (by omega),zJ,zJ,zu hi, <- hxw];have:=zda (x:=x) (y:=dv[i]) HV.out;rw [show c+x+dv[i]=x+dv[i]+c by omega] at this;exact this
 . intro j hj
   rw [getD_set_ne _ _ _ _ (by omega)];exact HS.out j (by omega)
theorem zi3 {win dv O:List Nat} {d cy bo s b' :Nat} (hw:win.length=dv.length+1) (hO:O.length=win.length)
 (HV:val 4294967296 (O.take dv.length)+d*val 4294967296 (dv.take dv.length)=val 4294967296 (win.take dv.length)+(cy+bo)*4294967296 ^ dv.length) (hs:s+cy+bo=win.getD dv.length 0+b' *4294967296):
 val 4294967296 (O.set dv.length s)+d*val 4294967296 dv=val 4294967296 win+b' *4294967296 ^ (dv.length+1):=by
 have e1:val 4294967296 (O.set dv.length s)=val 4294967296 (O.take dv.length)+4294967296 ^ dv.length*s:=by
  rw [<- Z4 (by omega),List.take_of_length_le (by simp;omega)]
 have e2:val 4294967296 win=val 4294967296 (win.take dv.length)+4294967296 ^ dv.length*win.getD dv.length 0:=by
  rw [<- zJ,List.take_of_length_le (by omega)]
 rw [List.take_length] at HV
 rw [e1,e2,Nat.pow_succ]
 have h2:4294967296 ^ dv.length*(s+cy+bo)=4294967296 ^ dv.length*(win.getD dv.length 0+b' *4294967296):=by rw [hs]
 generalize 4294967296 ^ dv.length=P at*
 rw [Nat.mul_add,Nat.mul_add,Nat.mul_add,Nat.mul_comm b', <- Nat.mul_assoc,Nat.mul_comm _ b'] at h2
 rw [Nat.add_mul,Nat.mul_comm cy,Nat.mul_comm bo] at HV
 omega
theorem ziy {win dv O:List Nat} {c r:Nat} (hw:win.length=dv.length+1) (hO:O.length=win.length) (hsO:zD 4294967296 O) (hsw:zD 4294967296 win)
 (HV:val 4294967296 (O.take dv.length)+c*4294967296 ^ dv.length=val 4294967296 (win.take dv.length)+val 4294967296 (dv.take dv.length)) (hc:c<=1)
 (hsum:val 4294967296 win+val 4294967296 dv=r+4294967296 ^ (dv.length+1)):
 val 4294967296 (O.set dv.length ((win.getD dv.length 0+c) % 4294967296))=r:=by
 have e1:val 4294967296 (O.set dv.length ((win.getD dv.length 0+c) % 4294967296))=val 4294967296 (O.take dv.length)+4294967296 ^ dv.length*((win.getD dv.length 0+c) % 4294967296):=by
  rw [<- Z4 (by omega),List.take_of_length_le (by simp;omega)]
 have e2:val 4294967296 win=val 4294967296 (win.take dv.length)+4294967296 ^ dv.length*win.getD dv.length 0:=by
  rw [<- zJ,List.take_of_length_le (by omega)]
 have hlow:val 4294967296 (O.take dv.length)<4294967296 ^ dv.length:=by
  have:=Yh (hsO.take dv.length)
  rwa [List.length_take,Nat.min_eq_left (by omega)] at this
 have hx:=hsw.getD (by omega) dv.length
 rw [List.take_length] at HV
 rw [e1]
 rw [e2,Nat.pow_succ] at hsum
 generalize 4294967296 ^ dv.length=P at*
 generalize val 4294967296 (O.take dv.length)=L at*
 generalize win.getD dv.length 0=x at*
 generalize val 4294967296 (win.take dv.length)=W at*
 generalize val 4294967296 dv=V at*
 have h1:L+P*(x+c)=r+P*4294967296:=by rw [Nat.mul_add,Nat.mul_comm P c];omega
 have h2:4294967296<=x+c:=by
  rcases Nat.lt_or_ge (x+c) 4294967296 with h | h
  . exfalso
    have:P*(x+c+1)<=P*4294967296:=Nat.mul_le_mul_left _ h;rw [Nat.mul_add,Nat.mul_one] at this
    omega
  . exact h
 obtain ⟨y,hy⟩:∃ y,x+c=y+4294967296:=⟨x+c - 4294967296,by omega⟩
 have h3:(x+c) % 4294967296=y:=by omega
 rw [h3]
 rw [hy,Nat.mul_add] at h1
 omega
theorem ziv {win dv:List Nat} {m:Nat} (hm:2<=m) (hl:dv.length=m) (hw:win.length=m+1):
 val 4294967296 win=((win.getD m 0*4294967296+win.getD (m - 1) 0)*4294967296+win.getD (m - 2) 0)*4294967296 ^ (m - 2)+val 4294967296 (win.take (m - 2))/\
 val 4294967296 dv=(dv.getD (m - 1) 0*4294967296+dv.getD (m - 2) 0)*4294967296 ^ (m - 2)+val 4294967296 (dv.take (m - 2)):=by
 obtain ⟨k,rfl⟩:∃ k,m=k+2:=⟨m - 2,by omega⟩
 simp only [Nat.add_sub_cancel,show k+2 - 1=k+1 by omega]
 constructor
 . have e:val 4294967296 win=val 4294967296 (win.take (k+2+1)):=by rw [List.take_of_length_le (by omega)]
   have p1:4294967296 ^ (k+1)=4294967296 ^ k*4294967296:=Nat.pow_succ _ _;have p2:4294967296 ^ (k+2)=4294967296 ^ k*4294967296*4294967296:=by rw [Nat.pow_succ,Nat.pow_succ]
   rw [e,zJ,zJ,zJ,p2,p1];generalize 4294967296 ^ k=P;simp only [Nat.mul_add,Nat.add_mul,Nat.mul_assoc,Nat.mul_comm,Nat.mul_left_comm]
   omega
 . have e:val 4294967296 dv=val 4294967296 (dv.take (k+1+1)):=by rw [List.take_of_length_le (by omega)]
   rw [e,zJ,zJ,Nat.pow_succ];generalize 4294967296 ^ k=P;simp only [Nat.mul_add,Nat.add_mul,Nat.mul_assoc,Nat.mul_comm,Nat.mul_left_comm]
   omega
end Go.Proofs.YtkmcmmcencdcpaaGreatDoor
