/- Parts of the proof. -/
import Derived.Deep.CutBlock
import Derived.Deep.DeepCutAuto
import Derived.Deep.RegionWith
import Derived.StillTailTactics
import Derived.Test.YthbmhkiphmcogaaGreatDoorMe05
set_option linter.all false
namespace Go.Proofs.YthbmhkiphmcogaaGreatDoor
open Proofs.Tryz Go.RowKit Go.Deep
theorem ze3 {w:World} {q top v1 v2 u2 d r:Nat} (HE:Hid (∀ d r,top=d*v1+r->d*v2<=r*4294967296+u2->d<=q+1)) (HST:Hid (top=(d - 1)*v1+(r+v1)\/d=0)) (hk:q<d) (hd:d<=4294967297) (hv2:v2<4294967296)
 (hr:4294967296<=r+v1) (n:Nat):zs7 w q (.int .u64 ((d:Int) - 1)) (w.drewN n):=by
 have b:=HST.o.resolve_right (by omega)
 have e:=HE.o (d - 1) (r+v1) b (zi4 hv2 (by omega) hr)
 exact ⟨d - 1,n,by congr 1;omega,by omega,e,rfl⟩
theorem zl0 {w:World} {q top v1 d r:Nat} (HST:Hid (top=(d - 1)*v1+(r+v1)\/d=0)) (hk:q<d) (hd:d<=4294967297) (hr:r+v1<4294967296) (n:Nat) (rv:Value) (hrv:rv= .int .u64 ((r:Int)+v1)):
 ztt w top v1 q (.int .u64 ((d:Int) - 1)) rv (w.drewN n):=by
 have b:=HST.o.resolve_right (by omega)
 exact ⟨d - 1,r+v1,n,by congr 1;omega,by rw [hrv];congr 1,b,by omega,by omega,hr,rfl⟩
def zry (w:World) (g:Nat) (pre win post:List Nat) (q r:Nat) (e:Ending) (w' :World):Prop:=
 ∃ O:List Nat,e= .returned (.int .u32 (q:Int))/\O.length=win.length/\zI 4294967296 O/\val 4294967296 O=r/\Vb w' g pre O post/\w.grownBy w' (some g)
set_option maxHeartbeats 1600000 in
set_option maxRecDepth 100000 in
theorem zp1 (g k m c cv:Nat) (pre win post dv:List Nat) (V:Option Addr) (w:World) (hk:pre.length=k) (hm:2<=m) (hmm:m<=67108864) (hlw:win.length=m+1) (hlv:dv.length=m) (hsw:zI 4294967296 win) (hsv:zI 4294967296 dv)
 (hwin:Vb w g pre win post) (hrv:zV w w.heap.size 1 V m (XY dv)) (hne:∀ ad,V=some ad->ad.block≠g) (hv1:2147483648<=dv.getD (m - 1) 0) (B:val 4294967296 win<4294967296*val 4294967296 dv) (hkk:k<=67108864) (hc:m+1<=c):
 Calls Tryz.prog 166 #[.slice (some ⟨g,k,none⟩) (m+1) c,.slice V m cv] w (zry w g pre win post (val 4294967296 win / val 4294967296 dv) (val 4294967296 win % val 4294967296 dv)):=by
 obtain ⟨ak,u,rfl,a2,b,a9⟩:=hrv.at_ (k:=m - 1) (by omega)
 have am:m - 1<dv.length:=by omega
 have ay:m - 2<dv.length:=by omega
 have aI:m - 1<win.length:=by omega
 have aG:m - 2<win.length:=by omega
 have aL:m<win.length:=by omega
 rw [xb am] at b
 injection b with b
 subst b
 have a0:=hne ak rfl
 have aA:w.cell? (ak.add (m - 2))=some (.int .u32 (dv[m - 2]:Int)):=by
  obtain ⟨bm,u,e,_,b,aA⟩:=hrv.at_ (k:=m - 2) (by omega)
  injection e with e
  subst e
  rw [xb ay] at b
  injection b with b
  rw [aA, <- b]
 have hg:=Blk.lt hwin
 have bb:=hwin.cell hk aL
 have F:=hwin.cell hk aI
 have aD:=hwin.cell hk aG
 have b0:win[m]<4294967296:=hsw.get m aL
 have b1:win[m - 1]<4294967296:=hsw.get _ aI
 have b2:win[m - 2]<4294967296:=hsw.get _ aG
 have v1:dv[m - 1]<4294967296:=hsv.get _ am
 have v2:dv[m - 2]<4294967296:=hsv.get _ ay
 rw [zv am] at hv1
 have a8:((m:Int) - 1).toNat=m - 1:=by omega
 have bd:((m:Int) - 2).toNat=m - 2:=by omega
 have bf:=zlw win[m] win[m - 1] b0 b1
 obtain ⟨Q,R⟩:=zng hm hlv hlw
 rw [zv aL,zv aI,zv aG] at Q
 rw [zv am,zv ay] at R
 have aK:val 4294967296 (win.take (m - 2))<4294967296 ^ (m - 2):=by
  have:=Xq (hsw.take (m - 2));rwa [List.length_take,Nat.min_eq_left (by omega)] at this
 have aM:val 4294967296 (dv.take (m - 2))<4294967296 ^ (m - 2):=by
  have:=Xq (hsv.take (m - 2));rwa [List.length_take,Nat.min_eq_left (by omega)] at this
 have aC:0<val 4294967296 dv:=by
  rcases Nat.eq_zero_or_pos (val 4294967296 dv) with e | e
  . rw [e] at B;omega
  . exact e
 have aV:val 4294967296 win / val 4294967296 dv<4294967296:=(Nat.div_lt_iff_lt_mul aC).2 B
 have HK:Hid (∀ d r,win[m]*4294967296+win[m - 1]=d*dv[m - 1]+r->(4294967296<=d\/r*4294967296+win[m - 2]<d*dv[m - 2])->val 4294967296 win / val 4294967296 dv<d):=
  fun d r T h2=>zm6 T Q R aK B h2
 have U:Hid (∀ d r,win[m]*4294967296+win[m - 1]=d*dv[m - 1]+r->d*dv[m - 2]<=r*4294967296+win[m - 2]->d<=val 4294967296 win / val 4294967296 dv+1):=
  fun d r T h2=>znt T Q R aM B (by omega) h2
 have aW:=zjx Q R b2 aK (show 0<dv[m - 1] by omega)
 have aR:=zrb Q R v2 aM B
 have ar:=Nat.div_add_mod (win[m]*4294967296+win[m - 1]) dv[m - 1]
 have a3:=Nat.mod_lt (win[m]*4294967296+win[m - 1]) (show 0<dv[m - 1] by omega)
 have aP:=zjp (by omega) aR b1 (by rw [Nat.mul_comm _ dv[m - 1]];exact ar.symm) a3
 have K:Hid (val 4294967296 win / val 4294967296 dv<4294967296/\0<val 4294967296 dv):=⟨aV,aC⟩
 have H0:Hid (val 4294967296 win / val 4294967296 dv<=(win[m]*4294967296+win[m - 1]) / dv[m - 1]/\(win[m]*4294967296+win[m - 1]) / dv[m - 1]<=4294967297/\
  win[m]*4294967296+win[m - 1]=(win[m]*4294967296+win[m - 1]) / dv[m - 1]*dv[m - 1]+(win[m]*4294967296+win[m - 1]) % dv[m - 1]/\(win[m]*4294967296+win[m - 1]) % dv[m - 1]<4294967296):=
  ⟨aW,aP,by rw [Nat.mul_comm _ dv[m - 1]];exact ar.symm,by omega⟩
 clear Q R aK aM aC aV aW aR ar a3 aP B
 obtain ⟨q,hq⟩:∃ q,q=val 4294967296 win / val 4294967296 dv:=⟨_,rfl⟩
 obtain ⟨rm,aF⟩:∃ rm,rm=val 4294967296 win % val 4294967296 dv:=⟨_,rfl⟩
 rw [<- hq] at HK U K H0 |-
 rw [<- aF]
 have N:=ze hq
 have HM:=ze aF
 clear hq aF
 go_enter func166,ntmps166
 go_wp2
 go_quiet (fail)
 go_upto_block 0 with fail
 go_cut [7] (fun s7 wx=>zs7 w q s7 wx)
 case first=>
  go_wp2_with fail
  go_loopw [7,8] (ztt w (win[m]*4294967296+win[m - 1]) dv[m - 1] q) (fun dv _ _=>(intOf dv).toNat)
  case atStart=>
   have e2:(win[m]:Int)*4294967296+(win[m - 1]:Int)=((win[m]*4294967296+win[m - 1]:Nat):Int):=by omega
   obtain ⟨T,h2,h3,h4⟩:=H0.o;exact ⟨_,_,_,by rw [e2, <- Int.natCast_ediv],by rw [e2, <- Int.natCast_emod],h3,T,h2,h4,rfl⟩
  case round=>
   obtain ⟨d,r,n,rfl,rfl,HT,ai,C,aS,rfl⟩:=hrel
   have aT:win[m]*4294967296+win[m - 1]=(d - 1)*dv[m - 1]+(r+dv[m - 1])\/d=0:=by
    rcases Nat.eq_zero_or_pos d with h | h
    . exact .inr h
    . refine .inl (HT.o.trans ?_)
      obtain ⟨e,rfl⟩:∃ e,d=e+1:=⟨d - 1,by omega⟩;rw [Nat.add_sub_cancel,Nat.add_mul,Nat.one_mul];omega
   have aq:=ze aT;clear aT
   by_cases M:4294967296<=d\/r*4294967296+win[m - 2]<d*dv[m - 2]
   rotate_left
   . have a1:d*dv[m - 2]<=r*4294967296+win[m - 2]:=by
      rcases Nat.lt_or_ge (r*4294967296+win[m - 2]) (d*dv[m - 2]) with h | h
      . exact absurd (.inr h) M
      . exact h
     have B:d<4294967296:=by
      rcases Nat.lt_or_ge d 4294967296 with h | h
      . exact h
      . exact absurd (.inl h) M
     have al:=U.o d r HT.o a1;have X:=zlw r win[m - 2] aS b2;have az:bits .or .u64 ((r:Int)*4294967296) (win[m - 2]:Int)=(r:Int)*4294967296+win[m - 2]:=by rw [X];omega
     clear X M;have aa:¬ (4294967296:Int)<=(d:Int):=by omega
     have aw:decide ((4294967296:Int)<=(d:Int))=false:=by rw [decide_eq_false_iff_not];omega
     have aQ:¬ (r:Int)*4294967296+(win[m - 2]:Int)<(d:Int)*(dv[m - 2]:Int):=by rw [<- Int.natCast_mul];omega
     have aH:d*dv[m - 2]<=18446744073709551615:=by omega
     have bh:(d:Int)*(dv[m - 2]:Int)<=18446744073709551615:=by rw [<- Int.natCast_mul];omega
     have ba:(0:Int)<=(d:Int)*(dv[m - 2]:Int):=by rw [<- Int.natCast_mul];omega
     clear aH a1 B;go_wp2
     go_quiet (fail)
     clear aa aw;go_wp2_with fail;go_meet;exact ⟨d,_,rfl,ai,al,by rw [World.drewN_drewN]⟩
   have an:=HK.o d r HT.o M
   have X:=zlw r win[m - 2] aS b2;have az:bits .or .u64 ((r:Int)*4294967296) (win[m - 2]:Int)=(r:Int)*4294967296+win[m - 2]:=by rw [X];omega
   clear X
   have aH:d*dv[m - 2]<=18446744073709551615:=by
    have:=Nat.mul_le_mul C (show dv[m - 2]<=4294967295 by omega)
    omega
   have bh:(d:Int)*(dv[m - 2]:Int)<=18446744073709551615:=by rw [<- Int.natCast_mul];omega
   have ba:(0:Int)<=(d:Int)*(dv[m - 2]:Int):=by rw [<- Int.natCast_mul];omega
   clear aH
   by_cases af:4294967296<=r+dv[m - 1]
   . have bi:(4294967296:Int)<=(r:Int)+(dv[m - 1]:Int):=by omega
     by_cases au:4294967296<=d
     . skip
       have aa:(4294967296:Int)<=(d:Int):=by omega
       clear az;go_wp2
       go_quiet (fail)
       go_wp2_with fail;go_meet;exact ze3 U aq an C v2 af _
     skip
     have aa:¬ (4294967296:Int)<=(d:Int):=by omega
     have aw:decide ((4294967296:Int)<=(d:Int))=false:=by rw [decide_eq_false_iff_not];omega
     have aQ:(r:Int)*4294967296+(win[m - 2]:Int)<(d:Int)*(dv[m - 2]:Int):=by have:=M.resolve_left au;rw [<- Int.natCast_mul];omega
     go_wp2
     go_quiet (fail)
     go_wp2_with fail;go_meet;exact ze3 U aq an C v2 af _
   have bi:decide ((4294967296:Int)<=(r:Int)+(dv[m - 1]:Int))=false:=by rw [decide_eq_false_iff_not];omega
   have aO:=ze af;clear af
   by_cases au:4294967296<=d
   . skip
     have aa:(4294967296:Int)<=(d:Int):=by omega
     clear az;go_wp2
     go_quiet (fail)
     go_wp2_with fail;go_roundw
     case rel=>exact zl0 aq an C (by have:=aO.out;omega) _ _ rfl
     case measure=>simp [intOf];omega
   skip
   have aa:¬ (4294967296:Int)<=(d:Int):=by omega
   have aw:decide ((4294967296:Int)<=(d:Int))=false:=by rw [decide_eq_false_iff_not];omega
   have aQ:(r:Int)*4294967296+(win[m - 2]:Int)<(d:Int)*(dv[m - 2]:Int):=by have:=M.resolve_left au;rw [<- Int.natCast_mul];omega
   go_wp2
   go_quiet (fail)
   go_wp2_with fail;go_roundw
   case rel=>exact zl0 aq an C (by have:=aO.out;omega) _ _ rfl
   case measure=>simp [intOf];omega
 case rest=>
  obtain ⟨d,n,rfl,ai,al,rfl⟩:=hcut
  have aJ:=K.o.1
  have C:d<=4294967296:=by omega
  have HD:=ze al
  have aX:=ze ai
  have aY :win.length=dv.length+1:=by omega
  clear al ai aJ HK U H0 bf a9 aA bb F aD a8 bd b0 b1 b2 v1 v2 hv1
  go_wp2_with fail
  go_loopw [9,10,80] (zs1 w g d pre win post dv) (fun _ _ iv _=>dv.length - (intOf iv).toNat)
  case atStart=>
   exact ⟨0,0,0,win,by omega,rfl,rfl,rfl,by omega,by omega,rfl,hsw,by rw [List.take_zero,List.take_zero,Zc];rfl,fun _ _=>rfl,hwin.drewN n,znh (World.grownBy.refl w _) n⟩
  case round=>
   obtain ⟨i,cy,bo,O,hi,rfl,rfl,rfl,be,bl,hO,z,J,D,y,E⟩:=hrel;have bc:=Blk.lt y
   by_cases B:i<m
   . have G:i<dv.length:=by omega
     have l:i<O.length:=by omega
     have ap:=y.cell hk l;have ao:=y.frozen (k+i);obtain ⟨bg,u,e,_,b,Z⟩:=hrv.at_ (k:=i) (by omega);injection e with e
     subst e;rw [xb G] at b;injection b with b
     subst b;have a5:=(zbv (p:=ak.add i) E (by rw [zz];exact a2) (by rw [zz];exact a0)).trans Z;clear Z;have bv:dv[i]<4294967296:=hsv.get i G;have Y:O[i]<4294967296:=z.get i l;have a6:d*dv[i]<=18446744069414584320:=Nat.le_trans (Nat.mul_le_mul C (show dv[i]<=4294967295 by omega)) (by omega);have bj:(d:Int)*(dv[i]:Int)<=18446744069414584320:=by rw [<- Int.natCast_mul];omega
     have bk:(0:Int)<=(d:Int)*(dv[i]:Int):=by rw [<- Int.natCast_mul];omega
     clear a6;go_wp2_with (go_at_call 141;refine (zq3 _ _ _ (by omega) (by omega) (by omega) (by omega) (by omega) (by omega) _).mono ?_;rintro e w' ⟨s,b',hs,aN,ae,rfl,rfl⟩;have ah:=ze ae;clear ae);go_roundw
     case rel=>
      have ey:((cy:Int)+(d:Int)*(dv[i]:Int))=((cy+d*dv[i]:Nat):Int):=by rw [Int.natCast_add,Int.natCast_mul]
      refine zs1.step G aY C be hO z hsv J D y E hk hs aN ?_ _ _ _ _ (by rw [ey];exact congrArg _ (by omega)) rfl (by go_num) rfl;have h:=ah.o;rw [ey,show (4294967296:Int)=((4294967296:Nat):Int) by rfl, <- Int.natCast_emod] at h;simp only [Int.toNat_natCast] at h
      show _=_
      rw [<- D.o i (Nat.le_refl _),zv l];exact h
     case measure=>simp [intOf];omega
   obtain rfl:i=m:=by omega
   have l:i<O.length:=by omega
   have ap:=y.cell hk l;have ao:=y.frozen (k+i);have Y:O[i]<4294967296:=z.get i l
   go_upto_region 18 with (go_at_call 141;refine (zq3 _ _ _ (by omega) (by omega) (by omega) (by omega) (by omega) (by omega) _).mono ?_;rintro e w' ⟨s,b',hs,aN,ae,rfl,rfl⟩;have ah:=ze ae;clear ae)
   have av:=ah.o;simp only [Int.toNat_natCast] at av;have ac:=zm2 (s:=s) (b' :=b') aY hO (by rw [hlv];exact J.o) (by rw [hlv, <- D.o i (Nat.le_refl _),zv l];exact av);rw [hlv] at ac;have ax:(O.set i s).length=win.length:=by rw [List.length_set];exact hO
   have L:=z.set i s hs;have F:=y.set_ hk l s;have ag:=Z6 (p:=⟨g,k+i,none⟩) E (.inl rfl) (.int .u32 (s:Int));have aj:=Xq L;rw [ax,hlw] at aj;clear ah av J D
   rcases (show b' =0\/b' =1 by omega) with rfl | rfl
   . obtain ⟨ab,I⟩:=zd4 (by rw [<- N.o];exact aX.o) (by rw [<- N.o];exact HD.o) K.o.2 ac
     rw [<- N.o] at ab;rw [<- HM.o] at I;have aJ:=K.o.1;have HR:=ze I;clear I ac aj;subst ab;go_wp2_with fail;go_ret;exact ⟨O.set i s,rfl,ax,L,HR.o,F,ag⟩
   . have aU:val 4294967296 (O.set i s)<4294967296 ^ (i+1):=aj
     obtain ⟨ab,I⟩:=zii (by rw [<- N.o];exact aX.o) (by rw [<- N.o];exact HD.o) K.o.2 aU ac;rw [<- N.o] at ab;rw [<- HM.o] at I;have HR:=ze I;have aJ:=K.o.1;clear I ac aj aU ap ao Y y E;subst ab;obtain ⟨S,a4⟩:∃ S,S=O.set i s:=⟨_,rfl⟩;obtain ⟨w1,aZ⟩:∃ w1,w1=wr.setCell ⟨g,k+i,none⟩ (.int .u32 (s:Int)):=⟨_,rfl⟩;rw [<- a4] at ax L F HR;rw [<- aZ] at F ag |-;clear a4 aZ;go_wp2_with fail
     go_loopw [12,128] (zg5 w g pre S post dv) (fun _ iv _=>dv.length - (intOf iv).toNat)
     case atStart=>
      exact ⟨0,0,S,by omega,rfl,rfl,by omega,rfl,L,by rw [List.take_zero,List.take_zero,Zc];rfl,fun _ _=>rfl,F,ag⟩
     case round=>
      clear F ag;obtain ⟨j,cb,O,hj,rfl,rfl,aB,hO,z,J,D,y,E⟩:=hrel;have bc:=Blk.lt y
      by_cases B:j<i
      rotate_left
      . obtain rfl:j=i:=by omega
        have l:j<O.length:=by omega
        have ap:=y.cell hk l;have ao:=y.frozen (k+j);have Y:O[j]<4294967296:=z.get j l;have aE:=zmv (win:=S) (dv:=dv) (O:=O) (c:=cb) (r:=rm) (by omega) (by omega) z L (by rw [hlv];exact J.o) aB (by rw [hlv];exact HR.o);rw [hlv, <- D.o j (Nat.le_refl _),zv l] at aE;have HB:=ze aE;have aD:=y.set_ hk l ((O[j]+cb) % 4294967296);have a7:=Z6 (p:=⟨g,k+j,none⟩) E (.inl rfl) (.int .u32 (((O[j]+cb) % 4294967296:Nat):Int));clear aE J D HR L;go_wp2_with fail;go_ret;refine ⟨O.set j ((O[j]+cb) % 4294967296),by go_num,by rw [List.length_set];omega,z.set _ _ (Nat.mod_lt _ (by omega)),HB.o,?_,?_⟩
        . exact aD
        exact a7
      have G:j<dv.length:=by omega
      have l:j<O.length:=by omega
      have ap:=y.cell hk l;have ao:=y.frozen (k+j);obtain ⟨bg,u,e,_,b,Z⟩:=hrv.at_ (k:=j) (by omega);injection e with e
      subst e;rw [xb G] at b;injection b with b
      subst b;have a5:=(zbv (p:=ak.add j) E (by rw [zz];exact a2) (by rw [zz];exact a0)).trans Z;clear Z;have bv:dv[j]<4294967296:=hsv.get j G;have Y:O[j]<4294967296:=z.get j l;go_wp2_with fail
      go_region_with (go_at_call 182;refine (zok _ _ _ Y bv aB _).mono ?_;rintro e w' ⟨rfl,rfl⟩)
      all_goals
       go_wp2_with fail;go_roundw
       case rel=>
        repeat apply Exists.intro
        refine ⟨zg5.drew ?_,rfl⟩;exact zg5.step G (by omega) aB (by omega) z hsv J D y E hk O[j] (zv l).symm _ _ _ rfl (by go_num) rfl
       case measure=>simp [intOf];omega
end Go.Proofs.YthbmhkiphmcogaaGreatDoor
