/- Parts of the proof. -/
import Derived.Deep.CutBlock
import Derived.Deep.DeepCutAuto
import Derived.Deep.RegionWith
import Derived.StillTailTactics
import Derived.Test.YtobdoblpnanclaaGreatDoorMo06
set_option linter.all false
namespace Go.Proofs.YtobdoblpnanclaaGreatDoor
open Proofs.Tryz Go.RowKit Go.Deep
theorem zem {w:World} {q top v1 v2 u2 d r:Nat} (HE:Hid (∀ d r,top=d*v1+r->d*v2<=r*4294967296+u2->d<=q+1)) (HST:Hid (top=(d - 1)*v1+(r+v1)\/d=0)) (hk:q<d) (hd:d<=4294967297) (hv2:v2<4294967296)
 (hr:4294967296<=r+v1) (n:Nat):zs2 w q (.int .u64 ((d:Int) - 1)) (w.drewN n):=by
 have b:=HST.o.resolve_right (by omega)
 have e:=HE.o (d - 1) (r+v1) b (ziv hv2 (by omega) hr)
 exact ⟨d - 1,n,by congr 1;omega,by omega,e,rfl⟩
theorem zkw {w:World} {q top v1 d r:Nat} (HST:Hid (top=(d - 1)*v1+(r+v1)\/d=0)) (hk:q<d) (hd:d<=4294967297) (hr:r+v1<4294967296) (n:Nat) (rv:Value) (hrv:rv= .int .u64 ((r:Int)+v1)):
 zsr w top v1 q (.int .u64 ((d:Int) - 1)) rv (w.drewN n):=by
 have b:=HST.o.resolve_right (by omega)
 exact ⟨d - 1,r+v1,n,by congr 1;omega,by rw [hrv];congr 1,b,by omega,by omega,hr,rfl⟩
def zqr (w:World) (g:Nat) (pre win post:List Nat) (q r:Nat) (e:Ending) (w' :World):Prop:=
 ∃ O:List Nat,e= .returned (.int .u32 (q:Int))/\O.length=win.length/\zP 4294967296 O/\val 4294967296 O=r/\Xe w' g pre O post/\w.grownBy w' (some g)
set_option maxHeartbeats 1600000 in
set_option maxRecDepth 100000 in
theorem zpp (g k m c cv:Nat) (pre win post dv:List Nat) (V:Option Addr) (w:World) (hk:pre.length=k) (hm:2<=m) (hmm:m<=67108864) (hlw:win.length=m+1) (hlv:dv.length=m) (hsw:zP 4294967296 win) (hsv:zP 4294967296 dv)
 (hwin:Xe w g pre win post) (hrv:ys w w.heap.size 1 V m (Xc dv)) (hne:∀ ad,V=some ad->ad.block≠g) (hv1:2147483648<=dv.getD (m - 1) 0) (z:val 4294967296 win<4294967296*val 4294967296 dv) (hkk:k<=67108864) (hc:m+1<=c):
 Calls prog 134 #[.slice (some ⟨g,k,none⟩) (m+1) c,.slice V m cv] w (zqr w g pre win post (val 4294967296 win / val 4294967296 dv) (val 4294967296 win % val 4294967296 dv)):=by
 obtain ⟨ai,u,rfl,aW,b,bh⟩:=hrv.at_ (k:=m - 1) (by omega)
 have an:m - 1<dv.length:=by omega
 have ay:m - 2<dv.length:=by omega
 have aL:m - 1<win.length:=by omega
 have au:m - 2<win.length:=by omega
 have aw:m<win.length:=by omega
 rw [yJ an] at b
 injection b with b
 subst b
 have aV:=hne ai rfl
 have az:w.cell? (ai.add (m - 2))=some (.int .u32 (dv[m - 2]:Int)):=by
  obtain ⟨bl,u,e,_,b,az⟩:=hrv.at_ (k:=m - 2) (by omega)
  injection e with e
  subst e
  rw [yJ ay] at b
  injection b with b
  rw [az, <- b]
 have hg:=Blk.lt hwin
 have bd:=hwin.cell hk aw
 have F:=hwin.cell hk aL
 have ar:=hwin.cell hk au
 have b0:win[m]<4294967296:=hsw.get m aw
 have b1:win[m - 1]<4294967296:=hsw.get _ aL
 have b2:win[m - 2]<4294967296:=hsw.get _ au
 have v1:dv[m - 1]<4294967296:=hsv.get _ an
 have v2:dv[m - 2]<4294967296:=hsv.get _ ay
 rw [zC an] at hv1
 have a7:((m:Int) - 1).toNat=m - 1:=by omega
 have a4:((m:Int) - 2).toNat=m - 2:=by omega
 have bb:=zj8 win[m] win[m - 1] b0 b1
 obtain ⟨N,L⟩:=zma hm hlv hlw
 rw [zC aw,zC aL,zC au] at N
 rw [zC an,zC ay] at L
 have aK:val 4294967296 (win.take (m - 2))<4294967296 ^ (m - 2):=by
  have:=Yx (hsw.take (m - 2));rwa [List.length_take,Nat.min_eq_left (by omega)] at this
 have aJ:val 4294967296 (dv.take (m - 2))<4294967296 ^ (m - 2):=by
  have:=Yx (hsv.take (m - 2));rwa [List.length_take,Nat.min_eq_left (by omega)] at this
 have aA:0<val 4294967296 dv:=by
  rcases uN (val 4294967296 dv) with e | e
  . rw [e] at z;omega
  . exact e
 have aY:val 4294967296 win / val 4294967296 dv<4294967296:=(Nat.div_lt_iff_lt_mul aA).2 z
 have HK:Hid (∀ d r,win[m]*4294967296+win[m - 1]=d*dv[m - 1]+r->(4294967296<=d\/r*4294967296+win[m - 2]<d*dv[m - 2])->val 4294967296 win / val 4294967296 dv<d):=
  fun d r h1 X=>zlb h1 N L aK z X
 have U:Hid (∀ d r,win[m]*4294967296+win[m - 1]=d*dv[m - 1]+r->d*dv[m - 2]<=r*4294967296+win[m - 2]->d<=val 4294967296 win / val 4294967296 dv+1):=
  fun d r h1 X=>zp3 h1 N L aJ z (by omega) X
 have aO:=zji N L b2 aK (show 0<dv[m - 1] by omega)
 have a0:=zqd N L v2 aJ z
 have aD:=Nat.div_add_mod (win[m]*4294967296+win[m - 1]) dv[m - 1]
 have aQ:=Nat.mod_lt (win[m]*4294967296+win[m - 1]) (show 0<dv[m - 1] by omega)
 have aZ:=ziw (by omega) a0 b1 (by rw [uH _ dv[m - 1]];exact aD.symm) aQ
 have R:Hid (val 4294967296 win / val 4294967296 dv<4294967296/\0<val 4294967296 dv):=⟨aY,aA⟩
 have H0:Hid (val 4294967296 win / val 4294967296 dv<=(win[m]*4294967296+win[m - 1]) / dv[m - 1]/\(win[m]*4294967296+win[m - 1]) / dv[m - 1]<=4294967297/\
  win[m]*4294967296+win[m - 1]=(win[m]*4294967296+win[m - 1]) / dv[m - 1]*dv[m - 1]+(win[m]*4294967296+win[m - 1]) % dv[m - 1]/\(win[m]*4294967296+win[m - 1]) % dv[m - 1]<4294967296):=
  ⟨aO,aZ,by rw [uH _ dv[m - 1]];exact aD.symm,by omega⟩
 clear N L aK aJ aA aY aO a0 aD aQ aZ z
 obtain ⟨q,hq⟩:=uQ (val 4294967296 win / val 4294967296 dv)
 obtain ⟨rm,ax⟩:=uQ (val 4294967296 win % val 4294967296 dv)
 rw [<- hq] at HK U R H0 |-
 rw [<- ax]
 have K:=ze hq
 have HM:=ze ax
 clear hq ax
 go_in
 go_wp2
 go_quiet (fail)
 go_upto_block 0 with fail
 go_cut [7] (fun s7 wx=>zs2 w q s7 wx)
 case first=>
  go_wp2
  go_loopw [7,8] (zsr w (win[m]*4294967296+win[m - 1]) dv[m - 1] q) (fun dv _ _=>(intOf dv).toNat)
  case atStart=>
   have e2:(win[m]:Int)*4294967296+(win[m - 1]:Int)=((win[m]*4294967296+win[m - 1]:Nat):Int):=by omega
   obtain ⟨h1,X,h3,h4⟩:=H0.o;exact ⟨_,_,_,by rw [e2, <- Int.natCast_ediv],by rw [e2, <- Int.natCast_emod],h3,h1,X,h4,rfl⟩
  case round=>
   obtain ⟨d,r,n,rfl,rfl,HT,ak,C,a3,rfl⟩:=hrel
   have aP:win[m]*4294967296+win[m - 1]=(d - 1)*dv[m - 1]+(r+dv[m - 1])\/d=0:=by
    rcases uN d with h | h
    . exact .inr h
    . refine .inl (HT.o.trans ?_)
      obtain ⟨e,rfl⟩:∃ e,d=e+1:=⟨d - 1,by omega⟩;rw [Nat.add_sub_cancel,Nat.add_mul,Nat.one_mul];omega
   have ap:=ze aP;clear aP
   by_cases Q:4294967296<=d\/r*4294967296+win[m - 2]<d*dv[m - 2]
   rotate_left
   . have aU:d*dv[m - 2]<=r*4294967296+win[m - 2]:=by
      rcases uL (r*4294967296+win[m - 2]) (d*dv[m - 2]) with h | h
      . exact absurd (.inr h) Q
      . exact h
     have z:d<4294967296:=by
      rcases uL d 4294967296 with h | h
      . exact h
      . exact absurd (.inl h) Q
     have ah:=U.o d r HT.o aU;have T:=zj8 r win[m - 2] a3 b2;have aB:bits .or .u64 ((r:Int)*4294967296) (win[m - 2]:Int)=(r:Int)*4294967296+win[m - 2]:=by rw [T];omega
     clear T Q;have ab:¬ (4294967296:Int)<=(d:Int):=by omega
     have aq:decide ((4294967296:Int)<=(d:Int))=false:=by rw [decide_eq_false_iff_not];omega
     have aX:¬ (r:Int)*4294967296+(win[m - 2]:Int)<(d:Int)*(dv[m - 2]:Int):=by rw [<- Int.natCast_mul];omega
     have aF:d*dv[m - 2]<=18446744073709551615:=by omega
     have be:(d:Int)*(dv[m - 2]:Int)<=18446744073709551615:=by rw [<- Int.natCast_mul];omega
     have a5:(0:Int)<=(d:Int)*(dv[m - 2]:Int):=by rw [<- Int.natCast_mul];omega
     clear aF aU z;go_wp2
     go_quiet (fail)
     clear ab aq;go_wp2;go_meet;exact ⟨d,_,rfl,ak,ah,by rw [World.drewN_drewN]⟩
   have am:=HK.o d r HT.o Q
   have T:=zj8 r win[m - 2] a3 b2;have aB:bits .or .u64 ((r:Int)*4294967296) (win[m - 2]:Int)=(r:Int)*4294967296+win[m - 2]:=by rw [T];omega
   clear T
   have aF:d*dv[m - 2]<=18446744073709551615:=by
    have:=Nat.mul_le_mul C (show dv[m - 2]<=4294967295 by omega)
    omega
   have be:(d:Int)*(dv[m - 2]:Int)<=18446744073709551615:=by rw [<- Int.natCast_mul];omega
   have a5:(0:Int)<=(d:Int)*(dv[m - 2]:Int):=by rw [<- Int.natCast_mul];omega
   clear aF
   by_cases af:4294967296<=r+dv[m - 1]
   . have a6:(4294967296:Int)<=(r:Int)+(dv[m - 1]:Int):=by omega
     by_cases aG:4294967296<=d
     . skip
       have ab:(4294967296:Int)<=(d:Int):=by omega
       clear aB;go_wp2
       go_quiet (fail)
       go_wp2;go_meet;exact zem U ap am C v2 af _
     skip
     have ab:¬ (4294967296:Int)<=(d:Int):=by omega
     have aq:decide ((4294967296:Int)<=(d:Int))=false:=by rw [decide_eq_false_iff_not];omega
     have aX:(r:Int)*4294967296+(win[m - 2]:Int)<(d:Int)*(dv[m - 2]:Int):=by have:=Q.resolve_left aG;rw [<- Int.natCast_mul];omega
     go_wp2
     go_quiet (fail)
     go_wp2;go_meet;exact zem U ap am C v2 af _
   have a6:decide ((4294967296:Int)<=(r:Int)+(dv[m - 1]:Int))=false:=by rw [decide_eq_false_iff_not];omega
   have aS:=ze af;clear af
   by_cases aG:4294967296<=d
   . skip
     have ab:(4294967296:Int)<=(d:Int):=by omega
     clear aB;go_wp2
     go_quiet (fail)
     go_wp2;go_roundw
     case rel=>exact zkw ap am C (by have:=aS.out;omega) _ _ rfl
     case measure=>simp [intOf];omega
   skip
   have ab:¬ (4294967296:Int)<=(d:Int):=by omega
   have aq:decide ((4294967296:Int)<=(d:Int))=false:=by rw [decide_eq_false_iff_not];omega
   have aX:(r:Int)*4294967296+(win[m - 2]:Int)<(d:Int)*(dv[m - 2]:Int):=by have:=Q.resolve_left aG;rw [<- Int.natCast_mul];omega
   go_wp2
   go_quiet (fail)
   go_wp2;go_roundw
   case rel=>exact zkw ap am C (by have:=aS.out;omega) _ _ rfl
   case measure=>simp [intOf];omega
 case rest=>
  obtain ⟨d,n,rfl,ak,ah,rfl⟩:=hcut
  have aI:=R.o.1
  have C:d<=4294967296:=by omega
  have HD:=ze ah
  have aM:=ze ak
  have a1 :win.length=dv.length+1:=by omega
  clear ah ak aI HK U H0 bb bh az bd F ar a7 a4 b0 b1 b2 v1 v2 hv1
  go_wp2
  go_loopw [9,10,80] (zqk w g d pre win post dv) (fun _ _ iv _=>dv.length - (intOf iv).toNat)
  case atStart=>
   exact ⟨0,0,0,win,by omega,rfl,rfl,rfl,by omega,by omega,rfl,hsw,by rw [List.take_zero,List.take_zero,Yr];rfl,fun _ _=>rfl,hwin.drewN n,zlq (World.grownBy.refl w _) n⟩
  case round=>
   obtain ⟨i,cy,bo,O,hi,rfl,rfl,rfl,a9,bj,hO,B,G,D,y,E⟩:=hrel;have ba:=Blk.lt y
   by_cases z:i<m
   . have J:i<dv.length:=by omega
     have l:i<O.length:=by omega
     have al:=y.cell hk l;have aj:=y.frozen (k+i);obtain ⟨bg,u,e,_,b,S⟩:=hrv.at_ (k:=i) (by omega);injection e with e
     subst e;rw [yJ J] at b;injection b with b
     subst b;have bc:=(VR (p:=ai.add i) E (by rw [zU];exact aW) (by rw [zU];exact aV)).trans S;clear S;have bv:dv[i]<4294967296:=hsv.get i J;have Z:O[i]<4294967296:=B.get i l;have bf:d*dv[i]<=18446744069414584320:=uC (Nat.mul_le_mul C (show dv[i]<=4294967295 by omega)) (by omega);have bk:(d:Int)*(dv[i]:Int)<=18446744069414584320:=by rw [<- Int.natCast_mul];omega
     have bi:(0:Int)<=(d:Int)*(dv[i]:Int):=by rw [<- Int.natCast_mul];omega
     clear bf;go_wp2_with (go_at_call 123;refine (zny _ _ _ (by omega) (by omega) (by omega) (by omega) (by omega) (by omega) _).mono ?_;rintro e w' ⟨s,b',hs,aT,Y,rfl,rfl⟩;have ag:=ze Y;clear Y);go_roundw
     case rel=>
      have ey:((cy:Int)+(d:Int)*(dv[i]:Int))=((cy+d*dv[i]:Nat):Int):=by rw [Int.natCast_add,Int.natCast_mul]
      refine zqk.step J a1 C a9 hO B hsv G D y E hk hs aT ?_ _ _ _ _ (by rw [ey];exact congrArg _ (by omega)) rfl (by go_num) rfl;have h:=ag.o;rw [ey,show (4294967296:Int)=((4294967296:Nat):Int) by rfl, <- Int.natCast_emod] at h;simp only [Int.toNat_natCast] at h
      show _=_
      rw [<- D.o i (uA),zC l];exact h
     case measure=>simp [intOf];omega
   obtain rfl:i=m:=by omega
   have l:i<O.length:=by omega
   have al:=y.cell hk l;have aj:=y.frozen (k+i);have Z:O[i]<4294967296:=B.get i l
   go_upto_region 18 with (go_at_call 123;refine (zny _ _ _ (by omega) (by omega) (by omega) (by omega) (by omega) (by omega) _).mono ?_;rintro e w' ⟨s,b',hs,aT,Y,rfl,rfl⟩;have ag:=ze Y;clear Y)
   have av:=ag.o;simp only [Int.toNat_natCast] at av;have aa:=zmf (s:=s) (b' :=b') a1 hO (by rw [hlv];exact G.o) (by rw [hlv, <- D.o i (uA),zC l];exact av);rw [hlv] at aa;have aC:(O.set i s).length=win.length:=by rw [List.length_set];exact hO
   have M:=B.set i s hs;have F:=y.set_ hk l s;have ao:=vO (p:=⟨g,k+i,none⟩) E (.inl rfl) (.int .u32 (s:Int));have ae:=Yx M;rw [aC,hlw] at ae;clear ag av G D
   rcases (show b' =0\/b' =1 by omega) with rfl | rfl
   . obtain ⟨ac,I⟩:=zdy (by rw [<- K.o];exact aM.o) (by rw [<- K.o];exact HD.o) R.o.2 aa
     rw [<- K.o] at ac;rw [<- HM.o] at I;have aI:=R.o.1;have HR:=ze I;clear I aa ae;subst ac;go_wp2;go_ret;exact ⟨O.set i s,rfl,aC,M,HR.o,F,ao⟩
   . have aR:val 4294967296 (O.set i s)<4294967296 ^ (i+1):=ae
     obtain ⟨ac,I⟩:=zgv (by rw [<- K.o];exact aM.o) (by rw [<- K.o];exact HD.o) R.o.2 aR aa;rw [<- K.o] at ac;rw [<- HM.o] at I;have HR:=ze I;have aI:=R.o.1;clear I aa ae aR al aj Z y E;subst ac;obtain ⟨O1,a2⟩:=uQ (O.set i s);obtain ⟨w1,aN⟩:=uQ (wr.setCell ⟨g,k+i,none⟩ (.int .u32 (s:Int)));rw [<- a2] at aC M F HR;rw [<- aN] at F ao |-;clear a2 aN;go_wp2
     go_loopw [12,128] (zhk w g pre O1 post dv) (fun _ iv _=>dv.length - (intOf iv).toNat)
     case atStart=>
      exact ⟨0,0,O1,by omega,rfl,rfl,by omega,rfl,M,by rw [List.take_zero,List.take_zero,Yr];rfl,fun _ _=>rfl,F,ao⟩
     case round=>
      clear F ao;obtain ⟨j,cb,O,hj,rfl,rfl,aH,hO,B,G,D,y,E⟩:=hrel;have ba:=Blk.lt y
      by_cases z:j<i
      rotate_left
      . obtain rfl:j=i:=by omega
        have l:j<O.length:=by omega
        have al:=y.cell hk l;have aj:=y.frozen (k+j);have Z:O[j]<4294967296:=B.get j l;have aE:=zmh (win:=O1) (dv:=dv) (O:=O) (c:=cb) (r:=rm) (by omega) (by omega) B M (by rw [hlv];exact G.o) aH (by rw [hlv];exact HR.o);rw [hlv, <- D.o j (uA),zC l] at aE;have HB:=ze aE;have ar:=y.set_ hk l ((O[j]+cb) % 4294967296);have a8:=vO (p:=⟨g,k+j,none⟩) E (.inl rfl) (.int .u32 (((O[j]+cb) % 4294967296:Nat):Int));clear aE G D HR M;go_wp2;go_ret;refine ⟨O.set j ((O[j]+cb) % 4294967296),by go_num,by rw [List.length_set];omega,B.set _ _ (Nat.mod_lt _ (by omega)),HB.o,?_,?_⟩
        . exact ar
        exact a8
      have J:j<dv.length:=by omega
      have l:j<O.length:=by omega
      have al:=y.cell hk l;have aj:=y.frozen (k+j);obtain ⟨bg,u,e,_,b,S⟩:=hrv.at_ (k:=j) (by omega);injection e with e
      subst e;rw [yJ J] at b;injection b with b
      subst b;have bc:=(VR (p:=ai.add j) E (by rw [zU];exact aW) (by rw [zU];exact aV)).trans S;clear S;have bv:dv[j]<4294967296:=hsv.get j J;have Z:O[j]<4294967296:=B.get j l;go_wp2_with fail
      go_region_with (go_at_call 153;refine (zpa _ _ _ Z bv aH _).mono ?_;rintro e w' ⟨rfl,rfl⟩)
      all_goals
       go_wp2;go_roundw
       case rel=>
        repeat apply Exists.intro
        refine ⟨zhk.drew ?_,rfl⟩;exact zhk.step J (by omega) aH (by omega) B hsv G D y E hk O[j] (zC l).symm _ _ _ rfl (by go_num) rfl
       case measure=>simp [intOf];omega
end Go.Proofs.YtobdoblpnanclaaGreatDoor
