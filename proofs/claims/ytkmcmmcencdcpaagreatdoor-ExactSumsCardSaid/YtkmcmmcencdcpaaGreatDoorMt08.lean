/- Parts of the proof: memory, numbers, walks of the functions that are called. -/
import Derived.Deep.CutBlock
import Derived.Deep.DeepCutAuto
import Derived.Deep.RegionWith
import Derived.StillTailTactics
import Derived.Test.YtkmcmmcencdcpaaGreatDoorMt07
set_option linter.unusedVariables false
set_option linter.unusedSimpArgs false
namespace Go.Proofs.YtkmcmmcencdcpaaGreatDoor
open Go.RowKit Go.Deep
theorem zcj {w:World} {q top v1 v2 u2 d r:Nat} (HE:Hid (∀ d r,top=d*v1+r->d*v2<=r*4294967296+u2->d<=q+1)) (HST:Hid (top=(d - 1)*v1+(r+v1)\/d=0)) (hk:q<d) (hd:d<=4294967297) (hv2:v2<4294967296)
 (hr:4294967296<=r+v1) (n:Nat):zoz w q (.int .u64 ((d:Int) - 1)) (w.drewN n):=by
 have h1:=HST.out.resolve_right (by omega)
 have h2:=HE.out (d - 1) (r+v1) h1 (zha hv2 (by omega) hr)
 exact ⟨d - 1,n,by congr 1;omega,by omega,h2,rfl⟩
theorem zhz {w:World} {q top v1 d r:Nat} (HST:Hid (top=(d - 1)*v1+(r+v1)\/d=0)) (hk:q<d) (hd:d<=4294967297) (hr:r+v1<4294967296) (n:Nat) (rv:Value) (hrv:rv= .int .u64 ((r:Int)+v1)):
 zou w top v1 q (.int .u64 ((d:Int) - 1)) rv (w.drewN n):=by
 have h1:=HST.out.resolve_right (by omega)
 exact ⟨d - 1,r+v1,n,by congr 1;omega,by rw [hrv];congr 1,h1,by omega,by omega,hr,rfl⟩
def znf (w:World) (g:Nat) (pre win post:List Nat) (q r:Nat) (e:Ending) (w' :World):Prop:=
 ∃ O:List Nat,e= .returned (.int .u32 (q:Int))/\O.length=win.length/\zD 4294967296 O/\val 4294967296 O=r/\YF w' g pre O post/\w.grownBy w' (some g)
set_option maxHeartbeats 1600000 in
set_option maxRecDepth 100000 in
theorem zky (g k m c cv:Nat) (pre win post dv:List Nat) (V:Option Addr) (w:World) (hk:pre.length=k) (hm:2<=m) (hmm:m<=67108864) (hlw:win.length=m+1) (hlv:dv.length=m) (hsw:zD 4294967296 win) (hsv:zD 4294967296 dv)
 (hwin:YF w g pre win post) (hrv:zY w w.heap.size 1 V m (YE dv)) (hne:∀ ad,V=some ad->ad.block≠g) (hv1:2147483648<=dv.getD (m - 1) 0) (hlt:val 4294967296 win<4294967296*val 4294967296 dv) (hkk:k<=67108864) (hc:m+1<=c):
 Calls Tryz.prog 234 #[.slice (some ⟨g,k,none⟩) (m+1) c,.slice V m cv] w (znf w g pre win post (val 4294967296 win / val 4294967296 dv) (val 4294967296 win % val 4294967296 dv)):=by
 obtain ⟨adv,u,rfl,hbv,hx,hc1⟩:=hrv.at_ (k:=m - 1) (by omega)
 have hm1:m - 1<dv.length:=by omega
 have hm2:m - 2<dv.length:=by omega
 have hm3:m - 1<win.length:=by omega
 have hm4:m - 2<win.length:=by omega
 have hm5:m<win.length:=by omega
 rw [yQ hm1] at hx
 injection hx with hx
 subst hx
 have hnb:=hne adv rfl
 have hc2:w.cell? (adv.add (m - 2))=some (.int .u32 (dv[m - 2]:Int)):=by
  obtain ⟨ad',u,e,_,hx,hc2⟩:=hrv.at_ (k:=m - 2) (by omega)
  injection e with e
  subst e
  rw [yQ hm2] at hx
  injection hx with hx
  rw [hc2, <- hx]
 have hg:=Blk.lt hwin
 have hw0:=hwin.cell hk hm5
 have hw1:=hwin.cell hk hm3
 have hw2:=hwin.cell hk hm4
 have b0:win[m]<4294967296:=hsw.get m hm5
 have b1:win[m - 1]<4294967296:=hsw.get _ hm3
 have b2:win[m - 2]<4294967296:=hsw.get _ hm4
 have v1:dv[m - 1]<4294967296:=hsv.get _ hm1
 have v2:dv[m - 2]<4294967296:=hsv.get _ hm2
 rw [zu hm1] at hv1
 have hi1:((m:Int) - 1).toNat=m - 1:=by omega
 have hi2:((m:Int) - 2).toNat=m - 2:=by omega
 have hor:=zhf win[m] win[m - 1] b0 b1
 obtain ⟨tw,tv⟩:=ziv hm hlv hlw
 rw [zu hm5,zu hm3,zu hm4] at tw
 rw [zu hm1,zu hm2] at tv
 have hul:val 4294967296 (win.take (m - 2))<4294967296 ^ (m - 2):=by
  have:=Yh (hsw.take (m - 2));rwa [List.length_take,Nat.min_eq_left (by omega)] at this
 have hvl:val 4294967296 (dv.take (m - 2))<4294967296 ^ (m - 2):=by
  have:=Yh (hsv.take (m - 2));rwa [List.length_take,Nat.min_eq_left (by omega)] at this
 have hvp:0<val 4294967296 dv:=by
  rcases Nat.eq_zero_or_pos (val 4294967296 dv) with e | e
  . rw [e] at hlt;omega
  . exact e
 have hqb:val 4294967296 win / val 4294967296 dv<4294967296:=(Nat.div_lt_iff_lt_mul hvp).2 hlt
 have HK:Hid (∀ d r,win[m]*4294967296+win[m - 1]=d*dv[m - 1]+r->(4294967296<=d\/r*4294967296+win[m - 2]<d*dv[m - 2])->val 4294967296 win / val 4294967296 dv<d):=
  fun d r h1 h2=>zit h1 tw tv hul hlt h2
 have HE:Hid (∀ d r,win[m]*4294967296+win[m - 1]=d*dv[m - 1]+r->d*dv[m - 2]<=r*4294967296+win[m - 2]->d<=val 4294967296 win / val 4294967296 dv+1):=
  fun d r h1 h2=>zkx h1 tw tv hvl hlt (by omega) h2
 have hs0:=zgx tw tv b2 hul (show 0<dv[m - 1] by omega)
 have hum:=zng tw tv v2 hvl hlt
 have hdm:=Nat.div_add_mod (win[m]*4294967296+win[m - 1]) dv[m - 1]
 have hml:=Nat.mod_lt (win[m]*4294967296+win[m - 1]) (show 0<dv[m - 1] by omega)
 have hd0:=zgo (by omega) hum b1 (by rw [Nat.mul_comm _ dv[m - 1]];exact hdm.symm) hml
 have HV:Hid (val 4294967296 win / val 4294967296 dv<4294967296/\0<val 4294967296 dv):=⟨hqb,hvp⟩
 have H0:Hid (val 4294967296 win / val 4294967296 dv<=(win[m]*4294967296+win[m - 1]) / dv[m - 1]/\(win[m]*4294967296+win[m - 1]) / dv[m - 1]<=4294967297/\
  win[m]*4294967296+win[m - 1]=(win[m]*4294967296+win[m - 1]) / dv[m - 1]*dv[m - 1]+(win[m]*4294967296+win[m - 1]) % dv[m - 1]/\(win[m]*4294967296+win[m - 1]) % dv[m - 1]<4294967296):=
  ⟨hs0,hd0,by rw [Nat.mul_comm _ dv[m - 1]];exact hdm.symm,by omega⟩
 clear tw tv hul hvl hvp hqb hs0 hum hdm hml hd0 hlt
 obtain ⟨q,hq⟩:∃ q,q=val 4294967296 win / val 4294967296 dv:=⟨_,rfl⟩
 obtain ⟨rm,hrm⟩:∃ rm,rm=val 4294967296 win % val 4294967296 dv:=⟨_,rfl⟩
 rw [<- hq] at HK HE HV H0 |-
 rw [<- hrm]
 have HQ:=ze hq
 have HM:=ze hrm
 clear hq hrm
 go_enter Tryz.func234,Tryz.ntmps234
 go_wp2
 go_quiet (fail)
 go_upto_block 0 with fail
 go_cut [7] (fun s7 wx=>zoz w q s7 wx)
 case first=>
  go_wp2_with fail
  go_loopw [7,8] (zou w (win[m]*4294967296+win[m - 1]) dv[m - 1] q) (fun dv _ _=>(intOf dv).toNat)
  case atStart=>
   have e2:(win[m]:Int)*4294967296+(win[m - 1]:Int)=((win[m]*4294967296+win[m - 1]:Nat):Int):=by omega
   obtain ⟨h1,h2,h3,h4⟩:=H0.out;exact ⟨_,_,_,by rw [e2, <- Int.natCast_ediv],by rw [e2, <- Int.natCast_emod],h3,h1,h2,h4,rfl⟩
  case round=>
   obtain ⟨d,r,n,rfl,rfl,HT,hqd,hdb,hrb,rfl⟩:=hrel
   have hstep:win[m]*4294967296+win[m - 1]=(d - 1)*dv[m - 1]+(r+dv[m - 1])\/d=0:=by
    rcases Nat.eq_zero_or_pos d with h | h
    . exact .inr h
    . refine .inl (HT.out.trans ?_)
      obtain ⟨e,rfl⟩:∃ e,d=e+1:=⟨d - 1,by omega⟩;rw [Nat.add_sub_cancel,Nat.add_mul,Nat.one_mul];omega
   have HST:=ze hstep;clear hstep
   by_cases hgo:4294967296<=d\/r*4294967296+win[m - 2]<d*dv[m - 2]
   . have hk1:=HK.out d r HT.out hgo
     have ho2:=zhf r win[m - 2] hrb b2;have hor2:bits .or .u64 ((r:Int)*4294967296) (win[m - 2]:Int)=(r:Int)*4294967296+win[m - 2]:=by rw [ho2];omega
     clear ho2
     have hmul:d*dv[m - 2]<=18446744073709551615:=by
      have:=Nat.mul_le_mul hdb (show dv[m - 2]<=4294967295 by omega)
      omega
     have hmulI:(d:Int)*(dv[m - 2]:Int)<=18446744073709551615:=by rw [<- Int.natCast_mul];omega
     have hmul0:(0:Int)<=(d:Int)*(dv[m - 2]:Int):=by rw [<- Int.natCast_mul];omega
     clear hmul
     by_cases hr2:4294967296<=r+dv[m - 1]
     . have hrI:(4294967296:Int)<=(r:Int)+(dv[m - 1]:Int):=by omega
       by_cases hge:4294967296<=d
       . skip
         have hge2:(4294967296:Int)<=(d:Int):=by omega
         clear hor2;go_wp2
         go_quiet (fail)
         go_wp2_with fail;go_meet;exact zcj HE HST hk1 hdb v2 hr2 _
       . skip
         have hge2:¬ (4294967296:Int)<=(d:Int):=by omega
         have hge3:decide ((4294967296:Int)<=(d:Int))=false:=by rw [decide_eq_false_iff_not];omega
         have hgt:(r:Int)*4294967296+(win[m - 2]:Int)<(d:Int)*(dv[m - 2]:Int):=by have:=hgo.resolve_left hge;rw [<- Int.natCast_mul];omega
         go_wp2
         go_quiet (fail)
         go_wp2_with fail;go_meet;exact zcj HE HST hk1 hdb v2 hr2 _
     . have hrI:decide ((4294967296:Int)<=(r:Int)+(dv[m - 1]:Int))=false:=by rw [decide_eq_false_iff_not];omega
       have hr3:=ze hr2;clear hr2
       by_cases hge:4294967296<=d
       . skip
         have hge2:(4294967296:Int)<=(d:Int):=by omega
         clear hor2;go_wp2
         go_quiet (fail)
         go_wp2_with fail;go_roundw
         case rel=>exact zhz HST hk1 hdb (by have:=hr3.out;omega) _ _ rfl
         case measure=>simp [intOf];omega
       . skip
         have hge2:¬ (4294967296:Int)<=(d:Int):=by omega
         have hge3:decide ((4294967296:Int)<=(d:Int))=false:=by rw [decide_eq_false_iff_not];omega
         have hgt:(r:Int)*4294967296+(win[m - 2]:Int)<(d:Int)*(dv[m - 2]:Int):=by have:=hgo.resolve_left hge;rw [<- Int.natCast_mul];omega
         go_wp2
         go_quiet (fail)
         go_wp2_with fail;go_roundw
         case rel=>exact zhz HST hk1 hdb (by have:=hr3.out;omega) _ _ rfl
         case measure=>simp [intOf];omega
   . have hle:d*dv[m - 2]<=r*4294967296+win[m - 2]:=by
      rcases Nat.lt_or_ge (r*4294967296+win[m - 2]) (d*dv[m - 2]) with h | h
      . exact absurd (.inr h) hgo
      . exact h
     have hlt:d<4294967296:=by
      rcases Nat.lt_or_ge d 4294967296 with h | h
      . exact h
      . exact absurd (.inl h) hgo
     have hqe:=HE.out d r HT.out hle;have ho2:=zhf r win[m - 2] hrb b2;have hor2:bits .or .u64 ((r:Int)*4294967296) (win[m - 2]:Int)=(r:Int)*4294967296+win[m - 2]:=by rw [ho2];omega
     clear ho2 hgo;have hge2:¬ (4294967296:Int)<=(d:Int):=by omega
     have hge3:decide ((4294967296:Int)<=(d:Int))=false:=by rw [decide_eq_false_iff_not];omega
     have hgt:¬ (r:Int)*4294967296+(win[m - 2]:Int)<(d:Int)*(dv[m - 2]:Int):=by rw [<- Int.natCast_mul];omega
     have hmul:d*dv[m - 2]<=18446744073709551615:=by omega
     have hmulI:(d:Int)*(dv[m - 2]:Int)<=18446744073709551615:=by rw [<- Int.natCast_mul];omega
     have hmul0:(0:Int)<=(d:Int)*(dv[m - 2]:Int):=by rw [<- Int.natCast_mul];omega
     clear hmul hle hlt;go_wp2
     go_quiet (fail)
     clear hge2 hge3;go_wp2_with fail;go_meet;exact ⟨d,_,rfl,hqd,hqe,by rw [World.drewN_drewN]⟩
 case rest=>
  obtain ⟨d,n,rfl,hqd,hqe,rfl⟩:=hcut
  have hq1:=HV.out.1
  have hdb:d<=4294967296:=by omega
  have HD:=ze hqe
  have HD2:=ze hqd
  have hlw' :win.length=dv.length+1:=by omega
  clear hqe hqd hq1 HK HE H0 hor hc1 hc2 hw0 hw1 hw2 hi1 hi2 b0 b1 b2 v1 v2 hv1
  go_wp2_with fail
  go_loopw [9,10,80] (zm6 w g d pre win post dv) (fun _ _ iv _=>dv.length - (intOf iv).toNat)
  case atStart=>
   exact ⟨0,0,0,win,by omega,rfl,rfl,rfl,by omega,by omega,rfl,hsw,by rw [List.take_zero,List.take_zero,vk];rfl,fun _ _=>rfl,hwin.drewN n,zin (World.grownBy.refl w _) n⟩
  case round=>
   obtain ⟨i,cy,bo,O,hi,rfl,rfl,rfl,hcy,hbo,hO,hsO,HVV,HS,hwin1,hgr⟩:=hrel;have hg1:=Blk.lt hwin1
   by_cases hlt:i<m
   . have hiv:i<dv.length:=by omega
     have hiO:i<O.length:=by omega
     have hcu:=hwin1.cell hk hiO;have hfu:=hwin1.frozen (k+i);obtain ⟨adv',u,e,_,hx,hcv⟩:=hrv.at_ (k:=i) (by omega);injection e with e
     subst e;rw [yQ hiv] at hx;injection hx with hx
     subst hx;have hcv1:=(Vg (p:=adv.add i) hgr (by rw [zF];exact hbv) (by rw [zF];exact hnb)).trans hcv;clear hcv;have bv:dv[i]<4294967296:=hsv.get i hiv;have bO:O[i]<4294967296:=hsO.get i hiO;have hp1:d*dv[i]<=18446744069414584320:=Nat.le_trans (Nat.mul_le_mul hdb (show dv[i]<=4294967295 by omega)) (by omega);have hp2:(d:Int)*(dv[i]:Int)<=18446744069414584320:=by rw [<- Int.natCast_mul];omega
     have hp3:(0:Int)<=(d:Int)*(dv[i]:Int):=by rw [<- Int.natCast_mul];omega
     clear hp1;go_wp2_with (go_at_call 212;refine (zkk _ _ _ (by omega) (by omega) (by omega) (by omega) (by omega) (by omega) _).mono ?_;rintro e w' ⟨s,b',hs,hb',hsum,rfl,rfl⟩;have HSM:=ze hsum;clear hsum);go_roundw
     case rel=>
      have ey:((cy:Int)+(d:Int)*(dv[i]:Int))=((cy+d*dv[i]:Nat):Int):=by rw [Int.natCast_add,Int.natCast_mul]
      refine zm6.step hiv hlw' hdb hcy hO hsO hsv HVV HS hwin1 hgr hk hs hb' ?_ _ _ _ _ (by rw [ey];exact congrArg _ (by omega)) rfl (by go_num) rfl;have h:=HSM.out;rw [ey,show (4294967296:Int)=((4294967296:Nat):Int) by rfl, <- Int.natCast_emod] at h;simp only [Int.toNat_natCast] at h
      show _=_
      rw [<- HS.out i (Nat.le_refl _),zu hiO];exact h
     case measure=>simp [intOf];omega
   . obtain rfl:i=m:=by omega
     have hiO:i<O.length:=by omega
     have hcu:=hwin1.cell hk hiO;have hfu:=hwin1.frozen (k+i);have bO:O[i]<4294967296:=hsO.get i hiO
     go_upto_region 18 with (go_at_call 212;refine (zkk _ _ _ (by omega) (by omega) (by omega) (by omega) (by omega) (by omega) _).mono ?_;rintro e w' ⟨s,b',hs,hb',hsum,rfl,rfl⟩;have HSM:=ze hsum;clear hsum)
     have hsm:=HSM.out;simp only [Int.toNat_natCast] at hsm;have htw:=zi3 (s:=s) (b' :=b') hlw' hO (by rw [hlv];exact HVV.out) (by rw [hlv, <- HS.out i (Nat.le_refl _),zu hiO];exact hsm);rw [hlv] at htw;have hO1:(O.set i s).length=win.length:=by rw [List.length_set];exact hO
     have hs1:=hsO.set i s hs;have hw1:=hwin1.set_ hk hiO s;have hg2:=vR (p:=⟨g,k+i,none⟩) hgr (.inl rfl) (.int .u32 (s:Int));have hlow:=Yh hs1;rw [hO1,hlw] at hlow;clear HSM hsm HVV HS
     rcases (show b' =0\/b' =1 by omega) with rfl | rfl
     . obtain ⟨hdq,hrem⟩:=za4 (by rw [<- HQ.out];exact HD2.out) (by rw [<- HQ.out];exact HD.out) HV.out.2 htw
       rw [<- HQ.out] at hdq;rw [<- HM.out] at hrem;have hq1:=HV.out.1;have HR:=ze hrem;clear hrem htw hlow;subst hdq;go_wp2_with fail;go_ret;exact ⟨O.set i s,rfl,hO1,hs1,HR.out,hw1,hg2⟩
     . have hb2:val 4294967296 (O.set i s)<4294967296 ^ (i+1):=hlow
       obtain ⟨hdq,hrem⟩:=ze7 (by rw [<- HQ.out];exact HD2.out) (by rw [<- HQ.out];exact HD.out) HV.out.2 hb2 htw;rw [<- HQ.out] at hdq;rw [<- HM.out] at hrem;have HR:=ze hrem;have hq1:=HV.out.1;clear hrem htw hlow hb2 hcu hfu bO hwin1 hgr;subst hdq;obtain ⟨O1,eO1⟩:∃ O1,O1=O.set i s:=⟨_,rfl⟩;obtain ⟨w1,ew1⟩:∃ w1,w1=wr.setCell ⟨g,k+i,none⟩ (.int .u32 (s:Int)):=⟨_,rfl⟩;rw [<- eO1] at hO1 hs1 hw1 HR;rw [<- ew1] at hw1 hg2 |-;clear eO1 ew1;go_wp2_with fail
       go_loopw [12,128] (zdz w g pre O1 post dv) (fun _ iv _=>dv.length - (intOf iv).toNat)
       case atStart=>
        exact ⟨0,0,O1,by omega,rfl,rfl,by omega,rfl,hs1,by rw [List.take_zero,List.take_zero,vk];rfl,fun _ _=>rfl,hw1,hg2⟩
       case round=>
        clear hw1 hg2;obtain ⟨j,cb,O,hj,rfl,rfl,hcb,hO,hsO,HVV,HS,hwin1,hgr⟩:=hrel;have hg1:=Blk.lt hwin1
        by_cases hlt:j<i
        . have hiv:j<dv.length:=by omega
          have hiO:j<O.length:=by omega
          have hcu:=hwin1.cell hk hiO;have hfu:=hwin1.frozen (k+j);obtain ⟨adv',u,e,_,hx,hcv⟩:=hrv.at_ (k:=j) (by omega);injection e with e
          subst e;rw [yQ hiv] at hx;injection hx with hx
          subst hx;have hcv1:=(Vg (p:=adv.add j) hgr (by rw [zF];exact hbv) (by rw [zF];exact hnb)).trans hcv;clear hcv;have bv:dv[j]<4294967296:=hsv.get j hiv;have bO:O[j]<4294967296:=hsO.get j hiO;go_wp2_with fail
          go_region_with (go_at_call 245;refine (zme _ _ _ bO bv hcb _).mono ?_;rintro e w' ⟨rfl,rfl⟩)
          all_goals
           go_wp2_with fail;go_roundw
           case rel=>
            repeat apply Exists.intro
            refine ⟨zdz.drew ?_,rfl⟩;exact zdz.step hiv (by omega) hcb (by omega) hsO hsv HVV HS hwin1 hgr hk O[j] (zu hiO).symm _ _ _ rfl (by go_num) rfl
           case measure=>simp [intOf];omega
        . obtain rfl:j=i:=by omega
          have hiO:j<O.length:=by omega
          have hcu:=hwin1.cell hk hiO;have hfu:=hwin1.frozen (k+j);have bO:O[j]<4294967296:=hsO.get j hiO;have hbw:=ziy (win:=O1) (dv:=dv) (O:=O) (c:=cb) (r:=rm) (by omega) (by omega) hsO hs1 (by rw [hlv];exact HVV.out) hcb (by rw [hlv];exact HR.out);rw [hlv, <- HS.out j (Nat.le_refl _),zu hiO] at hbw;have HB:=ze hbw;have hw2:=hwin1.set_ hk hiO ((O[j]+cb) % 4294967296);have hg3:=vR (p:=⟨g,k+j,none⟩) hgr (.inl rfl) (.int .u32 (((O[j]+cb) % 4294967296:Nat):Int));clear hbw HVV HS HR hs1;go_wp2_with fail;go_ret;refine ⟨O.set j ((O[j]+cb) % 4294967296),by go_num,by rw [List.length_set];omega,hsO.set _ _ (Nat.mod_lt _ (by omega)),HB.out,?_,?_⟩
          . exact hw2
          . exact hg3
end Go.Proofs.YtkmcmmcencdcpaaGreatDoor
