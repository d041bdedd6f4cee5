/- Parts of the proof: memory, numbers, walks of the functions that are called. -/
import Derived.Test.YtnpbflhjglkokaaGreatDoorMn21
import Derived.Test.YtnpbflhjglkokaaGreatDoorMn22
set_option linter.unusedVariables false
set_option linter.unusedSimpArgs false
set_option maxHeartbeats 32000000
namespace Go.Proofs.YtnpbflhjglkokaaGreatDoor
open Go.RowKit Go.Deep
attribute [local go_sem ↓] Go.wp_at_zero Go.wp_at_succ
theorem zao {l:List UInt8} (h:l.all yp=true) (hl:l.length<=1500):len 4294967296 (zq l)<=33554432:=by
 have h1:=Zr h
 refine Nat.le_trans (zN (k:=l.length) (by omega) (Nat.lt_of_lt_of_le h1 (Nat.pow_le_pow_left (by omega) _))) (by omega)
theorem zai (s:Bool) (n:Nat):(signed s n).natAbs=n:=by cases s<;>simp [signed]
theorem zhd {ng:Bool} {n d M:Nat} (hd:0<d) (h1:len 4294967296 n<=M) (h2:len 4294967296 d<=M):Yi M (yO ng n d):=by
 obtain ⟨e1,e2,_⟩:=VN ng n d hd
 unfold Yi
 rw [e1,e2]
 exact ⟨Nat.le_trans (xe (by omega) (Nat.div_le_self _ _)) h1,Nat.le_trans (xe (by omega) (by rw [Int.natAbs_natCast];exact Nat.div_le_self _ _)) h2⟩
def RdxR (w0:World) (s:List UInt8) (nv dv:Value) (wc:World):Prop:=∃ n d:ByteArray,nv= .string n/\dv= .string d/\
 Hid ((zK s).1=bts n/\(zK s).2.1=bts d/\(zK s).2.2=(zR (bts n) && zR (bts d)))/\Hid (n.size<=1500/\d.size<=1500)/\Hid (Below w0.heap.size w0 wc)
def VH (neg:Bool) (s:List UInt8):List UInt8×Int:=
 if (zK s).2.2 then
  if zq (zK s).2.1=0 then ([],7) else (zM (yO neg (zq (zK s).1) (zq (zK s).2.1)),0)
 else ([],4)
theorem zfq (l:List UInt8):zdv l=VH (yf l) (zk l):=rfl
theorem vi {neg:Bool} {s:List UInt8} (h:(zK s).2.2=false):VH neg s=([],4):=by
 unfold VH;rw [h];rfl
set_option maxRecDepth 100000 in
theorem zhl (t:ByteArray) (w:World) (ht:t.size<=600):
 Calls Tryz.prog 43 #[.string t] w (znn w (zdv (bts t))):=by
 have hcp:=fun w=>YR t w (by omega)
 go_enter Tryz.func43,Tryz.ntmps43
 go_wp2_with fail
 refine (hcp _).mono ?_
 rintro e w1 ⟨u,rfl,hu,rfl⟩
 have hus:u.size<=600:=by
  rw [<- zi,hu]
  unfold zk
  have:=zi t
  split
  . rw [List.length_tail];omega
  . omega
 have hct:=fun w=>zd9 u 47 w (by omega)
 obtain ⟨neg,hneg⟩:∃ x,x=yf (bts t):=⟨_,rfl⟩
 have HT:=ze (show zdv (bts t)=VH neg (bts u) by rw [zfq,hneg,hu])
 rw [<- hneg]
 clear hcp hu hneg
 go_wp2_with fail
 refine (hct _).mono ?_
 rintro e w1 ⟨a,b,rfl,ha,hb,n1,rfl⟩
 have HW:=ze (zm (yC w) n1)
 generalize w.drewN n1=W1 at HW |-
 have hct2:=fun w=>zd9 u 46 w (by omega)
 have hau:a.size<=600:=by
  rw [<- zi,ha]
  have:(ahead 47 (bts u)).length<=(bts u).length:=(List.takeWhile_sublist _).length_le
  rw [zi] at this
  omega
 have hbu:b.size<=600:=by
  rw [<- zi,hb]
  split
  . have:(zS 47 (bts u)).length<=(bts u).length:=by unfold zS;rw [List.length_tail];have:=(List.dropWhile_sublist (l:=bts u) (· != 47)).length_le;omega
    rw [zi] at this
    omega
  . simp
 clear hct
 go_upto_if 24 with fail
 go_cut [6,7,8] from 12 (fun nv dv _ wc=>RdxR w (bts u) nv dv wc)
 case first=>
  cases hq:has 47 (bts u) with
  | true=>
    have HP:Hid ((zK (bts u)).1=bts a/\(zK (bts u)).2.1=bts b/\(zK (bts u)).2.2=(zR (bts a) && zR (bts b))):=ze (by
     rw [hq,if_pos rfl] at hb;unfold zK;rw [hq,if_pos rfl,ha,hb]
     exact ⟨rfl,rfl,rfl⟩)
    have HS:Hid (a.size<=1500/\b.size<=1500):=ze ⟨by omega,by omega⟩;clear ha hb;go_wp2_with fail;go_meet
    case rel=>exact ⟨a,b,rfl,rfl,HP,HS,HW⟩
  | false=>
    have HQ:=ze hq;clear ha hb;go_wp2_with fail;refine (hct2 _).mono ?_;rintro e w2 ⟨a2,b2,rfl,ha2,hb2,n2,rfl⟩;have HWD:=ze (zm HW.out n2);generalize W1.drewN n2=W2 at HWD |-;clear hct2 HW
    have hau2:a2.size<=600:=by
     rw [<- zi,ha2];have:(ahead 46 (bts u)).length<=(bts u).length:=(List.takeWhile_sublist _).length_le;rw [zi] at this
     omega
    cases hp:has 46 (bts u) with
    | false=>
      have HP:Hid ((zK (bts u)).1=bts a2/\(zK (bts u)).2.1=bts ⟨#[49]⟩/\(zK (bts u)).2.2=(zR (bts a2) && zR (bts ⟨#[49]⟩))):=ze (by
       have e1:zR (bts ⟨#[49]⟩)=true:=by decide
       unfold zK;rw [HQ.out,if_neg (by decide),hp,if_neg (by decide),ha2,ZM hp,e1,Bool.and_true]
       exact ⟨rfl,rfl,rfl⟩)
      have HS:Hid (a2.size<=1500/\(⟨#[49]⟩:ByteArray).size<=1500):=ze ⟨by omega,by decide⟩;clear ha2 hb2;go_wp2_with fail;go_meet
      case rel=>exact ⟨a2,_,rfl,rfl,HP,HS,HWD⟩
    | true=>
      rw [hp,if_pos rfl] at hb2
      have hbu2:b2.size<=600:=by
       rw [<- zi,hb2];have:(zS 46 (bts u)).length<=(bts u).length:=by unfold zS;rw [List.length_tail];have:=(List.dropWhile_sublist (l:=bts u) (· != 46)).length_le;omega
       rw [zi] at this
       omega
      have hok:(zK (bts u)).2.2=(zR (bts a2) && zR (bts b2)):=by
       unfold zK;rw [HQ.out,if_neg (by decide),hp,if_pos rfl,ha2,hb2]
      have hn1:(zK (bts u)).1=bts (a2 ++ b2):=by
       unfold zK;rw [HQ.out,if_neg (by decide),hp,if_pos rfl,Zh,ha2,hb2]
      have hd1:(zK (bts u)).2.1=49 :: zs b2.size:=by
       unfold zK;rw [HQ.out,if_neg (by decide),hp,if_pos rfl, <- hb2,zi]
      have HOK:=ze hok;have HN1:=ze hn1;have HD1:=ze hd1;clear hok hn1 hd1 ha2 hb2 hp;have hda:=fun w=>ZH a2 w (by omega)
      have hdb:=fun w=>ZH b2 w (by omega)
      cases h1:zR (bts a2) with
      | false=>
        have HB:=ze (vi (neg:=neg) (s:=bts u) (by rw [HOK.out,h1];rfl));rw [h1] at hda;clear h1;go_wp2_with fail;refine (hda _).mono ?_;rintro e w3 ⟨rfl,rfl⟩;go_wp2_with fail;go_ret2;rw [HT.out,HB.out];exact ⟨rfl,HWD.out⟩
      | true=>
        rw [h1] at hda HOK;have H1:=ze h1;clear h1
        cases h2:zR (bts b2) with
        | false=>
          have HB:=ze (vi (neg:=neg) (s:=bts u) (by rw [HOK.out,h2];rfl));rw [h2] at hdb;clear h2;go_wp2_with fail;refine (hda _).mono ?_;rintro e w3 ⟨rfl,rfl⟩;go_wp2_with fail;refine (hdb _).mono ?_;rintro e w3 ⟨rfl,rfl⟩;go_wp2_with fail;go_ret2;rw [HT.out,HB.out];exact ⟨rfl,HWD.out⟩
        | true=>
          rw [h2] at hdb HOK;have H2:=ze h2;clear h2;go_wp2_with fail;refine (hda _).mono ?_;rintro e w3 ⟨rfl,rfl⟩;go_wp2_with fail;refine (hdb _).mono ?_;rintro e w3 ⟨rfl,rfl⟩;obtain ⟨z,hz,hzs,hcall⟩:=zgj b2.size (by omega) W2;go_wp2_with fail;refine hcall.mono ?_;rintro e w4 ⟨rfl,hb4⟩;have HW4:=ze (ext HWD.out hb4);have hd2:bts (⟨#[49]⟩ ++ z)=49 :: zs b2.size:=by rw [Zh,hz];rfl
          have hdg:zR (49 :: zs b2.size)=true:=by
           show ((yp 49 && (zs b2.size).all yp) && true)=true
           rw [zhq];rfl
          have hng:zR (bts (a2 ++ b2))=true:=by
           rw [Zh];have e1:=H1.out;have e2:=H2.out;unfold zR at e1 e2 |-;rw [Bool.and_eq_true] at e1 e2;rw [List.all_append,e1.1,e2.1]
           cases hbl:bts a2 with
           | nil=>rw [hbl] at e1;exact absurd e1.2 (by decide)
           | cons x y=>rfl
          have HP:Hid ((zK (bts u)).1=bts (a2 ++ b2)/\(zK (bts u)).2.1=bts (⟨#[49]⟩ ++ z)/\(zK (bts u)).2.2=(zR (bts (a2 ++ b2)) && zR (bts (⟨#[49]⟩ ++ z)))):=ze
           ⟨HN1.out,by rw [HD1.out,hd2],by rw [HOK.out,hng,hd2,hdg]⟩
          have HS:Hid ((a2 ++ b2).size<=1500/\(⟨#[49]⟩ ++ z).size<=1500):=ze ⟨by rw [<- zi,Zh,List.length_append,zi,zi];omega,by
           rw [<- zi,hd2,List.length_cons];unfold zs;rw [List.length_replicate];omega⟩
          clear hd2 hdg hng hb4 hcall hz;go_wp2_with fail;go_meet
          case rel=>exact ⟨_,_,rfl,rfl,HP,HS,HW4⟩
 case rest=>
 clear hct2 HW hau hbu ha hb
 obtain ⟨n,d,rfl,rfl,HP,HS,HW⟩:=hcut
 obtain ⟨hn15,hd15⟩:=HS.out
 have hda:=fun w=>ZH n w (by omega)
 have hdb:=fun w=>ZH d w (by omega)
 cases h1:zR (bts n) with
 | false=>
   have HB:=ze (vi (neg:=neg) (s:=bts u) (by rw [HP.out.2.2,h1];rfl));rw [h1] at hda;clear h1;go_wp2_with fail;refine (hda _).mono ?_;rintro e w3 ⟨rfl,rfl⟩;go_wp2_with fail;go_ret2;rw [HT.out,HB.out];exact ⟨rfl,HW.out⟩
 | true=>
   rw [h1] at hda;have H1:=ze h1
   cases h2:zR (bts d) with
   | false=>
     have HB:=ze (vi (neg:=neg) (s:=bts u) (by rw [HP.out.2.2,h1,h2];rfl));rw [h2] at hdb;clear h1 h2;go_wp2_with fail;refine (hda _).mono ?_;rintro e w3 ⟨rfl,rfl⟩;go_wp2_with fail;refine (hdb _).mono ?_;rintro e w3 ⟨rfl,rfl⟩;go_wp2_with fail;go_ret2;rw [HT.out,HB.out];exact ⟨rfl,HW.out⟩
   | true=>
     rw [h2] at hdb;have H2:=ze h2
     have HB:Hid (VH neg (bts u)=if zq (bts d)=0 then ([],7) else (zM (yO neg (zq (bts n)) (zq (bts d))),0)):=ze (by
      unfold VH;rw [HP.out.2.2,HP.out.1,HP.out.2.1,h1,h2]
      rfl)
     have hc1:=fun w=>Vz u 47 w
     have hc2:=fun w=>Vz u 46 w
     have hl1:(bts u).count 47<=600:=Nat.le_trans List.count_le_length (by rw [zi];exact hus);have hl2:(bts u).count 46<=600:=Nat.le_trans List.count_le_length (by rw [zi];exact hus);generalize (bts u).count 47=k1 at hc1 hl1;generalize (bts u).count 46=k2 at hc2 hl2;have e1:IntKind.i64.wrap ((u.size:Int) - (k1:Int))=(u.size:Int) - (k1:Int):=by rw [IntKind.wrap_i64];omega
     have e2:IntKind.i64.wrap ((u.size:Int) - (k1:Int) - (k2:Int))=(u.size:Int) - (k1:Int) - (k2:Int):=by rw [IntKind.wrap_i64];omega
     have e3:decide ((50000:Int)<(u.size:Int) - (k1:Int) - (k2:Int))=false:=decide_eq_false (by omega);clear h1 h2;go_wp2_with fail;refine (hda _).mono ?_;rintro e w3 ⟨rfl,rfl⟩;go_wp2_with fail;refine (hdb _).mono ?_;rintro e w3 ⟨rfl,rfl⟩;go_wp2_with fail;refine (hc1 _).mono ?_;rintro e w3 ⟨rfl,rfl⟩;go_wp2_with fail;refine (hc2 _).mono ?_;rintro e w3 ⟨rfl,rfl⟩;go_wp2_with fail;refine (zi0 d 48 (by decide) _ (by omega)).mono ?_;rintro e w3 ⟨rfl,hw3⟩
     have hb3:Below wc.heap.size wc w3:=by
      rcases hw3 with rfl | rfl
      . exact yC _
      . exact zm (yC _) 1
     replace HW:=eb_ HW hb3
     have hall:(bts d).all yp=true:=by
      have:=H2.out;unfold zR at this;rw [Bool.and_eq_true] at this;exact this.1
     have hall1:(bts n).all yp=true:=by
      have:=H1.out;unfold zR at this;rw [Bool.and_eq_true] at this;exact this.1
     have htz:=zis hall;obtain ⟨z,hz⟩:∃ z:ByteArray,z=⟨(Lib.trimB d.data.toList 48).toArray⟩:=⟨_,rfl⟩;rw [<- hz];have hbz:bts z=Lib.trimB (bts d) 48:=by rw [hz];exact vr _
     clear hw3 hb3 hz e1 e2 e3
     by_cases h0:zq (bts d)=0
     . have hzl:(z.toList == [])=true:=by
        rw [Lib.toList_data]
        show (bts z == [])=true
        rw [hbz,htz.2 h0];rfl
       rw [if_pos h0] at HB;clear h0 hbz htz;go_wp2_with fail;go_ret2;rw [HT.out,HB.out];exact ⟨rfl,HW.out⟩
     . have hzl:(z.toList == [])=false:=by
        rw [Lib.toList_data]
        show (bts z == [])=false
        rw [hbz];exact beq_eq_false_iff_ne.2 (fun e=>h0 (htz.1 e))
       rw [if_neg h0] at HB;have H0:=ze h0;clear h0 hbz htz;go_wp2_with fail;have hln:=zao hall1 (by rw [zi];exact hn15);have hld:=zao hall (by rw [zi];exact hd15);have HLN:=ze hln;have HLD:=ze hld;have HAN:=ze hall1;have HAD:=ze hall;clear hln hld hall hall1;refine (vj n _ HAN.out (by omega)).mono ?_;rintro e w4 ⟨v4,rfl,hv4,hb4⟩;replace HW:=eb_ HW hb4;have HV4:=ze hv4;clear hb4 hv4;go_wp2_with fail;refine (zV neg v4 (zq (bts n)) _ HV4.out).mono ?_;rintro e w5 ⟨v5,rfl,hv5,hb5⟩;replace HW:=eb_ HW hb5;have HV5:=ze hv5;clear hb5 hv5 HV4;go_wp2_with fail;refine (vj d _ HAD.out (by omega)).mono ?_;rintro e w6 ⟨v6,rfl,hv6,hb6⟩;replace HW:=eb_ HW hb6;replace HV5:=ze (HV5.out.below hb6);have HV6:=ze hv6;clear hb6 hv6;go_wp2_with fail;refine (zV false v6 (zq (bts d)) _ HV6.out).mono ?_;rintro e w7 ⟨v7,rfl,hv7,hb7⟩;replace HW:=eb_ HW hb7;replace HV5:=ze (HV5.out.below hb7);have HV7:=ze hv7;clear hb7 hv7 HV6;go_wp2_with fail
       refine (vY v5 v7 (signed neg (zq (bts n))) (signed false (zq (bts d))) _ HV5.out HV7.out (by show ((zq (bts d):Nat):Int)≠0;have:=H0.out;omega) (by rw [zai];exact HLN.out) (by rw [zai];exact HLD.out)).mono ?_;rintro e w8 ⟨v8,rfl,hv8,hb8⟩;replace HW:=eb_ HW hb8;have HV8:Hid (yw w8 v8 (yO neg (zq (bts n)) (zq (bts d)))):=ze hv8;have HRL:=ze (zhd (ng:=neg) (n:=zq (bts n)) (d:=zq (bts d)) (M:=33554432) (Nat.pos_of_ne_zero H0.out) HLN.out HLD.out);clear hb8 hv8 HV5 HV7;go_wp2_with fail;refine (ZW v8 _ _ HV8.out (HRL.out.more (by omega))).mono ?_;rintro e w9 ⟨rfl,hb9⟩;replace HW:=eb_ HW hb9;clear hb9;go_wp2_with fail;go_ret2;rw [HT.out,HB.out];exact ⟨rfl,HW.out⟩
theorem ziw (s:ByteArray) (hs:s.size<=1073741824):∃ (ng:Bool) (t:ByteArray),Hid (ng=yf (bts s))/\Hid (bts t=zk (bts s))/\Hid (t.size<=1073741824)/\
        ((s.toList.isEmpty=true/\ng=false/\s=t)\/(∃ h:0<s.size,((s[0].toNat:Int) == 45)=false/\ng=false/\s=t/\s.toList.isEmpty=false)\/(∃ h:0<s.size,((s[0].toNat:Int) == 45)=true/\ng=true/\t=s.extract 1 s.size/\s.toList.isEmpty=false)):=by
 by_cases h0:0<s.size
 . have hne:s.toList.isEmpty=false:=by
    rw [Bool.eq_false_iff];intro e;have e:=List.isEmpty_iff.1 e;have:=congrArg List.length e;rw [Lib.toList_data] at this;simp at this;rw [this] at h0;exact absurd h0 (by decide)
   have hh:(bts s).head?=some s[0]:=by
    have:=xS s 0 h0;rw [List.head?_eq_getElem?,List.getElem?_eq_getElem (by rw [zi];exact h0),this]
   by_cases h1:s[0]=45
   . have hsg:yf (bts s)=true:=by unfold yf;rw [hh,h1];rfl
     refine ⟨true,s.extract 1 s.size,hsg.symm,?_,?_,.inr (.inr ⟨h0,by rw [h1];rfl,rfl,rfl,hne⟩)⟩
     . show _=_
       rw [xi,List.take_of_length_le (by rw [zi];exact Nat.le_refl _)];have:=Z2 hsg
       conv=>lhs;rw [this]
       rfl
     . show _<=_
       rw [ByteArray.size_extract];omega
   . have hsg:yf (bts s)=false:=by
      unfold yf;rw [hh];rw [beq_eq_false_iff_ne];intro e;injection e with e;exact h1 e
     refine ⟨false,s,hsg.symm,(vN hsg).symm,hs,.inr (.inl ⟨h0,?_,rfl,rfl,hne⟩)⟩;rw [beq_eq_false_iff_ne];intro e;exact h1 (UInt8.toNat_inj.1 (by have:(45:UInt8).toNat=45:=rfl;omega))
 . have he:bts s=[]:=by
    apply List.eq_nil_of_length_eq_zero;rw [zi];omega
   refine ⟨false,s,by rw [he];exact rfl,by rw [he];exact rfl,hs,.inl ⟨?_,rfl,rfl⟩⟩;rw [Lib.toList_data];unfold bts at he;rw [show s.data.toList=[] from he];rfl
theorem zb2 {c:UInt8} {a u:ByteArray} (h:bts a=ahead c (bts u)) (hu:u.size<=600):a.size<=600:=by
 rw [<- zi,h]
 have:(ahead c (bts u)).length<=(bts u).length:=(List.takeWhile_sublist _).length_le
 rw [zi] at this
 omega
theorem zal {c:UInt8} {b u:ByteArray} (h:bts b=if has c (bts u)=true then zS c (bts u) else []) (hu:u.size<=600):b.size<=600:=by
 rw [<- zi,h]
 split
 . have:(zS c (bts u)).length<=(bts u).length:=by unfold zS;rw [List.length_tail];have:=(List.dropWhile_sublist (l:=bts u) (· != c)).length_le;omega
   rw [zi] at this
   omega
 . simp
theorem ze1 {s:List UInt8} (h:has 47 s=true):zK s=(ahead 47 s,zS 47 s,zR (ahead 47 s) && zR (zS 47 s)):=by
 unfold zK;rw [h];rfl
theorem zej {s:List UInt8} (h:has 47 s=false) (h2:has 46 s=true):zK s=(ahead 46 s ++ zS 46 s,49 :: zs (zS 46 s).length,zR (ahead 46 s) && zR (zS 46 s)):=by
 unfold zK;rw [h,h2];rfl
theorem ze9 {s:List UInt8} (h:has 47 s=false) (h2:has 46 s=false):zK s=(s,[49],zR s):=by
 unfold zK;rw [h,h2];rfl
theorem Xo {l:List UInt8} (h:zR l=true):l.all yp=true:=by
 unfold zR at h;rw [Bool.and_eq_true] at h;exact h.1
theorem ZY {l:List UInt8} (h:l.all yp=true) (hl:l.length<=1500):len 1000000000 (zq l)<=33554432:=by
 have h1:=Zr h
 refine Nat.le_trans (zN (k:=l.length) (by omega) (Nat.lt_of_lt_of_le h1 (Nat.pow_le_pow_left (by omega) _))) (by omega)
theorem XA {neg b:Bool} {s n d:List UInt8} (h:zK s=(n,d,b)) (hb:b=true):VH neg s=if zq d=0 then ([],7) else (zM (yO neg (zq n) (zq d)),0):=by
 unfold VH;rw [h,hb];rfl
set_option maxRecDepth 100000 in
theorem zln (t:ByteArray) (w:World) (ht:t.size<=600):
 Calls Tryz.prog 44 #[.string t] w (znn w (zdv (bts t))):=by
 obtain ⟨ng,u,HNG,HU,HTS,hcase⟩:=ziw t (by omega)
 have HT:=ze (show zdv (bts t)=VH ng (bts u) by rw [zfq,HNG.out,HU.out])
 have hus:u.size<=600:=by
  rw [<- zi,HU.out]
  unfold zk
  have:=zi t
  split
  . rw [List.length_tail];omega
  . omega
 have hc1:∀ W,Calls Tryz.prog 114 #[.string u,.int .u8 47] W (Xn W u 47):=fun W=>zfa u 47 W (by omega)
 have hc2:∀ W,Calls Tryz.prog 114 #[.string u,.int .u8 46] W (Xn W u 46):=fun W=>zfa u 46 W (by omega)
 have HC1:=ze hc1
 have HC2:=ze hc2
 clear hc1 hc2 HNG HU HTS
 rcases hcase with ⟨h1,rfl,e⟩ | ⟨h0,h1,rfl,e,h2⟩ | ⟨h0,h1,rfl,e,h2⟩
 all_goals
  first
  | (have HE:=ze (show u=t.extract 1 t.size from e);clear e;go_enter Tryz.func44,Tryz.ntmps44;go_wp2_with fail;rw [<- HE.out];clear HE)
  | (have e:=e.symm;subst e;go_enter Tryz.func44,Tryz.ntmps44;go_wp2_with fail)
 all_goals
  refine (HC1.out _).mono ?_
  rintro e w1 ⟨a,b,rfl,ha,hb,n1,rfl⟩
  have HW:=ze (zm (yC w) n1)
  generalize w.drewN n1=W1 at HW |-
  go_wp2_with fail
  refine (HC2.out _).mono ?_
  rintro e w1 ⟨a2,b2,rfl,ha2,hb2,n2,rfl⟩
  replace HW:=ze (zm HW.out n2)
  generalize W1.drewN n2=W2 at HW |-
  clear HC1 HC2
  have hau:=zb2 ha hus
  have hau2:=zb2 ha2 hus
  have hbu:=zal hb hus
  have hbu2:=zal hb2 hus
  cases hq:has 47 (bts u) with
  | true=>
    have hRP:=ze1 hq;rw [hq,if_pos rfl] at hb;rw [<- ha, <- hb] at hRP;have HRP:=ze hRP;clear hRP ha hb ha2 hb2 hq;have hda:=fun W=>yV a W (by omega)
    have hdb:=fun W=>yV b W (by omega)
    cases h1:zR (bts a) with
    | false=>
      have HB:=ze (fun neg=>vi (neg:=neg) (s:=bts u) (by rw [HRP.out,h1];rfl));rw [h1] at hda;clear h1;go_wp2_with fail;refine (hda _).mono ?_;rintro e w3 ⟨rfl,rfl⟩;go_wp2_with fail;go_ret2;rw [HT.out,HB.out];exact ⟨rfl,HW.out⟩
    | true=>
      rw [h1] at hda;have H1:=ze h1
      cases h2:zR (bts b) with
      | false=>
        have HB:=ze (fun neg=>vi (neg:=neg) (s:=bts u) (by rw [HRP.out,h1,h2];rfl));rw [h2] at hdb;clear h1 h2;go_wp2_with fail;refine (hda _).mono ?_;rintro e w3 ⟨rfl,rfl⟩;go_wp2_with fail;refine (hdb _).mono ?_;rintro e w3 ⟨rfl,rfl⟩;go_wp2_with fail;go_ret2;rw [HT.out,HB.out];exact ⟨rfl,HW.out⟩
      | true=>
        rw [h2] at hdb;have H2:=ze h2;clear h1 h2;go_wp2_with fail;refine (hda _).mono ?_;rintro e w3 ⟨rfl,rfl⟩;go_wp2_with fail;refine (hdb _).mono ?_;rintro e w3 ⟨rfl,rfl⟩;go_wp2_with fail;have HBQ:=ze (fun neg=>XA (neg:=neg) (s:=bts u) (n:=bts a) (d:=bts b) HRP.out (by rw [H1.out,H2.out];rfl));have hal:=Xo H1.out;have hbl:=Xo H2.out;refine (Zt b _ hbl (by omega)).mono ?_;rintro e w4 ⟨v4,rfl,hv4,hb4⟩;replace HW:=eb_ HW hb4;have HV4:=ze hv4;obtain ⟨A4,c4,rfl⟩:=hv4.form;clear hb4 hv4
        by_cases h0:zq (bts b)=0
        . have HB:=ze (fun neg=>(HBQ.out neg).trans (if_pos h0))
          have hz:len 1000000000 (zq (bts b))=0:=by rw [h0];exact Xl _
          rw [hz];clear hz h0;go_wp2_with fail;go_ret2;rw [HT.out,HB.out];exact ⟨rfl,HW.out⟩
        . have HB:=ze (fun neg=>(HBQ.out neg).trans (if_neg h0))
          have hlp:0<len 1000000000 (zq (bts b)):=VJ (by omega) (Nat.pos_of_ne_zero h0);have HLB:=ze (ZY hbl (by rw [zi];omega));have HLA:=ze (ZY hal (by rw [zi];omega));have H0:=ze (Nat.pos_of_ne_zero h0);have HAL:=ze hal;clear h0 hal hbl;generalize hln:len 1000000000 (zq (bts b))=nb at hlp HV4 |-;clear hln;go_wp2_with fail;refine (Zt a _ HAL.out (by omega)).mono ?_;rintro e w5 ⟨v5,rfl,hv5,hb5⟩;replace HW:=eb_ HW hb5;replace HV4:=ze (zB.below HV4.out hb5);have HV5:=ze hv5;clear hb5 hv5;go_wp2_with fail;refine (ZK _ _ _ (zq (bts a)) (zq (bts b)) _ HV5.out HV4.out H0.out HLA.out HLB.out).mono ?_;rintro e w6 ⟨v6,rfl,hv6,hb6⟩;replace HW:=eb_ HW hb6;have HV6:=ze hv6;clear hb6 hv6;go_wp2_with fail;refine (Y2 _ _ _ HV6.out (ZG H0.out HLA.out HLB.out)).mono ?_;rintro e w7 ⟨rfl,hb7⟩;replace HW:=eb_ HW hb7;clear hb7;go_wp2_with fail;go_ret2;rw [HT.out,HB.out];exact ⟨rfl,HW.out⟩
  | false=>
    clear ha hb
    cases hp:has 46 (bts u) with
    | true=>
      have hRP:=zej hq hp;rw [hp,if_pos rfl] at hb2;rw [<- ha2, <- hb2] at hRP;have HRP:=ze hRP;clear hRP ha2 hb2 hq hp;have hda:=fun W=>yV a2 W (by omega)
      have hdb:=fun W=>yV b2 W (by omega)
      cases h1:zR (bts a2) with
      | false=>
        have HB:=ze (fun neg=>vi (neg:=neg) (s:=bts u) (by rw [HRP.out,h1];rfl));rw [h1] at hda;clear h1;go_wp2_with fail;refine (hda _).mono ?_;rintro e w3 ⟨rfl,rfl⟩;go_wp2_with fail;go_ret2;rw [HT.out,HB.out];exact ⟨rfl,HW.out⟩
      | true=>
        rw [h1] at hda;have H1:=ze h1
        cases h2:zR (bts b2) with
        | false=>
          have HB:=ze (fun neg=>vi (neg:=neg) (s:=bts u) (by rw [HRP.out,h1,h2];rfl));rw [h2] at hdb;clear h1 h2;go_wp2_with fail;refine (hda _).mono ?_;rintro e w3 ⟨rfl,rfl⟩;go_wp2_with fail;refine (hdb _).mono ?_;rintro e w3 ⟨rfl,rfl⟩;go_wp2_with fail;go_ret2;rw [HT.out,HB.out];exact ⟨rfl,HW.out⟩
        | true=>
          rw [h2] at hdb;have H2:=ze h2;clear h1 h2
          have hall:(bts (a2 ++ b2)).all yp=true:=by
           rw [Zh,List.all_append,Xo H1.out,Xo H2.out];rfl
          have hn1:bts (a2 ++ b2)=bts a2 ++ bts b2:=Zh _ _;have hsz:(a2 ++ b2).size<=1500:=by rw [<- zi,hn1,List.length_append,zi,zi];omega
          have HB:=ze (fun neg=>(XA (neg:=neg) (s:=bts u) HRP.out (by rw [H1.out,H2.out];rfl)).trans (if_neg (by rw [zaj];exact Nat.ne_of_gt (Nat.pow_pos (by omega)))));have HBE:Hid (∀ neg,VH neg (bts u)=(zM (yO neg (zq (bts (a2 ++ b2))) (10 ^ b2.size)),0)):=ze (fun neg=>by rw [HB.out neg,zaj,hn1,zi]);have HLA:=ze (ZY hall (by rw [zi];exact hsz));have HLB:Hid (len 1000000000 (10 ^ b2.size)<=33554432):=ze (Nat.le_trans (zN (k:=b2.size+1) (by omega) (Nat.lt_of_lt_of_le (Nat.pow_lt_pow_right (by omega) (Nat.lt_succ_self _)) (Nat.pow_le_pow_left (by omega) _))) (by omega));have H0:Hid (0<10 ^ b2.size):=ze (Nat.pow_pos (by omega));have hcs:=fun W=>Zt (a2 ++ b2) W hall (by omega)
          have hcp:=fun W=>zj0 b2.size W (by omega)
          have HCS:=ze hcs;have HCP:=ze hcp;have hS:(a2.size:Int)+(b2.size:Int)<=50000:=by omega
          have e1:IntKind.i64.wrap ((a2.size:Int)+(b2.size:Int))=(a2.size:Int)+(b2.size:Int):=by rw [IntKind.wrap_i64];omega
          have e2:decide ((50000:Int)<(a2.size:Int)+(b2.size:Int))=false:=decide_eq_false (by omega);clear hcs hcp hall hn1 HB;go_wp2_with fail;refine (hda _).mono ?_;rintro e w3 ⟨rfl,rfl⟩;go_wp2_with fail;refine (hdb _).mono ?_;rintro e w3 ⟨rfl,rfl⟩;clear hda hdb;go_wp2_with fail;refine (HCS.out _).mono ?_;rintro e w4 ⟨v4,rfl,hv4,hb4⟩;replace HW:=eb_ HW hb4;have HV4:=ze hv4;clear hb4 hv4;go_wp2_with fail;refine (HCP.out _).mono ?_;rintro e w5 ⟨v5,rfl,hv5,hb5⟩;replace HW:=eb_ HW hb5;replace HV4:=ze (zB.below HV4.out hb5);have HV5:=ze hv5;clear hb5 hv5;go_wp2_with fail;refine (ZK _ _ _ (zq (bts (a2 ++ b2))) (10 ^ b2.size) _ HV4.out HV5.out H0.out HLA.out HLB.out).mono ?_;rintro e w6 ⟨v6,rfl,hv6,hb6⟩;replace HW:=eb_ HW hb6;have HV6:=ze hv6;clear hb6 hv6;go_wp2_with fail;refine (Y2 _ _ _ HV6.out (ZG H0.out HLA.out HLB.out)).mono ?_;rintro e w7 ⟨rfl,hb7⟩;replace HW:=eb_ HW hb7;clear hb7;go_wp2_with fail;go_ret2;rw [HT.out,HBE.out];exact ⟨rfl,HW.out⟩
    | false=>
      have hRP:=ze9 hq hp;have HRP:=ze hRP;clear hRP ha2 hb2 hq hp;have hdu:=fun W=>yV u W (by omega)
      cases h1:zR (bts u) with
      | false=>
        have HB:=ze (fun neg=>vi (neg:=neg) (s:=bts u) (by rw [HRP.out,h1]));rw [h1] at hdu;clear h1;go_wp2_with fail;refine (hdu _).mono ?_;rintro e w3 ⟨rfl,rfl⟩;go_wp2_with fail;go_ret2;rw [HT.out,HB.out];exact ⟨rfl,HW.out⟩
      | true=>
        rw [h1] at hdu;have hall:=Xo h1;have HB:=ze (fun neg=>(XA (neg:=neg) (s:=bts u) HRP.out h1).trans (if_neg (by decide)));have HBE:Hid (∀ neg,VH neg (bts u)=(zM (yO neg (zq (bts u)) 1),0)):=ze (fun neg=>HB.out neg);have HLA:=ze (ZY hall (by rw [zi];omega));have HLB:Hid (len 1000000000 1<=33554432):=ze (Nat.le_trans (zN (k:=1) (by omega) (by omega)) (by omega));have hcs:=fun W=>Zt u W hall (by omega)
        have HCS:=ze hcs;have e1:IntKind.i64.wrap ((a2.size:Int)+(b2.size:Int))=(a2.size:Int)+(b2.size:Int):=by rw [IntKind.wrap_i64];omega
        have e2:decide ((50000:Int)<(a2.size:Int)+(b2.size:Int))=false:=decide_eq_false (by omega);clear hcs hall HB h1;go_wp2_with fail;refine (hdu _).mono ?_;rintro e w3 ⟨rfl,rfl⟩;clear hdu;go_wp2_with fail;refine (HCS.out _).mono ?_;rintro e w4 ⟨v4,rfl,hv4,hb4⟩;replace HW:=eb_ HW hb4;have hx:=zf w4 (.cells #[.int .i64 1] 3);have HO:=ze (YH w4 (d:=1) (by omega) (by omega));have HV4:=ze (zB.below hv4 hx);replace HW:=eb_ HW hx;obtain ⟨A4,c4,rfl⟩:=hv4.form;clear hb4 hv4 hx;go_wp2_with fail;refine (ZK _ _ _ (zq (bts u)) 1 _ HV4.out HO.out (by omega) HLA.out HLB.out).mono ?_;rintro e w6 ⟨v6,rfl,hv6,hb6⟩;replace HW:=eb_ HW hb6;have HV6:=ze hv6;clear hb6 hv6;go_wp2_with fail;refine (Y2 _ _ _ HV6.out (ZG (by omega) HLA.out HLB.out)).mono ?_;rintro e w7 ⟨rfl,hb7⟩;replace HW:=eb_ HW hb7;clear hb7;go_wp2_with fail;go_ret2;rw [HT.out,HBE.out];exact ⟨rfl,HW.out⟩
end Go.Proofs.YtnpbflhjglkokaaGreatDoor
