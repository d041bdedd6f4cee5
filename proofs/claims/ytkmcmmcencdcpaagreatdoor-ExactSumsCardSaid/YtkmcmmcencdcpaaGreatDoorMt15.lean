/- Parts of the proof: memory, numbers, walks of the functions that are called. -/
import Derived.Lib.Bytealg
import Derived.Lib.Index
import Derived.Test.YtkmcmmcencdcpaaGreatDoorMt11
set_option linter.unusedVariables false
set_option linter.unusedSimpArgs false
set_option maxRecDepth 100000
namespace Go.Proofs.YtkmcmmcencdcpaaGreatDoor
open Go.RowKit Go.Deep
abbrev str (l:List UInt8):Value:=.string ⟨l.toArray⟩
theorem zmm (s:ByteArray):str (bts s)= .string s:=by unfold bts;rfl
theorem yR (l:List UInt8):bts ⟨l.toArray⟩=l:=by unfold bts;simp
theorem XF {l:List UInt8} {c:UInt8} (h:has c l=true):Lib.indexByte l c=((ahead c l).length:Int):=by
 induction l with
 | nil=>simp [has] at h
 | cons b l ih=>
   unfold Lib.indexByte ahead
   by_cases hb:b=c
   . subst hb;simp
   . have h' :has c l=true:=by
      unfold has at h |-;simp only [List.contains_cons,Bool.or_eq_true,beq_iff_eq] at h
      rcases h with h | h
      . exact absurd h.symm hb
      . exact h
     have:=ih h';have e1:(b == c)=false:=by simpa using hb
     have e2:(b != c)=true:=by simpa using hb
     rw [e1,List.takeWhile_cons_of_pos (by simpa using hb),this];unfold ahead;have e3:(((List.takeWhile (fun x=>x != c) l).length:Int) == -1)=false:=by rw [beq_eq_false_iff_ne];omega
     rw [e3]
     simp
theorem zee {l:List UInt8} {c:UInt8} (h:has c l=false):Lib.indexByte l c= -1:=by
 induction l with
 | nil=>rfl
 | cons b l ih=>
   unfold has at h;simp only [List.contains_cons,Bool.or_eq_false_iff,beq_eq_false_iff_ne] at h;unfold Lib.indexByte;have e1:(b == c)=false:=by rw [beq_eq_false_iff_ne];exact fun e=>h.1 e.symm
   rw [e1,ih h.2];rfl
theorem zja (s:ByteArray) (c:Int) (w:World):
 Calls Tryz.prog 216 #[.string s,.int .u8 c] w (Vd w (.int .i64 (Lib.indexByte s.data.toList c.toNat.toUInt8))):=by
 go_enter Tryz.func216,Tryz.ntmps216
 go_wp2
 rw [run_callFunc_extern Tryz.func238 (by kernel_rfl) (by kernel_rfl) (by kernel_rfl) (e:=Extern.BytealgIndexByte.indexByte) (by kernel_rfl),Lib.run_indexByteString]
 simp only [Result.andThen]
 rw [Oper.upon_value]
 go_wp2
 go_ret
 exact ⟨rfl,rfl⟩
theorem zdy (s:ByteArray) (c:UInt8) (w:World):
 Calls Tryz.prog 196 #[.string s,.string ⟨#[c]⟩] w (Vd w (.int .i64 (Lib.indexByte s.data.toList c))):=by
 have h:=fun w=>zja s (c.toNat:Int) w
 have e:((c.toNat:Int)).toNat.toUInt8=c:=by simp
 simp only [e] at h
 cases hb:([c] == s.toList) with
 | true=>
   have e2:s.data.toList=[c]:=by
    have:=beq_iff_eq.1 hb;rw [<- Lib.toList_data];exact this.symm
   have e3:Lib.indexByte s.data.toList c=0:=by rw [e2];simp [Lib.indexByte]
   rw [e3];clear e2 e3 h
   go_enter Tryz.func196,Tryz.ntmps196
   go_wp2;go_ret;exact ⟨rfl,rfl⟩
 | false=>
   go_enter Tryz.func196,Tryz.ntmps196
   go_wp2_with fail;refine (h _).mono ?_;rintro e w' ⟨rfl,rfl⟩;go_wp2;go_ret;exact ⟨rfl,rfl⟩
def zac (w:World) (s:ByteArray) (c:UInt8) (e:Ending) (w' :World):Prop:=
 ∃ a b,e= .returned (.tuple #[.string a,.string b,.bool (has c (bts s))])/\bts a=ahead c (bts s)/\bts b=(if has c (bts s)=true then ym c (bts s) else [])/\∃ n,w' =w.drewN n
theorem zas {s:ByteArray} {c:UInt8} (h:has c (bts s)=true):(ahead c (bts s)).length<s.size/\bts (s.extract 0 (ahead c (bts s)).length)=ahead c (bts s)/\bts (s.extract ((ahead c (bts s)).length+1) s.size)=ym c (bts s):=by
 have e:=zle h
 have hl:(bts s).length=(ahead c (bts s)).length+1+(ym c (bts s)).length:=by
  conv=>lhs;rw [e]
  rw [List.length_append,List.length_cons];omega
 rw [zo] at hl
 refine ⟨by omega,?_,?_⟩
 . rw [vq,List.drop_zero]
   generalize ahead c (bts s)=A at e;rw [e,List.take_append_of_le_length (Nat.le_refl _),List.take_length]
 . rw [vq,List.take_of_length_le (by rw [zo];exact Nat.le_refl _)]
   generalize ahead c (bts s)=A at e;generalize ym c (bts s)=B at e;rw [e,List.drop_append]
   simp
theorem zk9 (s:ByteArray) (c:UInt8) (w:World) (hs:s.size<=1073741824):
 Calls Tryz.prog 170 #[.string s,.string ⟨#[c]⟩] w (zac w s c):=by
 have hx:=fun w=>zdy s c w
 by_cases hh:has c (bts s)=true
 . obtain ⟨h1,h2,h3⟩:=zas hh
   have hi:Lib.indexByte s.data.toList c=((ahead c (bts s)).length:Int):=XF hh;rw [hi] at hx
   have HP:Hid (∀ n:Nat,zac w s c (.returned (.tuple #[.string (s.extract 0 (ahead c (bts s)).length),.string (s.extract ((ahead c (bts s)).length+1) s.size),.bool true])) (w.drewN n)):=by
    intro n;exact ⟨_,_,by rw [hh],h2,by rw [if_pos hh];exact h3,n,rfl⟩
   clear hi h2 h3 hh;generalize (ahead c (bts s)).length=k at h1 hx HP
   go_enter Tryz.func170,Tryz.ntmps170
   go_wp2_with fail;refine (hx _).mono ?_;rintro e w' ⟨rfl,rfl⟩;go_wp2_with fail
   go_quiet (fail)
   go_wp2;go_ret3;exact HP.out _
 . have hh' :has c (bts s)=false:=by simpa using hh
   have hi:Lib.indexByte s.data.toList c= -1:=zee hh';rw [hi] at hx
   have HP:Hid (zac w s c (.returned (.tuple #[.string s,.string ⟨#[]⟩,.bool false])) w):=
    ⟨_,_,by rw [hh'],(Xg hh').symm,by rw [if_neg hh];rfl,0,rfl⟩
   clear hi hh hh'
   go_enter Tryz.func170,Tryz.ntmps170
   go_wp2_with fail;refine (hx _).mono ?_;rintro e w' ⟨rfl,rfl⟩;go_wp2;go_ret3;exact HP.out
theorem zqb (s:ByteArray) (c:UInt8) (w:World) (hs:s.size<=1073741824):
 Calls Tryz.prog 124 #[.string s,.string ⟨#[c]⟩] w (zac w s c):=by
 have h:=fun w=>zk9 s c w hs
 go_enter Tryz.func124,Tryz.ntmps124
 go_wp2_with fail
 refine (h _).mono ?_
 rintro e w' ⟨a,b,rfl,ha,hb,n,rfl⟩
 have HA:=ze ha
 have HB:=ze hb
 clear ha hb
 go_wp2
 go_ret3
 exact ⟨a,b,rfl,HA.out,HB.out,n,rfl⟩
theorem ziq (s:ByteArray) (c:UInt8) (w:World) (hs:s.size<=1073741824):
 Calls Tryz.prog 208 #[.string s,.string ⟨#[c]⟩] w (Vd w (.bool ((bts s).head? == some c))):=by
 by_cases h0:1<=s.size
 . have hI:decide (1<=(s.size:Int))=true:=decide_eq_true (by omega)
   have e:((s.extract 0 1).toList == [c])=((bts s).head? == some c):=by
    rw [Lib.toList_data]
    have e1:(s.extract 0 1).data.toList=(bts s).take 1:=by
     have:=vq s 0 1;rw [List.drop_zero] at this;exact this
    rw [e1]
    cases hl:bts s with
    | nil=>have:=zo s;rw [hl] at this;simp at this;omega
    | cons b l=>simp
   have HE:=ze e;clear e;generalize hb:((bts s).head? == some c)=b at HE;clear hb
   cases hx:((s.extract 0 1).toList == [c]) with
   | true=>
     have hb:b=true:=by rw [<- hx];exact HE.out.symm
     subst hb;clear HE
     go_enter Tryz.func208,Tryz.ntmps208
     go_wp2;go_ret;exact ⟨rfl,rfl⟩
   | false=>
     have hb:b=false:=by rw [<- hx];exact HE.out.symm
     subst hb;clear HE
     go_enter Tryz.func208,Tryz.ntmps208
     go_wp2;go_ret;exact ⟨rfl,rfl⟩
 . have e:((bts s).head? == some c)=false:=by
    have:bts s=[]:=List.eq_nil_of_length_eq_zero (by rw [zo];omega);rw [this];rfl
   rw [e];have hI:decide (1<=(s.size:Int))=false:=decide_eq_false (by omega);clear e
   go_enter Tryz.func208,Tryz.ntmps208
   go_wp2;go_ret;exact ⟨rfl,rfl⟩
def zh1 (w:World) (s:ByteArray) (e:Ending) (w' :World):Prop:=∃ u,e= .returned (.tuple #[.string u,.bool (yD (bts s))])/\bts u=zq (bts s)/\w=w'
theorem zm1 (s:ByteArray) (h:yD (bts s)=true):bts (s.extract 1 s.size)=zq (bts s):=by
 unfold zq
 rw [if_pos h,vq,List.take_of_length_le (by rw [zo];exact Nat.le_refl _)]
 simp
theorem zal (s:ByteArray) (w:World) (hs:s.size<=1073741824):
 Calls Tryz.prog 169 #[.string s,.string ⟨#[45]⟩] w (zh1 w s):=by
 have h:=fun w=>ziq s 45 w hs
 have e:((bts s).head? == some 45)=yD (bts s):=rfl
 rw [e] at h
 clear e
 cases hb:yD (bts s) with
 | true=>
   rw [hb] at h
   have h0:1<=s.size:=by
    rcases Nat.eq_zero_or_pos s.size with h1 | h1
    . have:bts s=[]:=List.eq_nil_of_length_eq_zero (by rw [zo];exact h1)
      rw [this] at hb;cases hb
    . exact h1
   have HP:=ze (show zh1 w s (.returned (.tuple #[.string (s.extract 1 s.size),.bool true])) w from ⟨_,by rw [hb],zm1 s hb,rfl⟩);clear hb
   go_enter Tryz.func169,Tryz.ntmps169
   go_wp2_with fail;refine (h _).mono ?_;rintro e w' ⟨rfl,rfl⟩;go_wp2;go_ret2;exact HP.out
 | false=>
   rw [hb] at h;have HP:=ze (show zh1 w s (.returned (.tuple #[.string s,.bool false])) w from ⟨_,by rw [hb],(ZP hb).symm,rfl⟩);clear hb
   go_enter Tryz.func169,Tryz.ntmps169
   go_wp2_with fail;refine (h _).mono ?_;rintro e w' ⟨rfl,rfl⟩;go_wp2;go_ret2;exact HP.out
theorem zc6 (s:ByteArray) (w:World) (hs:s.size<=1073741824):
 Calls Tryz.prog 123 #[.string s,.string ⟨#[45]⟩] w (zh1 w s):=by
 have h:=fun w=>zal s w hs
 go_enter Tryz.func123,Tryz.ntmps123
 go_wp2_with fail
 refine (h _).mono ?_
 rintro e w' ⟨u,rfl,hu,rfl⟩
 have HU:=ze hu
 clear hu
 go_wp2
 go_ret2
 exact ⟨u,rfl,HU.out,rfl⟩
theorem zU {a b:Bool} (h:a=b):Ending.returned (.bool b)= .returned (.bool a):=by rw [h]
theorem zll {c:UInt8} (h:yY c=false):c.toNat<48\/57<c.toNat:=by
 unfold yY at h
 simp at h
 omega
theorem VK {s:ByteArray} {k:Nat} (hk:k<s.size) (h:yY s[k]=false):xd (bts s)=false:=by
 unfold xd
 have:(bts s).all yY=false:=by
  rw [List.all_eq_false]
  exact ⟨s[k],by rw [<- Zc s k hk];exact List.getElem_mem _,by rw [h];simp⟩
 rw [this];rfl
theorem ziw (s:ByteArray) (w:World) (hs:s.size<=1073741824):
 Calls Tryz.prog 171 #[.string s] w (Vd w (.bool (xd (bts s)))):=by
 go_enter Tryz.func171,Tryz.ntmps171
 go_wp2
 go_loop [6] (fun iv=>∃ k:Nat,k<=s.size/\iv= .int .i64 k/\Hid (∀ j (h:j<s.size),j<k->yY s[j]=true)) (fun iv=>s.size - (intOf iv).toNat)
 case atStart=>exact ⟨0,Nat.zero_le _,rfl,fun j _ h=>by omega⟩
 case round=>
  obtain ⟨k,hk,rfl,HD⟩:=hrel
  by_cases hlt:k<s.size
  . cases hd:yY s[k] with
    | true=>
      obtain ⟨h1,h2⟩:=Zq hd;have HD1:=ze hd;clear hd;go_wp2;go_round
      case rel=>
       refine ⟨k+1,by omega,by go_num,?_⟩;intro j hj hlt2
       rcases Nat.lt_or_ge j k with h3 | h3
       . exact HD.out j hj h3
       . obtain rfl:j=k:=by omega
         exact HD1.out
      case measure=>simp [intOf];omega
    | false=>
      have HF:=ze (VK hlt hd)
      rcases zll hd with h1 | h1
      . clear hd
        go_wp2;go_ret;exact ⟨zU HF.out,rfl⟩
      . have h2:¬ s[k].toNat<48:=by omega
        clear hd;go_wp2;go_ret;exact ⟨zU HF.out,rfl⟩
  . obtain rfl:k=s.size:=by omega
    have hall:(bts s).all yY=true:=by
     rw [List.all_eq_true];intro c hc;obtain ⟨j,hj,rfl⟩:=List.mem_iff_getElem.1 hc;rw [zo] at hj;rw [Zc s j hj];exact HD.out j hj hj
    have HI:=ze (show xd (bts s)= !((s.toList).isEmpty) by unfold xd;rw [hall,Lib.toList_data];rfl);clear hall
    cases hb:(s.toList).isEmpty with
    | true=>
      have HI2:=ze (HI.out.trans (by rw [hb];rfl:_=false));have hb2:s.toList=[]:=by simpa using hb
      clear HI;go_wp2;go_ret;exact ⟨zU HI2.out,rfl⟩
    | false=>
      have HI2:=ze (HI.out.trans (by rw [hb];rfl:_=true));clear HI;go_wp2;go_ret;exact ⟨zU HI2.out,rfl⟩
theorem zoa (s:ByteArray) (h:0<s.size):(bts s).head?=some s[0]:=by
 rw [List.head?_eq_getElem?,List.getElem?_eq_getElem (by rw [zo];exact h)]
 rfl
theorem zev (s:ByteArray) (w:World) (hs:s.size<=1073741824):
 Calls Tryz.prog 125 #[.string s] w (Vd w (.bool (yf (bts s)))):=by
 have h:=fun w=>ziw s w hs
 cases hd:xd (bts s) with
 | false=>
   rw [hd] at h;have HP:=ze (show yf (bts s)=false by unfold yf;rw [hd];rfl);clear hd
   go_enter Tryz.func125,Tryz.ntmps125
   go_wp2_with fail;refine (h _).mono ?_;rintro e w' ⟨rfl,rfl⟩;go_wp2;go_ret;exact ⟨zU HP.out,rfl⟩
 | true=>
   rw [hd] at h
   have h0:0<s.size:=by
    unfold xd at hd;rw [Bool.and_eq_true] at hd
    rcases Nat.eq_zero_or_pos s.size with h1 | h1
    . have:bts s=[]:=List.eq_nil_of_length_eq_zero (by rw [zo];exact h1)
      rw [this] at hd;simp at hd
    . exact h1
   have hp:yf (bts s)=((((s[0].toNat:Int) != 48) || ((s.size:Int) == 1)) && decide ((s.size:Int)<=50000)):=by
    unfold yf;rw [hd,zoa s h0,zo,Bool.true_and]
    congr 1
    . congr 1
      . rw [Bool.eq_iff_iff,bne_iff_ne,bne_iff_ne]
        constructor
        . intro h1 h2;apply h1;congr 1;apply UInt8.toNat_inj.1;have:(48:UInt8).toNat=48:=rfl;omega
        . intro h1 h2;apply h1;injection h2 with h2;rw [h2];rfl
      . rw [Bool.eq_iff_iff,beq_iff_eq,beq_iff_eq];omega
    . rw [Bool.eq_iff_iff,decide_eq_true_iff,decide_eq_true_iff];omega
   have HP:=ze hp;clear hp hd
   cases b1:((s[0].toNat:Int) != 48) with
   | true=>
     cases b3:decide ((s.size:Int)<=50000) with
     | true=>
       have HP2:=ze (show yf (bts s)=true by rw [HP.out,b1,b3];rfl);clear HP
       go_enter Tryz.func125,Tryz.ntmps125
       go_wp2_with fail;refine (h _).mono ?_;rintro e w' ⟨rfl,rfl⟩;go_wp2;go_ret;exact ⟨zU HP2.out,rfl⟩
     | false=>
       have HP2:=ze (show yf (bts s)=false by rw [HP.out,b1,b3];rfl);clear HP
       go_enter Tryz.func125,Tryz.ntmps125
       go_wp2_with fail;refine (h _).mono ?_;rintro e w' ⟨rfl,rfl⟩;go_wp2;go_ret;exact ⟨zU HP2.out,rfl⟩
   | false=>
     cases b2:((s.size:Int) == 1) with
     | true=>
       have b3:decide ((s.size:Int)<=50000)=true:=decide_eq_true (by have:=beq_iff_eq.1 b2;omega);have HP2:=ze (show yf (bts s)=true by rw [HP.out,b1,b2,b3];rfl);clear HP
       go_enter Tryz.func125,Tryz.ntmps125
       go_wp2_with fail;refine (h _).mono ?_;rintro e w' ⟨rfl,rfl⟩;go_wp2;go_ret;exact ⟨zU HP2.out,rfl⟩
     | false=>
       have HP2:=ze (show yf (bts s)=false by rw [HP.out,b1,b2];rfl);clear HP
       go_enter Tryz.func125,Tryz.ntmps125
       go_wp2_with fail;refine (h _).mono ?_;rintro e w' ⟨rfl,rfl⟩;go_wp2;go_ret;exact ⟨zU HP2.out,rfl⟩
def zea (c:UInt8):Bool:=decide (97<=c.toNat) && decide (c.toNat<=122)
def yB (c:UInt8):Bool:=zea c || yY c || c == 45
def x8 (l:List UInt8):Bool:=decide (1<=l.length) && decide (l.length<=16) && zea (l.headD 0) && l.all yB
theorem zcn {s:ByteArray} (h:s.size=0):s.toList=[]:=by
 have he:bts s=[]:=List.eq_nil_of_length_eq_zero (by rw [zo];exact h)
 rw [Lib.toList_data];exact he
theorem Y8 {s:ByteArray} (h0:0<s.size):s.toList.isEmpty=false:=by
 rw [Bool.eq_false_iff]
 intro e
 have e:=List.isEmpty_iff.1 e
 have:=congrArg List.length e
 rw [Lib.toList_data] at this
 simp at this
 rw [this] at h0
 exact absurd h0 (by decide)
theorem Yn {c:UInt8}:zea c=true↔97<=c.toNat/\c.toNat<=122:=by
 unfold zea;simp
theorem VF {c:UInt8} (h:yB c=true):(97<=c.toNat/\c.toNat<=122)\/(48<=c.toNat/\c.toNat<=57/\c.toNat<97)\/(c.toNat=45):=by
 unfold yB at h
 simp only [Bool.or_eq_true] at h
 rcases h with (h | h) | h
 . exact .inl (Yn.1 h)
 . obtain ⟨h1,h2⟩:=Zq h
   exact .inr (.inl ⟨h1,h2,by omega⟩)
 . refine .inr (.inr ?_)
   rw [beq_iff_eq] at h;rw [h];rfl
theorem Ya {c:UInt8} (h:yB c=false):(c.toNat<48/\c.toNat≠45)\/(57<c.toNat/\c.toNat<97)\/(122<c.toNat):=by
 have h1:¬ (97<=c.toNat/\c.toNat<=122):=by
  intro h2
  have:=Yn.2 h2
  unfold yB at h;rw [this] at h;simp at h
 have h2:¬ (48<=c.toNat/\c.toNat<=57):=by
  intro h2
  have:yY c=true:=by unfold yY;simp [h2]
  unfold yB at h;rw [this] at h;simp at h
 have h3:c.toNat≠45:=by
  intro h3
  have:c=45:=UInt8.toNat_inj.1 h3
  unfold yB at h;rw [this] at h;simp at h
 omega
theorem zew {s:ByteArray} (h:0<s.size):(bts s).headD 0=s[0]:=by
 have h1:=Zc s 0 h
 rw [List.headD_eq_head?_getD,List.head?_eq_getElem?,List.getElem?_eq_getElem (by rw [zo];exact h),h1];rfl
theorem zh2 {s:ByteArray} (h:0<s.size) (h1:zea s[0]=false):x8 (bts s)=false:=by
 unfold x8;rw [zew h,h1];simp
theorem zhl {s:ByteArray} {k:Nat} (h:k<s.size) (h1:yB s[k]=false):x8 (bts s)=false:=by
 have:(bts s).all yB=false:=by
  rw [Bool.eq_false_iff]
  intro h2
  have h3:=List.all_eq_true.1 h2 ((bts s)[k]'(by rw [zo];exact h)) (List.getElem_mem _)
  rw [Zc s k h,h1] at h3;cases h3
 unfold x8;rw [this];simp
theorem zht {s:ByteArray} (h:0<s.size) (h16:s.size<=16) (h1:zea s[0]=true) (h2:∀ j (hj:j<s.size),yB s[j]=true):x8 (bts s)=true:=by
 have:(bts s).all yB=true:=by
  rw [List.all_eq_true]
  intro c hc
  obtain ⟨j,hj,rfl⟩:=List.mem_iff_getElem.1 hc
  rw [zo] at hj
  rw [Zc s j hj]
  exact h2 j hj
 unfold x8;rw [this,zew h,h1,zo,decide_eq_true (show 1<=s.size from h),decide_eq_true h16];rfl
def xO (n:Nat) (f:Nat->Int):Int:=match n with
 | 0=>0
 | n+1=>if xO n f=0 then f n else xO n f
theorem xb {n:Nat} {f:Nat->Int}:xO n f=0↔∀ k,k<n->f k=0:=by
 induction n with
 | zero=>simp [xO]
 | succ n ih=>
   unfold xO
   constructor
   . intro h k hk
     by_cases h0:xO n f=0
     . rw [if_pos h0] at h
       rcases Nat.lt_or_ge k n with h1 | h1
       . exact ih.1 h0 k h1
       . obtain rfl:k=n:=by omega
         exact h
     . rw [if_neg h0] at h;exact absurd h h0
   . intro h
     rw [if_pos (ih.2 fun k hk=>h k (by omega))];exact h n (by omega)
theorem yk {n k:Nat} {f:Nat->Int} (hk:k<n) (h:∀ j,j<k->f j=0) (h0:f k≠0):xO n f=f k:=by
 induction n with
 | zero=>omega
 | succ n ih=>
   unfold xO
   rcases Nat.lt_or_ge k n with h1 | h1
   . rw [ih h1,if_neg h0]
   . obtain rfl:k=n:=by omega
     rw [if_pos (xb.2 h)]
end Go.Proofs.YtkmcmmcencdcpaaGreatDoor
namespace Go.Proofs.YtkmcmmcencdcpaaGreatDoor
structure zG where
 name:List UInt8
 coef:List UInt8
instance:Inhabited zG:=⟨⟨[],[]⟩⟩
structure yU where
 terms:List zG
 bound:List UInt8
instance:Inhabited yU:=⟨⟨[],[]⟩⟩
def y9 (l:List UInt8):Int:=match zp l with
 | none=>4
 | some q=>if yE 12 q then 0 else 3
def yV (l:List UInt8):Int:=match zp l with
 | none=>4
 | some q=>if q=0 then 1 else if yE 12 q then 0 else 3
def yh (last s:List UInt8) (first:Bool):Int:=if first=true\/last<s then 0 else if last=s then 6 else 1
def yw (l:List zG) (i:Nat):Int:=
 if x8 (l.getD i default).name=false then 5
 else if yV (l.getD i default).coef≠0 then yV (l.getD i default).coef
 else yh (l.getD (i - 1) default).name (l.getD i default).name (decide (i=0))
def zQ (l:List zG):Int:=xO l.length (yw l)
def yS (r:yU):Int:=if zQ r.terms≠0 then zQ r.terms else y9 r.bound
def zZ (L:List (List zG)):List (List UInt8):=L.flatMap fun l=>l.map (·.name)
def zjm:List (List UInt8)->List (List UInt8)
 | []=>[]
 | x :: l=>if x∈zjm l then zjm l else x :: zjm l
def Zi (ns:List (List UInt8)):List (List UInt8):=(zjm ns).mergeSort (fun x y=>decide (x<=y))
def xE (rs:List yU) (more:List (List zG)):List (List UInt8):=Zi (zZ (more ++ rs.map (·.terms)))
def yM (rs:List yU):Int:=
 if 800<rs.length then 3
 else if xO rs.length (fun i=>yS (rs.getD i default))≠0 then xO rs.length (fun i=>yS (rs.getD i default))
 else if 80<(xE rs []).length then 3 else 0
def zo4 (l:List (List UInt8)):Prop:=l.Pairwise (· < ·)
theorem xK (a:List UInt8):¬ a<a:=List.lt_irrefl a
theorem YS {a b c:List UInt8} (h:a<b) (h2:b<c):a<c:=List.lt_trans h h2
theorem YH {a b:List UInt8} (h:a<b):¬ b<a:=fun h2=>xK a (YS h h2)
theorem Vt (a b:List UInt8) (h1:¬ a<b) (h2:¬ b<a):a=b:=List.le_antisymm (List.not_lt.1 h2) (List.not_lt.1 h1)
theorem zsd {a b:List UInt8} (h:a<=b) (hn:a≠b):a<b:=by
 rcases Decidable.em (a<b) with h1 | h1
 . exact h1
 . exact absurd (Vt a b h1 (List.not_lt.2 h)) hn
theorem X3:∀ (l m:List (List UInt8)),zo4 l->zo4 m->(∀ x,x∈l↔x∈m)->l=m
 | [],[],_,_,_=>rfl
 | [],y :: m,_,_,h=>(by have:=(h y).2 (List.mem_cons_self ..);cases this)
 | x :: l,[],_,_,h=>(by have:=(h x).1 (List.mem_cons_self ..);cases this)
 | x :: l,y :: m,h1,h2,h=>by
   obtain ⟨a1,b1⟩:=List.pairwise_cons.1 h1;obtain ⟨a2,b2⟩:=List.pairwise_cons.1 h2
   have e:x=y:=by
    rcases List.mem_cons.1 ((h x).1 (List.mem_cons_self ..)) with e | e
    . exact e
    . rcases List.mem_cons.1 ((h y).2 (List.mem_cons_self ..)) with e2 | e2
      . exact e2.symm
      . exact absurd (a1 _ e2) (YH (a2 _ e))
   subst e
   rw [X3 l m b1 b2 (fun z=>⟨fun hz=>by
    rcases List.mem_cons.1 ((h z).1 (List.mem_cons_of_mem _ hz)) with e | e
    . exact absurd (a1 _ hz) (by rw [e];exact xK _)
    . exact e,fun hz=>by
    rcases List.mem_cons.1 ((h z).2 (List.mem_cons_of_mem _ hz)) with e | e
    . exact absurd (a2 _ hz) (by rw [e];exact xK _)
    . exact e⟩)]
def xt (l ns:List (List UInt8)):Prop:=zo4 l/\∀ x,x∈l↔x∈ns
theorem zaf {ss:List (List UInt8)} (hn:ss.Nodup):zo4 (ss.mergeSort (fun x y=>decide (x<=y))):=by
 have h1:=List.pairwise_mergeSort (le:=fun x y:List UInt8=>decide (x<=y)) (fun a b c h1 h2=>by simp only [decide_eq_true_eq] at*;exact List.le_trans h1 h2) (fun a b=>by simp only [Bool.or_eq_true,decide_eq_true_eq];exact List.le_total a b) ss
 have h2:(ss.mergeSort (fun x y=>decide (x<=y))).Nodup:=(List.mergeSort_perm ss _).nodup_iff.2 hn
 unfold zo4
 refine (h1.and h2).imp ?_
 rintro a b ⟨h,hn⟩
 simp only [decide_eq_true_eq] at h
 exact zsd h hn
theorem VW:∀ (ns:List (List UInt8)) (x:List UInt8),x∈zjm ns↔x∈ns
 | [],x=>Iff.rfl
 | y :: l,x=>by
   unfold zjm
   by_cases h:y∈zjm l
   . rw [if_pos h,VW l x,List.mem_cons]
     refine ⟨.inr,fun e=>e.elim (fun e=>?_) id⟩;rw [e];exact (VW l y).1 h
   . rw [if_neg h,List.mem_cons,List.mem_cons,VW l x]
theorem Vl:∀ (ns:List (List UInt8)),(zjm ns).Nodup
 | []=>List.nodup_nil
 | y :: l=>by
   unfold zjm
   by_cases h:y∈zjm l
   . rw [if_pos h];exact Vl l
   . rw [if_neg h];exact List.nodup_cons.2 ⟨h,Vl l⟩
theorem zaz:∀ (ns:List (List UInt8)),(zjm ns).length<=ns.length
 | []=>Nat.le_refl _
 | y :: l=>by
   have:=zaz l;unfold zjm
   by_cases h:y∈zjm l
   . rw [if_pos h,List.length_cons];omega
   . rw [if_neg h,List.length_cons,List.length_cons];omega
theorem Ye (ns:List (List UInt8)):xt (Zi ns) ns:=
 ⟨zaf (Vl ns),fun x=>by unfold Zi;rw [(List.mergeSort_perm _ _).mem_iff,VW]⟩
theorem xt.eq {l ns:List (List UInt8)} (h:xt l ns):l=Zi ns:=
 X3 _ _ h.1 (Ye ns).1 (fun x=>(h.2 x).trans ((Ye ns).2 x).symm)
theorem ZY (ns:List (List UInt8)):(Zi ns).length<=ns.length:=by
 unfold Zi
 rw [List.length_mergeSort]
 exact zaz ns
theorem zgc {a b:List (List UInt8)} {s:List UInt8} (h:zo4 (a ++ b)) (ha:∀ x∈a,x<s) (hb:∀ x∈b,s<x):zo4 (a ++ s :: b):=by
 unfold zo4 at h |-
 rw [List.pairwise_append] at h |-
 obtain ⟨h1,h2,h3⟩:=h
 refine ⟨h1,List.pairwise_cons.2 ⟨hb,h2⟩,fun x hx y hy=>?_⟩
 rcases List.mem_cons.1 hy with rfl | hy
 . exact ha x hx
 . exact h3 x hx y hy
theorem zpq {l ns:List (List UInt8)} {s:List UInt8} (h:xt l ns) (hs:s∈l):xt l (ns ++ [s]):=
 ⟨h.1,fun x=>by
  rw [List.mem_append,List.mem_singleton, <- h.2 x]
  exact ⟨.inl,fun e=>e.elim id (fun e=>by rw [e];exact hs)⟩⟩
theorem zl9 {l ns:List (List UInt8)} {s:List UInt8} {p:Nat} (h:xt l ns) (hlt:∀ i (hi:i<l.length),i<p->l[i]<s) (hat:∀ hp:p<l.length,¬ l[p]<s/\l[p]≠s):xt (l.take p ++ s :: l.drop p) (ns ++ [s]):=by
 have hl:l.take p ++ l.drop p=l:=List.take_append_drop p l
 refine ⟨zgc (by rw [hl];exact h.1) (fun x hx=>?_) (fun x hx=>?_),fun x=>?_⟩
 . obtain ⟨i,hi,rfl⟩:=List.mem_iff_getElem.1 hx
   rw [List.length_take] at hi;rw [List.getElem_take];exact hlt i (by omega) (by omega)
 . obtain ⟨i,hi,rfl⟩:=List.mem_iff_getElem.1 hx
   rw [List.length_drop] at hi;rw [List.getElem_drop];obtain ⟨h1,h2⟩:=hat (by omega)
   have h3:s<l[p]'(by omega):=by
    rcases Decidable.em (s<l[p]'(by omega)) with h | h
    . exact h
    . exact absurd (Vt _ _ h1 h) h2
   rcases Nat.eq_zero_or_pos i with rfl | h0
   . exact h3
   . exact YS h3 (List.pairwise_iff_getElem.1 h.1 p (p+i) (by omega) (by omega) (by omega))
 . rw [List.mem_append,List.mem_cons,List.mem_append,List.mem_singleton, <- h.2 x]
   conv=>rhs;rw [<- hl]
   rw [List.mem_append]
   constructor
   . rintro (h | h | h)
     . exact .inl (.inl h)
     . exact .inr h
     . exact .inl (.inr h)
   . rintro ((h | h) | h)
     . exact .inl h
     . exact .inr (.inr h)
     . exact .inr (.inl h)
end Go.Proofs.YtkmcmmcencdcpaaGreatDoor
