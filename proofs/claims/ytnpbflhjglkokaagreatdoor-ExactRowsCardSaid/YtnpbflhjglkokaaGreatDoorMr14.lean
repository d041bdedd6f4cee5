/- Parts of the proof: memory, numbers, walks of the functions that are called. -/
import Derived.Lib.Bytealg
import Derived.Lib.Index
import Derived.Test.YtnpbflhjglkokaaGreatDoorMr11
set_option linter.unusedVariables false
set_option linter.unusedSimpArgs false
set_option maxRecDepth 100000
namespace Go.Proofs.YtnpbflhjglkokaaGreatDoor
open Go.RowKit Go.Deep
abbrev str (l:List UInt8):Value:=.string ⟨l.toArray⟩
theorem zic (s:ByteArray):str (bts s)= .string s:=by unfold bts;rfl
theorem xR (l:List UInt8):bts ⟨l.toArray⟩=l:=by unfold bts;simp
theorem Xp {l:List UInt8} {c:UInt8} (h:has c l=true):Lib.indexByte l c=((ahead c l).length:Int):=by
 induction l with
 | nil=>simp [has] at h
 | cons b l ih=>
   unfold Lib.indexByte ahead
   by_cases hb:b=c
   . subst hb;simp
   . have h' :has c l=true:=by
      unfold has at h |-;simp only [List.contains_cons,Bool.or_eq_true,beq_iff_eq] at h
      rcases h with h | h
      . exact absurd h.symm hb
      . exact h
     have:=ih h';have e1:(b == c)=false:=by simpa using hb
     have e2:(b != c)=true:=by simpa using hb
     rw [e1,List.takeWhile_cons_of_pos (by simpa using hb),this];unfold ahead;have e3:(((List.takeWhile (fun x=>x != c) l).length:Int) == -1)=false:=by rw [beq_eq_false_iff_ne];omega
     rw [e3]
     simp
theorem zcl {l:List UInt8} {c:UInt8} (h:has c l=false):Lib.indexByte l c= -1:=by
 induction l with
 | nil=>rfl
 | cons b l ih=>
   unfold has at h;simp only [List.contains_cons,Bool.or_eq_false_iff,beq_eq_false_iff_ne] at h;unfold Lib.indexByte;have e1:(b == c)=false:=by rw [beq_eq_false_iff_ne];exact fun e=>h.1 e.symm
   rw [e1,ih h.2];rfl
theorem zgq (s:ByteArray) (c:Int) (w:World):
 Calls Tryz.prog 249 #[.string s,.int .u8 c] w (XT w (.int .i64 (Lib.indexByte s.data.toList c.toNat.toUInt8))):=by
 go_enter Tryz.func249,Tryz.ntmps249
 go_wp2
 rw [run_callFunc_extern Tryz.func272 (by kernel_rfl) (by kernel_rfl) (by kernel_rfl) (e:=Extern.BytealgIndexByte.indexByte) (by kernel_rfl),Lib.run_indexByteString]
 simp only [Result.andThen]
 rw [Oper.upon_value]
 go_wp2
 go_ret
 exact ⟨rfl,rfl⟩
theorem zds (s:ByteArray) (c:UInt8) (w:World):
 Calls Tryz.prog 221 #[.string s,.string ⟨#[c]⟩] w (XT w (.int .i64 (Lib.indexByte s.data.toList c))):=by
 have h:=fun w=>zgq s (c.toNat:Int) w
 have e:((c.toNat:Int)).toNat.toUInt8=c:=by simp
 simp only [e] at h
 cases hb:([c] == s.toList) with
 | true=>
   have e2:s.data.toList=[c]:=by
    have:=beq_iff_eq.1 hb;rw [<- Lib.toList_data];exact this.symm
   have e3:Lib.indexByte s.data.toList c=0:=by rw [e2];simp [Lib.indexByte]
   rw [e3];clear e2 e3 h
   go_enter Tryz.func221,Tryz.ntmps221
   go_wp2;go_ret;exact ⟨rfl,rfl⟩
 | false=>
   go_enter Tryz.func221,Tryz.ntmps221
   go_wp2_with fail;refine (h _).mono ?_;rintro e w' ⟨rfl,rfl⟩;go_wp2;go_ret;exact ⟨rfl,rfl⟩
def VY (w:World) (s:ByteArray) (c:UInt8) (e:Ending) (w' :World):Prop:=
 ∃ a b,e= .returned (.tuple #[.string a,.string b,.bool (has c (bts s))])/\bts a=ahead c (bts s)/\bts b=(if has c (bts s)=true then yb c (bts s) else [])/\∃ n,w' =w.drewN n
theorem VJ {s:ByteArray} {c:UInt8} (h:has c (bts s)=true):(ahead c (bts s)).length<s.size/\bts (s.extract 0 (ahead c (bts s)).length)=ahead c (bts s)/\bts (s.extract ((ahead c (bts s)).length+1) s.size)=yb c (bts s):=by
 have e:=zjz h
 have hl:(bts s).length=(ahead c (bts s)).length+1+(yb c (bts s)).length:=by
  conv=>lhs;rw [e]
  rw [List.length_append,List.length_cons];omega
 rw [zk] at hl
 refine ⟨by omega,?_,?_⟩
 . rw [xK,List.drop_zero]
   generalize ahead c (bts s)=A at e;rw [e,List.take_append_of_le_length (Nat.le_refl _),List.take_length]
 . rw [xK,List.take_of_length_le (by rw [zk];exact Nat.le_refl _)]
   generalize ahead c (bts s)=A at e;generalize yb c (bts s)=B at e;rw [e,List.drop_append]
   simp
theorem zie (s:ByteArray) (c:UInt8) (w:World) (hs:s.size<=1073741824):
 Calls Tryz.prog 177 #[.string s,.string ⟨#[c]⟩] w (VY w s c):=by
 have hx:=fun w=>zds s c w
 by_cases hh:has c (bts s)=true
 . obtain ⟨h1,h2,h3⟩:=VJ hh
   have hi:Lib.indexByte s.data.toList c=((ahead c (bts s)).length:Int):=Xp hh;rw [hi] at hx
   have HP:Hid (∀ n:Nat,VY w s c (.returned (.tuple #[.string (s.extract 0 (ahead c (bts s)).length),.string (s.extract ((ahead c (bts s)).length+1) s.size),.bool true])) (w.drewN n)):=by
    intro n;exact ⟨_,_,by rw [hh],h2,by rw [if_pos hh];exact h3,n,rfl⟩
   clear hi h2 h3 hh;generalize (ahead c (bts s)).length=k at h1 hx HP
   go_enter Tryz.func177,Tryz.ntmps177
   go_wp2_with fail;refine (hx _).mono ?_;rintro e w' ⟨rfl,rfl⟩;go_wp2_with fail
   go_quiet (fail)
   go_wp2;go_ret3;exact HP.out _
 . have hh' :has c (bts s)=false:=by simpa using hh
   have hi:Lib.indexByte s.data.toList c= -1:=zcl hh';rw [hi] at hx
   have HP:Hid (VY w s c (.returned (.tuple #[.string s,.string ⟨#[]⟩,.bool false])) w):=
    ⟨_,_,by rw [hh'],(YE hh').symm,by rw [if_neg hh];rfl,0,rfl⟩
   clear hi hh hh'
   go_enter Tryz.func177,Tryz.ntmps177
   go_wp2_with fail;refine (hx _).mono ?_;rintro e w' ⟨rfl,rfl⟩;go_wp2;go_ret3;exact HP.out
theorem znk (s:ByteArray) (c:UInt8) (w:World) (hs:s.size<=1073741824):
 Calls Tryz.prog 108 #[.string s,.string ⟨#[c]⟩] w (VY w s c):=by
 have h:=fun w=>zie s c w hs
 go_enter Tryz.func108,Tryz.ntmps108
 go_wp2_with fail
 refine (h _).mono ?_
 rintro e w' ⟨a,b,rfl,ha,hb,n,rfl⟩
 have HA:=ze ha
 have HB:=ze hb
 clear ha hb
 go_wp2
 go_ret3
 exact ⟨a,b,rfl,HA.out,HB.out,n,rfl⟩
theorem zhh (s:ByteArray) (c:UInt8) (w:World) (hs:s.size<=1073741824):
 Calls Tryz.prog 218 #[.string s,.string ⟨#[c]⟩] w (XT w (.bool ((bts s).head? == some c))):=by
 by_cases h0:1<=s.size
 . have hI:decide (1<=(s.size:Int))=true:=decide_eq_true (by omega)
   have e:((s.extract 0 1).toList == [c])=((bts s).head? == some c):=by
    rw [Lib.toList_data]
    have e1:(s.extract 0 1).data.toList=(bts s).take 1:=by
     have:=xK s 0 1;rw [List.drop_zero] at this;exact this
    rw [e1]
    cases hl:bts s with
    | nil=>have:=zk s;rw [hl] at this;simp at this;omega
    | cons b l=>simp
   have HE:=ze e;clear e;generalize hb:((bts s).head? == some c)=b at HE;clear hb
   cases hx:((s.extract 0 1).toList == [c]) with
   | true=>
     have hb:b=true:=by rw [<- hx];exact HE.out.symm
     subst hb;clear HE
     go_enter Tryz.func218,Tryz.ntmps218
     go_wp2;go_ret;exact ⟨rfl,rfl⟩
   | false=>
     have hb:b=false:=by rw [<- hx];exact HE.out.symm
     subst hb;clear HE
     go_enter Tryz.func218,Tryz.ntmps218
     go_wp2;go_ret;exact ⟨rfl,rfl⟩
 . have e:((bts s).head? == some c)=false:=by
    have:bts s=[]:=List.eq_nil_of_length_eq_zero (by rw [zk];omega);rw [this];rfl
   rw [e];have hI:decide (1<=(s.size:Int))=false:=decide_eq_false (by omega);clear e
   go_enter Tryz.func218,Tryz.ntmps218
   go_wp2;go_ret;exact ⟨rfl,rfl⟩
def zga (w:World) (s:ByteArray) (e:Ending) (w' :World):Prop:=∃ u,e= .returned (.tuple #[.string u,.bool (yv (bts s))])/\bts u=zo (bts s)/\w=w'
theorem zlc (s:ByteArray) (h:yv (bts s)=true):bts (s.extract 1 s.size)=zo (bts s):=by
 unfold zo
 rw [if_pos h,xK,List.take_of_length_le (by rw [zk];exact Nat.le_refl _)]
 simp
theorem VN (s:ByteArray) (w:World) (hs:s.size<=1073741824):
 Calls Tryz.prog 176 #[.string s,.string ⟨#[45]⟩] w (zga w s):=by
 have h:=fun w=>zhh s 45 w hs
 have e:((bts s).head? == some 45)=yv (bts s):=rfl
 rw [e] at h
 clear e
 cases hb:yv (bts s) with
 | true=>
   rw [hb] at h
   have h0:1<=s.size:=by
    rcases Nat.eq_zero_or_pos s.size with h1 | h1
    . have:bts s=[]:=List.eq_nil_of_length_eq_zero (by rw [zk];exact h1)
      rw [this] at hb;cases hb
    . exact h1
   have HP:=ze (show zga w s (.returned (.tuple #[.string (s.extract 1 s.size),.bool true])) w from ⟨_,by rw [hb],zlc s hb,rfl⟩);clear hb
   go_enter Tryz.func176,Tryz.ntmps176
   go_wp2_with fail;refine (h _).mono ?_;rintro e w' ⟨rfl,rfl⟩;go_wp2;go_ret2;exact HP.out
 | false=>
   rw [hb] at h;have HP:=ze (show zga w s (.returned (.tuple #[.string s,.bool false])) w from ⟨_,by rw [hb],(Z2 hb).symm,rfl⟩);clear hb
   go_enter Tryz.func176,Tryz.ntmps176
   go_wp2_with fail;refine (h _).mono ?_;rintro e w' ⟨rfl,rfl⟩;go_wp2;go_ret2;exact HP.out
theorem zbt (s:ByteArray) (w:World) (hs:s.size<=1073741824):
 Calls Tryz.prog 107 #[.string s,.string ⟨#[45]⟩] w (zga w s):=by
 have h:=fun w=>VN s w hs
 go_enter Tryz.func107,Tryz.ntmps107
 go_wp2_with fail
 refine (h _).mono ?_
 rintro e w' ⟨u,rfl,hu,rfl⟩
 have HU:=ze hu
 clear hu
 go_wp2
 go_ret2
 exact ⟨u,rfl,HU.out,rfl⟩
theorem zQ {a b:Bool} (h:a=b):Ending.returned (.bool b)= .returned (.bool a):=by rw [h]
theorem ziu {c:UInt8} (h:yI c=false):c.toNat<48\/57<c.toNat:=by
 unfold yI at h
 simp at h
 omega
theorem XZ {s:ByteArray} {k:Nat} (hk:k<s.size) (h:yI s[k]=false):yM (bts s)=false:=by
 unfold yM
 have:(bts s).all yI=false:=by
  rw [List.all_eq_false]
  exact ⟨s[k],by rw [<- vB s k hk];exact List.getElem_mem _,by rw [h];simp⟩
 rw [this];rfl
theorem zhf (s:ByteArray) (w:World) (hs:s.size<=1073741824):
 Calls Tryz.prog 109 #[.string s] w (XT w (.bool (yM (bts s)))):=by
 go_enter Tryz.func109,Tryz.ntmps109
 go_wp2
 go_loop [6] (fun iv=>∃ k:Nat,k<=s.size/\iv= .int .i64 k/\Hid (∀ j (h:j<s.size),j<k->yI s[j]=true)) (fun iv=>s.size - (intOf iv).toNat)
 case atStart=>exact ⟨0,Nat.zero_le _,rfl,fun j _ h=>by omega⟩
 case round=>
  obtain ⟨k,hk,rfl,HD⟩:=hrel
  by_cases hlt:k<s.size
  . cases hd:yI s[k] with
    | true=>
      obtain ⟨h1,h2⟩:=vR hd;have HD1:=ze hd;clear hd;go_wp2;go_round
      case rel=>
       refine ⟨k+1,by omega,by go_num,?_⟩;intro j hj hlt2
       rcases Nat.lt_or_ge j k with h3 | h3
       . exact HD.out j hj h3
       . obtain rfl:j=k:=by omega
         exact HD1.out
      case measure=>simp [intOf];omega
    | false=>
      have HF:=ze (XZ hlt hd)
      rcases ziu hd with h1 | h1
      . clear hd
        go_wp2;go_ret;exact ⟨zQ HF.out,rfl⟩
      . have h2:¬ s[k].toNat<48:=by omega
        clear hd;go_wp2;go_ret;exact ⟨zQ HF.out,rfl⟩
  . obtain rfl:k=s.size:=by omega
    have hall:(bts s).all yI=true:=by
     rw [List.all_eq_true];intro c hc;obtain ⟨j,hj,rfl⟩:=List.mem_iff_getElem.1 hc;rw [zk] at hj;rw [vB s j hj];exact HD.out j hj hj
    have HI:=ze (show yM (bts s)= !((s.toList).isEmpty) by unfold yM;rw [hall,Lib.toList_data];rfl);clear hall
    cases hb:(s.toList).isEmpty with
    | true=>
      have HI2:=ze (HI.out.trans (by rw [hb];rfl:_=false));have hb2:s.toList=[]:=by simpa using hb
      clear HI;go_wp2;go_ret;exact ⟨zQ HI2.out,rfl⟩
    | false=>
      have HI2:=ze (HI.out.trans (by rw [hb];rfl:_=true));clear HI;go_wp2;go_ret;exact ⟨zQ HI2.out,rfl⟩
theorem zl9 (s:ByteArray) (h:0<s.size):(bts s).head?=some s[0]:=by
 rw [List.head?_eq_getElem?,List.getElem?_eq_getElem (by rw [zk];exact h)]
 rfl
theorem zce (s:ByteArray) (w:World) (hs:s.size<=1073741824):
 Calls Tryz.prog 153 #[.string s] w (XT w (.bool (zX (bts s)))):=by
 have h:=fun w=>zhf s w hs
 cases hd:yM (bts s) with
 | false=>
   rw [hd] at h;have HP:=ze (show zX (bts s)=false by unfold zX;rw [hd];rfl);clear hd
   go_enter Tryz.func153,Tryz.ntmps153
   go_wp2_with fail;refine (h _).mono ?_;rintro e w' ⟨rfl,rfl⟩;go_wp2;go_ret;exact ⟨zQ HP.out,rfl⟩
 | true=>
   rw [hd] at h
   have h0:0<s.size:=by
    unfold yM at hd;rw [Bool.and_eq_true] at hd
    rcases Nat.eq_zero_or_pos s.size with h1 | h1
    . have:bts s=[]:=List.eq_nil_of_length_eq_zero (by rw [zk];exact h1)
      rw [this] at hd;simp at hd
    . exact h1
   have hp:zX (bts s)=((((s[0].toNat:Int) != 48) || ((s.size:Int) == 1)) && decide ((s.size:Int)<=50000)):=by
    unfold zX;rw [hd,zl9 s h0,zk,Bool.true_and]
    congr 1
    . congr 1
      . rw [Bool.eq_iff_iff,bne_iff_ne,bne_iff_ne]
        constructor
        . intro h1 h2;apply h1;congr 1;apply UInt8.toNat_inj.1;have:(48:UInt8).toNat=48:=rfl;omega
        . intro h1 h2;apply h1;injection h2 with h2;rw [h2];rfl
      . rw [Bool.eq_iff_iff,beq_iff_eq,beq_iff_eq];omega
    . rw [Bool.eq_iff_iff,decide_eq_true_iff,decide_eq_true_iff];omega
   have HP:=ze hp;clear hp hd
   cases b1:((s[0].toNat:Int) != 48) with
   | true=>
     cases b3:decide ((s.size:Int)<=50000) with
     | true=>
       have HP2:=ze (show zX (bts s)=true by rw [HP.out,b1,b3];rfl);clear HP
       go_enter Tryz.func153,Tryz.ntmps153
       go_wp2_with fail;refine (h _).mono ?_;rintro e w' ⟨rfl,rfl⟩;go_wp2;go_ret;exact ⟨zQ HP2.out,rfl⟩
     | false=>
       have HP2:=ze (show zX (bts s)=false by rw [HP.out,b1,b3];rfl);clear HP
       go_enter Tryz.func153,Tryz.ntmps153
       go_wp2_with fail;refine (h _).mono ?_;rintro e w' ⟨rfl,rfl⟩;go_wp2;go_ret;exact ⟨zQ HP2.out,rfl⟩
   | false=>
     cases b2:((s.size:Int) == 1) with
     | true=>
       have b3:decide ((s.size:Int)<=50000)=true:=decide_eq_true (by have:=beq_iff_eq.1 b2;omega);have HP2:=ze (show zX (bts s)=true by rw [HP.out,b1,b2,b3];rfl);clear HP
       go_enter Tryz.func153,Tryz.ntmps153
       go_wp2_with fail;refine (h _).mono ?_;rintro e w' ⟨rfl,rfl⟩;go_wp2;go_ret;exact ⟨zQ HP2.out,rfl⟩
     | false=>
       have HP2:=ze (show zX (bts s)=false by rw [HP.out,b1,b2];rfl);clear HP
       go_enter Tryz.func153,Tryz.ntmps153
       go_wp2_with fail;refine (h _).mono ?_;rintro e w' ⟨rfl,rfl⟩;go_wp2;go_ret;exact ⟨zQ HP2.out,rfl⟩
def zc8 (c:UInt8):Bool:=decide (97<=c.toNat) && decide (c.toNat<=122)
def yt (c:UInt8):Bool:=zc8 c || yI c || c == 45
def x9 (l:List UInt8):Bool:=decide (1<=l.length) && decide (l.length<=16) && zc8 (l.headD 0) && l.all yt
theorem zb3 {s:ByteArray} (h:s.size=0):s.toList=[]:=by
 have he:bts s=[]:=List.eq_nil_of_length_eq_zero (by rw [zk];exact h)
 rw [Lib.toList_data];exact he
theorem Ys {s:ByteArray} (h0:0<s.size):s.toList.isEmpty=false:=by
 rw [Bool.eq_false_iff]
 intro e
 have e:=List.isEmpty_iff.1 e
 have:=congrArg List.length e
 rw [Lib.toList_data] at this
 simp at this
 rw [this] at h0
 exact absurd h0 (by decide)
theorem ZO {c:UInt8}:zc8 c=true↔97<=c.toNat/\c.toNat<=122:=by
 unfold zc8;simp
theorem Va {c:UInt8} (h:yt c=true):(97<=c.toNat/\c.toNat<=122)\/(48<=c.toNat/\c.toNat<=57/\c.toNat<97)\/(c.toNat=45):=by
 unfold yt at h
 simp only [Bool.or_eq_true] at h
 rcases h with (h | h) | h
 . exact .inl (ZO.1 h)
 . obtain ⟨h1,h2⟩:=vR h
   exact .inr (.inl ⟨h1,h2,by omega⟩)
 . refine .inr (.inr ?_)
   rw [beq_iff_eq] at h;rw [h];rfl
theorem Zx {c:UInt8} (h:yt c=false):(c.toNat<48/\c.toNat≠45)\/(57<c.toNat/\c.toNat<97)\/(122<c.toNat):=by
 have h1:¬ (97<=c.toNat/\c.toNat<=122):=by
  intro h2
  have:=ZO.2 h2
  unfold yt at h;rw [this] at h;simp at h
 have h2:¬ (48<=c.toNat/\c.toNat<=57):=by
  intro h2
  have:yI c=true:=by unfold yI;simp [h2]
  unfold yt at h;rw [this] at h;simp at h
 have h3:c.toNat≠45:=by
  intro h3
  have:c=45:=UInt8.toNat_inj.1 h3
  unfold yt at h;rw [this] at h;simp at h
 omega
theorem zd4 {s:ByteArray} (h:0<s.size):(bts s).headD 0=s[0]:=by
 have h1:=vB s 0 h
 rw [List.headD_eq_head?_getD,List.head?_eq_getElem?,List.getElem?_eq_getElem (by rw [zk];exact h),h1];rfl
theorem zf6 {s:ByteArray} (h:0<s.size) (h1:zc8 s[0]=false):x9 (bts s)=false:=by
 unfold x9;rw [zd4 h,h1];simp
theorem zf5 {s:ByteArray} {k:Nat} (h:k<s.size) (h1:yt s[k]=false):x9 (bts s)=false:=by
 have:(bts s).all yt=false:=by
  rw [Bool.eq_false_iff]
  intro h2
  have h3:=List.all_eq_true.1 h2 ((bts s)[k]'(by rw [zk];exact h)) (List.getElem_mem _)
  rw [vB s k h,h1] at h3;cases h3
 unfold x9;rw [this];simp
theorem zfv {s:ByteArray} (h:0<s.size) (h16:s.size<=16) (h1:zc8 s[0]=true) (h2:∀ j (hj:j<s.size),yt s[j]=true):x9 (bts s)=true:=by
 have:(bts s).all yt=true:=by
  rw [List.all_eq_true]
  intro c hc
  obtain ⟨j,hj,rfl⟩:=List.mem_iff_getElem.1 hc
  rw [zk] at hj
  rw [vB s j hj]
  exact h2 j hj
 unfold x9;rw [this,zd4 h,h1,zk,decide_eq_true (show 1<=s.size from h),decide_eq_true h16];rfl
def vi (n:Nat) (f:Nat->Int):Int:=match n with
 | 0=>0
 | n+1=>if vi n f=0 then f n else vi n f
theorem vS {n:Nat} {f:Nat->Int}:vi n f=0↔∀ k,k<n->f k=0:=by
 induction n with
 | zero=>simp [vi]
 | succ n ih=>
   unfold vi
   constructor
   . intro h k hk
     by_cases h0:vi n f=0
     . rw [if_pos h0] at h
       rcases Nat.lt_or_ge k n with h1 | h1
       . exact ih.1 h0 k h1
       . obtain rfl:k=n:=by omega
         exact h
     . rw [if_neg h0] at h;exact absurd h h0
   . intro h
     rw [if_pos (ih.2 fun k hk=>h k (by omega))];exact h n (by omega)
theorem yG {n k:Nat} {f:Nat->Int} (hk:k<n) (h:∀ j,j<k->f j=0) (h0:f k≠0):vi n f=f k:=by
 induction n with
 | zero=>omega
 | succ n ih=>
   unfold vi
   rcases Nat.lt_or_ge k n with h1 | h1
   . rw [ih h1,if_neg h0]
   . obtain rfl:k=n:=by omega
     rw [if_pos (vS.2 h)]
end Go.Proofs.YtnpbflhjglkokaaGreatDoor
namespace Go.Proofs.YtnpbflhjglkokaaGreatDoor
structure yc where
 name:List UInt8
 coef:List UInt8
instance:Inhabited yc:=⟨⟨[],[]⟩⟩
structure xe where
 terms:List yc
 bound:List UInt8
instance:Inhabited xe:=⟨⟨[],[]⟩⟩
def yu (l:List UInt8):Int:=match zr l with
 | none=>4
 | some q=>if y6 12 q then 0 else 3
def yX (l:List UInt8):Int:=match zr l with
 | none=>4
 | some q=>if q=0 then 1 else if y6 12 q then 0 else 3
def y7 (last s:List UInt8) (first:Bool):Int:=if first=true\/last<s then 0 else if last=s then 6 else 1
def yo (l:List yc) (i:Nat):Int:=
 if x9 (l.getD i default).name=false then 5
 else if yX (l.getD i default).coef≠0 then yX (l.getD i default).coef
 else y7 (l.getD (i - 1) default).name (l.getD i default).name (decide (i=0))
def yk (l:List yc):Int:=vi l.length (yo l)
def yQ (r:xe):Int:=if yk r.terms≠0 then yk r.terms else yu r.bound
def zS (L:List (List yc)):List (List UInt8):=L.flatMap fun l=>l.map (·.name)
def zg6:List (List UInt8)->List (List UInt8)
 | []=>[]
 | x :: l=>if x∈zg6 l then zg6 l else x :: zg6 l
def vI (ns:List (List UInt8)):List (List UInt8):=(zg6 ns).mergeSort (fun x y=>decide (x<=y))
def yy (rs:List xe) (more:List (List yc)):List (List UInt8):=vI (zS (more ++ rs.map (·.terms)))
def xa (rs:List xe):Int:=
 if 800<rs.length then 3
 else if vi rs.length (fun i=>yQ (rs.getD i default))≠0 then vi rs.length (fun i=>yQ (rs.getD i default))
 else if 80<(yy rs []).length then 3 else 0
def zmm (l:List (List UInt8)):Prop:=l.Pairwise (· < ·)
theorem YG (a:List UInt8):¬ a<a:=List.lt_irrefl a
theorem zd2 {a b c:List UInt8} (h:a<b) (h2:b<c):a<c:=List.lt_trans h h2
theorem zac {a b:List UInt8} (h:a<b):¬ b<a:=fun h2=>YG a (zd2 h h2)
theorem ze9 (a b:List UInt8) (h1:¬ a<b) (h2:¬ b<a):a=b:=List.le_antisymm (List.not_lt.1 h2) (List.not_lt.1 h1)
theorem zo8 {a b:List UInt8} (h:a<=b) (hn:a≠b):a<b:=by
 rcases Decidable.em (a<b) with h1 | h1
 . exact h1
 . exact absurd (ze9 a b h1 (List.not_lt.2 h)) hn
theorem Xd:∀ (l m:List (List UInt8)),zmm l->zmm m->(∀ x,x∈l↔x∈m)->l=m
 | [],[],_,_,_=>rfl
 | [],y :: m,_,_,h=>(by have:=(h y).2 (List.mem_cons_self ..);cases this)
 | x :: l,[],_,_,h=>(by have:=(h x).1 (List.mem_cons_self ..);cases this)
 | x :: l,y :: m,h1,h2,h=>by
   obtain ⟨a1,b1⟩:=List.pairwise_cons.1 h1;obtain ⟨a2,b2⟩:=List.pairwise_cons.1 h2
   have e:x=y:=by
    rcases List.mem_cons.1 ((h x).1 (List.mem_cons_self ..)) with e | e
    . exact e
    . rcases List.mem_cons.1 ((h y).2 (List.mem_cons_self ..)) with e2 | e2
      . exact e2.symm
      . exact absurd (a1 _ e2) (zac (a2 _ e))
   subst e
   rw [Xd l m b1 b2 (fun z=>⟨fun hz=>by
    rcases List.mem_cons.1 ((h z).1 (List.mem_cons_of_mem _ hz)) with e | e
    . exact absurd (a1 _ hz) (by rw [e];exact YG _)
    . exact e,fun hz=>by
    rcases List.mem_cons.1 ((h z).2 (List.mem_cons_of_mem _ hz)) with e | e
    . exact absurd (a2 _ hz) (by rw [e];exact YG _)
    . exact e⟩)]
def yZ (l ns:List (List UInt8)):Prop:=zmm l/\∀ x,x∈l↔x∈ns
theorem VO {ss:List (List UInt8)} (hn:ss.Nodup):zmm (ss.mergeSort (fun x y=>decide (x<=y))):=by
 have h1:=List.pairwise_mergeSort (le:=fun x y:List UInt8=>decide (x<=y)) (fun a b c h1 h2=>by simp only [decide_eq_true_eq] at*;exact List.le_trans h1 h2) (fun a b=>by simp only [Bool.or_eq_true,decide_eq_true_eq];exact List.le_total a b) ss
 have h2:(ss.mergeSort (fun x y=>decide (x<=y))).Nodup:=(List.mergeSort_perm ss _).nodup_iff.2 hn
 unfold zmm
 refine (h1.and h2).imp ?_
 rintro a b ⟨h,hn⟩
 simp only [decide_eq_true_eq] at h
 exact zo8 h hn
theorem Vt:∀ (ns:List (List UInt8)) (x:List UInt8),x∈zg6 ns↔x∈ns
 | [],x=>Iff.rfl
 | y :: l,x=>by
   unfold zg6
   by_cases h:y∈zg6 l
   . rw [if_pos h,Vt l x,List.mem_cons]
     refine ⟨.inr,fun e=>e.elim (fun e=>?_) id⟩;rw [e];exact (Vt l y).1 h
   . rw [if_neg h,List.mem_cons,List.mem_cons,Vt l x]
theorem XJ:∀ (ns:List (List UInt8)),(zg6 ns).Nodup
 | []=>List.nodup_nil
 | y :: l=>by
   unfold zg6
   by_cases h:y∈zg6 l
   . rw [if_pos h];exact XJ l
   . rw [if_neg h];exact List.nodup_cons.2 ⟨h,XJ l⟩
theorem VH:∀ (ns:List (List UInt8)),(zg6 ns).length<=ns.length
 | []=>Nat.le_refl _
 | y :: l=>by
   have:=VH l;unfold zg6
   by_cases h:y∈zg6 l
   . rw [if_pos h,List.length_cons];omega
   . rw [if_neg h,List.length_cons,List.length_cons];omega
theorem ZG (ns:List (List UInt8)):yZ (vI ns) ns:=
 ⟨VO (XJ ns),fun x=>by unfold vI;rw [(List.mergeSort_perm _ _).mem_iff,Vt]⟩
theorem yZ.eq {l ns:List (List UInt8)} (h:yZ l ns):l=vI ns:=
 Xd _ _ h.1 (ZG ns).1 (fun x=>(h.2 x).trans ((ZG ns).2 x).symm)
theorem ZA (ns:List (List UInt8)):(vI ns).length<=ns.length:=by
 unfold vI
 rw [List.length_mergeSort]
 exact VH ns
theorem zeb {a b:List (List UInt8)} {s:List UInt8} (h:zmm (a ++ b)) (ha:∀ x∈a,x<s) (hb:∀ x∈b,s<x):zmm (a ++ s :: b):=by
 unfold zmm at h |-
 rw [List.pairwise_append] at h |-
 obtain ⟨h1,h2,h3⟩:=h
 refine ⟨h1,List.pairwise_cons.2 ⟨hb,h2⟩,fun x hx y hy=>?_⟩
 rcases List.mem_cons.1 hy with rfl | hy
 . exact ha x hx
 . exact h3 x hx y hy
theorem znx {l ns:List (List UInt8)} {s:List UInt8} (h:yZ l ns) (hs:s∈l):yZ l (ns ++ [s]):=
 ⟨h.1,fun x=>by
  rw [List.mem_append,List.mem_singleton, <- h.2 x]
  exact ⟨.inl,fun e=>e.elim id (fun e=>by rw [e];exact hs)⟩⟩
theorem zj0 {l ns:List (List UInt8)} {s:List UInt8} {p:Nat} (h:yZ l ns) (hlt:∀ i (hi:i<l.length),i<p->l[i]<s) (hat:∀ hp:p<l.length,¬ l[p]<s/\l[p]≠s):yZ (l.take p ++ s :: l.drop p) (ns ++ [s]):=by
 have hl:l.take p ++ l.drop p=l:=List.take_append_drop p l
 refine ⟨zeb (by rw [hl];exact h.1) (fun x hx=>?_) (fun x hx=>?_),fun x=>?_⟩
 . obtain ⟨i,hi,rfl⟩:=List.mem_iff_getElem.1 hx
   rw [List.length_take] at hi;rw [List.getElem_take];exact hlt i (by omega) (by omega)
 . obtain ⟨i,hi,rfl⟩:=List.mem_iff_getElem.1 hx
   rw [List.length_drop] at hi;rw [List.getElem_drop];obtain ⟨h1,h2⟩:=hat (by omega)
   have h3:s<l[p]'(by omega):=by
    rcases Decidable.em (s<l[p]'(by omega)) with h | h
    . exact h
    . exact absurd (ze9 _ _ h1 h) h2
   rcases Nat.eq_zero_or_pos i with rfl | h0
   . exact h3
   . exact zd2 h3 (List.pairwise_iff_getElem.1 h.1 p (p+i) (by omega) (by omega) (by omega))
 . rw [List.mem_append,List.mem_cons,List.mem_append,List.mem_singleton, <- h.2 x]
   conv=>rhs;rw [<- hl]
   rw [List.mem_append]
   constructor
   . rintro (h | h | h)
     . exact .inl (.inl h)
     . exact .inr h
     . exact .inl (.inr h)
   . rintro ((h | h) | h)
     . exact .inl h
     . exact .inr (.inr h)
     . exact .inr (.inl h)
end Go.Proofs.YtnpbflhjglkokaaGreatDoor
