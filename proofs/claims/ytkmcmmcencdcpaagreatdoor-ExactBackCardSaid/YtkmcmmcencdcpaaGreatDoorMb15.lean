/- Parts of the proof: memory, numbers, walks of the functions that are called. -/
import Derived.Lib.Bytealg
import Derived.Lib.Index
import Derived.Test.YtkmcmmcencdcpaaGreatDoorMb11
set_option linter.unusedVariables false
set_option linter.unusedSimpArgs false
set_option maxRecDepth 100000
namespace Go.Proofs.YtkmcmmcencdcpaaGreatDoor
open Go.RowKit Go.Deep
abbrev str (l:List UInt8):Value:=.string ⟨l.toArray⟩
theorem zhb (s:ByteArray):str (bts s)= .string s:=by unfold bts;rfl
theorem vm (l:List UInt8):bts ⟨l.toArray⟩=l:=by unfold bts;simp
theorem YD {l:List UInt8} {c:UInt8} (h:has c l=true):Lib.indexByte l c=((ahead c l).length:Int):=by
 induction l with
 | nil=>simp [has] at h
 | cons b l ih=>
   unfold Lib.indexByte ahead
   by_cases hb:b=c
   . subst hb;simp
   . have h' :has c l=true:=by
      unfold has at h |-;simp only [List.contains_cons,Bool.or_eq_true,beq_iff_eq] at h
      rcases h with h | h
      . exact absurd h.symm hb
      . exact h
     have:=ih h';have e1:(b == c)=false:=by simpa using hb
     have e2:(b != c)=true:=by simpa using hb
     rw [e1,List.takeWhile_cons_of_pos (by simpa using hb),this];unfold ahead;have e3:(((List.takeWhile (fun x=>x != c) l).length:Int) == -1)=false:=by rw [beq_eq_false_iff_ne];omega
     rw [e3]
     simp
theorem zax {l:List UInt8} {c:UInt8} (h:has c l=false):Lib.indexByte l c= -1:=by
 induction l with
 | nil=>rfl
 | cons b l ih=>
   unfold has at h;simp only [List.contains_cons,Bool.or_eq_false_iff,beq_eq_false_iff_ne] at h;unfold Lib.indexByte;have e1:(b == c)=false:=by rw [beq_eq_false_iff_ne];exact fun e=>h.1 e.symm
   rw [e1,ih h.2];rfl
theorem ze6 (s:ByteArray) (c:Int) (w:World):
 Calls Tryz.prog 216 #[.string s,.int .u8 c] w (Vn w (.int .i64 (Lib.indexByte s.data.toList c.toNat.toUInt8))):=by
 go_enter Tryz.func216,Tryz.ntmps216
 go_wp2
 rw [run_callFunc_extern Tryz.func238 (by kernel_rfl) (by kernel_rfl) (by kernel_rfl) (e:=Extern.BytealgIndexByte.indexByte) (by kernel_rfl),Lib.run_indexByteString]
 simp only [Result.andThen]
 rw [Oper.upon_value]
 go_wp2
 go_ret
 exact ⟨rfl,rfl⟩
theorem zb0 (s:ByteArray) (c:UInt8) (w:World):
 Calls Tryz.prog 196 #[.string s,.string ⟨#[c]⟩] w (Vn w (.int .i64 (Lib.indexByte s.data.toList c))):=by
 have h:=fun w=>ze6 s (c.toNat:Int) w
 have e:((c.toNat:Int)).toNat.toUInt8=c:=by simp
 simp only [e] at h
 cases hb:([c] == s.toList) with
 | true=>
   have e2:s.data.toList=[c]:=by
    have:=beq_iff_eq.1 hb;rw [<- Lib.toList_data];exact this.symm
   have e3:Lib.indexByte s.data.toList c=0:=by rw [e2];simp [Lib.indexByte]
   rw [e3];clear e2 e3 h
   go_enter Tryz.func196,Tryz.ntmps196
   go_wp2;go_ret;exact ⟨rfl,rfl⟩
 | false=>
   go_enter Tryz.func196,Tryz.ntmps196
   go_wp2_with fail;refine (h _).mono ?_;rintro e w' ⟨rfl,rfl⟩;go_wp2;go_ret;exact ⟨rfl,rfl⟩
def zdp (w:World) (s:ByteArray) (c:UInt8) (e:Ending) (w' :World):Prop:=
 ∃ a b,e= .returned (.tuple #[.string a,.string b,.bool (has c (bts s))])/\bts a=ahead c (bts s)/\bts b=(if has c (bts s)=true then zX c (bts s) else [])/\∃ n,w' =w.drewN n
theorem za0 {s:ByteArray} {c:UInt8} (h:has c (bts s)=true):(ahead c (bts s)).length<s.size/\bts (s.extract 0 (ahead c (bts s)).length)=ahead c (bts s)/\bts (s.extract ((ahead c (bts s)).length+1) s.size)=zX c (bts s):=by
 have e:=zfs h
 have hl:(bts s).length=(ahead c (bts s)).length+1+(zX c (bts s)).length:=by
  conv=>lhs;rw [e]
  rw [List.length_append,List.length_cons];omega
 rw [zq] at hl
 refine ⟨by omega,?_,?_⟩
 . rw [vS,List.drop_zero]
   generalize ahead c (bts s)=A at e;rw [e,List.take_append_of_le_length (Nat.le_refl _),List.take_length]
 . rw [vS,List.take_of_length_le (by rw [zq];exact Nat.le_refl _)]
   generalize ahead c (bts s)=A at e;generalize zX c (bts s)=B at e;rw [e,List.drop_append]
   simp
theorem zg1 (s:ByteArray) (c:UInt8) (w:World) (hs:s.size<=1073741824):
 Calls Tryz.prog 170 #[.string s,.string ⟨#[c]⟩] w (zdp w s c):=by
 have hx:=fun w=>zb0 s c w
 by_cases hh:has c (bts s)=true
 . obtain ⟨h1,h2,h3⟩:=za0 hh
   have hi:Lib.indexByte s.data.toList c=((ahead c (bts s)).length:Int):=YD hh;rw [hi] at hx
   have HP:Hid (∀ n:Nat,zdp w s c (.returned (.tuple #[.string (s.extract 0 (ahead c (bts s)).length),.string (s.extract ((ahead c (bts s)).length+1) s.size),.bool true])) (w.drewN n)):=by
    intro n;exact ⟨_,_,by rw [hh],h2,by rw [if_pos hh];exact h3,n,rfl⟩
   clear hi h2 h3 hh;generalize (ahead c (bts s)).length=k at h1 hx HP
   go_enter Tryz.func170,Tryz.ntmps170
   go_wp2_with fail;refine (hx _).mono ?_;rintro e w' ⟨rfl,rfl⟩;go_wp2_with fail
   go_quiet (fail)
   go_wp2;go_ret3;exact HP.out _
 . have hh' :has c (bts s)=false:=by simpa using hh
   have hi:Lib.indexByte s.data.toList c= -1:=zax hh';rw [hi] at hx
   have HP:Hid (zdp w s c (.returned (.tuple #[.string s,.string ⟨#[]⟩,.bool false])) w):=
    ⟨_,_,by rw [hh'],(YT hh').symm,by rw [if_neg hh];rfl,0,rfl⟩
   clear hi hh hh'
   go_enter Tryz.func170,Tryz.ntmps170
   go_wp2_with fail;refine (hx _).mono ?_;rintro e w' ⟨rfl,rfl⟩;go_wp2;go_ret3;exact HP.out
theorem zle (s:ByteArray) (c:UInt8) (w:World) (hs:s.size<=1073741824):
 Calls Tryz.prog 124 #[.string s,.string ⟨#[c]⟩] w (zdp w s c):=by
 have h:=fun w=>zg1 s c w hs
 go_enter Tryz.func124,Tryz.ntmps124
 go_wp2_with fail
 refine (h _).mono ?_
 rintro e w' ⟨a,b,rfl,ha,hb,n,rfl⟩
 have HA:=ze ha
 have HB:=ze hb
 clear ha hb
 go_wp2
 go_ret3
 exact ⟨a,b,rfl,HA.out,HB.out,n,rfl⟩
theorem zee (s:ByteArray) (c:UInt8) (w:World) (hs:s.size<=1073741824):
 Calls Tryz.prog 208 #[.string s,.string ⟨#[c]⟩] w (Vn w (.bool ((bts s).head? == some c))):=by
 by_cases h0:1<=s.size
 . have hI:decide (1<=(s.size:Int))=true:=decide_eq_true (by omega)
   have e:((s.extract 0 1).toList == [c])=((bts s).head? == some c):=by
    rw [Lib.toList_data]
    have e1:(s.extract 0 1).data.toList=(bts s).take 1:=by
     have:=vS s 0 1;rw [List.drop_zero] at this;exact this
    rw [e1]
    cases hl:bts s with
    | nil=>have:=zq s;rw [hl] at this;simp at this;omega
    | cons b l=>simp
   have HE:=ze e;clear e;generalize hb:((bts s).head? == some c)=b at HE;clear hb
   cases hx:((s.extract 0 1).toList == [c]) with
   | true=>
     have hb:b=true:=by rw [<- hx];exact HE.out.symm
     subst hb;clear HE
     go_enter Tryz.func208,Tryz.ntmps208
     go_wp2;go_ret;exact ⟨rfl,rfl⟩
   | false=>
     have hb:b=false:=by rw [<- hx];exact HE.out.symm
     subst hb;clear HE
     go_enter Tryz.func208,Tryz.ntmps208
     go_wp2;go_ret;exact ⟨rfl,rfl⟩
 . have e:((bts s).head? == some c)=false:=by
    have:bts s=[]:=List.eq_nil_of_length_eq_zero (by rw [zq];omega);rw [this];rfl
   rw [e];have hI:decide (1<=(s.size:Int))=false:=decide_eq_false (by omega);clear e
   go_enter Tryz.func208,Tryz.ntmps208
   go_wp2;go_ret;exact ⟨rfl,rfl⟩
def zdt (w:World) (s:ByteArray) (e:Ending) (w' :World):Prop:=∃ u,e= .returned (.tuple #[.string u,.bool (yG (bts s))])/\bts u=zm (bts s)/\w=w'
theorem zjc (s:ByteArray) (h:yG (bts s)=true):bts (s.extract 1 s.size)=zm (bts s):=by
 unfold zm
 rw [if_pos h,vS,List.take_of_length_le (by rw [zq];exact Nat.le_refl _)]
 simp
theorem XH (s:ByteArray) (w:World) (hs:s.size<=1073741824):
 Calls Tryz.prog 169 #[.string s,.string ⟨#[45]⟩] w (zdt w s):=by
 have h:=fun w=>zee s 45 w hs
 have e:((bts s).head? == some 45)=yG (bts s):=rfl
 rw [e] at h
 clear e
 cases hb:yG (bts s) with
 | true=>
   rw [hb] at h
   have h0:1<=s.size:=by
    rcases Nat.eq_zero_or_pos s.size with h1 | h1
    . have:bts s=[]:=List.eq_nil_of_length_eq_zero (by rw [zq];exact h1)
      rw [this] at hb;cases hb
    . exact h1
   have HP:=ze (show zdt w s (.returned (.tuple #[.string (s.extract 1 s.size),.bool true])) w from ⟨_,by rw [hb],zjc s hb,rfl⟩);clear hb
   go_enter Tryz.func169,Tryz.ntmps169
   go_wp2_with fail;refine (h _).mono ?_;rintro e w' ⟨rfl,rfl⟩;go_wp2;go_ret2;exact HP.out
 | false=>
   rw [hb] at h;have HP:=ze (show zdt w s (.returned (.tuple #[.string s,.bool false])) w from ⟨_,by rw [hb],(ZR hb).symm,rfl⟩);clear hb
   go_enter Tryz.func169,Tryz.ntmps169
   go_wp2_with fail;refine (h _).mono ?_;rintro e w' ⟨rfl,rfl⟩;go_wp2;go_ret2;exact HP.out
theorem zaf (s:ByteArray) (w:World) (hs:s.size<=1073741824):
 Calls Tryz.prog 123 #[.string s,.string ⟨#[45]⟩] w (zdt w s):=by
 have h:=fun w=>XH s w hs
 go_enter Tryz.func123,Tryz.ntmps123
 go_wp2_with fail
 refine (h _).mono ?_
 rintro e w' ⟨u,rfl,hu,rfl⟩
 have HU:=ze hu
 clear hu
 go_wp2
 go_ret2
 exact ⟨u,rfl,HU.out,rfl⟩
theorem yi {a b:Bool} (h:a=b):Ending.returned (.bool b)= .returned (.bool a):=by rw [h]
theorem zka {c:UInt8} (h:yW c=false):c.toNat<48\/57<c.toNat:=by
 unfold yW at h
 simp at h
 omega
theorem zb4 {s:ByteArray} {k:Nat} (hk:k<s.size) (h:yW s[k]=false):v7 (bts s)=false:=by
 unfold v7
 have:(bts s).all yW=false:=by
  rw [List.all_eq_false]
  exact ⟨s[k],by rw [<- Yg s k hk];exact List.getElem_mem _,by rw [h];simp⟩
 rw [this];rfl
theorem zd8 (s:ByteArray) (w:World) (hs:s.size<=1073741824):
 Calls Tryz.prog 171 #[.string s] w (Vn w (.bool (v7 (bts s)))):=by
 go_enter Tryz.func171,Tryz.ntmps171
 go_wp2
 go_loop [6] (fun iv=>∃ k:Nat,k<=s.size/\iv= .int .i64 k/\Hid (∀ j (h:j<s.size),j<k->yW s[j]=true)) (fun iv=>s.size - (intOf iv).toNat)
 case atStart=>exact ⟨0,Nat.zero_le _,rfl,fun j _ h=>by omega⟩
 case round=>
  obtain ⟨k,hk,rfl,HD⟩:=hrel
  by_cases hlt:k<s.size
  . cases hd:yW s[k] with
    | true=>
      obtain ⟨h1,h2⟩:=ZP hd;have HD1:=ze hd;clear hd;go_wp2;go_round
      case rel=>
       refine ⟨k+1,by omega,by go_num,?_⟩;intro j hj hlt2
       rcases Nat.lt_or_ge j k with h3 | h3
       . exact HD.out j hj h3
       . obtain rfl:j=k:=by omega
         exact HD1.out
      case measure=>simp [intOf];omega
    | false=>
      have HF:=ze (zb4 hlt hd)
      rcases zka hd with h1 | h1
      . clear hd
        go_wp2;go_ret;exact ⟨yi HF.out,rfl⟩
      . have h2:¬ s[k].toNat<48:=by omega
        clear hd;go_wp2;go_ret;exact ⟨yi HF.out,rfl⟩
  . obtain rfl:k=s.size:=by omega
    have hall:(bts s).all yW=true:=by
     rw [List.all_eq_true];intro c hc;obtain ⟨j,hj,rfl⟩:=List.mem_iff_getElem.1 hc;rw [zq] at hj;rw [Yg s j hj];exact HD.out j hj hj
    have HI:=ze (show v7 (bts s)= !((s.toList).isEmpty) by unfold v7;rw [hall,Lib.toList_data];rfl);clear hall
    cases hb:(s.toList).isEmpty with
    | true=>
      have HI2:=ze (HI.out.trans (by rw [hb];rfl:_=false));have hb2:s.toList=[]:=by simpa using hb
      clear HI;go_wp2;go_ret;exact ⟨yi HI2.out,rfl⟩
    | false=>
      have HI2:=ze (HI.out.trans (by rw [hb];rfl:_=true));clear HI;go_wp2;go_ret;exact ⟨yi HI2.out,rfl⟩
theorem ziv (s:ByteArray) (h:0<s.size):(bts s).head?=some s[0]:=by
 rw [List.head?_eq_getElem?,List.getElem?_eq_getElem (by rw [zq];exact h)]
 rfl
theorem za5 (s:ByteArray) (w:World) (hs:s.size<=1073741824):
 Calls Tryz.prog 125 #[.string s] w (Vn w (.bool (zK (bts s)))):=by
 have h:=fun w=>zd8 s w hs
 cases hd:v7 (bts s) with
 | false=>
   rw [hd] at h;have HP:=ze (show zK (bts s)=false by unfold zK;rw [hd];rfl);clear hd
   go_enter Tryz.func125,Tryz.ntmps125
   go_wp2_with fail;refine (h _).mono ?_;rintro e w' ⟨rfl,rfl⟩;go_wp2;go_ret;exact ⟨yi HP.out,rfl⟩
 | true=>
   rw [hd] at h
   have h0:0<s.size:=by
    unfold v7 at hd;rw [Bool.and_eq_true] at hd
    rcases Nat.eq_zero_or_pos s.size with h1 | h1
    . have:bts s=[]:=List.eq_nil_of_length_eq_zero (by rw [zq];exact h1)
      rw [this] at hd;simp at hd
    . exact h1
   have hp:zK (bts s)=((((s[0].toNat:Int) != 48) || ((s.size:Int) == 1)) && decide ((s.size:Int)<=50000)):=by
    unfold zK;rw [hd,ziv s h0,zq,Bool.true_and]
    congr 1
    . congr 1
      . rw [Bool.eq_iff_iff,bne_iff_ne,bne_iff_ne]
        constructor
        . intro h1 h2;apply h1;congr 1;apply UInt8.toNat_inj.1;have:(48:UInt8).toNat=48:=rfl;omega
        . intro h1 h2;apply h1;injection h2 with h2;rw [h2];rfl
      . rw [Bool.eq_iff_iff,beq_iff_eq,beq_iff_eq];omega
    . rw [Bool.eq_iff_iff,decide_eq_true_iff,decide_eq_true_iff];omega
   have HP:=ze hp;clear hp hd
   cases b1:((s[0].toNat:Int) != 48) with
   | true=>
     cases b3:decide ((s.size:Int)<=50000) with
     | true=>
       have HP2:=ze (show zK (bts s)=true by rw [HP.out,b1,b3];rfl);clear HP
       go_enter Tryz.func125,Tryz.ntmps125
       go_wp2_with fail;refine (h _).mono ?_;rintro e w' ⟨rfl,rfl⟩;go_wp2;go_ret;exact ⟨yi HP2.out,rfl⟩
     | false=>
       have HP2:=ze (show zK (bts s)=false by rw [HP.out,b1,b3];rfl);clear HP
       go_enter Tryz.func125,Tryz.ntmps125
       go_wp2_with fail;refine (h _).mono ?_;rintro e w' ⟨rfl,rfl⟩;go_wp2;go_ret;exact ⟨yi HP2.out,rfl⟩
   | false=>
     cases b2:((s.size:Int) == 1) with
     | true=>
       have b3:decide ((s.size:Int)<=50000)=true:=decide_eq_true (by have:=beq_iff_eq.1 b2;omega);have HP2:=ze (show zK (bts s)=true by rw [HP.out,b1,b2,b3];rfl);clear HP
       go_enter Tryz.func125,Tryz.ntmps125
       go_wp2_with fail;refine (h _).mono ?_;rintro e w' ⟨rfl,rfl⟩;go_wp2;go_ret;exact ⟨yi HP2.out,rfl⟩
     | false=>
       have HP2:=ze (show zK (bts s)=false by rw [HP.out,b1,b2];rfl);clear HP
       go_enter Tryz.func125,Tryz.ntmps125
       go_wp2_with fail;refine (h _).mono ?_;rintro e w' ⟨rfl,rfl⟩;go_wp2;go_ret;exact ⟨yi HP2.out,rfl⟩
def zc8 (c:UInt8):Bool:=decide (97<=c.toNat) && decide (c.toNat<=122)
def yx (c:UInt8):Bool:=zc8 c || yW c || c == 45
def xP (l:List UInt8):Bool:=decide (1<=l.length) && decide (l.length<=16) && zc8 (l.headD 0) && l.all yx
theorem Xv {s:ByteArray} (h0:0<s.size):s.toList.isEmpty=false:=by
 rw [Bool.eq_false_iff]
 intro e
 have e:=List.isEmpty_iff.1 e
 have:=congrArg List.length e
 rw [Lib.toList_data] at this
 simp at this
 rw [this] at h0
 exact absurd h0 (by decide)
theorem Yw {c:UInt8}:zc8 c=true↔97<=c.toNat/\c.toNat<=122:=by
 unfold zc8;simp
theorem za8 {c:UInt8} (h:yx c=true):(97<=c.toNat/\c.toNat<=122)\/(48<=c.toNat/\c.toNat<=57/\c.toNat<97)\/(c.toNat=45):=by
 unfold yx at h
 simp only [Bool.or_eq_true] at h
 rcases h with (h | h) | h
 . exact .inl (Yw.1 h)
 . obtain ⟨h1,h2⟩:=ZP h
   exact .inr (.inl ⟨h1,h2,by omega⟩)
 . refine .inr (.inr ?_)
   rw [beq_iff_eq] at h;rw [h];rfl
theorem Xu {c:UInt8} (h:yx c=false):(c.toNat<48/\c.toNat≠45)\/(57<c.toNat/\c.toNat<97)\/(122<c.toNat):=by
 have h1:¬ (97<=c.toNat/\c.toNat<=122):=by
  intro h2
  have:=Yw.2 h2
  unfold yx at h;rw [this] at h;simp at h
 have h2:¬ (48<=c.toNat/\c.toNat<=57):=by
  intro h2
  have:yW c=true:=by unfold yW;simp [h2]
  unfold yx at h;rw [this] at h;simp at h
 have h3:c.toNat≠45:=by
  intro h3
  have:c=45:=UInt8.toNat_inj.1 h3
  unfold yx at h;rw [this] at h;simp at h
 omega
theorem zbb {s:ByteArray} (h:0<s.size):(bts s).headD 0=s[0]:=by
 have h1:=Yg s 0 h
 rw [List.headD_eq_head?_getD,List.head?_eq_getElem?,List.getElem?_eq_getElem (by rw [zq];exact h),h1];rfl
theorem zh2 {s:ByteArray} (h:0<s.size) (h1:zc8 s[0]=false):xP (bts s)=false:=by
 unfold xP;rw [zbb h,h1];simp
theorem zit {s:ByteArray} {k:Nat} (h:k<s.size) (h1:yx s[k]=false):xP (bts s)=false:=by
 have:(bts s).all yx=false:=by
  rw [Bool.eq_false_iff]
  intro h2
  have h3:=List.all_eq_true.1 h2 ((bts s)[k]'(by rw [zq];exact h)) (List.getElem_mem _)
  rw [Yg s k h,h1] at h3;cases h3
 unfold xP;rw [this];simp
theorem zi1 {s:ByteArray} (h:0<s.size) (h16:s.size<=16) (h1:zc8 s[0]=true) (h2:∀ j (hj:j<s.size),yx s[j]=true):xP (bts s)=true:=by
 have:(bts s).all yx=true:=by
  rw [List.all_eq_true]
  intro c hc
  obtain ⟨j,hj,rfl⟩:=List.mem_iff_getElem.1 hc
  rw [zq] at hj
  rw [Yg s j hj]
  exact h2 j hj
 unfold xP;rw [this,zbb h,h1,zq,decide_eq_true (show 1<=s.size from h),decide_eq_true h16];rfl
def xl (n:Nat) (f:Nat->Int):Int:=match n with
 | 0=>0
 | n+1=>if xl n f=0 then f n else xl n f
theorem xK {n:Nat} {f:Nat->Int}:xl n f=0↔∀ k,k<n->f k=0:=by
 induction n with
 | zero=>simp [xl]
 | succ n ih=>
   unfold xl
   constructor
   . intro h k hk
     by_cases h0:xl n f=0
     . rw [if_pos h0] at h
       rcases Nat.lt_or_ge k n with h1 | h1
       . exact ih.1 h0 k h1
       . obtain rfl:k=n:=by omega
         exact h
     . rw [if_neg h0] at h;exact absurd h h0
   . intro h
     rw [if_pos (ih.2 fun k hk=>h k (by omega))];exact h n (by omega)
theorem xX {n k:Nat} {f:Nat->Int} (hk:k<n) (h:∀ j,j<k->f j=0) (h0:f k≠0):xl n f=f k:=by
 induction n with
 | zero=>omega
 | succ n ih=>
   unfold xl
   rcases Nat.lt_or_ge k n with h1 | h1
   . rw [ih h1,if_neg h0]
   . obtain rfl:k=n:=by omega
     rw [if_pos (xK.2 h)]
end Go.Proofs.YtkmcmmcencdcpaaGreatDoor
namespace Go.Proofs.YtkmcmmcencdcpaaGreatDoor
structure zR where
 name:List UInt8
 coef:List UInt8
instance:Inhabited zR:=⟨⟨[],[]⟩⟩
structure yv where
 terms:List zR
 bound:List UInt8
instance:Inhabited yv:=⟨⟨[],[]⟩⟩
def x7 (l:List UInt8):Int:=match zl l with
 | none=>4
 | some q=>if yP 12 q then 0 else 3
def xH (l:List UInt8):Int:=match zl l with
 | none=>4
 | some q=>if q=0 then 1 else if yP 12 q then 0 else 3
def xd (last s:List UInt8) (first:Bool):Int:=if first=true\/last<s then 0 else if last=s then 6 else 1
def x9 (l:List zR) (i:Nat):Int:=
 if xP (l.getD i default).name=false then 5
 else if xH (l.getD i default).coef≠0 then xH (l.getD i default).coef
 else xd (l.getD (i - 1) default).name (l.getD i default).name (decide (i=0))
def yF (l:List zR):Int:=xl l.length (x9 l)
def xf (r:yv):Int:=if yF r.terms≠0 then yF r.terms else x7 r.bound
def zY (L:List (List zR)):List (List UInt8):=L.flatMap fun l=>l.map (·.name)
def zeo:List (List UInt8)->List (List UInt8)
 | []=>[]
 | x :: l=>if x∈zeo l then zeo l else x :: zeo l
def vh (ns:List (List UInt8)):List (List UInt8):=(zeo ns).mergeSort (fun x y=>decide (x<=y))
def yJ (rs:List yv) (more:List (List zR)):List (List UInt8):=vh (zY (more ++ rs.map (·.terms)))
def yH (rs:List yv):Int:=
 if 800<rs.length then 3
 else if xl rs.length (fun i=>xf (rs.getD i default))≠0 then xl rs.length (fun i=>xf (rs.getD i default))
 else if 80<(yJ rs []).length then 3 else 0
def zl2 (l:List (List UInt8)):Prop:=l.Pairwise (· < ·)
theorem YV (a:List UInt8):¬ a<a:=List.lt_irrefl a
theorem zhm {a b c:List UInt8} (h:a<b) (h2:b<c):a<c:=List.lt_trans h h2
theorem zgz {a b:List UInt8} (h:a<b):¬ b<a:=fun h2=>YV a (zhm h h2)
theorem zll (a b:List UInt8) (h1:¬ a<b) (h2:¬ b<a):a=b:=List.le_antisymm (List.not_lt.1 h2) (List.not_lt.1 h1)
theorem zlw {a b:List UInt8} (h:a<=b) (hn:a≠b):a<b:=by
 rcases Decidable.em (a<b) with h1 | h1
 . exact h1
 . exact absurd (zll a b h1 (List.not_lt.2 h)) hn
theorem Yh:∀ (l m:List (List UInt8)),zl2 l->zl2 m->(∀ x,x∈l↔x∈m)->l=m
 | [],[],_,_,_=>rfl
 | [],y :: m,_,_,h=>(by have:=(h y).2 (List.mem_cons_self ..);cases this)
 | x :: l,[],_,_,h=>(by have:=(h x).1 (List.mem_cons_self ..);cases this)
 | x :: l,y :: m,h1,h2,h=>by
   obtain ⟨a1,b1⟩:=List.pairwise_cons.1 h1;obtain ⟨a2,b2⟩:=List.pairwise_cons.1 h2
   have e:x=y:=by
    rcases List.mem_cons.1 ((h x).1 (List.mem_cons_self ..)) with e | e
    . exact e
    . rcases List.mem_cons.1 ((h y).2 (List.mem_cons_self ..)) with e2 | e2
      . exact e2.symm
      . exact absurd (a1 _ e2) (zgz (a2 _ e))
   subst e
   rw [Yh l m b1 b2 (fun z=>⟨fun hz=>by
    rcases List.mem_cons.1 ((h z).1 (List.mem_cons_of_mem _ hz)) with e | e
    . exact absurd (a1 _ hz) (by rw [e];exact YV _)
    . exact e,fun hz=>by
    rcases List.mem_cons.1 ((h z).2 (List.mem_cons_of_mem _ hz)) with e | e
    . exact absurd (a2 _ hz) (by rw [e];exact YV _)
    . exact e⟩)]
def Yl (l ns:List (List UInt8)):Prop:=zl2 l/\∀ x,x∈l↔x∈ns
theorem XL {ss:List (List UInt8)} (hn:ss.Nodup):zl2 (ss.mergeSort (fun x y=>decide (x<=y))):=by
 have h1:=List.pairwise_mergeSort (le:=fun x y:List UInt8=>decide (x<=y)) (fun a b c h1 h2=>by simp only [decide_eq_true_eq] at*;exact List.le_trans h1 h2) (fun a b=>by simp only [Bool.or_eq_true,decide_eq_true_eq];exact List.le_total a b) ss
 have h2:(ss.mergeSort (fun x y=>decide (x<=y))).Nodup:=(List.mergeSort_perm ss _).nodup_iff.2 hn
 unfold zl2
 refine (h1.and h2).imp ?_
 rintro a b ⟨h,hn⟩
 simp only [decide_eq_true_eq] at h
 exact zlw h hn
theorem Xy:∀ (ns:List (List UInt8)) (x:List UInt8),x∈zeo ns↔x∈ns
 | [],x=>Iff.rfl
 | y :: l,x=>by
   unfold zeo
   by_cases h:y∈zeo l
   . rw [if_pos h,Xy l x,List.mem_cons]
     refine ⟨.inr,fun e=>e.elim (fun e=>?_) id⟩;rw [e];exact (Xy l y).1 h
   . rw [if_neg h,List.mem_cons,List.mem_cons,Xy l x]
theorem YR:∀ (ns:List (List UInt8)),(zeo ns).Nodup
 | []=>List.nodup_nil
 | y :: l=>by
   unfold zeo
   by_cases h:y∈zeo l
   . rw [if_pos h];exact YR l
   . rw [if_neg h];exact List.nodup_cons.2 ⟨h,YR l⟩
theorem Vm:∀ (ns:List (List UInt8)),(zeo ns).length<=ns.length
 | []=>Nat.le_refl _
 | y :: l=>by
   have:=Vm l;unfold zeo
   by_cases h:y∈zeo l
   . rw [if_pos h,List.length_cons];omega
   . rw [if_neg h,List.length_cons,List.length_cons];omega
theorem Zc (ns:List (List UInt8)):Yl (vh ns) ns:=
 ⟨XL (YR ns),fun x=>by unfold vh;rw [(List.mergeSort_perm _ _).mem_iff,Xy]⟩
theorem Yl.eq {l ns:List (List UInt8)} (h:Yl l ns):l=vh ns:=
 Yh _ _ h.1 (Zc ns).1 (fun x=>(h.2 x).trans ((Zc ns).2 x).symm)
theorem YB (ns:List (List UInt8)):(vh ns).length<=ns.length:=by
 unfold vh
 rw [List.length_mergeSort]
 exact Vm ns
end Go.Proofs.YtkmcmmcencdcpaaGreatDoor
