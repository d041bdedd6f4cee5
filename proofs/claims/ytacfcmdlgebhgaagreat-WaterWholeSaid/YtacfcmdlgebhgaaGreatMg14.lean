/- Parts of the proof: memory, numbers, walks of the functions that are called. -/
import Derived.Lib.Bytealg
import Derived.Lib.Index
import Derived.Test.YtacfcmdlgebhgaaGreatMg11
set_option linter.unusedVariables false
set_option linter.unusedSimpArgs false
set_option maxRecDepth 100000
namespace Go.Proofs.YtacfcmdlgebhgaaGreat
open Go.RowKit Go.Deep
abbrev str (l:List UInt8):Value:=.string ⟨l.toArray⟩
theorem yy (l:List UInt8):bts ⟨l.toArray⟩=l:=by unfold bts;simp
theorem zhj {l:List UInt8} {c:UInt8} (h:has c l=true):Lib.indexByte l c=((yC c l).length:Int):=by
 induction l with
 | nil=>simp [has] at h
 | cons b l ih=>
   unfold Lib.indexByte yC
   by_cases hb:b=c
   . subst hb;simp
   have h' :has c l=true:=by
    unfold has at h |-;simp only [List.contains_cons,Bool.or_eq_true,beq_iff_eq] at h
    rcases h with h | h
    . exact absurd h.symm hb
    . exact h
   have:=ih h';have e1:(b == c)=false:=by simpa using hb
   have e2:(b != c)=true:=by simpa using hb
   rw [e1,List.takeWhile_cons_of_pos (by simpa using hb),this];unfold yC;have e3:(((List.takeWhile (fun x=>x != c) l).length:Int) == -1)=false:=by rw [beq_eq_false_iff_ne];omega
   rw [e3]
   simp
theorem zi8 {l:List UInt8} {c:UInt8} (h:has c l=false):Lib.indexByte l c= -1:=by
 induction l with
 | nil=>rfl
 | cons b l ih=>
   unfold has at h;simp only [List.contains_cons,Bool.or_eq_false_iff,beq_eq_false_iff_ne] at h;unfold Lib.indexByte;have e1:(b == c)=false:=by rw [beq_eq_false_iff_ne];exact fun e=>h.1 e.symm
   rw [e1,ih h.2];rfl
theorem zo5 (s:ByteArray) (c:Int) (w:World):
 Calls Tryz.prog 166 #[.string s,.int .u8 c] w (zfu w (.int .i64 (Lib.indexByte s.data.toList c.toNat.toUInt8))):=by
 go_enter Tryz.func166,Tryz.ntmps166
 go_wp2
 rw [run_callFunc_extern Tryz.func173 (by kernel_rfl) (by kernel_rfl) (by kernel_rfl) (e:=Extern.BytealgIndexByte.indexByte) (by kernel_rfl),Lib.run_indexByteString]
 simp only [Result.andThen]
 rw [Oper.upon_value]
 go_wp2
 go_ret
 exact ⟨rfl,rfl⟩
theorem zsk (s:ByteArray) (c:UInt8) (w:World):
 Calls Tryz.prog 154 #[.string s,.string ⟨#[c]⟩] w (zfu w (.int .i64 (Lib.indexByte s.data.toList c))):=by
 have h:=fun w=>zo5 s (c.toNat:Int) w
 have e:((c.toNat:Int)).toNat.toUInt8=c:=by simp
 simp only [e] at h
 cases hb:([c] == s.toList) with
 | true=>
   have e2:s.data.toList=[c]:=by
    have:=beq_iff_eq.1 hb;rw [<- Lib.toList_data];exact this.symm
   have e3:Lib.indexByte s.data.toList c=0:=by rw [e2];simp [Lib.indexByte]
   rw [e3];clear e2 e3 h
   go_enter Tryz.func154,Tryz.ntmps154
   go_wp2;go_ret;exact ⟨rfl,rfl⟩
 | false=>
   go_enter Tryz.func154,Tryz.ntmps154
   go_wp2_with fail;refine (h _).mono ?_;rintro e w' ⟨rfl,rfl⟩;go_wp2;go_ret;exact ⟨rfl,rfl⟩
def zd0 (w:World) (s:ByteArray) (c:UInt8) (e:Ending) (w' :World):Prop:=
 ∃ a b,e= .returned (.tuple #[.string a,.string b,.bool (has c (bts s))])/\bts a=yC c (bts s)/\bts b=(if has c (bts s)=true then ys c (bts s) else [])/\∃ n,w' =w.drewN n
theorem zjb {s:ByteArray} {c:UInt8} (h:has c (bts s)=true):(yC c (bts s)).length<s.size/\bts (s.extract 0 (yC c (bts s)).length)=yC c (bts s)/\bts (s.extract ((yC c (bts s)).length+1) s.size)=ys c (bts s):=by
 have e:=zv5 h
 have hl:(bts s).length=(yC c (bts s)).length+1+(ys c (bts s)).length:=by
  conv=>lhs;rw [e]
  rw [List.length_append,List.length_cons];omega
 rw [zm] at hl
 refine ⟨by omega,?_,?_⟩
 . rw [Zk,List.drop_zero]
   generalize yC c (bts s)=A at e;rw [e,List.take_append_of_le_length (Nat.le_refl _),List.take_length]
 rw [Zk,List.take_of_length_le (by rw [zm];exact Nat.le_refl _)]
 generalize yC c (bts s)=A at e;generalize ys c (bts s)=B at e;rw [e,List.drop_append]
 simp
theorem zs6 (s:ByteArray) (c:UInt8) (w:World) (hs:s.size<=1073741824):
 Calls Tryz.prog 140 #[.string s,.string ⟨#[c]⟩] w (zd0 w s c):=by
 have hx:=fun w=>zsk s c w
 by_cases hh:has c (bts s)=true
 rotate_left
 . have hh' :has c (bts s)=false:=by simpa using hh
   have hi:Lib.indexByte s.data.toList c= -1:=zi8 hh';rw [hi] at hx
   have HP:Hid (zd0 w s c (.returned (.tuple #[.string s,.string ⟨#[]⟩,.bool false])) w):=
    ⟨_,_,by rw [hh'],(V3 hh').symm,by rw [if_neg hh];rfl,0,rfl⟩
   clear hi hh hh'
   go_enter Tryz.func140,Tryz.ntmps140
   go_wp2_with fail;refine (hx _).mono ?_;rintro e w' ⟨rfl,rfl⟩;go_wp2;go_ret3;exact HP.out
 obtain ⟨h1,h2,h3⟩:=zjb hh
 have hi:Lib.indexByte s.data.toList c=((yC c (bts s)).length:Int):=zhj hh;rw [hi] at hx
 have HP:Hid (∀ n:Nat,zd0 w s c (.returned (.tuple #[.string (s.extract 0 (yC c (bts s)).length),.string (s.extract ((yC c (bts s)).length+1) s.size),.bool true])) (w.drewN n)):=by
  intro n;exact ⟨_,_,by rw [hh],h2,by rw [if_pos hh];exact h3,n,rfl⟩
 clear hi h2 h3 hh;generalize (yC c (bts s)).length=k at h1 hx HP
 go_enter Tryz.func140,Tryz.ntmps140
 go_wp2_with fail;refine (hx _).mono ?_;rintro e w' ⟨rfl,rfl⟩;go_wp2_with fail
 go_quiet (fail)
 go_wp2;go_ret3;exact HP.out _
theorem ztl (s:ByteArray) (c:UInt8) (w:World) (hs:s.size<=1073741824):
 Calls Tryz.prog 113 #[.string s,.string ⟨#[c]⟩] w (zd0 w s c):=by
 have h:=fun w=>zs6 s c w hs
 go_enter Tryz.func113,Tryz.ntmps113
 go_wp2_with fail
 refine (h _).mono ?_
 rintro e w' ⟨a,b,rfl,ha,hb,n,rfl⟩
 have HA:=ze ha
 have HB:=ze hb
 clear ha hb
 go_wp2
 go_ret3
 exact ⟨a,b,rfl,HA.out,HB.out,n,rfl⟩
theorem zg5 (s:ByteArray) (c:UInt8) (w:World) (hs:s.size<=1073741824):
 Calls Tryz.prog 153 #[.string s,.string ⟨#[c]⟩] w (zfu w (.bool ((bts s).head? == some c))):=by
 by_cases h0:1<=s.size
 rotate_left
 . have e:((bts s).head? == some c)=false:=by
    have:bts s=[]:=List.eq_nil_of_length_eq_zero (by rw [zm];omega);rw [this];rfl
   rw [e];have hI:decide (1<=(s.size:Int))=false:=decide_eq_false (by omega);clear e
   go_enter Tryz.func153,Tryz.ntmps153
   go_wp2;go_ret;exact ⟨rfl,rfl⟩
 have hI:decide (1<=(s.size:Int))=true:=decide_eq_true (by omega)
 have e:((s.extract 0 1).toList == [c])=((bts s).head? == some c):=by
  rw [Lib.toList_data]
  have e1:(s.extract 0 1).data.toList=(bts s).take 1:=by
   have:=Zk s 0 1;rw [List.drop_zero] at this;exact this
  rw [e1]
  cases hl:bts s with
  | nil=>have:=zm s;rw [hl] at this;simp at this;omega
  | cons b l=>simp
 have HE:=ze e;clear e;generalize hb:((bts s).head? == some c)=b at HE;clear hb
 cases hx:((s.extract 0 1).toList == [c]) with
 | true=>
   have hb:b=true:=by rw [<- hx];exact HE.out.symm
   subst hb;clear HE
   go_enter Tryz.func153,Tryz.ntmps153
   go_wp2;go_ret;exact ⟨rfl,rfl⟩
 | false=>
   have hb:b=false:=by rw [<- hx];exact HE.out.symm
   subst hb;clear HE
   go_enter Tryz.func153,Tryz.ntmps153
   go_wp2;go_ret;exact ⟨rfl,rfl⟩
def znb (w:World) (s:ByteArray) (e:Ending) (w' :World):Prop:=∃ u,e= .returned (.tuple #[.string u,.bool (yJ (bts s))])/\bts u=zq (bts s)/\w=w'
def zh6 (w:World) (s:ByteArray) (e:Ending) (w' :World):Prop:=∃ u,e= .returned (.string u)/\bts u=zq (bts s)/\w=w'
theorem zn6 (s:ByteArray) (h:yJ (bts s)=true):bts (s.extract 1 s.size)=zq (bts s):=by
 unfold zq
 rw [if_pos h,Zk,List.take_of_length_le (by rw [zm];exact Nat.le_refl _)]
 simp
theorem zfs (s:ByteArray) (w:World) (hs:s.size<=1073741824):
 Calls Tryz.prog 139 #[.string s,.string ⟨#[45]⟩] w (znb w s):=by
 have h:=fun w=>zg5 s 45 w hs
 have e:((bts s).head? == some 45)=yJ (bts s):=rfl
 rw [e] at h
 clear e
 cases hb:yJ (bts s) with
 | true=>
   rw [hb] at h
   have h0:1<=s.size:=by
    rcases Nat.eq_zero_or_pos s.size with h1 | h1
    . have:bts s=[]:=List.eq_nil_of_length_eq_zero (by rw [zm];exact h1)
      rw [this] at hb;cases hb
    . exact h1
   have HP:=ze (show znb w s (.returned (.tuple #[.string (s.extract 1 s.size),.bool true])) w from ⟨_,by rw [hb],zn6 s hb,rfl⟩);clear hb
   go_enter Tryz.func139,Tryz.ntmps139
   go_wp2_with fail;refine (h _).mono ?_;rintro e w' ⟨rfl,rfl⟩;go_wp2;go_ret2;exact HP.out
 | false=>
   rw [hb] at h;have HP:=ze (show znb w s (.returned (.tuple #[.string s,.bool false])) w from ⟨_,by rw [hb],(Yf hb).symm,rfl⟩);clear hb
   go_enter Tryz.func139,Tryz.ntmps139
   go_wp2_with fail;refine (h _).mono ?_;rintro e w' ⟨rfl,rfl⟩;go_wp2;go_ret2;exact HP.out
theorem zil (s:ByteArray) (w:World) (hs:s.size<=1073741824):
 Calls Tryz.prog 112 #[.string s,.string ⟨#[45]⟩] w (znb w s):=by
 have h:=fun w=>zfs s w hs
 go_enter Tryz.func112,Tryz.ntmps112
 go_wp2_with fail
 refine (h _).mono ?_
 rintro e w' ⟨u,rfl,hu,rfl⟩
 have HU:=ze hu
 clear hu
 go_wp2
 go_ret2
 exact ⟨u,rfl,HU.out,rfl⟩
theorem z0 {a b:Bool} (h:a=b):Ending.returned (.bool b)= .returned (.bool a):=by rw [h]
theorem zrx {c:UInt8} (h:xh c=false):c.toNat<48\/57<c.toNat:=by
 unfold xh at h
 simp at h
 omega
theorem zcr {s:ByteArray} {k:Nat} (hk:k<s.size) (h:xh s[k]=false):xo (bts s)=false:=by
 unfold xo
 have:(bts s).all xh=false:=by
  rw [List.all_eq_false]
  exact ⟨s[k],by rw [<- ZI s k hk];exact List.getElem_mem _,by rw [h];simp⟩
 rw [this];rfl
theorem zqa (s:ByteArray) (w:World) (hs:s.size<=1073741824):
 Calls Tryz.prog 141 #[.string s] w (zfu w (.bool (xo (bts s)))):=by
 go_enter Tryz.func141,Tryz.ntmps141
 go_wp2
 go_loop [6] (fun iv=>∃ k:Nat,k<=s.size/\iv= .int .i64 k/\Hid (∀ j (h:j<s.size),j<k->xh s[j]=true)) (fun iv=>s.size - (intOf iv).toNat)
 case atStart=>exact ⟨0,Nat.zero_le _,rfl,fun j _ h=>by omega⟩
 case round=>
  obtain ⟨k,hk,rfl,HD⟩:=hrel
  by_cases hlt:k<s.size
  rotate_left
  . obtain rfl:k=s.size:=by omega
    have hall:(bts s).all xh=true:=by
     rw [List.all_eq_true];intro c hc;obtain ⟨j,hj,rfl⟩:=List.mem_iff_getElem.1 hc;rw [zm] at hj;rw [ZI s j hj];exact HD.out j hj hj
    have HI:=ze (show xo (bts s)= !((s.toList).isEmpty) by unfold xo;rw [hall,Lib.toList_data];rfl);clear hall
    cases hb:(s.toList).isEmpty with
    | true=>
      have HI2:=ze (HI.out.trans (by rw [hb];rfl:_=false));have hb2:s.toList=[]:=by simpa using hb
      clear HI;go_wp2;go_ret;exact ⟨z0 HI2.out,rfl⟩
    | false=>
      have HI2:=ze (HI.out.trans (by rw [hb];rfl:_=true));clear HI;go_wp2;go_ret;exact ⟨z0 HI2.out,rfl⟩
  cases hd:xh s[k] with
  | true=>
    obtain ⟨h1,h2⟩:=Yk hd;have HD1:=ze hd;clear hd;go_wp2;go_round
    case rel=>
     refine ⟨k+1,by omega,by go_num,?_⟩;intro j hj hlt2
     rcases Nat.lt_or_ge j k with h3 | h3
     . exact HD.out j hj h3
     . obtain rfl:j=k:=by omega
       exact HD1.out
    case measure=>simp [intOf];omega
  | false=>
    have HF:=ze (zcr hlt hd)
    rcases zrx hd with h1 | h1
    . clear hd
      go_wp2;go_ret;exact ⟨z0 HF.out,rfl⟩
    . have h2:¬ s[k].toNat<48:=by omega
      clear hd;go_wp2;go_ret;exact ⟨z0 HF.out,rfl⟩
theorem zvo (s:ByteArray) (h:0<s.size):(bts s).head?=some s[0]:=by
 rw [List.head?_eq_getElem?,List.getElem?_eq_getElem (by rw [zm];exact h)]
 rfl
theorem zji (s:ByteArray) (w:World) (hs:s.size<=1073741824):
 Calls Tryz.prog 114 #[.string s] w (zfu w (.bool (ye (bts s)))):=by
 have h:=fun w=>zqa s w hs
 cases hd:xo (bts s) with
 | false=>
   rw [hd] at h;have HP:=ze (show ye (bts s)=false by unfold ye;rw [hd];rfl);clear hd
   go_enter Tryz.func114,Tryz.ntmps114
   go_wp2_with fail;refine (h _).mono ?_;rintro e w' ⟨rfl,rfl⟩;go_wp2;go_ret;exact ⟨z0 HP.out,rfl⟩
 | true=>
   rw [hd] at h
   have h0:0<s.size:=by
    unfold xo at hd;rw [Bool.and_eq_true] at hd
    rcases Nat.eq_zero_or_pos s.size with h1 | h1
    . have:bts s=[]:=List.eq_nil_of_length_eq_zero (by rw [zm];exact h1)
      rw [this] at hd;simp at hd
    . exact h1
   have hp:ye (bts s)=((((s[0].toNat:Int) != 48) || ((s.size:Int) == 1)) && decide ((s.size:Int)<=50000)):=by
    unfold ye;rw [hd,zvo s h0,zm,Bool.true_and]
    congr 1
    rotate_left
    . rw [Bool.eq_iff_iff,decide_eq_true_iff,decide_eq_true_iff];omega
    congr 1
    rotate_left
    . rw [Bool.eq_iff_iff,beq_iff_eq,beq_iff_eq];omega
    rw [Bool.eq_iff_iff,bne_iff_ne,bne_iff_ne]
    constructor
    . intro h1 h2;apply h1;congr 1;apply UInt8.toNat_inj.1;have:(48:UInt8).toNat=48:=rfl;omega
    intro h1 h2;apply h1;injection h2 with h2;rw [h2];rfl
   have HP:=ze hp;clear hp hd
   cases b1:((s[0].toNat:Int) != 48) with
   | true=>
     cases b3:decide ((s.size:Int)<=50000) with
     | true=>
       have HP2:=ze (show ye (bts s)=true by rw [HP.out,b1,b3];rfl);clear HP
       go_enter Tryz.func114,Tryz.ntmps114
       go_wp2_with fail;refine (h _).mono ?_;rintro e w' ⟨rfl,rfl⟩;go_wp2;go_ret;exact ⟨z0 HP2.out,rfl⟩
     | false=>
       have HP2:=ze (show ye (bts s)=false by rw [HP.out,b1,b3];rfl);clear HP
       go_enter Tryz.func114,Tryz.ntmps114
       go_wp2_with fail;refine (h _).mono ?_;rintro e w' ⟨rfl,rfl⟩;go_wp2;go_ret;exact ⟨z0 HP2.out,rfl⟩
   | false=>
     cases b2:((s.size:Int) == 1) with
     | true=>
       have b3:decide ((s.size:Int)<=50000)=true:=decide_eq_true (by have:=beq_iff_eq.1 b2;omega);have HP2:=ze (show ye (bts s)=true by rw [HP.out,b1,b2,b3];rfl);clear HP
       go_enter Tryz.func114,Tryz.ntmps114
       go_wp2_with fail;refine (h _).mono ?_;rintro e w' ⟨rfl,rfl⟩;go_wp2;go_ret;exact ⟨z0 HP2.out,rfl⟩
     | false=>
       have HP2:=ze (show ye (bts s)=false by rw [HP.out,b1,b2];rfl);clear HP
       go_enter Tryz.func114,Tryz.ntmps114
       go_wp2_with fail;refine (h _).mono ?_;rintro e w' ⟨rfl,rfl⟩;go_wp2;go_ret;exact ⟨z0 HP2.out,rfl⟩
def zfv (c:UInt8):Bool:=decide (97<=c.toNat) && decide (c.toNat<=122)
def yD (c:UInt8):Bool:=zfv c || xh c || c == 45
def vr (l:List UInt8):Bool:=decide (1<=l.length) && decide (l.length<=16) && zfv (l.headD 0) && l.all yD
theorem zib {s:ByteArray} (h:s.size=0):s.toList=[]:=by
 have he:bts s=[]:=List.eq_nil_of_length_eq_zero (by rw [zm];exact h)
 rw [Lib.toList_data];exact he
theorem XP {s:ByteArray} (h0:0<s.size):s.toList.isEmpty=false:=by
 rw [Bool.eq_false_iff]
 intro e
 have e:=List.isEmpty_iff.1 e
 have:=congrArg List.length e
 rw [Lib.toList_data] at this
 simp at this
 rw [this] at h0
 exact absurd h0 (by decide)
theorem X0 {c:UInt8}:zfv c=true↔97<=c.toNat/\c.toNat<=122:=by
 unfold zfv;simp
theorem zda {c:UInt8} (h:yD c=true):(97<=c.toNat/\c.toNat<=122)\/(48<=c.toNat/\c.toNat<=57/\c.toNat<97)\/(c.toNat=45):=by
 unfold yD at h
 simp only [Bool.or_eq_true] at h
 rcases h with (h | h) | h
 . exact .inl (X0.1 h)
 . obtain ⟨h1,h2⟩:=Yk h
   exact .inr (.inl ⟨h1,h2,by omega⟩)
 . refine .inr (.inr ?_)
   rw [beq_iff_eq] at h;rw [h];rfl
theorem YP {c:UInt8} (h:yD c=false):(c.toNat<48/\c.toNat≠45)\/(57<c.toNat/\c.toNat<97)\/(122<c.toNat):=by
 have h1:¬ (97<=c.toNat/\c.toNat<=122):=by
  intro h2
  have:=X0.2 h2
  unfold yD at h;rw [this] at h;simp at h
 have h2:¬ (48<=c.toNat/\c.toNat<=57):=by
  intro h2
  have:xh c=true:=by unfold xh;simp [h2]
  unfold yD at h;rw [this] at h;simp at h
 have h3:c.toNat≠45:=by
  intro h3
  have:c=45:=UInt8.toNat_inj.1 h3
  unfold yD at h;rw [this] at h;simp at h
 omega
theorem zjz {s:ByteArray} (h:0<s.size):(bts s).headD 0=s[0]:=by
 have h1:=ZI s 0 h
 rw [List.headD_eq_head?_getD,List.head?_eq_getElem?,List.getElem?_eq_getElem (by rw [zm];exact h),h1];rfl
theorem zn1 {s:ByteArray} (h:0<s.size) (h1:zfv s[0]=false):vr (bts s)=false:=by
 unfold vr;rw [zjz h,h1];simp
theorem znr {s:ByteArray} {k:Nat} (h:k<s.size) (h1:yD s[k]=false):vr (bts s)=false:=by
 have:(bts s).all yD=false:=by
  rw [Bool.eq_false_iff]
  intro h2
  have h3:=List.all_eq_true.1 h2 ((bts s)[k]'(by rw [zm];exact h)) (List.getElem_mem _)
  rw [ZI s k h,h1] at h3;cases h3
 unfold vr;rw [this];simp
theorem zni {s:ByteArray} (h:0<s.size) (h16:s.size<=16) (h1:zfv s[0]=true) (h2:∀ j (hj:j<s.size),yD s[j]=true):vr (bts s)=true:=by
 have:(bts s).all yD=true:=by
  rw [List.all_eq_true]
  intro c hc
  obtain ⟨j,hj,rfl⟩:=List.mem_iff_getElem.1 hc
  rw [zm] at hj
  rw [ZI s j hj]
  exact h2 j hj
 unfold vr;rw [this,zjz h,h1,zm,decide_eq_true (show 1<=s.size from h),decide_eq_true h16];rfl
def zW (n:Nat) (f:Nat->Int):Int:=match n with
 | 0=>0
 | n+1=>if zW n f=0 then f n else zW n f
theorem zN {n:Nat} {f:Nat->Int}:zW n f=0↔∀ k,k<n->f k=0:=by
 induction n with
 | zero=>simp [zW]
 | succ n ih=>
   unfold zW
   constructor
   rotate_left
   . intro h
     rw [if_pos (ih.2 fun k hk=>h k (by omega))];exact h n (by omega)
   intro h k hk
   by_cases h0:zW n f=0
   rotate_left
   . rw [if_neg h0] at h;exact absurd h h0
   rw [if_pos h0] at h
   rcases Nat.lt_or_ge k n with h1 | h1
   . exact ih.1 h0 k h1
   . obtain rfl:k=n:=by omega
     exact h
theorem xO {n k:Nat} {f:Nat->Int} (hk:k<n) (h:∀ j,j<k->f j=0) (h0:f k≠0):zW n f=f k:=by
 induction n with
 | zero=>omega
 | succ n ih=>
   unfold zW
   rcases Nat.lt_or_ge k n with h1 | h1
   . rw [ih h1,if_neg h0]
   . obtain rfl:k=n:=by omega
     rw [if_pos (zN.2 h)]
end Go.Proofs.YtacfcmdlgebhgaaGreat
namespace Go.Proofs.YtacfcmdlgebhgaaGreat
def zY (l:List UInt8):Int:=match zp l with
 | none=>4
 | some q=>if zG 12 q then 0 else 3
def vS (l:List UInt8):Rat:=(zp l).getD 0
theorem vF {l:List UInt8} (h:zY l=0):∃ q,zp l=some q/\zG 12 q/\vS l=q/\l=zh q:=by
 unfold zY at h
 cases hr:zp l with
 | none=>rw [hr] at h;simp at h
 | some q=>
   rw [hr] at h;simp only at h
   by_cases hs:zG 12 q
   . exact ⟨q,rfl,hs,by unfold vS;rw [hr];rfl,(yR.1 hr).1⟩
   rw [if_neg hs] at h;simp at h
structure zee where
 name:List UInt8
 from_:Int
 to_:Int
 low:List UInt8
 high:List UInt8
structure yU where
 node:Int
 value:List UInt8
structure Net where
 nodes:List (List UInt8)
 pipes:List zee
 heads:List yU
 wells:List yU
instance:Inhabited zee:=⟨⟨[],0,0,[],[]⟩⟩
instance:Inhabited yU:=⟨⟨0,[]⟩⟩
namespace Net
variable (n:Net)
def N:Nat:=n.nodes.length
def np:Nat:=n.pipes.length
def nodeErr (i:Nat):Int:=
 if vr (n.nodes.getD i [])=false then 5 else if n.nodes.getD i []∈n.nodes.take i then 6 else 0
def pipeErr (i:Nat):Int:=
 let p:=n.pipes.getD i default
 if vr p.name=false then 5
 else if p.name∈(n.pipes.take i).map (·.name) then 6
 else if p.from_<0\/(n.nodes.length:Int)<=p.from_\/p.to_<0\/(n.nodes.length:Int)<=p.to_ then 7
 else if p.from_=p.to_ then 1
 else if zY p.low≠0 then zY p.low
 else if zY p.high≠0 then zY p.high
 else if vS p.low<=0\/vS p.high<vS p.low then 1 else 0
def levelErr (l:List yU) (i:Nat):Int:=
 let v:=l.getD i default
 if v.node<0\/(n.nodes.length:Int)<=v.node then 7
 else if v.node∈(l.take i).map (·.node) then 6
 else zY v.value
def wellErr (i:Nat):Int:=
 if n.levelErr n.wells i≠0 then n.levelErr n.wells i
 else if (n.wells.getD i default).node∈n.heads.map (·.node) then 10 else 0
def pf (i:Nat):Nat:=(n.pipes.getD i default).from_.toNat
def pt (i:Nat):Nat:=(n.pipes.getD i default).to_.toNat
def at_ (l:List yU) (k:Nat):Option Rat:=(l.find? fun v=>v.node == (k:Int)).map fun v=>vS v.value
def on (l:List yU) (k:Nat):Prop:=∃ v∈l,v.node=(k:Int)
open Classical in
noncomputable def err:Int:=
 if 24<n.nodes.length then 3
 else if n.nodes.length=0 then 1
 else if zW n.nodes.length n.nodeErr≠0 then zW n.nodes.length n.nodeErr
 else if 48<n.pipes.length then 3
 else if zW n.pipes.length n.pipeErr≠0 then zW n.pipes.length n.pipeErr
 else if zW n.heads.length (n.levelErr n.heads)≠0 then zW n.heads.length (n.levelErr n.heads)
 else if zW n.wells.length n.wellErr≠0 then zW n.wells.length n.wellErr
 else if ∀ k,k<n.nodes.length->xg n.pipes.length n.pf n.pt (on n.heads) k then 0 else 9
end Net
end Go.Proofs.YtacfcmdlgebhgaaGreat
namespace Go.Proofs.YtacfcmdlgebhgaaGreat
open Go.RowKit Go.Deep
theorem zdb (s:ByteArray) (w:World) (hs:s.size<=1073741824):
 Calls Tryz.prog 170 #[.string s,.string ⟨#[45]⟩] w (zh6 w s):=by
 have h:=fun w=>zg5 s 45 w hs
 have e:((bts s).head? == some 45)=yJ (bts s):=rfl
 rw [e] at h
 clear e
 cases hb:yJ (bts s) with
 | true=>
   rw [hb] at h
   have h0:1<=s.size:=by
    rcases Nat.eq_zero_or_pos s.size with h1 | h1
    . have:bts s=[]:=List.eq_nil_of_length_eq_zero (by rw [zm];exact h1)
      rw [this] at hb;cases hb
    . exact h1
   have HB:=ze hb;clear hb
   go_enter Tryz.func170,Tryz.ntmps170
   go_wp2_with fail;refine (h _).mono ?_;rintro e w' ⟨rfl,rfl⟩;go_wp2;go_ret;exact ⟨_,rfl,zn6 s HB.out,rfl⟩
 | false=>
   rw [hb] at h;have HB:=ze hb;clear hb
   go_enter Tryz.func170,Tryz.ntmps170
   go_wp2_with fail;refine (h _).mono ?_;rintro e w' ⟨rfl,rfl⟩;go_wp2;go_ret;exact ⟨_,rfl,(Yf HB.out).symm,rfl⟩
theorem zf7 (s:ByteArray) (w:World) (hs:s.size<=1073741824):
 Calls Tryz.prog 155 #[.string s,.string ⟨#[45]⟩] w (zh6 w s):=by
 have h:=fun w=>zdb s w hs
 go_enter Tryz.func155,Tryz.ntmps155
 go_wp2_with fail
 refine (h _).mono ?_
 rintro e w' ⟨u,rfl,hu,rfl⟩
 have HU:=ze hu
 clear hu
 go_wp2
 go_ret
 exact ⟨u,rfl,HU.out,rfl⟩
end Go.Proofs.YtacfcmdlgebhgaaGreat
namespace Go.Proofs.YtacfcmdlgebhgaaGreat
def YE (l:List Bool):Nat:=l.count false
theorem zg1 {l:List Bool} {k:Nat} (hk:k<l.length):YE (l.set k true)+(if l[k]=false then 1 else 0)=YE l:=by
 unfold YE
 induction l generalizing k with
 | nil=>simp at hk
 | cons b l ih=>
   cases k with
   | zero=>cases b<;>simp [List.count_cons]
   | succ k=>
     have:=ih (k:=k) (by simpa using hk);simp only [List.set_cons_succ,List.count_cons,List.getElem_cons_succ]
     omega
def both (l:List Bool) (a b:Nat):List Bool:=(l.set a true).set b true
theorem zmq (l:List Bool) (a b:Nat):(both l a b).length=l.length:=by simp [both]
theorem zeo {l:List Bool} {a b:Nat} (ha:a<l.length) (hb:b<l.length) (h:l[a]≠l[b]):YE (both l a b)+1=YE l:=by
 have hab:a≠b:=by intro e;subst e;exact h rfl
 have h1:=zg1 ha
 have h2:=zg1 (l:=l.set a true) (k:=b) (by simpa using hb)
 rw [List.getElem_set_ne hab] at h2
 unfold both
 cases ea:l[a]<;>cases eb:l[b]<;>simp [ea,eb] at h h1 h2 |- <;>omega
theorem zvm {l:List Bool} {a b k:Nat} (h:(both l a b)[k]?=some true):l[k]?=some true\/(k=a/\a<l.length)\/(k=b/\b<l.length):=by
 unfold both at h
 rw [List.getElem?_set] at h
 by_cases hb:b=k
 . subst hb
   rw [if_pos rfl] at h;simp only [List.length_set] at h
   by_cases hl:b<l.length
   . exact .inr (.inr ⟨rfl,hl⟩)
   rw [if_neg hl] at h;cases h
 rw [if_neg hb,List.getElem?_set] at h
 by_cases ha:a=k
 rotate_left
 . rw [if_neg ha] at h;exact .inl h
 subst ha
 rw [if_pos rfl] at h
 by_cases hl:a<l.length
 . exact .inr (.inl ⟨rfl,hl⟩)
 rw [if_neg hl] at h;cases h
theorem zr6 {l:List Bool} {a b k:Nat} (h:l[k]?=some true):(both l a b)[k]?=some true:=by
 have hk:k<l.length:=by
  rcases Nat.lt_or_ge k l.length with h1 | h1
  . exact h1
  . rw [List.getElem?_eq_none h1] at h;cases h
 unfold both
 rw [List.getElem?_set,List.getElem?_set]
 simp only [List.length_set]
 by_cases hb:b=k
 . subst hb;simp [hk]
 rw [if_neg hb]
 by_cases ha:a=k
 . subst ha;simp [hk]
 rw [if_neg ha];exact h
def Net.Ends (n:Net):Prop:=∀ i (h:i<n.pipes.length),n.pipes[i].from_=(n.pf i:Int)/\n.pf i<n.nodes.length/\n.pipes[i].to_=(n.pt i:Int)/\n.pt i<n.nodes.length
structure YG (n:Net) (S:Nat->Prop) (l:List Bool):Prop where
 len:l.length=n.nodes.length
 base:∀ k,S k->l[k]?=some true
 sound:∀ k,l[k]?=some true->xg n.pipes.length n.pf n.pt S k
theorem YG.both {n:Net} {S:Nat->Prop} {l:List Bool} {i:Nat} (h:YG n S l) (hi:i<n.pipes.length) (ha:n.pf i<l.length) (hb:n.pt i<l.length) (hne:l[n.pf i]≠l[n.pt i]):YG n S (both l (n.pf i) (n.pt i)):=by
 refine ⟨by rw [zmq];exact h.len,fun k hk=>zr6 (h.base k hk),fun k hk=>?_⟩
 rcases zvm hk with h1 | ⟨rfl,_⟩ | ⟨rfl,_⟩
 . exact h.sound k h1
 . cases e:l[n.pf i] with
   | true=>exact h.sound _ (by rw [List.getElem?_eq_getElem ha,e])
   | false=>
     have e2:l[n.pt i]=true:=by cases e3:l[n.pt i]<;>simp_all
     exact .left hi (h.sound _ (by rw [List.getElem?_eq_getElem hb,e2]))
 . cases e:l[n.pt i] with
   | true=>exact h.sound _ (by rw [List.getElem?_eq_getElem hb,e])
   | false=>
     have e2:l[n.pf i]=true:=by cases e3:l[n.pf i]<;>simp_all
     exact .right hi (h.sound _ (by rw [List.getElem?_eq_getElem ha,e2]))
structure zde (n:Net) (S:Nat->Prop) (l:List Bool):Prop where
 len:l.length=n.nodes.length
 iff:∀ k,l[k]?=some true↔xg n.pipes.length n.pf n.pt S k
theorem YG.done {n:Net} {S:Nat->Prop} {l:List Bool} (h:YG n S l) (hc:∀ i,i<n.pipes.length->l[n.pf i]?=l[n.pt i]?):zde n S l:=by
 refine ⟨h.len,fun k=>⟨h.sound k,fun hj=>?_⟩⟩
 induction hj with
 | base hs=>exact h.base _ hs
 | right hi _ ih=>rw [<- hc _ hi];exact ih
 | left hi _ ih=>rw [hc _ hi];exact ih
theorem YG.start {n:Net} {l:List Bool} (hl:l.length=n.nodes.length):YG n (fun k=>l[k]?=some true) l:=⟨hl,fun _ h=>h,fun _ h=>.base h⟩
theorem xg.mono {np:Nat} {pf pt:Nat->Nat} {S T:Nat->Prop} (h:∀ k,S k->T k) {k:Nat} (hj:xg np pf pt S k):xg np pf pt T k:=by
 induction hj with
 | base hs=>exact .base (h _ hs)
 | right hi _ ih=>exact .right hi ih
 | left hi _ ih=>exact .left hi ih
theorem zde.all {n:Net} {S T:Nat->Prop} {l:List Bool} (h:zde n S l) (hST:∀ k,S k↔(k<n.nodes.length/\T k)) (hT:∀ k,T k->k<n.nodes.length):
 (∀ j (hj:j<l.length),l[j]=true)↔∀ k,k<n.nodes.length->xg n.pipes.length n.pf n.pt T k:=by
 constructor
 rotate_left
 . intro ha j hj
   have:=(h.iff j).2 ((ha j (by rw [<- h.len];exact hj)).mono fun i hi=>(hST i).2 ⟨hT i hi,hi⟩);rw [List.getElem?_eq_getElem hj] at this;injection this
 intro ha k hk
 have hk2:k<l.length:=by rw [h.len];exact hk
 have:=(h.iff k).1 (by rw [List.getElem?_eq_getElem hk2,ha k hk2]);exact this.mono fun j hj=>((hST j).1 hj).2
namespace Net
variable {n:Net}
def P1 (n:Net):Prop:=¬ 24<n.nodes.length/\¬ n.nodes.length=0
def P2 (n:Net):Prop:=n.P1/\zW n.nodes.length n.nodeErr=0
def P3 (n:Net):Prop:=n.P2/\¬ 48<n.pipes.length/\zW n.pipes.length n.pipeErr=0
def P4 (n:Net):Prop:=n.P3/\zW n.heads.length (n.levelErr n.heads)=0
def P5 (n:Net):Prop:=n.P4/\zW n.wells.length n.wellErr=0
theorem err_many (h:24<n.nodes.length):n.err=3:=by unfold err;rw [if_pos h]
theorem err_none (h:n.nodes.length=0):n.err=1:=by unfold err;rw [if_neg (by omega),if_pos h]
theorem err_node (h:n.P1) {k:Nat} {e:Int} (hk:k<n.nodes.length) (h0:∀ j,j<k->n.nodeErr j=0) (h1:n.nodeErr k=e) (he:e≠0):n.err=e:=by
 have hf:=xO hk h0 (by rw [h1];exact he)
 unfold err;rw [if_neg h.1,if_neg h.2,if_pos (by rw [hf,h1];exact he),hf,h1]
theorem P1.next (h:n.P1) (h0:∀ j,j<n.nodes.length->n.nodeErr j=0):n.P2:=⟨h,zN.2 h0⟩
theorem err_pipes (h:n.P2) (h1:48<n.pipes.length):n.err=3:=by
 unfold err;rw [if_neg h.1.1,if_neg h.1.2,if_neg (by rw [h.2];decide),if_pos h1]
theorem err_pipe (h:n.P2) (h2:¬ 48<n.pipes.length) {k:Nat} {e:Int} (hk:k<n.pipes.length) (h0:∀ j,j<k->n.pipeErr j=0) (h1:n.pipeErr k=e) (he:e≠0):n.err=e:=by
 have hf:=xO hk h0 (by rw [h1];exact he)
 unfold err;rw [if_neg h.1.1,if_neg h.1.2,if_neg (by rw [h.2];decide),if_neg h2,if_pos (by rw [hf,h1];exact he),hf,h1]
theorem P2.next (h:n.P2) (h2:¬ 48<n.pipes.length) (h0:∀ j,j<n.pipes.length->n.pipeErr j=0):n.P3:=⟨h,h2,zN.2 h0⟩
theorem err_heads (h:n.P3) {e:Int} (h1:zW n.heads.length (n.levelErr n.heads)=e) (he:e≠0):n.err=e:=by
 unfold err;rw [if_neg h.1.1.1,if_neg h.1.1.2,if_neg (by rw [h.1.2];decide),if_neg h.2.1,if_neg (by rw [h.2.2];decide),if_pos (by rw [h1];exact he),h1]
theorem err_well (h:n.P4) {k:Nat} {e:Int} (hk:k<n.wells.length) (h0:∀ j,j<k->n.wellErr j=0) (h1:n.wellErr k=e) (he:e≠0):n.err=e:=by
 have hf:=xO hk h0 (by rw [h1];exact he)
 unfold err;rw [if_neg h.1.1.1.1,if_neg h.1.1.1.2,if_neg (by rw [h.1.1.2];decide),if_neg h.1.2.1,if_neg (by rw [h.1.2.2];decide),if_neg (by rw [h.2];decide),if_pos (by rw [hf,h1];exact he),hf,h1]
theorem P4.next (h:n.P4) (h0:∀ j,j<n.wells.length->n.wellErr j=0):n.P5:=⟨h,zN.2 h0⟩
theorem err_end (h:n.P5):(¬ (∀ k,k<n.nodes.length->xg n.pipes.length n.pf n.pt (on n.heads) k)->n.err=9)/\((∀ k,k<n.nodes.length->xg n.pipes.length n.pf n.pt (on n.heads) k)->n.err=0):=by
 have e:n.err=(open Classical in if ∀ k,k<n.nodes.length->xg n.pipes.length n.pf n.pt (on n.heads) k then 0 else 9):=by
  unfold err;rw [if_neg h.1.1.1.1.1,if_neg h.1.1.1.1.2,if_neg (by rw [h.1.1.1.2];decide),if_neg h.1.1.2.1,if_neg (by rw [h.1.1.2.2];decide),if_neg (by rw [h.1.2];decide),if_neg (by rw [h.2];decide)]
 constructor
 . intro h1;rw [e,if_neg h1]
 intro h1;rw [e,if_pos h1]
theorem pipe_ends {i:Nat} (h0:n.pipeErr i=0):0<=(n.pipes.getD i default).from_/\(n.pipes.getD i default).from_<n.nodes.length/\0<=(n.pipes.getD i default).to_/\(n.pipes.getD i default).to_<n.nodes.length/\
 (n.pipes.getD i default).from_≠(n.pipes.getD i default).to_/\zY (n.pipes.getD i default).low=0/\zY (n.pipes.getD i default).high=0/\¬ vS (n.pipes.getD i default).low<=0/\¬ vS (n.pipes.getD i default).high<vS (n.pipes.getD i default).low:=by
 unfold pipeErr at h0
 simp only at h0
 generalize n.pipes.getD i default=p at h0 |-
 split at h0
 . cases h0
 split at h0
 . cases h0
 split at h0
 . cases h0
 split at h0
 . cases h0
 split at h0
 . next h=>exact absurd h0 h
 split at h0
 . next h=>exact absurd h0 h
 split at h0
 . cases h0
 next h1 h2 h3 h4 h5 h6 h7=>
  rw [not_or] at h7
  exact ⟨by omega,by omega,by omega,by omega,h4,Classical.not_not.1 h5,Classical.not_not.1 h6,h7.1,h7.2⟩
theorem P3.ends (h:n.P3):n.Ends:=by
 intro i hi
 have h0:=pipe_ends (zN.1 h.2.2 i hi)
 have e:n.pipes.getD i default=n.pipes[i]:=by simp [List.getD,List.getElem?_eq_getElem hi]
 rw [e] at h0
 unfold pf pt
 rw [e]
 exact ⟨by omega,by omega,by omega,by omega⟩
theorem level_ok {l:List yU} {i:Nat} (h0:n.levelErr l i=0) (hi:i<l.length):0<=l[i].node/\l[i].node<n.nodes.length/\zY l[i].value=0/\¬ l[i].node∈(l.take i).map (·.node):=by
 unfold levelErr at h0
 have e:l.getD i default=l[i]:=by simp [List.getD,List.getElem?_eq_getElem hi]
 rw [e] at h0
 simp only at h0
 split at h0
 . cases h0
 split at h0
 . cases h0
 next h1 h2=>exact ⟨by omega,by omega,h0,h2⟩
theorem zuj {l:List UInt8} (h:zY l=0):(zp l).isSome=true:=by
 obtain ⟨q,h1,_⟩:=vF h
 rw [h1];rfl
theorem zhd {l:List yU} {k j:Nat} (h:j<k):n.levelErr (l.take k) j=n.levelErr l j:=by
 unfold levelErr
 have e:(l.take k).getD j default=l.getD j default:=by simp [List.getD,List.getElem?_take,h]
 have e2:(l.take k).take j=l.take j:=by rw [List.take_take,Nat.min_eq_left (by omega)]
 simp only [e,e2]
theorem zf0 {m:Nat} {f g:Nat->Int} (h:∀ k,k<m->f k=g k):zW m f=zW m g:=by
 induction m with
 | zero=>rfl
 | succ m ih=>
   unfold zW;rw [ih fun k hk=>h k (by omega),h m (by omega)]
theorem levels_take {l:List yU} {k:Nat} (hk:k<l.length) (h0:∀ j,j<k->n.levelErr l j=0):zW (l.take (k+1)).length (n.levelErr (l.take (k+1)))=n.levelErr l k:=by
 rw [List.length_take,Nat.min_eq_left (by omega),zf0 (g:=n.levelErr l) (fun j hj=>zhd hj)]
 unfold zW
 rw [if_pos (zN.2 h0)]
theorem wellErr_ok {i:Nat} (h:n.wellErr i=0):n.levelErr n.wells i=0/\¬ (n.wells.getD i default).node∈n.heads.map (·.node):=by
 unfold wellErr at h
 split at h
 . next h1=>exact absurd h h1
 next h1=>
 split at h
 . cases h
 next h2=>exact ⟨Classical.not_not.1 h1,h2⟩
theorem find_isSome {l:List yU} {z:Int}:(l.find? (fun v=>v.node == z)).isSome=true↔z∈l.map (·.node):=by
 rw [List.find?_isSome,List.mem_map]
 constructor
 . rintro ⟨x,hx,h⟩;exact ⟨x,hx,by simpa using h⟩
 rintro ⟨x,hx,h⟩;exact ⟨x,hx,by simpa using h⟩
theorem heads_read (h:n.P4):∀ v∈n.heads,(zp v.value).isSome=true:=by
 intro v hv
 obtain ⟨i,hi,rfl⟩:=List.mem_iff_getElem.1 hv
 exact zuj (level_ok (zN.1 h.2 i hi) hi).2.2.1
theorem on_lt (h:n.P4):∀ k,on n.heads k->k<n.nodes.length:=by
 rintro k ⟨v,hv,e⟩
 obtain ⟨i,hi,rfl⟩:=List.mem_iff_getElem.1 hv
 have:=(level_ok (zN.1 h.2 i hi) hi).2.1
 omega
end Net
def yT (l:List yU) (N k:Nat):List Bool:=(List.range N).map fun (j:Nat)=>decide ((j:Int)∈(l.take k).map (·.node))
theorem xp (l:List yU) (N k:Nat):(yT l N k).length=N:=by simp [yT]
theorem ze3 (l:List yU) (N:Nat):yT l N 0=List.replicate N false:=by
 apply List.ext_getElem
 . simp [yT]
 intro i h1 h2;simp [yT]
theorem zfi {l:List yU} {N k a:Nat} (hk:k<l.length) (ha:l[k].node=(a:Int)):(yT l N k).set a true=yT l N (k+1):=by
 apply List.ext_getElem
 . simp [yT]
 intro i h1 h2
 rw [List.getElem_set];simp only [yT,List.getElem_map,List.getElem_range];rw [List.take_succ_eq_append_getElem hk,List.map_append,List.map_cons,List.map_nil,ha]
 by_cases h:a=i
 . subst h;simp
 have h3:¬ (i:Int)=(a:Int):=by omega
 simp [h,h3]
theorem zf4 {l:List yU} {N:Nat} {k:Nat}:(yT l N l.length)[k]?=some true↔k<N/\Net.on l k:=by
 unfold yT Net.on
 rw [List.take_length]
 rcases Nat.lt_or_ge k N with h | h
 . rw [List.getElem?_map,List.getElem?_range h]
   simp only [Option.map_some,Option.some.injEq,decide_eq_true_eq,List.mem_map]
   constructor
   . rintro ⟨v,hv,e⟩;exact ⟨h,v,hv,e⟩
   rintro ⟨_,v,hv,e⟩;exact ⟨v,hv,e⟩
 . rw [List.getElem?_eq_none (by simp;omega)]
   constructor
   . intro h2;cases h2
   rintro ⟨h2,_⟩;omega
end Go.Proofs.YtacfcmdlgebhgaaGreat
