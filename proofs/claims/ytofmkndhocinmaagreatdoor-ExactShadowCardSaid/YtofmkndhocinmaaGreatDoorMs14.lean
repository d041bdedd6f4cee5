/- Parts of the proof. -/
import Derived.Lib.Bytealg
import Derived.Lib.Index
import Derived.Test.YtofmkndhocinmaaGreatDoorMs10
set_option linter.all false
set_option maxRecDepth 100000
namespace Go.Proofs.YtofmkndhocinmaaGreatDoor
open Proofs.Tryz Go.RowKit Go.Deep
abbrev str (l:List UInt8):Value:=.string ⟨l.toArray⟩
theorem zlw (s:ByteArray):str (bts s)= .string s:=by unfold bts;rfl
theorem xf (l:List UInt8):bts ⟨l.toArray⟩=l:=by unfold bts;simp
theorem XO {l:List UInt8} {c:UInt8} (h:has c l=true):Lib.indexByte l c=((ahead c l).length:Int):=by
 induction l with
 | nil=>simp [has] at h
 | cons b l ih=>
   unfold Lib.indexByte ahead
   by_cases hb:b=c
   . subst hb;simp
   have j :has c l=true:=by
    unfold has at h |-;simp only [List.contains_cons,Bool.or_eq_true,beq_iff_eq] at h
    rcases h with h | h
    . exact absurd h.symm hb
    . exact h
   have:=ih j;have m:(b == c)=false:=by simpa using hb
   have r:(b != c)=true:=by simpa using hb
   rw [m,List.takeWhile_cons_of_pos (by simpa using hb),this];unfold ahead;have e:(((List.takeWhile (fun x=>x != c) l).length:Int) == -1)=false:=by rw [beq_eq_false_iff_ne];omega
   rw [e]
   simp
theorem zf7 {l:List UInt8} {c:UInt8} (h:has c l=false):Lib.indexByte l c= -1:=by
 induction l with
 | nil=>rfl
 | cons b l ih=>
   unfold has at h;simp only [List.contains_cons,Bool.or_eq_false_iff,beq_eq_false_iff_ne] at h;unfold Lib.indexByte;have j:(b == c)=false:=by rw [beq_eq_false_iff_ne];exact fun e=>h.1 e.symm
   rw [j,ih h.2];rfl
theorem zjz (s:ByteArray) (c:Int) (w:World):
 Calls prog 149 #[.string s,.int .u8 c] w (zal w (.int .i64 (Lib.indexByte s.data.toList c.toNat.toUInt8))):=by
 go_in
 go_wp2
 rw [run_callFunc_extern func166 (by kernel_rfl) (by kernel_rfl) (by kernel_rfl) (e:=Extern.BytealgIndexByte.indexByte) (by kernel_rfl),Lib.run_indexByteString]
 simp only [Result.andThen]
 rw [Oper.upon_value]
 go_wp2
 go_ret
 exact ⟨rfl,rfl⟩
theorem zfp (s:ByteArray) (c:UInt8) (w:World):
 Calls prog 128 #[.string s,.string ⟨#[c]⟩] w (zal w (.int .i64 (Lib.indexByte s.data.toList c))):=by
 have h:=fun w=>zjz s (c.toNat:Int) w
 have e:((c.toNat:Int)).toNat.toUInt8=c:=by simp
 simp only [e] at h
 cases hb:([c] == s.toList) with
 | true=>
   have j:s.data.toList=[c]:=by
    have:=beq_iff_eq.1 hb;rw [<- Lib.toList_data];exact this.symm
   have b:Lib.indexByte s.data.toList c=0:=by rw [j];simp [Lib.indexByte]
   rw [b];clear j b h
   go_in
   go_wp2;go_ret;exact ⟨rfl,rfl⟩
 | false=>
   go_in
   go_wp2_with fail;refine (h _).mono ?_;rintro e w' ⟨rfl,rfl⟩;go_wp2;go_ret;exact ⟨rfl,rfl⟩
def zir (w:World) (s:ByteArray) (c:UInt8) (e:Ending) (w' :World):Prop:=
 ∃ a b,e= .returned (.tuple #[.string a,.string b,.bool (has c (bts s))])/\bts a=ahead c (bts s)/\bts b=(if has c (bts s)=true then yy c (bts s) else [])/\∃ n,w' =w.drewN n
theorem zgl {s:ByteArray} {c:UInt8} (h:has c (bts s)=true):(ahead c (bts s)).length<s.size/\bts (s.extract 0 (ahead c (bts s)).length)=ahead c (bts s)/\bts (s.extract ((ahead c (bts s)).length+1) s.size)=yy c (bts s):=by
 have e:=zoe h
 have b:(bts s).length=(ahead c (bts s)).length+1+(yy c (bts s)).length:=by
  conv=>lhs;rw [e]
  rw [List.length_append,List.length_cons];omega
 rw [zq] at b
 refine ⟨by omega,?_,?_⟩
 . rw [Ya,List.drop_zero]
   generalize ahead c (bts s)=A at e;rw [e,List.take_append_of_le_length (uA),List.take_length]
 rw [Ya,uJ (by rw [zq];exact uA)]
 generalize ahead c (bts s)=A at e;generalize yy c (bts s)=B at e;rw [e,List.drop_append]
 simp
theorem zn4 (s:ByteArray) (c:UInt8) (w:World) (hs:s.size<=1073741824):
 Calls prog 92 #[.string s,.string ⟨#[c]⟩] w (zir w s c):=by
 have j:=fun w=>zfp s c w
 by_cases b:has c (bts s)=true
 rotate_left
 . have l :has c (bts s)=false:=by simpa using b
   have hi:Lib.indexByte s.data.toList c= -1:=zf7 l;rw [hi] at j
   have m:Hid (zir w s c (.returned (.tuple #[.string s,.string ⟨#[]⟩,.bool false])) w):=
    ⟨_,_,by rw [l],(V7 l).symm,by rw [if_neg b];rfl,0,rfl⟩
   clear hi b l
   go_in
   go_wp2_with fail;refine (j _).mono ?_;rintro e w' ⟨rfl,rfl⟩;go_wp2;go_ret3;exact m.o
 obtain ⟨y,r,u⟩:=zgl b
 have hi:Lib.indexByte s.data.toList c=((ahead c (bts s)).length:Int):=XO b;rw [hi] at j
 have m:Hid (∀ n:Nat,zir w s c (.returned (.tuple #[.string (s.extract 0 (ahead c (bts s)).length),.string (s.extract ((ahead c (bts s)).length+1) s.size),.bool true])) (w.drewN n)):=by
  intro n;exact ⟨_,_,by rw [b],r,by rw [if_pos b];exact u,n,rfl⟩
 clear hi r u b;generalize (ahead c (bts s)).length=k at y j m
 go_in
 go_wp2_with fail;refine (j _).mono ?_;rintro e w' ⟨rfl,rfl⟩;go_wp2
 go_quiet (fail)
 go_wp2;go_ret3;exact m.o _
theorem zsv (s:ByteArray) (c:UInt8) (w:World) (hs:s.size<=1073741824):
 Calls prog 60 #[.string s,.string ⟨#[c]⟩] w (zir w s c):=by
 have h:=fun w=>zn4 s c w hs
 go_in
 go_wp2_with fail
 refine (h _).mono ?_
 rintro e w' ⟨a,b,rfl,j,hb,n,rfl⟩
 have m:=ze j
 have l:=ze hb
 clear j hb
 go_wp2
 go_ret3
 exact ⟨a,b,rfl,m.o,l.o,n,rfl⟩
theorem zkm (s:ByteArray) (c:UInt8) (w:World) (hs:s.size<=1073741824):
 Calls prog 127 #[.string s,.string ⟨#[c]⟩] w (zal w (.bool ((bts s).head? == some c))):=by
 by_cases u:1<=s.size
 rotate_left
 . have e:((bts s).head? == some c)=false:=by
    have:bts s=[]:=uI (by rw [zq];omega);rw [this];rfl
   rw [e];have m:decide (1<=(s.size:Int))=false:=uF (by omega);clear e
   go_in
   go_wp2;go_ret;exact ⟨rfl,rfl⟩
 have m:decide (1<=(s.size:Int))=true:=uE (by omega)
 have e:((s.extract 0 1).toList == [c])=((bts s).head? == some c):=by
  rw [Lib.toList_data]
  have r:(s.extract 0 1).data.toList=(bts s).take 1:=by
   have:=Ya s 0 1;rw [List.drop_zero] at this;exact this
  rw [r]
  cases hl:bts s with
  | nil=>have:=zq s;rw [hl] at this;simp at this;omega
  | cons b l=>simp
 have j:=ze e;clear e;generalize hb:((bts s).head? == some c)=b at j;clear hb
 cases hx:((s.extract 0 1).toList == [c]) with
 | true=>
   have hb:b=true:=by rw [<- hx];exact j.o.symm
   subst hb;clear j
   go_in
   go_wp2;go_ret;exact ⟨rfl,rfl⟩
 | false=>
   have hb:b=false:=by rw [<- hx];exact j.o.symm
   subst hb;clear j
   go_in
   go_wp2;go_ret;exact ⟨rfl,rfl⟩
def zjc (w:World) (s:ByteArray) (e:Ending) (w' :World):Prop:=∃ u,e= .returned (.tuple #[.string u,.bool (xy (bts s))])/\bts u=zp (bts s)/\w=w'
theorem zpq (s:ByteArray) (h:xy (bts s)=true):bts (s.extract 1 s.size)=zp (bts s):=by
 unfold zp
 rw [if_pos h,Ya,uJ (by rw [zq];exact uA)]
 simp
theorem za7 (s:ByteArray) (w:World) (hs:s.size<=1073741824):
 Calls prog 91 #[.string s,.string ⟨#[45]⟩] w (zjc w s):=by
 have h:=fun w=>zkm s 45 w hs
 have e:((bts s).head? == some 45)=xy (bts s):=rfl
 rw [e] at h
 clear e
 cases hb:xy (bts s) with
 | true=>
   rw [hb] at h
   have l:1<=s.size:=by
    rcases uN s.size with b | b
    . have:bts s=[]:=uI (by rw [zq];exact b)
      rw [this] at hb;cases hb
    . exact b
   have j:=ze (show zjc w s (.returned (.tuple #[.string (s.extract 1 s.size),.bool true])) w from ⟨_,by rw [hb],zpq s hb,rfl⟩);clear hb
   go_in
   go_wp2_with fail;refine (h _).mono ?_;rintro e w' ⟨rfl,rfl⟩;go_wp2;go_ret2;exact j.o
 | false=>
   rw [hb] at h;have j:=ze (show zjc w s (.returned (.tuple #[.string s,.bool false])) w from ⟨_,by rw [hb],(Xk hb).symm,rfl⟩);clear hb
   go_in
   go_wp2_with fail;refine (h _).mono ?_;rintro e w' ⟨rfl,rfl⟩;go_wp2;go_ret2;exact j.o
theorem zeb (s:ByteArray) (w:World) (hs:s.size<=1073741824):
 Calls prog 59 #[.string s,.string ⟨#[45]⟩] w (zjc w s):=by
 have h:=fun w=>za7 s w hs
 go_in
 go_wp2_with fail
 refine (h _).mono ?_
 rintro e w' ⟨u,rfl,hu,rfl⟩
 have b:=ze hu
 clear hu
 go_wp2
 go_ret2
 exact ⟨u,rfl,b.o,rfl⟩
theorem yB {a b:Bool} (h:a=b):Ending.returned (.bool b)= .returned (.bool a):=by rw [h]
theorem zrz {c:UInt8} (h:xZ c=false):c.toNat<48\/57<c.toNat:=by
 unfold xZ at h
 simp at h
 omega
theorem zgm {s:ByteArray} {k:Nat} (hk:k<s.size) (h:xZ s[k]=false):ZE (bts s)=false:=by
 unfold ZE
 have:(bts s).all xZ=false:=by
  rw [List.all_eq_false]
  exact ⟨s[k],by rw [<- XC s k hk];exact uO _,by rw [h];simp⟩
 rw [this];rfl
theorem zj3 (s:ByteArray) (w:World) (hs:s.size<=1073741824):
 Calls prog 93 #[.string s] w (zal w (.bool (ZE (bts s)))):=by
 go_in
 go_wp2
 go_loop [6] (fun iv=>∃ k:Nat,k<=s.size/\iv= .int .i64 k/\Hid (∀ j (h:j<s.size),j<k->xZ s[j]=true)) (fun iv=>s.size - (intOf iv).toNat)
 case atStart=>exact ⟨0,uB,rfl,fun j _ h=>by omega⟩
 case round=>
  obtain ⟨k,F,rfl,y⟩:=hrel
  by_cases B:k<s.size
  rotate_left
  . obtain rfl:k=s.size:=by omega
    have m:(bts s).all xZ=true:=by
     rw [List.all_eq_true];intro c E;obtain ⟨j,b,rfl⟩:=List.mem_iff_getElem.1 E;rw [zq] at b;rw [XC s j b];exact y.o j b b
    have e:=ze (show ZE (bts s)= !((s.toList).isEmpty) by unfold ZE;rw [m,Lib.toList_data];rfl);clear m
    cases hb:(s.toList).isEmpty with
    | true=>
      have l:=ze (e.o.trans (by rw [hb];rfl:_=false));have G:s.toList=[]:=by simpa using hb
      clear e;go_wp2;go_ret;exact ⟨yB l.o,rfl⟩
    | false=>
      have l:=ze (e.o.trans (by rw [hb];rfl:_=true));clear e;go_wp2;go_ret;exact ⟨yB l.o,rfl⟩
  cases hd:xZ s[k] with
  | true=>
    obtain ⟨r,C⟩:=Xe hd;have D:=ze hd;clear hd;go_wp2;go_round
    case rel=>
     refine ⟨k+1,by omega,by go_num,?_⟩;intro j b I
     rcases uL j k with u | u
     . exact y.o j b u
     . obtain rfl:j=k:=by omega
       exact D.o
    case measure=>simp [intOf];omega
  | false=>
    have z:=ze (zgm B hd)
    rcases zrz hd with r | r
    . clear hd
      go_wp2;go_ret;exact ⟨yB z.o,rfl⟩
    . have C:¬ s[k].toNat<48:=by omega
      clear hd;go_wp2;go_ret;exact ⟨yB z.o,rfl⟩
theorem zp2 (s:ByteArray) (h:0<s.size):(bts s).head?=some s[0]:=by
 rw [List.head?_eq_getElem?,List.getElem?_eq_getElem (by rw [zq];exact h)]
 rfl
theorem zf4 (s:ByteArray) (w:World) (hs:s.size<=1073741824):
 Calls prog 61 #[.string s] w (zal w (.bool (yc (bts s)))):=by
 have h:=fun w=>zj3 s w hs
 cases hd:ZE (bts s) with
 | false=>
   rw [hd] at h;have b:=ze (show yc (bts s)=false by unfold yc;rw [hd];rfl);clear hd
   go_in
   go_wp2_with fail;refine (h _).mono ?_;rintro e w' ⟨rfl,rfl⟩;go_wp2;go_ret;exact ⟨yB b.o,rfl⟩
 | true=>
   rw [hd] at h
   have y:0<s.size:=by
    unfold ZE at hd;rw [Bool.and_eq_true] at hd
    rcases uN s.size with l | l
    . have:bts s=[]:=uI (by rw [zq];exact l)
      rw [this] at hd;simp at hd
    . exact l
   have u:yc (bts s)=((((s[0].toNat:Int) != 48) || ((s.size:Int) == 1)) && decide ((s.size:Int)<=50000)):=by
    unfold yc;rw [hd,zp2 s y,zq,Bool.true_and]
    congr 1
    rotate_left
    . rw [Bool.eq_iff_iff,decide_eq_true_iff,decide_eq_true_iff];omega
    congr 1
    rotate_left
    . rw [Bool.eq_iff_iff,beq_iff_eq,beq_iff_eq];omega
    rw [Bool.eq_iff_iff,bne_iff_ne,bne_iff_ne]
    constructor
    . intro l m;apply l;congr 1;apply UInt8.toNat_inj.1;have:(48:UInt8).toNat=48:=rfl;omega
    intro l m;apply l;injection m with m;rw [m];rfl
   have b:=ze u;clear u hd
   cases b1:((s[0].toNat:Int) != 48) with
   | true=>
     cases r:decide ((s.size:Int)<=50000) with
     | true=>
       have j:=ze (show yc (bts s)=true by rw [b.o,b1,r];rfl);clear b
       go_in
       go_wp2_with fail;refine (h _).mono ?_;rintro e w' ⟨rfl,rfl⟩;go_wp2;go_ret;exact ⟨yB j.o,rfl⟩
     | false=>
       have j:=ze (show yc (bts s)=false by rw [b.o,b1,r];rfl);clear b
       go_in
       go_wp2_with fail;refine (h _).mono ?_;rintro e w' ⟨rfl,rfl⟩;go_wp2;go_ret;exact ⟨yB j.o,rfl⟩
   | false=>
     cases b2:((s.size:Int) == 1) with
     | true=>
       have r:decide ((s.size:Int)<=50000)=true:=uE (by have:=beq_iff_eq.1 b2;omega);have j:=ze (show yc (bts s)=true by rw [b.o,b1,b2,r];rfl);clear b
       go_in
       go_wp2_with fail;refine (h _).mono ?_;rintro e w' ⟨rfl,rfl⟩;go_wp2;go_ret;exact ⟨yB j.o,rfl⟩
     | false=>
       have j:=ze (show yc (bts s)=false by rw [b.o,b1,b2];rfl);clear b
       go_in
       go_wp2_with fail;refine (h _).mono ?_;rintro e w' ⟨rfl,rfl⟩;go_wp2;go_ret;exact ⟨yB j.o,rfl⟩
def zg9 (c:UInt8):Bool:=decide (97<=c.toNat) && decide (c.toNat<=122)
def yV (c:UInt8):Bool:=zg9 c || xZ c || c == 45
def vr (l:List UInt8):Bool:=decide (1<=l.length) && decide (l.length<=16) && zg9 (l.headD 0) && l.all yV
theorem zah {s:ByteArray} (h0:0<s.size):s.toList.isEmpty=false:=by
 rw [Bool.eq_false_iff]
 intro e
 have e:=List.isEmpty_iff.1 e
 have:=congrArg List.length e
 rw [Lib.toList_data] at this
 simp at this
 rw [this] at h0
 exact absurd h0 (by decide)
theorem Vg {c:UInt8}:zg9 c=true↔97<=c.toNat/\c.toNat<=122:=by
 unfold zg9;simp
theorem zfo {c:UInt8} (h:yV c=true):(97<=c.toNat/\c.toNat<=122)\/(48<=c.toNat/\c.toNat<=57/\c.toNat<97)\/(c.toNat=45):=by
 unfold yV at h
 simp only [Bool.or_eq_true] at h
 rcases h with (h | h) | h
 . exact .inl (Vg.1 h)
 . obtain ⟨b,e⟩:=Xe h
   exact .inr (.inl ⟨b,e,by omega⟩)
 . refine .inr (.inr ?_)
   rw [beq_iff_eq] at h;rw [h];rfl
theorem VZ {c:UInt8} (h:yV c=false):(c.toNat<48/\c.toNat≠45)\/(57<c.toNat/\c.toNat<97)\/(122<c.toNat):=by
 have j:¬ (97<=c.toNat/\c.toNat<=122):=by
  intro b
  have:=Vg.2 b
  unfold yV at h;rw [this] at h;simp at h
 have b:¬ (48<=c.toNat/\c.toNat<=57):=by
  intro b
  have:xZ c=true:=by unfold xZ;simp [b]
  unfold yV at h;rw [this] at h;simp at h
 have e:c.toNat≠45:=by
  intro e
  have:c=45:=UInt8.toNat_inj.1 e
  unfold yV at h;rw [this] at h;simp at h
 omega
theorem zfv {s:ByteArray} (h:0<s.size):(bts s).headD 0=s[0]:=by
 have b:=XC s 0 h
 rw [List.headD_eq_head?_getD,List.head?_eq_getElem?,List.getElem?_eq_getElem (by rw [zq];exact h),b];rfl
theorem zo3 {s:ByteArray} (h:0<s.size) (h1:zg9 s[0]=false):vr (bts s)=false:=by
 unfold vr;rw [zfv h,h1];simp
theorem zpf {s:ByteArray} {k:Nat} (h:k<s.size) (h1:yV s[k]=false):vr (bts s)=false:=by
 have:(bts s).all yV=false:=by
  rw [Bool.eq_false_iff]
  intro e
  have b:=List.all_eq_true.1 e ((bts s)[k]'(by rw [zq];exact h)) (uO _)
  rw [XC s k h,h1] at b;cases b
 unfold vr;rw [this];simp
theorem zoz {s:ByteArray} (h:0<s.size) (h16:s.size<=16) (h1:zg9 s[0]=true) (h2:∀ j (b:j<s.size),yV s[j]=true):vr (bts s)=true:=by
 have:(bts s).all yV=true:=by
  rw [List.all_eq_true]
  intro c e
  obtain ⟨j,b,rfl⟩:=List.mem_iff_getElem.1 e
  rw [zq] at b
  rw [XC s j b]
  exact h2 j b
 unfold vr;rw [this,zfv h,h1,zq,uE (show 1<=s.size from h),uE h16];rfl
def xq (n:Nat) (f:Nat->Int):Int:=match n with
 | 0=>0
 | n+1=>if xq n f=0 then f n else xq n f
theorem ys {n:Nat} {f:Nat->Int}:xq n f=0↔∀ k,k<n->f k=0:=by
 induction n with
 | zero=>simp [xq]
 | succ n ih=>
   unfold xq
   constructor
   rotate_left
   . intro h
     rw [if_pos (ih.2 fun k j=>h k (by omega))];exact h n (by omega)
   intro h k j
   by_cases b:xq n f=0
   rotate_left
   . rw [if_neg b] at h;exact absurd h b
   rw [if_pos b] at h
   rcases uL k n with e | e
   . exact ih.1 b k e
   . obtain rfl:k=n:=by omega
     exact h
theorem ve {n k:Nat} {f:Nat->Int} (hk:k<n) (h:∀ j,j<k->f j=0) (h0:f k≠0):xq n f=f k:=by
 induction n with
 | zero=>omega
 | succ n ih=>
   unfold xq
   rcases uL k n with b | b
   . rw [ih b,if_neg h0]
   . obtain rfl:k=n:=by omega
     rw [if_pos (ys.2 h)]
structure zm where
 name:List UInt8
 coef:List UInt8
instance:Inhabited zm:=⟨⟨[],[]⟩⟩
structure zF where
 terms:List zm
 bound:List UInt8
instance:Inhabited zF:=⟨⟨[],[]⟩⟩
def xt (l:List UInt8):Int:=match zj l with
 | none=>4
 | some q=>if yC 12 q then 0 else 3
def xF (l:List UInt8):Int:=match zj l with
 | none=>4
 | some q=>if q=0 then 1 else if yC 12 q then 0 else 3
def yH (last s:List UInt8) (first:Bool):Int:=if first=true\/last<s then 0 else if last=s then 6 else 1
def xT (l:List zm) (i:Nat):Int:=
 if vr (l.getD i default).name=false then 5
 else if xF (l.getD i default).coef≠0 then xF (l.getD i default).coef
 else yH (l.getD (i - 1) default).name (l.getD i default).name (decide (i=0))
def ya (l:List zm):Int:=xq l.length (xT l)
def yN (r:zF):Int:=if ya r.terms≠0 then ya r.terms else xt r.bound
def yt (L:List (List zm)):List (List UInt8):=L.flatMap fun l=>l.map (·.name)
def zkv:List (List UInt8)->List (List UInt8)
 | []=>[]
 | x :: l=>if x∈zkv l then zkv l else x :: zkv l
def vF (ns:List (List UInt8)):List (List UInt8):=(zkv ns).mergeSort (fun x y=>decide (x<=y))
def ye (rs:List zF) (more:List (List zm)):List (List UInt8):=vF (yt (more ++ rs.map (·.terms)))
def zY (rs:List zF):Int:=
 if 800<rs.length then 3
 else if xq rs.length (fun i=>yN (rs.getD i default))≠0 then xq rs.length (fun i=>yN (rs.getD i default))
 else if 80<(ye rs []).length then 3 else 0
def zek (l:List (List UInt8)):Prop:=l.Pairwise (· < ·)
theorem yz (a:List UInt8):¬ a<a:=List.lt_irrefl a
theorem Yz {a b c:List UInt8} (h:a<b) (h2:b<c):a<c:=List.lt_trans h h2
theorem zmr {a b:List UInt8} (h:a<b):¬ b<a:=fun h2=>yz a (Yz h h2)
theorem zhp (a b:List UInt8) (h1:¬ a<b) (h2:¬ b<a):a=b:=List.le_antisymm (List.not_lt.1 h2) (List.not_lt.1 h1)
theorem zuv {a b:List UInt8} (h:a<=b) (hn:a≠b):a<b:=by
 rcases Decidable.em (a<b) with e | e
 . exact e
 . exact absurd (zhp a b e (List.not_lt.2 h)) hn
theorem YA:∀ (l m:List (List UInt8)),zek l->zek m->(∀ x,x∈l↔x∈m)->l=m
 | [],[],_,_,_=>rfl
 | [],y :: m,_,_,h=>(by have:=(h y).2 (uP ..);cases this)
 | x :: l,[],_,_,h=>(by have:=(h x).1 (uP ..);cases this)
 | x :: l,y :: m,h1,h2,h=>by
   obtain ⟨r,b1⟩:=List.pairwise_cons.1 h1;obtain ⟨j,b2⟩:=List.pairwise_cons.1 h2
   have e:x=y:=by
    rcases List.mem_cons.1 ((h x).1 (uP ..)) with e | e
    . exact e
    . rcases List.mem_cons.1 ((h y).2 (uP ..)) with b | b
      . exact b.symm
      . exact absurd (r _ b) (zmr (j _ e))
   subst e
   rw [YA l m b1 b2 (fun z=>⟨fun hz=>by
    rcases List.mem_cons.1 ((h z).1 (List.mem_cons_of_mem _ hz)) with e | e
    . exact absurd (r _ hz) (by rw [e];exact yz _)
    . exact e,fun hz=>by
    rcases List.mem_cons.1 ((h z).2 (List.mem_cons_of_mem _ hz)) with e | e
    . exact absurd (j _ hz) (by rw [e];exact yz _)
    . exact e⟩)]
def XG (l ns:List (List UInt8)):Prop:=zek l/\∀ x,x∈l↔x∈ns
theorem X5 {ss:List (List UInt8)} (l:ss.Nodup):zek (ss.mergeSort (fun x y=>decide (x<=y))):=by
 have e:=List.pairwise_mergeSort (le:=fun x y:List UInt8=>decide (x<=y)) (fun a b c e j=>by simp only [decide_eq_true_eq] at*;exact List.le_trans e j) (fun a b=>by simp only [Bool.or_eq_true,decide_eq_true_eq];exact List.le_total a b) ss
 have j:(ss.mergeSort (fun x y=>decide (x<=y))).Nodup:=(List.mergeSort_perm ss _).nodup_iff.2 l
 unfold zek
 refine (e.and j).imp ?_
 rintro a b ⟨h,l⟩
 simp only [decide_eq_true_eq] at h
 exact zuv h l
theorem zaj:∀ (ns:List (List UInt8)) (x:List UInt8),x∈zkv ns↔x∈ns
 | [],x=>Iff.rfl
 | y :: l,x=>by
   unfold zkv
   by_cases h:y∈zkv l
   rotate_left
   . rw [if_neg h,List.mem_cons,List.mem_cons,zaj l x]
   rw [if_pos h,zaj l x,List.mem_cons]
   refine ⟨.inr,fun e=>e.elim (fun e=>?_) id⟩;rw [e];exact (zaj l y).1 h
theorem VH:∀ (ns:List (List UInt8)),(zkv ns).Nodup
 | []=>List.nodup_nil
 | y :: l=>by
   unfold zkv
   by_cases h:y∈zkv l
   . rw [if_pos h];exact VH l
   rw [if_neg h];exact List.nodup_cons.2 ⟨h,VH l⟩
theorem za9:∀ (ns:List (List UInt8)),(zkv ns).length<=ns.length
 | []=>uA
 | y :: l=>by
   have:=za9 l;unfold zkv
   by_cases h:y∈zkv l
   . rw [if_pos h,List.length_cons];omega
   rw [if_neg h,List.length_cons,List.length_cons];omega
theorem yx (ns:List (List UInt8)):XG (vF ns) ns:=
 ⟨X5 (VH ns),fun x=>by unfold vF;rw [(List.mergeSort_perm _ _).mem_iff,zaj]⟩
theorem XG.eq {l ns:List (List UInt8)} (h:XG l ns):l=vF ns:=
 YA _ _ h.1 (yx ns).1 (fun x=>(h.2 x).trans ((yx ns).2 x).symm)
theorem Yl (ns:List (List UInt8)):(vF ns).length<=ns.length:=by
 unfold vF
 rw [List.length_mergeSort]
 exact za9 ns
theorem zak:∀ {l ns:List (List UInt8)},l.Nodup->(∀ x∈l,x∈ns)->l.length<=ns.length
 | [],_,_,_=>uB
 | a :: l,ns,hn,h=>by
   rw [List.nodup_cons] at hn;have b:=h a uP;have j:=zak (l:=l) (ns:=ns.erase a) hn.2 (fun x hx=>(List.mem_erase_of_ne (fun e=>hn.1 (by rw [<- e];exact hx))).2 (h x (List.mem_cons_of_mem _ hx)));rw [List.length_erase_of_mem b] at j;have:=List.length_pos_of_mem b;rw [List.length_cons]
   omega
def ziw (l:List (List UInt8)) (F:List UInt8->Option Rat):Prop:=zek l/\∀ x,x∈l↔(F x).isSome=true
end Go.Proofs.YtofmkndhocinmaaGreatDoor
