/- Parts of the proof. -/
import Derived.Lib.Bytealg
import Derived.Lib.Index
import Derived.Test.YtobdoblpnanclaaGreatDoorMo10
set_option linter.all false
set_option maxRecDepth 100000
namespace Go.Proofs.YtobdoblpnanclaaGreatDoor
open Proofs.Tryz Go.RowKit Go.Deep
abbrev str (l:List UInt8):Value:=.string ⟨l.toArray⟩
theorem zm3 (s:ByteArray):str (bts s)= .string s:=by unfold bts;rfl
theorem yG (l:List UInt8):bts ⟨l.toArray⟩=l:=by unfold bts;simp
theorem Vp {l:List UInt8} {c:UInt8} (h:has c l=true):Lib.indexByte l c=((ahead c l).length:Int):=by
 induction l with
 | nil=>simp [has] at h
 | cons b l ih=>
   unfold Lib.indexByte ahead
   by_cases hb:b=c
   . subst hb;simp
   have j :has c l=true:=by
    unfold has at h |-;simp only [List.contains_cons,Bool.or_eq_true,beq_iff_eq] at h
    rcases h with h | h
    . exact absurd h.symm hb
    . exact h
   have:=ih j;have m:(b == c)=false:=by simpa using hb
   have r:(b != c)=true:=by simpa using hb
   rw [m,List.takeWhile_cons_of_pos (by simpa using hb),this];unfold ahead;have e:(((List.takeWhile (fun x=>x != c) l).length:Int) == -1)=false:=by rw [beq_eq_false_iff_ne];omega
   rw [e]
   simp
theorem zht {l:List UInt8} {c:UInt8} (h:has c l=false):Lib.indexByte l c= -1:=by
 induction l with
 | nil=>rfl
 | cons b l ih=>
   unfold has at h;simp only [List.contains_cons,Bool.or_eq_false_iff,beq_eq_false_iff_ne] at h;unfold Lib.indexByte;have j:(b == c)=false:=by rw [beq_eq_false_iff_ne];exact fun e=>h.1 e.symm
   rw [j,ih h.2];rfl
theorem zle (s:ByteArray) (c:Int) (w:World):
 Calls prog 136 #[.string s,.int .u8 c] w (zaw w (.int .i64 (Lib.indexByte s.data.toList c.toNat.toUInt8))):=by
 go_in
 go_wp2
 rw [run_callFunc_extern func154 (by kernel_rfl) (by kernel_rfl) (by kernel_rfl) (e:=Extern.BytealgIndexByte.indexByte) (by kernel_rfl),Lib.run_indexByteString]
 simp only [Result.andThen]
 rw [Oper.upon_value]
 go_wp2
 go_ret
 exact ⟨rfl,rfl⟩
theorem zhd (s:ByteArray) (c:UInt8) (w:World):
 Calls prog 119 #[.string s,.string ⟨#[c]⟩] w (zaw w (.int .i64 (Lib.indexByte s.data.toList c))):=by
 have h:=fun w=>zle s (c.toNat:Int) w
 have e:((c.toNat:Int)).toNat.toUInt8=c:=by simp
 simp only [e] at h
 cases hb:([c] == s.toList) with
 | true=>
   have j:s.data.toList=[c]:=by
    have:=beq_iff_eq.1 hb;rw [<- Lib.toList_data];exact this.symm
   have b:Lib.indexByte s.data.toList c=0:=by rw [j];simp [Lib.indexByte]
   rw [b];clear j b h
   go_in
   go_wp2;go_ret;exact ⟨rfl,rfl⟩
 | false=>
   go_in
   go_wp2_with fail;refine (h _).mono ?_;rintro e w' ⟨rfl,rfl⟩;go_wp2;go_ret;exact ⟨rfl,rfl⟩
def zkb (w:World) (s:ByteArray) (c:UInt8) (e:Ending) (w' :World):Prop:=
 ∃ a b,e= .returned (.tuple #[.string a,.string b,.bool (has c (bts s))])/\bts a=ahead c (bts s)/\bts b=(if has c (bts s)=true then yo c (bts s) else [])/\∃ n,w' =w.drewN n
theorem zh7 {s:ByteArray} {c:UInt8} (h:has c (bts s)=true):(ahead c (bts s)).length<s.size/\bts (s.extract 0 (ahead c (bts s)).length)=ahead c (bts s)/\bts (s.extract ((ahead c (bts s)).length+1) s.size)=yo c (bts s):=by
 have e:=zp0 h
 have hl:(bts s).length=(ahead c (bts s)).length+1+(yo c (bts s)).length:=by
  conv=>lhs;rw [e]
  rw [List.length_append,List.length_cons];omega
 rw [zt] at hl
 refine ⟨by omega,?_,?_⟩
 . rw [ZZ,List.drop_zero]
   generalize ahead c (bts s)=A at e;rw [e,List.take_append_of_le_length (uA),List.take_length]
 rw [ZZ,uJ (by rw [zt];exact uA)]
 generalize ahead c (bts s)=A at e;generalize yo c (bts s)=B at e;rw [e,List.drop_append]
 simp
theorem zpn (s:ByteArray) (c:UInt8) (w:World) (hs:s.size<=1073741824):
 Calls prog 93 #[.string s,.string ⟨#[c]⟩] w (zkb w s c):=by
 have j:=fun w=>zhd s c w
 by_cases b:has c (bts s)=true
 rotate_left
 . have l :has c (bts s)=false:=by simpa using b
   have hi:Lib.indexByte s.data.toList c= -1:=zht l;rw [hi] at j
   have m:Hid (zkb w s c (.returned (.tuple #[.string s,.string ⟨#[]⟩,.bool false])) w):=
    ⟨_,_,by rw [l],(zad l).symm,by rw [if_neg b];rfl,0,rfl⟩
   clear hi b l
   go_in
   go_wp2_with fail;refine (j _).mono ?_;rintro e w' ⟨rfl,rfl⟩;go_wp2;go_ret3;exact m.o
 obtain ⟨y,r,u⟩:=zh7 b
 have hi:Lib.indexByte s.data.toList c=((ahead c (bts s)).length:Int):=Vp b;rw [hi] at j
 have m:Hid (∀ n:Nat,zkb w s c (.returned (.tuple #[.string (s.extract 0 (ahead c (bts s)).length),.string (s.extract ((ahead c (bts s)).length+1) s.size),.bool true])) (w.drewN n)):=by
  intro n;exact ⟨_,_,by rw [b],r,by rw [if_pos b];exact u,n,rfl⟩
 clear hi r u b;generalize (ahead c (bts s)).length=k at y j m
 go_in
 go_wp2_with fail;refine (j _).mono ?_;rintro e w' ⟨rfl,rfl⟩;go_wp2
 go_quiet (fail)
 go_wp2;go_ret3;exact m.o _
theorem zuv (s:ByteArray) (c:UInt8) (w:World) (hs:s.size<=1073741824):
 Calls prog 44 #[.string s,.string ⟨#[c]⟩] w (zkb w s c):=by
 have h:=fun w=>zpn s c w hs
 go_in
 go_wp2_with fail
 refine (h _).mono ?_
 rintro e w' ⟨a,b,rfl,j,hb,n,rfl⟩
 have m:=ze j
 have l:=ze hb
 clear j hb
 go_wp2
 go_ret3
 exact ⟨a,b,rfl,m.o,l.o,n,rfl⟩
theorem zly (s:ByteArray) (c:UInt8) (w:World) (hs:s.size<=1073741824):
 Calls prog 118 #[.string s,.string ⟨#[c]⟩] w (zaw w (.bool ((bts s).head? == some c))):=by
 by_cases u:1<=s.size
 rotate_left
 . have e:((bts s).head? == some c)=false:=by
    have:bts s=[]:=uI (by rw [zt];omega);rw [this];rfl
   rw [e];have m:decide (1<=(s.size:Int))=false:=uF (by omega);clear e
   go_in
   go_wp2;go_ret;exact ⟨rfl,rfl⟩
 have m:decide (1<=(s.size:Int))=true:=uE (by omega)
 have e:((s.extract 0 1).toList == [c])=((bts s).head? == some c):=by
  rw [Lib.toList_data]
  have r:(s.extract 0 1).data.toList=(bts s).take 1:=by
   have:=ZZ s 0 1;rw [List.drop_zero] at this;exact this
  rw [r]
  cases hl:bts s with
  | nil=>have:=zt s;rw [hl] at this;simp at this;omega
  | cons b l=>simp
 have j:=ze e;clear e;generalize hb:((bts s).head? == some c)=b at j;clear hb
 cases hx:((s.extract 0 1).toList == [c]) with
 | true=>
   have hb:b=true:=by rw [<- hx];exact j.o.symm
   subst hb;clear j
   go_in
   go_wp2;go_ret;exact ⟨rfl,rfl⟩
 | false=>
   have hb:b=false:=by rw [<- hx];exact j.o.symm
   subst hb;clear j
   go_in
   go_wp2;go_ret;exact ⟨rfl,rfl⟩
def zkt (w:World) (s:ByteArray) (e:Ending) (w' :World):Prop:=∃ u,e= .returned (.tuple #[.string u,.bool (xj (bts s))])/\bts u=zq (bts s)/\w=w'
theorem zre (s:ByteArray) (h:xj (bts s)=true):bts (s.extract 1 s.size)=zq (bts s):=by
 unfold zq
 rw [if_pos h,ZZ,uJ (by rw [zt];exact uA)]
 simp
theorem zca (s:ByteArray) (w:World) (hs:s.size<=1073741824):
 Calls prog 92 #[.string s,.string ⟨#[45]⟩] w (zkt w s):=by
 have h:=fun w=>zly s 45 w hs
 have e:((bts s).head? == some 45)=xj (bts s):=rfl
 rw [e] at h
 clear e
 cases hb:xj (bts s) with
 | true=>
   rw [hb] at h
   have l:1<=s.size:=by
    rcases uN s.size with b | b
    . have:bts s=[]:=uI (by rw [zt];exact b)
      rw [this] at hb;cases hb
    . exact b
   have j:=ze (show zkt w s (.returned (.tuple #[.string (s.extract 1 s.size),.bool true])) w from ⟨_,by rw [hb],zre s hb,rfl⟩);clear hb
   go_in
   go_wp2_with fail;refine (h _).mono ?_;rintro e w' ⟨rfl,rfl⟩;go_wp2;go_ret2;exact j.o
 | false=>
   rw [hb] at h;have j:=ze (show zkt w s (.returned (.tuple #[.string s,.bool false])) w from ⟨_,by rw [hb],(X0 hb).symm,rfl⟩);clear hb
   go_in
   go_wp2_with fail;refine (h _).mono ?_;rintro e w' ⟨rfl,rfl⟩;go_wp2;go_ret2;exact j.o
theorem zfq (s:ByteArray) (w:World) (hs:s.size<=1073741824):
 Calls prog 43 #[.string s,.string ⟨#[45]⟩] w (zkt w s):=by
 have h:=fun w=>zca s w hs
 go_in
 go_wp2_with fail
 refine (h _).mono ?_
 rintro e w' ⟨u,rfl,hu,rfl⟩
 have b:=ze hu
 clear hu
 go_wp2
 go_ret2
 exact ⟨u,rfl,b.o,rfl⟩
theorem yy {a b:Bool} (h:a=b):Ending.returned (.bool b)= .returned (.bool a):=by rw [h]
theorem zt2 {c:UInt8} (h:xO c=false):c.toNat<48\/57<c.toNat:=by
 unfold xO at h
 simp at h
 omega
theorem zh8 {s:ByteArray} {k:Nat} (hk:k<s.size) (h:xO s[k]=false):Z4 (bts s)=false:=by
 unfold Z4
 have:(bts s).all xO=false:=by
  rw [List.all_eq_false]
  exact ⟨s[k],by rw [<- Va s k hk];exact uO _,by rw [h];simp⟩
 rw [this];rfl
theorem zlj (s:ByteArray) (w:World) (hs:s.size<=1073741824):
 Calls prog 94 #[.string s] w (zaw w (.bool (Z4 (bts s)))):=by
 go_in
 go_wp2
 go_loop [6] (fun iv=>∃ k:Nat,k<=s.size/\iv= .int .i64 k/\Hid (∀ j (h:j<s.size),j<k->xO s[j]=true)) (fun iv=>s.size - (intOf iv).toNat)
 case atStart=>exact ⟨0,uB,rfl,fun j _ h=>by omega⟩
 case round=>
  obtain ⟨k,F,rfl,y⟩:=hrel
  by_cases B:k<s.size
  rotate_left
  . obtain rfl:k=s.size:=by omega
    have m:(bts s).all xO=true:=by
     rw [List.all_eq_true];intro c E;obtain ⟨j,b,rfl⟩:=List.mem_iff_getElem.1 E;rw [zt] at b;rw [Va s j b];exact y.o j b b
    have e:=ze (show Z4 (bts s)= !((s.toList).isEmpty) by unfold Z4;rw [m,Lib.toList_data];rfl);clear m
    cases hb:(s.toList).isEmpty with
    | true=>
      have l:=ze (e.o.trans (by rw [hb];rfl:_=false));have G:s.toList=[]:=by simpa using hb
      clear e;go_wp2;go_ret;exact ⟨yy l.o,rfl⟩
    | false=>
      have l:=ze (e.o.trans (by rw [hb];rfl:_=true));clear e;go_wp2;go_ret;exact ⟨yy l.o,rfl⟩
  cases hd:xO s[k] with
  | true=>
    obtain ⟨r,C⟩:=Xr hd;have D:=ze hd;clear hd;go_wp2;go_round
    case rel=>
     refine ⟨k+1,by omega,by go_num,?_⟩;intro j b I
     rcases uL j k with u | u
     . exact y.o j b u
     . obtain rfl:j=k:=by omega
       exact D.o
    case measure=>simp [intOf];omega
  | false=>
    have z:=ze (zh8 B hd)
    rcases zt2 hd with r | r
    . clear hd
      go_wp2;go_ret;exact ⟨yy z.o,rfl⟩
    . have C:¬ s[k].toNat<48:=by omega
      clear hd;go_wp2;go_ret;exact ⟨yy z.o,rfl⟩
theorem zrw (s:ByteArray) (h:0<s.size):(bts s).head?=some s[0]:=by
 rw [List.head?_eq_getElem?,List.getElem?_eq_getElem (by rw [zt];exact h)]
 rfl
theorem zhs (s:ByteArray) (w:World) (hs:s.size<=1073741824):
 Calls prog 45 #[.string s] w (zaw w (.bool (zX (bts s)))):=by
 have h:=fun w=>zlj s w hs
 cases hd:Z4 (bts s) with
 | false=>
   rw [hd] at h;have b:=ze (show zX (bts s)=false by unfold zX;rw [hd];rfl);clear hd
   go_in
   go_wp2_with fail;refine (h _).mono ?_;rintro e w' ⟨rfl,rfl⟩;go_wp2;go_ret;exact ⟨yy b.o,rfl⟩
 | true=>
   rw [hd] at h
   have y:0<s.size:=by
    unfold Z4 at hd;rw [Bool.and_eq_true] at hd
    rcases uN s.size with l | l
    . have:bts s=[]:=uI (by rw [zt];exact l)
      rw [this] at hd;simp at hd
    . exact l
   have u:zX (bts s)=((((s[0].toNat:Int) != 48) || ((s.size:Int) == 1)) && decide ((s.size:Int)<=50000)):=by
    unfold zX;rw [hd,zrw s y,zt,Bool.true_and]
    congr 1
    rotate_left
    . rw [Bool.eq_iff_iff,decide_eq_true_iff,decide_eq_true_iff];omega
    congr 1
    rotate_left
    . rw [Bool.eq_iff_iff,beq_iff_eq,beq_iff_eq];omega
    rw [Bool.eq_iff_iff,bne_iff_ne,bne_iff_ne]
    constructor
    . intro l m;apply l;congr 1;apply UInt8.toNat_inj.1;have:(48:UInt8).toNat=48:=rfl;omega
    intro l m;apply l;injection m with m;rw [m];rfl
   have b:=ze u;clear u hd
   cases b1:((s[0].toNat:Int) != 48) with
   | true=>
     cases r:decide ((s.size:Int)<=50000) with
     | true=>
       have j:=ze (show zX (bts s)=true by rw [b.o,b1,r];rfl);clear b
       go_in
       go_wp2_with fail;refine (h _).mono ?_;rintro e w' ⟨rfl,rfl⟩;go_wp2;go_ret;exact ⟨yy j.o,rfl⟩
     | false=>
       have j:=ze (show zX (bts s)=false by rw [b.o,b1,r];rfl);clear b
       go_in
       go_wp2_with fail;refine (h _).mono ?_;rintro e w' ⟨rfl,rfl⟩;go_wp2;go_ret;exact ⟨yy j.o,rfl⟩
   | false=>
     cases b2:((s.size:Int) == 1) with
     | true=>
       have r:decide ((s.size:Int)<=50000)=true:=uE (by have:=beq_iff_eq.1 b2;omega);have j:=ze (show zX (bts s)=true by rw [b.o,b1,b2,r];rfl);clear b
       go_in
       go_wp2_with fail;refine (h _).mono ?_;rintro e w' ⟨rfl,rfl⟩;go_wp2;go_ret;exact ⟨yy j.o,rfl⟩
     | false=>
       have j:=ze (show zX (bts s)=false by rw [b.o,b1,b2];rfl);clear b
       go_in
       go_wp2_with fail;refine (h _).mono ?_;rintro e w' ⟨rfl,rfl⟩;go_wp2;go_ret;exact ⟨yy j.o,rfl⟩
def zit (c:UInt8):Bool:=decide (97<=c.toNat) && decide (c.toNat<=122)
def yO (c:UInt8):Bool:=zit c || xO c || c == 45
def Ze (l:List UInt8):Bool:=decide (1<=l.length) && decide (l.length<=16) && zit (l.headD 0) && l.all yO
theorem zbo {s:ByteArray} (h0:0<s.size):s.toList.isEmpty=false:=by
 rw [Bool.eq_false_iff]
 intro e
 have e:=List.isEmpty_iff.1 e
 have:=congrArg List.length e
 rw [Lib.toList_data] at this
 simp at this
 rw [this] at h0
 exact absurd h0 (by decide)
theorem VD {c:UInt8}:zit c=true↔97<=c.toNat/\c.toNat<=122:=by
 unfold zit;simp
theorem zhc {c:UInt8} (h:yO c=true):(97<=c.toNat/\c.toNat<=122)\/(48<=c.toNat/\c.toNat<=57/\c.toNat<97)\/(c.toNat=45):=by
 unfold yO at h
 simp only [Bool.or_eq_true] at h
 rcases h with (h | h) | h
 . exact .inl (VD.1 h)
 . obtain ⟨b,e⟩:=Xr h
   exact .inr (.inl ⟨b,e,by omega⟩)
 . refine .inr (.inr ?_)
   rw [beq_iff_eq] at h;rw [h];rfl
theorem zbe {c:UInt8} (h:yO c=false):(c.toNat<48/\c.toNat≠45)\/(57<c.toNat/\c.toNat<97)\/(122<c.toNat):=by
 have j:¬ (97<=c.toNat/\c.toNat<=122):=by
  intro b
  have:=VD.2 b
  unfold yO at h;rw [this] at h;simp at h
 have b:¬ (48<=c.toNat/\c.toNat<=57):=by
  intro b
  have:xO c=true:=by unfold xO;simp [b]
  unfold yO at h;rw [this] at h;simp at h
 have e:c.toNat≠45:=by
  intro e
  have:c=45:=UInt8.toNat_inj.1 e
  unfold yO at h;rw [this] at h;simp at h
 omega
theorem zhl {s:ByteArray} (h:0<s.size):(bts s).headD 0=s[0]:=by
 have b:=Va s 0 h
 rw [List.headD_eq_head?_getD,List.head?_eq_getElem?,List.getElem?_eq_getElem (by rw [zt];exact h),b];rfl
theorem zqu {s:ByteArray} (h:0<s.size) (h1:zit s[0]=false):Ze (bts s)=false:=by
 unfold Ze;rw [zhl h,h1];simp
theorem zq3 {s:ByteArray} {k:Nat} (h:k<s.size) (h1:yO s[k]=false):Ze (bts s)=false:=by
 have:(bts s).all yO=false:=by
  rw [Bool.eq_false_iff]
  intro e
  have b:=List.all_eq_true.1 e ((bts s)[k]'(by rw [zt];exact h)) (uO _)
  rw [Va s k h,h1] at b;cases b
 unfold Ze;rw [this];simp
theorem zqn {s:ByteArray} (h:0<s.size) (h16:s.size<=16) (h1:zit s[0]=true) (h2:∀ j (b:j<s.size),yO s[j]=true):Ze (bts s)=true:=by
 have:(bts s).all yO=true:=by
  rw [List.all_eq_true]
  intro c e
  obtain ⟨j,b,rfl⟩:=List.mem_iff_getElem.1 e
  rw [zt] at b
  rw [Va s j b]
  exact h2 j b
 unfold Ze;rw [this,zhl h,h1,zt,uE (show 1<=s.size from h),uE h16];rfl
def xt (n:Nat) (f:Nat->Int):Int:=match n with
 | 0=>0
 | n+1=>if xt n f=0 then f n else xt n f
theorem yT {n:Nat} {f:Nat->Int}:xt n f=0↔∀ k,k<n->f k=0:=by
 induction n with
 | zero=>simp [xt]
 | succ n ih=>
   unfold xt
   constructor
   rotate_left
   . intro h
     rw [if_pos (ih.2 fun k j=>h k (by omega))];exact h n (by omega)
   intro h k j
   by_cases b:xt n f=0
   rotate_left
   . rw [if_neg b] at h;exact absurd h b
   rw [if_pos b] at h
   rcases uL k n with e | e
   . exact ih.1 b k e
   . obtain rfl:k=n:=by omega
     exact h
theorem xQ {n k:Nat} {f:Nat->Int} (hk:k<n) (h:∀ j,j<k->f j=0) (h0:f k≠0):xt n f=f k:=by
 induction n with
 | zero=>omega
 | succ n ih=>
   unfold xt
   rcases uL k n with b | b
   . rw [ih b,if_neg h0]
   . obtain rfl:k=n:=by omega
     rw [if_pos (yT.2 h)]
structure zr where
 name:List UInt8
 coef:List UInt8
instance:Inhabited zr:=⟨⟨[],[]⟩⟩
structure zS where
 terms:List zr
 bound:List UInt8
instance:Inhabited zS:=⟨⟨[],[]⟩⟩
def xP (l:List UInt8):Int:=match zj l with
 | none=>4
 | some q=>if yz 12 q then 0 else 3
def xZ (l:List UInt8):Int:=match zj l with
 | none=>4
 | some q=>if q=0 then 1 else if yz 12 q then 0 else 3
def yM (last s:List UInt8) (first:Bool):Int:=if first=true\/last<s then 0 else if last=s then 6 else 1
def vj (l:List zr) (i:Nat):Int:=
 if Ze (l.getD i default).name=false then 5
 else if xZ (l.getD i default).coef≠0 then xZ (l.getD i default).coef
 else yM (l.getD (i - 1) default).name (l.getD i default).name (decide (i=0))
def yh (l:List zr):Int:=xt l.length (vj l)
def xz (r:zS):Int:=if yh r.terms≠0 then yh r.terms else xP r.bound
def yd (L:List (List zr)):List (List UInt8):=L.flatMap fun l=>l.map (·.name)
def zl5:List (List UInt8)->List (List UInt8)
 | []=>[]
 | x :: l=>if x∈zl5 l then zl5 l else x :: zl5 l
def xd (ns:List (List UInt8)):List (List UInt8):=(zl5 ns).mergeSort (fun x y=>decide (x<=y))
def zy (rs:List zS) (more:List (List zr)):List (List UInt8):=xd (yd (more ++ rs.map (·.terms)))
def yB (rs:List zS):Int:=
 if 800<rs.length then 3
 else if xt rs.length (fun i=>xz (rs.getD i default))≠0 then xt rs.length (fun i=>xz (rs.getD i default))
 else if 80<(zy rs []).length then 3 else 0
def zih (l:List (List UInt8)):Prop:=l.Pairwise (· < ·)
theorem xF (a:List UInt8):¬ a<a:=List.lt_irrefl a
theorem Xo {a b c:List UInt8} (h:a<b) (h2:b<c):a<c:=List.lt_trans h h2
theorem zg7 {a b:List UInt8} (h:a<b):¬ b<a:=fun h2=>xF a (Xo h h2)
theorem zja (a b:List UInt8) (h1:¬ a<b) (h2:¬ b<a):a=b:=List.le_antisymm (List.not_lt.1 h2) (List.not_lt.1 h1)
theorem zwj {a b:List UInt8} (h:a<=b) (hn:a≠b):a<b:=by
 rcases Decidable.em (a<b) with e | e
 . exact e
 . exact absurd (zja a b e (List.not_lt.2 h)) hn
theorem YC:∀ (l m:List (List UInt8)),zih l->zih m->(∀ x,x∈l↔x∈m)->l=m
 | [],[],_,_,_=>rfl
 | [],y :: m,_,_,h=>(by have:=(h y).2 (uP ..);cases this)
 | x :: l,[],_,_,h=>(by have:=(h x).1 (uP ..);cases this)
 | x :: l,y :: m,h1,h2,h=>by
   obtain ⟨r,u⟩:=List.pairwise_cons.1 h1;obtain ⟨j,B⟩:=List.pairwise_cons.1 h2
   have e:x=y:=by
    rcases List.mem_cons.1 ((h x).1 (uP ..)) with e | e
    . exact e
    . rcases List.mem_cons.1 ((h y).2 (uP ..)) with b | b
      . exact b.symm
      . exact absurd (r _ b) (zg7 (j _ e))
   subst e
   rw [YC l m u B (fun z=>⟨fun hz=>by
    rcases List.mem_cons.1 ((h z).1 (List.mem_cons_of_mem _ hz)) with e | e
    . exact absurd (r _ hz) (by rw [e];exact xF _)
    . exact e,fun hz=>by
    rcases List.mem_cons.1 ((h z).2 (List.mem_cons_of_mem _ hz)) with e | e
    . exact absurd (j _ hz) (by rw [e];exact xF _)
    . exact e⟩)]
def Ve (l ns:List (List UInt8)):Prop:=zih l/\∀ x,x∈l↔x∈ns
theorem zb4 {ss:List (List UInt8)} (l:ss.Nodup):zih (ss.mergeSort (fun x y=>decide (x<=y))):=by
 have e:=List.pairwise_mergeSort (le:=fun x y:List UInt8=>decide (x<=y)) (fun a b c e j=>by simp only [decide_eq_true_eq] at*;exact List.le_trans e j) (fun a b=>by simp only [Bool.or_eq_true,decide_eq_true_eq];exact List.le_total a b) ss
 have j:(ss.mergeSort (fun x y=>decide (x<=y))).Nodup:=(List.mergeSort_perm ss _).nodup_iff.2 l
 unfold zih
 refine (e.and j).imp ?_
 rintro a b ⟨h,l⟩
 simp only [decide_eq_true_eq] at h
 exact zwj h l
theorem zbp:∀ (ns:List (List UInt8)) (x:List UInt8),x∈zl5 ns↔x∈ns
 | [],x=>Iff.rfl
 | y :: l,x=>by
   unfold zl5
   by_cases h:y∈zl5 l
   rotate_left
   . rw [if_neg h,List.mem_cons,List.mem_cons,zbp l x]
   rw [if_pos h,zbp l x,List.mem_cons]
   refine ⟨.inr,fun e=>e.elim (fun e=>?_) id⟩;rw [e];exact (zbp l y).1 h
theorem zas:∀ (ns:List (List UInt8)),(zl5 ns).Nodup
 | []=>List.nodup_nil
 | y :: l=>by
   unfold zl5
   by_cases h:y∈zl5 l
   . rw [if_pos h];exact zas l
   rw [if_neg h];exact List.nodup_cons.2 ⟨h,zas l⟩
theorem zcd:∀ (ns:List (List UInt8)),(zl5 ns).length<=ns.length
 | []=>uA
 | y :: l=>by
   have:=zcd l;unfold zl5
   by_cases h:y∈zl5 l
   . rw [if_pos h,List.length_cons];omega
   rw [if_neg h,List.length_cons,List.length_cons];omega
theorem yn (ns:List (List UInt8)):Ve (xd ns) ns:=
 ⟨zb4 (zas ns),fun x=>by unfold xd;rw [(List.mergeSort_perm _ _).mem_iff,zbp]⟩
theorem Ve.eq {l ns:List (List UInt8)} (h:Ve l ns):l=xd ns:=
 YC _ _ h.1 (yn ns).1 (fun x=>(h.2 x).trans ((yn ns).2 x).symm)
theorem Za (ns:List (List UInt8)):(xd ns).length<=ns.length:=by
 unfold xd
 rw [List.length_mergeSort]
 exact zcd ns
theorem zbq:∀ {l ns:List (List UInt8)},l.Nodup->(∀ x∈l,x∈ns)->l.length<=ns.length
 | [],_,_,_=>uB
 | a :: l,ns,hn,h=>by
   rw [List.nodup_cons] at hn;have b:=h a uP;have j:=zbq (l:=l) (ns:=ns.erase a) hn.2 (fun x hx=>(List.mem_erase_of_ne (fun e=>hn.1 (by rw [<- e];exact hx))).2 (h x (List.mem_cons_of_mem _ hx)));rw [List.length_erase_of_mem b] at j;have:=List.length_pos_of_mem b;rw [List.length_cons]
   omega
def zkf (l:List (List UInt8)) (F:List UInt8->Option Rat):Prop:=zih l/\∀ x,x∈l↔(F x).isSome=true
structure Pipe where
 name:List UInt8
 from_:Int
 to_:Int
 low:List UInt8
 high:List UInt8
structure zt3 where
 node:Int
 value:List UInt8
structure Net where
 nodes:List (List UInt8)
 pipes:List Pipe
 heads:List zt3
 wells:List zt3
instance:Inhabited Pipe:=⟨⟨[],0,0,[],[]⟩⟩
instance:Inhabited zt3:=⟨⟨0,[]⟩⟩
namespace Net
variable (n:Net)
end Net
end Go.Proofs.YtobdoblpnanclaaGreatDoor
