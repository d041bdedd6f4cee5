/- Parts of the proof. -/
import Derived.Lib.Bytealg
import Derived.Lib.Index
import Derived.Test.YtnjljgidphemdaaGreatDoorMv09
set_option linter.all false
set_option maxRecDepth 100000
namespace Go.Proofs.YtnjljgidphemdaaGreatDoor
open Proofs.Tryz Go.RowKit Go.Deep
abbrev str (l:List UInt8):Value:=.string ⟨l.toArray⟩
theorem zpi (s:ByteArray):str (bts s)= .string s:=by unfold bts;rfl
theorem yt (l:List UInt8):bts ⟨l.toArray⟩=l:=by unfold bts;simp
theorem zag {l:List UInt8} {c:UInt8} (h:has c l=true):Lib.indexByte l c=((ahead c l).length:Int):=by
 induction l with
 | nil=>simp [has] at h
 | cons b l ih=>
   unfold Lib.indexByte ahead
   by_cases hb:b=c
   . subst hb;simp
   have j :has c l=true:=by
    unfold has at h |-;simp only [List.contains_cons,Bool.or_eq_true,beq_iff_eq] at h
    rcases h with h | h
    . exact absurd h.symm hb
    . exact h
   have:=ih j;have m:(b == c)=false:=by simpa using hb
   have r:(b != c)=true:=by simpa using hb
   rw [m,List.takeWhile_cons_of_pos (by simpa using hb),this];unfold ahead;have e:(((List.takeWhile (fun x=>x != c) l).length:Int) == -1)=false:=by rw [beq_eq_false_iff_ne];omega
   rw [e]
   simp
theorem zi8 {l:List UInt8} {c:UInt8} (h:has c l=false):Lib.indexByte l c= -1:=by
 induction l with
 | nil=>rfl
 | cons b l ih=>
   unfold has at h;simp only [List.contains_cons,Bool.or_eq_false_iff,beq_eq_false_iff_ne] at h;unfold Lib.indexByte;have j:(b == c)=false:=by rw [beq_eq_false_iff_ne];exact fun e=>h.1 e.symm
   rw [j,ih h.2];rfl
theorem znh (s:ByteArray) (c:Int) (w:World):
 Calls prog 181 #[.string s,.int .u8 c] w (zba w (.int .i64 (Lib.indexByte s.data.toList c.toNat.toUInt8))):=by
 go_in
 go_wp2
 rw [run_callFunc_extern func204 (by kernel_rfl) (by kernel_rfl) (by kernel_rfl) (e:=Extern.BytealgIndexByte.indexByte) (by kernel_rfl),Lib.run_indexByteString]
 simp only [Result.andThen]
 rw [Oper.upon_value]
 go_wp2
 go_ret
 exact ⟨rfl,rfl⟩
theorem zip (s:ByteArray) (c:UInt8) (w:World):
 Calls prog 161 #[.string s,.string ⟨#[c]⟩] w (zba w (.int .i64 (Lib.indexByte s.data.toList c))):=by
 have h:=fun w=>znh s (c.toNat:Int) w
 have e:((c.toNat:Int)).toNat.toUInt8=c:=by simp
 simp only [e] at h
 cases hb:([c] == s.toList) with
 | true=>
   have j:s.data.toList=[c]:=by
    have:=beq_iff_eq.1 hb;rw [<- Lib.toList_data];exact this.symm
   have b:Lib.indexByte s.data.toList c=0:=by rw [j];simp [Lib.indexByte]
   rw [b];clear j b h
   go_in
   go_wp2;go_ret;exact ⟨rfl,rfl⟩
 | false=>
   go_in
   go_wp2_with fail;refine (h _).mono ?_;rintro e w' ⟨rfl,rfl⟩;go_wp2;go_ret;exact ⟨rfl,rfl⟩
def zdm (w:World) (s:ByteArray) (c:UInt8) (e:Ending) (w' :World):Prop:=
 ∃ a b,e= .returned (.tuple #[.string a,.string b,.bool (has c (bts s))])/\bts a=ahead c (bts s)/\bts b=(if has c (bts s)=true then ys c (bts s) else [])/\∃ n,w' =w.drewN n
theorem zex {s:ByteArray} {c:UInt8} (h:has c (bts s)=true):(ahead c (bts s)).length<s.size/\bts (s.extract 0 (ahead c (bts s)).length)=ahead c (bts s)/\bts (s.extract ((ahead c (bts s)).length+1) s.size)=ys c (bts s):=by
 have e:=zsc h
 have b:(bts s).length=(ahead c (bts s)).length+1+(ys c (bts s)).length:=by
  conv=>lhs;rw [e]
  rw [List.length_append,List.length_cons];omega
 rw [zm] at b
 refine ⟨by omega,?_,?_⟩
 . rw [Zb,List.drop_zero]
   generalize ahead c (bts s)=A at e;rw [e,List.take_append_of_le_length (uA),List.take_length]
 rw [Zb,uJ (by rw [zm];exact uA)]
 generalize ahead c (bts s)=A at e;generalize ys c (bts s)=B at e;rw [e,List.drop_append]
 simp
theorem zry (s:ByteArray) (c:UInt8) (w:World) (hs:s.size<=1073741824):
 Calls prog 109 #[.string s,.string ⟨#[c]⟩] w (zdm w s c):=by
 have j:=fun w=>zip s c w
 by_cases b:has c (bts s)=true
 rotate_left
 . have l :has c (bts s)=false:=by simpa using b
   have hi:Lib.indexByte s.data.toList c= -1:=zi8 l;rw [hi] at j
   have m:Hid (zdm w s c (.returned (.tuple #[.string s,.string ⟨#[]⟩,.bool false])) w):=
    ⟨_,_,by rw [l],(V5 l).symm,by rw [if_neg b];rfl,0,rfl⟩
   clear hi b l
   go_in
   go_wp2_with fail;refine (j _).mono ?_;rintro e w' ⟨rfl,rfl⟩;go_wp2;go_ret3;exact m.o
 obtain ⟨y,r,u⟩:=zex b
 have hi:Lib.indexByte s.data.toList c=((ahead c (bts s)).length:Int):=zag b;rw [hi] at j
 have m:Hid (∀ n:Nat,zdm w s c (.returned (.tuple #[.string (s.extract 0 (ahead c (bts s)).length),.string (s.extract ((ahead c (bts s)).length+1) s.size),.bool true])) (w.drewN n)):=by
  intro n;exact ⟨_,_,by rw [b],r,by rw [if_pos b];exact u,n,rfl⟩
 clear hi r u b;generalize (ahead c (bts s)).length=k at y j m
 go_in
 go_wp2_with fail;refine (j _).mono ?_;rintro e w' ⟨rfl,rfl⟩;go_wp2
 go_quiet (fail)
 go_wp2;go_ret3;exact m.o _
theorem zwn (s:ByteArray) (c:UInt8) (w:World) (hs:s.size<=1073741824):
 Calls prog 59 #[.string s,.string ⟨#[c]⟩] w (zdm w s c):=by
 have h:=fun w=>zry s c w hs
 go_in
 go_wp2_with fail
 refine (h _).mono ?_
 rintro e w' ⟨a,b,rfl,j,hb,n,rfl⟩
 have m:=ze j
 have l:=ze hb
 clear j hb
 go_wp2
 go_ret3
 exact ⟨a,b,rfl,m.o,l.o,n,rfl⟩
theorem zn4 (s:ByteArray) (c:UInt8) (w:World) (hs:s.size<=1073741824):
 Calls prog 160 #[.string s,.string ⟨#[c]⟩] w (zba w (.bool ((bts s).head? == some c))):=by
 by_cases u:1<=s.size
 rotate_left
 . have e:((bts s).head? == some c)=false:=by
    have:bts s=[]:=uI (by rw [zm];omega);rw [this];rfl
   rw [e];have m:decide (1<=(s.size:Int))=false:=uF (by omega);clear e
   go_in
   go_wp2;go_ret;exact ⟨rfl,rfl⟩
 have m:decide (1<=(s.size:Int))=true:=uE (by omega)
 have e:((s.extract 0 1).toList == [c])=((bts s).head? == some c):=by
  rw [Lib.toList_data]
  have r:(s.extract 0 1).data.toList=(bts s).take 1:=by
   have:=Zb s 0 1;rw [List.drop_zero] at this;exact this
  rw [r]
  cases hl:bts s with
  | nil=>have:=zm s;rw [hl] at this;simp at this;omega
  | cons b l=>simp
 have j:=ze e;clear e;generalize hb:((bts s).head? == some c)=b at j;clear hb
 cases hx:((s.extract 0 1).toList == [c]) with
 | true=>
   have hb:b=true:=by rw [<- hx];exact j.o.symm
   subst hb;clear j
   go_in
   go_wp2;go_ret;exact ⟨rfl,rfl⟩
 | false=>
   have hb:b=false:=by rw [<- hx];exact j.o.symm
   subst hb;clear j
   go_in
   go_wp2;go_ret;exact ⟨rfl,rfl⟩
def zmo (w:World) (s:ByteArray) (e:Ending) (w' :World):Prop:=∃ u,e= .returned (.tuple #[.string u,.bool (yT (bts s))])/\bts u=zr (bts s)/\w=w'
theorem ztr (s:ByteArray) (h:yT (bts s)=true):bts (s.extract 1 s.size)=zr (bts s):=by
 unfold zr
 rw [if_pos h,Zb,uJ (by rw [zm];exact uA)]
 simp
theorem zdp (s:ByteArray) (w:World) (hs:s.size<=1073741824):
 Calls prog 108 #[.string s,.string ⟨#[45]⟩] w (zmo w s):=by
 have h:=fun w=>zn4 s 45 w hs
 have e:((bts s).head? == some 45)=yT (bts s):=rfl
 rw [e] at h
 clear e
 cases hb:yT (bts s) with
 | true=>
   rw [hb] at h
   have l:1<=s.size:=by
    rcases uN s.size with b | b
    . have:bts s=[]:=uI (by rw [zm];exact b)
      rw [this] at hb;cases hb
    . exact b
   have j:=ze (show zmo w s (.returned (.tuple #[.string (s.extract 1 s.size),.bool true])) w from ⟨_,by rw [hb],ztr s hb,rfl⟩);clear hb
   go_in
   go_wp2_with fail;refine (h _).mono ?_;rintro e w' ⟨rfl,rfl⟩;go_wp2;go_ret2;exact j.o
 | false=>
   rw [hb] at h;have j:=ze (show zmo w s (.returned (.tuple #[.string s,.bool false])) w from ⟨_,by rw [hb],(YQ hb).symm,rfl⟩);clear hb
   go_in
   go_wp2_with fail;refine (h _).mono ?_;rintro e w' ⟨rfl,rfl⟩;go_wp2;go_ret2;exact j.o
theorem zgz (s:ByteArray) (w:World) (hs:s.size<=1073741824):
 Calls prog 58 #[.string s,.string ⟨#[45]⟩] w (zmo w s):=by
 have h:=fun w=>zdp s w hs
 go_in
 go_wp2_with fail
 refine (h _).mono ?_
 rintro e w' ⟨u,rfl,hu,rfl⟩
 have b:=ze hu
 clear hu
 go_wp2
 go_ret2
 exact ⟨u,rfl,b.o,rfl⟩
theorem ya {a b:Bool} (h:a=b):Ending.returned (.bool b)= .returned (.bool a):=by rw [h]
theorem zp5 {c:UInt8} (h:xp c=false):c.toNat<48\/57<c.toNat:=by
 unfold xp at h
 simp at h
 omega
theorem zco {s:ByteArray} {k:Nat} (hk:k<s.size) (h:xp s[k]=false):xu (bts s)=false:=by
 unfold xu
 have:(bts s).all xp=false:=by
  rw [List.all_eq_false]
  exact ⟨s[k],by rw [<- Z6 s k hk];exact uO _,by rw [h];simp⟩
 rw [this];rfl
theorem znm (s:ByteArray) (w:World) (hs:s.size<=1073741824):
 Calls prog 110 #[.string s] w (zba w (.bool (xu (bts s)))):=by
 go_in
 go_wp2
 go_loop [6] (fun iv=>∃ k:Nat,k<=s.size/\iv= .int .i64 k/\Hid (∀ j (h:j<s.size),j<k->xp s[j]=true)) (fun iv=>s.size - (intOf iv).toNat)
 case atStart=>exact ⟨0,uB,rfl,fun j _ h=>by omega⟩
 case round=>
  obtain ⟨k,F,rfl,y⟩:=hrel
  by_cases B:k<s.size
  rotate_left
  . obtain rfl:k=s.size:=by omega
    have m:(bts s).all xp=true:=by
     rw [List.all_eq_true];intro c E;obtain ⟨j,b,rfl⟩:=List.mem_iff_getElem.1 E;rw [zm] at b;rw [Z6 s j b];exact y.o j b b
    have e:=ze (show xu (bts s)= !((s.toList).isEmpty) by unfold xu;rw [m,Lib.toList_data];rfl);clear m
    cases hb:(s.toList).isEmpty with
    | true=>
      have l:=ze (e.o.trans (by rw [hb];rfl:_=false));have G:s.toList=[]:=by simpa using hb
      clear e;go_wp2;go_ret;exact ⟨ya l.o,rfl⟩
    | false=>
      have l:=ze (e.o.trans (by rw [hb];rfl:_=true));clear e;go_wp2;go_ret;exact ⟨ya l.o,rfl⟩
  cases hd:xp s[k] with
  | true=>
    obtain ⟨r,C⟩:=ZQ hd;have D:=ze hd;clear hd;go_wp2;go_round
    case rel=>
     refine ⟨k+1,by omega,by go_num,?_⟩;intro j b I
     rcases uL j k with u | u
     . exact y.o j b u
     . obtain rfl:j=k:=by omega
       exact D.o
    case measure=>simp [intOf];omega
  | false=>
    have z:=ze (zco B hd)
    rcases zp5 hd with r | r
    . clear hd
      go_wp2;go_ret;exact ⟨ya z.o,rfl⟩
    . have C:¬ s[k].toNat<48:=by omega
      clear hd;go_wp2;go_ret;exact ⟨ya z.o,rfl⟩
theorem zt4 (s:ByteArray) (h:0<s.size):(bts s).head?=some s[0]:=by
 rw [List.head?_eq_getElem?,List.getElem?_eq_getElem (by rw [zm];exact h)]
 rfl
theorem zi5 (s:ByteArray) (w:World) (hs:s.size<=1073741824):
 Calls prog 60 #[.string s] w (zba w (.bool (yj (bts s)))):=by
 have h:=fun w=>znm s w hs
 cases hd:xu (bts s) with
 | false=>
   rw [hd] at h;have b:=ze (show yj (bts s)=false by unfold yj;rw [hd];rfl);clear hd
   go_in
   go_wp2_with fail;refine (h _).mono ?_;rintro e w' ⟨rfl,rfl⟩;go_wp2;go_ret;exact ⟨ya b.o,rfl⟩
 | true=>
   rw [hd] at h
   have y:0<s.size:=by
    unfold xu at hd;rw [Bool.and_eq_true] at hd
    rcases uN s.size with l | l
    . have:bts s=[]:=uI (by rw [zm];exact l)
      rw [this] at hd;simp at hd
    . exact l
   have u:yj (bts s)=((((s[0].toNat:Int) != 48) || ((s.size:Int) == 1)) && decide ((s.size:Int)<=50000)):=by
    unfold yj;rw [hd,zt4 s y,zm,Bool.true_and]
    congr 1
    rotate_left
    . rw [Bool.eq_iff_iff,decide_eq_true_iff,decide_eq_true_iff];omega
    congr 1
    rotate_left
    . rw [Bool.eq_iff_iff,beq_iff_eq,beq_iff_eq];omega
    rw [Bool.eq_iff_iff,bne_iff_ne,bne_iff_ne]
    constructor
    . intro l m;apply l;congr 1;apply UInt8.toNat_inj.1;have:(48:UInt8).toNat=48:=rfl;omega
    intro l m;apply l;injection m with m;rw [m];rfl
   have b:=ze u;clear u hd
   cases b1:((s[0].toNat:Int) != 48) with
   | true=>
     cases r:decide ((s.size:Int)<=50000) with
     | true=>
       have j:=ze (show yj (bts s)=true by rw [b.o,b1,r];rfl);clear b
       go_in
       go_wp2_with fail;refine (h _).mono ?_;rintro e w' ⟨rfl,rfl⟩;go_wp2;go_ret;exact ⟨ya j.o,rfl⟩
     | false=>
       have j:=ze (show yj (bts s)=false by rw [b.o,b1,r];rfl);clear b
       go_in
       go_wp2_with fail;refine (h _).mono ?_;rintro e w' ⟨rfl,rfl⟩;go_wp2;go_ret;exact ⟨ya j.o,rfl⟩
   | false=>
     cases b2:((s.size:Int) == 1) with
     | true=>
       have r:decide ((s.size:Int)<=50000)=true:=uE (by have:=beq_iff_eq.1 b2;omega);have j:=ze (show yj (bts s)=true by rw [b.o,b1,b2,r];rfl);clear b
       go_in
       go_wp2_with fail;refine (h _).mono ?_;rintro e w' ⟨rfl,rfl⟩;go_wp2;go_ret;exact ⟨ya j.o,rfl⟩
     | false=>
       have j:=ze (show yj (bts s)=false by rw [b.o,b1,b2];rfl);clear b
       go_in
       go_wp2_with fail;refine (h _).mono ?_;rintro e w' ⟨rfl,rfl⟩;go_wp2;go_ret;exact ⟨ya j.o,rfl⟩
def zh0 (c:UInt8):Bool:=decide (97<=c.toNat) && decide (c.toNat<=122)
def yQ (c:UInt8):Bool:=zh0 c || xp c || c == 45
def vf (l:List UInt8):Bool:=decide (1<=l.length) && decide (l.length<=16) && zh0 (l.headD 0) && l.all yQ
theorem zgj {s:ByteArray} (h:s.size=0):s.toList=[]:=by
 have b:bts s=[]:=uI (by rw [zm];exact h)
 rw [Lib.toList_data];exact b
theorem XP {s:ByteArray} (h0:0<s.size):s.toList.isEmpty=false:=by
 rw [Bool.eq_false_iff]
 intro e
 have e:=List.isEmpty_iff.1 e
 have:=congrArg List.length e
 rw [Lib.toList_data] at this
 simp at this
 rw [this] at h0
 exact absurd h0 (by decide)
theorem Xl {c:UInt8}:zh0 c=true↔97<=c.toNat/\c.toNat<=122:=by
 unfold zh0;simp
theorem zcf {c:UInt8} (h:yQ c=true):(97<=c.toNat/\c.toNat<=122)\/(48<=c.toNat/\c.toNat<=57/\c.toNat<97)\/(c.toNat=45):=by
 unfold yQ at h
 simp only [Bool.or_eq_true] at h
 rcases h with (h | h) | h
 . exact .inl (Xl.1 h)
 . obtain ⟨b,e⟩:=ZQ h
   exact .inr (.inl ⟨b,e,by omega⟩)
 . refine .inr (.inr ?_)
   rw [beq_iff_eq] at h;rw [h];rfl
theorem YP {c:UInt8} (h:yQ c=false):(c.toNat<48/\c.toNat≠45)\/(57<c.toNat/\c.toNat<97)\/(122<c.toNat):=by
 have j:¬ (97<=c.toNat/\c.toNat<=122):=by
  intro b
  have:=Xl.2 b
  unfold yQ at h;rw [this] at h;simp at h
 have b:¬ (48<=c.toNat/\c.toNat<=57):=by
  intro b
  have:xp c=true:=by unfold xp;simp [b]
  unfold yQ at h;rw [this] at h;simp at h
 have e:c.toNat≠45:=by
  intro e
  have:c=45:=UInt8.toNat_inj.1 e
  unfold yQ at h;rw [this] at h;simp at h
 omega
theorem ziv {s:ByteArray} (h:0<s.size):(bts s).headD 0=s[0]:=by
 have b:=Z6 s 0 h
 rw [List.headD_eq_head?_getD,List.head?_eq_getElem?,List.getElem?_eq_getElem (by rw [zm];exact h),b];rfl
theorem zl9 {s:ByteArray} (h:0<s.size) (h1:zh0 s[0]=false):vf (bts s)=false:=by
 unfold vf;rw [ziv h,h1];simp
theorem zmd {s:ByteArray} {k:Nat} (h:k<s.size) (h1:yQ s[k]=false):vf (bts s)=false:=by
 have:(bts s).all yQ=false:=by
  rw [Bool.eq_false_iff]
  intro e
  have b:=List.all_eq_true.1 e ((bts s)[k]'(by rw [zm];exact h)) (uO _)
  rw [Z6 s k h,h1] at b;cases b
 unfold vf;rw [this];simp
theorem zl4 {s:ByteArray} (h:0<s.size) (h16:s.size<=16) (h1:zh0 s[0]=true) (h2:∀ j (b:j<s.size),yQ s[j]=true):vf (bts s)=true:=by
 have:(bts s).all yQ=true:=by
  rw [List.all_eq_true]
  intro c e
  obtain ⟨j,b,rfl⟩:=List.mem_iff_getElem.1 e
  rw [zm] at b
  rw [Z6 s j b]
  exact h2 j b
 unfold vf;rw [this,ziv h,h1,zm,uE (show 1<=s.size from h),uE h16];rfl
def yM (n:Nat) (f:Nat->Int):Int:=match n with
 | 0=>0
 | n+1=>if yM n f=0 then f n else yM n f
theorem yX {n:Nat} {f:Nat->Int}:yM n f=0↔∀ k,k<n->f k=0:=by
 induction n with
 | zero=>simp [yM]
 | succ n ih=>
   unfold yM
   constructor
   rotate_left
   . intro h
     rw [if_pos (ih.2 fun k j=>h k (by omega))];exact h n (by omega)
   intro h k j
   by_cases b:yM n f=0
   rotate_left
   . rw [if_neg b] at h;exact absurd h b
   rw [if_pos b] at h
   rcases uL k n with e | e
   . exact ih.1 b k e
   . obtain rfl:k=n:=by omega
     exact h
theorem yq {n k:Nat} {f:Nat->Int} (hk:k<n) (h:∀ j,j<k->f j=0) (h0:f k≠0):yM n f=f k:=by
 induction n with
 | zero=>omega
 | succ n ih=>
   unfold yM
   rcases uL k n with b | b
   . rw [ih b,if_neg h0]
   . obtain rfl:k=n:=by omega
     rw [if_pos (yX.2 h)]
structure zu where
 name:List UInt8
 coef:List UInt8
instance:Inhabited zu:=⟨⟨[],[]⟩⟩
structure zU where
 terms:List zu
 bound:List UInt8
instance:Inhabited zU:=⟨⟨[],[]⟩⟩
def yD (l:List UInt8):Int:=match zl l with
 | none=>4
 | some q=>if yG 12 q then 0 else 3
def xd (l:List UInt8):Int:=match zl l with
 | none=>4
 | some q=>if q=0 then 1 else if yG 12 q then 0 else 3
def yi (last s:List UInt8) (first:Bool):Int:=if first=true\/last<s then 0 else if last=s then 6 else 1
def y6 (l:List zu) (i:Nat):Int:=
 if vf (l.getD i default).name=false then 5
 else if xd (l.getD i default).coef≠0 then xd (l.getD i default).coef
 else yi (l.getD (i - 1) default).name (l.getD i default).name (decide (i=0))
def zX (l:List zu):Int:=yM l.length (y6 l)
def yF (r:zU):Int:=if zX r.terms≠0 then zX r.terms else yD r.bound
def zP (L:List (List zu)):List (List UInt8):=L.flatMap fun l=>l.map (·.name)
def zof:List (List UInt8)->List (List UInt8)
 | []=>[]
 | x :: l=>if x∈zof l then zof l else x :: zof l
def ve (ns:List (List UInt8)):List (List UInt8):=(zof ns).mergeSort (fun x y=>decide (x<=y))
def zR (rs:List zU) (more:List (List zu)):List (List UInt8):=ve (zP (more ++ rs.map (·.terms)))
def yf (rs:List zU):Int:=
 if 800<rs.length then 3
 else if yM rs.length (fun i=>yF (rs.getD i default))≠0 then yM rs.length (fun i=>yF (rs.getD i default))
 else if 80<(zR rs []).length then 3 else 0
def zi6 (l:List (List UInt8)):Prop:=l.Pairwise (· < ·)
theorem xQ (a:List UInt8):¬ a<a:=List.lt_irrefl a
theorem Xh {a b c:List UInt8} (h:a<b) (h2:b<c):a<c:=List.lt_trans h h2
theorem Vk {a b:List UInt8} (h:a<b):¬ b<a:=fun h2=>xQ a (Xh h h2)
theorem zbt (a b:List UInt8) (h1:¬ a<b) (h2:¬ b<a):a=b:=List.le_antisymm (List.not_lt.1 h2) (List.not_lt.1 h1)
theorem zyo {a b:List UInt8} (h:a<=b) (hn:a≠b):a<b:=by
 rcases Decidable.em (a<b) with e | e
 . exact e
 . exact absurd (zbt a b e (List.not_lt.2 h)) hn
theorem ZC:∀ (l m:List (List UInt8)),zi6 l->zi6 m->(∀ x,x∈l↔x∈m)->l=m
 | [],[],_,_,_=>rfl
 | [],y :: m,_,_,h=>(by have:=(h y).2 (uP ..);cases this)
 | x :: l,[],_,_,h=>(by have:=(h x).1 (uP ..);cases this)
 | x :: l,y :: m,h1,h2,h=>by
   obtain ⟨r,u⟩:=List.pairwise_cons.1 h1;obtain ⟨j,B⟩:=List.pairwise_cons.1 h2
   have e:x=y:=by
    rcases List.mem_cons.1 ((h x).1 (uP ..)) with e | e
    . exact e
    . rcases List.mem_cons.1 ((h y).2 (uP ..)) with b | b
      . exact b.symm
      . exact absurd (r _ b) (Vk (j _ e))
   subst e
   rw [ZC l m u B (fun z=>⟨fun hz=>by
    rcases List.mem_cons.1 ((h z).1 (List.mem_cons_of_mem _ hz)) with e | e
    . exact absurd (r _ hz) (by rw [e];exact xQ _)
    . exact e,fun hz=>by
    rcases List.mem_cons.1 ((h z).2 (List.mem_cons_of_mem _ hz)) with e | e
    . exact absurd (j _ hz) (by rw [e];exact xQ _)
    . exact e⟩)]
def xh (l ns:List (List UInt8)):Prop:=zi6 l/\∀ x,x∈l↔x∈ns
theorem zdf {ss:List (List UInt8)} (l:ss.Nodup):zi6 (ss.mergeSort (fun x y=>decide (x<=y))):=by
 have e:=List.pairwise_mergeSort (le:=fun x y:List UInt8=>decide (x<=y)) (fun a b c e j=>by simp only [decide_eq_true_eq] at*;exact List.le_trans e j) (fun a b=>by simp only [Bool.or_eq_true,decide_eq_true_eq];exact List.le_total a b) ss
 have j:(ss.mergeSort (fun x y=>decide (x<=y))).Nodup:=(List.mergeSort_perm ss _).nodup_iff.2 l
 unfold zi6
 refine (e.and j).imp ?_
 rintro a b ⟨h,l⟩
 simp only [decide_eq_true_eq] at h
 exact zyo h l
theorem zcw:∀ (ns:List (List UInt8)) (x:List UInt8),x∈zof ns↔x∈ns
 | [],x=>Iff.rfl
 | y :: l,x=>by
   unfold zof
   by_cases h:y∈zof l
   rotate_left
   . rw [if_neg h,List.mem_cons,List.mem_cons,zcw l x]
   rw [if_pos h,zcw l x,List.mem_cons]
   refine ⟨.inr,fun e=>e.elim (fun e=>?_) id⟩;rw [e];exact (zcw l y).1 h
theorem zb5:∀ (ns:List (List UInt8)),(zof ns).Nodup
 | []=>List.nodup_nil
 | y :: l=>by
   unfold zof
   by_cases h:y∈zof l
   . rw [if_pos h];exact zb5 l
   rw [if_neg h];exact List.nodup_cons.2 ⟨h,zb5 l⟩
theorem zds:∀ (ns:List (List UInt8)),(zof ns).length<=ns.length
 | []=>uA
 | y :: l=>by
   have:=zds l;unfold zof
   by_cases h:y∈zof l
   . rw [if_pos h,List.length_cons];omega
   rw [if_neg h,List.length_cons,List.length_cons];omega
theorem yB (ns:List (List UInt8)):xh (ve ns) ns:=
 ⟨zdf (zb5 ns),fun x=>by unfold ve;rw [(List.mergeSort_perm _ _).mem_iff,zcw]⟩
theorem xh.eq {l ns:List (List UInt8)} (h:xh l ns):l=ve ns:=
 ZC _ _ h.1 (yB ns).1 (fun x=>(h.2 x).trans ((yB ns).2 x).symm)
theorem Z7 (ns:List (List UInt8)):(ve ns).length<=ns.length:=by
 unfold ve
 rw [List.length_mergeSort]
 exact zds ns
theorem zka {a b:List (List UInt8)} {s:List UInt8} (h:zi6 (a ++ b)) (ha:∀ x∈a,x<s) (hb:∀ x∈b,s<x):zi6 (a ++ s :: b):=by
 unfold zi6 at h |-
 rw [List.pairwise_append] at h |-
 obtain ⟨j,l,m⟩:=h
 refine ⟨j,List.pairwise_cons.2 ⟨hb,l⟩,fun x hx y e=>?_⟩
 rcases List.mem_cons.1 e with rfl | e
 . exact ha x hx
 . exact m x hx y e
theorem zwk {l ns:List (List UInt8)} {s:List UInt8} (h:xh l ns) (hs:s∈l):xh l (ns ++ [s]):=
 ⟨h.1,fun x=>by
  rw [List.mem_append,uM, <- h.2 x]
  exact ⟨.inl,fun e=>e.elim id (fun e=>by rw [e];exact hs)⟩⟩
theorem zqn {l ns:List (List UInt8)} {s:List UInt8} {p:Nat} (h:xh l ns) (hlt:∀ i (hi:i<l.length),i<p->l[i]<s) (hat:∀ hp:p<l.length,¬ l[p]<s/\l[p]≠s):xh (l.take p ++ s :: l.drop p) (ns ++ [s]):=by
 have b:l.take p ++ l.drop p=l:=List.take_append_drop p l
 refine ⟨zka (by rw [b];exact h.1) (fun x hx=>?_) (fun x hx=>?_),fun x=>?_⟩
 . obtain ⟨i,hi,rfl⟩:=List.mem_iff_getElem.1 hx
   rw [List.length_take] at hi;rw [List.getElem_take];exact hlt i (by omega) (by omega)
 . obtain ⟨i,hi,rfl⟩:=List.mem_iff_getElem.1 hx
   rw [List.length_drop] at hi;rw [List.getElem_drop];obtain ⟨m,j⟩:=hat (by omega)
   have e:s<l[p]'(by omega):=by
    rcases Decidable.em (s<l[p]'(by omega)) with h | h
    . exact h
    . exact absurd (zbt _ _ m h) j
   rcases uN i with rfl | r
   . exact e
   . exact Xh e (List.pairwise_iff_getElem.1 h.1 p (p+i) (by omega) (by omega) (by omega))
 . rw [List.mem_append,List.mem_cons,List.mem_append,uM, <- h.2 x]
   conv=>rhs;rw [<- b]
   rw [List.mem_append]
   constructor
   . rintro (h | h | h)
     . exact .inl (.inl h)
     . exact .inr h
     . exact .inl (.inr h)
   rintro ((h | h) | h)
   . exact .inl h
   . exact .inr (.inr h)
   . exact .inr (.inl h)
theorem zcx:∀ {l ns:List (List UInt8)},l.Nodup->(∀ x∈l,x∈ns)->l.length<=ns.length
 | [],_,_,_=>uB
 | a :: l,ns,hn,h=>by
   rw [List.nodup_cons] at hn;have b:=h a uP;have j:=zcx (l:=l) (ns:=ns.erase a) hn.2 (fun x hx=>(List.mem_erase_of_ne (fun e=>hn.1 (by rw [<- e];exact hx))).2 (h x (List.mem_cons_of_mem _ hx)));rw [List.length_erase_of_mem b] at j;have:=List.length_pos_of_mem b;rw [List.length_cons]
   omega
def zl8 (l:List (List UInt8)) (F:List UInt8->Option Rat):Prop:=zi6 l/\∀ x,x∈l↔(F x).isSome=true
def zzg (l:List UInt8):Rat:=(zl l).getD 0
end Go.Proofs.YtnjljgidphemdaaGreatDoor
