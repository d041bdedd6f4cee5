/- Parts of the proof. -/
import Derived.Lib.Bytealg
import Derived.Lib.Index
import Derived.Test.YthbmhkiphmcogaaGreatDoorMe09
set_option linter.all false
set_option maxRecDepth 100000
namespace Go.Proofs.YthbmhkiphmcogaaGreatDoor
open Proofs.Tryz Go.RowKit Go.Deep
abbrev str (l:List UInt8):Value:=.string ⟨l.toArray⟩
theorem zqh (s:ByteArray):str (bts s)= .string s:=by unfold bts;rfl
theorem xR (l:List UInt8):bts ⟨l.toArray⟩=l:=by unfold bts;simp
theorem VY {l:List UInt8} {c:UInt8} (h:has c l=true):Lib.indexByte l c=((ahead c l).length:Int):=by
 induction l with
 | nil=>simp [has] at h
 | cons b l ih=>
   unfold Lib.indexByte ahead
   by_cases hb:b=c
   . subst hb;simp
   have j :has c l=true:=by
    unfold has at h |-;simp only [List.contains_cons,Bool.or_eq_true,beq_iff_eq] at h
    rcases h with h | h
    . exact absurd h.symm hb
    . exact h
   have:=ih j;have e:(b == c)=false:=by simpa using hb
   have r:(b != c)=true:=by simpa using hb
   rw [e,List.takeWhile_cons_of_pos (by simpa using hb),this];unfold ahead;have m:(((List.takeWhile (fun x=>x != c) l).length:Int) == -1)=false:=by rw [beq_eq_false_iff_ne];omega
   rw [m]
   simp
theorem zhm {l:List UInt8} {c:UInt8} (h:has c l=false):Lib.indexByte l c= -1:=by
 induction l with
 | nil=>rfl
 | cons b l ih=>
   unfold has at h;simp only [List.contains_cons,Bool.or_eq_false_iff,beq_eq_false_iff_ne] at h;unfold Lib.indexByte;have j:(b == c)=false:=by rw [beq_eq_false_iff_ne];exact fun e=>h.1 e.symm
   rw [j,ih h.2];rfl
theorem zl6 (s:ByteArray) (c:Int) (w:World):
 Calls Tryz.prog 171 #[.string s,.int .u8 c] w (zbj w (.int .i64 (Lib.indexByte s.data.toList c.toNat.toUInt8))):=by
 go_enter func171,ntmps171
 go_wp2
 rw [run_callFunc_extern func183 (by kernel_rfl) (by kernel_rfl) (by kernel_rfl) (e:=Extern.BytealgIndexByte.indexByte) (by kernel_rfl),Lib.run_indexByteString]
 simp only [Result.andThen]
 rw [Oper.upon_value]
 go_wp2
 go_ret
 exact ⟨rfl,rfl⟩
theorem zh6 (s:ByteArray) (c:UInt8) (w:World):
 Calls Tryz.prog 145 #[.string s,.string ⟨#[c]⟩] w (zbj w (.int .i64 (Lib.indexByte s.data.toList c))):=by
 have h:=fun w=>zl6 s (c.toNat:Int) w
 have e:((c.toNat:Int)).toNat.toUInt8=c:=by simp
 simp only [e] at h
 cases hb:([c] == s.toList) with
 | true=>
   have b:s.data.toList=[c]:=by
    have:=beq_iff_eq.1 hb;rw [<- Lib.toList_data];exact this.symm
   have j:Lib.indexByte s.data.toList c=0:=by rw [b];simp [Lib.indexByte]
   rw [j];clear b j h
   go_enter func145,ntmps145
   go_wp2;go_ret;exact ⟨rfl,rfl⟩
 | false=>
   go_enter func145,ntmps145
   go_wp2_with fail;refine (h _).mono ?_;rintro e w' ⟨rfl,rfl⟩;go_wp2;go_ret;exact ⟨rfl,rfl⟩
def zdl (w:World) (s:ByteArray) (c:UInt8) (e:Ending) (w' :World):Prop:=
 ∃ a b,e= .returned (.tuple #[.string a,.string b,.bool (has c (bts s))])/\bts a=ahead c (bts s)/\bts b=(if has c (bts s)=true then yt c (bts s) else [])/\∃ n,w' =w.drewN n
theorem zc6 {s:ByteArray} {c:UInt8} (h:has c (bts s)=true):(ahead c (bts s)).length<s.size/\bts (s.extract 0 (ahead c (bts s)).length)=ahead c (bts s)/\bts (s.extract ((ahead c (bts s)).length+1) s.size)=yt c (bts s):=by
 have e:=znu h
 have b:(bts s).length=(ahead c (bts s)).length+1+(yt c (bts s)).length:=by
  conv=>lhs;rw [e]
  rw [List.length_append,List.length_cons];omega
 rw [zm] at b
 refine ⟨by omega,?_,?_⟩
 . rw [Zj,List.drop_zero]
   generalize ahead c (bts s)=A at e;rw [e,List.take_append_of_le_length (Nat.le_refl _),List.take_length]
 rw [Zj,List.take_of_length_le (by rw [zm];exact Nat.le_refl _)]
 generalize ahead c (bts s)=A at e;generalize yt c (bts s)=B at e;rw [e,List.drop_append]
 simp
theorem zo5 (s:ByteArray) (c:UInt8) (w:World) (hs:s.size<=1073741824):
 Calls Tryz.prog 150 #[.string s,.string ⟨#[c]⟩] w (zdl w s c):=by
 have j:=fun w=>zh6 s c w
 by_cases b:has c (bts s)=true
 rotate_left
 . have m :has c (bts s)=false:=by simpa using b
   have hi:Lib.indexByte s.data.toList c= -1:=zhm m;rw [hi] at j
   have l:Hid (zdl w s c (.returned (.tuple #[.string s,.string ⟨#[]⟩,.bool false])) w):=
    ⟨_,_,by rw [m],(Vy m).symm,by rw [if_neg b];rfl,0,rfl⟩
   clear hi b m
   go_enter func150,ntmps150
   go_wp2_with fail;refine (j _).mono ?_;rintro e w' ⟨rfl,rfl⟩;go_wp2;go_ret3;exact l.o
 obtain ⟨y,u,r⟩:=zc6 b
 have hi:Lib.indexByte s.data.toList c=((ahead c (bts s)).length:Int):=VY b;rw [hi] at j
 have l:Hid (∀ n:Nat,zdl w s c (.returned (.tuple #[.string (s.extract 0 (ahead c (bts s)).length),.string (s.extract ((ahead c (bts s)).length+1) s.size),.bool true])) (w.drewN n)):=by
  intro n;exact ⟨_,_,by rw [b],u,by rw [if_pos b];exact r,n,rfl⟩
 clear hi u r b;generalize (ahead c (bts s)).length=k at y j l
 go_enter func150,ntmps150
 go_wp2_with fail;refine (j _).mono ?_;rintro e w' ⟨rfl,rfl⟩;go_wp2_with fail
 go_quiet (fail)
 go_wp2;go_ret3;exact l.o _
theorem zt1 (s:ByteArray) (c:UInt8) (w:World) (hs:s.size<=1073741824):
 Calls Tryz.prog 120 #[.string s,.string ⟨#[c]⟩] w (zdl w s c):=by
 have h:=fun w=>zo5 s c w hs
 go_enter func120,ntmps120
 go_wp2_with fail
 refine (h _).mono ?_
 rintro e w' ⟨a,b,rfl,j,hb,n,rfl⟩
 have l:=ze j
 have m:=ze hb
 clear j hb
 go_wp2
 go_ret3
 exact ⟨a,b,rfl,l.o,m.o,n,rfl⟩
theorem znf (s:ByteArray) (c:UInt8) (w:World) (hs:s.size<=1073741824):
 Calls Tryz.prog 176 #[.string s,.string ⟨#[c]⟩] w (zbj w (.bool ((bts s).head? == some c))):=by
 by_cases u:1<=s.size
 rotate_left
 . have e:((bts s).head? == some c)=false:=by
    have:bts s=[]:=List.eq_nil_of_length_eq_zero (by rw [zm];omega);rw [this];rfl
   rw [e];have r:decide (1<=(s.size:Int))=false:=decide_eq_false (by omega);clear e
   go_enter func176,ntmps176
   go_wp2;go_ret;exact ⟨rfl,rfl⟩
 have r:decide (1<=(s.size:Int))=true:=decide_eq_true (by omega)
 have e:((s.extract 0 1).toList == [c])=((bts s).head? == some c):=by
  rw [Lib.toList_data]
  have m:(s.extract 0 1).data.toList=(bts s).take 1:=by
   have:=Zj s 0 1;rw [List.drop_zero] at this;exact this
  rw [m]
  cases hl:bts s with
  | nil=>have:=zm s;rw [hl] at this;simp at this;omega
  | cons b l=>simp
 have j:=ze e;clear e;generalize hb:((bts s).head? == some c)=b at j;clear hb
 cases hx:((s.extract 0 1).toList == [c]) with
 | true=>
   have hb:b=true:=by rw [<- hx];exact j.o.symm
   subst hb;clear j
   go_enter func176,ntmps176
   go_wp2;go_ret;exact ⟨rfl,rfl⟩
 | false=>
   have hb:b=false:=by rw [<- hx];exact j.o.symm
   subst hb;clear j
   go_enter func176,ntmps176
   go_wp2;go_ret;exact ⟨rfl,rfl⟩
def zk8 (w:World) (s:ByteArray) (e:Ending) (w' :World):Prop:=∃ u,e= .returned (.tuple #[.string u,.bool (yO (bts s))])/\bts u=zq (bts s)/\w=w'
theorem zr0 (s:ByteArray) (h:yO (bts s)=true):bts (s.extract 1 s.size)=zq (bts s):=by
 unfold zq
 rw [if_pos h,Zj,List.take_of_length_le (by rw [zm];exact Nat.le_refl _)]
 simp
theorem zds (s:ByteArray) (w:World) (hs:s.size<=1073741824):
 Calls Tryz.prog 149 #[.string s,.string ⟨#[45]⟩] w (zk8 w s):=by
 have h:=fun w=>znf s 45 w hs
 have e:((bts s).head? == some 45)=yO (bts s):=rfl
 rw [e] at h
 clear e
 cases hb:yO (bts s) with
 | true=>
   rw [hb] at h
   have l:1<=s.size:=by
    rcases Nat.eq_zero_or_pos s.size with b | b
    . have:bts s=[]:=List.eq_nil_of_length_eq_zero (by rw [zm];exact b)
      rw [this] at hb;cases hb
    . exact b
   have j:=ze (show zk8 w s (.returned (.tuple #[.string (s.extract 1 s.size),.bool true])) w from ⟨_,by rw [hb],zr0 s hb,rfl⟩);clear hb
   go_enter func149,ntmps149
   go_wp2_with fail;refine (h _).mono ?_;rintro e w' ⟨rfl,rfl⟩;go_wp2;go_ret2;exact j.o
 | false=>
   rw [hb] at h;have j:=ze (show zk8 w s (.returned (.tuple #[.string s,.bool false])) w from ⟨_,by rw [hb],(YU hb).symm,rfl⟩);clear hb
   go_enter func149,ntmps149
   go_wp2_with fail;refine (h _).mono ?_;rintro e w' ⟨rfl,rfl⟩;go_wp2;go_ret2;exact j.o
theorem zfk (s:ByteArray) (w:World) (hs:s.size<=1073741824):
 Calls Tryz.prog 119 #[.string s,.string ⟨#[45]⟩] w (zk8 w s):=by
 have h:=fun w=>zds s w hs
 go_enter func119,ntmps119
 go_wp2_with fail
 refine (h _).mono ?_
 rintro e w' ⟨u,rfl,hu,rfl⟩
 have b:=ze hu
 clear hu
 go_wp2
 go_ret2
 exact ⟨u,rfl,b.o,rfl⟩
theorem yd {a b:Bool} (h:a=b):Ending.returned (.bool b)= .returned (.bool a):=by rw [h]
theorem zpy {c:UInt8} (h:xu c=false):c.toNat<48\/57<c.toNat:=by
 unfold xu at h
 simp at h
 omega
theorem zcc {s:ByteArray} {k:Nat} (hk:k<s.size) (h:xu s[k]=false):xG (bts s)=false:=by
 unfold xG
 have:(bts s).all xu=false:=by
  rw [List.all_eq_false]
  exact ⟨s[k],by rw [<- ZL s k hk];exact List.getElem_mem _,by rw [h];simp⟩
 rw [this];rfl
theorem zm9 (s:ByteArray) (w:World) (hs:s.size<=1073741824):
 Calls Tryz.prog 151 #[.string s] w (zbj w (.bool (xG (bts s)))):=by
 go_enter func151,ntmps151
 go_wp2
 go_loop [6] (fun iv=>∃ k:Nat,k<=s.size/\iv= .int .i64 k/\Hid (∀ j (h:j<s.size),j<k->xu s[j]=true)) (fun iv=>s.size - (intOf iv).toNat)
 case atStart=>exact ⟨0,Nat.zero_le _,rfl,fun j _ h=>by omega⟩
 case round=>
  obtain ⟨k,F,rfl,y⟩:=hrel
  by_cases B:k<s.size
  rotate_left
  . obtain rfl:k=s.size:=by omega
    have r:(bts s).all xu=true:=by
     rw [List.all_eq_true];intro c E;obtain ⟨j,b,rfl⟩:=List.mem_iff_getElem.1 E;rw [zm] at b;rw [ZL s j b];exact y.o j b b
    have e:=ze (show xG (bts s)= !((s.toList).isEmpty) by unfold xG;rw [r,Lib.toList_data];rfl);clear r
    cases hb:(s.toList).isEmpty with
    | true=>
      have l:=ze (e.o.trans (by rw [hb];rfl:_=false));have I:s.toList=[]:=by simpa using hb
      clear e;go_wp2;go_ret;exact ⟨yd l.o,rfl⟩
    | false=>
      have l:=ze (e.o.trans (by rw [hb];rfl:_=true));clear e;go_wp2;go_ret;exact ⟨yd l.o,rfl⟩
  cases hd:xu s[k] with
  | true=>
    obtain ⟨u,D⟩:=Yh hd;have C:=ze hd;clear hd;go_wp2;go_round
    case rel=>
     refine ⟨k+1,by omega,by go_num,?_⟩;intro j b G
     rcases Nat.lt_or_ge j k with m | m
     . exact y.o j b m
     . obtain rfl:j=k:=by omega
       exact C.o
    case measure=>simp [intOf];omega
  | false=>
    have z:=ze (zcc B hd)
    rcases zpy hd with u | u
    . clear hd
      go_wp2;go_ret;exact ⟨yd z.o,rfl⟩
    . have D:¬ s[k].toNat<48:=by omega
      clear hd;go_wp2;go_ret;exact ⟨yd z.o,rfl⟩
theorem zrj (s:ByteArray) (h:0<s.size):(bts s).head?=some s[0]:=by
 rw [List.head?_eq_getElem?,List.getElem?_eq_getElem (by rw [zm];exact h)]
 rfl
theorem zg7 (s:ByteArray) (w:World) (hs:s.size<=1073741824):
 Calls Tryz.prog 121 #[.string s] w (zbj w (.bool (yk (bts s)))):=by
 have h:=fun w=>zm9 s w hs
 cases hd:xG (bts s) with
 | false=>
   rw [hd] at h;have b:=ze (show yk (bts s)=false by unfold yk;rw [hd];rfl);clear hd
   go_enter func121,ntmps121
   go_wp2_with fail;refine (h _).mono ?_;rintro e w' ⟨rfl,rfl⟩;go_wp2;go_ret;exact ⟨yd b.o,rfl⟩
 | true=>
   rw [hd] at h
   have y:0<s.size:=by
    unfold xG at hd;rw [Bool.and_eq_true] at hd
    rcases Nat.eq_zero_or_pos s.size with l | l
    . have:bts s=[]:=List.eq_nil_of_length_eq_zero (by rw [zm];exact l)
      rw [this] at hd;simp at hd
    . exact l
   have u:yk (bts s)=((((s[0].toNat:Int) != 48) || ((s.size:Int) == 1)) && decide ((s.size:Int)<=50000)):=by
    unfold yk;rw [hd,zrj s y,zm,Bool.true_and]
    congr 1
    rotate_left
    . rw [Bool.eq_iff_iff,decide_eq_true_iff,decide_eq_true_iff];omega
    congr 1
    rotate_left
    . rw [Bool.eq_iff_iff,beq_iff_eq,beq_iff_eq];omega
    rw [Bool.eq_iff_iff,bne_iff_ne,bne_iff_ne]
    constructor
    . intro l r;apply l;congr 1;apply UInt8.toNat_inj.1;have:(48:UInt8).toNat=48:=rfl;omega
    intro l r;apply l;injection r with r;rw [r];rfl
   have b:=ze u;clear u hd
   cases b1:((s[0].toNat:Int) != 48) with
   | true=>
     cases m:decide ((s.size:Int)<=50000) with
     | true=>
       have j:=ze (show yk (bts s)=true by rw [b.o,b1,m];rfl);clear b
       go_enter func121,ntmps121
       go_wp2_with fail;refine (h _).mono ?_;rintro e w' ⟨rfl,rfl⟩;go_wp2;go_ret;exact ⟨yd j.o,rfl⟩
     | false=>
       have j:=ze (show yk (bts s)=false by rw [b.o,b1,m];rfl);clear b
       go_enter func121,ntmps121
       go_wp2_with fail;refine (h _).mono ?_;rintro e w' ⟨rfl,rfl⟩;go_wp2;go_ret;exact ⟨yd j.o,rfl⟩
   | false=>
     cases b2:((s.size:Int) == 1) with
     | true=>
       have m:decide ((s.size:Int)<=50000)=true:=decide_eq_true (by have:=beq_iff_eq.1 b2;omega);have j:=ze (show yk (bts s)=true by rw [b.o,b1,b2,m];rfl);clear b
       go_enter func121,ntmps121
       go_wp2_with fail;refine (h _).mono ?_;rintro e w' ⟨rfl,rfl⟩;go_wp2;go_ret;exact ⟨yd j.o,rfl⟩
     | false=>
       have j:=ze (show yk (bts s)=false by rw [b.o,b1,b2];rfl);clear b
       go_enter func121,ntmps121
       go_wp2_with fail;refine (h _).mono ?_;rintro e w' ⟨rfl,rfl⟩;go_wp2;go_ret;exact ⟨yd j.o,rfl⟩
def zgy (c:UInt8):Bool:=decide (97<=c.toNat) && decide (c.toNat<=122)
def yI (c:UInt8):Bool:=zgy c || xu c || c == 45
def vQ (l:List UInt8):Bool:=decide (1<=l.length) && decide (l.length<=16) && zgy (l.headD 0) && l.all yI
theorem zgf {s:ByteArray} (h:s.size=0):s.toList=[]:=by
 have b:bts s=[]:=List.eq_nil_of_length_eq_zero (by rw [zm];exact h)
 rw [Lib.toList_data];exact b
theorem XR {s:ByteArray} (h0:0<s.size):s.toList.isEmpty=false:=by
 rw [Bool.eq_false_iff]
 intro e
 have e:=List.isEmpty_iff.1 e
 have:=congrArg List.length e
 rw [Lib.toList_data] at this
 simp at this
 rw [this] at h0
 exact absurd h0 (by decide)
theorem Xt {c:UInt8}:zgy c=true↔97<=c.toNat/\c.toNat<=122:=by
 unfold zgy;simp
theorem zb3 {c:UInt8} (h:yI c=true):(97<=c.toNat/\c.toNat<=122)\/(48<=c.toNat/\c.toNat<=57/\c.toNat<97)\/(c.toNat=45):=by
 unfold yI at h
 simp only [Bool.or_eq_true] at h
 rcases h with (h | h) | h
 . exact .inl (Xt.1 h)
 . obtain ⟨b,e⟩:=Yh h
   exact .inr (.inl ⟨b,e,by omega⟩)
 . refine .inr (.inr ?_)
   rw [beq_iff_eq] at h;rw [h];rfl
theorem YV {c:UInt8} (h:yI c=false):(c.toNat<48/\c.toNat≠45)\/(57<c.toNat/\c.toNat<97)\/(122<c.toNat):=by
 have j:¬ (97<=c.toNat/\c.toNat<=122):=by
  intro b
  have:=Xt.2 b
  unfold yI at h;rw [this] at h;simp at h
 have b:¬ (48<=c.toNat/\c.toNat<=57):=by
  intro b
  have:xu c=true:=by unfold xu;simp [b]
  unfold yI at h;rw [this] at h;simp at h
 have e:c.toNat≠45:=by
  intro e
  have:c=45:=UInt8.toNat_inj.1 e
  unfold yI at h;rw [this] at h;simp at h
 omega
theorem zg2 {s:ByteArray} (h:0<s.size):(bts s).headD 0=s[0]:=by
 have b:=ZL s 0 h
 rw [List.headD_eq_head?_getD,List.head?_eq_getElem?,List.getElem?_eq_getElem (by rw [zm];exact h),b];rfl
theorem zl1 {s:ByteArray} (h:0<s.size) (h1:zgy s[0]=false):vQ (bts s)=false:=by
 unfold vQ;rw [zg2 h,h1];simp
theorem zlx {s:ByteArray} {k:Nat} (h:k<s.size) (h1:yI s[k]=false):vQ (bts s)=false:=by
 have:(bts s).all yI=false:=by
  rw [Bool.eq_false_iff]
  intro e
  have b:=List.all_eq_true.1 e ((bts s)[k]'(by rw [zm];exact h)) (List.getElem_mem _)
  rw [ZL s k h,h1] at b;cases b
 unfold vQ;rw [this];simp
theorem zky {s:ByteArray} (h:0<s.size) (h16:s.size<=16) (h1:zgy s[0]=true) (h2:∀ j (b:j<s.size),yI s[j]=true):vQ (bts s)=true:=by
 have:(bts s).all yI=true:=by
  rw [List.all_eq_true]
  intro c e
  obtain ⟨j,b,rfl⟩:=List.mem_iff_getElem.1 e
  rw [zm] at b
  rw [ZL s j b]
  exact h2 j b
 unfold vQ;rw [this,zg2 h,h1,zm,decide_eq_true (show 1<=s.size from h),decide_eq_true h16];rfl
def vY (n:Nat) (f:Nat->Int):Int:=match n with
 | 0=>0
 | n+1=>if vY n f=0 then f n else vY n f
theorem Zf {n:Nat} {f:Nat->Int}:vY n f=0↔∀ k,k<n->f k=0:=by
 induction n with
 | zero=>simp [vY]
 | succ n ih=>
   unfold vY
   constructor
   rotate_left
   . intro h
     rw [if_pos (ih.2 fun k j=>h k (by omega))];exact h n (by omega)
   intro h k j
   by_cases b:vY n f=0
   rotate_left
   . rw [if_neg b] at h;exact absurd h b
   rw [if_pos b] at h
   rcases Nat.lt_or_ge k n with e | e
   . exact ih.1 b k e
   . obtain rfl:k=n:=by omega
     exact h
theorem xm {n k:Nat} {f:Nat->Int} (hk:k<n) (h:∀ j,j<k->f j=0) (h0:f k≠0):vY n f=f k:=by
 induction n with
 | zero=>omega
 | succ n ih=>
   unfold vY
   rcases Nat.lt_or_ge k n with b | b
   . rw [ih b,if_neg h0]
   . obtain rfl:k=n:=by omega
     rw [if_pos (Zf.2 h)]
end Go.Proofs.YthbmhkiphmcogaaGreatDoor
namespace Go.Proofs.YthbmhkiphmcogaaGreatDoor
open Proofs.Tryz
structure zR where
 name:List UInt8
 coef:List UInt8
instance:Inhabited zR:=⟨⟨[],[]⟩⟩
structure zQ where
 terms:List zR
 bound:List UInt8
instance:Inhabited zQ:=⟨⟨[],[]⟩⟩
def yG (l:List UInt8):Int:=match zp l with
 | none=>4
 | some q=>if yo 12 q then 0 else 3
def xy (l:List UInt8):Int:=match zp l with
 | none=>4
 | some q=>if q=0 then 1 else if yo 12 q then 0 else 3
def yS (last s:List UInt8) (first:Bool):Int:=if first=true\/last<s then 0 else if last=s then 6 else 1
def yC (l:List zR) (i:Nat):Int:=
 if vQ (l.getD i default).name=false then 5
 else if xy (l.getD i default).coef≠0 then xy (l.getD i default).coef
 else yS (l.getD (i - 1) default).name (l.getD i default).name (decide (i=0))
def yp (l:List zR):Int:=vY l.length (yC l)
def xa (r:zQ):Int:=if yp r.terms≠0 then yp r.terms else yG r.bound
def yg (L:List (List zR)):List (List UInt8):=L.flatMap fun l=>l.map (·.name)
def zl8:List (List UInt8)->List (List UInt8)
 | []=>[]
 | x :: l=>if x∈zl8 l then zl8 l else x :: zl8 l
def Zd (ns:List (List UInt8)):List (List UInt8):=(zl8 ns).mergeSort (fun x y=>decide (x<=y))
def vS (rs:List zQ) (more:List (List zR)):List (List UInt8):=Zd (yg (more ++ rs.map (·.terms)))
def yA (rs:List zQ):Int:=
 if 800<rs.length then 3
 else if vY rs.length (fun i=>xa (rs.getD i default))≠0 then vY rs.length (fun i=>xa (rs.getD i default))
 else if 80<(vS rs []).length then 3 else 0
def zns (l:List (List UInt8)):Prop:=l.Pairwise (· < ·)
theorem Xu (a:List UInt8):¬ a<a:=List.lt_irrefl a
theorem zcx {a b c:List UInt8} (h:a<b) (h2:b<c):a<c:=List.lt_trans h h2
theorem zc9 {a b:List UInt8} (h:a<b):¬ b<a:=fun h2=>Xu a (zcx h h2)
theorem zjl (a b:List UInt8) (h1:¬ a<b) (h2:¬ b<a):a=b:=List.le_antisymm (List.not_lt.1 h2) (List.not_lt.1 h1)
theorem zwp {a b:List UInt8} (h:a<=b) (hn:a≠b):a<b:=by
 rcases Decidable.em (a<b) with e | e
 . exact e
 . exact absurd (zjl a b e (List.not_lt.2 h)) hn
theorem XD:∀ (l m:List (List UInt8)),zns l->zns m->(∀ x,x∈l↔x∈m)->l=m
 | [],[],_,_,_=>rfl
 | [],y :: m,_,_,h=>(by have:=(h y).2 (List.mem_cons_self ..);cases this)
 | x :: l,[],_,_,h=>(by have:=(h x).1 (List.mem_cons_self ..);cases this)
 | x :: l,y :: m,h1,h2,h=>by
   obtain ⟨r,b1⟩:=List.pairwise_cons.1 h1;obtain ⟨j,b2⟩:=List.pairwise_cons.1 h2
   have e:x=y:=by
    rcases List.mem_cons.1 ((h x).1 (List.mem_cons_self ..)) with e | e
    . exact e
    . rcases List.mem_cons.1 ((h y).2 (List.mem_cons_self ..)) with b | b
      . exact b.symm
      . exact absurd (r _ b) (zc9 (j _ e))
   subst e
   rw [XD l m b1 b2 (fun z=>⟨fun hz=>by
    rcases List.mem_cons.1 ((h z).1 (List.mem_cons_of_mem _ hz)) with e | e
    . exact absurd (r _ hz) (by rw [e];exact Xu _)
    . exact e,fun hz=>by
    rcases List.mem_cons.1 ((h z).2 (List.mem_cons_of_mem _ hz)) with e | e
    . exact absurd (j _ hz) (by rw [e];exact Xu _)
    . exact e⟩)]
def xC (l ns:List (List UInt8)):Prop:=zns l/\∀ x,x∈l↔x∈ns
theorem VG {ss:List (List UInt8)} (j:ss.Nodup):zns (ss.mergeSort (fun x y=>decide (x<=y))):=by
 have e:=List.pairwise_mergeSort (le:=fun x y:List UInt8=>decide (x<=y)) (fun a b c e l=>by simp only [decide_eq_true_eq] at*;exact List.le_trans e l) (fun a b=>by simp only [Bool.or_eq_true,decide_eq_true_eq];exact List.le_total a b) ss
 have l:(ss.mergeSort (fun x y=>decide (x<=y))).Nodup:=(List.mergeSort_perm ss _).nodup_iff.2 j
 unfold zns
 refine (e.and l).imp ?_
 rintro a b ⟨h,j⟩
 simp only [decide_eq_true_eq] at h
 exact zwp h j
theorem zcp:∀ (ns:List (List UInt8)) (x:List UInt8),x∈zl8 ns↔x∈ns
 | [],x=>Iff.rfl
 | y :: l,x=>by
   unfold zl8
   by_cases h:y∈zl8 l
   rotate_left
   . rw [if_neg h,List.mem_cons,List.mem_cons,zcp l x]
   rw [if_pos h,zcp l x,List.mem_cons]
   refine ⟨.inr,fun e=>e.elim (fun e=>?_) id⟩;rw [e];exact (zcp l y).1 h
theorem za8:∀ (ns:List (List UInt8)),(zl8 ns).Nodup
 | []=>List.nodup_nil
 | y :: l=>by
   unfold zl8
   by_cases h:y∈zl8 l
   . rw [if_pos h];exact za8 l
   rw [if_neg h];exact List.nodup_cons.2 ⟨h,za8 l⟩
theorem zdg:∀ (ns:List (List UInt8)),(zl8 ns).length<=ns.length
 | []=>Nat.le_refl _
 | y :: l=>by
   have:=zdg l;unfold zl8
   by_cases h:y∈zl8 l
   . rw [if_pos h,List.length_cons];omega
   rw [if_neg h,List.length_cons,List.length_cons];omega
theorem vp (ns:List (List UInt8)):xC (Zd ns) ns:=
 ⟨VG (za8 ns),fun x=>by unfold Zd;rw [(List.mergeSort_perm _ _).mem_iff,zcp]⟩
theorem xC.eq {l ns:List (List UInt8)} (h:xC l ns):l=Zd ns:=
 XD _ _ h.1 (vp ns).1 (fun x=>(h.2 x).trans ((vp ns).2 x).symm)
theorem ZE (ns:List (List UInt8)):(Zd ns).length<=ns.length:=by
 unfold Zd
 rw [List.length_mergeSort]
 exact zdg ns
theorem zje {a b:List (List UInt8)} {s:List UInt8} (h:zns (a ++ b)) (ha:∀ x∈a,x<s) (hb:∀ x∈b,s<x):zns (a ++ s :: b):=by
 unfold zns at h |-
 rw [List.pairwise_append] at h |-
 obtain ⟨j,m,l⟩:=h
 refine ⟨j,List.pairwise_cons.2 ⟨hb,m⟩,fun x hx y e=>?_⟩
 rcases List.mem_cons.1 e with rfl | e
 . exact ha x hx
 . exact l x hx y e
theorem zt5 {l ns:List (List UInt8)} {s:List UInt8} (h:xC l ns) (hs:s∈l):xC l (ns ++ [s]):=
 ⟨h.1,fun x=>by
  rw [List.mem_append,List.mem_singleton, <- h.2 x]
  exact ⟨.inl,fun e=>e.elim id (fun e=>by rw [e];exact hs)⟩⟩
theorem zqu {l ns:List (List UInt8)} {s:List UInt8} {p:Nat} (h:xC l ns) (hlt:∀ i (hi:i<l.length),i<p->l[i]<s) (hat:∀ hp:p<l.length,¬ l[p]<s/\l[p]≠s):xC (l.take p ++ s :: l.drop p) (ns ++ [s]):=by
 have e:l.take p ++ l.drop p=l:=List.take_append_drop p l
 refine ⟨zje (by rw [e];exact h.1) (fun x hx=>?_) (fun x hx=>?_),fun x=>?_⟩
 . obtain ⟨i,hi,rfl⟩:=List.mem_iff_getElem.1 hx
   rw [List.length_take] at hi;rw [List.getElem_take];exact hlt i (by omega) (by omega)
 . obtain ⟨i,hi,rfl⟩:=List.mem_iff_getElem.1 hx
   rw [List.length_drop] at hi;rw [List.getElem_drop];obtain ⟨m,j⟩:=hat (by omega)
   have b:s<l[p]'(by omega):=by
    rcases Decidable.em (s<l[p]'(by omega)) with h | h
    . exact h
    . exact absurd (zjl _ _ m h) j
   rcases Nat.eq_zero_or_pos i with rfl | r
   . exact b
   . exact zcx b (List.pairwise_iff_getElem.1 h.1 p (p+i) (by omega) (by omega) (by omega))
 . rw [List.mem_append,List.mem_cons,List.mem_append,List.mem_singleton, <- h.2 x]
   conv=>rhs;rw [<- e]
   rw [List.mem_append]
   constructor
   . rintro (h | h | h)
     . exact .inl (.inl h)
     . exact .inr h
     . exact .inl (.inr h)
   rintro ((h | h) | h)
   . exact .inl h
   . exact .inr (.inr h)
   . exact .inr (.inl h)
end Go.Proofs.YthbmhkiphmcogaaGreatDoor
