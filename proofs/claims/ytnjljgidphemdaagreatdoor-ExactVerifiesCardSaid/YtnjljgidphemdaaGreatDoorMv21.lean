/- Parts of the proof. -/
import Derived.Test.YtnjljgidphemdaaGreatDoorMv13
import Derived.Test.YtnjljgidphemdaaGreatDoorMv11
set_option linter.all false
set_option maxRecDepth 100000
set_option maxHeartbeats 32000000
namespace Go.Proofs.YtnjljgidphemdaaGreatDoor
open Proofs.Tryz Go.RowKit Go.Deep
theorem Yt (s:ByteArray) (w:World) (hs:s.size<=1073741824):
 Calls prog 127 #[.string s] w (zba w (.bool (xu (bts s)))):=by
 go_in
 go_wp2
 go_loop [3] (fun iv=>∃ k:Nat,k<=s.size/\iv= .int .i64 k/\Hid (∀ j (h:j<s.size),j<k->xp s[j]=true)) (fun iv=>s.size - (intOf iv).toNat)
 case atStart=>exact ⟨0,uB,rfl,fun j _ h=>by omega⟩
 case round=>
  obtain ⟨k,F,rfl,y⟩:=hrel
  by_cases B:k<s.size
  rotate_left
  . obtain rfl:k=s.size:=by omega
    have m:(bts s).all xp=true:=by
     rw [List.all_eq_true];intro c E;obtain ⟨j,b,rfl⟩:=List.mem_iff_getElem.1 E;rw [zm] at b;rw [Z6 s j b];exact y.o j b b
    have e:=ze (show xu (bts s)= !((s.toList).isEmpty) by unfold xu;rw [m,Lib.toList_data];rfl);clear m
    cases hb:(s.toList).isEmpty with
    | true=>
      have l:=ze (e.o.trans (by rw [hb];rfl:_=false));have G:s.toList=[]:=by simpa using hb
      clear e;go_wp2;go_ret;exact ⟨ya l.o,rfl⟩
    | false=>
      have l:=ze (e.o.trans (by rw [hb];rfl:_=true));clear e;go_wp2;go_ret;exact ⟨ya l.o,rfl⟩
  cases hd:xp s[k] with
  | true=>
    obtain ⟨r,C⟩:=ZQ hd;have D:=ze hd;clear hd;go_wp2;go_round
    case rel=>
     refine ⟨k+1,by omega,by go_num,?_⟩;intro j b I
     rcases uL j k with u | u
     . exact y.o j b u
     . obtain rfl:j=k:=by omega
       exact D.o
    case measure=>simp [intOf];omega
  | false=>
    have z:=ze (zco B hd)
    rcases zp5 hd with r | r
    . clear hd
      go_wp2;go_ret;exact ⟨ya z.o,rfl⟩
    . have C:¬ s[k].toNat<48:=by omega
      clear hd;go_wp2;go_ret;exact ⟨ya z.o,rfl⟩
theorem ztv {c:UInt8} {l:List UInt8} {k:Nat} (hk:k<l.length) (h:∀ j (hj:j<l.length),j<k->l[j]≠c) (hc:l[k]=c):has c l=true/\(ahead c l).length=k:=by
 induction l generalizing k with
 | nil=>simp at hk
 | cons b l ih=>
   cases k with
   | zero=>
     simp at hc;subst hc
     constructor
     . simp [has]
     simp [ahead]
   | succ k=>
     have e:b≠c:=h 0 (by simp) (by omega);have:=ih (k:=k) (by simpa using hk) (fun j hj hlt=>by have:=h (j+1) (by simpa using hj) (by omega);simpa using this) (by simpa using hc)
     constructor
     . unfold has at this |-
       simp only [List.contains_cons,Bool.or_eq_true];exact .inr this.1
     unfold ahead at this |-
     rw [List.takeWhile_cons_of_pos (by simpa using e),List.length_cons,this.2]
theorem zvi {c:UInt8} {l:List UInt8} (h:∀ j (b:j<l.length),l[j]≠c):has c l=false:=by
 unfold has
 rw [Bool.eq_false_iff]
 intro m
 have:=List.contains_iff_mem.1 m
 obtain ⟨j,b,e⟩:=List.mem_iff_getElem.1 this
 exact h j b e
theorem zv1 (s:ByteArray) (c:UInt8) (w:World) (hs:s.size<=1073741824):
 Calls prog 126 #[.string s,.int .u8 (c.toNat:Int)] w (zdm w s c):=by
 have K:=UInt8.toNat_lt c
 go_in
 go_wp2_with fail
 go_loop [7] (fun iv=>∃ k:Nat,k<=s.size/\iv= .int .i64 k/\Hid (∀ j (h:j<s.size),j<k->s[j]≠c)) (fun iv=>s.size - (intOf iv).toNat)
 case atStart=>exact ⟨0,uB,rfl,fun j _ h=>by omega⟩
 case round=>
  obtain ⟨k,I,rfl,u⟩:=hrel
  by_cases C:k<s.size
  rotate_left
  . obtain rfl:k=s.size:=by omega
    have m:=zvi (c:=c) (l:=bts s) (fun j b=>by rw [zm] at b;rw [Z6 s j b];exact u.o j b b)
    have B:Hid (zdm w s c (.returned (.tuple #[.string s,.string ⟨#[]⟩,.bool false])) w):=
     ⟨_,_,by rw [m],(V5 m).symm,by rw [m];rfl,0,rfl⟩
    clear m;go_wp2;go_ret3;exact B.o
  by_cases hd:s[k]=c
  . have F:((s[k].toNat:Int) == (c.toNat:Int))=true:=by rw [hd];simp
    obtain ⟨m,D⟩:=ztv (c:=c) (l:=bts s) (k:=k) (by rw [zm];exact C) (fun j b E=>by rw [zm] at b;rw [Z6 s j b];exact u.o j b E) (by rw [Z6 s k C];exact hd);obtain ⟨r,y,z⟩:=zex m;rw [D] at y z
    have B:Hid (∀ n:Nat,zdm w s c (.returned (.tuple #[.string (s.extract 0 k),.string (s.extract (k+1) s.size),.bool true])) (w.drewN n)):=by
     intro n;exact ⟨_,_,by rw [m],y,by rw [if_pos m];exact z,n,rfl⟩
    have J:(k:Int)+1<=(s.size:Int):=by omega
    clear m D r y z hd;go_wp2
    go_quiet (fail)
    go_wp2;go_ret3;exact B.o _
  have F:((s[k].toNat:Int) == (c.toNat:Int))=false:=by
   rw [beq_eq_false_iff_ne];intro e;exact hd (UInt8.toNat_inj.1 (by omega))
  have G:=ze hd;clear hd;go_wp2;go_round
  case rel=>
   refine ⟨k+1,by omega,by go_num,?_⟩;intro j b E
   rcases uL j k with r | r
   . exact u.o j b r
   . obtain rfl:j=k:=by omega
     exact G.o
  case measure=>simp [intOf];omega
def zy2 (L:List UInt8) (w:World) (sv ov:Value) (wr:World):Prop:=
 ∃ (t:ByteArray) (O:List Nat),sv= .string t/\t.size+O.length<=L.length/\Hid ((bts t).all xp=true)/\zF 1000000000 O/\Hid (zE L=zE (bts t)*1000000000 ^ O.length+val 1000000000 O)/\
  wr.ownsRow w.heap.size 3 1 ov O.length (ZL O)/\Below w.heap.size w wr
def SizI (t:ByteArray) (f:Nat) (nv iv:Value):Prop:=∃ i n:Nat,f<=i/\i<=t.size/\iv= .int .i64 i/\nv= .int .i64 n/\Hid (n=zE (((bts t).drop f).take (i - f)))
theorem zdo {l:List UInt8} (h:l.all xp=true) (f i:Nat) (hi:i - f<=9):zE ((l.drop f).take (i - f))<1000000000:=by
 have b:=Vg (zg7 (zs2 h f) (i - f))
 have e:=zbu hi
 have j:10 ^ ((l.drop f).take (i - f)).length<=10 ^ (i - f):=Nat.pow_le_pow_right (by omega) (by rw [List.length_take];omega)
 omega
theorem zg1 {t:ByteArray} {f i:Nat} (hf:f<=i) (hi:i<t.size):zE (((bts t).drop f).take (i+1 - f))=10*zE (((bts t).drop f).take (i - f))+dig t[i]:=by
 have e:i+1 - f=(i - f)+1:=by omega
 have b:i - f<((bts t).drop f).length:=by rw [List.length_drop,zm];omega
 rw [e,XN b,List.getElem_drop]
 congr 2
 have:f+(i - f)=i:=by omega
 simp only [this]
 exact Z6 t i hi
theorem zy2.step {L:List UInt8} {w wr w2:World} {t:ByteArray} {O:List Nat} {ov ov2:Value} {o:Obj} {f n:Nat} (ht:t.size+O.length<=L.length) (h0:0<t.size) (hf:f=t.size - 9) (HD:Hid ((bts t).all xp=true)) (hsO:zF 1000000000 O)
 (HV:Hid (zE L=zE (bts t)*1000000000 ^ O.length+val 1000000000 O)) (hown:wr.ownsRow w.heap.size 3 1 ov O.length (ZL O)) (hbl:Below w.heap.size w wr)
 (hn:n=zE (((bts t).drop f).take (t.size - f))) (hown2:w2.ownsRow w.heap.size 3 1 ov2 (O.length+1) (ZL O ++ [.int .i64 (n:Int)])) (hg:(wr.alloc o).grownBy w2 ov.ownBlock):
 zy2 L w (.string (t.extract 0 f)) ov2 w2:=by
 have e:n<1000000000:=by rw [hn];exact zdo HD.o f t.size (by omega)
 have r:f<=t.size:=by omega
 have b:bts (t.extract 0 f)=(bts t).take f:=by have:=Zb t 0 f;rw [List.drop_zero] at this;exact this
 have l:(t.extract 0 f).size=f:=by rw [<- zm,b,List.length_take,zm];omega
 refine ⟨_,O ++ [n],rfl,by rw [l,List.length_append];simp;omega,?_,hsO.append (zF.cons e (zF.nil _)),?_,?_,?_⟩
 . rw [b];exact zg7 HD.o f
 . show _=_
   have hdr:((bts t).drop f).take (t.size - f)=(bts t).drop f:=uJ (by rw [List.length_drop,zm];exact uA)
   have j:zE (bts t)=zE ((bts t).take f)*10 ^ (t.size - f)+n:=by
    conv=>lhs;rw [<- List.take_append_drop f (bts t)]
    rw [X0,List.length_drop,zm,hn,hdr]
   rw [HV.o,j,b,ZK,List.length_append,List.length_singleton,Nat.pow_succ]
   by_cases m:9<=t.size
   . have:t.size - f=9:=by omega
     rw [this,show (10:Nat) ^ 9=1000000000 by decide,Nat.add_mul,Nat.mul_assoc,uH 1000000000 (1000000000 ^ O.length),uH n]
     omega
   have:f=0:=by omega
   subst this;rw [List.take_zero,zfs,Nat.zero_mul,Nat.zero_mul,Nat.zero_add,Nat.zero_add,uH n]
   omega
 . rw [List.length_append,VN]
   exact hown2
 . exact (hbl.alloc hbl.size o).grown hg (by have:=hbl.size;simp;omega) (fun k hk=>(hown.lt k hk).1)
theorem zdc (s:ByteArray) (w:World) (hd:(bts s).all xp=true) (hs:s.size<=1000000):
 Calls prog 128 #[.string s] w (zge w (zE (bts s))):=by
 have HD:=ze hd
 have F:=ze (show (bts s).length=s.size from zm s)
 clear hd
 obtain ⟨X,af,Q,U,Z⟩:=info_parts zfz
 go_in
 go_wp2
 go_loopw [0,3] (zy2 (bts s) w) (fun sv _ _=>match sv with | .string t=>t.size | _=>0)
 case atStart=>exact ⟨s,[],rfl,by rw [zm];simp,HD,zF.nil _,by simp [Hid,val],World.ownsRow_nil _ _ _ _,yR _⟩
 case round=>
  obtain ⟨t,O,rfl,C,z,L,M,j,m⟩:=hrel
  rw [F.o] at C
  by_cases S:0<t.size
  rotate_left
  . have K:bts t=[]:=uI (by rw [zm];omega)
    have HE:=ze (show val 1000000000 O=zE (bts s) by have:=M.o;rw [K,zfs] at this;omega);obtain ⟨g,cg,rfl,ab,B,b⟩:=za3 j;have Y:=ze B;have R:O.length<=1000000:=by omega
    clear B K;go_wp2_with (go_at_call 165;refine (Yn _ _ _ _ _ _ b L ab Y.o).mono ?_;rintro e w' ⟨v,rfl,ac,rfl⟩);go_ret;exact ⟨v,rfl,by rw [<- HE.o];exact ac,m⟩
  obtain ⟨f,I⟩:=uQ (t.size - 9)
  rcases (show 9<=t.size\/t.size<9 by omega) with h9 | h9
  all_goals
   have ah:max ((t.size:Int) - 9) 0=(f:Int):=by omega
   have ad:f<=t.size:=by omega
   have r:=ze I;clear I;go_wp2_with fail
   go_loop [5,6] (SizI t f) (fun _ iv=>t.size - (intOf iv).toNat)
   case atStart=>exact ⟨f,0,uA,ad,rfl,rfl,by rw [Nat.sub_self,List.take_zero];rfl⟩
   case round=>
    obtain ⟨i,n,N,ag,rfl,rfl,y⟩:=hrel
    by_cases l:i<t.size
    . have ai:n<1000000000:=by rw [y.o];exact zdo z.o f i (by have:=r.o;omega)
      have J:xp t[i]=true:=by
       have:=List.all_eq_true.1 z.o _ (uO (show i<(bts t).length by rw [zm];exact l))
       rwa [Z6 t i l] at this
      obtain ⟨c1,c2⟩:=ZQ J;clear J;go_wp2;go_round
      case rel=>
       refine ⟨i+1,10*n+(t[i].toNat - 48),by omega,by omega,by go_num,congrArg _ (by omega),?_⟩
       show _=_
       rw [zg1 N l, <- y.o]
       rfl
      case measure=>simp [intOf];omega
    obtain rfl:i=t.size:=by omega
    have R:O.length<=1000000:=by omega
    have b:=xF wr 3 (.int .i64 (n:Int))
    have G:∀ u∈[Value.int .i64 (n:Int)],u.oneCell' =true:=by
     intro u hu;rw [uM] at hu;subst hu;rfl
    go_wp2_with (at_builtin;refine ym _ rfl (.tmp 29) (.tmp 31) _ rfl w.heap.size 3 X _ 1 8 underlying110 af Q U Z rfl (by omega) _ O.length (ZL O) rfl (j.alloc _) _ (some ⟨wr.heap.size,0,none⟩) 1 1 _ rfl b G ?o2 ?o3 ?o4 ?_)
    case o2=>unfold maxLen;omega
    case o3=>omega
    case o4=>have:=m.size;simp;omega
    intro v3 w3 E D T;have V:=ze E;have aa:=ze D;clear E D T b G;go_wp2;go_roundw
    case rel=>exact zy2.step (by rw [F.o];exact C) S r.o z L M j m y.o V.o aa.o
    case measure=>
     have e:(t.extract 0 f).size=f:=by
      have ae:bts (t.extract 0 f)=(bts t).take f:=by have:=Zb t 0 f;rw [List.drop_zero] at this;exact this
      rw [<- zm,ae,List.length_take,zm];omega
     show (t.extract 0 f).size<t.size
     rw [e];have:=r.o
     omega
def WriR (da:List Nat) (w:World) (ov iv:Value) (wr:World):Prop:=
 ∃ (k:Nat) (l:List Nat),k<=da.length/\iv= .int .i64 k/\ov=str ((l.map chr).reverse)/\Hid (l ++ digs 10 (val 1000000000 (da.drop k))=digs 10 (val 1000000000 da))/\wr=w
def WriI (da:List Nat) (k:Nat) (ov nv iv:Value):Prop:=
 ∃ (i r:Nat) (l:List Nat),i<=9/\iv= .int .i64 i/\nv= .int .i64 r/\r<1000000000/\Hid (r<10 ^ (9 - i))/\ov=str ((l.map chr).reverse)/\
  Hid (l ++ digs 10 (r+val 1000000000 (da.drop (k+1))*10 ^ (9 - i))=digs 10 (val 1000000000 da))
theorem zme {da:List Nat} (hc:yZ 1000000000 da) {k:Nat} (hk:k<da.length):0<val 1000000000 (da.drop (k)):=by
 have b:da.drop k≠[]:=by intro e;have:=congrArg List.length e;simp at this;omega
 have j:yZ 1000000000 (da.drop k):=by
  refine ⟨hc.1.drop k,?_⟩
  rw [List.getLast?_drop,if_neg (by omega)]
  exact hc.2
 rcases uN (val 1000000000 (da.drop k)) with e | e
 . exact absurd ((j.zero_iff (by omega)).1 e) b
 . exact e
theorem zk2 (r:Nat):Utf8.encode (48+(r:Int) % 10)=⟨#[chr (r % 10)]⟩:=by
 have e:(48+(r:Int) % 10)=((48+r % 10:Nat):Int):=by omega
 rw [e]
 have v:Utf8.valid ((48+r % 10:Nat):Int)=true:=by simp [Utf8.valid];omega
 have j:48+r % 10<128:=by omega
 have b:((48+r % 10:Nat):Int).toNat=48+r % 10:=by omega
 simp only [Utf8.encode,v,b,j,if_true]
 unfold chr
 rfl
theorem zv4 {l:List Nat} {m a:Nat} (h:l ++ digs 10 m=digs 10 a) (ha:len 1000000000 a<=33554432):l.length<=301989888:=by
 have j:=congrArg List.length h
 rw [List.length_append] at j
 have r:(digs 10 a).length=len 10 a:=rfl
 have u:len 10 a<=9*len 1000000000 a:=by
  apply y8 (by omega)
  have e:=vm (β:=1000000000) (by omega) a
  have b:(1000000000:Nat)=10 ^ 9:=by decide
  rw [b, <- Nat.pow_mul, <- b] at e
  exact e
 omega
theorem zl5 (l:List Nat) (d:Nat):(⟨#[chr d]⟩:ByteArray) ++ (⟨((l.map chr).reverse).toArray⟩:ByteArray)=⟨(((l ++ [d]).map chr).reverse).toArray⟩:=by
 apply ByteArray.ext
 rw [ByteArray.data_append]
 simp
theorem wrn {l:List Nat} {r m a:Nat} (h:l ++ digs 10 m=digs 10 a) (ha:len 1000000000 a<=33554432)
 (hc:9223372036854775807<(Utf8.encode (48+(r:Int) % 10)).size+l.length):False:=by
 rw [zk2 r] at hc
 have:(⟨#[chr (r % 10)]⟩:ByteArray).size=1:=rfl
 have:=zv4 h ha
 omega
theorem xH (va:Value) (a:Nat) (w:World) (ha:zz w va a) (hla:len 1000000000 a<=33554432):
 Calls prog 159 #[va] w (zba w (str (dec a))):=by
 obtain ⟨A,ca,b,rfl,j,U,X,z,rfl⟩:=ha
 have Q:=ze hla
 rw [<- z.length_eq (by omega)] at hla
 have Y:=z.1
 have T:b.length=0\/0<b.length:=by omega
 by_cases L:b.length=0
 . have e:b=[]:=uI L
   subst e
   go_in
   go_wp2;go_ret;exact ⟨by rw [vX,vG];rfl,rfl⟩
 have ad:((b.length:Int) == 0)=false:=by rw [beq_eq_false_iff_ne];omega
 have N:=ze z;have aa:0<b.length:=by omega
 clear z L T
 go_in
 go_wp2_with fail
 go_loop [3,4] (fun ov iv=>WriR b w ov iv w) (fun _ iv=>b.length - (intOf iv).toNat)
 case atStart=>exact ⟨0,[],uB,rfl,rfl,rfl,rfl⟩
 case round=>
  obtain ⟨k,l,hk,rfl,rfl,m,_⟩:=hrel
  by_cases y:k<b.length
  rotate_left
  . obtain rfl:k=b.length:=by omega
    have E:=ze (show (l.map chr).reverse=dec (val 1000000000 b) by
     have j:=m.o;rw [List.drop_length,vX,Z4,List.append_nil] at j
     exact zma (by have:=zme N.o (k:=0) (by omega);rw [List.drop_zero] at this;omega) j)
    rw [E.o];go_wp2;go_ret;exact ⟨rfl,rfl⟩
  obtain ⟨ae,u,rfl,ab,C,ac⟩:=X.at_ y
  rw [vH y] at C;injection C with C
  subst C;have Z:b[k]<1000000000:=Y.get k y;have S:=ze Z;go_wp2_with fail
  go_loop [3,5,6] (WriI b k) (fun _ _ iv=>9 - (intOf iv).toNat)
  case atStart=>
   refine ⟨0,b[k],l,by omega,rfl,rfl,S.o,?_,rfl,?_⟩
   . show _<10 ^ 9
     exact S.o
   show _=_
   have:=m.o;rw [Yf _ _ _ y] at this;rw [show (10:Nat) ^ (9 - 0)=1000000000 by decide,uH];exact this
  case round=>
   clear m;obtain ⟨i,r,l,hi,rfl,rfl,hr,I,rfl,m⟩:=hrel
   by_cases K:i<9/\(k+1<b.length\/0<r)
   . obtain ⟨D,M⟩:=K
     by_cases G:k+1<b.length
     . have O:(k:Int)<(b.length:Int) - 1:=by omega
       clear M;go_wp2_with fail
       case isTrue=>exact (wrn (r:=r) m.o Q.o ‹_›).elim
       go_round
       case rel=>
        obtain ⟨J,F⟩:=zdy D (.inl (zme N.o G)) m.o I.o;exact ⟨i+1,r / 10,l ++ [r % 10],by omega,by go_num,by go_num,by omega,F,by rw [zk2,zl5],J⟩
       case measure=>simp [intOf];omega
     have O:¬ (k:Int)<(b.length:Int) - 1:=by omega
     have af:(0:Int)<(r:Int):=by omega
     have V:=ze (show 0<r by omega);clear M;go_wp2_with fail
     case isTrue=>exact (wrn (r:=r) m.o Q.o ‹_›).elim
     go_round
     case rel=>
      obtain ⟨J,F⟩:=zdy D (.inr V.o) m.o I.o;exact ⟨i+1,r / 10,l ++ [r % 10],by omega,by go_num,by go_num,by omega,F,by rw [zk2,zl5],J⟩
     case measure=>simp [intOf];omega
   have E:Hid (l ++ digs 10 (val 1000000000 (b.drop (k+1)))=digs 10 (val 1000000000 b)):=by
    have j:=m.o;have U:=I.o
    show _=_
    by_cases D:i<9
    . have G:b.length<=k+1:=by omega
      have B:r=0:=by omega
      rw [List.drop_of_length_le G,vX] at j |-;rw [B,Nat.zero_mul] at j;exact j
    have R:i=9:=by omega
    subst R
    have B:r=0:=by
     have:(10:Nat) ^ (9 - 9)=1:=by decide
     omega
    rw [B,show (10:Nat) ^ (9 - 9)=1 by decide,Nat.mul_one,Nat.zero_add] at j;exact j
   by_cases D:i<9
   rotate_left
   . have R:i=9:=by omega
     clear K;go_wp2;go_round
     case rel=>exact ⟨k+1,l,by omega,by go_num,rfl,E.o,rfl⟩
     case measure=>simp [intOf];omega
   have O:¬ (k:Int)<(b.length:Int) - 1:=by omega
   have B:¬ (0:Int)<(r:Int):=by omega
   clear K;go_wp2;go_round
   case rel=>exact ⟨k+1,l,by omega,by go_num,rfl,E.o,rfl⟩
   case measure=>simp [intOf];omega
def XV (M:Nat) (q:Rat):Prop:=len 1000000000 q.num.natAbs<=M/\len 1000000000 q.den<=M
theorem zrc {a M:Nat} (h:len 1000000000 a<=M):(dec a).length<=9*M+1:=by
 apply X2 _ (by omega)
 have b:=vm (β:=1000000000) (by omega) a
 have e:(1000000000:Nat)=10 ^ 9:=by decide
 rw [e, <- Nat.pow_mul, <- e] at b
 exact uK b (Nat.pow_le_pow_right (Nat.zero_lt_succ _) (by omega))
theorem zmy {a:Nat} (h:len 1000000000 a<=33554432):(dec a).length<=301989889:=zrc h
theorem vW.form {w:World} {v:Value} {q:Rat} (h:vW w v q):∃ ng A c B d,v= .agg #[.bool ng,.slice A (len 1000000000 q.num.natAbs) c,.slice B (len 1000000000 q.den) d]/\ng=decide (q.num<0)/\
 zz w (.slice A (len 1000000000 q.num.natAbs) c) q.num.natAbs/\zz w (.slice B (len 1000000000 q.den) d) q.den:=by
 obtain ⟨ng,A,n,c,B,m,d,rfl,l,e,j⟩:=h
 obtain ⟨A',c',b⟩:=e.form
 obtain ⟨u,d',r⟩:=j.form
 injection b with b e2' e3
 injection r with f1 f2 f3
 subst b e2' e3 f1 f2 f3
 exact ⟨_,_,_,_,_,rfl,l,e,j⟩
theorem zou (ng:Bool) (q:Rat) (h:ng=decide (q.num<0)):zI q=(if ng then [45] else []) ++ dec q.num.natAbs ++ (if q.den=1 then [] else 47 :: dec q.den):=by
 unfold zI;rw [h];by_cases b:q.num<0<;>simp [b]
theorem zcz (va:Value) (q:Rat) (w:World) (ha:vW w va q) (hl:XV 33554432 q):
 Calls prog 104 #[va] w (zmj w (zI q)):=by
 obtain ⟨ng,A,c,B,d,rfl,L,K,N⟩:=ha.form
 have b:=ze (zf w (.cells #[.bool ng,.slice A (len 1000000000 q.num.natAbs) c,.slice B (len 1000000000 q.den) d] 112))
 have j:=ze (K.below b.o)
 have r:=N.below b.o
 have y:=ze r
 have C:=ze hl.1
 have G:=ze hl.2
 have F:=zmy C.o
 have J:=zmy G.o
 have D:=ze (zou ng q L)
 clear ha K N hl L
 generalize T:len 1000000000 q.num.natAbs=n at j b y r |-
 clear T
 by_cases hd:q.den=1
 . have l:len 1000000000 q.den=1:=by rw [hd];exact vZ (by omega) (by omega)
   obtain ⟨Q,rfl,I,V,E⟩:=r.first l;rw [l] at j b E |-;rw [hd] at E;have u:=ze hd;clear hd r l I J y
   cases ng
   . go_in
     go_wp2_with fail;refine (xH _ q.num.natAbs _ j.o C.o).mono ?_;rintro e z ⟨rfl,rfl⟩;go_wp2;go_ret;refine ⟨?_,b.o⟩;rw [D.o,if_pos u.o];apply congrArg (fun x=>Ending.returned (Value.string x));apply ByteArray.ext;simp
   have M:¬ 9223372036854775807<(dec q.num.natAbs).length+1:=by omega
   clear F
   go_in
   go_wp2_with fail;refine (xH _ q.num.natAbs _ j.o C.o).mono ?_;rintro e z ⟨rfl,rfl⟩;go_wp2;go_ret;refine ⟨?_,b.o⟩;rw [D.o,if_pos u.o];apply congrArg (fun x=>Ending.returned (Value.string x));apply ByteArray.ext;simp
 by_cases l:len 1000000000 q.den=1
 rotate_left
 . have X:((len 1000000000 q.den:Int) != 1)=true:=by rw [bne_iff_ne];omega
   have u:=ze hd;have M:¬ 9223372036854775807<(dec q.num.natAbs).length+1:=by omega
   have R:¬ 9223372036854775807<(dec q.den).length+1:=by omega
   have S:¬ 9223372036854775807<(dec q.num.natAbs).length+((dec q.den).length+1):=by omega
   have O:¬ 9223372036854775807<(dec q.num.natAbs).length+1+((dec q.den).length+1):=by omega
   generalize U:len 1000000000 q.den=m at j b y X |-;clear hd r l F J U
   cases ng
   all_goals
    go_in
    go_wp2_with fail;refine (xH _ q.num.natAbs _ j.o C.o).mono ?_;rintro e z ⟨rfl,rfl⟩;go_wp2_with fail;refine (xH _ q.den _ y.o G.o).mono ?_;rintro e z ⟨rfl,rfl⟩;go_wp2;go_ret;refine ⟨?_,b.o⟩;rw [D.o,if_neg u.o];apply congrArg (fun x=>Ending.returned (Value.string x));apply ByteArray.ext;simp
 obtain ⟨Q,rfl,I,V,E⟩:=r.first l
 have Y:((q.den:Int) != 1)=true:=by rw [bne_iff_ne];omega
 rw [l] at j b y E |-;have u:=ze hd;have M:¬ 9223372036854775807<(dec q.num.natAbs).length+1:=by omega
 have R:¬ 9223372036854775807<(dec q.den).length+1:=by omega
 have S:¬ 9223372036854775807<(dec q.num.natAbs).length+((dec q.den).length+1):=by omega
 have O:¬ 9223372036854775807<(dec q.num.natAbs).length+1+((dec q.den).length+1):=by omega
 clear hd r l I F J
 cases ng
 all_goals
  go_in
  go_wp2_with fail;refine (xH _ q.num.natAbs _ j.o C.o).mono ?_;rintro e z ⟨rfl,rfl⟩;go_wp2_with fail;refine (xH _ q.den _ y.o G.o).mono ?_;rintro e z ⟨rfl,rfl⟩;go_wp2;go_ret;refine ⟨?_,b.o⟩;rw [D.o,if_neg u.o];apply congrArg (fun x=>Ending.returned (Value.string x));apply ByteArray.ext;simp
end Go.Proofs.YtnjljgidphemdaaGreatDoor
