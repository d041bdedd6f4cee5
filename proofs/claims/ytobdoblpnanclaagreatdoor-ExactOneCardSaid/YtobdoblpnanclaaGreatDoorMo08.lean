/- Parts of the proof. -/
import Derived.Deep.DeepMust
import Derived.Maps.AppendAt
import Derived.OwnWalk
import Derived.RegionTactic
import Derived.Test.YtobdoblpnanclaaGreatDoorMo07
set_option linter.all false
namespace Go.Proofs.YtobdoblpnanclaaGreatDoor
open Proofs.Tryz Go.RowKit Go.Deep
section
variable {P:Program} (w:World)
theorem zae (base:Nat) (t ty e:TypeId) (i:TypeInfo) (size:Nat) (ht:P.underlying t=some (.slice e)) (hi:P.info? e=some i)
 (v:Value) (n:Nat) (xs:List Value) (hown:w.ownsRow base e size v n xs) (c:Nat):(Builtin.append_ #[t,t] ty #[v,.slice none 0 c]).run P w= .ok v w:=by
 rcases hown.2 with ⟨rfl,rfl⟩ | ⟨g,l,j,rfl,_,_,b,_⟩
 . simp [Builtin.append_,run_underlying ht,sizeOf,typeInfo,hi,Builtin.lenOf,Builtin.firstCells]
 . simp [Builtin.append_,run_underlying ht,sizeOf,typeInfo,hi,Builtin.lenOf,Builtin.firstCells,b,storeCells]
theorem zd3 (base:Nat) (t ty e:TypeId) (i:TypeInfo) (z:Value) (size bytes:Nat) (ht:P.underlying t=some (.slice e)) (hi:P.info? e=some i) (hz:i.zero=some z)
 (hsize:i.size=size) (hby:i.bytes=bytes) (hzs:z.cells.size=size) (hsz:0<size)
 (v:Value) (n:Nat) (xs:List Value) (hown:w.ownsRow base e size v n xs)
 (B:Nat) (A:Option Addr) (m c:Nat) (news:List Value) (hr:ys w B size A m news) (h1:∀ u∈news,u.oneCell' =true)
 (h63:n+m<=maxLen) (hbytes:(n+m)*bytes<=140737488355328) (hbase:base<=w.heap.size):
 ∃ l w',(Builtin.append_ #[t,t] ty #[v,.slice A m c]).run P w= .ok l w' /\w'.ownsRow base e size l (n+m) (xs ++ news)/\w.grownBy w' v.ownBlock/\
  (l.ownBlock=v.ownBlock\/l.ownBlock=some w.heap.size):=by
 rcases A with _ | y
 . have C:m=0:=by
    rcases uN m with b | b
    . exact b
    . obtain ⟨y,h,_⟩:=hr.2 b
      cases h
   subst C;have r:news=[]:=uI (by simpa using hr.1);subst r;exact ⟨v,w,zae w base t ty e i size ht hi v n xs hown c,by simpa using hown,World.grownBy.refl w _,.inl rfl⟩
 . have J:∀ j u,news[j]?=some u->w.cell? (y.add j)=some u:=by
    intro j u hu
    rcases uN m with b | b
    . subst b
      have r:news=[]:=uI (by simpa using hr.1);subst r;simp at hu
    . obtain ⟨K,h,_,I⟩:=hr.2 b
      injection h with h
      subst h;exact I j u hu
   obtain ⟨l,w',D,E,G,_,F⟩:=run_append_own_at (P:=P) w base t ty e i z size bytes ht hi hz hsize hby hzs hsz v n xs hown y m c news hr.1 J h1 h63 hbytes hbase;exact ⟨l,w',D,E,G,F⟩
theorem zfa {o:Oper} {a:Act} {K:Act->World->Prop} {Q:Exit->Act->World->Prop} (s x:Operand) (t:TypeId)
 (ho:o.op= .call { callee:=.builtin .append,args:=#[s,x],argTypes:=#[t,t] })
 (base:Nat) (e:TypeId) (i:TypeInfo) (z:Value) (size bytes:Nat) (ht:P.underlying t=some (.slice e)) (hi:P.info? e=some i) (hz:i.zero=some z)
 (hsize:i.size=size) (hby:i.bytes=bytes) (hzs:z.cells.size=size) (hsz:0<size)
 (v:Value) (n:Nat) (xs:List Value) (hs:a.eval s=v) (hown:w.ownsRow base e size v n xs)
 (B:Nat) (A:Option Addr) (m c:Nat) (news:List Value) (hx:a.eval x= .slice A m c) (hr:ys w B size A m news) (h1:∀ u∈news,u.oneCell' =true)
 (h63:n+m<=maxLen) (hbytes:(n+m)*bytes<=140737488355328) (hbase:base<=w.heap.size)
 (h:∀ b w',w'.ownsRow base e size b (n+m) (xs ++ news)->w.grownBy w' v.ownBlock->(b.ownBlock=v.ownBlock\/b.ownBlock=some w.heap.size)->K (a.put o.dst b) w'):o.wp P a w K Q:=by
 obtain ⟨b,w',j,l,y,r⟩:=zd3 (P:=P) w base t o.type e i z size bytes ht hi hz hsize hby hzs hsz v n xs hown B A m c news hr h1 h63 hbytes hbase
 unfold Oper.wp execOp
 simp only [ho,resolve,invoke,builtin,Sem.run_bind,Sem.run_pure,Result.andThen_ok,List.map_toArray,List.map_cons,List.map_nil,hs,hx,j]
 exact h b w' l y r
theorem Zf {ops:Array Oper} {rest:List Oper} {o:Oper} {a:Act} {Q:Exit->Act->World->Prop} (hgd:o.guard=none) (s x:Operand) (t:TypeId)
 (ho:o.op= .call { callee:=.builtin .append,args:=#[s,x],argTypes:=#[t,t] })
 (base:Nat) (e:TypeId) (i:TypeInfo) (z:Value) (size bytes:Nat) (ht:P.underlying t=some (.slice e)) (hi:P.info? e=some i) (hz:i.zero=some z)
 (hsize:i.size=size) (hby:i.bytes=bytes) (hzs:z.cells.size=size) (hsz:0<size)
 (v:Value) (n:Nat) (xs:List Value) (hs:a.eval s=v) (hown:w.ownsRow base e size v n xs)
 (B:Nat) (A:Option Addr) (m c:Nat) (news:List Value) (hx:a.eval x= .slice A m c) (hr:ys w B size A m news) (h1:∀ u∈news,u.oneCell' =true)
 (h63:n+m<=maxLen) (hbytes:(n+m)*bytes<=140737488355328) (hbase:base<=w.heap.size)
 (h:∀ v' w',w'.ownsRow base e size v' (n+m) (xs ++ news)->w.grownBy w' v.ownBlock->(v'.ownBlock=v.ownBlock\/v'.ownBlock=some w.heap.size)->wpList P ops Q rest (a.put o.dst v') w'):wpList P ops Q (o :: rest) a w:=
 wpList_plain hgd fun _ hK=>zfa w s x t ho base e i z size bytes ht hi hz hsize hby hzs hsz v n xs hs hown B A m c news hx hr h1 h63 hbytes hbase fun v' w' h2 h3 h4=>hK _ _ (h v' w' h2 h3 h4)
end
theorem zdo (ds:List Nat):∀ u∈Xc ds,u.oneCell' =true:=by
 intro u hu
 simp only [Xc,List.mem_map] at hu
 obtain ⟨d,_,rfl⟩:=hu
 rfl
theorem zll {w:World} {base:Nat} {e:TypeId} {v:Value} {n:Nat} {ds:List Nat} (h:w.ownsRow base e 1 v n (Xc ds)) (hc:xI 4294967296 ds):yt w v (val 4294967296 ds):=by
 have hl:ds.length=n:=by have:=h.1;rw [vk] at this;omega
 rcases h.2 with ⟨rfl,z⟩ | ⟨g,l,m,rfl,hb,y,j,b,u,r⟩
 . have:ds=[]:=uI (by omega)
   subst this;exact ⟨none,0,[],rfl,by simp,by simp [maxLen],ys.none_,xI.nil _,rfl⟩
 . subst hl
   exact ⟨_,l,ds,rfl,j,b,ys.of_own h,hc,rfl⟩
theorem zio (w:World):yt w (.slice none 0 0) 0:=⟨none,0,[],rfl,by simp,by simp [maxLen],ys.none_,xI.nil _,rfl⟩
theorem zm4 (va:Value) (a:Nat) (w:World) (ha:yt w va a) (hla:len 4294967296 a<=67108864):
 Calls prog 131 #[va] w (Vo w a):=by
 obtain ⟨A,r,b,rfl,G,S,l,m,rfl⟩:=ha
 rw [<- m.length_eq (by omega)] at hla
 have D:∀ (w:World) (a:Option Addr) (n c n' c' :Nat),(binOp .eql 56 (.slice a n c) (.slice none n' c')).run prog w= .ok (.bool a.isNone) w:=fun w a n c n' c' =>Lib.run_eql_slice_nil w _ _ a n c n' c' underlying56
 rcases A with _ | e
 . have hd:b=[]:=by
    apply uI
    rcases uN b.length with h | h
    . exact h
    . obtain ⟨e,h,_⟩:=l.2 h
      cases h
   subst hd
   go_in
   go_wp2;go_ret;exact ⟨_,rfl,zio _,Below.refl _ _⟩
 . obtain ⟨K,Q,z,I,L⟩:=info_parts znf
   have F:=D w (some e) b.length r 0 0;simp only [Option.isNone_some] at F
   go_in
   have u:=ze hla;have T:=ze G;have M:=zdo b;go_wp2_with (at_builtin;go_must (refine Zf _ rfl (.tmp 5) (.tmp 6) _ rfl w.heap.size 158 K _ 1 4 underlying56 Q z I L rfl (by omega) (.slice (some ⟨w.heap.size,0,none⟩) 0 0) 0 [] rfl ?o1 w.heap.size (some e) b.length r (Xc b) rfl (l.alloc (uA) _) M ?o2 ?o3 ?o4 ?_))
   case o1=>exact World.ownsRow_lit w #[] 0 (uA) (uB) rfl
   case o2=>have:=u.o;unfold maxLen;omega
   case o3=>have:=u.o;omega
   case o4=>simp
   intro J R j y B;have N:=ze j;have E:=ze y;clear j y B;go_wp2;go_ret;have O:=zll N.o m;refine ⟨J,rfl,O,?_⟩;refine ((Below.refl _ _).alloc (uA) _).grown E.o (by simp) ?_;intro k C
   simp [Value.ownBlock] at C
   omega
theorem zpv {x:Nat} (h0:0<x) (h:x<4294967296):Lib.bitLen x=x.log2+1:=by
 have b:2 ^ x.log2<=x:=Nat.log2_self_le (by omega)
 have e:x<2 ^ (x.log2+1):=Nat.lt_log2_self
 have l:=Lib.bitLen_shift x.log2 x b (by omega)
 have j:x / 2 ^ x.log2=1:=by
  apply Nat.div_eq_of_lt_le
  . omega
  rw [Nat.pow_succ] at e;omega
 rw [l,j]
 rfl
def zt1 (w:World) (x:Nat) (e:Ending) (w' :World):Prop:=∃ n:Nat,n<32/\2147483648<=x*2 ^ n/\x*2 ^ n<4294967296/\e= .returned (.int .i64 (n:Int))/\w=w'
theorem zlr (x:Nat) (h0:0<x) (h:x<4294967296) (w:World):Calls prog 132 #[.int .u32 (x:Int)] w (zt1 w x):=by
 refine (zmk (x:Int) (by omega) (by omega) w).mono ?_
 rintro e w' ⟨rfl,rfl⟩
 rw [Int.toNat_natCast,zpv h0 h]
 have hl:x.log2<32:=(Nat.log2_lt (by omega)).2 (by omega)
 have b:2 ^ x.log2<=x:=Nat.log2_self_le (by omega)
 have l:x<2 ^ (x.log2+1):=Nat.lt_log2_self
 have m:2 ^ x.log2*2 ^ (31 - x.log2)=2147483648:=by rw [<- Nat.pow_add,show x.log2+(31 - x.log2)=31 by omega]
 have j:2 ^ (x.log2+1)*2 ^ (31 - x.log2)=4294967296:=by rw [<- Nat.pow_add,show x.log2+1+(31 - x.log2)=32 by omega]
 refine ⟨31 - x.log2,by omega,?_,?_,congrArg Ending.returned (congrArg (Value.int IntKind.i64) (by omega)),rfl⟩
 . rw [<- m];exact Nat.mul_le_mul_right _ b
 rw [<- j];exact Nat.mul_lt_mul_of_pos_right l (Nat.two_pow_pos _)
theorem zo8 {U dv:List Nat} {m k V:Nat} (hV:V=val 4294967296 dv) (hl:dv.length=m) (hsv:zP 4294967296 dv) (hsU:zP 4294967296 U) (hk:k+m+1<=U.length) (hlt:val 4294967296 (U.drop (k+1))<V):
 U=U.take k ++ (U.drop k).take (m+1) ++ U.drop (k+m+1)/\((U.drop k).take (m+1)).length=m+1/\val 4294967296 (U.drop (k+m+1))=0/\val 4294967296 (U.drop k)=val 4294967296 ((U.drop k).take (m+1))/\
 val 4294967296 ((U.drop k).take (m+1))<4294967296*V:=by
 have r:((U.drop k).take (m+1)).length=m+1:=by rw [List.length_take,List.length_drop];omega
 have l:U=U.take k ++ (U.drop k).take (m+1) ++ U.drop (k+m+1):=by
  rw [List.append_assoc]
  conv=>lhs;rw [<- List.take_append_drop k U, <- List.take_append_drop (m+1) (U.drop k),List.drop_drop]
  rw [show k+(m+1)=k+m+1 by omega]
 have u:V<4294967296 ^ m:=by rw [hV, <- hl];exact Yx hsv
 have e:val 4294967296 (U.drop (k+m+1))=0:=by
  have b:=x8 4294967296 (U.drop (k+1)) m (by rw [List.length_drop];omega)
  rw [List.drop_drop,show k+1+m=k+m+1 by omega] at b
  rcases uN (val 4294967296 (U.drop (k+m+1))) with h | h
  . exact h
  . exfalso
    have:4294967296 ^ m*1<=4294967296 ^ m*val 4294967296 (U.drop (k+m+1)):=Nat.mul_le_mul_left _ h
    omega
 have b:val 4294967296 (U.drop k)=val 4294967296 ((U.drop k).take (m+1)):=by
  have j:=x8 4294967296 (U.drop k) (m+1) (by rw [List.length_drop];omega)
  rw [List.drop_drop,show k+(m+1)=k+m+1 by omega,e,Nat.mul_zero,Nat.add_zero] at j
  exact j
 refine ⟨l,r,e,b,?_⟩
 rw [<- b,YB _ _ _ (by omega)]
 have hd:=hsU.get k (by omega)
 have:4294967296*(val 4294967296 (U.drop (k+1))+1)<=4294967296*V:=Nat.mul_le_mul_left _ hlt
 omega
def zw1 (w:World) (g gq m lq cV u0 V:Nat) (adv:Option Addr) (dv:List Nat) (iv:Value) (wr:World):Prop:=
 ∃ (k:Nat) (U Q:List Nat),k<=lq/\iv= .int .i64 ((k:Int) - 1)/\U.length=lq+m/\Q.length=lq/\zP 4294967296 U/\zP 4294967296 Q/\
  Hid (u0=val 4294967296 U+4294967296 ^ k*val 4294967296 (Q.drop k)*V)/\Hid (val 4294967296 (U.drop k)<V)/\
  Blk wr g 158 (ym U)/\Blk wr gq 158 (ym Q)/\ys wr wr.heap.size 1 adv m (Xc dv)/\Below w.heap.size w wr
theorem zrq {U O Q:List Nat} {k m u0 V q r:Nat} (hk:k<Q.length) (hU:U=U.take k ++ (U.drop k).take (m+1) ++ U.drop (k+m+1)) (hkU:k<=U.length)
 (hz:val 4294967296 (U.drop (k+m+1))=0) (hw:val 4294967296 (U.drop k)=val 4294967296 ((U.drop k).take (m+1)))
 (hlO:O.length=m+1) (hvO:val 4294967296 O=r) (hqr:val 4294967296 ((U.drop k).take (m+1))=V*q+r)
 (H:u0=val 4294967296 U+4294967296 ^ (k+1)*val 4294967296 (Q.drop (k+1))*V):
 u0=val 4294967296 (U.take k ++ O ++ U.drop (k+m+1))+4294967296 ^ k*val 4294967296 ((Q.set k q).drop k)*V/\val 4294967296 ((U.take k ++ O ++ U.drop (k+m+1)).drop k)=r:=by
 have b:(U.take k).length=k:=by rw [List.length_take];omega
 have j:val 4294967296 (U.take k ++ O ++ U.drop (k+m+1))=val 4294967296 (U.take k)+4294967296 ^ k*r:=by
  rw [List.append_assoc,ZJ,ZJ,b,hz,hvO,Nat.mul_zero,Nat.add_zero]
 have e:val 4294967296 U=val 4294967296 (U.take k)+4294967296 ^ k*(V*q+r):=by
  rw [x8 _ U k hkU,hw,hqr]
 constructor
 rotate_left
 . rw [List.append_assoc,List.drop_append_of_le_length (by omega),List.drop_of_length_le (by omega),List.nil_append,ZJ,hz,hvO,Nat.mul_zero,Nat.add_zero]
 rw [H,j,e,zax _ _ _ _ hk,Nat.pow_succ]
 generalize 4294967296 ^ k=P;generalize val 4294967296 (Q.drop (k+1))=Y;generalize val 4294967296 (U.take k)=L;simp only [Nat.mul_add,Nat.add_mul,Nat.mul_assoc,uH,Nat.mul_left_comm]
 omega
theorem zlc {a b n la m:Nat} {U dv:List Nat} (hn:n<32) (ha:a<4294967296 ^ la) (hU:val 4294967296 U=a*2 ^ n) (hlU:U.length=la+1) (hm:m<=la) (hm1:1<=m)
 (hV:2147483648*4294967296 ^ (m - 1)<=val 4294967296 dv):val 4294967296 (U.drop (la+1 - m))<val 4294967296 dv:=by
 have u:=x8 4294967296 U (la+1 - m) (by omega)
 have j:4294967296 ^ (la+1 - m)*val 4294967296 (U.drop (la+1 - m))<=val 4294967296 U:=by omega
 have e:val 4294967296 U<4294967296 ^ la*2147483648:=by
  rw [hU]
  have:a*2 ^ n<=a*2147483648:=Nat.mul_le_mul_left _ (VS hn)
  have:a*2147483648<4294967296 ^ la*2147483648:=Nat.mul_lt_mul_of_pos_right ha (by omega)
  omega
 have l:4294967296 ^ la=4294967296 ^ (la+1 - m)*4294967296 ^ (m - 1):=by rw [<- Nat.pow_add];congr 1;omega
 rw [l,Nat.mul_assoc] at e
 have r:=Nat.lt_of_mul_lt_mul_left (Nat.lt_of_le_of_lt j e)
 rw [uH] at r
 omega
theorem zfv {b n:Nat} {j dv:List Nat} (hb:xI 4294967296 j) (hne:j≠[]) (hvb:val 4294967296 j=b) (hdv:xI 4294967296 dv) (hv:val 4294967296 dv=b*2 ^ n)
 (h1:2147483648<=j.getD (j.length - 1) 0*2 ^ n) (h2:j.getD (j.length - 1) 0*2 ^ n<4294967296):
 dv.length=j.length/\2147483648*4294967296 ^ (j.length - 1)<=val 4294967296 dv/\2147483648<=dv.getD (j.length - 1) 0:=by
 have N:=List.length_pos_iff.2 hne
 obtain ⟨l,hl⟩:∃ l,j.length=l+1:=⟨j.length - 1,by omega⟩
 have I:j.length - 1=l:=by omega
 rw [I] at h1 h2 |-
 have e:b=val 4294967296 (j.take l)+4294967296 ^ l*j.getD l 0:=by rw [<- zM,uJ (by omega),hvb]
 have J:val 4294967296 (j.take l)<4294967296 ^ l:=by
  have:=Yx (hb.1.take l);rwa [List.length_take,Nat.min_eq_left (by omega)] at this
 have D:val 4294967296 dv<4294967296 ^ (l+1):=by
  rw [hv,e,Nat.pow_succ]
  have r:(val 4294967296 (j.take l)+4294967296 ^ l*j.getD l 0)*2 ^ n<(4294967296 ^ l*(j.getD l 0+1))*2 ^ n:=Nat.mul_lt_mul_of_pos_right (by rw [Nat.mul_add,Nat.mul_one];omega) (Nat.two_pow_pos _)
  have u:(j.getD l 0+1)*2 ^ n<=4294967296:=by
   rw [Nat.add_mul,Nat.one_mul]
   have F:n<32:=by
    rcases uL n 32 with h | h
    . exact h
    . exfalso
      have y:(2:Nat) ^ 32<=2 ^ n:=Nat.pow_le_pow_right (by omega) h
      have G:0<j.getD l 0:=by
       rcases uN (j.getD l 0) with m | m
       . rw [m] at h1;omega
       . exact m
      have m:1*2 ^ n<=j.getD l 0*2 ^ n:=Nat.mul_le_mul_right _ G;have O:(2:Nat) ^ 32=4294967296:=by decide
      omega
   have B:=yR F
   have E:j.getD l 0<2 ^ (32 - n):=by
    rw [<- B,uH] at h2;exact Nat.lt_of_mul_lt_mul_left h2
   have z:2 ^ n*(j.getD l 0+1)<=2 ^ n*2 ^ (32 - n):=Nat.mul_le_mul_left _ E;rw [B,Nat.mul_add,Nat.mul_one,uH] at z;exact z
  rw [Nat.mul_assoc] at r
  have y:4294967296 ^ l*((j.getD l 0+1)*2 ^ n)<=4294967296 ^ l*4294967296:=Nat.mul_le_mul_left _ u
  omega
 have C:2147483648*4294967296 ^ l<=val 4294967296 dv:=by
  rw [hv,e,Nat.add_mul,Nat.mul_assoc,uH 2147483648]
  have:4294967296 ^ l*2147483648<=4294967296 ^ l*(j.getD l 0*2 ^ n):=Nat.mul_le_mul_left _ h1
  omega
 have L:dv.length<=l+1:=hdv.length_lt_pow (by omega) D
 have Q:l<dv.length:=by
  rcases uL l dv.length with h | h
  . exact h
  . exfalso
    have r:=Yx hdv.1;have u:4294967296 ^ dv.length<=4294967296 ^ l:=Nat.pow_le_pow_right (by omega) h;have y:1*4294967296 ^ l<=2147483648*4294967296 ^ l:=Nat.mul_le_mul_right _ (by omega)
    omega
 refine ⟨by omega,C,?_⟩
 have M:val 4294967296 dv=val 4294967296 (dv.take l)+4294967296 ^ l*dv.getD l 0:=by rw [<- zM,uJ (by omega)]
 have K:val 4294967296 (dv.take l)<4294967296 ^ l:=by
  have:=Yx (hdv.1.take l);rwa [List.length_take,Nat.min_eq_left (by omega)] at this
 rcases uL (dv.getD l 0) 2147483648 with h | h
 . exfalso
   have r:4294967296 ^ l*(dv.getD l 0+1)<=4294967296 ^ l*2147483648:=Nat.mul_le_mul_left _ h;rw [Nat.mul_add,Nat.mul_one] at r;rw [uH 2147483648] at C
   omega
 . exact h
theorem zr3 {a b s R Q:Nat} (hs:0<s) (h:a*s=R+Q*(b*s)) (hR:R<b*s):Q=a / b/\R / s=a % b:=by
 have hb:0<b:=by
  rcases uN b with e | e
  . rw [e] at hR;omega
  . exact e
 have m:(a - Q*b)*s=R:=by rw [Nat.sub_mul,Nat.mul_assoc];omega
 have r:Q*b<=a:=by
  rcases uL a (Q*b) with j | j
  . exfalso
    have l:(a+1)*s<=Q*b*s:=Nat.mul_le_mul_right _ j;rw [Nat.add_mul,Nat.one_mul,Nat.mul_assoc] at l
    omega
  . exact j
 have j:a - Q*b<b:=by
  rw [<- m] at hR
  exact Nat.lt_of_mul_lt_mul_right hR
 have l:Q=a / b:=by
  symm
  apply Nat.div_eq_of_lt_le
  . exact r
  rw [Nat.add_mul,Nat.one_mul];omega
 refine ⟨l,?_⟩
 rw [<- m,Nat.mul_div_cancel _ hs]
 have:=Nat.div_add_mod a b
 rw [<- l,uH] at this
 omega
theorem ys.apart {w w' :World} {B size n:Nat} {ad:Addr} {xs:List Value} (h:ys w B size (some ad) n xs) (hk:∀ p:Addr,p.block=ad.block->w'.cell? p=w.cell? p):ys w' B size (some ad) n xs:=
 ⟨h.1,fun hn=>by
  obtain ⟨l,e,hb,b⟩:=h.2 hn
  injection e with e
  subst e
  exact ⟨ad,rfl,hb,fun j u hu=>(hk _ (zU _ _)).trans (b j u hu)⟩⟩
def ztj (w:World) (q r:Nat) (e:Ending) (w' :World):Prop:=∃ v1 v2,e= .returned (.tuple #[v1,v2])/\yt w' v1 q/\yt w' v2 r/\Below w.heap.size w w'
theorem zj5 (w:World) (t d:Nat):ys (w.alloc (.cells #[.int .u32 (d:Int)] t)) (w.heap.size+1) 1 (some ⟨w.heap.size,0,none⟩) 1 (Xc [d]):=by
 have h:=Blk.new w t (ym [d])
 have:=xV h
 simp only [World.size_alloc] at this
 exact this
theorem Vn {d:Nat} (hd:d<4294967296):zP 4294967296 [d]:=fun x hx=>by
 rw [uM] at hx;omega
theorem zm7 {db:List Nat} (h:db.length=1):db=[db.getD 0 0]:=by
 match db,h with
 | [d],_=>rfl
set_option maxHeartbeats 1600000 in
set_option maxRecDepth 100000 in
theorem zi0 (va vb:Value) (a b:Nat) (w:World) (ha:yt w va a) (hb:yt w vb b) (hb0:0<b) (hla:len 4294967296 a<=33554432) (hlb:len 4294967296 b<=33554432):
 Calls prog 115 #[va,vb] w (ztj w (a / b) (a % b)):=by
 obtain ⟨Y,aH,bF⟩:=hz3 hla hlb hb0
 by_cases J:a<b
 . have hc:zZ (a:Int) (b:Int)= -1:=by unfold zZ;rw [if_pos (by omega)]
   have e1:a / b=0:=Nat.div_eq_of_lt J;have e2:a % b=a:=Nat.mod_eq_of_lt J;rw [e1,e2];clear e1 e2 J hla hlb hb0
   go_in
   go_wp2_with (first
    | (go_at_call 102;refine (XZ va vb a b _ ha hb (by have:=Y.o;omega) (by have:=aH.o;omega)).mono ?_;rintro e w' ⟨rfl,n,rfl⟩)
    | (go_at_call 131;refine (zm4 va a _ (yt.below ha (zo (Below.refl _ _) _)) (by have:=Y.o;omega)).mono ?_;rintro e w' ⟨v,rfl,hv,ae⟩))
   go_ret2;exact ⟨_,v,rfl,zio _,hv,(zo (Below.refl _ _) _).trans ae⟩
 have hc:¬ zZ (a:Int) (b:Int)<0:=by
  unfold zZ;rw [if_neg (by omega)]
  split<;>omega
 have az:=hb;have ai:=ha;obtain ⟨B,cb,j,rfl,k1,k2,aZ,k4,L⟩:=hb
 have ak:j≠[]:=by
  rintro rfl;rw [Yr] at L
  omega
 have I:=k4.length_eq (β:=4294967296) (by omega);rw [L] at I;have aL:=List.length_pos_iff.2 ak;obtain ⟨X,u,rfl,bz,hx,T⟩:=aZ.at_ (k:=j.length - 1) (by omega);have aj:j.length - 1<j.length:=by omega
 rw [yJ aj] at hx;injection hx with hx
 subst hx;have av:=k4.last ak;have af:=k4.1.get _ aj
 by_cases D:j.length=1
 . have Z:((j.length:Int) == 1)=true:=by rw [D];rfl
   obtain ⟨d,hd⟩:=uQ (j[j.length - 1]);rw [<- hd] at T av af
   have bw:b=d:=by
    rw [<- L,zm7 D,zdx,zC (by omega),hd]
    congr 1
    omega
   subst bw
   have bG:w.cell? X=some (.int .u32 (b:Int)):=by
    rw [D] at T
    simpa [Addr.add] using T
   have aX:0<b:=by omega
   obtain ⟨r,hr⟩:=uQ (a % b)
   have bj:r<4294967296:=by
    have:=Nat.mod_lt a aX
    omega
   have bc:∀ W,yt W va a->Calls prog 116 #[va,.int .u32 b] W (zsh W (a / b) (.int .u32 (r:Int))):=by
    intro W M;rw [hr];exact zjo va a b W M (by omega) aX af
   have HO:=ze D;rw [<- hr];clear D hr hd T I L hla hlb av aL k2 af J
   go_in
   go_wp2_with (first
    | (go_at_call 102;refine (XZ va _ a b _ ai az (by have:=Y.o;omega) (by have:=aH.o;omega)).mono ?_;rintro e w' ⟨rfl,n,rfl⟩)
    | (go_at_call 116;refine (bc _ (yt.below ai (zo (Below.refl _ _) _))).mono ?_;rintro e C ⟨v,rfl,hv,ae⟩))
   refine (Zv _ _ _ _ _ _ (zj5 C 158 r) (Vn bj) (uA) (by unfold maxLen;omega)).mono ?_;rintro e w' ⟨v2,rfl,ag,rfl⟩;go_wp2;go_ret2;rw [zdx] at ag;exact ⟨v,v2,rfl,yt.below hv ((Below.refl _ _).alloc (uA) _),ag.below (Below.refl _ _) (by simp),((zo (Below.refl _ _) _).trans ae).alloc (by have:=ae.size;simpa using this) _⟩
 have Z:((j.length:Int) == 1)=false:=by rw [beq_eq_false_iff_ne];omega
 have bm:=ze (XZ va (.slice (some X) j.length cb) a b w ai az (by omega) (by omega));obtain ⟨l,ap⟩:∃ l,l=len 4294967296 a:=⟨_,rfl⟩;have ao:=vP (β:=4294967296) (by omega) a;have al:=Yk (β:=4294967296) (m:=b) (n:=a) (by omega) (by omega);rw [<- ap] at hla Y ao al;rw [<- I] at al;have hi:((j.length:Int) - 1).toNat=j.length - 1:=by omega
 have HQ:Hid (∀ n,n<32->2147483648<=j[j.length - 1]*2 ^ n->j[j.length - 1]*2 ^ n<4294967296->∀ dv,xI 4294967296 dv->val 4294967296 dv=b*2 ^ n->
  dv.length=j.length/\2147483648*4294967296 ^ (j.length - 1)<=val 4294967296 dv/\2147483648<=dv.getD (j.length - 1) 0):=by
  intro n y N K dv G hv;exact zfv k4 ak L G hv (by rw [zC aj];exact N) (by rw [zC aj];exact K)
 have bq:∀ W n,yt W va a->n<32->Calls prog 133 #[va,.int .u64 (n:Nat)] W (zjy W (l+1) (a*2 ^ n)):=by
  intro W n M y;rw [ap];exact zd0 va a n W M (by omega) y
 have bo:∀ W n,yt W (.slice (some X) j.length cb) b->n<32->Calls prog 133 #[.slice (some X) j.length cb,.int .u64 (n:Nat)] W (zjy W (j.length+1) (b*2 ^ n)):=by
  intro W n M y;rw [I];rw [I] at M;exact zd0 _ b n W M (by omega) y
 have bb:0<j[j.length - 1]:=by omega
 have bI:l<=33554432:=Y.o;have bE:j.length<=33554432:=by omega
 obtain ⟨bA,bs,br⟩:=hz3 J ao D;clear ap L I hla hlb J ao D av k2
 go_in
 go_upto_region 8 with (first
  | (go_at_call 102;refine (zW bm).mono ?_;rintro e w' ⟨rfl,n0,rfl⟩)
  | (go_at_call 132;refine (zlr _ bb af _).mono ?_;rintro e w' ⟨n,y,aE,a2,rfl,rfl⟩;have bi:=ze aE;have bd:=ze a2;clear aE a2)
  | (go_at_call_of 133 va;refine (bq _ n (yt.below ai (zo (Below.refl _ _) _)) y).mono ?_;rintro e C ⟨U,rfl,aa,z,a0,E,ac⟩;have ar:=ze a0;clear a0)
  | (go_at_call_of 133 (Value.slice (some X) j.length cb);refine (bo _ n (yt.below az ((zo (Below.refl _ _) _).trans ac)) y).mono ?_;rintro e w2 ⟨Vf,rfl,ax,am,aG,ah,aA⟩;have an:=ze aG;clear aG)
  | (go_at_call 96;refine (ze3 _ _ _ Vf _ _ (by have:=xV ah;rwa [ax] at this) am (uA) (by unfold maxLen;omega)).mono ?_;rintro e w' ⟨k,S,rfl,aY,hv,rfl⟩;have HC:=ze aY;have HV:=ze hv;clear aY hv))
 have bu:(Vf.take k).length=k:=by rw [List.length_take];omega
 obtain ⟨q1,q2,q3⟩:=HQ.o n y bi.o bd.o (Vf.take k) HC.o (HV.o.trans an.o);have be:k=j.length:=by omega
 subst be;obtain ⟨dv,G⟩:=uQ (Vf.take j.length)
 have R:ys w2 w2.heap.size 1 (some ⟨C.heap.size,0,none⟩) j.length (Xc dv):=by
  have N:=xV ah;rw [ax] at N;have K:=N.head (k:=j.length) (by omega);rw [Nat.mul_one,zcf, <- G] at K;exact K
 have aC:zP 4294967296 dv:=by rw [G];exact am.take _
 have a5:val 4294967296 dv=b*2 ^ n:=by rw [G];exact HV.o.trans an.o
 rw [<- G] at q1 q2 q3;have ba:w.heap.size<C.heap.size:=E.lt;have bC:C.heap.size<w2.heap.size:=ah.lt;have a4:Blk w2 w.heap.size 158 (ym U):=E.below aA ba;have F:Below w.heap.size w w2:=((zo (Below.refl _ _) n0).trans ac).trans (aA.mono ac.size);have aK:=zlc (b:=b) y bs.o ar.o aa al aL q2;have bk:=fun W=>zcg .i64 (l+1 - j.length) (by omega) W
 rw [show ((l+1 - j.length:Nat):Int)=(l:Int)+1 - j.length by omega] at bk;have aM:=ze a5;have a6:=ze aK;have bh:2<=j.length:=by have:=br.o;omega
 have a1:=ze F;clear a5 aK F HQ HC HV an G am ax bu S ah E ac aA q2 T hi aZ k1;go_wp2
 go_loopw [13] (zw1 w w.heap.size w2.heap.size j.length (l+1 - j.length) cb (a*2 ^ n) (val 4294967296 dv) (some ⟨C.heap.size,0,none⟩) dv) (fun iv _=>(intOf iv+1).toNat)
 case atStart=>
  refine ⟨l+1 - j.length,U,List.replicate (l+1 - j.length) 0,uA,congrArg _ (by omega),by omega,by simp,z,zP.replicate (by omega) _,?_,a6.o,a4.alloc _,Blk.new _ _ _,?_,a1.o.alloc (by have:=a1.o.size;omega) _⟩
  rotate_left
  . exact (R.alloc (uA) _).more (by simp)
  show _=_
  rw [List.drop_of_length_le (by simp),Yr,Nat.mul_zero,Nat.zero_mul,Nat.add_zero];exact ar.o.symm
 case round=>
  clear ar z aa a6 a4 R;obtain ⟨k,U,Q,S,rfl,aa,aU,z,aD,HU,HL,E,ay,R,F⟩:=hrel;have bD:=E.lt;have bK:=ay.lt
  by_cases bB:0<k
  rotate_left
  . obtain rfl:k=0:=by omega
    have aO:=xV ay;rw [aU] at aO;have aV:=xV E;rw [aa,show l+1 - j.length+j.length=l+1 by omega] at aV
    have aS:=zr3 (a:=a) (b:=b) (Nat.two_pow_pos n) (by
     have h:=HU.o;rw [Nat.pow_zero,Nat.one_mul,List.drop_zero,aM.o] at h
     exact h) (by have h:=HL.o;rwa [List.drop_zero,aM.o] at h)
    have HF:=ze aS;clear aS
    go_wp2_with (first
     | (go_at_call 96;refine (Zv _ _ _ _ _ _ aO aD (uA) (by unfold maxLen;omega)).mono ?_;rintro e w' ⟨v1,rfl,bf,rfl⟩)
     | (go_at_call 135;refine (zqw _ _ _ n U _ aV z (by omega) y).mono ?_;rintro e w4 ⟨v2,rfl,ag,aF⟩))
    go_ret2;refine ⟨v1,v2,rfl,?_,?_,F.trans (aF.mono F.size)⟩
    . rw [<- HF.o.1];exact yt.below bf aF
    rw [<- HF.o.2];exact ag
  obtain ⟨e0,aI,hz,hw,ab⟩:=zo8 (V:=val 4294967296 dv) (k:=k - 1) rfl q1 aC z (by omega) (by rw [show k - 1+1=k by omega];exact HL.o)
  have a3:Xe wr w.heap.size (U.take (k - 1)) ((U.drop (k - 1)).take (j.length+1)) (U.drop (k - 1+j.length+1)):=by
   unfold Xe;rw [<- e0];exact E
  have aN:0<val 4294967296 dv:=by
   rcases uN (val 4294967296 dv) with e | e
   . rw [e] at ab;omega
   . exact e
  have aW:val 4294967296 ((U.drop (k - 1)).take (j.length+1)) / val 4294967296 dv<4294967296:=(Nat.div_lt_iff_lt_mul aN).2 ab
  have aw:=zpp w.heap.size (k - 1) j.length (l+1 - (k - 1)) (j.length+1) _ _ _ dv _ wr (by rw [List.length_take];omega) bh (by omega) aI q1 ((z.drop _).take _) aC a3 R
   (by intro ad h;injection h with h;subst h;show C.heap.size≠w.heap.size;omega) q3 ab (by omega) (by omega)
  obtain ⟨q,Z⟩:=uQ (val 4294967296 ((U.drop (k - 1)).take (j.length+1)) / val 4294967296 dv);rw [<- Z] at aW aw;have bp:=ze aw;have a8:=ze e0;have aR:=ze (And.intro hz hw);have HQ:=ze Z;have aP:k - 1<Q.length:=by omega
  have bx :((k:Int) - 1).toNat=k - 1:=by omega
  clear aw e0 hz hw Z a3 aI ab aN;go_wp2_with fail;rw [show k - 1+j.length+1 - (k - 1)=j.length+1 by omega];refine (zW bp).mono ?_;rintro e w3 ⟨O,rfl,aT,bn,aJ,bv,aB⟩;have au:Blk w3 w2.heap.size 158 (ym Q):=ay.grown aB (by simp;omega);have bH:=(au.cell (k - 1)).trans (xa aP);have bJ:=au.frozen (k - 1);obtain ⟨a9,bl,aq⟩:=hz3 aJ aT aB;clear aJ aT aB;go_wp2;go_roundw
  case rel=>
   have bg:O.length=j.length+1:=by rw [bl.o,List.length_take,List.length_drop];omega
   have aQ:=(Nat.div_add_mod (val 4294967296 ((U.drop (k - 1)).take (j.length+1))) (val 4294967296 dv)).symm;rw [<- HQ.o] at aQ;obtain ⟨N,K⟩:=zrq (u0:=a*2 ^ n) (q:=q) aP a8.o (by omega) aR.o.1 aR.o.2 bg a9.o aQ (by rw [show k - 1+1=k by omega];exact HU.o);refine ⟨k - 1,U.take (k - 1) ++ O ++ U.drop (k - 1+j.length+1),Q.set (k - 1) q,by omega,congrArg _ (by omega),?_,by simpa using aU,((z.take _).append bn).append (z.drop _),aD.set _ _ aW,N,?_,?_,?_,?_,?_⟩
   . simp only [List.length_append,List.length_take,List.length_drop];omega
   . show _<_
     rw [K]
     exact Nat.mod_lt _ (by
      rcases uN (val 4294967296 dv) with e | e
      . have:=HL.o;omega
      . exact e)
   . exact Blk.far bv (by show w.heap.size≠w2.heap.size;omega) _
   . have:=au.set_ (k - 1) (.int .u32 (q:Int))
     rwa [yE] at this
   . refine ys.more (B:=wr.heap.size) ?_ (by rw [World.setCell];simpa using aq.o.size)
     refine ys.apart R ?_;intro p hp;have a7 :p.block=C.heap.size:=hp;rw [World.cell?_setCell_other _ _ _ _ (by intro e;subst e;simp at a7;omega)];exact VR aq.o (by omega) (by omega)
   . exact (F.grown aq.o F.size (by intro k S;injection S with S;omega)).setCell (by show w.heap.size<=w2.heap.size;omega) _
  case measure=>simp [intOf];omega
theorem Vk.inj {w:World} {B:Nat} {v:Value} {m n:Nat} (h:Vk w B v m) (k:Vk w B v n):m=n:=by
 obtain ⟨A,c,r,rfl,z,y,F,L,rfl⟩:=h
 obtain ⟨A',c',C,e,K,Q,E,R,rfl⟩:=k
 injection e with e1 e2 e3
 subst e1
 have:Xc r=Xc C :=by
  apply List.ext_getElem?
  intro i
  rcases uL i r.length with hi | hi
  . obtain ⟨N,u,I,_,G,J⟩:=F.at_ hi
    obtain ⟨O,M,j,_,D,b⟩:=E.at_ (k:=i) (by omega);rw [I] at j;injection j with j
    subst j;rw [J] at b;injection b with b
    subst b;rw [G,D]
  . rw [List.getElem?_eq_none (by rw [vk];omega),List.getElem?_eq_none (by rw [vk];omega)]
 have hd:r=C :=by
  apply List.ext_getElem e2
  intro i z y
  have:=congrArg (fun l=>l[i]?) this
  simp only [yJ z,yJ y] at this
  injection this with this
  injection this with _ this
  omega
 rw [hd]
open Classical in
noncomputable def ze0 (w:World) (v:Value):Nat:=if h:∃ n,yt w v n then h.choose else 0
theorem Xq {w:World} {v:Value} {n:Nat} (h:yt w v n):ze0 w v=n:=by
 unfold ze0
 have b:∃ n,yt w v n:=⟨n,h⟩
 rw [dif_pos b]
 exact Vk.inj b.choose_spec h
def GcdR (w:World) (G:Nat) (v0 v1:Value) (wr:World):Prop:=
 ∃ x y:Nat,yt wr v0 x/\yt wr v1 y/\Hid (Nat.gcd x y=G)/\Hid (len 4294967296 x<=33554432)/\Hid (len 4294967296 y<=33554432)/\Below w.heap.size w wr
theorem zof (va vb:Value) (a b:Nat) (w:World) (ha:yt w va a) (hb:yt w vb b) (hla:len 4294967296 a<=33554432) (hlb:len 4294967296 b<=33554432):
 Calls prog 87 #[va,vb] w (Vo w (Nat.gcd a b)):=by
 have aa:=ze hla
 have ab:=ze hlb
 clear hla hlb
 go_in
 go_wp2
 go_loopw [0,1] (GcdR w (Nat.gcd a b)) (fun _ M wr=>ze0 wr M)
 case atStart=>exact ⟨a,b,ha,hb,rfl,aa,ab,Below.refl _ _⟩
 case round=>
  obtain ⟨x,y,Q,C,J,T,m,r⟩:=hrel
  have K:=Xq C
  have G:=C
  obtain ⟨B,O,j,rfl,k1,k2,ae,S,z⟩:=C
  have V:=ze K
  have N:=ze z
  have D:=S.length_eq (β:=4294967296) (by omega)
  rw [z] at D
  have ad:j.length<=33554432:=by rw [D];exact m.o
  clear K z D k2
  by_cases l:j.length=0
  . have hd:j=[]:=uI l
    have R:y=0:=by have:=N.o;rw [hd,Yr] at this;omega
    have F:x=Nat.gcd a b:=by have:=J.o;rw [R,Nat.gcd_zero_right] at this;exact this
    have Y:=ze F;have af:¬ (0:Int)<(j.length:Int):=by omega
    clear hd R F l;go_wp2;go_ret;exact ⟨_,rfl,by rw [<- Y.o];exact Q,r⟩
  have L:0<j.length:=by omega
  have u:0<y:=by
   rcases uN y with e | e
   . exfalso
     have h:=N.o;rw [e] at h;have:=(S.zero_iff (by omega)).1 h;rw [this] at L;simp at L
   . exact e
  have HZ:=ze l;have X:=ze (zi0 _ (.slice B j.length O) x y wr Q G u T.o m.o);clear l;go_wp2_with (go_at_call 115;refine (zW X).mono ?_;rintro e U ⟨M,Z,rfl,ac,I,E⟩);go_roundw
  case rel=>
   refine ⟨y,x % y,yt.below G E,I,?_,m,?_,r.trans (E.mono r.size)⟩
   rotate_left
   . exact uC (Yk (by omega) (Nat.le_of_lt (Nat.mod_lt _ u))) m.o
   show _=_
   rw [<- J.o,Nat.gcd_comm x y,Nat.gcd_rec y x,Nat.gcd_comm]
  case measure=>
   show ze0 U Z<ze0 wr (.slice B j.length O)
   rw [Xq I,V.o];exact Nat.mod_lt _ u
end Go.Proofs.YtobdoblpnanclaaGreatDoor
