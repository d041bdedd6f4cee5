/- Parts of the proof. -/
import Derived.BigRegion
import Derived.Test.YthbmhkiphmcogaaGreatDoorMe08
set_option linter.all false
namespace Go.Proofs.YthbmhkiphmcogaaGreatDoor
open Proofs.Tryz Go.RowKit Go.Deep
def u8s (l:List UInt8):List Value:=l.map fun (c:UInt8)=>Value.int .u8 (c.toNat:Int)
theorem za9 (l:List UInt8):(u8s l).length=l.length:=by simp [u8s]
theorem zl5 (a b:List UInt8):u8s (a ++ b)=u8s a ++ u8s b:=by simp [u8s]
theorem ztv {l:List UInt8} {k:Nat} (hk:k<l.length):(u8s l)[k]?=some (.int .u8 (l[k].toNat:Int)):=by simp [u8s,hk]
theorem zuv (l:List UInt8) (k:Nat) (c:UInt8):(u8s l).set k (.int .u8 (c.toNat:Int))=u8s (l.set k c):=by simp [u8s,List.map_set]
def zbd (w:World) (g:Nat) (l:List UInt8) (rest:List Value):Prop:=Blk w g 5 (u8s l ++ rest).toArray
theorem zbd.cell {w:World} {g:Nat} {l:List UInt8} {rest:List Value} (h:zbd w g l rest) {k:Nat} (hk:k<l.length):w.cell? ⟨g,k,none⟩=some (.int .u8 (l[k].toNat:Int)):=by
 rw [Blk.cell h k,List.getElem?_toArray,List.getElem?_append_left (by rw [za9];exact hk),ztv hk]
theorem zbd.set_ {w:World} {g:Nat} {l:List UInt8} {rest:List Value} (h:zbd w g l rest) {k:Nat} (hk:k<l.length) (c:UInt8):zbd (w.setCell ⟨g,k,none⟩ (.int .u8 (c.toNat:Int))) g (l.set k c) rest:=by
 have:=Blk.set_ h k (.int .u8 (c.toNat:Int))
 unfold zbd
 rw [List.setIfInBounds_toArray,List.set_append_left _ _ (by rw [za9];exact hk),zuv] at this
 exact this
def zxs (D:List UInt8) (rest:List Value) (g:Nat) (w:World) (iv jv:Value) (wr:World):Prop:=
 ∃ (i:Nat) (l:List UInt8),iv= .int .i64 i/\jv= .int .i64 ((D.length:Int) - 1 - i)/\2*i<=D.length/\l.length=D.length/\Hid (∀ p (hp:p<l.length) (hd:p<D.length),l[p]=if p<i\/D.length - 1 - p<i then D[D.length - 1 - p] else D[p])/\
  zbd wr g l rest/\w.grownBy wr (some g)
theorem zxs.step {D l:List UInt8} {rest:List Value} {g i j:Nat} {w wr:World} (hl:l.length=D.length) (hj:j=D.length - 1 - i) (hlt:2*i+1<D.length)
 (HL:Hid (∀ p (b:p<l.length) (hd:p<D.length),l[p]=if p<i\/D.length - 1 - p<i then D[D.length - 1 - p] else D[p])) (hil:i<l.length) (hjl:j<l.length)
 (hbl:zbd wr g l rest) (hgr:w.grownBy wr (some g)) (iv jv:Value) (hiv:iv= .int .i64 ((i+1:Nat):Int)) (hjv:jv= .int .i64 ((j:Int) - 1)):
 zxs D rest g w iv jv (((wr.setCell ⟨g,i,none⟩ (.int .u8 (l[j].toNat:Int))).setCell ⟨g,j,none⟩ (.int .u8 (l[i].toNat:Int))).drew):=by
 subst hiv hjv
 have B:=hbl.set_ hil l[j]
 have z:=zbd.set_ B (k:=j) (by simpa using hjl) l[i]
 refine ⟨i+1,(l.set i l[j]).set j l[i],rfl,congrArg _ (by omega),by omega,by simpa using hl,?_,z,zg6 (Z6 (Z6 hgr (.inl rfl) _) (.inl rfl) _)⟩
 intro p b hd
 have hi:=HL.o i hil (by omega)
 have e :=HL.o j hjl (by omega)
 rw [if_neg (by omega)] at hi e
 by_cases y:p=j
 . subst y
   rw [List.getElem_set_self,if_pos (by omega),hi]
   congr 1;omega
 rw [List.getElem_set_ne (by omega)]
 by_cases u:p=i
 . subst u
   rw [List.getElem_set_self,if_pos (by omega),e]
   congr 1
 rw [List.getElem_set_ne (by omega)]
 have r:=HL.o p (by simpa using b) hd;rw [r]
 by_cases m:p<i\/D.length - 1 - p<i
 . rw [if_pos m,if_pos (by omega)]
 rw [if_neg m,if_neg (by omega)]
set_option maxRecDepth 100000 in
theorem zjh (g c n:Nat) (D:List UInt8) (rest:List Value) (w:World) (hb:zbd w g D rest) (hn:D.length=n) (hm:n<=1073741824):
 Calls Tryz.prog 129 #[.slice (some ⟨g,0,none⟩) n c] w fun e w' =>e= .returned (.tuple #[])/\zbd w' g D.reverse rest/\w.grownBy w' (some g):=by
 subst hn
 go_enter func129,ntmps129
 go_wp2
 go_loopw [2,3] (zxs D rest g w) (fun iv _ _=>D.length - (intOf iv).toNat)
 case atStart=>
  refine ⟨0,D,rfl,congrArg _ (by omega),by omega,rfl,?_,hb,World.grownBy.refl w _⟩
  intro p N hd
  rw [if_neg (by omega)]
 case round=>
  obtain ⟨i,l,rfl,rfl,U,y,u,b,F⟩:=hrel
  by_cases G:2*i+1<D.length
  rotate_left
  . have m:l=D.reverse:=by
     apply List.ext_getElem (by simpa using y)
     intro p J O;rw [List.getElem_reverse,u.o p J (by omega)]
     by_cases z:p<i\/D.length - 1 - p<i
     . rw [if_pos z]
     rw [if_neg z]
     congr 1;omega
    have K:=ze m;have V:¬ ((i:Int)<(D.length:Int) - 1 - i):=by omega
    clear m;go_wp2
    go_end0
    exact ⟨rfl,by rw [<- K.o];exact b,F⟩
  obtain ⟨j,C⟩:∃ j,j=D.length - 1 - i:=⟨_,rfl⟩
  have r:(D.length:Int) - 1 - i=(j:Int):=by omega
  have E:i<l.length:=by omega
  have B:j<l.length:=by omega
  have M:i<j:=by omega
  have Q:=b.cell E;have S:=b.cell B;have L:=Blk.frozen b i;have T:=Blk.frozen b j;rw [r];have I:=ze C;have R:j<=1073741824:=by omega
  clear C r;go_wp2
  go_region
  all_goals go_wp2
  go_roundw
  case rel=>exact zxs.step y I.o G u E B b F _ _ (by go_num) rfl
  case measure=>simp [intOf];omega
theorem zx0:(Tryz.prog.info? 5).map (fun i=>(i.zero,i.size,i.bytes))=some (some (.int .u8 0),1,1):=by kernel_rfl
def zkz (w:World) (l:List UInt8) (e:Ending) (w' :World):Prop:=e= .returned (.string ⟨l.toArray⟩)/\Below w.heap.size w w'
def zx5 (w:World) (a:Nat) (nv bv:Value) (wr:World):Prop:=
 ∃ (m:Nat) (l:List Nat),yF wr nv m/\Hid (l ++ digs 10 m=digs 10 a)/\wr.ownsRow w.heap.size 5 1 bv l.length (u8s (l.map chr))/\Below w.heap.size w wr/\Hid (m<=a)
def zpv (w:World) (a q gq kq cq:Nat) (bv rv iv:Value) (wr:World):Prop:=
 ∃ (i r:Nat) (l:List Nat),i<=9/\iv= .int .i64 i/\rv= .int .u32 r/\Hid (r<10 ^ (9 - i))/\r<1000000000/\Hid (l ++ digs 10 (r+q*10 ^ (9 - i))=digs 10 a)/\
  wr.ownsRow w.heap.size 5 1 bv l.length (u8s (l.map chr))/\bv.ownBlock≠some gq/\gq<wr.heap.size/\yF wr (.slice (some ⟨gq,0,none⟩) kq cq) q/\Below w.heap.size w wr
theorem VD {a:Nat} (h:len 4294967296 a<=67108864):len 10 a<=671088640:=by
 have j:len 10 a<=10*len 4294967296 a:=by
  apply yv (by omega)
  have e:=vy (β:=4294967296) (by omega) a
  have b:4294967296 ^ len 4294967296 a<=(10 ^ 10) ^ len 4294967296 a:=Nat.pow_le_pow_left (by omega) _
  rw [<- Nat.pow_mul] at b
  exact Nat.lt_of_lt_of_le e b
 omega
theorem zdq {l:List Nat} {r q i a:Nat} (hi:i<9) (hpos:0<q\/0<r) (h:l ++ digs 10 (r+q*10 ^ (9 - i))=digs 10 a) (hr:r<10 ^ (9 - i)):
 (l ++ [r % 10]) ++ digs 10 (r / 10+q*10 ^ (9 - (i+1)))=digs 10 a/\r / 10<10 ^ (9 - (i+1)):=by
 obtain ⟨k,e⟩:∃ k,9 - i=k+1:=⟨9 - i - 1,by omega⟩
 rw [e] at h hr
 rw [show 9 - (i+1)=k by omega]
 rw [Nat.pow_succ] at h hr
 have m:r+q*(10 ^ k*10)=r+10*(q*10 ^ k):=by rw [<- Nat.mul_assoc,Nat.mul_comm _ 10]
 rw [m] at h
 have j:0<10 ^ k:=Nat.pow_pos (by omega)
 have u:0<r+10*(q*10 ^ k):=by
  rcases hpos with b | b
  . have:=Nat.mul_pos b j;omega
  . omega
 have:=zp4 h u
 rw [show (r+10*(q*10 ^ k)) % 10=r % 10 by omega,show (r+10*(q*10 ^ k)) / 10=r / 10+q*10 ^ k by omega] at this
 exact ⟨this,by omega⟩
theorem zm1 (m:Nat):m % 1000000000+m / 1000000000*10 ^ (9 - 0)=m:=by
 have:(10:Nat) ^ (9 - 0)=1000000000:=by decide
 rw [this,Nat.mul_comm]
 exact Nat.mod_add_div _ _
theorem zlp {a:Nat} (h:a≠0) {l:List Nat} (hl:l=digs 10 a):(l.map chr).reverse=dec a:=by
 subst hl
 unfold dec
 rw [if_neg h,List.map_reverse]
theorem zp0 {w w' :World} {base:Nat} {e:TypeId} {size:Nat} {v:Value} {n:Nat} {xs:List Value} (h:w.ownsRow base e size v n xs) (hb:Below w.heap.size w w'):w'.ownsRow base e size v n xs:=by
 refine ⟨h.1,?_⟩
 rcases h.2 with l | ⟨g,u,m,z,y,b,r⟩
 . exact .inl l
 . refine .inr ⟨g,u,m,z,y,(hb.block g ?_).trans b,r⟩
   rcases Nat.lt_or_ge g w.heap.size with j | j
   . exact j
   . rw [Array.getElem?_eq_none j] at b;cases b
theorem xJ (w:World) (t:TypeId) (x:Value):zV (w.alloc (.cells #[x] t)) (w.heap.size+1) 1 (some ⟨w.heap.size,0,none⟩) 1 [x]:=by
 have h:=(Blk.new w t #[x]).reads (n:=1) (by simp)
 simp only [World.size_alloc] at h
 exact h
theorem ziw {w:World} {A:Option Addr} {k c q:Nat} (h:yF w (.slice A k c) q):(0<k↔0<q):=by
 obtain ⟨A',c',ds,e,u,r,m,j,l⟩:=h
 injection e with _ e _
 subst e
 have:=j.zero_iff (by omega)
 rw [l] at this
 constructor
 . intro b
   rcases Nat.eq_zero_or_pos q with e | e
   . have:=this.1 e;subst this;simp at b
   . exact e
 intro b
 rcases Nat.eq_zero_or_pos ds.length with e | e
 . have:=this.2 (List.eq_nil_of_length_eq_zero e);omega
 . exact e
theorem zqe {w:World} {base n:Nat} {v:Value} {L:List UInt8} (h:w.ownsRow base 5 1 v n (u8s L)) (hn:0<n):
 ∃ g c rest,v= .slice (some ⟨g,0,none⟩) n c/\base<=g/\L.length=n/\zbd w g L rest:=by
 have b:L.length=n:=by have:=h.1;rw [za9] at this;omega
 rcases h.2 with ⟨_,y⟩ | ⟨g,j,e,m,hb,l,u,z,B,r⟩
 . omega
 . refine ⟨g,j,e.toList.drop n,m,hb,b,?_⟩
   unfold zbd Blk;rw [l]
   congr 2
   rw [<- r,Nat.mul_one,List.take_append_drop]
theorem zar.apart {w w' :World} {B B' :Nat} {ad:Addr} {k c n:Nat} (h:zar w B (.slice (some ad) k c) n) (hk:∀ p:Addr,p.block=ad.block->w'.cell? p=w.cell? p) (hB:B<=B'):zar w' B' (.slice (some ad) k c) n:=by
 obtain ⟨A,c',ds,e,l,j,b,m,r⟩:=h
 injection e with e1 e2 e3
 subst e1 e2 e3
 exact ⟨_,_,ds,rfl,l,j,(zV.apart b hk).more hB,m,r⟩
theorem zpv.step {w wr w3:World} {a q gq kq cq i r:Nat} {l:List Nat} {v v3:Value} {o:Obj} (hi:i<9) (HPOS:Hid (0<q\/0<r)) (HR1:Hid (r<10 ^ (9 - i))) (hr1:r<1000000000) (HL1:Hid (l ++ digs 10 (r+q*10 ^ (9 - i))=digs 10 a))
 (hown:wr.ownsRow w.heap.size 5 1 v l.length (u8s (l.map chr))) (hne:v.ownBlock≠some gq) (hgq:gq<wr.heap.size) (hq1:yF wr (.slice (some ⟨gq,0,none⟩) kq cq) q) (hbl:Below w.heap.size w wr)
 (hown3:w3.ownsRow w.heap.size 5 1 v3 (l.length+1) (u8s (l.map chr) ++ [.int .u8 (48+(r:Int) % 10)])) (hg3:(wr.alloc o).grownBy w3 v.ownBlock) (hat:v3.ownBlock=v.ownBlock\/v3.ownBlock=some (wr.alloc o).heap.size)
 (rv iv:Value) (hrv:rv= .int .u32 ((r / 10:Nat):Int)) (hiv:iv= .int .i64 ((i+1:Nat):Int)):zpv w a q gq kq cq v3 rv iv w3:=by
 subst hrv hiv
 obtain ⟨z,y⟩:=zdq hi HPOS.o HL1.o HR1.o
 have B:wr.heap.size+1<=w3.heap.size:=by simpa using hg3.size
 refine ⟨i+1,r / 10,l ++ [r % 10],by omega,rfl,rfl,y,by omega,z,?_,?_,by omega,?_,?_⟩
 . rw [List.length_append,List.map_append,zl5]
   have e:u8s ([r % 10].map chr)=[Value.int .u8 (48+(r:Int) % 10)]:=by
    simp only [List.map_cons,List.map_nil,u8s,zhb (show r % 10<10 by omega)]
    congr 2
   rw [e];exact hown3
 . rcases hat with e | e<;>rw [e]
   . exact hne
   . simp;omega
 . refine zar.apart hq1 ?_ (by omega)
   intro p m;have u :p.block=gq:=m;have j:=World.cell?_of_block (w:=wr.alloc o) (w' :=w3) (a:=p) (hg3.block p.block (by simp;omega) (by rw [u];exact fun e=>hne e.symm));rw [j];exact World.cell?_alloc_lt wr o p (by omega)
 . refine (hbl.alloc hbl.size o).grown hg3 (by have:=hbl.size;simp;omega) ?_
   intro k b;exact (hown.lt k b).1
set_option maxRecDepth 100000 in
set_option maxHeartbeats 800000 in
theorem YT (va:Value) (a:Nat) (w:World) (ha:yF w va a) (hla:len 4294967296 a<=67108864):
 Calls Tryz.prog 78 #[va] w (zkz w (dec a)):=by
 have aR:=ha
 obtain ⟨A,ca,X,rfl,h1,h2,aY,h4,G⟩:=ha
 by_cases b:X.length=0
 . have hd:X=[]:=List.eq_nil_of_length_eq_zero b
   have U:a=0:=by rw [<- G,hd];rfl
   subst U;rw [vO];have aK:((X.length:Int) == 0)=true:=by rw [b];rfl
   clear hd b G hla
   go_enter func78,ntmps78
   go_wp2_with fail;go_ret;exact ⟨rfl,vh _⟩
 have aK:((X.length:Int) == 0)=false:=by rw [beq_eq_false_iff_ne];omega
 have U:a≠0:=by
  intro e;rw [e] at G;have:=(h4.zero_iff (by omega)).1 G;rw [this] at b;exact b rfl
 have aC:=ze U;have aN:=ze hla;have aP:=VD hla
 have aj:∀ l:List Nat,∀ m,l ++ digs 10 m=digs 10 a->l.length<=671088640:=by
  intro l m h;have:=congrArg List.length h;rw [List.length_append] at this;have e:(digs 10 a).length=len 10 a:=rfl
  omega
 have am:=ze aj;clear G b U aP aj hla;obtain ⟨i0,aF,aB,av,ak⟩:=info_parts zx0
 go_enter func78,ntmps78
 go_wp2_with fail
 go_loopw [0,3] (zx5 w a) (fun nv _ wr=>zfg wr nv)
 case atStart=>exact ⟨a,[],aR,rfl,World.ownsRow_nil _ _ _ _,vh _,Nat.le_refl a⟩
 case round=>
  obtain ⟨m,l,Z,HL,y,z,aH⟩:=hrel;have ay:=Z;have aG:=Vg Z;obtain ⟨A,cm,T,rfl,j1,j2,aX,j4,J⟩:=Z;have ai:=ze aG;clear aG
  by_cases b:T.length=0
  . have hd:T=[]:=List.eq_nil_of_length_eq_zero b
    have aD:m=0:=by rw [<- J,hd];rfl
    have ae:l=digs 10 a:=by have:=HL.o;rw [aD,ZH,List.append_nil] at this;exact this
    have aQ:=ze ae
    have aO:0<l.length:=by
     rw [ae];exact zbt (by omega) (Nat.pos_of_ne_zero aC.o)
    have a0:l.length<=671088640:=am.o l m HL.o;have aZ:¬ (0:Int)<(T.length:Int):=by omega
    clear hd aD ae b J;obtain ⟨g,c,rest,rfl,aT,al,aM⟩:=zqe y aO;go_wp2_with fail;refine (zjh g c _ _ rest _ aM al (by omega)).mono ?_;rintro e w1 ⟨rfl,M,aL⟩
    have ar:=run_convert_bytes_back (P:=Tryz.prog) w1 183 9 5 ⟨g,0,none⟩ c ((l.map chr).reverse) underlying183 underlying5 underlying9 (fun j hj=>by
     have:=M.cell hj;unfold Addr.add
     by_cases h0:j=0
     . subst h0;simpa using this
     rw [if_neg h0];simpa using this)
    rw [List.length_reverse,al] at ar;have aI:=zlp aC.o aQ.o;rw [aI] at ar;clear aI M;go_wp2_with fail;go_ret;exact ⟨rfl,z.grown aL z.size (by intro k hk;injection hk with hk;omega)⟩
  have aw:0<m:=by
   rcases Nat.eq_zero_or_pos m with e | e
   . exfalso
     rw [e] at J;have:=(j4.zero_iff (by omega)).1 J;rw [this] at b;exact b rfl
   . exact e
  have aW:0<T.length:=by omega
  have an:=ze (zcd _ m 1000000000 wr ay (Nat.le_trans (vI (by omega) aH.o) aN.o) (by omega) (by omega));obtain ⟨q,hq⟩:∃ q,q=m / 1000000000:=⟨_,rfl⟩;obtain ⟨r,hr⟩:∃ r,r=m % 1000000000:=⟨_,rfl⟩;rw [<- hq, <- hr] at an;have V:=ze hq;have HR:=ze hr;have F:r<1000000000:=by omega
  clear hq hr b J;go_wp2_with fail;refine (zK an).mono ?_;rintro e w1 ⟨C,cq,rfl,B,aJ,M⟩;have az:=zp0 y M;have aV:(9:Nat) - 0=9:=rfl;go_wp2_with fail
  go_loopw [3,5,6] (zpv w a q wr.heap.size C cq) (fun _ _ iv _=>9 - (intOf iv).toNat)
  case atStart=>
   refine ⟨0,r,l,by omega,rfl,rfl,?_,F,?_,az,?_,aJ,B,ext z M⟩
   . show r<10 ^ 9
     exact F
   . show _=_
     rw [HR.o,V.o,zm1];exact HL.o
   . intro e
     have:=(y.lt _ e).2
     omega
  case round=>
   clear y az B F z ay;obtain ⟨i,r,l,hi,rfl,rfl,ag,F,R,y,au,aA,B,z⟩:=hrel;have ao:=ziw B;have ax:=ze ao;clear ao
   by_cases D:i<9/\(0<C\/0<r)
   . obtain ⟨K,Y⟩:=D
     have ap:Hid (0<q\/0<r):=Y.imp ax.o.1 id;have aU:l.length<=671088640:=am.o l _ R.o;have S:=xJ wr 5 (.int .u8 (48+(r:Int) % 10))
     have aq:∀ u∈[Value.int .u8 (48+(r:Int) % 10)],u.oneCell' =true:=by
      intro u hu;rw [List.mem_singleton] at hu;subst hu;rfl
     by_cases af:0<C
     . have aE:(0:Int)<(C:Int):=by omega
       clear Y;go_wp2_with (at_builtin;refine yj _ rfl (.tmp 31) (.tmp 36) _ rfl w.heap.size 5 i0 _ 1 1 underlying183 aF aB av ak rfl (by omega) _ l.length (u8s (l.map chr)) rfl (y.alloc _) _ (some ⟨wr.heap.size,0,none⟩) 1 1 [.int .u8 (48+(r:Int) % 10)] rfl S aq ?o2 ?o3 ?o4 ?_)
       case o2=>unfold maxLen;omega
       case o3=>omega
       case o4=>have:=z.size;simp;omega
       intro v3 w3 L O Q;have ac:=ze L;have ad:=ze O;have aa:=ze Q;clear L O Q S;go_wp2_with fail;go_roundw
       case rel=>exact zpv.step K ap ag F R y au aA B z ac.o ad.o (by simpa using aa.o) _ _ (by go_num) (by go_num)
       case measure=>simp [intOf];omega
     have aE:¬ (0:Int)<(C:Int):=by omega
     have aS:(0:Int)<(r:Int):=by omega
     clear Y;go_wp2_with (at_builtin;refine yj _ rfl (.tmp 31) (.tmp 36) _ rfl w.heap.size 5 i0 _ 1 1 underlying183 aF aB av ak rfl (by omega) _ l.length (u8s (l.map chr)) rfl (y.alloc _) _ (some ⟨wr.heap.size,0,none⟩) 1 1 [.int .u8 (48+(r:Int) % 10)] rfl S aq ?o2 ?o3 ?o4 ?_)
     case o2=>unfold maxLen;omega
     case o3=>omega
     case o4=>have:=z.size;simp;omega
     intro v3 w3 L O Q;have ac:=ze L;have ad:=ze O;have aa:=ze Q;clear L O Q S;go_wp2_with fail;go_roundw
     case rel=>exact zpv.step K ap ag F R y au aA B z ac.o ad.o (by simpa using aa.o) _ _ (by go_num) (by go_num)
     case measure=>simp [intOf];omega
   by_cases K:i<9
   rotate_left
   . obtain rfl:i=9:=by omega
     have I:=ze D;clear D;go_wp2_with fail;go_roundw
     case rel=>
      refine ⟨q,l,B,?_,y,z,?_⟩
      rotate_left
      . show q<=a
        rw [V.o];exact Nat.le_trans (Nat.div_le_self _ _) aH.o
      have:=R.o
      have E:r=0:=by have:=ag.o;simp at this;exact this
      rw [E] at this
      show l ++ digs 10 q=digs 10 a
      simpa using this
     case measure=>
      rw [ai.o];rw [Vg B,V.o];exact Nat.div_lt_self aw (by omega)
   have af:¬ 0<C:=fun h=>D ⟨K,.inl h⟩
   have E:¬ 0<r:=fun h=>D ⟨K,.inr h⟩
   have aE:¬ (0:Int)<(C:Int):=by omega
   have aS:¬ (0:Int)<(r:Int):=by omega
   have I:=ze (And.intro af E);clear D af E;go_wp2_with fail;go_roundw
   case rel=>
    have ah:q=0:=by
     rcases Nat.eq_zero_or_pos q with e | e
     . exact e
     . exact absurd (ax.o.2 e) I.o.1
    have E:r=0:=by have:=I.o.2;omega
    have ab:C=0:=by have:=I.o.1;omega
    have N :=B;rw [ab] at N;refine ⟨q,l,N,?_,y,z,?_⟩
    . have:=R.o
      rw [E,ah,Nat.zero_mul] at this;rw [ah];exact this
    show q<=a
    rw [ah];exact Nat.zero_le _
   case measure=>
    rw [ai.o];have ab:C=0:=by have:=I.o.1;omega
    have N :=B;rw [ab] at N;rw [Vg N,V.o];exact Nat.div_lt_self aw (by omega)
end Go.Proofs.YthbmhkiphmcogaaGreatDoor
