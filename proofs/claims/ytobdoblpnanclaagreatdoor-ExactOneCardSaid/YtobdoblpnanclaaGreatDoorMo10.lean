/- Parts of the proof. -/
import Derived.BigRegion
import Derived.Test.YtobdoblpnanclaaGreatDoorMo09
set_option linter.all false
namespace Go.Proofs.YtobdoblpnanclaaGreatDoor
open Proofs.Tryz Go.RowKit Go.Deep
def u8s (l:List UInt8):List Value:=l.map fun (c:UInt8)=>Value.int .u8 (c.toNat:Int)
theorem zab (l:List UInt8):(u8s l).length=l.length:=by simp [u8s]
theorem zl0 (a b:List UInt8):u8s (a ++ b)=u8s a ++ u8s b:=by simp [u8s]
theorem zud {l:List UInt8} {k:Nat} (hk:k<l.length):(u8s l)[k]?=some (.int .u8 (l[k].toNat:Int)):=by simp [u8s,hk]
theorem ztr (l:List UInt8) (k:Nat) (c:UInt8):(u8s l).set k (.int .u8 (c.toNat:Int))=u8s (l.set k c):=by simp [u8s,List.map_set]
def VO (w:World) (g:Nat) (l:List UInt8) (rest:List Value):Prop:=Blk w g 5 (u8s l ++ rest).toArray
theorem VO.cell {w:World} {g:Nat} {l:List UInt8} {rest:List Value} (h:VO w g l rest) {k:Nat} (hk:k<l.length):w.cell? ⟨g,k,none⟩=some (.int .u8 (l[k].toNat:Int)):=by
 rw [Blk.cell h k,List.getElem?_toArray,List.getElem?_append_left (by rw [zab];exact hk),zud hk]
theorem VO.set_ {w:World} {g:Nat} {l:List UInt8} {rest:List Value} (h:VO w g l rest) {k:Nat} (hk:k<l.length) (c:UInt8):VO (w.setCell ⟨g,k,none⟩ (.int .u8 (c.toNat:Int))) g (l.set k c) rest:=by
 have:=Blk.set_ h k (.int .u8 (c.toNat:Int))
 unfold VO
 rw [List.setIfInBounds_toArray,List.set_append_left _ _ (by rw [zab];exact hk),ztr] at this
 exact this
def zws (D:List UInt8) (rest:List Value) (g:Nat) (w:World) (iv jv:Value) (wr:World):Prop:=
 ∃ (i:Nat) (l:List UInt8),iv= .int .i64 i/\jv= .int .i64 ((D.length:Int) - 1 - i)/\2*i<=D.length/\l.length=D.length/\Hid (∀ p (hp:p<l.length) (hd:p<D.length),l[p]=if p<i\/D.length - 1 - p<i then D[D.length - 1 - p] else D[p])/\
  VO wr g l rest/\w.grownBy wr (some g)
theorem zws.step {D l:List UInt8} {rest:List Value} {g i j:Nat} {w wr:World} (hl:l.length=D.length) (hj:j=D.length - 1 - i) (hlt:2*i+1<D.length)
 (HL:Hid (∀ p (b:p<l.length) (hd:p<D.length),l[p]=if p<i\/D.length - 1 - p<i then D[D.length - 1 - p] else D[p])) (hil:i<l.length) (hjl:j<l.length)
 (hbl:VO wr g l rest) (hgr:w.grownBy wr (some g)) (iv jv:Value) (hiv:iv= .int .i64 ((i+1:Nat):Int)) (hjv:jv= .int .i64 ((j:Int) - 1)):
 zws D rest g w iv jv (((wr.setCell ⟨g,i,none⟩ (.int .u8 (l[j].toNat:Int))).setCell ⟨g,j,none⟩ (.int .u8 (l[i].toNat:Int))).drew):=by
 subst hiv hjv
 have y:=hbl.set_ hil l[j]
 have u:=VO.set_ y (k:=j) (by simpa using hjl) l[i]
 refine ⟨i+1,(l.set i l[j]).set j l[i],rfl,congrArg _ (by omega),by omega,by simpa using hl,?_,u,zhh (vO (vO hgr (.inl rfl) _) (.inl rfl) _)⟩
 intro p b hd
 have hi:=HL.o i hil (by omega)
 have e :=HL.o j hjl (by omega)
 rw [if_neg (by omega)] at hi e
 by_cases r:p=j
 . subst r
   rw [List.getElem_set_self,if_pos (by omega),hi]
   congr 1;omega
 rw [List.getElem_set_ne (by omega)]
 by_cases B:p=i
 . subst B
   rw [List.getElem_set_self,if_pos (by omega),e]
   congr 1
 rw [List.getElem_set_ne (by omega)]
 have z:=HL.o p (by simpa using b) hd;rw [z]
 by_cases m:p<i\/D.length - 1 - p<i
 . rw [if_pos m,if_pos (by omega)]
 rw [if_neg m,if_neg (by omega)]
set_option maxRecDepth 100000 in
theorem zjr (g c n:Nat) (D:List UInt8) (rest:List Value) (w:World) (hb:VO w g D rest) (hn:D.length=n) (hm:n<=1073741824):
 Calls prog 117 #[.slice (some ⟨g,0,none⟩) n c] w fun e w' =>e= .returned (.tuple #[])/\VO w' g D.reverse rest/\w.grownBy w' (some g):=by
 subst hn
 go_in
 go_wp2
 go_loopw [2,3] (zws D rest g w) (fun iv _ _=>D.length - (intOf iv).toNat)
 case atStart=>
  refine ⟨0,D,rfl,congrArg _ (by omega),by omega,rfl,?_,hb,World.grownBy.refl w _⟩
  intro p O hd
  rw [if_neg (by omega)]
 case round=>
  obtain ⟨i,l,rfl,rfl,M,hl,B,b,u⟩:=hrel
  by_cases F:2*i+1<D.length
  rotate_left
  . have m:l=D.reverse:=by
     apply List.ext_getElem (by simpa using hl)
     intro p I K;rw [List.getElem_reverse,B.o p I (by omega)]
     by_cases z:p<i\/D.length - 1 - p<i
     . rw [if_pos z]
     rw [if_neg z]
     congr 1;omega
    have J:=ze m;have Q:¬ ((i:Int)<(D.length:Int) - 1 - i):=by omega
    clear m;go_wp2
    go_end0
    exact ⟨rfl,by rw [<- J.o];exact b,u⟩
  obtain ⟨j,E⟩:=uQ (D.length - 1 - i)
  have y:(D.length:Int) - 1 - i=(j:Int):=by omega
  have C:i<l.length:=by omega
  have r:j<l.length:=by omega
  have L:i<j:=by omega
  have R:=b.cell C;have N:=b.cell r;have U:=Blk.frozen b i;have T:=Blk.frozen b j;rw [y];have G:=ze E;have S:j<=1073741824:=by omega
  clear E y;go_wp2
  go_region
  all_goals go_wp2
  go_roundw
  case rel=>exact zws.step hl G.o F B C r b u _ _ (by go_num) rfl
  case measure=>simp [intOf];omega
theorem zwz:(prog.info? 5).map (fun i=>(i.zero,i.size,i.bytes))=some (some (.int .u8 0),1,1):=by kernel_rfl
def zn4 (w:World) (l:List UInt8) (e:Ending) (w' :World):Prop:=e= .returned (.string ⟨l.toArray⟩)/\Below w.heap.size w w'
def zw3 (w:World) (a:Nat) (nv bv:Value) (wr:World):Prop:=
 ∃ (m:Nat) (l:List Nat),yt wr nv m/\Hid (l ++ digs 10 m=digs 10 a)/\wr.ownsRow w.heap.size 5 1 bv l.length (u8s (l.map chr))/\Below w.heap.size w wr/\Hid (m<=a)
def zp6 (w:World) (a q gq kq cq:Nat) (bv rv iv:Value) (wr:World):Prop:=
 ∃ (i r:Nat) (l:List Nat),i<=9/\iv= .int .i64 i/\rv= .int .u32 r/\Hid (r<10 ^ (9 - i))/\r<1000000000/\Hid (l ++ digs 10 (r+q*10 ^ (9 - i))=digs 10 a)/\
  wr.ownsRow w.heap.size 5 1 bv l.length (u8s (l.map chr))/\bv.ownBlock≠some gq/\gq<wr.heap.size/\yt wr (.slice (some ⟨gq,0,none⟩) kq cq) q/\Below w.heap.size w wr
theorem XV {a:Nat} (h:len 4294967296 a<=67108864):len 10 a<=671088640:=by
 have j:len 10 a<=10*len 4294967296 a:=by
  apply xo (by omega)
  have e:=vP (β:=4294967296) (by omega) a
  have b:4294967296 ^ len 4294967296 a<=(10 ^ 10) ^ len 4294967296 a:=Nat.pow_le_pow_left (by omega) _
  rw [<- Nat.pow_mul] at b
  exact uK e b
 omega
theorem znl {l:List Nat} {r q i a:Nat} (hi:i<9) (hpos:0<q\/0<r) (h:l ++ digs 10 (r+q*10 ^ (9 - i))=digs 10 a) (hr:r<10 ^ (9 - i)):
 (l ++ [r % 10]) ++ digs 10 (r / 10+q*10 ^ (9 - (i+1)))=digs 10 a/\r / 10<10 ^ (9 - (i+1)):=by
 obtain ⟨k,m⟩:∃ k,9 - i=k+1:=⟨9 - i - 1,by omega⟩
 rw [m] at h hr
 rw [show 9 - (i+1)=k by omega]
 rw [Nat.pow_succ] at h hr
 have u:r+q*(10 ^ k*10)=r+10*(q*10 ^ k):=by rw [<- Nat.mul_assoc,uH _ 10]
 rw [u] at h
 have e:0<10 ^ k:=Nat.pow_pos (by omega)
 have j:0<r+10*(q*10 ^ k):=by
  rcases hpos with b | b
  . have:=Nat.mul_pos b e;omega
  . omega
 have:=zoq h j
 rw [show (r+10*(q*10 ^ k)) % 10=r % 10 by omega,show (r+10*(q*10 ^ k)) / 10=r / 10+q*10 ^ k by omega] at this
 exact ⟨this,by omega⟩
theorem zlu (m:Nat):m % 1000000000+m / 1000000000*10 ^ (9 - 0)=m:=by
 have:(10:Nat) ^ (9 - 0)=1000000000:=by decide
 rw [this,uH]
 exact Nat.mod_add_div _ _
theorem zqz {a:Nat} (h:a≠0) {l:List Nat} (hl:l=digs 10 a):(l.map chr).reverse=dec a:=by
 subst hl
 unfold dec
 rw [if_neg h,List.map_reverse]
theorem zpq {w w' :World} {base:Nat} {e:TypeId} {size:Nat} {v:Value} {n:Nat} {xs:List Value} (h:w.ownsRow base e size v n xs) (hb:Below w.heap.size w w'):w'.ownsRow base e size v n xs:=by
 refine ⟨h.1,?_⟩
 rcases h.2 with u | ⟨g,m,l,hv,y,b,r⟩
 . exact .inl u
 . refine .inr ⟨g,m,l,hv,y,(hb.block g ?_).trans b,r⟩
   rcases uL g w.heap.size with j | j
   . exact j
   . rw [Array.getElem?_eq_none j] at b;cases b
theorem zmz (w:World) (t:TypeId) (x:Value):ys (w.alloc (.cells #[x] t)) (w.heap.size+1) 1 (some ⟨w.heap.size,0,none⟩) 1 [x]:=by
 have h:=(Blk.new w t #[x]).reads (n:=1) (by simp)
 simp only [World.size_alloc] at h
 exact h
theorem zi5 {w:World} {A:Option Addr} {k c q:Nat} (h:yt w (.slice A k c) q):(0<k↔0<q):=by
 obtain ⟨A',c',m,e,u,r,y,j,l⟩:=h
 injection e with _ e _
 subst e
 have:=j.zero_iff (by omega)
 rw [l] at this
 constructor
 . intro b
   rcases uN q with e | e
   . have:=this.1 e;subst this;simp at b
   . exact e
 intro b
 rcases uN m.length with e | e
 . have:=this.2 (uI e);omega
 . exact e
theorem znt {w:World} {base n:Nat} {v:Value} {L:List UInt8} (h:w.ownsRow base 5 1 v n (u8s L)) (hn:0<n):
 ∃ g c rest,v= .slice (some ⟨g,0,none⟩) n c/\base<=g/\L.length=n/\VO w g L rest:=by
 have hl:L.length=n:=by have:=h.1;rw [zab] at this;omega
 rcases h.2 with ⟨_,u⟩ | ⟨g,e,b,hv,hb,l,r,m,y,j⟩
 . omega
 . refine ⟨g,e,b.toList.drop n,hv,hb,hl,?_⟩
   unfold VO Blk;rw [l]
   congr 2
   rw [<- j,Nat.mul_one,List.take_append_drop]
theorem Vk.apart {w w' :World} {B B' :Nat} {ad:Addr} {k c n:Nat} (h:Vk w B (.slice (some ad) k c) n) (hk:∀ p:Addr,p.block=ad.block->w'.cell? p=w.cell? p) (hB:B<=B'):Vk w' B' (.slice (some ad) k c) n:=by
 obtain ⟨A,c',u,e,l,b,r,j,m⟩:=h
 injection e with e1 e2 e3
 subst e1 e2 e3
 exact ⟨_,_,u,rfl,l,b,(ys.apart r hk).more hB,j,m⟩
theorem zp6.step {w wr w3:World} {a q gq kq cq i r:Nat} {l:List Nat} {v v3:Value} {o:Obj} (hi:i<9) (HPOS:Hid (0<q\/0<r)) (HR1:Hid (r<10 ^ (9 - i))) (hr1:r<1000000000) (HL1:Hid (l ++ digs 10 (r+q*10 ^ (9 - i))=digs 10 a))
 (hown:wr.ownsRow w.heap.size 5 1 v l.length (u8s (l.map chr))) (hne:v.ownBlock≠some gq) (hgq:gq<wr.heap.size) (hq1:yt wr (.slice (some ⟨gq,0,none⟩) kq cq) q) (hbl:Below w.heap.size w wr)
 (hown3:w3.ownsRow w.heap.size 5 1 v3 (l.length+1) (u8s (l.map chr) ++ [.int .u8 (48+(r:Int) % 10)])) (hg3:(wr.alloc o).grownBy w3 v.ownBlock) (hat:v3.ownBlock=v.ownBlock\/v3.ownBlock=some (wr.alloc o).heap.size)
 (rv iv:Value) (hrv:rv= .int .u32 ((r / 10:Nat):Int)) (hiv:iv= .int .i64 ((i+1:Nat):Int)):zp6 w a q gq kq cq v3 rv iv w3:=by
 subst hrv hiv
 obtain ⟨y,u⟩:=znl hi HPOS.o HL1.o HR1.o
 have B:wr.heap.size+1<=w3.heap.size:=by simpa using hg3.size
 refine ⟨i+1,r / 10,l ++ [r % 10],by omega,rfl,rfl,u,by omega,y,?_,?_,by omega,?_,?_⟩
 . rw [List.length_append,List.map_append,zl0]
   have e:u8s ([r % 10].map chr)=[Value.int .u8 (48+(r:Int) % 10)]:=by
    simp only [List.map_cons,List.map_nil,u8s,zg3 (show r % 10<10 by omega)]
    congr 2
   rw [e];exact hown3
 . rcases hat with e | e<;>rw [e]
   . exact hne
   . simp;omega
 . refine Vk.apart hq1 ?_ (by omega)
   intro p b;have m :p.block=gq:=b;have z:=World.cell?_of_block (w:=wr.alloc o) (w' :=w3) (a:=p) (hg3.block p.block (by simp;omega) (by rw [m];exact fun e=>hne e.symm));rw [z];exact World.cell?_alloc_lt wr o p (by omega)
 . refine (hbl.alloc hbl.size o).grown hg3 (by have:=hbl.size;simp;omega) ?_
   intro k j;exact (hown.lt k j).1
set_option maxRecDepth 100000 in
set_option maxHeartbeats 800000 in
theorem Yi (va:Value) (a:Nat) (w:World) (ha:yt w va a) (hla:len 4294967296 a<=67108864):
 Calls prog 91 #[va] w (zn4 w (dec a)):=by
 have aP:=ha
 obtain ⟨A,ca,V,rfl,h1,h2,aS,h4,N⟩:=ha
 by_cases b:V.length=0
 . have hd:V=[]:=uI b
   have X:a=0:=by rw [<- N,hd];rfl
   subst X;rw [v8];have aR:((V.length:Int) == 0)=true:=by rw [b];rfl
   clear hd b N hla
   go_in
   go_wp2;go_ret;exact ⟨rfl,xh _⟩
 have aR:((V.length:Int) == 0)=false:=by rw [beq_eq_false_iff_ne];omega
 have X:a≠0:=by
  intro e;rw [e] at N;have:=(h4.zero_iff (by omega)).1 N;rw [this] at b;exact b rfl
 have aC:=ze X;have aN:=ze hla;have aM:=XV hla
 have aj:∀ l:List Nat,∀ m,l ++ digs 10 m=digs 10 a->l.length<=671088640:=by
  intro l m h;have:=congrArg List.length h;rw [List.length_append] at this;have e:(digs 10 a).length=len 10 a:=rfl
  omega
 have au:=ze aj;clear N b X aM aj hla;obtain ⟨i0,aD,am,aG,ax⟩:=info_parts zwz
 go_in
 go_wp2
 go_loopw [0,3] (zw3 w a) (fun nv _ wr=>ze0 wr nv)
 case atStart=>exact ⟨a,[],aP,rfl,World.ownsRow_nil _ _ _ _,xh _,Nat.le_refl a⟩
 case round=>
  obtain ⟨m,l,hm,HL,z,y,al⟩:=hrel;have aH:=hm;have aE:=Xq hm;obtain ⟨A,cm,T,rfl,j1,j2,aU,j4,J⟩:=hm;have az:=ze aE;clear aE
  by_cases b:T.length=0
  . have hd:T=[]:=uI b
    have ao:m=0:=by rw [<- J,hd];rfl
    have Y:l=digs 10 a:=by have:=HL.o;rw [ao,Xg,List.append_nil] at this;exact this
    have aI:=ze Y
    have aO:0<l.length:=by
     rw [Y];exact zuq (by omega) (Nat.pos_of_ne_zero aC.o)
    have aW:l.length<=671088640:=au.o l m HL.o;have aT:¬ (0:Int)<(T.length:Int):=by omega
    clear hd ao Y b J;obtain ⟨g,c,rest,rfl,aY,ak,aJ⟩:=znt z aO;go_wp2_with fail;refine (zjr g c _ _ rest _ aJ ak (by omega)).mono ?_;rintro e w1 ⟨rfl,R,aQ⟩
    have ar:=run_convert_bytes_back (P:=prog) w1 173 9 5 ⟨g,0,none⟩ c ((l.map chr).reverse) underlying173 underlying5 underlying9 (fun j hj=>by
     have:=R.cell hj;unfold Addr.add
     by_cases h0:j=0
     . subst h0;simpa using this
     rw [if_neg h0];simpa using this)
    rw [List.length_reverse,ak] at ar;have aw:=zqz aC.o aI.o;rw [aw] at ar;clear aw R;go_wp2;go_ret;exact ⟨rfl,y.grown aQ y.size (by intro k hk;injection hk with hk;omega)⟩
  have ap:0<m:=by
   rcases uN m with e | e
   . exfalso
     rw [e] at J;have:=(j4.zero_iff (by omega)).1 J;rw [this] at b;exact b rfl
   . exact e
  have aV:0<T.length:=by omega
  have aA:=ze (za3 _ m 1000000000 wr aH (uC (Yk (by omega) al.o) aN.o) (by omega) (by omega));obtain ⟨q,hq⟩:=uQ (m / 1000000000);obtain ⟨r,hr⟩:=uQ (m % 1000000000);rw [<- hq, <- hr] at aA;have S:=ze hq;have HR:=ze hr;have D:r<1000000000:=by omega
  clear hq hr b J;go_wp2_with fail;refine (zW aA).mono ?_;rintro e w1 ⟨C,cq,rfl,B,aK,R⟩;have aq:=zpq z R;have aZ:(9:Nat) - 0=9:=rfl;go_wp2
  go_loopw [3,5,6] (zp6 w a q wr.heap.size C cq) (fun _ _ iv _=>9 - (intOf iv).toNat)
  case atStart=>
   refine ⟨0,r,l,by omega,rfl,rfl,?_,D,?_,aq,?_,aK,B,ext y R⟩
   . show r<10 ^ 9
     exact D
   . show _=_
     rw [HR.o,S.o,zlu];exact HL.o
   . intro e
     have:=(z.lt _ e).2
     omega
  case round=>
   clear z aq B D y aH;obtain ⟨i,r,l,hi,rfl,rfl,ac,D,K,z,ah,ai,B,y⟩:=hrel;have an:=zi5 B;have av:=ze an;clear an
   by_cases F:i<9/\(0<C\/0<r)
   . obtain ⟨L,aa⟩:=F
     have aF:Hid (0<q\/0<r):=aa.imp av.o.1 id;have aX:l.length<=671088640:=au.o l _ K.o;have U:=zmz wr 5 (.int .u8 (48+(r:Int) % 10))
     have ay:∀ u∈[Value.int .u8 (48+(r:Int) % 10)],u.oneCell' =true:=by
      intro u hu;rw [uM] at hu;subst hu;rfl
     by_cases Z:0<C
     . have aB:(0:Int)<(C:Int):=by omega
       clear aa;go_wp2_with (at_builtin;refine Zf _ rfl (.tmp 31) (.tmp 36) _ rfl w.heap.size 5 i0 _ 1 1 underlying173 aD am aG ax rfl (by omega) _ l.length (u8s (l.map chr)) rfl (z.alloc _) _ (some ⟨wr.heap.size,0,none⟩) 1 1 [.int .u8 (48+(r:Int) % 10)] rfl U ay ?o2 ?o3 ?o4 ?_)
       case o2=>unfold maxLen;omega
       case o3=>omega
       case o4=>have:=y.size;simp;omega
       intro v3 w3 I G M;obtain ⟨ae,ag,ad⟩:=hz3 I G M;clear I G M U;go_wp2;go_roundw
       case rel=>exact zp6.step L aF ac D K z ah ai B y ae.o ag.o (by simpa using ad.o) _ _ (by go_num) (by go_num)
       case measure=>simp [intOf];omega
     have aB:¬ (0:Int)<(C:Int):=by omega
     have aL:(0:Int)<(r:Int):=by omega
     clear aa;go_wp2_with (at_builtin;refine Zf _ rfl (.tmp 31) (.tmp 36) _ rfl w.heap.size 5 i0 _ 1 1 underlying173 aD am aG ax rfl (by omega) _ l.length (u8s (l.map chr)) rfl (z.alloc _) _ (some ⟨wr.heap.size,0,none⟩) 1 1 [.int .u8 (48+(r:Int) % 10)] rfl U ay ?o2 ?o3 ?o4 ?_)
     case o2=>unfold maxLen;omega
     case o3=>omega
     case o4=>have:=y.size;simp;omega
     intro v3 w3 I G M;obtain ⟨ae,ag,ad⟩:=hz3 I G M;clear I G M U;go_wp2;go_roundw
     case rel=>exact zp6.step L aF ac D K z ah ai B y ae.o ag.o (by simpa using ad.o) _ _ (by go_num) (by go_num)
     case measure=>simp [intOf];omega
   by_cases L:i<9
   rotate_left
   . obtain rfl:i=9:=by omega
     have O:=ze F;clear F;go_wp2;go_roundw
     case rel=>
      refine ⟨q,l,B,?_,z,y,?_⟩
      rotate_left
      . show q<=a
        rw [S.o];exact uC (Nat.div_le_self _ _) al.o
      have:=K.o
      have E:r=0:=by have:=ac.o;simp at this;exact this
      rw [E] at this
      show l ++ digs 10 q=digs 10 a
      simpa using this
     case measure=>
      rw [az.o];rw [Xq B,S.o];exact Nat.div_lt_self ap (by omega)
   have Z:¬ 0<C:=fun h=>F ⟨L,.inl h⟩
   have E:¬ 0<r:=fun h=>F ⟨L,.inr h⟩
   have aB:¬ (0:Int)<(C:Int):=by omega
   have aL:¬ (0:Int)<(r:Int):=by omega
   have O:=ze (And.intro Z E);clear F Z E;go_wp2;go_roundw
   case rel=>
    have ab:q=0:=by
     rcases uN q with e | e
     . exact e
     . exact absurd (av.o.2 e) O.o.1
    have E:r=0:=by have:=O.o.2;omega
    have af:C=0:=by have:=O.o.1;omega
    have Q :=B;rw [af] at Q;refine ⟨q,l,Q,?_,z,y,?_⟩
    . have:=K.o
      rw [E,ab,Nat.zero_mul] at this;rw [ab];exact this
    show q<=a
    rw [ab];exact uB
   case measure=>
    rw [az.o];have af:C=0:=by have:=O.o.1;omega
    have Q :=B;rw [af] at Q;rw [Xq Q,S.o];exact Nat.div_lt_self ap (by omega)
end Go.Proofs.YtobdoblpnanclaaGreatDoor
