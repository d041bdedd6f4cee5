/- Parts of the proof: memory, numbers, walks of the functions that are called. -/
import Derived.BigRegion
import Derived.Test.YtkmcmmcencdcpaaGreatDoorMt10
set_option linter.unusedVariables false
set_option linter.unusedSimpArgs false
namespace Go.Proofs.YtkmcmmcencdcpaaGreatDoor
open Go.RowKit Go.Deep
def u8s (l:List UInt8):List Value:=l.map fun (c:UInt8)=>Value.int .u8 (c.toNat:Int)
theorem Vn (l:List UInt8):(u8s l).length=l.length:=by simp [u8s]
theorem zjh (a b:List UInt8):u8s (a ++ b)=u8s a ++ u8s b:=by simp [u8s]
theorem zqk {l:List UInt8} {k:Nat} (hk:k<l.length):(u8s l)[k]?=some (.int .u8 (l[k].toNat:Int)):=by simp [u8s,hk]
theorem zpp (l:List UInt8) (k:Nat) (c:UInt8):(u8s l).set k (.int .u8 (c.toNat:Int))=u8s (l.set k c):=by simp [u8s,List.map_set]
def V1 (w:World) (g:Nat) (l:List UInt8) (rest:List Value):Prop:=Blk w g 5 (u8s l ++ rest).toArray
theorem V1.cell {w:World} {g:Nat} {l:List UInt8} {rest:List Value} (h:V1 w g l rest) {k:Nat} (hk:k<l.length):w.cell? ⟨g,k,none⟩=some (.int .u8 (l[k].toNat:Int)):=by
 rw [Blk.cell h k,List.getElem?_toArray,List.getElem?_append_left (by rw [Vn];exact hk),zqk hk]
theorem V1.set_ {w:World} {g:Nat} {l:List UInt8} {rest:List Value} (h:V1 w g l rest) {k:Nat} (hk:k<l.length) (c:UInt8):V1 (w.setCell ⟨g,k,none⟩ (.int .u8 (c.toNat:Int))) g (l.set k c) rest:=by
 have:=Blk.set_ h k (.int .u8 (c.toNat:Int))
 unfold V1
 rw [List.setIfInBounds_toArray,List.set_append_left _ _ (by rw [Vn];exact hk),zpp] at this
 exact this
def zsm (D:List UInt8) (rest:List Value) (g:Nat) (w:World) (iv jv:Value) (wr:World):Prop:=
 ∃ (i:Nat) (l:List UInt8),iv= .int .i64 i/\jv= .int .i64 ((D.length:Int) - 1 - i)/\2*i<=D.length/\l.length=D.length/\Hid (∀ p (hp:p<l.length) (hd:p<D.length),l[p]=if p<i\/D.length - 1 - p<i then D[D.length - 1 - p] else D[p])/\
  V1 wr g l rest/\w.grownBy wr (some g)
theorem zsm.step {D l:List UInt8} {rest:List Value} {g i j:Nat} {w wr:World} (hl:l.length=D.length) (hj:j=D.length - 1 - i) (hlt:2*i+1<D.length)
 (HL:Hid (∀ p (hp:p<l.length) (hd:p<D.length),l[p]=if p<i\/D.length - 1 - p<i then D[D.length - 1 - p] else D[p])) (hil:i<l.length) (hjl:j<l.length)
 (hbl:V1 wr g l rest) (hgr:w.grownBy wr (some g)) (iv jv:Value) (hiv:iv= .int .i64 ((i+1:Nat):Int)) (hjv:jv= .int .i64 ((j:Int) - 1)):
 zsm D rest g w iv jv (((wr.setCell ⟨g,i,none⟩ (.int .u8 (l[j].toNat:Int))).setCell ⟨g,j,none⟩ (.int .u8 (l[i].toNat:Int))).drew):=by
 subst hiv hjv
 have h1:=hbl.set_ hil l[j]
 have h2:=V1.set_ h1 (k:=j) (by simpa using hjl) l[i]
 refine ⟨i+1,(l.set i l[j]).set j l[i],rfl,congrArg _ (by omega),by omega,by simpa using hl,?_,h2,zeg (vR (vR hgr (.inl rfl) _) (.inl rfl) _)⟩
 intro p hp hd
 have hi:=HL.out i hil (by omega)
 have hj' :=HL.out j hjl (by omega)
 rw [if_neg (by omega)] at hi hj'
 by_cases e1:p=j
 . subst e1
   rw [List.getElem_set_self,if_pos (by omega),hi]
   congr 1;omega
 . rw [List.getElem_set_ne (by omega)]
   by_cases e2:p=i
   . subst e2
     rw [List.getElem_set_self,if_pos (by omega),hj']
     congr 1
   . rw [List.getElem_set_ne (by omega)]
     have h3:=HL.out p (by simpa using hp) hd;rw [h3]
     by_cases h4:p<i\/D.length - 1 - p<i
     . rw [if_pos h4,if_pos (by omega)]
     . rw [if_neg h4,if_neg (by omega)]
set_option maxRecDepth 100000 in
theorem zf7 (g c n:Nat) (D:List UInt8) (rest:List Value) (w:World) (hb:V1 w g D rest) (hn:D.length=n) (hm:n<=1073741824):
 Calls Tryz.prog 200 #[.slice (some ⟨g,0,none⟩) n c] w fun e w' =>e= .returned (.tuple #[])/\V1 w' g D.reverse rest/\w.grownBy w' (some g):=by
 subst hn
 go_enter Tryz.func200,Tryz.ntmps200
 go_wp2
 go_loopw [2,3] (zsm D rest g w) (fun iv _ _=>D.length - (intOf iv).toNat)
 case atStart=>
  refine ⟨0,D,rfl,congrArg _ (by omega),by omega,rfl,?_,hb,World.grownBy.refl w _⟩
  intro p hp hd
  rw [if_neg (by omega)]
 case round=>
  obtain ⟨i,l,rfl,rfl,hi2,hl,HL,hbl,hgr⟩:=hrel
  by_cases hlt:2*i+1<D.length
  . obtain ⟨j,hj⟩:∃ j,j=D.length - 1 - i:=⟨_,rfl⟩
    have hjI:(D.length:Int) - 1 - i=(j:Int):=by omega
    have hil:i<l.length:=by omega
    have hjl:j<l.length:=by omega
    have hij:i<j:=by omega
    have ci:=hbl.cell hil;have cj:=hbl.cell hjl;have fi:=Blk.frozen hbl i;have fj:=Blk.frozen hbl j;rw [hjI];have HJ:=ze hj;have hjm:j<=1073741824:=by omega
    clear hj hjI;go_wp2
    go_region
    all_goals go_wp2
    go_roundw
    case rel=>exact zsm.step hl HJ.out hlt HL hil hjl hbl hgr _ _ (by go_num) rfl
    case measure=>simp [intOf];omega
  . have hrev:l=D.reverse:=by
     apply List.ext_getElem (by simpa using hl)
     intro p h1 h2;rw [List.getElem_reverse,HL.out p h1 (by omega)]
     by_cases h3:p<i\/D.length - 1 - p<i
     . rw [if_pos h3]
     . rw [if_neg h3]
       congr 1;omega
    have HR:=ze hrev;have hnl:¬ ((i:Int)<(D.length:Int) - 1 - i):=by omega
    clear hrev;go_wp2
    go_end0
    exact ⟨rfl,by rw [<- HR.out];exact hbl,hgr⟩
theorem zs1:(Tryz.prog.info? 5).map (fun i=>(i.zero,i.size,i.bytes))=some (some (.int .u8 0),1,1):=by kernel_rfl
def zhi (w:World) (l:List UInt8) (e:Ending) (w' :World):Prop:=e= .returned (.string ⟨l.toArray⟩)/\Below w.heap.size w w'
def zsy (w:World) (a:Nat) (nv bv:Value) (wr:World):Prop:=
 ∃ (m:Nat) (l:List Nat),y6 wr nv m/\Hid (l ++ digs 10 m=digs 10 a)/\wr.ownsRow w.heap.size 5 1 bv l.length (u8s (l.map chr))/\Below w.heap.size w wr/\Hid (m<=a)
def zl8 (w:World) (a q gq kq cq:Nat) (bv rv iv:Value) (wr:World):Prop:=
 ∃ (i r:Nat) (l:List Nat),i<=9/\iv= .int .i64 i/\rv= .int .u32 r/\Hid (r<10 ^ (9 - i))/\r<1000000000/\Hid (l ++ digs 10 (r+q*10 ^ (9 - i))=digs 10 a)/\
  wr.ownsRow w.heap.size 5 1 bv l.length (u8s (l.map chr))/\bv.ownBlock≠some gq/\gq<wr.heap.size/\y6 wr (.slice (some ⟨gq,0,none⟩) kq cq) q/\Below w.heap.size w wr
theorem Xs {a:Nat} (h:len 4294967296 a<=67108864):len 10 a<=671088640:=by
 have h4:len 10 a<=10*len 4294967296 a:=by
  apply yt (by omega)
  have h1:=xH (β:=4294967296) (by omega) a
  have h2:4294967296 ^ len 4294967296 a<=(10 ^ 10) ^ len 4294967296 a:=Nat.pow_le_pow_left (by omega) _
  rw [<- Nat.pow_mul] at h2
  exact Nat.lt_of_lt_of_le h1 h2
 omega
theorem zaq {l:List Nat} {r q i a:Nat} (hi:i<9) (hpos:0<q\/0<r) (h:l ++ digs 10 (r+q*10 ^ (9 - i))=digs 10 a) (hr:r<10 ^ (9 - i)):
 (l ++ [r % 10]) ++ digs 10 (r / 10+q*10 ^ (9 - (i+1)))=digs 10 a/\r / 10<10 ^ (9 - (i+1)):=by
 obtain ⟨k,hk⟩:∃ k,9 - i=k+1:=⟨9 - i - 1,by omega⟩
 rw [hk] at h hr
 rw [show 9 - (i+1)=k by omega]
 rw [Nat.pow_succ] at h hr
 have e1:r+q*(10 ^ k*10)=r+10*(q*10 ^ k):=by rw [<- Nat.mul_assoc,Nat.mul_comm _ 10]
 rw [e1] at h
 have hp:0<10 ^ k:=Nat.pow_pos (by omega)
 have hm:0<r+10*(q*10 ^ k):=by
  rcases hpos with h0 | h0
  . have:=Nat.mul_pos h0 hp;omega
  . omega
 have:=zk0 h hm
 rw [show (r+10*(q*10 ^ k)) % 10=r % 10 by omega,show (r+10*(q*10 ^ k)) / 10=r / 10+q*10 ^ k by omega] at this
 exact ⟨this,by omega⟩
theorem zi4 (m:Nat):m % 1000000000+m / 1000000000*10 ^ (9 - 0)=m:=by
 have:(10:Nat) ^ (9 - 0)=1000000000:=by decide
 rw [this,Nat.mul_comm]
 exact Nat.mod_add_div _ _
theorem zhp {a:Nat} (h:a≠0) {l:List Nat} (hl:l=digs 10 a):(l.map chr).reverse=dec a:=by
 subst hl
 unfold dec
 rw [if_neg h,List.map_reverse]
theorem zmd {w w' :World} {base:Nat} {e:TypeId} {size:Nat} {v:Value} {n:Nat} {xs:List Value} (h:w.ownsRow base e size v n xs) (hb:Below w.heap.size w w'):w'.ownsRow base e size v n xs:=by
 refine ⟨h.1,?_⟩
 rcases h.2 with h0 | ⟨g,cap,cur,hv,hg,hh,r⟩
 . exact .inl h0
 . refine .inr ⟨g,cap,cur,hv,hg,(hb.block g ?_).trans hh,r⟩
   rcases Nat.lt_or_ge g w.heap.size with h1 | h1
   . exact h1
   . rw [Array.getElem?_eq_none h1] at hh;cases hh
theorem xj (w:World) (t:TypeId) (x:Value):zY (w.alloc (.cells #[x] t)) (w.heap.size+1) 1 (some ⟨w.heap.size,0,none⟩) 1 [x]:=by
 have h:=(Blk.new w t #[x]).reads (n:=1) (by simp)
 simp only [World.size_alloc] at h
 exact h
theorem zgm {w:World} {A:Option Addr} {k c q:Nat} (h:y6 w (.slice A k c) q):(0<k↔0<q):=by
 obtain ⟨A',c',ds,e,h1,h2,h3,h4,h5⟩:=h
 injection e with _ e _
 subst e
 have:=h4.zero_iff (by omega)
 rw [h5] at this
 constructor
 . intro h0
   rcases Nat.eq_zero_or_pos q with e | e
   . have:=this.1 e;subst this;simp at h0
   . exact e
 . intro h0
   rcases Nat.eq_zero_or_pos ds.length with e | e
   . have:=this.2 (List.eq_nil_of_length_eq_zero e);omega
   . exact e
theorem zl5 {w:World} {base n:Nat} {v:Value} {L:List UInt8} (h:w.ownsRow base 5 1 v n (u8s L)) (hn:0<n):
 ∃ g c rest,v= .slice (some ⟨g,0,none⟩) n c/\base<=g/\L.length=n/\V1 w g L rest:=by
 have hl:L.length=n:=by have:=h.1;rw [Vn] at this;omega
 rcases h.2 with ⟨_,h0⟩ | ⟨g,cap,cur,hv,hb,hg,hnc,hcm,hcs,ht⟩
 . omega
 . refine ⟨g,cap,cur.toList.drop n,hv,hb,hl,?_⟩
   unfold V1 Blk;rw [hg]
   congr 2
   rw [<- ht,Nat.mul_one,List.take_append_drop]
theorem Vb.apart {w w' :World} {B B' :Nat} {ad:Addr} {k c n:Nat} (h:Vb w B (.slice (some ad) k c) n) (hk:∀ p:Addr,p.block=ad.block->w'.cell? p=w.cell? p) (hB:B<=B'):Vb w' B' (.slice (some ad) k c) n:=by
 obtain ⟨A,c',ds,e,h1,h2,h3,h4,h5⟩:=h
 injection e with e1 e2 e3
 subst e1 e2 e3
 exact ⟨_,_,ds,rfl,h1,h2,(zY.apart h3 hk).more hB,h4,h5⟩
theorem zl8.step {w wr w3:World} {a q gq kq cq i r:Nat} {l:List Nat} {v v3:Value} {o:Obj} (hi:i<9) (HPOS:Hid (0<q\/0<r)) (HR1:Hid (r<10 ^ (9 - i))) (hr1:r<1000000000) (HL1:Hid (l ++ digs 10 (r+q*10 ^ (9 - i))=digs 10 a))
 (hown:wr.ownsRow w.heap.size 5 1 v l.length (u8s (l.map chr))) (hne:v.ownBlock≠some gq) (hgq:gq<wr.heap.size) (hq1:y6 wr (.slice (some ⟨gq,0,none⟩) kq cq) q) (hbl:Below w.heap.size w wr)
 (hown3:w3.ownsRow w.heap.size 5 1 v3 (l.length+1) (u8s (l.map chr) ++ [.int .u8 (48+(r:Int) % 10)])) (hg3:(wr.alloc o).grownBy w3 v.ownBlock) (hat:v3.ownBlock=v.ownBlock\/v3.ownBlock=some (wr.alloc o).heap.size)
 (rv iv:Value) (hrv:rv= .int .u32 ((r / 10:Nat):Int)) (hiv:iv= .int .i64 ((i+1:Nat):Int)):zl8 w a q gq kq cq v3 rv iv w3:=by
 subst hrv hiv
 obtain ⟨h1,h2⟩:=zaq hi HPOS.out HL1.out HR1.out
 have hsz:wr.heap.size+1<=w3.heap.size:=by simpa using hg3.size
 refine ⟨i+1,r / 10,l ++ [r % 10],by omega,rfl,rfl,h2,by omega,h1,?_,?_,by omega,?_,?_⟩
 . rw [List.length_append,List.map_append,zjh]
   have e:u8s ([r % 10].map chr)=[Value.int .u8 (48+(r:Int) % 10)]:=by
    simp only [List.map_cons,List.map_nil,u8s,ze8 (show r % 10<10 by omega)]
    congr 2
   rw [e];exact hown3
 . rcases hat with e | e<;>rw [e]
   . exact hne
   . simp;omega
 . refine Vb.apart hq1 ?_ (by omega)
   intro p hp;have hp' :p.block=gq:=hp;have h3:=World.cell?_of_block (w:=wr.alloc o) (w' :=w3) (a:=p) (hg3.block p.block (by simp;omega) (by rw [hp'];exact fun e=>hne e.symm));rw [h3];exact World.cell?_alloc_lt wr o p (by omega)
 . refine (hbl.alloc hbl.size o).grown hg3 (by have:=hbl.size;simp;omega) ?_
   intro k hk;exact (hown.lt k hk).1
set_option maxRecDepth 100000 in
set_option maxHeartbeats 800000 in
theorem ZX (va:Value) (a:Nat) (w:World) (ha:y6 w va a) (hla:len 4294967296 a<=67108864):
 Calls Tryz.prog 150 #[va] w (zhi w (dec a)):=by
 have haN:=ha
 obtain ⟨A,ca,da,rfl,h1,h2,hra,h4,hva⟩:=ha
 by_cases hz:da.length=0
 . have hd:da=[]:=List.eq_nil_of_length_eq_zero hz
   have ha0:a=0:=by rw [<- hva,hd];rfl
   subst ha0;rw [xV];have hzI:((da.length:Int) == 0)=true:=by rw [hz];rfl
   clear hd hz hva hla
   go_enter Tryz.func150,Tryz.ntmps150
   go_wp2_with fail;go_ret;exact ⟨rfl,xw _⟩
 . have hzI:((da.length:Int) == 0)=false:=by rw [beq_eq_false_iff_ne];omega
   have ha0:a≠0:=by
    intro e;rw [e] at hva;have:=(h4.zero_iff (by omega)).1 hva;rw [this] at hz;exact hz rfl
   have HA0:=ze ha0;have HLA:=ze hla;have hdl:=Xs hla
   have hdlen:∀ l:List Nat,∀ m,l ++ digs 10 m=digs 10 a->l.length<=671088640:=by
    intro l m h;have:=congrArg List.length h;rw [List.length_append] at this;have e:(digs 10 a).length=len 10 a:=rfl
    omega
   have HDL:=ze hdlen;clear hva hz ha0 hdl hdlen hla;obtain ⟨i0,hi0,hz0,hz1,hz2⟩:=info_parts zs1
   go_enter Tryz.func150,Tryz.ntmps150
   go_wp2_with fail
   go_loopw [0,3] (zsy w a) (fun nv _ wr=>zb2 wr nv)
   case atStart=>exact ⟨a,[],haN,rfl,World.ownsRow_nil _ _ _ _,xw _,Nat.le_refl a⟩
   case round=>
    obtain ⟨m,l,hm,HL,hown,hbl,HMA⟩:=hrel;have hmN:=hm;have hmv:=YI hm;obtain ⟨A,cm,dm,rfl,j1,j2,hrm,j4,hvm⟩:=hm;have HMV:=ze hmv;clear hmv
    by_cases hz:dm.length=0
    . have hd:dm=[]:=List.eq_nil_of_length_eq_zero hz
      have hm0:m=0:=by rw [<- hvm,hd];rfl
      have hl0:l=digs 10 a:=by have:=HL.out;rw [hm0,Za,List.append_nil] at this;exact this
      have HL0:=ze hl0
      have hlpos:0<l.length:=by
       rw [hl0];exact Vo (by omega) (Nat.pos_of_ne_zero HA0.out)
      have hlm:l.length<=671088640:=HDL.out l m HL.out;have hzI2:¬ (0:Int)<(dm.length:Int):=by omega
      clear hd hm0 hl0 hz hvm;obtain ⟨g,c,rest,rfl,hgb,hln,hbyt⟩:=zl5 hown hlpos;go_wp2_with fail;refine (zf7 g c _ _ rest _ hbyt hln (by omega)).mono ?_;rintro e w1 ⟨rfl,hb1,hgr⟩
      have hcv:=run_convert_bytes_back (P:=Tryz.prog) w1 68 9 5 ⟨g,0,none⟩ c ((l.map chr).reverse) Tryz.underlying68 Tryz.underlying5 Tryz.underlying9 (fun j hj=>by
       have:=hb1.cell hj;unfold Addr.add
       by_cases h0:j=0
       . subst h0;simpa using this
       . rw [if_neg h0];simpa using this)
      rw [List.length_reverse,hln] at hcv;have hde:=zhp HA0.out HL0.out;rw [hde] at hcv;clear hde hb1;go_wp2_with fail;go_ret;exact ⟨rfl,hbl.grown hgr hbl.size (by intro k hk;injection hk with hk;omega)⟩
    . have hmpos:0<m:=by
       rcases Nat.eq_zero_or_pos m with e | e
       . exfalso
         rw [e] at hvm;have:=(j4.zero_iff (by omega)).1 hvm;rw [this] at hz;exact hz rfl
       . exact e
      have hdp:0<dm.length:=by omega
      have hdv:=ze (VG _ m 1000000000 wr hmN (Nat.le_trans (xS (by omega) HMA.out) HLA.out) (by omega) (by omega));obtain ⟨q,hq⟩:∃ q,q=m / 1000000000:=⟨_,rfl⟩;obtain ⟨r,hr⟩:∃ r,r=m % 1000000000:=⟨_,rfl⟩;rw [<- hq, <- hr] at hdv;have HQ:=ze hq;have HR:=ze hr;have hr1:r<1000000000:=by omega
      clear hq hr hz hvm;go_wp2_with fail;refine (zI hdv).mono ?_;rintro e w1 ⟨kq,cq,rfl,hq1,hw1,hb1⟩;have hown1:=zmd hown hb1;have hn9:(9:Nat) - 0=9:=rfl;go_wp2_with fail
      go_loopw [3,5,6] (zl8 w a q wr.heap.size kq cq) (fun _ _ iv _=>9 - (intOf iv).toNat)
      case atStart=>
       refine ⟨0,r,l,by omega,rfl,rfl,?_,hr1,?_,hown1,?_,hw1,hq1,ext hbl hb1⟩
       . show r<10 ^ 9
         exact hr1
       . show _=_
         rw [HR.out,HQ.out,zi4];exact HL.out
       . intro e
         have:=(hown.lt _ e).2
         omega
      case round=>
       clear hown hown1 hq1 hr1 hbl hmN;obtain ⟨i,r,l,hi,rfl,rfl,HR1,hr1,HL1,hown,hne,hgq,hq1,hbl⟩:=hrel;have hiff:=zgm hq1;have HIF:=ze hiff;clear hiff
       by_cases hgo:i<9/\(0<kq\/0<r)
       . obtain ⟨hi9,hpos⟩:=hgo
         have HPOS:Hid (0<q\/0<r):=hpos.imp HIF.out.1 id;have hll:l.length<=671088640:=HDL.out l _ HL1.out;have hrd:=xj wr 5 (.int .u8 (48+(r:Int) % 10))
         have h1c:∀ u∈[Value.int .u8 (48+(r:Int) % 10)],u.oneCell' =true:=by
          intro u hu;rw [List.mem_singleton] at hu;subst hu;rfl
         by_cases hk0:0<kq
         . have hkI:(0:Int)<(kq:Int):=by omega
           clear hpos;go_wp2_with (at_builtin;refine yj _ rfl (.tmp 31) (.tmp 36) _ rfl w.heap.size 5 i0 _ 1 1 Tryz.underlying68 hi0 hz0 hz1 hz2 rfl (by omega) _ l.length (u8s (l.map chr)) rfl (hown.alloc _) _ (some ⟨wr.heap.size,0,none⟩) 1 1 [.int .u8 (48+(r:Int) % 10)] rfl hrd h1c ?o2 ?o3 ?o4 ?_)
           case o2=>unfold maxLen;omega
           case o3=>omega
           case o4=>have:=hbl.size;simp;omega
           intro v3 w3 hown3 hgr3 hat3;have HO3:=ze hown3;have HG3:=ze hgr3;have HA3:=ze hat3;clear hown3 hgr3 hat3 hrd;go_wp2_with fail;go_roundw
           case rel=>exact zl8.step hi9 HPOS HR1 hr1 HL1 hown hne hgq hq1 hbl HO3.out HG3.out (by simpa using HA3.out) _ _ (by go_num) (by go_num)
           case measure=>simp [intOf];omega
         . have hkI:¬ (0:Int)<(kq:Int):=by omega
           have hrI:(0:Int)<(r:Int):=by omega
           clear hpos;go_wp2_with (at_builtin;refine yj _ rfl (.tmp 31) (.tmp 36) _ rfl w.heap.size 5 i0 _ 1 1 Tryz.underlying68 hi0 hz0 hz1 hz2 rfl (by omega) _ l.length (u8s (l.map chr)) rfl (hown.alloc _) _ (some ⟨wr.heap.size,0,none⟩) 1 1 [.int .u8 (48+(r:Int) % 10)] rfl hrd h1c ?o2 ?o3 ?o4 ?_)
           case o2=>unfold maxLen;omega
           case o3=>omega
           case o4=>have:=hbl.size;simp;omega
           intro v3 w3 hown3 hgr3 hat3;have HO3:=ze hown3;have HG3:=ze hgr3;have HA3:=ze hat3;clear hown3 hgr3 hat3 hrd;go_wp2_with fail;go_roundw
           case rel=>exact zl8.step hi9 HPOS HR1 hr1 HL1 hown hne hgq hq1 hbl HO3.out HG3.out (by simpa using HA3.out) _ _ (by go_num) (by go_num)
           case measure=>simp [intOf];omega
       . by_cases hi9:i<9
         . have hk0:¬ 0<kq:=fun h=>hgo ⟨hi9,.inl h⟩
           have hr0:¬ 0<r:=fun h=>hgo ⟨hi9,.inr h⟩
           have hkI:¬ (0:Int)<(kq:Int):=by omega
           have hrI:¬ (0:Int)<(r:Int):=by omega
           have HK0:=ze (And.intro hk0 hr0);clear hgo hk0 hr0;go_wp2_with fail;go_roundw
           case rel=>
            have hq0:q=0:=by
             rcases Nat.eq_zero_or_pos q with e | e
             . exact e
             . exact absurd (HIF.out.2 e) HK0.out.1
            have hr0:r=0:=by have:=HK0.out.2;omega
            have hkz:kq=0:=by have:=HK0.out.1;omega
            have hq1' :=hq1;rw [hkz] at hq1';refine ⟨q,l,hq1',?_,hown,hbl,?_⟩
            . have:=HL1.out
              rw [hr0,hq0,Nat.zero_mul] at this;rw [hq0];exact this
            . show q<=a
              rw [hq0];exact Nat.zero_le _
           case measure=>
            rw [HMV.out];have hkz:kq=0:=by have:=HK0.out.1;omega
            have hq1' :=hq1;rw [hkz] at hq1';rw [YI hq1',HQ.out];exact Nat.div_lt_self hmpos (by omega)
         . obtain rfl:i=9:=by omega
           have HK0:=ze hgo;clear hgo;go_wp2_with fail;go_roundw
           case rel=>
            refine ⟨q,l,hq1,?_,hown,hbl,?_⟩
            . have:=HL1.out
              have hr0:r=0:=by have:=HR1.out;simp at this;exact this
              rw [hr0] at this
              show l ++ digs 10 q=digs 10 a
              simpa using this
            . show q<=a
              rw [HQ.out];exact Nat.le_trans (Nat.div_le_self _ _) HMA.out
           case measure=>
            rw [HMV.out];rw [YI hq1,HQ.out];exact Nat.div_lt_self hmpos (by omega)
end Go.Proofs.YtkmcmmcencdcpaaGreatDoor
