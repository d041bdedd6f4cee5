/- Parts of the proof. -/
import Derived.Test.YthbmhkiphmcogaaGreatDoorMe17
import Derived.Test.YthbmhkiphmcogaaGreatDoorMe26
set_option linter.all false
namespace Go.Proofs.YthbmhkiphmcogaaGreatDoor
open Proofs.Tryz Go.RowKit Go.Deep
attribute [local go_sem ↓] Go.wp_at_zero Go.wp_at_succ
def XP (l:List UInt8):List (List UInt8):=spl 32 (l.count 32) l
structure zti (l:List UInt8) (r:zQ):Prop where
 len:(XP l).length=2*r.terms.length+2
 full:∀ x∈XP l,x≠[]
 coef:∀ i,i<r.terms.length->(XP l)[2*i]?=some (r.terms.getD i default).coef
 name:∀ i,i<r.terms.length->(XP l)[2*i+1]?=some (r.terms.getD i default).name
 sign:(XP l)[2*r.terms.length]?=some [60,61]
 bound:(XP l)[2*r.terms.length+1]?=some r.bound
 nums:∀ i,i<r.terms.length->(zp (r.terms.getD i default).coef).isSome=true
 bnum:(zp r.bound).isSome=true
 small:l.length<=65536
 tiny:∀ x∈r.terms,zN x.name/\zN x.coef
 tinyb:zN r.bound
theorem zcn:(Tryz.prog.info? 35).map (fun i=>(i.zero,i.size,i.bytes))=some (some (.agg #[.string ⟨#[]⟩,.string ⟨#[]⟩]),2,32):=by kernel_rfl
theorem Tryz.underlying30:Tryz.prog.underlying 30=some (.slice 35):=by kernel_rfl
theorem ZI {w:World} {t:TypeId} {a b:Value}:∀ (j:Nat) (u:Value),[a,b][j]?=some u->(w.alloc (.cells #[a,b] t)).cell? ((⟨w.heap.size,0,none⟩:Addr).add j)=some u:=by
 intro j u hu
 have e:=Blk.new w t #[a,b]
 match j with
 | 0=>
   simp at hu;subst hu;have:=e.cell 0
   simp [Addr.add]
 | 1=>
   simp at hu;subst hu;have:=e.cell 1
   simp [Addr.add]
 | j+2=>simp at hu
theorem yJ {a b:Value} {p:Value->Prop} (h:p a) (k:p b):∀ u∈[a,b],p u:=by
 intro u hu
 simp at hu
 rcases hu with rfl | rfl
 . exact h
 . exact k
def LinR (w0:World) (b gw gr:Nat) (ws:List (List UInt8)) (r:zQ) (iv:Value) (wr:World):Prop:=
 ∃ (k K:Nat) (tv:Value),k<=r.terms.length/\iv= .int .i64 K/\Hid (K=2*k)/\Hid (zB wr b)/\Hid (Blk wr gw 9 (ws.map str).toArray)/\Hid (Blk wr gr 33 #[tv,.string ⟨#[]⟩])/\
  Hid (Zm wr w0.heap.size 35 2 tv k (yP k (Zb r.terms) (Zg r.terms)))/\Hid (Chg (· =b) w0 wr)
def TyT (w:World) (v:Value):Prop:=∀ A n c,v= .slice A n c->0<n->∃ g cs,A=some ⟨g,0,none⟩/\w.heap[g]?=some (.cells cs 35 (0,0))
def zwj (b:Nat) (r:zQ) (w:World) (e:Ending) (w' :World):Prop:=
 ∃ g tA tc cs,e= .returned (.tuple #[.slice (some ⟨g,0,none⟩) 1 1,.bool true])/\Blk w' g 33 cs/\cs=#[.slice tA r.terms.length tc,str r.bound]/\zk w' w'.heap.size (.slice tA r.terms.length tc) r.terms/\TyT w' (.slice tA r.terms.length tc)/\zB w' b/\Chg (· =b) w w'
theorem TyT.chg {S:Nat->Prop} {w w' :World} {v:Value} (h:TyT w v) (hc:Chg S w w') (hS:∀ x,S x->(∀ cs,w.heap[x]?≠some (.cells cs 35 (0,0)))):TyT w' v:=fun A n c e hn=>by
 obtain ⟨g,cs,l,b⟩:=h A n c e hn
 have j:g<w.heap.size:=(Array.getElem?_eq_some_iff.1 b).1
 exact ⟨g,cs,l,(hc.block g j (fun hs=>hS g hs cs b)).trans b⟩
theorem TyT.below {w w' :World} {v:Value} (h:TyT w v) (hb:Below w.heap.size w w'):TyT w' v:=h.chg (S:=fun _=>False) (Chg.of_below hb) (fun _ h=>h.elim)
theorem zk.off {S:Nat->Prop} {w w' :World} {B:Nat} {v:Value} {l:List zR} (h:zk w B v l) (ty:TyT w v) (hc:Chg S w w') (hS:∀ x,S x->(∀ cs,w.heap[x]?≠some (.cells cs 35 (0,0)))):zk w' B v l:=by
 obtain ⟨A,c,rfl,C,y,E,m,z⟩:=h
 refine ⟨A,c,rfl,C,y,E,⟨m.1,fun hn=>?_⟩,z⟩
 obtain ⟨F,e,hb,r⟩:=m.2 hn
 obtain ⟨g,cs,b,D⟩:=ty _ _ _ rfl hn
 rw [b] at e
 injection e with e
 subst e
 exact ⟨_,b,hb,fun j u hu=>hc.cell (r j u hu) (fun hs=>hS g (by rw [zz] at hs;exact hs) cs D)⟩
theorem zv6 {w:World} {base n:Nat} {tv:Value} {xs:List Value} (h:Zm w base 35 2 tv n xs):TyT w tv:=fun A k c e hn=>by
 subst e
 rcases h.1.2 with ⟨e,l⟩ | ⟨g,m,j,e,_,b,_⟩
 . injection e with _ e _
   omega
 . injection e with e _ _
   exact ⟨g,j,e,b⟩
theorem zpi {w:World} {base:Nat} {tv:Value} {l:List zR} (h:Zm w base 35 2 tv l.length (yP l.length (Zb l) (Zg l))) (hl:l.length<=100000) (ht:∀ x∈l,zN x.name/\zN x.coef):zk w w.heap.size tv l:=by
 have b:=h.1
 rcases b.2 with ⟨rfl,j⟩ | ⟨g,z,y,rfl,_,B,m,r,C,u⟩
 . have e:l=[]:=List.eq_nil_of_length_eq_zero j
   subst e;exact ⟨none,0,rfl,Nat.le_refl _,Nat.zero_le _,hl,zV.of_own b,ht⟩
 . exact ⟨_,_,rfl,m,r,hl,zV.of_own b,ht⟩
set_option maxRecDepth 100000 in
set_option maxHeartbeats 8000000 in
theorem zn5 (b:Nat) (l:List UInt8) (r:zQ) (w:World) (hB:zB w b) (hok:zti l r):
 Calls Tryz.prog 26 #[.map (some b),str l] w (zwj b r w):=by
 obtain ⟨ws,am⟩:∃ ws,ws=XP l:=⟨_,rfl⟩
 obtain ⟨n,hn⟩:∃ n,n=r.terms.length:=⟨_,rfl⟩
 have aI:bts ⟨l.toArray⟩=l:=xR l
 have ag:=fun w=>zhn ⟨l.toArray⟩ 32 w (by rw [<- zm,aI];have:=hok.small;omega)
 rw [aI] at ag
 change ∀ w,Calls _ _ _ w (zll w (XP l)) at ag
 have ak:=hok.len
 have ar:=hok.coef
 have av:=hok.name
 have ay:=hok.sign
 have au:=hok.bound
 have aF:=hok.full
 have aO:=hok.nums
 have aT:=hok.bnum
 have bs:n<=32768:=by
  have h1:=List.count_le_length (a:=32) (l:=l)
  have h2:(XP l).length=l.count 32+1:=zbn 32 _ _
  have:=hok.small
  omega
 rw [<- am] at ag ak ar av ay au aF
 rw [<- hn] at ak ay au aO ar av
 have aR:=ze hok
 have HN:=ze hn
 have B:=ze hB
 have ax:=ze hB.lt
 have bv:=ze ar
 have bh:=ze av
 have bz:=ze ay
 have bx:=ze au
 have bp:=ze aF
 have br:=ze aO
 have be:=ze aT
 obtain ⟨N,hN⟩:∃ N,N=2*n+2:=⟨_,rfl⟩
 obtain ⟨M,hM⟩:∃ M,M=2*n:=⟨_,rfl⟩
 obtain ⟨V,a3⟩:∃ V,V=2*n+1:=⟨_,rfl⟩
 rw [<- hN] at ak
 have aM:=ze ak
 have aX:=ze ag
 clear am hok hB ar av ay au aF ag ak aI aO aT hn
 have e1:IntKind.i64.wrap ((N:Int) - 2)=(M:Int):=by rw [IntKind.wrap_i64];omega
 have e2:IntKind.i64.wrap ((N:Int) - 1)=(V:Int):=by rw [IntKind.wrap_i64];omega
 have e3:(N:Int) % 2=0:=by omega
 have e4:(N:Int).tmod 2=0:=by rw [Int.tmod_eq_emod_of_nonneg (by omega)];omega
 have D:Hid (N=2*n+2/\M=2*n/\V=2*n+1):=⟨hN,hM,a3⟩
 have U:=ze bs
 clear hN hM a3
 go_enter func26,ntmps26
 go_wp2_with fail
 refine (aX.o _).mono ?_
 rintro e w1 ⟨G,rfl,L,bF,aN⟩
 rw [aM.o]
 replace B:=ze (B.o.below aN)
 have y:=ze L
 have C:Hid (Chg (· =b) w w1):=Chg.of_below aN
 have aC:=fun w' (h:Blk w' G 9 (ws.map str).toArray)=>zfl G ws [] w' h (by have:=aM.o;have:=D.o.1;have:=U.o;omega) bp.o
 rw [aM.o] at aC
 have a5:=ze aC
 clear aN L aC aX
 go_wp2_with fail
 refine (a5.o _ y.o).mono ?_
 rintro e w9 ⟨rfl,rfl⟩
 clear a5
 have j:=zf w1 (.cells #[.slice none 0 0,.string ⟨#[]⟩] 33)
 have z:=ze (Blk.new w1 33 #[.slice none 0 0,.string ⟨#[]⟩])
 have aQ:=ze (show G<w1.heap.size from y.o.lt)
 replace B:=ze (B.o.below j)
 replace y:=kb_ y j
 have ap:Hid (w.heap.size<=w1.heap.size):=C.o.size
 replace C:=ze (yh C.o j)
 clear j
 go_upto_region 5 with fail
 generalize w1.alloc (.cells #[.slice none 0 0,.string ⟨#[]⟩] 33)=W2 at z B y C |-
 generalize w1.heap.size=gr at z aQ ap |-
 have aE:=fun w' (h:zB w' b) (s:List UInt8) (hs:zN s)=>ZG b ⟨s.toArray⟩ w' h (by rw [<- zm,xR];exact hs)
 simp only [xR] at aE
 have aV:=ze aE
 clear aE
 have E:Hid (Zm W2 w.heap.size 35 2 (.slice none 0 0) 0 (yP 0 (Zb r.terms) (Zg r.terms))):=Zz _ _ _ _
 go_wp2_with fail
 go_loopw [8] (LinR w b G gr ws r) (fun iv _=>M - (intOf iv).toNat)
 case atStart=>exact ⟨0,0,_,Nat.zero_le _,rfl,rfl,B,y,z,E,C⟩
 case round=>
  clear B y z E C
  obtain ⟨k,K,tv,hk,rfl,F,B,y,z,E,C⟩:=hrel
  by_cases aq:k<n
  rotate_left
  . obtain rfl:n=k:=by have:=HN.o;omega
    have wL:=y.o.lt
    have p4:wr.cell? ⟨G,V,none⟩=some (str r.bound):=by
     rw [y.o.cell,D.o.2.2]
     simp [bx.o]
    have bM:(V:Int)<(N:Int):=by have:=D.o;omega
    have bJ:(0:Int)<=(V:Int):=by omega
    have bE:IntKind.i64.wrap (V:Int)=(V:Int):=by have:=D.o;have:=U.o;rw [IntKind.wrap_i64];omega
    have bC:(M:Int)<(N:Int):=by have:=D.o;omega
    have bG:(0:Int)<=(M:Int):=by omega
    have bI:IntKind.i64.wrap (M:Int)=(M:Int):=by have:=D.o;have:=U.o;rw [IntKind.wrap_i64];omega
    obtain rfl:M=K:=by have:=F.o;have:=D.o;omega
    have r1:=z.o.cell 1;have f1:=z.o.frozen 1;simp at r1;have J:Chg (· =gr) wr (wr.setCell ⟨gr,1,none⟩ (str r.bound)):=Chg.setCell (S:=(· =gr)) (Chg.refl wr) (p:=⟨gr,1,none⟩) rfl _
    have an:∀ x,x=gr->zZ wr x:=fun x e=>by
     subst e;refine z.o.noDig (Zq ?_);intro u hu;simp at hu
     rcases hu with rfl | rfl
     . exact xN E.o
     . exact yq _
    have R:=ze (E.o.chg J (fun c hc e=>by
     subst e;obtain ⟨cs,q⟩:=E.o.heap hc
     exact yX z.o q (by decide) rfl))
    have O:=ze (B.o.chg J (fun e=>by have:=ap.o;have:=ax.o;omega) an);have Y:=ze (J.blk y.o (by have:=aQ.o;omega));have Q:=ze (z.o.set_ 1 (str r.bound));have T:Hid (Chg (· =b) w (wr.setCell ⟨gr,1,none⟩ (str r.bound))):=C.o.trans J (fun x j e=>by have:=ap.o;omega);clear J an E B y z C
    go_upto_region 13 with fail
    clear p4 r1 f1 wL;generalize wr.setCell ⟨gr,1,none⟩ (str r.bound)=W3 at R O Y Q T |-;have r1:=Q.o.cell 1;simp at r1;go_wp2_with fail;refine (aV.o _ O.o _ aR.o.tinyb).mono ?_;rintro e w4 ⟨v,ok,rfl,⟨x1,A1,k1,c1,s1,y1,B1,af,aj,t1,rfl⟩,ai,hq,al,I⟩;rw [be.o] at ai;subst ai;have L:=O.o.keepBlk I Y.o;have ab:=O.o.keepBlk I Q.o;have aH:=ax.o;have ho:=R.o.chg I (fun c hc e=>by have:=(R.o.1.lt c hc).1;omega);replace T:=ze (vm T.o I);have j:=zf w4 (.cells #[.int .i64 x1,.slice A1 k1 c1,.bool s1,.int .i64 y1,.slice B1 af aj,.bool t1] 55);replace Y:=ze (L.below j L.lt);replace Q:=ze (ab.below j ab.lt);replace R:=ze (ho.below j);replace O:=ze (al.below j);replace T:=ze (yh T.o j);clear j al I L ab ho hq aH r1
    go_upto_region 16 with fail
    generalize w4.alloc (.cells #[.int .i64 x1,.slice A1 k1 c1,.bool s1,.int .i64 y1,.slice B1 af aj,.bool t1] 55)=W5 at Y Q R O T |-;have wL:=Y.o.lt
    have p5:W5.cell? ⟨G,M,none⟩=some (str [60,61]):=by
     rw [Y.o.cell,D.o.2.1]
     simp [bz.o]
    have r0:=Q.o.cell 0;have r1:=Q.o.cell 1;simp at r0 r1;have aP:=zpi (l:=r.terms) (by rw [<- HN.o];exact R.o) (by have:=HN.o;have:=U.o;omega) aR.o.tiny;have bk:=ze aP;have bl:=ze (zv6 R.o);obtain ⟨tA,tc,aS,_⟩:=id aP;subst aS;clear aP;go_wp2_with fail;go_ret2;have j:=zf W5 (.cells #[.slice tA r.terms.length tc,str r.bound] 33);exact ⟨W5.heap.size,tA,tc,_,rfl,Blk.new _ _ _,rfl,(zk.below bk.o j).more (by simp),bl.o.below j,O.o.below j,yh T.o j⟩
  have bA:(K:Int)<(M:Int):=by have:=F.o;have:=D.o.2.1;omega
  have bB:(K:Int)<(N:Int):=by have:=F.o;have:=D.o;omega
  have bL:(0:Int)<=(K:Int):=by omega
  obtain ⟨m,aK⟩:∃ m,m=r.terms.getD k default:=⟨_,rfl⟩;have aw:=bv.o k aq;have aA:=bh.o k aq;have aL:=br.o k aq
  have aD:=aR.o.tiny (r.terms.getD k default) (by
   have:k<r.terms.length:=by rw [<- HN.o];exact aq
   simp [List.getD,List.getElem?_eq_getElem this])
  rw [<- aK] at aw aA aL aD
  have p1:wr.cell? ⟨G,K,none⟩=some (str m.coef):=by
   rw [y.o.cell,F.o]
   simp [aw]
  have bg:=ze aD;have bd:=ze aK;have bf:=ze aw;have bu:=ze aA;have a6:=ze aL;clear aD aK aw aA aL;go_wp2_with fail;refine (aV.o _ B.o _ bg.o.2).mono ?_;rintro e w4 ⟨v,ok,rfl,⟨x1,A1,k1,c1,s1,y1,B1,af,aj,t1,rfl⟩,ai,hq,al,I⟩;rw [a6.o] at ai;subst ai;have L:=B.o.keepBlk I y.o;have ab:=B.o.keepBlk I z.o;have aH:=ax.o;have ho:=E.o.chg I (fun c hc e=>by have:=(E.o.1.lt c hc).1;omega);replace C:=ze (vm C.o I);replace B:=ze al;have j:=zf w4 (.cells #[.int .i64 x1,.slice A1 k1 c1,.bool s1,.int .i64 y1,.slice B1 af aj,.bool t1] 55);replace y:=ze (L.below j L.lt);replace z:=ze (ab.below j ab.lt);replace E:=ze (ho.below j);replace B:=ze (B.o.below j);replace C:=ze (yh C.o j);clear j al I L ab ho hq aH p1 a6
  go_upto_region 11 with fail
  generalize w4.alloc (.cells #[.int .i64 x1,.slice A1 k1 c1,.bool s1,.int .i64 y1,.slice B1 af aj,.bool t1] 55)=W5 at y z E B C |-;obtain ⟨X,a8⟩:∃ X,X=K+1:=⟨_,rfl⟩;have e5:IntKind.i64.wrap ((K:Int)+1)=(X:Int):=by have:=F.o;have:=D.o;have:=U.o;rw [IntKind.wrap_i64];omega
  have e6:IntKind.i64.wrap (X:Int)=(X:Int):=by have:=F.o;have:=D.o;have:=U.o;rw [IntKind.wrap_i64];omega
  have bH:(X:Int)<(N:Int):=by have:=F.o;have:=D.o;omega
  have bK:(0:Int)<=(X:Int):=by omega
  have wL:=y.o.lt;have rL:=z.o.lt
  have p1:W5.cell? ⟨G,K,none⟩=some (str m.coef):=by
   rw [y.o.cell,F.o]
   simp [bf.o]
  have p2:W5.cell? ⟨G,X,none⟩=some (str m.name):=by
   rw [y.o.cell,a8,F.o]
   simp [bu.o]
  have p3:=z.o.cell 0;simp at p3
  have ah:¬ tv.ownBlock=some gr:=fun e=>by
   obtain ⟨cs,q⟩:=E.o.heap e;exact yX z.o q (by decide) rfl
  have Z:¬ tv.ownBlock=some G:=fun e=>by
   obtain ⟨cs,q⟩:=E.o.heap e;exact yX y.o q (by decide) rfl
  clear a8;refine zt (S:=fun w' =>Hid (Chg (fun x=>tv.ownBlock=some x) W5 w')/\w'.cell? ⟨gr,0,none⟩=some tv/\w'.cell? ⟨G,K,none⟩=some (str m.coef)/\w'.cell? ⟨G,X,none⟩=some (str m.name)) 12 3 15 rfl (by kernel_rfl) (by kernel_rfl) (by kernel_rfl) rfl (zl (Zo W5) (fun hB=>⟨zX hB p3 ah,zX hB p1 Z,zX hB p2 Z⟩)) ?_ (fun hHeld=>?_)
  . intro _ _ _ _ _ h9;exact h9
  simp only [List.take_succ_cons,List.take_zero]
  iterate 12 refine ye ?_
  refine zU ?_;refine HH.rd 12 (fun K hK=>?_)
  go_simp
  have aa:=(yU W5 (.cells #[str m.name,str m.coef] 35)).out;have a0:Hid (Chg (fun x=>tv.ownBlock=some x) W5 (W5.alloc (.cells #[str m.name,str m.coef] 35)).drew):=Chg.of_below aa;have az:=hHeld;clear hHeld;refine hK.out _ _ (zl (a0) (fun hB=>⟨zX hB p3 ah,zX hB p1 Z,zX hB p2 Z⟩)) (fun hHeld=>?_);clear az hK K
  try simp only [Act.put,xST]
  have bc:=ze (B.o.below aa);have ao:=ze (E.o.below aa);have aZ:=ze (y.o.below aa y.o.lt);have aU:=ze (z.o.below aa z.o.lt);have aG:Hid (Chg (· =b) w (W5.alloc (.cells #[str m.name,str m.coef] 35)).drew):=yh C.o aa;have am:=aG.o.size;have a4:=ZI (w:=W5) (t:=35) (a:=str m.name) (b:=str m.coef);have bb:=yJ (a:=str m.name) (b:=str m.coef) (p:=fun u=>u.oneCell' =true) rfl rfl;have a9:=yJ (a:=str m.name) (b:=str m.coef) (p:=Z0) (yq _) (yq _);have aY:∀ u∈(Value.agg #[.string ⟨#[]⟩,.string ⟨#[]⟩]).cells,Z0 u:=by intro u hu;simp [Value.cells] at hu;subst hu;exact yq _
  obtain ⟨i1,bw,bq,bo,bi⟩:=info_parts zcn;clear a0 aa B E y z C;refine HH.ready (rs:=[13]) (by kernel_rfl) (by simp) (by kernel_rfl) ?_;refine yV.cons (o:=_) rfl (fun K hK=>?_) yV.nil;rw [if_pos (by rfl)];refine xk (P:=Tryz.prog) (.tmp 42) (.tmp 53) _ rfl w.heap.size 35 i1 _ 2 32 underlying30 bw bq bo bi rfl (by omega) _ k _ rfl ao.o ⟨W5.heap.size,0,none⟩ 1 1 [str m.name,str m.coef] rfl rfl (by omega) a4 bb a9 aY (by have:=U.o;unfold maxLen;omega) (by have:=U.o;omega) am ?_;intro bD w6 ae a7 bj;obtain ⟨g3,aJ,aS,_,_⟩:=ae.1.form (by omega);subst aS;have ad:=xP a7;have aB:=fun c hc=>(ao.o.1.lt c hc).1
  have hD:∀ x,tv.ownBlock=some x->zZ (W5.alloc (.cells #[str m.name,str m.coef] 35)).drew x:=fun x e=>ao.o.2 x e
  have bn:=ax.o;have ba:zB w6 b:=bc.o.chg ad (fun e=>by have:=aB _ e;omega) hD;have a1:=ad.blk aZ.o Z;have ac:=ad.blk aU.o ah;have a2:Chg (· =b) w w6:=aG.o.trans ad (fun x j e=>by have:=aB _ e;omega);have J:Chg (· =gr) w6 (w6.setCell ⟨gr,0,none⟩ (.slice (some ⟨g3,0,none⟩) (k+1) aJ)):=Chg.setCell (S:=(· =gr)) (Chg.refl w6) (p:=⟨gr,0,none⟩) rfl _
  have an:∀ x,x=gr->zZ w6 x:=fun x e=>by
   subst e;refine ac.noDig (Zq ?_);intro u hu;simp at hu
   rcases hu with rfl | rfl
   . exact xN ao.o
   . exact yq _
  have aW:yP k (Zb r.terms) (Zg r.terms) ++ [str m.name,str m.coef]=yP (k+1) (Zb r.terms) (Zg r.terms):=by
   rw [vJ];unfold Zb Zg;rw [<- bd.o]
  rw [aW] at ae
  have R:=ze (ae.chg J (fun c hc e=>by
   subst e;obtain ⟨cs,q⟩:=ae.heap hc
   exact yX ac q (by decide) rfl))
  have O:=ze (ba.chg J (fun e=>by have:=ap.o;omega) an);have Y:=ze (J.blk a1 (by have:=aQ.o;omega));have Q:=ze (ac.set_ 0 (.slice (some ⟨g3,0,none⟩) (k+1) aJ));have T:Hid (Chg (· =b) w (w6.setCell ⟨gr,0,none⟩ (.slice (some ⟨g3,0,none⟩) (k+1) aJ))):=a2.trans J (fun x j e=>by have:=ap.o;omega);have r0:=ac.cell 0;have f0:=ac.frozen 0;simp at r0;have az:=hHeld;clear hHeld;refine hK.out _ _ (zl (ZY ad az.1) (fun hB=>⟨zX hB p3 ah,zX hB p1 Z,zX hB p2 Z⟩)) (fun hHeld=>?_);clear az hK K
  try simp only [Act.put,xST]
  clear ad aB hD ba a1 ac a2 J an aW ae a7 bj am a4 bb a9 aY bc ao aZ aU aG bn;refine HH.tk 14 ?_;have bm:=(hHeld.1).out;clear bm hHeld;refine HH.done (by kernel_rfl) ?_;simp only [List.drop_succ_cons,List.drop_zero];clear p1 p2 p3 ah Z wL rL;have e7:IntKind.i64.wrap ((K:Int)+2)=((K+2:Nat):Int):=by have:=F.o;have:=D.o;have:=U.o;rw [IntKind.wrap_i64];omega
  go_wp2_with fail;go_roundw
  case rel=>exact ⟨k+1,K+2,_,by have:=HN.o;omega,by go_num,(by have:=F.o;show K+2=_;omega),O,Y,Q,R,T⟩
  case measure=>have:=F.o;have:=D.o;simp [intOf];omega
end Go.Proofs.YthbmhkiphmcogaaGreatDoor
