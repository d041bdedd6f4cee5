/- Parts of the proof. -/
import Derived.Test.YtobdoblpnanclaaGreatDoorMo19
import Derived.Test.YtobdoblpnanclaaGreatDoorMo27
set_option linter.all false
namespace Go.Proofs.YtobdoblpnanclaaGreatDoor
open Proofs.Tryz Go.RowKit Go.Deep
attribute [local go_sem ↓] Go.wp_at_zero Go.wp_at_succ
def YU (l:List UInt8):List (List UInt8):=spl 32 (l.count 32) l
structure zse (l:List UInt8) (r:zS):Prop where
 len:(YU l).length=2*r.terms.length+2
 full:∀ x∈YU l,x≠[]
 coef:∀ i,i<r.terms.length->(YU l)[2*i]?=some (r.terms.getD i default).coef
 name:∀ i,i<r.terms.length->(YU l)[2*i+1]?=some (r.terms.getD i default).name
 sign:(YU l)[2*r.terms.length]?=some [60,61]
 bound:(YU l)[2*r.terms.length+1]?=some r.bound
 nums:∀ i,i<r.terms.length->(zj (r.terms.getD i default).coef).isSome=true
 bnum:(zj r.bound).isSome=true
 small:l.length<=65536
 tiny:∀ x∈r.terms,yc x.name/\yc x.coef
 tinyb:yc r.bound
theorem zrg:(prog.info? 44).map (fun i=>(i.zero,i.size,i.bytes))=some (some (.agg #[.string ⟨#[]⟩,.string ⟨#[]⟩]),2,32):=by kernel_rfl
theorem Tryz.underlying23:prog.underlying 23=some (.slice 44):=by kernel_rfl
theorem zh9 {w:World} {t:TypeId} {a b:Value}:∀ (j:Nat) (u:Value),[a,b][j]?=some u->(w.alloc (.cells #[a,b] t)).cell? ((⟨w.heap.size,0,none⟩:Addr).add j)=some u:=by
 intro j u hu
 have e:=Blk.new w t #[a,b]
 match j with
 | 0=>
   simp at hu;subst hu;have:=e.cell 0
   simp [Addr.add]
 | 1=>
   simp at hu;subst hu;have:=e.cell 1
   simp [Addr.add]
 | j+2=>simp at hu
theorem Vm {a b:Value} {p:Value->Prop} (h:p a) (k:p b):∀ u∈[a,b],p u:=by
 intro u hu
 simp at hu
 rcases hu with rfl | rfl
 . exact h
 . exact k
def LinR (w0:World) (b gw gr:Nat) (ws:List (List UInt8)) (r:zS) (iv:Value) (wr:World):Prop:=
 ∃ (k K:Nat) (tv:Value),k<=r.terms.length/\iv= .int .i64 K/\Hid (K=2*k)/\Hid (zu wr b)/\Hid (Blk wr gw 9 (ws.map str).toArray)/\Hid (Blk wr gr 31 #[tv,.string ⟨#[]⟩])/\
  Hid (vE wr w0.heap.size 44 2 tv k (vC k (XT r.terms) (XN r.terms)))/\Hid (Chg (· =b) w0 wr)
def TyT (w:World) (v:Value):Prop:=∀ A n c,v= .slice A n c->0<n->∃ g cs,A=some ⟨g,0,none⟩/\w.heap[g]?=some (.cells cs 44 (0,0))
def zwo (b:Nat) (r:zS) (w:World) (e:Ending) (w' :World):Prop:=
 ∃ g tA tc cs,e= .returned (.tuple #[.slice (some ⟨g,0,none⟩) 1 1,.bool true])/\Blk w' g 31 cs/\cs=#[.slice tA r.terms.length tc,str r.bound]/\zh w' w'.heap.size (.slice tA r.terms.length tc) r.terms/\TyT w' (.slice tA r.terms.length tc)/\zu w' b/\Chg (· =b) w w'
theorem TyT.chg {S:Nat->Prop} {w w' :World} {v:Value} (h:TyT w v) (hc:Chg S w w') (hS:∀ x,S x->(∀ cs,w.heap[x]?≠some (.cells cs 44 (0,0)))):TyT w' v:=fun A n c e hn=>by
 obtain ⟨g,cs,j,b⟩:=h A n c e hn
 have hl:g<w.heap.size:=(Array.getElem?_eq_some_iff.1 b).1
 exact ⟨g,cs,j,(hc.block g hl (fun hs=>hS g hs cs b)).trans b⟩
theorem TyT.below {w w' :World} {v:Value} (h:TyT w v) (hb:Below w.heap.size w w'):TyT w' v:=h.chg (S:=fun _=>False) (Chg.of_below hb) (fun _ h=>h.elim)
theorem zh.off {S:Nat->Prop} {w w' :World} {B:Nat} {v:Value} {l:List zr} (h:zh w B v l) (ty:TyT w v) (hc:Chg S w w') (hS:∀ x,S x->(∀ cs,w.heap[x]?≠some (.cells cs 44 (0,0)))):zh w' B v l:=by
 obtain ⟨A,c,rfl,z,E,C,m,r⟩:=h
 refine ⟨A,c,rfl,z,E,C,⟨m.1,fun hn=>?_⟩,r⟩
 obtain ⟨F,e,hb,D⟩:=m.2 hn
 obtain ⟨g,cs,b,y⟩:=ty _ _ _ rfl hn
 rw [b] at e
 injection e with e
 subst e
 exact ⟨_,b,hb,fun j u hu=>hc.cell (D j u hu) (fun hs=>hS g (by rw [zU] at hs;exact hs) cs y)⟩
theorem zvv {w:World} {base n:Nat} {tv:Value} {xs:List Value} (h:vE w base 44 2 tv n xs):TyT w tv:=fun A k c e hn=>by
 subst e
 rcases h.1.2 with ⟨e,m⟩ | ⟨g,l,b,e,_,j,_⟩
 . injection e with _ e _
   omega
 . injection e with e _ _
   exact ⟨g,b,e,j⟩
theorem znz {w:World} {base:Nat} {tv:Value} {l:List zr} (h:vE w base 44 2 tv l.length (vC l.length (XT l) (XN l))) (hl:l.length<=100000) (ht:∀ x∈l,yc x.name/\yc x.coef):zh w w.heap.size tv l:=by
 have b:=h.1
 rcases b.2 with ⟨rfl,r⟩ | ⟨g,z,u,rfl,_,C,m,j,B,y⟩
 . have e:l=[]:=uI r
   subst e;exact ⟨none,0,rfl,uA,uB,hl,ys.of_own b,ht⟩
 . exact ⟨_,_,rfl,m,j,hl,ys.of_own b,ht⟩
set_option maxRecDepth 100000 in
set_option maxHeartbeats 8000000 in
theorem zmo (b:Nat) (l:List UInt8) (r:zS) (w:World) (hB:zu w b) (hok:zse l r):
 Calls prog 28 #[.map (some b),str l] w (zwo b r w):=by
 obtain ⟨ws,ai⟩:=uQ (YU l)
 obtain ⟨n,hn⟩:=uQ r.terms.length
 have aI:bts ⟨l.toArray⟩=l:=yG l
 have ak:=fun w=>zgc ⟨l.toArray⟩ 32 w (by rw [<- zt,aI];have:=hok.small;omega)
 rw [aI] at ak
 change ∀ w,Calls _ _ _ w (zk7 w (YU l)) at ak
 have ae:=hok.len
 have aq:=hok.coef
 have ap:=hok.name
 have au:=hok.sign
 have ar:=hok.bound
 have aE:=hok.full
 have aP:=hok.nums
 have a4:=hok.bnum
 have bs:n<=32768:=by
  have h1:=List.count_le_length (a:=32) (l:=l)
  have h2:(YU l).length=l.count 32+1:=VQ 32 _ _
  have:=hok.small
  omega
 rw [<- ai] at ak ae aq ap au ar aE
 rw [<- hn] at ae au ar aP aq ap
 obtain ⟨aG,HN,z⟩:=hz3 hok hn hB
 have av:=ze hB.lt
 obtain ⟨bl,bj,be,bh,bi,bg,bn⟩:=hz7 aq ap au ar aE aP a4
 obtain ⟨N,hN⟩:∃ N,N=2*n+2:=⟨_,rfl⟩
 obtain ⟨M,hM⟩:∃ M,M=2*n:=⟨_,rfl⟩
 obtain ⟨Q,bb⟩:∃ Q,Q=2*n+1:=⟨_,rfl⟩
 rw [<- hN] at ae
 have aH:=ze ae
 have aT:=ze ak
 clear ai hok hB aq ap au ar aE ak ae aI aP a4 hn
 have e1:IntKind.i64.wrap ((N:Int) - 2)=(M:Int):=by rw [IntKind.wrap_i64];omega
 have e2:IntKind.i64.wrap ((N:Int) - 1)=(Q:Int):=by rw [IntKind.wrap_i64];omega
 have e3:(N:Int) % 2=0:=by omega
 have e4:(N:Int).tmod 2=0:=by rw [Int.tmod_eq_emod_of_nonneg (by omega)];omega
 have D:Hid (N=2*n+2/\M=2*n/\Q=2*n+1):=⟨hN,hM,bb⟩
 have R:=ze bs
 clear hN hM bb
 go_in
 go_wp2_with fail
 refine (aT.o _).mono ?_
 rintro e w1 ⟨E,rfl,J,bz,aR⟩
 rw [aH.o]
 replace z:=ze (z.o.below aR)
 have m:=ze J
 have B:Hid (Chg (· =b) w w1):=Chg.of_below aR
 have ay:=fun w' (h:Blk w' E 9 (ws.map str).toArray)=>zf2 E ws [] w' h (by have:=aH.o;have:=D.o.1;have:=R.o;omega) bi.o
 rw [aH.o] at ay
 have a3:=ze ay
 clear aR J ay aT
 go_wp2_with fail
 refine (a3.o _ m.o).mono ?_
 rintro e w9 ⟨rfl,rfl⟩
 clear a3
 have j:=zf w1 (.cells #[.slice none 0 0,.string ⟨#[]⟩] 31)
 have y:=ze (Blk.new w1 31 #[.slice none 0 0,.string ⟨#[]⟩])
 have aC:=ze (show E<w1.heap.size from m.o.lt)
 replace z:=ze (z.o.below j)
 replace m:=kb_ m j
 have ad:Hid (w.heap.size<=w1.heap.size):=B.o.size
 replace B:=ze (zD B.o j)
 clear j
 go_upto_region 5 with fail
 generalize w1.alloc (.cells #[.slice none 0 0,.string ⟨#[]⟩] 31)=W2 at y z m B |-
 generalize w1.heap.size=gr at y aC ad |-
 have aL:=fun w' (h:zu w' b) (s:List UInt8) (hs:yc s)=>xu b ⟨s.toArray⟩ w' h (by rw [<- zt,yG];exact hs)
 simp only [yG] at aL
 have a5:=ze aL
 clear aL
 have C:Hid (vE W2 w.heap.size 44 2 (.slice none 0 0) 0 (vC 0 (XT r.terms) (XN r.terms))):=Zr _ _ _ _
 go_wp2
 go_loopw [8] (LinR w b E gr ws r) (fun iv _=>M - (intOf iv).toNat)
 case atStart=>exact ⟨0,0,_,uB,rfl,rfl,z,m,y,C,B⟩
 case round=>
  clear z m y C B
  obtain ⟨k,K,tv,hk,rfl,F,z,m,y,C,B⟩:=hrel
  by_cases an:k<n
  rotate_left
  . obtain rfl:n=k:=by have:=HN.o;omega
    have wL:=m.o.lt
    have p4:wr.cell? ⟨E,Q,none⟩=some (str r.bound):=by
     rw [m.o.cell,D.o.2.2]
     simp [bh.o]
    have bx:(Q:Int)<(N:Int):=by have:=D.o;omega
    have bK:(0:Int)<=(Q:Int):=by omega
    have bE:IntKind.i64.wrap (Q:Int)=(Q:Int):=by have:=D.o;have:=R.o;rw [IntKind.wrap_i64];omega
    have bI:(M:Int)<(N:Int):=by have:=D.o;omega
    have bF:(0:Int)<=(M:Int):=by omega
    have bG:IntKind.i64.wrap (M:Int)=(M:Int):=by have:=D.o;have:=R.o;rw [IntKind.wrap_i64];omega
    obtain rfl:M=K:=by have:=F.o;have:=D.o;omega
    have r1:=y.o.cell 1;have f1:=y.o.frozen 1;simp at r1;have G:Chg (· =gr) wr (wr.setCell ⟨gr,1,none⟩ (str r.bound)):=Chg.setCell (S:=(· =gr)) (Chg.refl wr) (p:=⟨gr,1,none⟩) rfl _
    have af:∀ x,x=gr->zO wr x:=fun x e=>by
     subst e;refine y.o.noDig (ZK ?_);intro u hu;simp at hu
     rcases hu with rfl | rfl
     . exact xH C.o
     . exact vY _
    have O:=ze (C.o.chg G (fun c hc e=>by
     subst e;obtain ⟨cs,q⟩:=C.o.heap hc
     exact xp y.o q (by decide) rfl))
    have T:=ze (z.o.chg G (fun e=>by have:=ad.o;have:=av.o;omega) af);have V:=ze (G.blk m.o (by have:=aC.o;omega));have U:=ze (y.o.set_ 1 (str r.bound));have L:Hid (Chg (· =b) w (wr.setCell ⟨gr,1,none⟩ (str r.bound))):=B.o.trans G (fun x j e=>by have:=ad.o;omega);clear G af C z m y B
    go_upto_region 13 with fail
    clear p4 r1 f1 wL;generalize wr.setCell ⟨gr,1,none⟩ (str r.bound)=W3 at O T V U L |-;have r1:=U.o.cell 1;simp at r1;go_wp2_with fail;refine (a5.o _ T.o _ aG.o.tinyb).mono ?_;rintro e w4 ⟨v,ok,rfl,⟨x1,A1,k1,c1,s1,y1,B1,ag,am,t1,rfl⟩,ah,hq,ac,I⟩;rw [bn.o] at ah;subst ah;have J:=T.o.keepBlk I V.o;have X:=T.o.keepBlk I U.o;have aF:=av.o;have ho:=O.o.chg I (fun c hc e=>by have:=(O.o.1.lt c hc).1;omega);replace L:=ze (yp L.o I);have j:=zf w4 (.cells #[.int .i64 x1,.slice A1 k1 c1,.bool s1,.int .i64 y1,.slice B1 ag am,.bool t1] 60);replace V:=ze (J.below j J.lt);replace U:=ze (X.below j X.lt);replace O:=ze (ho.below j);replace T:=ze (ac.below j);replace L:=ze (zD L.o j);clear j ac I J X ho hq aF r1
    go_upto_region 16 with fail
    generalize w4.alloc (.cells #[.int .i64 x1,.slice A1 k1 c1,.bool s1,.int .i64 y1,.slice B1 ag am,.bool t1] 60)=W5 at V U O T L |-;have wL:=V.o.lt
    have p5:W5.cell? ⟨E,M,none⟩=some (str [60,61]):=by
     rw [V.o.cell,D.o.2.1]
     simp [be.o]
    obtain ⟨r0,r1,_⟩:=bq2 U;have aJ:=znz (l:=r.terms) (by rw [<- HN.o];exact O.o) (by have:=HN.o;have:=R.o;omega) aG.o.tiny;have bk:=ze aJ;have bq:=ze (zvv O.o);obtain ⟨tA,tc,az,_⟩:=id aJ;subst az;clear aJ;go_wp2;go_ret2;have j:=zf W5 (.cells #[.slice tA r.terms.length tc,str r.bound] 31);exact ⟨W5.heap.size,tA,tc,_,rfl,Blk.new _ _ _,rfl,(zh.below bk.o j).more (by simp),bq.o.below j,T.o.below j,zD L.o j⟩
  have bB:(K:Int)<(M:Int):=by have:=F.o;have:=D.o.2.1;omega
  have bC:(K:Int)<(N:Int):=by have:=F.o;have:=D.o;omega
  have bD:(0:Int)<=(K:Int):=by omega
  obtain ⟨tm,aM⟩:=uQ (r.terms.getD k default);have ao:=bl.o k an;have aK:=bj.o k an;have aN:=bg.o k an
  have aB:=aG.o.tiny (r.terms.getD k default) (by
   have:k<r.terms.length:=by rw [<- HN.o];exact an
   simp [List.getD,List.getElem?_eq_getElem this])
  rw [<- aM] at ao aK aN aB
  have p1:wr.cell? ⟨E,K,none⟩=some (str tm.coef):=by
   rw [m.o.cell,F.o]
   simp [ao]
  obtain ⟨bc,bw,bd,bp,aY⟩:=hz5 aB aM ao aK aN;clear aB aM ao aK aN;go_wp2_with fail;refine (a5.o _ z.o _ bc.o.2).mono ?_;rintro e w4 ⟨v,ok,rfl,⟨x1,A1,k1,c1,s1,y1,B1,ag,am,t1,rfl⟩,ah,hq,ac,I⟩;rw [aY.o] at ah;subst ah;have J:=z.o.keepBlk I m.o;have X:=z.o.keepBlk I y.o;have aF:=av.o;have ho:=C.o.chg I (fun c hc e=>by have:=(C.o.1.lt c hc).1;omega);replace B:=ze (yp B.o I);replace z:=ze ac;have j:=zf w4 (.cells #[.int .i64 x1,.slice A1 k1 c1,.bool s1,.int .i64 y1,.slice B1 ag am,.bool t1] 60);replace m:=ze (J.below j J.lt);replace y:=ze (X.below j X.lt);replace C:=ze (ho.below j);replace z:=ze (z.o.below j);replace B:=ze (zD B.o j);clear j ac I J X ho hq aF p1 aY
  go_upto_region 11 with fail
  generalize w4.alloc (.cells #[.int .i64 x1,.slice A1 k1 c1,.bool s1,.int .i64 y1,.slice B1 ag am,.bool t1] 60)=W5 at m y C z B |-;obtain ⟨K1,aW⟩:=uQ (K+1);have e5:IntKind.i64.wrap ((K:Int)+1)=(K1:Int):=by have:=F.o;have:=D.o;have:=R.o;rw [IntKind.wrap_i64];omega
  have e6:IntKind.i64.wrap (K1:Int)=(K1:Int):=by have:=F.o;have:=D.o;have:=R.o;rw [IntKind.wrap_i64];omega
  have bA:(K1:Int)<(N:Int):=by have:=F.o;have:=D.o;omega
  have bH:(0:Int)<=(K1:Int):=by omega
  have wL:=m.o.lt;have rL:=y.o.lt
  have p1:W5.cell? ⟨E,K,none⟩=some (str tm.coef):=by
   rw [m.o.cell,F.o]
   simp [bd.o]
  have p2:W5.cell? ⟨E,K1,none⟩=some (str tm.name):=by
   rw [m.o.cell,aW,F.o]
   simp [bp.o]
  have p3:=(bq1 y).1
  have aQ:¬ tv.ownBlock=some gr:=fun e=>by
   obtain ⟨cs,q⟩:=C.o.heap e;exact xp y.o q (by decide) rfl
  have ax:¬ tv.ownBlock=some E:=fun e=>by
   obtain ⟨cs,q⟩:=C.o.heap e;exact xp m.o q (by decide) rfl
  clear aW;have aw:∀ w',Hid (Chg (fun x=>tv.ownBlock=some x) W5 w')->w'.cell? ⟨gr,0,none⟩=some tv/\w'.cell? ⟨E,K,none⟩=some (str tm.coef)/\w'.cell? ⟨E,K1,none⟩=some (str tm.name):=fun w' hB=>⟨xl hB p3 aQ,xl hB p1 ax,xl hB p2 ax⟩
  refine y8 aw 12 3 15 (xX W5) fun hU=>?_;simp only [xDR]
  iterate 12 refine zH ?_
  refine zB ?_;refine rK 12 fun K hK=>?_
  go_simp
  have Z:=(vi W5 (.cells #[str tm.name,str tm.coef] 44)).out;have aX:Hid (Chg (fun x=>tv.ownBlock=some x) W5 (W5.alloc (.cells #[str tm.name,str tm.coef] 44)).drew):=Chg.of_below Z;refine hK.out _ _ (zm (aX) (aw _)) ?_;clear hK K hU;intro hU
  try simp only [Act.put,xST]
  have aZ:=ze (z.o.below Z);have aj:=ze (C.o.below Z);have aV:=ze (m.o.below Z m.o.lt);have a9:=ze (y.o.below Z y.o.lt);have aD:Hid (Chg (· =b) w (W5.alloc (.cells #[str tm.name,str tm.coef] 44)).drew):=zD B.o Z;have ai:=aD.o.size;have a7:=zh9 (w:=W5) (t:=44) (a:=str tm.name) (b:=str tm.coef);have aU:=Vm (a:=str tm.name) (b:=str tm.coef) (p:=fun u=>u.oneCell' =true) rfl rfl;have a6:=Vm (a:=str tm.name) (b:=str tm.coef) (p:=ZP) (vY _) (vY _);have a1:∀ u∈(Value.agg #[.string ⟨#[]⟩,.string ⟨#[]⟩]).cells,ZP u:=by intro u hu;simp [Value.cells] at hu;subst hu;exact vY _
  obtain ⟨i1,br,bf,bv,bo⟩:=info_parts zrg;clear aX Z z C m y B;refine HH.ready (rs:=[13]) (by kernel_rfl) (by simp) (by kernel_rfl) ?_;refine Zd.cons (o:=_) rfl (fun K hK=>?_) Zd.nil;rw [if_pos (by rfl)];refine ve (P:=prog) (.tmp 42) (.tmp 53) _ rfl w.heap.size 44 i1 _ 2 32 underlying23 br bf bv bo rfl (by omega) _ k _ rfl aj.o ⟨W5.heap.size,0,none⟩ 1 1 [str tm.name,str tm.coef] rfl rfl (by omega) a7 aU a6 a1 (by have:=R.o;unfold maxLen;omega) (by have:=R.o;omega) ai ?_;intro bJ Y al a2 bu;obtain ⟨g3,aA,az,_,_⟩:=al.1.form (by omega);subst az;have aa:=vI a2;have aO:=fun c hc=>(aj.o.1.lt c hc).1
  have hD:∀ x,tv.ownBlock=some x->zO (W5.alloc (.cells #[str tm.name,str tm.coef] 44)).drew x:=fun x e=>aj.o.2 x e
  have bm:=av.o;have ba:zu Y b:=aZ.o.chg aa (fun e=>by have:=aO _ e;omega) hD;have aS:=aa.blk aV.o ax;have ab:=aa.blk a9.o aQ;have a8:Chg (· =b) w Y:=aD.o.trans aa (fun x j e=>by have:=aO _ e;omega);have G:Chg (· =gr) Y (Y.setCell ⟨gr,0,none⟩ (.slice (some ⟨g3,0,none⟩) (k+1) aA)):=Chg.setCell (S:=(· =gr)) (Chg.refl Y) (p:=⟨gr,0,none⟩) rfl _
  have af:∀ x,x=gr->zO Y x:=fun x e=>by
   subst e;refine ab.noDig (ZK ?_);intro u hu;simp at hu
   rcases hu with rfl | rfl
   . exact xH aj.o
   . exact vY _
  have a0:vC k (XT r.terms) (XN r.terms) ++ [str tm.name,str tm.coef]=vC (k+1) (XT r.terms) (XN r.terms):=by
   rw [Zl];unfold XT XN;rw [<- bw.o]
  rw [a0] at al
  have O:=ze (al.chg G (fun c hc e=>by
   subst e;obtain ⟨cs,q⟩:=al.heap hc
   exact xp ab q (by decide) rfl))
  have T:=ze (ba.chg G (fun e=>by have:=ad.o;omega) af);have V:=ze (G.blk aS (by have:=aC.o;omega));have U:=ze (ab.set_ 0 (.slice (some ⟨g3,0,none⟩) (k+1) aA));have L:Hid (Chg (· =b) w (Y.setCell ⟨gr,0,none⟩ (.slice (some ⟨g3,0,none⟩) (k+1) aA))):=a8.trans G (fun x j e=>by have:=ad.o;omega);have r0:=ab.cell 0;have f0:=ab.frozen 0;simp at r0;refine hK.out _ _ (zm (vz aa hU.1) (aw _)) ?_;clear hK K hU;intro hU
  try simp only [Act.put,xST]
  clear aa aO hD ba aS ab a8 G af a0 al a2 bu ai a7 aU a6 a1 aZ aj aV a9 aD bm;refine tK 14 ?_;clear hU aw;refine hdn ?_;simp only [xDR];clear p1 p2 p3 aQ ax wL rL;have e7:IntKind.i64.wrap ((K:Int)+2)=((K+2:Nat):Int):=by have:=F.o;have:=D.o;have:=R.o;rw [IntKind.wrap_i64];omega
  go_wp2;go_roundw
  case rel=>exact ⟨k+1,K+2,_,by have:=HN.o;omega,by go_num,(by have:=F.o;show K+2=_;omega),T,V,U,O,L⟩
  case measure=>have:=F.o;have:=D.o;simp [intOf];omega
end Go.Proofs.YtobdoblpnanclaaGreatDoor
