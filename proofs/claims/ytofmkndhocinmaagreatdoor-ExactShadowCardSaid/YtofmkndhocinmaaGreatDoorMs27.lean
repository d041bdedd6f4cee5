/- Parts of the proof. -/
import Derived.Test.YtofmkndhocinmaaGreatDoorMs18
import Derived.Test.YtofmkndhocinmaaGreatDoorMs26
set_option linter.all false
namespace Go.Proofs.YtofmkndhocinmaaGreatDoor
open Proofs.Tryz Go.RowKit Go.Deep
attribute [local go_sem ↓] Go.wp_at_zero Go.wp_at_succ
def YL (l:List UInt8):List (List UInt8):=spl 32 (l.count 32) l
structure zqp (l:List UInt8) (r:zF):Prop where
 len:(YL l).length=2*r.terms.length+2
 full:∀ x∈YL l,x≠[]
 coef:∀ i,i<r.terms.length->(YL l)[2*i]?=some (r.terms.getD i default).coef
 name:∀ i,i<r.terms.length->(YL l)[2*i+1]?=some (r.terms.getD i default).name
 sign:(YL l)[2*r.terms.length]?=some [60,61]
 bound:(YL l)[2*r.terms.length+1]?=some r.bound
 nums:∀ i,i<r.terms.length->(zj (r.terms.getD i default).coef).isSome=true
 bnum:(zj r.bound).isSome=true
 small:l.length<=65536
 tiny:∀ x∈r.terms,zB x.name/\zB x.coef
 tinyb:zB r.bound
theorem zed:(prog.info? 38).map (fun i=>(i.zero,i.size,i.bytes))=some (some (.agg #[.string ⟨#[]⟩,.string ⟨#[]⟩]),2,32):=by kernel_rfl
theorem Tryz.underlying34:prog.underlying 34=some (.slice 38):=by kernel_rfl
theorem Z3 {w:World} {t:TypeId} {a b:Value}:∀ (j:Nat) (u:Value),[a,b][j]?=some u->(w.alloc (.cells #[a,b] t)).cell? ((⟨w.heap.size,0,none⟩:Addr).add j)=some u:=by
 intro j u hu
 have e:=Blk.new w t #[a,b]
 match j with
 | 0=>
   simp at hu;subst hu;have:=e.cell 0
   simp [Addr.add]
 | 1=>
   simp at hu;subst hu;have:=e.cell 1
   simp [Addr.add]
 | j+2=>simp at hu
theorem xh {a b:Value} {p:Value->Prop} (h:p a) (k:p b):∀ u∈[a,b],p u:=by
 intro u hu
 simp at hu
 rcases hu with rfl | rfl
 . exact h
 . exact k
def LinR (w0:World) (b gw gr:Nat) (ws:List (List UInt8)) (r:zF) (iv:Value) (wr:World):Prop:=
 ∃ (k K:Nat) (tv:Value),k<=r.terms.length/\iv= .int .i64 K/\Hid (K=2*k)/\Hid (zr wr b)/\Hid (Blk wr gw 9 (ws.map str).toArray)/\Hid (Blk wr gr 36 #[tv,.string ⟨#[]⟩])/\
  Hid (vJ wr w0.heap.size 38 2 tv k (yG k (vw r.terms) (vq r.terms)))/\Hid (Chg (· =b) w0 wr)
def TyT (w:World) (v:Value):Prop:=∀ A n c,v= .slice A n c->0<n->∃ g cs,A=some ⟨g,0,none⟩/\w.heap[g]?=some (.cells cs 38 (0,0))
def zu2 (b:Nat) (r:zF) (w:World) (e:Ending) (w' :World):Prop:=
 ∃ g tA tc cs,e= .returned (.tuple #[.slice (some ⟨g,0,none⟩) 1 1,.bool true])/\Blk w' g 36 cs/\cs=#[.slice tA r.terms.length tc,str r.bound]/\zi w' w'.heap.size (.slice tA r.terms.length tc) r.terms/\TyT w' (.slice tA r.terms.length tc)/\zr w' b/\Chg (· =b) w w'
theorem TyT.chg {S:Nat->Prop} {w w' :World} {v:Value} (h:TyT w v) (hc:Chg S w w') (hS:∀ x,S x->(∀ cs,w.heap[x]?≠some (.cells cs 38 (0,0)))):TyT w' v:=fun A n c e hn=>by
 obtain ⟨g,cs,j,b⟩:=h A n c e hn
 have l:g<w.heap.size:=(Array.getElem?_eq_some_iff.1 b).1
 exact ⟨g,cs,j,(hc.block g l (fun hs=>hS g hs cs b)).trans b⟩
theorem TyT.below {w w' :World} {v:Value} (h:TyT w v) (hb:Below w.heap.size w w'):TyT w' v:=h.chg (S:=fun _=>False) (Chg.of_below hb) (fun _ h=>h.elim)
theorem zi.off {S:Nat->Prop} {w w' :World} {B:Nat} {v:Value} {l:List zm} (h:zi w B v l) (ty:TyT w v) (hc:Chg S w w') (hS:∀ x,S x->(∀ cs,w.heap[x]?≠some (.cells cs 38 (0,0)))):zi w' B v l:=by
 obtain ⟨A,c,rfl,z,E,C,m,r⟩:=h
 refine ⟨A,c,rfl,z,E,C,⟨m.1,fun hn=>?_⟩,r⟩
 obtain ⟨F,e,hb,D⟩:=m.2 hn
 obtain ⟨g,cs,b,y⟩:=ty _ _ _ rfl hn
 rw [b] at e
 injection e with e
 subst e
 exact ⟨_,b,hb,fun j u hu=>hc.cell (D j u hu) (fun hs=>hS g (by rw [zG] at hs;exact hs) cs y)⟩
theorem zt1 {w:World} {base n:Nat} {tv:Value} {xs:List Value} (h:vJ w base 38 2 tv n xs):TyT w tv:=fun A k c e hn=>by
 subst e
 rcases h.1.2 with ⟨e,m⟩ | ⟨g,l,b,e,_,j,_⟩
 . injection e with _ e _
   omega
 . injection e with e _ _
   exact ⟨g,b,e,j⟩
theorem zmm {w:World} {base:Nat} {tv:Value} {l:List zm} (h:vJ w base 38 2 tv l.length (yG l.length (vw l) (vq l))) (hl:l.length<=100000) (ht:∀ x∈l,zB x.name/\zB x.coef):zi w w.heap.size tv l:=by
 have b:=h.1
 rcases b.2 with ⟨rfl,r⟩ | ⟨g,z,u,rfl,_,C,m,j,B,y⟩
 . have e:l=[]:=uI r
   subst e;exact ⟨none,0,rfl,uA,uB,hl,ym.of_own b,ht⟩
 . exact ⟨_,_,rfl,m,j,hl,ym.of_own b,ht⟩
set_option maxRecDepth 100000 in
set_option maxHeartbeats 8000000 in
theorem zlk (b:Nat) (l:List UInt8) (r:zF) (w:World) (hB:zr w b) (hok:zqp l r):
 Calls prog 36 #[.map (some b),str l] w (zu2 b r w):=by
 obtain ⟨ws,aj⟩:=uQ (YL l)
 obtain ⟨n,hn⟩:=uQ r.terms.length
 have aJ:bts ⟨l.toArray⟩=l:=xf l
 have al:=fun w=>zez ⟨l.toArray⟩ 32 w (by rw [<- zq,aJ];have:=hok.small;omega)
 rw [aJ] at al
 change ∀ w,Calls _ _ _ w (zjs w (YL l)) at al
 have af:=hok.len
 have ar:=hok.coef
 have aq:=hok.name
 have av:=hok.sign
 have au:=hok.bound
 have aF:=hok.full
 have aQ:=hok.nums
 have a5:=hok.bnum
 have bu:n<=32768:=by
  have h1:=List.count_le_length (a:=32) (l:=l)
  have h2:(YL l).length=l.count 32+1:=Vx 32 _ _
  have:=hok.small
  omega
 rw [<- aj] at al af ar aq av au aF
 rw [<- hn] at af av au aQ ar aq
 obtain ⟨aH,HN,B⟩:=hz3 hok hn hB
 have aw:=ze hB.lt
 obtain ⟨bm,bk,bf,bi,bj,bh,bo⟩:=hz7 ar aq av au aF aQ a5
 obtain ⟨N,hN⟩:∃ N,N=2*n+2:=⟨_,rfl⟩
 obtain ⟨M,hM⟩:∃ M,M=2*n:=⟨_,rfl⟩
 obtain ⟨R,bc⟩:∃ R,R=2*n+1:=⟨_,rfl⟩
 rw [<- hN] at af
 have aI:=ze af
 have aU:=ze al
 clear aj hok hB ar aq av au aF al af aJ aQ a5 hn
 have e1:IntKind.i64.wrap ((N:Int) - 2)=(M:Int):=by rw [IntKind.wrap_i64];omega
 have e2:IntKind.i64.wrap ((N:Int) - 1)=(R:Int):=by rw [IntKind.wrap_i64];omega
 have e3:(N:Int) % 2=0:=by omega
 have e4:(N:Int).tmod 2=0:=by rw [Int.tmod_eq_emod_of_nonneg (by omega)];omega
 have E:Hid (N=2*n+2/\M=2*n/\R=2*n+1):=⟨hN,hM,bc⟩
 have T:=ze bu
 clear hN hM bc
 go_in
 go_wp2_with fail
 refine (aU.o _).mono ?_
 rintro e w1 ⟨F,rfl,L,bA,aS⟩
 rw [aI.o]
 replace B:=ze (B.o.below aS)
 have m:=ze L
 have C:Hid (Chg (· =b) w w1):=Chg.of_below aS
 have az:=fun w' (h:Blk w' F 9 (ws.map str).toArray)=>zep F ws [] w' h (by have:=aI.o;have:=E.o.1;have:=T.o;omega) bj.o
 rw [aI.o] at az
 have a4:=ze az
 clear aS L az aU
 go_wp2_with fail
 refine (a4.o _ m.o).mono ?_
 rintro e w9 ⟨rfl,rfl⟩
 clear a4
 have j:=zf w1 (.cells #[.slice none 0 0,.string ⟨#[]⟩] 36)
 have z:=ze (Blk.new w1 36 #[.slice none 0 0,.string ⟨#[]⟩])
 have aD:=ze (show F<w1.heap.size from m.o.lt)
 replace B:=ze (B.o.below j)
 replace m:=kb_ m j
 have ae:Hid (w.heap.size<=w1.heap.size):=C.o.size
 replace C:=ze (zC C.o j)
 clear j
 go_upto_region 5 with fail
 generalize w1.alloc (.cells #[.slice none 0 0,.string ⟨#[]⟩] 36)=W2 at z B m C |-
 generalize w1.heap.size=gr at z aD ae |-
 have aM:=fun w' (h:zr w' b) (s:List UInt8) (hs:zB s)=>xK b ⟨s.toArray⟩ w' h (by rw [<- zq,xf];exact hs)
 simp only [xf] at aM
 have a6:=ze aM
 clear aM
 have D:Hid (vJ W2 w.heap.size 38 2 (.slice none 0 0) 0 (yG 0 (vw r.terms) (vq r.terms))):=Zk _ _ _ _
 go_wp2
 go_loopw [8] (LinR w b F gr ws r) (fun iv _=>M - (intOf iv).toNat)
 case atStart=>exact ⟨0,0,_,uB,rfl,rfl,B,m,z,D,C⟩
 case round=>
  clear B m z D C
  obtain ⟨k,K,tv,hk,rfl,G,B,m,z,D,C⟩:=hrel
  by_cases ao:k<n
  rotate_left
  . obtain rfl:n=k:=by have:=HN.o;omega
    have wL:=m.o.lt
    have p4:wr.cell? ⟨F,R,none⟩=some (str r.bound):=by
     rw [m.o.cell,E.o.2.2]
     simp [bi.o]
    have bz:(R:Int)<(N:Int):=by have:=E.o;omega
    have bL:(0:Int)<=(R:Int):=by omega
    have bF:IntKind.i64.wrap (R:Int)=(R:Int):=by have:=E.o;have:=T.o;rw [IntKind.wrap_i64];omega
    have bJ:(M:Int)<(N:Int):=by have:=E.o;omega
    have bG:(0:Int)<=(M:Int):=by omega
    have bH:IntKind.i64.wrap (M:Int)=(M:Int):=by have:=E.o;have:=T.o;rw [IntKind.wrap_i64];omega
    obtain rfl:M=K:=by have:=G.o;have:=E.o;omega
    have r1:=z.o.cell 1;have f1:=z.o.frozen 1;simp at r1;have I:Chg (· =gr) wr (wr.setCell ⟨gr,1,none⟩ (str r.bound)):=Chg.setCell (S:=(· =gr)) (Chg.refl wr) (p:=⟨gr,1,none⟩) rfl _
    have ag:∀ x,x=gr->zK wr x:=fun x e=>by
     subst e;refine z.o.noDig (vH ?_);intro u hu;simp at hu
     rcases hu with rfl | rfl
     . exact xo D.o
     . exact yF _
    have Q:=ze (D.o.chg I (fun c hc e=>by
     subst e;obtain ⟨cs,q⟩:=D.o.heap hc
     exact yZ z.o q (by decide) rfl))
    have U:=ze (B.o.chg I (fun e=>by have:=ae.o;have:=aw.o;omega) ag);have X:=ze (I.blk m.o (by have:=aD.o;omega));have V:=ze (z.o.set_ 1 (str r.bound));have O:Hid (Chg (· =b) w (wr.setCell ⟨gr,1,none⟩ (str r.bound))):=C.o.trans I (fun x j e=>by have:=ae.o;omega);clear I ag D B m z C
    go_upto_region 13 with fail
    clear p4 r1 f1 wL;generalize wr.setCell ⟨gr,1,none⟩ (str r.bound)=W3 at Q U X V O |-;have r1:=V.o.cell 1;simp at r1;go_wp2_with fail;refine (a6.o _ U.o _ aH.o.tinyb).mono ?_;rintro e w4 ⟨v,ok,rfl,⟨x1,A1,k1,c1,s1,y1,B1,ah,an,t1,rfl⟩,ai,hq,ad,J⟩;rw [bo.o] at ai;subst ai;have L:=U.o.keepBlk J X.o;have Y:=U.o.keepBlk J V.o;have aG:=aw.o;have ho:=Q.o.chg J (fun c hc e=>by have:=(Q.o.1.lt c hc).1;omega);replace O:=ze (yg O.o J);have j:=zf w4 (.cells #[.int .i64 x1,.slice A1 k1 c1,.bool s1,.int .i64 y1,.slice B1 ah an,.bool t1] 62);replace X:=ze (L.below j L.lt);replace V:=ze (Y.below j Y.lt);replace Q:=ze (ho.below j);replace U:=ze (ad.below j);replace O:=ze (zC O.o j);clear j ad J L Y ho hq aG r1
    go_upto_region 16 with fail
    generalize w4.alloc (.cells #[.int .i64 x1,.slice A1 k1 c1,.bool s1,.int .i64 y1,.slice B1 ah an,.bool t1] 62)=W5 at X V Q U O |-;have wL:=X.o.lt
    have p5:W5.cell? ⟨F,M,none⟩=some (str [60,61]):=by
     rw [X.o.cell,E.o.2.1]
     simp [bf.o]
    obtain ⟨r0,r1,_⟩:=bq2 V;have aK:=zmm (l:=r.terms) (by rw [<- HN.o];exact Q.o) (by have:=HN.o;have:=T.o;omega) aH.o.tiny;have bl:=ze aK;have br:=ze (zt1 Q.o);obtain ⟨tA,tc,aA,_⟩:=id aK;subst aA;clear aK;go_wp2;go_ret2;have j:=zf W5 (.cells #[.slice tA r.terms.length tc,str r.bound] 36);exact ⟨W5.heap.size,tA,tc,_,rfl,Blk.new _ _ _,rfl,(zi.below bl.o j).more (by simp),br.o.below j,U.o.below j,zC O.o j⟩
  have bC:(K:Int)<(M:Int):=by have:=G.o;have:=E.o.2.1;omega
  have bD:(K:Int)<(N:Int):=by have:=G.o;have:=E.o;omega
  have bE:(0:Int)<=(K:Int):=by omega
  obtain ⟨y,aN⟩:=uQ (r.terms.getD k default);have ap:=bm.o k ao;have aL:=bk.o k ao;have aO:=bh.o k ao
  have aC:=aH.o.tiny (r.terms.getD k default) (by
   have:k<r.terms.length:=by rw [<- HN.o];exact ao
   simp [List.getD,List.getElem?_eq_getElem this])
  rw [<- aN] at ap aL aO aC
  have p1:wr.cell? ⟨F,K,none⟩=some (str y.coef):=by
   rw [m.o.cell,G.o]
   simp [ap]
  obtain ⟨bd,bx,be,bq,aZ⟩:=hz5 aC aN ap aL aO;clear aC aN ap aL aO;go_wp2_with fail;refine (a6.o _ B.o _ bd.o.2).mono ?_;rintro e w4 ⟨v,ok,rfl,⟨x1,A1,k1,c1,s1,y1,B1,ah,an,t1,rfl⟩,ai,hq,ad,J⟩;rw [aZ.o] at ai;subst ai;have L:=B.o.keepBlk J m.o;have Y:=B.o.keepBlk J z.o;have aG:=aw.o;have ho:=D.o.chg J (fun c hc e=>by have:=(D.o.1.lt c hc).1;omega);replace C:=ze (yg C.o J);replace B:=ze ad;have j:=zf w4 (.cells #[.int .i64 x1,.slice A1 k1 c1,.bool s1,.int .i64 y1,.slice B1 ah an,.bool t1] 62);replace m:=ze (L.below j L.lt);replace z:=ze (Y.below j Y.lt);replace D:=ze (ho.below j);replace B:=ze (B.o.below j);replace C:=ze (zC C.o j);clear j ad J L Y ho hq aG p1 aZ
  go_upto_region 11 with fail
  generalize w4.alloc (.cells #[.int .i64 x1,.slice A1 k1 c1,.bool s1,.int .i64 y1,.slice B1 ah an,.bool t1] 62)=W5 at m z D B C |-;obtain ⟨K1,aX⟩:=uQ (K+1);have e5:IntKind.i64.wrap ((K:Int)+1)=(K1:Int):=by have:=G.o;have:=E.o;have:=T.o;rw [IntKind.wrap_i64];omega
  have e6:IntKind.i64.wrap (K1:Int)=(K1:Int):=by have:=G.o;have:=E.o;have:=T.o;rw [IntKind.wrap_i64];omega
  have bB:(K1:Int)<(N:Int):=by have:=G.o;have:=E.o;omega
  have bI:(0:Int)<=(K1:Int):=by omega
  have wL:=m.o.lt;have rL:=z.o.lt
  have p1:W5.cell? ⟨F,K,none⟩=some (str y.coef):=by
   rw [m.o.cell,G.o]
   simp [be.o]
  have p2:W5.cell? ⟨F,K1,none⟩=some (str y.name):=by
   rw [m.o.cell,aX,G.o]
   simp [bq.o]
  have p3:=(bq1 z).1
  have aR:¬ tv.ownBlock=some gr:=fun e=>by
   obtain ⟨cs,q⟩:=D.o.heap e;exact yZ z.o q (by decide) rfl
  have ay:¬ tv.ownBlock=some F:=fun e=>by
   obtain ⟨cs,q⟩:=D.o.heap e;exact yZ m.o q (by decide) rfl
  clear aX;have ax:∀ w',Hid (Chg (fun x=>tv.ownBlock=some x) W5 w')->w'.cell? ⟨gr,0,none⟩=some tv/\w'.cell? ⟨F,K,none⟩=some (str y.coef)/\w'.cell? ⟨F,K1,none⟩=some (str y.name):=fun w' hB=>⟨xu hB p3 aR,xu hB p1 ay,xu hB p2 ay⟩
  refine xb ax 12 3 15 (vj W5) fun hU=>?_;simp only [xDR]
  iterate 12 refine zP ?_
  refine zD ?_;refine rK 12 fun K hK=>?_
  go_simp
  have aa:=(vz W5 (.cells #[str y.name,str y.coef] 38)).out;have aY:Hid (Chg (fun x=>tv.ownBlock=some x) W5 (W5.alloc (.cells #[str y.name,str y.coef] 38)).drew):=Chg.of_below aa;refine hK.out _ _ (zl (aY) (ax _)) ?_;clear hK K hU;intro hU
  try simp only [Act.put,xST]
  have a0:=ze (B.o.below aa);have ak:=ze (D.o.below aa);have aW:=ze (m.o.below aa m.o.lt);have ba:=ze (z.o.below aa z.o.lt);have aE:Hid (Chg (· =b) w (W5.alloc (.cells #[str y.name,str y.coef] 38)).drew):=zC C.o aa;have aj:=aE.o.size;have a8:=Z3 (w:=W5) (t:=38) (a:=str y.name) (b:=str y.coef);have aV:=xh (a:=str y.name) (b:=str y.coef) (p:=fun u=>u.oneCell' =true) rfl rfl;have a7:=xh (a:=str y.name) (b:=str y.coef) (p:=Zp) (yF _) (yF _);have a2:∀ u∈(Value.agg #[.string ⟨#[]⟩,.string ⟨#[]⟩]).cells,Zp u:=by intro u hu;simp [Value.cells] at hu;subst hu;exact yF _
  obtain ⟨i1,bs,bg,bw,bp⟩:=info_parts zed;clear aY aa B D m z C;refine HH.ready (rs:=[13]) (by kernel_rfl) (by simp) (by kernel_rfl) ?_;refine Za.cons (o:=_) rfl (fun K hK=>?_) Za.nil;rw [if_pos (by rfl)];refine xB (P:=prog) (.tmp 42) (.tmp 53) _ rfl w.heap.size 38 i1 _ 2 32 underlying34 bs bg bw bp rfl (by omega) _ k _ rfl ak.o ⟨W5.heap.size,0,none⟩ 1 1 [str y.name,str y.coef] rfl rfl (by omega) a8 aV a7 a2 (by have:=T.o;unfold maxLen;omega) (by have:=T.o;omega) aj ?_;intro bK Z am a3 bv;obtain ⟨g3,aB,aA,_,_⟩:=am.1.form (by omega);subst aA;have ab:=xN a3;have aP:=fun c hc=>(ak.o.1.lt c hc).1
  have hD:∀ x,tv.ownBlock=some x->zK (W5.alloc (.cells #[str y.name,str y.coef] 38)).drew x:=fun x e=>ak.o.2 x e
  have bn:=aw.o;have bb:zr Z b:=a0.o.chg ab (fun e=>by have:=aP _ e;omega) hD;have aT:=ab.blk aW.o ay;have ac:=ab.blk ba.o aR;have a9:Chg (· =b) w Z:=aE.o.trans ab (fun x j e=>by have:=aP _ e;omega);have I:Chg (· =gr) Z (Z.setCell ⟨gr,0,none⟩ (.slice (some ⟨g3,0,none⟩) (k+1) aB)):=Chg.setCell (S:=(· =gr)) (Chg.refl Z) (p:=⟨gr,0,none⟩) rfl _
  have ag:∀ x,x=gr->zK Z x:=fun x e=>by
   subst e;refine ac.noDig (vH ?_);intro u hu;simp at hu
   rcases hu with rfl | rfl
   . exact xo ak.o
   . exact yF _
  have a1:yG k (vw r.terms) (vq r.terms) ++ [str y.name,str y.coef]=yG (k+1) (vw r.terms) (vq r.terms):=by
   rw [xX];unfold vw vq;rw [<- bx.o]
  rw [a1] at am
  have Q:=ze (am.chg I (fun c hc e=>by
   subst e;obtain ⟨cs,q⟩:=am.heap hc
   exact yZ ac q (by decide) rfl))
  have U:=ze (bb.chg I (fun e=>by have:=ae.o;omega) ag);have X:=ze (I.blk aT (by have:=aD.o;omega));have V:=ze (ac.set_ 0 (.slice (some ⟨g3,0,none⟩) (k+1) aB));have O:Hid (Chg (· =b) w (Z.setCell ⟨gr,0,none⟩ (.slice (some ⟨g3,0,none⟩) (k+1) aB))):=a9.trans I (fun x j e=>by have:=ae.o;omega);have r0:=ac.cell 0;have f0:=ac.frozen 0;simp at r0;refine hK.out _ _ (zl (Zh ab hU.1) (ax _)) ?_;clear hK K hU;intro hU
  try simp only [Act.put,xST]
  clear ab aP hD bb aT ac a9 I ag a1 am a3 bv aj a8 aV a7 a2 a0 ak aW ba aE bn;refine tK 14 ?_;clear hU ax;refine hdn ?_;simp only [xDR];clear p1 p2 p3 aR ay wL rL;have e7:IntKind.i64.wrap ((K:Int)+2)=((K+2:Nat):Int):=by have:=G.o;have:=E.o;have:=T.o;rw [IntKind.wrap_i64];omega
  go_wp2;go_roundw
  case rel=>exact ⟨k+1,K+2,_,by have:=HN.o;omega,by go_num,(by have:=G.o;show K+2=_;omega),U,X,V,Q,O⟩
  case measure=>have:=G.o;have:=E.o;simp [intOf];omega
end Go.Proofs.YtofmkndhocinmaaGreatDoor
