/- Parts of the proof: memory, numbers, walks of the functions that are called. -/
import Derived.Test.YtkmcmmcencdcpaaGreatDoorMt20
import Derived.Test.YtkmcmmcencdcpaaGreatDoorMt35
set_option linter.unusedVariables false
set_option linter.unusedSimpArgs false
namespace Go.Proofs.YtkmcmmcencdcpaaGreatDoor
open Go.RowKit Go.Deep
attribute [local go_sem ↓] Go.wp_at_zero Go.wp_at_succ
def Y1 (l:List UInt8):List (List UInt8):=spl 32 (l.count 32) l
structure zox (l:List UInt8) (r:yU):Prop where
 len:(Y1 l).length=2*r.terms.length+2
 full:∀ x∈Y1 l,x≠[]
 coef:∀ i,i<r.terms.length->(Y1 l)[2*i]?=some (r.terms.getD i default).coef
 name:∀ i,i<r.terms.length->(Y1 l)[2*i+1]?=some (r.terms.getD i default).name
 sign:(Y1 l)[2*r.terms.length]?=some [60,61]
 bound:(Y1 l)[2*r.terms.length+1]?=some r.bound
 nums:∀ i,i<r.terms.length->(zp (r.terms.getD i default).coef).isSome=true
 bnum:(zp r.bound).isSome=true
 small:l.length<=65536
 tiny:∀ x∈r.terms,yo x.name/\yo x.coef
 tinyb:yo r.bound
theorem znr:(Tryz.prog.info? 60).map (fun i=>(i.zero,i.size,i.bytes))=some (some (.agg #[.string ⟨#[]⟩,.string ⟨#[]⟩]),2,32):=by kernel_rfl
theorem Tryz.underlying30:Tryz.prog.underlying 30=some (.slice 60):=by kernel_rfl
theorem zfd {w:World} {t:TypeId} {a b:Value}:∀ (j:Nat) (u:Value),[a,b][j]?=some u->(w.alloc (.cells #[a,b] t)).cell? ((⟨w.heap.size,0,none⟩:Addr).add j)=some u:=by
 intro j u hu
 have hnew:=Blk.new w t #[a,b]
 match j with
 | 0=>
   simp at hu;subst hu;have:=hnew.cell 0
   simp [Addr.add]
 | 1=>
   simp at hu;subst hu;have:=hnew.cell 1
   simp [Addr.add]
 | j+2=>simp at hu
theorem XU {a b:Value} {p:Value->Prop} (h:p a) (k:p b):∀ u∈[a,b],p u:=by
 intro u hu
 simp at hu
 rcases hu with rfl | rfl
 . exact h
 . exact k
def LinR (w0:World) (b gw gr:Nat) (ws:List (List UInt8)) (r:yU) (iv:Value) (wr:World):Prop:=
 ∃ (k K:Nat) (tv:Value),k<=r.terms.length/\iv= .int .i64 K/\Hid (K=2*k)/\Hid (zB wr b)/\Hid (Blk wr gw 9 (ws.map str).toArray)/\Hid (Blk wr gr 49 #[tv,.string ⟨#[]⟩])/\
  Hid (vJ wr w0.heap.size 60 2 tv k (v8 k (Xn r.terms) (Xt r.terms)))/\Hid (Chg (· =b) w0 wr)
def TyT (w:World) (v:Value):Prop:=∀ A n c,v= .slice A n c->0<n->∃ g cs,A=some ⟨g,0,none⟩/\w.heap[g]?=some (.cells cs 60 (0,0))
def zrd (b:Nat) (r:yU) (w:World) (e:Ending) (w' :World):Prop:=
 ∃ g tA tc cs,e= .returned (.tuple #[.slice (some ⟨g,0,none⟩) 1 1,.bool true])/\Blk w' g 49 cs/\cs=#[.slice tA r.terms.length tc,str r.bound]/\zk w' w'.heap.size (.slice tA r.terms.length tc) r.terms/\TyT w' (.slice tA r.terms.length tc)/\zB w' b/\Chg (· =b) w w'
theorem TyT.chg {S:Nat->Prop} {w w' :World} {v:Value} (h:TyT w v) (hc:Chg S w w') (hS:∀ x,S x->(∀ cs,w.heap[x]?≠some (.cells cs 60 (0,0)))):TyT w' v:=fun A n c e hn=>by
 obtain ⟨g,cs,h1,h2⟩:=h A n c e hn
 have hl:g<w.heap.size:=(Array.getElem?_eq_some_iff.1 h2).1
 exact ⟨g,cs,h1,(hc.block g hl (fun hs=>hS g hs cs h2)).trans h2⟩
theorem TyT.below {w w' :World} {v:Value} (h:TyT w v) (hb:Below w.heap.size w w'):TyT w' v:=h.chg (S:=fun _=>False) (Chg.of_below hb) (fun _ h=>h.elim)
theorem zk.off {S:Nat->Prop} {w w' :World} {B:Nat} {v:Value} {l:List zG} (h:zk w B v l) (ty:TyT w v) (hc:Chg S w w') (hS:∀ x,S x->(∀ cs,w.heap[x]?≠some (.cells cs 60 (0,0)))):zk w' B v l:=by
 obtain ⟨A,c,rfl,h2,h3,h4,h5,h6⟩:=h
 refine ⟨A,c,rfl,h2,h3,h4,⟨h5.1,fun hn=>?_⟩,h6⟩
 obtain ⟨ad,e,hb,hcl⟩:=h5.2 hn
 obtain ⟨g,cs,h7,h8⟩:=ty _ _ _ rfl hn
 rw [h7] at e
 injection e with e
 subst e
 exact ⟨_,h7,hb,fun j u hu=>hc.cell (hcl j u hu) (fun hs=>hS g (by rw [zF] at hs;exact hs) cs h8)⟩
theorem zr9 {w:World} {base n:Nat} {tv:Value} {xs:List Value} (h:vJ w base 60 2 tv n xs):TyT w tv:=fun A k c e hn=>by
 subst e
 rcases h.1.2 with ⟨e,h0⟩ | ⟨g,cap,cur,e,_,hg,_⟩
 . injection e with _ e _
   omega
 . injection e with e _ _
   exact ⟨g,cur,e,hg⟩
theorem zk3 {w:World} {base:Nat} {tv:Value} {l:List zG} (h:vJ w base 60 2 tv l.length (v8 l.length (Xn l) (Xt l))) (hl:l.length<=100000) (ht:∀ x∈l,yo x.name/\yo x.coef):zk w w.heap.size tv l:=by
 have h1:=h.1
 rcases h1.2 with ⟨rfl,h0⟩ | ⟨g,cap,cur,rfl,_,hg,hnc,hcm,hcs,htake⟩
 . have e:l=[]:=List.eq_nil_of_length_eq_zero h0
   subst e;exact ⟨none,0,rfl,Nat.le_refl _,Nat.zero_le _,hl,zY.of_own h1,ht⟩
 . exact ⟨_,_,rfl,hnc,hcm,hl,zY.of_own h1,ht⟩
set_option maxRecDepth 100000 in
set_option maxHeartbeats 8000000 in
theorem zl4 (b:Nat) (l:List UInt8) (r:yU) (w:World) (hB:zB w b) (hok:zox l r):
 Calls Tryz.prog 39 #[.map (some b),str l] w (zrd b r w):=by
 obtain ⟨ws,hws⟩:∃ ws,ws=Y1 l:=⟨_,rfl⟩
 obtain ⟨n,hn⟩:∃ n,n=r.terms.length:=⟨_,rfl⟩
 have hbts:bts ⟨l.toArray⟩=l:=yR l
 have hsp:=fun w=>ze0 ⟨l.toArray⟩ 32 w (by rw [<- zo,hbts];have:=hok.small;omega)
 rw [hbts] at hsp
 change ∀ w,Calls _ _ _ w (zh8 w (Y1 l)) at hsp
 have hlen:=hok.len
 have hcf:=hok.coef
 have hnm:=hok.name
 have hsg:=hok.sign
 have hbd:=hok.bound
 have hfl:=hok.full
 have hnums:=hok.nums
 have hbnum:=hok.bnum
 have hbound:n<=32768:=by
  have h1:=List.count_le_length (a:=32) (l:=l)
  have h2:(Y1 l).length=l.count 32+1:=V4 32 _ _
  have:=hok.small
  omega
 rw [<- hws] at hsp hlen hcf hnm hsg hbd hfl
 rw [<- hn] at hlen hsg hbd hnums hcf hnm
 have HOK:=ze hok
 have HN:=ze hn
 have HB:=ze hB
 have HBLT:=ze hB.lt
 have HCF:=ze hcf
 have HNM:=ze hnm
 have HSG:=ze hsg
 have HBD:=ze hbd
 have HFL:=ze hfl
 have HNU:=ze hnums
 have HBN:=ze hbnum
 obtain ⟨N,hN⟩:∃ N,N=2*n+2:=⟨_,rfl⟩
 obtain ⟨M,hM⟩:∃ M,M=2*n:=⟨_,rfl⟩
 obtain ⟨N1,hN1⟩:∃ N1,N1=2*n+1:=⟨_,rfl⟩
 rw [<- hN] at hlen
 have HLN:=ze hlen
 have HSP:=ze hsp
 clear hws hok hB hcf hnm hsg hbd hfl hsp hlen hbts hnums hbnum hn
 have e1:IntKind.i64.wrap ((N:Int) - 2)=(M:Int):=by rw [IntKind.wrap_i64];omega
 have e2:IntKind.i64.wrap ((N:Int) - 1)=(N1:Int):=by rw [IntKind.wrap_i64];omega
 have e3:(N:Int) % 2=0:=by omega
 have e4:(N:Int).tmod 2=0:=by rw [Int.tmod_eq_emod_of_nonneg (by omega)];omega
 have HNN:Hid (N=2*n+2/\M=2*n/\N1=2*n+1):=⟨hN,hM,hN1⟩
 have HNB:=ze hbound
 clear hN hM hN1
 go_enter Tryz.func39,Tryz.ntmps39
 go_wp2_with fail
 refine (HSP.out _).mono ?_
 rintro e w1 ⟨gw,rfl,hkw,hgw,hb1⟩
 rw [HLN.out]
 replace HB:=ze (HB.out.below hb1)
 have HKW:=ze hkw
 have HC:Hid (Chg (· =b) w w1):=Chg.of_below hb1
 have hcn:=fun w' (h:Blk w' gw 9 (ws.map str).toArray)=>zcq gw ws [] w' h (by have:=HLN.out;have:=HNN.out.1;have:=HNB.out;omega) HFL.out
 rw [HLN.out] at hcn
 have HCN:=ze hcn
 clear hb1 hkw hcn HSP
 go_wp2_with fail
 refine (HCN.out _ HKW.out).mono ?_
 rintro e w9 ⟨rfl,rfl⟩
 clear HCN
 have hx:=zf w1 (.cells #[.slice none 0 0,.string ⟨#[]⟩] 49)
 have HKR:=ze (Blk.new w1 49 #[.slice none 0 0,.string ⟨#[]⟩])
 have HGRL:=ze (show gw<w1.heap.size from HKW.out.lt)
 replace HB:=ze (HB.out.below hx)
 replace HKW:=kb_ HKW hx
 have HWS:Hid (w.heap.size<=w1.heap.size):=HC.out.size
 replace HC:=ze (zX HC.out hx)
 clear hx
 go_upto_region 5 with fail
 generalize w1.alloc (.cells #[.slice none 0 0,.string ⟨#[]⟩] 49)=W2 at HKR HB HKW HC |-
 generalize w1.heap.size=gr at HKR HGRL HWS |-
 have hrd:=fun w' (h:zB w' b) (s:List UInt8) (hs:yo s)=>vD b ⟨s.toArray⟩ w' h (by rw [<- zo,yR];exact hs)
 simp only [yR] at hrd
 have HRD:=ze hrd
 clear hrd
 have HO:Hid (vJ W2 w.heap.size 60 2 (.slice none 0 0) 0 (v8 0 (Xn r.terms) (Xt r.terms))):=Z2 _ _ _ _
 go_wp2_with fail
 go_loopw [8] (LinR w b gw gr ws r) (fun iv _=>M - (intOf iv).toNat)
 case atStart=>exact ⟨0,0,_,Nat.zero_le _,rfl,rfl,HB,HKW,HKR,HO,HC⟩
 case round=>
  clear HB HKW HKR HO HC
  obtain ⟨k,K,tv,hk,rfl,HK,HB,HKW,HKR,HO,HC⟩:=hrel
  by_cases hkn:k<n
  . have hki:(K:Int)<(M:Int):=by have:=HK.out;have:=HNN.out.2.1;omega
    have hki2:(K:Int)<(N:Int):=by have:=HK.out;have:=HNN.out;omega
    have hk0:(0:Int)<=(K:Int):=by omega
    obtain ⟨tm,htm⟩:∃ tm,tm=r.terms.getD k default:=⟨_,rfl⟩;have hcfk:=HCF.out k hkn;have hnmk:=HNM.out k hkn;have hnuk:=HNU.out k hkn
    have hsm:=HOK.out.tiny (r.terms.getD k default) (by
     have:k<r.terms.length:=by rw [<- HN.out];exact hkn
     simp [List.getD,List.getElem?_eq_getElem this])
    rw [<- htm] at hcfk hnmk hnuk hsm
    have p1:wr.cell? ⟨gw,K,none⟩=some (str tm.coef):=by
     rw [HKW.out.cell,HK.out]
     simp [hcfk]
    have HSM:=ze hsm;have HTM:=ze htm;have HCK:=ze hcfk;have HNK:=ze hnmk;have HUK:=ze hnuk;clear hsm htm hcfk hnmk hnuk;go_wp2_with fail;refine (HRD.out _ HB.out _ HSM.out.2).mono ?_;rintro e w4 ⟨v,ok,rfl,⟨x1,A1,k1,c1,s1,y1,B1,k1x,c1x,t1,rfl⟩,hokk,hq,hB1,hc1⟩;rw [HUK.out] at hokk;subst hokk;have hkw:=HB.out.keepBlk hc1 HKW.out;have hkr:=HB.out.keepBlk hc1 HKR.out;have hbl:=HBLT.out;have ho:=HO.out.chg hc1 (fun c hc e=>by have:=(HO.out.1.lt c hc).1;omega);replace HC:=ze (yq HC.out hc1);replace HB:=ze hB1;have hx:=zf w4 (.cells #[.int .i64 x1,.slice A1 k1 c1,.bool s1,.int .i64 y1,.slice B1 k1x c1x,.bool t1] 93);replace HKW:=ze (hkw.below hx hkw.lt);replace HKR:=ze (hkr.below hx hkr.lt);replace HO:=ze (ho.below hx);replace HB:=ze (HB.out.below hx);replace HC:=ze (zX HC.out hx);clear hx hB1 hc1 hkw hkr ho hq hbl p1 HUK
    go_upto_region 11 with fail
    generalize w4.alloc (.cells #[.int .i64 x1,.slice A1 k1 c1,.bool s1,.int .i64 y1,.slice B1 k1x c1x,.bool t1] 93)=W5 at HKW HKR HO HB HC |-;obtain ⟨K1,hK1⟩:∃ K1,K1=K+1:=⟨_,rfl⟩;have e5:IntKind.i64.wrap ((K:Int)+1)=(K1:Int):=by have:=HK.out;have:=HNN.out;have:=HNB.out;rw [IntKind.wrap_i64];omega
    have e6:IntKind.i64.wrap (K1:Int)=(K1:Int):=by have:=HK.out;have:=HNN.out;have:=HNB.out;rw [IntKind.wrap_i64];omega
    have hk2:(K1:Int)<(N:Int):=by have:=HK.out;have:=HNN.out;omega
    have hk3:(0:Int)<=(K1:Int):=by omega
    have wL:=HKW.out.lt;have rL:=HKR.out.lt
    have p1:W5.cell? ⟨gw,K,none⟩=some (str tm.coef):=by
     rw [HKW.out.cell,HK.out]
     simp [HCK.out]
    have p2:W5.cell? ⟨gw,K1,none⟩=some (str tm.name):=by
     rw [HKW.out.cell,hK1,HK.out]
     simp [HNK.out]
    have p3:=HKR.out.cell 0;simp at p3
    have hgr:¬ tv.ownBlock=some gr:=fun e=>by
     obtain ⟨cs,q⟩:=HO.out.heap e;exact xM HKR.out q (by decide) rfl
    have hgw2:¬ tv.ownBlock=some gw:=fun e=>by
     obtain ⟨cs,q⟩:=HO.out.heap e;exact xM HKW.out q (by decide) rfl
    clear hK1;refine zr (S:=fun w' =>Hid (Chg (fun x=>tv.ownBlock=some x) W5 w')/\w'.cell? ⟨gr,0,none⟩=some tv/\w'.cell? ⟨gw,K,none⟩=some (str tm.coef)/\w'.cell? ⟨gw,K1,none⟩=some (str tm.name)) 12 3 15 rfl (by kernel_rfl) (by kernel_rfl) (by kernel_rfl) rfl (zm (vT W5) (fun hB=>⟨zH hB p3 hgr,zH hB p1 hgw2,zH hB p2 hgw2⟩)) ?_ (fun hHeld=>?_)
    . intro _ _ _ _ _ h9;exact h9
    simp only [List.take_succ_cons,List.take_zero]
    iterate 12 refine zW ?_
    refine zM ?_;refine HH.rd 12 (fun K hK=>?_)
    go_simp
    have hbx:=(yF W5 (.cells #[str tm.name,str tm.coef] 60)).out;have hkp:Hid (Chg (fun x=>tv.ownBlock=some x) W5 (W5.alloc (.cells #[str tm.name,str tm.coef] 60)).drew):=Chg.of_below hbx;have hH0:=hHeld;clear hHeld;refine hK.out _ _ (zm (hkp) (fun hB=>⟨zH hB p3 hgr,zH hB p1 hgw2,zH hB p2 hgw2⟩)) (fun hHeld=>?_);clear hH0 hK K
    try simp only [Act.put,List.setIfInBounds_toArray,List.set_cons_zero,List.set_cons_succ]
    have HB6:=ze (HB.out.below hbx);have HO6:=ze (HO.out.below hbx);have HKW6:=ze (HKW.out.below hbx HKW.out.lt);have HKR6:=ze (HKR.out.below hbx HKR.out.lt);have HC6:Hid (Chg (· =b) w (W5.alloc (.cells #[str tm.name,str tm.coef] 60)).drew):=zX HC.out hbx;have hws:=HC6.out.size;have hcell:=zfd (w:=W5) (t:=60) (a:=str tm.name) (b:=str tm.coef);have hone:=XU (a:=str tm.name) (b:=str tm.coef) (p:=fun u=>u.oneCell' =true) rfl rfl;have hnoi:=XU (a:=str tm.name) (b:=str tm.coef) (p:=ZO) (vY _) (vY _);have hzn:∀ u∈(Value.agg #[.string ⟨#[]⟩,.string ⟨#[]⟩]).cells,ZO u:=by intro u hu;simp [Value.cells] at hu;subst hu;exact vY _
    obtain ⟨i1,hi0,hz0,hz1,hz2⟩:=info_parts znr;clear hkp hbx HB HO HKW HKR HC;refine HH.ready (rs:=[13]) (by kernel_rfl) (by simp) (by kernel_rfl) ?_;refine yO.cons (o:=_) rfl (fun K hK=>?_) yO.nil;rw [if_pos (by rfl)];refine vj (P:=Tryz.prog) (.tmp 42) (.tmp 53) _ rfl w.heap.size 60 i1 _ 2 32 Tryz.underlying30 hi0 hz0 hz1 hz2 rfl (by omega) _ k _ rfl HO6.out ⟨W5.heap.size,0,none⟩ 1 1 [str tm.name,str tm.coef] rfl rfl (by omega) hcell hone hnoi hzn (by have:=HNB.out;unfold maxLen;omega) (by have:=HNB.out;omega) hws ?_;intro tv3 w6 hown hgr3 hat;obtain ⟨g3,cap3,etv,_,_⟩:=hown.1.form (by omega);subst etv;have hcg:=vH hgr3;have hge:=fun c hc=>(HO6.out.1.lt c hc).1
    have hD:∀ x,tv.ownBlock=some x->yn (W5.alloc (.cells #[str tm.name,str tm.coef] 60)).drew x:=fun x e=>HO6.out.2 x e
    have hbw:=HBLT.out;have hb6:zB w6 b:=HB6.out.chg hcg (fun e=>by have:=hge _ e;omega) hD;have hkw6:=hcg.blk HKW6.out hgw2;have hkr6:=hcg.blk HKR6.out hgr;have hc6:Chg (· =b) w w6:=HC6.out.trans hcg (fun x hx e=>by have:=hge _ e;omega);have hcr:Chg (· =gr) w6 (w6.setCell ⟨gr,0,none⟩ (.slice (some ⟨g3,0,none⟩) (k+1) cap3)):=Chg.setCell (S:=(· =gr)) (Chg.refl w6) (p:=⟨gr,0,none⟩) rfl _
    have hDr:∀ x,x=gr->yn w6 x:=fun x e=>by
     subst e;refine hkr6.noDig (ZC ?_);intro u hu;simp at hu
     rcases hu with rfl | rfl
     . exact xG HO6.out
     . exact vY _
    have e2s:v8 k (Xn r.terms) (Xt r.terms) ++ [str tm.name,str tm.coef]=v8 (k+1) (Xn r.terms) (Xt r.terms):=by
     rw [Zg];unfold Xn Xt;rw [<- HTM.out]
    rw [e2s] at hown
    have HOX:=ze (hown.chg hcr (fun c hc e=>by
     subst e;obtain ⟨cs,q⟩:=hown.heap hc
     exact xM hkr6 q (by decide) rfl))
    have HBX:=ze (hb6.chg hcr (fun e=>by have:=HWS.out;omega) hDr);have HKWX:=ze (hcr.blk hkw6 (by have:=HGRL.out;omega));have HKRX:=ze (hkr6.set_ 0 (.slice (some ⟨g3,0,none⟩) (k+1) cap3));have HCX:Hid (Chg (· =b) w (w6.setCell ⟨gr,0,none⟩ (.slice (some ⟨g3,0,none⟩) (k+1) cap3))):=hc6.trans hcr (fun x hx e=>by have:=HWS.out;omega);have r0:=hkr6.cell 0;have f0:=hkr6.frozen 0;simp at r0;have hH0:=hHeld;clear hHeld;refine hK.out _ _ (zm (Z7 hcg hH0.1) (fun hB=>⟨zH hB p3 hgr,zH hB p1 hgw2,zH hB p2 hgw2⟩)) (fun hHeld=>?_);clear hH0 hK K
    try simp only [Act.put,List.setIfInBounds_toArray,List.set_cons_zero,List.set_cons_succ]
    clear hcg hge hD hb6 hkw6 hkr6 hc6 hcr hDr e2s hown hgr3 hat hws hcell hone hnoi hzn HB6 HO6 HKW6 HKR6 HC6 hbw;refine HH.tk 14 ?_;have HBY:=(hHeld.1).out;clear HBY hHeld;refine HH.done (by kernel_rfl) ?_;simp only [List.drop_succ_cons,List.drop_zero];clear p1 p2 p3 hgr hgw2 wL rL;have e7:IntKind.i64.wrap ((K:Int)+2)=((K+2:Nat):Int):=by have:=HK.out;have:=HNN.out;have:=HNB.out;rw [IntKind.wrap_i64];omega
    go_wp2_with fail;go_roundw
    case rel=>exact ⟨k+1,K+2,_,by have:=HN.out;omega,by go_num,(by have:=HK.out;show K+2=_;omega),HBX,HKWX,HKRX,HOX,HCX⟩
    case measure=>have:=HK.out;have:=HNN.out;simp [intOf];omega
  . obtain rfl:n=k:=by have:=HN.out;omega
    have wL:=HKW.out.lt
    have p4:wr.cell? ⟨gw,N1,none⟩=some (str r.bound):=by
     rw [HKW.out.cell,HNN.out.2.2]
     simp [HBD.out]
    have hn1:(N1:Int)<(N:Int):=by have:=HNN.out;omega
    have hn2:(0:Int)<=(N1:Int):=by omega
    have hn3:IntKind.i64.wrap (N1:Int)=(N1:Int):=by have:=HNN.out;have:=HNB.out;rw [IntKind.wrap_i64];omega
    have hn4:(M:Int)<(N:Int):=by have:=HNN.out;omega
    have hn5:(0:Int)<=(M:Int):=by omega
    have hn6:IntKind.i64.wrap (M:Int)=(M:Int):=by have:=HNN.out;have:=HNB.out;rw [IntKind.wrap_i64];omega
    obtain rfl:M=K:=by have:=HK.out;have:=HNN.out;omega
    have r1:=HKR.out.cell 1;have f1:=HKR.out.frozen 1;simp at r1;have hcr:Chg (· =gr) wr (wr.setCell ⟨gr,1,none⟩ (str r.bound)):=Chg.setCell (S:=(· =gr)) (Chg.refl wr) (p:=⟨gr,1,none⟩) rfl _
    have hDr:∀ x,x=gr->yn wr x:=fun x e=>by
     subst e;refine HKR.out.noDig (ZC ?_);intro u hu;simp at hu
     rcases hu with rfl | rfl
     . exact xG HO.out
     . exact vY _
    have HOX:=ze (HO.out.chg hcr (fun c hc e=>by
     subst e;obtain ⟨cs,q⟩:=HO.out.heap hc
     exact xM HKR.out q (by decide) rfl))
    have HBX:=ze (HB.out.chg hcr (fun e=>by have:=HWS.out;have:=HBLT.out;omega) hDr);have HKWX:=ze (hcr.blk HKW.out (by have:=HGRL.out;omega));have HKRX:=ze (HKR.out.set_ 1 (str r.bound));have HCX:Hid (Chg (· =b) w (wr.setCell ⟨gr,1,none⟩ (str r.bound))):=HC.out.trans hcr (fun x hx e=>by have:=HWS.out;omega);clear hcr hDr HO HB HKW HKR HC
    go_upto_region 13 with fail
    clear p4 r1 f1 wL;generalize wr.setCell ⟨gr,1,none⟩ (str r.bound)=W3 at HOX HBX HKWX HKRX HCX |-;have r1:=HKRX.out.cell 1;simp at r1;go_wp2_with fail;refine (HRD.out _ HBX.out _ HOK.out.tinyb).mono ?_;rintro e w4 ⟨v,ok,rfl,⟨x1,A1,k1,c1,s1,y1,B1,k1x,c1x,t1,rfl⟩,hokk,hq,hB1,hc1⟩;rw [HBN.out] at hokk;subst hokk;have hkw:=HBX.out.keepBlk hc1 HKWX.out;have hkr:=HBX.out.keepBlk hc1 HKRX.out;have hbl:=HBLT.out;have ho:=HOX.out.chg hc1 (fun c hc e=>by have:=(HOX.out.1.lt c hc).1;omega);replace HCX:=ze (yq HCX.out hc1);have hx:=zf w4 (.cells #[.int .i64 x1,.slice A1 k1 c1,.bool s1,.int .i64 y1,.slice B1 k1x c1x,.bool t1] 93);replace HKWX:=ze (hkw.below hx hkw.lt);replace HKRX:=ze (hkr.below hx hkr.lt);replace HOX:=ze (ho.below hx);replace HBX:=ze (hB1.below hx);replace HCX:=ze (zX HCX.out hx);clear hx hB1 hc1 hkw hkr ho hq hbl r1
    go_upto_region 16 with fail
    generalize w4.alloc (.cells #[.int .i64 x1,.slice A1 k1 c1,.bool s1,.int .i64 y1,.slice B1 k1x c1x,.bool t1] 93)=W5 at HKWX HKRX HOX HBX HCX |-;have wL:=HKWX.out.lt
    have p5:W5.cell? ⟨gw,M,none⟩=some (str [60,61]):=by
     rw [HKWX.out.cell,HNN.out.2.1]
     simp [HSG.out]
    have r0:=HKRX.out.cell 0;have r1:=HKRX.out.cell 1;simp at r0 r1;have hte:=zk3 (l:=r.terms) (by rw [<- HN.out];exact HOX.out) (by have:=HN.out;have:=HNB.out;omega) HOK.out.tiny;have HTE:=ze hte;have HTY:=ze (zr9 HOX.out);obtain ⟨tA,tc,etv,_⟩:=id hte;subst etv;clear hte;go_wp2_with fail;go_ret2;have hx:=zf W5 (.cells #[.slice tA r.terms.length tc,str r.bound] 49);exact ⟨W5.heap.size,tA,tc,_,rfl,Blk.new _ _ _,rfl,(zk.below HTE.out hx).more (by simp),HTY.out.below hx,HBX.out.below hx,zX HCX.out hx⟩
end Go.Proofs.YtkmcmmcencdcpaaGreatDoor
