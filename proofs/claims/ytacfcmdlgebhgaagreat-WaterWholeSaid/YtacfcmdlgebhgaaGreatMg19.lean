/- Parts of the proof: memory, numbers, walks of the functions that are called. -/
import Derived.Deep.LoopGhost
import Derived.Test.YtacfcmdlgebhgaaGreatMg18
set_option linter.unusedVariables false
set_option linter.unusedSimpArgs false
set_option maxRecDepth 100000
set_option maxHeartbeats 32000000
namespace Go.Proofs.YtacfcmdlgebhgaaGreat
open Go.RowKit Go.Deep
attribute [local go_sem ↓] Go.wp_at_zero Go.wp_at_succ
theorem zm5:(Tryz.prog.info? 4).map (fun i=>(i.zero,i.size,i.bytes))=some (some (.bool false),1,1):=by kernel_rfl
theorem Tryz.underlying53:Tryz.prog.underlying 53=some (.slice 4):=by kernel_rfl
def xU (l:List Bool):List Value:=l.map Value.bool
theorem YU (l:List Bool):(xU l).length=l.length:=by simp [xU]
theorem zho (l:List Bool):∀ u∈xU l,u.oneCell' =true:=by
 intro u hu
 obtain ⟨b,_,rfl⟩:=List.mem_map.1 hu
 rfl
def vK (w:World) (g:Nat) (l:List Bool) (rest:List Value):Prop:=Blk w g 4 (xU l ++ rest).toArray
section
variable {w w' :World} {g:Nat} {l:List Bool} {rest:List Value}
theorem vK.cell (h:vK w g l rest) {k:Nat} (hk:k<l.length):w.cell? ⟨g,k,none⟩=some (.bool l[k]):=by
 unfold vK at h
 rw [h.cell k,List.getElem?_toArray,List.getElem?_append_left (by rw [YU];exact hk)]
 simp [xU,hk]
theorem vK.set_ (h:vK w g l rest) {k:Nat} (hk:k<l.length) (b:Bool):vK (w.setCell ⟨g,k,none⟩ (.bool b)) g (l.set k b) rest:=by
 unfold vK at h |-
 have:=h.set_ k (.bool b)
 rw [List.setIfInBounds_toArray,List.set_append_left _ _ (by rw [YU];exact hk)] at this
 rw [show xU (l.set k b)=(xU l).set k (.bool b) by simp [xU,List.map_set]]
 exact this
theorem vK.lt (h:vK w g l rest):g<w.heap.size:=Blk.lt h
theorem vK.frozen (h:vK w g l rest) (k:Nat):w.frozen? ⟨g,k,none⟩=false:=Blk.frozen h k
theorem vK.below (h:vK w g l rest) (hb:Below w.heap.size w w'):vK w' g l rest:=Blk.below h hb h.lt
theorem vK.reads (h:vK w g l rest):zK w w.heap.size 1 (some ⟨g,0,none⟩) l.length (xU l):=by
 unfold vK at h
 have:=h.reads (n:=l.length) (by simp [xU])
 simpa [YU,List.take_append_of_le_length,List.take_of_length_le] using this
end
theorem zqt {w:World} {base n:Nat} {v:Value} {l:List Bool} (h:w.ownsRow base 4 1 v n (xU l)) (hn:0<n):
 ∃ g c rest,v= .slice (some ⟨g,0,none⟩) n c/\base<=g/\l.length=n/\vK w g l rest/\n<=c/\c<=maxLen:=by
 have hl:l.length=n:=by have:=h.1;rw [YU] at this;omega
 rcases h.2 with ⟨_,h0⟩ | ⟨g,cap,cur,hv,hb,hg,hnc,hcm,hcs,ht⟩
 . omega
 . refine ⟨g,cap,cur.toList.drop n,hv,hb,hl,?_,hnc,hcm⟩
   unfold vK Blk;rw [hg]
   congr 2
   rw [<- ht,Nat.mul_one,List.take_append_drop]
def Zy (w:World) (v:Value) (l:List Bool):Prop:=∃ A c,v= .slice A l.length c/\l.length<=c/\c<=maxLen/\zK w w.heap.size 1 A l.length (xU l)
theorem Zy.below {w w' :World} {v:Value} {l:List Bool} (h:Zy w v l) (hb:Below w.heap.size w w'):Zy w' v l:=by
 obtain ⟨A,c,h1,h2,h3,h4⟩:=h
 exact ⟨A,c,h1,h2,h3,(h4.below hb).more hb.size⟩
def zm9 (n:Net) (S:Nat->Prop) (w:World) (e:Ending) (w' :World):Prop:=∃ v l,e= .returned v/\Zy w' v l/\zde n S l/\Below w.heap.size w w'
def zzo (n:Net) (S:Nat->Prop) (g:Nat) (rest:List Value) (w:World) (cs:Array Value) (gk:Nat) (av:Value) (wr:World):Prop:=
 ∃ (again:Bool) (l:List Bool),av= .bool again/\gk=2*YE l+(if again=true then 1 else 0)/\Hid (YG n S l)/\Hid (again=false->∀ i,i<n.pipes.length->l[n.pf i]?=l[n.pt i]?)/\
  Hid (vK wr g l rest)/\Hid (Blk wr w.heap.size 26 cs)/\Hid (Below w.heap.size w wr)
def zzt (n:Net) (S:Nat->Prop) (g:Nat) (rest:List Value) (w:World) (cs:Array Value) (l0:List Bool) (av iv:Value) (wr:World):Prop:=
 ∃ (again:Bool) (i:Nat) (l:List Bool),av= .bool again/\iv= .int .i64 i/\i<=n.pipes.length/\Hid (YG n S l)/\Hid (again=false->YE l=YE l0/\∀ m,m<i->l[n.pf m]?=l[n.pt m]?)/\Hid (again=true->YE l<YE l0)/\
  Hid (vK wr g l rest)/\Hid (Blk wr w.heap.size 26 cs)/\Hid (Below w.heap.size w wr)
theorem zcl (vn vin:Value) (n:Net) (l:List Bool) (w:World) (hn:Zw w vn n) (hl:Zy w vin l) (he:n.Ends) (hlen:l.length=n.nodes.length) (h0:0<l.length) (h1000:l.length<=1000):
 Calls Tryz.prog 29 #[vn,vin] w (zm9 n (fun k=>l[k]?=some true) w):=by
 obtain ⟨A0,k0,c0,A1,k1,c1,A2,k2,c2,A3,k3,c3,rfl,hn0,hn1,hn2,hn3⟩:=hn
 obtain ⟨A,c,rfl,hc1,hc2,hr⟩:=hl
 have hk1:k1=n.pipes.length:=by obtain ⟨A',c',e,_⟩:=hn1;injection e
 have hk1000:k1<=1000:=by obtain ⟨A',c',e,_,_,h6,_⟩:=hn1;omega
 have HW0:=ze (zg w (.cells #[.slice A0 k0 c0,.slice A1 k1 c1,.slice A2 k2 c2,.slice A3 k3 c3] 26))
 have HK0:=ze (Blk.new w 26 #[.slice A0 k0 c0,.slice A1 k1 c1,.slice A2 k2 c2,.slice A3 k3 c3])
 have HP0:=ze hn1
 have hra:=hr.below HW0.out
 obtain ⟨i0,hi0,hz0,hz1,hz2⟩:=info_parts zm5
 have h1c:=zho l
 have HEN:=ze he
 have HMS:=ze (YG.start hlen)
 have HK1:=ze hk1
 have HLEN:=ze hlen
 clear hn0 hn1 hn2 hn3 he hlen hk1 hr
 go_enter Tryz.func29,Tryz.ntmps29
 go_wp2_with (at_builtin;refine zO _ rfl (.const (.slice none 0 0)) (.tmp 9) _ rfl (w.heap.size+1) 4 i0 _ 1 1 Tryz.underlying53 hi0 hz0 hz1 hz2 rfl (by omega) _ 0 [] rfl (World.ownsRow_nil _ _ _ _) _ A l.length c _ rfl hra h1c ?o2 ?o3 ?o4 ?_)
 case o2=>unfold maxLen;omega
 case o3=>omega
 case o4=>simp
 intro v3 w3 hown3 hgr3 hat3
 try rw [Nat.zero_add,List.nil_append] at hown3
 have hb3:Below (w.alloc (.cells #[.slice A0 k0 c0,.slice A1 k1 c1,.slice A2 k2 c2,.slice A3 k3 c3] 26)).heap.size (w.alloc (.cells #[.slice A0 k0 c0,.slice A1 k1 c1,.slice A2 k2 c2,.slice A3 k3 c3] 26)) w3:=(zP _).grown hgr3 (Nat.le_refl _) (by intro k hk;simp [Value.ownBlock] at hk)
 have HK:=ze (HK0.out.below hb3 HK0.out.lt)
 have HW:=ze (ext HW0.out hb3)
 obtain ⟨g,cg,rest,rfl,hg,hlz,hI,hcg1,hcg2⟩:=zqt hown3 h0
 have HI:=ze hI
 have HCG:=ze (And.intro hcg1 hcg2)
 clear hgr3 hat3 hown3 hb3 HK0 HW0 hra h1c hz0 hz1 hz2 hi0 hI hlz hcg1 hcg2 hc1 hc2
 go_wp2_with fail
 go_loopg [6] (2*YE l+1) (zzo n (fun k=>l[k]?=some true) g rest w #[.slice A0 k0 c0,.slice A1 k1 c1,.slice A2 k2 c2,.slice A3 k3 c3])
 case atStart=>exact ⟨true,l,rfl,by simp,HMS,fun h=>(by cases h),HI,HK,HW⟩
 case round=>
  clear HI HK HW HMS
  obtain ⟨again,l',rfl,hgk,HM,HC,HI,HK,HW⟩:=hrel
  have HGK:=ze hgk
  clear hgk
  cases again with
  | false=>
    have HF:=ze (HM.out.done (HC.out rfl));have HLL:=ze (show l'.length=l.length by rw [HF.out.len, <- HLEN.out]);clear HM HC;go_wp2_with fail;go_ret;exact ⟨.slice (some ⟨g,0,none⟩) l.length cg,l',rfl,⟨some ⟨g,0,none⟩,cg,by rw [HLL.out],by rw [HLL.out];exact HCG.out.1,HCG.out.2,by have:=HI.out.reads;exact this⟩,HF.out,HW.out⟩
  | true=>
    go_wp2_with fail
    go_loopw [6,7] (zzt n (fun k=>l[k]?=some true) g rest w #[.slice A0 k0 c0,.slice A1 k1 c1,.slice A2 k2 c2,.slice A3 k3 c3] l') (fun av iv _=>n.pipes.length - (intOf iv).toNat)
    case atStart=>exact ⟨false,0,l',rfl,rfl,Nat.zero_le _,HM,fun _=>⟨rfl,fun m hm=>by omega⟩,fun h=>(by cases h),HI,HK,HW⟩
    case round=>
     clear HI HK HW HM HC;obtain ⟨again,i,l1,rfl,rfl,hi,HM,HC,HC2,HI,HK,HW⟩:=hrel;obtain ⟨r0,r1,r2,r3,rL⟩:=yG HK.out
     by_cases hlt:i<n.pipes.length
     rotate_left
     . obtain rfl:i=n.pipes.length:=by omega
       have hk:(k1:Int)=(n.pipes.length:Int):=by have:=HK1.out;omega
       go_wp2_with fail;clear hk1000 hk
       try clear r0 r1 r2 r3 rL
       go_roundg (2*YE l1+(if again=true then 1 else 0))
       case measure=>
        have h0:=HGK.out;have h1:=HC.out;have h2:=HC2.out;simp at h0
        cases again
        . have:=(h1 rfl).1;simp;omega
        have:=h2 rfl;simp;omega
       case rel=>exact ⟨again,l1,rfl,rfl,HM,fun h=>(HC.out h).2,HI,HK,HW⟩
     obtain ⟨ad,e1,hb,p0,p1,p2,p3,p4⟩:=(HP0.out.below HW.out).at_ hlt
     subst e1;obtain ⟨q1,q2,q3,q4⟩:=HEN.out i hlt;rw [q1] at p1;rw [q3] at p2;have hll:l1.length=n.nodes.length:=HM.out.len;have hla:n.pf i<l1.length:=by omega
     have hlb:n.pt i<l1.length:=by omega
     have hlg:(l1.length:Int)=(l.length:Int):=by rw [hll,HLEN.out]
     have hla2:(n.pf i:Int)<(l.length:Int):=by omega
     have hlb2:(n.pt i:Int)<(l.length:Int):=by omega
     have HLG:=ze hlg;have ba:=HI.out.cell hla;have bb:=HI.out.cell hlb;have fa:=HI.out.frozen (n.pf i);have fb:=HI.out.frozen (n.pt i);have lg:=HI.out.lt;have hi1:i<k1:=by have:=HK1.out;omega
     clear q1 q2 q3 q4 hlg hll;go_wp2_with fail;have hx:=zg wr (.cells #[str n.pipes[i].name,.int .i64 (n.pf i:Int),.int .i64 (n.pt i:Int),str n.pipes[i].low,str n.pipes[i].high] 41);have hbp:=Blk.new wr 41 #[str n.pipes[i].name,.int .i64 (n.pf i:Int),.int .i64 (n.pt i:Int),str n.pipes[i].low,str n.pipes[i].high];have hgq:g≠wr.heap.size:=by omega
     have ba:=(hx.cell (p:=⟨g,n.pf i,none⟩) lg).trans ba;have bb:=(hx.cell (p:=⟨g,n.pt i,none⟩) lg).trans bb;clear fa fb
     try clear r0 r1 r2 r3 rL
     replace HK:=kb_ HK hx;replace HW:=eb_ HW hx;replace HI:=ze (HI.out.below hx);generalize wr.alloc (.cells #[str n.pipes[i].name,.int .i64 (n.pf i:Int),.int .i64 (n.pt i:Int),str n.pipes[i].low,str n.pipes[i].high] 41)=WP at hbp ba bb HK HW HI |-;generalize wr.heap.size=q at hbp hgq lg |-;have c1:=hbp.cell 1;have c2:=hbp.cell 2;have lq:=hbp.lt;simp at c1 c2;clear hbp hx;have fa:=HI.out.frozen (n.pf i);have fb:=HI.out.frozen (n.pt i);clear lg;have lg:=HI.out.lt
     by_cases hne:l1[n.pf i]=l1[n.pt i]
     . have hI:(!l1[n.pf i] == l1[n.pt i])=false:=by rw [hne];simp
       have HNE:=ze (show l1[n.pf i]?=l1[n.pt i]? by rw [List.getElem?_eq_getElem hla,List.getElem?_eq_getElem hlb,hne]);clear hne;generalize l1[n.pf i]=x at ba hI;generalize l1[n.pt i]=y at bb hI
       go_quiet (fail)
       go_wp2_with fail;go_round
       case rel=>
        refine ⟨again,i+1,l1,rfl,by go_num,by omega,HM,?_,HC2,?_,?_,?_⟩
        . intro h
          refine ⟨(HC.out h).1,fun m hm=>?_⟩
          rcases Nat.lt_or_ge m i with h3 | h3
          . exact (HC.out h).2 m h3
          . obtain rfl:m=i:=by omega
            exact HNE.out
        . exact HI.out.below (zw _ _)
        . exact HK.out.below (zw _ _) HK.out.lt
        . exact ext HW.out (zw _ _)
       case measure=>simp [intOf];omega
     have hI:(!l1[n.pf i] == l1[n.pt i])=true:=by simpa using hne
     have HB:=ze (HM.out.both hlt hla hlb hne);have HFB:=ze (zeo hla hlb hne);have hab:¬ n.pf i=n.pt i:=fun e=>hne (by simp only [e])
     have hba:¬ n.pt i=n.pf i:=fun e=>hab e.symm
     clear hne;generalize l1[n.pf i]=x at ba hI;generalize l1[n.pt i]=y at bb hI
     go_quiet (fail)
     go_wp2_with fail;go_round
     case rel=>
      have hng:w.heap.size≠g:=by omega
      have hI1:=HI.out.below (zw WP nq);have hI2:=hI1.set_ hla true;have hI3:=hI2.set_ (k:=n.pt i) (by rw [List.length_set];exact hlb) true;have hW1:=ext HW.out (zw WP nq);have hW2:=hW1.setCell (p:=⟨g,n.pf i,none⟩) (by simp only;omega) (.bool true);have hW3:=hW2.setCell (p:=⟨g,n.pt i,none⟩) (by simp only;omega) (.bool true);refine ⟨true,i+1,both l1 (n.pf i) (n.pt i),rfl,by go_num,by omega,HB,fun h=>(by cases h),?_,?_,?_,hW3⟩
      . intro _
        have h1:=HFB.out;have h2:=HC.out;have h3:=HC2.out
        cases again
        . have:=(h2 rfl).1;omega
        have:=h3 rfl;omega
      . exact hI3
      . exact ((HK.out.below (zw WP nq) HK.out.lt).far hng _).far hng _
     case measure=>simp [intOf];omega
theorem yY.at_ {w:World} {A:Option Addr} {n c:Nat} {l:List (List UInt8)} (h:yY w (.slice A n c) l) {k:Nat} (hk:k<l.length):
 ∃ ad,A=some ad/\ad.block<w.heap.size/\w.cell? (ad.add k)=some (str l[k]):=by
 obtain ⟨A',c',e,h2,h3,_,h4,h5⟩:=h
 injection e with e1 e2 e3
 subst e1 e2 e3
 obtain ⟨ad,rfl,hb,hc⟩:=h4.2 (by omega)
 exact ⟨ad,rfl,hb,hc k _ (by simp [hk])⟩
theorem zd6 (n:Net) {k:Nat} (hk:k<n.nodes.length):n.nodeErr k=if vr n.nodes[k]=false then 5 else if n.nodes[k]∈n.nodes.take k then 6 else 0:=by
 unfold Net.nodeErr
 have e:n.nodes.getD k []=n.nodes[k]:=by simp [List.getD,List.getElem?_eq_getElem hk]
 rw [e]
theorem zcv {l:List (List UInt8)} {z:List UInt8} {k:Nat} (hk:k<=l.length):z∈l.take k↔∃ j,∃ h:j<l.length,j<k/\l[j]=z:=by
 constructor
 . intro hx
   obtain ⟨j,hj,rfl⟩:=List.mem_iff_getElem.1 hx;rw [List.length_take] at hj;exact ⟨j,by omega,by omega,by rw [List.getElem_take]⟩
 rintro ⟨j,h,hj,rfl⟩
 rw [List.mem_iff_getElem];exact ⟨j,by rw [List.length_take];omega,by rw [List.getElem_take]⟩
def zya (N:Nat) (D:Nat->Prop) (w:World) (cs:Array Value) (iv:Value) (wr:World):Prop:=
 ∃ i:Nat,i<=N/\iv= .int .i64 i/\Hid (D i)/\Hid (Blk wr w.heap.size 26 cs)/\Hid (Below w.heap.size w wr)
theorem zmw (n:Net) {k:Nat} (hk:k<n.wells.length):n.wellErr k=if n.levelErr n.wells k≠0 then n.levelErr n.wells k else if (n.heads.find? (fun v=>v.node == n.wells[k].node)).isSome=true then 10 else 0:=by
 unfold Net.wellErr
 have e:n.wells.getD k default=n.wells[k]:=by simp [List.getD,List.getElem?_eq_getElem hk]
 rw [e]
 simp only [Net.find_isSome]
theorem yk.take {w:World} {A:Option Addr} {m c:Nat} {l:List yU} (h:yk w (.slice A m c) l) {k:Nat} (hk:k<=l.length):yk w (.slice A k c) (l.take k):=by
 obtain ⟨A',c',e,h2,h3,h6,h4,h5⟩:=h
 injection e with e1 e2 e3
 subst e1 e2 e3
 have hl:(l.take k).length=k:=by rw [List.length_take];omega
 refine ⟨A,c,by rw [hl],by omega,h3,by omega,?_,fun x hx=>h5 x (List.mem_of_mem_take hx)⟩
 have h7:=h4.head (k:=k) hk
 rw [hl]
 have e:(yF l).take (k*2)=yF (l.take k):=by
  clear h7 h4 h5 h6 h2 h3 hl
  induction l generalizing k with
  | nil=>simp [yF]
  | cons v l ih=>
    cases k with
    | zero=>simp [yF]
    | succ k=>
      have:=ih (k:=k) (by simpa using hk);have e2:(k+1)*2=k*2+2:=by omega
      rw [e2]
      simpa [yF,Zt] using this
 rw [e] at h7
 exact h7
theorem za7 (k:IntKind) (n:Nat) (hn:n<=1073741824) (w:World):
 (Instr.makeSlice 53 (.int k (n:Int)) (.int k (n:Int))).run Tryz.prog w= .ok (.slice (some ⟨w.heap.size,0,none⟩) n n) (w.alloc (.cells (xU (List.replicate n false)).toArray 4)):=by
 rw [run_make_row' 53 4 (.bool false) 1 Tryz.underlying53 zm5 rfl k k n (by omega) (by omega) w]
 congr 3
 apply Array.ext'
 rw [toList_madeCells_one]
 simp [xU]
def zs9 (n:Net) (i:Nat):Prop:=∀ j,j<i->n.nodeErr j=0
def zh9 (n:Net) (i:Nat):Prop:=∀ j,j<i->n.pipeErr j=0
def zhk (n:Net) (i:Nat):Prop:=∀ j,j<i->n.wellErr j=0
def zvc (n:Net) (i:Nat) (j:Nat):Prop:=∀ m (h:m<n.nodes.length) (hi:i<n.nodes.length),m<j->n.nodes[m]≠n.nodes[i]
def zzx (l:List yU) (N g:Nat) (w:World) (cs:Array Value) (iv:Value) (wr:World):Prop:=
 ∃ i:Nat,i<=l.length/\iv= .int .i64 i/\Hid (vK wr g (yT l N i) [])/\Hid (Blk wr w.heap.size 26 cs)/\Hid (Below w.heap.size w wr)
theorem zdy (vn:Value) (n:Net) (w:World) (hn:Zw w vn n):
 Calls Tryz.prog 25 #[vn] w (vO w (.int .i64 n.err)):=by
 have HNET:=ze hn
 obtain ⟨A0,k0,c0,A1,k1,c1,A2,k2,c2,A3,k3,c3,rfl,hn0,hn1,hn2,hn3⟩:=hn
 have hk0:k0=n.nodes.length:=by obtain ⟨A',c',e,_⟩:=hn0;injection e
 have hk1:k1=n.pipes.length:=by obtain ⟨A',c',e,_⟩:=hn1;injection e
 have hk2:k2=n.heads.length:=by obtain ⟨A',c',e,_⟩:=hn2;injection e
 have hk3:k3=n.wells.length:=by obtain ⟨A',c',e,_⟩:=hn3;injection e
 have hb0:k0<=1000:=by obtain ⟨A',c',e,_,_,h6,_⟩:=hn0;omega
 have hb1:k1<=1000:=by obtain ⟨A',c',e,_,_,h6,_⟩:=hn1;omega
 have hb2:k2<=1000:=by obtain ⟨A',c',e,_,_,h6,_⟩:=hn2;omega
 have hb3:k3<=1000:=by obtain ⟨A',c',e,_,_,h6,_⟩:=hn3;omega
 have hcap:k3<=c3:=by obtain ⟨A',c',e,h,_⟩:=hn3;injection e;omega
 have HW:=ze (zg w (.cells #[.slice A0 k0 c0,.slice A1 k1 c1,.slice A2 k2 c2,.slice A3 k3 c3] 26))
 have HK:=ze (Blk.new w 26 #[.slice A0 k0 c0,.slice A1 k1 c1,.slice A2 k2 c2,.slice A3 k3 c3])
 have HN0:=ze hn0
 have HN1:=ze hn1
 have HN2:=ze hn2
 have HN3:=ze hn3
 have HK0:=ze hk0
 have HK1:=ze hk1
 have HK2:=ze hk2
 have HK3:=ze hk3
 clear hn0 hn1 hn2 hn3 hk0 hk1 hk2 hk3
 by_cases h24:24<k0
 . have HF:=ze (Net.err_many (n:=n) (by have:=HK0.out;omega))
   go_enter Tryz.func25,Tryz.ntmps25
   go_wp2_with fail;go_ret;exact ⟨zr HF.out,HW.out⟩
 by_cases h0:k0=0
 . have HF:=ze (Net.err_none (n:=n) (by have:=HK0.out;omega))
   subst h0
   go_enter Tryz.func25,Tryz.ntmps25
   go_wp2_with fail;go_ret;exact ⟨zr HF.out,HW.out⟩
 have HP1:Hid n.P1:=ze ⟨by have:=HK0.out;omega,by have:=HK0.out;omega⟩
 have hz0:((k0:Int) == 0)=false:=by rw [beq_eq_false_iff_ne];omega
 have h24' :(k0:Int)<=24:=by omega
 clear h24
 go_enter Tryz.func25,Tryz.ntmps25
 go_wp2_with fail
 go_loopw [3] (zya k0 (zs9 n) w #[.slice A0 k0 c0,.slice A1 k1 c1,.slice A2 k2 c2,.slice A3 k3 c3]) (fun iv _=>k0 - (intOf iv).toNat)
 case atStart=>exact ⟨0,Nat.zero_le _,rfl,fun j h=>by omega,HK,HW⟩
 case round=>
  clear HK HW
  obtain ⟨i,hi,rfl,HD,HK,HW⟩:=hrel
  obtain ⟨r0,r1,r2,r3,rL⟩:=yG HK.out
  by_cases hlt:i<k0
  . have hin:i<n.nodes.length:=by have:=HK0.out;omega
    obtain ⟨ad,e1,hb,p0⟩:=(HN0.out.below HW.out).at_ hin;subst e1
    have hsm:zV n.nodes[i]:=by
     obtain ⟨A',c',_,_,_,_,_,h⟩:=HN0.out;exact h _ (List.getElem_mem hin)
    have hnm:=fun w=>zn0 ⟨n.nodes[i].toArray⟩ w (by rw [<- zm,yy];exact hsm)
    rw [yy] at hnm;have HE:=ze (zd6 n hin)
    cases hb:vr n.nodes[i] with
    | false=>
      have HF:=ze (Net.err_node HP1.out hin HD.out (HE.out.trans (if_pos hb)) (by decide));rw [hb] at hnm;clear hb hsm hz0;go_wp2_with fail;refine (hnm _).mono ?_;rintro e w1 ⟨rfl,rfl⟩;go_wp2_with fail;go_ret;exact ⟨zr HF.out,HW.out⟩
    | true=>
      have HE2:=ze (HE.out.trans (if_neg (by rw [hb];decide)));rw [hb] at hnm;clear hb hsm HE;go_wp2_with fail;refine (hnm _).mono ?_;rintro e w1 ⟨rfl,rfl⟩;clear hnm p0;go_wp2_with fail
      try clear r0 r1 r2 r3 rL
      go_loopw [4] (zya i (zvc n i) w #[.slice (some ad) k0 c0,.slice A1 k1 c1,.slice A2 k2 c2,.slice A3 k3 c3]) (fun iv _=>i - (intOf iv).toNat)
      case atStart=>exact ⟨0,Nat.zero_le _,rfl,fun m _ _ h=>by omega,HK,HW⟩
      case round=>
       clear HK HW;obtain ⟨j,hj,rfl,HJ,HK,HW⟩:=hrel;obtain ⟨r0,r1,r2,r3,rL⟩:=yG HK.out
       by_cases hji:j<i
       . have hjn:j<n.nodes.length:=by have:=HK0.out;omega
         obtain ⟨ad1,e1,hb,p0⟩:=(HN0.out.below HW.out).at_ hin;injection e1 with e1
         subst e1;obtain ⟨ad1,e1,hb,p1⟩:=(HN0.out.below HW.out).at_ hjn;injection e1 with e1
         subst e1;have hjk:j<k0:=by omega
         by_cases hz:n.nodes[j]=n.nodes[i]
         . have hI:(n.nodes[j] == n.nodes[i])=true:=by rw [beq_iff_eq];exact hz
           have HF:=ze (Net.err_node HP1.out hin HD.out (HE2.out.trans (if_pos ((zcv (by omega)).2 ⟨j,hjn,hji,hz⟩))) (by decide));clear hz;go_wp2_with fail
           go_quiet (fail)
           go_wp2_with fail;go_ret;exact ⟨zr HF.out,zo HW.out _⟩
         . have hI:(n.nodes[j] == n.nodes[i])=false:=by rw [beq_eq_false_iff_ne];exact hz
           have HZ:=ze hz;clear hz;go_wp2_with fail
           go_quiet (fail)
           go_wp2_with fail;go_round
           case rel=>
            refine ⟨j+1,by omega,by go_num,?_,HK.out.below (zw _ _) HK.out.lt,zo HW.out _⟩;intro m hm hi2 hlt2
            rcases Nat.lt_or_ge m j with h3 | h3
            . exact HJ.out m hm hi2 h3
            . obtain rfl:m=j:=by omega
              exact HZ.out
           case measure=>simp [intOf];omega
       . obtain rfl:j=i:=by omega
         have HNE:=ze (HE2.out.trans (if_neg (by
          intro hm;obtain ⟨m,hm,hmj,hz⟩:=(zcv (by omega)).1 hm
          exact HJ.out m hm hin hmj hz)))
         clear HE2;go_wp2_with fail;go_round
         case rel=>
          refine ⟨j+1,by omega,by go_num,?_,HK,HW⟩;intro m hm
          rcases Nat.lt_or_ge m j with h3 | h3
          . exact HD.out m h3
          . obtain rfl:m=j:=by omega
            exact HNE.out
         case measure=>simp [intOf];omega
  . obtain rfl:k0=i:=by omega
    have HP2:=ze (HP1.out.next (by have h:=HD.out;rw [HK0.out] at h;exact h));clear HD HP1 hlt
    by_cases h48:48<k1
    . have HF:=ze (Net.err_pipes HP2.out (by have:=HK1.out;omega))
      go_wp2_with fail;go_ret;exact ⟨zr HF.out,HW.out⟩
    have h48' :(k1:Int)<=48:=by omega
    have H48:=ze (show ¬ 48<n.pipes.length by have:=HK1.out;omega);clear h48 hi;go_wp2_with fail;clear r0 r1 r2 r3 rL
    go_loopw [5] (zya k1 (zh9 n) w #[.slice A0 k0 c0,.slice A1 k1 c1,.slice A2 k2 c2,.slice A3 k3 c3]) (fun iv _=>k1 - (intOf iv).toNat)
    case atStart=>exact ⟨0,Nat.zero_le _,rfl,fun j h=>by omega,HK,HW⟩
    case round=>
     clear HK HW;obtain ⟨i,hi,rfl,HD,HK,HW⟩:=hrel;obtain ⟨r0,r1,r2,r3,rL⟩:=yG HK.out
     by_cases hlt:i<k1
     . have hin:i<n.pipes.length:=by have:=HK1.out;omega
       have hp:=fun w' (h:Below w.heap.size w w')=>zvn _ n i w' (HNET.out.below h) hin
       obtain ⟨ev,HEV⟩:∃ ev,Hid (n.pipeErr i=ev):=⟨_,ze rfl⟩;rw [HEV.out] at hp
       by_cases h0:ev=0
       . have HNX:Hid (zh9 n (i+1)):=by
          intro m hm
          rcases Nat.lt_or_ge m i with h3 | h3
          . exact HD.out m h3
          . obtain rfl:m=i:=by omega
            exact HEV.out.trans h0
         subst h0;go_wp2_with fail;refine (hp _ HW.out).mono ?_;rintro e WN ⟨rfl,hbB⟩
         try clear r0 r1 r2 r3 rL
         replace HK:=kb_ HK hbB;replace HW:=eb_ HW hbB;clear hbB;obtain ⟨r0,r1,r2,r3,rL⟩:=yG HK.out;clear hp;go_wp2_with fail;go_round
         case rel=>exact ⟨i+1,by omega,by go_num,HNX,HK,HW⟩
         case measure=>simp [intOf];omega
       . have hI:(ev != 0)=true:=by rw [bne_iff_ne];exact h0
         have HF:=ze (Net.err_pipe HP2.out H48.out hin HD.out HEV.out h0);clear h0;go_wp2_with fail;refine (hp _ HW.out).mono ?_;rintro e WN ⟨rfl,hbB⟩
         try clear r0 r1 r2 r3 rL
         replace HK:=kb_ HK hbB;replace HW:=eb_ HW hbB;clear hbB;obtain ⟨r0,r1,r2,r3,rL⟩:=yG HK.out;clear hp;go_wp2_with fail;go_ret;exact ⟨zr HF.out,HW.out⟩
     . obtain rfl:k1=i:=by omega
       have HP3:=ze (HP2.out.next H48.out (by have h:=HD.out;rw [HK1.out] at h;exact h));clear HD HP2 hlt;have hp:=fun w' (h:Below w.heap.size w w')=>zgp _ _ n n.heads w' (HNET.out.below h) (HN2.out.below h)
       obtain ⟨ev,HEV⟩:∃ ev,Hid (zW n.heads.length (n.levelErr n.heads)=ev):=⟨_,ze rfl⟩;rw [HEV.out] at hp
       by_cases h0:ev=0
       . have HP4:Hid n.P4:=ze ⟨HP3.out,HEV.out.trans h0⟩
         subst h0;go_wp2_with fail;refine (hp _ HW.out).mono ?_;rintro e WN ⟨rfl,hbB⟩
         try clear r0 r1 r2 r3 rL
         replace HK:=kb_ HK hbB;replace HW:=eb_ HW hbB;clear hbB;obtain ⟨r0,r1,r2,r3,rL⟩:=yG HK.out;clear hp;go_wp2_with fail;clear r0 r1 r2 r3 rL
         go_loopw [8] (zya k3 (zhk n) w #[.slice A0 k0 c0,.slice A1 k1 c1,.slice A2 k2 c2,.slice A3 k3 c3]) (fun iv _=>k3 - (intOf iv).toNat)
         case atStart=>exact ⟨0,Nat.zero_le _,rfl,fun j h=>by omega,HK,HW⟩
         case round=>
          clear HK HW;obtain ⟨i,hi,rfl,HD,HK,HW⟩:=hrel;obtain ⟨r0,r1,r2,r3,rL⟩:=yG HK.out
          by_cases hlt:i<k3
          . have hin:i<n.wells.length:=by have:=HK3.out;omega
            have hok:∀ j,j<i->n.levelErr n.wells j=0:=fun j hj=>(Net.wellErr_ok (HD.out j hj)).1
            have hp:=fun w' (h:Below w.heap.size w w')=>zgp _ _ n (n.wells.take (i+1)) w' (HNET.out.below h) ((HN3.out.below h).take (show i+1<=n.wells.length by omega))
            rw [Net.levels_take hin hok] at hp;have hs1:IntKind.i64.wrap ((i:Int)+1)=(i:Int)+1:=IntWalk.i64_in _ (by omega);have hs2:((i:Int)+1).toNat=i+1:=by omega
            have hs3:(0:Int)<=(i:Int)+1:=by omega
            have hs4:(i:Int)+1<=(k3:Int):=by omega
            have hs5:(i:Int)+1<=(c3:Int):=by omega
            clear hok;go_wp2_with fail
            (first | (go_region_held3 (fun w' =>Hid (Below wr.heap.size wr w')/\w'.cell? ⟨w.heap.size,0,none⟩=some (.slice A0 k0 c0)/\w'.cell? ⟨w.heap.size,1,none⟩=some (.slice A1 k1 c1)/\w'.cell? ⟨w.heap.size,2,none⟩=some (.slice A2 k2 c2)/\w'.cell? ⟨w.heap.size,3,none⟩=some (.slice A3 k3 c3)/\w.heap.size<w'.heap.size)
              (first
                | (with_reducible refine zx ?_ (fun hB=>⟨zk hB rL r0,zk hB rL r1,zk hB rL r2,zk hB rL r3,zdf hB rL⟩);with_reducible exact z8 _)
                | (go_split_ands;with_reducible refine zx ?_ (fun hB=>⟨zk hB rL r0,zk hB rL r1,zk hB rL r2,zk hB rL r3,zdf hB rL⟩);first | with_reducible exact zu ‹_› ‹_› | with_reducible exact Zj ‹_› | with_reducible exact zL _ _))
              (first
                | (go_at_call 55;refine (hp _ (ext HW.out (z8 wr).out)).mono ?_;rintro e w1 ⟨rfl,hb1⟩))) | fail "region")
            go_split_ands;have HBZ:=zB (by assumption:Hid (Below wr.heap.size wr _));obtain ⟨w1,hWX,HBY⟩:=(⟨_,rfl,HBZ⟩:∃ X,X=_/\Below wr.heap.size wr X);rw [<- hWX];clear hWX HBZ
            try clear r0 r1 r2 r3 rL
            replace HK:=kb_ HK HBY;replace HW:=eb_ HW HBY;clear HBY;obtain ⟨r0,r1,r2,r3,rL⟩:=yG HK.out;clear hp hs1 hs2 hs3 hs4 hs5;obtain ⟨ev,HEV⟩:∃ ev,Hid (n.levelErr n.wells i=ev):=⟨_,ze rfl⟩;rw [HEV.out];have HWE:=ze (zmw n hin);rw [HEV.out] at HWE
            by_cases h0:ev=0
            . subst h0
              have HWE2:=ze (HWE.out.trans (if_neg (by decide)));have hrd:∀ v∈n.heads,(zp v.value).isSome=true:=Net.heads_read HP4.out;obtain ⟨ad3,e3,hb3,q0,q1⟩:=(HN3.out.below HW.out).at_ hin;subst e3;obtain ⟨sb,HSB⟩:∃ sb,Hid ((n.heads.find? (fun v=>v.node == n.wells[i].node)).isSome=sb):=⟨_,ze rfl⟩;rw [HSB.out] at HWE2;have HQ:=ze (And.intro hb3 q1);clear HWE q1;go_wp2_with fail
              (first | (go_region_held3 (fun w' =>Hid (Below w1.heap.size w1 w')/\w'.cell? ⟨w.heap.size,2,none⟩=some (.slice A2 k2 c2)/\w'.cell? ⟨w.heap.size,3,none⟩=some (.slice (some ad3) k3 c3)/\w'.cell? (ad3.add (i*2))=some (.int .i64 n.wells[i].node)/\w.heap.size<w'.heap.size/\ad3.block<w'.heap.size)
                (first
                  | (with_reducible refine zx ?_ (fun hB=>⟨zk hB rL r2,zk hB rL r3,zwa hB hb3 q0,zdf hB rL,zdf hB hb3⟩);with_reducible exact z8 _)
                  | (go_split_ands;with_reducible refine zx ?_ (fun hB=>⟨zk hB rL r2,zk hB rL r3,zwa hB hb3 q0,zdf hB rL,zdf hB hb3⟩);first | with_reducible exact zu ‹_› ‹_› | with_reducible exact Zj ‹_› | with_reducible exact zL _ _ | (with_reducible exact Zj (zu hb4 (z8 w1))) | (with_reducible exact zl8 (Nat.le_refl _) (zl8 (Nat.le_refl _) (zl8 (Nat.le_refl _) (zu hb4 (zL w1 _)))))))
                (first
                  | (go_at_call 56;(with_reducible refine (zar _ n.heads n.wells[i].node w1.drew (HN2.out.below (ext HW.out (z8 w1).out)) hrd).mono ?_);rintro e w4 ⟨v,rfl,hv,hb4⟩;rw [HSB.out];obtain ⟨ng,A,n',c,B,m,d,rfl,h0,h1,h2⟩:=hv;have hz4:=hb4.size;clear h0 h1 h2)
                  | (go_at_call 56;(with_reducible refine (zar _ n.heads n.wells[i].node (w1.alloc (.cells #[.bool false,.slice none 0 0,.slice none 0 0] 63)).drew (HN2.out.below (ext HW.out (zL w1 _).out)) hrd).mono ?_);rintro e w4 ⟨v,rfl,hv,hb4⟩;rw [HSB.out];obtain ⟨ng,A,n',c,B,m,d,rfl,h0,h1,h2⟩:=hv;have hz4:=hb4.size;have hN0:=(Blk.new w1 63 #[.bool false,.slice none 0 0,.slice none 0 0]).drew;have hNB:=hN0.below hb4 hN0.lt;have g0:=hNB.cell 0;have g1:=hNB.cell 1;have g2:=hNB.cell 2;have g3:=hNB.frozen 0;have g4:=hNB.frozen 1;have g5:=hNB.frozen 2;have g6:=hNB.lt;simp at g0 g1 g2;clear h0 h1 h2 hNB hN0))) | fail "region")
              all_goals
               go_split_ands;have HBZ:=zB (by assumption:Hid (Below w1.heap.size w1 _));obtain ⟨w5,hWX,HBY⟩:=(⟨_,rfl,HBZ⟩:∃ X,X=_/\Below w1.heap.size w1 X);rw [<- hWX];clear hWX HBZ
               try clear r0 r1 r2 r3 rL
               replace HK:=kb_ HK HBY;replace HW:=eb_ HW HBY;clear HBY;obtain ⟨r0,r1,r2,r3,rL⟩:=yG HK.out;clear hrd q0
               cases sb
               . have HNX:Hid (zhk n (i+1)):=by
                  intro m hm
                  rcases Nat.lt_or_ge m i with h3 | h3
                  . exact HD.out m h3
                  . obtain rfl:m=i:=by omega
                    exact HWE2.out
                 go_wp2_with fail;go_round
                 case rel=>exact ⟨i+1,by omega,by go_num,HNX,HK,HW⟩
                 case measure=>simp [intOf];omega
               . have HF:=ze (Net.err_well HP4.out hin HD.out (HWE2.out.trans (if_pos rfl)) (by decide))
                 go_wp2_with fail;go_ret;exact ⟨zr HF.out,HW.out⟩
            . have hI:(ev != 0)=true:=by rw [bne_iff_ne];exact h0
              have HF:=ze (Net.err_well HP4.out hin HD.out (HWE.out.trans (if_pos h0)) h0);clear h0 HWE;go_wp2_with fail;go_ret;exact ⟨zr HF.out,HW.out⟩
          . obtain rfl:k3=i:=by omega
            have HP5:=ze (HP4.out.next (by have h:=HD.out;rw [HK3.out] at h;exact h));clear HD HP4 hlt;have hmk:=fun w=>za7 .i64 k0 (by omega) w
            go_wp2_with fail;have hx:=zg wr (.cells (xU (List.replicate k0 false)).toArray 4)
            have hbm:vK (wr.alloc (.cells (xU (List.replicate k0 false)).toArray 4)) wr.heap.size (yT n.heads k0 0) []:=by
             rw [ze3];unfold vK;rw [List.append_nil];exact Blk.new _ _ _
            have hgw:w.heap.size<wr.heap.size:=rL;have HBM:=ze hbm;clear r0 r1 r2 r3 rL hmk hbm;replace HK:=kb_ HK hx;replace HW:=eb_ HW hx;clear hx;generalize wr.alloc (.cells (xU (List.replicate k0 false)).toArray 4)=WM at HK HW HBM |-;generalize wr.heap.size=g at HBM hgw |-
            go_loopw [13] (zzx n.heads k0 g w #[.slice A0 k0 c0,.slice A1 k1 c1,.slice A2 k2 c2,.slice A3 k3 c3]) (fun iv _=>k2 - (intOf iv).toNat)
            case atStart=>exact ⟨0,Nat.zero_le _,rfl,HBM,HK,HW⟩
            case round=>
             clear HK HW HBM;obtain ⟨i,hi,rfl,HBM,HK,HW⟩:=hrel;obtain ⟨r0,r1,r2,r3,rL⟩:=yG HK.out
             by_cases hlt:i<k2
             . have hin:i<n.heads.length:=by have:=HK2.out;omega
               obtain ⟨ad2,e2,hb2',q0,q1⟩:=(HN2.out.below HW.out).at_ hin;subst e2;obtain ⟨hz1,hz2,_⟩:=Net.level_ok (zN.1 HP5.out.1.2 i hin) hin;obtain ⟨a,HA⟩:∃ a:Nat,Hid (n.heads[i].node=(a:Int)):=⟨n.heads[i].node.toNat,ze (by omega)⟩;rw [HA.out] at q0 hz1 hz2;have ha:a<k0:=by have:=HK0.out;omega
               have hal:a<(yT n.heads k0 i).length:=by rw [xp];exact ha
               have c1:=HBM.out.cell hal;have f1:=HBM.out.frozen a;have l1:=HBM.out.lt;have HB2:=HBM.out.set_ hal true;rw [zfi hin HA.out] at HB2;have HB3:=ze HB2;generalize (yT n.heads k0 i)[a]=x at c1;clear q1 HB2 hal hz2;have hgn:w.heap.size≠g:=by omega
               go_wp2_with fail;go_round
               case rel=>exact ⟨i+1,by omega,by go_num,HB3,HK.out.far hgn _,HW.out.setCell (by simp only;omega) _⟩
               case measure=>simp [intOf];omega
             . obtain rfl:k2=i:=by have:=HK2.out;omega
               rw [HK2.out] at HBM;have HJ:=ze (fun w' (h:Below wr.heap.size wr w')=>zcl _ _ n (yT n.heads k0 n.heads.length) w' (HNET.out.below (ext HW.out h)) (Zy.below ⟨some ⟨g,0,none⟩,k0,by rw [xp],Nat.le_of_eq (xp _ _ _),by unfold maxLen;omega,HBM.out.reads⟩ h) HP5.out.1.1.ends (by rw [xp];exact HK0.out) (by rw [xp];omega) (by rw [xp];omega));go_wp2_with fail;refine (HJ.out _ (zP _)).mono ?_;rintro e WN ⟨v,l,rfl,hv,hm,hbB⟩
               try clear r0 r1 r2 r3 rL
               replace HK:=kb_ HK hbB;replace HW:=eb_ HW hbB;clear hbB;obtain ⟨r0,r1,r2,r3,rL⟩:=yG HK.out;have HALL:=ze (hm.all (T:=Net.on n.heads) (fun k=>by rw [zf4,HK0.out]) (Net.on_lt HP5.out.1));obtain ⟨A9,c9,rfl,hc1,hc2,hr⟩:=hv;have HR:=ze hr;have hl9:l.length<=9223372036854775807:=by unfold maxLen at hc2;omega
               clear hm hr hc2 HBM HJ r0 r1 r2 r3 rL;go_wp2_with fail
               go_loop [14] (fun iv=>∃ j:Nat,j<=l.length/\iv= .int .i64 j/\Hid (∀ m (h:m<l.length),m<j->l[m]=true)) (fun iv=>l.length - (intOf iv).toNat)
               case atStart=>exact ⟨0,Nat.zero_le _,rfl,fun m _ h=>by omega⟩
               case round=>
                obtain ⟨j,hj,rfl,HJ⟩:=hrel
                by_cases hlt2:j<l.length
                . obtain ⟨ad9,u,rfl,hb9,hx,hc⟩:=HR.out.at_ hlt2
                  rw [show (xU l)[j]?=some (.bool l[j]) by simp [xU,hlt2]] at hx;injection hx with hx
                  subst hx
                  cases hlj:l[j] with
                  | true=>
                    rw [hlj] at hc;have HLJ:=ze hlj;clear hlj;go_wp2_with fail;go_round
                    case rel=>
                     refine ⟨j+1,by omega,by go_num,?_⟩;intro m hm h3
                     rcases Nat.lt_or_ge m j with h4 | h4
                     . exact HJ.out m hm h4
                     . obtain rfl:m=j:=by omega
                       exact HLJ.out
                    case measure=>simp [intOf];omega
                  | false=>
                    rw [hlj] at hc
                    have HF:=ze ((Net.err_end HP5.out).1 (fun ha=>by
                     have:=HALL.out.2 ha j hlt2;rw [hlj] at this
                     cases this))
                    clear hlj;go_wp2_with fail;go_ret;exact ⟨zr HF.out,HW.out⟩
                . obtain rfl:j=l.length:=by omega
                  have HF:=ze ((Net.err_end HP5.out).2 (HALL.out.1 fun m hm=>HJ.out m hm hm));go_wp2_with fail;go_ret;exact ⟨zr HF.out,HW.out⟩
       . have hI:(ev != 0)=true:=by rw [bne_iff_ne];exact h0
         have HF:=ze (Net.err_heads HP3.out HEV.out h0);clear h0;go_wp2_with fail;refine (hp _ HW.out).mono ?_;rintro e WN ⟨rfl,hbB⟩
         try clear r0 r1 r2 r3 rL
         replace HK:=kb_ HK hbB;replace HW:=eb_ HW hbB;clear hbB;obtain ⟨r0,r1,r2,r3,rL⟩:=yG HK.out;clear hp;go_wp2_with fail;go_ret;exact ⟨zr HF.out,HW.out⟩
def yV (n:Nat) (p:Nat->Bool):Int:=match (List.range n).find? p with
 | some k=>k
 | none=> -1
theorem Zh {n k:Nat} {p:Nat->Bool} (hk:k<n) (h:p k=true) (h0:∀ j,j<k->p j=false):yV n p=k:=by
 have:(List.range n).find? p=some k:=by
  rw [List.find?_eq_some_iff_getElem]
  refine ⟨h,k,by simpa using hk,by simp,?_⟩
  intro j hj
  simp [h0 j hj]
 unfold yV
 rw [this]
theorem xH {n:Nat} {p:Nat->Bool} (h0:∀ j,j<n->p j=false):yV n p= -1:=by
 have:(List.range n).find? p=none:=by
  rw [List.find?_eq_none]
  intro j hj
  rw [h0 j (by simpa using hj)];decide
 unfold yV
 rw [this]
theorem VT (n:Nat) (p:Nat->Bool):(∃ k,k<n/\p k=true/\(∀ j,j<k->p j=false)/\yV n p=k)\/((∀ j,j<n->p j=false)/\yV n p= -1):=by
 by_cases h:∃ k,k<n/\p k=true
 rotate_left
 . have h0:∀ j,j<n->p j=false:=fun j hj=>by
    cases e:p j
    . rfl
    exact absurd ⟨j,hj,e⟩ h
   exact .inr ⟨h0,xH h0⟩
 obtain ⟨k,hk,hp⟩:=h
 induction k using Nat.strongRecOn with
 | _ k ih=>
   by_cases hm:∃ m,m<k/\p m=true
   . obtain ⟨m,hm,hpm⟩:=hm
     exact ih m hm (by omega) hpm
   have h0:∀ j,j<k->p j=false:=fun j hj=>by
    cases e:p j
    . rfl
    exact absurd ⟨j,hj,e⟩ hm
   exact .inl ⟨k,hk,hp,h0,Zh hk hp h0⟩
def XU (n:Nat) (p:Nat->Bool):Bool:=(List.range n).any p
theorem Z7 {n:Nat} {p:Nat->Bool}:XU n p=true↔∃ k,k<n/\p k=true:=by
 unfold XU
 rw [List.any_eq_true]
 constructor
 . rintro ⟨k,hk,h⟩;exact ⟨k,by simpa using hk,h⟩
 rintro ⟨k,hk,h⟩;exact ⟨k,by simpa using hk,h⟩
theorem ZB (n:Nat) (p:Nat->Bool):XU n p=decide (0<=yV n p):=by
 rcases VT n p with ⟨k,hk,hp,_,e⟩ | ⟨h0,e⟩
 . rw [e,decide_eq_true (by omega)];exact Z7.2 ⟨k,hk,hp⟩
 . rw [e]
   rw [Bool.eq_iff_iff,Z7]
   constructor
   . rintro ⟨k,hk,h⟩;rw [h0 k hk] at h;cases h
   intro h;simp at h
theorem zjc {P:Program} {f:FuncId} {fn:Func} {c:Code} (hf:P.funcs[f]?=some fn) (hname:(fn.name == "runtime.NumGoroutine")=false) (hb:fn.body=some c) (args:Array Value) (w:World):
 (callFunc f args).run P w= .ok (.enter f args) w:=by
 have h1:fn.name≠ "runtime.NumGoroutine" :=by simpa using hname
 simp [callFunc,hf,h1,hb]
def zvy (n:Nat) (p:Nat->Bool) (w:World) (iv:Value) (wr:World):Prop:=∃ k:Nat,k<=n/\iv= .int .i64 k/\Hid (∀ j,j<k->p j=false)/\Hid (Below w.heap.size w wr)
def zeb (p:zee):Value:=.agg #[str p.name,.int .i64 p.from_,.int .i64 p.to_,str p.low,str p.high]
def Yy (v:yU):Value:=.agg #[.int .i64 v.node,str v.value]
theorem zpp (A:Option Addr) (m c:Nat) (l:List zee) (g:Nat) (cv:Value) (p:Nat->Bool) (w:World) (ha:Yo w (.slice A m c) l) (eg:∀ args w,(callFunc g args).run Tryz.prog w= .ok (.enter g args) w)
 (hp:∀ k (hk:k<l.length) w',Below w.heap.size w w' ->Calls Tryz.prog g #[zeb l[k],cv] w' (vO w' (.bool (p k)))):
 Calls Tryz.prog 119 #[.slice A m c,.func (.func g) #[] #[cv]] w (vO w (.int .i64 (yV l.length p))):=by
 have hm:m=l.length:=by obtain ⟨A',c',e,_⟩:=ha;injection e
 have h1000:l.length<=1000:=by obtain ⟨A',c',e,_,_,h6,_⟩:=ha;exact h6
 subst hm
 have HA:=ze ha
 have HP:=ze hp
 have HW:=ze (zP w)
 clear ha hp
 go_enter Tryz.func119,Tryz.ntmps119
 go_wp2_with fail
 go_loopw [8] (zvy l.length p w) (fun iv _=>l.length - (intOf iv).toNat)
 case atStart=>exact ⟨0,Nat.zero_le _,rfl,fun j h=>by omega,HW⟩
 case round=>
  clear HW
  obtain ⟨k,hk,rfl,HD,HW⟩:=hrel
  by_cases hlt:k<l.length
  rotate_left
  . obtain rfl:k=l.length:=by omega
    have HF:=ze (xH HD.out);go_wp2_with fail;go_ret;exact ⟨zr HF.out,HW.out⟩
  obtain ⟨ad,rfl,hb,p0,p1,p2,p3,p4⟩:=(HA.out.below HW.out).at_ hlt
  have hp:=HP.out k hlt wr HW.out;unfold zeb at hp
  cases hpk:p k with
  | false=>
    rw [hpk] at hp
    have HNX:Hid (∀ j,j<k+1->p j=false):=by
     intro j hj
     rcases Nat.lt_or_ge j k with h3 | h3
     . exact HD.out j h3
     . obtain rfl:j=k:=by omega
       exact hpk
    clear hpk;go_wp2_with fail;refine hp.mono ?_;rintro e w1 ⟨rfl,hb1⟩;have HW1:=ze (ext HW.out hb1);clear hb1 hp;go_wp2_with fail;go_round
    case rel=>exact ⟨k+1,by omega,by go_num,HNX,HW1⟩
    case measure=>simp [intOf];omega
  | true=>
    rw [hpk] at hp;have HF:=ze (Zh hlt hpk HD.out);clear hpk;go_wp2_with fail;refine hp.mono ?_;rintro e w1 ⟨rfl,hb1⟩;have HW1:=ze (ext HW.out hb1);clear hb1 hp;go_wp2_with fail;go_ret;exact ⟨zr HF.out,HW1.out⟩
theorem zsx (A:Option Addr) (m c:Nat) (l:List zee) (g:Nat) (cv:Value) (p:Nat->Bool) (w:World) (ha:Yo w (.slice A m c) l) (eg:∀ args w,(callFunc g args).run Tryz.prog w= .ok (.enter g args) w)
 (hp:∀ k (hk:k<l.length) w',Below w.heap.size w w' ->Calls Tryz.prog g #[zeb l[k],cv] w' (vO w' (.bool (p k)))):
 Calls Tryz.prog 96 #[.slice A m c,.func (.func g) #[] #[cv]] w (vO w (.bool (XU l.length p))):=by
 have h:=fun w' (hw:Below w.heap.size w w')=>zpp A m c l g cv p w' (ha.below hw) eg (fun k hk w2 h2=>hp k hk w2 (ext hw h2))
 have HE:=ze (ZB l.length p)
 obtain ⟨z,HZ⟩:∃ z,Hid (yV l.length p=z):=⟨_,ze rfl⟩
 rw [HZ.out] at HE h
 clear ha hp eg
 go_enter Tryz.func96,Tryz.ntmps96
 go_wp2_with fail
 refine (h _ (zP w)).mono ?_
 rintro e w1 ⟨rfl,hb1⟩
 have HW1:=ze hb1
 clear hb1 h
 go_wp2_with fail
 go_ret
 exact ⟨z0 HE.out,HW1.out⟩
theorem zp8 (A:Option Addr) (B c:Nat) (l:List (List UInt8)) (z:List UInt8) (w:World) (ha:zK w B 1 A l.length (l.map str)) (hl:l.length<=1073741824):
 Calls Tryz.prog 95 #[.slice A l.length c,str z] w (zfu w (.int .i64 (yV l.length fun k=>decide (l[k]?=some z)))):=by
 have HA:=ze ha
 clear ha
 go_enter Tryz.func95,Tryz.ntmps95
 go_wp2_with fail
 go_loop [8] (fun iv=>∃ k:Nat,k<=l.length/\iv= .int .i64 k/\Hid (∀ j,j<k->decide (l[j]?=some z)=false)) (fun iv=>l.length - (intOf iv).toNat)
 case atStart=>exact ⟨0,Nat.zero_le _,rfl,fun j h=>by omega⟩
 case round=>
  obtain ⟨k,hk,rfl,HD⟩:=hrel
  by_cases hlt:k<l.length
  rotate_left
  . obtain rfl:k=l.length:=by omega
    have HF:=ze (xH HD.out);go_wp2_with fail;go_ret;exact ⟨zr HF.out,rfl⟩
  obtain ⟨ad,u,rfl,hb,hx,hc⟩:=HA.out.at_ hlt
  rw [show (l.map str)[k]?=some (str l[k]) by simp [hlt]] at hx;injection hx with hx
  subst hx
  by_cases hz:l[k]=z
  . have hI:(z == l[k])=true:=by rw [beq_iff_eq];exact hz.symm
    have HF:=ze (Zh (p:=fun k=>decide (l[k]?=some z)) hlt (by rw [decide_eq_true_eq,List.getElem?_eq_getElem hlt,hz]) HD.out);clear hz;generalize l[k]=y at hc hI;go_wp2_with fail;go_ret;exact ⟨zr HF.out,rfl⟩
  have hI:(z == l[k])=false:=by rw [beq_eq_false_iff_ne];exact fun e=>hz e.symm
  have HNX:Hid (∀ j,j<k+1->decide (l[j]?=some z)=false):=by
   intro j hj
   rcases Nat.lt_or_ge j k with h3 | h3
   . exact HD.out j h3
   . obtain rfl:j=k:=by omega
     rw [decide_eq_false_iff_not,List.getElem?_eq_getElem hlt];intro e;injection e with e;exact hz e
  clear hz;generalize l[k]=y at hc hI;go_wp2_with fail;go_round
  case rel=>exact ⟨k+1,by omega,by go_num,HNX⟩
  case measure=>simp [intOf];omega
theorem zlh (l:List (List UInt8)) (z:List UInt8):XU l.length (fun k=>decide (l[k]?=some z))=decide (z∈l):=by
 rw [Bool.eq_iff_iff,Z7,decide_eq_true_eq,List.mem_iff_getElem?]
 constructor
 . rintro ⟨k,_,h⟩;exact ⟨k,by simpa using h⟩
 rintro ⟨k,h⟩
 refine ⟨k,?_,by simpa using h⟩
 rcases Nat.lt_or_ge k l.length with h1 | h1
 . exact h1
 . rw [List.getElem?_eq_none h1] at h;cases h
theorem zh4 (A:Option Addr) (B c:Nat) (l:List (List UInt8)) (z:List UInt8) (w:World) (ha:zK w B 1 A l.length (l.map str)) (hl:l.length<=1073741824):
 Calls Tryz.prog 74 #[.slice A l.length c,str z] w (zfu w (.bool (decide (z∈l)))):=by
 have h:=fun w' (h:w' =w)=>zp8 A B c l z w' (by rw [h];exact ha) hl
 have HE:=ze ((zlh l z).symm.trans (ZB l.length (fun k=>decide (l[k]?=some z))))
 obtain ⟨y,HZ⟩:∃ y,Hid (yV l.length (fun k=>decide (l[k]?=some z))=y):=⟨_,ze rfl⟩
 rw [HZ.out] at HE h
 obtain ⟨y2,HZ2⟩:∃ y2,Hid (decide (z∈l)=y2):=⟨_,ze rfl⟩
 rw [HZ2.out] at HE |-
 have h2:=h w rfl
 clear ha hl h
 go_enter Tryz.func74,Tryz.ntmps74
 go_wp2_with fail
 refine h2.mono ?_
 rintro e w1 ⟨rfl,rfl⟩
 clear h2
 go_wp2_with fail
 go_ret
 exact ⟨z0 HE.out,rfl⟩
theorem zq3 (A:Option Addr) (B c:Nat) (l:List (Int)) (z:Int) (w:World) (ha:zK w B 1 A l.length (VD l)) (hl:l.length<=1073741824):
 Calls Tryz.prog 124 #[.slice A l.length c,(Value.int .i64) z] w (zfu w (.int .i64 (yV l.length fun k=>decide (l[k]?=some z)))):=by
 have HA:=ze ha
 clear ha
 go_enter Tryz.func124,Tryz.ntmps124
 go_wp2_with fail
 go_loop [8] (fun iv=>∃ k:Nat,k<=l.length/\iv= .int .i64 k/\Hid (∀ j,j<k->decide (l[j]?=some z)=false)) (fun iv=>l.length - (intOf iv).toNat)
 case atStart=>exact ⟨0,Nat.zero_le _,rfl,fun j h=>by omega⟩
 case round=>
  obtain ⟨k,hk,rfl,HD⟩:=hrel
  by_cases hlt:k<l.length
  rotate_left
  . obtain rfl:k=l.length:=by omega
    have HF:=ze (xH HD.out);go_wp2_with fail;go_ret;exact ⟨zr HF.out,rfl⟩
  obtain ⟨ad,u,rfl,hb,hx,hc⟩:=HA.out.at_ hlt
  rw [show (VD l)[k]?=some ((Value.int .i64) l[k]) by simp [VD,hlt]] at hx;injection hx with hx
  subst hx
  by_cases hz:l[k]=z
  . have hI:(z == l[k])=true:=by rw [beq_iff_eq];exact hz.symm
    have HF:=ze (Zh (p:=fun k=>decide (l[k]?=some z)) hlt (by rw [decide_eq_true_eq,List.getElem?_eq_getElem hlt,hz]) HD.out);clear hz;generalize l[k]=y at hc hI;go_wp2_with fail;go_ret;exact ⟨zr HF.out,rfl⟩
  have hI:(z == l[k])=false:=by rw [beq_eq_false_iff_ne];exact fun e=>hz e.symm
  have HNX:Hid (∀ j,j<k+1->decide (l[j]?=some z)=false):=by
   intro j hj
   rcases Nat.lt_or_ge j k with h3 | h3
   . exact HD.out j h3
   . obtain rfl:j=k:=by omega
     rw [decide_eq_false_iff_not,List.getElem?_eq_getElem hlt];intro e;injection e with e;exact hz e
  clear hz;generalize l[k]=y at hc hI;go_wp2_with fail;go_round
  case rel=>exact ⟨k+1,by omega,by go_num,HNX⟩
  case measure=>simp [intOf];omega
theorem zpw (l:List (Int)) (z:Int):XU l.length (fun k=>decide (l[k]?=some z))=decide (z∈l):=by
 rw [Bool.eq_iff_iff,Z7,decide_eq_true_eq,List.mem_iff_getElem?]
 constructor
 . rintro ⟨k,_,h⟩;exact ⟨k,by simpa using h⟩
 rintro ⟨k,h⟩
 refine ⟨k,?_,by simpa using h⟩
 rcases Nat.lt_or_ge k l.length with h1 | h1
 . exact h1
 . rw [List.getElem?_eq_none h1] at h;cases h
theorem zj5 (A:Option Addr) (B c:Nat) (l:List (Int)) (z:Int) (w:World) (ha:zK w B 1 A l.length (VD l)) (hl:l.length<=1073741824):
 Calls Tryz.prog 102 #[.slice A l.length c,(Value.int .i64) z] w (zfu w (.bool (decide (z∈l)))):=by
 have h:=fun w' (h:w' =w)=>zq3 A B c l z w' (by rw [h];exact ha) hl
 have HE:=ze ((zpw l z).symm.trans (ZB l.length (fun k=>decide (l[k]?=some z))))
 obtain ⟨y,HZ⟩:∃ y,Hid (yV l.length (fun k=>decide (l[k]?=some z))=y):=⟨_,ze rfl⟩
 rw [HZ.out] at HE h
 obtain ⟨y2,HZ2⟩:∃ y2,Hid (decide (z∈l)=y2):=⟨_,ze rfl⟩
 rw [HZ2.out] at HE |-
 have h2:=h w rfl
 clear ha hl h
 go_enter Tryz.func102,Tryz.ntmps102
 go_wp2_with fail
 refine h2.mono ?_
 rintro e w1 ⟨rfl,rfl⟩
 clear h2
 go_wp2_with fail
 go_ret
 exact ⟨z0 HE.out,rfl⟩
theorem zor (A:Option Addr) (B c:Nat) (l:List (Bool)) (z:Bool) (w:World) (ha:zK w B 1 A l.length (xU l)) (hl:l.length<=1073741824):
 Calls Tryz.prog 125 #[.slice A l.length c,Value.bool z] w (zfu w (.int .i64 (yV l.length fun k=>decide (l[k]?=some z)))):=by
 have HA:=ze ha
 clear ha
 go_enter Tryz.func125,Tryz.ntmps125
 go_wp2_with fail
 go_loop [8] (fun iv=>∃ k:Nat,k<=l.length/\iv= .int .i64 k/\Hid (∀ j,j<k->decide (l[j]?=some z)=false)) (fun iv=>l.length - (intOf iv).toNat)
 case atStart=>exact ⟨0,Nat.zero_le _,rfl,fun j h=>by omega⟩
 case round=>
  obtain ⟨k,hk,rfl,HD⟩:=hrel
  by_cases hlt:k<l.length
  rotate_left
  . obtain rfl:k=l.length:=by omega
    have HF:=ze (xH HD.out);go_wp2_with fail;go_ret;exact ⟨zr HF.out,rfl⟩
  obtain ⟨ad,u,rfl,hb,hx,hc⟩:=HA.out.at_ hlt
  rw [show (xU l)[k]?=some (Value.bool l[k]) by simp [xU,hlt]] at hx;injection hx with hx
  subst hx
  by_cases hz:l[k]=z
  . have hI:(z == l[k])=true:=by rw [beq_iff_eq];exact hz.symm
    have HF:=ze (Zh (p:=fun k=>decide (l[k]?=some z)) hlt (by rw [decide_eq_true_eq,List.getElem?_eq_getElem hlt,hz]) HD.out);clear hz;generalize l[k]=y at hc hI;go_wp2_with fail;go_ret;exact ⟨zr HF.out,rfl⟩
  have hI:(z == l[k])=false:=by rw [beq_eq_false_iff_ne];exact fun e=>hz e.symm
  have HNX:Hid (∀ j,j<k+1->decide (l[j]?=some z)=false):=by
   intro j hj
   rcases Nat.lt_or_ge j k with h3 | h3
   . exact HD.out j h3
   . obtain rfl:j=k:=by omega
     rw [decide_eq_false_iff_not,List.getElem?_eq_getElem hlt];intro e;injection e with e;exact hz e
  clear hz;generalize l[k]=y at hc hI;go_wp2_with fail;go_round
  case rel=>exact ⟨k+1,by omega,by go_num,HNX⟩
  case measure=>simp [intOf];omega
theorem zl4 (l:List (Bool)) (z:Bool):XU l.length (fun k=>decide (l[k]?=some z))=decide (z∈l):=by
 rw [Bool.eq_iff_iff,Z7,decide_eq_true_eq,List.mem_iff_getElem?]
 constructor
 . rintro ⟨k,_,h⟩;exact ⟨k,by simpa using h⟩
 rintro ⟨k,h⟩
 refine ⟨k,?_,by simpa using h⟩
 rcases Nat.lt_or_ge k l.length with h1 | h1
 . exact h1
 . rw [List.getElem?_eq_none h1] at h;cases h
theorem zh7 (A:Option Addr) (B c:Nat) (l:List (Bool)) (z:Bool) (w:World) (ha:zK w B 1 A l.length (xU l)) (hl:l.length<=1073741824):
 Calls Tryz.prog 103 #[.slice A l.length c,Value.bool z] w (zfu w (.bool (decide (z∈l)))):=by
 have h:=fun w' (h:w' =w)=>zor A B c l z w' (by rw [h];exact ha) hl
 have HE:=ze ((zl4 l z).symm.trans (ZB l.length (fun k=>decide (l[k]?=some z))))
 obtain ⟨y,HZ⟩:∃ y,Hid (yV l.length (fun k=>decide (l[k]?=some z))=y):=⟨_,ze rfl⟩
 rw [HZ.out] at HE h
 obtain ⟨y2,HZ2⟩:∃ y2,Hid (decide (z∈l)=y2):=⟨_,ze rfl⟩
 rw [HZ2.out] at HE |-
 have h2:=h w rfl
 clear ha hl h
 go_enter Tryz.func103,Tryz.ntmps103
 go_wp2_with fail
 refine h2.mono ?_
 rintro e w1 ⟨rfl,rfl⟩
 clear h2
 go_wp2_with fail
 go_ret
 exact ⟨z0 HE.out,rfl⟩
theorem zjk (A:Option Addr) (m c:Nat) (l:List yU) (g:Nat) (cv:Value) (p:Nat->Bool) (w:World) (ha:yk w (.slice A m c) l) (eg:∀ args w,(callFunc g args).run Tryz.prog w= .ok (.enter g args) w)
 (hp:∀ k (hk:k<l.length) w',Below w.heap.size w w' ->Calls Tryz.prog g #[Yy l[k],cv] w' (vO w' (.bool (p k)))):
 Calls Tryz.prog 78 #[.slice A m c,.func (.func g) #[] #[cv]] w (vO w (.int .i64 (yV l.length p))):=by
 have hm:m=l.length:=by obtain ⟨A',c',e,_⟩:=ha;injection e
 have h1000:l.length<=1000:=by obtain ⟨A',c',e,_,_,h6,_⟩:=ha;exact h6
 subst hm
 have HA:=ze ha
 have HP:=ze hp
 have HW:=ze (zP w)
 clear ha hp
 go_enter Tryz.func78,Tryz.ntmps78
 go_wp2_with fail
 go_loopw [8] (zvy l.length p w) (fun iv _=>l.length - (intOf iv).toNat)
 case atStart=>exact ⟨0,Nat.zero_le _,rfl,fun j h=>by omega,HW⟩
 case round=>
  clear HW
  obtain ⟨k,hk,rfl,HD,HW⟩:=hrel
  by_cases hlt:k<l.length
  rotate_left
  . obtain rfl:k=l.length:=by omega
    have HF:=ze (xH HD.out);go_wp2_with fail;go_ret;exact ⟨zr HF.out,HW.out⟩
  obtain ⟨ad,rfl,hb,p0,p1⟩:=(HA.out.below HW.out).at_ hlt
  have hp:=HP.out k hlt wr HW.out;unfold Yy at hp
  cases hpk:p k with
  | false=>
    rw [hpk] at hp
    have HNX:Hid (∀ j,j<k+1->p j=false):=by
     intro j hj
     rcases Nat.lt_or_ge j k with h3 | h3
     . exact HD.out j h3
     . obtain rfl:j=k:=by omega
       exact hpk
    clear hpk;go_wp2_with fail;refine hp.mono ?_;rintro e w1 ⟨rfl,hb1⟩;have HW1:=ze (ext HW.out hb1);clear hb1 hp;go_wp2_with fail;go_round
    case rel=>exact ⟨k+1,by omega,by go_num,HNX,HW1⟩
    case measure=>simp [intOf];omega
  | true=>
    rw [hpk] at hp;have HF:=ze (Zh hlt hpk HD.out);clear hpk;go_wp2_with fail;refine hp.mono ?_;rintro e w1 ⟨rfl,hb1⟩;have HW1:=ze (ext HW.out hb1);clear hb1 hp;go_wp2_with fail;go_ret;exact ⟨zr HF.out,HW1.out⟩
theorem zir (A:Option Addr) (m c:Nat) (l:List yU) (g:Nat) (cv cv2:Value) (p:Nat->Bool) (w:World) (ha:yk w (.slice A m c) l) (eg:∀ args w,(callFunc g args).run Tryz.prog w= .ok (.enter g args) w)
 (hp:∀ k (hk:k<l.length) w',Below w.heap.size w w' ->Calls Tryz.prog g #[Yy l[k],cv,cv2] w' (vO w' (.bool (p k)))):
 Calls Tryz.prog 78 #[.slice A m c,.func (.func g) #[] #[cv,cv2]] w (vO w (.int .i64 (yV l.length p))):=by
 have hm:m=l.length:=by obtain ⟨A',c',e,_⟩:=ha;injection e
 have h1000:l.length<=1000:=by obtain ⟨A',c',e,_,_,h6,_⟩:=ha;exact h6
 subst hm
 have HA:=ze ha
 have HP:=ze hp
 have HW:=ze (zP w)
 clear ha hp
 go_enter Tryz.func78,Tryz.ntmps78
 go_wp2_with fail
 go_loopw [8] (zvy l.length p w) (fun iv _=>l.length - (intOf iv).toNat)
 case atStart=>exact ⟨0,Nat.zero_le _,rfl,fun j h=>by omega,HW⟩
 case round=>
  clear HW
  obtain ⟨k,hk,rfl,HD,HW⟩:=hrel
  by_cases hlt:k<l.length
  rotate_left
  . obtain rfl:k=l.length:=by omega
    have HF:=ze (xH HD.out);go_wp2_with fail;go_ret;exact ⟨zr HF.out,HW.out⟩
  obtain ⟨ad,rfl,hb,p0,p1⟩:=(HA.out.below HW.out).at_ hlt
  have hp:=HP.out k hlt wr HW.out;unfold Yy at hp
  cases hpk:p k with
  | false=>
    rw [hpk] at hp
    have HNX:Hid (∀ j,j<k+1->p j=false):=by
     intro j hj
     rcases Nat.lt_or_ge j k with h3 | h3
     . exact HD.out j h3
     . obtain rfl:j=k:=by omega
       exact hpk
    clear hpk;go_wp2_with fail;refine hp.mono ?_;rintro e w1 ⟨rfl,hb1⟩;have HW1:=ze (ext HW.out hb1);clear hb1 hp;go_wp2_with fail;go_round
    case rel=>exact ⟨k+1,by omega,by go_num,HNX,HW1⟩
    case measure=>simp [intOf];omega
  | true=>
    rw [hpk] at hp;have HF:=ze (Zh hlt hpk HD.out);clear hpk;go_wp2_with fail;refine hp.mono ?_;rintro e w1 ⟨rfl,hb1⟩;have HW1:=ze (ext HW.out hb1);clear hb1 hp;go_wp2_with fail;go_ret;exact ⟨zr HF.out,HW1.out⟩
theorem zld (A:Option Addr) (m c:Nat) (l:List yU) (g:Nat) (cv cv2:Value) (p:Nat->Bool) (w:World) (ha:yk w (.slice A m c) l) (eg:∀ args w,(callFunc g args).run Tryz.prog w= .ok (.enter g args) w)
 (hp:∀ k (hk:k<l.length) w',Below w.heap.size w w' ->Calls Tryz.prog g #[Yy l[k],cv,cv2] w' (vO w' (.bool (p k)))):
 Calls Tryz.prog 122 #[.slice A m c,.func (.func g) #[] #[cv,cv2]] w (vO w (.bool (XU l.length p))):=by
 have h:=fun w' (hw:Below w.heap.size w w')=>zir A m c l g cv cv2 p w' (ha.below hw) eg (fun k hk w2 h2=>hp k hk w2 (ext hw h2))
 have HE:=ze (ZB l.length p)
 obtain ⟨z,HZ⟩:∃ z,Hid (yV l.length p=z):=⟨_,ze rfl⟩
 rw [HZ.out] at HE h
 clear ha hp eg
 go_enter Tryz.func122,Tryz.ntmps122
 go_wp2_with fail
 refine (h _ (zP w)).mono ?_
 rintro e w1 ⟨rfl,hb1⟩
 have HW1:=ze hb1
 clear hb1 h
 go_wp2_with fail
 go_ret
 exact ⟨z0 HE.out,HW1.out⟩
theorem zqg (A:Option Addr) (m c:Nat) (l:List (List UInt8)) (g:Nat) (p:Nat->Bool) (w:World) (ha:yY w (.slice A m c) l) (eg:∀ args w,(callFunc g args).run Tryz.prog w= .ok (.enter g args) w)
 (hp:∀ k (hk:k<l.length) w',Below w.heap.size w w' ->Calls Tryz.prog g #[str l[k]] w' (vO w' (.bool (p k)))):
 Calls Tryz.prog 88 #[.slice A m c,.func (.func g) #[] #[]] w (vO w (.int .i64 (yV l.length p))):=by
 have hm:m=l.length:=by obtain ⟨A',c',e,_⟩:=ha;injection e
 have h1000:l.length<=1000:=by obtain ⟨A',c',e,_,_,h6,_⟩:=ha;exact h6
 subst hm
 have HA:=ze ha
 have HP:=ze hp
 have HW:=ze (zP w)
 clear ha hp
 go_enter Tryz.func88,Tryz.ntmps88
 go_wp2_with fail
 go_loopw [8] (zvy l.length p w) (fun iv _=>l.length - (intOf iv).toNat)
 case atStart=>exact ⟨0,Nat.zero_le _,rfl,fun j h=>by omega,HW⟩
 case round=>
  clear HW
  obtain ⟨k,hk,rfl,HD,HW⟩:=hrel
  by_cases hlt:k<l.length
  rotate_left
  . obtain rfl:k=l.length:=by omega
    have HF:=ze (xH HD.out);go_wp2_with fail;go_ret;exact ⟨zr HF.out,HW.out⟩
  obtain ⟨ad,rfl,hb,p0⟩:=(HA.out.below HW.out).at_ hlt
  have hp:=HP.out k hlt wr HW.out
  cases hpk:p k with
  | false=>
    rw [hpk] at hp
    have HNX:Hid (∀ j,j<k+1->p j=false):=by
     intro j hj
     rcases Nat.lt_or_ge j k with h3 | h3
     . exact HD.out j h3
     . obtain rfl:j=k:=by omega
       exact hpk
    clear hpk;go_wp2_with fail;refine hp.mono ?_;rintro e w1 ⟨rfl,hb1⟩;have HW1:=ze (ext HW.out hb1);clear hb1 hp;go_wp2_with fail;go_round
    case rel=>exact ⟨k+1,by omega,by go_num,HNX,HW1⟩
    case measure=>simp [intOf];omega
  | true=>
    rw [hpk] at hp;have HF:=ze (Zh hlt hpk HD.out);clear hpk;go_wp2_with fail;refine hp.mono ?_;rintro e w1 ⟨rfl,hb1⟩;have HW1:=ze (ext HW.out hb1);clear hb1 hp;go_wp2_with fail;go_ret;exact ⟨zr HF.out,HW1.out⟩
theorem ztc (A:Option Addr) (m c:Nat) (l:List (List UInt8)) (g:Nat) (p:Nat->Bool) (w:World) (ha:yY w (.slice A m c) l) (eg:∀ args w,(callFunc g args).run Tryz.prog w= .ok (.enter g args) w)
 (hp:∀ k (hk:k<l.length) w',Below w.heap.size w w' ->Calls Tryz.prog g #[str l[k]] w' (vO w' (.bool (p k)))):
 Calls Tryz.prog 67 #[.slice A m c,.func (.func g) #[] #[]] w (vO w (.bool (XU l.length p))):=by
 have h:=fun w' (hw:Below w.heap.size w w')=>zqg A m c l g p w' (ha.below hw) eg (fun k hk w2 h2=>hp k hk w2 (ext hw h2))
 have HE:=ze (ZB l.length p)
 obtain ⟨z,HZ⟩:∃ z,Hid (yV l.length p=z):=⟨_,ze rfl⟩
 rw [HZ.out] at HE h
 clear ha hp eg
 go_enter Tryz.func67,Tryz.ntmps67
 go_wp2_with fail
 refine (h _ (zP w)).mono ?_
 rintro e w1 ⟨rfl,hb1⟩
 have HW1:=ze hb1
 clear hb1 h
 go_wp2_with fail
 go_ret
 exact ⟨z0 HE.out,HW1.out⟩
theorem zk0 (f:List UInt8->Int) (a b:List UInt8) (h:f a=0):(if f a≠0 then f a else f b)=f b:=if_neg (by rw [h];decide)
theorem zif (f:List UInt8->Int) (g:Nat) (eg:∀ args w,(callFunc g args).run Tryz.prog w= .ok (.enter g args) w)
 (hg:∀ (s:ByteArray) w,s.size<=1073741824->Calls Tryz.prog g #[.string s] w (vO w (.int .i64 (f (bts s))))) (a b:ByteArray) (w:World) (ha:a.size<=1073741824) (hb:b.size<=1073741824):
 Calls Tryz.prog 98 #[.string a,.string b,.func (.func g) #[] #[]] w (vO w (.int .i64 (if f (bts a)≠0 then f (bts a) else f (bts b)))):=by
 have h1:=fun w=>hg a w ha
 have h2:=fun w=>hg b w hb
 obtain ⟨r,HR⟩:∃ r,Hid ((if f (bts a)≠0 then f (bts a) else f (bts b))=r):=⟨_,ze rfl⟩
 rw [HR.out]
 obtain ⟨x,HX⟩:∃ x,Hid (f (bts a)=x):=⟨_,ze rfl⟩
 obtain ⟨y,HY⟩:∃ y,Hid (f (bts b)=y):=⟨_,ze rfl⟩
 rw [HX.out] at HR h1
 rw [HY.out] at HR h2
 clear hg ha hb
 by_cases h0:x=0
 . have HF:=ze ((if_neg (by rw [h0];decide)).symm.trans HR.out:y=r).symm
   subst h0
   go_enter Tryz.func98,Tryz.ntmps98
   go_wp2_with fail;refine (h1 _).mono ?_;rintro e w1 ⟨rfl,hb1⟩;have HB1:=ze hb1;clear hb1 h1;go_wp2_with fail;refine (h2 _).mono ?_;rintro e w2 ⟨rfl,hb2⟩;have HB2:=ze (ext HB1.out hb2);clear hb2 h2;go_wp2_with fail;go_ret;exact ⟨zr HF.out,HB2.out⟩
 have hI:(x != 0)=true:=by rw [bne_iff_ne];exact h0
 have HF:=ze ((if_pos h0).symm.trans HR.out:x=r).symm;clear h0
 go_enter Tryz.func98,Tryz.ntmps98
 go_wp2_with fail;refine (h1 _).mono ?_;rintro e w1 ⟨rfl,hb1⟩;have HB1:=ze hb1;clear hb1 h1;go_wp2_with fail;go_ret;exact ⟨zr HF.out,HB1.out⟩
theorem zss (p:zee) (z:List UInt8) (b:Nat) (w:World) (hc:w.cell? ⟨b,0,none⟩=some (str z)) (hb:b<w.heap.size):
 Calls Tryz.prog 97 #[zeb p,.pointer (some ⟨b,0,none⟩)] w (vO w (.bool (p.name == z))):=by
 unfold zeb
 have hx:=zg w (.cells #[str p.name,.int .i64 p.from_,.int .i64 p.to_,str p.low,str p.high] 41)
 have HX:=ze hx
 have hc2:=(hx.cell (p:=⟨b,0,none⟩) hb).trans hc
 clear hx
 obtain ⟨r,HR⟩:∃ r,Hid ((p.name == z)=r):=⟨_,ze rfl⟩
 rw [HR.out]
 have hr:(p.name == z)=r:=HR.out
 go_enter Tryz.func97,Tryz.ntmps97
 go_wp2_with fail
 go_ret
 exact ⟨rfl,HX.out⟩
theorem Yo.take {w:World} {A:Option Addr} {m c:Nat} {l:List zee} (h:Yo w (.slice A m c) l) {k:Nat} (hk:k<=l.length):Yo w (.slice A k c) (l.take k):=by
 obtain ⟨A',c',e,h2,h3,h6,h4,h5⟩:=h
 injection e with e1 e2 e3
 subst e1 e2 e3
 have hl:(l.take k).length=k:=by rw [List.length_take];omega
 refine ⟨A,c,by rw [hl],by omega,h3,by omega,?_,fun x hx=>h5 x (List.mem_of_mem_take hx)⟩
 have h7:=h4.head (k:=k) hk
 rw [hl]
 have e:(yM l).take (k*5)=yM (l.take k):=by
  clear h7 h4 h5 h6 h2 h3 hl
  induction l generalizing k with
  | nil=>simp [yM]
  | cons v l ih=>
    cases k with
    | zero=>simp [yM]
    | succ k=>
      have:=ih (k:=k) (by simpa using hk);have e2:(k+1)*5=k*5+5:=by omega
      rw [e2]
      simpa [yM,YL] using this
 rw [e] at h7
 exact h7
theorem vX:zh 0=[48]:=by unfold zh;simp [vD]
theorem za0:zp [48]=some 0:=by
 rw [<- vX]
 exact yv ⟨by simp [vD],by simp [zen]⟩
theorem zem {la lb:List UInt8} {x y:Rat} (ha:zp la=some x) (hb:zp lb=some y):decide ((zto la lb).1<0)=decide (x<y):=by
 have e:zto la lb=(zpg x y,0):=by unfold zto;rw [ha,hb]
 rw [e,decide_eq_decide]
 simp only
 unfold zpg
 by_cases h:x<y
 . rw [if_pos h];simp [h]
 rw [if_neg h]
 split<;>simp [h]
theorem zth {l:List zee} {i:Nat} {z:List UInt8} (hi:i<=l.length):XU (l.take i).length (fun k=>((l.take i).getD k default).name == z)=decide (z∈(l.take i).map (·.name)):=by
 rw [Bool.eq_iff_iff,Z7,decide_eq_true_eq,List.mem_map]
 constructor
 . rintro ⟨k,hk,h⟩
   rw [show (l.take i).getD k default=(l.take i)[k] by simp [List.getD,List.getElem?_eq_getElem hk]] at h;exact ⟨_,List.getElem_mem hk,by simpa using h⟩
 rintro ⟨x,hx,h⟩
 obtain ⟨k,hk,rfl⟩:=List.mem_iff_getElem.1 hx;refine ⟨k,hk,?_⟩;rw [show (l.take i).getD k default=(l.take i)[k] by simp [List.getD,List.getElem?_eq_getElem hk]]
 simpa using h
theorem ze0 (vn:Value) (n:Net) (i:Nat) (w:World) (hn:Zw w vn n) (hi:i<n.pipes.length):
 Calls Tryz.prog 75 #[vn,.int .i64 (i:Int)] w (vO w (.int .i64 (n.pipeErr i))):=by
 obtain ⟨A0,k0,c0,A1,k1,c1,A2,k2,c2,A3,k3,c3,rfl,hn0,hn1,hn2,hn3⟩:=hn
 have hk0:k0=n.nodes.length:=by obtain ⟨A',c',e,_⟩:=hn0;injection e
 have hk1:k1=n.pipes.length:=by obtain ⟨A',c',e,_⟩:=hn1;injection e
 have hx:=zg w (.cells #[.slice A0 k0 c0,.slice A1 k1 c1,.slice A2 k2 c2,.slice A3 k3 c3] 26)
 have hp:=hn1.below hx
 obtain ⟨ad,rfl,hb,p0,p1,p2,p3,p4⟩:=hp.at_ hi
 have h1000:k1<=1000:=by obtain ⟨A',c',e,_,_,h6,_⟩:=hn1;omega
 have hcap:k1<=c1:=by obtain ⟨A',c',e,h,_⟩:=hn1;injection e;omega
 have hi1:i<k1:=by omega
 have HK0:=ze hk0
 have HE:=ze (zfg n hi)
 have HS:Hid (zV n.pipes[i].name/\zV n.pipes[i].low/\zV n.pipes[i].high):=by
  obtain ⟨A',c',e,_,_,h6,_,h7⟩:=hn1
  exact h7 _ (List.getElem_mem hi)
 have HPP:=ze hn1
 have HX:=ze hx
 clear hn0 hn1 hn2 hn3 hp hx hk0 hk1
 go_enter Tryz.func75,Tryz.ntmps75
 go_wp2_with fail
 have HKP:Hid (Blk ((w.alloc (.cells #[.slice A0 k0 c0,.slice (some ad) k1 c1,.slice A2 k2 c2,.slice A3 k3 c3] 26)).alloc (.cells #[str n.pipes[i].name,.int .i64 n.pipes[i].from_,.int .i64 n.pipes[i].to_,str n.pipes[i].low,str n.pipes[i].high] 41)) (w.heap.size+1) 41 #[str n.pipes[i].name,.int .i64 n.pipes[i].from_,.int .i64 n.pipes[i].to_,str n.pipes[i].low,str n.pipes[i].high]):=by
  have h:=Blk.new (w.alloc (.cells #[.slice A0 k0 c0,.slice (some ad) k1 c1,.slice A2 k2 c2,.slice A3 k3 c3] 26)) 41 #[str n.pipes[i].name,.int .i64 n.pipes[i].from_,.int .i64 n.pipes[i].to_,str n.pipes[i].low,str n.pipes[i].high]
  simp only [World.size_alloc] at h
  exact h
 have hy:=zg (w.alloc (.cells #[.slice A0 k0 c0,.slice (some ad) k1 c1,.slice A2 k2 c2,.slice A3 k3 c3] 26)) (.cells #[str n.pipes[i].name,.int .i64 n.pipes[i].from_,.int .i64 n.pipes[i].to_,str n.pipes[i].low,str n.pipes[i].high] 41)
 have HKN:=ze ((Blk.new w 26 #[.slice A0 k0 c0,.slice (some ad) k1 c1,.slice A2 k2 c2,.slice A3 k3 c3]).below hy (Blk.new w 26 #[.slice A0 k0 c0,.slice (some ad) k1 c1,.slice A2 k2 c2,.slice A3 k3 c3]).lt)
 have HW:=ze (ext HX.out hy)
 clear HX p0 p1 p2 p3 p4 hb hy
 generalize (w.alloc (.cells #[.slice A0 k0 c0,.slice (some ad) k1 c1,.slice A2 k2 c2,.slice A3 k3 c3] 26)).alloc (.cells #[str n.pipes[i].name,.int .i64 n.pipes[i].from_,.int .i64 n.pipes[i].to_,str n.pipes[i].low,str n.pipes[i].high] 41)=W at HKP HKN HW |-
 obtain ⟨r0,r1,r2,r3,rL⟩:=yG HKN.out
 obtain ⟨s0,s1,s2,s3,s4,sL⟩:=zj9 HKP.out
 have hnm:=fun w=>zgk ⟨n.pipes[i].name.toArray⟩ w (by have:=HS.out.1;rw [<- zm,yy];exact this)
 rw [yy] at hnm
 refine (hnm _).mono ?_
 rintro e w1 ⟨rfl,rfl⟩
 cases hnm:vr n.pipes[i].name with
 | false=>
   have HF:=ze (HE.out.trans (if_pos hnm));clear hnm;go_wp2_with fail;go_ret;exact ⟨zr HF.out,HW.out⟩
 | true=>
   have HE2:=ze (HE.out.trans (if_neg (by rw [hnm];decide)));clear hnm HE
   have htw:=fun w' (h:Below W.heap.size W w')=>zsx (some ad) i c1 (n.pipes.take i) 97 (.pointer (some ⟨w.heap.size+1,0,none⟩)) (fun k=>((n.pipes.take i).getD k default).name == n.pipes[i].name) w' ((HPP.out.below (ext HW.out h)).take (by omega)) (zjc Tryz.func97 (by rfl) (by rfl)) (fun k hk w2 h2=>by
    have h3:=zss (n.pipes.take i)[k] n.pipes[i].name (w.heap.size+1) w2 (((ext h h2).cell (p:=⟨w.heap.size+1,0,none⟩) sL).trans s0) (Nat.lt_of_lt_of_le sL (ext h h2).size);rw [show (n.pipes.take i).getD k default=(n.pipes.take i)[k] by simp [List.getD,List.getElem?_eq_getElem hk]]
    exact h3)
   rw [zth (Nat.le_of_lt hi)] at htw;have hic:(i:Int)<=(c1:Int):=by omega
   go_wp2_with fail;refine (htw _ (zP W)).mono ?_;rintro e WN ⟨rfl,hbB⟩
   try clear r0 r1 r2 r3 rL s0 s1 s2 s3 s4 sL
   replace HKN:=kb_ HKN hbB;replace HKP:=kb_ HKP hbB;replace HW:=eb_ HW hbB;clear hbB;obtain ⟨r0,r1,r2,r3,rL⟩:=yG HKN.out;obtain ⟨s0,s1,s2,s3,s4,sL⟩:=zj9 HKP.out;clear htw
   by_cases hmem:n.pipes[i].name∈(n.pipes.take i).map (·.name)
   . have HF:=ze (HE2.out.trans (if_pos hmem))
     rw [decide_eq_true hmem];clear hmem HE2;go_wp2_with fail;go_ret;exact ⟨zr HF.out,HW.out⟩
   have HE3:=ze (HE2.out.trans (if_neg hmem))
   rw [decide_eq_false hmem];clear hmem HE2;rw [<- HK0.out] at HE3
   by_cases hin:(decide (0<=n.pipes[i].from_) && decide (n.pipes[i].from_<(k0:Int)))=false\/(decide (0<=n.pipes[i].to_) && decide (n.pipes[i].to_<(k0:Int)))=false
   . have HF:=ze (HE3.out.trans (if_pos hin))
     have hin2:n.pipes[i].from_<0\/(0<=n.pipes[i].from_/\(k0:Int)<=n.pipes[i].from_)\/(0<=n.pipes[i].from_/\n.pipes[i].from_<(k0:Int)/\n.pipes[i].to_<0)\/(0<=n.pipes[i].from_/\n.pipes[i].from_<(k0:Int)/\0<=n.pipes[i].to_/\(k0:Int)<=n.pipes[i].to_):=by
      rw [Bool.and_eq_false_iff,Bool.and_eq_false_iff,decide_eq_false_iff_not,decide_eq_false_iff_not,decide_eq_false_iff_not,decide_eq_false_iff_not] at hin
      omega
     clear hin HE3;generalize n.pipes[i].from_=x at hin2 s1 HKP;generalize n.pipes[i].to_=y at hin2 s2 HKP
     rcases hin2 with hin2 | ⟨h1,h2⟩ | ⟨h1,h2,h3⟩ | ⟨h1,h2,h3,h4⟩
     all_goals
      go_wp2_with fail;go_ret;exact ⟨zr HF.out,HW.out⟩
   have HE4:=ze (HE3.out.trans (if_neg hin))
   have hin2:0<=n.pipes[i].from_/\n.pipes[i].from_<(k0:Int)/\0<=n.pipes[i].to_/\n.pipes[i].to_<(k0:Int):=by
    rw [Bool.and_eq_false_iff,Bool.and_eq_false_iff,decide_eq_false_iff_not,decide_eq_false_iff_not,decide_eq_false_iff_not,decide_eq_false_iff_not] at hin
    omega
   obtain ⟨h1,h2,h3,h4⟩:=hin2;clear hin HE3
   by_cases hft:n.pipes[i].from_=n.pipes[i].to_
   . have hI:(n.pipes[i].from_ == n.pipes[i].to_)=true:=by rw [beq_iff_eq];exact hft
     have HF:=ze (HE4.out.trans (if_pos hft));clear hft HE4;go_wp2_with fail;go_ret;exact ⟨zr HF.out,HW.out⟩
   have hI:(n.pipes[i].from_ == n.pipes[i].to_)=false:=by rw [beq_eq_false_iff_ne];exact hft
   have HE5:=ze (HE4.out.trans (if_neg hft));have hnu:=fun w=>zif zY 99 (zjc Tryz.func99 (by rfl) (by rfl)) (fun s w h=>Vo s w h) ⟨n.pipes[i].low.toArray⟩ ⟨n.pipes[i].high.toArray⟩ w (by have:=HS.out.2.1;rw [<- zm,yy];exact this) (by have:=HS.out.2.2;rw [<- zm,yy];exact this)
   rw [yy,yy] at hnu;clear hft HE4;go_wp2_with fail;refine (hnu _).mono ?_;rintro e WN ⟨rfl,hbB⟩
   try clear r0 r1 r2 r3 rL s0 s1 s2 s3 s4 sL
   replace HKN:=kb_ HKN hbB;replace HKP:=kb_ HKP hbB;replace HW:=eb_ HW hbB;clear hbB;obtain ⟨r0,r1,r2,r3,rL⟩:=yG HKN.out;obtain ⟨s0,s1,s2,s3,s4,sL⟩:=zj9 HKP.out;clear hnu
   by_cases h0:zY n.pipes[i].low=0
   rotate_left
   . have hI2:(zY n.pipes[i].low != 0)=true:=by rw [bne_iff_ne];exact h0
     have HF:=ze (HE5.out.trans (if_pos h0));rw [if_pos h0];clear HE5;generalize zY n.pipes[i].low=ev at hI2 HF |-;go_wp2_with fail;go_ret;exact ⟨zr HF.out,HW.out⟩
   have HE6:=ze (HE5.out.trans (if_neg (by rw [h0];decide)))
   rw [zk0 zY _ _ h0];clear HE5
   by_cases h0' :zY n.pipes[i].high=0
   rotate_left
   . have hI2:(zY n.pipes[i].high != 0)=true:=by rw [bne_iff_ne];exact h0'
     have HF:=ze (HE6.out.trans (if_pos h0'));clear HE6;generalize zY n.pipes[i].high=ev at hI2 HF |-;go_wp2_with fail;go_ret;exact ⟨zr HF.out,HW.out⟩
   have HE7:=ze (HE6.out.trans (if_neg (by rw [h0'];decide)))
   rw [h0'];clear HE6;obtain ⟨ql,hl1,hl2,hl3,_⟩:=vF h0;obtain ⟨qh,hh1,hh2,hh3,_⟩:=vF h0';rw [hl3,hh3] at HE7;have hsl:(⟨n.pipes[i].low.toArray⟩:ByteArray).size<=1073741824:=by have:=HS.out.2.1;rw [<- zm,yy];exact this
   have hsh:(⟨n.pipes[i].high.toArray⟩:ByteArray).size<=1073741824:=by have:=HS.out.2.2;rw [<- zm,yy];exact this
   have l1:∀ w,Calls Tryz.prog 100 #[.string ⟨#[48]⟩,str n.pipes[i].low] w (vO w (.bool (decide (0<ql)))):=by
    intro w;have h:=zbv ⟨#[48]⟩ ⟨n.pipes[i].low.toArray⟩ w (by decide) hsl;rw [show bts ⟨#[48]⟩=[48] from rfl,yy,zem za0 hl1] at h;exact h
   have l2:∀ w,Calls Tryz.prog 100 #[str n.pipes[i].high,str n.pipes[i].low] w (vO w (.bool (decide (qh<ql)))):=by
    intro w;have h:=zbv ⟨n.pipes[i].high.toArray⟩ ⟨n.pipes[i].low.toArray⟩ w hsh hsl;rw [yy,yy,zem hh1 hl1] at h;exact h
   generalize str n.pipes[i].low=sl at HKP s3 l1 l2;generalize str n.pipes[i].high=sh at HKP s4 l2;clear hl1 hl2 hl3 hh1 hh2 hh3 h0 h0' hsl hsh HS
   by_cases hs:ql<=0
   . have HF:=ze (HE7.out.trans (if_pos (.inl hs)))
     rw [show decide (0<ql)=false from decide_eq_false (Rat.not_lt.2 hs)] at l1;clear hs HE7 l2;go_wp2_with fail;refine (l1 _).mono ?_;rintro e WN ⟨rfl,hbB⟩
     try clear r0 r1 r2 r3 rL s0 s1 s2 s3 s4 sL
     replace HKN:=kb_ HKN hbB;replace HKP:=kb_ HKP hbB;replace HW:=eb_ HW hbB;clear hbB;obtain ⟨r0,r1,r2,r3,rL⟩:=yG HKN.out;obtain ⟨s0,s1,s2,s3,s4,sL⟩:=zj9 HKP.out;clear l1;go_wp2_with fail;go_ret;exact ⟨zr HF.out,HW.out⟩
   rw [show decide (0<ql)=true from decide_eq_true (Rat.not_le.1 hs)] at l1
   by_cases hlt:qh<ql
   . have HF:=ze (HE7.out.trans (if_pos (.inr hlt)))
     rw [decide_eq_true hlt] at l2;clear hs hlt HE7;go_wp2_with fail;refine (l1 _).mono ?_;rintro e WN ⟨rfl,hbB⟩
     try clear r0 r1 r2 r3 rL s0 s1 s2 s3 s4 sL
     replace HKN:=kb_ HKN hbB;replace HKP:=kb_ HKP hbB;replace HW:=eb_ HW hbB;clear hbB;obtain ⟨r0,r1,r2,r3,rL⟩:=yG HKN.out;obtain ⟨s0,s1,s2,s3,s4,sL⟩:=zj9 HKP.out;go_wp2_with fail;refine (l2 _).mono ?_;rintro e WN ⟨rfl,hbB⟩
     try clear r0 r1 r2 r3 rL s0 s1 s2 s3 s4 sL
     replace HKN:=kb_ HKN hbB;replace HKP:=kb_ HKP hbB;replace HW:=eb_ HW hbB;clear hbB;obtain ⟨r0,r1,r2,r3,rL⟩:=yG HKN.out;obtain ⟨s0,s1,s2,s3,s4,sL⟩:=zj9 HKP.out;clear l1 l2;go_wp2_with fail;go_ret;exact ⟨zr HF.out,HW.out⟩
   have HF:=ze (HE7.out.trans (if_neg (by rintro (h | h);exact hs h;exact hlt h)))
   rw [decide_eq_false hlt] at l2;clear hs hlt HE7;go_wp2_with fail;refine (l1 _).mono ?_;rintro e WN ⟨rfl,hbB⟩
   try clear r0 r1 r2 r3 rL s0 s1 s2 s3 s4 sL
   replace HKN:=kb_ HKN hbB;replace HKP:=kb_ HKP hbB;replace HW:=eb_ HW hbB;clear hbB;obtain ⟨r0,r1,r2,r3,rL⟩:=yG HKN.out;obtain ⟨s0,s1,s2,s3,s4,sL⟩:=zj9 HKP.out;go_wp2_with fail;refine (l2 _).mono ?_;rintro e WN ⟨rfl,hbB⟩
   try clear r0 r1 r2 r3 rL s0 s1 s2 s3 s4 sL
   replace HKN:=kb_ HKN hbB;replace HKP:=kb_ HKP hbB;replace HW:=eb_ HW hbB;clear hbB;obtain ⟨r0,r1,r2,r3,rL⟩:=yG HKN.out;obtain ⟨s0,s1,s2,s3,s4,sL⟩:=zj9 HKP.out;clear l1 l2;go_wp2_with fail;go_ret;exact ⟨zr HF.out,HW.out⟩
theorem zst (v:yU) (z:Int) (b:Nat) (w:World) (hc:w.cell? ⟨b,0,none⟩=some (.int .i64 z)) (hb:b<w.heap.size):
 Calls Tryz.prog 79 #[Yy v,.pointer (some ⟨b,0,none⟩)] w (vO w (.bool (v.node == z))):=by
 unfold Yy
 have hx:=zg w (.cells #[.int .i64 v.node,str v.value] 43)
 have HX:=ze hx
 have hc2:=(hx.cell (p:=⟨b,0,none⟩) hb).trans hc
 clear hx
 obtain ⟨r,HR⟩:∃ r,Hid ((v.node == z)=r):=⟨_,ze rfl⟩
 rw [HR.out]
 have hr:(v.node == z)=r:=HR.out
 go_enter Tryz.func79,Tryz.ntmps79
 go_wp2_with fail
 go_ret
 exact ⟨rfl,HX.out⟩
theorem zqd (v:yU) (l:List yU) (i:Nat) (A:Option Addr) (m c:Nat) (b b2:Nat) (w:World) (hc:w.cell? ⟨b,0,none⟩=some (.slice A m c)) (hb:b<w.heap.size)
 (hc2:w.cell? ⟨b2,0,none⟩=some (.int .i64 (i:Int))) (hb2:b2<w.heap.size) (hl:yk w (.slice A m c) l) (hi:i<l.length):
 Calls Tryz.prog 123 #[Yy v,.pointer (some ⟨b,0,none⟩),.pointer (some ⟨b2,0,none⟩)] w (vO w (.bool (v.node == l[i].node))):=by
 unfold Yy
 have hm:m=l.length:=by obtain ⟨A',c',e,_⟩:=hl;injection e
 have h1000:l.length<=1000:=by obtain ⟨A',c',e,_,_,h6,_⟩:=hl;exact h6
 subst hm
 obtain ⟨ad,rfl,hba,p0,p1⟩:=hl.at_ hi
 have hx:=zg w (.cells #[.int .i64 v.node,str v.value] 43)
 have HX:=ze hx
 have q1:=(hx.cell (p:=⟨b,0,none⟩) hb).trans hc
 have q2:=(hx.cell (p:=⟨b2,0,none⟩) hb2).trans hc2
 have q3:=(hx.cell (p:=ad.add (i*2)) (by rw [zy];exact hba)).trans p0
 have hk:=Blk.new w 43 #[.int .i64 v.node,str v.value]
 have q4:(w.alloc (.cells #[.int .i64 v.node,str v.value] 43)).cell? ⟨w.heap.size,0,none⟩=some (.int .i64 v.node):=by rw [hk.cell 0];rfl
 have q5:=hk.lt
 have hij:(i:Int)<(l.length:Int):=by omega
 clear hc hc2 p0 p1 hl hx hk
 obtain ⟨r,HR⟩:∃ r,Hid ((v.node == l[i].node)=r):=⟨_,ze rfl⟩
 rw [HR.out]
 have hr:(v.node == l[i].node)=r:=HR.out
 go_enter Tryz.func123,Tryz.ntmps123
 go_wp2_with fail
 generalize w.alloc (.cells #[.int .i64 v.node,str v.value] 43)=W at HX q1 q2 q3 q4 q5 |-
 generalize l[i].node=y at q3 hr HR
 generalize v.node=x at q4 hr HR
 go_quiet (fail)
 go_wp2_with fail
 go_ret
 exact ⟨rfl,zo HX.out _⟩
theorem zlw {l:List yU} {i:Nat} {z:Int} (hi:i<=l.length):XU (l.take i).length (fun k=>((l.take i).getD k default).node == z)=decide (z∈(l.take i).map (·.node)):=by
 rw [Bool.eq_iff_iff,Z7,decide_eq_true_eq,List.mem_map]
 constructor
 . rintro ⟨k,hk,h⟩
   rw [show (l.take i).getD k default=(l.take i)[k] by simp [List.getD,List.getElem?_eq_getElem hk]] at h;exact ⟨_,List.getElem_mem hk,by simpa using h⟩
 rintro ⟨x,hx,h⟩
 obtain ⟨k,hk,rfl⟩:=List.mem_iff_getElem.1 hx;refine ⟨k,hk,?_⟩;rw [show (l.take i).getD k default=(l.take i)[k] by simp [List.getD,List.getElem?_eq_getElem hk]]
 simpa using h
def Ym (l:List yU) (z:Int):List UInt8:=((l.find? fun v=>v.node == z).map (·.value)).getD [48]
def zxw (l:List yU) (z:Int) (w:World) (e:Ending) (w' :World):Prop:=e= .returned (.tuple #[str (Ym l z),.bool (l.find? (fun v=>v.node == z)).isSome])/\Below w.heap.size w w'
theorem zh0 (l:List yU) (z:Int):(∃ k,∃ hk:k<l.length,yV l.length (fun k=>(l.getD k default).node == z)=(k:Int)/\l.find? (fun v=>v.node == z)=some l[k])\/
 (yV l.length (fun k=>(l.getD k default).node == z)= -1/\l.find? (fun v=>v.node == z)=none):=by
 have hg:∀ k (h:k<l.length),l.getD k default=l[k]:=fun k h=>by simp [List.getD,List.getElem?_eq_getElem h]
 rcases VT l.length (fun k=>(l.getD k default).node == z) with ⟨k,hk,hp,h0,e⟩ | ⟨h0,e⟩
 . refine .inl ⟨k,hk,e,zgv hk (fun j hj hjk=>?_) ?_⟩
   . have:=h0 j hjk;rw [hg j hj] at this;simpa using this
   rw [hg k hk] at hp;simpa using hp
 . refine .inr ⟨e,zis fun j hj=>?_⟩
   have:=h0 j hj;rw [hg j hj] at this;simpa using this
theorem zfk (va:Value) (l:List yU) (z:Int) (w:World) (ha:yk w va l):
 Calls Tryz.prog 47 #[va,.int .i64 z] w (zxw l z w):=by
 obtain ⟨A,c,rfl,h2,h3,h6,h4,h5⟩:=ha
 have HA:Hid (yk w (.slice A l.length c) l):=ze ⟨A,c,rfl,h2,h3,h6,h4,h5⟩
 have hx:=zg w (.cells #[.int .i64 z] 3)
 have hk:=Blk.new w 3 #[.int .i64 z]
 have HX:=ze hx
 have hc:(w.alloc (.cells #[.int .i64 z] 3)).cell? ⟨w.heap.size,0,none⟩=some (.int .i64 z):=by rw [hk.cell 0];rfl
 have hl:=hk.lt
 have hf:=fun w' (h:Below (w.alloc (.cells #[.int .i64 z] 3)).heap.size (w.alloc (.cells #[.int .i64 z] 3)) w')=>zjk A l.length c l 79 (.pointer (some ⟨w.heap.size,0,none⟩)) (fun k=>(l.getD k default).node == z) w' (HA.out.below (ext HX.out h)) (zjc Tryz.func79 (by rfl) (by rfl)) (fun k hk w2 hw2=>by
  have h3:=zst l[k] z w.heap.size w2 (((ext h hw2).cell (p:=⟨w.heap.size,0,none⟩) hl).trans hc) (Nat.lt_of_lt_of_le hl (ext h hw2).size)
  rw [show l.getD k default=l[k] by simp [List.getD,List.getElem?_eq_getElem hk]]
  exact h3)
 clear h2 h3 h4 h5 hx hk
 unfold zxw Ym
 rcases zh0 l z with ⟨k,hk,e1,e2⟩ | ⟨e1,e2⟩
 . rw [e1] at hf
   rw [e2];obtain ⟨ad,rfl,hb,q0,q1⟩:=HA.out.at_ hk;have HQ:=ze (And.intro hb q1);clear e1 e2 hc hl q0 q1 hb
   go_enter Tryz.func47,Tryz.ntmps47
   go_wp2_with fail;refine (hf _ (zP _)).mono ?_;rintro e w1 ⟨rfl,hb1⟩;have hxx:=ext HX.out hb1;have q1:=(hxx.cell (p:=⟨(ad.add (k*2)).block,(ad.add (k*2)).off+1,none⟩) (by simp only [zy];exact HQ.out.1)).trans HQ.out.2;have HX1:=ze hxx;clear hf hb1 hxx;go_wp2_with fail;go_ret2;exact ⟨rfl,HX1.out⟩
 . rw [e1] at hf
   rw [e2];clear e1 e2 hc hl
   go_enter Tryz.func47,Tryz.ntmps47
   go_wp2_with fail;refine (hf _ (zP _)).mono ?_;rintro e w1 ⟨rfl,hb1⟩;have HX1:=ze (ext HX.out hb1);clear hf hb1;go_wp2_with fail;go_ret2;exact ⟨rfl,HX1.out⟩
theorem znx {w w' :World} {g:Nat} {t:TypeId} {cs:Array Value} (h:Blk w g t cs) (hb:Below w.heap.size w w'):Blk w' g t cs:=h.below hb h.lt
theorem XV (vn va:Value) (n:Net) (l:List yU) (i:Nat) (w:World) (hn:Zw w vn n) (ha:yk w va l) (hi:i<l.length):
 Calls Tryz.prog 101 #[vn,va,.int .i64 (i:Int)] w (vO w (.int .i64 (n.levelErr l i))):=by
 obtain ⟨A0,k0,c0,A1,k1,c1,A2,k2,c2,A3,k3,c3,rfl,hn0,hn1,hn2,hn3⟩:=hn
 have hk0:k0=n.nodes.length:=by obtain ⟨A',c',e,_⟩:=hn0;injection e
 have hk1000:k0<=1000:=by obtain ⟨A',c',e,_,_,h6,_⟩:=hn0;omega
 obtain ⟨A,c,rfl,h2,h3,h6,h4,h5⟩:=ha
 have HL:Hid (yk w (.slice A l.length c) l):=ze ⟨A,c,rfl,h2,h3,h6,h4,h5⟩
 obtain ⟨ad,rfl,hb,p0,p1⟩:=HL.out.at_ hi
 have HSM:=ze (h5 _ (List.getElem_mem hi))
 have b1:=zg w (.cells #[.slice A0 k0 c0,.slice A1 k1 c1,.slice A2 k2 c2,.slice A3 k3 c3] 26)
 have b2:=zg (w.alloc (.cells #[.slice A0 k0 c0,.slice A1 k1 c1,.slice A2 k2 c2,.slice A3 k3 c3] 26)) (.cells #[.slice (some ad) l.length c] 24)
 have b3:=zg ((w.alloc (.cells #[.slice A0 k0 c0,.slice A1 k1 c1,.slice A2 k2 c2,.slice A3 k3 c3] 26)).alloc (.cells #[.slice (some ad) l.length c] 24)) (.cells #[.int .i64 (i:Int)] 3)
 have HW:=ze (ext (ext b1 b2) b3)
 have HK:=ze (znx (Blk.new w 26 #[.slice A0 k0 c0,.slice A1 k1 c1,.slice A2 k2 c2,.slice A3 k3 c3]) (ext b2 b3))
 have HK2:Hid (Blk (((w.alloc (.cells #[.slice A0 k0 c0,.slice A1 k1 c1,.slice A2 k2 c2,.slice A3 k3 c3] 26)).alloc (.cells #[.slice (some ad) l.length c] 24)).alloc (.cells #[.int .i64 (i:Int)] 3)) (w.heap.size+1) 24 #[.slice (some ad) l.length c]):=by
  have h:=znx (Blk.new (w.alloc (.cells #[.slice A0 k0 c0,.slice A1 k1 c1,.slice A2 k2 c2,.slice A3 k3 c3] 26)) 24 #[.slice (some ad) l.length c]) b3
  simp only [World.size_alloc] at h
  exact h
 have HK3:Hid (Blk (((w.alloc (.cells #[.slice A0 k0 c0,.slice A1 k1 c1,.slice A2 k2 c2,.slice A3 k3 c3] 26)).alloc (.cells #[.slice (some ad) l.length c] 24)).alloc (.cells #[.int .i64 (i:Int)] 3)) (w.heap.size+2) 3 #[.int .i64 (i:Int)]):=by
  have h:=Blk.new ((w.alloc (.cells #[.slice A0 k0 c0,.slice A1 k1 c1,.slice A2 k2 c2,.slice A3 k3 c3] 26)).alloc (.cells #[.slice (some ad) l.length c] 24)) 3 #[.int .i64 (i:Int)]
  simp only [World.size_alloc] at h
  exact h
 have HE:=ze (zcz n hi)
 rw [<- hk0] at HE
 clear hn0 hn1 hn2 hn3 h4 h5 h3 hk0 b1 b2 b3 hb p0 p1
 go_enter Tryz.func101,Tryz.ntmps101
 go_wp2_with fail
 generalize (((w.alloc (.cells #[.slice A0 k0 c0,.slice A1 k1 c1,.slice A2 k2 c2,.slice A3 k3 c3] 26)).alloc (.cells #[.slice (some ad) l.length c] 24)).alloc (.cells #[.int .i64 (i:Int)] 3))=W at HW HK HK2 HK3 |-
 obtain ⟨r0,r1,r2,r3,rL⟩:=yG HK.out
 obtain ⟨s0,sL⟩:=zcu HK2.out
 obtain ⟨t0,tL⟩:=zcu HK3.out
 have hij:(i:Int)<(l.length:Int):=by omega
 have hic:(i:Int)<=(c:Int):=by omega
 obtain ⟨ad1,e1,hb,p0,p1⟩:=(HL.out.below HW.out).at_ hi
 injection e1 with e1
 subst e1
 have HQ:=ze (And.intro hb p1)
 by_cases hin:(decide (0<=l[i].node) && decide (l[i].node<(k0:Int)))=false
 . have HF:=ze (HE.out.trans (if_pos hin))
   rw [Bool.and_eq_false_iff,decide_eq_false_iff_not,decide_eq_false_iff_not] at hin
   by_cases hneg:l[i].node<0
   . have hd:decide (l[i].node<0)=true:=decide_eq_true hneg
     clear hin HE p1;generalize l[i].node=x at p0 hneg hd
     go_quiet (fail)
     have hbB:=zw W nq
     try clear r0 r1 r2 r3 rL s0 sL t0 tL
     replace HK:=kb_ HK hbB;replace HK2:=kb_ HK2 hbB;replace HK3:=kb_ HK3 hbB;replace HW:=eb_ HW hbB;clear hbB;generalize W.drewN nq=WN at HK HK2 HK3 HW |-;clear nq;obtain ⟨r0,r1,r2,r3,rL⟩:=yG HK.out;obtain ⟨s0,sL⟩:=zcu HK2.out;obtain ⟨t0,tL⟩:=zcu HK3.out;go_wp2_with fail;go_ret;exact ⟨zr HF.out,HW.out⟩
   have hge:(k0:Int)<=l[i].node:=by omega
   have hnn:0<=l[i].node:=by omega
   have hd:decide (l[i].node<0)=false:=decide_eq_false hneg;clear hin HE p1 hneg;generalize l[i].node=x at p0 hnn hd hge
   go_quiet (fail)
   have hbB:=zw W nq
   try clear r0 r1 r2 r3 rL s0 sL t0 tL
   replace HK:=kb_ HK hbB;replace HK2:=kb_ HK2 hbB;replace HK3:=kb_ HK3 hbB;replace HW:=eb_ HW hbB;clear hbB;generalize W.drewN nq=WN at HK HK2 HK3 HW |-;clear nq;obtain ⟨r0,r1,r2,r3,rL⟩:=yG HK.out;obtain ⟨s0,sL⟩:=zcu HK2.out;obtain ⟨t0,tL⟩:=zcu HK3.out;go_wp2_with fail;go_ret;exact ⟨zr HF.out,HW.out⟩
 have HE2:=ze (HE.out.trans (if_neg hin))
 have hin2:0<=l[i].node/\l[i].node<(k0:Int):=by
  rw [Bool.and_eq_false_iff,decide_eq_false_iff_not,decide_eq_false_iff_not] at hin
  omega
 obtain ⟨h1,h2⟩:=hin2;have hd:decide (l[i].node<0)=false:=decide_eq_false (by omega);clear hin HE p1;have HD:=ze (And.intro h1 h2);obtain ⟨x,HX⟩:∃ x,Hid (l[i].node=x):=⟨_,ze rfl⟩;rw [HX.out] at p0 h1 h2 hd
 go_quiet (fail)
 have hbB:=zw W nq
 try clear r0 r1 r2 r3 rL s0 sL t0 tL
 replace HK:=kb_ HK hbB;replace HK2:=kb_ HK2 hbB;replace HK3:=kb_ HK3 hbB;replace HW:=eb_ HW hbB;clear hbB;generalize W.drewN nq=WN at HK HK2 HK3 HW |-;clear nq;obtain ⟨r0,r1,r2,r3,rL⟩:=yG HK.out;obtain ⟨s0,sL⟩:=zcu HK2.out;obtain ⟨t0,tL⟩:=zcu HK3.out
 have hf:=fun w' (h:Below WN.heap.size WN w')=>zld (some ad) i c (l.take i) 123 (.pointer (some ⟨w.heap.size+1,0,none⟩)) (.pointer (some ⟨w.heap.size+2,0,none⟩)) (fun k=>((l.take i).getD k default).node == l[i].node) w' (yk.take (HL.out.below (ext HW.out h)) (by omega)) (zjc Tryz.func123 (by rfl) (by rfl)) (fun k hk w2 hw2=>by
  have hh:=ext h hw2;have h3:=zqd (l.take i)[k] l i (some ad) l.length c (w.heap.size+1) (w.heap.size+2) w2 ((hh.cell (p:=⟨w.heap.size+1,0,none⟩) sL).trans s0) (Nat.lt_of_lt_of_le sL hh.size) ((hh.cell (p:=⟨w.heap.size+2,0,none⟩) tL).trans t0) (Nat.lt_of_lt_of_le tL hh.size) (HL.out.below (ext HW.out hh)) hi;rw [show (l.take i).getD k default=(l.take i)[k] by simp [List.getD,List.getElem?_eq_getElem hk]]
  exact h3)
 rw [zlw (Nat.le_of_lt hi)] at hf;go_wp2_with fail;refine (hf _ (zP WN)).mono ?_;rintro e WN ⟨rfl,hbB⟩
 try clear r0 r1 r2 r3 rL s0 sL t0 tL
 replace HK:=kb_ HK hbB;replace HK2:=kb_ HK2 hbB;replace HK3:=kb_ HK3 hbB;replace HW:=eb_ HW hbB;clear hbB;obtain ⟨r0,r1,r2,r3,rL⟩:=yG HK.out;obtain ⟨s0,sL⟩:=zcu HK2.out;obtain ⟨t0,tL⟩:=zcu HK3.out;clear hf
 by_cases hmem:l[i].node∈(l.take i).map (·.node)
 . have HF:=ze (HE2.out.trans (if_pos hmem))
   rw [decide_eq_true hmem];clear hmem HE2;go_wp2_with fail;go_ret;exact ⟨zr HF.out,HW.out⟩
 have HF:=ze (HE2.out.trans (if_neg hmem))
 rw [decide_eq_false hmem];clear hmem HE2;obtain ⟨ad2,e1,hb2,q0,q1⟩:=(HL.out.below HW.out).at_ hi;injection e1 with e1
 subst e1;have hnu:=fun w=>Vo ⟨l[i].value.toArray⟩ w (by have:=HSM.out;rw [<- zm,yy];exact this)
 rw [yy] at hnu;clear q0 HQ;go_wp2_with fail;refine (hnu _).mono ?_;rintro e WN ⟨rfl,hbB⟩
 try clear r0 r1 r2 r3 rL s0 sL t0 tL
 replace HK:=kb_ HK hbB;replace HK2:=kb_ HK2 hbB;replace HK3:=kb_ HK3 hbB;replace HW:=eb_ HW hbB;clear hbB;obtain ⟨r0,r1,r2,r3,rL⟩:=yG HK.out;obtain ⟨s0,sL⟩:=zcu HK2.out;obtain ⟨t0,tL⟩:=zcu HK3.out;go_wp2_with fail;go_ret;exact ⟨zr HF.out,HW.out⟩
end Go.Proofs.YtacfcmdlgebhgaaGreat
