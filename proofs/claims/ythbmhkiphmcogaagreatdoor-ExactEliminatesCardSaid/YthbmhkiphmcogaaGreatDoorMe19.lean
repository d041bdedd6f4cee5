/- Parts of the proof. -/
import Derived.Test.YthbmhkiphmcogaaGreatDoorMe17
import Derived.Test.YthbmhkiphmcogaaGreatDoorMe18
set_option linter.all false
set_option maxHeartbeats 32000000
namespace Go.Proofs.YthbmhkiphmcogaaGreatDoor
open Proofs.Tryz Go.RowKit Go.Deep
attribute [local go_sem ↓] Go.wp_at_zero Go.wp_at_succ
def TrmR (w0:World) (b B:Nat) (tv:Value) (l:List zR) (kv:Value) (wr:World):Prop:=
 ∃ k:Nat,k<=l.length/\kv= .int .i64 k/\Hid (∀ j,j<k->yC l j=0)/\Hid (zB wr b)/\Hid (zk wr B tv l)/\Hid (Chg (· =b) w0 wr)
theorem zjo (s:List UInt8) (w:World) (hs:zN s):Calls Tryz.prog 104 #[str s] w (zbj w (.bool (vQ s))):=by
 have h:=zmr ⟨s.toArray⟩ w (by rw [<- zm,xR];exact hs)
 rw [xR] at h
 exact h
set_option maxRecDepth 100000 in
theorem zff (b:Nat) (A:Option Addr) (n c:Nat) (l:List zR) (w:World) (hB:zB w b) (ht:vr w (.slice A n c) l):Calls Tryz.prog 60 #[.map (some b),.slice A n c] w (zd6 b (yp l) w):=by
 obtain rfl:=ht.len
 have aK:=ht.bound
 have m:=ze hB
 have y:=ze ht
 have r:=ze (Chg.refl (S:=(· =b)) w)
 clear hB ht
 go_enter func60,ntmps60
 go_wp2_with fail
 go_loopw [12] (TrmR w b w.heap.size (.slice A l.length c) l) (fun kv _=>l.length - (intOf kv).toNat)
 case atStart=>exact ⟨0,Nat.zero_le _,rfl,(fun j h=>by omega),m,y,r⟩
 case round=>
  clear m y r
  obtain ⟨k,hk,rfl,I,m,y,r⟩:=hrel
  by_cases M:k<l.length
  rotate_left
  . obtain rfl:l.length=k:=by omega
    have F:Hid (yp l=0):=Zf.2 I.o;go_wp2_with fail;go_ret;exact ⟨by rw [F.o];rfl,m.o,r.o⟩
  have aG:(k:Int)<(l.length:Int):=by omega
  obtain ⟨ad,eA,aj,L,V,ae,aw⟩:=y.o.at_ M;subst eA;have E:=zf wr (.cells #[str l[k].name,str l[k].coef] 35);have C:=ze (Blk.new wr 35 #[str l[k].name,str l[k].coef]);replace m:=ze (m.o.below E);replace y:=ze (zk.below y.o E);replace r:=ze (yh r.o E);have aC:l.getD k default=l[k]:=by simp [List.getD,List.getElem?_eq_getElem M]
  have an:=ze aC;have aE:=ze aw;have aa:=fun w=>zjo l[k].name w ae
  clear E aC ae aw
  go_upto_region 4 with fail
  clear L V aj;generalize wr.alloc (.cells #[str l[k].name,str l[k].coef] 35)=WL at C m y r |-;generalize wr.heap.size=gt at C |-;have L:=C.o.cell 0;simp at L
  cases hin:vQ l[k].name with
  | false=>
    rw [hin] at aa;have B:Hid (yC l k=5):=by show yC l k=5;unfold yC;rw [an.o,hin];rfl
    have F:Hid (yp l=5):=(xm M I.o (by rw [B.o];decide)).trans B.o;clear hin;go_wp2_with fail;refine (aa _).mono ?_;rintro e w1 ⟨rfl,rfl⟩;go_wp2_with fail;go_ret;exact ⟨by rw [F.o];rfl,m.o,r.o⟩
  | true=>
    rw [hin] at aa;have ah:=ze hin;have al:=ZG b ⟨l[k].coef.toArray⟩ WL m.o (by rw [<- zm,xR];exact aE.o);rw [xR] at al;have au:=ze al;have V:=C.o.cell 1;simp at V;clear hin al;go_wp2_with fail;refine (aa _).mono ?_;rintro e w1 ⟨rfl,rfl⟩;clear aa;go_wp2_with fail;refine au.o.mono ?_;rintro e w2 ⟨v,ok,rfl,⟨x1,A1,k1,c1,s1,y1,B1,am,ar,t1,rfl⟩,ai,hq,aB,af⟩;clear au L V;replace y:=ze (m.o.keepT af y.o);replace C:=ze (m.o.keepBlk af C.o);replace r:=ze (vm r.o af);replace m:=ze aB;have E:=zf w2 (.cells #[.int .i64 x1,.slice A1 k1 c1,.bool s1,.int .i64 y1,.slice B1 am ar,.bool t1] 55);replace m:=ze (m.o.below E);replace y:=ze (zk.below y.o E);replace C:=kb_ C E;replace r:=ze (yh r.o E);have HX:=ze E;clear aB af E
    have N:vQ l[k].name=true->xy l[k].coef≠0->yC l k=xy l[k].coef:=fun h1 h2=>by
     unfold yC;rw [an.o,h1,if_neg (by decide),if_pos h2]
    cases hr:zp l[k].coef with
    | none=>
      rw [hr] at ai;subst ai;have e4:xy l[k].coef=4:=by unfold xy;rw [hr]
      have B:Hid (yC l k=4):=(N ah.o (by rw [e4];decide)).trans e4;have F:Hid (yp l=4):=(xm M I.o (by rw [B.o];decide)).trans B.o;clear hq hr N e4;go_wp2_with fail;go_ret;exact ⟨by rw [F.o];rfl,m.o,r.o⟩
    | some q=>
      rw [hr] at ai;subst ai;have z:=ze (Blk.new w2 55 #[.int .i64 x1,.slice A1 k1 c1,.bool s1,.int .i64 y1,.slice B1 am ar,.bool t1]);have X:=ze ((hq q hr).below HX.o);have ax:=ze (zgx hr);have D:xy l[k].coef=if q=0 then 1 else if yo 12 q then 0 else 3:=by unfold xy;rw [hr]
      clear hq hr HX
      go_upto_region 7 with fail
      generalize w2.alloc (.cells #[.int .i64 x1,.slice A1 k1 c1,.bool s1,.int .i64 y1,.slice B1 am ar,.bool t1] 55)=W2 at m y C r z X |-;generalize w2.heap.size=gx at z |-;have Z:=z.o.cell 0;have r1:=z.o.cell 1;have r2:=z.o.cell 2;have r3:=z.o.cell 3;have r4:=z.o.cell 4;have Y:=z.o.cell 5;simp at Z r1 r2 r3 r4 Y;have T:=Yg _ q W2 X.o
      by_cases Q:q=0
      . have e0:ze1 q 0=0:=by subst Q;rfl
        rw [e0] at T;have ac:=ze T;rw [if_pos Q] at D;have B:Hid (yC l k=1):=(N ah.o (by rw [D];decide)).trans D;have F:Hid (yp l=1):=(xm M I.o (by rw [B.o];decide)).trans B.o;clear N D Q e0 T;go_wp2_with fail;refine ac.o.mono ?_;rintro e w3 ⟨rfl,u⟩;replace m:=ze (m.o.below u);replace r:=ze (yh r.o u);clear u ac;go_wp2_with fail;go_ret;exact ⟨by rw [F.o];rfl,m.o,r.o⟩
      obtain ⟨sg,ak⟩:∃ sg,ze1 q 0=sg:=⟨_,rfl⟩
      have d1:(sg == 0)=false:=by
       rw [beq_eq_false_iff_ne, <- ak];unfold ze1;intro h
       split at h
       . omega
       split at h
       . omega
       next h1 h2=>exact Q (Rat.le_antisymm (Rat.not_lt.1 h2) (Rat.not_lt.1 h1))
      rw [ak] at T;have ac:=ze T;rw [if_neg Q] at D;clear T ak Q;go_wp2_with fail;refine ac.o.mono ?_;rintro e w3 ⟨rfl,u⟩;replace m:=ze (m.o.below u);replace y:=ze (zk.below y.o u);replace C:=kb_ C u;replace r:=ze (yh r.o u);replace z:=kb_ z u;replace X:=ze (X.o.below u);clear u ac Z r1 r2 r3 r4 Y;have Z:=z.o.cell 0;have r1:=z.o.cell 1;have r2:=z.o.cell 2;have r3:=z.o.cell 3;have r4:=z.o.cell 4;have Y:=z.o.cell 5;simp at Z r1 r2 r3 r4 Y;have R:=zal _ q 12 w3 X.o ax.o (by omega) (by omega)
      by_cases O:yo 12 q
      rotate_left
      . rw [decide_eq_false O] at R
        rw [if_neg O] at D;have ab:=ze R;have B:Hid (yC l k=3):=(N ah.o (by rw [D];decide)).trans D;have F:Hid (yp l=3):=(xm M I.o (by rw [B.o];decide)).trans B.o;clear R O D N;go_wp2_with fail;refine ab.o.mono ?_;rintro e w4 ⟨rfl,u⟩;replace m:=ze (m.o.below u);replace r:=ze (yh r.o u);clear u ab;go_wp2_with fail;go_ret;exact ⟨by rw [F.o];rfl,m.o,r.o⟩
      rw [decide_eq_true O] at R
      rw [if_pos O] at D;have ab:=ze R;clear R O;go_wp2_with fail;refine ab.o.mono ?_;rintro e w4 ⟨rfl,u⟩;replace m:=ze (m.o.below u);replace y:=ze (zk.below y.o u);replace C:=kb_ C u;replace r:=ze (yh r.o u);clear u ab Z r1 r2 r3 r4 Y z X ax
      go_upto_region 13 with fail
      obtain ⟨G,az⟩:∃ G,G=k - 1:=⟨_,rfl⟩;have av:G<l.length:=by omega
      obtain ⟨aH,ao,aj,L,V,ae,_⟩:=y.o.at_ av;injection ao with ao
      subst ao;have aJ:max ((k:Int) - 1) 0=(G:Int):=by omega
      have aI:IntKind.i64.wrap ((k:Int) - 1)=(k:Int) - 1:=by rw [IntKind.wrap_i64];omega
      have aM:(G:Int)<(l.length:Int):=by omega
      have t0:=C.o.cell 0;simp at t0;have tL:=C.o.lt;have aL:ad.block<w4.heap.size:=Nat.lt_of_lt_of_le aj r.o.size;obtain ⟨J,ap⟩:∃ J,yS l[G].name l[k].name (decide (k=0))=J:=⟨_,rfl⟩;have aq:=fun w=>zm7 l[G].name l[k].name (decide (k=0)) w
      rw [ap] at aq;have dk:((k:Int) == 0)=decide (k=0):=by by_cases h:k=0<;>simp [h]
      have B:Hid (yC l k=J):=by
       show yC l k=J
       unfold yC;rw [an.o,ah.o,if_neg (by decide),if_neg (by rw [D];decide), <- ap];have aD:l.getD (k - 1) default=l[G]:=by rw [<- az];simp [List.getD,List.getElem?_eq_getElem av]
       rw [aD]
      have ay:=ze aq;clear ap aq D N V ae aj az;refine zt (S:=fun w' =>Hid (Below w4.heap.size w4 w')/\w'.cell? (ad.add (G*2))=some (str l[G].name)/\w'.cell? ⟨gt,0,none⟩=some (str l[k].name)) 11 1 12 rfl (by kernel_rfl) (by kernel_rfl) (by kernel_rfl) rfl (zl (zu w4) (fun hB=>⟨xD hB aL L,zh hB tL t0⟩)) ?_ (fun hHeld=>?_)
      . intro _ _ _ _ _ h9;exact h9
      simp only [List.take_succ_cons,List.take_zero]
      iterate 11 refine ye ?_
      refine zU ?_;refine HH.rd 11 (fun K hK=>?_)
      go_simp
      go_at_call 105;refine (ay.o _).mono ?_;rintro e w5 ⟨rfl,rfl⟩;have aA:=hHeld;clear hHeld;refine hK.out _ _ (zl (aA.1) (fun hB=>⟨xD hB aL L,zh hB tL t0⟩)) (fun hHeld=>?_);clear aA hK K
      try simp only [Act.put,xST]
      have ag:=(hHeld.1).out;replace m:=ze (zB.below m.o ag);replace y:=ze (zk.below y.o ag);replace r:=ze (yh r.o ag);clear ag hHeld;refine HH.done (by kernel_rfl) ?_;simp only [List.drop_succ_cons,List.drop_zero];clear L t0 tL aL ay
      by_cases U:J=0
      . have d1:(J != 0)=false:=by rw [bne_eq_false_iff_eq];exact U
        have aF:Hid (∀ j,j<k+1->yC l j=0):=fun j hj=>by
         by_cases e:j=k
         . subst e;exact B.o.trans U
         exact I.o j (by omega)
        clear U I;go_wp2_with fail;go_roundw
        case rel=>exact ⟨k+1,by omega,by go_num,aF,m,y,r⟩
        case measure=>simp [intOf];omega
      . have d1:(J != 0)=true:=by rw [bne_iff_ne];exact U
        have F:Hid (yp l=J):=(xm M I.o (by rw [B.o];exact U)).trans B.o;clear U I;go_wp2_with fail;go_ret;exact ⟨by rw [F.o];rfl,m.o,r.o⟩
set_option maxRecDepth 100000 in
theorem zss (b:Nat) (A:Option Addr) (n c:Nat) (r:zQ) (w:World) (hB:zB w b) (ht:vr w (.slice A n c) r.terms) (hs:zN r.bound):Calls Tryz.prog 32 #[.map (some b),.agg #[.slice A n c,str r.bound]] w (zd6 b (xa r) w):=by
 have y:=zf w (.cells #[.slice A n c,str r.bound] 33)
 obtain ⟨F,D⟩:∃ x,x=w.alloc (.cells #[.slice A n c,str r.bound] 33):=⟨_,rfl⟩
 have C:=Blk.new w 33 #[.slice A n c,str r.bound]
 rw [<- D] at y C
 have B:=ze C
 have j:=ze (hB.below y)
 have u:Hid (Chg (· =b) w F):=Chg.of_below y
 have M:=zff b A n c r.terms F j.o ((zk.below ht y).more y.size)
 have G:=fun w' (h:zB w' b)=>zmd b r.bound w' h hs
 have L:=ze G
 have I:=ze M
 clear hB ht hs y C M G
 go_enter func32,ntmps32
 go_upto_region 1 with fail
 rw [<- D]
 clear D
 generalize w.heap.size=gr at B |-
 have K:=B.o.cell 0
 simp at K
 go_wp2_with fail
 refine I.o.mono ?_
 rintro e w1 ⟨rfl,z,l⟩
 replace B:=ze (j.o.keepBlk l B.o)
 replace u:=ze (vm u.o l)
 replace j:=ze z
 clear z l I K
 by_cases m:yp r.terms=0
 . have d1:(yp r.terms != 0)=false:=by rw [bne_eq_false_iff_eq];exact m
   have E:=ze (show xa r=yG r.bound by unfold xa;rw [if_neg (by rw [m];decide)]);have J:=B.o.cell 1;simp at J;clear m;go_wp2_with fail;refine (L.o _ j.o).mono ?_;rintro e N ⟨rfl,z,l⟩;replace u:=ze (vm u.o l);replace j:=ze z;clear z l L J;go_wp2_with fail;go_ret;exact ⟨by rw [E.o];rfl,j.o,u.o⟩
 have d1:(yp r.terms != 0)=true:=by rw [bne_iff_ne];exact m
 have E:=ze (show xa r=yp r.terms by unfold xa;rw [if_pos m]);clear m;go_wp2_with fail;go_ret;exact ⟨by rw [E.o];rfl,j.o,u.o⟩
end Go.Proofs.YthbmhkiphmcogaaGreatDoor
