/- Parts of the proof. -/
import Derived.Test.YthbmhkiphmcogaaGreatDoorMe29
set_option linter.all false
set_option maxHeartbeats 32000000
namespace Go.Proofs.YthbmhkiphmcogaaGreatDoor
open Proofs.Tryz Go.RowKit Go.Deep
attribute [local go_sem ↓] Go.wp_at_zero Go.wp_at_succ
theorem zji {q:Rat} (h:0<q):q.num.sign=1:=Int.sign_eq_one_of_pos (by
 have:=(Rat.lt_iff 0 q).1 h
 simpa using this)
theorem zjk {q:Rat} (h:q<0):q.num.sign= -1:=Int.sign_eq_neg_one_of_neg (by
 have:=(Rat.lt_iff q 0).1 h
 simpa using this)
theorem XX.below {w w' :World} {B:Nat} {t:TypeId} {cs:Array Value} {v:Value} (h:XX w B t cs v) (hb:Below w.heap.size w w'):XX w' B t cs v:=by
 obtain ⟨g,e,b,j⟩:=h
 exact ⟨g,e,b.below hb b.lt,j⟩
def WoA (B:Nat) (x y:Rat):Nat->Value->World->Prop
 | 5,v,w=>xf w v x
 | 11,v,w=>xf w v y
 | _,v,w=>XX w B 64 #[.bool false,.slice none 0 0,.slice none 0 0] v
theorem WoA.keep {B:Nat} {x y:Rat} {i:Nat} {v:Value} {w w' :World} (hb:Below w.heap.size w w') (h:WoA B x y i v w):WoA B x y i v w' :=by
 unfold WoA at h |-
 split at h
 . exact h.below hb
 . exact h.below hb
 . exact h.below hb
theorem WoA.fresh {B:Nat} {x y:Rat} {i:Nat} {v:Value} {w:World} (hi:[12,13].contains i=true) (h:WoA B x y i v w):zbp v<w.heap.size:=by
 have:i=12\/i=13:=by simpa using hi
 rcases this with rfl | rfl<;>exact XX.lt h
def ztr (w:World) (B:Nat) (r:zQ) (v:Value):Prop:=∃ g At ct,v= .slice (some ⟨g,0,none⟩) 1 1/\Blk w g 33 #[.slice At r.terms.length ct,str r.bound]/\zec w B (.slice At r.terms.length ct) r.terms
theorem zec.ext_ {w w' :World} {B:Nat} {v:Value} {l:List zR} (h:zec w B v l) (hb:Below w.heap.size w w'):zec w' B v l:=h.chg (S:=fun _=>False) (Chg.of_below hb) (fun _ h=>h.elim) (fun _ _ h=>h.elim)
def WoB (B:Nat) (p q:zQ) (x y:Rat) (ws:Nat->Rat) (r:zQ):Nat->Value->World->Prop
 | 9,v,w=>(∃ A c,v= .slice A 2 c)/\yN w v [p,q]
 | 10,v,w=>xf w v 1
 | 11,v,w=>xf w v x
 | 12,v,w=>xf w v (1 / x)
 | 13,v,w=>xf w v 1
 | 14,v,w=>xf w v y
 | 15,v,w=>xf w v (-y)
 | 16,v,w=>xf w v (1 / -y)
 | 17,v,w=>zit w v 2 ws
 | 18,v,w=>∃ At ct,v= .agg #[.slice At r.terms.length ct,str r.bound]/\zec w B (.slice At r.terms.length ct) r.terms
 | _,v,w=>ztr w B r v
theorem WoB.keep {B:Nat} {p q:zQ} {x y:Rat} {ws:Nat->Rat} {r:zQ} {i:Nat} {v:Value} {w w' :World} (hb:Below w.heap.size w w') (h:WoB B p q x y ws r i v w):WoB B p q x y ws r i v w' :=by
 unfold WoB at h |-
 split at h
 . exact ⟨h.1,(zT.below h.2 hb).more hb.size⟩
 . exact h.below hb
 . exact h.below hb
 . exact h.below hb
 . exact h.below hb
 . exact h.below hb
 . exact h.below hb
 . exact h.below hb
 . exact h.below hb
 . obtain ⟨j,l,e,b⟩:=h
   exact ⟨j,l,e,b.ext_ hb⟩
 . obtain ⟨g,j,l,e,b,m⟩:=h
   exact ⟨g,j,l,e,b.below hb b.lt,m.ext_ hb⟩
theorem zls (w:World):Calls Tryz.prog 46 #[.int .i64 1] w (Vc w 1):=ze9 1 w (by omega)
theorem zso:XE 8388608 (1:Rat):=by
 have h:len 1000000000 1<=1:=yv (by omega) (by omega)
 exact ⟨Nat.le_trans (show len 1000000000 (1:Rat).num.natAbs<=1 from h) (by omega),Nat.le_trans (show len 1000000000 (1:Rat).den<=1 from h) (by omega)⟩
def WoR (w0:World) (rv:Value) (rows:List zQ) (s:List UInt8) (ov iv:Value) (wr:World):Prop:=
 ∃ (i:Nat) (vo:Value),i<=rows.length/\iv= .int .i64 i/\vo=ov/\Hid (WoK w0 wr rv vo rows (Zr s (rows.take i)))
def WoP (w0:World) (rv:Value) (rows:List zQ) (s:List UInt8) (ov iv:Value) (wr:World):Prop:=
 ∃ (i:Nat) (vo:Value),i<=rows.length/\iv= .int .i64 i/\vo=ov/\Hid (WoK w0 wr rv vo rows (wpQ s rows i 0))
def WoQ (w0:World) (rv:Value) (rows:List zQ) (s:List UInt8) (i:Nat) (ov kv:Value) (wr:World):Prop:=
 ∃ (k:Nat) (vo:Value),k<=rows.length/\kv= .int .i64 k/\vo=ov/\Hid (WoK w0 wr rv vo rows (wpQ s rows i k))
set_option maxRecDepth 100000 in
theorem zju (A:Option Addr) (n c:Nat) (rows:List zQ) (s:List UInt8) (w:World) (J:yN w (.slice A n c) rows) (ho:zx4 rows s):
 Calls Tryz.prog 20 #[.slice A n c,str s] w (zyi w rows s):=by
 obtain rfl:=J.len
 have h8:=ho.few
 have Z:=ze ho
 have j:Hid (WoK w w (.slice A rows.length c) (.slice none 0 0) rows (Zr s (rows.take 0))):=⟨J,ZR.nil _ _,Below.refl _ _⟩
 clear J ho
 go_enter func20,ntmps20
 go_wp2_with fail
 go_loopw [5,6] (WoR w (.slice A rows.length c) rows s) (fun _ iv _=>rows.length - (intOf iv).toNat)
 case atStart=>exact ⟨0,_,Nat.zero_le _,rfl,rfl,j⟩
 case round=>
  clear j
  obtain ⟨i,vo,hi,rfl,rfl,j⟩:=hrel
  by_cases I:i<rows.length
  . have bN:(i:Int)<(rows.length:Int):=by omega
    have ca:IntKind.i64.wrap ((i:Int)+1)=((i+1:Nat):Int):=by rw [IntKind.wrap_i64];omega
    obtain ⟨B,Ai,ni,ci,G,au,p0,p1,F,ac⟩:=j.o.rows.at_ I;subst G;obtain rfl:=F.len;have bA:=ze (zad Ai _ ci w.heap.size rows[i].terms rows[i].bound s wr F j.o.below.size (Z.o.coef _ (List.getElem_mem I)));have HT:=ze F;clear F ac;go_wp2_with fail;refine bA.o.mono ?_;rintro e w2 ⟨v,rfl,D,C⟩;replace j:=ze (j.o.ext_ C);replace HT:=ze (zk.below HT.o C);have HV:=ze D;clear D C bA p0 p1;obtain ⟨x,a9⟩:∃ x,x=xU rows[i].terms s:=⟨_,rfl⟩;rw [<- a9] at HV;have bc:=vR (s:=s) I;rw [<- a9] at bc;have az:=ze bc;clear a9 bc;go_wp2_with fail;refine (X9 _ x _ HV.o).mono ?_;rintro e w3 ⟨rfl,T⟩;replace j:=ze (j.o.ext_ T);replace HT:=ze (zk.below HT.o T);clear T HV
    by_cases hz:x=0
    rotate_left
    . have ag:¬ x.num.sign=0:=fun e=>hz ((Yr _).1 e)
      obtain ⟨σ,hσ⟩:∃ σ,σ=x.num.sign:=⟨_,rfl⟩;rw [<- hσ] at ag |-
      have J:Zr s (rows.take (i+1))=Zr s (rows.take i):=by
       rcases VK x with h | h | h
       . exact (az.o.2.2 h).1
       . exact absurd h hz
       . exact (az.o.2.1 h).1
      have N:Hid (WoK w w3 (.slice (some B) rows.length c) vo rows (Zr s (rows.take (i+1)))):=ze (by rw [J];exact j.o);clear hσ hz J az HT j;go_wp2_with fail;go_roundw
      case rel=>exact ⟨i+1,_,by omega,by go_num,rfl,N⟩
      case measure=>simp [intOf];omega
    rw [(Yr _).2 hz]
    have bP:=ze (az.o.1 hz).1;clear hz az HT;obtain ⟨bd,Aj,nj,cj,G,aA,p0,p1,F,ac⟩:=j.o.rows.at_ I;injection G with G
    subst G;obtain rfl:=F.len;have aH:=yJ (a:=.slice Aj rows[i].terms.length cj) (b:=str rows[i].bound) (p:=fun u=>u.oneCell' =true) rfl rfl;have aE:=yJ (a:=.slice Aj rows[i].terms.length cj) (b:=str rows[i].bound) (p:=Z0) (zM _ _ _) (yq _)
    have ay:∀ u∈(Value.agg #[.slice none 0 0,.string ⟨#[]⟩]).cells,Z0 u:=by
     intro u hu;simp [Value.cells] at hu;rcases hu with rfl | rfl
     . exact zM _ _ _
     . exact yq _
    obtain ⟨i1,be,ba,a7,aX⟩:=info_parts X8;have aD:=ZI (w:=w3) (t:=33) (a:=.slice Aj rows[i].terms.length cj) (b:=str rows[i].bound);have m:=zf w3 (.cells #[.slice Aj rows[i].terms.length cj,str rows[i].bound] 33);have aa:=ze (j.o.ext_ m);have bB:Hid (zec _ w.heap.size _ rows[i].terms):=ze (.inl (zk.below F m));obtain ⟨H,ax,hH⟩:=aa.o.o;have aT:=vB (fun r=>decide (xU r.terms s=0)) (rows.take i);rw [List.length_take] at aT;clear m F ac;go_wp2_with (at_builtin;go_must (refine zS (P:=Tryz.prog) rfl (.tmp 25) (.tmp 30) _ rfl w.heap.size 33 i1 _ 2 40 underlying22 be ba a7 aX rfl (by omega) _ _ _ rfl ax ⟨w3.heap.size,0,none⟩ 1 1 [.slice Aj rows[i].terms.length cj,str rows[i].bound] rfl rfl (by omega) aD aH aE ay ?o4 ?o5 ?o6 ?_))
    case o4=>unfold maxLen;unfold Zr;omega
    case o5=>unfold Zr;omega
    case o6=>exact aa.o.below.size
    intro v3 w6 av aB a3;have N:=ze (aa.o.push hH av aB bB.o);rw [<- bP.o] at N;clear av aB a3 ax hH j aa bB aD aH aE ay aT p0 p1 au aA;go_wp2_with fail;go_roundw
    case rel=>exact ⟨i+1,_,by omega,by go_num,rfl,N⟩
    case measure=>simp [intOf];omega
  obtain rfl:rows.length=i:=by omega
  rw [List.take_length, <- zt7 s rows] at j;go_wp2_with fail
  go_loopw [5,7] (WoP w (.slice A rows.length c) rows s) (fun _ iv _=>rows.length - (intOf iv).toNat)
  case atStart=>exact ⟨0,_,Nat.zero_le _,rfl,rfl,j⟩
  case round=>
   clear j;obtain ⟨i,vo,hi,rfl,rfl,j⟩:=hrel
   by_cases I:i<rows.length
   rotate_left
   . obtain rfl:rows.length=i:=by omega
     rw [zxe] at j;obtain ⟨Az,cz,rfl⟩:=j.o.o.form;go_wp2_with fail;go_ret
     have hl:(vz rows s).length<=800:=by
      unfold vz;rw [List.length_append,List.length_map,zcz];exact Z.o.tot
     refine ⟨Az,cz,rfl,j.o.o.rows j.o.below.size (by omega) (fun r J=>?_),j.o.below⟩;unfold vz at J
     rcases List.mem_append.1 J with h | h
     . exact Z.o.bnd r (List.mem_filter.1 h).1
     . obtain ⟨x,m,rfl⟩:=List.mem_map.1 h
       obtain ⟨p,hp,hq⟩:=List.mem_flatMap.1 m;obtain ⟨q',b9,rfl⟩:=List.mem_map.1 hq;exact Z.o.out p hp q' b9
   have bN:(i:Int)<(rows.length:Int):=by omega
   have ca:IntKind.i64.wrap ((i:Int)+1)=((i+1:Nat):Int):=by rw [IntKind.wrap_i64];omega
   go_wp2_with fail
   go_loopw [5,8] (WoQ w (.slice A rows.length c) rows s i) (fun _ iv _=>rows.length - (intOf iv).toNat)
   case atStart=>exact ⟨0,_,Nat.zero_le _,rfl,rfl,j⟩
   case round=>
    clear j;obtain ⟨k,vo,hk,rfl,rfl,j⟩:=hrel
    by_cases ai:k<rows.length
    rotate_left
    . obtain rfl:rows.length=k:=by omega
      rw [zvo I] at j;go_wp2_with fail;go_roundw
      case rel=>exact ⟨i+1,_,by omega,by go_num,rfl,j⟩
      case measure=>simp [intOf];omega
    have cb:(k:Int)<(rows.length:Int):=by omega
    have cd:IntKind.i64.wrap ((k:Int)+1)=((k+1:Nat):Int):=by rw [IntKind.wrap_i64];omega
    obtain ⟨B,Ai,ni,ci,G,au,p0,p1,F,ac⟩:=j.o.rows.at_ I;obtain ⟨bd,Ak,nk,ck,bv,aA,q0,q1,aj,aS⟩:=j.o.rows.at_ ai;have a6:=G.symm.trans bv;injection a6 with a6
    subst a6;subst G;obtain rfl:=F.len;obtain rfl:=aj.len;have M:B.block<wr.heap.size:=Nat.lt_of_lt_of_le au j.o.below.size;have ap:=ze F;have aq:=ze aj;clear F aj ac aS bv au aA
    go_upto_region 13 with fail
    have E:=ze (fun (w' :World) (hB:Below wr.heap.size wr w')=>(⟨ze hB,xD (ze hB) M p0,XT (ze hB) M p1,xD (ze hB) M q0,XT (ze hB) M q1⟩:Hid (Below wr.heap.size wr w')/\w'.cell? (B.add (i*2))=some (.slice Ai rows[i].terms.length ci)/\w'.cell? ⟨(B.add (i*2)).block,(B.add (i*2)).off+1,none⟩=some (str rows[i].bound)/\w'.cell? (B.add (k*2))=some (.slice Ak rows[k].terms.length ck)/\w'.cell? ⟨(B.add (k*2)).block,(B.add (k*2)).off+1,none⟩=some (str rows[k].bound)));refine zJ (S:=(fun w' =>Hid (Below wr.heap.size wr w')/\w'.cell? (B.add (i*2))=some (.slice Ai rows[i].terms.length ci)/\w'.cell? ⟨(B.add (i*2)).block,(B.add (i*2)).off+1,none⟩=some (str rows[i].bound)/\w'.cell? (B.add (k*2))=some (.slice Ak rows[k].terms.length ck)/\w'.cell? ⟨(B.add (k*2)).block,(B.add (k*2)).off+1,none⟩=some (str rows[k].bound))) 14 (by kernel_rfl) (by kernel_rfl) (E.o _ (zu wr).out) (fun hHeld=>?_);refine HH.tk 0 ?_;refine HH.tk 1 ?_;refine HH.tk 2 ?_;refine HH.tk 3 ?_;refine HH.tk 4 ?_;refine HH.tk 6 ?_;refine HH.tk 7 ?_;refine HH.tk 8 ?_;refine HH.tk 9 ?_
    refine HH.tk 10 ?_;refine HH.og [(5,49),(11,55),(12,9),(13,10)] [12,13] (WoA w.heap.size (xU rows[i].terms s) (xU rows[k].terms s)) (fun w w' =>Below w.heap.size w w') hHeld (fun i v w w' h h' hb J=>J.keep hb) (fun w w' h=>h.size) (fun i v w hi h=>h.fresh hi) (yM (xh.mk (fun us w1 hS hdep K hK=>?_)) (yM (xh.mk (fun us w1 hS hdep K hK=>?_)) (yM (xh.mk (fun us w1 hS hdep K hK=>?_)) (yM (xh.mk (fun us w1 hS hdep K hK=>?_)) zlz)))) (fun us w1 hS hR hA=>?_)
    . simp only [ZP,Act.put,xST] at hK |-
      constructor
      go_simp
      refine (zad Ai _ ci w.heap.size rows[i].terms rows[i].bound s w1 (zk.below ap.o hS.1.out) (Nat.le_trans j.o.below.size hS.1.out.size) (Z.o.coef _ (List.getElem_mem I))).mono ?_;rintro e w2 ⟨v,rfl,D,C⟩;exact hK _ _ ⟨v,rfl,E.o _ (ext hS.1.out C),C,D,fun h=>by cases h⟩
    . simp only [ZP,Act.put,xST] at hK |-
      constructor
      go_simp
      refine (zad Ak _ ck w.heap.size rows[k].terms rows[k].bound s w1 (zk.below aq.o hS.1.out) (Nat.le_trans j.o.below.size hS.1.out.size) (Z.o.coef _ (List.getElem_mem ai))).mono ?_;rintro e w2 ⟨v,rfl,D,C⟩;exact hK _ _ ⟨v,rfl,E.o _ (ext hS.1.out C),C,D,fun h=>by cases h⟩
    . simp only [ZP,Act.put,xST] at hK |-
      constructor
      go_simp
      have m:=zf w1 (.cells #[.bool false,.slice none 0 0,.slice none 0 0] 64);exact hK _ _ ⟨_,rfl,E.o _ (ext hS.1.out m),m,⟨w1.heap.size,rfl,Blk.new w1 _ _,Nat.le_trans j.o.below.size hS.1.out.size⟩,fun h=>Nat.le_refl _⟩
    . simp only [ZP,Act.put,xST] at hK |-
      constructor
      go_simp
      have m:=zf w1 (.cells #[.bool false,.slice none 0 0,.slice none 0 0] 64);exact hK _ _ ⟨_,rfl,E.o _ (ext hS.1.out m),m,⟨w1.heap.size,rfl,Blk.new w1 _ _,Nat.le_trans j.o.below.size hS.1.out.size⟩,fun h=>Nat.le_refl _⟩
    . have h5:xf w1 (us 5) (xU rows[i].terms s):=hR (5,49) (by simp)
      have ak:xf w1 (us 11) (xU rows[k].terms s):=hR (11,55) (by simp);obtain ⟨V,e9,U,bk⟩:XX w1 w.heap.size 64 #[.bool false,.slice none 0 0,.slice none 0 0] (us 12):=hR (12,9) (by simp);obtain ⟨al,aW,ae,bD⟩:XX w1 w.heap.size 64 #[.bool false,.slice none 0 0,.slice none 0 0] (us 13):=hR (13,10) (by simp)
      have br:V≠al:=by
       have:=hA (12,9) (by simp) (13,10) (by simp) rfl rfl (by decide);rw [e9,aW] at this;exact this
      obtain ⟨aC,X1,a1,b1,Y1,c1,d1,e5⟩:=h5.form7;obtain ⟨bE,X2,a2,b2,Y2,c2,d2,a4⟩:=ak.form7;simp only [ZP,Act.put,List.setIfInBounds_toArray,List.set_cons_zero,List.set_cons_succ,List.drop_succ_cons,List.drop_zero];rw [e5,a4,e9,aW];rw [e5] at h5;rw [a4] at ak;obtain ⟨x,a5⟩:∃ x,x=xU rows[i].terms s:=⟨_,rfl⟩;obtain ⟨y,aY⟩:∃ y,y=xU rows[k].terms s:=⟨_,rfl⟩;rw [<- a5] at h5;rw [<- aY] at ak;have am:=ze a5;have ar:=ze aY;have ao:Chg (· =V) w1 (World.ref w1 V aC X1 a1 b1 Y1 c1 d1):=zcy;have aJ:=ao.blk ae (fun e=>br e.symm);have bu:=NBx.made U h5;have aw:Chg (· =al) (World.ref w1 V aC X1 a1 b1 Y1 c1 d1) (World.ref (World.ref w1 V aC X1 a1 b1 Y1 c1 d1) al bE X2 a2 b2 Y2 c2 d2):=zcy;have bo:=j.o.ext_ hS.1.out;have bF:∀ z,z=V->zf4 w1 z:=fun z e=>by subst e;exact U.noI64 (zn7 _ _ _ _ _ _ _)
      have bs:∀ z,z=al->zf4 (World.ref w1 V aC X1 a1 b1 Y1 c1 d1) z:=fun z e=>by subst e;exact aJ.noI64 (zn7 _ _ _ _ _ _ _)
      have R:=ze (bu.chg aw br bs);have Q:=ze (NBx.made aJ (ao.ref ak bF));replace j:=ze ((bo.num U bk ao).num aJ bD aw);have ah:=ze ((((zk.below ap.o hS.1.out).chg ao (fun x m e=>by omega))).chg aw (fun x m e=>by omega));have af:=ze ((((zk.below aq.o hS.1.out).chg ao (fun x m e=>by omega))).chg aw (fun x m e=>by omega));have a0:=U.cell 0;have aU :=U.cell 1;have aN :=U.cell 2;have f0:=U.frozen 0;have f1:=U.frozen 1;have f2:=U.frozen 2;have b0:=ae.cell 0;have aM :=ae.cell 1;have aO :=ae.cell 2;have d0:=ae.frozen 0;have aZ :=ae.frozen 1;have bf :=ae.frozen 2;simp at a0 aU aN b0 aM aO;clear hS hR hA hHeld h5 ak e5 a4 e9 aW bk bD ao aw bu aJ U ae bo bF bs ap aq p0 p1 q0 q1 M a5 aY E
      go_upto_region 14 with fail
      obtain ⟨W2,aK⟩:∃ W2,W2=World.ref (World.ref w1 V aC X1 a1 b1 Y1 c1 d1) al bE X2 a2 b2 Y2 c2 d2:=⟨_,rfl⟩;rw [<- aK] at R Q j ah af;simp only [World.ref] at aK;rw [<- aK];clear aK a0 aU aN b0 aM aO f0 f1 f2 d0 aZ bf;obtain ⟨ng,X,n1,c8,Y,n2,c9,ab,aF⟩:=R.o;have aG:=ze aF;have o0:=ab.cell 0;have o1:=ab.cell 1;have o2:=ab.cell 2;simp at o0 o1 o2;clear ab aF;go_wp2_with fail;refine (X9 _ x _ aG.o).mono ?_;rintro e w3 ⟨rfl,T⟩;replace j:=ze (j.o.ext_ T);replace R:=ze (R.o.below T);replace Q:=ze (Q.o.below T);replace ah:=ze (zk.below ah.o T);replace af:=ze (zk.below af.o T);clear T o0 o1 o2 aG
      by_cases m:0<x
      rotate_left
      . have ag:¬ x.num.sign>0:=fun e=>m (by
         rcases VK x with h | h | h
         . rw [zjk h] at e;exact absurd e (by decide)
         . rw [h] at e;exact absurd e (by decide)
         . exact h)
        obtain ⟨σ,hσ⟩:∃ σ,σ=x.num.sign:=⟨_,rfl⟩;rw [<- hσ] at ag |-;have bX:decide (σ>0)=false:=decide_eq_false ag;have cc:decide (0<σ)=false:=decide_eq_false ag;clear hσ;have N:Hid (WoK w w3 (.slice (some B) rows.length c) vo rows (wpQ s rows i (k+1))):=ze (by rw [zs8 I ai (fun h=>m (by rw [am.o];exact h.1))];exact j.o);clear j R Q ah af;go_wp2_with fail;go_roundw
        case rel=>exact ⟨k+1,_,by omega,by go_num,rfl,N⟩
        case measure=>simp [intOf];omega
      rw [zji m]
      have aQ:=ze m;clear m;obtain ⟨ng,X,n1,c8,Y,n2,c9,ab,aF⟩:=Q.o;have aG:=ze aF;have o0:=ab.cell 0;have o1:=ab.cell 1;have o2:=ab.cell 2;simp at o0 o1 o2;clear ab aF;go_wp2_with fail;refine (X9 _ y _ aG.o).mono ?_;rintro e w4 ⟨rfl,an⟩;replace j:=ze (j.o.ext_ an);replace R:=ze (R.o.below an);replace Q:=ze (Q.o.below an);replace ah:=ze (zk.below ah.o an);replace af:=ze (zk.below af.o an);clear an o0 o1 o2 aG
      by_cases hy:y<0
      rotate_left
      . have ag:¬ y.num.sign<0:=fun e=>hy (by
         rcases VK y with h | h | h
         . exact h
         . rw [h] at e;exact absurd e (by decide)
         . rw [zji h] at e;exact absurd e (by decide))
        obtain ⟨σ,hσ⟩:∃ σ,σ=y.num.sign:=⟨_,rfl⟩;rw [<- hσ] at ag |-;have bX:decide (σ<0)=false:=decide_eq_false ag;clear hσ;have N:Hid (WoK w w4 (.slice (some B) rows.length c) vo rows (wpQ s rows i (k+1))):=ze (by rw [zs8 I ai (fun h=>hy (by rw [ar.o];exact h.2))];exact j.o);clear j R Q ah af;go_wp2_with fail;go_roundw
        case rel=>exact ⟨k+1,_,by omega,by go_num,rfl,N⟩
        case measure=>simp [intOf];omega
      rw [zjk hy]
      have aI:=ze hy;clear hy
      go_upto_region 15 with fail
      obtain ⟨bd,Aj,nj,cj,G,au,p0,p1,F,ac⟩:=j.o.rows.at_ I;injection G with G
      subst G;obtain ⟨bd,Am,nm,cm,G,aA,q0,q1,aj,aS⟩:=j.o.rows.at_ ai;injection G with G
      subst G;obtain rfl:=F.len;obtain rfl:=aj.len;have M:B.block<w4.heap.size:=Nat.lt_of_lt_of_le au j.o.below.size;have ap:=ze F;have aq:=ze aj;have bi:=ze ac;have bl:=ze aS;have bp:rows[i]∈upQ s rows:=List.mem_filter.2 ⟨List.getElem_mem I,by rw [<- am.o];simpa using aQ.o⟩;have bG:rows[k]∈dnQ s rows:=List.mem_filter.2 ⟨List.getElem_mem ai,by rw [<- ar.o];simpa using aI.o⟩;have bx:=ze (Z.o.join _ bp _ bG);have bn:=ze (show XE 8388608 x by rw [am.o];exact Z.o.vl _ (List.getElem_mem I));have bj:=ze (show XE 8388608 (-y) by rw [ar.o];exact XE.neg (Z.o.vl _ (List.getElem_mem ai)));have bg:=ze (show XE 8388608 (1:Rat) from zso);have bm:=ze (show x≠0 from fun e=>by have:=aQ.o;rw [e] at this;exact Rat.lt_irrefl this)
      have bC:=ze (show -y≠0 from fun e=>by
       have h1:y=0:=by have:=congrArg (fun z:Rat=> -z) e;simpa using this
       have:=aI.o;rw [h1] at this
       exact Rat.lt_irrefl this)
      have bh:Hid (xi rows[i] rows[k] s 0=1 / x/\xi rows[i] rows[k] s 1=1 / -y):=ze ⟨by unfold xi;rw [if_pos rfl, <- am.o],by unfold xi;rw [if_neg (by decide), <- ar.o]⟩;have E:=ze (fun (w' :World) (hB:Below w4.heap.size w4 w')=>(⟨ze hB,⟨xD (ze hB) M p0,XT (ze hB) M p1,xD (ze hB) M q0,XT (ze hB) M q1⟩,ze (R.o.below hB),ze (Q.o.below hB)⟩:Hid (Below w4.heap.size w4 w')/\(w'.cell? (B.add (i*2))=some (.slice Aj rows[i].terms.length cj)/\w'.cell? ⟨(B.add (i*2)).block,(B.add (i*2)).off+1,none⟩=some (str rows[i].bound)/\w'.cell? (B.add (k*2))=some (.slice Am rows[k].terms.length cm)/\w'.cell? ⟨(B.add (k*2)).block,(B.add (k*2)).off+1,none⟩=some (str rows[k].bound))/\Hid (NBx w' V x)/\Hid (NBx w' al y)));clear F aj ac aS aA ah af
      refine zJ (S:=(fun w' =>Hid (Below w4.heap.size w4 w')/\(w'.cell? (B.add (i*2))=some (.slice Aj rows[i].terms.length cj)/\w'.cell? ⟨(B.add (i*2)).block,(B.add (i*2)).off+1,none⟩=some (str rows[i].bound)/\w'.cell? (B.add (k*2))=some (.slice Am rows[k].terms.length cm)/\w'.cell? ⟨(B.add (k*2)).block,(B.add (k*2)).off+1,none⟩=some (str rows[k].bound))/\Hid (NBx w' V x)/\Hid (NBx w' al y))) 20 (by kernel_rfl) (by kernel_rfl) (E.o _ (zu w4).out) (fun hHeld=>?_);refine HH.tk 0 ?_;refine HH.tk 1 ?_;refine HH.tk 2 ?_;refine HH.tk 3 ?_;refine HH.tk 4 ?_;refine HH.tk 5 ?_;refine HH.tk 6 ?_;refine HH.tk 7 ?_;refine HH.tk 8 ?_
      refine HH.og [(9,73),(10,74),(11,75),(12,76),(13,77),(14,78),(15,79),(16,80),(17,81),(18,82),(19,83)] [] (WoB w.heap.size rows[i] rows[k] x y (xi rows[i] rows[k] s) (xz rows[i] rows[k] s)) (fun w w' =>Below w.heap.size w w') hHeld (fun i v w w' h h' hb J=>J.keep hb) (fun w w' h=>h.size) (fun i v w hi h=>by cases hi) (yM (xh.mk (fun us w1 hS hdep K hK=>?_)) (yM (xh.mk (fun us w1 hS hdep K hK=>?_)) (yM (xh.mk (fun us w1 hS hdep K hK=>?_)) (yM (xh.mk (fun us w1 hS hdep K hK=>?_)) (yM (xh.mk (fun us w1 hS hdep K hK=>?_)) (yM (xh.mk (fun us w1 hS hdep K hK=>?_)) (yM (xh.mk (fun us w1 hS hdep K hK=>?_)) (yM (xh.mk (fun us w1 hS hdep K hK=>?_)) (yM (xh.mk (fun us w1 hS hdep K hK=>?_)) (yM (xh.mk (fun us w1 hS hdep K hK=>?_)) (yM (xh.mk (fun us w1 hS hdep K hK=>?_)) zlz))))))))))) (fun us w1 hS hR hA=>?_)
      . simp only [ZP,Act.put,xST] at hK |-
        constructor
        go_simp
        have m:=zf w1 (.cells #[.slice Aj rows[i].terms.length cj,str rows[i].bound,.slice Am rows[k].terms.length cm,str rows[k].bound] 33);exact hK _ _ ⟨_,rfl,E.o _ (ext hS.1.out m),m,⟨⟨_,_,rfl⟩,zku (zk.below ap.o hS.1.out) (zk.below aq.o hS.1.out) (Nat.le_trans j.o.below.size hS.1.out.size) bi.o bl.o⟩,fun h=>by cases h⟩
      . simp only [ZP,Act.put,xST] at hK |-
        constructor
        go_simp
        refine (zls w1).mono ?_;rintro e w2 ⟨v,rfl,D,C⟩;exact hK _ _ ⟨_,rfl,E.o _ (ext hS.1.out C),C,D,fun h=>by cases h⟩
      . obtain ⟨ng,X,n1,c8,Y,n2,c9,hk,D⟩:=hS.2.2.1.out
        have e0:=hk.cell 0;have e1:=hk.cell 1;have e2:=hk.cell 2;simp at e0 e1 e2;simp only [ZP,Act.put,xST] at hK |-
        constructor
        go_simp
        exact hK _ _ ⟨_,rfl,E.o _ (ext hS.1.out (Below.refl w1.heap.size w1)),(Below.refl w1.heap.size w1),D,fun h=>by cases h⟩
      . have bY:xf w1 (us 10) 1:=hdep 10 (by kernel_rfl)
        have ak:xf w1 (us 11) (x):=hdep 11 (by kernel_rfl);simp only [ZP,Act.put,xST] at hK |-
        constructor
        go_simp
        refine (zby _ _ 1 (x) w1 bY ak bg.o bn.o bm.o).mono ?_;rintro e w2 ⟨v,rfl,D,C⟩;exact hK _ _ ⟨_,rfl,E.o _ (ext hS.1.out C),C,D,fun h=>by cases h⟩
      . simp only [ZP,Act.put,xST] at hK |-
        constructor
        go_simp
        refine (zls w1).mono ?_;rintro e w2 ⟨v,rfl,D,C⟩;exact hK _ _ ⟨_,rfl,E.o _ (ext hS.1.out C),C,D,fun h=>by cases h⟩
      . obtain ⟨ng,X,n1,c8,Y,n2,c9,hk,D⟩:=hS.2.2.2.out
        have e0:=hk.cell 0;have e1:=hk.cell 1;have e2:=hk.cell 2;simp at e0 e1 e2;simp only [ZP,Act.put,xST] at hK |-
        constructor
        go_simp
        exact hK _ _ ⟨_,rfl,E.o _ (ext hS.1.out (Below.refl w1.heap.size w1)),(Below.refl w1.heap.size w1),D,fun h=>by cases h⟩
      . have bZ:xf w1 (us 14) y:=hdep 14 (by kernel_rfl)
        simp only [ZP,Act.put,xST] at hK |-
        constructor
        go_simp
        refine (zjy _ y w1 bZ).mono ?_;rintro e w2 ⟨v,rfl,D,C⟩;exact hK _ _ ⟨_,rfl,E.o _ (ext hS.1.out C),C,D,fun h=>by cases h⟩
      . have bQ:xf w1 (us 13) 1:=hdep 13 (by kernel_rfl)
        have b4:xf w1 (us 15) (-y):=hdep 15 (by kernel_rfl);simp only [ZP,Act.put,xST] at hK |-
        constructor
        go_simp
        refine (zby _ _ 1 (-y) w1 bQ b4 bg.o bj.o bC.o).mono ?_;rintro e w2 ⟨v,rfl,D,C⟩;exact hK _ _ ⟨_,rfl,E.o _ (ext hS.1.out C),C,D,fun h=>by cases h⟩
      . have aP:xf w1 (us 12) (1 / x):=hdep 12 (by kernel_rfl)
        have aR:xf w1 (us 16) (1 / -y):=hdep 16 (by kernel_rfl);obtain ⟨b8,bJ,aU,aM,bR,bW,aZ,bH⟩:=aP.form7;obtain ⟨bT,bK,aN,aO,bL,bM,bf,bI⟩:=aR.form7;simp only [ZP,Act.put,xST] at hK |-;rw [bH] at aP hK |-;rw [bI] at aR hK |-;rw [<- bh.o.1] at aP;rw [<- bh.o.2] at aR
        constructor
        go_simp
        have m:=zf w1 (.cells #[.bool b8,.slice bJ aU aM,.slice bR bW aZ,.bool bT,.slice bK aN aO,.slice bL bM bf] 64);exact hK _ _ ⟨_,rfl,E.o _ (ext hS.1.out m),m,ztz aP aR,fun h=>by cases h⟩
      . obtain ⟨⟨Ar,cr,b5⟩,h9⟩:(∃ A c,us 9= .slice A 2 c)/\yN w1 (us 9) [rows[i],rows[k]]:=hdep 9 (by kernel_rfl)
        have bO:zit w1 (us 17) 2 (xi rows[i] rows[k] s):=hdep 17 (by kernel_rfl);simp only [ZP,Act.put,xST] at hK |-;rw [b5] at h9 hK |-
        constructor
        go_simp
        refine (znn Ar 2 cr _ [rows[i],rows[k]] (xi rows[i] rows[k] s) w1 h9 bO bx.o).mono ?_;rintro e w2 ⟨l,O,L,hl,rfl,b7,bV,C⟩;have b6:l=zd0 rows[i] rows[k] s:=hl.eq;subst b6;exact hK _ _ ⟨_,rfl,E.o _ (ext hS.1.out C),C,⟨O,L,rfl,.inr ⟨b7,bV⟩⟩,fun h=>by cases h⟩
      . obtain ⟨O,L,bU,b3⟩:∃ O L,us 18= .agg #[.slice O (xz rows[i] rows[k] s).terms.length L,str (xz rows[i] rows[k] s).bound]/\zec w1 w.heap.size (.slice O (xz rows[i] rows[k] s).terms.length L) (xz rows[i] rows[k] s).terms:=hdep 18 (by kernel_rfl)
        simp only [ZP,Act.put,xST] at hK |-;rw [bU] at hK |-
        constructor
        go_simp
        have m:=zf w1 (.cells #[.slice O (xz rows[i] rows[k] s).terms.length L,str (xz rows[i] rows[k] s).bound] 33);exact hK _ _ ⟨_,rfl,E.o _ (ext hS.1.out m),m,⟨w1.heap.size,O,L,rfl,Blk.new w1 _ _,b3.ext_ m⟩,fun h=>by cases h⟩
      . obtain ⟨g,O,L,bz,a8,bb⟩:ztr w1 w.heap.size (xz rows[i] rows[k] s) (us 19):=hR (19,83) (by simp)
        obtain ⟨jr,aV⟩:∃ jr,jr=xz rows[i] rows[k] s:=⟨_,rfl⟩;rw [<- aV] at a8 bb;have bS:=ze aV;have aa:=ze (j.o.ext_ hS.1.out);have aD:=zpb a8;have aH:=yJ (a:=.slice O jr.terms.length L) (b:=str jr.bound) (p:=fun u=>u.oneCell' =true) rfl rfl;have aE:=yJ (a:=.slice O jr.terms.length L) (b:=str jr.bound) (p:=Z0) (zM _ _ _) (yq _)
        have ay:∀ u∈(Value.agg #[.slice none 0 0,.string ⟨#[]⟩]).cells,Z0 u:=by
         intro u hu;simp [Value.cells] at hu;rcases hu with rfl | rfl
         . exact zM _ _ _
         . exact yq _
        obtain ⟨i1,be,ba,a7,aX⟩:=info_parts X8;have bq:=ze bb;obtain ⟨H,ax,hH⟩:=aa.o.o;have aT:=zv8 (s:=s) (k:=k) I Z.o.tot
        have bw:Hid (wpQ s rows i (k+1)=wpQ s rows i k ++ [jr]):=ze (by
         rw [aV]
         exact zyg I ai (by rw [<- am.o];exact aQ.o) (by rw [<- ar.o];exact aI.o))
        simp only [ZP,Act.put,List.setIfInBounds_toArray,List.set_cons_zero,List.set_cons_succ,List.drop_succ_cons,List.drop_zero];rw [bz];clear hS hR hA hHeld bz a8 bb aV bp bG p0 p1 q0 q1 M j R Q E ap aq bi bl bx bn bj bg bm bC bh aQ aI am ar;go_wp2_with (at_builtin;go_must (refine zS (P:=Tryz.prog) rfl (.tmp 64) (.tmp 83) _ rfl w.heap.size 33 i1 _ 2 40 underlying22 be ba a7 aX rfl (by omega) _ _ _ rfl ax ⟨g,0,none⟩ 1 1 [.slice O jr.terms.length L,str jr.bound] rfl rfl (by omega) aD aH aE ay ?o4 ?o5 ?o6 ?_))
        case o4=>unfold maxLen;omega
        case o5=>omega
        case o6=>exact aa.o.below.size
        intro v3 w6 av aB a3;have N:=ze (aa.o.push hH av aB bq.o);rw [<- bw.o] at N;clear av aB a3 ax hH aa bq aD aH aE ay aT bw bS;go_wp2_with fail;go_roundw
        case rel=>exact ⟨k+1,_,by omega,by go_num,rfl,N⟩
        case measure=>simp [intOf];omega
def xB (r:zQ):Bool:=(r.terms.all fun t=>decide (yo 12 (XV t))) && decide (yo 12 (VT r))
structure zt2 (r:zQ):Prop where
 terms:∀ t∈r.terms,zp t.coef=some (XV t)/\XE 33554432 (XV t)
 bnd:zp r.bound=some (VT r)/\XE 33554432 (VT r)
def Yy (rows:List zQ) (s:List UInt8):Int:=
 if yA rows≠0 then yA rows
 else if (upQ s rows).length+(dnQ s rows).length=0 then 7
 else if 800<(Zr s rows).length+(upQ s rows).length*(dnQ s rows).length then 3
 else if (vz rows s).all xB=true then 0 else 3
structure zwy (rows:List zQ) (s:List UInt8):Prop where
 coef:∀ r∈rows,Vd r.terms
 few:rows.length<=800
 wo:(Zr s rows).length+(upQ s rows).length*(dnQ s rows).length<=800->zx4 rows s
 rd:∀ r∈vz rows s,zt2 r
def zto (w:World) (rows:List zQ) (s:List UInt8) (e:Ending) (w' :World):Prop:=
 ∃ v,e= .returned (.tuple #[v,.int .i64 (Yy rows s)])/\(Yy rows s=0->yN w' v (vz rows s)/\∃ A c,v= .slice A (vz rows s).length c)/\(Yy rows s≠0->v= .slice none 0 0)/\Below w.heap.size w w'
def ReC (w0:World) (rows:List zQ) (s:List UInt8) (uv dv rv iv:Value) (wr:World):Prop:=
 ∃ i:Nat,i<=rows.length/\iv= .int .i64 i/\uv= .int .i64 ((upQ s (rows.take i)).length:Nat)/\dv= .int .i64 ((dnQ s (rows.take i)).length:Nat)/\rv= .int .i64 ((Zr s (rows.take i)).length:Nat)/\Hid (Below w0.heap.size w0 wr)
def ReP (w0 w1:World) (L:List zQ) (iv:Value) (wr:World):Prop:=
 ∃ i:Nat,i<=L.length/\iv= .int .i64 i/\Hid (∀ j (h:j<L.length),j<i->xB L[j]=true)/\Hid (Below w1.heap.size w1 wr)
def ReQ (w0 w1:World) (l:List zR) (kv:Value) (wr:World):Prop:=
 ∃ k:Nat,k<=l.length/\kv= .int .i64 k/\Hid (∀ j (h:j<l.length),j<k->yo 12 (XV l[j]))/\Hid (Below w1.heap.size w1 wr)
set_option maxRecDepth 100000 in
theorem zf2 (A:Option Addr) (n c:Nat) (rows:List zQ) (s:List UInt8) (w:World) (hr:yN w (.slice A n c) rows) (hcnt:rows.length<=800->(yg (rows.map (·.terms))).length<=50000) (ho:yA rows=0->zwy rows s):
 Calls Tryz.prog 7 #[.slice A n c,str s] w (zto w rows s):=by
 obtain rfl:=hr.len
 have az:=ze (zol A rows.length c rows w hr hcnt)
 have aN:=ze hr
 have HO:=ze ho
 clear hr hcnt ho
 go_enter func7,ntmps7
 go_wp2_with fail
 refine az.o.mono ?_
 rintro e w1 ⟨rfl,aL⟩
 have b:=ze aL
 clear aL az
 by_cases K:yA rows=0
 rotate_left
 . obtain ⟨z,hz⟩:∃ z,z=yA rows:=⟨_,rfl⟩
   rw [<- hz] at K |-;have m:Hid (Yy rows s=z):=ze (by unfold Yy;rw [<- hz,if_pos K]);have a2:=ze K;clear hz;go_wp2_with fail;go_ret2;refine ⟨.slice none 0 0,by rw [m.o];rfl,fun h=>absurd (m.o.symm.trans h) a2.o,fun _=>rfl,b.o⟩
 have HE:=ze K
 have an:=ze (HO.o K);rw [K];clear K HO;have h8:=an.o.few;go_wp2_with fail
 go_loopw [7,8,9,10] (ReC w rows s) (fun _ _ _ iv _=>rows.length - (intOf iv).toNat)
 case atStart=>exact ⟨0,Nat.zero_le _,rfl,rfl,rfl,rfl,b⟩
 case round=>
  clear b;obtain ⟨i,hi,rfl,rfl,rfl,rfl,b⟩:=hrel
  by_cases I:i<rows.length
  . have aU:(i:Int)<(rows.length:Int):=by omega
    have a6:IntKind.i64.wrap ((i:Int)+1)=((i+1:Nat):Int):=by rw [IntKind.wrap_i64];omega
    obtain ⟨ad,Ai,ni,ci,eA,am,p0,p1,B,U⟩:=(zT.below' aN.o b.o).at_ I;subst eA;obtain rfl:=B.len;have aK:=ze (zad Ai _ ci w.heap.size rows[i].terms rows[i].bound s wr B b.o.size (an.o.coef _ (List.getElem_mem I)));clear B U;go_wp2_with fail;refine aK.o.mono ?_;rintro e w2 ⟨v,rfl,hv,ab⟩;replace b:=eb_ b ab;have HV:=ze hv;clear hv ab aK p0 p1 am;obtain ⟨x,aq⟩:∃ x,x=xU rows[i].terms s:=⟨_,rfl⟩;rw [<- aq] at HV;have au:=vR (s:=s) I;rw [<- aq] at au;have Q:=ze au;have M:(upQ s (rows.take i)).length<=800:=Nat.le_trans (vB _ _) (by rw [List.length_take];omega);have J:(dnQ s (rows.take i)).length<=800:=Nat.le_trans (vB _ _) (by rw [List.length_take];omega);have a4:(Zr s (rows.take i)).length<=800:=Nat.le_trans (vB _ _) (by rw [List.length_take];omega);clear aq au;go_wp2_with fail;refine (X9 _ x _ HV.o).mono ?_;rintro e w3 ⟨rfl,aE⟩;replace b:=eb_ b aE;clear aE HV;obtain ⟨nu,aj⟩:∃ nu,nu=(upQ s (rows.take i)).length:=⟨_,rfl⟩;obtain ⟨nd,ah⟩:∃ nd,nd=(dnQ s (rows.take i)).length:=⟨_,rfl⟩
    obtain ⟨nr,ai⟩:∃ nr,nr=(Zr s (rows.take i)).length:=⟨_,rfl⟩;rw [<- aj] at M;rw [<- ah] at J;rw [<- ai] at a4;have ar:=ze aj;have aw:=ze ah;have ao:=ze ai;have ba:IntKind.i64.wrap ((nu:Int)+1)=((nu+1:Nat):Int):=by rw [IntKind.wrap_i64];omega
    have bd:IntKind.i64.wrap ((nd:Int)+1)=((nd+1:Nat):Int):=by rw [IntKind.wrap_i64];omega
    have be:IntKind.i64.wrap ((nr:Int)+1)=((nr+1:Nat):Int):=by rw [IntKind.wrap_i64];omega
    rw [<- aj, <- ah, <- ai];clear aj ah ai
    rcases VK x with F | F | F
    . rw [zjk F]
      have E:=ze (Q.o.2.2 F);clear F Q;go_wp2_with fail;go_roundw
      case rel=>exact ⟨i+1,by omega,by go_num,by rw [E.o.2.1, <- ar.o],by rw [E.o.2.2,List.length_append, <- aw.o];rfl,by rw [E.o.1, <- ao.o],b⟩
      case measure=>simp [intOf];omega
    . rw [show x.num.sign=0 from (Yr _).2 F]
      have E:=ze (Q.o.1 F);clear F Q;go_wp2_with fail;go_roundw
      case rel=>exact ⟨i+1,by omega,by go_num,by rw [E.o.2.1, <- ar.o],by rw [E.o.2.2, <- aw.o],by rw [E.o.1,List.length_append, <- ao.o];rfl,b⟩
      case measure=>simp [intOf];omega
    . rw [zji F]
      have E:=ze (Q.o.2.1 F);clear F Q;go_wp2_with fail;go_roundw
      case rel=>exact ⟨i+1,by omega,by go_num,by rw [E.o.2.1,List.length_append, <- ar.o];rfl,by rw [E.o.2.2, <- aw.o],by rw [E.o.1, <- ao.o],b⟩
      case measure=>simp [intOf];omega
  obtain rfl:rows.length=i:=by omega
  rw [List.take_length];obtain ⟨lo,X⟩:∃ lo,lo=(Zr s rows).length:=⟨_,rfl⟩;obtain ⟨u,M⟩:∃ u,u=(upQ s rows).length:=⟨_,rfl⟩;obtain ⟨C,J⟩:∃ C,C=(dnQ s rows).length:=⟨_,rfl⟩;have a7:lo<=800:=by rw [X];exact Nat.le_trans (vB _ _) h8
  have a0:u<=800:=by rw [M];exact Nat.le_trans (vB _ _) h8
  have a1:C<=800:=by rw [J];exact Nat.le_trans (vB _ _) h8
  have aI:u*C<=800*800:=Nat.mul_le_mul a0 a1;obtain ⟨lm,ag⟩:∃ lm,lm=u*C:=⟨_,rfl⟩;have ap:(u:Int)*(C:Int)=(lm:Int):=by rw [ag,Int.natCast_mul]
  rw [<- ag] at aI
  have m:Hid (Yy rows s=if u+C=0 then 7 else if 800<lo+lm then 3 else if (vz rows s).all xB=true then 0 else 3):=ze (by
   unfold Yy
   rw [if_neg (fun h=>h HE.o), <- X, <- M, <- J, <- ag])
  have aH:Hid (lo+lm<=800->zx4 rows s):=ze (fun h=>an.o.wo (by rw [<- X, <- M, <- J, <- ag];exact h));rw [<- X, <- M, <- J];clear X M J ag;have aR :IntKind.i64.wrap ((u:Int)+(C:Int))=((u+C:Nat):Int):=by rw [IntKind.wrap_i64];omega
  have aO :IntKind.i64.wrap ((u:Int)*(C:Int))=(lm:Int):=by rw [ap,IntKind.wrap_i64];omega
  have aC :IntKind.i64.wrap ((lo:Int)+(lm:Int))=((lo+lm:Nat):Int):=by rw [IntKind.wrap_i64];omega
  by_cases h0:u+C=0
  . have aB:((u+C:Nat):Int)=0:=by omega
    rw [if_pos h0] at m;clear h0 aO aC ap;go_wp2_with fail;go_ret2;refine ⟨.slice none 0 0,by rw [m.o];rfl,fun h=>?_,fun _=>rfl,b.o⟩;rw [m.o] at h
    cases h
  have aB:¬ ((u+C:Nat):Int)=0:=by omega
  rw [if_neg h0] at m;clear h0
  by_cases D:800<lo+lm
  . have aG:((lo+lm:Nat):Int)>800:=by omega
    rw [if_pos D] at m;clear D;go_wp2_with fail;go_ret2;refine ⟨.slice none 0 0,by rw [m.o];rfl,fun h=>?_,fun _=>rfl,b.o⟩;rw [m.o] at h
    cases h
  have aG:¬ ((lo+lm:Nat):Int)>800:=by omega
  rw [if_neg D] at m;have aA:=ze (zju A rows.length c rows s wr ((zT.below' aN.o b.o).more b.o.size) (aH.o (by omega)));clear D aH;go_wp2_with fail;refine aA.o.mono ?_;rintro e w2 ⟨Az,cz,rfl,aP,ab⟩;replace b:=eb_ b ab;have HZ:=ze aP;have l:=ze (Below.refl w2.heap.size w2);clear aR aO aC aB aG aI ap aP ab aA;obtain ⟨L,hL⟩:∃ L,L=vz rows s:=⟨_,rfl⟩;have aT:Hid (∀ r∈L,zt2 r):=ze (by rw [hL];exact an.o.rd);rw [<- hL] at HZ m |-;have aQ:=ze hL;clear hL;have bb:L.length<=100000:=by obtain ⟨_,_,_,_,_,_,h,_⟩:=id HZ.o;exact h
  go_wp2_with fail
  go_loopw [12] (ReP w w2 L) (fun iv _=>L.length - (intOf iv).toNat)
  case atStart=>exact ⟨0,Nat.zero_le _,rfl,ze (fun j h O=>by omega),l⟩
  case round=>
   clear l;obtain ⟨i,hi,rfl,av,l⟩:=hrel
   by_cases I:i<L.length
   rotate_left
   . obtain ⟨li,aX⟩:∃ li,li=L.length:=⟨_,rfl⟩
     have aW:li=i:=by omega
     have aM:L.all xB=true:=List.all_eq_true.2 (fun r hr=>by
      obtain ⟨j,O,rfl⟩:=List.mem_iff_getElem.1 hr
      exact av.o j O (by omega))
     rw [if_pos aM] at m;have a9:¬ ((i:Int)<(L.length:Int)):=by omega
     clear aM aW aX;go_wp2_with fail;go_ret2;refine ⟨.slice Az L.length cz,by rw [m.o];rfl,fun _=>⟨by rw [<- aQ.o];exact (zT.below' HZ.o l.o).more l.o.size,Az,cz,by rw [<- aQ.o]⟩,fun h=>absurd m.o h,ext b.o l.o⟩
   have aU:(i:Int)<(L.length:Int):=by omega
   have a6:IntKind.i64.wrap ((i:Int)+1)=((i+1:Nat):Int):=by rw [IntKind.wrap_i64];omega
   have aF:=aT.o _ (List.getElem_mem I);have ax:=ze aF;clear aF;go_wp2_with fail
   go_loopw [13] (ReQ w w2 L[i].terms) (fun kv _=>L[i].terms.length - (intOf kv).toNat)
   case atStart=>exact ⟨0,Nat.zero_le _,rfl,ze (fun j h O=>by omega),l⟩
   case round=>
    clear l;obtain ⟨k,hk,rfl,al,l⟩:=hrel;obtain ⟨ad,Ai,ni,ci,eA,am,p0,p1,B,U⟩:=(zT.below' HZ.o l.o).at_ I;subst eA;obtain rfl:=B.len;have aZ:=B.bound
    by_cases ak:k<L[i].terms.length
    . have a8:(k:Int)<(L[i].terms.length:Int):=by omega
      have bc:IntKind.i64.wrap ((k:Int)+1)=((k+1:Nat):Int):=by rw [IntKind.wrap_i64];omega
      obtain ⟨at_,eT,aS,t0,t1,aV,aJ⟩:=B.at_ ak;subst eT;obtain ⟨af,Y⟩:=ax.o.terms _ (List.getElem_mem ak);have G:=ze (fun w=>Yx L[i].terms[k].coef (XV L[i].terms[k]) w aJ af);have ae:=ze Y;obtain ⟨cf,Z⟩:∃ cf,L[i].terms[k].coef=cf:=⟨_,rfl⟩;rw [Z] at G t1;obtain ⟨q,N⟩:∃ q,q=XV L[i].terms[k]:=⟨_,rfl⟩;rw [<- N] at G ae;have aa:=ze N;clear af Y U aV aJ B Z N t0 p1;go_wp2_with fail;refine (G.o _).mono ?_;rintro e w4 ⟨v4,rfl,S,V⟩;replace l:=eb_ l V;have ac:=ze S;clear S V G p0 t1 am aS;go_wp2_with fail;refine (zf3 _ q 12 _ ac.o ae.o (by omega)).mono ?_;rintro e w5 ⟨rfl,R⟩;replace l:=eb_ l R;clear R ac
      by_cases y:yo 12 q
      rotate_left
      . rw [show (!decide (yo 12 q))=true by simp [y]]
        have T:¬ L.all xB=true:=fun h=>y (by
         have D:=List.all_eq_true.1 h _ (List.getElem_mem I);unfold xB at D;rw [Bool.and_eq_true] at D;have h2:=List.all_eq_true.1 D.1 _ (List.getElem_mem ak);rw [aa.o]
         simpa using h2)
        rw [if_neg T] at m;clear T y;go_wp2_with fail;go_ret2;refine ⟨.slice none 0 0,by rw [m.o];rfl,fun h=>?_,fun _=>rfl,ext b.o l.o⟩;rw [m.o] at h
        cases h
      rw [show (!decide (yo 12 q))=false by simp [y]]
      have a5:Hid (∀ j (h:j<L[i].terms.length),j<k+1->yo 12 (XV L[i].terms[j])):=ze (fun j h O=>by
       by_cases e:j=k
       . subst e;rw [<- aa.o];exact y
       exact al.o j h (by omega))
      clear y al;go_wp2_with fail;go_roundw
      case rel=>exact ⟨k+1,by omega,by go_num,a5,l⟩
      case measure=>simp [intOf];omega
    obtain ⟨kk,ay⟩:∃ kk,kk=L[i].terms.length:=⟨_,rfl⟩
    have a3:kk=k:=by omega
    have aD:Hid (∀ t∈L[i].terms,yo 12 (XV t)):=ze (fun t B=>by
     obtain ⟨j,O,rfl⟩:=List.mem_iff_getElem.1 B
     exact al.o j O (by omega))
    rw [<- ay] at p0 ak;subst a3;obtain ⟨af,Y⟩:=ax.o.bnd;have G:=ze (fun w=>Yx L[i].bound (VT L[i]) w U af);have ae:=ze Y;obtain ⟨cf,Z⟩:∃ cf,L[i].bound=cf:=⟨_,rfl⟩;rw [Z] at G p1;obtain ⟨q,N⟩:∃ q,q=VT L[i]:=⟨_,rfl⟩;rw [<- N] at G ae;have aa:=ze N;clear af Y U B Z N al ay aZ;go_wp2_with fail;refine (G.o _).mono ?_;rintro e w4 ⟨v4,rfl,S,V⟩;replace l:=eb_ l V;have ac:=ze S;clear S V G p0 p1 am;go_wp2_with fail;refine (zf3 _ q 12 _ ac.o ae.o (by omega)).mono ?_;rintro e w5 ⟨rfl,R⟩;replace l:=eb_ l R;clear R ac
    by_cases y:yo 12 q
    rotate_left
    . rw [show (!decide (yo 12 q))=true by simp [y]]
      have T:¬ L.all xB=true:=fun h=>y (by
       have D:=List.all_eq_true.1 h _ (List.getElem_mem I);unfold xB at D;rw [Bool.and_eq_true] at D;rw [aa.o]
       simpa using D.2)
      rw [if_neg T] at m;clear T y;go_wp2_with fail;go_ret2;refine ⟨.slice none 0 0,by rw [m.o];rfl,fun h=>?_,fun _=>rfl,ext b.o l.o⟩;rw [m.o] at h
      cases h
    rw [show (!decide (yo 12 q))=false by simp [y]]
    have aY:Hid (∀ j (h:j<L.length),j<i+1->xB L[j]=true):=ze (fun j h O=>by
     by_cases e:j=i
     . subst e
       unfold xB;rw [Bool.and_eq_true];exact ⟨List.all_eq_true.2 (fun t B=>decide_eq_true (aD.o t B)),decide_eq_true (by rw [<- aa.o];exact y)⟩
     . exact av.o j h (by omega))
    clear y av aD;go_wp2_with fail;go_roundw
    case rel=>exact ⟨i+1,by omega,by go_num,aY,l⟩
    case measure=>simp [intOf];omega
end Go.Proofs.YthbmhkiphmcogaaGreatDoor
