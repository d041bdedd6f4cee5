/- Parts of the proof. -/
import Derived.Test.YtnjljgidphemdaaGreatDoorMv31
import Derived.Test.YtnjljgidphemdaaGreatDoorMv43
set_option linter.all false
namespace Go.Proofs.YtnjljgidphemdaaGreatDoor
open Proofs.Tryz Go.RowKit Go.Deep
attribute [local go_sem ↓] Go.wp_at_zero Go.wp_at_succ
theorem Vj.nws {w:World} {base n:Nat} {v:Value} {f:Nat->Rat} (h:Vj w base v n f):zoe w v n f:=by
 obtain ⟨xs,e,E⟩:=h
 rcases e.1.2 with ⟨rfl,u⟩ | ⟨g,m,l,rfl,hb,r,D,I,K,J⟩
 . subst u
   exact ⟨none,0,rfl,fun h=>by omega⟩
 . refine ⟨_,m,rfl,fun u=>⟨g,m,rfl,D,⟨⟨l,r,by omega,?_⟩,fun k j=>?_⟩⟩⟩
   . intro i x G
     have j:Blk w g 112 l:=r;exact e.2 g rfl ⟨g,i,none⟩ rfl x (by rw [j.cell i];exact G)
   obtain ⟨ng,A,a,c,B,b,d,y,z,F,C⟩:=E k j
   refine ⟨ng,A,a,c,B,b,d,?_,?_,?_,C⟩
   . rw [e.1.cellAt _ (by omega)];exact y
   . rw [e.1.cellAt _ (by omega)];exact z
   . rw [e.1.cellAt _ (by omega)];exact F
theorem zw.below' {w w' :World} {B:Nat} {v:Value} {l:List (List UInt8)} (h:zw w B v l) (hb:Below B w w'):zw w' B v l:=by
 obtain ⟨A,c,e,j,u,m,r,b⟩:=h
 exact ⟨A,c,e,j,u,m,r.below hb,b⟩
theorem zob {w:World} {base n size:Nat} {e:TypeId} {v:Value} {xs:List Value} (h:zo0 w base e size v n xs):∃ A n c,v= .slice A n c:=by
 rcases h.1.2 with ⟨rfl,_⟩ | ⟨g,j,b,rfl,_⟩
 . exact ⟨_,_,_,rfl⟩
 . exact ⟨_,_,_,rfl⟩
theorem zj9 (q:Rat):q.num.sign<0↔q<0:=by
 rw [Int.sign_neg_iff, <- Int.not_le, <- Rat.not_le,Rat.num_nonneg]
def zx3 (w:World) (l:List (List UInt8)) (n:Nat) (e:Ending) (w' :World):Prop:=
 ∃ A c m,e= .returned (.tuple #[.slice A m c,.bool (xq l n)])/\(xq l n=true->zoe w' (.slice A m c) l.length (xC l))/\Below w.heap.size w w'
def NwtR (w0:World) (wv:Value) (l:List (List UInt8)) (iv ov:Value) (wr:World):Prop:=
 ∃ (i:Nat) (v:Value),i<=l.length/\iv= .int .i64 i/\ov=v/\Hid (Vj wr w0.heap.size v i (xC l))/\Hid (∀ j,j<i->(zjw (l.getD j [])).isSome=true)/\Hid (Below w0.heap.size w0 wr)
set_option maxRecDepth 100000 in
set_option maxHeartbeats 4000000 in
theorem zd6 (A:Option Addr) (n c nr:Nat) (l:List (List UInt8)) (w:World) (hw:zw w w.heap.size (.slice A n c) l) (hnr:nr<=800):
 Calls prog 50 #[.slice A n c,.int .i64 nr] w (zx3 w l nr):=by
 obtain rfl:=hw.len
 have h1:l.length<=100000:=by obtain ⟨_,_,_,_,_,h,_⟩:=id hw;exact h
 have af:∀ x∈l,zS x:=by obtain ⟨_,_,_,_,_,_,_,h⟩:=id hw;exact h
 have HN:=ze hw
 have ap:=ze af
 have m:=ze (yR w)
 clear hw af
 go_in
 by_cases T:l.length=nr
 rotate_left
 . have av:((l.length:Int) == (nr:Int))=false:=uD (by omega)
   go_wp2;go_ret2;exact ⟨none,0,0,by rw [zc7 T];rfl,(fun h=>by rw [zc7 T] at h;cases h),m.o⟩
 subst T
 have az:(l.length:Int)=(l.length:Int):=rfl;go_wp2
 go_loopw [7,6] (NwtR w (.slice A l.length c) l) (fun iv _ _=>l.length - (intOf iv).toNat)
 case atStart=>exact ⟨0,_,uB,rfl,rfl,Vj.nil _ _ _,fun j hj=>by omega,m⟩
 case round=>
  clear m;obtain ⟨i,v,hi,rfl,rfl,r,V,m⟩:=hrel
  by_cases O:i<l.length
  rotate_left
  . obtain rfl:l.length=i:=by omega
    obtain ⟨xs,aj,_⟩:=id r.o;obtain ⟨A5,n5,c5,rfl⟩:=zob aj;clear aj;go_wp2;go_ret2;exact ⟨A5,c5,n5,by rw [zmx V.o];rfl,(fun _=>r.o.nws),m.o⟩
  have ay:(i:Int)<(l.length:Int):=by omega
  obtain ⟨ad,eA,aw,p0⟩:=(zw.below' HN.o m.o).at_ O;subst eA;have aa:=Xf ⟨l[i].toArray⟩ wr (by rw [<- zm,yt];exact ap.o _ (uO O));simp only [yt] at aa;have S:=ze aa;have ab:Hid (l.getD i []=l[i]):=by show _=_;simp [List.getD,List.getElem?_eq_getElem O]
  have B:=ze (fun n=>zp1 (n:=n) O);generalize ht:l[i]=t at p0 S ab B;clear aa ht;go_wp2_with fail;refine S.o.mono ?_;rintro e w2 ⟨ax,b2,rfl,⟨ng,X,G,D,Y,C,E,rfl⟩,am,hq,Z⟩;have N:=ze am;have u:=zf w2 (.cells #[.bool ng,.slice X G D,.slice Y C E] 112);have F:=ze (Blk.new w2 112 #[.bool ng,.slice X G D,.slice Y C E]);replace r:=ze (r.o.below (ext Z u));replace m:=ze (ext m.o (ext Z u));have M:=ze (fun q h=>(hq q h).below u);clear am hq Z S p0 u
  go_upto_region 8 with fail
  generalize w2.alloc (.cells #[.bool ng,.slice X G D,.slice Y C E] 112)=W2 at F M r m |-;generalize w2.heap.size=gr at F |-;obtain ⟨r0,R,r2,_⟩:=bq3 F
  cases hr:zl t with
  | none=>
    have hb:b2=false:=by rw [N.o,hr];rfl
    subst hb;have J:=ze (B.o l.length (by unfold zjw;rw [hr]));clear hr N M B;go_wp2;go_ret2;exact ⟨none,0,0,by rw [J.o];rfl,(fun h=>by rw [J.o] at h;cases h),m.o⟩
  | some q=>
    have hb:b2=true:=by rw [N.o,hr];rfl
    subst hb;have y:=ze (M.o q hr);have L:=ze hr;clear hr N M;obtain ⟨z,I⟩:=uR q.num.sign;have U:=YG _ q _ y.o;rw [I] at U;have ac:=ze U;clear U;go_wp2_with fail;refine ac.o.mono ?_;rintro e w3 ⟨rfl,K⟩;have an:=ze (F.o.below K F.o.lt);replace y:=ze (y.o.below K);replace r:=ze (r.o.below K);replace m:=eb_ m K;clear K F r0 R r2 ac;obtain ⟨r0,R,r2,_⟩:=bq3 an
    by_cases Q:z<0
    . have J:=ze (B.o l.length (by
       unfold zjw;rw [L.o];simp only
       rw [if_pos (by rw [<- I] at Q;exact (zj9 q).1 Q)]))
      clear B L I;go_wp2;go_ret2;exact ⟨none,0,0,by rw [J.o];rfl,(fun h=>by rw [J.o] at h;cases h),m.o⟩
    have al:Hid (zjw t=some q):=by
     show _=_
     unfold zjw;rw [L.o];simp only;rw [if_neg (fun h=>Q (by rw [<- I];exact (zj9 q).2 h))]
    clear B L I;have u:=zf w3 (.cells #[.bool ng,.slice X G D,.slice Y C E] 112);have ai:=ze (Blk.new w3 112 #[.bool ng,.slice X G D,.slice Y C E]);replace r:=ze (r.o.below u);replace m:=eb_ m u;replace y:=ze (y.o.below u);have ah:Hid (w.heap.size<=(w3.alloc (.cells #[.bool ng,.slice X G D,.slice Y C E] 112)).heap.size):=m.o.size;have ak:Hid (xC l i=q):=by show _=_;unfold xC;rw [ab.o,al.o];rfl
    clear u;go_wp2_with (at_builtin;go_loud (refine zb4 rfl (.tmp 35) (.tmp 37) rfl w.heap.size _ i (xC l) (xC l) rfl r.o w3.heap.size 1 rfl ai.o y.o (by omega) ah.o (fun _ _=>rfl) ak.o ?_));intro v5 w5 ae ag ao;have au:=ze ae;have aq:=ze (m.o.trans (ag.below m.o.size (fun b e=>(ao b e).1)))
    have ar:Hid (∀ j,j<i+1->(zjw (l.getD j [])).isSome=true):=ze fun j hj=>by
     by_cases e:j=i
     . subst e;rw [ab.o,al.o];rfl
     exact V.o j (by omega)
    clear ae ag ao r m y an ai ah ak r0 R r2 V Q;go_wp2;go_roundw
    case rel=>exact ⟨i+1,_,by omega,by go_num,rfl,au,ar,aq⟩
    case measure=>simp [intOf];omega
end Go.Proofs.YtnjljgidphemdaaGreatDoor
