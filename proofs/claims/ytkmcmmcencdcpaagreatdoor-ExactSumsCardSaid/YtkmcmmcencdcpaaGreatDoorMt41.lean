/- Parts of the proof: memory, numbers, walks of the functions that are called. -/
import Derived.Test.YtkmcmmcencdcpaaGreatDoorMt27
import Derived.Test.YtkmcmmcencdcpaaGreatDoorMt28
import Derived.Test.YtkmcmmcencdcpaaGreatDoorMt40
set_option linter.unusedVariables false
set_option linter.unusedSimpArgs false
namespace Go.Proofs.YtkmcmmcencdcpaaGreatDoor
open Go.RowKit Go.Deep
attribute [local go_sem ↓] Go.wp_at_zero Go.wp_at_succ
theorem Zs.names {l:List yU} (h:Zs l):(zZ (l.map (·.terms))).length<=400:=by
 rw [zge];exact h.2.2.1
theorem zjd (rows:List yU):(xE rows []).length<=(zZ (rows.map (·.terms))).length:=ZY _
theorem zhb {l:List UInt8} {q:Rat} {M:Nat} (h:zp l=some q) (hl:l.length<=M) (hM:1<=M):Dz M q:=by
 have e:=(yG.1 h).1
 have h1:(dec q.num.natAbs).length<=l.length:=by
  rw [e];unfold zT
  rw [List.length_append,List.length_append];omega
 have h2:(dec q.den).length<=M:=by
  by_cases hd:q.den=1
  . rw [hd,zc0];exact hM
  . have:(dec q.den).length<=l.length:=by
     rw [e];unfold zT;rw [List.length_append,if_neg hd,List.length_cons];omega
    omega
 exact yE.sz ⟨by omega,h2⟩
theorem zcr {l:List zG} (h:zQ l=0) {k:Nat} (hk:k<l.length):∃ q,zp (l.getD k default).coef=some q:=by
 have h0:=xb.1 h k hk
 unfold yw at h0
 split at h0
 . omega
 . split at h0
   . omega
   . rename_i h9
     have h8:yV (l.getD k default).coef=0:=by
      by_cases e:yV (l.getD k default).coef=0
      . exact e
      . exact absurd e h9
     unfold yV at h8
     cases hr:zp (l.getD k default).coef with
     | none=>rw [hr] at h8;simp at h8
     | some q=>exact ⟨q,rfl⟩
theorem zpi {p:List zG} (hb:zO p<=1000) (s:List UInt8):Dz 1000 (VV p s):=by
 have hall:∀ t∈p,t.coef.length<=1000:=fun t ht=>by
  have:=vy (fun t:zG=>t.name.length+t.coef.length) p t ht
  unfold zO at hb
  have h2:t.name.length+t.coef.length<=(p.map fun t=>t.name.length+t.coef.length).sum:=this
  omega
 clear hb
 induction p with
 | nil=>exact Dz.zero _
 | cons t p ih=>
   unfold VV
   split
   . cases hr:zp t.coef with
     | none=>exact Dz.zero _
     | some q=>exact zhb hr (hall t (List.mem_cons_self ..)) (by omega)
   . exact ih (fun t ht=>hall t (List.mem_cons_of_mem _ ht))
theorem zhe {l p:List zG} (hl:l.length<=400) (hb:zO l<=8000) (he:zQ l=0) (hp:zO p<=1000) (hpe:yd p=0):XG l p:=by
 refine ⟨hl,fun k hk=>?_,zb9.of hpe,zpi hp⟩
 obtain ⟨q,hq⟩:=zcr he hk
 have e:l.getD k default=l[k]:=by simp [List.getD,List.getElem?_eq_getElem hk]
 have h2:=vy (fun t:zG=>t.name.length+t.coef.length) l _ (List.getElem_mem hk)
 have h3:l[k].name.length+l[k].coef.length<=zO l:=h2
 exact ⟨q,hq,zhb hq (by rw [e];omega) (by omega)⟩
theorem zed {rows:List yU} (h:yM rows=0) {k:Nat} (hk:k<rows.length):zQ (rows.getD k default).terms=0/\∃ q,zp (rows.getD k default).bound=some q:=by
 unfold yM at h
 split at h
 . omega
 . split at h
   . rename_i h9;exact absurd h h9
   . rename_i h9
     have h8:xO rows.length (fun i=>yS (rows.getD i default))=0:=by
      by_cases e:xO rows.length (fun i=>yS (rows.getD i default))=0
      . exact e
      . exact absurd e h9
     have h7:=xb.1 h8 k hk;unfold yS at h7
     split at h7
     . rename_i h6;exact absurd h7 h6
     . rename_i h6
       refine ⟨by
        by_cases e:zQ (rows.getD k default).terms=0
        . exact e
        . exact absurd e h6,?_⟩
       unfold y9 at h7
       cases hr:zp (rows.getD k default).bound with
       | none=>rw [hr] at h7;simp at h7
       | some q=>exact ⟨q,rfl⟩
theorem znv {rows:List yU} {p:List zG} (hs:Zs rows) (he:yM rows=0) (hp:zO p<=1000) (hpe:yd p=0) (k:Nat) (hk:k<rows.length):zbl p (rows.getD k default):=by
 obtain ⟨h1,q,hq⟩:=zed he hk
 have e:rows.getD k default=rows[k]:=by simp [List.getD,List.getElem?_eq_getElem hk]
 have h2:=vy (fun r:yU=>r.bound.length+zO r.terms) rows _ (List.getElem_mem hk)
 have h3:rows[k].bound.length+zO rows[k].terms<=vX rows:=h2
 have h4:=vy (fun r:yU=>r.terms.length) rows _ (List.getElem_mem hk)
 have h5:rows[k].terms.length<=xI rows:=h4
 obtain ⟨_,_,h6,h7,_⟩:=hs
 rw [e] at h1 hq |-
 exact ⟨zhe (by omega) (by omega) h1 hp hpe,q,hq,zhb hq (by omega) (by omega)⟩
theorem xX.few {w:World} {B:Nat} {v:Value} {l:List zG} (h:xX w B v l) (h1:l.length<=70) (h2:zO l<=1000):zk w B v l:=
 h.small (by omega) (fun x hx=>by
  have:=vy (fun t:zG=>t.name.length+t.coef.length) l x hx
  have h3:x.name.length+x.coef.length<=zO l:=this
  unfold yo
  omega)
set_option maxRecDepth 100000 in
set_option maxHeartbeats 8000000 in
theorem zop (A:Option Addr) (n c:Nat) (rows:List yU) (A2:Option Addr) (n2 c2:Nat) (goal:List zG) (A3:Option Addr) (n3 c3:Nat) (p:List zG) (w:World)
 (hr:XK w w.heap.size (.slice A n c) rows) (hg:xX w w.heap.size (.slice A2 n2 c2) goal) (hp:xX w w.heap.size (.slice A3 n3 c3) p):
 Calls Tryz.prog 4 #[.slice A n c,.slice A2 n2 c2,.slice A3 n3 c3] w (Vc w (.bool true)):=by
 have h1:=zlk A n c rows w _ hr
 have H1:=ze h1
 have HR:=ze hr
 have HG:=ze hg
 have HP:=ze hp
 clear h1 hr hg hp
 go_enter Tryz.func4,Tryz.ntmps4
 go_wp2_with fail
 refine H1.out.mono ?_
 rintro e w1 ⟨g,rfl,⟨m,rfl⟩,hsm⟩
 have HW:Hid (Below w.heap.size w (w.drewN m)):=zl (xw w) m
 have h2:=zku A2 n2 c2 w.heap.size goal (w.drewN m) HG.out
 have H2:=ze h2
 clear H1 h2
 cases g with
 | true=>
   clear hsm HR HG HP H2;generalize w.drewN m=W at HW |-;go_wp2_with fail;refine (XY _).mono ?_;rintro e w2 ⟨rfl,hb2⟩;replace HW:=eb_ HW hb2;clear hb2;go_wp2_with fail;go_ret;exact ⟨rfl,HW.out⟩
 | false=>
   have HS:=ze (hsm rfl);clear hsm;go_wp2_with fail;refine H2.out.mono ?_;rintro e w1 ⟨g,rfl,⟨m2,rfl⟩,hgo⟩;replace HW:Hid (Below w.heap.size w ((w.drewN m).drewN m2)):=zl HW.out m2;have h3:=zjg A3 n3 c3 w.heap.size p ((w.drewN m).drewN m2) HP.out;have H3:=ze h3;clear H2 h3
   cases g with
   | true=>
     clear hgo HR HG HP H3 HS;generalize (w.drewN m).drewN m2=W at HW |-;go_wp2_with fail;refine (XY _).mono ?_;rintro e w2 ⟨rfl,hb2⟩;replace HW:=eb_ HW hb2;clear hb2;go_wp2_with fail;go_ret;exact ⟨rfl,HW.out⟩
   | false=>
     have HGO:=ze (hgo rfl);clear hgo;have HRm:Hid (XK (((w.drewN m).drewN m2)) w.heap.size (.slice A n c) rows):=HR;have HGm:Hid (xX (((w.drewN m).drewN m2)) w.heap.size (.slice A2 n2 c2) goal):=HG;have HPm:Hid (xX (((w.drewN m).drewN m2)) w.heap.size (.slice A3 n3 c3) p):=HP;generalize (w.drewN m).drewN m2=W2 at H3 HW HRm HGm HPm |-;clear HR HG HP;go_wp2_with fail;refine H3.out.mono ?_;rintro e w1 ⟨g,rfl,⟨m3,rfl⟩,hpo⟩;replace HW:Hid (Below w.heap.size w (W2.drewN m3)):=zl HW.out m3;have HR:Hid (XK (W2.drewN m3) w.heap.size (.slice A n c) rows):=HRm;have HG:Hid (xX (W2.drewN m3) w.heap.size (.slice A2 n2 c2) goal):=HGm;have HP:Hid (xX (W2.drewN m3) w.heap.size (.slice A3 n3 c3) p):=HPm;generalize W2.drewN m3=W at HW HR HG HP |-;clear H3 HRm HGm HPm
     cases g with
     | true=>
       clear hpo HR HG HP HS HGO;go_wp2_with fail;refine (XY _).mono ?_;rintro e w2 ⟨rfl,hb2⟩;replace HW:=eb_ HW hb2;clear hb2;go_wp2_with fail;go_ret;exact ⟨rfl,HW.out⟩
     | false=>
       have HPO:=ze (hpo rfl);clear hpo;have hE:=HS.out.each;have HRE:Hid (xD W (.slice A n c) rows):=(HR.out.small hE.1 hE.2).more HW.out.size;have HGE:Hid (ya W (.slice A2 n2 c2) goal):=(HG.out.few HGO.out.1 HGO.out.2).more HW.out.size;have HPE:Hid (ya W (.slice A3 n3 c3) p):=(HP.out.few HPO.out.1 HPO.out.2).more HW.out.size;have hsk:zQ goal=0->yd p=0->XG goal p:=fun h1 h2=>zhe (by have:=HGO.out.1;omega) (by have:=HGO.out.2;omega) h1 HPO.out.2 h2
       have hrk:yM rows=0->yd p=0->∀ k,k<rows.length->zbl p (rows.getD k default):=fun h1 h2=>znv HS.out h1 HPO.out.2 h2
       have hN:=HS.out.names;have hN1:(xE rows []).length<=100000:=Nat.le_trans (zjd rows) (Nat.le_trans hN (by omega))
       obtain ⟨l0,x0,P0,Q0⟩:∃ (l:List UInt8) (x:Int),Hid (∀ w,ya w (.slice A2 n2 c2) goal->ya w (.slice A3 n3 c3) p->Calls Tryz.prog 14 #[.slice A2 n2 c2,.slice A3 n3 c3] w (zoy w (l,x)))/\Hid (∀ w,ya w (.slice A2 n2 c2) goal->ya w (.slice A3 n3 c3) p->Calls Tryz.prog 15 #[.slice A2 n2 c2,.slice A3 n3 c3] w (zoy w (l,x))):=
        ⟨(Xk goal p).1,(Xk goal p).2,ze fun w h1 h2=>zko A2 A3 n2 c2 n3 c3 goal p w h1 h2 hsk,ze fun w h1 h2=>zp0 A2 A3 n2 c2 n3 c3 goal p w h1 h2 hsk⟩
       obtain ⟨y1,x1,P1,Q1⟩:∃ (y x:Int),Hid (∀ w,xD w (.slice A n c) rows->ya w (.slice A3 n3 c3) p->Calls Tryz.prog 16 #[.slice A n c,.slice A3 n3 c3] w (zoh w (y,x)))/\Hid (∀ w,xD w (.slice A n c) rows->ya w (.slice A3 n3 c3) p->Calls Tryz.prog 17 #[.slice A n c,.slice A3 n3 c3] w (zoh w (y,x))):=
        ⟨(Zy rows p).1,(Zy rows p).2,ze fun w h1 h2=>zf4 A A3 n c n3 c3 rows p w h1 h2 (fun _=>hN1) hrk,ze fun w h1 h2=>zmb A A3 n c n3 c3 rows p w h1 h2 (fun _=>Nat.le_trans hN (by omega)) hrk⟩
       clear hE hsk hrk hN hN1 HR HG HP HS HGO HPO;go_wp2_with fail;refine (P0.out _ HGE.out HPE.out).mono ?_;rintro e w1 ⟨rfl,hb1⟩;replace HRE:Hid (xD w1 (.slice A n c) rows):=(zV.below HRE.out hb1).more hb1.size;replace HGE:Hid (ya w1 (.slice A2 n2 c2) goal):=(zk.below HGE.out hb1).more hb1.size;replace HPE:Hid (ya w1 (.slice A3 n3 c3) p):=(zk.below HPE.out hb1).more hb1.size;replace HW:=eb_ HW hb1;clear hb1 P0;go_wp2_with fail;refine (Q0.out _ HGE.out HPE.out).mono ?_;rintro e w2 ⟨rfl,hb1⟩;replace HRE:Hid (xD w2 (.slice A n c) rows):=(zV.below HRE.out hb1).more hb1.size;replace HPE:Hid (ya w2 (.slice A3 n3 c3) p):=(zk.below HPE.out hb1).more hb1.size;replace HW:=eb_ HW hb1;clear hb1 Q0 HGE;go_wp2_with fail;refine (P1.out _ HRE.out HPE.out).mono ?_;rintro e w3 ⟨rfl,hb1⟩;replace HRE:Hid (xD w3 (.slice A n c) rows):=(zV.below HRE.out hb1).more hb1.size;replace HPE:Hid (ya w3 (.slice A3 n3 c3) p):=(zk.below HPE.out hb1).more hb1.size;replace HW:=eb_ HW hb1;clear hb1 P1;go_wp2_with fail;refine (Q1.out _ HRE.out HPE.out).mono ?_;rintro e w4 ⟨rfl,hb1⟩;replace HW:=eb_ HW hb1;clear hb1 Q1 HRE HPE;go_wp2_with fail
       refine (XY _).mono ?_;rintro e w5 ⟨rfl,hb1⟩;replace HW:=eb_ HW hb1;clear hb1;go_wp2_with fail;go_ret;exact ⟨rfl,HW.out⟩
end Go.Proofs.YtkmcmmcencdcpaaGreatDoor
