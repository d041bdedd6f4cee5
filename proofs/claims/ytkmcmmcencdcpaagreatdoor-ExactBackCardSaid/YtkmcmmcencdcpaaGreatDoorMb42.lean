/- Parts of the proof: memory, numbers, walks of the functions that are called. -/
import Derived.Test.YtkmcmmcencdcpaaGreatDoorMb28
import Derived.Test.YtkmcmmcencdcpaaGreatDoorMb41
set_option linter.unusedVariables false
set_option linter.unusedSimpArgs false
namespace Go.Proofs.YtkmcmmcencdcpaaGreatDoor
open Go.RowKit
def Yx (c:UInt8) (xs:List (List UInt8)) (last:List UInt8):List UInt8:=xs.flatMap (fun x=>x ++ [c]) ++ last
theorem zdu {c:UInt8}:∀ (x t:List UInt8),c ∉ x->ahead c (x ++ c :: t)=x
 | [],t,_=>by simp [ahead]
 | a :: x,t,h=>by
   have h1:a≠c:=fun e=>h (by rw [e];exact List.mem_cons_self)
   have ih:=zdu x t (fun hm=>h (List.mem_cons_of_mem _ hm));unfold ahead at ih |-;rw [List.cons_append,List.takeWhile_cons,if_pos (by simp [h1]),ih]
theorem zal {c:UInt8}:∀ (x t:List UInt8),c ∉ x->zX c (x ++ c :: t)=t
 | [],t,_=>by simp [zX]
 | a :: x,t,h=>by
   have h1:a≠c:=fun e=>h (by rw [e];exact List.mem_cons_self)
   have ih:=zal x t (fun hm=>h (List.mem_cons_of_mem _ hm));unfold zX at ih |-;rw [List.cons_append,List.dropWhile_cons,if_pos (by simp [h1]),ih]
theorem zd9 (c:UInt8) (x:List UInt8) (xs:List (List UInt8)) (last:List UInt8):Yx c (x :: xs) last=x ++ c :: Yx c xs last:=by
 unfold Yx;rw [List.flatMap_cons];simp
theorem VR (c:UInt8) (last:List UInt8) (hl:c ∉ last):∀ (xs:List (List UInt8)),(∀ x∈xs,c ∉ x)->spl c ((Yx c xs last).count c) (Yx c xs last)=xs ++ [last]
 | [],_=>by
   have e:Yx c [] last=last:=by simp [Yx]
   rw [e,List.count_eq_zero.2 hl]
   rfl
 | x :: xs,h=>by
   have hx:=h x List.mem_cons_self;have ih:=VR c last hl xs (fun y hy=>h y (List.mem_cons_of_mem _ hy));rw [zd9]
   have e:(x ++ c :: Yx c xs last).count c=(Yx c xs last).count c+1:=by
    rw [List.count_append,List.count_cons_self,List.count_eq_zero.2 hx];omega
   rw [e];unfold spl;rw [zdu x _ hx,zal x _ hx,ih]
   rfl
def yK (r:yv):List UInt8:=yk r.terms ++ ([60,61,32] ++ r.bound)
def V0 (r:yv):List (List UInt8):=(r.terms.flatMap fun t=>[t.coef,t.name]) ++ [[60,61]]
theorem zam (r:yv):yK r=Yx 32 (V0 r) r.bound:=by
 unfold yK Yx V0 yk
 rw [List.flatMap_append,List.flatMap_assoc]
 have:(fun t:zR=>[t.coef,t.name].flatMap fun x=>x ++ [32])=vB:=by
  funext t;simp [vB]
 rw [this]
 simp
theorem zho (rows:List yv):yt rows=Yx 10 (rows.map yK) []:=by
 unfold yt Yx
 rw [List.append_nil,List.flatMap_map]
 congr 1
 funext r
 simp [xR,yK]
def Zp (c:UInt8):Prop:=c≠10/\c≠32
theorem Xs {c:UInt8} (h:yW c=true):Zp c:=by
 constructor
 . rintro rfl;revert h;decide
 . rintro rfl;revert h;decide
theorem VE {l:List UInt8} (h:(zl l).isSome=true):l≠[]/\∀ c∈l,Zp c:=by
 obtain ⟨q,hq⟩:=Option.isSome_iff_exists.1 h
 obtain ⟨rfl,_⟩:=y8.1 hq
 have d1:=List.all_eq_true.1 (Yj q.num.natAbs)
 have d2:=List.all_eq_true.1 (Yj q.den)
 constructor
 . unfold yh
   intro e;have h1:=List.length_pos_iff.2 (zjr q.num.natAbs);have h2:=congrArg List.length e;rw [List.length_append,List.length_append] at h2;simp only [List.length_nil] at h2
   omega
 . intro c hc
   unfold yh at hc;rw [List.mem_append,List.mem_append] at hc
   rcases hc with (hc | hc) | hc
   . split at hc
     . simp at hc;subst hc;exact ⟨by decide,by decide⟩
     . cases hc
   . exact Xs (d1 c hc)
   . split at hc
     . cases hc
     . rcases List.mem_cons.1 hc with rfl | hc
       . exact ⟨by decide,by decide⟩
       . exact Xs (d2 c hc)
theorem zel {l:List UInt8} (h:xP l=true):l≠[]/\∀ c∈l,Zp c:=by
 unfold xP at h
 rw [Bool.and_eq_true,Bool.and_eq_true,Bool.and_eq_true] at h
 obtain ⟨⟨⟨h1,_⟩,_⟩,h4⟩:=h
 constructor
 . rintro rfl;revert h1;decide
 . intro c hc
   have:=List.all_eq_true.1 h4 c hc
   constructor
   . rintro rfl;revert this;decide
   . rintro rfl;revert this;decide
structure Zw (r:yv):Prop where
 coef:∀ t∈r.terms,(zl t.coef).isSome=true
 name:∀ t∈r.terms,xP t.name=true
 bound:(zl r.bound).isSome=true
theorem zcx {r:yv} (h:xf r=0):Zw r:=by
 unfold xf at h
 have h1:yF r.terms=0:=by
  by_cases e:yF r.terms=0
  . exact e
  . rw [if_pos e] at h;exact h
 rw [if_neg (by rw [h1];exact fun h=>h rfl)] at h
 have h2:=xK.1 h1
 have key:∀ t∈r.terms,xP t.name=true/\(zl t.coef).isSome=true:=by
  intro t ht
  obtain ⟨i,hi,e⟩:=List.mem_iff_getElem.1 ht
  have h3:=h2 i hi
  have e2:r.terms.getD i default=t:=by simp [List.getD,List.getElem?_eq_getElem hi,e]
  unfold x9 at h3
  rw [e2] at h3
  split at h3
  . omega
  . rename_i hn
    refine ⟨by simpa using hn,?_⟩
    split at h3
    . rename_i hc;exact absurd h3 hc
    . rename_i hc
      have hc:xH t.coef=0:=by simpa using hc
      unfold xH at hc
      cases hr:zl t.coef with
      | none=>rw [hr] at hc;simp at hc
      | some q=>rfl
 refine ⟨fun t ht=>(key t ht).2,fun t ht=>(key t ht).1,?_⟩
 unfold x7 at h
 cases hr:zl r.bound with
 | none=>rw [hr] at h;simp at h
 | some q=>rfl
theorem Yo {r:yv} (h:Zw r):(∀ x∈V0 r,x≠[]/\∀ c∈x,Zp c)/\(r.bound≠[]/\∀ c∈r.bound,Zp c):=by
 refine ⟨?_,VE h.bound⟩
 intro x hx
 unfold V0 at hx
 rw [List.mem_append] at hx
 rcases hx with hx | hx
 . obtain ⟨t,ht,hx⟩:=List.mem_flatMap.1 hx
   simp at hx
   rcases hx with rfl | rfl
   . exact VE (h.coef t ht)
   . exact zel (h.name t ht)
 . simp at hx
   subst hx;exact ⟨by decide,by unfold Zp;decide⟩
theorem zi4 {r:yv} (h:Zw r):vy (yK r)=V0 r ++ [r.bound]:=by
 unfold vy
 rw [zam]
 obtain ⟨h1,h2⟩:=Yo h
 exact VR 32 _ (fun hm=>(h2.2 _ hm).2 rfl) _ (fun x hx hm=>((h1 x hx).2 _ hm).2 rfl)
theorem zgo {r:yv} (h:Zw r):(10:UInt8) ∉ yK r:=by
 obtain ⟨h1,h2⟩:=Yo h
 rw [zam]
 unfold Yx
 intro hm
 rcases List.mem_append.1 hm with hm | hm
 . obtain ⟨x,hx,hm⟩:=List.mem_flatMap.1 hm
   rcases List.mem_append.1 hm with hm | hm
   . exact ((h1 x hx).2 _ hm).1 rfl
   . simp at hm
 . exact (h2.2 _ hm).1 rfl
theorem zjd {rows:List yv} (h:∀ r∈rows,Zw r):YH (yt rows)=rows.map yK ++ [[]]:=by
 unfold YH
 rw [zho]
 exact VR 10 [] (by simp) _ (fun x hx hm=>by
  obtain ⟨r,hr,rfl⟩:=List.mem_map.1 hx
  exact zgo (h r hr) hm)
theorem zhv (l:List zR) (rest:List (List UInt8)):(∀ i,i<l.length->((l.flatMap fun t=>[t.coef,t.name]) ++ rest)[2*i]?=some (l.getD i default).coef/\((l.flatMap fun t=>[t.coef,t.name]) ++ rest)[2*i+1]?=some (l.getD i default).name)/\∀ j,((l.flatMap fun t=>[t.coef,t.name]) ++ rest)[2*l.length+j]?=rest[j]?:=by
 induction l with
 | nil=>exact ⟨fun i hi=>absurd hi (by simp),fun j=>by simp⟩
 | cons t l ih=>
   have e:((t :: l).flatMap fun t=>[t.coef,t.name]) ++ rest=t.coef :: t.name :: ((l.flatMap fun t=>[t.coef,t.name]) ++ rest):=by simp
   rw [e];refine ⟨fun i hi=>?_,fun j=>?_⟩
   . cases i with
     | zero=>exact ⟨rfl,rfl⟩
     | succ i=>
       have:=ih.1 i (by simpa using hi);exact ⟨this.1,this.2⟩
   . rw [List.length_cons,show 2*(l.length+1)+j=(2*l.length+j)+1+1 by omega,List.getElem?_cons_succ,List.getElem?_cons_succ]
     exact ih.2 j
theorem zhw (l:List zR):(l.flatMap fun t=>[t.coef,t.name]).length=2*l.length:=by
 induction l with
 | nil=>rfl
 | cons t l ih=>rw [List.flatMap_cons,List.length_append,ih,List.length_cons];simp;omega
theorem zkj {r:yv} (h:Zw r) (hs:(yK r).length<=65536) (h1:∀ x∈r.terms,yb x.name/\yb x.coef) (h2:yb r.bound):zd6 (yK r) r:=by
 have hw:=zi4 h
 have hw2:vy (yK r)=(r.terms.flatMap fun t=>[t.coef,t.name]) ++ [[60,61],r.bound]:=by rw [hw];simp [V0]
 have hp:=zhv r.terms [[60,61],r.bound]
 obtain ⟨p1,p2⟩:=Yo h
 have mem:∀ i,i<r.terms.length->r.terms.getD i default∈r.terms:=fun i hi=>by
  have e:r.terms.getD i default=r.terms[i]:=by simp [List.getD,List.getElem?_eq_getElem hi]
  rw [e];exact List.getElem_mem hi
 exact {
  len:=by rw [hw2,List.length_append,zhw];rfl
  full:=by
   intro x hx;rw [hw] at hx
   rcases List.mem_append.1 hx with hx | hx
   . exact (p1 x hx).1
   . simp at hx;subst hx;exact p2.1
  coef:=fun i hi=>by rw [hw2];exact (hp.1 i hi).1
  name:=fun i hi=>by rw [hw2];exact (hp.1 i hi).2
  sign:=by rw [hw2];exact hp.2 0
  bound:=by rw [hw2];exact hp.2 1
  nums:=fun i hi=>h.coef _ (mem i hi)
  bnum:=h.bound
  small:=hs
  tiny:=h1
  tinyb:=h2 }
theorem zfk (l:List zR):(yk l).length=yo l+2*l.length:=by
 induction l with
 | nil=>rfl
 | cons t l ih=>
   have e1:yk (t :: l)=vB t ++ yk l:=by unfold yk;rw [List.flatMap_cons]
   have e2:yo (t :: l)=(t.name.length+t.coef.length)+yo l:=by unfold yo;rw [List.map_cons,List.sum_cons]
   rw [e1,e2,List.length_append,ih,List.length_cons];unfold vB
   simp
   omega
theorem zia (l:List yv):(yt l).length=xh l+2*yy l+4*l.length:=by
 induction l with
 | nil=>rfl
 | cons r l ih=>
   have e1:yt (r :: l)=xR r ++ yt l:=by unfold yt;rw [List.flatMap_cons]
   have e2:xh (r :: l)=(r.bound.length+yo r.terms)+xh l:=by unfold xh;rw [List.map_cons,List.sum_cons]
   have e3:yy (r :: l)=r.terms.length+yy l:=by unfold yy;rw [List.map_cons,List.sum_cons]
   rw [e1,e2,e3,List.length_append,ih,List.length_cons];unfold xR;rw [List.length_append,zfk]
   simp
   omega
theorem V2 {rows:List yv} (h:xT rows) (h0:rows.length<=800):(yt rows).length<=65536:=by
 rw [zia]
 obtain ⟨_,h2,_,_,h5⟩:=h
 have:=h5 h0
 omega
theorem zfg {rows:List yv} (h:yH rows=0):rows.length<=800/\∀ r∈rows,Zw r:=by
 have hl:¬ 800<rows.length:=fun hh=>by rw [Xq hh] at h;omega
 refine ⟨by omega,fun r hr=>zcx ?_⟩
 unfold yH at h
 rw [if_neg hl] at h
 have hf:xl rows.length (fun i=>xf (rows.getD i default))=0:=by
  by_cases e:xl rows.length (fun i=>xf (rows.getD i default))=0
  . exact e
  . rw [if_pos e] at h;exact h
 obtain ⟨i,hi,e⟩:=List.mem_iff_getElem.1 hr
 have:=xK.1 hf i hi
 have e2:rows.getD i default=r:=by simp [List.getD,List.getElem?_eq_getElem hi,e]
 rw [<- e2];exact this
theorem zk2 {rows:List yv} {r:yv} (hr:r∈rows):(yK r).length<=(yt rows).length:=by
 obtain ⟨i,hi,e⟩:=List.mem_iff_getElem.1 hr
 have h1:yt (rows.take (i+1))=yt (rows.take i) ++ xR rows[i]:=XT _ _ _ hi
 have h2:(yt (rows.take (i+1))).length<=(yt rows).length:=Vg _ _ _
 rw [h1,List.length_append,e] at h2
 have:(yK r).length<=(xR r).length:=by unfold yK xR;simp
 omega
theorem zj8 {rows:List yv} (h:xT rows) (h0:yH rows=0):zfr (yt rows) (rows.map yK) rows:=by
 obtain ⟨hl,hp⟩:=zfg h0
 have hs:=V2 h hl
 have he:=h.each
 exact {
  lines:=zjd hp
  len:=by simp
  ok:=fun i hi=>by
   have hm:=List.getElem_mem hi;have e2:rows.getD i default=rows[i]:=by simp [List.getD,List.getElem?_eq_getElem hi]
   have e3:(rows.map yK).getD i []=yK rows[i]:=by simp [List.getD,List.getElem?_eq_getElem hi]
   rw [e2,e3];exact zkj (hp _ hm) (Nat.le_trans (zk2 hm) hs) (he.2 _ hm).2.2 (he.2 _ hm).2.1
  small:=hs
  mm:=hl }
end Go.Proofs.YtkmcmmcencdcpaaGreatDoor
namespace Go.Proofs.YtkmcmmcencdcpaaGreatDoor
open Go.RowKit Go.Deep
attribute [local go_sem ↓] Go.wp_at_zero Go.wp_at_succ
set_option maxRecDepth 100000 in
set_option maxHeartbeats 8000000 in
theorem zig (A:Option Addr) (n c:Nat) (rows:List yv) (w:World) (hr:Xb w w.heap.size (.slice A n c) rows):
 Calls Tryz.prog 3 #[.slice A n c] w (zfa w (.bool true)):=by
 obtain rfl:=hr.len
 have hg:=zhf A rows.length c rows w _ hr
 have HG:=ze hg
 have HR:=ze hr
 clear hg hr
 go_enter Tryz.func3,Tryz.ntmps3
 go_wp2_with fail
 refine HG.out.mono ?_
 rintro e w1 ⟨g,rfl,⟨m,rfl⟩,hsm⟩
 have HRm:Hid (Xb (w.drewN m) w.heap.size (.slice A rows.length c) rows):=HR
 have HW0:Hid (Below w.heap.size w (w.drewN m)):=zr (xz w) m
 generalize w.drewN m=W at HRm HW0 |-
 clear HG HR
 cases g with
 | true=>
   clear hsm HRm;go_wp2_with fail;refine (Vb _).mono ?_;rintro e w2 ⟨rfl,hb2⟩;have HW:=ze (ext HW0.out hb2);clear hb2;go_wp2_with fail;go_ret;exact ⟨rfl,HW.out⟩
 | false=>
   have HS:=ze (hsm rfl);clear hsm;have hE:=HS.out.each;have HRE:Hid (xU W (.slice A rows.length c) rows):=(HRm.out.small hE.1 hE.2).more HW0.out.size;have hN:=HS.out.names;have HN1:Hid ((yJ rows []).length<=100000):=Nat.le_trans (zeb rows) (Nat.le_trans hN (by omega));have HTX:Hid (yH rows=0->(yt rows).length<=65536):=ze fun h=>V2 HS.out (zfg h).1
   have HP:Hid (∀ A c w,xU w (.slice A rows.length c) rows->Calls Tryz.prog 10 #[.slice A rows.length c] w (za7 w rows)):=ze fun A c w h=>zcp A rows.length c rows w h (fun _=>HN1.out) HTX.out
   clear hE hN HRm
   by_cases hz:yH rows=0
   . have HPA:=ze (fun w=>za6 (yt rows) (rows.map yK) rows w (zj8 HS.out hz) hz HN1.out)
     unfold za7 at HP;simp only [hz,if_true] at HP;obtain ⟨t,ht⟩:∃ t,t=yt rows:=⟨_,rfl⟩;rw [<- ht] at HP HPA;have d1:((⟨t.toArray⟩:ByteArray) == ⟨t.toArray⟩)=true:=(MapKept.bytes_beq _ _).2 rfl;have d2:(t == t)=true:=beq_self_eq_true t;clear hz ht HS HN1 HTX;go_wp2_with fail;refine (HP.out _ _ _ HRE.out).mono ?_;rintro e w1 ⟨rfl,hb1⟩;have HW:=ze (ext HW0.out hb1);clear hb1 HRE;go_wp2_with fail;refine (HPA.out _).mono ?_;rintro e w2 ⟨A2,c2,rfl,hr2,hb2⟩;replace HW:=eb_ HW hb2;have HR2:=ze hr2;clear hb2 hr2 HPA;go_wp2_with fail;refine (HP.out _ _ _ HR2.out).mono ?_;rintro e w3 ⟨rfl,hb3⟩;replace HW:=eb_ HW hb3;clear hb3 HP HR2;go_wp2_with fail;refine (Vb _).mono ?_;rintro e w4 ⟨rfl,hb4⟩;replace HW:=eb_ HW hb4;clear hb4;go_wp2_with fail;go_ret;exact ⟨rfl,HW.out⟩
   . unfold za7 at HP
     simp only [hz,if_false] at HP;obtain ⟨z,hzz⟩:∃ z,z=yH rows:=⟨_,rfl⟩;rw [<- hzz] at HP hz;have hzb:(z == 0)=false:=beq_eq_false_iff_ne.2 hz;have d1:((⟨([]:List UInt8).toArray⟩:ByteArray) == ⟨#[]⟩)=true:=rfl;clear hz hzz HS HN1 HTX;go_wp2_with fail;refine (HP.out _ _ _ HRE.out).mono ?_;rintro e w1 ⟨rfl,hb1⟩;have HW:=ze (ext HW0.out hb1);clear hb1 HRE HP;go_wp2_with fail;refine (Vb _).mono ?_;rintro e w4 ⟨rfl,hb4⟩;replace HW:=eb_ HW hb4;clear hb4;go_wp2_with fail;go_ret;exact ⟨rfl,HW.out⟩
end Go.Proofs.YtkmcmmcencdcpaaGreatDoor
