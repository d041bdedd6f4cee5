/- Parts of the proof. -/
import Derived.Deep.CutRange
import Derived.Test.YtobdoblpnanclaaGreatDoorMo19
set_option linter.all false
set_option maxRecDepth 100000
set_option maxHeartbeats 32000000
namespace Go.Proofs.YtobdoblpnanclaaGreatDoor
open Proofs.Tryz Go.RowKit Go.Deep
attribute [local go_sem ↓] Go.wp_at_zero Go.wp_at_succ
theorem Fit.le2 {z:Int} (h:Fit z) {M:Nat} (hM:8388608<=M):len 4294967296 z.natAbs<=M:=uC h hM
theorem Fit.neg {z:Int} (h:Fit z):Fit (-z):=by unfold Fit;rw [Int.natAbs_neg];exact h
theorem YG {a b:Int} (ha:Fit a) (hb:Fit b) {M:Nat} (hM:16777216<=M):len 4294967296 (a*b).natAbs<=M:=uC (Z8 (M:=8388608) (K:=8388608) ha hb) hM
theorem YD (x y:Int):(x<y/\zZ x y= -1)\/(x=y/\zZ x y=0)\/(y<x/\zZ x y=1):=by
 unfold zZ
 rcases Int.lt_trichotomy x y with h | h | h
 . exact .inl ⟨h,by rw [if_pos h]⟩
 . exact .inr (.inl ⟨h,by rw [if_neg (by omega),if_neg (by omega)]⟩)
 . exact .inr (.inr ⟨h,by rw [if_neg (by omega),if_pos h]⟩)
theorem zao {z:Int}:(zZ z 0 ≥ 0)↔0<=z:=by
 rcases YD z 0 with h | h | h<;>omega
def zac:Option Nat->Int
 | none=> -1
 | some j=>(j:Int)
section
variable {T:zk} {room c n j:Nat}
theorem zk.leave_pos (h:0<=T.cell n c):T.leave room c (n+1)=T.leave room c n:=by
 show (if _ then _ else _)=_
 rw [if_pos h]
theorem zk.leave_none (h:¬ 0<=T.cell n c) (hn:T.leave room c n=none):T.leave room c (n+1)=some n:=by
 show (if _ then _ else match T.leave room c n with | none=>_ | some j=>_)=_
 rw [if_neg h,hn]
theorem zk.leave_yes (h:¬ 0<=T.cell n c) (hn:T.leave room c n=some j) (ha:T.ahead room c n j):T.leave room c (n+1)=some n:=by
 show (if _ then _ else match T.leave room c n with | none=>_ | some j=>_)=_
 rw [if_neg h,hn]
 exact if_pos ha
theorem zk.leave_no (h:¬ 0<=T.cell n c) (hn:T.leave room c n=some j) (ha:¬ T.ahead room c n j):T.leave room c (n+1)=some j:=by
 show (if _ then _ else match T.leave room c n with | none=>_ | some j=>_)=_
 rw [if_neg h,hn]
 exact if_neg ha
end
theorem zak (base m L:Nat) (F:zG) (T:zk) (w:World) (hT:zI base m L F w T) (hm:m<=100000) (hL:L<=100000):
 Calls prog 37 #[.pointer (some ⟨F.gt,0,none⟩)] w (zj3 w (.int .i64 ((2*F.nn+m:Nat):Int))):=by
 have j:=hT.cell1
 have e:=hT.cell2
 have b:=hT.cols
 have r:IntKind.i64.wrap (2*(F.nn:Int))=2*(F.nn:Int):=by rw [IntKind.wrap_i64];omega
 have l:IntKind.i64.wrap (2*(F.nn:Int)+(m:Int))=2*(F.nn:Int)+(m:Int):=by rw [IntKind.wrap_i64];omega
 clear hT b
 go_in
 go_upto_region 1 with fail
 go_region
 go_wp2
 go_ret
 exact ⟨by push_cast;rfl,(zv w).out⟩
def LvR (w0:World) (base m L:Nat) (F:zG) (T:zk) (c:Nat) (bv iv:Value) (wr:World):Prop:=
 ∃ i:Nat,i<=m/\iv= .int .i64 (i:Nat)/\bv= .int .i64 (zac (T.leave (2*F.nn+m) c i))/\Hid (zI base m L F wr T)/\Hid (Below w0.heap.size w0 wr)
theorem VF (base m L:Nat) (F:zG) (T:zk) (c:Nat) (w:World) (hT:zI base m L F w T) (hf:T.Fits m L) (hc:c<L) (hm:m<=100000) (hL:L<=100000):
 Calls prog 81 #[.pointer (some ⟨F.gt,0,none⟩),.int .i64 c] w (zj3 w (.int .i64 (zac (T.leave (2*F.nn+m) c m)))):=by
 have t1:=hT.cell1
 have l:=ze hT
 have HF:=ze hf
 have au:=ze hT.lt2
 have aE:0<L:=by have:=au.o;omega
 have aF:(c:Int)<(L:Int):=by omega
 have aB:(0:Int)<(L:Int):=by omega
 have R:=ze (fun w' (h:zI base m L F w' T)=>zak base m L F T w' h hm hL)
 obtain ⟨C,O⟩:∃ C:Nat,Hid (2*F.nn+m=C):=⟨_,rfl⟩
 rw [O.o] at R |-
 have u:=ze (xh w)
 clear hT hf
 go_in
 go_wp2
 go_loopw [5,15] (LvR w base m L F T c) (fun _ iv _=>m - (intOf iv).toNat)
 case atStart=>exact ⟨0,uB,rfl,rfl,l,u⟩
 case round=>
  clear l u t1
  obtain ⟨i,hi,rfl,rfl,l,u⟩:=hrel
  rw [O.o]
  by_cases av:i<m
  rotate_left
  . obtain rfl:m=i:=by omega
    go_wp2;go_ret;exact ⟨by go_num,u.o⟩
  have aG:(i:Int)<(m:Int):=by omega
  have aC:(i:Int)<(m:Int)+1:=by omega
  have t3:=l.o.cell3;have t4:=l.o.mat.cell (i:=i) (by omega);obtain ⟨ax,aA,an,ac,ag,a0,Z,a2,ha⟩:=l.o.mat.at_ (i:=i) (k:=c) (by omega) hc;obtain ⟨sg,aj⟩:∃ sg:Int,zZ (T.cell i c) 0=sg:=⟨_,rfl⟩;have ad:=zao (z:=T.cell i c);have ae:=ZD _ _ wr ha;rw [aj] at ad ae;have Y:=ze ae;clear aj ha ae
  by_cases hp:0<=T.cell i c
  . have d1:decide (sg ≥ 0)=true:=uE (ad.2 hp)
    have G:Hid (T.leave C c (i+1)=T.leave C c i):=T.leave_pos hp;clear ad hp;go_wp2_with fail;refine Y.o.mono ?_;rintro e w1 ⟨rfl,N⟩;replace l:=ze (l.o.below N);replace u:=eb_ u N;clear N Y t3 t4 a0 Z a2;go_wp2;go_roundw
    case rel=>exact ⟨i+1,by omega,by go_num,by rw [O.o,G.o],l,u⟩
    case measure=>simp [intOf];omega
  have d1:decide (sg ≥ 0)=false:=uF (fun h=>hp (ad.1 h))
  have X:Hid (T.cell i c<0):=Int.not_le.1 hp;clear ad hp
  cases hlv:T.leave C c i with
  | none=>
    have G:Hid (T.leave C c (i+1)=some i):=T.leave_none (Int.not_le.2 X.o) hlv;have d2:decide (zac none<0)=true:=by decide
    have d3:zac none= -1:=rfl;clear hlv;go_wp2_with fail;refine Y.o.mono ?_;rintro e w1 ⟨rfl,N⟩;replace l:=ze (l.o.below N);replace u:=eb_ u N;clear N Y t3 t4 a0 Z a2;go_wp2;go_roundw
    case rel=>exact ⟨i+1,by omega,by go_num,(by rw [O.o,G.o];rfl),l,u⟩
    case measure=>simp [intOf];omega
  | some j=>
    have aw:=T.leave_lt C c i j hlv;have aD:(j:Int)<(m:Int)+1:=by omega
    have az:(0:Int)<=(j:Int):=by omega
    have d2:decide ((j:Int)<0)=false:=by rw [decide_eq_false_iff_not];omega
    have d3:zac (some j)=(j:Int):=rfl;have ab:=ze hlv;clear hlv;rw [d3];go_wp2_with fail;refine Y.o.mono ?_;rintro e w1 ⟨rfl,N⟩;replace l:=ze (l.o.below N);replace u:=eb_ u N;clear N Y t3 t4 a0 Z a2 d3;have t3:=l.o.cell3;have t4:=l.o.mat.cell (i:=j) (by omega)
    skip
    go_upto_region 10 with fail
    clear t3 t4;obtain ⟨ax,aA,an,ac,ag,a0,Z,a2,ha⟩:=l.o.mat.at_ (i:=i) (k:=c) (by omega) hc;obtain ⟨bx,bA,bn,bc,bg,b0,b1,b2,ar⟩:=l.o.mat.at_ (i:=j) (k:=c) (by omega) hc;obtain ⟨cx,cA,cn,cc,cg,c0,c1,c2,af⟩:=l.o.mat.at_ (i:=i) (k:=0) (by omega) (by omega);obtain ⟨ex,eA,en,ec,eg,e0,e1,e2,aq⟩:=l.o.mat.at_ (i:=j) (k:=0) (by omega) (by omega);simp only [Nat.zero_mul,Nat.zero_add] at c0 c1 c2 e0 e1 e2;have S:=(l.o.mat.rows i (by omega)).2.lt;have V:=(l.o.mat.rows j (by omega)).2.lt;obtain ⟨HA,ao,ai,ah⟩:=hz4 ha ar af aq;have N1:=ze (HF.o.cell i c (by omega) hc);have N2:=ze (HF.o.cell j c (by omega) hc);have N3:=ze (HF.o.cell i 0 (by omega) (by omega));have N4:=ze (HF.o.cell j 0 (by omega) (by omega));clear ha ar af aq
    have y:∀ w',Hid (Below w1.heap.size w1 w')->w'.cell? ⟨F.g i,c*3,none⟩=some (.int .i64 ax)/\w'.cell? ⟨F.g i,c*3+1,none⟩=some (.slice aA an ac)/\w'.cell? ⟨F.g i,c*3+2,none⟩=some (.bool ag)/\w'.cell? ⟨F.g j,c*3,none⟩=some (.int .i64 bx)/\w'.cell? ⟨F.g j,c*3+1,none⟩=some (.slice bA bn bc)/\w'.cell? ⟨F.g j,c*3+2,none⟩=some (.bool bg)/\w'.cell? ⟨F.g i,0,none⟩=some (.int .i64 cx)/\w'.cell? ⟨F.g i,1,none⟩=some (.slice cA cn cc)/\w'.cell? ⟨F.g i,2,none⟩=some (.bool cg)/\w'.cell? ⟨F.g j,0,none⟩=some (.int .i64 ex)/\w'.cell? ⟨F.g j,1,none⟩=some (.slice eA en ec)/\w'.cell? ⟨F.g j,2,none⟩=some (.bool eg):=fun w' hB=>⟨zl hB S a0,zl hB S Z,zl hB S a2,zl hB V b0,zl hB V b1,zl hB V b2,zl hB S c0,zl hB S c1,zl hB S c2,zl hB V e0,zl hB V e1,zl hB V e2⟩
    refine y8 y 7 12 19 (zv w1) fun b=>?_;simp only [xDR]
    iterate 7 refine zH ?_
    refine zB ?_;refine tK 9 ?_;refine tK 10 ?_;refine tK 11 ?_;refine tK 12 ?_;refine tK 13 ?_;refine tK 14 ?_;refine tK 15 ?_;refine rK 7 fun K hK=>?_
    go_simp
    go_at_call 74;refine (yF _ _ _ (ao.o.below b.1.out)).mono ?_;rintro e w2 ⟨v1,rfl,hv,r⟩;have al:=ze hv;clear hv;refine hK.out _ _ (zm (zp r b.1) (y _)) ?_;clear hK K b;intro b
    try simp only [Act.put,xST]
    clear r;refine rK 8 fun K hK=>?_
    go_simp
    go_at_call 40;refine (xB _ _ _ _ _ (ai.o.below b.1.out) al.o (N3.o.le2 (by omega)) (N2.o.neg.le2 (by omega))).mono ?_;rintro e w3 ⟨v2,rfl,hv,r⟩;have aa:=ze hv;clear hv al;refine hK.out _ _ (zm (zp r b.1) (y _)) ?_;clear hK K b;intro b
    try simp only [Act.put,xST]
    clear r;refine rK 16 fun K hK=>?_
    go_simp
    go_at_call 74;refine (yF _ _ _ (HA.o.below b.1.out)).mono ?_;rintro e w4 ⟨v3,rfl,hv,r⟩;have am:=ze hv;replace aa:=ze (aa.o.below r);clear hv;refine hK.out _ _ (zm (zp r b.1) (y _)) ?_;clear hK K b;intro b
    try simp only [Act.put,xST]
    clear r;refine rK 17 fun K hK=>?_
    go_simp
    go_at_call 40;refine (xB _ _ _ _ _ (ah.o.below b.1.out) am.o (N4.o.le2 (by omega)) (N1.o.neg.le2 (by omega))).mono ?_;rintro e w5 ⟨v4,rfl,hv,r⟩;have ap:=ze hv;replace aa:=ze (aa.o.below r);clear hv am;refine hK.out _ _ (zm (zp r b.1) (y _)) ?_;clear hK K b;intro b
    try simp only [Act.put,xST]
    clear r;refine rK 18 fun K hK=>?_
    go_simp
    go_at_call 48;refine (zc8 _ _ _ _ _ aa.o ap.o (YG N3.o N2.o.neg (by omega)) (YG N4.o N1.o.neg (by omega))).mono ?_;rintro e D ⟨rfl,r⟩;refine hK.out _ _ (zm (zp r b.1) (y _)) ?_;clear hK K b;intro b
    try simp only [Act.put,xST]
    clear r aa ap;have B:=(b.1).out;replace l:=ze (zI.below l.o B);replace u:=eb_ u B;clear B b y;refine hdn ?_;simp only [xDR];clear HA ao ai ah N1 N2 N3 N4 a0 Z a2 b0 b1 b2 c0 c1 c2 e0 e1 e2 S V;obtain ⟨cv,ak⟩:∃ cv:Int,zZ (T.cell i 0* -(T.cell j c)) (T.cell j 0* -(T.cell i c))=cv:=⟨_,rfl⟩;have I:=YD (T.cell i 0* -(T.cell j c)) (T.cell j 0* -(T.cell i c));rw [ak] at I |-;clear ak
    go_upto_region 11 with fail
    skip
    have M:=l.o.lt;obtain ⟨gb,cb,eb,E,Q⟩:=l.o.basics (by omega);have J:=l.o.cell7;rw [eb] at J;have o1:=Q i av;have o2:=Q j (by omega);have ay:(j:Int)<(m:Int):=by omega
    rcases I with ⟨I,rfl⟩ | ⟨I,rfl⟩ | ⟨I,rfl⟩
    . have G:Hid (T.leave C c (i+1)=some i):=T.leave_yes (Int.not_le.2 X.o) ab.o (.inl I)
      clear I;have y:∀ w',Hid (Below D.heap.size D w')->w'.cell? ⟨F.gt,7,none⟩=some (.slice (some ⟨gb,0,none⟩) m cb)/\w'.cell? ⟨gb,i,none⟩=some (.int .i64 (T.basic i:Nat))/\w'.cell? ⟨gb,j,none⟩=some (.int .i64 (T.basic j:Nat)):=fun w' hB=>⟨zl hB M J,zl hB E o1,zl hB E o2⟩
      refine y8 y 3 43 46 (zv D) fun b=>?_;simp only [xDR]
      iterate 3 refine zH ?_
      refine zB ?_;refine sK 3 ?_;refine sK 4 ?_;refine sK 5 ?_;refine sK 6 ?_;refine sK 7 ?_;refine sK 8 ?_;refine sK 9 ?_;refine sK 10 ?_;refine sK 11 ?_;refine sK 12 ?_;refine sK 13 ?_;refine sK 14 ?_;refine sK 15 ?_;refine sK 16 ?_;refine sK 17 ?_;refine sK 18 ?_;refine sK 19 ?_;refine sK 20 ?_;refine sK 21 ?_;refine sK 22 ?_;refine sK 23 ?_;refine sK 24 ?_;refine sK 25 ?_;refine sK 26 ?_;refine sK 27 ?_;refine sK 28 ?_;refine sK 29 ?_;refine sK 30 ?_;refine sK 31 ?_;refine sK 32 ?_;refine sK 33 ?_;refine sK 34 ?_;refine sK 35 ?_;refine sK 36 ?_;refine sK 37 ?_;refine sK 38 ?_;refine sK 39 ?_;refine sK 40 ?_;refine sK 41 ?_;refine sK 42 ?_;refine sK 43 ?_;refine sK 44 ?_;refine sK 45 ?_;have B:=(b.1).out;replace l:=ze (zI.below l.o B);replace u:=eb_ u B;clear B b y;refine hdn ?_;simp only [xDR];clear J o1 o2 M E Q;go_wp2;go_roundw
      case rel=>exact ⟨i+1,by omega,by go_num,(by rw [O.o,G.o];rfl),l,u⟩
      case measure=>simp [intOf];omega
    . by_cases U:T.basic i=C
      . have G:Hid (T.leave C c (i+1)=some i):=T.leave_yes (Int.not_le.2 X.o) ab.o (.inr ⟨I,.inl U⟩)
        have d4:((T.basic i:Int) == (C:Int))=true:=by rw [beq_iff_eq];omega
        clear I U;have y:∀ w',Hid (Below D.heap.size D w')->w'.cell? ⟨F.gt,7,none⟩=some (.slice (some ⟨gb,0,none⟩) m cb)/\w'.cell? ⟨gb,i,none⟩=some (.int .i64 (T.basic i:Nat))/\w'.cell? ⟨gb,j,none⟩=some (.int .i64 (T.basic j:Nat)):=fun w' hB=>⟨zl hB M J,zl hB E o1,zl hB E o2⟩
        refine y8 y 3 43 46 (zv D) fun b=>?_;simp only [xDR]
        iterate 3 refine zH ?_
        refine zB ?_;refine tK 3 ?_;refine tK 4 ?_;refine tK 5 ?_;refine tK 6 ?_;refine tK 7 ?_;refine tK 8 ?_;refine tK 9 ?_;refine tK 10 ?_;refine tK 11 ?_;refine tK 12 ?_;refine tK 13 ?_;refine rK 14 fun K hK=>?_;rw [if_pos (by rfl)]
        go_simp
        go_at_call 37;refine (R.o _ (l.o.below b.1.out)).mono ?_;rintro e w7 ⟨rfl,r⟩;refine hK.out _ _ (zm (zp r b.1) (y _)) ?_;clear hK K b;intro b
        try simp only [Act.put,xST]
        clear r;refine tK 15 ?_;refine tK 16 ?_;refine sK 17 ?_;refine sK 18 ?_;refine sK 19 ?_;refine sK 20 ?_;refine sK 21 ?_;refine sK 22 ?_;refine sK 23 ?_;refine sK 24 ?_;refine sK 25 ?_;refine sK 26 ?_;refine sK 27 ?_;refine sK 28 ?_;refine sK 29 ?_;refine sK 30 ?_;refine sK 31 ?_;refine sK 32 ?_;refine sK 33 ?_;refine sK 34 ?_;refine sK 35 ?_;refine sK 36 ?_;refine sK 37 ?_;refine sK 38 ?_;refine sK 39 ?_;refine sK 40 ?_;refine sK 41 ?_;refine sK 42 ?_;refine sK 43 ?_;refine tK 44 ?_;refine tK 45 ?_;have B:=(b.1).out;replace l:=ze (zI.below l.o B);replace u:=eb_ u B;clear B b y;refine hdn ?_;simp only [xDR];clear J o1 o2 M E Q;go_wp2;go_roundw
        case rel=>exact ⟨i+1,by omega,by go_num,(by rw [O.o,G.o];rfl),l,u⟩
        case measure=>simp [intOf];omega
      have d4:((T.basic i:Int) == (C:Int))=false:=by rw [beq_eq_false_iff_ne];omega
      by_cases h4:T.basic j=C
      . have G:Hid (T.leave C c (i+1)=some j):=T.leave_no (Int.not_le.2 X.o) ab.o (fun h=>by
         rcases h with h | ⟨_,h | ⟨h,_⟩⟩
         . omega
         . exact U h
         . exact h h4)
        have d5:((T.basic j:Int) != (C:Int))=false:=by rw [bne_eq_false_iff_eq];omega
        clear I U h4;have y:∀ w',Hid (Below D.heap.size D w')->w'.cell? ⟨F.gt,7,none⟩=some (.slice (some ⟨gb,0,none⟩) m cb)/\w'.cell? ⟨gb,i,none⟩=some (.int .i64 (T.basic i:Nat))/\w'.cell? ⟨gb,j,none⟩=some (.int .i64 (T.basic j:Nat)):=fun w' hB=>⟨zl hB M J,zl hB E o1,zl hB E o2⟩
        refine y8 y 3 43 46 (zv D) fun b=>?_;simp only [xDR]
        iterate 3 refine zH ?_
        refine zB ?_;refine tK 3 ?_;refine tK 4 ?_;refine tK 5 ?_;refine tK 6 ?_;refine tK 7 ?_;refine tK 8 ?_;refine tK 9 ?_;refine tK 10 ?_;refine tK 11 ?_;refine tK 12 ?_;refine tK 13 ?_;refine rK 14 fun K hK=>?_;rw [if_pos (by rfl)]
        go_simp
        go_at_call 37;refine (R.o _ (l.o.below b.1.out)).mono ?_;rintro e w7 ⟨rfl,r⟩;refine hK.out _ _ (zm (zp r b.1) (y _)) ?_;clear hK K b;intro b
        try simp only [Act.put,xST]
        clear r;refine tK 15 ?_;refine tK 16 ?_;refine tK 17 ?_;refine tK 18 ?_;refine tK 19 ?_;refine tK 20 ?_;refine tK 21 ?_;refine tK 22 ?_;refine tK 23 ?_;refine tK 24 ?_;refine rK 25 fun K hK=>?_;rw [if_pos (by rfl)]
        go_simp
        go_at_call 37;refine (R.o _ (l.o.below b.1.out)).mono ?_;rintro e w8 ⟨rfl,r⟩;refine hK.out _ _ (zm (zp r b.1) (y _)) ?_;clear hK K b;intro b
        try simp only [Act.put,xST]
        clear r;refine tK 26 ?_;refine tK 27 ?_;refine sK 28 ?_;refine sK 29 ?_;refine sK 30 ?_;refine sK 31 ?_;refine sK 32 ?_;refine sK 33 ?_;refine sK 34 ?_;refine sK 35 ?_;refine sK 36 ?_;refine sK 37 ?_;refine sK 38 ?_;refine sK 39 ?_;refine sK 40 ?_;refine sK 41 ?_;refine sK 42 ?_;refine tK 43 ?_;refine tK 44 ?_;refine tK 45 ?_;have B:=(b.1).out;replace l:=ze (zI.below l.o B);replace u:=eb_ u B;clear B b y;refine hdn ?_;simp only [xDR];clear J o1 o2 M E Q;go_wp2;go_roundw
        case rel=>exact ⟨i+1,by omega,by go_num,(by rw [O.o,G.o];rfl),l,u⟩
        case measure=>simp [intOf];omega
      have d5:((T.basic j:Int) != (C:Int))=true:=by rw [bne_iff_ne];omega
      by_cases h5:T.basic i<T.basic j
      . have G:Hid (T.leave C c (i+1)=some i):=T.leave_yes (Int.not_le.2 X.o) ab.o (.inr ⟨I,.inr ⟨h4,h5⟩⟩)
        have d6:decide ((T.basic i:Int)<(T.basic j:Int))=true:=by rw [decide_eq_true_iff];omega
        have d7:decide (T.basic i<T.basic j)=true:=uE h5;clear I U h4;have y:∀ w',Hid (Below D.heap.size D w')->w'.cell? ⟨F.gt,7,none⟩=some (.slice (some ⟨gb,0,none⟩) m cb)/\w'.cell? ⟨gb,i,none⟩=some (.int .i64 (T.basic i:Nat))/\w'.cell? ⟨gb,j,none⟩=some (.int .i64 (T.basic j:Nat)):=fun w' hB=>⟨zl hB M J,zl hB E o1,zl hB E o2⟩
        refine y8 y 3 43 46 (zv D) fun b=>?_;simp only [xDR]
        iterate 3 refine zH ?_
        refine zB ?_;refine tK 3 ?_;refine tK 4 ?_;refine tK 5 ?_;refine tK 6 ?_;refine tK 7 ?_;refine tK 8 ?_;refine tK 9 ?_;refine tK 10 ?_;refine tK 11 ?_;refine tK 12 ?_;refine tK 13 ?_;refine rK 14 fun K hK=>?_;rw [if_pos (by rfl)]
        go_simp
        go_at_call 37;refine (R.o _ (l.o.below b.1.out)).mono ?_;rintro e w7 ⟨rfl,r⟩;refine hK.out _ _ (zm (zp r b.1) (y _)) ?_;clear hK K b;intro b
        try simp only [Act.put,xST]
        clear r;refine tK 15 ?_;refine tK 16 ?_;refine tK 17 ?_;refine tK 18 ?_;refine tK 19 ?_;refine tK 20 ?_;refine tK 21 ?_;refine tK 22 ?_;refine tK 23 ?_;refine tK 24 ?_;refine rK 25 fun K hK=>?_;rw [if_pos (by rfl)]
        go_simp
        go_at_call 37;refine (R.o _ (l.o.below b.1.out)).mono ?_;rintro e w8 ⟨rfl,r⟩;refine hK.out _ _ (zm (zp r b.1) (y _)) ?_;clear hK K b;intro b
        try simp only [Act.put,xST]
        clear r;refine tK 26 ?_;refine tK 27 ?_;refine tK 28 ?_;refine tK 29 ?_;refine tK 30 ?_;refine tK 31 ?_;refine tK 32 ?_;refine tK 33 ?_;refine tK 34 ?_;refine tK 35 ?_;refine tK 36 ?_;refine tK 37 ?_;refine tK 38 ?_;refine tK 39 ?_;refine tK 40 ?_;refine tK 41 ?_;refine tK 42 ?_;refine tK 43 ?_;refine tK 44 ?_;refine tK 45 ?_;have B:=(b.1).out;replace l:=ze (zI.below l.o B);replace u:=eb_ u B;clear B b y;refine hdn ?_;simp only [xDR];clear J o1 o2 M E Q;go_wp2;go_roundw
        case rel=>exact ⟨i+1,by omega,by go_num,(by rw [O.o,G.o];rfl),l,u⟩
        case measure=>simp [intOf];omega
      have G:Hid (T.leave C c (i+1)=some j):=T.leave_no (Int.not_le.2 X.o) ab.o (fun h=>by
       rcases h with h | ⟨_,h | ⟨_,h⟩⟩
       . omega
       . exact U h
       . exact h5 h)
      have d6:decide ((T.basic i:Int)<(T.basic j:Int))=false:=by rw [decide_eq_false_iff_not];omega
      have d7:decide (T.basic i<T.basic j)=false:=uF h5;clear I U h4;have y:∀ w',Hid (Below D.heap.size D w')->w'.cell? ⟨F.gt,7,none⟩=some (.slice (some ⟨gb,0,none⟩) m cb)/\w'.cell? ⟨gb,i,none⟩=some (.int .i64 (T.basic i:Nat))/\w'.cell? ⟨gb,j,none⟩=some (.int .i64 (T.basic j:Nat)):=fun w' hB=>⟨zl hB M J,zl hB E o1,zl hB E o2⟩
      refine y8 y 3 43 46 (zv D) fun b=>?_;simp only [xDR]
      iterate 3 refine zH ?_
      refine zB ?_;refine tK 3 ?_;refine tK 4 ?_;refine tK 5 ?_;refine tK 6 ?_;refine tK 7 ?_;refine tK 8 ?_;refine tK 9 ?_;refine tK 10 ?_;refine tK 11 ?_;refine tK 12 ?_;refine tK 13 ?_;refine rK 14 fun K hK=>?_;rw [if_pos (by rfl)]
      go_simp
      go_at_call 37;refine (R.o _ (l.o.below b.1.out)).mono ?_;rintro e w7 ⟨rfl,r⟩;refine hK.out _ _ (zm (zp r b.1) (y _)) ?_;clear hK K b;intro b
      try simp only [Act.put,xST]
      clear r;refine tK 15 ?_;refine tK 16 ?_;refine tK 17 ?_;refine tK 18 ?_;refine tK 19 ?_;refine tK 20 ?_;refine tK 21 ?_;refine tK 22 ?_;refine tK 23 ?_;refine tK 24 ?_;refine rK 25 fun K hK=>?_;rw [if_pos (by rfl)]
      go_simp
      go_at_call 37;refine (R.o _ (l.o.below b.1.out)).mono ?_;rintro e w8 ⟨rfl,r⟩;refine hK.out _ _ (zm (zp r b.1) (y _)) ?_;clear hK K b;intro b
      try simp only [Act.put,xST]
      clear r;refine tK 26 ?_;refine tK 27 ?_;refine tK 28 ?_;refine tK 29 ?_;refine tK 30 ?_;refine tK 31 ?_;refine tK 32 ?_;refine tK 33 ?_;refine tK 34 ?_;refine tK 35 ?_;refine tK 36 ?_;refine tK 37 ?_;refine tK 38 ?_;refine tK 39 ?_;refine tK 40 ?_;refine tK 41 ?_;refine tK 42 ?_;refine tK 43 ?_;refine tK 44 ?_;refine tK 45 ?_;have B:=(b.1).out;replace l:=ze (zI.below l.o B);replace u:=eb_ u B;clear B b y;refine hdn ?_;simp only [xDR];clear J o1 o2 M E Q;go_wp2;go_roundw
      case rel=>exact ⟨i+1,by omega,by go_num,(by rw [O.o,G.o];rfl),l,u⟩
      case measure=>simp [intOf];omega
    . have G:Hid (T.leave C c (i+1)=some j):=T.leave_no (Int.not_le.2 X.o) ab.o (fun h=>by
       rcases h with h | ⟨h,_⟩<;>omega)
      clear I;have y:∀ w',Hid (Below D.heap.size D w')->w'.cell? ⟨F.gt,7,none⟩=some (.slice (some ⟨gb,0,none⟩) m cb)/\w'.cell? ⟨gb,i,none⟩=some (.int .i64 (T.basic i:Nat))/\w'.cell? ⟨gb,j,none⟩=some (.int .i64 (T.basic j:Nat)):=fun w' hB=>⟨zl hB M J,zl hB E o1,zl hB E o2⟩
      refine y8 y 3 43 46 (zv D) fun b=>?_;simp only [xDR]
      iterate 3 refine zH ?_
      refine zB ?_;refine tK 3 ?_;refine tK 4 ?_;refine tK 5 ?_;refine sK 6 ?_;refine sK 7 ?_;refine sK 8 ?_;refine sK 9 ?_;refine sK 10 ?_;refine sK 11 ?_;refine sK 12 ?_;refine sK 13 ?_;refine sK 14 ?_;refine sK 15 ?_;refine sK 16 ?_;refine sK 17 ?_;refine sK 18 ?_;refine sK 19 ?_;refine sK 20 ?_;refine sK 21 ?_;refine sK 22 ?_;refine sK 23 ?_;refine sK 24 ?_;refine sK 25 ?_;refine sK 26 ?_;refine sK 27 ?_;refine sK 28 ?_;refine sK 29 ?_;refine sK 30 ?_;refine sK 31 ?_;refine sK 32 ?_;refine sK 33 ?_;refine sK 34 ?_;refine sK 35 ?_;refine sK 36 ?_;refine sK 37 ?_;refine sK 38 ?_;refine sK 39 ?_;refine sK 40 ?_;refine sK 41 ?_;refine sK 42 ?_;refine sK 43 ?_;refine sK 44 ?_;refine tK 45 ?_;have B:=(b.1).out;replace l:=ze (zI.below l.o B);replace u:=eb_ u B;clear B b y;refine hdn ?_;simp only [xDR];clear J o1 o2 M E Q;go_wp2;go_roundw
      case rel=>exact ⟨i+1,by omega,by go_num,(by rw [O.o,G.o];rfl),l,u⟩
      case measure=>simp [intOf];omega
def wtN (T:zk) (nn m:Nat) (sc:Nat->Int) (b:Int):Nat->Nat->Rat
 | 0=>fun _=>0
 | n+1=>fun i=>if T.other n=2*nn+i then Rat.divInt (-(T.cell m (n+1))*sc i) (T.den*b) else wtN T nn m sc b n i
def zbg (w:World) (g n:Nat) (f:Nat->Int):Prop:=g<w.heap.size/\∀ k,k<n->zd8 w g k (f k)
theorem zbg.below {w w' :World} {g n:Nat} {f:Nat->Int} (h:zbg w g n f) (hb:Below w.heap.size w w'):zbg w' g n f:=⟨uK h.1 hb.size,fun k hk=>(h.2 k hk).below hb⟩
theorem Xk {w w1 w2:World} {g:Nat} (h:Below w.heap.size w w1) (hc:Chg (· =g) w1 w2) (hg:w.heap.size<=g):Below w.heap.size w w2:=h.trans (hc.below h.size (fun b e=>by omega))
def zs1 (m:Nat) (f:Nat->Rat) (w:World) (e:Ending) (w' :World):Prop:=∃ g,e= .returned (.slice (some ⟨g,0,none⟩) m m)/\yH w' g m m f/\Below w.heap.size w w'
def WtA (w0:World) (m g gb:Nat) (z:Int) (iv:Value) (wr:World):Prop:=
 ∃ i:Nat,i<=m/\iv= .int .i64 i/\Hid (yH wr g m i (fun _=>0))/\Hid (Z3 wr gb z)/\Hid (Below w0.heap.size w0 wr)
def WtB (w0:World) (m L g gb nn:Nat) (T:zk) (sc:Nat->Int) (z:Int) (kv:Value) (wr:World):Prop:=
 ∃ k:Nat,k<=L - 1/\kv= .int .i64 k/\Hid (yH wr g m m (wtN T nn m sc z k))/\Hid (Z3 wr gb z)/\Hid (Below w0.heap.size w0 wr)
theorem Vz (base m L:Nat) (F:zG) (T:zk) (sA:Option Addr) (cs:Nat) (sc:Nat->Int) (vn:Value) (z:Int) (w:World) (hT:zI base m L F w T) (hs:0<m->∃ Q,sA=some ⟨Q,0,none⟩/\zbg w Q m sc) (hn:zN w vn z) (hf:T.Fits m L) (hz:Fit z) (hz0:z≠0)
 (hsc:∀ i,i<m->Fit (sc i)) (hm:m<=100000) (hL:L<=100000) (ho:∀ k,k<L - 1->T.other k<=1000000):
 Calls prog 34 #[.pointer (some ⟨F.gt,0,none⟩),.slice sA m cs,vn] w (zs1 m (wtN T F.nn m sc z (L - 1)) w):=by
 obtain ⟨x2,A2,k2,c2,Z,rfl,_,_,_⟩:=hn.form
 obtain ⟨I,al⟩:∃ x,x=w.alloc (.cells #[.int .i64 x2,.slice A2 k2 c2,.bool Z] 58):=⟨_,rfl⟩
 have J:=zf w (.cells #[.int .i64 x2,.slice A2 k2 c2,.bool Z] 58)
 have ao:=Blk.new w 58 #[.int .i64 x2,.slice A2 k2 c2,.bool Z]
 rw [<- al] at J ao
 have u:Hid (Z3 I w.heap.size z):=⟨_,_,_,_,_,ao,hn.below J⟩
 obtain ⟨r,O,aM,HF,HZ,aT,aR,HO⟩:=hz8 J hT hs hf hz hz0 hsc ho
 clear hn J ao hT hs hf hz hz0 hsc ho
 go_in
 go_upto_region 1 with fail
 rw [<- al]
 clear al
 have aN:=ze (Nat.le_refl w.heap.size)
 generalize aE:w.heap.size=gv at u |-
 have aU:Hid (w.heap.size<=gv):=Nat.le_of_eq aE
 clear aE aN
 have Y:=(O.o.below r.o).cell1
 have aP:=fun w=>zgw .i64 m hm w
 go_upto_region 2 with fail
 have J:=zf I (.cells (xT m) 60)
 have l:Hid (yH (I.alloc (.cells (xT m) 60)) I.heap.size m 0 (fun _=>0)):=zkc I m _
 have U:Hid (w.heap.size<=I.heap.size/\gv<I.heap.size):=⟨r.o.size,u.o.lt⟩
 replace u:=ze (u.o.below J)
 replace r:=eb_ r J
 clear J aP Y
 generalize I.alloc (.cells (xT m) 60)=W1 at u r l |-
 generalize I.heap.size=g at l U |-
 go_wp2
 go_loopw [21] (WtA w m g gv z) (fun iv _=>m - (intOf iv).toNat)
 case atStart=>exact ⟨0,uB,rfl,l,u,r⟩
 case round=>
  clear l u r
  obtain ⟨i,hi,rfl,l,u,r⟩:=hrel
  by_cases aJ:i<m
  . have aS:(i:Int)<(m:Int):=by omega
    go_wp2_with fail;refine (ZN 0 _ (by omega) (by omega)).mono ?_;rintro e w1 ⟨v,rfl,⟨x,A,k,c,s,y,B,k',c',t,rfl,ab,ad⟩,ah⟩;replace l:=ze (l.o.below ah);replace u:=ze (u.o.below ah);replace r:=eb_ r ah;obtain ⟨u0,u1,u2,u3,u4,u5,s0,s1,Z,s3,s4,s5⟩:=l.o.slots aJ;have f0:=l.o.frozen (i*6);have f1:=l.o.frozen (i*6+1);have f2:=l.o.frozen (i*6+2);have f3:=l.o.frozen (i*6+3);have f4:=l.o.frozen (i*6+4);have f5:=l.o.frozen (i*6+5);have hq:zV w1 (.agg #[.int .i64 x,.slice A k c,.bool s,.int .i64 y,.slice B k' c',.bool t]) 0:=⟨_,_,_,_,_,_,_,_,_,_,rfl,ab,ad⟩;have N:=Y4 (w:=w1) (g:=g) (k:=i) (x:=x) (s:=s) (A:=A) (n:=k) (c:=c) (y:=y) (t:=t) (B:=B) (n' :=k') (c' :=c')
    have M:Hid (yH (World.ratAt w1 g i x A k c s y B k' c' t) g m (i+1) (fun _=>0)):=l.o.set aJ hq (fun j hj=>by
     by_cases e:j=i
     . exact .inl ⟨e,rfl⟩
     exact .inr ⟨e,by omega,rfl⟩)
    have X:=ze (u.o.chg N (by have:=U.o.2;omega) (fun b e=>by subst e;exact l.o.noDig));have S:=ze (Xk r.o N U.o.1);clear l u r hq N ab ad ah;go_wp2;go_roundw
    case rel=>first | exact ⟨i+1,by omega,by go_num,M,X,S⟩ | ((repeat apply Exists.intro);exact ⟨⟨i+1,by omega,by go_num,M,X,S⟩,rfl⟩)
    case measure=>simp [intOf];omega
  obtain rfl:m=i:=by omega
  skip
  obtain ⟨go,co,eo,aI,aF⟩:=O.o.others;have aO:=ze (fun wr (h:Below w.heap.size w wr) k (hk:k<L - 1)=>(h.cell (p:=⟨go,k,none⟩) aI).trans (aF k hk));have G:=ze (O.o.below r.o);have Y:=G.o.cell1;have t3:=G.o.cell3;have t4:=G.o.mat.cell (i:=m) (by omega);have aW:(m:Int)<(m:Int)+1:=by omega
  clear aI aF
  go_upto_region 7 with fail
  go_region
  replace l:=ze (l.o.below (zv _).out);replace u:=ze (u.o.below (zv _).out);replace r:=ze (ext r.o (zv _).out);clear Y t3 t4 G;generalize wr.drew=W3 at l u r |-;have t8:=(O.o.below r.o).cell8;rw [eo] at t8;have aY:IntKind.i64.wrap (2*(F.nn:Int))=2*(F.nn:Int):=by have:=O.o.cols;rw [IntKind.wrap_i64];omega
  have a4:F.nn<=100000:=by have:=O.o.cols;omega
  go_wp2
  go_loopw [45] (WtB w m L g gv F.nn T sc z) (fun kv _=>L - 1 - (intOf kv).toNat)
  case atStart=>exact ⟨0,uB,rfl,l,u,r⟩
  case round=>
   clear l u r t8;obtain ⟨k,hk,rfl,l,u,r⟩:=hrel
   by_cases aG:k<L - 1
   rotate_left
   . obtain rfl:k=L - 1:=by omega
     go_wp2;go_ret;exact ⟨g,rfl,l.o,r.o⟩
   have aV:(k:Int)<((L - 1:Nat):Int):=by omega
   have G:=ze (O.o.below r.o);have o1:=aO.o _ r.o k aG;have t2:=G.o.cell2;have Y:=G.o.cell1;have aj:=HO.o k aG;have az:IntKind.i64.wrap ((T.other k:Int) - 2*(F.nn:Int))=(T.other k:Int) - 2*(F.nn:Int):=by rw [IntKind.wrap_i64];omega
   by_cases ap:2*F.nn<=T.other k/\T.other k<2*F.nn+m
   rotate_left
   . obtain ⟨d,hd⟩:∃ d:Int,(T.other k:Int) - 2*(F.nn:Int)=d:=⟨_,rfl⟩
     have M:Hid (yH wr g m m (wtN T F.nn m sc z (k+1))):=l.o.fewer (fun j hj=>⟨hj,by
      show (if T.other k=2*F.nn+j then _ else _)=_
      rw [if_neg (by omega)]⟩)
     rw [hd] at az;clear l
     by_cases h0:d ≥ 0
     . have d1:decide (d ≥ 0)=true:=uE h0
       have d2:decide (d<(m:Int))=false:=uF (by omega);clear ap aj h0;go_wp2;go_roundw
       case rel=>exact ⟨k+1,by omega,by go_num,M,u,r⟩
       case measure=>simp [intOf];omega
     have d1:decide (d ≥ 0)=false:=uF h0
     clear ap aj h0;go_wp2;go_roundw
     case rel=>exact ⟨k+1,by omega,by go_num,M,u,r⟩
     case measure=>simp [intOf];omega
   obtain ⟨i,hi⟩:=uQ (T.other k - 2*F.nn)
   have ei:(T.other k:Int) - 2*(F.nn:Int)=(i:Int):=by omega
   have ae:i<m:=by omega
   have HI:Hid (T.other k=2*F.nn+i):=by show T.other k=_;omega
   have d1:decide ((i:Int) ≥ 0)=true:=by rw [decide_eq_true_iff];omega
   have d2:decide ((i:Int)<(m:Int))=true:=by rw [decide_eq_true_iff];omega
   have aS:(i:Int)<(m:Int):=by omega
   rw [ei] at az;obtain ⟨K,D⟩:=uQ (k+1);have eK:(k:Int)+1=(K:Int):=by omega
   have a3:(K:Int)<(L:Int):=by omega
   have aZ:IntKind.i64.wrap (K:Int)=(K:Int):=by rw [IntKind.wrap_i64];omega
   have aX:(0:Int)<=(K:Int):=by omega
   have ay:K<L:=by omega
   have HK:=ze D;clear hi ap aj D
   go_upto_region 13 with fail
   obtain ⟨ax,aA,an,ac,ag,a0,a1,a2,ha⟩:=G.o.mat.at_ (i:=m) (k:=K) (by omega) ay;obtain ⟨Q,aQ,av⟩:=aM.o (by omega);subst aQ;have ai:=av.below r.o;clear av;obtain ⟨bx,bA,bn,bc,bg,b0,b1,b2,aK⟩:=ai.2 i ae;obtain ⟨dx,dA,dn,dc,dg,V,aD⟩:=G.o.blk;have d4:wr.cell? ⟨F.gt,4,none⟩=some (.int .i64 dx):=by rw [V.cell];rfl
   have d5:wr.cell? ⟨F.gt,5,none⟩=some (.slice dA dn dc):=by rw [V.cell];rfl
   have d6:wr.cell? ⟨F.gt,6,none⟩=some (.bool dg):=by rw [V.cell];rfl
   obtain ⟨vx,vA,vn,vc,vg,ak,aH⟩:=u.o;obtain ⟨q0,q1,q2,_⟩:=bp3 ak;have tL:=V.lt;have aL:=(G.o.mat.rows m (by omega)).2.lt;have bL:=ai.1;have vL:=ak.lt;obtain ⟨HA,aC,ar,aq⟩:=hz4 ha aK aD aH;have N1:=ze (HF.o.cell m K (uA) ay);have N2:=ze (aR.o i ae);have au:Hid (T.den*z≠0):=by have:=HF.o.den;exact Int.mul_ne_zero (by omega) aT.o
   clear ha aK aD aH V ak ai Y t2 o1;have R:∀ w',Hid (Below wr.heap.size wr w')->w'.cell? ⟨F.g m,K*3,none⟩=some (.int .i64 ax)/\w'.cell? ⟨F.g m,K*3+1,none⟩=some (.slice aA an ac)/\w'.cell? ⟨F.g m,K*3+2,none⟩=some (.bool ag)/\w'.cell? ⟨Q,i*3,none⟩=some (.int .i64 bx)/\w'.cell? ⟨Q,i*3+1,none⟩=some (.slice bA bn bc)/\w'.cell? ⟨Q,i*3+2,none⟩=some (.bool bg)/\w'.cell? ⟨F.gt,4,none⟩=some (.int .i64 dx)/\w'.cell? ⟨F.gt,5,none⟩=some (.slice dA dn dc)/\w'.cell? ⟨F.gt,6,none⟩=some (.bool dg)/\w'.cell? ⟨gv,0,none⟩=some (.int .i64 vx)/\w'.cell? ⟨gv,1,none⟩=some (.slice vA vn vc)/\w'.cell? ⟨gv,2,none⟩=some (.bool vg):=fun w' hB=>⟨zl hB aL a0,zl hB aL a1,zl hB aL a2,zl hB bL b0,zl hB bL b1,zl hB bL b2,zl hB tL d4,zl hB tL d5,zl hB tL d6,zl hB vL q0,zl hB vL q1,zl hB vL q2⟩
   refine y8 R 7 14 21 (zv wr) fun C=>?_;simp only [xDR]
   iterate 7 refine zH ?_
   refine zB ?_;refine tK 8 ?_;refine tK 9 ?_;refine tK 10 ?_;refine tK 11 ?_;refine tK 13 ?_;refine tK 14 ?_;refine tK 15 ?_;refine tK 16 ?_;refine tK 17 ?_;refine rK 7 fun K D=>?_
   go_simp
   go_at_call 74;refine (yF _ _ _ (HA.o.below C.1.out)).mono ?_;rintro e w2 ⟨v1,rfl,hv,E⟩;have aw:=ze hv;clear hv;refine D.out _ _ (zm (zp E C.1) (R _)) ?_;clear D K C;intro C
   try simp only [Act.put,xST]
   clear E;refine rK 12 fun K D=>?_
   go_simp
   go_at_call 40;refine (xB _ _ _ _ _ aw.o (aC.o.below C.1.out) (N1.o.neg.le2 (by omega)) (N2.o.le2 (by omega))).mono ?_;rintro e w3 ⟨v2,rfl,hv,E⟩;have af:=ze hv;clear hv aw;refine D.out _ _ (zm (zp E C.1) (R _)) ?_;clear D K C;intro C
   try simp only [Act.put,xST]
   clear E;refine rK 18 fun K D=>?_
   go_simp
   go_at_call 40;refine (xB _ _ _ _ _ (ar.o.below C.1.out) (aq.o.below C.1.out) (HF.o.fden.le2 (by omega)) (HZ.o.le2 (by omega))).mono ?_;rintro e w4 ⟨v3,rfl,hv,E⟩;have aB:=ze hv;replace af:=ze (af.o.below E);clear hv;refine D.out _ _ (zm (zp E C.1) (R _)) ?_;clear D K C;intro C
   try simp only [Act.put,xST]
   clear E;refine rK 19 fun K D=>?_
   go_simp
   go_at_call 39;refine (Yd _ _ _ _ _ af.o aB.o au.o (YG N1.o.neg N2.o (by omega)) (YG HF.o.fden HZ.o (by omega))).mono ?_;rintro e w5 ⟨v4,rfl,hv,E⟩;have am:=ze hv;clear hv af aB;refine D.out _ _ (zm (zp E C.1) (R _)) ?_;clear D K C;intro C
   try simp only [Act.put,xST]
   clear E;refine tK 20 ?_;have aa:=(C.1).out;replace l:=ze (yH.below l.o aa);replace u:=ze (Z3.below u.o aa);replace r:=eb_ r aa;clear aa C R;refine hdn ?_;simp only [xDR];clear HA aC ar aq N1 N2 a0 a1 a2 b0 b1 b2 d4 d5 d6 q0 q1 q2 tL aL bL vL G au;obtain ⟨x,A,n,c,s,y,B,n',c',t,rfl,ab,ad⟩:=am.o;obtain ⟨u0,u1,u2,u3,u4,u5,s0,s1,Z,s3,s4,s5⟩:=l.o.slots ae;have f0:=l.o.frozen (i*6);have f1:=l.o.frozen (i*6+1);have f2:=l.o.frozen (i*6+2);have f3:=l.o.frozen (i*6+3);have f4:=l.o.frozen (i*6+4);have f5:=l.o.frozen (i*6+5);have N:=Y4 (w:=w5) (g:=g) (k:=i) (x:=x) (s:=s) (A:=A) (n:=n) (c:=c) (y:=y) (t:=t) (B:=B) (n' :=n') (c' :=c')
   have M:Hid (yH (World.ratAt w5 g i x A n c s y B n' c' t) g m m (wtN T F.nn m sc z (k+1))):=l.o.set ae am.o (fun j hj=>by
    have hk:=HK.o;subst hk;have hi:=HI.o
    show (j=i/\(if T.other k=2*F.nn+j then _ else _)=_)\/(j≠i/\j<m/\(if T.other k=2*F.nn+j then _ else _)=_)
    by_cases e:j=i
    . exact .inl ⟨e,by subst e;rw [if_pos hi]⟩
    exact .inr ⟨e,hj,by rw [if_neg (by omega)]⟩)
   have X:=ze (u.o.chg N (by have:=U.o.2;omega) (fun b e=>by subst e;exact l.o.noDig));have S:=ze (Xk r.o N U.o.1);clear l u r am N ab ad;go_wp2;go_roundw
   case rel=>first | exact ⟨k+1,by omega,by go_num,M,X,S⟩ | ((repeat apply Exists.intro);exact ⟨⟨k+1,by omega,by go_num,M,X,S⟩,rfl⟩)
   case measure=>simp [intOf];omega
def xE (f:Nat->Nat) (u:Int):Nat->Option Nat
 | 0=>none
 | n+1=>match xE f u n with
   | some j=>some j
   | none=>if (f n:Int)=u then some n else none
theorem Xj {f:Nat->Nat} {u:Int}:∀ {n:Nat},(∀ j,j<n->(f j:Int)≠u)->xE f u n=none
 | 0,_=>rfl
 | n+1,h=>by
   unfold xE;rw [Xj (n:=n) (fun j hj=>h j (by omega))];exact if_neg (h n (by omega))
theorem zbd {f:Nat->Nat} {u:Int} {i:Nat} (hi:(f i:Int)=u) (hl:∀ j,j<i->(f j:Int)≠u):∀ {n:Nat},i<n->xE f u n=some i
 | 0,h=>by omega
 | n+1,h=>by
   unfold xE
   by_cases e:i=n
   rotate_left
   . rw [zbd hi hl (n:=n) (by omega)]
   subst e
   rw [Xj hl];exact if_pos hi
def IxR (w0:World) (f:Nat->Nat) (u:Int) (n:Nat) (iv:Value) (wr:World):Prop:=∃ i:Nat,i<=n/\iv= .int .i64 i/\Hid (∀ j,j<i->(f j:Int)≠u)/\w0=wr
theorem zag (g n c:Nat) (f:Nat->Nat) (u:Int) (w:World) (hn:n<=1000000) (h:∀ i,i<n->w.cell? ⟨g,i,none⟩=some (.int .i64 (f i:Nat))):
 Calls prog 78 #[.slice (some ⟨g,0,none⟩) n c,.int .i64 u] w (zaw w (.int .i64 (zac (xE f u n)))):=by
 have HH:=ze h
 clear h
 go_in
 go_wp2
 go_loopw [8] (IxR w f u n) (fun iv _=>n - (intOf iv).toNat)
 case atStart=>exact ⟨0,uB,rfl,(fun j hj=>by omega),rfl⟩
 case round=>
  obtain ⟨i,hi,rfl,l,rfl⟩:=hrel
  by_cases r:i<n
  rotate_left
  . obtain rfl:n=i:=by omega
    have m:=ze (Xj (f:=f) (u:=u) l.o);go_wp2;go_ret;exact ⟨by rw [m.o];rfl,rfl⟩
  have B:(i:Int)<(n:Int):=by omega
  have C:=HH.out i r
  by_cases b:u=(f i:Int)
  . have y:(u == (f i:Int))=true:=by rw [beq_iff_eq];exact b
    have m:=ze (zbd (f:=f) (u:=u) b.symm l.o r);clear b;go_wp2;go_ret;exact ⟨by rw [m.o];rfl,rfl⟩
  have y:(u == (f i:Int))=false:=by rw [beq_eq_false_iff_ne];exact b
  have z:Hid (∀ j,j<i+1->(f j:Int)≠u):=fun j hj=>by
   by_cases e:j=i
   . subst e;exact fun h=>b h.symm
   exact l.o j (by omega)
  clear b l;go_wp2;go_round
  case rel=>exact ⟨i+1,by omega,by go_num,z,rfl⟩
  case measure=>simp [intOf];omega
theorem zjs (base m L:Nat) (F:zG) (T:zk) (vn:Value) (z:Int) (w:World) (hT:zI base m L F w T) (hn:zN w vn z) (hz:len 4294967296 z.natAbs<=33554432) (hd:Fit T.den) (hd0:T.den≠0):
 Calls prog 84 #[.pointer (some ⟨F.gt,0,none⟩),vn] w (zeb w (Rat.divInt z T.den)):=by
 obtain ⟨E,J,I,D,C,rfl,_,_,_⟩:=hn.form
 obtain ⟨r,Y⟩:∃ x,x=(w.alloc (.cells #[.int .i64 E,.slice J I D,.bool C] 58)).alloc (.cells #[.int .i64 0,.slice none 0 0,.bool false,.int .i64 0,.slice none 0 0,.bool false] 60):=⟨_,rfl⟩
 have G:=ext (zf w (.cells #[.int .i64 E,.slice J I D,.bool C] 58)) (zf _ (.cells #[.int .i64 0,.slice none 0 0,.bool false,.int .i64 0,.slice none 0 0,.bool false] 60))
 have O:=(Blk.new w 58 #[.int .i64 E,.slice J I D,.bool C]).alloc (.cells #[.int .i64 0,.slice none 0 0,.bool false,.int .i64 0,.slice none 0 0,.bool false] 60)
 have N:=Blk.new (w.alloc (.cells #[.int .i64 E,.slice J I D,.bool C] 58)) 60 #[.int .i64 0,.slice none 0 0,.bool false,.int .i64 0,.slice none 0 0,.bool false]
 simp only [World.size_alloc] at N
 rw [<- Y] at G O N
 have HW:=ze G
 have R:=ze (hn.below G)
 have HT:=hT.below G
 have j:=ze N
 obtain ⟨⟨dx,dA,dn,dc,dg,M,ad⟩,_⟩:=HT
 have U:=ze ad
 have d4:r.cell? ⟨F.gt,4,none⟩=some (.int .i64 dx):=by rw [M.cell];rfl
 have d5:r.cell? ⟨F.gt,5,none⟩=some (.slice dA dn dc):=by rw [M.cell];rfl
 have d6:r.cell? ⟨F.gt,6,none⟩=some (.bool dg):=by rw [M.cell];rfl
 have Q:=M.lt;obtain ⟨r0,r1,r2,_⟩:=bp3 O;have S:=O.lt
 obtain ⟨HZ,ai,af⟩:=hz3 hz hd hd0
 clear hn G O N M ad hT hz hd hd0
 go_in
 go_upto_region 1 with fail
 rw [<- Y]
 clear Y
 have X:∀ w',Hid (Below r.heap.size r w')->w'.cell? ⟨w.heap.size,0,none⟩=some (.int .i64 E)/\w'.cell? ⟨w.heap.size,1,none⟩=some (.slice J I D)/\w'.cell? ⟨w.heap.size,2,none⟩=some (.bool C)/\w'.cell? ⟨F.gt,4,none⟩=some (.int .i64 dx)/\w'.cell? ⟨F.gt,5,none⟩=some (.slice dA dn dc)/\w'.cell? ⟨F.gt,6,none⟩=some (.bool dg):=fun w' hB=>⟨zl hB S r0,zl hB S r1,zl hB S r2,zl hB Q d4,zl hB Q d5,zl hB Q d6⟩
 refine y8 X 5 1 6 (zv r) fun b=>?_
 simp only [xDR]
 iterate 5 refine zH ?_
 refine zB ?_
 refine rK 5 fun K hK=>?_
 go_simp
 go_at_call 39
 refine (Yd _ _ _ _ _ (R.o.below b.1.out) (U.o.below b.1.out) af.o HZ.o (uC ai.o (by omega))).mono ?_
 rintro e w1 ⟨v,rfl,hv,ac⟩
 have HV:=ze hv
 clear hv
 refine hK.out _ _ (zm (zp ac b.1) (X _)) ?_
 clear hK K b
 intro b
 try simp only [Act.put,xST]
 clear ac
 have u:=(b.1).out
 try clear e0 e1 e2 e3 e4 e5 eL
 replace HW:=eb_ HW u
 replace R:=ze (R.o.below u)
 replace U:=ze (U.o.below u)
 replace j:=kb_ j u
 clear u b X
 refine hdn ?_
 simp only [xDR]
 obtain ⟨e0,e1,e2,e3,e4,e5,eL⟩:=bkc6 j.o
 obtain ⟨x,A,k,c,s,y,B,k',c',t,rfl,aa,ab⟩:=HV.o
 obtain ⟨f0,f1,f2,f3,f4,f5⟩:=fq6 j
 have l:=yj (x:=x) (A:=A) (k:=k) (c:=c) (s:=s) (y:=y) (B:=B) (k' :=k') (c' :=c') (t:=t) j.o
 have V:=l.cell 0;have Z:=l.cell 1;have q2:=l.cell 2;have q3:=l.cell 3;have q4:=l.cell 4;have q5:=l.cell 5
 simp only [World.rat] at V Z q2 q3 q4 q5
 simp at V Z q2 q3 q4 q5
 have ah:=ze (yl (x:=x) (A:=A) (k:=k) (c:=c) (s:=s) (y:=y) (B:=B) (k' :=k') (c' :=c') (t:=t) aa j.o)
 have ag:=ze (yl (x:=x) (A:=A) (k:=k) (c:=c) (s:=s) (y:=y) (B:=B) (k' :=k') (c' :=c') (t:=t) ab j.o)
 have ae:Hid (Below w.heap.size w (World.rat w1 (w.heap.size+1) x A k c s y B k' c' t)):=ye HW.o (by omega)
 clear aa ab l HV R U r0 r1 r2 d4 d5 d6 Q S
 go_wp2_with fail
 refine bodyPost_ret (v:=.agg #[.int .i64 x,.slice A k c,.bool s,.int .i64 y,.slice B k' c',.bool t]) (by simp [results,results84,go_sem,V,Z,q2,q3,q4,q5]) rfl ?_
 exact ⟨_,rfl,⟨_,_,_,_,_,_,_,_,_,_,rfl,ah.o,ag.o⟩,ae.o⟩
theorem zm2 (f:Nat->Nat) (u:Int) (w:World):Calls prog 78 #[.slice none 0 0,.int .i64 u] w (zaw w (.int .i64 (zac (xE f u 0)))):=by
 go_in
 go_wp2
 go_loopw [8] (IxR w f u 0) (fun iv _=>0 - (intOf iv).toNat)
 case atStart=>exact ⟨0,uB,rfl,(fun j hj=>by omega),rfl⟩
 case round=>
  obtain ⟨i,hi,rfl,b,rfl⟩:=hrel
  obtain rfl:i=0:=by omega
  go_wp2
  go_ret
  exact ⟨rfl,rfl⟩
theorem zbc {base m L:Nat} {F:zG} {T:zk} {w:World} (h:zI base m L F w T) (hm:m<=100000) (u:Int):Calls prog 78 #[F.bv,.int .i64 u] w (zaw w (.int .i64 (zac (xE T.basic u m)))):=by
 rcases uN m with b | b
 . subst b
   rcases h.bas.1.2 with ⟨e,_⟩ | ⟨g,r,y,e,_⟩
   . rw [e];exact zm2 T.basic u w
   . rw [e];exact zag g 0 r T.basic u w (by omega) (fun i hi=>by omega)
 . obtain ⟨gb,j,eb,z,l⟩:=h.basics b
   rw [eb];exact zag gb m j T.basic u w (by omega) l
theorem zI.chgRow {base m L:Nat} {F:zG} {w w' :World} {T:zk} {gl n:Nat} {f:Nat->Int} (h:zI base m L F w T) (hr:xq w gl L n f) (hc:Chg (· =gl) w w') (hne:∀ i,i<=m->F.g i≠gl):zI base m L F w' T:=by
 obtain ⟨⟨x,A,k,c,ng,r,D⟩,y,l,u,z,E,C⟩:=h
 obtain ⟨cs,hb⟩:=hr.heap
 have hS:∀ b,b=gl->zO w b:=fun b e=>by subst e;exact hr.noDig
 have j:∀ e v size k xs,e≠58->vE w base e size v k xs->∀ b,v.ownBlock=some b->¬ b=gl:=fun e v size k xs he ho b hb2 e2=>by
  obtain ⟨G,B⟩:=ho.heap hb2
  exact xp hb B (fun e3=>he e3.symm) e2.symm
 exact ⟨⟨x,A,k,c,ng,hc.blk r (xp r hb (by decide)),hc.num D hS⟩,y.chg hc (fun i hi=>hne i (by omega)) (j _ _ _ _ _ (by decide) y.own) hS,
  l.chg hc (j _ _ _ _ _ (by decide) l),u.chg hc (j _ _ _ _ _ (by decide) u),z,E,C⟩
theorem zqx {S:Nat->Prop} {w w1 w2:World} (h:Chg S w w1) (hb:Below w1.heap.size w1 w2):Chg S w w2:=h.trans (Chg.of_below (S:=S) hb) (fun _ _ h=>h)
theorem zqc {S:Nat->Prop} {w w1 w2:World} (h:Chg S w w1) (hb:Below w1.heap.size w1 w2):Chg S w w2:=h.trans (Chg.of_below (S:=S) hb) (fun _ _ h=>h)
theorem ze5 {f:Nat->Nat} {u:Int}:∀ (n i:Nat),xE f u n=some i->i<n:=by
 intro n
 induction n with
 | zero=>intro i h;cases h
 | succ n ih=>
   intro i h;unfold xE at h
   split at h
   . next j hj=>injection h with h;subst h;have:=ih _ hj;omega
   split at h
   . injection h with h;omega
   cases h
def Xy (T:zk) (m L:Nat) (u z:Int) (k:Nat):Int:=match xE T.basic u m with
 | some i=>T.cell i k*z
 | none=>if (k:Int)=zac (xE T.other u (L - 1))+1 then T.den*z else 0
def zwl (T:zk) (m L gl:Nat) (f:Nat->Int) (u z:Int) (w:World) (e:Ending) (w' :World):Prop:=e= .returned (.tuple #[])/\xq w' gl L L (fun k=>f k+Xy T m L u z k)/\Chg (· =gl) w w'
def CntR (w0:World) (base m L:Nat) (F:zG) (T:zk) (gl gv i:Nat) (f:Nat->Int) (z:Int) (kv:Value) (wr:World):Prop:=
 ∃ k:Nat,k<=L/\kv= .int .i64 k/\Hid (xq wr gl L L (fun j=>if j<k then f j+T.cell i j*z else f j))/\Hid (zI base m L F wr T)/\Hid (Z3 wr gv z)/\Hid (Chg (· =gl) w0 wr)
theorem za2 (base m L:Nat) (F:zG) (T:zk) (gl:Nat) (f:Nat->Int) (u:Int) (vn:Value) (z:Int) (w:World) (hT:zI base m L F w T) (hr:xq w gl L L f) (hn:zN w vn z) (hne:∀ i,i<=m->F.g i≠gl) (hf:T.Fits m L) (hz:Fit z)
 (hl:∀ k,k<L->len 4294967296 (f k).natAbs<=67108864) (hm:m<=100000) (hL:L<=100000) (hu:xE T.basic u m=none->xE T.other u (L - 1)≠none):
 Calls prog 79 #[.pointer (some ⟨F.gt,0,none⟩),.slice (some ⟨gl,0,none⟩) L L,.int .i64 u,vn] w (zwl T m L gl f u z w):=by
 obtain ⟨x2,A2,k2,c2,s2,rfl,_,_,_⟩:=hn.form
 obtain ⟨G,am⟩:∃ x,x=w.alloc (.cells #[.int .i64 x2,.slice A2 k2 c2,.bool s2] 58):=⟨_,rfl⟩
 have Z:=zf w (.cells #[.int .i64 x2,.slice A2 k2 c2,.bool s2] 58)
 have ap:=Blk.new w 58 #[.int .i64 x2,.slice A2 k2 c2,.bool s2]
 rw [<- am] at Z ap
 have D:Hid (Z3 G w.heap.size z):=⟨_,_,_,_,_,ap,hn.below Z⟩
 have aq:=ze hr.lt
 have y:=ze (hT.below Z)
 have l:=ze (hr.below Z)
 have C:Hid (Chg (· =gl) w G):=Chg.of_below Z
 obtain ⟨aG,HF,HZ,HL,HU⟩:=hz5 hne hf hz hl hu
 clear hn Z ap hT hr hne hf hz hl hu
 have t7:=y.o.cell7
 have aa:=ze (zbc y.o hm u)
 go_in
 go_upto_region 1 with fail
 rw [<- am]
 clear am
 generalize w.heap.size=gv at D aq |-
 go_wp2_with fail
 refine aa.o.mono ?_
 rintro e w1 ⟨rfl,rfl⟩
 cases hfi:xE T.basic u m with
 | some i=>
   have aJ:i<m:=ze5 _ _ hfi;have d1:decide ((i:Int) ≥ 0)=true:=by rw [decide_eq_true_iff];omega
   have d3:zac (some i)=(i:Int):=rfl;have ao:=ze hfi;rw [d3];clear hfi d3 aa t7;have aI:(0:Int)<=(L:Int):=by omega
   go_wp2
   go_loopw [21] (CntR w base m L F T gl gv i f z) (fun kv _=>L - (intOf kv).toNat)
   case atStart=>exact ⟨0,uB,rfl,l.o.fewer (fun k hk=>⟨hk,by simp⟩),y,D,C⟩
   case round=>
    clear l y D C;obtain ⟨k,hk,rfl,l,y,D,C⟩:=hrel
    by_cases O:k<L
    rotate_left
    . obtain rfl:L=k:=by omega
      go_wp2
      go_end0
      refine ⟨rfl,l.o.fewer (fun j hj=>⟨hj,?_⟩),C.o⟩;unfold Xy;rw [ao.o];simp only [if_pos hj]
    have aF:(k:Int)<(L:Int):=by omega
    have aM:(i:Int)<(m:Int)+1:=by omega
    have t3:=y.o.cell3;have t4:=y.o.mat.cell (i:=i) (by omega);obtain ⟨ax,aA,an,ac,ag,a0,a1,a2,ha⟩:=l.o.2 k O;simp only [Nat.lt_irrefl,if_false] at ha;obtain ⟨bx,bA,bn,bc,bg,b0,b1,b2,aD⟩:=y.o.mat.at_ (i:=i) (k:=k) (by omega) O;obtain ⟨vx,vA,vn,vc,vg,R,af⟩:=D.o;obtain ⟨q0,q1,q2,_⟩:=bp3 R;have U:=y.o.lt;have mL:=y.o.mat.lt.2;have E:=l.o.lt;have bL:=(y.o.mat.rows i (by omega)).2.lt;have M:=R.lt;obtain ⟨HA,ay,ab⟩:=hz3 ha aD af;have N1:=ze (HF.o.cell i k (by omega) O);clear ha aD R af
    go_upto_region 6 with fail
    have I:∀ w',Hid (Below wr.heap.size wr w')->w'.cell? ⟨F.gt,3,none⟩=some (.slice (some ⟨F.gm,0,none⟩) (m+1) F.cm)/\w'.cell? ⟨F.gm,i,none⟩=some (.slice (some ⟨F.g i,0,none⟩) L L)/\w'.cell? ⟨gl,k*3,none⟩=some (.int .i64 ax)/\w'.cell? ⟨gl,k*3+1,none⟩=some (.slice aA an ac)/\w'.cell? ⟨gl,k*3+2,none⟩=some (.bool ag)/\w'.cell? ⟨F.g i,k*3,none⟩=some (.int .i64 bx)/\w'.cell? ⟨F.g i,k*3+1,none⟩=some (.slice bA bn bc)/\w'.cell? ⟨F.g i,k*3+2,none⟩=some (.bool bg)/\w'.cell? ⟨gv,0,none⟩=some (.int .i64 vx)/\w'.cell? ⟨gv,1,none⟩=some (.slice vA vn vc)/\w'.cell? ⟨gv,2,none⟩=some (.bool vg):=fun w' hB=>⟨zl hB U t3,zl hB mL t4,zl hB E a0,zl hB E a1,zl hB E a2,zl hB bL b0,zl hB bL b1,zl hB bL b2,zl hB M q0,zl hB M q1,zl hB M q2⟩
    refine y8 I 17 3 20 (zv wr) fun r=>?_;simp only [xDR]
    iterate 17 refine zH ?_
    refine zB ?_;refine rK 17 fun K hK=>?_
    go_simp
    go_at_call 40;refine (xB _ _ _ _ _ (ay.o.below r.1.out) (ab.o.below r.1.out) (N1.o.le2 (by omega)) (HZ.o.le2 (by omega))).mono ?_;rintro e w2 ⟨v1,rfl,hv,B⟩;have ae:=ze hv;have aH:=ze B;clear hv;refine hK.out _ _ (zm (zp B r.1) (I _)) ?_;clear hK K r;intro r
    try simp only [Act.put,xST]
    clear B;refine rK 18 fun K hK=>?_
    go_simp
    go_at_call 63;refine (zf0 _ _ _ _ _ (HA.o.below r.1.out) ae.o (HL.o k O) (YG N1.o HZ.o (by omega))).mono ?_;rintro e w3 ⟨v2,rfl,hv,B⟩;have X:=ze hv;clear hv ae;have av:=ze (zp B r.1);refine hK.out _ _ (zm (zp B r.1) (I _)) ?_;clear hK K r;intro r
    try simp only [Act.put,xST]
    clear B;refine tK 19 ?_;have N:=(r.1).out;replace l:=ze (xq.below l.o N);replace y:=ze (zI.below y.o N);replace D:=ze (Z3.below D.o N);clear N r I;refine hdn ?_;simp only [xDR];replace C:=ze (zqx C.o av.o.out);clear HA ay ab N1 a0 a1 a2 b0 b1 b2 q0 q1 q2 U mL E bL M t3 t4 aH av;obtain ⟨V,S,Y,sc,sg,rfl,_,_,_⟩:=X.o.form;obtain ⟨u0,u1,u2,s0,s1,s2⟩:=l.o.slots O;have z0:=l.o.frozen (k*3);have z1:=l.o.frozen (k*3+1);have z2:=l.o.frozen (k*3+2);have Q:=vm (w:=w3) (g:=gl) (k:=k) (x:=V) (A:=S) (n:=Y) (c:=sc) (ng:=sg)
    have aj:Hid (xq (World.numAt w3 gl k V S Y sc sg) gl L L (fun j=>if j<k+1 then f j+T.cell i j*z else f j)):=l.o.set O X.o (fun j hj=>by
     by_cases e:j=k
     . exact .inl ⟨e,by subst e;rw [if_pos (by omega)]⟩
     refine .inr ⟨e,hj,?_⟩
     by_cases h:j<k
     . rw [if_pos h,if_pos (by omega)]
     rw [if_neg h,if_neg (by omega)])
    have au:=ze (y.o.chgRow l.o Q aG.o);have aB:gv≠gl:=by have:=aq.o;omega
    have aw:=ze (D.o.chg Q aB (fun b e=>by subst e;exact l.o.noDig));have ak:Hid (Chg (· =gl) w (World.numAt w3 gl k V S Y sc sg)):=C.o.trans Q (fun _ _ h=>h);clear l y D C X Q aB;go_wp2;go_roundw
    case rel=>first | exact ⟨k+1,by omega,by go_num,aj,au,aw,ak⟩ | ((repeat apply Exists.intro);exact ⟨⟨k+1,by omega,by go_num,aj,au,aw,ak⟩,rfl⟩)
    case measure=>simp [intOf];omega
 | none=>
   obtain ⟨J,ah⟩:=Option.ne_none_iff_exists'.1 (HU.o hfi);have O:J<L - 1:=ze5 _ _ ah;have d1:decide (zac none ≥ 0)=false:=by decide
   have d3:zac none= -1:=rfl;have d4:zac (some J)=(J:Int):=rfl;obtain ⟨go,co,eo,aN,aC⟩:=y.o.others;have t8:=y.o.cell8;rw [eo] at t8;have al:=zag go (L - 1) co T.other u G (by omega) aC;rw [ah,d4] at al;have ao:=ze hfi;have aE:=ze ah;have e1:IntKind.i64.wrap ((J:Int)+1)=(J:Int)+1:=by rw [IntKind.wrap_i64];omega
   clear hfi ah aa t7 aC d4;have aa:=ze al;clear al;go_wp2_with fail;refine aa.o.mono ?_;rintro e w1 ⟨rfl,rfl⟩;obtain ⟨k,hk⟩:=uQ (J+1);have ek:(J:Int)+1=(k:Int):=by omega
   have ai:k<L:=by omega
   have HK:=ze hk;clear hk t8 O aa;have aF:(k:Int)<(L:Int):=by omega
   have aK:(0:Int)<=(k:Int):=by omega
   obtain ⟨ax,aA,an,ac,ag,a0,a1,a2,ha⟩:=l.o.2 k ai;obtain ⟨dx,dA,dn,dc,dg,ad,az⟩:=y.o.blk;have d4:G.cell? ⟨F.gt,4,none⟩=some (.int .i64 dx):=by rw [ad.cell];rfl
   have d5:G.cell? ⟨F.gt,5,none⟩=some (.slice dA dn dc):=by rw [ad.cell];rfl
   have d6:G.cell? ⟨F.gt,6,none⟩=some (.bool dg):=by rw [ad.cell];rfl
   obtain ⟨vx,vA,vn,vc,vg,R,af⟩:=D.o;obtain ⟨q0,q1,q2,_⟩:=bp3 R;have U:=ad.lt;have E:=l.o.lt;have M:=R.lt;obtain ⟨HA,ar,ab⟩:=hz3 ha az af;clear ha ad az R af
   go_upto_region 9 with fail
   have I:∀ w',Hid (Below G.heap.size G w')->w'.cell? ⟨gl,k*3,none⟩=some (.int .i64 ax)/\w'.cell? ⟨gl,k*3+1,none⟩=some (.slice aA an ac)/\w'.cell? ⟨gl,k*3+2,none⟩=some (.bool ag)/\w'.cell? ⟨F.gt,4,none⟩=some (.int .i64 dx)/\w'.cell? ⟨F.gt,5,none⟩=some (.slice dA dn dc)/\w'.cell? ⟨F.gt,6,none⟩=some (.bool dg)/\w'.cell? ⟨gv,0,none⟩=some (.int .i64 vx)/\w'.cell? ⟨gv,1,none⟩=some (.slice vA vn vc)/\w'.cell? ⟨gv,2,none⟩=some (.bool vg):=fun w' hB=>⟨zl hB E a0,zl hB E a1,zl hB E a2,zl hB U d4,zl hB U d5,zl hB U d6,zl hB M q0,zl hB M q1,zl hB M q2⟩
   refine y8 I 11 3 14 (zv G) fun r=>?_;simp only [xDR]
   iterate 11 refine zH ?_
   refine zB ?_;refine rK 11 fun K hK=>?_
   go_simp
   go_at_call 40;refine (xB _ _ _ _ _ (ar.o.below r.1.out) (ab.o.below r.1.out) (HF.o.fden.le2 (by omega)) (HZ.o.le2 (by omega))).mono ?_;rintro e w2 ⟨v1,rfl,hv,B⟩;have ae:=ze hv;clear hv;refine hK.out _ _ (zm (zp B r.1) (I _)) ?_;clear hK K r;intro r
   try simp only [Act.put,xST]
   clear B;refine rK 12 fun K hK=>?_
   go_simp
   go_at_call 63;refine (zf0 _ _ _ _ _ (HA.o.below r.1.out) ae.o (HL.o k ai) (YG HF.o.fden HZ.o (by omega))).mono ?_;rintro e w3 ⟨v2,rfl,hv,B⟩;have X:=ze hv;clear hv ae;refine hK.out _ _ (zm (zp B r.1) (I _)) ?_;clear hK K r;intro r
   try simp only [Act.put,xST]
   clear B;refine tK 13 ?_;have N:=(r.1).out;replace l:=ze (xq.below l.o N);replace C:=ze (zqc C.o N);clear N r I;refine hdn ?_;simp only [xDR];clear HA ar ab a0 a1 a2 d4 d5 d6 q0 q1 q2 U E M y D;obtain ⟨V,S,Y,sc,sg,rfl,_,_,_⟩:=X.o.form;obtain ⟨u0,u1,u2,s0,s1,s2⟩:=l.o.slots ai;have z0:=l.o.frozen (k*3);have z1:=l.o.frozen (k*3+1);have z2:=l.o.frozen (k*3+2);have Q:=vm (w:=w3) (g:=gl) (k:=k) (x:=V) (A:=S) (n:=Y) (c:=sc) (ng:=sg)
   have aj:Hid (xq (World.numAt w3 gl k V S Y sc sg) gl L L (fun j=>f j+Xy T m L u z j)):=l.o.set ai X.o (fun j hj=>by
    have hk:=HK.o;have e4:zac (some J)=(J:Int):=rfl;unfold Xy;rw [ao.o,aE.o];simp only [e4]
    by_cases e:j=k
    . exact .inl ⟨e,by subst e;rw [if_pos (by omega)]⟩
    exact .inr ⟨e,hj,by rw [if_neg (by omega),Int.add_zero]⟩)
   have ak:Hid (Chg (· =gl) w (World.numAt w3 gl k V S Y sc sg)):=C.o.trans Q (fun _ _ h=>h);clear l C X Q;go_wp2
   go_end0
   exact ⟨rfl,aj.o,ak.o⟩
theorem zjf (gt i:Nat) (A:Option Addr) (nn c:Nat) (w:World) (hc:w.cell? ⟨gt,2,none⟩=some (.slice A nn c)) (hn:nn<=100000) (hi:i<=100000):
 Calls prog 75 #[.pointer (some ⟨gt,0,none⟩),.int .i64 (i:Nat)] w (zaw w (.int .i64 ((2*nn+i:Nat):Int))):=by
 have b:IntKind.i64.wrap (2*(nn:Int))=2*(nn:Int):=by rw [IntKind.wrap_i64];omega
 have e:IntKind.i64.wrap (2*(nn:Int)+(i:Int))=2*(nn:Int)+(i:Int):=by rw [IntKind.wrap_i64];omega
 go_in
 go_wp2
 go_ret
 exact ⟨by push_cast;rfl,rfl⟩
theorem ziq:(prog.info? 3).map (fun i=>(i.zero,i.size,i.bytes))=some (some (.int .i64 0),1,8):=by kernel_rfl
theorem zh5:(prog.info? 89).map (fun i=>(i.zero,i.size,i.bytes))=some (some (.slice none 0 0),1,24):=by kernel_rfl
theorem Tryz.underlying98:prog.underlying 98=some (.slice 89):=by kernel_rfl
theorem Tryz.underlyingInts:prog.underlying 99=some (.slice 3):=by kernel_rfl
theorem zj1 (gt m n c1 c2:Nat) (A1 A2:Option Addr) (w:World) (t1:w.cell? ⟨gt,1,none⟩=some (.slice A1 m c1)) (t2:w.cell? ⟨gt,2,none⟩=some (.slice A2 n c2)) (hm:m<=100000) (hn:n<=100000):
 Calls prog 37 #[.pointer (some ⟨gt,0,none⟩)] w (zj3 w (.int .i64 ((2*n+m:Nat):Int))):=by
 have b:IntKind.i64.wrap (2*(n:Int))=2*(n:Int):=by rw [IntKind.wrap_i64];omega
 have e:IntKind.i64.wrap (2*(n:Int)+(m:Int))=2*(n:Int)+(m:Int):=by rw [IntKind.wrap_i64];omega
 go_in
 go_upto_region 1 with fail
 go_region
 go_wp2
 go_ret
 exact ⟨by push_cast;rfl,(zv w).out⟩
def BegR (w0:World) (b gt:Nat) (rv nv:Value) (rows:List zS) (names:List (List UInt8)) (iv sv:Value) (wr:World):Prop:=
 ∃ (i N:Nat) (g:Nat->Nat) (mv bv sv' :Value),i<=rows.length/\iv= .int .i64 i/\sv' =sv/\Hid (VI w0 b rows.length gt N rv nv rows names g i i i 0 mv bv (.slice none 0 0) sv' (xf b rv nv mv bv (.slice none 0 0)) wr)
def BegI (w0:World) (b gt N gl gs:Nat) (rv nv tv:Value) (rows:List zS) (names:List (List UInt8)) (g:Nat->Nat) (i:Nat) (r:zS) (mv bv sv iv:Value) (wr:World):Prop:=
 ∃ (t:Nat),t<=r.terms.length/\iv= .int .i64 t/\Hid (VI w0 b rows.length gt N rv nv rows names g i i (i+1) 0 mv bv (.slice none 0 0) sv (xf b rv nv mv bv (.slice none 0 0)) wr)/\Hid (zh wr w0.heap.size tv r.terms)/\
  Hid (xq wr gl (2*names.length+2) (2*names.length+2) (VL names (vK (qOf r.bound) (xC r)) (xC r) r.terms t))/\Hid (Z3 wr gs (xC r))
def BegO (w0:World) (b gt:Nat) (rv nv:Value) (rows:List zS) (names:List (List UInt8)) (g:Nat->Nat) (mv bv sv iv:Value) (wr:World):Prop:=
 ∃ (k N:Nat) (ov:Value),k<=2*names.length/\iv= .int .i64 k/\Hid (VI w0 b rows.length gt N rv nv rows names g (rows.length+1) rows.length rows.length k mv bv ov sv (xf b rv nv mv bv ov) wr)
theorem Xw {w:World} {t:TypeId} {v:Value}:∀ (j:Nat) (u:Value),[v][j]?=some u->(w.alloc (.cells #[v] t)).cell? ((⟨w.heap.size,0,none⟩:Addr).add j)=some u:=by
 intro j u hu
 have b:=Blk.new w t #[v]
 match j with
 | 0=>
   simp at hu;subst hu;have:=b.cell 0
   simp [Addr.add]
 | j+1=>simp at hu
theorem vJ {v:Value} {p:Value->Prop} (h:p v):∀ u∈[v],p u:=by intro u hu;rw [uM] at hu;subst hu;exact h
def zot (w:World) (sv:Value) (m:Nat) (f:Nat->Int) (P:Nat->Prop):Prop:=
 ∃ (A:Option Addr) (c:Nat),sv= .slice A m c/\(0<m->∃ gs,A=some ⟨gs,0,none⟩/\zbg w gs m f/\(∃ cs,w.heap[gs]?=some (.cells cs 58 (0,0)))/\P gs)
structure zwb (b:Nat) (rA:Option Addr) (rc:Nat) (nA:Option Addr) (nc:Nat) (rows:List zS) (names:List (List UInt8)) (w:World) (F:zG) (sv:Value) (w' :World):Prop where
 bk:F.bk=some b
 rA:F.rA=rA
 rc:F.rc=rc
 nA:F.nA=nA
 nn:F.nn=names.length
 nc:F.nc=nc
 tab:zI w.heap.size rows.length (2*names.length+2) F w' (Z7 rows names)
 scl:zot w' sv rows.length (Vu rows) (fun gs=>∀ i,i<=rows.length->F.g i≠gs)
 book:zu w' b
 chg:Chg (· =b) w w'
theorem zjh (b n c nn nc:Nat) (rA nA:Option Addr) (rows:List zS) (names:List (List UInt8)) (w:World) (hB:zu w b) (hr:Zi w (.slice rA n c) rows) (hn:zT w w.heap.size (.slice nA nn nc) names)
 (hok:∀ r∈rows,ztn names r) (hmm:rows.length<=10000) (hnn:names.length<=400):
 Calls prog 32 #[.map (some b),.slice rA n c,.slice nA nn nc] w (fun e w' =>∃ F sv,e= .returned (.tuple #[.pointer (some ⟨F.gt,0,none⟩),sv])/\zwb b rA c nA nc rows names w F sv w'):=by
 obtain rfl:=hr.len
 obtain rfl:=hn.len
 have m:=zf w (.cells (xf b (.slice rA rows.length c) (.slice nA names.length nc) (.slice none 0 0) (.slice none 0 0) (.slice none 0 0)) 101)
 have l:Hid (VI w b rows.length w.heap.size (w.heap.size+1) (.slice rA rows.length c) (.slice nA names.length nc) rows names (fun _=>0) 0 0 0 0 (.slice none 0 0) (.slice none 0 0) (.slice none 0 0) (.slice none 0 0)
  (xf b (.slice rA rows.length c) (.slice nA names.length nc) (.slice none 0 0) (.slice none 0 0) (.slice none 0 0)) (w.alloc (.cells (xf b (.slice rA rows.length c) (.slice nA names.length nc) (.slice none 0 0) (.slice none 0 0) (.slice none 0 0)) 101))):=by
  refine ⟨Blk.new _ _ _,?_,vF.nil _ _ _ _ _,Zr _ _ _ _,Zr _ _ _ _,vR.nil _ _ _,hB.below m,zR.below hr m,hn.below m,Chg.of_below m,(fun j hj=>by omega),(fun c h=>by cases h),uA,(by simp),hB.lt,Nat.lt_succ_self _,(fun j hj=>by omega),?_⟩
  rotate_left
  . intro c h
    rcases h with h | h | h | h<;>cases h
  refine ZK ?_
  unfold xf
  intro u hu
  simp at hu
  rcases hu with rfl | rfl | rfl | rfl | rfl | rfl | rfl | rfl
  all_goals first | exact zq7 _ | exact yf _ _ _ | exact xe _ | exact vH _
 have cy:=ze hok
 clear hB hr hn m hok
 unfold xf at l
 go_in
 go_upto_region 4 with fail
 have cw:=ze (Nat.le_refl w.heap.size)
 generalize w.alloc (.cells #[.map (some b),.slice rA rows.length c,.slice nA names.length nc,.slice none 0 0,.int .i64 1,.slice none 0 0,.bool false,.slice none 0 0,.slice none 0 0] 101)=W at l |-
 obtain ⟨gt,bs⟩:=uQ w.heap.size
 obtain ⟨N0,bI⟩:∃ N,N=w.heap.size+1:=⟨_,rfl⟩
 rw [<- bI, <- bs] at l
 rw [<- bs]
 clear bs bI cw
 have bw:=fun w' (h:zu w' b) (s:List UInt8) (hs:yc s)=>xu b ⟨s.toArray⟩ w' h (by rw [<- zt,yG];exact hs)
 simp only [yG] at bw
 have bT:=ze bw
 have cK:=ze (fun w v z h=>yF v z w h)
 clear bw
 have eL:IntKind.i64.wrap (2*(names.length:Int)+2)=2*(names.length:Int)+2:=by rw [IntKind.wrap_i64];omega
 have ca:((2*names.length+2:Nat):Int)=2*(names.length:Int)+2:=by omega
 have cf:=ze ca
 clear ca
 have cU:IntKind.i64.wrap (2*(names.length:Int))=2*(names.length:Int):=by rw [IntKind.wrap_i64];omega
 obtain ⟨Z,bZ⟩:∃ K,K=2*names.length+1:=⟨_,rfl⟩
 have cI:IntKind.i64.wrap (2*(names.length:Int)+1)=(Z:Int):=by rw [IntKind.wrap_i64];omega
 have cN:(Z:Int)<2*(names.length:Int)+2:=by omega
 have cP:(0:Int)<=(Z:Int):=by omega
 have cE:=ze bZ
 have bY:Hid (Z<2*names.length+2):=by show _<_;omega
 clear bZ
 go_wp2
 go_loopw [35,10] (BegR w b gt (.slice rA rows.length c) (.slice nA names.length nc) rows names) (fun iv _ _=>rows.length - (intOf iv).toNat)
 case atStart=>exact ⟨0,_,_,_,_,_,uB,rfl,rfl,l⟩
 case round=>
  clear l
  obtain ⟨i,N,g,mv,bv,sv,hi,rfl,rfl,l⟩:=hrel
  by_cases ba:i<rows.length
  rotate_left
  . obtain rfl:rows.length=i:=by omega
    have b3:wr.cell? ⟨gt,3,none⟩=some mv:=by rw [l.o.blk.cell];rfl
    have a4:¬ mv.ownBlock=some gt:=fun e=>by
     obtain ⟨cs,L⟩:=l.o.mat.own.heap e;exact xp l.o.blk L (by decide) rfl
    have aS:=fun w=>zdb .i64 (2*names.length+2) (by omega) w
    rw [cf.o] at aS
    go_upto_region 24 with fail
    have I:∀ w',Hid (Chg (fun x=>mv.ownBlock=some x) wr w')->w'.cell? ⟨gt,3,none⟩=some mv:=fun w' hB=>xl hB b3 a4
    refine y8 I 8 5 13 (xX wr) fun B=>?_;simp only [xDR]
    iterate 8 refine zH ?_
    refine zB ?_;refine rK 8 fun K hK=>?_
    go_simp
    have ap:=(vi wr (.cells (yx (2*names.length+2)) 58)).out;have ax:Hid (Chg (fun x=>mv.ownBlock=some x) wr (wr.alloc (.cells (yx (2*names.length+2)) 58)).drew):=Chg.of_below ap;refine hK.out _ _ (zm (ax) (I _)) ?_;clear hK K B;intro B
    try simp only [Act.put,xST]
    clear ax ap aS;refine rK 9 fun K hK=>?_
    go_simp
    have bd:=zf (wr.alloc (.cells (yx (2*names.length+2)) 58)) (.cells #[.slice (some ⟨wr.heap.size,0,none⟩) (2*names.length+2) (2*names.length+2)] 89);have ap:=zo (ext (zf wr (.cells (yx (2*names.length+2)) 58)) bd) 1;have af:=zo bd 1;have aQ:=ze ((zf7 wr (2*names.length+2)).below af);have b8:=ze l.o.top;have J:=ze (l.o.below ap);have S:=Xw (w:=wr.alloc (.cells (yx (2*names.length+2)) 58)) (t:=89) (v:=.slice (some ⟨wr.heap.size,0,none⟩) (2*names.length+2) (2*names.length+2));have ax:Hid (Chg (fun x=>mv.ownBlock=some x) wr ((wr.alloc (.cells (yx (2*names.length+2)) 58)).alloc (.cells #[.slice (some ⟨wr.heap.size,0,none⟩) (2*names.length+2) (2*names.length+2)] 89)).drew):=Chg.of_below ap;have ak:=J.o.chg.size;refine hK.out _ _ (zm (ax) (I _)) ?_;clear hK K B;intro B
    try simp only [Act.put,xST]
    clear ax ap bd af l;have Q:=vJ (v:=.slice (some ⟨wr.heap.size,0,none⟩) (2*names.length+2) (2*names.length+2)) (p:=fun u=>u.oneCell' =true) rfl;have T:=vJ (v:=.slice (some ⟨wr.heap.size,0,none⟩) (2*names.length+2) (2*names.length+2)) (p:=ZP) (yf _ _ _);have R:∀ u∈(Value.slice none 0 0).cells,ZP u:=by intro u hu;simp [Value.cells] at hu;subst hu;exact yf _ _ _
    obtain ⟨i1,am,aj,ao,al⟩:=info_parts zh5;refine HH.ready (rs:=[10]) (by kernel_rfl) (by simp) (by kernel_rfl) ?_;refine Zd.cons (o:=_) rfl (fun K hK=>?_) Zd.nil;rw [if_pos (by rfl)];refine ve (P:=prog) (.tmp 134) (.tmp 139) _ rfl w.heap.size 89 i1 _ 1 24 underlying98 am aj ao al rfl (by omega) _ rows.length _ rfl J.o.mat.own ⟨(wr.alloc (.cells (yx (2*names.length+2)) 58)).heap.size,0,none⟩ 1 1 [.slice (some ⟨wr.heap.size,0,none⟩) (2*names.length+2) (2*names.length+2)] ?_ rfl (by omega) S Q T R (by unfold maxLen;omega) (by omega) ak ?_
    . simp [Act.eval,World.size_alloc]
    intro cp w6 G V aa;obtain ⟨ae,ab,bp,_,_⟩:=G.1.form (by omega);subst bp;have au:=J.o.row aQ.o b8.o (fun j hj=>by unfold zjq;rw [if_neg (by omega)]) G V;have c4:w6.cell? ⟨gt,3,none⟩=some mv:=by rw [au.blk.cell];rfl
    have f4:=au.blk.frozen 3;have U:=ze (au.store 3 (xH G));rw [show (xf b (.slice rA rows.length c) (.slice nA names.length nc) mv bv (.slice none 0 0)).setIfInBounds 3 (.slice (some ⟨ae,0,none⟩) (rows.length+1) ab)=xf b (.slice rA rows.length c) (.slice nA names.length nc) (.slice (some ⟨ae,0,none⟩) (rows.length+1) ab) bv (.slice none 0 0) from rfl] at U;generalize w6.heap.size=N2 at U;generalize (fun j=>if j=rows.length then wr.heap.size else g j)=g2 at U;refine hK.out _ _ (zm (vz (vI V) B.1) (I _)) ?_;clear hK K B;intro B
    try simp only [Act.put,xST]
    clear G V aa au J aQ b8 S Q T R ak b3 a4;refine tK 11 ?_;refine tK 12 ?_;clear B I;refine hdn ?_;simp only [xDR]
    go_upto_region 25 with fail
    clear c4 f4;generalize w6.setCell ⟨gt,3,none⟩ (.slice (some ⟨ae,0,none⟩) (rows.length+1) ab)=W7 at U |-;go_wp2
    go_loopw [145] (BegO w b gt (.slice rA rows.length c) (.slice nA names.length nc) rows names g2 (.slice (some ⟨ae,0,none⟩) (rows.length+1) ab) bv sv) (fun iv _=>2*names.length - (intOf iv).toNat)
    case atStart=>exact ⟨0,_,_,uB,rfl,U⟩
    case round=>
     clear U;obtain ⟨k,N,ov,hk,rfl,l⟩:=hrel
     by_cases cG:k<2*names.length
     . have cM:(k:Int)<2*(names.length:Int):=by omega
       have c8:wr.cell? ⟨gt,8,none⟩=some ov:=by rw [l.o.blk.cell];rfl
       have m:=zf wr (.cells #[.int .i64 (k:Int)] 3);have J:=ze (l.o.below m);have ak:=J.o.chg.size;have aq:=ze ak;have S:=Xw (w:=wr) (t:=3) (v:=.int .i64 (k:Int));have Q:=vJ (v:=.int .i64 (k:Int)) (p:=fun u=>u.oneCell' =true) rfl;have T:=vJ (v:=.int .i64 (k:Int)) (p:=ZP) (xe _);have R:∀ u∈(Value.int .i64 0).cells,ZP u:=by intro u hu;simp [Value.cells] at hu;subst hu;exact xe _
       obtain ⟨i1,am,aj,ao,al⟩:=info_parts ziq;clear m l ak;go_wp2_with (at_builtin;go_must (refine yk (P:=prog) rfl (.tmp 152) (.tmp 154) _ rfl w.heap.size 3 i1 _ 1 8 Tryz.underlyingInts am aj ao al rfl (by omega) _ k _ rfl J.o.oth ⟨wr.heap.size,0,none⟩ 1 1 [.int .i64 (k:Int)] rfl rfl (by omega) S Q T R ?o4 ?o5 ?o6 ?_))
       case o4=>unfold maxLen;omega
       case o5=>omega
       case o6=>exact aq.o
       intro cC w6 G V aa;obtain ⟨aL,aK,bx,_,_⟩:=G.1.form (by omega);subst bx;rw [show [Value.int .i64 (k:Int)]=[.int .i64 (zuz names.length rows.length k:Nat)] by unfold zuz;rw [if_pos cG],YV] at G;have ar:=J.o.other G V (by rw [World.size_alloc];exact aa);have c9:w6.cell? ⟨gt,8,none⟩=some ov:=by rw [ar.blk.cell];rfl
       have f9:=ar.blk.frozen 8;have aA:=ze (ar.store 8 (xH G));rw [show (xf b (.slice rA rows.length c) (.slice nA names.length nc) (.slice (some ⟨ae,0,none⟩) (rows.length+1) ab) bv ov).setIfInBounds 8 (.slice (some ⟨aL,0,none⟩) (k+1) aK)=xf b (.slice rA rows.length c) (.slice nA names.length nc) (.slice (some ⟨ae,0,none⟩) (rows.length+1) ab) bv (.slice (some ⟨aL,0,none⟩) (k+1) aK) from rfl] at aA;clear G V aa ar J aq S Q T R c8;go_wp2;go_roundw
       case rel=>exact ⟨k+1,_,_,by omega,by go_num,aA⟩
       case measure=>simp [intOf];omega
     . obtain rfl:2*names.length=k:=by omega
       have c8:wr.cell? ⟨gt,8,none⟩=some ov:=by rw [l.o.blk.cell];rfl
       have c1:wr.cell? ⟨gt,1,none⟩=some (.slice rA rows.length c):=by rw [l.o.blk.cell];rfl
       have c2:wr.cell? ⟨gt,2,none⟩=some (.slice nA names.length nc):=by rw [l.o.blk.cell];rfl
       have bb:¬ ov.ownBlock=some gt:=fun e=>by
        obtain ⟨cs,L⟩:=l.o.oth.heap e;exact xp l.o.blk L (by decide) rfl
       obtain ⟨M,aG⟩:∃ M,M=2*names.length+rows.length:=⟨_,rfl⟩;have bi:=fun w' (h1:w'.cell? ⟨gt,1,none⟩=some (.slice rA rows.length c)) (h2:w'.cell? ⟨gt,2,none⟩=some (.slice nA names.length nc))=>zj1 gt rows.length names.length c nc rA nA w' h1 h2 (by omega) (by omega)
       rw [<- aG] at bi;have bH:=ze bi;have bm:=ze aG;clear bi aG
       go_upto_region 30 with fail
       have I:∀ w',Hid (Chg (fun x=>ov.ownBlock=some x) wr w')->w'.cell? ⟨gt,8,none⟩=some ov/\w'.cell? ⟨gt,1,none⟩=some (.slice rA rows.length c)/\w'.cell? ⟨gt,2,none⟩=some (.slice nA names.length nc):=fun w' hB=>⟨xl hB c8 bb,xl hB c1 bb,xl hB c2 bb⟩
       refine y8 I 6 5 11 (xX wr) fun B=>?_;simp only [xDR]
       iterate 6 refine zH ?_
       refine zB ?_;refine rK 6 fun K hK=>?_
       go_simp
       go_at_call 37;refine (bH.o _ B.2.2.1 B.2.2.2).mono ?_;rintro e w5 ⟨rfl,aC⟩;replace l:=ze (l.o.below (ext (zv wr).out aC));refine hK.out _ _ (zm (xU aC B.1) (I _)) ?_;clear hK K B;intro B
       try simp only [Act.put,xST]
       clear aC bH;refine rK 7 fun K hK=>?_
       go_simp
       have m:=zf w5 (.cells #[.int .i64 (M:Int)] 3);have J:=ze (l.o.below m);refine hK.out _ _ (zm (xU m B.1) (I _)) ?_;clear hK K B;intro B
       try simp only [Act.put,xST]
       clear m l;have ak:=J.o.chg.size;have S:=Xw (w:=w5) (t:=3) (v:=.int .i64 (M:Int));have Q:=vJ (v:=.int .i64 (M:Int)) (p:=fun u=>u.oneCell' =true) rfl;have T:=vJ (v:=.int .i64 (M:Int)) (p:=ZP) (xe _);have R:∀ u∈(Value.int .i64 0).cells,ZP u:=by intro u hu;simp [Value.cells] at hu;subst hu;exact xe _
       obtain ⟨i1,am,aj,ao,al⟩:=info_parts ziq;refine HH.ready (rs:=[8]) (by kernel_rfl) (by simp) (by kernel_rfl) ?_;refine Zd.cons (o:=_) rfl (fun K hK=>?_) Zd.nil;rw [if_pos (by rfl)];refine ve (P:=prog) (.tmp 163) (.tmp 166) _ rfl w.heap.size 3 i1 _ 1 8 Tryz.underlyingInts am aj ao al rfl (by omega) _ (2*names.length) _ rfl J.o.oth ⟨w5.heap.size,0,none⟩ 1 1 [.int .i64 (M:Int)] rfl rfl (by omega) S Q T R (by unfold maxLen;omega) (by omega) ak ?_;intro cC w6 G V aa;obtain ⟨aL,aK,bx,_,_⟩:=G.1.form (by omega);subst bx;rw [show [Value.int .i64 (M:Int)]=[.int .i64 (zuz names.length rows.length (2*names.length):Nat)] by unfold zuz;rw [if_neg (by omega),bm.o],YV] at G;have ar:=J.o.other G V (by rw [World.size_alloc];first | exact aa | (simp at aa |-;exact aa));have c9:w6.cell? ⟨gt,8,none⟩=some ov:=by rw [ar.blk.cell];rfl
       have f9:=ar.blk.frozen 8;have aA:=ze (ar.store 8 (xH G));rw [show (xf b (.slice rA rows.length c) (.slice nA names.length nc) (.slice (some ⟨ae,0,none⟩) (rows.length+1) ab) bv ov).setIfInBounds 8 (.slice (some ⟨aL,0,none⟩) (2*names.length+1) aK)=xf b (.slice rA rows.length c) (.slice nA names.length nc) (.slice (some ⟨ae,0,none⟩) (rows.length+1) ab) bv (.slice (some ⟨aL,0,none⟩) (2*names.length+1) aK) from rfl] at aA;refine hK.out _ _ (zm (vz (vI V) B.1) (I _)) ?_;clear hK K B;intro B
       try simp only [Act.put,xST]
       clear G V aa ar J S Q T R ak c8 bb c1 c2;refine tK 9 ?_;refine tK 10 ?_;clear B I;refine hdn ?_;simp only [xDR];go_wp2;go_ret2;have l:=aA.o;refine ⟨⟨gt,some b,rA,c,nA,names.length,nc,ae,ab,g2,bv,.slice (some ⟨aL,0,none⟩) (2*names.length+1) aK⟩,sv,rfl,⟨rfl,rfl,rfl,rfl,rfl,rfl,⟨⟨1,none,0,0,false,l.blk,.inl ⟨1,false,rfl,by omega,by omega,rfl⟩⟩,l.mat,l.bas,?_,l.one,l.lo,rfl⟩,?_,l.book,l.chg⟩⟩
       . show vE _ _ _ _ _ (2*names.length+2 - 1) (yI (2*names.length+2 - 1) _)
         rw [show 2*names.length+2 - 1=2*names.length+1 by omega];exact l.oth
       . obtain ⟨A',cq,e1,e2,e3,e4⟩:=l.scl.nums
         refine ⟨A',cq,e1,fun hm0=>?_⟩;obtain ⟨g9,e5,e6,e7⟩:=e4 hm0;have e8:sv.ownBlock=some g9:=by rw [e1,e5];rfl
         exact ⟨g9,e5,⟨e6,e7⟩,l.scl.heap e8,fun i hi e=>l.sne i (by omega) (by rw [e8];exact congrArg some e.symm)⟩
  have cS:(i:Int)<(rows.length:Int):=by omega
  obtain ⟨ad,AT,nt,ct,eA,bg,p0,p1,ht,bu⟩:=l.o.rws.at_ ba;subst eA;obtain ⟨r,hr⟩:=uQ (rows[i]);have aN:rows.getD i default=r:=by rw [hr];simp [List.getD,List.getElem?_eq_getElem ba]
  have aD:=ze (cy.o r (by rw [hr];exact uO ba));have cn:=ze aN;rw [<- hr] at p1 ht bu;clear hr aN;obtain rfl:=ht.len;have cL:=ht.bound;have m:=zf wr (.cells #[.slice AT r.terms.length ct,str r.bound] 31);have E:=ze (Blk.new wr 31 #[.slice AT r.terms.length ct,str r.bound]);have y:=ze (zh.below ht m);have b0:=ze bu;replace l:=ze (l.o.below m);clear m ht bu
  go_upto_region 7 with fail
  clear p0 p1 bg;generalize wr.alloc (.cells #[.slice AT r.terms.length ct,str r.bound] 31)=W1 at E y l |-;generalize wr.heap.size=gr at E |-;obtain ⟨r0,r1,_⟩:=bq2 E;have bL:=zer b AT r.terms.length ct r.bound r.terms W1 l.o.book (y.o.more l.o.chg.size) b0.o aD.o.ok;have ck:=ze bL;clear bL;go_wp2_with fail;refine ck.o.mono ?_;rintro e w2 ⟨v,rfl,hv,av,X⟩;obtain ⟨x2,A2,k2,c2,s2,rfl,_,_,_⟩:=hv.form;have aE:=l.o.book.keepBlk X E.o;replace y:=ze (l.o.book.keepT X y.o);replace l:=ze (l.o.read X av);have m:=zf w2 (.cells #[.int .i64 x2,.slice A2 k2 c2,.bool s2] 58);replace E:=ze (aE.below m aE.lt);replace y:=ze (zh.below y.o m);have b1:Hid (N<=w2.heap.size):=l.o.top;replace l:=ze (l.o.below m);have aB:=ze (Blk.new w2 58 #[.int .i64 x2,.slice A2 k2 c2,.bool s2]);have HV:=ze (hv.below m);clear m hv av X aE ck r0 r1
  go_upto_region 8 with fail
  generalize w2.alloc (.cells #[.int .i64 x2,.slice A2 k2 c2,.bool s2] 58)=W2 at E y l aB HV |-;generalize w2.heap.size=gs at aB b1 |-;obtain ⟨q0,q1,q2,_⟩:=bq3 aB;have m:=zf W2 (.cells #[.int .i64 x2,.slice A2 k2 c2,.bool s2] 58);have cj:=Blk.new W2 58 #[.int .i64 x2,.slice A2 k2 c2,.bool s2]
  have S:∀ (j:Nat) (u:Value),[Value.int .i64 x2,.slice A2 k2 c2,.bool s2][j]?=some u->(W2.alloc (.cells #[.int .i64 x2,.slice A2 k2 c2,.bool s2] 58)).cell? ((⟨W2.heap.size,0,none⟩:Addr).add j)=some u:=by
   intro j u hu
   have e:((⟨W2.heap.size,0,none⟩:Addr).add j)=⟨W2.heap.size,j,none⟩:=by
    unfold Addr.add
    by_cases h:j=0
    . subst h;rfl
    simp [h]
   rw [e,cj.cell j, <- hu]
   simp
  have Q:∀ u∈[Value.int .i64 x2,.slice A2 k2 c2,.bool s2],u.oneCell' =true:=by intro u hu;simp at hu;rcases hu with rfl | rfl | rfl<;>rfl
  have T:∀ u∈[Value.int .i64 x2,.slice A2 k2 c2,.bool s2],ZP u:=by
   intro u hu;simp at hu;rcases hu with rfl | rfl | rfl
   . exact xe _
   . exact yf _ _ _
   . exact vH _
  have R:∀ u∈(Value.agg #[.int .i64 0,.slice none 0 0,.bool false]).cells,ZP u:=by
   intro u hu;simp [Value.cells] at hu;rcases hu with rfl | rfl | rfl
   . exact xe _
   . exact yf _ _ _
   . exact vH _
  obtain ⟨i0,am,aj,ao,al⟩:=info_parts zk5;replace E:=kb_ E m;replace y:=ze (zh.below y.o m);replace l:=ze (l.o.below m);replace aB:=kb_ aB m;replace HV:=ze (HV.o.below m);obtain ⟨xs,b9,ce⟩:=l.o.scl;have bh:=ze b9;have ch:=ze ce;have aq:Hid (w.heap.size<=(W2.alloc (.cells #[.int .i64 x2,.slice A2 k2 c2,.bool s2] 58)).heap.size):=l.o.chg.size;clear m cj b9 ce;go_wp2_with (at_builtin;go_must (refine yk (P:=prog) rfl (.tmp 43) (.tmp 45) _ rfl w.heap.size 58 i0 _ 3 40 underlying89 am aj ao al rfl (by omega) _ i xs rfl bh.o ⟨W2.heap.size,0,none⟩ 1 1 [.int .i64 x2,.slice A2 k2 c2,.bool s2] rfl rfl (by omega) S Q T R ?o4 ?o5 ?o6 ?_))
  case o4=>unfold maxLen;omega
  case o5=>omega
  case o6=>exact aq.o
  intro bQ w3 bO a3 b5;clear S Q T R q0 q1 q2;have hP:vR w3 w.heap.size bQ (i+1) (Vu rows):=vR.push bh.o ch.o bO a3 HV.o (fun k hk=>rfl) (by show xC (rows.getD i default)=_;rw [cn.o];rfl);have bX:=fun x e=>l.o.scl.noDig (c:=x) e
  have aH:=vI a3;have cF:=aq.o;have a4:=aH.size
  have bK:Blk w3 gr 31 #[.slice AT r.terms.length ct,str r.bound]:=aH.blk E.o (fun e=>by
   obtain ⟨cs,L⟩:=l.o.scl.heap e
   exact xp E.o L (by decide) rfl)
  have bk:Z3 w3 gs (xC r):=⟨_,_,_,_,_,aH.blk aB.o (fun e=>by have:=l.o.oN _ (.inr (.inr (.inr e)));have:=b1.o;omega),aH.num HV.o bX⟩;have bE:zh w3 w.heap.size (.slice AT r.terms.length ct) r.terms:=y.o.chg aH (fun x m e=>by have:=(l.o.scl.lt x e).1;omega);replace l:=ze (l.o.scales hP a3 (by rw [World.size_alloc];exact b5));replace E:=ze bK;replace y:=ze bE;have D:=ze bk;have bP:=ze bk.lt;obtain ⟨N1,bC⟩:=uQ w3.heap.size;rw [<- bC] at l bP;have bV:Hid (N1<=w3.heap.size):=Nat.le_of_eq bC;clear bC bX aH cF a4 bK bk bE hP bO a3 b5 aB HV bh ch aq;have r1:=E.o.cell 1;simp at r1;go_wp2_with fail;refine (bT.o _ l.o.book _ b0.o).mono ?_;rintro e w4 ⟨v,ok,rfl,⟨x1,A1,L,c1,s1,y1,B1,ay,az,t1,rfl⟩,bn,hq,av,X⟩;have aV:=hq _ (XD aD.o.ok.bsome);have aE:=l.o.book.keepBlk X E.o;have aY:=l.o.book.keepBox X D.o;replace y:=ze (l.o.book.keepT X y.o);replace l:=ze (l.o.read X av);have bN:Hid (N1<=w4.heap.size):=uC bV.o X.size
  have m:=zf w4 (.cells #[.int .i64 x1,.slice A1 L c1,.bool s1,.int .i64 y1,.slice B1 ay az,.bool t1] 60);replace E:=ze (aE.below m aE.lt);replace D:=ze (aY.below m);replace y:=ze (zh.below y.o m);replace l:=ze (l.o.below m);have ah:=ze (Blk.new w4 60 #[.int .i64 x1,.slice A1 L c1,.bool s1,.int .i64 y1,.slice B1 ay az,.bool t1]);have HQ:=ze (aV.below m);have ag:Hid (N1<=(w4.alloc (.cells #[.int .i64 x1,.slice A1 L c1,.bool s1,.int .i64 y1,.slice B1 ay az,.bool t1] 60)).heap.size):=uC bN.o m.size;clear m bn hq av X aV aE aY r1 bV bN
  go_upto_region 10 with fail
  generalize w4.alloc (.cells #[.int .i64 x1,.slice A1 L c1,.bool s1,.int .i64 y1,.slice B1 ay az,.bool t1] 60)=O at E D y l ah HQ ag |-;generalize w4.heap.size=gq at ah |-;have aS:=fun w=>zdb .i64 (2*names.length+2) (by omega) w
  rw [cf.o] at aS
  go_upto_region 11 with fail
  have m:=zf O (.cells (yx (2*names.length+2)) 58);have C:=ze (zf7 O (2*names.length+2));replace E:=kb_ E m;have a6:=ze (show gs<O.heap.size from D.o.lt);replace D:=ze (D.o.below m);replace y:=ze (zh.below y.o m);replace l:=ze (l.o.below m);replace ah:=kb_ ah m;replace HQ:=ze (HQ.o.below m);clear m aS;generalize O.alloc (.cells (yx (2*names.length+2)) 58)=W6 at E D y l ah HQ C |-;generalize O.heap.size=gl at C ag a6 |-;obtain ⟨q0,q1,q2,q3,q4,q5,_⟩:=bq6 ah;obtain ⟨sx,sA,sn,sc,sg,aW,aP⟩:=D.o;obtain ⟨z0,z1,z2,_⟩:=bp3 aW;have aU:=zce _ _ _ _ W6 HQ.o aP aD.o.ok.blen (by have:=(aD.o.ok.fit r.terms.length (uA)).1;exact uC this (by omega));have aX:=ze aU;clear aW aP aU;go_wp2_with fail;refine aX.o.mono ?_;rintro e w7 ⟨v,rfl,hv,af⟩;clear q0 q1 q2 q3 q4 q5 z0 z1 z2 aX
  obtain ⟨x3,A3,k3,c3,s3,rfl,_,_,_⟩:=hv.form;replace E:=kb_ E af;replace D:=ze (D.o.below af);replace y:=ze (zh.below y.o af);replace l:=ze (l.o.below af);replace C:=ze (C.o.below af);obtain ⟨u0,u1,u2,s0,s1,s2⟩:=C.o.slots (k:=0) (by omega);have f0:=C.o.frozen (0*3);have f1:=C.o.frozen (0*3+1);have f2:=C.o.frozen (0*3+2);simp only [Nat.zero_mul,Nat.zero_add] at s0 s1 s2 f0 f1 f2;have bR:0<2*names.length+2:=by omega
  have aw:=vm (w:=w7) (g:=gl) (k:=0) (x:=x3) (A:=A3) (n:=k3) (c:=c3) (ng:=s3)
  have ac:Hid (xq (World.numAt w7 gl 0 x3 A3 k3 c3 s3) gl (2*names.length+2) (2*names.length+2) (VL names (vK (qOf r.bound) (xC r)) (xC r) r.terms 0)):=C.o.set bR hv (fun j hj=>by
   by_cases e:j=0
   . exact .inl ⟨e,by subst e;rfl⟩
   exact .inr ⟨e,hj,by show (if j=0 then _ else _)=_;rw [if_neg e]⟩)
  have an:∀ x,x=gl->N1<=x/\zO w7 x:=fun x e=>by subst e;exact ⟨ag.o,C.o.noDig⟩
  have ai:=ze (l.o.far aw an);have cr:=l.o.lo;have aT:=l.o.gtN;have a2:Hid (zh (World.numAt w7 gl 0 x3 A3 k3 c3 s3) w.heap.size (.slice AT r.terms.length ct) r.terms):=y.o.chg aw (fun x m e=>by have:=ag.o;omega)
  have aI:=ze (aw.blk E.o (fun e=>by
   obtain ⟨cs,L⟩:=C.o.heap;rw [<- e] at L
   exact xp E.o L (by decide) rfl))
  have a1:=ze (D.o.chg aw (by have:=a6.o;omega) (fun x e=>(an x e).2));clear l y E C D aw an cr aT af hv ah HQ;simp only [World.numAt,Nat.zero_mul,Nat.zero_add] at ac ai a2 aI a1
  go_upto_region 12 with fail
  clear f0 f1 f2 s0 s1 s2 bR;generalize ((w7.setCell ⟨gl,0,none⟩ (.int .i64 x3)).setCell ⟨gl,1,none⟩ (.slice A3 k3 c3)).setCell ⟨gl,2,none⟩ (.bool s3)=W8 at ac ai a2 aI a1 |-;have r0:=(bq1 aI).1;go_wp2_with fail;clear r0 aI
  go_loopw [66] (BegI w b gt N1 gl gs (.slice (some ad) rows.length c) (.slice nA names.length nc) (.slice AT r.terms.length ct) rows names g i r mv bv bQ) (fun iv _=>r.terms.length - (intOf iv).toNat)
  case atStart=>exact ⟨0,uB,rfl,ai,a2,ac,a1⟩
  case round=>
   clear ac ai a2 a1;obtain ⟨t,ht,rfl,l,y,C,D⟩:=hrel
   by_cases a9:t<r.terms.length
   rotate_left
   . obtain rfl:r.terms.length=t:=by omega
     skip
     obtain ⟨u0,u1,u2,j0,j1,j2⟩:=C.o.slots bY.o;have f0:=C.o.frozen (Z*3);have f1:=C.o.frozen (Z*3+1);have f2:=C.o.frozen (Z*3+2);have aw:=vm (w:=wr) (g:=gl) (k:=Z) (x:=1) (A:=none) (n:=0) (c:=0) (ng:=false);have an:∀ x,x=gl->N1<=x/\zO wr x:=fun x e=>by subst e;exact ⟨ag.o,C.o.noDig⟩
     have cl:zN wr (.agg #[.int .i64 1,.slice none 0 0,.bool false]) 1:=.inl ⟨1,false,rfl,by omega,by omega,rfl⟩
     have ac:Hid (xq (World.numAt wr gl Z 1 none 0 0 false) gl (2*names.length+2) (2*names.length+2) (zls names r)):=C.o.set bY.o cl (fun j hj=>by
      have h1:=cE.o
      show (j=Z/\(if j=2*names.length+1 then _ else _)=_)\/(j≠Z/\j<_/\(if j=2*names.length+1 then _ else _)=_)
      rw [<- h1]
      by_cases e:j=Z
      . exact .inl ⟨e,if_pos e⟩
      exact .inr ⟨e,hj,if_neg e⟩)
     have ai:=ze (l.o.far aw an);clear l C y D aw an cl;simp only [World.numAt] at ac ai
     go_upto_region 21 with fail
     clear j0 j1 j2 f0 f1 f2;generalize ((wr.setCell ⟨gl,Z*3,none⟩ (.int .i64 1)).setCell ⟨gl,Z*3+1,none⟩ (.slice none 0 0)).setCell ⟨gl,Z*3+2,none⟩ (.bool false)=W2 at ac ai |-;have c3:W2.cell? ⟨gt,3,none⟩=some mv:=by rw [ai.o.blk.cell];rfl
     have m:=zf W2 (.cells #[.slice (some ⟨gl,0,none⟩) (2*names.length+2) (2*names.length+2)] 89);have J:=ze (ai.o.below m);have aQ:=ze (ac.o.below m);have aq:Hid (w.heap.size<=(W2.alloc (.cells #[.slice (some ⟨gl,0,none⟩) (2*names.length+2) (2*names.length+2)] 89)).heap.size):=J.o.chg.size;have S:=Xw (w:=W2) (t:=89) (v:=.slice (some ⟨gl,0,none⟩) (2*names.length+2) (2*names.length+2));have Q:=vJ (v:=.slice (some ⟨gl,0,none⟩) (2*names.length+2) (2*names.length+2)) (p:=fun u=>u.oneCell' =true) rfl;have T:=vJ (v:=.slice (some ⟨gl,0,none⟩) (2*names.length+2) (2*names.length+2)) (p:=ZP) (yf _ _ _);have R:∀ u∈(Value.slice none 0 0).cells,ZP u:=by intro u hu;simp [Value.cells] at hu;subst hu;exact yf _ _ _
     obtain ⟨i0,am,aj,ao,al⟩:=info_parts zh5;clear m ai ac;go_wp2_with (at_builtin;go_must (refine yk (P:=prog) rfl (.tmp 111) (.tmp 113) _ rfl w.heap.size 89 i0 _ 1 24 underlying98 am aj ao al rfl (by omega) _ i _ rfl J.o.mat.own ⟨W2.heap.size,0,none⟩ 1 1 [.slice (some ⟨gl,0,none⟩) (2*names.length+2) (2*names.length+2)] rfl rfl (by omega) S Q T R ?o4 ?o5 ?o6 ?_))
     case o4=>unfold maxLen;omega
     case o5=>omega
     case o6=>exact aq.o
     intro cp w4 G V aa;obtain ⟨ae,ab,bp,_,_⟩:=G.1.form (by omega);subst bp;have au:=J.o.row aQ.o ag.o (fun j hj=>by unfold zjq;rw [if_pos ba,cn.o]) G V;have c4:w4.cell? ⟨gt,3,none⟩=some mv:=by rw [au.blk.cell];rfl
     have f4:=au.blk.frozen 3;have U:=ze (au.store 3 (xH G));rw [show (xf b (.slice (some ad) rows.length c) (.slice nA names.length nc) mv bv (.slice none 0 0)).setIfInBounds 3 (.slice (some ⟨ae,0,none⟩) (i+1) ab)=xf b (.slice (some ad) rows.length c) (.slice nA names.length nc) (.slice (some ⟨ae,0,none⟩) (i+1) ab) bv (.slice none 0 0) from rfl] at U;generalize w4.heap.size=N2 at U;generalize (fun j=>if j=i then gl else g j)=g2 at U;clear G V aa au J aQ aq S Q T R c3 ag a6 bP
     go_upto_region 22 with fail
     clear c4 f4;generalize w4.setCell ⟨gt,3,none⟩ (.slice (some ⟨ae,0,none⟩) (i+1) ab)=O at U |-;have b7:O.cell? ⟨gt,7,none⟩=some bv:=by rw [U.o.blk.cell];rfl
     have b2:O.cell? ⟨gt,2,none⟩=some (.slice nA names.length nc):=by rw [U.o.blk.cell];rfl
     have br:¬ bv.ownBlock=some gt:=fun e=>by
      obtain ⟨cs,L⟩:=U.o.bas.heap e;exact xp U.o.blk L (by decide) rfl
     obtain ⟨M,aG⟩:∃ M,M=2*names.length+i:=⟨_,rfl⟩;have bl:=fun w' (h:w'.cell? ⟨gt,2,none⟩=some (.slice nA names.length nc))=>zjf gt i nA names.length nc w' h (by omega) (by omega)
     rw [<- aG] at bl;have cg:=ze bl;have bm:=ze aG;clear bl aG;have I:∀ w',Hid (Chg (fun x=>bv.ownBlock=some x) O w')->w'.cell? ⟨gt,7,none⟩=some bv/\w'.cell? ⟨gt,2,none⟩=some (.slice nA names.length nc):=fun w' hB=>⟨xl hB b7 br,xl hB b2 br⟩
     refine y8 I 7 5 12 (xX O) fun B=>?_;simp only [xDR]
     iterate 7 refine zH ?_
     refine zB ?_;refine rK 7 fun K hK=>?_
     go_simp
     go_at_call 75;refine (cg.o _ B.2.2).mono ?_;rintro e w9 ⟨rfl,rfl⟩;refine hK.out _ _ (zm (B.1) (I _)) ?_;clear hK K B;intro B
     try simp only [Act.put,xST]
     clear cg;refine rK 8 fun K hK=>?_
     go_simp
     have ap:=(vi O (.cells #[.int .i64 (M:Int)] 3)).out;have a5:=ze (U.o.below ap);have ax:Hid (Chg (fun x=>bv.ownBlock=some x) O (O.alloc (.cells #[.int .i64 (M:Int)] 3)).drew):=Chg.of_below ap;refine hK.out _ _ (zm (ax) (I _)) ?_;clear hK K B;intro B
     try simp only [Act.put,xST]
     clear ax ap U;have S:=Xw (w:=O) (t:=3) (v:=.int .i64 (M:Int));have Q:=vJ (v:=.int .i64 (M:Int)) (p:=fun u=>u.oneCell' =true) rfl;have T:=vJ (v:=.int .i64 (M:Int)) (p:=ZP) (xe _);have R:∀ u∈(Value.int .i64 0).cells,ZP u:=by intro u hu;simp [Value.cells] at hu;subst hu;exact xe _
     obtain ⟨i1,am,aj,ao,al⟩:=info_parts ziq;have ak:=a5.o.chg.size;refine HH.ready (rs:=[9]) (by kernel_rfl) (by simp) (by kernel_rfl) ?_;refine Zd.cons (o:=_) rfl (fun K hK=>?_) Zd.nil;rw [if_pos (by rfl)];refine ve (P:=prog) (.tmp 121) (.tmp 125) _ rfl w.heap.size 3 i1 _ 1 8 Tryz.underlyingInts am aj ao al rfl (by omega) _ i _ rfl a5.o.bas ⟨O.heap.size,0,none⟩ 1 1 [.int .i64 (M:Int)] rfl rfl (by omega) S Q T R (by unfold maxLen;omega) (by omega) ak ?_;intro cR w6 G V aa;obtain ⟨b6,bS,cv,_,_⟩:=G.1.form (by omega);subst cv;rw [show [Value.int .i64 (M:Int)]=[.int .i64 (zwy names.length i:Nat)] by rw [bm.o];rfl,YV] at G;have a0:=a5.o.basic G V aa;have c7:w6.cell? ⟨gt,7,none⟩=some bv:=by rw [a0.blk.cell];rfl
     have f7:=a0.blk.frozen 7;have aA:=ze (a0.store 7 (xH G));rw [show ∀ mv:Value,(xf b (.slice (some ad) rows.length c) (.slice nA names.length nc) mv bv (.slice none 0 0)).setIfInBounds 7 (.slice (some ⟨b6,0,none⟩) (i+1) bS)=xf b (.slice (some ad) rows.length c) (.slice nA names.length nc) mv (.slice (some ⟨b6,0,none⟩) (i+1) bS) (.slice none 0 0) from fun _=>rfl] at aA;refine hK.out _ _ (zm (vz (vI V) B.1) (I _)) ?_;clear hK K B;intro B
     try simp only [Act.put,xST]
     clear G V aa a0 a5 S Q T R ak b7 b2 br;refine tK 10 ?_;refine tK 11 ?_;clear B I;refine hdn ?_;simp only [xDR];go_wp2;go_roundw
     case rel=>exact ⟨i+1,_,_,_,_,_,by omega,by go_num,rfl,aA⟩
     case measure=>simp [intOf];omega
   have cT:(t:Int)<(r.terms.length:Int):=by omega
   obtain ⟨cO,eA,bg,p0,p1,cB,bJ⟩:=y.o.at_ a9;subst eA;have aN:=xGD (d:=default) a9;have aO:=ze (aD.o.nm _ (uO a9));have bW:=ze (aD.o.ok.good _ (uO a9));have bU:=ze aN;have ai:=ze bJ;have m:=zf wr (.cells #[str r.terms[t].name,str r.terms[t].coef] 44);have E:=ze (Blk.new wr 44 #[str r.terms[t].name,str r.terms[t].coef]);replace l:=ze (l.o.below m);replace y:=ze (zh.below y.o m);replace C:=ze (C.o.below m);replace D:=ze (D.o.below m);clear m cB bJ aN
   go_upto_region 15 with fail
   clear p0 p1 bg;generalize wr.alloc (.cells #[str r.terms[t].name,str r.terms[t].coef] 44)=W1 at E l y C D |-;generalize wr.heap.size=gtm at E |-;obtain ⟨p0,p1,_⟩:=bq2 E;have bc:=VC nA names.length nc names r.terms[t].name w.heap.size _ W1 l.o.nms aO.o.lt aO.o.at_ aO.o.lo aO.o.hi (by omega);have cz:=aO.o.lt;obtain ⟨p,hp⟩:=uR (names.idxOf r.terms[t].name);have cH:Hid (xR names r.terms t=p):=by show xR _ _ _=_;unfold xR;rw [bU.o];exact hp
   rw [hp] at bc cz;have cm:=ze bc;clear bc hp;go_wp2_with fail;refine cm.o.mono ?_;rintro e w9 ⟨rfl,rfl⟩;clear cm;go_wp2_with fail;refine (bT.o _ l.o.book _ ai.o).mono ?_;rintro e w4 ⟨v,cQ,rfl,⟨x1,A1,L,c1,s1,y1,B1,ay,az,t1,rfl⟩,bn,hq,av,X⟩;have aV:=hq _ (XD bW.o.1);have aY:=l.o.book.keepBox X D.o;have cx:=l.o.hb;have bB:=l.o.lo;have aT:=l.o.gtN;have b4:=C.o.chg X (by have:=ag.o;omega) (fun x e=>by subst e;exact l.o.book.noDig);replace y:=ze (l.o.book.keepT X y.o);replace l:=ze (l.o.read X av);have m:=zf w4 (.cells #[.int .i64 x1,.slice A1 L c1,.bool s1,.int .i64 y1,.slice B1 ay az,.bool t1] 60);replace C:=ze (b4.below m);replace D:=ze (aY.below m);replace y:=ze (zh.below y.o m);replace l:=ze (l.o.below m);have ah:=ze (Blk.new w4 60 #[.int .i64 x1,.slice A1 L c1,.bool s1,.int .i64 y1,.slice B1 ay az,.bool t1]);have HQ:=ze (aV.below m);clear m bn hq av X aV b4 aY p0 p1 E cx bB aT
   go_upto_region 17 with fail
   generalize w4.alloc (.cells #[.int .i64 x1,.slice A1 L c1,.bool s1,.int .i64 y1,.slice B1 ay az,.bool t1] 60)=O at D y l ah HQ C |-;generalize w4.heap.size=gq at ah |-;obtain ⟨q0,q1,q2,q3,q4,q5,_⟩:=bq6 ah;obtain ⟨sx,sA,sn,sc,sg,aW,aP⟩:=D.o;obtain ⟨z0,z1,z2,_⟩:=bp3 aW;have aU:=zce _ _ _ _ O HQ.o aP bW.o.2 (by have:=(aD.o.ok.fit r.terms.length (uA)).1;exact uC this (by omega));have aX:=ze aU;clear aW aP aU;go_wp2_with fail;refine aX.o.mono ?_;rintro e w7 ⟨v,rfl,hv,af⟩;clear q0 q1 q2 q3 q4 q5 z0 z1 z2 aX ah HQ;obtain ⟨x4,A4,k4,c4,s4,rfl,_,_,_⟩:=hv.form;have cD:Hid (vK (qOf r.terms[t].coef) (xC r)=yW (xC r) r.terms t):=by show _=_;unfold yW;rw [bU.o]
   rw [cD.o] at hv;have m:=ext af (zf w7 (.cells #[.int .i64 x4,.slice A4 k4 c4,.bool s4] 58));have cc:=zf w7 (.cells #[.int .i64 x4,.slice A4 k4 c4,.bool s4] 58);have aR:=ze (Blk.new w7 58 #[.int .i64 x4,.slice A4 k4 c4,.bool s4]);have be:Hid (O.heap.size<=w7.heap.size):=af.size;have cu:=ze C.o.lt;have cJ:=ze D.o.lt;replace C:=ze (C.o.below m);replace D:=ze (D.o.below m);replace y:=ze (zh.below y.o m);replace l:=ze (l.o.below m);have HV:=ze (hv.below cc);clear m cc hv af
   go_upto_region 18 with fail
   generalize w7.alloc (.cells #[.int .i64 x4,.slice A4 k4 c4,.bool s4] 58)=W7 at D y l C aR HV |-;generalize w7.heap.size=gv at aR be |-;obtain ⟨q0,q1,q2,_⟩:=bq3 aR;have vL:=aR.o.lt;obtain ⟨Y,bM⟩:∃ K,K=1+2*p:=⟨_,rfl⟩;obtain ⟨K2,ci⟩:∃ K,K=2+2*p:=⟨_,rfl⟩;have e1:IntKind.i64.wrap (2*(p:Int))=2*(p:Int):=by rw [IntKind.wrap_i64];omega
   have e2:IntKind.i64.wrap (1+2*(p:Int))=(Y:Int):=by rw [IntKind.wrap_i64];omega
   have e3:IntKind.i64.wrap (2+2*(p:Int))=(K2:Int):=by rw [IntKind.wrap_i64];omega
   have e4:(Y:Int)<2*(names.length:Int)+2:=by omega
   have e5:(K2:Int)<2*(names.length:Int)+2:=by omega
   have e6:(0:Int)<=(Y:Int):=by omega
   have e7:(0:Int)<=(K2:Int):=by omega
   have co:=ze bM;have aI:=ze ci;have a7:Hid (Y<2*names.length+2/\K2<2*names.length+2):=⟨by omega,by omega⟩;clear bM ci;have a8:¬ gv=gl:=by have:=be.o;have:=cu.o;omega
   have I:∀ w',Hid (Chg (fun x=>x=gl) W7 w')->w'.cell? ⟨gv,0,none⟩=some (.int .i64 x4)/\w'.cell? ⟨gv,1,none⟩=some (.slice A4 k4 c4)/\w'.cell? ⟨gv,2,none⟩=some (.bool s4):=fun w' hB=>⟨xl hB q0 a8,xl hB q1 a8,xl hB q2 a8⟩
   refine y8 I 9 4 13 (xX W7) fun B=>?_;simp only [xDR]
   iterate 9 refine zH ?_
   refine zB ?_;refine tK 10 ?_;refine rK 9 fun K hK=>?_
   go_simp
   go_at_call 74;refine (yF _ _ _ (HV.o.below (zv W7).out)).mono ?_;rintro e w8 ⟨v1,rfl,hv,aC⟩;have aM:Below W7.heap.size W7 w8:=ext (zv W7).out aC;have bo:=ze hv;replace C:=ze (C.o.below aM);replace D:=ze (D.o.below aM);replace y:=ze (zh.below y.o aM);replace l:=ze (l.o.below aM);replace HV:=ze (HV.o.below aM);clear hv aM;refine hK.out _ _ (zm (xU aC B.1) (I _)) ?_;clear hK K B;intro B
   try simp only [Act.put,xST]
   clear aC;obtain ⟨x5,A5,k5,c5,s5,rfl,_,_,_⟩:=bo.o.form;obtain ⟨u0,u1,u2,j0,j1,j2⟩:=C.o.slots a7.o.1;have f0:=C.o.frozen (Y*3);have f1:=C.o.frozen (Y*3+1);have f2:=C.o.frozen (Y*3+2);have aJ:=vm (w:=w8) (g:=gl) (k:=Y) (x:=x5) (A:=A5) (n:=k5) (c:=c5) (ng:=s5);have an:∀ x,x=gl->N1<=x/\zO w8 x:=fun x e=>by subst e;exact ⟨ag.o,C.o.noDig⟩
   have aF:Hid (xq (World.numAt w8 gl Y x5 A5 k5 c5 s5) gl (2*names.length+2) (2*names.length+2) (fun j=>if j=Y then -(yW (xC r) r.terms t) else VL names (vK (qOf r.bound) (xC r)) (xC r) r.terms t j)):=C.o.set a7.o.1 bo.o (fun j hj=>by
    by_cases e:j=Y
    . exact .inl ⟨e,by rw [if_pos e]⟩
    exact .inr ⟨e,hj,by rw [if_neg e]⟩)
   have cd:=ze (aJ.num HV.o (fun x e=>(an x e).2));have bG:=ze (l.o.far aJ an);have bD:¬ gs=gl:=by have:=a6.o;omega
   have bF:=ze (D.o.chg aJ bD (fun x e=>(an x e).2));have cA:=l.o.chg.size;have bB:=l.o.lo;have aT:=l.o.gtN;have cb:=ze (y.o.chg aJ (fun x m e=>by have:=ag.o;omega));have aZ:=vm (w:=World.numAt w8 gl Y x5 A5 k5 c5 s5) (g:=gl) (k:=K2) (x:=x4) (A:=A4) (n:=k4) (c:=c4) (ng:=s4);have bA:∀ x,x=gl->N1<=x/\zO (World.numAt w8 gl Y x5 A5 k5 c5 s5) x:=fun x e=>by subst e;exact ⟨ag.o,aF.o.noDig⟩
   have ac:Hid (xq (World.numAt (World.numAt w8 gl Y x5 A5 k5 c5 s5) gl K2 x4 A4 k4 c4 s4) gl (2*names.length+2) (2*names.length+2) (VL names (vK (qOf r.bound) (xC r)) (xC r) r.terms (t+1))):=aF.o.set a7.o.2 cd.o (fun j hj=>by
    have h1:=co.o;have h2:=aI.o;have h3:=cH.o
    show (j=K2/\(if j=1+2*xR names r.terms t then _ else if j=2+2*xR names r.terms t then _ else _)=_)\/(j≠K2/\j<_/\(if j=1+2*xR names r.terms t then _ else if j=2+2*xR names r.terms t then _ else _)=_)
    rw [h3, <- h1, <- h2]
    by_cases e:j=K2
    . exact .inl ⟨e,by rw [if_neg (by omega),if_pos e]⟩
    refine .inr ⟨e,hj,?_⟩
    by_cases e' :j=Y
    . rw [if_pos e',if_pos e']
    rw [if_neg e',if_neg e,if_neg e'])
   obtain ⟨u3,u4,u5,j3,j4,j5⟩:=aF.o.slots a7.o.2;have f3:=aF.o.frozen (K2*3);have f4:=aF.o.frozen (K2*3+1);have f5:=aF.o.frozen (K2*3+2);have bf:=ze (bG.o.far aZ bA);have bq:=ze (bF.o.chg aZ bD (fun x e=>(bA x e).2));have bj:=ze (cb.o.chg aZ (fun x m e=>by have:=ag.o;omega));have bz:Hid (Chg (fun x=>x=gl) w8 (World.numAt w8 gl Y x5 A5 k5 c5 s5)):=aJ;clear bG bF cb cd aF aJ aZ an bA l C y D HV bo bD cA bB aT aR vL be;simp only [World.numAt] at ac bf bq bj j3 j4 j5 f3 f4 f5 bz;refine tK 11 ?_;refine rK 12 fun K hK=>?_
   go_simp
   refine hK.out _ _ (zm (vz bz.out B.1) (I _)) ?_;clear hK K B;intro B
   try simp only [Act.put,xST]
   clear bz;clear B I;refine hdn ?_;simp only [xDR];clear q0 q1 q2 a8;go_wp2;go_roundw
   case rel=>first | exact ⟨t+1,by omega,by go_num,bf,bj,ac,bq⟩ | ((repeat apply Exists.intro);exact ⟨⟨t+1,by omega,by go_num,bf,bj,ac,bq⟩,rfl⟩)
   case measure=>simp [intOf];omega
def zal (g nn:Nat) (f:Nat->Rat) (w:World) (e:Ending) (w' :World):Prop:=e= .returned (.tuple #[])/\yH w' g nn nn f/\Chg (· =g) w w'
theorem zpr (base m L:Nat) (F:zG) (T:zk) (bT bO g u:Nat) (f:Nat->Rat) (vx:Value) (q:Rat) (w:World) (hT:zI base m L F w T) (hb:w.cell? ⟨bT,0,none⟩=some (.pointer (some ⟨F.gt,0,none⟩))) (hr:yH w g F.nn F.nn f) (hx:zV w vx q)
 (hu:2*F.nn<=u) (hu2:u<=1000000):
 Calls prog 82 #[.int .i64 (u:Nat),vx,.pointer (some ⟨bT,0,none⟩),.pointer (some ⟨bO,0,none⟩)] w (zal g F.nn f w):=by
 obtain ⟨E,l,e,r,C,j,D,y,z,B,rfl,K,J⟩:=hx
 have b:=zf w (.cells #[.int .i64 E,.slice l e r,.bool C,.int .i64 j,.slice D y z,.bool B] 60)
 have I:=ze (hr.below b)
 have G:Hid (Chg (· =g) w (w.alloc (.cells #[.int .i64 E,.slice l e r,.bool C,.int .i64 j,.slice D y z,.bool B] 60))):=Chg.of_below b
 have M:=(hT.below b).cell2
 have N :=(b.cell (p:=⟨bT,0,none⟩) (World.block_lt_of_cell? w _ hb)).trans hb
 have Q:IntKind.i64.wrap (2*(F.nn:Int))=2*(F.nn:Int):=by rw [IntKind.wrap_i64];omega
 have O:decide ((u:Int) ≥ 2*(F.nn:Int))=true:=by rw [decide_eq_true_iff];omega
 clear b hr hT K J hb
 go_in
 go_upto_region 1 with fail
 generalize w.alloc (.cells #[.int .i64 E,.slice l e r,.bool C,.int .i64 j,.slice D y z,.bool B] 60)=W at I G M N |-
 go_wp2
 go_end0
 exact ⟨rfl,I.o,G.o⟩
theorem zph (base m L:Nat) (F:zG) (T:zk) (bT bO g k u:Nat) (f:Nat->Rat) (vx:Value) (q:Rat) (w:World) (hT:zI base m L F w T) (hb:w.cell? ⟨bT,0,none⟩=some (.pointer (some ⟨F.gt,0,none⟩))) (ho:w.cell? ⟨bO,0,none⟩=some (.slice (some ⟨g,0,none⟩) F.nn F.nn))
 (hr:yH w g F.nn F.nn f) (hx:zV w vx q) (hu:u=2*k) (hk:k<F.nn) (hnn:F.nn<=100000) (hl1:xJ 8388608 (f k)) (hl2:xJ 8388608 q):
 Calls prog 82 #[.int .i64 (u:Nat),vx,.pointer (some ⟨bT,0,none⟩),.pointer (some ⟨bO,0,none⟩)] w (zal g F.nn (fun j=>if j=k then f j+q else f j) w):=by
 obtain ⟨O,z,Q,I,l,D,C,J,R,N,rfl,ai,ab⟩:=hx
 have M:=zf w (.cells #[.int .i64 O,.slice z Q I,.bool l,.int .i64 D,.slice C J R,.bool N] 60)
 have b:=ze (hr.below M)
 have S:Hid (Chg (· =g) w (w.alloc (.cells #[.int .i64 O,.slice z Q I,.bool l,.int .i64 D,.slice C J R,.bool N] 60))):=Chg.of_below M
 have c2:=(hT.below M).cell2
 have ag :=(M.cell (p:=⟨bT,0,none⟩) (World.block_lt_of_cell? w _ hb)).trans hb
 have X :=(M.cell (p:=⟨bO,0,none⟩) (World.block_lt_of_cell? w _ ho)).trans ho
 have U:=ze (Blk.new w 60 #[.int .i64 O,.slice z Q I,.bool l,.int .i64 D,.slice C J R,.bool N])
 have HX:Hid (zV (w.alloc (.cells #[.int .i64 O,.slice z Q I,.bool l,.int .i64 D,.slice C J R,.bool N] 60)) (.agg #[.int .i64 O,.slice z Q I,.bool l,.int .i64 D,.slice C J R,.bool N]) q):=zV.below ⟨_,_,_,_,_,_,_,_,_,_,rfl,ai,ab⟩ M
 have ar:IntKind.i64.wrap (2*(F.nn:Int))=2*(F.nn:Int):=by rw [IntKind.wrap_i64];omega
 have d1:decide ((u:Int) ≥ 2*(F.nn:Int))=false:=by rw [decide_eq_false_iff_not];omega
 have e1:((u:Int).tmod 2)=0:=by rw [Int.tmod_eq_emod_of_nonneg (by omega)];omega
 have e2:((u:Int).tdiv 2)=(k:Int):=by rw [Int.tdiv_eq_ediv_of_nonneg (by omega)];omega
 have e3:(u:Int) % 2=0:=by omega
 have e4:(u:Int) / 2=(k:Int):=by omega
 have au:(k:Int)<(F.nn:Int):=by omega
 have e5:IntKind.i64.wrap (k:Int)=(k:Int):=by rw [IntKind.wrap_i64];omega
 have e6:(0:Int)<=(k:Int):=by omega
 obtain ⟨af,ah,aa⟩:=hz3 hl1 hl2 hk
 clear M hr hT ai ab hb ho hu hl1 hl2
 go_in
 go_upto_region 1 with fail
 generalize w.alloc (.cells #[.int .i64 O,.slice z Q I,.bool l,.int .i64 D,.slice C J R,.bool N] 60)=W at b S U HX c2 ag X |-
 generalize w.heap.size=gx at U |-
 go_upto_region 4 with fail
 clear c2 ag d1 ar
 have o0:=X
 have oL:=World.block_lt_of_cell? W _ o0
 obtain ⟨ax,aA,an,ac,am,ay,aB,aj,ak,at',a0,a1,a2,a3,a4,a5,ha⟩:=b.o.2 k aa.o
 have r:=b.o.lt;obtain ⟨q0,q1,q2,q3,q4,q5,E⟩:=bq6 U
 have HA:=ze ha
 clear ha X
 have Z:∀ w',Hid (Below W.heap.size W w')->w'.cell? ⟨bO,0,none⟩=some (.slice (some ⟨g,0,none⟩) F.nn F.nn)/\w'.cell? ⟨g,k*6,none⟩=some (.int .i64 ax)/\w'.cell? ⟨g,k*6+1,none⟩=some (.slice aA an ac)/\w'.cell? ⟨g,k*6+2,none⟩=some (.bool am)/\w'.cell? ⟨g,k*6+3,none⟩=some (.int .i64 ay)/\w'.cell? ⟨g,k*6+4,none⟩=some (.slice aB aj ak)/\w'.cell? ⟨g,k*6+5,none⟩=some (.bool at')/\w'.cell? ⟨gx,0,none⟩=some (.int .i64 O)/\w'.cell? ⟨gx,1,none⟩=some (.slice z Q I)/\w'.cell? ⟨gx,2,none⟩=some (.bool l)/\w'.cell? ⟨gx,3,none⟩=some (.int .i64 D)/\w'.cell? ⟨gx,4,none⟩=some (.slice C J R)/\w'.cell? ⟨gx,5,none⟩=some (.bool N):=fun w' hB=>⟨zl hB oL o0,zl hB r a0,zl hB r a1,zl hB r a2,zl hB r a3,zl hB r a4,zl hB r a5,zl hB E q0,zl hB E q1,zl hB E q2,zl hB E q3,zl hB E q4,zl hB E q5⟩
 refine y8 Z 9 2 11 (zv W) fun G=>?_
 simp only [xDR]
 iterate 9 refine zH ?_
 refine zB ?_
 refine rK 9 fun K hK=>?_
 go_simp
 go_at_call 26
 refine (vM _ _ _ _ _ (HA.o.below G.1.out) (HX.o.below G.1.out) af.o ah.o).mono ?_
 rintro e w2 ⟨v1,rfl,hv,ae⟩
 have Y:=ze hv
 clear hv
 refine hK.out _ _ (zm (zp ae G.1) (Z _)) ?_
 clear hK K G
 intro G
 try simp only [Act.put,xST]
 clear ae
 refine tK 10 ?_
 have V:=(G.1).out
 replace b:=ze (yH.below b.o V)
 replace S:=ze (zD S.o V)
 clear V G Z
 refine hdn ?_
 simp only [xDR]
 clear HA HX a0 a1 a2 a3 a4 a5 q0 q1 q2 q3 q4 q5 oL r E o0 U af ah
 obtain ⟨x,A,n,c,s,y,B,n',c',t,rfl,al,aq⟩:=Y.o
 obtain ⟨u0,u1,u2,u3,u4,u5,s0,l,s2,s3,s4,s5⟩:=b.o.slots aa.o
 have f0:=b.o.frozen (k*6)
 have f1:=b.o.frozen (k*6+1)
 have f2:=b.o.frozen (k*6+2)
 have f3:=b.o.frozen (k*6+3)
 have f4:=b.o.frozen (k*6+4)
 have f5:=b.o.frozen (k*6+5)
 have ad:=Y4 (w:=w2) (g:=g) (k:=k) (x:=x) (s:=s) (A:=A) (n:=n) (c:=c) (y:=y) (t:=t) (B:=B) (n' :=n') (c' :=c')
 have ao:Hid (yH (World.ratAt w2 g k x A n c s y B n' c' t) g F.nn F.nn (fun j=>if j=k then f j+q else f j)):=b.o.set aa.o Y.o (fun j hj=>by
  by_cases e:j=k
  . exact .inl ⟨e,by subst e;rw [if_pos rfl]⟩
  exact .inr ⟨e,hj,by rw [if_neg e]⟩)
 have ap:Hid (Chg (· =g) w (World.ratAt w2 g k x A n c s y B n' c' t)):=S.o.trans ad (fun _ _ h=>h)
 clear b S Y ad al aq
 go_wp2
 go_end0
 exact ⟨rfl,ao.o,ap.o⟩
theorem zq1 (base m L:Nat) (F:zG) (T:zk) (bT bO g k u:Nat) (f:Nat->Rat) (vx:Value) (q:Rat) (w:World) (hT:zI base m L F w T) (hb:w.cell? ⟨bT,0,none⟩=some (.pointer (some ⟨F.gt,0,none⟩))) (ho:w.cell? ⟨bO,0,none⟩=some (.slice (some ⟨g,0,none⟩) F.nn F.nn))
 (hr:yH w g F.nn F.nn f) (hx:zV w vx q) (hu:u=2*k+1) (hk:k<F.nn) (hnn:F.nn<=100000) (hl1:xJ 8388608 (f k)) (hl2:xJ 8388608 q):
 Calls prog 82 #[.int .i64 (u:Nat),vx,.pointer (some ⟨bT,0,none⟩),.pointer (some ⟨bO,0,none⟩)] w (zal g F.nn (fun j=>if j=k then f j+ -q else f j) w):=by
 obtain ⟨Z,O,k1,U,M,S,R,V,aa,Y,rfl,aD,am⟩:=hx
 have J:=zf w (.cells #[.int .i64 Z,.slice O k1 U,.bool M,.int .i64 S,.slice R V aa,.bool Y] 60)
 have l:=ze (hr.below J)
 have aJ:=ze hr.lt
 have C:Hid (Below w.heap.size w (w.alloc (.cells #[.int .i64 Z,.slice O k1 U,.bool M,.int .i64 S,.slice R V aa,.bool Y] 60))):=J
 have c2:=(hT.below J).cell2
 have av :=(J.cell (p:=⟨bT,0,none⟩) (World.block_lt_of_cell? w _ hb)).trans hb
 have ae :=(J.cell (p:=⟨bO,0,none⟩) (World.block_lt_of_cell? w _ ho)).trans ho
 have aG:=ze (World.block_lt_of_cell? w _ ho)
 have z:=ze (Blk.new w 60 #[.int .i64 Z,.slice O k1 U,.bool M,.int .i64 S,.slice R V aa,.bool Y])
 have N:Hid (zV (w.alloc (.cells #[.int .i64 Z,.slice O k1 U,.bool M,.int .i64 S,.slice R V aa,.bool Y] 60)) (.agg #[.int .i64 Z,.slice O k1 U,.bool M,.int .i64 S,.slice R V aa,.bool Y]) q):=zV.below ⟨_,_,_,_,_,_,_,_,_,_,rfl,aD,am⟩ J
 have aO:IntKind.i64.wrap (2*(F.nn:Int))=2*(F.nn:Int):=by rw [IntKind.wrap_i64];omega
 have d1:decide ((u:Int) ≥ 2*(F.nn:Int))=false:=by rw [decide_eq_false_iff_not];omega
 have e1:((u:Int).tmod 2)=1:=by rw [Int.tmod_eq_emod_of_nonneg (by omega)];omega
 have e2:((u:Int).tdiv 2)=(k:Int):=by rw [Int.tdiv_eq_ediv_of_nonneg (by omega)];omega
 have e3:(u:Int) % 2=1:=by omega
 have e4:(u:Int) / 2=(k:Int):=by omega
 have aP:(k:Int)<(F.nn:Int):=by omega
 have e5:IntKind.i64.wrap (k:Int)=(k:Int):=by rw [IntKind.wrap_i64];omega
 have e6:(0:Int)<=(k:Int):=by omega
 obtain ⟨au,az,al⟩:=hz3 hl1 hl2 hk
 clear J hr hT aD am hb ho hu hl1 hl2
 go_in
 go_upto_region 1 with fail
 generalize w.alloc (.cells #[.int .i64 Z,.slice O k1 U,.bool M,.int .i64 S,.slice R V aa,.bool Y] 60)=W at l C z N c2 av ae |-
 obtain ⟨r,ah⟩:=uQ w.heap.size
 rw [<- ah] at z |-
 have ak:=ze ah
 clear ah;obtain ⟨q0,q1,q2,Q,q4,X,_⟩:=bq6 z
 go_upto_region 3 with fail
 skip
 go_wp2_with fail
 refine (zc3 _ q _ N.o).mono ?_
 rintro e w2 ⟨v1,rfl,⟨x,A,n,c,s,y,B,n',c',t,rfl,ad,af⟩,D⟩
 clear q0 q1 q2 Q q4 X c2 av d1 aO
 replace l:=ze (l.o.below D)
 replace C:=eb_ C D
 replace z:=kb_ z D
 have o1:=(D.cell (p:=⟨bO,0,none⟩) (World.block_lt_of_cell? W _ ae)).trans ae
 obtain ⟨q0,q1,q2,Q,q4,X,_⟩:=bq6 z;obtain ⟨f0,f1,f2,f3,f4,f5⟩:=fq6 z;clear D ae N
 go_upto_region 4 with fail
 have ap:=yj (x:=x) (A:=A) (k:=n) (c:=c) (s:=s) (y:=y) (B:=B) (k' :=n') (c' :=c') (t:=t) z.o
 have aC:=yl (x:=x) (A:=A) (k:=n) (c:=c) (s:=s) (y:=y) (B:=B) (k' :=n') (c' :=c') (t:=t) ad z.o
 have aw:=yl (x:=x) (A:=A) (k:=n) (c:=c) (s:=s) (y:=y) (B:=B) (k' :=n') (c' :=c') (t:=t) af z.o
 have aF:=ye (g:=r) (x:=x) (A:=A) (k:=n) (c:=c) (s:=s) (y:=y) (B:=B) (k' :=n') (c' :=c') (t:=t) C.o (Nat.le_of_eq ak.o.symm)
 have aq:=Chg.ratSet (w:=w2) (g:=r) (x:=x) (A:=A) (k:=n) (c:=c) (s:=s) (y:=y) (B:=B) (k' :=n') (c' :=c') (t:=t)
 have ar:zO w2 r:=z.o.noDig (Yg _ _ _ _ _ _ _ _ _ _)
 have aE:=l.o.chg aq (fun e=>by have:=aJ.o;have:=ak.o;omega) (fun b e=>by subst e;exact ar)
 have oo:=zF (x:=x) (A:=A) (k:=n) (c:=c) (s:=s) (y:=y) (B:=B) (k' :=n') (c' :=c') (t:=t) (show bO≠r by have h1:bO<w.heap.size:=aG.o;have:=ak.o;omega) o1
 replace z:=ze ap
 replace C:=ze aF
 replace l:=ze aE
 have N:Hid (zV (World.rat w2 r x A n c s y B n' c' t) (.agg #[.int .i64 x,.slice A n c,.bool s,.int .i64 y,.slice B n' c',.bool t]) (-q)):=⟨_,_,_,_,_,_,_,_,_,_,rfl,aC,aw⟩
 clear ap aC aw aF aq ar aE q0 q1 q2 Q q4 X f0 f1 f2 f3 f4 f5 o1 ad af
 skip
 obtain ⟨W3,ab⟩:=uQ (World.rat w2 r x A n c s y B n' c' t)
 rw [<- ab] at z C l N oo
 replace ab:W3=(((((w2.setCell ⟨r,0,none⟩ (.int .i64 x)).setCell ⟨r,1,none⟩ (.slice A n c)).setCell ⟨r,2,none⟩ (.bool s)).setCell ⟨r,3,none⟩ (.int .i64 y)).setCell ⟨r,4,none⟩ (.slice B n' c')).setCell ⟨r,5,none⟩ (.bool t):=ab
 rw [<- ab]
 clear ab
 have o0:=oo
 have oL:=World.block_lt_of_cell? W3 _ o0
 obtain ⟨ax,aA,an,ac,aK,ay,aB,aH,aI,at',a0,a1,a2,a3,a4,a5,ha⟩:=l.o.2 k al.o
 have E:=l.o.lt;obtain ⟨q0,q1,q2,Q,q4,X,G⟩:=bq6 z
 have HA:=ze ha
 clear ha oo
 have aj:∀ w',Hid (Below W3.heap.size W3 w')->w'.cell? ⟨bO,0,none⟩=some (.slice (some ⟨g,0,none⟩) F.nn F.nn)/\w'.cell? ⟨g,k*6,none⟩=some (.int .i64 ax)/\w'.cell? ⟨g,k*6+1,none⟩=some (.slice aA an ac)/\w'.cell? ⟨g,k*6+2,none⟩=some (.bool aK)/\w'.cell? ⟨g,k*6+3,none⟩=some (.int .i64 ay)/\w'.cell? ⟨g,k*6+4,none⟩=some (.slice aB aH aI)/\w'.cell? ⟨g,k*6+5,none⟩=some (.bool at')/\w'.cell? ⟨r,0,none⟩=some (.int .i64 x)/\w'.cell? ⟨r,1,none⟩=some (.slice A n c)/\w'.cell? ⟨r,2,none⟩=some (.bool s)/\w'.cell? ⟨r,3,none⟩=some (.int .i64 y)/\w'.cell? ⟨r,4,none⟩=some (.slice B n' c')/\w'.cell? ⟨r,5,none⟩=some (.bool t):=fun w' hB=>⟨zl hB oL o0,zl hB E a0,zl hB E a1,zl hB E a2,zl hB E a3,zl hB E a4,zl hB E a5,zl hB G q0,zl hB G q1,zl hB G q2,zl hB G Q,zl hB G q4,zl hB G X⟩
 refine y8 aj 9 2 11 (zv W3) fun I=>?_
 simp only [xDR]
 iterate 9 refine zH ?_
 refine zB ?_
 refine rK 9 fun K hK=>?_
 go_simp
 go_at_call 26
 refine (vM _ _ _ _ _ (HA.o.below I.1.out) (N.o.below I.1.out) au.o az.o.neg).mono ?_
 rintro e w5 ⟨v1,rfl,hv,D⟩
 have ai:=ze hv
 clear hv
 refine hK.out _ _ (zm (zp D I.1) (aj _)) ?_
 clear hK K I
 intro I
 try simp only [Act.put,xST]
 clear D
 refine tK 10 ?_
 have ag:=(I.1).out
 replace l:=ze (yH.below l.o ag)
 replace C:=eb_ C ag
 clear ag I aj
 refine hdn ?_
 simp only [xDR]
 clear HA N a0 a1 a2 a3 a4 a5 q0 q1 q2 Q q4 X oL E G o0 z au az
 obtain ⟨x,A,n,c,s,y,B,n',c',t,rfl,ad,af⟩:=ai.o
 obtain ⟨u0,u1,u2,u3,u4,u5,s0,M,s2,s3,s4,s5⟩:=l.o.slots al.o
 have f0:=l.o.frozen (k*6)
 have f1:=l.o.frozen (k*6+1)
 have f2:=l.o.frozen (k*6+2)
 have f3:=l.o.frozen (k*6+3)
 have f4:=l.o.frozen (k*6+4)
 have f5:=l.o.frozen (k*6+5)
 have ao:=Y4 (w:=w5) (g:=g) (k:=k) (x:=x) (s:=s) (A:=A) (n:=n) (c:=c) (y:=y) (t:=t) (B:=B) (n' :=n') (c' :=c')
 have aM:Hid (yH (World.ratAt w5 g k x A n c s y B n' c' t) g F.nn F.nn (fun j=>if j=k then f j+ -q else f j)):=l.o.set al.o ai.o (fun j hj=>by
  by_cases e:j=k
  . exact .inl ⟨e,by subst e;rw [if_pos rfl]⟩
  exact .inr ⟨e,hj,by rw [if_neg e]⟩)
 have aN:Hid (Chg (· =g) w (World.ratAt w5 g k x A n c s y B n' c' t)):=(Chg.of_below C.o).trans ao (fun _ _ h=>h)
 clear l C ai ao ad af
 go_wp2
 go_end0
 exact ⟨rfl,aM.o,aN.o⟩
def zff (T:zk) (nn c:Nat):Nat->Nat->Rat
 | 0=>fun _=>0
 | i+1=>fun j=>if T.basic i<2*nn/\j=T.basic i / 2 then zff T nn c i j+(if T.basic i % 2=0 then Rat.divInt (T.cell i c) T.den else -(Rat.divInt (T.cell i c) T.den)) else zff T nn c i j
def VJ (T:zk) (nn m c:Nat) (j:Nat):Rat:=if 0<c/\T.other (c - 1)<2*nn/\j=T.other (c - 1) / 2 then zff T nn c m j+(if T.other (c - 1) % 2=0 then 1 else -1) else zff T nn c m j
def zqi (nn u:Nat) (q:Rat) (f:Nat->Rat) (j:Nat):Rat:=if u<2*nn/\j=u / 2 then f j+(if u % 2=0 then q else -q) else f j
theorem zkr (base m L:Nat) (F:zG) (T:zk) (bT bO g u:Nat) (f:Nat->Rat) (vx:Value) (q:Rat) (w:World) (hT:zI base m L F w T) (hb:w.cell? ⟨bT,0,none⟩=some (.pointer (some ⟨F.gt,0,none⟩))) (ho:w.cell? ⟨bO,0,none⟩=some (.slice (some ⟨g,0,none⟩) F.nn F.nn))
 (hr:yH w g F.nn F.nn f) (hx:zV w vx q) (hu:u<=1000000) (hnn:F.nn<=100000) (hl1:∀ k,k<F.nn->xJ 8388608 (f k)) (hl2:xJ 8388608 q):
 Calls prog 82 #[.int .i64 (u:Nat),vx,.pointer (some ⟨bT,0,none⟩),.pointer (some ⟨bO,0,none⟩)] w (zal g F.nn (zqi F.nn u q f) w):=by
 by_cases h:u<2*F.nn
 rotate_left
 . have l:zqi F.nn u q f=f:=by funext j;unfold zqi;rw [if_neg (fun h2=>h h2.1)]
   rw [l];exact zpr base m L F T bT bO g u f vx q w hT hb hr hx (by omega) hu
 by_cases e:u % 2=0
 . have:=zph base m L F T bT bO g (u / 2) u f vx q w hT hb ho hr hx (by omega) (by omega) hnn (hl1 _ (by omega)) hl2
   have l:zqi F.nn u q f=fun j=>if j=u / 2 then f j+q else f j:=by
    funext j
    unfold zqi
    by_cases b:j=u / 2
    . rw [if_pos ⟨h,b⟩,if_pos e,if_pos b]
    rw [if_neg (fun h=>b h.2),if_neg b]
   rw [l];exact this
 have:=zq1 base m L F T bT bO g (u / 2) u f vx q w hT hb ho hr hx (by omega) (by omega) hnn (hl1 _ (by omega)) hl2
 have l:zqi F.nn u q f=fun j=>if j=u / 2 then f j+ -q else f j:=by
  funext j
  unfold zqi
  by_cases b:j=u / 2
  . rw [if_pos ⟨h,b⟩,if_neg e,if_pos b]
  rw [if_neg (fun h=>b h.2),if_neg b]
 rw [l];exact this
theorem zI.basics0 {base m L:Nat} {F:zG} {w:World} {T:zk} (h:zI base m L F w T):∃ (A:Option Addr) (c:Nat),F.bv= .slice A m c/\(0<m->∃ gb,A=some ⟨gb,0,none⟩/\gb<w.heap.size/\∀ i,i<m->w.cell? ⟨gb,i,none⟩=some (.int .i64 (T.basic i:Nat))):=by
 rcases uN m with b | b
 . subst b
   rcases h.bas.1.2 with ⟨e,_⟩ | ⟨g,y,u,e,_⟩
   . exact ⟨_,_,e,fun h=>by omega⟩
   . exact ⟨_,_,e,fun h=>by omega⟩
 . obtain ⟨gb,r,eb,j,l⟩:=h.basics b
   exact ⟨_,_,eb,fun _=>⟨gb,rfl,j,l⟩⟩
def VgA (w0:World) (n g bT bO gt:Nat) (iv:Value) (wr:World):Prop:=
 ∃ i:Nat,i<=n/\iv= .int .i64 i/\Hid (yH wr g n i (fun _=>0))/\Hid (Blk wr bT 88 #[.pointer (some ⟨gt,0,none⟩)])/\Hid (Blk wr bO 61 #[.slice (some ⟨g,0,none⟩) n n])/\Hid (Below w0.heap.size w0 wr)
def VgB (w0:World) (m n g bT bO gt col:Nat) (T:zk) (iv:Value) (wr:World):Prop:=
 ∃ i:Nat,i<=m/\iv= .int .i64 i/\Hid (yH wr g n n (zff T n col i))/\Hid (Blk wr bT 88 #[.pointer (some ⟨gt,0,none⟩)])/\Hid (Blk wr bO 61 #[.slice (some ⟨g,0,none⟩) n n])/\Hid (Below w0.heap.size w0 wr)
theorem Xb (base m L col:Nat) (F:zG) (T:zk) (w:World) (hT:zI base m L F w T) (hf:T.Fits m L) (hm:m<=100000) (hL:L<=100000) (ai:col<L)
 (hb:∀ i,i<m->T.basic i<=1000000) (ho:∀ k,k<L - 1->T.other k<=1000000) (hl:∀ i j,i<=m->j<F.nn->xJ 8388608 (zff T F.nn col i j)) (hv:∀ i,i<m->xJ 8388608 (Rat.divInt (T.cell i col) T.den)):
 Calls prog 38 #[.pointer (some ⟨F.gt,0,none⟩),.int .i64 (col:Nat)] w (zs1 F.nn (VJ T F.nn m col) w):=by
 have aq:F.nn<=100000:=by have:=hT.cols;omega
 have aU:=fun w=>zgw .i64 F.nn aq w
 have am:=zf w (.cells #[.pointer (some ⟨F.gt,0,none⟩)] 88)
 have b:=ze (Blk.new w 88 #[.pointer (some ⟨F.gt,0,none⟩)])
 obtain ⟨ad,HF,HB,HL,HV,aV,al,u⟩:=hz8 hT hf hb hl hv ho ai am
 have c2:=(hT.below am).cell2
 clear hT hf hb hl hv am ho ai
 go_in
 go_upto_region 1 with fail
 generalize w.alloc (.cells #[.pointer (some ⟨F.gt,0,none⟩)] 88)=I at b u c2 |-
 have aT:Hid (w.heap.size<=w.heap.size):=uA
 generalize aJ:w.heap.size=bT at b |-
 have a4:Hid (w.heap.size<=bT):=Nat.le_of_eq aJ
 clear aJ aT;have b0:=(bq1 b).1
 go_upto_region 2 with fail
 have hx:=ext (zf I (.cells (xT F.nn) 60)) (zf _ (.cells #[.slice (some ⟨I.heap.size,0,none⟩) F.nn F.nn] 61))
 have aC:=(zkc I F.nn (fun _=>0)).below (zf _ (.cells #[.slice (some ⟨I.heap.size,0,none⟩) F.nn F.nn] 61))
 have ao:=Blk.new (I.alloc (.cells (xT F.nn) 60)) 61 #[.slice (some ⟨I.heap.size,0,none⟩) F.nn F.nn]
 simp only [World.size_alloc] at ao
 have l:=ze aC
 have r:=ze ao
 replace b:=kb_ b hx
 have HG:Hid (w.heap.size<=I.heap.size):=u.o.size
 replace u:=eb_ u hx
 clear hx aC ao aU c2 b0
 generalize (I.alloc (.cells (xT F.nn) 60)).alloc (.cells #[.slice (some ⟨I.heap.size,0,none⟩) F.nn F.nn] 61)=W3 at l r b u |-
 generalize aY:I.heap.size+1=bO at r |-
 have ak:Hid (I.heap.size≠bO):=by show _≠_;omega
 clear aY
 generalize I.heap.size=g at l r HG ak |-
 have E:=(bq1 r).1
 go_wp2_with fail
 clear E
 go_loopw [18] (VgA w F.nn g bT bO F.gt) (fun iv _=>F.nn - (intOf iv).toNat)
 case atStart=>exact ⟨0,uB,rfl,l,b,r,u⟩
 case round=>
  clear l b r u
  obtain ⟨i,hi,rfl,l,b,r,u⟩:=hrel
  by_cases aI:i<F.nn
  . have a3:(i:Int)<(F.nn:Int):=by omega
    have E:=(bq1 r).1;have N:=r.o.lt
    go_upto_region 5 with fail
    have J:∀ w',Hid (Below wr.heap.size wr w')->w'.cell? ⟨bO,0,none⟩=some (.slice (some ⟨g,0,none⟩) F.nn F.nn):=fun w' hB=>zl hB N E
    refine y8 J 2 2 4 (zv wr) fun z=>?_;simp only [xDR]
    iterate 2 refine zH ?_
    refine zB ?_;refine rK 2 fun K M=>?_
    go_simp
    go_at_call 54;refine (ZN 0 _ (by omega) (by omega)).mono ?_;rintro e G ⟨v,rfl,V,O⟩;have R:=ze V;clear V;refine M.out _ _ (zm (zp O z.1) (J _)) ?_;clear M K z;intro z
    try simp only [Act.put,xST]
    clear O;refine tK 3 ?_;clear E N;have D:=(z.1).out
    try clear t0 U E N
    replace l:=ze (yH.below l.o D);replace b:=kb_ b D;replace r:=kb_ r D;replace u:=eb_ u D;clear D z J;refine hdn ?_;simp only [xDR];obtain ⟨t0,U⟩:=zwx b.o;obtain ⟨E,N⟩:=zwx r.o;clear t0 U E N;obtain ⟨x,A,k,c,s,y,B,k',c',t,rfl,aR,aX⟩:=R.o;obtain ⟨u0,u1,u2,u3,u4,u5,s0,s1,s2,s3,s4,s5⟩:=l.o.slots aI;have f0:=l.o.frozen (i*6);have f1:=l.o.frozen (i*6+1);have f2:=l.o.frozen (i*6+2);have f3:=l.o.frozen (i*6+3);have f4:=l.o.frozen (i*6+4);have f5:=l.o.frozen (i*6+5);have aj:=Y4 (w:=G) (g:=g) (k:=i) (x:=x) (s:=s) (A:=A) (n:=k) (c:=c) (y:=y) (t:=t) (B:=B) (n' :=k') (c' :=c')
    have ay:Hid (yH (World.ratAt G g i x A k c s y B k' c' t) g F.nn (i+1) (fun _=>0)):=l.o.set aI R.o (fun j hj=>by
     by_cases e:j=i
     . exact .inl ⟨e,rfl⟩
     exact .inr ⟨e,by omega,rfl⟩)
    have S:∀ t cs,Blk G bT t cs->t≠60->¬ bT=g:=fun t cs h hne e=>by
     subst e;obtain ⟨av,k1⟩:=l.o.heap;exact xp h k1 hne rfl
    have aE:=ze (aj.blk b.o (S _ _ b.o (by decide)));have aB:=ze (aj.blk r.o (by have:=ak.o;omega));have au:=ze (Xk u.o aj HG.o);clear l b r u aj aR aX R S;go_wp2;go_roundw
    case rel=>first | exact ⟨i+1,by omega,by go_num,ay,aE,aB,au⟩ | ((repeat apply Exists.intro);exact ⟨⟨i+1,by omega,by go_num,ay,aE,aB,au⟩,rfl⟩)
    case measure=>simp [intOf];omega
  obtain rfl:F.nn=i:=by omega
  skip
  have b0:=(bq1 b).1;obtain ⟨bA,cb,az,X⟩:=ad.o.basics0;have t7:=(ad.o.below u.o).cell7;rw [az] at t7;have aP:=ze X;clear X az;go_wp2_with fail;clear b0 t7
  go_loopw [32] (VgB w m F.nn g bT bO F.gt col T) (fun iv _=>m - (intOf iv).toNat)
  case atStart=>exact ⟨0,uB,rfl,l,b,r,u⟩
  case round=>
   clear l b r u;obtain ⟨i,hi,rfl,l,b,r,u⟩:=hrel
   by_cases ap:i<m
   . have a3:(i:Int)<(m:Int):=by omega
     have a5:(i:Int)<(m:Int)+1:=by omega
     have C:=ze (ad.o.below u.o);obtain ⟨gb,aS,aK,X⟩:=aP.o (by omega);subst aS;have p1:=(u.o.cell (p:=⟨gb,i,none⟩) aK).trans (X i ap);have ai:=al.o;have a6:(col:Int)<(L:Int):=by omega
     clear X aK;have h2:=ad.o.lt2;have t0:=(bq1 b).1;have t3:=C.o.cell3;have t4:=C.o.mat.cell (i:=i) (by omega);obtain ⟨ax,aA,an,ac,ag,a0,a1,a2,ha⟩:=C.o.mat.at_ (i:=i) (k:=col) (by omega) ai;have aQ:0<L:=by omega
     have bL:=b.o.lt;have U:=C.o.lt;have mL:=C.o.mat.lt.2;have aL:=(C.o.mat.rows i (by omega)).2.lt;have HA:=ze ha;have aM:=ze (HF.o.cell i col (by omega) ai);have ar:Hid (T.den≠0):=by have:=HF.o.den;show _≠_;omega
     clear ha
     go_upto_region 11 with fail
     clear p1;have ab:=b;clear b;have J:∀ w',Hid (Below wr.heap.size wr w')->w'.cell? ⟨bT,0,none⟩=some (.pointer (some ⟨F.gt,0,none⟩))/\w'.cell? ⟨F.gt,3,none⟩=some (.slice (some ⟨F.gm,0,none⟩) (m+1) F.cm)/\w'.cell? ⟨F.gm,i,none⟩=some (.slice (some ⟨F.g i,0,none⟩) L L)/\w'.cell? ⟨F.g i,col*3,none⟩=some (.int .i64 ax)/\w'.cell? ⟨F.g i,col*3+1,none⟩=some (.slice aA an ac)/\w'.cell? ⟨F.g i,col*3+2,none⟩=some (.bool ag):=fun w' hB=>⟨zl hB bL t0,zl hB U t3,zl hB mL t4,zl hB aL a0,zl hB aL a1,zl hB aL a2⟩
     refine y8 J 13 1 14 (zv wr) fun z=>?_;simp only [xDR]
     iterate 13 refine zH ?_
     refine zB ?_;refine rK 13 fun K M=>?_
     go_simp
     go_at_call 84;refine (zjs base m L F T _ _ _ (C.o.below z.1.out) (HA.o.below z.1.out) (aM.o.le2 (by omega)) HF.o.fden ar.o).mono ?_;rintro e G ⟨v,rfl,V,O⟩;have R:=ze V;clear V;have b:=ze (ab.o.below (ext z.1.out O) ab.o.lt);refine M.out _ _ (zm (zp O z.1) (J _)) ?_;clear M K z;intro z
     try simp only [Act.put,xST]
     clear O;have D:=(z.1).out
     try clear E N
     replace l:=ze (yH.below l.o D);replace r:=kb_ r D;replace u:=eb_ u D;replace C:=ze (zI.below C.o D);clear D z J;refine hdn ?_;simp only [xDR];obtain ⟨E,N⟩:=zwx r.o;clear aQ t0 t3 t4 a0 a1 a2 bL U mL aL HA aM ar h2 N E;have ae:=(bq1 b).1;have Y:=(bq1 r).1
     have ah:Calls prog 82 #[.int .i64 (T.basic i:Nat),v,.pointer (some ⟨bT,0,none⟩),.pointer (some ⟨bO,0,none⟩)] G (zal g F.nn (zff T F.nn col (i+1)) G):=
      zkr base m L F T bT bO g (T.basic i) (zff T F.nn col i) v _ G C.o ae Y l.o R.o (HB.o i ap) aq (fun k hk=>HL.o i k (by omega) hk) (HV.o i ap)
     have af:=ze ah;clear ae Y ah R
     have S:∀ t cs,Blk G bT t cs->t≠60->¬ bT=g:=fun t cs h hne e=>by
      subst e;obtain ⟨av,k1⟩:=l.o.heap;exact xp h k1 hne rfl
     have aa:=ze (S _ _ b.o (by decide));clear S l C;go_wp2_with fail;refine af.o.mono ?_;rintro e w2 ⟨rfl,Z,Q⟩;have l:=ze Z;replace b:=ze (Q.blk b.o aa.o);replace r:=ze (Q.blk r.o (by have:=ak.o;omega));replace u:=ze (Xk u.o Q HG.o);clear Z Q af aa;go_wp2;go_roundw
     case rel=>first | exact ⟨i+1,by omega,by go_num,l,b,r,u⟩ | ((repeat apply Exists.intro);exact ⟨⟨i+1,by omega,by go_num,l,b,r,u⟩,rfl⟩)
     case measure=>simp [intOf];omega
   obtain rfl:m=i:=by omega
   have E:=(bq1 r).1
   by_cases aW:col=0
   . have aZ:Hid (VJ T F.nn m col=zff T F.nn col m):=by
      show _=_
      funext j
      unfold VJ;rw [if_neg (fun h=>by omega)]
     subst aW;go_wp2;go_ret;exact ⟨g,rfl,by rw [aZ.out];exact l.o,u.o⟩
   have aN:(0:Int)<(col:Int):=by omega
   have d9:decide ((col:Int)>0)=true:=uE aN;obtain ⟨K,M⟩:∃ K,col=K+1:=⟨col - 1,by omega⟩;have eK:IntKind.i64.wrap ((col:Int) - 1)=(K:Int):=by have:=al.o;rw [IntKind.wrap_i64];omega
   have a8:(K:Int)<((L - 1:Nat):Int):=by have:=al.o;omega
   have a7:(0:Int)<=(K:Int):=by omega
   have aD:Hid (K<L - 1):=by have:=al.o;show _<_;omega
   have C:=ze (ad.o.below u.o);have t0:=(bq1 b).1;have bL:=b.o.lt;have U:=C.o.lt;obtain ⟨go,co,eo,aH,aF⟩:=C.o.others;have t8:=C.o.cell8;rw [eo] at t8;have o1:=aF K aD.o;have HK:=ze M
   have aw:VJ T F.nn m col=zqi F.nn (T.other K) ((1:Int):Rat) (zff T F.nn col m):=by
    funext j
    unfold VJ zqi;rw [show col - 1=K by omega];have h1:((1:Int):Rat)=1:=rfl;rw [h1]
    by_cases h:T.other K<2*F.nn/\j=T.other K / 2
    . rw [if_pos h,if_pos ⟨by omega,h⟩]
    rw [if_neg h,if_neg (fun h2=>h h2.2)]
   have aO:=ze aw;clear aF eo M aw aN
   go_upto_region 14 with fail
   clear E;have ab:=b;clear b;have J:∀ w',Hid (Below wr.heap.size wr w')->w'.cell? ⟨bT,0,none⟩=some (.pointer (some ⟨F.gt,0,none⟩))/\w'.cell? ⟨F.gt,8,none⟩=some (.slice (some ⟨go,0,none⟩) (L - 1) co)/\w'.cell? ⟨go,K,none⟩=some (.int .i64 (T.other K:Nat)):=fun w' hB=>⟨zl hB bL t0,zl hB U t8,zl hB aH o1⟩
   refine y8 J 9 1 10 (zv wr) fun z=>?_;simp only [xDR]
   iterate 9 refine zH ?_
   refine zB ?_;refine rK 9 fun K M=>?_
   go_simp
   go_at_call 54;refine (ZN 1 _ (by omega) (by omega)).mono ?_;rintro e G ⟨v,rfl,V,O⟩;have R:=ze V;clear V;have b:=ze (ab.o.below (ext z.1.out O) ab.o.lt);refine M.out _ _ (zm (zp O z.1) (J _)) ?_;clear M K z;intro z
   try simp only [Act.put,xST]
   clear O;have D:=(z.1).out
   try clear E N
   replace l:=ze (yH.below l.o D);replace r:=kb_ r D;replace u:=eb_ u D;replace C:=ze (zI.below C.o D);clear D z J;refine hdn ?_;simp only [xDR];obtain ⟨E,N⟩:=zwx r.o;clear t0 t8 o1 bL U aH;have ae:=(bq1 b).1;have Y:=(bq1 r).1;have aG:xJ 8388608 ((1:Int):Rat):=xJ.more (xJ.of_dz (Dz.one 0)) (by omega)
   have ah:Calls prog 82 #[.int .i64 (T.other K:Nat),v,.pointer (some ⟨bT,0,none⟩),.pointer (some ⟨bO,0,none⟩)] G (zal g F.nn (VJ T F.nn m col) G):=by
    rw [aO.o];exact zkr base m L F T bT bO g (T.other K) (zff T F.nn col m) v _ G C.o ae Y l.o R.o (aV.o K aD.o) aq (fun k hk=>HL.o m k (uA) hk) aG
   have af:=ze ah;clear ae Y ah R aG
   have S:∀ t cs,Blk G bT t cs->t≠60->¬ bT=g:=fun t cs h hne e=>by
    subst e;obtain ⟨av,k1⟩:=l.o.heap;exact xp h k1 hne rfl
   have aa:=ze (S _ _ b.o (by decide));clear S l C;go_wp2_with fail;refine af.o.mono ?_;rintro e w2 ⟨rfl,Z,Q⟩;have l:=ze Z;replace b:=ze (Q.blk b.o aa.o);replace r:=ze (Q.blk r.o (by have:=ak.o;omega));replace u:=ze (Xk u.o Q HG.o);clear Z Q af aa;have E:=(bq1 r).1;go_wp2;go_ret;exact ⟨g,rfl,l.o,u.o⟩
end Go.Proofs.YtobdoblpnanclaaGreatDoor
