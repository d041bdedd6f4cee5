/- Parts of the proof. -/
import Derived.Deep.CutRange
import Derived.Test.YtofmkndhocinmaaGreatDoorMs18
set_option linter.all false
set_option maxRecDepth 100000
set_option maxHeartbeats 32000000
namespace Go.Proofs.YtofmkndhocinmaaGreatDoor
open Proofs.Tryz Go.RowKit Go.Deep
attribute [local go_sem ↓] Go.wp_at_zero Go.wp_at_succ
theorem Fit.le2 {z:Int} (h:Fit z) {M:Nat} (hM:8388608<=M):len 4294967296 z.natAbs<=M:=uC h hM
theorem Fit.neg {z:Int} (h:Fit z):Fit (-z):=by unfold Fit;rw [Int.natAbs_neg];exact h
theorem YD {a b:Int} (ha:Fit a) (hb:Fit b) {M:Nat} (hM:16777216<=M):len 4294967296 (a*b).natAbs<=M:=uC (Zc (M:=8388608) (K:=8388608) ha hb) hM
theorem za4 (x y:Int):(x<y/\yj x y= -1)\/(x=y/\yj x y=0)\/(y<x/\yj x y=1):=by
 unfold yj
 rcases Int.lt_trichotomy x y with h | h | h
 . exact .inl ⟨h,by rw [if_pos h]⟩
 . exact .inr (.inl ⟨h,by rw [if_neg (by omega),if_neg (by omega)]⟩)
 . exact .inr (.inr ⟨h,by rw [if_neg (by omega),if_pos h]⟩)
theorem zdl {z:Int}:(yj z 0 ≥ 0)↔0<=z:=by
 rcases za4 z 0 with h | h | h<;>omega
def zhh:Option Nat->Int
 | none=> -1
 | some j=>(j:Int)
section
variable {T:y8} {room c n j:Nat}
theorem y8.leave_pos (h:0<=T.cell n c):T.leave room c (n+1)=T.leave room c n:=by
 show (if _ then _ else _)=_
 rw [if_pos h]
theorem y8.leave_none (h:¬ 0<=T.cell n c) (hn:T.leave room c n=none):T.leave room c (n+1)=some n:=by
 show (if _ then _ else match T.leave room c n with | none=>_ | some j=>_)=_
 rw [if_neg h,hn]
theorem y8.leave_yes (h:¬ 0<=T.cell n c) (hn:T.leave room c n=some j) (ha:T.ahead room c n j):T.leave room c (n+1)=some n:=by
 show (if _ then _ else match T.leave room c n with | none=>_ | some j=>_)=_
 rw [if_neg h,hn]
 exact if_pos ha
theorem y8.leave_no (h:¬ 0<=T.cell n c) (hn:T.leave room c n=some j) (ha:¬ T.ahead room c n j):T.leave room c (n+1)=some j:=by
 show (if _ then _ else match T.leave room c n with | none=>_ | some j=>_)=_
 rw [if_neg h,hn]
 exact if_neg ha
end
theorem zdf (base m L:Nat) (F:zN) (T:y8) (w:World) (hT:zX base m L F w T) (hm:m<=100000) (hL:L<=100000):
 Calls prog 76 #[.pointer (some ⟨F.gt,0,none⟩)] w (zij w (.int .i64 ((2*F.nn+m:Nat):Int))):=by
 have j:=hT.cell1
 have e:=hT.cell2
 have b:=hT.cols
 have r:IntKind.i64.wrap (2*(F.nn:Int))=2*(F.nn:Int):=by rw [IntKind.wrap_i64];omega
 have l:IntKind.i64.wrap (2*(F.nn:Int)+(m:Int))=2*(F.nn:Int)+(m:Int):=by rw [IntKind.wrap_i64];omega
 clear hT b
 go_in
 go_upto_region 1 with fail
 go_region
 go_wp2
 go_ret
 exact ⟨by push_cast;rfl,(zw w).out⟩
def LvR (w0:World) (base m L:Nat) (F:zN) (T:y8) (c:Nat) (bv iv:Value) (wr:World):Prop:=
 ∃ i:Nat,i<=m/\iv= .int .i64 (i:Nat)/\bv= .int .i64 (zhh (T.leave (2*F.nn+m) c i))/\Hid (zX base m L F wr T)/\Hid (Below w0.heap.size w0 wr)
theorem Vk (base m L:Nat) (F:zN) (T:y8) (c:Nat) (w:World) (hT:zX base m L F w T) (hf:T.Fits m L) (hc:c<L) (hm:m<=100000) (hL:L<=100000):
 Calls prog 116 #[.pointer (some ⟨F.gt,0,none⟩),.int .i64 c] w (zij w (.int .i64 (zhh (T.leave (2*F.nn+m) c m)))):=by
 have t1:=hT.cell1
 have l:=ze hT
 have HF:=ze hf
 have av:=ze hT.lt2
 have aF:0<L:=by have:=av.o;omega
 have aG:(c:Int)<(L:Int):=by omega
 have aC:(0:Int)<(L:Int):=by omega
 have U:=ze (fun w' (h:zX base m L F w' T)=>zdf base m L F T w' h hm hL)
 obtain ⟨C,R⟩:∃ C:Nat,Hid (2*F.nn+m=C):=⟨_,rfl⟩
 rw [R.o] at U |-
 have u:=ze (vG w)
 clear hT hf
 go_in
 go_wp2
 go_loopw [5,15] (LvR w base m L F T c) (fun _ iv _=>m - (intOf iv).toNat)
 case atStart=>exact ⟨0,uB,rfl,rfl,l,u⟩
 case round=>
  clear l u t1
  obtain ⟨i,hi,rfl,rfl,l,u⟩:=hrel
  rw [R.o]
  by_cases aw:i<m
  rotate_left
  . obtain rfl:m=i:=by omega
    go_wp2;go_ret;exact ⟨by go_num,u.o⟩
  have aH:(i:Int)<(m:Int):=by omega
  have aD:(i:Int)<(m:Int)+1:=by omega
  have t3:=l.o.cell3;have t4:=l.o.mat.cell (i:=i) (by omega);obtain ⟨ax,aA,an,ac,ag,a0,a1,a2,ha⟩:=l.o.mat.at_ (i:=i) (k:=c) (by omega) hc;obtain ⟨sg,ak⟩:∃ sg:Int,yj (T.cell i c) 0=sg:=⟨_,rfl⟩;have ae:=zdl (z:=T.cell i c);have af:=YH _ _ wr ha;rw [ak] at ae af;have aa:=ze af;clear ak ha af
  by_cases hp:0<=T.cell i c
  . have d1:decide (sg ≥ 0)=true:=uE (ae.2 hp)
    have I:Hid (T.leave C c (i+1)=T.leave C c i):=T.leave_pos hp;clear ae hp;go_wp2_with fail;refine aa.o.mono ?_;rintro e w1 ⟨rfl,Q⟩;replace l:=ze (l.o.below Q);replace u:=eb_ u Q;clear Q aa t3 t4 a0 a1 a2;go_wp2;go_roundw
    case rel=>exact ⟨i+1,by omega,by go_num,by rw [R.o,I.o],l,u⟩
    case measure=>simp [intOf];omega
  have d1:decide (sg ≥ 0)=false:=uF (fun h=>hp (ae.1 h))
  have Z:Hid (T.cell i c<0):=Int.not_le.1 hp;clear ae hp
  cases hlv:T.leave C c i with
  | none=>
    have I:Hid (T.leave C c (i+1)=some i):=T.leave_none (Int.not_le.2 Z.o) hlv;have d2:decide (zhh none<0)=true:=by decide
    have d3:zhh none= -1:=rfl;clear hlv;go_wp2_with fail;refine aa.o.mono ?_;rintro e w1 ⟨rfl,Q⟩;replace l:=ze (l.o.below Q);replace u:=eb_ u Q;clear Q aa t3 t4 a0 a1 a2;go_wp2;go_roundw
    case rel=>exact ⟨i+1,by omega,by go_num,(by rw [R.o,I.o];rfl),l,u⟩
    case measure=>simp [intOf];omega
  | some j=>
    have ay:=T.leave_lt C c i j hlv;have aE:(j:Int)<(m:Int)+1:=by omega
    have aB:(0:Int)<=(j:Int):=by omega
    have d2:decide ((j:Int)<0)=false:=by rw [decide_eq_false_iff_not];omega
    have d3:zhh (some j)=(j:Int):=rfl;have ad:=ze hlv;clear hlv;rw [d3];go_wp2_with fail;refine aa.o.mono ?_;rintro e w1 ⟨rfl,Q⟩;replace l:=ze (l.o.below Q);replace u:=eb_ u Q;clear Q aa t3 t4 a0 a1 a2 d3;have t3:=l.o.cell3;have t4:=l.o.mat.cell (i:=j) (by omega)
    skip
    go_upto_region 10 with fail
    clear t3 t4;obtain ⟨ax,aA,an,ac,ag,a0,a1,a2,ha⟩:=l.o.mat.at_ (i:=i) (k:=c) (by omega) hc;obtain ⟨bx,bA,bn,bc,bg,b0,b1,b2,au⟩:=l.o.mat.at_ (i:=j) (k:=c) (by omega) hc;obtain ⟨cx,cA,cn,cc,cg,c0,c1,c2,ah⟩:=l.o.mat.at_ (i:=i) (k:=0) (by omega) (by omega);obtain ⟨ex,eA,en,ec,eg,e0,e1,e2,ar⟩:=l.o.mat.at_ (i:=j) (k:=0) (by omega) (by omega);simp only [Nat.zero_mul,Nat.zero_add] at c0 c1 c2 e0 e1 e2;have V:=(l.o.mat.rows i (by omega)).2.lt;have Y:=(l.o.mat.rows j (by omega)).2.lt;obtain ⟨HA,ap,aj,ai⟩:=hz4 ha au ah ar;have N1:=ze (HF.o.cell i c (by omega) hc);have N2:=ze (HF.o.cell j c (by omega) hc);have N3:=ze (HF.o.cell i 0 (by omega) (by omega));have N4:=ze (HF.o.cell j 0 (by omega) (by omega));clear ha au ah ar
    have y:∀ w',Hid (Below w1.heap.size w1 w')->w'.cell? ⟨F.g i,c*3,none⟩=some (.int .i64 ax)/\w'.cell? ⟨F.g i,c*3+1,none⟩=some (.slice aA an ac)/\w'.cell? ⟨F.g i,c*3+2,none⟩=some (.bool ag)/\w'.cell? ⟨F.g j,c*3,none⟩=some (.int .i64 bx)/\w'.cell? ⟨F.g j,c*3+1,none⟩=some (.slice bA bn bc)/\w'.cell? ⟨F.g j,c*3+2,none⟩=some (.bool bg)/\w'.cell? ⟨F.g i,0,none⟩=some (.int .i64 cx)/\w'.cell? ⟨F.g i,1,none⟩=some (.slice cA cn cc)/\w'.cell? ⟨F.g i,2,none⟩=some (.bool cg)/\w'.cell? ⟨F.g j,0,none⟩=some (.int .i64 ex)/\w'.cell? ⟨F.g j,1,none⟩=some (.slice eA en ec)/\w'.cell? ⟨F.g j,2,none⟩=some (.bool eg):=fun w' hB=>⟨zk hB V a0,zk hB V a1,zk hB V a2,zk hB Y b0,zk hB Y b1,zk hB Y b2,zk hB V c0,zk hB V c1,zk hB V c2,zk hB Y e0,zk hB Y e1,zk hB Y e2⟩
    refine xb y 7 12 19 (zw w1) fun b=>?_;simp only [xDR]
    iterate 7 refine zP ?_
    refine zD ?_;refine tK 9 ?_;refine tK 10 ?_;refine tK 11 ?_;refine tK 12 ?_;refine tK 13 ?_;refine tK 14 ?_;refine tK 15 ?_;refine rK 7 fun K hK=>?_
    go_simp
    go_at_call 81;refine (yK _ _ _ (ap.o.below b.1.out)).mono ?_;rintro e w2 ⟨v1,rfl,O,r⟩;have am:=ze O;clear O;refine hK.out _ _ (zl (zo r b.1) (y _)) ?_;clear hK K b;intro b
    try simp only [Act.put,xST]
    clear r;refine rK 8 fun K hK=>?_
    go_simp
    go_at_call 66;refine (xi _ _ _ _ _ (aj.o.below b.1.out) am.o (N3.o.le2 (by omega)) (N2.o.neg.le2 (by omega))).mono ?_;rintro e w3 ⟨v2,rfl,O,r⟩;have ab:=ze O;clear O am;refine hK.out _ _ (zl (zo r b.1) (y _)) ?_;clear hK K b;intro b
    try simp only [Act.put,xST]
    clear r;refine rK 16 fun K hK=>?_
    go_simp
    go_at_call 81;refine (yK _ _ _ (HA.o.below b.1.out)).mono ?_;rintro e w4 ⟨v3,rfl,O,r⟩;have ao:=ze O;replace ab:=ze (ab.o.below r);clear O;refine hK.out _ _ (zl (zo r b.1) (y _)) ?_;clear hK K b;intro b
    try simp only [Act.put,xST]
    clear r;refine rK 17 fun K hK=>?_
    go_simp
    go_at_call 66;refine (xi _ _ _ _ _ (ai.o.below b.1.out) ao.o (N4.o.le2 (by omega)) (N1.o.neg.le2 (by omega))).mono ?_;rintro e w5 ⟨v4,rfl,O,r⟩;have aq:=ze O;replace ab:=ze (ab.o.below r);clear O ao;refine hK.out _ _ (zl (zo r b.1) (y _)) ?_;clear hK K b;intro b
    try simp only [Act.put,xST]
    clear r;refine rK 18 fun K hK=>?_
    go_simp
    go_at_call 65;refine (zeh _ _ _ _ _ ab.o aq.o (YD N3.o N2.o.neg (by omega)) (YD N4.o N1.o.neg (by omega))).mono ?_;rintro e E ⟨rfl,r⟩;refine hK.out _ _ (zl (zo r b.1) (y _)) ?_;clear hK K b;intro b
    try simp only [Act.put,xST]
    clear r ab aq;have B:=(b.1).out;replace l:=ze (zX.below l.o B);replace u:=eb_ u B;clear B b y;refine hdn ?_;simp only [xDR];clear HA ap aj ai N1 N2 N3 N4 a0 a1 a2 b0 b1 b2 c0 c1 c2 e0 e1 e2 V Y;obtain ⟨cv,al⟩:∃ cv:Int,yj (T.cell i 0* -(T.cell j c)) (T.cell j 0* -(T.cell i c))=cv:=⟨_,rfl⟩;have J:=za4 (T.cell i 0* -(T.cell j c)) (T.cell j 0* -(T.cell i c));rw [al] at J |-;clear al
    go_upto_region 11 with fail
    skip
    have N:=l.o.lt;obtain ⟨D,cb,eb,G,S⟩:=l.o.basics (by omega);have M:=l.o.cell7;rw [eb] at M;have o1:=S i aw;have o2:=S j (by omega);have az:(j:Int)<(m:Int):=by omega
    rcases J with ⟨J,rfl⟩ | ⟨J,rfl⟩ | ⟨J,rfl⟩
    . have I:Hid (T.leave C c (i+1)=some i):=T.leave_yes (Int.not_le.2 Z.o) ad.o (.inl J)
      clear J;have y:∀ w',Hid (Below E.heap.size E w')->w'.cell? ⟨F.gt,7,none⟩=some (.slice (some ⟨D,0,none⟩) m cb)/\w'.cell? ⟨D,i,none⟩=some (.int .i64 (T.basic i:Nat))/\w'.cell? ⟨D,j,none⟩=some (.int .i64 (T.basic j:Nat)):=fun w' hB=>⟨zk hB N M,zk hB G o1,zk hB G o2⟩
      refine xb y 3 43 46 (zw E) fun b=>?_;simp only [xDR]
      iterate 3 refine zP ?_
      refine zD ?_;refine sK 3 ?_;refine sK 4 ?_;refine sK 5 ?_;refine sK 6 ?_;refine sK 7 ?_;refine sK 8 ?_;refine sK 9 ?_;refine sK 10 ?_;refine sK 11 ?_;refine sK 12 ?_;refine sK 13 ?_;refine sK 14 ?_;refine sK 15 ?_;refine sK 16 ?_;refine sK 17 ?_;refine sK 18 ?_;refine sK 19 ?_;refine sK 20 ?_;refine sK 21 ?_;refine sK 22 ?_;refine sK 23 ?_;refine sK 24 ?_;refine sK 25 ?_;refine sK 26 ?_;refine sK 27 ?_;refine sK 28 ?_;refine sK 29 ?_;refine sK 30 ?_;refine sK 31 ?_;refine sK 32 ?_;refine sK 33 ?_;refine sK 34 ?_;refine sK 35 ?_;refine sK 36 ?_;refine sK 37 ?_;refine sK 38 ?_;refine sK 39 ?_;refine sK 40 ?_;refine sK 41 ?_;refine sK 42 ?_;refine sK 43 ?_;refine sK 44 ?_;refine sK 45 ?_;have B:=(b.1).out;replace l:=ze (zX.below l.o B);replace u:=eb_ u B;clear B b y;refine hdn ?_;simp only [xDR];clear M o1 o2 N G S;go_wp2;go_roundw
      case rel=>exact ⟨i+1,by omega,by go_num,(by rw [R.o,I.o];rfl),l,u⟩
      case measure=>simp [intOf];omega
    . by_cases X:T.basic i=C
      . have I:Hid (T.leave C c (i+1)=some i):=T.leave_yes (Int.not_le.2 Z.o) ad.o (.inr ⟨J,.inl X⟩)
        have d4:((T.basic i:Int) == (C:Int))=true:=by rw [beq_iff_eq];omega
        clear J X;have y:∀ w',Hid (Below E.heap.size E w')->w'.cell? ⟨F.gt,7,none⟩=some (.slice (some ⟨D,0,none⟩) m cb)/\w'.cell? ⟨D,i,none⟩=some (.int .i64 (T.basic i:Nat))/\w'.cell? ⟨D,j,none⟩=some (.int .i64 (T.basic j:Nat)):=fun w' hB=>⟨zk hB N M,zk hB G o1,zk hB G o2⟩
        refine xb y 3 43 46 (zw E) fun b=>?_;simp only [xDR]
        iterate 3 refine zP ?_
        refine zD ?_;refine tK 3 ?_;refine tK 4 ?_;refine tK 5 ?_;refine tK 6 ?_;refine tK 7 ?_;refine tK 8 ?_;refine tK 9 ?_;refine tK 10 ?_;refine tK 11 ?_;refine tK 12 ?_;refine tK 13 ?_;refine rK 14 fun K hK=>?_;rw [if_pos (by rfl)]
        go_simp
        go_at_call 76;refine (U.o _ (l.o.below b.1.out)).mono ?_;rintro e w7 ⟨rfl,r⟩;refine hK.out _ _ (zl (zo r b.1) (y _)) ?_;clear hK K b;intro b
        try simp only [Act.put,xST]
        clear r;refine tK 15 ?_;refine tK 16 ?_;refine sK 17 ?_;refine sK 18 ?_;refine sK 19 ?_;refine sK 20 ?_;refine sK 21 ?_;refine sK 22 ?_;refine sK 23 ?_;refine sK 24 ?_;refine sK 25 ?_;refine sK 26 ?_;refine sK 27 ?_;refine sK 28 ?_;refine sK 29 ?_;refine sK 30 ?_;refine sK 31 ?_;refine sK 32 ?_;refine sK 33 ?_;refine sK 34 ?_;refine sK 35 ?_;refine sK 36 ?_;refine sK 37 ?_;refine sK 38 ?_;refine sK 39 ?_;refine sK 40 ?_;refine sK 41 ?_;refine sK 42 ?_;refine sK 43 ?_;refine tK 44 ?_;refine tK 45 ?_;have B:=(b.1).out;replace l:=ze (zX.below l.o B);replace u:=eb_ u B;clear B b y;refine hdn ?_;simp only [xDR];clear M o1 o2 N G S;go_wp2;go_roundw
        case rel=>exact ⟨i+1,by omega,by go_num,(by rw [R.o,I.o];rfl),l,u⟩
        case measure=>simp [intOf];omega
      have d4:((T.basic i:Int) == (C:Int))=false:=by rw [beq_eq_false_iff_ne];omega
      by_cases h4:T.basic j=C
      . have I:Hid (T.leave C c (i+1)=some j):=T.leave_no (Int.not_le.2 Z.o) ad.o (fun h=>by
         rcases h with h | ⟨_,h | ⟨h,_⟩⟩
         . omega
         . exact X h
         . exact h h4)
        have d5:((T.basic j:Int) != (C:Int))=false:=by rw [bne_eq_false_iff_eq];omega
        clear J X h4;have y:∀ w',Hid (Below E.heap.size E w')->w'.cell? ⟨F.gt,7,none⟩=some (.slice (some ⟨D,0,none⟩) m cb)/\w'.cell? ⟨D,i,none⟩=some (.int .i64 (T.basic i:Nat))/\w'.cell? ⟨D,j,none⟩=some (.int .i64 (T.basic j:Nat)):=fun w' hB=>⟨zk hB N M,zk hB G o1,zk hB G o2⟩
        refine xb y 3 43 46 (zw E) fun b=>?_;simp only [xDR]
        iterate 3 refine zP ?_
        refine zD ?_;refine tK 3 ?_;refine tK 4 ?_;refine tK 5 ?_;refine tK 6 ?_;refine tK 7 ?_;refine tK 8 ?_;refine tK 9 ?_;refine tK 10 ?_;refine tK 11 ?_;refine tK 12 ?_;refine tK 13 ?_;refine rK 14 fun K hK=>?_;rw [if_pos (by rfl)]
        go_simp
        go_at_call 76;refine (U.o _ (l.o.below b.1.out)).mono ?_;rintro e w7 ⟨rfl,r⟩;refine hK.out _ _ (zl (zo r b.1) (y _)) ?_;clear hK K b;intro b
        try simp only [Act.put,xST]
        clear r;refine tK 15 ?_;refine tK 16 ?_;refine tK 17 ?_;refine tK 18 ?_;refine tK 19 ?_;refine tK 20 ?_;refine tK 21 ?_;refine tK 22 ?_;refine tK 23 ?_;refine tK 24 ?_;refine rK 25 fun K hK=>?_;rw [if_pos (by rfl)]
        go_simp
        go_at_call 76;refine (U.o _ (l.o.below b.1.out)).mono ?_;rintro e w8 ⟨rfl,r⟩;refine hK.out _ _ (zl (zo r b.1) (y _)) ?_;clear hK K b;intro b
        try simp only [Act.put,xST]
        clear r;refine tK 26 ?_;refine tK 27 ?_;refine sK 28 ?_;refine sK 29 ?_;refine sK 30 ?_;refine sK 31 ?_;refine sK 32 ?_;refine sK 33 ?_;refine sK 34 ?_;refine sK 35 ?_;refine sK 36 ?_;refine sK 37 ?_;refine sK 38 ?_;refine sK 39 ?_;refine sK 40 ?_;refine sK 41 ?_;refine sK 42 ?_;refine tK 43 ?_;refine tK 44 ?_;refine tK 45 ?_;have B:=(b.1).out;replace l:=ze (zX.below l.o B);replace u:=eb_ u B;clear B b y;refine hdn ?_;simp only [xDR];clear M o1 o2 N G S;go_wp2;go_roundw
        case rel=>exact ⟨i+1,by omega,by go_num,(by rw [R.o,I.o];rfl),l,u⟩
        case measure=>simp [intOf];omega
      have d5:((T.basic j:Int) != (C:Int))=true:=by rw [bne_iff_ne];omega
      by_cases h5:T.basic i<T.basic j
      . have I:Hid (T.leave C c (i+1)=some i):=T.leave_yes (Int.not_le.2 Z.o) ad.o (.inr ⟨J,.inr ⟨h4,h5⟩⟩)
        have d6:decide ((T.basic i:Int)<(T.basic j:Int))=true:=by rw [decide_eq_true_iff];omega
        have d7:decide (T.basic i<T.basic j)=true:=uE h5;clear J X h4;have y:∀ w',Hid (Below E.heap.size E w')->w'.cell? ⟨F.gt,7,none⟩=some (.slice (some ⟨D,0,none⟩) m cb)/\w'.cell? ⟨D,i,none⟩=some (.int .i64 (T.basic i:Nat))/\w'.cell? ⟨D,j,none⟩=some (.int .i64 (T.basic j:Nat)):=fun w' hB=>⟨zk hB N M,zk hB G o1,zk hB G o2⟩
        refine xb y 3 43 46 (zw E) fun b=>?_;simp only [xDR]
        iterate 3 refine zP ?_
        refine zD ?_;refine tK 3 ?_;refine tK 4 ?_;refine tK 5 ?_;refine tK 6 ?_;refine tK 7 ?_;refine tK 8 ?_;refine tK 9 ?_;refine tK 10 ?_;refine tK 11 ?_;refine tK 12 ?_;refine tK 13 ?_;refine rK 14 fun K hK=>?_;rw [if_pos (by rfl)]
        go_simp
        go_at_call 76;refine (U.o _ (l.o.below b.1.out)).mono ?_;rintro e w7 ⟨rfl,r⟩;refine hK.out _ _ (zl (zo r b.1) (y _)) ?_;clear hK K b;intro b
        try simp only [Act.put,xST]
        clear r;refine tK 15 ?_;refine tK 16 ?_;refine tK 17 ?_;refine tK 18 ?_;refine tK 19 ?_;refine tK 20 ?_;refine tK 21 ?_;refine tK 22 ?_;refine tK 23 ?_;refine tK 24 ?_;refine rK 25 fun K hK=>?_;rw [if_pos (by rfl)]
        go_simp
        go_at_call 76;refine (U.o _ (l.o.below b.1.out)).mono ?_;rintro e w8 ⟨rfl,r⟩;refine hK.out _ _ (zl (zo r b.1) (y _)) ?_;clear hK K b;intro b
        try simp only [Act.put,xST]
        clear r;refine tK 26 ?_;refine tK 27 ?_;refine tK 28 ?_;refine tK 29 ?_;refine tK 30 ?_;refine tK 31 ?_;refine tK 32 ?_;refine tK 33 ?_;refine tK 34 ?_;refine tK 35 ?_;refine tK 36 ?_;refine tK 37 ?_;refine tK 38 ?_;refine tK 39 ?_;refine tK 40 ?_;refine tK 41 ?_;refine tK 42 ?_;refine tK 43 ?_;refine tK 44 ?_;refine tK 45 ?_;have B:=(b.1).out;replace l:=ze (zX.below l.o B);replace u:=eb_ u B;clear B b y;refine hdn ?_;simp only [xDR];clear M o1 o2 N G S;go_wp2;go_roundw
        case rel=>exact ⟨i+1,by omega,by go_num,(by rw [R.o,I.o];rfl),l,u⟩
        case measure=>simp [intOf];omega
      have I:Hid (T.leave C c (i+1)=some j):=T.leave_no (Int.not_le.2 Z.o) ad.o (fun h=>by
       rcases h with h | ⟨_,h | ⟨_,h⟩⟩
       . omega
       . exact X h
       . exact h5 h)
      have d6:decide ((T.basic i:Int)<(T.basic j:Int))=false:=by rw [decide_eq_false_iff_not];omega
      have d7:decide (T.basic i<T.basic j)=false:=uF h5;clear J X h4;have y:∀ w',Hid (Below E.heap.size E w')->w'.cell? ⟨F.gt,7,none⟩=some (.slice (some ⟨D,0,none⟩) m cb)/\w'.cell? ⟨D,i,none⟩=some (.int .i64 (T.basic i:Nat))/\w'.cell? ⟨D,j,none⟩=some (.int .i64 (T.basic j:Nat)):=fun w' hB=>⟨zk hB N M,zk hB G o1,zk hB G o2⟩
      refine xb y 3 43 46 (zw E) fun b=>?_;simp only [xDR]
      iterate 3 refine zP ?_
      refine zD ?_;refine tK 3 ?_;refine tK 4 ?_;refine tK 5 ?_;refine tK 6 ?_;refine tK 7 ?_;refine tK 8 ?_;refine tK 9 ?_;refine tK 10 ?_;refine tK 11 ?_;refine tK 12 ?_;refine tK 13 ?_;refine rK 14 fun K hK=>?_;rw [if_pos (by rfl)]
      go_simp
      go_at_call 76;refine (U.o _ (l.o.below b.1.out)).mono ?_;rintro e w7 ⟨rfl,r⟩;refine hK.out _ _ (zl (zo r b.1) (y _)) ?_;clear hK K b;intro b
      try simp only [Act.put,xST]
      clear r;refine tK 15 ?_;refine tK 16 ?_;refine tK 17 ?_;refine tK 18 ?_;refine tK 19 ?_;refine tK 20 ?_;refine tK 21 ?_;refine tK 22 ?_;refine tK 23 ?_;refine tK 24 ?_;refine rK 25 fun K hK=>?_;rw [if_pos (by rfl)]
      go_simp
      go_at_call 76;refine (U.o _ (l.o.below b.1.out)).mono ?_;rintro e w8 ⟨rfl,r⟩;refine hK.out _ _ (zl (zo r b.1) (y _)) ?_;clear hK K b;intro b
      try simp only [Act.put,xST]
      clear r;refine tK 26 ?_;refine tK 27 ?_;refine tK 28 ?_;refine tK 29 ?_;refine tK 30 ?_;refine tK 31 ?_;refine tK 32 ?_;refine tK 33 ?_;refine tK 34 ?_;refine tK 35 ?_;refine tK 36 ?_;refine tK 37 ?_;refine tK 38 ?_;refine tK 39 ?_;refine tK 40 ?_;refine tK 41 ?_;refine tK 42 ?_;refine tK 43 ?_;refine tK 44 ?_;refine tK 45 ?_;have B:=(b.1).out;replace l:=ze (zX.below l.o B);replace u:=eb_ u B;clear B b y;refine hdn ?_;simp only [xDR];clear M o1 o2 N G S;go_wp2;go_roundw
      case rel=>exact ⟨i+1,by omega,by go_num,(by rw [R.o,I.o];rfl),l,u⟩
      case measure=>simp [intOf];omega
    . have I:Hid (T.leave C c (i+1)=some j):=T.leave_no (Int.not_le.2 Z.o) ad.o (fun h=>by
       rcases h with h | ⟨h,_⟩<;>omega)
      clear J;have y:∀ w',Hid (Below E.heap.size E w')->w'.cell? ⟨F.gt,7,none⟩=some (.slice (some ⟨D,0,none⟩) m cb)/\w'.cell? ⟨D,i,none⟩=some (.int .i64 (T.basic i:Nat))/\w'.cell? ⟨D,j,none⟩=some (.int .i64 (T.basic j:Nat)):=fun w' hB=>⟨zk hB N M,zk hB G o1,zk hB G o2⟩
      refine xb y 3 43 46 (zw E) fun b=>?_;simp only [xDR]
      iterate 3 refine zP ?_
      refine zD ?_;refine tK 3 ?_;refine tK 4 ?_;refine tK 5 ?_;refine sK 6 ?_;refine sK 7 ?_;refine sK 8 ?_;refine sK 9 ?_;refine sK 10 ?_;refine sK 11 ?_;refine sK 12 ?_;refine sK 13 ?_;refine sK 14 ?_;refine sK 15 ?_;refine sK 16 ?_;refine sK 17 ?_;refine sK 18 ?_;refine sK 19 ?_;refine sK 20 ?_;refine sK 21 ?_;refine sK 22 ?_;refine sK 23 ?_;refine sK 24 ?_;refine sK 25 ?_;refine sK 26 ?_;refine sK 27 ?_;refine sK 28 ?_;refine sK 29 ?_;refine sK 30 ?_;refine sK 31 ?_;refine sK 32 ?_;refine sK 33 ?_;refine sK 34 ?_;refine sK 35 ?_;refine sK 36 ?_;refine sK 37 ?_;refine sK 38 ?_;refine sK 39 ?_;refine sK 40 ?_;refine sK 41 ?_;refine sK 42 ?_;refine sK 43 ?_;refine sK 44 ?_;refine tK 45 ?_;have B:=(b.1).out;replace l:=ze (zX.below l.o B);replace u:=eb_ u B;clear B b y;refine hdn ?_;simp only [xDR];clear M o1 o2 N G S;go_wp2;go_roundw
      case rel=>exact ⟨i+1,by omega,by go_num,(by rw [R.o,I.o];rfl),l,u⟩
      case measure=>simp [intOf];omega
def wtN (T:y8) (nn m:Nat) (sc:Nat->Int) (b:Int):Nat->Nat->Rat
 | 0=>fun _=>0
 | n+1=>fun i=>if T.other n=2*nn+i then Rat.divInt (-(T.cell m (n+1))*sc i) (T.den*b) else wtN T nn m sc b n i
def Vl (w:World) (g n:Nat) (f:Nat->Int):Prop:=g<w.heap.size/\∀ k,k<n->zcz w g k (f k)
theorem Vl.below {w w' :World} {g n:Nat} {f:Nat->Int} (h:Vl w g n f) (hb:Below w.heap.size w w'):Vl w' g n f:=⟨uK h.1 hb.size,fun k hk=>(h.2 k hk).below hb⟩
theorem XM {w w1 w2:World} {g:Nat} (h:Below w.heap.size w w1) (hc:Chg (· =g) w1 w2) (hg:w.heap.size<=g):Below w.heap.size w w2:=h.trans (hc.below h.size (fun b e=>by omega))
def zq4 (m:Nat) (f:Nat->Rat) (w:World) (e:Ending) (w' :World):Prop:=∃ g,e= .returned (.slice (some ⟨g,0,none⟩) m m)/\yX w' g m m f/\Below w.heap.size w w'
def WtA (w0:World) (m g gb:Nat) (z:Int) (iv:Value) (wr:World):Prop:=
 ∃ i:Nat,i<=m/\iv= .int .i64 i/\Hid (yX wr g m i (fun _=>0))/\Hid (ZD wr gb z)/\Hid (Below w0.heap.size w0 wr)
def WtB (w0:World) (m L g gb nn:Nat) (T:y8) (sc:Nat->Int) (z:Int) (kv:Value) (wr:World):Prop:=
 ∃ k:Nat,k<=L - 1/\kv= .int .i64 k/\Hid (yX wr g m m (wtN T nn m sc z k))/\Hid (ZD wr gb z)/\Hid (Below w0.heap.size w0 wr)
theorem zee (base m L:Nat) (F:zN) (T:y8) (gs cs:Nat) (sc:Nat->Int) (vn:Value) (z:Int) (w:World) (hT:zX base m L F w T) (hs:Vl w gs m sc) (hn:zM w vn z) (hf:T.Fits m L) (hz:Fit z) (hz0:z≠0)
 (hsc:∀ i,i<m->Fit (sc i)) (hm:m<=100000) (hL:L<=100000) (ho:∀ k,k<L - 1->T.other k<=1000000):
 Calls prog 73 #[.pointer (some ⟨F.gt,0,none⟩),.slice (some ⟨gs,0,none⟩) m cs,vn] w (zq4 m (wtN T F.nn m sc z (L - 1)) w):=by
 obtain ⟨x2,A2,k2,c2,s2,rfl,_,_,_⟩:=hn.form
 obtain ⟨J,ak⟩:∃ x,x=w.alloc (.cells #[.int .i64 x2,.slice A2 k2 c2,.bool s2] 60):=⟨_,rfl⟩
 have M:=zf w (.cells #[.int .i64 x2,.slice A2 k2 c2,.bool s2] 60)
 have am:=Blk.new w 60 #[.int .i64 x2,.slice A2 k2 c2,.bool s2]
 rw [<- ak] at M am
 have u:Hid (ZD J w.heap.size z):=⟨_,_,_,_,_,am,hn.below M⟩
 obtain ⟨r,Q,aJ,HF,HZ,aQ,aO,HO⟩:=hz8 M hT hs hf hz hz0 hsc ho
 clear hn M am hT hs hf hz hz0 hsc ho
 go_in
 go_upto_region 1 with fail
 rw [<- ak]
 clear ak
 have aK:=ze (Nat.le_refl w.heap.size)
 generalize aC:w.heap.size=gv at u |-
 have aR:Hid (w.heap.size<=gv):=Nat.le_of_eq aC
 clear aC aK
 have Y:=(Q.o.below r.o).cell1
 have aN:=fun w=>zfg .i64 m hm w
 go_upto_region 2 with fail
 have M:=zf J (.cells (vf m) 62)
 have l:Hid (yX (J.alloc (.cells (vf m) 62)) J.heap.size m 0 (fun _=>0)):=zis J m _
 have U:Hid (w.heap.size<=J.heap.size/\gv<J.heap.size):=⟨r.o.size,u.o.lt⟩
 replace u:=ze (u.o.below M)
 replace r:=eb_ r M
 clear M aN Y
 generalize J.alloc (.cells (vf m) 62)=W1 at u r l |-
 generalize J.heap.size=g at l U |-
 go_wp2
 go_loopw [21] (WtA w m g gv z) (fun iv _=>m - (intOf iv).toNat)
 case atStart=>exact ⟨0,uB,rfl,l,u,r⟩
 case round=>
  clear l u r
  obtain ⟨i,hi,rfl,l,u,r⟩:=hrel
  by_cases aH:i<m
  . have aP:(i:Int)<(m:Int):=by omega
    go_wp2_with fail;refine (Ze 0 _ (by omega) (by omega)).mono ?_;rintro e w1 ⟨v,rfl,⟨x,A,k,c,s,y,B,k',c',t,rfl,aa,ab⟩,af⟩;replace l:=ze (l.o.below af);replace u:=ze (u.o.below af);replace r:=eb_ r af;obtain ⟨u0,u1,u2,u3,u4,u5,s0,s1,s2,s3,s4,s5⟩:=l.o.slots aH;have f0:=l.o.frozen (i*6);have f1:=l.o.frozen (i*6+1);have f2:=l.o.frozen (i*6+2);have f3:=l.o.frozen (i*6+3);have f4:=l.o.frozen (i*6+4);have f5:=l.o.frozen (i*6+5);have hq:zE w1 (.agg #[.int .i64 x,.slice A k c,.bool s,.int .i64 y,.slice B k' c',.bool t]) 0:=⟨_,_,_,_,_,_,_,_,_,_,rfl,aa,ab⟩;have O:=Xf (w:=w1) (g:=g) (k:=i) (x:=x) (s:=s) (A:=A) (n:=k) (c:=c) (y:=y) (t:=t) (B:=B) (n' :=k') (c' :=c')
    have N:Hid (yX (World.ratAt w1 g i x A k c s y B k' c' t) g m (i+1) (fun _=>0)):=l.o.set aH hq (fun j hj=>by
     by_cases e:j=i
     . exact .inl ⟨e,rfl⟩
     exact .inr ⟨e,by omega,rfl⟩)
    have X:=ze (u.o.chg O (by have:=U.o.2;omega) (fun b e=>by subst e;exact l.o.noDig));have S:=ze (XM r.o O U.o.1);clear l u r hq O aa ab af;go_wp2;go_roundw
    case rel=>first | exact ⟨i+1,by omega,by go_num,N,X,S⟩ | ((repeat apply Exists.intro);exact ⟨⟨i+1,by omega,by go_num,N,X,S⟩,rfl⟩)
    case measure=>simp [intOf];omega
  obtain rfl:m=i:=by omega
  skip
  obtain ⟨go,co,eo,aG,aD⟩:=Q.o.others;have aM:=ze (fun wr (h:Below w.heap.size w wr) k (hk:k<L - 1)=>(h.cell (p:=⟨go,k,none⟩) aG).trans (aD k hk));have I:=ze (Q.o.below r.o);have Y:=I.o.cell1;have t3:=I.o.cell3;have t4:=I.o.mat.cell (i:=m) (by omega);have aT:(m:Int)<(m:Int)+1:=by omega
  clear aG aD
  go_upto_region 7 with fail
  go_region
  replace l:=ze (l.o.below (zw _).out);replace u:=ze (u.o.below (zw _).out);replace r:=ze (ext r.o (zw _).out);clear Y t3 t4 I;generalize wr.drew=W3 at l u r |-;have t8:=(Q.o.below r.o).cell8;rw [eo] at t8;have aV:IntKind.i64.wrap (2*(F.nn:Int))=2*(F.nn:Int):=by have:=Q.o.cols;rw [IntKind.wrap_i64];omega
  have aY:F.nn<=100000:=by have:=Q.o.cols;omega
  go_wp2
  go_loopw [45] (WtB w m L g gv F.nn T sc z) (fun kv _=>L - 1 - (intOf kv).toNat)
  case atStart=>exact ⟨0,uB,rfl,l,u,r⟩
  case round=>
   clear l u r t8;obtain ⟨k,hk,rfl,l,u,r⟩:=hrel
   by_cases aE:k<L - 1
   rotate_left
   . obtain rfl:k=L - 1:=by omega
     go_wp2;go_ret;exact ⟨g,rfl,l.o,r.o⟩
   have aS:(k:Int)<((L - 1:Nat):Int):=by omega
   have I:=ze (Q.o.below r.o);have o1:=aM.o _ r.o k aE;have t2:=I.o.cell2;have Y:=I.o.cell1;have ai:=HO.o k aE;have aw:IntKind.i64.wrap ((T.other k:Int) - 2*(F.nn:Int))=(T.other k:Int) - 2*(F.nn:Int):=by rw [IntKind.wrap_i64];omega
   by_cases ao:2*F.nn<=T.other k/\T.other k<2*F.nn+m
   rotate_left
   . obtain ⟨d,hd⟩:∃ d:Int,(T.other k:Int) - 2*(F.nn:Int)=d:=⟨_,rfl⟩
     have N:Hid (yX wr g m m (wtN T F.nn m sc z (k+1))):=l.o.fewer (fun j hj=>⟨hj,by
      show (if T.other k=2*F.nn+j then _ else _)=_
      rw [if_neg (by omega)]⟩)
     rw [hd] at aw;clear l
     by_cases h0:d ≥ 0
     . have d1:decide (d ≥ 0)=true:=uE h0
       have d2:decide (d<(m:Int))=false:=uF (by omega);clear ao ai h0;go_wp2;go_roundw
       case rel=>exact ⟨k+1,by omega,by go_num,N,u,r⟩
       case measure=>simp [intOf];omega
     have d1:decide (d ≥ 0)=false:=uF h0
     clear ao ai h0;go_wp2;go_roundw
     case rel=>exact ⟨k+1,by omega,by go_num,N,u,r⟩
     case measure=>simp [intOf];omega
   obtain ⟨i,hi⟩:=uQ (T.other k - 2*F.nn)
   have ei:(T.other k:Int) - 2*(F.nn:Int)=(i:Int):=by omega
   have ad:i<m:=by omega
   have HI:Hid (T.other k=2*F.nn+i):=by show T.other k=_;omega
   have d1:decide ((i:Int) ≥ 0)=true:=by rw [decide_eq_true_iff];omega
   have d2:decide ((i:Int)<(m:Int))=true:=by rw [decide_eq_true_iff];omega
   have aP:(i:Int)<(m:Int):=by omega
   rw [ei] at aw;obtain ⟨K,D⟩:=uQ (k+1);have eK:(k:Int)+1=(K:Int):=by omega
   have aX:(K:Int)<(L:Int):=by omega
   have aW:IntKind.i64.wrap (K:Int)=(K:Int):=by rw [IntKind.wrap_i64];omega
   have aU:(0:Int)<=(K:Int):=by omega
   have av:K<L:=by omega
   have HK:=ze D;clear hi ao ai D
   go_upto_region 13 with fail
   obtain ⟨ax,aA,an,ac,ag,a0,a1,a2,ha⟩:=I.o.mat.at_ (i:=m) (k:=K) (by omega) av;have ah:=aJ.o.below r.o;obtain ⟨bx,bA,bn,bc,bg,b0,b1,b2,aI⟩:=ah.2 i ad;obtain ⟨dx,dA,dn,dc,dg,V,aB⟩:=I.o.blk;have d4:wr.cell? ⟨F.gt,4,none⟩=some (.int .i64 dx):=by rw [V.cell];rfl
   have d5:wr.cell? ⟨F.gt,5,none⟩=some (.slice dA dn dc):=by rw [V.cell];rfl
   have d6:wr.cell? ⟨F.gt,6,none⟩=some (.bool dg):=by rw [V.cell];rfl
   obtain ⟨vx,vA,vn,vc,vg,aj,aF⟩:=u.o;obtain ⟨q0,q1,q2,_⟩:=bp3 aj;have tL:=V.lt;have aL:=(I.o.mat.rows m (by omega)).2.lt;have bL:=ah.1;have vL:=aj.lt;obtain ⟨HA,az,aq,ap⟩:=hz4 ha aI aB aF;have N1:=ze (HF.o.cell m K (uA) av);have N2:=ze (aO.o i ad);have ar:Hid (T.den*z≠0):=by have:=HF.o.den;exact Int.mul_ne_zero (by omega) aQ.o
   clear ha aI aB aF V aj ah Y t2 o1;have R:∀ w',Hid (Below wr.heap.size wr w')->w'.cell? ⟨F.g m,K*3,none⟩=some (.int .i64 ax)/\w'.cell? ⟨F.g m,K*3+1,none⟩=some (.slice aA an ac)/\w'.cell? ⟨F.g m,K*3+2,none⟩=some (.bool ag)/\w'.cell? ⟨gs,i*3,none⟩=some (.int .i64 bx)/\w'.cell? ⟨gs,i*3+1,none⟩=some (.slice bA bn bc)/\w'.cell? ⟨gs,i*3+2,none⟩=some (.bool bg)/\w'.cell? ⟨F.gt,4,none⟩=some (.int .i64 dx)/\w'.cell? ⟨F.gt,5,none⟩=some (.slice dA dn dc)/\w'.cell? ⟨F.gt,6,none⟩=some (.bool dg)/\w'.cell? ⟨gv,0,none⟩=some (.int .i64 vx)/\w'.cell? ⟨gv,1,none⟩=some (.slice vA vn vc)/\w'.cell? ⟨gv,2,none⟩=some (.bool vg):=fun w' hB=>⟨zk hB aL a0,zk hB aL a1,zk hB aL a2,zk hB bL b0,zk hB bL b1,zk hB bL b2,zk hB tL d4,zk hB tL d5,zk hB tL d6,zk hB vL q0,zk hB vL q1,zk hB vL q2⟩
   refine xb R 7 14 21 (zw wr) fun C=>?_;simp only [xDR]
   iterate 7 refine zP ?_
   refine zD ?_;refine tK 8 ?_;refine tK 9 ?_;refine tK 10 ?_;refine tK 11 ?_;refine tK 13 ?_;refine tK 14 ?_;refine tK 15 ?_;refine tK 16 ?_;refine tK 17 ?_;refine rK 7 fun K D=>?_
   go_simp
   go_at_call 81;refine (yK _ _ _ (HA.o.below C.1.out)).mono ?_;rintro e w2 ⟨v1,rfl,G,E⟩;have au:=ze G;clear G;refine D.out _ _ (zl (zo E C.1) (R _)) ?_;clear D K C;intro C
   try simp only [Act.put,xST]
   clear E;refine rK 12 fun K D=>?_
   go_simp
   go_at_call 66;refine (xi _ _ _ _ _ au.o (az.o.below C.1.out) (N1.o.neg.le2 (by omega)) (N2.o.le2 (by omega))).mono ?_;rintro e w3 ⟨v2,rfl,G,E⟩;have ae:=ze G;clear G au;refine D.out _ _ (zl (zo E C.1) (R _)) ?_;clear D K C;intro C
   try simp only [Act.put,xST]
   clear E;refine rK 18 fun K D=>?_
   go_simp
   go_at_call 66;refine (xi _ _ _ _ _ (aq.o.below C.1.out) (ap.o.below C.1.out) (HF.o.fden.le2 (by omega)) (HZ.o.le2 (by omega))).mono ?_;rintro e w4 ⟨v3,rfl,G,E⟩;have ay:=ze G;replace ae:=ze (ae.o.below E);clear G;refine D.out _ _ (zl (zo E C.1) (R _)) ?_;clear D K C;intro C
   try simp only [Act.put,xST]
   clear E;refine rK 19 fun K D=>?_
   go_simp
   go_at_call 64;refine (ZG _ _ _ _ _ ae.o ay.o ar.o (YD N1.o.neg N2.o (by omega)) (YD HF.o.fden HZ.o (by omega))).mono ?_;rintro e w5 ⟨v4,rfl,G,E⟩;have al:=ze G;clear G ae ay;refine D.out _ _ (zl (zo E C.1) (R _)) ?_;clear D K C;intro C
   try simp only [Act.put,xST]
   clear E;refine tK 20 ?_;have Z:=(C.1).out;replace l:=ze (yX.below l.o Z);replace u:=ze (ZD.below u.o Z);replace r:=eb_ r Z;clear Z C R;refine hdn ?_;simp only [xDR];clear HA az aq ap N1 N2 a0 a1 a2 b0 b1 b2 d4 d5 d6 q0 q1 q2 tL aL bL vL I ar;obtain ⟨x,A,n,c,s,y,B,n',c',t,rfl,aa,ab⟩:=al.o;obtain ⟨u0,u1,u2,u3,u4,u5,s0,s1,s2,s3,s4,s5⟩:=l.o.slots ad;have f0:=l.o.frozen (i*6);have f1:=l.o.frozen (i*6+1);have f2:=l.o.frozen (i*6+2);have f3:=l.o.frozen (i*6+3);have f4:=l.o.frozen (i*6+4);have f5:=l.o.frozen (i*6+5);have O:=Xf (w:=w5) (g:=g) (k:=i) (x:=x) (s:=s) (A:=A) (n:=n) (c:=c) (y:=y) (t:=t) (B:=B) (n' :=n') (c' :=c')
   have N:Hid (yX (World.ratAt w5 g i x A n c s y B n' c' t) g m m (wtN T F.nn m sc z (k+1))):=l.o.set ad al.o (fun j hj=>by
    have hk:=HK.o;subst hk;have hi:=HI.o
    show (j=i/\(if T.other k=2*F.nn+j then _ else _)=_)\/(j≠i/\j<m/\(if T.other k=2*F.nn+j then _ else _)=_)
    by_cases e:j=i
    . exact .inl ⟨e,by subst e;rw [if_pos hi]⟩
    exact .inr ⟨e,hj,by rw [if_neg (by omega)]⟩)
   have X:=ze (u.o.chg O (by have:=U.o.2;omega) (fun b e=>by subst e;exact l.o.noDig));have S:=ze (XM r.o O U.o.1);clear l u r al O aa ab;go_wp2;go_roundw
   case rel=>first | exact ⟨k+1,by omega,by go_num,N,X,S⟩ | ((repeat apply Exists.intro);exact ⟨⟨k+1,by omega,by go_num,N,X,S⟩,rfl⟩)
   case measure=>simp [intOf];omega
def xW (f:Nat->Nat) (u:Int):Nat->Option Nat
 | 0=>none
 | n+1=>match xW f u n with
   | some j=>some j
   | none=>if (f n:Int)=u then some n else none
theorem Xa {f:Nat->Nat} {u:Int}:∀ {n:Nat},(∀ j,j<n->(f j:Int)≠u)->xW f u n=none
 | 0,_=>rfl
 | n+1,h=>by
   unfold xW;rw [Xa (n:=n) (fun j hj=>h j (by omega))];exact if_neg (h n (by omega))
theorem VY {f:Nat->Nat} {u:Int} {i:Nat} (hi:(f i:Int)=u) (hl:∀ j,j<i->(f j:Int)≠u):∀ {n:Nat},i<n->xW f u n=some i
 | 0,h=>by omega
 | n+1,h=>by
   unfold xW
   by_cases e:i=n
   rotate_left
   . rw [VY hi hl (n:=n) (by omega)]
   subst e
   rw [Xa hl];exact if_pos hi
def IxR (w0:World) (f:Nat->Nat) (u:Int) (n:Nat) (iv:Value) (wr:World):Prop:=∃ i:Nat,i<=n/\iv= .int .i64 i/\Hid (∀ j,j<i->(f j:Int)≠u)/\w0=wr
theorem zdc (g n c:Nat) (f:Nat->Nat) (u:Int) (w:World) (hn:n<=1000000) (h:∀ i,i<n->w.cell? ⟨g,i,none⟩=some (.int .i64 (f i:Nat))):
 Calls prog 113 #[.slice (some ⟨g,0,none⟩) n c,.int .i64 u] w (zal w (.int .i64 (zhh (xW f u n)))):=by
 have HH:=ze h
 clear h
 go_in
 go_wp2
 go_loopw [8] (IxR w f u n) (fun iv _=>n - (intOf iv).toNat)
 case atStart=>exact ⟨0,uB,rfl,(fun j hj=>by omega),rfl⟩
 case round=>
  obtain ⟨i,hi,rfl,l,rfl⟩:=hrel
  by_cases r:i<n
  rotate_left
  . obtain rfl:n=i:=by omega
    have m:=ze (Xa (f:=f) (u:=u) l.o);go_wp2;go_ret;exact ⟨by rw [m.o];rfl,rfl⟩
  have z:(i:Int)<(n:Int):=by omega
  have c1:=HH.out i r
  by_cases b:u=(f i:Int)
  . have d1:(u == (f i:Int))=true:=by rw [beq_iff_eq];exact b
    have m:=ze (VY (f:=f) (u:=u) b.symm l.o r);clear b;go_wp2;go_ret;exact ⟨by rw [m.o];rfl,rfl⟩
  have d1:(u == (f i:Int))=false:=by rw [beq_eq_false_iff_ne];exact b
  have y:Hid (∀ j,j<i+1->(f j:Int)≠u):=fun j hj=>by
   by_cases e:j=i
   . subst e;exact fun h=>b h.symm
   exact l.o j (by omega)
  clear b l;go_wp2;go_round
  case rel=>exact ⟨i+1,by omega,by go_num,y,rfl⟩
  case measure=>simp [intOf];omega
theorem zia (base m L:Nat) (F:zN) (T:y8) (vn:Value) (z:Int) (w:World) (hT:zX base m L F w T) (hn:zM w vn z) (hz:len 4294967296 z.natAbs<=33554432) (hd:Fit T.den) (hd0:T.den≠0):
 Calls prog 118 #[.pointer (some ⟨F.gt,0,none⟩),vn] w (VN w (Rat.divInt z T.den)):=by
 obtain ⟨C,E,k2,c2,s2,rfl,_,_,_⟩:=hn.form
 obtain ⟨r,U⟩:∃ x,x=(w.alloc (.cells #[.int .i64 C,.slice E k2 c2,.bool s2] 60)).alloc (.cells #[.int .i64 0,.slice none 0 0,.bool false,.int .i64 0,.slice none 0 0,.bool false] 62):=⟨_,rfl⟩
 have D:=ext (zf w (.cells #[.int .i64 C,.slice E k2 c2,.bool s2] 60)) (zf _ (.cells #[.int .i64 0,.slice none 0 0,.bool false,.int .i64 0,.slice none 0 0,.bool false] 62))
 have J:=(Blk.new w 60 #[.int .i64 C,.slice E k2 c2,.bool s2]).alloc (.cells #[.int .i64 0,.slice none 0 0,.bool false,.int .i64 0,.slice none 0 0,.bool false] 62)
 have I:=Blk.new (w.alloc (.cells #[.int .i64 C,.slice E k2 c2,.bool s2] 60)) 62 #[.int .i64 0,.slice none 0 0,.bool false,.int .i64 0,.slice none 0 0,.bool false]
 simp only [World.size_alloc] at I
 rw [<- U] at D J I
 have HW:=ze D
 have N:=ze (hn.below D)
 have HT:=hT.below D
 have j:=ze I
 obtain ⟨⟨dx,dA,dn,dc,dg,G,ad⟩,_⟩:=HT
 have Q:=ze ad
 have d4:r.cell? ⟨F.gt,4,none⟩=some (.int .i64 dx):=by rw [G.cell];rfl
 have d5:r.cell? ⟨F.gt,5,none⟩=some (.slice dA dn dc):=by rw [G.cell];rfl
 have d6:r.cell? ⟨F.gt,6,none⟩=some (.bool dg):=by rw [G.cell];rfl
 have M:=G.lt;obtain ⟨r0,r1,r2,_⟩:=bp3 J;have O:=J.lt
 obtain ⟨HZ,ai,af⟩:=hz3 hz hd hd0
 clear hn D J I G ad hT hz hd hd0
 go_in
 go_upto_region 1 with fail
 rw [<- U]
 clear U
 have S:∀ w',Hid (Below r.heap.size r w')->w'.cell? ⟨w.heap.size,0,none⟩=some (.int .i64 C)/\w'.cell? ⟨w.heap.size,1,none⟩=some (.slice E k2 c2)/\w'.cell? ⟨w.heap.size,2,none⟩=some (.bool s2)/\w'.cell? ⟨F.gt,4,none⟩=some (.int .i64 dx)/\w'.cell? ⟨F.gt,5,none⟩=some (.slice dA dn dc)/\w'.cell? ⟨F.gt,6,none⟩=some (.bool dg):=fun w' hB=>⟨zk hB O r0,zk hB O r1,zk hB O r2,zk hB M d4,zk hB M d5,zk hB M d6⟩
 refine xb S 5 1 6 (zw r) fun b=>?_
 simp only [xDR]
 iterate 5 refine zP ?_
 refine zD ?_
 refine rK 5 fun K hK=>?_
 go_simp
 go_at_call 64
 refine (ZG _ _ _ _ _ (N.o.below b.1.out) (Q.o.below b.1.out) af.o HZ.o (uC ai.o (by omega))).mono ?_
 rintro e w1 ⟨v,rfl,hv,ac⟩
 have HV:=ze hv
 clear hv
 refine hK.out _ _ (zl (zo ac b.1) (S _)) ?_
 clear hK K b
 intro b
 try simp only [Act.put,xST]
 clear ac
 have u:=(b.1).out
 try clear e0 e1 e2 e3 e4 e5 eL
 replace HW:=eb_ HW u
 replace N:=ze (N.o.below u)
 replace Q:=ze (Q.o.below u)
 replace j:=kb_ j u
 clear u b S
 refine hdn ?_
 simp only [xDR]
 obtain ⟨e0,e1,e2,e3,e4,e5,eL⟩:=bkc6 j.o
 obtain ⟨x,A,k,c,s,y,B,k',c',t,rfl,aa,ab⟩:=HV.o
 obtain ⟨f0,f1,f2,f3,f4,f5⟩:=fq6 j
 have l:=yf (x:=x) (A:=A) (k:=k) (c:=c) (s:=s) (y:=y) (B:=B) (k' :=k') (c' :=c') (t:=t) j.o
 have R:=l.cell 0;have V:=l.cell 1;have q2:=l.cell 2;have X:=l.cell 3;have Z:=l.cell 4;have Y:=l.cell 5
 simp only [World.rat] at R V q2 X Z Y
 simp at R V q2 X Z Y
 have ah:=ze (yk (x:=x) (A:=A) (k:=k) (c:=c) (s:=s) (y:=y) (B:=B) (k' :=k') (c' :=c') (t:=t) aa j.o)
 have ag:=ze (yk (x:=x) (A:=A) (k:=k) (c:=c) (s:=s) (y:=y) (B:=B) (k' :=k') (c' :=c') (t:=t) ab j.o)
 have ae:Hid (Below w.heap.size w (World.rat w1 (w.heap.size+1) x A k c s y B k' c' t)):=yq HW.o (by omega)
 clear aa ab l HV N Q r0 r1 r2 d4 d5 d6 M O
 go_wp2_with fail
 refine bodyPost_ret (v:=.agg #[.int .i64 x,.slice A k c,.bool s,.int .i64 y,.slice B k' c',.bool t]) (by simp [results,results118,go_sem,R,V,q2,X,Z,Y]) rfl ?_
 exact ⟨_,rfl,⟨_,_,_,_,_,_,_,_,_,_,rfl,ah.o,ag.o⟩,ae.o⟩
theorem zX.chgRow {base m L:Nat} {F:zN} {w w' :World} {T:y8} {gl n:Nat} {f:Nat->Int} (h:zX base m L F w T) (hr:xD w gl L n f) (hc:Chg (· =gl) w w') (hne:∀ i,i<=m->F.g i≠gl):zX base m L F w' T:=by
 obtain ⟨⟨x,A,k,c,ng,r,C⟩,y,l,u,z,D,B⟩:=h
 obtain ⟨cs,hb⟩:=hr.heap
 have hS:∀ b,b=gl->zK w b:=fun b e=>by subst e;exact hr.noDig
 have j:∀ e v size k xs,e≠60->vJ w base e size v k xs->∀ b,v.ownBlock=some b->¬ b=gl:=fun e v size k xs he ho b hb2 e2=>by
  obtain ⟨E,k2⟩:=ho.heap hb2
  exact yZ hb k2 (fun e3=>he e3.symm) e2.symm
 exact ⟨⟨x,A,k,c,ng,hc.blk r (yZ r hb (by decide)),hc.num C hS⟩,y.chg hc (fun i hi=>hne i (by omega)) (j _ _ _ _ _ (by decide) y.own) hS,
  l.chg hc (j _ _ _ _ _ (by decide) l),u.chg hc (j _ _ _ _ _ (by decide) u),z,D,B⟩
theorem zo7 {S:Nat->Prop} {w w1 w2:World} (h:Chg S w w1) (hb:Below w1.heap.size w1 w2):Chg S w w2:=h.trans (Chg.of_below (S:=S) hb) (fun _ _ h=>h)
theorem zos {S:Nat->Prop} {w w1 w2:World} (h:Chg S w w1) (hb:Below w1.heap.size w1 w2):Chg S w w2:=h.trans (Chg.of_below (S:=S) hb) (fun _ _ h=>h)
theorem zdt {f:Nat->Nat} {u:Int}:∀ (n i:Nat),xW f u n=some i->i<n:=by
 intro n
 induction n with
 | zero=>intro i h;cases h
 | succ n ih=>
   intro i h;unfold xW at h
   split at h
   . next j hj=>injection h with h;subst h;have:=ih _ hj;omega
   split at h
   . injection h with h;omega
   cases h
def YU (T:y8) (m L:Nat) (u z:Int) (k:Nat):Int:=match xW T.basic u m with
 | some i=>T.cell i k*z
 | none=>if (k:Int)=zhh (xW T.other u (L - 1))+1 then T.den*z else 0
def zux (T:y8) (m L gl:Nat) (f:Nat->Int) (u z:Int) (w:World) (e:Ending) (w' :World):Prop:=e= .returned (.tuple #[])/\xD w' gl L L (fun k=>f k+YU T m L u z k)/\Chg (· =gl) w w'
def CntR (w0:World) (base m L:Nat) (F:zN) (T:y8) (gl gv i:Nat) (f:Nat->Int) (z:Int) (kv:Value) (wr:World):Prop:=
 ∃ k:Nat,k<=L/\kv= .int .i64 k/\Hid (xD wr gl L L (fun j=>if j<k then f j+T.cell i j*z else f j))/\Hid (zX base m L F wr T)/\Hid (ZD wr gv z)/\Hid (Chg (· =gl) w0 wr)
theorem VO (base m L:Nat) (F:zN) (T:y8) (gl:Nat) (f:Nat->Int) (u:Int) (vn:Value) (z:Int) (w:World) (hT:zX base m L F w T) (hr:xD w gl L L f) (hn:zM w vn z) (hne:∀ i,i<=m->F.g i≠gl) (hf:T.Fits m L) (hz:Fit z)
 (hl:∀ k,k<L->len 4294967296 (f k).natAbs<=67108864) (hm:m<=100000) (hL:L<=100000) (hm0:0<m) (hu:xW T.basic u m=none->xW T.other u (L - 1)≠none):
 Calls prog 114 #[.pointer (some ⟨F.gt,0,none⟩),.slice (some ⟨gl,0,none⟩) L L,.int .i64 u,vn] w (zux T m L gl f u z w):=by
 obtain ⟨x2,A2,k2,c2,s2,rfl,_,_,_⟩:=hn.form
 obtain ⟨G,am⟩:∃ x,x=w.alloc (.cells #[.int .i64 x2,.slice A2 k2 c2,.bool s2] 60):=⟨_,rfl⟩
 have hx:=zf w (.cells #[.int .i64 x2,.slice A2 k2 c2,.bool s2] 60)
 have ap:=Blk.new w 60 #[.int .i64 x2,.slice A2 k2 c2,.bool s2]
 rw [<- am] at hx ap
 have E:Hid (ZD G w.heap.size z):=⟨_,_,_,_,_,ap,hn.below hx⟩
 have ar:=ze hr.lt
 have y:=ze (hT.below hx)
 have l:=ze (hr.below hx)
 have C:Hid (Chg (· =gl) w G):=Chg.of_below hx
 obtain ⟨aH,HF,HZ,HL,HU⟩:=hz5 hne hf hz hl hu
 clear hn hx ap hT hr hne hf hz hl hu
 obtain ⟨gb,cb,eb,aP,aq⟩:=y.o.basics hm0
 have t7:=y.o.cell7
 rw [eb] at t7
 have aa:=zdc gb m cb T.basic u G (by omega) aq
 have ab:=ze aa
 clear aa aq
 go_in
 go_upto_region 1 with fail
 rw [<- am]
 clear am
 generalize w.heap.size=gv at E ar |-
 go_wp2_with fail
 refine ab.o.mono ?_
 rintro e w1 ⟨rfl,rfl⟩
 cases hfi:xW T.basic u m with
 | some i=>
   have aK:i<m:=zdt _ _ hfi;have d1:decide ((i:Int) ≥ 0)=true:=by rw [decide_eq_true_iff];omega
   have d3:zhh (some i)=(i:Int):=rfl;have ao:=ze hfi;rw [d3];clear hfi d3 ab t7;have aJ:(0:Int)<=(L:Int):=by omega
   go_wp2
   go_loopw [21] (CntR w base m L F T gl gv i f z) (fun kv _=>L - (intOf kv).toNat)
   case atStart=>exact ⟨0,uB,rfl,l.o.fewer (fun k hk=>⟨hk,by simp⟩),y,E,C⟩
   case round=>
    clear l y E C;obtain ⟨k,hk,rfl,l,y,E,C⟩:=hrel
    by_cases Q:k<L
    rotate_left
    . obtain rfl:L=k:=by omega
      go_wp2
      go_end0
      refine ⟨rfl,l.o.fewer (fun j hj=>⟨hj,?_⟩),C.o⟩;unfold YU;rw [ao.o];simp only [if_pos hj]
    have aG:(k:Int)<(L:Int):=by omega
    have aN:(i:Int)<(m:Int)+1:=by omega
    have t3:=y.o.cell3;have t4:=y.o.mat.cell (i:=i) (by omega);obtain ⟨ax,aA,an,ac,ag,a0,a1,a2,ha⟩:=l.o.2 k Q;simp only [Nat.lt_irrefl,if_false] at ha;obtain ⟨bx,bA,bn,bc,bg,b0,b1,b2,aE⟩:=y.o.mat.at_ (i:=i) (k:=k) (by omega) Q;obtain ⟨vx,vA,vn,vc,vg,S,ah⟩:=E.o;obtain ⟨q0,q1,q2,_⟩:=bp3 S;have V:=y.o.lt;have mL:=y.o.mat.lt.2;have I:=l.o.lt;have bL:=(y.o.mat.rows i (by omega)).2.lt;have N:=S.lt;obtain ⟨HA,az,ad⟩:=hz3 ha aE ah;have N1:=ze (HF.o.cell i k (by omega) Q);clear ha aE S ah
    go_upto_region 6 with fail
    have J:∀ w',Hid (Below wr.heap.size wr w')->w'.cell? ⟨F.gt,3,none⟩=some (.slice (some ⟨F.gm,0,none⟩) (m+1) F.cm)/\w'.cell? ⟨F.gm,i,none⟩=some (.slice (some ⟨F.g i,0,none⟩) L L)/\w'.cell? ⟨gl,k*3,none⟩=some (.int .i64 ax)/\w'.cell? ⟨gl,k*3+1,none⟩=some (.slice aA an ac)/\w'.cell? ⟨gl,k*3+2,none⟩=some (.bool ag)/\w'.cell? ⟨F.g i,k*3,none⟩=some (.int .i64 bx)/\w'.cell? ⟨F.g i,k*3+1,none⟩=some (.slice bA bn bc)/\w'.cell? ⟨F.g i,k*3+2,none⟩=some (.bool bg)/\w'.cell? ⟨gv,0,none⟩=some (.int .i64 vx)/\w'.cell? ⟨gv,1,none⟩=some (.slice vA vn vc)/\w'.cell? ⟨gv,2,none⟩=some (.bool vg):=fun w' hB=>⟨zk hB V t3,zk hB mL t4,zk hB I a0,zk hB I a1,zk hB I a2,zk hB bL b0,zk hB bL b1,zk hB bL b2,zk hB N q0,zk hB N q1,zk hB N q2⟩
    refine xb J 17 3 20 (zw wr) fun r=>?_;simp only [xDR]
    iterate 17 refine zP ?_
    refine zD ?_;refine rK 17 fun K hK=>?_
    go_simp
    go_at_call 66;refine (xi _ _ _ _ _ (az.o.below r.1.out) (ad.o.below r.1.out) (N1.o.le2 (by omega)) (HZ.o.le2 (by omega))).mono ?_;rintro e w2 ⟨v1,rfl,D,B⟩;have af:=ze D;have aI:=ze B;clear D;refine hK.out _ _ (zl (zo B r.1) (J _)) ?_;clear hK K r;intro r
    try simp only [Act.put,xST]
    clear B;refine rK 18 fun K hK=>?_
    go_simp
    go_at_call 67;refine (zen _ _ _ _ _ (HA.o.below r.1.out) af.o (HL.o k Q) (YD N1.o HZ.o (by omega))).mono ?_;rintro e w3 ⟨v2,rfl,D,B⟩;have Y:=ze D;clear D af;have aw:=ze (zo B r.1);refine hK.out _ _ (zl (zo B r.1) (J _)) ?_;clear hK K r;intro r
    try simp only [Act.put,xST]
    clear B;refine tK 19 ?_;have O:=(r.1).out;replace l:=ze (xD.below l.o O);replace y:=ze (zX.below y.o O);replace E:=ze (ZD.below E.o O);clear O r J;refine hdn ?_;simp only [xDR];replace C:=ze (zo7 C.o aw.o.out);clear HA az ad N1 a0 a1 a2 b0 b1 b2 q0 q1 q2 V mL I bL N t3 t4 aI aw;obtain ⟨X,U,sn,sc,Z,rfl,_,_,_⟩:=Y.o.form;obtain ⟨u0,u1,u2,s0,s1,s2⟩:=l.o.slots Q;have z0:=l.o.frozen (k*3);have z1:=l.o.frozen (k*3+1);have z2:=l.o.frozen (k*3+2);have R:=vO (w:=w3) (g:=gl) (k:=k) (x:=X) (A:=U) (n:=sn) (c:=sc) (ng:=Z)
    have ak:Hid (xD (World.numAt w3 gl k X U sn sc Z) gl L L (fun j=>if j<k+1 then f j+T.cell i j*z else f j)):=l.o.set Q Y.o (fun j hj=>by
     by_cases e:j=k
     . exact .inl ⟨e,by subst e;rw [if_pos (by omega)]⟩
     refine .inr ⟨e,hj,?_⟩
     by_cases h:j<k
     . rw [if_pos h,if_pos (by omega)]
     rw [if_neg h,if_neg (by omega)])
    have av:=ze (y.o.chgRow l.o R aH.o);have aC:gv≠gl:=by have:=ar.o;omega
    have ay:=ze (E.o.chg R aC (fun b e=>by subst e;exact l.o.noDig));have al:Hid (Chg (· =gl) w (World.numAt w3 gl k X U sn sc Z)):=C.o.trans R (fun _ _ h=>h);clear l y E C Y R aC;go_wp2;go_roundw
    case rel=>first | exact ⟨k+1,by omega,by go_num,ak,av,ay,al⟩ | ((repeat apply Exists.intro);exact ⟨⟨k+1,by omega,by go_num,ak,av,ay,al⟩,rfl⟩)
    case measure=>simp [intOf];omega
 | none=>
   obtain ⟨M,ai⟩:=Option.ne_none_iff_exists'.1 (HU.o hfi);have Q:M<L - 1:=zdt _ _ ai;have d1:decide (zhh none ≥ 0)=false:=by decide
   have d3:zhh none= -1:=rfl;have d4:zhh (some M)=(M:Int):=rfl;obtain ⟨go,co,eo,aO,aD⟩:=y.o.others;have t8:=y.o.cell8;rw [eo] at t8;have aa:=zdc go (L - 1) co T.other u G (by omega) aD;rw [ai,d4] at aa;have ao:=ze hfi;have aF:=ze ai;have e1:IntKind.i64.wrap ((M:Int)+1)=(M:Int)+1:=by rw [IntKind.wrap_i64];omega
   clear hfi ai ab t7 aD d4;have ab:=ze aa;clear aa;go_wp2_with fail;refine ab.o.mono ?_;rintro e w1 ⟨rfl,rfl⟩;obtain ⟨k,hk⟩:=uQ (M+1);have ek:(M:Int)+1=(k:Int):=by omega
   have aj:k<L:=by omega
   have HK:=ze hk;clear hk t8 Q ab;have aG:(k:Int)<(L:Int):=by omega
   have aM:(0:Int)<=(k:Int):=by omega
   obtain ⟨ax,aA,an,ac,ag,a0,a1,a2,ha⟩:=l.o.2 k aj;obtain ⟨dx,dA,dn,dc,dg,ae,aB⟩:=y.o.blk;have d4:G.cell? ⟨F.gt,4,none⟩=some (.int .i64 dx):=by rw [ae.cell];rfl
   have d5:G.cell? ⟨F.gt,5,none⟩=some (.slice dA dn dc):=by rw [ae.cell];rfl
   have d6:G.cell? ⟨F.gt,6,none⟩=some (.bool dg):=by rw [ae.cell];rfl
   obtain ⟨vx,vA,vn,vc,vg,S,ah⟩:=E.o;obtain ⟨q0,q1,q2,_⟩:=bp3 S;have V:=ae.lt;have I:=l.o.lt;have N:=S.lt;obtain ⟨HA,au,ad⟩:=hz3 ha aB ah;clear ha ae aB S ah
   go_upto_region 9 with fail
   have J:∀ w',Hid (Below G.heap.size G w')->w'.cell? ⟨gl,k*3,none⟩=some (.int .i64 ax)/\w'.cell? ⟨gl,k*3+1,none⟩=some (.slice aA an ac)/\w'.cell? ⟨gl,k*3+2,none⟩=some (.bool ag)/\w'.cell? ⟨F.gt,4,none⟩=some (.int .i64 dx)/\w'.cell? ⟨F.gt,5,none⟩=some (.slice dA dn dc)/\w'.cell? ⟨F.gt,6,none⟩=some (.bool dg)/\w'.cell? ⟨gv,0,none⟩=some (.int .i64 vx)/\w'.cell? ⟨gv,1,none⟩=some (.slice vA vn vc)/\w'.cell? ⟨gv,2,none⟩=some (.bool vg):=fun w' hB=>⟨zk hB I a0,zk hB I a1,zk hB I a2,zk hB V d4,zk hB V d5,zk hB V d6,zk hB N q0,zk hB N q1,zk hB N q2⟩
   refine xb J 11 3 14 (zw G) fun r=>?_;simp only [xDR]
   iterate 11 refine zP ?_
   refine zD ?_;refine rK 11 fun K hK=>?_
   go_simp
   go_at_call 66;refine (xi _ _ _ _ _ (au.o.below r.1.out) (ad.o.below r.1.out) (HF.o.fden.le2 (by omega)) (HZ.o.le2 (by omega))).mono ?_;rintro e w2 ⟨v1,rfl,D,B⟩;have af:=ze D;clear D;refine hK.out _ _ (zl (zo B r.1) (J _)) ?_;clear hK K r;intro r
   try simp only [Act.put,xST]
   clear B;refine rK 12 fun K hK=>?_
   go_simp
   go_at_call 67;refine (zen _ _ _ _ _ (HA.o.below r.1.out) af.o (HL.o k aj) (YD HF.o.fden HZ.o (by omega))).mono ?_;rintro e w3 ⟨v2,rfl,D,B⟩;have Y:=ze D;clear D af;refine hK.out _ _ (zl (zo B r.1) (J _)) ?_;clear hK K r;intro r
   try simp only [Act.put,xST]
   clear B;refine tK 13 ?_;have O:=(r.1).out;replace l:=ze (xD.below l.o O);replace C:=ze (zos C.o O);clear O r J;refine hdn ?_;simp only [xDR];clear HA au ad a0 a1 a2 d4 d5 d6 q0 q1 q2 V I N y E;obtain ⟨X,U,sn,sc,Z,rfl,_,_,_⟩:=Y.o.form;obtain ⟨u0,u1,u2,s0,s1,s2⟩:=l.o.slots aj;have z0:=l.o.frozen (k*3);have z1:=l.o.frozen (k*3+1);have z2:=l.o.frozen (k*3+2);have R:=vO (w:=w3) (g:=gl) (k:=k) (x:=X) (A:=U) (n:=sn) (c:=sc) (ng:=Z)
   have ak:Hid (xD (World.numAt w3 gl k X U sn sc Z) gl L L (fun j=>f j+YU T m L u z j)):=l.o.set aj Y.o (fun j hj=>by
    have hk:=HK.o;have e4:zhh (some M)=(M:Int):=rfl;unfold YU;rw [ao.o,aF.o];simp only [e4]
    by_cases e:j=k
    . exact .inl ⟨e,by subst e;rw [if_pos (by omega)]⟩
    exact .inr ⟨e,hj,by rw [if_neg (by omega),Int.add_zero]⟩)
   have al:Hid (Chg (· =gl) w (World.numAt w3 gl k X U sn sc Z)):=C.o.trans R (fun _ _ h=>h);clear l C Y R;go_wp2
   go_end0
   exact ⟨rfl,ak.o,al.o⟩
theorem zhs (gt i:Nat) (A:Option Addr) (nn c:Nat) (w:World) (hc:w.cell? ⟨gt,2,none⟩=some (.slice A nn c)) (hn:nn<=100000) (hi:i<=100000):
 Calls prog 111 #[.pointer (some ⟨gt,0,none⟩),.int .i64 (i:Nat)] w (zal w (.int .i64 ((2*nn+i:Nat):Int))):=by
 have b:IntKind.i64.wrap (2*(nn:Int))=2*(nn:Int):=by rw [IntKind.wrap_i64];omega
 have e:IntKind.i64.wrap (2*(nn:Int)+(i:Int))=2*(nn:Int)+(i:Int):=by rw [IntKind.wrap_i64];omega
 go_in
 go_wp2
 go_ret
 exact ⟨by push_cast;rfl,rfl⟩
theorem zg6:(prog.info? 3).map (fun i=>(i.zero,i.size,i.bytes))=some (some (.int .i64 0),1,8):=by kernel_rfl
theorem zgi:(prog.info? 126).map (fun i=>(i.zero,i.size,i.bytes))=some (some (.slice none 0 0),1,24):=by kernel_rfl
theorem Tryz.underlying133:prog.underlying 133=some (.slice 126):=by kernel_rfl
theorem Tryz.underlyingInts:prog.underlying 134=some (.slice 3):=by kernel_rfl
theorem zih (gt m n c1 c2:Nat) (A1 A2:Option Addr) (w:World) (t1:w.cell? ⟨gt,1,none⟩=some (.slice A1 m c1)) (t2:w.cell? ⟨gt,2,none⟩=some (.slice A2 n c2)) (hm:m<=100000) (hn:n<=100000):
 Calls prog 76 #[.pointer (some ⟨gt,0,none⟩)] w (zij w (.int .i64 ((2*n+m:Nat):Int))):=by
 have b:IntKind.i64.wrap (2*(n:Int))=2*(n:Int):=by rw [IntKind.wrap_i64];omega
 have e:IntKind.i64.wrap (2*(n:Int)+(m:Int))=2*(n:Int)+(m:Int):=by rw [IntKind.wrap_i64];omega
 go_in
 go_upto_region 1 with fail
 go_region
 go_wp2
 go_ret
 exact ⟨by push_cast;rfl,(zw w).out⟩
def BegR (w0:World) (b gt:Nat) (rv nv:Value) (rows:List zF) (names:List (List UInt8)) (iv sv:Value) (wr:World):Prop:=
 ∃ (i N:Nat) (g:Nat->Nat) (mv bv sv' :Value),i<=rows.length/\iv= .int .i64 i/\sv=sv' /\Hid (Vr w0 b rows.length gt N rv nv rows names g i i i 0 mv bv (.slice none 0 0) sv' (xp b rv nv mv bv (.slice none 0 0)) wr)
def BegI (w0:World) (b gt N gl gs:Nat) (rv nv tv:Value) (rows:List zF) (names:List (List UInt8)) (g:Nat->Nat) (i:Nat) (r:zF) (mv bv sv iv:Value) (wr:World):Prop:=
 ∃ (t:Nat),t<=r.terms.length/\iv= .int .i64 t/\Hid (Vr w0 b rows.length gt N rv nv rows names g i i (i+1) 0 mv bv (.slice none 0 0) sv (xp b rv nv mv bv (.slice none 0 0)) wr)/\Hid (zi wr w0.heap.size tv r.terms)/\
  Hid (xD wr gl (2*names.length+2) (2*names.length+2) (ztl names (vQ (qOf r.bound) (xz r)) (xz r) r.terms t))/\Hid (ZD wr gs (xz r))
def BegO (w0:World) (b gt:Nat) (rv nv:Value) (rows:List zF) (names:List (List UInt8)) (g:Nat->Nat) (mv bv sv iv:Value) (wr:World):Prop:=
 ∃ (k N:Nat) (ov:Value),k<=2*names.length/\iv= .int .i64 k/\Hid (Vr w0 b rows.length gt N rv nv rows names g (rows.length+1) rows.length rows.length k mv bv ov sv (xp b rv nv mv bv ov) wr)
theorem Xi {w:World} {t:TypeId} {v:Value}:∀ (j:Nat) (u:Value),[v][j]?=some u->(w.alloc (.cells #[v] t)).cell? ((⟨w.heap.size,0,none⟩:Addr).add j)=some u:=by
 intro j u hu
 have b:=Blk.new w t #[v]
 match j with
 | 0=>
   simp at hu;subst hu;have:=b.cell 0
   simp [Addr.add]
 | j+1=>simp at hu
theorem vP {v:Value} {p:Value->Prop} (h:p v):∀ u∈[v],p u:=by intro u hu;rw [uM] at hu;subst hu;exact h
structure zun (b:Nat) (rA:Option Addr) (rc:Nat) (nA:Option Addr) (nc:Nat) (rows:List zF) (names:List (List UInt8)) (w:World) (F:zN) (gs cs:Nat) (w' :World):Prop where
 bk:F.bk=some b
 rA:F.rA=rA
 rc:F.rc=rc
 nA:F.nA=nA
 nn:F.nn=names.length
 nc:F.nc=nc
 tab:zX w.heap.size rows.length (2*names.length+2) F w' (zon rows names)
 scl:Vl w' gs rows.length (zlf rows)
 book:zr w' b
 chg:Chg (· =b) w w'
 sne:∀ i,i<=rows.length->F.g i≠gs
 sty:∃ cs,w'.heap[gs]?=some (.cells cs 60 (0,0))
theorem zhu (b n c nn nc:Nat) (rA nA:Option Addr) (rows:List zF) (names:List (List UInt8)) (w:World) (hB:zr w b) (hr:yM w (.slice rA n c) rows) (hn:zT w w.heap.size (.slice nA nn nc) names)
 (hok:∀ r∈rows,ztv names r) (hm0:0<rows.length) (hmm:rows.length<=10000) (hnn:names.length<=400):
 Calls prog 71 #[.map (some b),.slice rA n c,.slice nA nn nc] w (fun e w' =>∃ F gs cs,e= .returned (.tuple #[.pointer (some ⟨F.gt,0,none⟩),.slice (some ⟨gs,0,none⟩) rows.length cs])/\zun b rA c nA nc rows names w F gs cs w'):=by
 obtain rfl:=hr.len
 obtain rfl:=hn.len
 have m:=zf w (.cells (xp b (.slice rA rows.length c) (.slice nA names.length nc) (.slice none 0 0) (.slice none 0 0) (.slice none 0 0)) 136)
 have l:Hid (Vr w b rows.length w.heap.size (w.heap.size+1) (.slice rA rows.length c) (.slice nA names.length nc) rows names (fun _=>0) 0 0 0 0 (.slice none 0 0) (.slice none 0 0) (.slice none 0 0) (.slice none 0 0)
  (xp b (.slice rA rows.length c) (.slice nA names.length nc) (.slice none 0 0) (.slice none 0 0) (.slice none 0 0)) (w.alloc (.cells (xp b (.slice rA rows.length c) (.slice nA names.length nc) (.slice none 0 0) (.slice none 0 0) (.slice none 0 0)) 136))):=by
  refine ⟨Blk.new _ _ _,?_,vM.nil _ _ _ _ _,Zk _ _ _ _,Zk _ _ _ _,vZ.nil _ _ _,hB.below m,zW.below hr m,hn.below m,Chg.of_below m,(fun j hj=>by omega),(fun c h=>by cases h),uA,(by simp),hB.lt,Nat.lt_succ_self _,(fun j hj=>by omega),?_⟩
  rotate_left
  . intro c h
    rcases h with h | h | h | h<;>cases h
  refine vH ?_
  unfold xp
  intro u hu
  simp at hu
  rcases hu with rfl | rfl | rfl | rfl | rfl | rfl | rfl | rfl
  all_goals first | exact zpk _ | exact zH _ _ _ | exact x8 _ | exact Zl _
 have cx:=ze hok
 clear hB hr hn m hok
 unfold xp at l
 go_in
 go_upto_region 4 with fail
 have cv:=ze (Nat.le_refl w.heap.size)
 generalize w.alloc (.cells #[.map (some b),.slice rA rows.length c,.slice nA names.length nc,.slice none 0 0,.int .i64 1,.slice none 0 0,.bool false,.slice none 0 0,.slice none 0 0] 136)=W at l |-
 obtain ⟨gt,bs⟩:=uQ w.heap.size
 obtain ⟨N0,bI⟩:∃ N,N=w.heap.size+1:=⟨_,rfl⟩
 rw [<- bI, <- bs] at l
 rw [<- bs]
 clear bs bI cv
 have bw:=fun w' (h:zr w' b) (s:List UInt8) (hs:zB s)=>xK b ⟨s.toArray⟩ w' h (by rw [<- zq,xf];exact hs)
 simp only [xf] at bw
 have bT:=ze bw
 have cK:=ze (fun w v z h=>yK v z w h)
 clear bw
 have eL:IntKind.i64.wrap (2*(names.length:Int)+2)=2*(names.length:Int)+2:=by rw [IntKind.wrap_i64];omega
 have ca:((2*names.length+2:Nat):Int)=2*(names.length:Int)+2:=by omega
 have cf:=ze ca
 clear ca
 have cV:IntKind.i64.wrap (2*(names.length:Int))=2*(names.length:Int):=by rw [IntKind.wrap_i64];omega
 obtain ⟨Y,bZ⟩:∃ K,K=2*names.length+1:=⟨_,rfl⟩
 have cI:IntKind.i64.wrap (2*(names.length:Int)+1)=(Y:Int):=by rw [IntKind.wrap_i64];omega
 have cO:(Y:Int)<2*(names.length:Int)+2:=by omega
 have cQ:(0:Int)<=(Y:Int):=by omega
 have cE:=ze bZ
 have bY:Hid (Y<2*names.length+2):=by show _<_;omega
 clear bZ
 go_wp2
 go_loopw [35,10] (BegR w b gt (.slice rA rows.length c) (.slice nA names.length nc) rows names) (fun iv _ _=>rows.length - (intOf iv).toNat)
 case atStart=>exact ⟨0,_,_,_,_,_,uB,rfl,rfl,l⟩
 case round=>
  clear l
  obtain ⟨i,N,g,mv,bv,sv,hi,rfl,rfl,l⟩:=hrel
  by_cases ba:i<rows.length
  rotate_left
  . obtain rfl:rows.length=i:=by omega
    obtain ⟨gs,cs,cz,_,_⟩:=l.o.scl.choose_spec.1.1.form hm0;subst cz;have b3:wr.cell? ⟨gt,3,none⟩=some mv:=by rw [l.o.blk.cell];rfl
    have a4:¬ mv.ownBlock=some gt:=fun e=>by
     obtain ⟨cs,k1⟩:=l.o.mat.own.heap e;exact yZ l.o.blk k1 (by decide) rfl
    have aS:=fun w=>zb6 .i64 (2*names.length+2) (by omega) w
    rw [cf.o] at aS
    go_upto_region 24 with fail
    have I:∀ w',Hid (Chg (fun x=>mv.ownBlock=some x) wr w')->w'.cell? ⟨gt,3,none⟩=some mv:=fun w' hB=>xu hB b3 a4
    refine xb I 8 5 13 (vj wr) fun B=>?_;simp only [xDR]
    iterate 8 refine zP ?_
    refine zD ?_;refine rK 8 fun K hK=>?_
    go_simp
    have ap:=(vz wr (.cells (yD (2*names.length+2)) 60)).out;have ax:Hid (Chg (fun x=>mv.ownBlock=some x) wr (wr.alloc (.cells (yD (2*names.length+2)) 60)).drew):=Chg.of_below ap;refine hK.out _ _ (zl (ax) (I _)) ?_;clear hK K B;intro B
    try simp only [Act.put,xST]
    clear ax ap aS;refine rK 9 fun K hK=>?_
    go_simp
    have bd:=zf (wr.alloc (.cells (yD (2*names.length+2)) 60)) (.cells #[.slice (some ⟨wr.heap.size,0,none⟩) (2*names.length+2) (2*names.length+2)] 126);have ap:=zt (ext (zf wr (.cells (yD (2*names.length+2)) 60)) bd) 1;have af:=zt bd 1;have aQ:=ze ((zev wr (2*names.length+2)).below af);have b8:=ze l.o.top;have J:=ze (l.o.below ap);have R:=Xi (w:=wr.alloc (.cells (yD (2*names.length+2)) 60)) (t:=126) (v:=.slice (some ⟨wr.heap.size,0,none⟩) (2*names.length+2) (2*names.length+2));have ax:Hid (Chg (fun x=>mv.ownBlock=some x) wr ((wr.alloc (.cells (yD (2*names.length+2)) 60)).alloc (.cells #[.slice (some ⟨wr.heap.size,0,none⟩) (2*names.length+2) (2*names.length+2)] 126)).drew):=Chg.of_below ap;have ak:=J.o.chg.size;refine hK.out _ _ (zl (ax) (I _)) ?_;clear hK K B;intro B
    try simp only [Act.put,xST]
    clear ax ap bd af l;have O:=vP (v:=.slice (some ⟨wr.heap.size,0,none⟩) (2*names.length+2) (2*names.length+2)) (p:=fun u=>u.oneCell' =true) rfl;have S:=vP (v:=.slice (some ⟨wr.heap.size,0,none⟩) (2*names.length+2) (2*names.length+2)) (p:=Zp) (zH _ _ _);have Q:∀ u∈(Value.slice none 0 0).cells,Zp u:=by intro u hu;simp [Value.cells] at hu;subst hu;exact zH _ _ _
    obtain ⟨i1,am,aj,ao,al⟩:=info_parts zgi;refine HH.ready (rs:=[10]) (by kernel_rfl) (by simp) (by kernel_rfl) ?_;refine Za.cons (o:=_) rfl (fun K hK=>?_) Za.nil;rw [if_pos (by rfl)];refine xB (P:=prog) (.tmp 134) (.tmp 139) _ rfl w.heap.size 126 i1 _ 1 24 underlying133 am aj ao al rfl (by omega) _ rows.length _ rfl J.o.mat.own ⟨(wr.alloc (.cells (yD (2*names.length+2)) 60)).heap.size,0,none⟩ 1 1 [.slice (some ⟨wr.heap.size,0,none⟩) (2*names.length+2) (2*names.length+2)] ?_ rfl (by omega) R O S Q (by unfold maxLen;omega) (by omega) ak ?_
    . simp [Act.eval,World.size_alloc]
    intro cp w6 G U aa;obtain ⟨ae,ab,bp,_,_⟩:=G.1.form (by omega);subst bp;have au:=J.o.row aQ.o b8.o (fun j hj=>by unfold zsw;rw [if_neg (by omega)]) G U;have c4:w6.cell? ⟨gt,3,none⟩=some mv:=by rw [au.blk.cell];rfl
    have f4:=au.blk.frozen 3;have T:=ze (au.store 3 (xo G));rw [show (xp b (.slice rA rows.length c) (.slice nA names.length nc) mv bv (.slice none 0 0)).setIfInBounds 3 (.slice (some ⟨ae,0,none⟩) (rows.length+1) ab)=xp b (.slice rA rows.length c) (.slice nA names.length nc) (.slice (some ⟨ae,0,none⟩) (rows.length+1) ab) bv (.slice none 0 0) from rfl] at T;generalize w6.heap.size=N2 at T;generalize (fun j=>if j=rows.length then wr.heap.size else g j)=g2 at T;refine hK.out _ _ (zl (Zh (xN U) B.1) (I _)) ?_;clear hK K B;intro B
    try simp only [Act.put,xST]
    clear G U aa au J aQ b8 R O S Q ak b3 a4;refine tK 11 ?_;refine tK 12 ?_;clear B I;refine hdn ?_;simp only [xDR]
    go_upto_region 25 with fail
    clear c4 f4;generalize w6.setCell ⟨gt,3,none⟩ (.slice (some ⟨ae,0,none⟩) (rows.length+1) ab)=W7 at T |-;go_wp2
    go_loopw [145] (BegO w b gt (.slice rA rows.length c) (.slice nA names.length nc) rows names g2 (.slice (some ⟨ae,0,none⟩) (rows.length+1) ab) bv (.slice (some ⟨gs,0,none⟩) rows.length cs)) (fun iv _=>2*names.length - (intOf iv).toNat)
    case atStart=>exact ⟨0,_,_,uB,rfl,T⟩
    case round=>
     clear T;obtain ⟨k,N,ov,hk,rfl,l⟩:=hrel
     by_cases cG:k<2*names.length
     . have cM:(k:Int)<2*(names.length:Int):=by omega
       have c8:wr.cell? ⟨gt,8,none⟩=some ov:=by rw [l.o.blk.cell];rfl
       have m:=zf wr (.cells #[.int .i64 (k:Int)] 3);have J:=ze (l.o.below m);have ak:=J.o.chg.size;have aq:=ze ak;have R:=Xi (w:=wr) (t:=3) (v:=.int .i64 (k:Int));have O:=vP (v:=.int .i64 (k:Int)) (p:=fun u=>u.oneCell' =true) rfl;have S:=vP (v:=.int .i64 (k:Int)) (p:=Zp) (x8 _);have Q:∀ u∈(Value.int .i64 0).cells,Zp u:=by intro u hu;simp [Value.cells] at hu;subst hu;exact x8 _
       obtain ⟨i1,am,aj,ao,al⟩:=info_parts zg6;clear m l ak;go_wp2_with (at_builtin;go_must (refine zS (P:=prog) rfl (.tmp 152) (.tmp 154) _ rfl w.heap.size 3 i1 _ 1 8 Tryz.underlyingInts am aj ao al rfl (by omega) _ k _ rfl J.o.oth ⟨wr.heap.size,0,none⟩ 1 1 [.int .i64 (k:Int)] rfl rfl (by omega) R O S Q ?o4 ?o5 ?o6 ?_))
       case o4=>unfold maxLen;omega
       case o5=>omega
       case o6=>exact aq.o
       intro cC w6 G U aa;obtain ⟨aL,aK,bx,_,_⟩:=G.1.form (by omega);subst bx;rw [show [Value.int .i64 (k:Int)]=[.int .i64 (zs0 names.length rows.length k:Nat)] by unfold zs0;rw [if_pos cG],YM] at G;have ar:=J.o.other G U (by rw [World.size_alloc];exact aa);have c9:w6.cell? ⟨gt,8,none⟩=some ov:=by rw [ar.blk.cell];rfl
       have f9:=ar.blk.frozen 8;have aA:=ze (ar.store 8 (xo G));rw [show (xp b (.slice rA rows.length c) (.slice nA names.length nc) (.slice (some ⟨ae,0,none⟩) (rows.length+1) ab) bv ov).setIfInBounds 8 (.slice (some ⟨aL,0,none⟩) (k+1) aK)=xp b (.slice rA rows.length c) (.slice nA names.length nc) (.slice (some ⟨ae,0,none⟩) (rows.length+1) ab) bv (.slice (some ⟨aL,0,none⟩) (k+1) aK) from rfl] at aA;clear G U aa ar J aq R O S Q c8;go_wp2;go_roundw
       case rel=>exact ⟨k+1,_,_,by omega,by go_num,aA⟩
       case measure=>simp [intOf];omega
     . obtain rfl:2*names.length=k:=by omega
       have c8:wr.cell? ⟨gt,8,none⟩=some ov:=by rw [l.o.blk.cell];rfl
       have c1:wr.cell? ⟨gt,1,none⟩=some (.slice rA rows.length c):=by rw [l.o.blk.cell];rfl
       have c2:wr.cell? ⟨gt,2,none⟩=some (.slice nA names.length nc):=by rw [l.o.blk.cell];rfl
       have bb:¬ ov.ownBlock=some gt:=fun e=>by
        obtain ⟨cs,k1⟩:=l.o.oth.heap e;exact yZ l.o.blk k1 (by decide) rfl
       obtain ⟨L,aG⟩:∃ L,L=2*names.length+rows.length:=⟨_,rfl⟩;have bi:=fun w' (h1:w'.cell? ⟨gt,1,none⟩=some (.slice rA rows.length c)) (h2:w'.cell? ⟨gt,2,none⟩=some (.slice nA names.length nc))=>zih gt rows.length names.length c nc rA nA w' h1 h2 (by omega) (by omega)
       rw [<- aG] at bi;have bH:=ze bi;have bm:=ze aG;clear bi aG
       go_upto_region 30 with fail
       have I:∀ w',Hid (Chg (fun x=>ov.ownBlock=some x) wr w')->w'.cell? ⟨gt,8,none⟩=some ov/\w'.cell? ⟨gt,1,none⟩=some (.slice rA rows.length c)/\w'.cell? ⟨gt,2,none⟩=some (.slice nA names.length nc):=fun w' hB=>⟨xu hB c8 bb,xu hB c1 bb,xu hB c2 bb⟩
       refine xb I 6 5 11 (vj wr) fun B=>?_;simp only [xDR]
       iterate 6 refine zP ?_
       refine zD ?_;refine rK 6 fun K hK=>?_
       go_simp
       go_at_call 76;refine (bH.o _ B.2.2.1 B.2.2.2).mono ?_;rintro e w5 ⟨rfl,aC⟩;replace l:=ze (l.o.below (ext (zw wr).out aC));refine hK.out _ _ (zl (xM aC B.1) (I _)) ?_;clear hK K B;intro B
       try simp only [Act.put,xST]
       clear aC bH;refine rK 7 fun K hK=>?_
       go_simp
       have m:=zf w5 (.cells #[.int .i64 (L:Int)] 3);have J:=ze (l.o.below m);refine hK.out _ _ (zl (xM m B.1) (I _)) ?_;clear hK K B;intro B
       try simp only [Act.put,xST]
       clear m l;have ak:=J.o.chg.size;have R:=Xi (w:=w5) (t:=3) (v:=.int .i64 (L:Int));have O:=vP (v:=.int .i64 (L:Int)) (p:=fun u=>u.oneCell' =true) rfl;have S:=vP (v:=.int .i64 (L:Int)) (p:=Zp) (x8 _);have Q:∀ u∈(Value.int .i64 0).cells,Zp u:=by intro u hu;simp [Value.cells] at hu;subst hu;exact x8 _
       obtain ⟨i1,am,aj,ao,al⟩:=info_parts zg6;refine HH.ready (rs:=[8]) (by kernel_rfl) (by simp) (by kernel_rfl) ?_;refine Za.cons (o:=_) rfl (fun K hK=>?_) Za.nil;rw [if_pos (by rfl)];refine xB (P:=prog) (.tmp 163) (.tmp 166) _ rfl w.heap.size 3 i1 _ 1 8 Tryz.underlyingInts am aj ao al rfl (by omega) _ (2*names.length) _ rfl J.o.oth ⟨w5.heap.size,0,none⟩ 1 1 [.int .i64 (L:Int)] rfl rfl (by omega) R O S Q (by unfold maxLen;omega) (by omega) ak ?_;intro cC w6 G U aa;obtain ⟨aL,aK,bx,_,_⟩:=G.1.form (by omega);subst bx;rw [show [Value.int .i64 (L:Int)]=[.int .i64 (zs0 names.length rows.length (2*names.length):Nat)] by unfold zs0;rw [if_neg (by omega),bm.o],YM] at G;have ar:=J.o.other G U (by rw [World.size_alloc];first | exact aa | (simp at aa |-;exact aa));have c9:w6.cell? ⟨gt,8,none⟩=some ov:=by rw [ar.blk.cell];rfl
       have f9:=ar.blk.frozen 8;have aA:=ze (ar.store 8 (xo G));rw [show (xp b (.slice rA rows.length c) (.slice nA names.length nc) (.slice (some ⟨ae,0,none⟩) (rows.length+1) ab) bv ov).setIfInBounds 8 (.slice (some ⟨aL,0,none⟩) (2*names.length+1) aK)=xp b (.slice rA rows.length c) (.slice nA names.length nc) (.slice (some ⟨ae,0,none⟩) (rows.length+1) ab) bv (.slice (some ⟨aL,0,none⟩) (2*names.length+1) aK) from rfl] at aA;refine hK.out _ _ (zl (Zh (xN U) B.1) (I _)) ?_;clear hK K B;intro B
       try simp only [Act.put,xST]
       clear G U aa ar J R O S Q ak c8 bb c1 c2;refine tK 9 ?_;refine tK 10 ?_;clear B I;refine hdn ?_;simp only [xDR];go_wp2;go_ret2;have l:=aA.o;refine ⟨⟨gt,some b,rA,c,nA,names.length,nc,ae,ab,g2,bv,.slice (some ⟨aL,0,none⟩) (2*names.length+1) aK⟩,gs,cs,rfl,⟨rfl,rfl,rfl,rfl,rfl,rfl,⟨⟨1,none,0,0,false,l.blk,.inl ⟨1,false,rfl,by omega,by omega,rfl⟩⟩,l.mat,l.bas,?_,l.one,l.lo,rfl⟩,?_,l.book,l.chg,(fun i hi e=>l.sne i (by omega) (by rw [show g2 i=gs from e];rfl)),l.scl.heap rfl⟩⟩
       . show vJ _ _ _ _ _ (2*names.length+2 - 1) (yP (2*names.length+2 - 1) _)
         rw [show 2*names.length+2 - 1=2*names.length+1 by omega];exact l.oth
       . obtain ⟨A',cN,e1,e2,e3,e4⟩:=l.scl.nums
         obtain ⟨g9,e5,e6,e7⟩:=e4 hm0;injection e1 with e8 e9 e10
         rw [e5] at e8;injection e8 with e8
         injection e8 with e8
         subst e8;exact ⟨e6,e7⟩
  have cT:(i:Int)<(rows.length:Int):=by omega
  obtain ⟨ad,AT,nt,ct,eA,bg,p0,p1,ht,bu⟩:=l.o.rws.at_ ba;subst eA;obtain ⟨r,hr⟩:=uQ (rows[i]);have aN:rows.getD i default=r:=by rw [hr];simp [List.getD,List.getElem?_eq_getElem ba]
  have aD:=ze (cx.o r (by rw [hr];exact uO ba));have cn:=ze aN;rw [<- hr] at p1 ht bu;clear hr aN;obtain rfl:=ht.len;have cL:=ht.bound;have m:=zf wr (.cells #[.slice AT r.terms.length ct,str r.bound] 36);have E:=ze (Blk.new wr 36 #[.slice AT r.terms.length ct,str r.bound]);have y:=ze (zi.below ht m);have b0:=ze bu;replace l:=ze (l.o.below m);clear m ht bu
  go_upto_region 7 with fail
  clear p0 p1 bg;generalize wr.alloc (.cells #[.slice AT r.terms.length ct,str r.bound] 36)=W1 at E y l |-;generalize wr.heap.size=gr at E |-;obtain ⟨r0,r1,_⟩:=bq2 E;have bL:=zdg b AT r.terms.length ct r.bound r.terms W1 l.o.book (y.o.more l.o.chg.size) b0.o aD.o.ok;have ck:=ze bL;clear bL;go_wp2_with fail;refine ck.o.mono ?_;rintro e w2 ⟨v,rfl,hv,av,V⟩;obtain ⟨x2,A2,k2,c2,s2,rfl,_,_,_⟩:=hv.form;have aE:=l.o.book.keepBlk V E.o;replace y:=ze (l.o.book.keepT V y.o);replace l:=ze (l.o.read V av);have m:=zf w2 (.cells #[.int .i64 x2,.slice A2 k2 c2,.bool s2] 60);replace E:=ze (aE.below m aE.lt);replace y:=ze (zi.below y.o m);have b1:Hid (N<=w2.heap.size):=l.o.top;replace l:=ze (l.o.below m);have aB:=ze (Blk.new w2 60 #[.int .i64 x2,.slice A2 k2 c2,.bool s2]);have HV:=ze (hv.below m);clear m hv av V aE ck r0 r1
  go_upto_region 8 with fail
  generalize w2.alloc (.cells #[.int .i64 x2,.slice A2 k2 c2,.bool s2] 60)=W2 at E y l aB HV |-;generalize w2.heap.size=gs at aB b1 |-;obtain ⟨q0,q1,q2,_⟩:=bq3 aB;have m:=zf W2 (.cells #[.int .i64 x2,.slice A2 k2 c2,.bool s2] 60);have cj:=Blk.new W2 60 #[.int .i64 x2,.slice A2 k2 c2,.bool s2]
  have R:∀ (j:Nat) (u:Value),[Value.int .i64 x2,.slice A2 k2 c2,.bool s2][j]?=some u->(W2.alloc (.cells #[.int .i64 x2,.slice A2 k2 c2,.bool s2] 60)).cell? ((⟨W2.heap.size,0,none⟩:Addr).add j)=some u:=by
   intro j u hu
   have e:((⟨W2.heap.size,0,none⟩:Addr).add j)=⟨W2.heap.size,j,none⟩:=by
    unfold Addr.add
    by_cases h:j=0
    . subst h;rfl
    simp [h]
   rw [e,cj.cell j, <- hu]
   simp
  have O:∀ u∈[Value.int .i64 x2,.slice A2 k2 c2,.bool s2],u.oneCell' =true:=by intro u hu;simp at hu;rcases hu with rfl | rfl | rfl<;>rfl
  have S:∀ u∈[Value.int .i64 x2,.slice A2 k2 c2,.bool s2],Zp u:=by
   intro u hu;simp at hu;rcases hu with rfl | rfl | rfl
   . exact x8 _
   . exact zH _ _ _
   . exact Zl _
  have Q:∀ u∈(Value.agg #[.int .i64 0,.slice none 0 0,.bool false]).cells,Zp u:=by
   intro u hu;simp [Value.cells] at hu;rcases hu with rfl | rfl | rfl
   . exact x8 _
   . exact zH _ _ _
   . exact Zl _
  obtain ⟨i0,am,aj,ao,al⟩:=info_parts zjr;replace E:=kb_ E m;replace y:=ze (zi.below y.o m);replace l:=ze (l.o.below m);replace aB:=kb_ aB m;replace HV:=ze (HV.o.below m);obtain ⟨xs,b9,ce⟩:=l.o.scl;have bh:=ze b9;have ch:=ze ce;have aq:Hid (w.heap.size<=(W2.alloc (.cells #[.int .i64 x2,.slice A2 k2 c2,.bool s2] 60)).heap.size):=l.o.chg.size;clear m cj b9 ce;go_wp2_with (at_builtin;go_must (refine zS (P:=prog) rfl (.tmp 43) (.tmp 45) _ rfl w.heap.size 60 i0 _ 3 40 underlying126 am aj ao al rfl (by omega) _ i xs rfl bh.o ⟨W2.heap.size,0,none⟩ 1 1 [.int .i64 x2,.slice A2 k2 c2,.bool s2] rfl rfl (by omega) R O S Q ?o4 ?o5 ?o6 ?_))
  case o4=>unfold maxLen;omega
  case o5=>omega
  case o6=>exact aq.o
  intro bQ w3 bO a3 b5;clear R O S Q q0 q1 q2;have hP:vZ w3 w.heap.size bQ (i+1) (zlf rows):=vZ.push bh.o ch.o bO a3 HV.o (fun k hk=>rfl) (by show xz (rows.getD i default)=_;rw [cn.o];rfl);have bX:=fun x e=>l.o.scl.noDig (c:=x) e
  have aH:=xN a3;have cF:=aq.o;have a4:=aH.size
  have bK:Blk w3 gr 36 #[.slice AT r.terms.length ct,str r.bound]:=aH.blk E.o (fun e=>by
   obtain ⟨cs,k1⟩:=l.o.scl.heap e
   exact yZ E.o k1 (by decide) rfl)
  have bk:ZD w3 gs (xz r):=⟨_,_,_,_,_,aH.blk aB.o (fun e=>by have:=l.o.oN _ (.inr (.inr (.inr e)));have:=b1.o;omega),aH.num HV.o bX⟩;have bE:zi w3 w.heap.size (.slice AT r.terms.length ct) r.terms:=y.o.chg aH (fun x m e=>by have:=(l.o.scl.lt x e).1;omega);replace l:=ze (l.o.scales hP a3 (by rw [World.size_alloc];exact b5));replace E:=ze bK;replace y:=ze bE;have D:=ze bk;have bP:=ze bk.lt;obtain ⟨N1,bC⟩:=uQ w3.heap.size;rw [<- bC] at l bP;have bV:Hid (N1<=w3.heap.size):=Nat.le_of_eq bC;clear bC bX aH cF a4 bK bk bE hP bO a3 b5 aB HV bh ch aq;have r1:=E.o.cell 1;simp at r1;go_wp2_with fail;refine (bT.o _ l.o.book _ b0.o).mono ?_;rintro e Z ⟨v,ok,rfl,⟨x1,A1,k1,c1,s1,y1,B1,ay,az,t1,rfl⟩,bn,hq,av,V⟩;have aV:=hq _ (Xt aD.o.ok.bsome);have aE:=l.o.book.keepBlk V E.o;have aY:=l.o.book.keepBox V D.o;replace y:=ze (l.o.book.keepT V y.o);replace l:=ze (l.o.read V av);have bN:Hid (N1<=Z.heap.size):=uC bV.o V.size
  have m:=zf Z (.cells #[.int .i64 x1,.slice A1 k1 c1,.bool s1,.int .i64 y1,.slice B1 ay az,.bool t1] 62);replace E:=ze (aE.below m aE.lt);replace D:=ze (aY.below m);replace y:=ze (zi.below y.o m);replace l:=ze (l.o.below m);have ah:=ze (Blk.new Z 62 #[.int .i64 x1,.slice A1 k1 c1,.bool s1,.int .i64 y1,.slice B1 ay az,.bool t1]);have HQ:=ze (aV.below m);have ag:Hid (N1<=(Z.alloc (.cells #[.int .i64 x1,.slice A1 k1 c1,.bool s1,.int .i64 y1,.slice B1 ay az,.bool t1] 62)).heap.size):=uC bN.o m.size;clear m bn hq av V aV aE aY r1 bV bN
  go_upto_region 10 with fail
  generalize Z.alloc (.cells #[.int .i64 x1,.slice A1 k1 c1,.bool s1,.int .i64 y1,.slice B1 ay az,.bool t1] 62)=M at E D y l ah HQ ag |-;generalize Z.heap.size=gq at ah |-;have aS:=fun w=>zb6 .i64 (2*names.length+2) (by omega) w
  rw [cf.o] at aS
  go_upto_region 11 with fail
  have m:=zf M (.cells (yD (2*names.length+2)) 60);have C:=ze (zev M (2*names.length+2));replace E:=kb_ E m;have a6:=ze (show gs<M.heap.size from D.o.lt);replace D:=ze (D.o.below m);replace y:=ze (zi.below y.o m);replace l:=ze (l.o.below m);replace ah:=kb_ ah m;replace HQ:=ze (HQ.o.below m);clear m aS;generalize M.alloc (.cells (yD (2*names.length+2)) 60)=W6 at E D y l ah HQ C |-;generalize M.heap.size=gl at C ag a6 |-;obtain ⟨q0,q1,q2,q3,q4,q5,_⟩:=bq6 ah;obtain ⟨sx,sA,sn,sc,sg,aW,aP⟩:=D.o;obtain ⟨z0,z1,z2,_⟩:=bp3 aW;have aU:=zba _ _ _ _ W6 HQ.o aP aD.o.ok.blen (by have:=(aD.o.ok.fit r.terms.length (uA)).1;exact uC this (by omega));have aX:=ze aU;clear aW aP aU;go_wp2_with fail;refine aX.o.mono ?_;rintro e w7 ⟨v,rfl,hv,af⟩;clear q0 q1 q2 q3 q4 q5 z0 z1 z2 aX
  obtain ⟨x3,A3,k3,c3,s3,rfl,_,_,_⟩:=hv.form;replace E:=kb_ E af;replace D:=ze (D.o.below af);replace y:=ze (zi.below y.o af);replace l:=ze (l.o.below af);replace C:=ze (C.o.below af);obtain ⟨u0,u1,u2,s0,s1,s2⟩:=C.o.slots (k:=0) (by omega);have f0:=C.o.frozen (0*3);have f1:=C.o.frozen (0*3+1);have f2:=C.o.frozen (0*3+2);simp only [Nat.zero_mul,Nat.zero_add] at s0 s1 s2 f0 f1 f2;have bR:0<2*names.length+2:=by omega
  have aw:=vO (w:=w7) (g:=gl) (k:=0) (x:=x3) (A:=A3) (n:=k3) (c:=c3) (ng:=s3)
  have ac:Hid (xD (World.numAt w7 gl 0 x3 A3 k3 c3 s3) gl (2*names.length+2) (2*names.length+2) (ztl names (vQ (qOf r.bound) (xz r)) (xz r) r.terms 0)):=C.o.set bR hv (fun j hj=>by
   by_cases e:j=0
   . exact .inl ⟨e,by subst e;rfl⟩
   exact .inr ⟨e,hj,by show (if j=0 then _ else _)=_;rw [if_neg e]⟩)
  have an:∀ x,x=gl->N1<=x/\zK w7 x:=fun x e=>by subst e;exact ⟨ag.o,C.o.noDig⟩
  have ai:=ze (l.o.far aw an);have cq:=l.o.lo;have aT:=l.o.gtN;have a2:Hid (zi (World.numAt w7 gl 0 x3 A3 k3 c3 s3) w.heap.size (.slice AT r.terms.length ct) r.terms):=y.o.chg aw (fun x m e=>by have:=ag.o;omega)
  have aI:=ze (aw.blk E.o (fun e=>by
   obtain ⟨cs,k1⟩:=C.o.heap;rw [<- e] at k1
   exact yZ E.o k1 (by decide) rfl))
  have a1:=ze (D.o.chg aw (by have:=a6.o;omega) (fun x e=>(an x e).2));clear l y E C D aw an cq aT af hv ah HQ;simp only [World.numAt,Nat.zero_mul,Nat.zero_add] at ac ai a2 aI a1
  go_upto_region 12 with fail
  clear f0 f1 f2 s0 s1 s2 bR;generalize ((w7.setCell ⟨gl,0,none⟩ (.int .i64 x3)).setCell ⟨gl,1,none⟩ (.slice A3 k3 c3)).setCell ⟨gl,2,none⟩ (.bool s3)=W8 at ac ai a2 aI a1 |-;have r0:=(bq1 aI).1;go_wp2_with fail;clear r0 aI
  go_loopw [66] (BegI w b gt N1 gl gs (.slice (some ad) rows.length c) (.slice nA names.length nc) (.slice AT r.terms.length ct) rows names g i r mv bv bQ) (fun iv _=>r.terms.length - (intOf iv).toNat)
  case atStart=>exact ⟨0,uB,rfl,ai,a2,ac,a1⟩
  case round=>
   clear ac ai a2 a1;obtain ⟨t,ht,rfl,l,y,C,D⟩:=hrel
   by_cases a9:t<r.terms.length
   rotate_left
   . obtain rfl:r.terms.length=t:=by omega
     skip
     obtain ⟨u0,u1,u2,j0,j1,j2⟩:=C.o.slots bY.o;have f0:=C.o.frozen (Y*3);have f1:=C.o.frozen (Y*3+1);have f2:=C.o.frozen (Y*3+2);have aw:=vO (w:=wr) (g:=gl) (k:=Y) (x:=1) (A:=none) (n:=0) (c:=0) (ng:=false);have an:∀ x,x=gl->N1<=x/\zK wr x:=fun x e=>by subst e;exact ⟨ag.o,C.o.noDig⟩
     have cl:zM wr (.agg #[.int .i64 1,.slice none 0 0,.bool false]) 1:=.inl ⟨1,false,rfl,by omega,by omega,rfl⟩
     have ac:Hid (xD (World.numAt wr gl Y 1 none 0 0 false) gl (2*names.length+2) (2*names.length+2) (zph names r)):=C.o.set bY.o cl (fun j hj=>by
      have h1:=cE.o
      show (j=Y/\(if j=2*names.length+1 then _ else _)=_)\/(j≠Y/\j<_/\(if j=2*names.length+1 then _ else _)=_)
      rw [<- h1]
      by_cases e:j=Y
      . exact .inl ⟨e,if_pos e⟩
      exact .inr ⟨e,hj,if_neg e⟩)
     have ai:=ze (l.o.far aw an);clear l C y D aw an cl;simp only [World.numAt] at ac ai
     go_upto_region 21 with fail
     clear j0 j1 j2 f0 f1 f2;generalize ((wr.setCell ⟨gl,Y*3,none⟩ (.int .i64 1)).setCell ⟨gl,Y*3+1,none⟩ (.slice none 0 0)).setCell ⟨gl,Y*3+2,none⟩ (.bool false)=W2 at ac ai |-;have c3:W2.cell? ⟨gt,3,none⟩=some mv:=by rw [ai.o.blk.cell];rfl
     have m:=zf W2 (.cells #[.slice (some ⟨gl,0,none⟩) (2*names.length+2) (2*names.length+2)] 126);have J:=ze (ai.o.below m);have aQ:=ze (ac.o.below m);have aq:Hid (w.heap.size<=(W2.alloc (.cells #[.slice (some ⟨gl,0,none⟩) (2*names.length+2) (2*names.length+2)] 126)).heap.size):=J.o.chg.size;have R:=Xi (w:=W2) (t:=126) (v:=.slice (some ⟨gl,0,none⟩) (2*names.length+2) (2*names.length+2));have O:=vP (v:=.slice (some ⟨gl,0,none⟩) (2*names.length+2) (2*names.length+2)) (p:=fun u=>u.oneCell' =true) rfl;have S:=vP (v:=.slice (some ⟨gl,0,none⟩) (2*names.length+2) (2*names.length+2)) (p:=Zp) (zH _ _ _);have Q:∀ u∈(Value.slice none 0 0).cells,Zp u:=by intro u hu;simp [Value.cells] at hu;subst hu;exact zH _ _ _
     obtain ⟨i0,am,aj,ao,al⟩:=info_parts zgi;clear m ai ac;go_wp2_with (at_builtin;go_must (refine zS (P:=prog) rfl (.tmp 111) (.tmp 113) _ rfl w.heap.size 126 i0 _ 1 24 underlying133 am aj ao al rfl (by omega) _ i _ rfl J.o.mat.own ⟨W2.heap.size,0,none⟩ 1 1 [.slice (some ⟨gl,0,none⟩) (2*names.length+2) (2*names.length+2)] rfl rfl (by omega) R O S Q ?o4 ?o5 ?o6 ?_))
     case o4=>unfold maxLen;omega
     case o5=>omega
     case o6=>exact aq.o
     intro cp Z G U aa;obtain ⟨ae,ab,bp,_,_⟩:=G.1.form (by omega);subst bp;have au:=J.o.row aQ.o ag.o (fun j hj=>by unfold zsw;rw [if_pos ba,cn.o]) G U;have c4:Z.cell? ⟨gt,3,none⟩=some mv:=by rw [au.blk.cell];rfl
     have f4:=au.blk.frozen 3;have T:=ze (au.store 3 (xo G));rw [show (xp b (.slice (some ad) rows.length c) (.slice nA names.length nc) mv bv (.slice none 0 0)).setIfInBounds 3 (.slice (some ⟨ae,0,none⟩) (i+1) ab)=xp b (.slice (some ad) rows.length c) (.slice nA names.length nc) (.slice (some ⟨ae,0,none⟩) (i+1) ab) bv (.slice none 0 0) from rfl] at T;generalize Z.heap.size=N2 at T;generalize (fun j=>if j=i then gl else g j)=g2 at T;clear G U aa au J aQ aq R O S Q c3 ag a6 bP
     go_upto_region 22 with fail
     clear c4 f4;generalize Z.setCell ⟨gt,3,none⟩ (.slice (some ⟨ae,0,none⟩) (i+1) ab)=M at T |-;have b7:M.cell? ⟨gt,7,none⟩=some bv:=by rw [T.o.blk.cell];rfl
     have b2:M.cell? ⟨gt,2,none⟩=some (.slice nA names.length nc):=by rw [T.o.blk.cell];rfl
     have br:¬ bv.ownBlock=some gt:=fun e=>by
      obtain ⟨cs,k1⟩:=T.o.bas.heap e;exact yZ T.o.blk k1 (by decide) rfl
     obtain ⟨L,aG⟩:∃ L,L=2*names.length+i:=⟨_,rfl⟩;have bl:=fun w' (h:w'.cell? ⟨gt,2,none⟩=some (.slice nA names.length nc))=>zhs gt i nA names.length nc w' h (by omega) (by omega)
     rw [<- aG] at bl;have cg:=ze bl;have bm:=ze aG;clear bl aG;have I:∀ w',Hid (Chg (fun x=>bv.ownBlock=some x) M w')->w'.cell? ⟨gt,7,none⟩=some bv/\w'.cell? ⟨gt,2,none⟩=some (.slice nA names.length nc):=fun w' hB=>⟨xu hB b7 br,xu hB b2 br⟩
     refine xb I 7 5 12 (vj M) fun B=>?_;simp only [xDR]
     iterate 7 refine zP ?_
     refine zD ?_;refine rK 7 fun K hK=>?_
     go_simp
     go_at_call 111;refine (cg.o _ B.2.2).mono ?_;rintro e w9 ⟨rfl,rfl⟩;refine hK.out _ _ (zl (B.1) (I _)) ?_;clear hK K B;intro B
     try simp only [Act.put,xST]
     clear cg;refine rK 8 fun K hK=>?_
     go_simp
     have ap:=(vz M (.cells #[.int .i64 (L:Int)] 3)).out;have a5:=ze (T.o.below ap);have ax:Hid (Chg (fun x=>bv.ownBlock=some x) M (M.alloc (.cells #[.int .i64 (L:Int)] 3)).drew):=Chg.of_below ap;refine hK.out _ _ (zl (ax) (I _)) ?_;clear hK K B;intro B
     try simp only [Act.put,xST]
     clear ax ap T;have R:=Xi (w:=M) (t:=3) (v:=.int .i64 (L:Int));have O:=vP (v:=.int .i64 (L:Int)) (p:=fun u=>u.oneCell' =true) rfl;have S:=vP (v:=.int .i64 (L:Int)) (p:=Zp) (x8 _);have Q:∀ u∈(Value.int .i64 0).cells,Zp u:=by intro u hu;simp [Value.cells] at hu;subst hu;exact x8 _
     obtain ⟨i1,am,aj,ao,al⟩:=info_parts zg6;have ak:=a5.o.chg.size;refine HH.ready (rs:=[9]) (by kernel_rfl) (by simp) (by kernel_rfl) ?_;refine Za.cons (o:=_) rfl (fun K hK=>?_) Za.nil;rw [if_pos (by rfl)];refine xB (P:=prog) (.tmp 121) (.tmp 125) _ rfl w.heap.size 3 i1 _ 1 8 Tryz.underlyingInts am aj ao al rfl (by omega) _ i _ rfl a5.o.bas ⟨M.heap.size,0,none⟩ 1 1 [.int .i64 (L:Int)] rfl rfl (by omega) R O S Q (by unfold maxLen;omega) (by omega) ak ?_;intro cS w6 G U aa;obtain ⟨b6,bS,cu,_,_⟩:=G.1.form (by omega);subst cu;rw [show [Value.int .i64 (L:Int)]=[.int .i64 (zu9 names.length i:Nat)] by rw [bm.o];rfl,YM] at G;have a0:=a5.o.basic G U aa;have c7:w6.cell? ⟨gt,7,none⟩=some bv:=by rw [a0.blk.cell];rfl
     have f7:=a0.blk.frozen 7;have aA:=ze (a0.store 7 (xo G));rw [show ∀ mv:Value,(xp b (.slice (some ad) rows.length c) (.slice nA names.length nc) mv bv (.slice none 0 0)).setIfInBounds 7 (.slice (some ⟨b6,0,none⟩) (i+1) bS)=xp b (.slice (some ad) rows.length c) (.slice nA names.length nc) mv (.slice (some ⟨b6,0,none⟩) (i+1) bS) (.slice none 0 0) from fun _=>rfl] at aA;refine hK.out _ _ (zl (Zh (xN U) B.1) (I _)) ?_;clear hK K B;intro B
     try simp only [Act.put,xST]
     clear G U aa a0 a5 R O S Q ak b7 b2 br;refine tK 10 ?_;refine tK 11 ?_;clear B I;refine hdn ?_;simp only [xDR];go_wp2;go_roundw
     case rel=>exact ⟨i+1,_,_,_,_,_,by omega,by go_num,rfl,aA⟩
     case measure=>simp [intOf];omega
   have cU:(t:Int)<(r.terms.length:Int):=by omega
   obtain ⟨cP,eA,bg,p0,p1,cB,bJ⟩:=y.o.at_ a9;subst eA;have aN:=xGD (d:=default) a9;have aO:=ze (aD.o.nm _ (uO a9));have bW:=ze (aD.o.ok.good _ (uO a9));have bU:=ze aN;have ai:=ze bJ;have m:=zf wr (.cells #[str r.terms[t].name,str r.terms[t].coef] 38);have E:=ze (Blk.new wr 38 #[str r.terms[t].name,str r.terms[t].coef]);replace l:=ze (l.o.below m);replace y:=ze (zi.below y.o m);replace C:=ze (C.o.below m);replace D:=ze (D.o.below m);clear m cB bJ aN
   go_upto_region 15 with fail
   clear p0 p1 bg;generalize wr.alloc (.cells #[str r.terms[t].name,str r.terms[t].coef] 38)=W1 at E l y C D |-;generalize wr.heap.size=gtm at E |-;obtain ⟨p0,p1,_⟩:=bq2 E;have bc:=Ve nA names.length nc names r.terms[t].name w.heap.size _ W1 l.o.nms aO.o.lt aO.o.at_ aO.o.lo aO.o.hi (by omega);have cy:=aO.o.lt;obtain ⟨p,hp⟩:=uR (names.idxOf r.terms[t].name);have cH:Hid (VJ names r.terms t=p):=by show VJ _ _ _=_;unfold VJ;rw [bU.o];exact hp
   rw [hp] at bc cy;have cm:=ze bc;clear bc hp;go_wp2_with fail;refine cm.o.mono ?_;rintro e w9 ⟨rfl,rfl⟩;clear cm;go_wp2_with fail;refine (bT.o _ l.o.book _ ai.o).mono ?_;rintro e Z ⟨v,cR,rfl,⟨x1,A1,k1,c1,s1,y1,B1,ay,az,t1,rfl⟩,bn,hq,av,V⟩;have aV:=hq _ (Xt bW.o.1);have aY:=l.o.book.keepBox V D.o;have cw:=l.o.hb;have bB:=l.o.lo;have aT:=l.o.gtN;have b4:=C.o.chg V (by have:=ag.o;omega) (fun x e=>by subst e;exact l.o.book.noDig);replace y:=ze (l.o.book.keepT V y.o);replace l:=ze (l.o.read V av);have m:=zf Z (.cells #[.int .i64 x1,.slice A1 k1 c1,.bool s1,.int .i64 y1,.slice B1 ay az,.bool t1] 62);replace C:=ze (b4.below m);replace D:=ze (aY.below m);replace y:=ze (zi.below y.o m);replace l:=ze (l.o.below m);have ah:=ze (Blk.new Z 62 #[.int .i64 x1,.slice A1 k1 c1,.bool s1,.int .i64 y1,.slice B1 ay az,.bool t1]);have HQ:=ze (aV.below m);clear m bn hq av V aV b4 aY p0 p1 E cw bB aT
   go_upto_region 17 with fail
   generalize Z.alloc (.cells #[.int .i64 x1,.slice A1 k1 c1,.bool s1,.int .i64 y1,.slice B1 ay az,.bool t1] 62)=M at D y l ah HQ C |-;generalize Z.heap.size=gq at ah |-;obtain ⟨q0,q1,q2,q3,q4,q5,_⟩:=bq6 ah;obtain ⟨sx,sA,sn,sc,sg,aW,aP⟩:=D.o;obtain ⟨z0,z1,z2,_⟩:=bp3 aW;have aU:=zba _ _ _ _ M HQ.o aP bW.o.2 (by have:=(aD.o.ok.fit r.terms.length (uA)).1;exact uC this (by omega));have aX:=ze aU;clear aW aP aU;go_wp2_with fail;refine aX.o.mono ?_;rintro e w7 ⟨v,rfl,hv,af⟩;clear q0 q1 q2 q3 q4 q5 z0 z1 z2 aX ah HQ;obtain ⟨x4,A4,k4,c4,s4,rfl,_,_,_⟩:=hv.form;have cD:Hid (vQ (qOf r.terms[t].coef) (xz r)=YT (xz r) r.terms t):=by show _=_;unfold YT;rw [bU.o]
   rw [cD.o] at hv;have m:=ext af (zf w7 (.cells #[.int .i64 x4,.slice A4 k4 c4,.bool s4] 60));have cc:=zf w7 (.cells #[.int .i64 x4,.slice A4 k4 c4,.bool s4] 60);have aR:=ze (Blk.new w7 60 #[.int .i64 x4,.slice A4 k4 c4,.bool s4]);have be:Hid (M.heap.size<=w7.heap.size):=af.size;have cr:=ze C.o.lt;have cJ:=ze D.o.lt;replace C:=ze (C.o.below m);replace D:=ze (D.o.below m);replace y:=ze (zi.below y.o m);replace l:=ze (l.o.below m);have HV:=ze (hv.below cc);clear m cc hv af
   go_upto_region 18 with fail
   generalize w7.alloc (.cells #[.int .i64 x4,.slice A4 k4 c4,.bool s4] 60)=W7 at D y l C aR HV |-;generalize w7.heap.size=gv at aR be |-;obtain ⟨q0,q1,q2,_⟩:=bq3 aR;have vL:=aR.o.lt;obtain ⟨X,bM⟩:∃ K,K=1+2*p:=⟨_,rfl⟩;obtain ⟨K2,ci⟩:∃ K,K=2+2*p:=⟨_,rfl⟩;have e1:IntKind.i64.wrap (2*(p:Int))=2*(p:Int):=by rw [IntKind.wrap_i64];omega
   have e2:IntKind.i64.wrap (1+2*(p:Int))=(X:Int):=by rw [IntKind.wrap_i64];omega
   have e3:IntKind.i64.wrap (2+2*(p:Int))=(K2:Int):=by rw [IntKind.wrap_i64];omega
   have e4:(X:Int)<2*(names.length:Int)+2:=by omega
   have e5:(K2:Int)<2*(names.length:Int)+2:=by omega
   have e6:(0:Int)<=(X:Int):=by omega
   have e7:(0:Int)<=(K2:Int):=by omega
   have co:=ze bM;have aI:=ze ci;have a7:Hid (X<2*names.length+2/\K2<2*names.length+2):=⟨by omega,by omega⟩;clear bM ci;have a8:¬ gv=gl:=by have:=be.o;have:=cr.o;omega
   have I:∀ w',Hid (Chg (fun x=>x=gl) W7 w')->w'.cell? ⟨gv,0,none⟩=some (.int .i64 x4)/\w'.cell? ⟨gv,1,none⟩=some (.slice A4 k4 c4)/\w'.cell? ⟨gv,2,none⟩=some (.bool s4):=fun w' hB=>⟨xu hB q0 a8,xu hB q1 a8,xu hB q2 a8⟩
   refine xb I 9 4 13 (vj W7) fun B=>?_;simp only [xDR]
   iterate 9 refine zP ?_
   refine zD ?_;refine tK 10 ?_;refine rK 9 fun K hK=>?_
   go_simp
   go_at_call 81;refine (yK _ _ _ (HV.o.below (zw W7).out)).mono ?_;rintro e w8 ⟨v1,rfl,hv,aC⟩;have aM:Below W7.heap.size W7 w8:=ext (zw W7).out aC;have bo:=ze hv;replace C:=ze (C.o.below aM);replace D:=ze (D.o.below aM);replace y:=ze (zi.below y.o aM);replace l:=ze (l.o.below aM);replace HV:=ze (HV.o.below aM);clear hv aM;refine hK.out _ _ (zl (xM aC B.1) (I _)) ?_;clear hK K B;intro B
   try simp only [Act.put,xST]
   clear aC;obtain ⟨x5,A5,k5,c5,s5,rfl,_,_,_⟩:=bo.o.form;obtain ⟨u0,u1,u2,j0,j1,j2⟩:=C.o.slots a7.o.1;have f0:=C.o.frozen (X*3);have f1:=C.o.frozen (X*3+1);have f2:=C.o.frozen (X*3+2);have aJ:=vO (w:=w8) (g:=gl) (k:=X) (x:=x5) (A:=A5) (n:=k5) (c:=c5) (ng:=s5);have an:∀ x,x=gl->N1<=x/\zK w8 x:=fun x e=>by subst e;exact ⟨ag.o,C.o.noDig⟩
   have aF:Hid (xD (World.numAt w8 gl X x5 A5 k5 c5 s5) gl (2*names.length+2) (2*names.length+2) (fun j=>if j=X then -(YT (xz r) r.terms t) else ztl names (vQ (qOf r.bound) (xz r)) (xz r) r.terms t j)):=C.o.set a7.o.1 bo.o (fun j hj=>by
    by_cases e:j=X
    . exact .inl ⟨e,by rw [if_pos e]⟩
    exact .inr ⟨e,hj,by rw [if_neg e]⟩)
   have cd:=ze (aJ.num HV.o (fun x e=>(an x e).2));have bG:=ze (l.o.far aJ an);have bD:¬ gs=gl:=by have:=a6.o;omega
   have bF:=ze (D.o.chg aJ bD (fun x e=>(an x e).2));have cA:=l.o.chg.size;have bB:=l.o.lo;have aT:=l.o.gtN;have cb:=ze (y.o.chg aJ (fun x m e=>by have:=ag.o;omega));have aZ:=vO (w:=World.numAt w8 gl X x5 A5 k5 c5 s5) (g:=gl) (k:=K2) (x:=x4) (A:=A4) (n:=k4) (c:=c4) (ng:=s4);have bA:∀ x,x=gl->N1<=x/\zK (World.numAt w8 gl X x5 A5 k5 c5 s5) x:=fun x e=>by subst e;exact ⟨ag.o,aF.o.noDig⟩
   have ac:Hid (xD (World.numAt (World.numAt w8 gl X x5 A5 k5 c5 s5) gl K2 x4 A4 k4 c4 s4) gl (2*names.length+2) (2*names.length+2) (ztl names (vQ (qOf r.bound) (xz r)) (xz r) r.terms (t+1))):=aF.o.set a7.o.2 cd.o (fun j hj=>by
    have h1:=co.o;have h2:=aI.o;have h3:=cH.o
    show (j=K2/\(if j=1+2*VJ names r.terms t then _ else if j=2+2*VJ names r.terms t then _ else _)=_)\/(j≠K2/\j<_/\(if j=1+2*VJ names r.terms t then _ else if j=2+2*VJ names r.terms t then _ else _)=_)
    rw [h3, <- h1, <- h2]
    by_cases e:j=K2
    . exact .inl ⟨e,by rw [if_neg (by omega),if_pos e]⟩
    refine .inr ⟨e,hj,?_⟩
    by_cases e' :j=X
    . rw [if_pos e',if_pos e']
    rw [if_neg e',if_neg e,if_neg e'])
   obtain ⟨u3,u4,u5,j3,j4,j5⟩:=aF.o.slots a7.o.2;have f3:=aF.o.frozen (K2*3);have f4:=aF.o.frozen (K2*3+1);have f5:=aF.o.frozen (K2*3+2);have bf:=ze (bG.o.far aZ bA);have bq:=ze (bF.o.chg aZ bD (fun x e=>(bA x e).2));have bj:=ze (cb.o.chg aZ (fun x m e=>by have:=ag.o;omega));have bz:Hid (Chg (fun x=>x=gl) w8 (World.numAt w8 gl X x5 A5 k5 c5 s5)):=aJ;clear bG bF cb cd aF aJ aZ an bA l C y D HV bo bD cA bB aT aR vL be;simp only [World.numAt] at ac bf bq bj j3 j4 j5 f3 f4 f5 bz;refine tK 11 ?_;refine rK 12 fun K hK=>?_
   go_simp
   refine hK.out _ _ (zl (Zh bz.out B.1) (I _)) ?_;clear hK K B;intro B
   try simp only [Act.put,xST]
   clear bz;clear B I;refine hdn ?_;simp only [xDR];clear q0 q1 q2 a8;go_wp2;go_roundw
   case rel=>first | exact ⟨t+1,by omega,by go_num,bf,bj,ac,bq⟩ | ((repeat apply Exists.intro);exact ⟨⟨t+1,by omega,by go_num,bf,bj,ac,bq⟩,rfl⟩)
   case measure=>simp [intOf];omega
def FeaR (w0:World) (base m L:Nat) (F:zN) (T:y8) (lv iv:Value) (wr:World):Prop:=
 ∃ i:Nat,i<=m/\iv= .int .i64 (i:Nat)/\lv= .int .i64 (-1)/\Hid (zX base m L F wr T)/\Hid (Below w0.heap.size w0 wr)
def zu3 (base m L:Nat) (F:zN) (T:y8) (w:World) (e:Ending) (w' :World):Prop:=e= .returned (.bool true)/\zX base m L F w' T/\Below w.heap.size w w'
theorem zcv (base m L:Nat) (F:zN) (T:y8) (w:World) (hT:zX base m L F w T) (hp:∀ i,i<m->0<=T.cell i 0) (hm:m<=100000) (hL:L<=100000):
 Calls prog 72 #[.pointer (some ⟨F.gt,0,none⟩)] w (zu3 base m L F T w):=by
 have t1:=hT.cell1
 have HP:=ze hp
 have R:=ze (show 0<L by have:=hT.lt2;omega)
 have ad:=R.o
 have b:=ze hT
 have j:=ze (vG w)
 clear hT hp
 go_in
 go_wp2
 go_loopw [3,13] (FeaR w base m L F T) (fun _ iv _=>m - (intOf iv).toNat)
 case atStart=>exact ⟨0,uB,rfl,rfl,b,j⟩
 case round=>
  clear b j t1
  obtain ⟨i,hi,rfl,rfl,b,j⟩:=hrel
  by_cases aa:i<m
  rotate_left
  . obtain rfl:m=i:=by omega
    go_wp2;go_ret;exact ⟨by go_num,b.o,j.o⟩
  have ae:(i:Int)<(m:Int):=by omega
  have ab:(i:Int)<(m:Int)+1:=by omega
  have t3:=b.o.cell3;have t4:=b.o.mat.cell (i:=i) (by omega);obtain ⟨O,Z,U,J,Y,a0,E,G,V⟩:=b.o.mat.at_ (i:=i) (k:=0) (by omega) R.o;simp only [Nat.zero_mul,Nat.zero_add] at a0 E G;have Q:=b.o.lt;have I:=b.o.mat.lt.2;have r:=(b.o.mat.rows i (by omega)).2.lt;obtain ⟨C,N⟩:∃ C:Int,yj (T.cell i 0) 0=C:=⟨_,rfl⟩;have u:=zdl (z:=T.cell i 0);have D:=fun w' (h:zM w' (.agg #[.int .i64 O,.slice Z U J,.bool Y]) (T.cell i 0))=>YH _ _ w' h
  rw [N] at u D;have d1:decide (C<0)=false:=uF (fun h=>by have:=u.2 (HP.o i aa);omega);have M:=ze V;have S:=ze D;clear V N u D
  go_upto_region 5 with fail
  have y:∀ w',Hid (Below wr.heap.size wr w')->w'.cell? ⟨F.gt,3,none⟩=some (.slice (some ⟨F.gm,0,none⟩) (m+1) F.cm)/\w'.cell? ⟨F.gm,i,none⟩=some (.slice (some ⟨F.g i,0,none⟩) L L)/\w'.cell? ⟨F.g i,0,none⟩=some (.int .i64 O)/\w'.cell? ⟨F.g i,1,none⟩=some (.slice Z U J)/\w'.cell? ⟨F.g i,2,none⟩=some (.bool Y):=fun w' hB=>⟨zk hB Q t3,zk hB I t4,zk hB r a0,zk hB r E,zk hB r G⟩
  refine xb y 9 27 36 (zw wr) fun l=>?_;simp only [xDR]
  iterate 9 refine zP ?_
  refine zD ?_;refine rK 9 fun K hK=>?_
  go_simp
  go_at_call 46;refine (S.o _ (M.o.below l.1.out)).mono ?_;rintro e w1 ⟨rfl,X⟩;refine hK.out _ _ (zl (zo X l.1) (y _)) ?_;clear hK K l;intro l
  try simp only [Act.put,xST]
  clear X;refine tK 10 ?_;refine tK 11 ?_;refine sK 12 ?_;refine sK 13 ?_;refine sK 14 ?_;refine sK 15 ?_;refine sK 16 ?_;refine sK 17 ?_;refine sK 18 ?_;refine sK 19 ?_;refine sK 20 ?_;refine sK 21 ?_;refine sK 22 ?_;refine sK 23 ?_;refine sK 24 ?_;refine sK 25 ?_;refine sK 26 ?_;refine sK 27 ?_;refine sK 28 ?_;refine sK 29 ?_;refine sK 30 ?_;refine sK 31 ?_;refine sK 32 ?_;refine sK 33 ?_;refine sK 34 ?_;refine sK 35 ?_;have B:=(l.1).out;replace b:=ze (zX.below b.o B);replace j:=eb_ j B;clear B l y;refine hdn ?_;simp only [xDR];clear t3 t4 a0 E G Q I r M S;go_wp2;go_roundw
  case rel=>exact ⟨i+1,by omega,by go_num,rfl,b,j⟩
  case measure=>simp [intOf];omega
def zhw (g nn:Nat) (f:Nat->Rat) (w:World) (e:Ending) (w' :World):Prop:=e= .returned (.tuple #[])/\yX w' g nn nn f/\Chg (· =g) w w'
theorem zn7 (base m L:Nat) (F:zN) (T:y8) (bT bO g u:Nat) (f:Nat->Rat) (vx:Value) (q:Rat) (w:World) (hT:zX base m L F w T) (hb:w.cell? ⟨bT,0,none⟩=some (.pointer (some ⟨F.gt,0,none⟩))) (hr:yX w g F.nn F.nn f) (hx:zE w vx q)
 (hu:2*F.nn<=u) (hu2:u<=1000000):
 Calls prog 117 #[.int .i64 (u:Nat),vx,.pointer (some ⟨bT,0,none⟩),.pointer (some ⟨bO,0,none⟩)] w (zhw g F.nn f w):=by
 obtain ⟨r,e,k1,c1,s1,z,y,B,j,l,rfl,I,E⟩:=hx
 have b:=zf w (.cells #[.int .i64 r,.slice e k1 c1,.bool s1,.int .i64 z,.slice y B j,.bool l] 62)
 have D:=ze (hr.below b)
 have C:Hid (Chg (· =g) w (w.alloc (.cells #[.int .i64 r,.slice e k1 c1,.bool s1,.int .i64 z,.slice y B j,.bool l] 62))):=Chg.of_below b
 have c2:=(hT.below b).cell2
 have G :=(b.cell (p:=⟨bT,0,none⟩) (World.block_lt_of_cell? w _ hb)).trans hb
 have J:IntKind.i64.wrap (2*(F.nn:Int))=2*(F.nn:Int):=by rw [IntKind.wrap_i64];omega
 have d1:decide ((u:Int) ≥ 2*(F.nn:Int))=true:=by rw [decide_eq_true_iff];omega
 clear b hr hT I E hb
 go_in
 go_upto_region 1 with fail
 generalize w.alloc (.cells #[.int .i64 r,.slice e k1 c1,.bool s1,.int .i64 z,.slice y B j,.bool l] 62)=W at D C c2 G |-
 go_wp2
 go_end0
 exact ⟨rfl,D.o,C.o⟩
theorem zny (base m L:Nat) (F:zN) (T:y8) (bT bO g k u:Nat) (f:Nat->Rat) (vx:Value) (q:Rat) (w:World) (hT:zX base m L F w T) (hb:w.cell? ⟨bT,0,none⟩=some (.pointer (some ⟨F.gt,0,none⟩))) (ho:w.cell? ⟨bO,0,none⟩=some (.slice (some ⟨g,0,none⟩) F.nn F.nn))
 (hr:yX w g F.nn F.nn f) (hx:zE w vx q) (hu:u=2*k) (hk:k<F.nn) (hnn:F.nn<=100000) (hl1:xS 8388608 (f k)) (hl2:xS 8388608 q):
 Calls prog 117 #[.int .i64 (u:Nat),vx,.pointer (some ⟨bT,0,none⟩),.pointer (some ⟨bO,0,none⟩)] w (zhw g F.nn (fun j=>if j=k then f j+q else f j) w):=by
 obtain ⟨N,C,k1,c1,s1,l,M,E,G,I,rfl,ae,aa⟩:=hx
 have J:=zf w (.cells #[.int .i64 N,.slice C k1 c1,.bool s1,.int .i64 l,.slice M E G,.bool I] 62)
 have b:=ze (hr.below J)
 have O:Hid (Chg (· =g) w (w.alloc (.cells #[.int .i64 N,.slice C k1 c1,.bool s1,.int .i64 l,.slice M E G,.bool I] 62))):=Chg.of_below J
 have c2:=(hT.below J).cell2
 have ah :=(J.cell (p:=⟨bT,0,none⟩) (World.block_lt_of_cell? w _ hb)).trans hb
 have U :=(J.cell (p:=⟨bO,0,none⟩) (World.block_lt_of_cell? w _ ho)).trans ho
 have Q:=ze (Blk.new w 62 #[.int .i64 N,.slice C k1 c1,.bool s1,.int .i64 l,.slice M E G,.bool I])
 have HX:Hid (zE (w.alloc (.cells #[.int .i64 N,.slice C k1 c1,.bool s1,.int .i64 l,.slice M E G,.bool I] 62)) (.agg #[.int .i64 N,.slice C k1 c1,.bool s1,.int .i64 l,.slice M E G,.bool I]) q):=zE.below ⟨_,_,_,_,_,_,_,_,_,_,rfl,ae,aa⟩ J
 have aq:IntKind.i64.wrap (2*(F.nn:Int))=2*(F.nn:Int):=by rw [IntKind.wrap_i64];omega
 have d1:decide ((u:Int) ≥ 2*(F.nn:Int))=false:=by rw [decide_eq_false_iff_not];omega
 have e1:((u:Int).tmod 2)=0:=by rw [Int.tmod_eq_emod_of_nonneg (by omega)];omega
 have e2:((u:Int).tdiv 2)=(k:Int):=by rw [Int.tdiv_eq_ediv_of_nonneg (by omega)];omega
 have e3:(u:Int) % 2=0:=by omega
 have e4:(u:Int) / 2=(k:Int):=by omega
 have ar:(k:Int)<(F.nn:Int):=by omega
 have e5:IntKind.i64.wrap (k:Int)=(k:Int):=by rw [IntKind.wrap_i64];omega
 have e6:(0:Int)<=(k:Int):=by omega
 obtain ⟨ag,ad,V⟩:=hz3 hl1 hl2 hk
 clear J hr hT ae aa hb ho hu hl1 hl2
 go_in
 go_upto_region 1 with fail
 generalize w.alloc (.cells #[.int .i64 N,.slice C k1 c1,.bool s1,.int .i64 l,.slice M E G,.bool I] 62)=W at b O Q HX c2 ah U |-
 generalize w.heap.size=gx at Q |-
 go_upto_region 4 with fail
 clear c2 ah d1 aq
 have X:=U
 have oL:=World.block_lt_of_cell? W _ X
 obtain ⟨ax,aA,an,ac,al,ay,aB,aj,ao,at',a0,a1,a2,a3,a4,a5,ha⟩:=b.o.2 k V.o
 have z:=b.o.lt;obtain ⟨q0,q1,q2,q3,q4,q5,r⟩:=bq6 Q
 have HA:=ze ha
 clear ha U
 have R:∀ w',Hid (Below W.heap.size W w')->w'.cell? ⟨bO,0,none⟩=some (.slice (some ⟨g,0,none⟩) F.nn F.nn)/\w'.cell? ⟨g,k*6,none⟩=some (.int .i64 ax)/\w'.cell? ⟨g,k*6+1,none⟩=some (.slice aA an ac)/\w'.cell? ⟨g,k*6+2,none⟩=some (.bool al)/\w'.cell? ⟨g,k*6+3,none⟩=some (.int .i64 ay)/\w'.cell? ⟨g,k*6+4,none⟩=some (.slice aB aj ao)/\w'.cell? ⟨g,k*6+5,none⟩=some (.bool at')/\w'.cell? ⟨gx,0,none⟩=some (.int .i64 N)/\w'.cell? ⟨gx,1,none⟩=some (.slice C k1 c1)/\w'.cell? ⟨gx,2,none⟩=some (.bool s1)/\w'.cell? ⟨gx,3,none⟩=some (.int .i64 l)/\w'.cell? ⟨gx,4,none⟩=some (.slice M E G)/\w'.cell? ⟨gx,5,none⟩=some (.bool I):=fun w' hB=>⟨zk hB oL X,zk hB z a0,zk hB z a1,zk hB z a2,zk hB z a3,zk hB z a4,zk hB z a5,zk hB r q0,zk hB r q1,zk hB r q2,zk hB r q3,zk hB r q4,zk hB r q5⟩
 refine xb R 9 2 11 (zw W) fun D=>?_
 simp only [xDR]
 iterate 9 refine zP ?_
 refine zD ?_
 refine rK 9 fun K hK=>?_
 go_simp
 go_at_call 34
 refine (vT _ _ _ _ _ (HA.o.below D.1.out) (HX.o.below D.1.out) ag.o ad.o).mono ?_
 rintro e Y ⟨v1,rfl,hv,af⟩
 have Z:=ze hv
 clear hv
 refine hK.out _ _ (zl (zo af D.1) (R _)) ?_
 clear hK K D
 intro D
 try simp only [Act.put,xST]
 clear af
 refine tK 10 ?_
 have S:=(D.1).out
 replace b:=ze (yX.below b.o S)
 replace O:=ze (zC O.o S)
 clear S D R
 refine hdn ?_
 simp only [xDR]
 clear HA HX a0 a1 a2 a3 a4 a5 q0 q1 q2 q3 q4 q5 oL z r X Q ag ad
 obtain ⟨x,A,n,c,s,y,B,n',c',t,rfl,ai,ak⟩:=Z.o
 obtain ⟨u0,u1,u2,u3,u4,u5,s0,s1,s2,s3,s4,s5⟩:=b.o.slots V.o
 have f0:=b.o.frozen (k*6)
 have f1:=b.o.frozen (k*6+1)
 have f2:=b.o.frozen (k*6+2)
 have f3:=b.o.frozen (k*6+3)
 have f4:=b.o.frozen (k*6+4)
 have f5:=b.o.frozen (k*6+5)
 have ab:=Xf (w:=Y) (g:=g) (k:=k) (x:=x) (s:=s) (A:=A) (n:=n) (c:=c) (y:=y) (t:=t) (B:=B) (n' :=n') (c' :=c')
 have am:Hid (yX (World.ratAt Y g k x A n c s y B n' c' t) g F.nn F.nn (fun j=>if j=k then f j+q else f j)):=b.o.set V.o Z.o (fun j hj=>by
  by_cases e:j=k
  . exact .inl ⟨e,by subst e;rw [if_pos rfl]⟩
  exact .inr ⟨e,hj,by rw [if_neg e]⟩)
 have ap:Hid (Chg (· =g) w (World.ratAt Y g k x A n c s y B n' c' t)):=O.o.trans ab (fun _ _ h=>h)
 clear b O Z ab ai ak
 go_wp2
 go_end0
 exact ⟨rfl,am.o,ap.o⟩
def zc3 (T:y8) (nn:Nat):Nat->Nat->Rat
 | 0=>fun _=>0
 | i+1=>fun j=>if T.basic i<2*nn/\j=T.basic i / 2 then zc3 T nn i j+Rat.divInt (T.cell i 0) T.den else zc3 T nn i j
def VcA (w0:World) (n g bT bO gt:Nat) (iv:Value) (wr:World):Prop:=
 ∃ i:Nat,i<=n/\iv= .int .i64 i/\Hid (yX wr g n i (fun _=>0))/\Hid (Blk wr bT 125 #[.pointer (some ⟨gt,0,none⟩)])/\Hid (Blk wr bO 88 #[.slice (some ⟨g,0,none⟩) n n])/\Hid (Below w0.heap.size w0 wr)
def VcB (w0:World) (m n g bT bO gt:Nat) (T:y8) (iv:Value) (wr:World):Prop:=
 ∃ i:Nat,i<=m/\iv= .int .i64 i/\Hid (yX wr g n n (zc3 T n i))/\Hid (Blk wr bT 125 #[.pointer (some ⟨gt,0,none⟩)])/\Hid (Blk wr bO 88 #[.slice (some ⟨g,0,none⟩) n n])/\Hid (Below w0.heap.size w0 wr)
theorem zf1 (base m L:Nat) (F:zN) (T:y8) (w:World) (hT:zX base m L F w T) (hf:T.Fits m L) (hm:m<=100000) (hm0:0<m) (hL:L<=100000)
 (hb:∀ i,i<m->(2*F.nn<=T.basic i/\T.basic i<=1000000)\/∃ k,T.basic i=2*k/\k<F.nn) (hl:∀ i j,i<=m->j<F.nn->xS 8388608 (zc3 T F.nn i j)) (hv:∀ i,i<m->xS 8388608 (Rat.divInt (T.cell i 0) T.den)):
 Calls prog 77 #[.pointer (some ⟨F.gt,0,none⟩),.int .i64 0] w (zq4 F.nn (zc3 T F.nn m) w):=by
 have aC:F.nn<=100000:=by have:=hT.cols;omega
 have aM:=fun w=>zfg .i64 F.nn aC w
 have aa:=zf w (.cells #[.pointer (some ⟨F.gt,0,none⟩)] 125)
 have b:=ze (Blk.new w 125 #[.pointer (some ⟨F.gt,0,none⟩)])
 obtain ⟨X,HF,HB,HL,HV,u⟩:=hz6 hT hf hb hl hv aa
 have c2:=(hT.below aa).cell2
 clear hT hf hb hl hv aa
 go_in
 go_upto_region 1 with fail
 generalize w.alloc (.cells #[.pointer (some ⟨F.gt,0,none⟩)] 125)=D at b u c2 |-
 have aK:Hid (w.heap.size<=w.heap.size):=uA
 generalize az:w.heap.size=bT at b |-
 have aQ:Hid (w.heap.size<=bT):=Nat.le_of_eq az
 clear az aK;have Z:=(bq1 b).1
 go_upto_region 2 with fail
 have hx:=ext (zf D (.cells (vf F.nn) 62)) (zf _ (.cells #[.slice (some ⟨D.heap.size,0,none⟩) F.nn F.nn] 88))
 have au:=(zis D F.nn (fun _=>0)).below (zf _ (.cells #[.slice (some ⟨D.heap.size,0,none⟩) F.nn F.nn] 88))
 have ad:=Blk.new (D.alloc (.cells (vf F.nn) 62)) 88 #[.slice (some ⟨D.heap.size,0,none⟩) F.nn F.nn]
 simp only [World.size_alloc] at ad
 have l:=ze au
 have r:=ze ad
 replace b:=kb_ b hx
 have HG:Hid (w.heap.size<=D.heap.size):=u.o.size
 replace u:=eb_ u hx
 clear hx au ad aM c2 Z
 generalize (D.alloc (.cells (vf F.nn) 62)).alloc (.cells #[.slice (some ⟨D.heap.size,0,none⟩) F.nn F.nn] 88)=W3 at l r b u |-
 generalize aO:D.heap.size+1=bO at r |-
 have ab:Hid (D.heap.size≠bO):=by show _≠_;omega
 clear aO
 generalize D.heap.size=g at l r HG ab |-
 have G:=(bq1 r).1
 go_wp2_with fail
 clear G
 go_loopw [18] (VcA w F.nn g bT bO F.gt) (fun iv _=>F.nn - (intOf iv).toNat)
 case atStart=>exact ⟨0,uB,rfl,l,b,r,u⟩
 case round=>
  clear l b r u
  obtain ⟨i,hi,rfl,l,b,r,u⟩:=hrel
  by_cases ay:i<F.nn
  . have aP:(i:Int)<(F.nn:Int):=by omega
    have G:=(bq1 r).1;have I:=r.o.lt
    go_upto_region 5 with fail
    have J:∀ w',Hid (Below wr.heap.size wr w')->w'.cell? ⟨bO,0,none⟩=some (.slice (some ⟨g,0,none⟩) F.nn F.nn):=fun w' hB=>zk hB I G
    refine xb J 2 2 4 (zw wr) fun z=>?_;simp only [xDR]
    iterate 2 refine zP ?_
    refine zD ?_;refine rK 2 fun K hK=>?_
    go_simp
    go_at_call 45;refine (Ze 0 _ (by omega) (by omega)).mono ?_;rintro e w1 ⟨v,rfl,S,O⟩;have M:=ze S;clear S;refine hK.out _ _ (zl (zo O z.1) (J _)) ?_;clear hK K z;intro z
    try simp only [Act.put,xST]
    clear O;refine tK 3 ?_;clear G I;have E:=(z.1).out
    try clear t0 R G I
    replace l:=ze (yX.below l.o E);replace b:=kb_ b E;replace r:=kb_ r E;replace u:=eb_ u E;clear E z J;refine hdn ?_;simp only [xDR];obtain ⟨t0,R⟩:=zvn b.o;obtain ⟨G,I⟩:=zvn r.o;clear t0 R G I;obtain ⟨x,A,k,c,s,y,B,k',c',t,rfl,aI,aN⟩:=M.o;obtain ⟨u0,u1,u2,u3,u4,u5,s0,s1,s2,s3,s4,s5⟩:=l.o.slots ay;have f0:=l.o.frozen (i*6);have f1:=l.o.frozen (i*6+1);have f2:=l.o.frozen (i*6+2);have f3:=l.o.frozen (i*6+3);have f4:=l.o.frozen (i*6+4);have f5:=l.o.frozen (i*6+5);have U:=Xf (w:=w1) (g:=g) (k:=i) (x:=x) (s:=s) (A:=A) (n:=k) (c:=c) (y:=y) (t:=t) (B:=B) (n' :=k') (c' :=c')
    have ap:Hid (yX (World.ratAt w1 g i x A k c s y B k' c' t) g F.nn (i+1) (fun _=>0)):=l.o.set ay M.o (fun j hj=>by
     by_cases e:j=i
     . exact .inl ⟨e,rfl⟩
     exact .inr ⟨e,by omega,rfl⟩)
    have Q:∀ t cs,Blk w1 bT t cs->t≠62->¬ bT=g:=fun t cs h hne e=>by
     subst e;obtain ⟨aF,k1⟩:=l.o.heap;exact yZ h k1 hne rfl
    have aw:=ze (U.blk b.o (Q _ _ b.o (by decide)));have aq:=ze (U.blk r.o (by have:=ab.o;omega));have al:=ze (XM u.o U HG.o);clear l b r u U aI aN M Q;go_wp2;go_roundw
    case rel=>first | exact ⟨i+1,by omega,by go_num,ap,aw,aq,al⟩ | ((repeat apply Exists.intro);exact ⟨⟨i+1,by omega,by go_num,ap,aw,aq,al⟩,rfl⟩)
    case measure=>simp [intOf];omega
  obtain rfl:F.nn=i:=by omega
  skip
  have Z:=(bq1 b).1;obtain ⟨gb,cb,aJ,aB,ah⟩:=X.o.basics hm0;have t7:=(X.o.below u.o).cell7;rw [aJ] at t7;have aG:=ze (fun wr (h:Below w.heap.size w wr) i (hi:i<m)=>(h.cell (p:=⟨gb,i,none⟩) aB).trans (ah i hi));clear aB ah;go_wp2_with fail;clear Z t7
  go_loopw [32] (VcB w m F.nn g bT bO F.gt T) (fun iv _=>m - (intOf iv).toNat)
  case atStart=>exact ⟨0,uB,rfl,l,b,r,u⟩
  case round=>
   clear l b r u;obtain ⟨i,hi,rfl,l,b,r,u⟩:=hrel
   by_cases af:i<m
   rotate_left
   . obtain rfl:m=i:=by omega
     have G:=(bq1 r).1;go_wp2;go_ret;exact ⟨g,rfl,l.o,u.o⟩
   have aP:(i:Int)<(m:Int):=by omega
   have aR:(i:Int)<(m:Int)+1:=by omega
   have C:=ze (X.o.below u.o);have p1:=aG.o _ u.o i af;have N:=X.o.lt2;have t0:=(bq1 b).1;have t3:=C.o.cell3;have t4:=C.o.mat.cell (i:=i) (by omega);obtain ⟨ax,aA,an,ac,ag,a0,a1,a2,ha⟩:=C.o.mat.at_ (i:=i) (k:=0) (by omega) (by omega);simp only [Nat.zero_mul,Nat.zero_add] at a0 a1 a2;have aH:0<L:=by omega
   have bL:=b.o.lt;have R:=C.o.lt;have mL:=C.o.mat.lt.2;have V:=(C.o.mat.rows i (by omega)).2.lt;have HA:=ze ha;have aD:=ze (HF.o.cell i 0 (by omega) (by omega));have ak:Hid (T.den≠0):=by have:=HF.o.den;show _≠_;omega
   clear ha
   go_upto_region 11 with fail
   clear p1;have ao:=b;clear b;have J:∀ w',Hid (Below wr.heap.size wr w')->w'.cell? ⟨bT,0,none⟩=some (.pointer (some ⟨F.gt,0,none⟩))/\w'.cell? ⟨F.gt,3,none⟩=some (.slice (some ⟨F.gm,0,none⟩) (m+1) F.cm)/\w'.cell? ⟨F.gm,i,none⟩=some (.slice (some ⟨F.g i,0,none⟩) L L)/\w'.cell? ⟨F.g i,0,none⟩=some (.int .i64 ax)/\w'.cell? ⟨F.g i,1,none⟩=some (.slice aA an ac)/\w'.cell? ⟨F.g i,2,none⟩=some (.bool ag):=fun w' hB=>⟨zk hB bL t0,zk hB R t3,zk hB mL t4,zk hB V a0,zk hB V a1,zk hB V a2⟩
   refine xb J 13 1 14 (zw wr) fun z=>?_;simp only [xDR]
   iterate 13 refine zP ?_
   refine zD ?_;refine rK 13 fun K hK=>?_
   go_simp
   go_at_call 118;refine (zia base m L F T _ _ _ (C.o.below z.1.out) (HA.o.below z.1.out) (aD.o.le2 (by omega)) HF.o.fden ak.o).mono ?_;rintro e w1 ⟨v,rfl,S,O⟩;have M:=ze S;clear S;have b:=ze (ao.o.below (ext z.1.out O) ao.o.lt);refine hK.out _ _ (zl (zo O z.1) (J _)) ?_;clear hK K z;intro z
   try simp only [Act.put,xST]
   clear O;have E:=(z.1).out
   try clear G I
   replace l:=ze (yX.below l.o E);replace r:=kb_ r E;replace u:=eb_ u E;replace C:=ze (zX.below C.o E);clear E z J;refine hdn ?_;simp only [xDR];obtain ⟨G,I⟩:=zvn r.o;clear aH t0 t3 t4 a0 a1 a2 bL R mL V HA aD ak N I G;have aE:=HB.o i af;have ae:=(bq1 b).1;have ai:=(bq1 r).1
   have av:Calls prog 117 #[.int .i64 (T.basic i:Nat),v,.pointer (some ⟨bT,0,none⟩),.pointer (some ⟨bO,0,none⟩)] w1 (zhw g F.nn (zc3 T F.nn (i+1)) w1):=by
    rcases aE with ⟨h1,N⟩ | ⟨k,h1,N⟩
    . have e:zc3 T F.nn (i+1)=zc3 T F.nn i:=by
       funext j
       show (if T.basic i<2*F.nn/\j=T.basic i / 2 then _ else _)=_
       rw [if_neg (by omega)]
      rw [e];exact zn7 base m L F T bT bO g (T.basic i) _ v _ w1 C.o ae l.o M.o h1 N
    . have e:zc3 T F.nn (i+1)=fun j=>if j=k then zc3 T F.nn i j+Rat.divInt (T.cell i 0) T.den else zc3 T F.nn i j:=by
       funext j
       show (if T.basic i<2*F.nn/\j=T.basic i / 2 then _ else _)=_
       by_cases ej:j=k
       . rw [if_pos (by omega),if_pos ej]
       rw [if_neg (by omega),if_neg ej]
      rw [e];exact zny base m L F T bT bO g k (T.basic i) _ v _ w1 C.o ae ai l.o M.o h1 N aC (HL.o i k (by omega) N) (HV.o i af)
   have ar:=ze av;clear aE ae ai av M
   have Q:∀ t cs,Blk w1 bT t cs->t≠62->¬ bT=g:=fun t cs h hne e=>by
    subst e;obtain ⟨aF,k1⟩:=l.o.heap;exact yZ h k1 hne rfl
   have am:=ze (Q _ _ b.o (by decide));clear Q l C;go_wp2_with fail;refine ar.o.mono ?_;rintro e w2 ⟨rfl,aj,Y⟩;have l:=ze aj;replace b:=ze (Y.blk b.o am.o);replace r:=ze (Y.blk r.o (by have:=ab.o;omega));replace u:=ze (XM u.o Y HG.o);clear aj Y ar am;go_wp2;go_roundw
   case rel=>first | exact ⟨i+1,by omega,by go_num,l,b,r,u⟩ | ((repeat apply Exists.intro);exact ⟨⟨i+1,by omega,by go_num,l,b,r,u⟩,rfl⟩)
   case measure=>simp [intOf];omega
end Go.Proofs.YtofmkndhocinmaaGreatDoor
