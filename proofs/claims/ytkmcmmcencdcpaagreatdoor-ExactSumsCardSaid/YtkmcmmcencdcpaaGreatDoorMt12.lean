/- Parts of the proof: memory, numbers, walks of the functions that are called. -/
import Derived.LoopN
import Derived.Test.YtkmcmmcencdcpaaGreatDoorMt11
set_option linter.unusedVariables false
set_option linter.unusedSimpArgs false
set_option maxRecDepth 100000
set_option maxHeartbeats 32000000
namespace Go.Proofs.YtkmcmmcencdcpaaGreatDoor
open Go.RowKit Go.Deep
def zR (w:World) (v:Value) (z:Int):Prop:=
 (∃ x ng,v= .agg #[.int .i64 x,.slice none 0 0,.bool ng]/\ -4611686018427387904<x/\x<4611686018427387904/\z=x)\/
 (∃ ad k c n ng,v= .agg #[.int .i64 0,.slice (some ad) k c,.bool ng]/\y6 w (.slice (some ad) k c) n/\4611686018427387904<=n/\z=if ng=true then -(n:Int) else n)
theorem zR.below {w w' :World} {v:Value} {z:Int} (h:zR w v z) (hb:Below w.heap.size w w'):zR w' v z:=by
 rcases h with h | ⟨ad,k,c,n,ng,h1,h2,h3,h4⟩
 . exact .inl h
 . exact .inr ⟨ad,k,c,n,ng,h1,y6.below h2 hb,h3,h4⟩
def ZK (w:World) (z:Int) (e:Ending) (w' :World):Prop:=∃ v,e= .returned v/\zR w' v z/\Below w.heap.size w w'
def VS (w:World) (z:Int) (e:Ending) (w' :World):Prop:=∃ v,e= .returned (.tuple #[.bool (decide (z<0)),v])/\y6 w' v z.natAbs/\Below w.heap.size w w'
theorem zqz (w:World) (a:Option Addr) (n c n' c' :Nat):(binOp .neq 89 (.slice a n c) (.slice none n' c')).run Tryz.prog w= .ok (.bool (!a.isNone)) w:=
 run_neq_slice_nil_any w _ _ a n c n' c' Tryz.underlying89
theorem zjt (w:World) (a:Option Addr) (n c n' c' :Nat):(binOp .eql 89 (.slice a n c) (.slice none n' c')).run Tryz.prog w= .ok (.bool a.isNone) w:=
 Lib.run_eql_slice_nil w _ _ a n c n' c' Tryz.underlying89
theorem Xe (x:Int) (g:Value) (ng:Bool) (w:World) (h1: -4611686018427387904<x) (h2:x<4611686018427387904):
 Calls Tryz.prog 175 #[.agg #[.int .i64 x,g,.bool ng]] w (Vc w (.int .u64 (x.natAbs:Nat))):=by
 by_cases h:x<0
 . have e:(x.natAbs:Int)= -x:=by omega
   rw [e];clear e
   go_enter Tryz.func175,Tryz.ntmps175
   go_wp2;go_ret;exact ⟨by go_num,zf _ _⟩
 . have e:(x.natAbs:Int)=x:=by omega
   rw [e];clear e
   go_enter Tryz.func175,Tryz.ntmps175
   go_wp2;go_ret;exact ⟨by go_num,zf _ _⟩
theorem Yr (v:Value) (z:Int) (w:World) (h:zR w v z):
 Calls Tryz.prog 108 #[v] w (Vc w (.int .i64 (zK z 0))):=by
 rcases h with ⟨x,ng,rfl,h1,h2,rfl⟩ | ⟨ad,k,c,n,ng,rfl,hn,h3,rfl⟩
 . have q0:=fun w=>zqz w none 0 0 0 0
   have HC:Hid (zK z 0=if z<0 then -1 else if 0<z then 1 else 0):=rfl
   rcases Int.lt_trichotomy z 0 with h | h | h
   . go_enter Tryz.func108,Tryz.ntmps108
     go_wp2;go_ret;exact ⟨by rw [HC.out,if_pos (by omega)];rfl,zf _ _⟩
   . subst h
     go_enter Tryz.func108,Tryz.ntmps108
     go_wp2;go_ret;exact ⟨by rw [HC.out];rfl,zf _ _⟩
   . go_enter Tryz.func108,Tryz.ntmps108
     go_wp2;go_ret;exact ⟨by rw [HC.out,if_neg (by omega),if_pos (by omega)];rfl,zf _ _⟩
 . have q0:=fun w=>zqz w (some ad) k c 0 0
   cases ng with
   | true=>
     have HC:Hid (zK (if (true:Bool)=true then -(n:Int) else n) 0= -1):=by show _=_;simp only [if_true];unfold zK;rw [if_pos (by omega)]
     rw [HC.out];clear h3
     go_enter Tryz.func108,Tryz.ntmps108
     go_wp2;go_ret;exact ⟨rfl,zf _ _⟩
   | false=>
     have HC:Hid (zK (if (false:Bool)=true then -(n:Int) else n) 0=1):=by show _=_;simp only [Bool.false_eq_true,if_false];unfold zK;rw [if_neg (by omega),if_pos (by omega)]
     rw [HC.out];clear h3
     go_enter Tryz.func108,Tryz.ntmps108
     go_wp2;go_ret;exact ⟨rfl,zf _ _⟩
theorem yW (v:Value) (z:Int) (w:World) (h:zR w v z):
 Calls Tryz.prog 161 #[v] w (ZK w (-z)):=by
 rcases h with ⟨x,ng,rfl,h1,h2,rfl⟩ | ⟨ad,k,c,n,ng,rfl,hn,h3,rfl⟩
 . have q0:=fun w=>zqz w none 0 0 0 0
   go_enter Tryz.func161,Tryz.ntmps161
   go_wp2;refine bodyPost_ret (v:=.agg #[.int .i64 (-z),.slice none 0 0,.bool false]) (by simp [results,Tryz.results161,go_sem]) rfl ?_;exact ⟨_,rfl,.inl ⟨_,_,rfl,by omega,by omega,rfl⟩,ext (zf _ _) (zf _ _)⟩
 . have q0:=fun w=>zqz w (some ad) k c 0 0
   have H3:=ze h3;clear h3;have hb:Below w.heap.size w ((w.alloc (.cells #[.int .i64 0,.slice (some ad) k c,.bool ng] 91)).alloc (.cells #[.int .i64 0,.slice (some ad) k c,.bool (!ng)] 91)):=ext (zf _ _) (zf _ _)
   have hf:zR ((w.alloc (.cells #[.int .i64 0,.slice (some ad) k c,.bool ng] 91)).alloc (.cells #[.int .i64 0,.slice (some ad) k c,.bool (!ng)] 91)) (.agg #[.int .i64 0,.slice (some ad) k c,.bool (!ng)]) (-(if ng=true then -(n:Int) else n)):=
    .inr ⟨ad,k,c,n, !ng,rfl,y6.below hn hb,H3.out,by cases ng<;>simp⟩
   clear hn;generalize hz: -(if ng=true then -(n:Int) else n)=z at hf |-;clear hz
   cases ng with
   | true=>
     go_enter Tryz.func161,Tryz.ntmps161
     go_wp2;refine bodyPost_ret (v:=.agg #[.int .i64 0,.slice (some ad) k c,.bool false]) (by simp [results,Tryz.results161,go_sem]) rfl ?_;exact ⟨_,rfl,hf,hb⟩
   | false=>
     go_enter Tryz.func161,Tryz.ntmps161
     go_wp2;refine bodyPost_ret (v:=.agg #[.int .i64 0,.slice (some ad) k c,.bool true]) (by simp [results,Tryz.results161,go_sem]) rfl ?_;exact ⟨_,rfl,hf,hb⟩
theorem zj {g i:Nat} {v:Value} {w w' :World} (hb:Below w.heap.size w w') (hl:g<w.heap.size) (h:w.cell? ⟨g,i,none⟩=some v):w'.cell? ⟨g,i,none⟩=some v:=(hb.cell hl).trans h
theorem zE {g:Nat} {w w' :World} (hb:Below w.heap.size w w') (hl:g<w.heap.size):g<w'.heap.size:=Nat.lt_of_lt_of_le hl hb.size
theorem zt {w0 w w' :World} (hb:Below w.heap.size w w') (h:Hid (Below w0.heap.size w0 w)):Hid (Below w0.heap.size w0 w'):=ext h.out hb
theorem vW (v:Value) (z:Int) (w:World) (h:zR w v z):
 Calls Tryz.prog 149 #[v] w (VS w z):=by
 rcases h with ⟨x,ng,rfl,h1,h2,rfl⟩ | ⟨ad,k,c,n,ng,rfl,hn,h3,rfl⟩
 . have q0:=fun w=>zqz w none 0 0 0 0
   have hs:=fun w=>Xe z (.slice none 0 0) ng w h1 h2
   have hz:z.natAbs<18446744073709551616:=by omega
   have hw:=fun w=>zjf z.natAbs hz w
   clear hz h1 h2
   go_enter Tryz.func149,Tryz.ntmps149
   go_wp2_with fail
   go_region_held3 (fun w' =>w'.cell? ⟨w.heap.size,0,none⟩=some (.int .i64 z)/\w'.cell? ⟨w.heap.size,1,none⟩=some (.slice none 0 0)/\w'.cell? ⟨w.heap.size,2,none⟩=some (.bool ng)/\w.heap.size<w'.heap.size/\Hid (Below w.heap.size w w'))
    (first
      | exact ⟨by go_keep,by go_keep,by go_keep,by go_keep,ze (zl (zf _ _) 1)⟩
      | go_keep
      | (go_split_ands;exact ⟨zj ‹_› ‹_› ‹_›,zj ‹_› ‹_› ‹_›,zj ‹_› ‹_› ‹_›,zE ‹_› ‹_›,zt ‹_› ‹_›⟩))
    (first
      | (refine (hs _).mono ?_;rintro e w1 ⟨rfl,hb1⟩)
      | (refine (hw _).mono ?_;rintro e w2 ⟨v2,rfl,hv2,hb2⟩))
   all_goals
    go_wp2;go_ret2;go_split_ands;exact ⟨v2,rfl,hv2,zI ‹_›⟩
 . have q0:=fun w=>zqz w (some ad) k c 0 0
   have e1:(if ng=true then -(n:Int) else n).natAbs=n:=by cases ng<;>simp
   have e2:decide ((if ng=true then -(n:Int) else n)<0)=ng:=by cases ng<;>simp<;>omega
   have hp:∀ e w',(e= .returned (.tuple #[.bool ng,.slice (some ad) k c])/\Below w.heap.size w w')->VS w (if ng=true then -(n:Int) else n) e w' :=by
    rintro e w' ⟨rfl,hb⟩;exact ⟨_,by rw [e2],by rw [e1];exact y6.below hn hb,hb⟩
   refine Calls.mono ?_ hp;clear e1 e2 hp hn h3
   cases ng with
   | true=>
     go_enter Tryz.func149,Tryz.ntmps149
     go_wp2_with fail
     go_quiet (fail)
     go_wp2;go_ret2;exact ⟨rfl,zl (zf _ _) _⟩
   | false=>
     go_enter Tryz.func149,Tryz.ntmps149
     go_wp2_with fail
     go_quiet (fail)
     go_wp2;go_ret2;exact ⟨rfl,zl (zf _ _) _⟩
def signed (ng:Bool) (n:Nat):Int:=if ng=true then -(n:Int) else n
theorem zr3 (ng:Bool) (A:Option Addr) (c:Nat) (w:World):Calls Tryz.prog 126 #[.bool ng,.slice A 0 c] w (ZK w (signed ng 0)):=by
 cases ng with
 | true=>
   go_enter Tryz.func126,Tryz.ntmps126
   go_wp2;refine wp_loop_rounds 1 ?_;rw [rounds_succ];go_wp2;refine bodyPost_ret (v:=.agg #[.int .i64 (0),.slice none 0 0,.bool false]) (by simp [results,Tryz.results126,go_sem]) rfl ?_;exact ⟨_,rfl,.inl ⟨_,_,rfl,by omega,by omega,rfl⟩,zf _ _⟩
 | false=>
   go_enter Tryz.func126,Tryz.ntmps126
   go_wp2;refine wp_loop_rounds 1 ?_;rw [rounds_succ];go_wp2;refine bodyPost_ret (v:=.agg #[.int .i64 (0),.slice none 0 0,.bool false]) (by simp [results,Tryz.results126,go_sem]) rfl ?_;exact ⟨_,rfl,.inl ⟨_,_,rfl,by omega,by omega,rfl⟩,zf _ _⟩
theorem zrr (ng:Bool) (ad:Addr) (c d:Nat) (w:World) (hd:d<4294967296) (hb:ad.block<w.heap.size) (hc:w.cell? ad=some (.int .u32 d)):Calls Tryz.prog 126 #[.bool ng,.slice (some ad) 1 c] w (ZK w (signed ng d)):=by
 have hor:bits .or .u64 0 (d:Int)=(d:Int):=by
  have:=u64_or_nat 0 d (by omega) (by omega)
  rw [Nat.zero_or] at this
  exact this
 have hI:(d:Int)<4611686018427387904:=by omega
 have hD:decide ((d:Int)<4611686018427387904)=true:=decide_eq_true hI
 cases ng with
 | true=>
   go_enter Tryz.func126,Tryz.ntmps126
   go_wp2;refine wp_loop_rounds 2 ?_;rw [rounds_succ];go_wp2;rw [rounds_succ];go_wp2;refine bodyPost_ret (v:=.agg #[.int .i64 (-d),.slice none 0 0,.bool false]) (by simp [results,Tryz.results126,go_sem]) rfl ?_;exact ⟨_,rfl,.inl ⟨_,_,rfl,by omega,by omega,rfl⟩,zf _ _⟩
 | false=>
   go_enter Tryz.func126,Tryz.ntmps126
   go_wp2;refine wp_loop_rounds 2 ?_;rw [rounds_succ];go_wp2;rw [rounds_succ];go_wp2;refine bodyPost_ret (v:=.agg #[.int .i64 (d),.slice none 0 0,.bool false]) (by simp [results,Tryz.results126,go_sem]) rfl ?_;exact ⟨_,rfl,.inl ⟨_,_,rfl,by omega,by omega,rfl⟩,zf _ _⟩
theorem zo1 (x y:Nat) (hx:x<4294967296) (hy:y<4294967296):bits .or .u64 (x:Int) ((y:Int)*4294967296)=((x+y*4294967296:Nat):Int):=by
 have:=u64_or_nat x (y*4294967296) (by omega) (by omega)
 rw [Int.natCast_mul] at this
 have h2:(2:Nat) ^ 32=4294967296:=by decide
 have h3:=V5 (n:=32) (a:=y) (b:=x) (by omega)
 rw [h2,Nat.mul_comm] at h3
 rw [h3] at this
 exact this
theorem zr0 (ng:Bool) (ad:Addr) (c d e V:Nat) (w:World) (hd:d<4294967296) (he:e<4294967296) (hV:V=d+e*4294967296) (hb:ad.block<w.heap.size) (hc:w.cell? ad=some (.int .u32 d))
 (hc1:w.cell? ⟨ad.block,ad.off+1,none⟩=some (.int .u32 e)) (hlt:V<4611686018427387904):Calls Tryz.prog 126 #[.bool ng,.slice (some ad) 2 c] w (ZK w (signed ng V)):=by
 have hor:bits .or .u64 0 (d:Int)=(d:Int):=by
  have:=u64_or_nat 0 d (by omega) (by omega)
  rw [Nat.zero_or] at this
  exact this
 have hor2:bits .or .u64 (d:Int) ((e:Int)*4294967296)=(V:Int):=by rw [zo1 d e hd he,hV]
 clear hV
 have hI:(V:Int)<4611686018427387904:=by omega
 have hD:decide ((V:Int)<4611686018427387904)=true:=decide_eq_true hI
 cases ng with
 | true=>
   go_enter Tryz.func126,Tryz.ntmps126
   go_wp2;refine wp_loop_rounds 3 ?_;rw [rounds_succ];go_wp2;rw [rounds_succ];go_wp2;rw [rounds_succ];go_wp2;refine bodyPost_ret (v:=.agg #[.int .i64 (-V),.slice none 0 0,.bool false]) (by simp [results,Tryz.results126,go_sem]) rfl ?_;exact ⟨_,rfl,.inl ⟨_,_,rfl,by omega,by omega,rfl⟩,zf _ _⟩
 | false=>
   go_enter Tryz.func126,Tryz.ntmps126
   go_wp2;refine wp_loop_rounds 3 ?_;rw [rounds_succ];go_wp2;rw [rounds_succ];go_wp2;rw [rounds_succ];go_wp2;refine bodyPost_ret (v:=.agg #[.int .i64 (V),.slice none 0 0,.bool false]) (by simp [results,Tryz.results126,go_sem]) rfl ?_;exact ⟨_,rfl,.inl ⟨_,_,rfl,by omega,by omega,rfl⟩,zf _ _⟩
theorem zqe (ng:Bool) (ad:Addr) (c d e V n:Nat) (w:World) (hd:d<4294967296) (he:e<4294967296) (hV:V=d+e*4294967296) (hb:ad.block<w.heap.size) (hc:w.cell? ad=some (.int .u32 d))
 (hc1:w.cell? ⟨ad.block,ad.off+1,none⟩=some (.int .u32 e)) (hge:4611686018427387904<=V) (hn:y6 w (.slice (some ad) 2 c) n) (HG:Hid (4611686018427387904<=n)):Calls Tryz.prog 126 #[.bool ng,.slice (some ad) 2 c] w (ZK w (signed ng n)):=by
 have hor:bits .or .u64 0 (d:Int)=(d:Int):=by
  have:=u64_or_nat 0 d (by omega) (by omega)
  rw [Nat.zero_or] at this
  exact this
 have hor2:bits .or .u64 (d:Int) ((e:Int)*4294967296)=(V:Int):=by rw [zo1 d e hd he,hV]
 clear hV
 have hD:decide ((V:Int)<4611686018427387904)=false:=decide_eq_false (by omega)
 cases ng with
 | true=>
   go_enter Tryz.func126,Tryz.ntmps126
   go_wp2;refine wp_loop_rounds 3 ?_;rw [rounds_succ];go_wp2;rw [rounds_succ];go_wp2;rw [rounds_succ];go_wp2;refine bodyPost_ret (v:=.agg #[.int .i64 0,.slice (some ad) 2 c,.bool true]) (by simp [results,Tryz.results126,go_sem]) rfl ?_;exact ⟨_,rfl,zR.below (w:=w) (.inr ⟨ad,2,c,n,true,rfl,hn,HG.out,rfl⟩) (zf _ _),zf _ _⟩
 | false=>
   go_enter Tryz.func126,Tryz.ntmps126
   go_wp2;refine wp_loop_rounds 3 ?_;rw [rounds_succ];go_wp2;rw [rounds_succ];go_wp2;rw [rounds_succ];go_wp2;refine bodyPost_ret (v:=.agg #[.int .i64 0,.slice (some ad) 2 c,.bool false]) (by simp [results,Tryz.results126,go_sem]) rfl ?_;exact ⟨_,rfl,zR.below (w:=w) (.inr ⟨ad,2,c,n,false,rfl,hn,HG.out,rfl⟩) (zf _ _),zf _ _⟩
theorem zrh (ng:Bool) (ad:Addr) (k c n:Nat) (w:World) (hk:3<=k) (hn:y6 w (.slice (some ad) k c) n) (HG:Hid (4611686018427387904<=n)):Calls Tryz.prog 126 #[.bool ng,.slice (some ad) k c] w (ZK w (signed ng n)):=by
 have hI:¬ (k:Int)<=2:=by omega
 cases ng with
 | true=>
   go_enter Tryz.func126,Tryz.ntmps126
   go_wp2;refine bodyPost_ret (v:=.agg #[.int .i64 0,.slice (some ad) k c,.bool true]) (by simp [results,Tryz.results126,go_sem]) rfl ?_;exact ⟨_,rfl,zR.below (w:=w) (.inr ⟨ad,k,c,n,true,rfl,hn,HG.out,rfl⟩) (zf _ _),zf _ _⟩
 | false=>
   go_enter Tryz.func126,Tryz.ntmps126
   go_wp2;refine bodyPost_ret (v:=.agg #[.int .i64 0,.slice (some ad) k c,.bool false]) (by simp [results,Tryz.results126,go_sem]) rfl ?_;exact ⟨_,rfl,zR.below (w:=w) (.inr ⟨ad,k,c,n,false,rfl,hn,HG.out,rfl⟩) (zf _ _),zf _ _⟩
theorem yi (ng:Bool) (v:Value) (n:Nat) (w:World) (h:y6 w v n):Calls Tryz.prog 126 #[.bool ng,v] w (ZK w (signed ng n)):=by
 have hn:=h
 obtain ⟨A,c,ds,rfl,h1,h2,hr,hcan,rfl⟩:=h
 rcases Nat.lt_or_ge ds.length 3 with hl | hl
 . match ds,hcan,hr,hn with
   | [],_,_,_=>exact zr3 ng A c w
   | [d],hcan,hr,_=>
     obtain ⟨ad,u,rfl,hb,hx,hcell⟩:=hr.at_ (k:=0) (by simp)
     simp [YE] at hx
     subst hx;rw [ZH];exact zrr ng ad c d w (hcan.1.get 0 (by simp)) hb (by simpa [Addr.add] using hcell)
   | [d,e],hcan,hr,hn=>
     obtain ⟨ad,u,rfl,hb,hx,hcell⟩:=hr.at_ (k:=0) (by simp);obtain ⟨ad',u',e1,hb',hx',hcell'⟩:=hr.at_ (k:=1) (by simp);injection e1 with e1
     subst e1
     simp [YE] at hx hx'
     subst hx hx';have hv:val 4294967296 [d,e]=d+e*4294967296:=by simp only [val];omega
     have hd:=hcan.1.get 0 (by simp);have he:=hcan.1.get 1 (by simp)
     rcases Nat.lt_or_ge (d+e*4294967296) 4611686018427387904 with h0 | h0
     . rw [hv]
       exact zr0 ng ad c d e _ w hd he rfl hb (by simpa [Addr.add] using hcell) (by simpa [Addr.add] using hcell') h0
     . exact zqe ng ad c d e _ _ w hd he rfl hb (by simpa [Addr.add] using hcell) (by simpa [Addr.add] using hcell') h0 hn (ze (by rw [hv];exact h0))
   | _ :: _ :: _ :: _,_,_,_=>simp at hl;omega
 . obtain ⟨ad,u,rfl,hb,hx,hcell⟩:=hr.at_ (k:=0) (by omega)
   refine zrh ng ad _ c _ w hl hn (ze ?_);have h5:=hcan.ge (by intro e;rw [e] at hl;simp at hl);have h6:4294967296 ^ 2<=4294967296 ^ (ds.length - 1):=Nat.pow_le_pow_right (by omega) (by omega);have h7:(4294967296:Nat) ^ 2=18446744073709551616:=by decide
   rw [h7] at h6
   omega
theorem zR.form {w:World} {v:Value} {z:Int} (h:zR w v z):∃ (x:Int) (A:Option Addr) (k c:Nat) (ng:Bool),v= .agg #[.int .i64 x,.slice A k c,.bool ng]/\
 -4611686018427387904<x/\x<4611686018427387904/\(A=none->k=0/\c=0/\z=x):=by
 rcases h with ⟨x,ng,rfl,h1,h2,rfl⟩ | ⟨ad,k,c,n,ng,rfl,hn,h3,rfl⟩
 . exact ⟨_,_,_,_,_,rfl,h1,h2,fun _=>⟨rfl,rfl,rfl⟩⟩
 . exact ⟨_,_,_,_,_,rfl,by omega,by omega,fun h=>by cases h⟩
def vN (cs:Array Value):Prop:=∀ (i:Nat) (d:Int),cs[i]?≠some (.int .u32 d)
theorem Xf (x:Int) (A:Option Addr) (k c:Nat) (ng:Bool):vN #[.int .i64 x,.slice A k c,.bool ng]:=by
 intro i d h
 match i with
 | 0=>simp at h
 | 1=>simp at h
 | 2=>simp at h
 | i+3=>simp at h
theorem y6.stored {w w' :World} {g:Nat} {t:TypeId} {cs:Array Value} {v:Value} {n:Nat} (h:y6 w v n) (hb:Blk w g t cs) (hno:vN cs)
 (hk:∀ p:Addr,p.block≠g->w'.cell? p=w.cell? p) (hs:w.heap.size<=w'.heap.size):y6 w' v n:=by
 obtain ⟨A,c',ds,rfl,h1,h2,h3,h4,h5⟩:=h
 refine ⟨A,c',ds,rfl,h1,h2,⟨h3.1,?_⟩,h4,h5⟩
 intro hn
 obtain ⟨ad,rfl,hlt,hc⟩:=h3.2 hn
 have hne:ad.block≠g:=by
  intro e
  have h0:=hc 0 _ (yQ hn)
  unfold World.cell? at h0
  rw [zF,e,show w.heap[g]?=_ from hb] at h0
  simp only at h0
  split at h0
  . cases h0
  . exact hno _ _ h0
 exact ⟨ad,rfl,by omega,fun j u hu=>(hk _ (by rw [zF];exact hne)).trans (hc j u hu)⟩
theorem zR.stored {w w' :World} {g:Nat} {t:TypeId} {cs:Array Value} {v:Value} {z:Int} (h:zR w v z) (hb:Blk w g t cs) (hno:vN cs)
 (hk:∀ p:Addr,p.block≠g->w'.cell? p=w.cell? p) (hs:w.heap.size<=w'.heap.size):zR w' v z:=by
 rcases h with h | ⟨ad,k,c,n,ng,h1,h2,h3,h4⟩
 . exact .inl h
 . exact .inr ⟨ad,k,c,n,ng,h1,h2.stored hb hno hk hs,h3,h4⟩
abbrev World.num (w:World) (g:Nat) (x:Int) (A:Option Addr) (k c:Nat) (ng:Bool):World:=
 ((w.setCell ⟨g,0,none⟩ (.int .i64 x)).setCell ⟨g,1,none⟩ (.slice A k c)).setCell ⟨g,2,none⟩ (.bool ng)
theorem zy {W:World} {g:Nat} {t:TypeId} {x x0:Int} {A A0:Option Addr} {k c k0 c0:Nat} {ng n0:Bool} {v:Value} {z:Int} (hv:zR W v z) (hk:Blk W g t #[.int .i64 x0,.slice A0 k0 c0,.bool n0]):
 zR (World.num W g x A k c ng) v z:=by
 refine hv.stored hk (Xf _ _ _ _ _) ?_ (by simp [World.num,World.setCell])
 intro p hp
 simp only [World.num]
 rw [World.cell?_of_block (Below.heap_setCell _ _ _ _ (by exact hp)),World.cell?_of_block (Below.heap_setCell _ _ _ _ (by exact hp)),World.cell?_of_block (Below.heap_setCell _ _ _ _ (by exact hp))]
theorem zN {w W:World} {g:Nat} {x:Int} {A:Option Addr} {k c:Nat} {ng:Bool} (h:Below w.heap.size w W) (hg:w.heap.size<=g):Below w.heap.size w (World.num W g x A k c ng):=
 ((h.setCell hg _).setCell hg _).setCell hg _
theorem yl {W:World} {g:Nat} {t:TypeId} {x x0:Int} {A A0:Option Addr} {k c k0 c0:Nat} {ng n0:Bool} (hk:Blk W g t #[.int .i64 x0,.slice A0 k0 c0,.bool n0]):
 Blk (World.num W g x A k c ng) g t #[.int .i64 x,.slice A k c,.bool ng]:=((hk.set_ 0 _).set_ 1 _).set_ 2 _
theorem yT (z:Int):signed (decide (z<0)) z.natAbs=z:=by
 unfold signed
 by_cases h:z<0
 . rw [decide_eq_true h,if_pos rfl];omega
 . rw [decide_eq_false h];simp only [Bool.false_eq_true,if_false];omega
theorem zm0 (x y:Int) (a b:Bool) (w:World) (h1: -4611686018427387904<x) (h2:x<4611686018427387904) (h3: -4611686018427387904<y) (h4:y<4611686018427387904) (hs1: -4611686018427387904<x+y) (hs2:x+y<4611686018427387904):
 Calls Tryz.prog 133 #[.agg #[.int .i64 x,.slice none 0 0,.bool a],.agg #[.int .i64 y,.slice none 0 0,.bool b]] w (ZK w (x+y)):=by
 have q0:=fun w=>zjt w none 0 0 0 0
 have d1:decide ((x+y:Int)> -4611686018427387904)=true:=decide_eq_true hs1
 have d2:decide ((x+y:Int)<4611686018427387904)=true:=decide_eq_true hs2
 go_enter Tryz.func133,Tryz.ntmps133
 go_wp2
 refine bodyPost_ret (v:=.agg #[.int .i64 (x+y),.slice none 0 0,.bool false]) (by simp [results,Tryz.results133,go_sem]) rfl ?_
 exact ⟨_,rfl,.inl ⟨_,_,rfl,by omega,by omega,rfl⟩,ext (ext (zf _ _) (zf _ _)) (zf _ _)⟩
theorem xF (v:Value) (s:Bool) (n:Nat) (w:World) (h:zR w v (signed s n)) (h0:s=true->0<n):
 Calls Tryz.prog 149 #[v] w (fun e w' =>∃ p,e= .returned (.tuple #[.bool s,p])/\y6 w' p n/\Below w.heap.size w w'):=by
 refine (vW v _ w h).mono ?_
 rintro e w' ⟨p,rfl,h1,h2⟩
 have e1:decide (signed s n<0)=s:=by
  cases s with
  | true=>exact decide_eq_true (by have:=h0 rfl;unfold signed;rw [if_pos rfl];omega)
  | false=>exact decide_eq_false (by unfold signed;simp only [Bool.false_eq_true,if_false];omega)
 have e2:(signed s n).natAbs=n:=by cases s<;>unfold signed<;>simp
 rw [e1]
 rw [e2] at h1
 exact ⟨p,rfl,h1,h2⟩
theorem VZ (s:Bool) (n m:Nat):signed s n+signed s m=signed s (n+m):=by cases s<;>unfold signed<;>simp<;>omega
theorem V9 {s t:Bool} {n m:Nat} (h:¬ s=t) (hle:m<=n):signed s n+signed t m=signed s (n - m):=by cases s<;>cases t<;>simp at h<;>unfold signed<;>simp<;>omega
theorem zh0 {s t:Bool} {n m:Nat} (h:¬ s=t) (hle:n<=m):signed s n+signed t m=signed t (m - n):=by cases s<;>cases t<;>simp at h<;>unfold signed<;>simp<;>omega
def zly (x y:Int) (A B:Option Addr):Prop:=A≠none\/(A=none/\B≠none)\/(A=none/\B=none/\4611686018427387904<=x+y)\/(A=none/\B=none/\x+y<= -4611686018427387904)
theorem zm3 (s t:Bool) (n m:Nat) (x y:Int) (A B:Option Addr) (k c k' c' :Nat) (a b:Bool) (w:World) (h1: -4611686018427387904<x) (h2:x<4611686018427387904) (h3: -4611686018427387904<y) (h4:y<4611686018427387904)
 (ha:zR w (.agg #[.int .i64 x,.slice A k c,.bool a]) (signed s n)) (hb:zR w (.agg #[.int .i64 y,.slice B k' c',.bool b]) (signed t m)) (hs:s=true->0<n) (ht:t=true->0<m)
 (hln:len 4294967296 n<=67108864) (hlm:len 4294967296 m<=67108864) (hsl:zly x y A B):
 Calls Tryz.prog 133 #[.agg #[.int .i64 x,.slice A k c,.bool a],.agg #[.int .i64 y,.slice B k' c',.bool b]] w (ZK w (signed s n+signed t m)):=by
 have q1:=fun w=>zjt w A k c 0 0
 have q2:=fun w=>zjt w B k' c' 0 0
 have HLN:=ze hln
 have HLM:=ze hlm
 clear hln hlm
 rcases hsl with h | ⟨h,h'⟩ | ⟨h,h',h5⟩ | ⟨h,h',h5⟩
 . obtain ⟨ad,rfl⟩:=Option.ne_none_iff_exists'.1 h
   clear h
   go_enter Tryz.func133,Tryz.ntmps133
   go_wp2_with fail;have hW:=(ext (ext (zf w (.cells #[.int .i64 x,.slice (some ad) k c,.bool a] 91)) (zf _ (.cells #[.int .i64 y,.slice B k' c',.bool b] 91))) (zf _ (.cells #[.int .i64 0,.slice none 0 0,.bool false] 91)));have hA:=ha.below hW;have hB:=hb.below hW;have kB:=(Blk.new (w.alloc (.cells #[.int .i64 x,.slice (some ad) k c,.bool a] 91)) 91 #[.int .i64 y,.slice B k' c',.bool b]).alloc (.cells #[.int .i64 0,.slice none 0 0,.bool false] 91);have kC:=Blk.new ((w.alloc (.cells #[.int .i64 x,.slice (some ad) k c,.bool a] 91)).alloc (.cells #[.int .i64 y,.slice B k' c',.bool b] 91)) 91 #[.int .i64 0,.slice none 0 0,.bool false];simp only [World.size_alloc] at kB kC;generalize ((w.alloc (.cells #[.int .i64 x,.slice (some ad) k c,.bool a] 91)).alloc (.cells #[.int .i64 y,.slice B k' c',.bool b] 91)).alloc (.cells #[.int .i64 0,.slice none 0 0,.bool false] 91)=W at hA hB kB kC hW |-;refine (xF _ s n W hA hs).mono ?_;rintro e w1 ⟨p,rfl,hp,hb1⟩;have kB1:=kB.below hb1 kB.lt;have c0:=kB1.cell 0;have c1:=kB1.cell 1;have c2:=kB1.cell 2;simp at c0 c1 c2;go_wp2_with fail;refine (xF _ t m w1 (hB.below hb1) ht).mono ?_
   rintro e w2 ⟨p',rfl,hp',hb2⟩;have hp2:=hp.below hb2;have kC2:=(kC.below hb1 kC.lt).below hb2 (kC.below hb1 kC.lt).lt;have hW2:=ext (ext hW hb1) hb2;clear hb1 hb2 hW kC kB kB1 c0 c1 c2 hA hB hp
   by_cases hst:s=t
   . subst hst
     go_wp2_with fail;refine (za3 p p' n m w2 hp2 hp' HLN.out HLM.out).mono ?_;rintro e w3 ⟨q,rfl,hq,hb3⟩;go_wp2_with fail;refine (yi s q (n+m) w3 hq).mono ?_;rintro e w4 ⟨v,rfl,hv,hb4⟩;obtain ⟨x',A',k2,c2',ng',rfl,_,_,_⟩:=hv.form;have kC4:=(kC2.below hb3 kC2.lt).below hb4 (kC2.below hb3 kC2.lt).lt;have hW4:=ext (ext hW2 hb3) hb4;have c0:=kC4.cell 0;have c1:=kC4.cell 1;have c2:=kC4.cell 2;have f0:=kC4.frozen 0;have f1:=kC4.frozen 1;have f2:=kC4.frozen 2;simp at c0 c1 c2;go_wp2;have kD:=yl (x:=x') (A:=A') (k:=k2) (c:=c2') (ng:=ng') kC4;have d0:=kD.cell 0;have d1:=kD.cell 1;have d2:=kD.cell 2;simp at d0 d1 d2;refine bodyPost_ret (v:=.agg #[.int .i64 x',.slice A' k2 c2',.bool ng']) (by simp [results,Tryz.results133,go_sem,d0,d1,d2]) rfl ?_;exact ⟨_,rfl,zy (by rw [VZ];exact hv) kC4,zN hW4 (by omega)⟩
   . have hst' :(s == t)=false:=beq_eq_false_iff_ne.2 hst
     go_wp2_with fail;refine (X2 p p' n m w2 hp2 hp' HLN.out HLM.out).mono ?_;rintro e w3 ⟨rfl,r,rfl⟩;have hp3:=hp2.below (zw w2 r);have hp4:=hp'.below (zw w2 r);have kC3:=kC2.drewN r;have hW3:=zl hW2 r;clear hp2 hp' kC2 hW2;generalize w2.drewN r=w2 at hp3 hp4 kC3 hW3 |-;have hp2:=hp3;have hp' :=hp4;have kC2:=kC3;have hW2:=hW3
     rcases Nat.lt_trichotomy n m with hlt | hlt | hlt
     . have hc:zK (n:Int) (m:Int)= -1:=by unfold zK;rw [if_pos (by omega)]
       rw [hc];clear hc;go_wp2_with fail;refine (Zv p' p m n w2 hp' hp2 HLM.out (Nat.le_of_lt hlt)).mono ?_;rintro e w3 ⟨q,rfl,hq,hb3⟩;go_wp2_with fail;refine (yi t q (m - n) w3 hq).mono ?_;rintro e w4 ⟨v,rfl,hv,hb4⟩;obtain ⟨x',A',k2,c2',ng',rfl,_,_,_⟩:=hv.form;have kC4:=(kC2.below hb3 kC2.lt).below hb4 (kC2.below hb3 kC2.lt).lt;have hW4:=ext (ext hW2 hb3) hb4;have c0:=kC4.cell 0;have c1:=kC4.cell 1;have c2:=kC4.cell 2;have f0:=kC4.frozen 0;have f1:=kC4.frozen 1;have f2:=kC4.frozen 2;simp at c0 c1 c2;go_wp2;have kD:=yl (x:=x') (A:=A') (k:=k2) (c:=c2') (ng:=ng') kC4;have d0:=kD.cell 0;have d1:=kD.cell 1;have d2:=kD.cell 2;simp at d0 d1 d2;refine bodyPost_ret (v:=.agg #[.int .i64 x',.slice A' k2 c2',.bool ng']) (by simp [results,Tryz.results133,go_sem,d0,d1,d2]) rfl ?_;exact ⟨_,rfl,zy (by rw [zh0 hst (Nat.le_of_lt hlt)];exact hv) kC4,zN hW4 (by omega)⟩
     . have hc:zK (n:Int) (m:Int)=0:=by unfold zK;rw [if_neg (by omega),if_neg (by omega)]
       rw [hc];clear hc;go_wp2_with fail;refine (Zv p p' n m w2 hp2 hp' HLN.out (Nat.le_of_eq hlt.symm)).mono ?_;rintro e w3 ⟨q,rfl,hq,hb3⟩;go_wp2_with fail;refine (yi s q (n - m) w3 hq).mono ?_;rintro e w4 ⟨v,rfl,hv,hb4⟩;obtain ⟨x',A',k2,c2',ng',rfl,_,_,_⟩:=hv.form;have kC4:=(kC2.below hb3 kC2.lt).below hb4 (kC2.below hb3 kC2.lt).lt;have hW4:=ext (ext hW2 hb3) hb4;have c0:=kC4.cell 0;have c1:=kC4.cell 1;have c2:=kC4.cell 2;have f0:=kC4.frozen 0;have f1:=kC4.frozen 1;have f2:=kC4.frozen 2;simp at c0 c1 c2;go_wp2;have kD:=yl (x:=x') (A:=A') (k:=k2) (c:=c2') (ng:=ng') kC4;have d0:=kD.cell 0;have d1:=kD.cell 1;have d2:=kD.cell 2;simp at d0 d1 d2;refine bodyPost_ret (v:=.agg #[.int .i64 x',.slice A' k2 c2',.bool ng']) (by simp [results,Tryz.results133,go_sem,d0,d1,d2]) rfl ?_;exact ⟨_,rfl,zy (by rw [V9 hst (Nat.le_of_eq hlt.symm)];exact hv) kC4,zN hW4 (by omega)⟩
     . have hc:zK (n:Int) (m:Int)=1:=by unfold zK;rw [if_neg (by omega),if_pos (by omega)]
       rw [hc];clear hc;go_wp2_with fail;refine (Zv p p' n m w2 hp2 hp' HLN.out (Nat.le_of_lt hlt)).mono ?_;rintro e w3 ⟨q,rfl,hq,hb3⟩;go_wp2_with fail;refine (yi s q (n - m) w3 hq).mono ?_;rintro e w4 ⟨v,rfl,hv,hb4⟩;obtain ⟨x',A',k2,c2',ng',rfl,_,_,_⟩:=hv.form;have kC4:=(kC2.below hb3 kC2.lt).below hb4 (kC2.below hb3 kC2.lt).lt;have hW4:=ext (ext hW2 hb3) hb4;have c0:=kC4.cell 0;have c1:=kC4.cell 1;have c2:=kC4.cell 2;have f0:=kC4.frozen 0;have f1:=kC4.frozen 1;have f2:=kC4.frozen 2;simp at c0 c1 c2;go_wp2;have kD:=yl (x:=x') (A:=A') (k:=k2) (c:=c2') (ng:=ng') kC4;have d0:=kD.cell 0;have d1:=kD.cell 1;have d2:=kD.cell 2;simp at d0 d1 d2;refine bodyPost_ret (v:=.agg #[.int .i64 x',.slice A' k2 c2',.bool ng']) (by simp [results,Tryz.results133,go_sem,d0,d1,d2]) rfl ?_;exact ⟨_,rfl,zy (by rw [V9 hst (Nat.le_of_lt hlt)];exact hv) kC4,zN hW4 (by omega)⟩
 . obtain ⟨bd,rfl⟩:=Option.ne_none_iff_exists'.1 h'
   subst h;clear h'
   go_enter Tryz.func133,Tryz.ntmps133
   go_wp2_with fail;have hW:=(ext (ext (zf w (.cells #[.int .i64 x,.slice none k c,.bool a] 91)) (zf _ (.cells #[.int .i64 y,.slice (some bd) k' c',.bool b] 91))) (zf _ (.cells #[.int .i64 0,.slice none 0 0,.bool false] 91)));have hA:=ha.below hW;have hB:=hb.below hW;have kB:=(Blk.new (w.alloc (.cells #[.int .i64 x,.slice none k c,.bool a] 91)) 91 #[.int .i64 y,.slice (some bd) k' c',.bool b]).alloc (.cells #[.int .i64 0,.slice none 0 0,.bool false] 91);have kC:=Blk.new ((w.alloc (.cells #[.int .i64 x,.slice none k c,.bool a] 91)).alloc (.cells #[.int .i64 y,.slice (some bd) k' c',.bool b] 91)) 91 #[.int .i64 0,.slice none 0 0,.bool false];simp only [World.size_alloc] at kB kC;generalize ((w.alloc (.cells #[.int .i64 x,.slice none k c,.bool a] 91)).alloc (.cells #[.int .i64 y,.slice (some bd) k' c',.bool b] 91)).alloc (.cells #[.int .i64 0,.slice none 0 0,.bool false] 91)=W at hA hB kB kC hW |-;refine (xF _ s n W hA hs).mono ?_;rintro e w1 ⟨p,rfl,hp,hb1⟩;have kB1:=kB.below hb1 kB.lt;have c0:=kB1.cell 0;have c1:=kB1.cell 1;have c2:=kB1.cell 2;simp at c0 c1 c2;go_wp2_with fail
   refine (xF _ t m w1 (hB.below hb1) ht).mono ?_;rintro e w2 ⟨p',rfl,hp',hb2⟩;have hp2:=hp.below hb2;have kC2:=(kC.below hb1 kC.lt).below hb2 (kC.below hb1 kC.lt).lt;have hW2:=ext (ext hW hb1) hb2;clear hb1 hb2 hW kC kB kB1 c0 c1 c2 hA hB hp
   by_cases hst:s=t
   . subst hst
     go_wp2_with fail;refine (za3 p p' n m w2 hp2 hp' HLN.out HLM.out).mono ?_;rintro e w3 ⟨q,rfl,hq,hb3⟩;go_wp2_with fail;refine (yi s q (n+m) w3 hq).mono ?_;rintro e w4 ⟨v,rfl,hv,hb4⟩;obtain ⟨x',A',k2,c2',ng',rfl,_,_,_⟩:=hv.form;have kC4:=(kC2.below hb3 kC2.lt).below hb4 (kC2.below hb3 kC2.lt).lt;have hW4:=ext (ext hW2 hb3) hb4;have c0:=kC4.cell 0;have c1:=kC4.cell 1;have c2:=kC4.cell 2;have f0:=kC4.frozen 0;have f1:=kC4.frozen 1;have f2:=kC4.frozen 2;simp at c0 c1 c2;go_wp2;have kD:=yl (x:=x') (A:=A') (k:=k2) (c:=c2') (ng:=ng') kC4;have d0:=kD.cell 0;have d1:=kD.cell 1;have d2:=kD.cell 2;simp at d0 d1 d2;refine bodyPost_ret (v:=.agg #[.int .i64 x',.slice A' k2 c2',.bool ng']) (by simp [results,Tryz.results133,go_sem,d0,d1,d2]) rfl ?_;exact ⟨_,rfl,zy (by rw [VZ];exact hv) kC4,zN hW4 (by omega)⟩
   . have hst' :(s == t)=false:=beq_eq_false_iff_ne.2 hst
     go_wp2_with fail;refine (X2 p p' n m w2 hp2 hp' HLN.out HLM.out).mono ?_;rintro e w3 ⟨rfl,r,rfl⟩;have hp3:=hp2.below (zw w2 r);have hp4:=hp'.below (zw w2 r);have kC3:=kC2.drewN r;have hW3:=zl hW2 r;clear hp2 hp' kC2 hW2;generalize w2.drewN r=w2 at hp3 hp4 kC3 hW3 |-;have hp2:=hp3;have hp' :=hp4;have kC2:=kC3;have hW2:=hW3
     rcases Nat.lt_trichotomy n m with hlt | hlt | hlt
     . have hc:zK (n:Int) (m:Int)= -1:=by unfold zK;rw [if_pos (by omega)]
       rw [hc];clear hc;go_wp2_with fail;refine (Zv p' p m n w2 hp' hp2 HLM.out (Nat.le_of_lt hlt)).mono ?_;rintro e w3 ⟨q,rfl,hq,hb3⟩;go_wp2_with fail;refine (yi t q (m - n) w3 hq).mono ?_;rintro e w4 ⟨v,rfl,hv,hb4⟩;obtain ⟨x',A',k2,c2',ng',rfl,_,_,_⟩:=hv.form;have kC4:=(kC2.below hb3 kC2.lt).below hb4 (kC2.below hb3 kC2.lt).lt;have hW4:=ext (ext hW2 hb3) hb4;have c0:=kC4.cell 0;have c1:=kC4.cell 1;have c2:=kC4.cell 2;have f0:=kC4.frozen 0;have f1:=kC4.frozen 1;have f2:=kC4.frozen 2;simp at c0 c1 c2;go_wp2;have kD:=yl (x:=x') (A:=A') (k:=k2) (c:=c2') (ng:=ng') kC4;have d0:=kD.cell 0;have d1:=kD.cell 1;have d2:=kD.cell 2;simp at d0 d1 d2;refine bodyPost_ret (v:=.agg #[.int .i64 x',.slice A' k2 c2',.bool ng']) (by simp [results,Tryz.results133,go_sem,d0,d1,d2]) rfl ?_;exact ⟨_,rfl,zy (by rw [zh0 hst (Nat.le_of_lt hlt)];exact hv) kC4,zN hW4 (by omega)⟩
     . have hc:zK (n:Int) (m:Int)=0:=by unfold zK;rw [if_neg (by omega),if_neg (by omega)]
       rw [hc];clear hc;go_wp2_with fail;refine (Zv p p' n m w2 hp2 hp' HLN.out (Nat.le_of_eq hlt.symm)).mono ?_;rintro e w3 ⟨q,rfl,hq,hb3⟩;go_wp2_with fail;refine (yi s q (n - m) w3 hq).mono ?_;rintro e w4 ⟨v,rfl,hv,hb4⟩;obtain ⟨x',A',k2,c2',ng',rfl,_,_,_⟩:=hv.form;have kC4:=(kC2.below hb3 kC2.lt).below hb4 (kC2.below hb3 kC2.lt).lt;have hW4:=ext (ext hW2 hb3) hb4;have c0:=kC4.cell 0;have c1:=kC4.cell 1;have c2:=kC4.cell 2;have f0:=kC4.frozen 0;have f1:=kC4.frozen 1;have f2:=kC4.frozen 2;simp at c0 c1 c2;go_wp2;have kD:=yl (x:=x') (A:=A') (k:=k2) (c:=c2') (ng:=ng') kC4;have d0:=kD.cell 0;have d1:=kD.cell 1;have d2:=kD.cell 2;simp at d0 d1 d2;refine bodyPost_ret (v:=.agg #[.int .i64 x',.slice A' k2 c2',.bool ng']) (by simp [results,Tryz.results133,go_sem,d0,d1,d2]) rfl ?_;exact ⟨_,rfl,zy (by rw [V9 hst (Nat.le_of_eq hlt.symm)];exact hv) kC4,zN hW4 (by omega)⟩
     . have hc:zK (n:Int) (m:Int)=1:=by unfold zK;rw [if_neg (by omega),if_pos (by omega)]
       rw [hc];clear hc;go_wp2_with fail;refine (Zv p p' n m w2 hp2 hp' HLN.out (Nat.le_of_lt hlt)).mono ?_;rintro e w3 ⟨q,rfl,hq,hb3⟩;go_wp2_with fail;refine (yi s q (n - m) w3 hq).mono ?_;rintro e w4 ⟨v,rfl,hv,hb4⟩;obtain ⟨x',A',k2,c2',ng',rfl,_,_,_⟩:=hv.form;have kC4:=(kC2.below hb3 kC2.lt).below hb4 (kC2.below hb3 kC2.lt).lt;have hW4:=ext (ext hW2 hb3) hb4;have c0:=kC4.cell 0;have c1:=kC4.cell 1;have c2:=kC4.cell 2;have f0:=kC4.frozen 0;have f1:=kC4.frozen 1;have f2:=kC4.frozen 2;simp at c0 c1 c2;go_wp2;have kD:=yl (x:=x') (A:=A') (k:=k2) (c:=c2') (ng:=ng') kC4;have d0:=kD.cell 0;have d1:=kD.cell 1;have d2:=kD.cell 2;simp at d0 d1 d2;refine bodyPost_ret (v:=.agg #[.int .i64 x',.slice A' k2 c2',.bool ng']) (by simp [results,Tryz.results133,go_sem,d0,d1,d2]) rfl ?_;exact ⟨_,rfl,zy (by rw [V9 hst (Nat.le_of_lt hlt)];exact hv) kC4,zN hW4 (by omega)⟩
 . subst h h'
   have d1:decide ((x+y:Int)> -4611686018427387904)=true:=decide_eq_true (by omega);have d2:decide ((x+y:Int)<4611686018427387904)=false:=decide_eq_false (by omega);clear h5
   go_enter Tryz.func133,Tryz.ntmps133
   go_wp2_with fail;have hW:=(ext (ext (zf w (.cells #[.int .i64 x,.slice none k c,.bool a] 91)) (zf _ (.cells #[.int .i64 y,.slice none k' c',.bool b] 91))) (zf _ (.cells #[.int .i64 0,.slice none 0 0,.bool false] 91)));have hA:=ha.below hW;have hB:=hb.below hW;have kB:=(Blk.new (w.alloc (.cells #[.int .i64 x,.slice none k c,.bool a] 91)) 91 #[.int .i64 y,.slice none k' c',.bool b]).alloc (.cells #[.int .i64 0,.slice none 0 0,.bool false] 91);have kC:=Blk.new ((w.alloc (.cells #[.int .i64 x,.slice none k c,.bool a] 91)).alloc (.cells #[.int .i64 y,.slice none k' c',.bool b] 91)) 91 #[.int .i64 0,.slice none 0 0,.bool false];simp only [World.size_alloc] at kB kC;generalize ((w.alloc (.cells #[.int .i64 x,.slice none k c,.bool a] 91)).alloc (.cells #[.int .i64 y,.slice none k' c',.bool b] 91)).alloc (.cells #[.int .i64 0,.slice none 0 0,.bool false] 91)=W at hA hB kB kC hW |-;refine (xF _ s n W hA hs).mono ?_;rintro e w1 ⟨p,rfl,hp,hb1⟩;have kB1:=kB.below hb1 kB.lt;have c0:=kB1.cell 0;have c1:=kB1.cell 1;have c2:=kB1.cell 2;simp at c0 c1 c2;go_wp2_with fail;refine (xF _ t m w1 (hB.below hb1) ht).mono ?_
   rintro e w2 ⟨p',rfl,hp',hb2⟩;have hp2:=hp.below hb2;have kC2:=(kC.below hb1 kC.lt).below hb2 (kC.below hb1 kC.lt).lt;have hW2:=ext (ext hW hb1) hb2;clear hb1 hb2 hW kC kB kB1 c0 c1 c2 hA hB hp
   by_cases hst:s=t
   . subst hst
     go_wp2_with fail;refine (za3 p p' n m w2 hp2 hp' HLN.out HLM.out).mono ?_;rintro e w3 ⟨q,rfl,hq,hb3⟩;go_wp2_with fail;refine (yi s q (n+m) w3 hq).mono ?_;rintro e w4 ⟨v,rfl,hv,hb4⟩;obtain ⟨x',A',k2,c2',ng',rfl,_,_,_⟩:=hv.form;have kC4:=(kC2.below hb3 kC2.lt).below hb4 (kC2.below hb3 kC2.lt).lt;have hW4:=ext (ext hW2 hb3) hb4;have c0:=kC4.cell 0;have c1:=kC4.cell 1;have c2:=kC4.cell 2;have f0:=kC4.frozen 0;have f1:=kC4.frozen 1;have f2:=kC4.frozen 2;simp at c0 c1 c2;go_wp2;have kD:=yl (x:=x') (A:=A') (k:=k2) (c:=c2') (ng:=ng') kC4;have d0:=kD.cell 0;have d1:=kD.cell 1;have d2:=kD.cell 2;simp at d0 d1 d2;refine bodyPost_ret (v:=.agg #[.int .i64 x',.slice A' k2 c2',.bool ng']) (by simp [results,Tryz.results133,go_sem,d0,d1,d2]) rfl ?_;exact ⟨_,rfl,zy (by rw [VZ];exact hv) kC4,zN hW4 (by omega)⟩
   . have hst' :(s == t)=false:=beq_eq_false_iff_ne.2 hst
     go_wp2_with fail;refine (X2 p p' n m w2 hp2 hp' HLN.out HLM.out).mono ?_;rintro e w3 ⟨rfl,r,rfl⟩;have hp3:=hp2.below (zw w2 r);have hp4:=hp'.below (zw w2 r);have kC3:=kC2.drewN r;have hW3:=zl hW2 r;clear hp2 hp' kC2 hW2;generalize w2.drewN r=w2 at hp3 hp4 kC3 hW3 |-;have hp2:=hp3;have hp' :=hp4;have kC2:=kC3;have hW2:=hW3
     rcases Nat.lt_trichotomy n m with hlt | hlt | hlt
     . have hc:zK (n:Int) (m:Int)= -1:=by unfold zK;rw [if_pos (by omega)]
       rw [hc];clear hc;go_wp2_with fail;refine (Zv p' p m n w2 hp' hp2 HLM.out (Nat.le_of_lt hlt)).mono ?_;rintro e w3 ⟨q,rfl,hq,hb3⟩;go_wp2_with fail;refine (yi t q (m - n) w3 hq).mono ?_;rintro e w4 ⟨v,rfl,hv,hb4⟩;obtain ⟨x',A',k2,c2',ng',rfl,_,_,_⟩:=hv.form;have kC4:=(kC2.below hb3 kC2.lt).below hb4 (kC2.below hb3 kC2.lt).lt;have hW4:=ext (ext hW2 hb3) hb4;have c0:=kC4.cell 0;have c1:=kC4.cell 1;have c2:=kC4.cell 2;have f0:=kC4.frozen 0;have f1:=kC4.frozen 1;have f2:=kC4.frozen 2;simp at c0 c1 c2;go_wp2;have kD:=yl (x:=x') (A:=A') (k:=k2) (c:=c2') (ng:=ng') kC4;have d0:=kD.cell 0;have d1:=kD.cell 1;have d2:=kD.cell 2;simp at d0 d1 d2;refine bodyPost_ret (v:=.agg #[.int .i64 x',.slice A' k2 c2',.bool ng']) (by simp [results,Tryz.results133,go_sem,d0,d1,d2]) rfl ?_;exact ⟨_,rfl,zy (by rw [zh0 hst (Nat.le_of_lt hlt)];exact hv) kC4,zN hW4 (by omega)⟩
     . have hc:zK (n:Int) (m:Int)=0:=by unfold zK;rw [if_neg (by omega),if_neg (by omega)]
       rw [hc];clear hc;go_wp2_with fail;refine (Zv p p' n m w2 hp2 hp' HLN.out (Nat.le_of_eq hlt.symm)).mono ?_;rintro e w3 ⟨q,rfl,hq,hb3⟩;go_wp2_with fail;refine (yi s q (n - m) w3 hq).mono ?_;rintro e w4 ⟨v,rfl,hv,hb4⟩;obtain ⟨x',A',k2,c2',ng',rfl,_,_,_⟩:=hv.form;have kC4:=(kC2.below hb3 kC2.lt).below hb4 (kC2.below hb3 kC2.lt).lt;have hW4:=ext (ext hW2 hb3) hb4;have c0:=kC4.cell 0;have c1:=kC4.cell 1;have c2:=kC4.cell 2;have f0:=kC4.frozen 0;have f1:=kC4.frozen 1;have f2:=kC4.frozen 2;simp at c0 c1 c2;go_wp2;have kD:=yl (x:=x') (A:=A') (k:=k2) (c:=c2') (ng:=ng') kC4;have d0:=kD.cell 0;have d1:=kD.cell 1;have d2:=kD.cell 2;simp at d0 d1 d2;refine bodyPost_ret (v:=.agg #[.int .i64 x',.slice A' k2 c2',.bool ng']) (by simp [results,Tryz.results133,go_sem,d0,d1,d2]) rfl ?_;exact ⟨_,rfl,zy (by rw [V9 hst (Nat.le_of_eq hlt.symm)];exact hv) kC4,zN hW4 (by omega)⟩
     . have hc:zK (n:Int) (m:Int)=1:=by unfold zK;rw [if_neg (by omega),if_pos (by omega)]
       rw [hc];clear hc;go_wp2_with fail;refine (Zv p p' n m w2 hp2 hp' HLN.out (Nat.le_of_lt hlt)).mono ?_;rintro e w3 ⟨q,rfl,hq,hb3⟩;go_wp2_with fail;refine (yi s q (n - m) w3 hq).mono ?_;rintro e w4 ⟨v,rfl,hv,hb4⟩;obtain ⟨x',A',k2,c2',ng',rfl,_,_,_⟩:=hv.form;have kC4:=(kC2.below hb3 kC2.lt).below hb4 (kC2.below hb3 kC2.lt).lt;have hW4:=ext (ext hW2 hb3) hb4;have c0:=kC4.cell 0;have c1:=kC4.cell 1;have c2:=kC4.cell 2;have f0:=kC4.frozen 0;have f1:=kC4.frozen 1;have f2:=kC4.frozen 2;simp at c0 c1 c2;go_wp2;have kD:=yl (x:=x') (A:=A') (k:=k2) (c:=c2') (ng:=ng') kC4;have d0:=kD.cell 0;have d1:=kD.cell 1;have d2:=kD.cell 2;simp at d0 d1 d2;refine bodyPost_ret (v:=.agg #[.int .i64 x',.slice A' k2 c2',.bool ng']) (by simp [results,Tryz.results133,go_sem,d0,d1,d2]) rfl ?_;exact ⟨_,rfl,zy (by rw [V9 hst (Nat.le_of_lt hlt)];exact hv) kC4,zN hW4 (by omega)⟩
 . subst h h'
   have d1:decide ((x+y:Int)> -4611686018427387904)=false:=decide_eq_false (by omega);clear h5
   go_enter Tryz.func133,Tryz.ntmps133
   go_wp2_with fail;have hW:=(ext (ext (zf w (.cells #[.int .i64 x,.slice none k c,.bool a] 91)) (zf _ (.cells #[.int .i64 y,.slice none k' c',.bool b] 91))) (zf _ (.cells #[.int .i64 0,.slice none 0 0,.bool false] 91)));have hA:=ha.below hW;have hB:=hb.below hW;have kB:=(Blk.new (w.alloc (.cells #[.int .i64 x,.slice none k c,.bool a] 91)) 91 #[.int .i64 y,.slice none k' c',.bool b]).alloc (.cells #[.int .i64 0,.slice none 0 0,.bool false] 91);have kC:=Blk.new ((w.alloc (.cells #[.int .i64 x,.slice none k c,.bool a] 91)).alloc (.cells #[.int .i64 y,.slice none k' c',.bool b] 91)) 91 #[.int .i64 0,.slice none 0 0,.bool false];simp only [World.size_alloc] at kB kC;generalize ((w.alloc (.cells #[.int .i64 x,.slice none k c,.bool a] 91)).alloc (.cells #[.int .i64 y,.slice none k' c',.bool b] 91)).alloc (.cells #[.int .i64 0,.slice none 0 0,.bool false] 91)=W at hA hB kB kC hW |-;refine (xF _ s n W hA hs).mono ?_;rintro e w1 ⟨p,rfl,hp,hb1⟩;have kB1:=kB.below hb1 kB.lt;have c0:=kB1.cell 0;have c1:=kB1.cell 1;have c2:=kB1.cell 2;simp at c0 c1 c2;go_wp2_with fail;refine (xF _ t m w1 (hB.below hb1) ht).mono ?_
   rintro e w2 ⟨p',rfl,hp',hb2⟩;have hp2:=hp.below hb2;have kC2:=(kC.below hb1 kC.lt).below hb2 (kC.below hb1 kC.lt).lt;have hW2:=ext (ext hW hb1) hb2;clear hb1 hb2 hW kC kB kB1 c0 c1 c2 hA hB hp
   by_cases hst:s=t
   . subst hst
     go_wp2_with fail;refine (za3 p p' n m w2 hp2 hp' HLN.out HLM.out).mono ?_;rintro e w3 ⟨q,rfl,hq,hb3⟩;go_wp2_with fail;refine (yi s q (n+m) w3 hq).mono ?_;rintro e w4 ⟨v,rfl,hv,hb4⟩;obtain ⟨x',A',k2,c2',ng',rfl,_,_,_⟩:=hv.form;have kC4:=(kC2.below hb3 kC2.lt).below hb4 (kC2.below hb3 kC2.lt).lt;have hW4:=ext (ext hW2 hb3) hb4;have c0:=kC4.cell 0;have c1:=kC4.cell 1;have c2:=kC4.cell 2;have f0:=kC4.frozen 0;have f1:=kC4.frozen 1;have f2:=kC4.frozen 2;simp at c0 c1 c2;go_wp2;have kD:=yl (x:=x') (A:=A') (k:=k2) (c:=c2') (ng:=ng') kC4;have d0:=kD.cell 0;have d1:=kD.cell 1;have d2:=kD.cell 2;simp at d0 d1 d2;refine bodyPost_ret (v:=.agg #[.int .i64 x',.slice A' k2 c2',.bool ng']) (by simp [results,Tryz.results133,go_sem,d0,d1,d2]) rfl ?_;exact ⟨_,rfl,zy (by rw [VZ];exact hv) kC4,zN hW4 (by omega)⟩
   . have hst' :(s == t)=false:=beq_eq_false_iff_ne.2 hst
     go_wp2_with fail;refine (X2 p p' n m w2 hp2 hp' HLN.out HLM.out).mono ?_;rintro e w3 ⟨rfl,r,rfl⟩;have hp3:=hp2.below (zw w2 r);have hp4:=hp'.below (zw w2 r);have kC3:=kC2.drewN r;have hW3:=zl hW2 r;clear hp2 hp' kC2 hW2;generalize w2.drewN r=w2 at hp3 hp4 kC3 hW3 |-;have hp2:=hp3;have hp' :=hp4;have kC2:=kC3;have hW2:=hW3
     rcases Nat.lt_trichotomy n m with hlt | hlt | hlt
     . have hc:zK (n:Int) (m:Int)= -1:=by unfold zK;rw [if_pos (by omega)]
       rw [hc];clear hc;go_wp2_with fail;refine (Zv p' p m n w2 hp' hp2 HLM.out (Nat.le_of_lt hlt)).mono ?_;rintro e w3 ⟨q,rfl,hq,hb3⟩;go_wp2_with fail;refine (yi t q (m - n) w3 hq).mono ?_;rintro e w4 ⟨v,rfl,hv,hb4⟩;obtain ⟨x',A',k2,c2',ng',rfl,_,_,_⟩:=hv.form;have kC4:=(kC2.below hb3 kC2.lt).below hb4 (kC2.below hb3 kC2.lt).lt;have hW4:=ext (ext hW2 hb3) hb4;have c0:=kC4.cell 0;have c1:=kC4.cell 1;have c2:=kC4.cell 2;have f0:=kC4.frozen 0;have f1:=kC4.frozen 1;have f2:=kC4.frozen 2;simp at c0 c1 c2;go_wp2;have kD:=yl (x:=x') (A:=A') (k:=k2) (c:=c2') (ng:=ng') kC4;have d0:=kD.cell 0;have d1:=kD.cell 1;have d2:=kD.cell 2;simp at d0 d1 d2;refine bodyPost_ret (v:=.agg #[.int .i64 x',.slice A' k2 c2',.bool ng']) (by simp [results,Tryz.results133,go_sem,d0,d1,d2]) rfl ?_;exact ⟨_,rfl,zy (by rw [zh0 hst (Nat.le_of_lt hlt)];exact hv) kC4,zN hW4 (by omega)⟩
     . have hc:zK (n:Int) (m:Int)=0:=by unfold zK;rw [if_neg (by omega),if_neg (by omega)]
       rw [hc];clear hc;go_wp2_with fail;refine (Zv p p' n m w2 hp2 hp' HLN.out (Nat.le_of_eq hlt.symm)).mono ?_;rintro e w3 ⟨q,rfl,hq,hb3⟩;go_wp2_with fail;refine (yi s q (n - m) w3 hq).mono ?_;rintro e w4 ⟨v,rfl,hv,hb4⟩;obtain ⟨x',A',k2,c2',ng',rfl,_,_,_⟩:=hv.form;have kC4:=(kC2.below hb3 kC2.lt).below hb4 (kC2.below hb3 kC2.lt).lt;have hW4:=ext (ext hW2 hb3) hb4;have c0:=kC4.cell 0;have c1:=kC4.cell 1;have c2:=kC4.cell 2;have f0:=kC4.frozen 0;have f1:=kC4.frozen 1;have f2:=kC4.frozen 2;simp at c0 c1 c2;go_wp2;have kD:=yl (x:=x') (A:=A') (k:=k2) (c:=c2') (ng:=ng') kC4;have d0:=kD.cell 0;have d1:=kD.cell 1;have d2:=kD.cell 2;simp at d0 d1 d2;refine bodyPost_ret (v:=.agg #[.int .i64 x',.slice A' k2 c2',.bool ng']) (by simp [results,Tryz.results133,go_sem,d0,d1,d2]) rfl ?_;exact ⟨_,rfl,zy (by rw [V9 hst (Nat.le_of_eq hlt.symm)];exact hv) kC4,zN hW4 (by omega)⟩
     . have hc:zK (n:Int) (m:Int)=1:=by unfold zK;rw [if_neg (by omega),if_pos (by omega)]
       rw [hc];clear hc;go_wp2_with fail;refine (Zv p p' n m w2 hp2 hp' HLN.out (Nat.le_of_lt hlt)).mono ?_;rintro e w3 ⟨q,rfl,hq,hb3⟩;go_wp2_with fail;refine (yi s q (n - m) w3 hq).mono ?_;rintro e w4 ⟨v,rfl,hv,hb4⟩;obtain ⟨x',A',k2,c2',ng',rfl,_,_,_⟩:=hv.form;have kC4:=(kC2.below hb3 kC2.lt).below hb4 (kC2.below hb3 kC2.lt).lt;have hW4:=ext (ext hW2 hb3) hb4;have c0:=kC4.cell 0;have c1:=kC4.cell 1;have c2:=kC4.cell 2;have f0:=kC4.frozen 0;have f1:=kC4.frozen 1;have f2:=kC4.frozen 2;simp at c0 c1 c2;go_wp2;have kD:=yl (x:=x') (A:=A') (k:=k2) (c:=c2') (ng:=ng') kC4;have d0:=kD.cell 0;have d1:=kD.cell 1;have d2:=kD.cell 2;simp at d0 d1 d2;refine bodyPost_ret (v:=.agg #[.int .i64 x',.slice A' k2 c2',.bool ng']) (by simp [results,Tryz.results133,go_sem,d0,d1,d2]) rfl ?_;exact ⟨_,rfl,zy (by rw [V9 hst (Nat.le_of_lt hlt)];exact hv) kC4,zN hW4 (by omega)⟩
theorem ZD {z:Int}:decide (z<0)=true->0<z.natAbs:=by
 intro h
 have:=of_decide_eq_true h
 omega
theorem zc9 (va vb:Value) (z y:Int) (w:World) (ha:zR w va z) (hb:zR w vb y) (hla:len 4294967296 z.natAbs<=67108864) (hlb:len 4294967296 y.natAbs<=67108864):
 Calls Tryz.prog 133 #[va,vb] w (ZK w (z+y)):=by
 have ha' :=ha
 have hb' :=hb
 obtain ⟨x1,A,k,c,s,rfl,h1,h2,hA⟩:=ha.form
 obtain ⟨y1,B,k',c',t,rfl,h3,h4,hB⟩:=hb.form
 by_cases hf:A=none/\B=none/\ -4611686018427387904<x1+y1/\x1+y1<4611686018427387904
 . obtain ⟨e1,e2,h5,h6⟩:=hf
   obtain ⟨rfl,rfl,rfl⟩:=hA e1;obtain ⟨rfl,rfl,rfl⟩:=hB e2;subst e1 e2;exact zm0 z y s t w h1 h2 h3 h4 h5 h6
 . have:=zm3 (decide (z<0)) (decide (y<0)) z.natAbs y.natAbs x1 y1 A B k c k' c' s t w h1 h2 h3 h4 (by rw [yT];exact ha') (by rw [yT];exact hb') ZD ZD hla hlb (by
    unfold zly
    by_cases e1:A=none
    . by_cases e2:B=none
      . have:¬ (-4611686018427387904<x1+y1/\x1+y1<4611686018427387904):=fun h=>hf ⟨e1,e2,h⟩
        rcases (show -4611686018427387904<x1+y1\/x1+y1<= -4611686018427387904 by omega) with h | h
        . exact .inr (.inr (.inl ⟨e1,e2,by omega⟩))
        . exact .inr (.inr (.inr ⟨e1,e2,by omega⟩))
      . exact .inr (.inl ⟨e1,e2⟩)
    . exact .inl e1)
   rwa [yT,yT] at this
theorem Ym (s t:Bool) (n m:Nat):signed s n*signed t m=signed (s != t) (n*m):=by
 cases s<;>cases t<;>unfold signed<;>simp [Int.neg_mul,Int.mul_neg,Int.natCast_mul]
theorem Ze {w w' :World} {g:Nat} {t:TypeId} {cs:Array Value} (hb:Below w.heap.size w w') (h:Hid (Blk w g t cs)):Hid (Blk w' g t cs):=h.out.below hb h.out.lt
theorem zn4 (x y:Int) (a b:Bool) (P:Nat) (w:World) (h1: -4611686018427387904<x) (h2:x<4611686018427387904) (h3: -4611686018427387904<y) (h4:y<4611686018427387904) (hP:P=x.natAbs*y.natAbs) (hP2:P<4611686018427387904):
 Calls Tryz.prog 130 #[.agg #[.int .i64 x,.slice none 0 0,.bool a],.agg #[.int .i64 y,.slice none 0 0,.bool b]] w (ZK w (x*y)):=by
 have q0:=fun w=>zjt w none 0 0 0 0
 have hx:=fun w=>Xe x (.slice none 0 0) a w h1 h2
 have hy:=fun w=>Xe y (.slice none 0 0) b w h3 h4
 have hm:=fun w=>zdw x.natAbs y.natAbs (by omega) (by omega) w
 rw [<- hP,Nat.div_eq_of_lt (by omega),Nat.mod_eq_of_lt (by omega)] at hm
 have hz:x*y=signed (decide (x<0) != decide (y<0)) P:=by rw [hP, <- Ym,yT,yT]
 rw [hz]
 clear hz hP h1 h2 h3 h4
 have hPI:decide ((P:Int)<4611686018427387904)=true:=decide_eq_true (by omega)
 have HP2:=ze hP2
 have hPJ:(P:Int)<4611686018427387904:=by omega
 clear hP2
 have hn0:=Int.natCast_nonneg P
 rcases (show x<0\/¬ x<0 by omega) with hX | hX
 . rcases (show y<0\/¬ y<0 by omega) with hY | hY
   . have hsg:(decide (x<0) != decide (y<0))=false:=by rw [decide_eq_true hX,decide_eq_true hY];rfl
     rw [hsg];clear hsg;have hXD:decide (x<0)=true:=decide_eq_true hX;have hYD:decide (y<0)=true:=decide_eq_true hY;have hW:=(ext (ext (zf w (.cells #[.int .i64 x,.slice none 0 0,.bool a] 91)) (zf _ (.cells #[.int .i64 y,.slice none 0 0,.bool b] 91))) (zf _ (.cells #[.int .i64 0,.slice none 0 0,.bool false] 91)));have kB:=(Blk.new (w.alloc (.cells #[.int .i64 x,.slice none 0 0,.bool a] 91)) 91 #[.int .i64 y,.slice none 0 0,.bool b]).alloc (.cells #[.int .i64 0,.slice none 0 0,.bool false] 91);have kC:=Blk.new ((w.alloc (.cells #[.int .i64 x,.slice none 0 0,.bool a] 91)).alloc (.cells #[.int .i64 y,.slice none 0 0,.bool b] 91)) 91 #[.int .i64 0,.slice none 0 0,.bool false];simp only [World.size_alloc] at kB kC
     go_enter Tryz.func130,Tryz.ntmps130
     go_wp2_with fail
     go_region_held3 (fun w' =>w'.cell? ⟨w.heap.size,0,none⟩=some (.int .i64 x)/\w'.cell? ⟨w.heap.size,1,none⟩=some (.slice none 0 0)/\w'.cell? ⟨w.heap.size,2,none⟩=some (.bool a)/\
      w'.cell? ⟨w.heap.size+1,0,none⟩=some (.int .i64 y)/\w'.cell? ⟨w.heap.size+1,1,none⟩=some (.slice none 0 0)/\w'.cell? ⟨w.heap.size+1,2,none⟩=some (.bool b)/\
      w.heap.size<w'.heap.size/\w.heap.size+1<w'.heap.size/\Hid (Blk w' (w.heap.size+1) 91 #[.int .i64 y,.slice none 0 0,.bool b])/\Hid (Blk w' (w.heap.size+1+1) 91 #[.int .i64 0,.slice none 0 0,.bool false])/\Hid (Below w.heap.size w w'))
      (first
        | exact ⟨by go_keep,by go_keep,by go_keep,by go_keep,by go_keep,by go_keep,by simp;omega,by simp,ze (kB.drewN 1),ze (kC.drewN 1),ze (zl hW 1)⟩
        | go_keep
        | (go_split_ands;exact ⟨zj ‹_› ‹_› ‹_›,zj ‹_› ‹_› ‹_›,zj ‹_› ‹_› ‹_›,zj ‹_› ‹_› ‹_›,zj ‹_› ‹_› ‹_›,zj ‹_› ‹_› ‹_›,zE ‹_› ‹_›,zE ‹_› ‹_›,Ze ‹_› ‹_›,Ze ‹_› ‹_›,zt ‹_› ‹_›⟩))
      (first
        | (go_at_call_of 175 (Value.agg #[Value.int .i64 x,.slice none 0 0,.bool a]);refine (hx _).mono ?_;rintro e w1 ⟨rfl,hb1⟩)
        | (go_at_call_of 175 (Value.agg #[Value.int .i64 y,.slice none 0 0,.bool b]);refine (hy _).mono ?_;rintro e w1 ⟨rfl,hb1⟩)
        | (go_at_call 179;refine (hm _).mono ?_;rintro e w1 ⟨rfl,rfl⟩))
     go_split_ands;have kC4:=zI (by assumption:Hid (Blk _ (w.heap.size+1+1) _ _));have c0:=kC4.cell 0;have c1:=kC4.cell 1;have c2:=kC4.cell 2;have f0:=kC4.frozen 0;have f1:=kC4.frozen 1;have f2:=kC4.frozen 2;simp at c0 c1 c2;go_wp2;have kD:=yl (x:=P) (A:=none) (k:=0) (c:=0) (ng:=false) kC4;have d0:=kD.cell 0;have d1:=kD.cell 1;have d2:=kD.cell 2;simp at d0 d1 d2;refine bodyPost_ret (v:=.agg #[.int .i64 (P),.slice none 0 0,.bool false]) (by simp [results,Tryz.results130,go_sem,d0,d1,d2]) rfl ?_;exact ⟨_,rfl,.inl ⟨_,_,rfl,by have:=HP2.out;omega,by have:=HP2.out;omega,rfl⟩,zN (zI ‹_›) (by omega)⟩
   . have hsg:(decide (x<0) != decide (y<0))=true:=by rw [decide_eq_true hX,decide_eq_false hY];rfl
     rw [hsg];clear hsg;have hXD:decide (x<0)=true:=decide_eq_true hX;have hYD:decide (y<0)=false:=decide_eq_false hY;have hW:=(ext (ext (zf w (.cells #[.int .i64 x,.slice none 0 0,.bool a] 91)) (zf _ (.cells #[.int .i64 y,.slice none 0 0,.bool b] 91))) (zf _ (.cells #[.int .i64 0,.slice none 0 0,.bool false] 91)));have kB:=(Blk.new (w.alloc (.cells #[.int .i64 x,.slice none 0 0,.bool a] 91)) 91 #[.int .i64 y,.slice none 0 0,.bool b]).alloc (.cells #[.int .i64 0,.slice none 0 0,.bool false] 91);have kC:=Blk.new ((w.alloc (.cells #[.int .i64 x,.slice none 0 0,.bool a] 91)).alloc (.cells #[.int .i64 y,.slice none 0 0,.bool b] 91)) 91 #[.int .i64 0,.slice none 0 0,.bool false];simp only [World.size_alloc] at kB kC
     go_enter Tryz.func130,Tryz.ntmps130
     go_wp2_with fail
     go_region_held3 (fun w' =>w'.cell? ⟨w.heap.size,0,none⟩=some (.int .i64 x)/\w'.cell? ⟨w.heap.size,1,none⟩=some (.slice none 0 0)/\w'.cell? ⟨w.heap.size,2,none⟩=some (.bool a)/\
      w'.cell? ⟨w.heap.size+1,0,none⟩=some (.int .i64 y)/\w'.cell? ⟨w.heap.size+1,1,none⟩=some (.slice none 0 0)/\w'.cell? ⟨w.heap.size+1,2,none⟩=some (.bool b)/\
      w.heap.size<w'.heap.size/\w.heap.size+1<w'.heap.size/\Hid (Blk w' (w.heap.size+1) 91 #[.int .i64 y,.slice none 0 0,.bool b])/\Hid (Blk w' (w.heap.size+1+1) 91 #[.int .i64 0,.slice none 0 0,.bool false])/\Hid (Below w.heap.size w w'))
      (first
        | exact ⟨by go_keep,by go_keep,by go_keep,by go_keep,by go_keep,by go_keep,by simp;omega,by simp,ze (kB.drewN 1),ze (kC.drewN 1),ze (zl hW 1)⟩
        | go_keep
        | (go_split_ands;exact ⟨zj ‹_› ‹_› ‹_›,zj ‹_› ‹_› ‹_›,zj ‹_› ‹_› ‹_›,zj ‹_› ‹_› ‹_›,zj ‹_› ‹_› ‹_›,zj ‹_› ‹_› ‹_›,zE ‹_› ‹_›,zE ‹_› ‹_›,Ze ‹_› ‹_›,Ze ‹_› ‹_›,zt ‹_› ‹_›⟩))
      (first
        | (go_at_call_of 175 (Value.agg #[Value.int .i64 x,.slice none 0 0,.bool a]);refine (hx _).mono ?_;rintro e w1 ⟨rfl,hb1⟩)
        | (go_at_call_of 175 (Value.agg #[Value.int .i64 y,.slice none 0 0,.bool b]);refine (hy _).mono ?_;rintro e w1 ⟨rfl,hb1⟩)
        | (go_at_call 179;refine (hm _).mono ?_;rintro e w1 ⟨rfl,rfl⟩))
     go_split_ands;have kC4:=zI (by assumption:Hid (Blk _ (w.heap.size+1+1) _ _));have c0:=kC4.cell 0;have c1:=kC4.cell 1;have c2:=kC4.cell 2;have f0:=kC4.frozen 0;have f1:=kC4.frozen 1;have f2:=kC4.frozen 2;simp at c0 c1 c2;go_wp2;have kD:=yl (x:= -P) (A:=none) (k:=0) (c:=0) (ng:=false) kC4;have d0:=kD.cell 0;have d1:=kD.cell 1;have d2:=kD.cell 2;simp at d0 d1 d2;refine bodyPost_ret (v:=.agg #[.int .i64 (-P),.slice none 0 0,.bool false]) (by simp [results,Tryz.results130,go_sem,d0,d1,d2]) rfl ?_;exact ⟨_,rfl,.inl ⟨_,_,rfl,by have:=HP2.out;omega,by have:=HP2.out;omega,rfl⟩,zN (zI ‹_›) (by omega)⟩
 . rcases (show y<0\/¬ y<0 by omega) with hY | hY
   . have hsg:(decide (x<0) != decide (y<0))=true:=by rw [decide_eq_false hX,decide_eq_true hY];rfl
     rw [hsg];clear hsg;have hXD:decide (x<0)=false:=decide_eq_false hX;have hYD:decide (y<0)=true:=decide_eq_true hY;have hW:=(ext (ext (zf w (.cells #[.int .i64 x,.slice none 0 0,.bool a] 91)) (zf _ (.cells #[.int .i64 y,.slice none 0 0,.bool b] 91))) (zf _ (.cells #[.int .i64 0,.slice none 0 0,.bool false] 91)));have kB:=(Blk.new (w.alloc (.cells #[.int .i64 x,.slice none 0 0,.bool a] 91)) 91 #[.int .i64 y,.slice none 0 0,.bool b]).alloc (.cells #[.int .i64 0,.slice none 0 0,.bool false] 91);have kC:=Blk.new ((w.alloc (.cells #[.int .i64 x,.slice none 0 0,.bool a] 91)).alloc (.cells #[.int .i64 y,.slice none 0 0,.bool b] 91)) 91 #[.int .i64 0,.slice none 0 0,.bool false];simp only [World.size_alloc] at kB kC
     go_enter Tryz.func130,Tryz.ntmps130
     go_wp2_with fail
     go_region_held3 (fun w' =>w'.cell? ⟨w.heap.size,0,none⟩=some (.int .i64 x)/\w'.cell? ⟨w.heap.size,1,none⟩=some (.slice none 0 0)/\w'.cell? ⟨w.heap.size,2,none⟩=some (.bool a)/\
      w'.cell? ⟨w.heap.size+1,0,none⟩=some (.int .i64 y)/\w'.cell? ⟨w.heap.size+1,1,none⟩=some (.slice none 0 0)/\w'.cell? ⟨w.heap.size+1,2,none⟩=some (.bool b)/\
      w.heap.size<w'.heap.size/\w.heap.size+1<w'.heap.size/\Hid (Blk w' (w.heap.size+1) 91 #[.int .i64 y,.slice none 0 0,.bool b])/\Hid (Blk w' (w.heap.size+1+1) 91 #[.int .i64 0,.slice none 0 0,.bool false])/\Hid (Below w.heap.size w w'))
      (first
        | exact ⟨by go_keep,by go_keep,by go_keep,by go_keep,by go_keep,by go_keep,by simp;omega,by simp,ze (kB.drewN 1),ze (kC.drewN 1),ze (zl hW 1)⟩
        | go_keep
        | (go_split_ands;exact ⟨zj ‹_› ‹_› ‹_›,zj ‹_› ‹_› ‹_›,zj ‹_› ‹_› ‹_›,zj ‹_› ‹_› ‹_›,zj ‹_› ‹_› ‹_›,zj ‹_› ‹_› ‹_›,zE ‹_› ‹_›,zE ‹_› ‹_›,Ze ‹_› ‹_›,Ze ‹_› ‹_›,zt ‹_› ‹_›⟩))
      (first
        | (go_at_call_of 175 (Value.agg #[Value.int .i64 x,.slice none 0 0,.bool a]);refine (hx _).mono ?_;rintro e w1 ⟨rfl,hb1⟩)
        | (go_at_call_of 175 (Value.agg #[Value.int .i64 y,.slice none 0 0,.bool b]);refine (hy _).mono ?_;rintro e w1 ⟨rfl,hb1⟩)
        | (go_at_call 179;refine (hm _).mono ?_;rintro e w1 ⟨rfl,rfl⟩))
     go_split_ands;have kC4:=zI (by assumption:Hid (Blk _ (w.heap.size+1+1) _ _));have c0:=kC4.cell 0;have c1:=kC4.cell 1;have c2:=kC4.cell 2;have f0:=kC4.frozen 0;have f1:=kC4.frozen 1;have f2:=kC4.frozen 2;simp at c0 c1 c2;go_wp2;have kD:=yl (x:= -P) (A:=none) (k:=0) (c:=0) (ng:=false) kC4;have d0:=kD.cell 0;have d1:=kD.cell 1;have d2:=kD.cell 2;simp at d0 d1 d2;refine bodyPost_ret (v:=.agg #[.int .i64 (-P),.slice none 0 0,.bool false]) (by simp [results,Tryz.results130,go_sem,d0,d1,d2]) rfl ?_;exact ⟨_,rfl,.inl ⟨_,_,rfl,by have:=HP2.out;omega,by have:=HP2.out;omega,rfl⟩,zN (zI ‹_›) (by omega)⟩
   . have hsg:(decide (x<0) != decide (y<0))=false:=by rw [decide_eq_false hX,decide_eq_false hY];rfl
     rw [hsg];clear hsg;have hXD:decide (x<0)=false:=decide_eq_false hX;have hYD:decide (y<0)=false:=decide_eq_false hY;have hW:=(ext (ext (zf w (.cells #[.int .i64 x,.slice none 0 0,.bool a] 91)) (zf _ (.cells #[.int .i64 y,.slice none 0 0,.bool b] 91))) (zf _ (.cells #[.int .i64 0,.slice none 0 0,.bool false] 91)));have kB:=(Blk.new (w.alloc (.cells #[.int .i64 x,.slice none 0 0,.bool a] 91)) 91 #[.int .i64 y,.slice none 0 0,.bool b]).alloc (.cells #[.int .i64 0,.slice none 0 0,.bool false] 91);have kC:=Blk.new ((w.alloc (.cells #[.int .i64 x,.slice none 0 0,.bool a] 91)).alloc (.cells #[.int .i64 y,.slice none 0 0,.bool b] 91)) 91 #[.int .i64 0,.slice none 0 0,.bool false];simp only [World.size_alloc] at kB kC
     go_enter Tryz.func130,Tryz.ntmps130
     go_wp2_with fail
     go_region_held3 (fun w' =>w'.cell? ⟨w.heap.size,0,none⟩=some (.int .i64 x)/\w'.cell? ⟨w.heap.size,1,none⟩=some (.slice none 0 0)/\w'.cell? ⟨w.heap.size,2,none⟩=some (.bool a)/\
      w'.cell? ⟨w.heap.size+1,0,none⟩=some (.int .i64 y)/\w'.cell? ⟨w.heap.size+1,1,none⟩=some (.slice none 0 0)/\w'.cell? ⟨w.heap.size+1,2,none⟩=some (.bool b)/\
      w.heap.size<w'.heap.size/\w.heap.size+1<w'.heap.size/\Hid (Blk w' (w.heap.size+1) 91 #[.int .i64 y,.slice none 0 0,.bool b])/\Hid (Blk w' (w.heap.size+1+1) 91 #[.int .i64 0,.slice none 0 0,.bool false])/\Hid (Below w.heap.size w w'))
      (first
        | exact ⟨by go_keep,by go_keep,by go_keep,by go_keep,by go_keep,by go_keep,by simp;omega,by simp,ze (kB.drewN 1),ze (kC.drewN 1),ze (zl hW 1)⟩
        | go_keep
        | (go_split_ands;exact ⟨zj ‹_› ‹_› ‹_›,zj ‹_› ‹_› ‹_›,zj ‹_› ‹_› ‹_›,zj ‹_› ‹_› ‹_›,zj ‹_› ‹_› ‹_›,zj ‹_› ‹_› ‹_›,zE ‹_› ‹_›,zE ‹_› ‹_›,Ze ‹_› ‹_›,Ze ‹_› ‹_›,zt ‹_› ‹_›⟩))
      (first
        | (go_at_call_of 175 (Value.agg #[Value.int .i64 x,.slice none 0 0,.bool a]);refine (hx _).mono ?_;rintro e w1 ⟨rfl,hb1⟩)
        | (go_at_call_of 175 (Value.agg #[Value.int .i64 y,.slice none 0 0,.bool b]);refine (hy _).mono ?_;rintro e w1 ⟨rfl,hb1⟩)
        | (go_at_call 179;refine (hm _).mono ?_;rintro e w1 ⟨rfl,rfl⟩))
     go_split_ands;have kC4:=zI (by assumption:Hid (Blk _ (w.heap.size+1+1) _ _));have c0:=kC4.cell 0;have c1:=kC4.cell 1;have c2:=kC4.cell 2;have f0:=kC4.frozen 0;have f1:=kC4.frozen 1;have f2:=kC4.frozen 2;simp at c0 c1 c2;go_wp2;have kD:=yl (x:=P) (A:=none) (k:=0) (c:=0) (ng:=false) kC4;have d0:=kD.cell 0;have d1:=kD.cell 1;have d2:=kD.cell 2;simp at d0 d1 d2;refine bodyPost_ret (v:=.agg #[.int .i64 (P),.slice none 0 0,.bool false]) (by simp [results,Tryz.results130,go_sem,d0,d1,d2]) rfl ?_;exact ⟨_,rfl,.inl ⟨_,_,rfl,by have:=HP2.out;omega,by have:=HP2.out;omega,rfl⟩,zN (zI ‹_›) (by omega)⟩
def zld (x y:Int) (A B:Option Addr):Prop:=A≠none\/(A=none/\B≠none)\/(A=none/\B=none/\4611686018427387904<=x.natAbs*y.natAbs)
theorem zn6 (s t:Bool) (n m:Nat) (x y:Int) (A B:Option Addr) (k c k' c' :Nat) (a b:Bool) (w:World) (h1: -4611686018427387904<x) (h2:x<4611686018427387904) (h3: -4611686018427387904<y) (h4:y<4611686018427387904)
 (hA0:A=none->k=0/\c=0) (hB0:B=none->k' =0/\c' =0)
 (ha:zR w (.agg #[.int .i64 x,.slice A k c,.bool a]) (signed s n)) (hb:zR w (.agg #[.int .i64 y,.slice B k' c',.bool b]) (signed t m)) (hs:s=true->0<n) (ht:t=true->0<m)
 (hln:len 4294967296 n<=67108864) (hlm:len 4294967296 m<=67108864) (hsl:zld x y A B):
 Calls Tryz.prog 130 #[.agg #[.int .i64 x,.slice A k c,.bool a],.agg #[.int .i64 y,.slice B k' c',.bool b]] w (ZK w (signed s n*signed t m)):=by
 have q1:=fun w=>zjt w A k c 0 0
 have q2:=fun w=>zjt w B k' c' 0 0
 have HLN:=ze hln
 have HLM:=ze hlm
 clear hln hlm
 rcases hsl with h | ⟨h,h'⟩ | ⟨h,h',h5⟩
 . obtain ⟨ad,rfl⟩:=Option.ne_none_iff_exists'.1 h
   clear h
   go_enter Tryz.func130,Tryz.ntmps130
   go_wp2_with fail;have hW:=(ext (ext (zf w (.cells #[.int .i64 x,.slice (some ad) k c,.bool a] 91)) (zf _ (.cells #[.int .i64 y,.slice B k' c',.bool b] 91))) (zf _ (.cells #[.int .i64 0,.slice none 0 0,.bool false] 91)));have hA:=ha.below hW;have hB:=hb.below hW;have kB:=(Blk.new (w.alloc (.cells #[.int .i64 x,.slice (some ad) k c,.bool a] 91)) 91 #[.int .i64 y,.slice B k' c',.bool b]).alloc (.cells #[.int .i64 0,.slice none 0 0,.bool false] 91);have kC:=Blk.new ((w.alloc (.cells #[.int .i64 x,.slice (some ad) k c,.bool a] 91)).alloc (.cells #[.int .i64 y,.slice B k' c',.bool b] 91)) 91 #[.int .i64 0,.slice none 0 0,.bool false];simp only [World.size_alloc] at kB kC;generalize ((w.alloc (.cells #[.int .i64 x,.slice (some ad) k c,.bool a] 91)).alloc (.cells #[.int .i64 y,.slice B k' c',.bool b] 91)).alloc (.cells #[.int .i64 0,.slice none 0 0,.bool false] 91)=W at hA hB kB kC hW |-;refine (xF _ s n W hA hs).mono ?_;rintro e w1 ⟨p,rfl,hp,hb1⟩;have kB1:=kB.below hb1 kB.lt;have c0:=kB1.cell 0;have c1:=kB1.cell 1;have c2:=kB1.cell 2;simp at c0 c1 c2;go_wp2_with fail;refine (xF _ t m w1 (hB.below hb1) ht).mono ?_
   rintro e w2 ⟨p',rfl,hp',hb2⟩;have hp2:=hp.below hb2;have kC2:=(kC.below hb1 kC.lt).below hb2 (kC.below hb1 kC.lt).lt;have hW2:=ext (ext hW hb1) hb2;clear hb1 hb2 hW kC kB kB1 c0 c1 c2 hA hB hp;go_wp2_with fail;refine (zab p p' n m w2 hp2 hp' HLN.out HLM.out).mono ?_;rintro e w3 ⟨q,rfl,hq,hb3⟩;go_wp2_with fail;refine (yi (s != t) q (n*m) w3 hq).mono ?_;rintro e w4 ⟨v,rfl,hv,hb4⟩;obtain ⟨x',A',k2,c2',ng',rfl,_,_,_⟩:=hv.form;have kC4:=(kC2.below hb3 kC2.lt).below hb4 (kC2.below hb3 kC2.lt).lt;have hW4:=ext (ext hW2 hb3) hb4;have c0:=kC4.cell 0;have c1:=kC4.cell 1;have c2:=kC4.cell 2;have f0:=kC4.frozen 0;have f1:=kC4.frozen 1;have f2:=kC4.frozen 2;simp at c0 c1 c2;go_wp2;have kD:=yl (x:=x') (A:=A') (k:=k2) (c:=c2') (ng:=ng') kC4;have d0:=kD.cell 0;have d1:=kD.cell 1;have d2:=kD.cell 2;simp at d0 d1 d2;refine bodyPost_ret (v:=.agg #[.int .i64 x',.slice A' k2 c2',.bool ng']) (by simp [results,Tryz.results130,go_sem,d0,d1,d2]) rfl ?_;exact ⟨_,rfl,zy (by rw [Ym];exact hv) kC4,zN hW4 (by omega)⟩
 . obtain ⟨bd,rfl⟩:=Option.ne_none_iff_exists'.1 h'
   subst h;obtain ⟨rfl,rfl⟩:=hA0 rfl;clear h' hA0 hB0
   go_enter Tryz.func130,Tryz.ntmps130
   go_wp2_with fail;have hW:=(ext (ext (zf w (.cells #[.int .i64 x,.slice none 0 0,.bool a] 91)) (zf _ (.cells #[.int .i64 y,.slice (some bd) k' c',.bool b] 91))) (zf _ (.cells #[.int .i64 0,.slice none 0 0,.bool false] 91)));have hA:=ha.below hW;have hB:=hb.below hW;have kB:=(Blk.new (w.alloc (.cells #[.int .i64 x,.slice none 0 0,.bool a] 91)) 91 #[.int .i64 y,.slice (some bd) k' c',.bool b]).alloc (.cells #[.int .i64 0,.slice none 0 0,.bool false] 91);have kC:=Blk.new ((w.alloc (.cells #[.int .i64 x,.slice none 0 0,.bool a] 91)).alloc (.cells #[.int .i64 y,.slice (some bd) k' c',.bool b] 91)) 91 #[.int .i64 0,.slice none 0 0,.bool false];simp only [World.size_alloc] at kB kC;generalize ((w.alloc (.cells #[.int .i64 x,.slice none 0 0,.bool a] 91)).alloc (.cells #[.int .i64 y,.slice (some bd) k' c',.bool b] 91)).alloc (.cells #[.int .i64 0,.slice none 0 0,.bool false] 91)=W at hA hB kB kC hW |-;refine (xF _ s n W hA hs).mono ?_;rintro e w1 ⟨p,rfl,hp,hb1⟩;have kB1:=kB.below hb1 kB.lt;have c0:=kB1.cell 0;have c1:=kB1.cell 1;have c2:=kB1.cell 2;simp at c0 c1 c2;go_wp2_with fail
   refine (xF _ t m w1 (hB.below hb1) ht).mono ?_;rintro e w2 ⟨p',rfl,hp',hb2⟩;have hp2:=hp.below hb2;have kC2:=(kC.below hb1 kC.lt).below hb2 (kC.below hb1 kC.lt).lt;have hW2:=ext (ext hW hb1) hb2;clear hb1 hb2 hW kC kB kB1 c0 c1 c2 hA hB hp;go_wp2_with fail;refine (zab p p' n m w2 hp2 hp' HLN.out HLM.out).mono ?_;rintro e w3 ⟨q,rfl,hq,hb3⟩;go_wp2_with fail;refine (yi (s != t) q (n*m) w3 hq).mono ?_;rintro e w4 ⟨v,rfl,hv,hb4⟩;obtain ⟨x',A',k2,c2',ng',rfl,_,_,_⟩:=hv.form;have kC4:=(kC2.below hb3 kC2.lt).below hb4 (kC2.below hb3 kC2.lt).lt;have hW4:=ext (ext hW2 hb3) hb4;have c0:=kC4.cell 0;have c1:=kC4.cell 1;have c2:=kC4.cell 2;have f0:=kC4.frozen 0;have f1:=kC4.frozen 1;have f2:=kC4.frozen 2;simp at c0 c1 c2;go_wp2;have kD:=yl (x:=x') (A:=A') (k:=k2) (c:=c2') (ng:=ng') kC4;have d0:=kD.cell 0;have d1:=kD.cell 1;have d2:=kD.cell 2;simp at d0 d1 d2;refine bodyPost_ret (v:=.agg #[.int .i64 x',.slice A' k2 c2',.bool ng']) (by simp [results,Tryz.results130,go_sem,d0,d1,d2]) rfl ?_;exact ⟨_,rfl,zy (by rw [Ym];exact hv) kC4,zN hW4 (by omega)⟩
 . subst h h'
   obtain ⟨rfl,rfl⟩:=hA0 rfl;obtain ⟨rfl,rfl⟩:=hB0 rfl;have hx:=fun w=>Xe x (.slice none 0 0) a w h1 h2
   have hy:=fun w=>Xe y (.slice none 0 0) b w h3 h4
   have hm:=fun w=>zdw x.natAbs y.natAbs (by omega) (by omega) w
   generalize x.natAbs*y.natAbs=P at hm h5;have hL:P / 18446744073709551616≠0\/(P / 18446744073709551616=0/\4611686018427387904<=P % 18446744073709551616):=by omega
   generalize P / 18446744073709551616=H at hm hL;generalize P % 18446744073709551616=L at hm hL;clear h5 h1 h2 h3 h4 hA0 hB0
   rcases hL with hL | ⟨rfl,hL⟩
   . have hH:¬ (H:Int)=0:=by omega
     have hH2:((H:Int) == 0)=false:=beq_eq_false_iff_ne.2 hH;clear hL;have hW:=(ext (ext (zf w (.cells #[.int .i64 x,.slice none 0 0,.bool a] 91)) (zf _ (.cells #[.int .i64 y,.slice none 0 0,.bool b] 91))) (zf _ (.cells #[.int .i64 0,.slice none 0 0,.bool false] 91)));have kB:=(Blk.new (w.alloc (.cells #[.int .i64 x,.slice none 0 0,.bool a] 91)) 91 #[.int .i64 y,.slice none 0 0,.bool b]).alloc (.cells #[.int .i64 0,.slice none 0 0,.bool false] 91);have kC:=Blk.new ((w.alloc (.cells #[.int .i64 x,.slice none 0 0,.bool a] 91)).alloc (.cells #[.int .i64 y,.slice none 0 0,.bool b] 91)) 91 #[.int .i64 0,.slice none 0 0,.bool false];simp only [World.size_alloc] at kB kC
     go_enter Tryz.func130,Tryz.ntmps130
     go_wp2_with fail
     go_region_held3 (fun w' =>w'.cell? ⟨w.heap.size,0,none⟩=some (.int .i64 x)/\w'.cell? ⟨w.heap.size,1,none⟩=some (.slice none 0 0)/\w'.cell? ⟨w.heap.size,2,none⟩=some (.bool a)/\
      w'.cell? ⟨w.heap.size+1,0,none⟩=some (.int .i64 y)/\w'.cell? ⟨w.heap.size+1,1,none⟩=some (.slice none 0 0)/\w'.cell? ⟨w.heap.size+1,2,none⟩=some (.bool b)/\
      w.heap.size<w'.heap.size/\w.heap.size+1<w'.heap.size/\Hid (Blk w' (w.heap.size+1) 91 #[.int .i64 y,.slice none 0 0,.bool b])/\Hid (Blk w' (w.heap.size+1+1) 91 #[.int .i64 0,.slice none 0 0,.bool false])/\Hid (Below w.heap.size w w'))
      (first
        | exact ⟨by go_keep,by go_keep,by go_keep,by go_keep,by go_keep,by go_keep,by simp;omega,by simp,ze (kB.drewN 1),ze (kC.drewN 1),ze (zl hW 1)⟩
        | go_keep
        | (go_split_ands;exact ⟨zj ‹_› ‹_› ‹_›,zj ‹_› ‹_› ‹_›,zj ‹_› ‹_› ‹_›,zj ‹_› ‹_› ‹_›,zj ‹_› ‹_› ‹_›,zj ‹_› ‹_› ‹_›,zE ‹_› ‹_›,zE ‹_› ‹_›,Ze ‹_› ‹_›,Ze ‹_› ‹_›,zt ‹_› ‹_›⟩))
      (first
        | (go_at_call_of 175 (Value.agg #[Value.int .i64 x,.slice none 0 0,.bool a]);refine (hx _).mono ?_;rintro e w1 ⟨rfl,hb1⟩)
        | (go_at_call_of 175 (Value.agg #[Value.int .i64 y,.slice none 0 0,.bool b]);refine (hy _).mono ?_;rintro e w1 ⟨rfl,hb1⟩)
        | (go_at_call 179;refine (hm _).mono ?_;rintro e w1 ⟨rfl,rfl⟩))
     go_split_ands;have hW' :=zI (by assumption:Hid (Below w.heap.size w _));have kB' :=zI (by assumption:Hid (Blk _ (w.heap.size+1) _ _));have kC' :=zI (by assumption:Hid (Blk _ (w.heap.size+1+1) _ _));have hA:=ha.below hW';have hB:=hb.below hW';clear hW kB kC;have hW:=hW';have kB:=kB';have kC:=kC';clear hW' kB' kC';go_wp2_with fail;refine (xF _ s n _ hA hs).mono ?_;rintro e w1 ⟨p,rfl,hp,hb1⟩;have kB1:=kB.below hb1 kB.lt;have c0:=kB1.cell 0;have c1:=kB1.cell 1;have c2:=kB1.cell 2;simp at c0 c1 c2;go_wp2_with fail;refine (xF _ t m w1 (hB.below hb1) ht).mono ?_;rintro e w2 ⟨p',rfl,hp',hb2⟩;have hp2:=hp.below hb2;have kC2:=(kC.below hb1 kC.lt).below hb2 (kC.below hb1 kC.lt).lt;have hW2:=ext (ext hW hb1) hb2;clear hb1 hb2 hW kC kB kB1 c0 c1 c2 hA hB hp;go_wp2_with fail;refine (zab p p' n m w2 hp2 hp' HLN.out HLM.out).mono ?_;rintro e w3 ⟨q,rfl,hq,hb3⟩;go_wp2_with fail;refine (yi (s != t) q (n*m) w3 hq).mono ?_;rintro e w4 ⟨v,rfl,hv,hb4⟩;obtain ⟨x',A',k2,c2',ng',rfl,_,_,_⟩:=hv.form;have kC4:=(kC2.below hb3 kC2.lt).below hb4 (kC2.below hb3 kC2.lt).lt;have hW4:=ext (ext hW2 hb3) hb4
     have c0:=kC4.cell 0;have c1:=kC4.cell 1;have c2:=kC4.cell 2;have f0:=kC4.frozen 0;have f1:=kC4.frozen 1;have f2:=kC4.frozen 2;simp at c0 c1 c2;go_wp2;have kD:=yl (x:=x') (A:=A') (k:=k2) (c:=c2') (ng:=ng') kC4;have d0:=kD.cell 0;have d1:=kD.cell 1;have d2:=kD.cell 2;simp at d0 d1 d2;refine bodyPost_ret (v:=.agg #[.int .i64 x',.slice A' k2 c2',.bool ng']) (by simp [results,Tryz.results130,go_sem,d0,d1,d2]) rfl ?_;exact ⟨_,rfl,zy (by rw [Ym];exact hv) kC4,zN hW4 (by omega)⟩
   . have hD:decide ((L:Int)<4611686018427387904)=false:=decide_eq_false (by omega)
     clear hL;have hW:=(ext (ext (zf w (.cells #[.int .i64 x,.slice none 0 0,.bool a] 91)) (zf _ (.cells #[.int .i64 y,.slice none 0 0,.bool b] 91))) (zf _ (.cells #[.int .i64 0,.slice none 0 0,.bool false] 91)));have kB:=(Blk.new (w.alloc (.cells #[.int .i64 x,.slice none 0 0,.bool a] 91)) 91 #[.int .i64 y,.slice none 0 0,.bool b]).alloc (.cells #[.int .i64 0,.slice none 0 0,.bool false] 91);have kC:=Blk.new ((w.alloc (.cells #[.int .i64 x,.slice none 0 0,.bool a] 91)).alloc (.cells #[.int .i64 y,.slice none 0 0,.bool b] 91)) 91 #[.int .i64 0,.slice none 0 0,.bool false];simp only [World.size_alloc] at kB kC
     go_enter Tryz.func130,Tryz.ntmps130
     go_wp2_with fail
     go_region_held3 (fun w' =>w'.cell? ⟨w.heap.size,0,none⟩=some (.int .i64 x)/\w'.cell? ⟨w.heap.size,1,none⟩=some (.slice none 0 0)/\w'.cell? ⟨w.heap.size,2,none⟩=some (.bool a)/\
      w'.cell? ⟨w.heap.size+1,0,none⟩=some (.int .i64 y)/\w'.cell? ⟨w.heap.size+1,1,none⟩=some (.slice none 0 0)/\w'.cell? ⟨w.heap.size+1,2,none⟩=some (.bool b)/\
      w.heap.size<w'.heap.size/\w.heap.size+1<w'.heap.size/\Hid (Blk w' (w.heap.size+1) 91 #[.int .i64 y,.slice none 0 0,.bool b])/\Hid (Blk w' (w.heap.size+1+1) 91 #[.int .i64 0,.slice none 0 0,.bool false])/\Hid (Below w.heap.size w w'))
      (first
        | exact ⟨by go_keep,by go_keep,by go_keep,by go_keep,by go_keep,by go_keep,by simp;omega,by simp,ze (kB.drewN 1),ze (kC.drewN 1),ze (zl hW 1)⟩
        | go_keep
        | (go_split_ands;exact ⟨zj ‹_› ‹_› ‹_›,zj ‹_› ‹_› ‹_›,zj ‹_› ‹_› ‹_›,zj ‹_› ‹_› ‹_›,zj ‹_› ‹_› ‹_›,zj ‹_› ‹_› ‹_›,zE ‹_› ‹_›,zE ‹_› ‹_›,Ze ‹_› ‹_›,Ze ‹_› ‹_›,zt ‹_› ‹_›⟩))
      (first
        | (go_at_call_of 175 (Value.agg #[Value.int .i64 x,.slice none 0 0,.bool a]);refine (hx _).mono ?_;rintro e w1 ⟨rfl,hb1⟩)
        | (go_at_call_of 175 (Value.agg #[Value.int .i64 y,.slice none 0 0,.bool b]);refine (hy _).mono ?_;rintro e w1 ⟨rfl,hb1⟩)
        | (go_at_call 179;refine (hm _).mono ?_;rintro e w1 ⟨rfl,rfl⟩))
     go_split_ands;have hW' :=zI (by assumption:Hid (Below w.heap.size w _));have kB' :=zI (by assumption:Hid (Blk _ (w.heap.size+1) _ _));have kC' :=zI (by assumption:Hid (Blk _ (w.heap.size+1+1) _ _));have hA:=ha.below hW';have hB:=hb.below hW';clear hW kB kC;have hW:=hW';have kB:=kB';have kC:=kC';clear hW' kB' kC';go_wp2_with fail;refine (xF _ s n _ hA hs).mono ?_;rintro e w1 ⟨p,rfl,hp,hb1⟩;have kB1:=kB.below hb1 kB.lt;have c0:=kB1.cell 0;have c1:=kB1.cell 1;have c2:=kB1.cell 2;simp at c0 c1 c2;go_wp2_with fail;refine (xF _ t m w1 (hB.below hb1) ht).mono ?_;rintro e w2 ⟨p',rfl,hp',hb2⟩;have hp2:=hp.below hb2;have kC2:=(kC.below hb1 kC.lt).below hb2 (kC.below hb1 kC.lt).lt;have hW2:=ext (ext hW hb1) hb2;clear hb1 hb2 hW kC kB kB1 c0 c1 c2 hA hB hp;go_wp2_with fail;refine (zab p p' n m w2 hp2 hp' HLN.out HLM.out).mono ?_;rintro e w3 ⟨q,rfl,hq,hb3⟩;go_wp2_with fail;refine (yi (s != t) q (n*m) w3 hq).mono ?_;rintro e w4 ⟨v,rfl,hv,hb4⟩;obtain ⟨x',A',k2,c2',ng',rfl,_,_,_⟩:=hv.form;have kC4:=(kC2.below hb3 kC2.lt).below hb4 (kC2.below hb3 kC2.lt).lt;have hW4:=ext (ext hW2 hb3) hb4
     have c0:=kC4.cell 0;have c1:=kC4.cell 1;have c2:=kC4.cell 2;have f0:=kC4.frozen 0;have f1:=kC4.frozen 1;have f2:=kC4.frozen 2;simp at c0 c1 c2;go_wp2;have kD:=yl (x:=x') (A:=A') (k:=k2) (c:=c2') (ng:=ng') kC4;have d0:=kD.cell 0;have d1:=kD.cell 1;have d2:=kD.cell 2;simp at d0 d1 d2;refine bodyPost_ret (v:=.agg #[.int .i64 x',.slice A' k2 c2',.bool ng']) (by simp [results,Tryz.results130,go_sem,d0,d1,d2]) rfl ?_;exact ⟨_,rfl,zy (by rw [Ym];exact hv) kC4,zN hW4 (by omega)⟩
theorem x7 (va vb:Value) (z y:Int) (w:World) (ha:zR w va z) (hb:zR w vb y) (hla:len 4294967296 z.natAbs<=67108864) (hlb:len 4294967296 y.natAbs<=67108864):
 Calls Tryz.prog 130 #[va,vb] w (ZK w (z*y)):=by
 have ha' :=ha
 have hb' :=hb
 obtain ⟨x1,A,k,c,s,rfl,h1,h2,hA⟩:=ha.form
 obtain ⟨y1,B,k',c',t,rfl,h3,h4,hB⟩:=hb.form
 by_cases hf:A=none/\B=none/\x1.natAbs*y1.natAbs<4611686018427387904
 . obtain ⟨e1,e2,h5⟩:=hf
   obtain ⟨rfl,rfl,rfl⟩:=hA e1;obtain ⟨rfl,rfl,rfl⟩:=hB e2;subst e1 e2;exact zn4 z y s t _ w h1 h2 h3 h4 rfl h5
 . have:=zn6 (decide (z<0)) (decide (y<0)) z.natAbs y.natAbs x1 y1 A B k c k' c' s t w h1 h2 h3 h4 (fun h=>⟨(hA h).1,(hA h).2.1⟩) (fun h=>⟨(hB h).1,(hB h).2.1⟩) (by rw [yT];exact ha') (by rw [yT];exact hb') ZD ZD hla hlb (by
    unfold zld
    by_cases e1:A=none
    . by_cases e2:B=none
      . exact .inr (.inr ⟨e1,e2,Nat.le_of_not_lt fun h=>hf ⟨e1,e2,h⟩⟩)
      . exact .inr (.inl ⟨e1,e2⟩)
    . exact .inl e1)
   rwa [yT,yT] at this
def zgr (w:World) (z y:Int) (e:Ending) (w' :World):Prop:=∃ v v',e= .returned (.tuple #[v,v'])/\zR w' v z/\zR w' v' y/\Below w.heap.size w w'
theorem vh {W:World} {g g' :Nat} {t:TypeId} {x:Int} {A:Option Addr} {k c:Nat} {ng:Bool} {cs:Array Value} (hk:Blk W g t cs) (hne:g≠g'):Blk (World.num W g' x A k c ng) g t cs:=
 ((hk.far hne _).far hne _).far hne _
theorem za8 (s t:Bool) (n m:Nat):(signed s n).tdiv (signed t m)=signed (s != t) (n / m):=by
 cases s<;>cases t<;>unfold signed<;>simp [Int.neg_tdiv,Int.tdiv_neg,Int.ofNat_tdiv]
theorem za0 (s t:Bool) (n m:Nat):(signed s n).tmod (signed t m)=signed s (n % m):=by
 cases s<;>cases t<;>unfold signed<;>simp [Int.neg_tmod,Int.tmod_neg,Int.ofNat_tmod,Int.tmod_eq_emod_of_nonneg]
theorem zbe {x y:Int} (h1: -4611686018427387904<x) (h2:x<4611686018427387904): -4611686018427387904<x.tdiv y/\x.tdiv y<4611686018427387904:=by
 have:=Int.natAbs_tdiv_le_natAbs x y
 omega
theorem zg7 {x y:Int} (h1: -4611686018427387904<x) (h2:x<4611686018427387904): -4611686018427387904<x.tmod y/\x.tmod y<4611686018427387904:=by
 have:=Int.natAbs_tmod x y
 have h3:=Nat.mod_le x.natAbs y.natAbs
 omega
theorem znx (x y:Int) (a b:Bool) (w:World) (h1: -4611686018427387904<x) (h2:x<4611686018427387904) (h3: -4611686018427387904<y) (h4:y<4611686018427387904) (hy:y≠0):
 Calls Tryz.prog 177 #[.agg #[.int .i64 x,.slice none 0 0,.bool a],.agg #[.int .i64 y,.slice none 0 0,.bool b]] w (zgr w (x.tdiv y) (x.tmod y)):=by
 have q0:=fun w=>zjt w none 0 0 0 0
 have hy0:(y == 0)=false:=beq_eq_false_iff_ne.2 hy
 obtain ⟨b1,b2⟩:=zbe (y:=y) h1 h2
 obtain ⟨b3,b4⟩:=zg7 (y:=y) h1 h2
 go_enter Tryz.func177,Tryz.ntmps177
 go_wp2_with fail
 go_region
 go_wp2
 refine bodyPost_ret (v:=.tuple #[.agg #[.int .i64 (x.tdiv y),.slice none 0 0,.bool false],.agg #[.int .i64 (x.tmod y),.slice none 0 0,.bool false]]) (by simp [results,Tryz.results177,go_sem]) rfl ?_
 exact ⟨_,_,rfl,.inl ⟨_,_,rfl,b1,b2,rfl⟩,.inl ⟨_,_,rfl,b3,b4,rfl⟩,zl (ext (ext (ext (zf _ _) (zf _ _)) (zf _ _)) (zf _ _)) 1⟩
def zkg (A B:Option Addr):Prop:=A≠none\/(A=none/\B≠none)
theorem znd (s t:Bool) (n m:Nat) (x y:Int) (A B:Option Addr) (k c k' c' :Nat) (a b:Bool) (w:World) (h1: -4611686018427387904<x) (h2:x<4611686018427387904) (h3: -4611686018427387904<y) (h4:y<4611686018427387904)
 (ha:zR w (.agg #[.int .i64 x,.slice A k c,.bool a]) (signed s n)) (hb:zR w (.agg #[.int .i64 y,.slice B k' c',.bool b]) (signed t m)) (hs:s=true->0<n) (ht:t=true->0<m) (hm0:0<m)
 (hln:len 4294967296 n<=33554432) (hlm:len 4294967296 m<=33554432) (hsl:zkg A B):
 Calls Tryz.prog 177 #[.agg #[.int .i64 x,.slice A k c,.bool a],.agg #[.int .i64 y,.slice B k' c',.bool b]] w (zgr w ((signed s n).tdiv (signed t m)) ((signed s n).tmod (signed t m))):=by
 have q1:=fun w=>zjt w A k c 0 0
 have q2:=fun w=>zjt w B k' c' 0 0
 have HLN:=ze hln
 have HLM:=ze hlm
 clear hln hlm
 rcases hsl with h | ⟨h,h'⟩
 . obtain ⟨ad,rfl⟩:=Option.ne_none_iff_exists'.1 h
   clear h
   go_enter Tryz.func177,Tryz.ntmps177
   go_wp2_with fail;have hW:=(ext (ext (ext (zf w (.cells #[.int .i64 x,.slice (some ad) k c,.bool a] 91)) (zf _ (.cells #[.int .i64 y,.slice B k' c',.bool b] 91))) (zf _ (.cells #[.int .i64 0,.slice none 0 0,.bool false] 91))) (zf _ (.cells #[.int .i64 0,.slice none 0 0,.bool false] 91)));have hA:=ha.below hW;have hB:=hb.below hW;have kB:=((Blk.new (w.alloc (.cells #[.int .i64 x,.slice (some ad) k c,.bool a] 91)) 91 #[.int .i64 y,.slice B k' c',.bool b]).alloc (.cells #[.int .i64 0,.slice none 0 0,.bool false] 91)).alloc (.cells #[.int .i64 0,.slice none 0 0,.bool false] 91);have kC:=(Blk.new ((w.alloc (.cells #[.int .i64 x,.slice (some ad) k c,.bool a] 91)).alloc (.cells #[.int .i64 y,.slice B k' c',.bool b] 91)) 91 #[.int .i64 0,.slice none 0 0,.bool false]).alloc (.cells #[.int .i64 0,.slice none 0 0,.bool false] 91);have kD:=Blk.new (((w.alloc (.cells #[.int .i64 x,.slice (some ad) k c,.bool a] 91)).alloc (.cells #[.int .i64 y,.slice B k' c',.bool b] 91)).alloc (.cells #[.int .i64 0,.slice none 0 0,.bool false] 91)) 91 #[.int .i64 0,.slice none 0 0,.bool false];simp only [World.size_alloc] at kB kC kD
   generalize (((w.alloc (.cells #[.int .i64 x,.slice (some ad) k c,.bool a] 91)).alloc (.cells #[.int .i64 y,.slice B k' c',.bool b] 91)).alloc (.cells #[.int .i64 0,.slice none 0 0,.bool false] 91)).alloc (.cells #[.int .i64 0,.slice none 0 0,.bool false] 91)=W at hA hB kB kC kD hW |-;refine (xF _ s n W hA hs).mono ?_;rintro e w1 ⟨p,rfl,hp,hb1⟩;have kB1:=kB.below hb1 kB.lt;have c0:=kB1.cell 0;have c1:=kB1.cell 1;have c2:=kB1.cell 2;simp at c0 c1 c2;go_wp2_with fail;refine (xF _ t m w1 (hB.below hb1) ht).mono ?_;rintro e w2 ⟨p',rfl,hp',hb2⟩;have hp2:=hp.below hb2;have kC2:=(kC.below hb1 kC.lt).below hb2 (kC.below hb1 kC.lt).lt;have kD2:=(kD.below hb1 kD.lt).below hb2 (kD.below hb1 kD.lt).lt;have hW2:=ext (ext hW hb1) hb2;clear hb1 hb2 hW kC kB kD kB1 c0 c1 c2 hA hB hp;go_wp2_with fail;refine (zgk p p' n m w2 hp2 hp' hm0 HLN.out HLM.out).mono ?_;rintro e w3 ⟨q,r,rfl,hq,hr,hb3⟩;have kC3:=kC2.below hb3 kC2.lt;have kD3:=kD2.below hb3 kD2.lt;have hW3:=ext hW2 hb3;clear kC2 kD2 hW2 hp2 hp' hb3;go_wp2_with fail;refine (yi (s != t) q (n / m) w3 hq).mono ?_;rintro e w4 ⟨v,rfl,hv,hb4⟩;go_wp2_with fail
   refine (yi s r (n % m) w4 (hr.below hb4)).mono ?_;rintro e w5 ⟨v',rfl,hv',hb5⟩;have hv2:=hv.below hb5;obtain ⟨x',A',k2,c2',ng',rfl,_,_,_⟩:=hv2.form;obtain ⟨x3,A3,k3,c3,ng3,rfl,_,_,_⟩:=hv'.form;have kC5:=(kC3.below hb4 kC3.lt).below hb5 (kC3.below hb4 kC3.lt).lt;have kD5:=(kD3.below hb4 kD3.lt).below hb5 (kD3.below hb4 kD3.lt).lt;have hW5:=ext (ext hW3 hb4) hb5;clear kC3 kD3 hW3 hb4 hb5 hq hr hv;have c0:=kC5.cell 0;have c1:=kC5.cell 1;have c2:=kC5.cell 2;have f0:=kC5.frozen 0;have f1:=kC5.frozen 1;have f2:=kC5.frozen 2;have d0:=kD5.cell 0;have d1:=kD5.cell 1;have d2:=kD5.cell 2;have g0:=kD5.frozen 0;have g1:=kD5.frozen 1;have g2:=kD5.frozen 2;simp at c0 c1 c2 d0 d1 d2;go_wp2;have kE:=yl (x:=x') (A:=A') (k:=k2) (c:=c2') (ng:=ng') kC5;have kF:=vh (g' :=w.heap.size+1+1) (x:=x') (A:=A') (k:=k2) (c:=c2') (ng:=ng') kD5 (by omega);have kG:=vh (g' :=w.heap.size+1+1+1) (x:=x3) (A:=A3) (k:=k3) (c:=c3) (ng:=ng3) kE (by omega);have kH:=yl (x:=x3) (A:=A3) (k:=k3) (c:=c3) (ng:=ng3) kF;have e0:=kG.cell 0;have e1:=kG.cell 1;have e2:=kG.cell 2
   have h0:=kH.cell 0;have h1' :=kH.cell 1;have h2' :=kH.cell 2;simp at e0 e1 e2 h0 h1' h2';refine bodyPost_ret (v:=.tuple #[.agg #[.int .i64 x',.slice A' k2 c2',.bool ng'],.agg #[.int .i64 x3,.slice A3 k3 c3,.bool ng3]]) (by simp [results,Tryz.results177,go_sem,e0,e1,e2,h0,h1',h2']) rfl ?_;rw [za8,za0];exact ⟨_,_,rfl,zy (zy hv2 kC5) kF,zy (zy hv' kC5) kF,zN (zN hW5 (by omega)) (by omega)⟩
 . obtain ⟨bd,rfl⟩:=Option.ne_none_iff_exists'.1 h'
   subst h;clear h'
   go_enter Tryz.func177,Tryz.ntmps177
   go_wp2_with fail;have hW:=(ext (ext (ext (zf w (.cells #[.int .i64 x,.slice none k c,.bool a] 91)) (zf _ (.cells #[.int .i64 y,.slice (some bd) k' c',.bool b] 91))) (zf _ (.cells #[.int .i64 0,.slice none 0 0,.bool false] 91))) (zf _ (.cells #[.int .i64 0,.slice none 0 0,.bool false] 91)));have hA:=ha.below hW;have hB:=hb.below hW;have kB:=((Blk.new (w.alloc (.cells #[.int .i64 x,.slice none k c,.bool a] 91)) 91 #[.int .i64 y,.slice (some bd) k' c',.bool b]).alloc (.cells #[.int .i64 0,.slice none 0 0,.bool false] 91)).alloc (.cells #[.int .i64 0,.slice none 0 0,.bool false] 91);have kC:=(Blk.new ((w.alloc (.cells #[.int .i64 x,.slice none k c,.bool a] 91)).alloc (.cells #[.int .i64 y,.slice (some bd) k' c',.bool b] 91)) 91 #[.int .i64 0,.slice none 0 0,.bool false]).alloc (.cells #[.int .i64 0,.slice none 0 0,.bool false] 91);have kD:=Blk.new (((w.alloc (.cells #[.int .i64 x,.slice none k c,.bool a] 91)).alloc (.cells #[.int .i64 y,.slice (some bd) k' c',.bool b] 91)).alloc (.cells #[.int .i64 0,.slice none 0 0,.bool false] 91)) 91 #[.int .i64 0,.slice none 0 0,.bool false];simp only [World.size_alloc] at kB kC kD
   generalize (((w.alloc (.cells #[.int .i64 x,.slice none k c,.bool a] 91)).alloc (.cells #[.int .i64 y,.slice (some bd) k' c',.bool b] 91)).alloc (.cells #[.int .i64 0,.slice none 0 0,.bool false] 91)).alloc (.cells #[.int .i64 0,.slice none 0 0,.bool false] 91)=W at hA hB kB kC kD hW |-;refine (xF _ s n W hA hs).mono ?_;rintro e w1 ⟨p,rfl,hp,hb1⟩;have kB1:=kB.below hb1 kB.lt;have c0:=kB1.cell 0;have c1:=kB1.cell 1;have c2:=kB1.cell 2;simp at c0 c1 c2;go_wp2_with fail;refine (xF _ t m w1 (hB.below hb1) ht).mono ?_;rintro e w2 ⟨p',rfl,hp',hb2⟩;have hp2:=hp.below hb2;have kC2:=(kC.below hb1 kC.lt).below hb2 (kC.below hb1 kC.lt).lt;have kD2:=(kD.below hb1 kD.lt).below hb2 (kD.below hb1 kD.lt).lt;have hW2:=ext (ext hW hb1) hb2;clear hb1 hb2 hW kC kB kD kB1 c0 c1 c2 hA hB hp;go_wp2_with fail;refine (zgk p p' n m w2 hp2 hp' hm0 HLN.out HLM.out).mono ?_;rintro e w3 ⟨q,r,rfl,hq,hr,hb3⟩;have kC3:=kC2.below hb3 kC2.lt;have kD3:=kD2.below hb3 kD2.lt;have hW3:=ext hW2 hb3;clear kC2 kD2 hW2 hp2 hp' hb3;go_wp2_with fail;refine (yi (s != t) q (n / m) w3 hq).mono ?_;rintro e w4 ⟨v,rfl,hv,hb4⟩;go_wp2_with fail
   refine (yi s r (n % m) w4 (hr.below hb4)).mono ?_;rintro e w5 ⟨v',rfl,hv',hb5⟩;have hv2:=hv.below hb5;obtain ⟨x',A',k2,c2',ng',rfl,_,_,_⟩:=hv2.form;obtain ⟨x3,A3,k3,c3,ng3,rfl,_,_,_⟩:=hv'.form;have kC5:=(kC3.below hb4 kC3.lt).below hb5 (kC3.below hb4 kC3.lt).lt;have kD5:=(kD3.below hb4 kD3.lt).below hb5 (kD3.below hb4 kD3.lt).lt;have hW5:=ext (ext hW3 hb4) hb5;clear kC3 kD3 hW3 hb4 hb5 hq hr hv;have c0:=kC5.cell 0;have c1:=kC5.cell 1;have c2:=kC5.cell 2;have f0:=kC5.frozen 0;have f1:=kC5.frozen 1;have f2:=kC5.frozen 2;have d0:=kD5.cell 0;have d1:=kD5.cell 1;have d2:=kD5.cell 2;have g0:=kD5.frozen 0;have g1:=kD5.frozen 1;have g2:=kD5.frozen 2;simp at c0 c1 c2 d0 d1 d2;go_wp2;have kE:=yl (x:=x') (A:=A') (k:=k2) (c:=c2') (ng:=ng') kC5;have kF:=vh (g' :=w.heap.size+1+1) (x:=x') (A:=A') (k:=k2) (c:=c2') (ng:=ng') kD5 (by omega);have kG:=vh (g' :=w.heap.size+1+1+1) (x:=x3) (A:=A3) (k:=k3) (c:=c3) (ng:=ng3) kE (by omega);have kH:=yl (x:=x3) (A:=A3) (k:=k3) (c:=c3) (ng:=ng3) kF;have e0:=kG.cell 0;have e1:=kG.cell 1;have e2:=kG.cell 2
   have h0:=kH.cell 0;have h1' :=kH.cell 1;have h2' :=kH.cell 2;simp at e0 e1 e2 h0 h1' h2';refine bodyPost_ret (v:=.tuple #[.agg #[.int .i64 x',.slice A' k2 c2',.bool ng'],.agg #[.int .i64 x3,.slice A3 k3 c3,.bool ng3]]) (by simp [results,Tryz.results177,go_sem,e0,e1,e2,h0,h1',h2']) rfl ?_;rw [za8,za0];exact ⟨_,_,rfl,zy (zy hv2 kC5) kF,zy (zy hv' kC5) kF,zN (zN hW5 (by omega)) (by omega)⟩
theorem V6 (va vb:Value) (z y:Int) (w:World) (ha:zR w va z) (hb:zR w vb y) (hy:y≠0) (hla:len 4294967296 z.natAbs<=33554432) (hlb:len 4294967296 y.natAbs<=33554432):
 Calls Tryz.prog 177 #[va,vb] w (zgr w (z.tdiv y) (z.tmod y)):=by
 have ha' :=ha
 have hb' :=hb
 obtain ⟨x1,A,k,c,s,rfl,h1,h2,hA⟩:=ha.form
 obtain ⟨y1,B,k',c',t,rfl,h3,h4,hB⟩:=hb.form
 by_cases hf:A=none/\B=none
 . obtain ⟨e1,e2⟩:=hf
   obtain ⟨rfl,rfl,rfl⟩:=hA e1;obtain ⟨rfl,rfl,rfl⟩:=hB e2;subst e1 e2;exact znx z y s t w h1 h2 h3 h4 hy
 . have:=znd (decide (z<0)) (decide (y<0)) z.natAbs y.natAbs x1 y1 A B k c k' c' s t w h1 h2 h3 h4 (by rw [yT];exact ha') (by rw [yT];exact hb') ZD ZD (by omega) hla hlb (by
    unfold zkg
    by_cases e1:A=none
    . exact .inr ⟨e1,fun e2=>hf ⟨e1,e2⟩⟩
    . exact .inl e1)
   rwa [yT,yT] at this
theorem zag (va vb:Value) (z y:Int) (w:World) (ha:zR w va z) (hb:zR w vb y) (hla:len 4294967296 z.natAbs<=67108864) (hlb:len 4294967296 y.natAbs<=67108864):
 Calls Tryz.prog 178 #[va,vb] w (ZK w (z - y)):=by
 have ha' :=ha
 have hb' :=hb
 obtain ⟨x1,A,k,c,s,rfl,h1,h2,hA⟩:=ha'.form
 obtain ⟨y1,B,k',c',t,rfl,h3,h4,hB⟩:=hb'.form
 have hln:len 4294967296 (-y).natAbs<=67108864:=by rw [Int.natAbs_neg];exact hlb
 have HLN:=ze hln
 have HLM:=ze hla
 have hW:=zl (ext (ext (zf w (.cells #[.int .i64 x1,.slice A k c,.bool s] 91)) (zf _ (.cells #[.int .i64 y1,.slice B k' c',.bool t] 91))) (zf _ (.cells #[.int .i64 0,.slice none 0 0,.bool false] 91))) 1
 have hAW:=ha.below hW
 have hBW:=hb.below hW
 have kA:=(((Blk.new w 91 #[.int .i64 x1,.slice A k c,.bool s]).alloc (.cells #[.int .i64 y1,.slice B k' c',.bool t] 91)).alloc (.cells #[.int .i64 0,.slice none 0 0,.bool false] 91)).drewN 1
 have kC:=(Blk.new ((w.alloc (.cells #[.int .i64 x1,.slice A k c,.bool s] 91)).alloc (.cells #[.int .i64 y1,.slice B k' c',.bool t] 91)) 91 #[.int .i64 0,.slice none 0 0,.bool false]).drewN 1
 simp only [World.size_alloc] at kC
 have HW:=ze hW
 have HAW:=ze hAW
 have HBW:=ze hBW
 have HA:=ze kA
 have HC:=ze kC
 clear hW hAW hBW kA kC hln hla hlb h1 h2 h3 h4 hA hB ha hb ha' hb'
 go_enter Tryz.func178,Tryz.ntmps178
 go_wp2_with fail
 go_region_with (first
  | (go_at_call 161;refine (yW _ y _ HBW.out).mono ?_;rintro e w1 ⟨v,rfl,hv,hb1⟩;obtain ⟨x',A',k2,c2',ng',rfl,_,_,_⟩:=hv.form;have kA1:=HA.out.below hb1 HA.out.lt;have c0:=kA1.cell 0;have c1:=kA1.cell 1;have c2:=kA1.cell 2;simp at c0 c1 c2)
  | (go_at_call 133;refine (zc9 _ _ z (-y) _ (HAW.out.below ‹_›) ‹_› HLM.out HLN.out).mono ?_;rintro e w2 ⟨v,rfl,hv2,hb2⟩;obtain ⟨x3,A3,k3,c3,ng3,rfl,_,_,_⟩:=hv2.form;have kC2:=(HC.out.below hb1 HC.out.lt).below hb2 (HC.out.below hb1 HC.out.lt).lt;have c0:=kC2.cell 0;have c1:=kC2.cell 1;have c2:=kC2.cell 2;have f0:=kC2.frozen 0;have f1:=kC2.frozen 1;have f2:=kC2.frozen 2;simp at c0 c1 c2))
 all_goals
  go_wp2
  have kD:=yl (x:=x3) (A:=A3) (k:=k3) (c:=c3) (ng:=ng3) kC2
  have d0:=kD.cell 0
  have d1:=kD.cell 1
  have d2:=kD.cell 2
  simp at d0 d1 d2
  refine bodyPost_ret (v:=.agg #[.int .i64 x3,.slice A3 k3 c3,.bool ng3]) (by simp [results,Tryz.results178,go_sem,d0,d1,d2]) rfl ?_
  exact ⟨_,rfl,zy (by rw [Int.sub_eq_add_neg];exact hv2) kC2,zN (ext (ext HW.out hb1) hb2) (by omega)⟩
theorem zco (va vb:Value) (z y:Int) (w:World) (ha:zR w va z) (hb:zR w vb y) (hla:len 4294967296 z.natAbs<=67108864) (hlb:len 4294967296 y.natAbs<=67108864):
 Calls Tryz.prog 129 #[va,vb] w (Vc w (.int .i64 (zK z y))):=by
 have ha' :=ha
 have hb' :=hb
 obtain ⟨x1,A,k,c,s,rfl,h1,h2,hA⟩:=ha'.form
 obtain ⟨y1,B,k',c',t,rfl,h3,h4,hB⟩:=hb'.form
 have HLN:=ze hlb
 have HLM:=ze hla
 have hW:=ext (zf w (.cells #[.int .i64 x1,.slice A k c,.bool s] 91)) (zf _ (.cells #[.int .i64 y1,.slice B k' c',.bool t] 91))
 have HW:=ze hW
 have HAW:=ze (ha.below hW)
 have HBW:=ze (hb.below hW)
 clear hW hla hlb h1 h2 h3 h4 hA hB ha hb ha' hb'
 go_enter Tryz.func129,Tryz.ntmps129
 go_wp2_with fail
 refine (zag _ _ z y _ HAW.out HBW.out HLM.out HLN.out).mono ?_
 rintro e w1 ⟨v,rfl,hv,hb1⟩
 go_wp2_with fail
 refine (Yr v (z - y) w1 hv).mono ?_
 rintro e w2 ⟨rfl,hb2⟩
 go_wp2
 go_ret
 refine ⟨?_,ext (ext HW.out hb1) hb2⟩
 unfold zK
 have e1:z - y<0↔z<y:=by omega
 have e2:0<z - y↔y<z:=by omega
 simp only [e1,e2]
 rfl
theorem zm5 (l:List UInt8):(⟨#[45]⟩:ByteArray) ++ (⟨l.toArray⟩:ByteArray)=⟨((45:UInt8) :: l).toArray⟩:=by
 apply ByteArray.ext
 rw [ByteArray.data_append]
 simp
theorem ZE {a:Nat} (h:len 4294967296 a<=67108864):(dec a).length<=671088641:=by
 unfold dec
 by_cases h0:a=0
 . rw [if_pos h0];simp
 . rw [if_neg h0,List.length_map,List.length_reverse]
   have:=Xs h;unfold len at this
   omega
def xf (z:Int):List UInt8:=if z<0 then 45 :: dec z.natAbs else dec z.natAbs
theorem XA (va:Value) (z:Int) (w:World) (ha:zR w va z) (hla:len 4294967296 z.natAbs<=67108864):
 Calls Tryz.prog 141 #[va] w (zhi w (xf z)):=by
 obtain ⟨x1,A,k,c,s,rfl,h1,h2,hA⟩:=ha.form
 have HLM:=ze hla
 have hW:=zf w (.cells #[.int .i64 x1,.slice A k c,.bool s] 91)
 have HW:=ze hW
 have HAW:=ze (ha.below hW)
 clear hW hla h1 h2 hA ha
 by_cases hz:z<0
 . have hp:=fun v w h=>vW v z w h
   unfold VS at hp;rw [decide_eq_true hz] at hp;unfold xf;rw [if_pos hz]
   have hlen:¬ 9223372036854775807<1+(dec z.natAbs).length:=by
    have:=ZE HLM.out
    omega
   go_enter Tryz.func141,Tryz.ntmps141
   go_wp2_with fail;refine (hp _ _ HAW.out).mono ?_;rintro e w1 ⟨v,rfl,hv,hb1⟩;go_wp2_with fail;refine (ZX v _ w1 hv HLM.out).mono ?_;rintro e w2 ⟨rfl,hb2⟩;go_wp2;go_ret;refine ⟨?_,ext (ext HW.out hb1) hb2⟩;rw [zm5]
   rfl
 . have hp:=fun v w h=>vW v z w h
   unfold VS at hp;rw [decide_eq_false hz] at hp;unfold xf;rw [if_neg hz]
   go_enter Tryz.func141,Tryz.ntmps141
   go_wp2_with fail;refine (hp _ _ HAW.out).mono ?_;rintro e w1 ⟨v,rfl,hv,hb1⟩;go_wp2_with fail;refine (ZX v _ w1 hv HLM.out).mono ?_;rintro e w2 ⟨rfl,hb2⟩;go_wp2;go_ret;exact ⟨rfl,ext (ext HW.out hb1) hb2⟩
end Go.Proofs.YtkmcmmcencdcpaaGreatDoor
namespace Go.Proofs.YtkmcmmcencdcpaaGreatDoor
open Go.RowKit
theorem zm {A B:Prop} (a:A) (f:A->B):A/\B:=⟨a,f a⟩
section
variable {W w w' :World}
theorem zh {g i:Nat} {v:Value} (h:Hid (Below W.heap.size W w)) (hl:g<W.heap.size) (hc:W.cell? ⟨g,i,none⟩=some v):w.cell? ⟨g,i,none⟩=some v:=(h.out.cell hl).trans hc
theorem xl {a:Addr} {i:Nat} {v:Value} (h:Hid (Below W.heap.size W w)) (hl:a.block<W.heap.size) (hc:W.cell? (a.add i)=some v):w.cell? (a.add i)=some v:=(h.out.cell (by rw [zF];exact hl)).trans hc
theorem X9 {a:Addr} {i j:Nat} {v:Value} (h:Hid (Below W.heap.size W w)) (hl:a.block<W.heap.size) (hc:W.cell? ⟨(a.add i).block,(a.add i).off+j,none⟩=some v):w.cell? ⟨(a.add i).block,(a.add i).off+j,none⟩=some v:=
 (h.out.cell (by simp only [zF];exact hl)).trans hc
theorem za7 {o:Obj} (h:Hid (Below W.heap.size W w)):Hid (Below W.heap.size W (w.alloc o)):=ext h.out (zf w o)
theorem zv (W:World):Hid (Below W.heap.size W W.drew):=zl (xw W) 1
theorem yF (W:World) (o:Obj):Hid (Below W.heap.size W (W.alloc o).drew):=zl (zf W o) 1
end
end Go.Proofs.YtkmcmmcencdcpaaGreatDoor
namespace Go.Proofs.YtkmcmmcencdcpaaGreatDoor
open Go.RowKit Go.Deep
def Xj (w:World) (B:Nat) (v:Value) (n:Nat):Prop:=
 ∃ A c ds,v= .slice A ds.length c/\ds.length<=c/\c<=maxLen/\zY w B 1 A ds.length (Zp ds)/\yJ 1000000000 ds/\val 1000000000 ds=n
abbrev zz (w:World) (v:Value) (n:Nat):Prop:=Xj w w.heap.size v n
theorem Xj.below {w w' :World} {B B' :Nat} {v:Value} {n:Nat} (h:Xj w B v n) (hb:Below B w w') (hB:B<=B'):Xj w' B' v n:=by
 obtain ⟨A,c,ds,h1,h2,h3,h4,h5,h6⟩:=h
 exact ⟨A,c,ds,h1,h2,h3,(h4.below hb).more hB,h5,h6⟩
theorem zz.below {w w' :World} {v:Value} {n:Nat} (h:zz w v n) (hb:Below w.heap.size w w'):zz w' v n:=Xj.below h hb hb.size
def zbv (w:World) (n:Nat) (e:Ending) (w' :World):Prop:=∃ v,e= .returned v/\zz w' v n/\Below w.heap.size w w'
def zr2 (w:World) (B n:Nat) (e:Ending) (w' :World):Prop:=∃ v,e= .returned v/\Xj w B v n/\w=w'
theorem vI {a b:Int} (h:a=b):Ending.returned (.int .i64 b)= .returned (.int .i64 a):=by rw [h]
theorem zjq {ds:List Nat} {k:Nat} (hk:k<ds.length) (h:val 1000000000 (ds.take (k+1))=val 1000000000 ds) (h0:ds[k]=0):val 1000000000 (ds.take k)=val 1000000000 ds:=by
 rw [yH _ _ _ hk,h0] at h
 omega
theorem zkh {k:Nat} {ds:List Nat} (hs:zD 1000000000 ds) (hk:k<=ds.length) (hlast:∀ h:0<k,ds[k - 1]≠0):yJ 1000000000 (ds.take k):=by
 have hlen:(ds.take k).length=k:=by rw [List.length_take];omega
 refine yJ.mk_ (hs.take k) ?_
 intro h
 rw [List.getElem_take]
 have:=hlast (by omega)
 simp only [hlen]
 exact this
theorem zhh {w:World} {B c k:Nat} {A:Option Addr} {ds:List Nat} (hr:zY w B 1 A ds.length (Zp ds)) (hs:zD 1000000000 ds) (hl:ds.length<=c) (hc:c<=maxLen) (hk:k<=ds.length)
 (hlast:∀ h:0<k,ds[k - 1]≠0) (hv:val 1000000000 (ds.take k)=val 1000000000 ds):Xj w B (.slice A k c) (val 1000000000 ds):=by
 have hlen:(ds.take k).length=k:=by rw [List.length_take];omega
 refine ⟨A,c,ds.take k,by rw [hlen],by omega,hc,?_,zkh hs hk hlast,hv⟩
 have:=hr.head (k:=k) hk
 rw [hlen, <- zkc]
 simpa using this
def zn9 (w:World) (B:Nat) (A:Option Addr) (c n:Nat) (e:Ending) (w' :World):Prop:=∃ k,e= .returned (.slice A k c)/\Xj w B (.slice A k c) n/\w=w'
theorem zb0 (A:Option Addr) (n c:Nat) (ds:List Nat) (w:World) (B:Nat) (hr:zY w B 1 A n (Zp ds)) (hs:zD 1000000000 ds) (hl:n<=c) (hc:c<=maxLen):
 Calls Tryz.prog 202 #[.slice A n c] w (zn9 w B A c (val 1000000000 ds)):=by
 have hn:ds.length=n:=by have:=hr.1;rw [Yw] at this;omega
 subst hn
 have HC:=ze hc
 unfold maxLen at hc
 go_enter Tryz.func202,Tryz.ntmps202
 go_wp2
 go_loop [0] (fun v=>∃ k:Nat,k<=ds.length/\v= .slice A k c/\Hid (val 1000000000 (ds.take k)=val 1000000000 ds)) (fun v=>match v with | .slice _ n _=>n | _=>0)
 case atStart=>exact ⟨ds.length,Nat.le_refl _,rfl,by rw [List.take_length];exact rfl⟩
 case round=>
  obtain ⟨k,hk,rfl,HV⟩:=hrel
  by_cases hk0:0<k
  . obtain ⟨ad,u,rfl,hb,hx,hcell⟩:=hr.at_ (k:=k - 1) (by omega)
    rw [xR (by omega)] at hx;injection hx with hx
    subst hx
    by_cases h0:ds[k - 1]=0
    . have g0:((ds[k - 1]:Int) == 0)=true:=by rw [h0];rfl
      go_wp2;go_round
      case rel=>
       refine ⟨k - 1,by omega,rfl,?_⟩;exact zjq (by omega) (by rw [show k - 1+1=k by omega];exact HV.out) h0
      case measure=>simp;omega
    . have g0:((ds[k - 1]:Int) == 0)=false:=by rw [beq_eq_false_iff_ne];omega
      go_wp2;go_ret;exact ⟨_,rfl,zhh hr hs hl HC.out hk (fun _=>h0) HV.out,rfl⟩
  . obtain rfl:k=0:=by omega
    go_wp2;go_ret;exact ⟨_,rfl,zhh hr hs hl HC.out hk (fun h=>absurd h (by omega)) HV.out,rfl⟩
theorem Zz (A:Option Addr) (n c:Nat) (ds:List Nat) (w:World) (B:Nat) (hr:zY w B 1 A n (Zp ds)) (hs:zD 1000000000 ds) (hl:n<=c) (hc:c<=maxLen):
 Calls Tryz.prog 202 #[.slice A n c] w (zr2 w B (val 1000000000 ds)):=
 (zb0 A n c ds w B hr hs hl hc).mono fun _ _ ⟨k,h1,h2,h3⟩=>⟨_,h1,h2,h3⟩
theorem zqs {da db:List Nat} (hl:da.length=db.length) (hsa:zD 1000000000 da) (hsb:zD 1000000000 db) (k:Nat) (hk:k<da.length) (h:∀ p,k+1<=p->da.getD p 0=db.getD p 0) (hne:da.getD k 0≠db.getD k 0):
 zK (da.getD k 0) (db.getD k 0)=zK (val 1000000000 da) (val 1000000000 db):=by
 have hs:∀ j (h1:j<da.length) (h2:j<db.length),k<j->da[j]=db[j]:=by
  intro j h1 h2 hj
  have:=h j (by omega)
  rwa [zu h1,zu h2] at this
 rw [zu hk,zu (by omega)] at hne |-
 rcases Nat.lt_or_ge da[k] (db[k]'(by omega)) with h0 | h0
 . have:=XH hl hsa k hk hs h0
   unfold zK;rw [if_pos (by omega),if_pos (by omega)]
 . have h0' :db[k]'(by omega)<da[k]:=by omega
   have:=XH hl.symm hsb k (by omega) (fun j h1 h2 hj=>(hs j h2 h1 hj).symm) h0';unfold zK;rw [if_neg (by omega),if_pos (by omega),if_neg (by omega),if_pos (by omega)]
theorem vF (va vb:Value) (a b:Nat) (w:World) (ha:zz w va a) (hb:zz w vb b) (hla:len 1000000000 a<=67108864) (hlb:len 1000000000 b<=67108864):
 Calls Tryz.prog 158 #[va,vb] w (RetD w (.int .i64 (zK a b))):=by
 obtain ⟨A,ca,da,rfl,h1,h2,hra,h4,rfl⟩:=ha
 obtain ⟨B,cb,db,rfl,k1,k2,hrb,k4,rfl⟩:=hb
 rw [<- h4.length_eq (by omega)] at hla
 rw [<- k4.length_eq (by omega)] at hlb
 have hsa:=h4.1
 have hsb:=k4.1
 by_cases hl:da.length=db.length
 . have hc:((da.length:Int) != (db.length:Int))=false:=by rw [hl,bne_self_eq_false]
   have HL:=ze hl;rw [<- hl] at hrb k1 hc |-;clear hl
   go_enter Tryz.func158,Tryz.ntmps158
   go_wp2
   go_loopw [5] (CmpR da db w) (fun iv _=>(intOf iv+1).toNat)
   case atStart=>
    refine ⟨da.length,0,Nat.le_refl _,rfl,?_,rfl⟩;intro p hp;rw [yX hp,yX (by have:=HL.out;omega)]
   case round=>
    obtain ⟨k,m,hk,rfl,HV,rfl⟩:=hrel
    by_cases hk0:0<k
    . have hkl:k - 1<db.length:=by have:=HL.out;omega
      have hka:k - 1<da.length:=by omega
      obtain ⟨ada,u,rfl,hba,hx,hcella⟩:=hra.at_ (k:=k - 1) hka;rw [xR hka] at hx;injection hx with hx
      subst hx;obtain ⟨adb,u,rfl,hbb,hx,hcellb⟩:=hrb.at_ (k:=k - 1) (by omega);rw [xR hkl] at hx;injection hx with hx
      subst hx;have ea:da.getD (k - 1) 0=da[k - 1]:=zu hka;have eb:db.getD (k - 1) 0=db[k - 1]:=zu hkl;have hi:((k:Int) - 1).toNat=k - 1:=by omega
      by_cases hne:da.getD (k - 1) 0=db.getD (k - 1) 0
      . have HE:=ze hne
        have g0:((da[k - 1]:Int) != (db[k - 1]:Int))=false:=by rw [<- ea, <- eb,hne,bne_self_eq_false]
        clear hne ea eb;go_wp2
        go_quiet (fail)
        go_wp2;go_roundw
        case rel=>
         refine ⟨k - 1,m+nq,by omega,congrArg _ (by omega),?_,rfl⟩;intro p hp
         by_cases hpk:p=k - 1
         . subst hpk;exact HE.out
         . exact HV.out p (by omega)
        case measure=>simp [intOf];omega
      . have HE:=ze hne
        have g0:((da[k - 1]:Int) != (db[k - 1]:Int))=true:=by
         rw [<- ea, <- eb,bne_iff_ne];omega
        have hc1:=zqs HL.out hsa hsb (k - 1) (by omega) (fun p hp=>HV.out p (by omega)) HE.out;rw [ea,eb] at hc1;have HA:=ze hc1;clear hne ea eb hc1
        rcases (show da[k - 1]<db[k - 1]\/¬ da[k - 1]<db[k - 1] by omega) with hlt | hlt
        . have hD:decide ((da[k - 1]:Int)<(db[k - 1]:Int))=true:=decide_eq_true (by omega)
          have e1:zK (da[k - 1]:Int) (db[k - 1]:Int)= -1:=by unfold zK;rw [if_pos (by omega)]
          have HA1:=ze (HA.out.symm.trans e1);clear HA e1;go_wp2
          go_quiet (fail)
          go_wp2
          go_quiet (fail)
          go_wp2;go_ret;exact ⟨vI HA1.out,_,by rw [World.drewN_drewN,World.drewN_drewN]⟩
        . have hD:decide ((da[k - 1]:Int)<(db[k - 1]:Int))=false:=decide_eq_false (by omega)
          have hne2:da[k - 1]≠db[k - 1]:=by
           intro e;have:=g0;rw [e,bne_self_eq_false] at this
           cases this
          have e1:zK (da[k - 1]:Int) (db[k - 1]:Int)=1:=by unfold zK;rw [if_neg (by omega),if_pos (by omega)]
          have HA1:=ze (HA.out.symm.trans e1);clear HA e1 hne2;go_wp2
          go_quiet (fail)
          go_wp2
          go_quiet (fail)
          go_wp2;go_ret;exact ⟨vI HA1.out,_,by rw [World.drewN_drewN,World.drewN_drewN]⟩
    . obtain rfl:k=0:=by omega
      have hv1:zK (val 1000000000 da) (val 1000000000 db)=0:=by
       have:da=db:=by
        apply List.ext_getElem HL.out
        intro i h1 h2;have:=HV.out i (by omega)
        rwa [zu h1,zu h2] at this
       rw [this];unfold zK;rw [if_neg (by omega),if_neg (by omega)]
      have HV1:=ze hv1;clear hv1;go_wp2;go_ret;exact ⟨vI HV1.out,m,rfl⟩
 . have hc0:((da.length:Int) != (db.length:Int))=true:=by rw [bne_iff_ne];omega
   rcases (show da.length<db.length\/db.length<da.length by omega) with h | h
   . have:=yJ.lt_of_length (by omega) h4.1 k4 h
     have hc1:zK (val 1000000000 da:Int) (val 1000000000 db)= -1:=by unfold zK;rw [if_pos (by omega)]
     have HC:=ze hc1;clear hc1
     go_enter Tryz.func158,Tryz.ntmps158
     go_wp2;go_ret;exact ⟨vI HC.out,0,rfl⟩
   . have:=yJ.lt_of_length (by omega) k4.1 h4 h
     have hc1:zK (val 1000000000 da:Int) (val 1000000000 db)=1:=by unfold zK;rw [if_neg (by omega),if_pos (by omega)]
     have HC:=ze hc1;clear hc1
     go_enter Tryz.func158,Tryz.ntmps158
     go_wp2;go_ret;exact ⟨vI HC.out,0,rfl⟩
theorem zck:(Tryz.prog.info? 3).map (fun i=>(i.zero,i.size,i.bytes))=some (some (.int .i64 0),1,8):=by kernel_rfl
theorem za2 (ds:List Nat):∀ u∈Zp ds,u.oneCell' =true:=by
 intro u hu
 obtain ⟨d,_,rfl⟩:=List.mem_map.1 hu
 rfl
def znc (da db:List Nat) (w:World) (ov cv iv:Value) (wr:World):Prop:=
 ∃ (k c:Nat) (O:List Nat),(k<=max da.length db.length\/(k=max da.length db.length+1/\c=0))/\iv= .int .i64 k/\cv= .int .i64 c/\c<=1/\O.length=k/\zD 1000000000 O/\
  Hid (val 1000000000 O+c*1000000000 ^ k=val 1000000000 (da.take k)+val 1000000000 (db.take k))/\wr.ownsRow w.heap.size 3 1 ov k (Zp O)/\Below w.heap.size w wr
theorem znc.step {da db:List Nat} {w wr w2:World} {k c:Nat} {O:List Nat} {ov ov2:Value} {o:Obj} (hk:k<max da.length db.length\/(k=max da.length db.length/\c=1)) (hc:c<=1) (hO:O.length=k) (hsO:zD 1000000000 O)
 (HV:Hid (val 1000000000 O+c*1000000000 ^ k=val 1000000000 (da.take k)+val 1000000000 (db.take k))) (hown:wr.ownsRow w.heap.size 3 1 ov k (Zp O)) (hbl:Below w.heap.size w wr)
 (hsa:zD 1000000000 da) (hsb:zD 1000000000 db) (t:Nat) (ht:t=c+da.getD k 0+db.getD k 0) (cv iv dv:Value) (hcv:cv= .int .i64 ((t / 1000000000:Nat):Int)) (hiv:iv= .int .i64 ((k+1:Nat):Int)) (hdv:dv= .int .i64 ((t % 1000000000:Nat):Int))
 (hown2:w2.ownsRow w.heap.size 3 1 ov2 (k+1) (Zp O ++ [dv])) (hg:(wr.alloc o).grownBy w2 ov.ownBlock):znc da db w ov2 cv iv w2:=by
 subst hcv hiv hdv
 have hx:=hsa.getD (by omega) k
 have hy:=hsb.getD (by omega) k
 refine ⟨k+1,_,O ++ [t % 1000000000],?_,rfl,rfl,by omega,by simp [hO],hsO.append (zD.cons (Nat.mod_lt _ (by omega)) (zD.nil _)),?_,?_,?_⟩
 . rcases hk with h | ⟨h,h1⟩
   . exact .inl (by omega)
   . refine .inr ⟨by omega,?_⟩
     rw [yX (by omega),yX (by omega)] at ht;subst ht h1
     rfl
 . show _=_
   rw [Zk,hO,zJ,zJ,ht];exact zda HV.out
 . rw [X5]
   exact hown2
 . exact (hbl.alloc hbl.size o).grown hg (by have:=hbl.size;simp;omega) (fun k hk=>(hown.lt k hk).1)
theorem znc.end_ {da db O:List Nat} {k:Nat} (ha:da.length<=k) (hb:db.length<=k) (HV:Hid (val 1000000000 O+0*1000000000 ^ k=val 1000000000 (da.take k)+val 1000000000 (db.take k))):val 1000000000 O=val 1000000000 da+val 1000000000 db:=by
 have:=HV.out
 rw [List.take_of_length_le ha,List.take_of_length_le hb] at this
 omega
theorem XD {w:World} {base:Nat} {v:Value} {n:Nat} {ds:List Nat} (h:w.ownsRow base 3 1 v n (Zp ds)):∃ A c,v= .slice A n c/\n<=c/\c<=maxLen/\zY w w.heap.size 1 A n (Zp ds):=by
 rcases h.2 with ⟨rfl,hn⟩ | ⟨g,cap,cur,rfl,hb,hg,hnc,hcm,hcs,ht⟩
 . have h1:=h.1
   rw [hn] at h1;subst hn;have:Zp ds=[]:=List.eq_nil_of_length_eq_zero (by simpa using h1);rw [this];exact ⟨none,0,rfl,by omega,by simp [maxLen],zY.none_⟩
 . exact ⟨_,cap,rfl,hnc,hcm,zY.of_own h⟩
theorem zn5 (va vb:Value) (a b:Nat) (w:World) (ha:zz w va a) (hb:zz w vb b) (hla:len 1000000000 a<=67108864) (hlb:len 1000000000 b<=67108864):
 Calls Tryz.prog 157 #[va,vb] w (zbv w (a+b)):=by
 obtain ⟨A,ca,da,rfl,h1,h2,hra,h4,rfl⟩:=ha
 obtain ⟨B,cb,db,rfl,k1,k2,hrb,k4,rfl⟩:=hb
 rw [<- h4.length_eq (by omega)] at hla
 rw [<- k4.length_eq (by omega)] at hlb
 have hsa:=h4.1
 have hsb:=k4.1
 clear h4 k4 h2 k2 h1 k1
 obtain ⟨i0,hi0,hz0,hz1,hz2⟩:=info_parts zck
 go_enter Tryz.func157,Tryz.ntmps157
 go_wp2_with fail
 go_loopw [5,6,7] (znc da db w) (fun _ cv iv _=>max da.length db.length+1 - (intOf iv).toNat)
 case atStart=>exact ⟨0,0,[],.inl (Nat.zero_le _),rfl,rfl,by omega,rfl,zD.nil _,by simp [Hid,val],World.ownsRow_nil _ _ _ _,xw _⟩
 case round=>
  obtain ⟨k,c,O,hk,rfl,rfl,hc,hO,hsO,HV,hown,hbl⟩:=hrel
  by_cases hgo:k<da.length\/k<db.length\/0<c
  . have hkm:k<max da.length db.length\/(k=max da.length db.length/\c=1):=by omega
    have hkb:k<=67108864:=by omega
    have hm:k<max da.length db.length+1:=by omega
    clear hk
    by_cases hka:k<da.length
    . obtain ⟨ada,u,rfl,hba,hx,hcell⟩:=hra.at_ hka
      rw [xR hka] at hx;injection hx with hx
      subst hx;have hcella:=(hbl.cell (p:=ada.add k) (by rw [zF];exact hba)).trans hcell;clear hcell;have hx1:da[k]<1000000000:=hsa.get k hka
      by_cases hkb1:k<db.length
      . obtain ⟨adb,u,rfl,hbb,hx,hcell⟩:=hrb.at_ hkb1
        rw [xR hkb1] at hx;injection hx with hx
        subst hx;have hcellb:=(hbl.cell (p:=adb.add k) (by rw [zF];exact hbb)).trans hcell;clear hcell;have hy1:db[k]<1000000000:=hsb.get k hkb1;have hx0:c+da[k]+db[k]<4294967296:=by omega
        have h1c:∀ u∈[Value.int .i64 ((c+da[k]+db[k]:Nat) % 1000000000:Int)],u.oneCell' =true:=by
         intro u hu;rw [List.mem_singleton] at hu;subst hu;rfl
        have hrd:=xj wr 3 (.int .i64 ((c+da[k]+db[k]:Nat) % 1000000000:Int))
        push_cast at hrd h1c
        go_wp2_with (at_builtin;refine yj _ rfl (.tmp 46) (.tmp 49) _ rfl w.heap.size 3 i0 _ 1 8 Tryz.underlying96 hi0 hz0 hz1 hz2 rfl (by omega) _ k (Zp O) rfl (hown.alloc _) _ (some ⟨wr.heap.size,0,none⟩) 1 1 _ rfl hrd h1c ?o2 ?o3 ?o4 ?_)
        case o2=>unfold maxLen;omega
        case o3=>omega
        case o4=>have:=hbl.size;simp;omega
        intro v3 w3 hown3 hgr3 hat3;have HO3:=ze hown3;have HG3:=ze hgr3;clear hown3 hgr3 hat3 hrd;go_wp2_with fail;go_roundw
        case rel=>exact znc.step hkm hc hO hsO HV hown hbl hsa hsb (c+da[k]+db[k]) (by rw [zu hka,zu hkb1];skip) _ _ _ (by go_num) (by go_num) (by go_num) HO3.out HG3.out
        case measure=>simp [intOf];omega
      . have hx0:c+da[k]<4294967296:=by omega
        have h1c:∀ u∈[Value.int .i64 ((c+da[k]:Nat) % 1000000000:Int)],u.oneCell' =true:=by
         intro u hu;rw [List.mem_singleton] at hu;subst hu;rfl
        have hrd:=xj wr 3 (.int .i64 ((c+da[k]:Nat) % 1000000000:Int))
        push_cast at hrd h1c
        go_wp2_with (at_builtin;refine yj _ rfl (.tmp 46) (.tmp 49) _ rfl w.heap.size 3 i0 _ 1 8 Tryz.underlying96 hi0 hz0 hz1 hz2 rfl (by omega) _ k (Zp O) rfl (hown.alloc _) _ (some ⟨wr.heap.size,0,none⟩) 1 1 _ rfl hrd h1c ?o2 ?o3 ?o4 ?_)
        case o2=>unfold maxLen;omega
        case o3=>omega
        case o4=>have:=hbl.size;simp;omega
        intro v3 w3 hown3 hgr3 hat3;have HO3:=ze hown3;have HG3:=ze hgr3;clear hown3 hgr3 hat3 hrd;go_wp2_with fail;go_roundw
        case rel=>exact znc.step hkm hc hO hsO HV hown hbl hsa hsb (c+da[k]) (by rw [zu hka,yX (by omega)];rfl) _ _ _ (by go_num) (by go_num) (by go_num) HO3.out HG3.out
        case measure=>simp [intOf];omega
    . by_cases hkb1:k<db.length
      . obtain ⟨adb,u,rfl,hbb,hx,hcell⟩:=hrb.at_ hkb1
        rw [xR hkb1] at hx;injection hx with hx
        subst hx;have hcellb:=(hbl.cell (p:=adb.add k) (by rw [zF];exact hbb)).trans hcell;clear hcell;have hy1:db[k]<1000000000:=hsb.get k hkb1;have hx0:c+db[k]<4294967296:=by omega
        have h1c:∀ u∈[Value.int .i64 ((c+db[k]:Nat) % 1000000000:Int)],u.oneCell' =true:=by
         intro u hu;rw [List.mem_singleton] at hu;subst hu;rfl
        have hrd:=xj wr 3 (.int .i64 ((c+db[k]:Nat) % 1000000000:Int))
        push_cast at hrd h1c
        go_wp2_with (at_builtin;refine yj _ rfl (.tmp 46) (.tmp 49) _ rfl w.heap.size 3 i0 _ 1 8 Tryz.underlying96 hi0 hz0 hz1 hz2 rfl (by omega) _ k (Zp O) rfl (hown.alloc _) _ (some ⟨wr.heap.size,0,none⟩) 1 1 _ rfl hrd h1c ?o2 ?o3 ?o4 ?_)
        case o2=>unfold maxLen;omega
        case o3=>omega
        case o4=>have:=hbl.size;simp;omega
        intro v3 w3 hown3 hgr3 hat3;have HO3:=ze hown3;have HG3:=ze hgr3;clear hown3 hgr3 hat3 hrd;go_wp2_with fail;go_roundw
        case rel=>exact znc.step hkm hc hO hsO HV hown hbl hsa hsb (c+db[k]) (by rw [yX (by omega),zu hkb1];rfl) _ _ _ (by go_num) (by go_num) (by go_num) HO3.out HG3.out
        case measure=>simp [intOf];omega
      . have hc0:(0:Int)<(c:Int):=by omega
        have hx0:c<4294967296:=by omega
        have h1c:∀ u∈[Value.int .i64 ((c:Nat) % 1000000000:Int)],u.oneCell' =true:=by
         intro u hu;rw [List.mem_singleton] at hu;subst hu;rfl
        have hrd:=xj wr 3 (.int .i64 ((c:Nat) % 1000000000:Int))
        push_cast at hrd h1c
        go_wp2_with (at_builtin;refine yj _ rfl (.tmp 46) (.tmp 49) _ rfl w.heap.size 3 i0 _ 1 8 Tryz.underlying96 hi0 hz0 hz1 hz2 rfl (by omega) _ k (Zp O) rfl (hown.alloc _) _ (some ⟨wr.heap.size,0,none⟩) 1 1 _ rfl hrd h1c ?o2 ?o3 ?o4 ?_)
        case o2=>unfold maxLen;omega
        case o3=>omega
        case o4=>have:=hbl.size;simp;omega
        intro v3 w3 hown3 hgr3 hat3;have HO3:=ze hown3;have HG3:=ze hgr3;clear hown3 hgr3 hat3 hrd;go_wp2_with fail;go_roundw
        case rel=>exact znc.step hkm hc hO hsO HV hown hbl hsa hsb (c) (by rw [yX (by omega),yX (by omega)];rfl) _ _ _ (by go_num) (by go_num) (by go_num) HO3.out HG3.out
        case measure=>simp [intOf];omega
  . obtain rfl:c=0:=by omega
    have ha1:da.length<=k:=by omega
    have hb1:db.length<=k:=by omega
    have hkb:k<=67108865:=by omega
    have hv1:=znc.end_ ha1 hb1 HV;have HV1:=ze hv1;clear hv1 HV hgo;obtain ⟨g,cg,rfl,hcg,hcm,hrd⟩:=XD hown;have HCM:=ze hcm;clear hcm;go_wp2_with (go_at_call 202;refine (Zz _ _ _ _ _ _ hrd hsO hcg HCM.out).mono ?_;rintro e w' ⟨v,rfl,hnat,rfl⟩);go_ret;refine ⟨v,rfl,?_,hbl⟩;rw [<- HV1.out];exact hnat
def zj9 (zs:List Int):List Value:=zs.map fun z=>Value.int .i64 z
theorem X0 (zs:List Int):(zj9 zs).length=zs.length:=by simp [zj9]
theorem zic (ds:List Nat):zj9 (ds.map fun (d:Nat)=>(d:Int))=Zp ds:=by simp [zj9,Zp]
def Ys (w:World) (g:Nat) (zs:List Int) (rest:List Value):Prop:=Blk w g 3 (zj9 zs ++ rest).toArray
theorem Ys.cell {w:World} {g:Nat} {zs:List Int} {rest:List Value} (h:Ys w g zs rest) {k:Nat} (hk:k<zs.length):w.cell? ⟨g,k,none⟩=some (.int .i64 zs[k]):=by
 unfold Ys at h
 rw [h.cell k,List.getElem?_toArray,List.getElem?_append_left (by rw [X0];exact hk)]
 simp [zj9,hk]
theorem Ys.set_ {w:World} {g:Nat} {zs:List Int} {rest:List Value} (h:Ys w g zs rest) {k:Nat} (hk:k<zs.length) (z:Int):Ys (w.setCell ⟨g,k,none⟩ (.int .i64 z)) g (zs.set k z) rest:=by
 unfold Ys at h |-
 have:=h.set_ k (.int .i64 z)
 rw [List.setIfInBounds_toArray,List.set_append_left _ _ (by rw [X0];exact hk)] at this
 rw [show zj9 (zs.set k z)=(zj9 zs).set k (.int .i64 z) by simp [zj9,List.map_set]]
 exact this
theorem Ys.lt {w:World} {g:Nat} {zs:List Int} {rest:List Value} (h:Ys w g zs rest):g<w.heap.size:=Blk.lt h
theorem Ys.frozen {w:World} {g:Nat} {zs:List Int} {rest:List Value} (h:Ys w g zs rest) (k:Nat):w.frozen? ⟨g,k,none⟩=false:=Blk.frozen h k
theorem Ys.reads {w:World} {g:Nat} {ds:List Nat} {rest:List Value} (h:Ys w g (ds.map fun (d:Nat)=>(d:Int)) rest):zY w w.heap.size 1 (some ⟨g,0,none⟩) ds.length (Zp ds):=by
 unfold Ys at h
 have:=h.reads (n:=ds.length) (by simp [zj9])
 rw [zic] at this
 simpa [Yw,List.take_append_of_le_length,List.take_of_length_le] using this
theorem zmu {w:World} {base n:Nat} {v:Value} {zs:List Int} (h:w.ownsRow base 3 1 v n (zj9 zs)) (hn:0<n):
 ∃ g c rest,v= .slice (some ⟨g,0,none⟩) n c/\base<=g/\zs.length=n/\Ys w g zs rest/\n<=c/\c<=maxLen:=by
 have hl:zs.length=n:=by have:=h.1;rw [X0] at this;omega
 rcases h.2 with ⟨_,h0⟩ | ⟨g,cap,cur,hv,hb,hg,hnc,hcm,hcs,ht⟩
 . omega
 . refine ⟨g,cap,cur.toList.drop n,hv,hb,hl,?_,hnc,hcm⟩
   unfold Ys Blk;rw [hg]
   congr 2
   rw [<- ht,Nat.mul_one,List.take_append_drop]
def zsl (da db:List Nat) (g:Nat) (rest:List Value) (w:World) (iv:Value) (wr:World):Prop:=
 ∃ k:Nat,k<=db.length/\iv= .int .i64 k/\Ys wr g (vw da db k) rest/\Below w.heap.size w wr
def MinB (n V:Nat) (g:Nat) (rest:List Value) (w:World) (iv:Value) (wr:World):Prop:=
 ∃ (k:Nat) (zs:List Int),k<=n/\iv= .int .i64 k/\zs.length=n/\Hid (ZS (1000000000:Nat) zs k (V:Int))/\Ys wr g zs rest/\Below w.heap.size w wr
theorem zsl.step {da db:List Nat} {g k:Nat} {rest:List Value} {w wr:World} (hk:k<db.length) (hle:db.length<=da.length) (h:Ys wr g (vw da db k) rest) (hb:Below w.heap.size w wr) (hg:w.heap.size<=g) (n:Nat) (iv sv:Value)
 (hiv:iv= .int .i64 ((k+1:Nat):Int)) (hsv:sv= .int .i64 ((da.getD k 0:Int) - db.getD k 0)):zsl da db g rest w iv ((wr.setCell ⟨g,k,none⟩ sv).drewN n):=by
 subst hiv hsv
 refine ⟨k+1,by omega,rfl,?_,zl (hb.setCell hg _) n⟩
 have:=h.set_ (k:=k) (by rw [vf];omega) ((da.getD k 0:Int) - db.getD k 0)
 rw [zgh _ _ _ (by omega)] at this
 exact this
theorem YM (va vb:Value) (a b:Nat) (w:World) (ha:zz w va a) (hb:zz w vb b) (hle:b<=a) (hla:len 1000000000 a<=67108864):
 Calls Tryz.prog 159 #[va,vb] w (zbv w (a - b)):=by
 obtain ⟨A,ca,da,rfl,h1,h2,hra,h4,rfl⟩:=ha
 obtain ⟨B,cb,db,rfl,k1,k2,hrb,k4,rfl⟩:=hb
 rw [<- h4.length_eq (by omega)] at hla
 have hll:db.length<=da.length:=yJ.length_le (by omega) k4 h4 hle
 have hsa:=h4.1
 have hsb:=k4.1
 have HLE:=ze hle
 have hst:=ZS.start (β:=1000000000) (by omega) hsa hsb hll
 rw [show ((val 1000000000 da:Int) - val 1000000000 db)=((val 1000000000 da - val 1000000000 db:Nat):Int) by omega] at hst
 have HST:=ze hst
 obtain ⟨i0,hi0,hz0,hz1,hz2⟩:=info_parts zck
 have h1c:=za2 da
 clear hst hle h4 k4 h2 k2 h1 k1
 go_enter Tryz.func159,Tryz.ntmps159
 go_wp2_with (at_builtin;refine yj _ rfl (.const (.slice none 0 0)) (.tmp 8) _ rfl w.heap.size 3 i0 _ 1 8 Tryz.underlying96 hi0 hz0 hz1 hz2 rfl (by omega) _ 0 [] rfl (World.ownsRow_nil _ _ _ _) _ A da.length ca _ rfl hra h1c ?o2 ?o3 ?o4 ?_)
 case o2=>unfold maxLen;omega
 case o3=>omega
 case o4=>exact Nat.le_refl _
 intro v3 w3 hown3 hgr3 hat3
 try rw [Nat.zero_add,List.nil_append] at hown3
 have hb3:Below w.heap.size w w3:=(xw w).grown hgr3 (Nat.le_refl _) (by intro k hk;simp [Value.ownBlock] at hk)
 clear hgr3 hat3
 rcases Nat.eq_zero_or_pos da.length with h0 | h0
 . have e1:da=[]:=List.eq_nil_of_length_eq_zero h0
   have e2:db=[]:=List.eq_nil_of_length_eq_zero (by omega);subst e1 e2;obtain ⟨g,cg,rfl,hcg,hcm,hrd⟩:=XD hown3;have HCM:=ze hcm;clear hcm h0;go_wp2_with fail;refine wp_loop_rounds 1 ?_;rw [rounds_succ];go_wp2_with fail;refine wp_loop_rounds 1 ?_;rw [rounds_succ];go_wp2_with (go_at_call 202;refine (Zz _ _ _ _ _ _ hrd (zD.nil _) (by simp) HCM.out).mono ?_;rintro e w' ⟨v,rfl,hnat,rfl⟩);go_ret;exact ⟨v,rfl,hnat,hb3⟩
 . rw [<- zic] at hown3
   obtain ⟨g,c,rest,rfl,hg,hlz,hI,hc1,hc2⟩:=zmu hown3 h0;have HCM:=ze hc2;rw [<- zdp da db] at hI;clear hown3 hc2 hlz;go_wp2_with fail
   go_loopw [6] (zsl da db g rest w) (fun iv _=>db.length - (intOf iv).toNat)
   case atStart=>exact ⟨0,Nat.zero_le _,rfl,hI,hb3⟩
   case round=>
    clear hI hb3;obtain ⟨k,hk,rfl,hI,hb3⟩:=hrel
    by_cases hlt:k<db.length
    . obtain ⟨adb,u,rfl,hbb,hx,hcell⟩:=hrb.at_ hlt
      rw [xR hlt] at hx;injection hx with hx
      subst hx;have hcellb:=(hb3.cell (p:=adb.add k) (by rw [zF];exact hbb)).trans hcell;clear hcell;have hlt' :k<(vw da db k).length:=by rw [vf];omega
      have hcello:=hI.cell hlt';rw [ZN _ _ _ _ (by omega),if_neg (by omega)] at hcello;have hfr:=hI.frozen k;have hlg:=hI.lt;have hx1:=hsa.getD (by omega) k;have hy1:=hsb.get k hlt;have ey:(db.getD k 0:Int)=(db[k]:Int):=by rw [zu hlt]
      have HEY:=ze ey;have hkc:(k:Int)<(da.length:Int):=by omega
      obtain ⟨x,hxx⟩:∃ x,x=da.getD k 0:=⟨_,rfl⟩;rw [<- hxx] at hcello hx1;have HXX:=ze hxx;clear ey hlt' hxx;go_wp2_with fail
      go_region
      go_wp2;go_roundw
      case rel=>exact zsl.step hlt hll hI hb3 hg 1 _ _ (by go_num) (by rw [HEY.out, <- HXX.out])
      case measure=>simp [intOf];omega
    . obtain rfl:k=db.length:=by omega
      go_wp2_with fail
      go_loopw [7] (MinB da.length (val 1000000000 da - val 1000000000 db) g rest w) (fun iv _=>da.length - (intOf iv).toNat)
      case atStart=>exact ⟨0,_,Nat.zero_le _,rfl,vf _ _ _,HST,hI,hb3⟩
      case round=>
       clear hI hb3 hlt HST;obtain ⟨k,zs,hk,rfl,hlz,HB,hI,hb3⟩:=hrel
       by_cases hlt:k<da.length
       . have hltz:k<zs.length:=by omega
         have hcello:=hI.cell hltz;have hfr:=hI.frozen k;have hlg:=hI.lt;have hkc:(k:Int)<(da.length:Int):=by omega
         obtain ⟨z1,z2⟩:=HB.out.2.2.1 hltz
         by_cases hz:zs[k]<0
         . have hmore:=HB.out.more (by omega) (by omega) hltz hz
           have hcello2:=(hI.set_ hltz (zs[k]+1000000000)).cell (k:=k+1) (by simpa using hmore);have hfr2:=(hI.set_ hltz (zs[k]+1000000000)).frozen (k+1);rw [List.getElem_set_ne (by omega)] at hcello2;obtain ⟨z3,z4⟩:=HB.out.2.2.2 (k+1) hmore (by omega);have hkc2:(k:Int)+1<(da.length:Int):=by omega
           have HB2:=ze (HB.out.back (by omega) hmore hz);have HI2:=ze ((hI.set_ hltz (zs[k]+1000000000)).set_ (k:=k+1) (by simpa using hmore) (zs[k+1] - 1));have HL2:=ze (show ((zs.set k (zs[k]+1000000000)).set (k+1) (zs[k+1] - 1)).length=da.length by simpa using hlz);generalize zs[k]=x at hcello hcello2 hfr2 z1 z2 hz HB2 HI2 HL2;generalize zs[k+1]=y at hcello2 z3 z4 HB2 HI2 HL2;clear hI HB hmore hltz hlz;go_wp2_with fail;go_roundw
           case rel=>exact ⟨k+1,_,by omega,by go_num,HL2.out,HB2,HI2.out,(hb3.setCell hg _).setCell hg _⟩
           case measure=>simp [intOf];omega
         . have HB2:=ze (HB.out.keep hltz (by omega))
           generalize zs[k]=x at hcello z1 z2 hz;clear HB;go_wp2;go_roundw
           case rel=>exact ⟨k+1,zs,by omega,by go_num,hlz,HB2,hI,hb3⟩
           case measure=>simp [intOf];omega
       . obtain ⟨ds,rfl,hs,hl,hv⟩:=HB.out.done (by omega)
         have hrd:=hI.reads;have HV:=ze hv;have hl2:ds.length=da.length:=by omega
         rw [hl2] at hrd;clear hv HB hlz hl;obtain rfl:k=da.length:=by omega
         go_wp2_with (go_at_call 202;refine (Zz _ _ _ _ _ _ hrd hs hc1 HCM.out).mono ?_;rintro e w' ⟨v,rfl,hnat,rfl⟩);go_ret;refine ⟨v,rfl,?_,hb3⟩;rw [<- HV.out];exact hnat
def xz (ds:List Nat):Array Value:=(Zp ds).toArray
theorem ze2 (ds:List Nat):(xz ds).size=ds.length:=by simp [xz,Yw]
theorem Yz {ds:List Nat} {k:Nat} (hk:k<ds.length):(xz ds)[k]?=some (.int .i64 (ds[k]:Int)):=by
 unfold xz;rw [List.getElem?_toArray];exact xR hk
theorem Yt (ds:List Nat) (k d:Nat):(xz ds).setIfInBounds k (.int .i64 (d:Int))=xz (ds.set k d):=by
 unfold xz Zp
 simp [List.map_set]
theorem zd8 (n:Nat):madeCells #[Value.int .i64 0] n=xz (List.replicate n 0):=by
 apply Array.ext'
 rw [toList_madeCells_one]
 simp [xz,Zp]
theorem VD {w:World} {g t:Nat} {ds:List Nat} (h:Blk w g t (xz ds)):zY w w.heap.size 1 (some ⟨g,0,none⟩) ds.length (Zp ds):=by
 have:=h.reads (n:=ds.length) (by rw [ze2];exact Nat.le_refl _)
 rw [show (xz ds).toList.take ds.length=Zp ds by rw [<- Yw ds];simp [xz]] at this
 exact this
theorem zo2 (k:IntKind) (n:Nat) (hn:n<=1073741824) (w:World):
 (Instr.makeSlice 96 (.int k (n:Int)) (.int k (n:Int))).run Tryz.prog w= .ok (.slice (some ⟨w.heap.size,0,none⟩) n n) (w.alloc (.cells (xz (List.replicate n 0)) 3)):=by
 rw [run_make_row' 96 3 (.int .i64 0) 8 Tryz.underlying96 zck rfl k k n (by omega) (by omega) w,zd8]
def zsh (da db:List Nat) (w:World) (iv:Value) (wr:World):Prop:=
 ∃ (k:Nat) (O:List Nat),k<=da.length/\iv= .int .i64 k/\O.length=da.length+db.length+1/\zD 1000000000 O/\
  Hid (val 1000000000 O=val 1000000000 (da.take k)*val 1000000000 db)/\Hid (∀ p,k+db.length<=p->O.getD p 0=0)/\Blk wr w.heap.size 3 (xz O)/\Below w.heap.size w wr
def zrj (da db:List Nat) (k x:Nat) (w:World) (cv jv:Value) (wr:World):Prop:=
 ∃ (j c:Nat) (O:List Nat),j<=db.length+1/\(db.length<j->c=0)/\jv= .int .i64 j/\cv= .int .i64 c/\c<1000000000/\O.length=da.length+db.length+1/\zD 1000000000 O/\
  Hid (val 1000000000 O+c*(1000000000 ^ k*1000000000 ^ j)=val 1000000000 (da.take k)*val 1000000000 db+x*1000000000 ^ k*val 1000000000 (db.take j))/\
  Hid (∀ p,k+db.length<=p->k+j<=p->O.getD p 0=0)/\Blk wr w.heap.size 3 (xz O)/\Below w.heap.size w wr
theorem zjr {c x y o:Nat} (hc:c<1000000000) (hx:x<1000000000) (hy:y<1000000000) (ho:o<1000000000):o+c+x*y<1000000000*1000000000:=by
 have:=zfa (β:=1000000000) hc hx hy ho
 omega
theorem zrj.step {da db:List Nat} {w wr:World} {k x j c:Nat} {O:List Nat} (hk:k<da.length) (hj:j<=db.length) (hc:c<1000000000) (hO:O.length=da.length+db.length+1) (hsO:zD 1000000000 O)
 (HV:Hid (val 1000000000 O+c*(1000000000 ^ k*1000000000 ^ j)=val 1000000000 (da.take k)*val 1000000000 db+x*1000000000 ^ k*val 1000000000 (db.take j)))
 (HZ:Hid (∀ p,k+db.length<=p->k+j<=p->O.getD p 0=0)) (hblk:Blk wr w.heap.size 3 (xz O)) (hbl:Below w.heap.size w wr) (hx:x<1000000000) (hsb:zD 1000000000 db)
 (o:Nat) (ho:O[k+j]'(by omega)=o) (t:Nat) (ht:t=o+c+x*db.getD j 0) (cv jv sv:Value) (hcv:cv= .int .i64 ((t / 1000000000:Nat):Int)) (hjv:jv= .int .i64 ((j+1:Nat):Int)) (hsv:sv= .int .i64 ((t % 1000000000:Nat):Int)):
 zrj da db k x w cv jv (wr.setCell ⟨w.heap.size,k+j,none⟩ sv):=by
 subst hcv hjv hsv
 have ht' :t=c+x*db.getD j 0+o:=by omega
 have ho1:o<1000000000:=by rw [<- ho];exact hsO.get _ _
 have hb:=zjr hc hx (hsb.getD (by omega) j) ho1
 have hs:=zfo 1000000000 O (k+j) (t % 1000000000) (by omega)
 rw [ho,Nat.pow_add] at hs
 refine ⟨j+1,_,O.set (k+j) (t % 1000000000),by omega,?_,rfl,rfl,(Nat.div_lt_iff_lt_mul (by omega)).2 (by omega),by simpa using hO,hsO.set _ _ (Nat.mod_lt _ (by omega)),?_,?_,?_,hbl.setCell (Nat.le_refl _) _⟩
 . intro hlt
   have hjl:j=db.length:=by omega
   have h0:=HZ.out (k+j) (by omega) (by omega);rw [zu (by omega),ho] at h0;rw [yX (by omega),h0] at ht;rw [ht];simp;omega
 . show _=_
   rw [zJ];have h1:=HV.out;rw [ht'] at hs |-;exact zhs h1 hs
 . intro p hp hp2
   rw [getD_set_ne _ _ _ _ (by omega)];exact HZ.out p hp (by omega)
 . have:=hblk.set_ (k+j) (.int .i64 ((t % 1000000000:Nat):Int))
   rwa [Yt] at this
theorem zsh.step {da db:List Nat} {w wr:World} {k j:Nat} {O:List Nat} (hk:k<da.length) (hj:db.length<=j) (hj2:j<=db.length+1) (hO:O.length=da.length+db.length+1) (hsO:zD 1000000000 O)
 (HV:Hid (val 1000000000 O+0*(1000000000 ^ k*1000000000 ^ j)=val 1000000000 (da.take k)*val 1000000000 db+da[k]*1000000000 ^ k*val 1000000000 (db.take j)))
 (HZ:Hid (∀ p,k+db.length<=p->k+j<=p->O.getD p 0=0)) (hblk:Blk wr w.heap.size 3 (xz O)) (hbl:Below w.heap.size w wr)
 (iv:Value) (hiv:iv= .int .i64 ((k+1:Nat):Int)):zsh da db w iv wr:=by
 subst hiv
 refine ⟨k+1,O,by omega,rfl,hO,hsO,?_,?_,hblk,hbl⟩
 . have h:=HV.out
   rw [List.take_of_length_le hj] at h
   show val _ _=_
   rw [yH _ _ _ hk,Nat.add_mul,Nat.mul_comm (1000000000 ^ k)]
   omega
 . intro p hp
   exact HZ.out p (by omega) (by omega)
theorem vu (va vb:Value) (a b:Nat) (w:World) (ha:zz w va a) (hb:zz w vb b) (hla:len 1000000000 a<=67108864) (hlb:len 1000000000 b<=67108864):
 Calls Tryz.prog 155 #[va,vb] w (zbv w (a*b)):=by
 obtain ⟨A,ca,da,rfl,h1,h2,hra,h4,rfl⟩:=ha
 obtain ⟨B,cb,db,rfl,k1,k2,hrb,k4,rfl⟩:=hb
 rw [<- h4.length_eq (by omega)] at hla
 rw [<- k4.length_eq (by omega)] at hlb
 have hsa:=h4.1
 have hsb:=k4.1
 clear h4 k4 h2 k2
 have hmk:=fun w=>zo2 .i64 (da.length+db.length+1) (by omega) w
 rw [show ((da.length+db.length+1:Nat):Int)=(da.length:Int)+db.length+1 by omega] at hmk
 go_enter Tryz.func155,Tryz.ntmps155
 go_wp2
 go_loopw [6] (zsh da db w) (fun iv _=>da.length - (intOf iv).toNat)
 case atStart=>
  refine ⟨0,List.replicate (da.length+db.length+1) 0,by omega,rfl,by simp,zD.replicate (by omega) _,by rw [XQ,List.take_zero,vk,Nat.zero_mul];exact rfl,?_,Blk.new _ _ _,(Below.refl _ _).alloc (Nat.le_refl _) _⟩
  intro p _
  rw [List.getD_eq_getElem?_getD,List.getElem?_replicate]
  split<;>rfl
 case round=>
  obtain ⟨k,O,hk,rfl,hO,hsO,HV,HZ,hblk,hbl⟩:=hrel
  have hg:=hblk.lt
  by_cases hlt:k<da.length
  . obtain ⟨ada,u,rfl,hba,hx,hcell⟩:=hra.at_ hlt
    rw [xR hlt] at hx;injection hx with hx
    subst hx;have hx1:da[k]<1000000000:=hsa.get k hlt;go_wp2;obtain ⟨wo,ewo⟩:∃ wo:World,wo=wr:=⟨_,rfl⟩;subst ewo
    go_loopw [7,8] (zrj da db k da[k] w) (fun _ jv _=>db.length+1 - (intOf jv).toNat)
    case atStart=>
     exact ⟨0,0,O,by omega,fun _=>rfl,rfl,rfl,by omega,hO,hsO,by rw [List.take_zero,vk,Nat.zero_mul,Nat.mul_zero];exact HV,fun p hp _=>HZ.out p hp,hblk,hbl⟩
    case round=>
     clear HV HZ hblk hbl hsO;obtain ⟨j,c,O,hj,hjc,rfl,rfl,hc,hO,hsO,HV,HZ,hblk,hbl⟩:=hrel;have hg:=hblk.lt;have hcella:=(hbl.cell (p:=ada.add k) (by rw [zF];exact hba)).trans hcell
     by_cases hgo:j<db.length\/0<c
     . have hjl:j<=db.length:=by
        rcases hgo with h | h
        . omega
        . rcases Nat.lt_or_ge db.length j with h5 | h5
          . have:=hjc h5;omega
          . exact h5
       have hcello:=(hblk.cell (k+j)).trans (Yz (by omega));have hfr:=hblk.frozen (k+j);have ho1:O[k+j]<1000000000:=hsO.get _ _;have HJC:=ze hjc;clear hjc
       by_cases hjb:j<db.length
       . obtain ⟨adb,u,rfl,hbb,hx,hcellb0⟩:=hrb.at_ hjb
         rw [xR hjb] at hx;injection hx with hx
         subst hx;have hcellb:=(hbl.cell (p:=adb.add j) (by rw [zF];exact hbb)).trans hcellb0;clear hcellb0;have hy1:db[j]<1000000000:=hsb.get j hjb;have hpr:da[k]*db[j]<=999999998000000001:=Nat.le_trans (Nat.mul_le_mul (show da[k]<=999999999 by omega) (show db[j]<=999999999 by omega)) (by omega);have hpr' :(da[k]:Int)*(db[j]:Int)<=999999998000000001:=by rw [<- Int.natCast_mul];omega
         have hpz:(0:Int)<=(da[k]:Int)*(db[j]:Int):=Int.mul_nonneg (by omega) (by omega);clear hgo;go_wp2
         go_quiet (fail)
         go_wp2;go_roundw
         case rel=>exact zrj.step hlt hjl hc hO hsO HV HZ (hblk.drewN nq) (zl hbl nq) hx1 hsb O[k+j] rfl (O[k+j]+c+da[k]*db[j]) (by rw [zu hjb]) _ _ _ (by go_num) (by go_num) (by go_num)
         case measure=>simp [intOf];omega
       . have hc0:0<c:=by omega
         clear hgo;go_wp2;go_roundw
         case rel=>exact zrj.step hlt hjl hc hO hsO HV HZ hblk hbl hx1 hsb O[k+j] rfl (O[k+j]+c) (by rw [yX (by omega)];rfl) _ _ _ (by go_num) (by go_num) (by go_num)
         case measure=>simp [intOf];omega
     . obtain rfl:c=0:=by omega
       have hjb:db.length<=j:=by omega
       clear hjc;go_wp2;go_roundw
       case rel=>exact zsh.step hlt hjb hj hO hsO HV HZ hblk hbl _ (by go_num)
       case measure=>simp [intOf];omega
  . obtain rfl:k=da.length:=by omega
    have hr1:=VD hblk;rw [hO] at hr1
    have hv1:val 1000000000 O=val 1000000000 da*val 1000000000 db:=by
     have h:=HV.out
     rwa [List.take_length] at h
    have HV1:=ze hv1;clear hv1 HV HZ;go_wp2_with (go_at_call 202;refine (Zz _ _ _ _ _ _ hr1 hsO (Nat.le_refl _) (by unfold maxLen;omega)).mono ?_;rintro e w' ⟨v,rfl,hnat,rfl⟩);go_ret;refine ⟨v,rfl,?_,hbl⟩;rw [<- HV1.out];exact hnat
end Go.Proofs.YtkmcmmcencdcpaaGreatDoor
