/- Parts of the proof: memory, numbers, walks of the functions that are called. -/
import Derived.LoopN
import Derived.Test.YtkmcmmcencdcpaaGreatDoorMb11
set_option linter.unusedVariables false
set_option linter.unusedSimpArgs false
set_option maxRecDepth 100000
set_option maxHeartbeats 32000000
namespace Go.Proofs.YtkmcmmcencdcpaaGreatDoor
open Go.RowKit Go.Deep
def zE (w:World) (v:Value) (z:Int):Prop:=
 (∃ x ng,v= .agg #[.int .i64 x,.slice none 0 0,.bool ng]/\ -4611686018427387904<x/\x<4611686018427387904/\z=x)\/
 (∃ ad k c n ng,v= .agg #[.int .i64 0,.slice (some ad) k c,.bool ng]/\yf w (.slice (some ad) k c) n/\4611686018427387904<=n/\z=if ng=true then -(n:Int) else n)
theorem zE.below {w w' :World} {v:Value} {z:Int} (h:zE w v z) (hb:Below w.heap.size w w'):zE w' v z:=by
 rcases h with h | ⟨ad,k,c,n,ng,h1,h2,h3,h4⟩
 . exact .inl h
 . exact .inr ⟨ad,k,c,n,ng,h1,yf.below h2 hb,h3,h4⟩
def vN (w:World) (z:Int) (e:Ending) (w' :World):Prop:=∃ v,e= .returned v/\zE w' v z/\Below w.heap.size w w'
def X2 (w:World) (z:Int) (e:Ending) (w' :World):Prop:=∃ v,e= .returned (.tuple #[.bool (decide (z<0)),v])/\yf w' v z.natAbs/\Below w.heap.size w w'
theorem zln (w:World) (a:Option Addr) (n c n' c' :Nat):(binOp .neq 89 (.slice a n c) (.slice none n' c')).run Tryz.prog w= .ok (.bool (!a.isNone)) w:=
 run_neq_slice_nil_any w _ _ a n c n' c' Tryz.underlying89
theorem zfc (w:World) (a:Option Addr) (n c n' c' :Nat):(binOp .eql 89 (.slice a n c) (.slice none n' c')).run Tryz.prog w= .ok (.bool a.isNone) w:=
 Lib.run_eql_slice_nil w _ _ a n c n' c' Tryz.underlying89
theorem ZT (x:Int) (g:Value) (ng:Bool) (w:World) (h1: -4611686018427387904<x) (h2:x<4611686018427387904):
 Calls Tryz.prog 175 #[.agg #[.int .i64 x,g,.bool ng]] w (zfa w (.int .u64 (x.natAbs:Nat))):=by
 by_cases h:x<0
 . have e:(x.natAbs:Int)= -x:=by omega
   rw [e];clear e
   go_enter Tryz.func175,Tryz.ntmps175
   go_wp2;go_ret;exact ⟨by go_num,zh _ _⟩
 . have e:(x.natAbs:Int)=x:=by omega
   rw [e];clear e
   go_enter Tryz.func175,Tryz.ntmps175
   go_wp2;go_ret;exact ⟨by go_num,zh _ _⟩
theorem Z0 (v:Value) (z:Int) (w:World) (h:zE w v z):
 Calls Tryz.prog 108 #[v] w (zfa w (.int .i64 (zN z 0))):=by
 rcases h with ⟨x,ng,rfl,h1,h2,rfl⟩ | ⟨ad,k,c,n,ng,rfl,hn,h3,rfl⟩
 . have q0:=fun w=>zln w none 0 0 0 0
   have HC:Hid (zN z 0=if z<0 then -1 else if 0<z then 1 else 0):=rfl
   rcases Int.lt_trichotomy z 0 with h | h | h
   . go_enter Tryz.func108,Tryz.ntmps108
     go_wp2;go_ret;exact ⟨by rw [HC.out,if_pos (by omega)];rfl,zh _ _⟩
   . subst h
     go_enter Tryz.func108,Tryz.ntmps108
     go_wp2;go_ret;exact ⟨by rw [HC.out];rfl,zh _ _⟩
   . go_enter Tryz.func108,Tryz.ntmps108
     go_wp2;go_ret;exact ⟨by rw [HC.out,if_neg (by omega),if_pos (by omega)];rfl,zh _ _⟩
 . have q0:=fun w=>zln w (some ad) k c 0 0
   cases ng with
   | true=>
     have HC:Hid (zN (if (true:Bool)=true then -(n:Int) else n) 0= -1):=by show _=_;simp only [if_true];unfold zN;rw [if_pos (by omega)]
     rw [HC.out];clear h3
     go_enter Tryz.func108,Tryz.ntmps108
     go_wp2;go_ret;exact ⟨rfl,zh _ _⟩
   | false=>
     have HC:Hid (zN (if (false:Bool)=true then -(n:Int) else n) 0=1):=by show _=_;simp only [Bool.false_eq_true,if_false];unfold zN;rw [if_neg (by omega),if_pos (by omega)]
     rw [HC.out];clear h3
     go_enter Tryz.func108,Tryz.ntmps108
     go_wp2;go_ret;exact ⟨rfl,zh _ _⟩
theorem yz (v:Value) (z:Int) (w:World) (h:zE w v z):
 Calls Tryz.prog 161 #[v] w (vN w (-z)):=by
 rcases h with ⟨x,ng,rfl,h1,h2,rfl⟩ | ⟨ad,k,c,n,ng,rfl,hn,h3,rfl⟩
 . have q0:=fun w=>zln w none 0 0 0 0
   go_enter Tryz.func161,Tryz.ntmps161
   go_wp2;refine bodyPost_ret (v:=.agg #[.int .i64 (-z),.slice none 0 0,.bool false]) (by simp [results,Tryz.results161,go_sem]) rfl ?_;exact ⟨_,rfl,.inl ⟨_,_,rfl,by omega,by omega,rfl⟩,ext (zh _ _) (zh _ _)⟩
 . have q0:=fun w=>zln w (some ad) k c 0 0
   have H3:=ze h3;clear h3;have hb:Below w.heap.size w ((w.alloc (.cells #[.int .i64 0,.slice (some ad) k c,.bool ng] 91)).alloc (.cells #[.int .i64 0,.slice (some ad) k c,.bool (!ng)] 91)):=ext (zh _ _) (zh _ _)
   have hf:zE ((w.alloc (.cells #[.int .i64 0,.slice (some ad) k c,.bool ng] 91)).alloc (.cells #[.int .i64 0,.slice (some ad) k c,.bool (!ng)] 91)) (.agg #[.int .i64 0,.slice (some ad) k c,.bool (!ng)]) (-(if ng=true then -(n:Int) else n)):=
    .inr ⟨ad,k,c,n, !ng,rfl,yf.below hn hb,H3.out,by cases ng<;>simp⟩
   clear hn;generalize hz: -(if ng=true then -(n:Int) else n)=z at hf |-;clear hz
   cases ng with
   | true=>
     go_enter Tryz.func161,Tryz.ntmps161
     go_wp2;refine bodyPost_ret (v:=.agg #[.int .i64 0,.slice (some ad) k c,.bool false]) (by simp [results,Tryz.results161,go_sem]) rfl ?_;exact ⟨_,rfl,hf,hb⟩
   | false=>
     go_enter Tryz.func161,Tryz.ntmps161
     go_wp2;refine bodyPost_ret (v:=.agg #[.int .i64 0,.slice (some ad) k c,.bool true]) (by simp [results,Tryz.results161,go_sem]) rfl ?_;exact ⟨_,rfl,hf,hb⟩
theorem zi {g i:Nat} {v:Value} {w w' :World} (hb:Below w.heap.size w w') (hl:g<w.heap.size) (h:w.cell? ⟨g,i,none⟩=some v):w'.cell? ⟨g,i,none⟩=some v:=(hb.cell hl).trans h
theorem zU {g:Nat} {w w' :World} (hb:Below w.heap.size w w') (hl:g<w.heap.size):g<w'.heap.size:=Nat.lt_of_lt_of_le hl hb.size
theorem zp {w0 w w' :World} (hb:Below w.heap.size w w') (h:Hid (Below w0.heap.size w0 w)):Hid (Below w0.heap.size w0 w'):=ext h.out hb
theorem xS (v:Value) (z:Int) (w:World) (h:zE w v z):
 Calls Tryz.prog 149 #[v] w (X2 w z):=by
 rcases h with ⟨x,ng,rfl,h1,h2,rfl⟩ | ⟨ad,k,c,n,ng,rfl,hn,h3,rfl⟩
 . have q0:=fun w=>zln w none 0 0 0 0
   have hs:=fun w=>ZT z (.slice none 0 0) ng w h1 h2
   have hz:z.natAbs<18446744073709551616:=by omega
   have hw:=fun w=>ze2 z.natAbs hz w
   clear hz h1 h2
   go_enter Tryz.func149,Tryz.ntmps149
   go_wp2_with fail
   go_region_held3 (fun w' =>w'.cell? ⟨w.heap.size,0,none⟩=some (.int .i64 z)/\w'.cell? ⟨w.heap.size,1,none⟩=some (.slice none 0 0)/\w'.cell? ⟨w.heap.size,2,none⟩=some (.bool ng)/\w.heap.size<w'.heap.size/\Hid (Below w.heap.size w w'))
    (first
      | exact ⟨by go_keep,by go_keep,by go_keep,by go_keep,ze (zr (zh _ _) 1)⟩
      | go_keep
      | (go_split_ands;exact ⟨zi ‹_› ‹_› ‹_›,zi ‹_› ‹_› ‹_›,zi ‹_› ‹_› ‹_›,zU ‹_› ‹_›,zp ‹_› ‹_›⟩))
    (first
      | (refine (hs _).mono ?_;rintro e w1 ⟨rfl,hb1⟩)
      | (refine (hw _).mono ?_;rintro e w2 ⟨v2,rfl,hv2,hb2⟩))
   all_goals
    go_wp2;go_ret2;go_split_ands;exact ⟨v2,rfl,hv2,zS ‹_›⟩
 . have q0:=fun w=>zln w (some ad) k c 0 0
   have e1:(if ng=true then -(n:Int) else n).natAbs=n:=by cases ng<;>simp
   have e2:decide ((if ng=true then -(n:Int) else n)<0)=ng:=by cases ng<;>simp<;>omega
   have hp:∀ e w',(e= .returned (.tuple #[.bool ng,.slice (some ad) k c])/\Below w.heap.size w w')->X2 w (if ng=true then -(n:Int) else n) e w' :=by
    rintro e w' ⟨rfl,hb⟩;exact ⟨_,by rw [e2],by rw [e1];exact yf.below hn hb,hb⟩
   refine Calls.mono ?_ hp;clear e1 e2 hp hn h3
   cases ng with
   | true=>
     go_enter Tryz.func149,Tryz.ntmps149
     go_wp2_with fail
     go_quiet (fail)
     go_wp2;go_ret2;exact ⟨rfl,zr (zh _ _) _⟩
   | false=>
     go_enter Tryz.func149,Tryz.ntmps149
     go_wp2_with fail
     go_quiet (fail)
     go_wp2;go_ret2;exact ⟨rfl,zr (zh _ _) _⟩
def signed (ng:Bool) (n:Nat):Int:=if ng=true then -(n:Int) else n
theorem zms (ng:Bool) (A:Option Addr) (c:Nat) (w:World):Calls Tryz.prog 126 #[.bool ng,.slice A 0 c] w (vN w (signed ng 0)):=by
 cases ng with
 | true=>
   go_enter Tryz.func126,Tryz.ntmps126
   go_wp2;refine wp_loop_rounds 1 ?_;rw [rounds_succ];go_wp2;refine bodyPost_ret (v:=.agg #[.int .i64 (0),.slice none 0 0,.bool false]) (by simp [results,Tryz.results126,go_sem]) rfl ?_;exact ⟨_,rfl,.inl ⟨_,_,rfl,by omega,by omega,rfl⟩,zh _ _⟩
 | false=>
   go_enter Tryz.func126,Tryz.ntmps126
   go_wp2;refine wp_loop_rounds 1 ?_;rw [rounds_succ];go_wp2;refine bodyPost_ret (v:=.agg #[.int .i64 (0),.slice none 0 0,.bool false]) (by simp [results,Tryz.results126,go_sem]) rfl ?_;exact ⟨_,rfl,.inl ⟨_,_,rfl,by omega,by omega,rfl⟩,zh _ _⟩
theorem zmo (ng:Bool) (ad:Addr) (c d:Nat) (w:World) (hd:d<4294967296) (hb:ad.block<w.heap.size) (hc:w.cell? ad=some (.int .u32 d)):Calls Tryz.prog 126 #[.bool ng,.slice (some ad) 1 c] w (vN w (signed ng d)):=by
 have hor:bits .or .u64 0 (d:Int)=(d:Int):=by
  have:=u64_or_nat 0 d (by omega) (by omega)
  rw [Nat.zero_or] at this
  exact this
 have hI:(d:Int)<4611686018427387904:=by omega
 have hD:decide ((d:Int)<4611686018427387904)=true:=decide_eq_true hI
 cases ng with
 | true=>
   go_enter Tryz.func126,Tryz.ntmps126
   go_wp2;refine wp_loop_rounds 2 ?_;rw [rounds_succ];go_wp2;rw [rounds_succ];go_wp2;refine bodyPost_ret (v:=.agg #[.int .i64 (-d),.slice none 0 0,.bool false]) (by simp [results,Tryz.results126,go_sem]) rfl ?_;exact ⟨_,rfl,.inl ⟨_,_,rfl,by omega,by omega,rfl⟩,zh _ _⟩
 | false=>
   go_enter Tryz.func126,Tryz.ntmps126
   go_wp2;refine wp_loop_rounds 2 ?_;rw [rounds_succ];go_wp2;rw [rounds_succ];go_wp2;refine bodyPost_ret (v:=.agg #[.int .i64 (d),.slice none 0 0,.bool false]) (by simp [results,Tryz.results126,go_sem]) rfl ?_;exact ⟨_,rfl,.inl ⟨_,_,rfl,by omega,by omega,rfl⟩,zh _ _⟩
theorem zjm (x y:Nat) (hx:x<4294967296) (hy:y<4294967296):bits .or .u64 (x:Int) ((y:Int)*4294967296)=((x+y*4294967296:Nat):Int):=by
 have:=u64_or_nat x (y*4294967296) (by omega) (by omega)
 rw [Int.natCast_mul] at this
 have h2:(2:Nat) ^ 32=4294967296:=by decide
 have h3:=YW (n:=32) (a:=y) (b:=x) (by omega)
 rw [h2,Nat.mul_comm] at h3
 rw [h3] at this
 exact this
theorem zmf (ng:Bool) (ad:Addr) (c d e V:Nat) (w:World) (hd:d<4294967296) (he:e<4294967296) (hV:V=d+e*4294967296) (hb:ad.block<w.heap.size) (hc:w.cell? ad=some (.int .u32 d))
 (hc1:w.cell? ⟨ad.block,ad.off+1,none⟩=some (.int .u32 e)) (hlt:V<4611686018427387904):Calls Tryz.prog 126 #[.bool ng,.slice (some ad) 2 c] w (vN w (signed ng V)):=by
 have hor:bits .or .u64 0 (d:Int)=(d:Int):=by
  have:=u64_or_nat 0 d (by omega) (by omega)
  rw [Nat.zero_or] at this
  exact this
 have hor2:bits .or .u64 (d:Int) ((e:Int)*4294967296)=(V:Int):=by rw [zjm d e hd he,hV]
 clear hV
 have hI:(V:Int)<4611686018427387904:=by omega
 have hD:decide ((V:Int)<4611686018427387904)=true:=decide_eq_true hI
 cases ng with
 | true=>
   go_enter Tryz.func126,Tryz.ntmps126
   go_wp2;refine wp_loop_rounds 3 ?_;rw [rounds_succ];go_wp2;rw [rounds_succ];go_wp2;rw [rounds_succ];go_wp2;refine bodyPost_ret (v:=.agg #[.int .i64 (-V),.slice none 0 0,.bool false]) (by simp [results,Tryz.results126,go_sem]) rfl ?_;exact ⟨_,rfl,.inl ⟨_,_,rfl,by omega,by omega,rfl⟩,zh _ _⟩
 | false=>
   go_enter Tryz.func126,Tryz.ntmps126
   go_wp2;refine wp_loop_rounds 3 ?_;rw [rounds_succ];go_wp2;rw [rounds_succ];go_wp2;rw [rounds_succ];go_wp2;refine bodyPost_ret (v:=.agg #[.int .i64 (V),.slice none 0 0,.bool false]) (by simp [results,Tryz.results126,go_sem]) rfl ?_;exact ⟨_,rfl,.inl ⟨_,_,rfl,by omega,by omega,rfl⟩,zh _ _⟩
theorem zky (ng:Bool) (ad:Addr) (c d e V n:Nat) (w:World) (hd:d<4294967296) (he:e<4294967296) (hV:V=d+e*4294967296) (hb:ad.block<w.heap.size) (hc:w.cell? ad=some (.int .u32 d))
 (hc1:w.cell? ⟨ad.block,ad.off+1,none⟩=some (.int .u32 e)) (hge:4611686018427387904<=V) (hn:yf w (.slice (some ad) 2 c) n) (HG:Hid (4611686018427387904<=n)):Calls Tryz.prog 126 #[.bool ng,.slice (some ad) 2 c] w (vN w (signed ng n)):=by
 have hor:bits .or .u64 0 (d:Int)=(d:Int):=by
  have:=u64_or_nat 0 d (by omega) (by omega)
  rw [Nat.zero_or] at this
  exact this
 have hor2:bits .or .u64 (d:Int) ((e:Int)*4294967296)=(V:Int):=by rw [zjm d e hd he,hV]
 clear hV
 have hD:decide ((V:Int)<4611686018427387904)=false:=decide_eq_false (by omega)
 cases ng with
 | true=>
   go_enter Tryz.func126,Tryz.ntmps126
   go_wp2;refine wp_loop_rounds 3 ?_;rw [rounds_succ];go_wp2;rw [rounds_succ];go_wp2;rw [rounds_succ];go_wp2;refine bodyPost_ret (v:=.agg #[.int .i64 0,.slice (some ad) 2 c,.bool true]) (by simp [results,Tryz.results126,go_sem]) rfl ?_;exact ⟨_,rfl,zE.below (w:=w) (.inr ⟨ad,2,c,n,true,rfl,hn,HG.out,rfl⟩) (zh _ _),zh _ _⟩
 | false=>
   go_enter Tryz.func126,Tryz.ntmps126
   go_wp2;refine wp_loop_rounds 3 ?_;rw [rounds_succ];go_wp2;rw [rounds_succ];go_wp2;rw [rounds_succ];go_wp2;refine bodyPost_ret (v:=.agg #[.int .i64 0,.slice (some ad) 2 c,.bool false]) (by simp [results,Tryz.results126,go_sem]) rfl ?_;exact ⟨_,rfl,zE.below (w:=w) (.inr ⟨ad,2,c,n,false,rfl,hn,HG.out,rfl⟩) (zh _ _),zh _ _⟩
theorem zme (ng:Bool) (ad:Addr) (k c n:Nat) (w:World) (hk:3<=k) (hn:yf w (.slice (some ad) k c) n) (HG:Hid (4611686018427387904<=n)):Calls Tryz.prog 126 #[.bool ng,.slice (some ad) k c] w (vN w (signed ng n)):=by
 have hI:¬ (k:Int)<=2:=by omega
 cases ng with
 | true=>
   go_enter Tryz.func126,Tryz.ntmps126
   go_wp2;refine bodyPost_ret (v:=.agg #[.int .i64 0,.slice (some ad) k c,.bool true]) (by simp [results,Tryz.results126,go_sem]) rfl ?_;exact ⟨_,rfl,zE.below (w:=w) (.inr ⟨ad,k,c,n,true,rfl,hn,HG.out,rfl⟩) (zh _ _),zh _ _⟩
 | false=>
   go_enter Tryz.func126,Tryz.ntmps126
   go_wp2;refine bodyPost_ret (v:=.agg #[.int .i64 0,.slice (some ad) k c,.bool false]) (by simp [results,Tryz.results126,go_sem]) rfl ?_;exact ⟨_,rfl,zE.below (w:=w) (.inr ⟨ad,k,c,n,false,rfl,hn,HG.out,rfl⟩) (zh _ _),zh _ _⟩
theorem zM (ng:Bool) (v:Value) (n:Nat) (w:World) (h:yf w v n):Calls Tryz.prog 126 #[.bool ng,v] w (vN w (signed ng n)):=by
 have hn:=h
 obtain ⟨A,c,ds,rfl,h1,h2,hr,hcan,rfl⟩:=h
 rcases Nat.lt_or_ge ds.length 3 with hl | hl
 . match ds,hcan,hr,hn with
   | [],_,_,_=>exact zms ng A c w
   | [d],hcan,hr,_=>
     obtain ⟨ad,u,rfl,hb,hx,hcell⟩:=hr.at_ (k:=0) (by simp)
     simp [ZE] at hx
     subst hx;rw [Vh];exact zmo ng ad c d w (hcan.1.get 0 (by simp)) hb (by simpa [Addr.add] using hcell)
   | [d,e],hcan,hr,hn=>
     obtain ⟨ad,u,rfl,hb,hx,hcell⟩:=hr.at_ (k:=0) (by simp);obtain ⟨ad',u',e1,hb',hx',hcell'⟩:=hr.at_ (k:=1) (by simp);injection e1 with e1
     subst e1
     simp [ZE] at hx hx'
     subst hx hx';have hv:val 4294967296 [d,e]=d+e*4294967296:=by simp only [val];omega
     have hd:=hcan.1.get 0 (by simp);have he:=hcan.1.get 1 (by simp)
     rcases Nat.lt_or_ge (d+e*4294967296) 4611686018427387904 with h0 | h0
     . rw [hv]
       exact zmf ng ad c d e _ w hd he rfl hb (by simpa [Addr.add] using hcell) (by simpa [Addr.add] using hcell') h0
     . exact zky ng ad c d e _ _ w hd he rfl hb (by simpa [Addr.add] using hcell) (by simpa [Addr.add] using hcell') h0 hn (ze (by rw [hv];exact h0))
   | _ :: _ :: _ :: _,_,_,_=>simp at hl;omega
 . obtain ⟨ad,u,rfl,hb,hx,hcell⟩:=hr.at_ (k:=0) (by omega)
   refine zme ng ad _ c _ w hl hn (ze ?_);have h5:=hcan.ge (by intro e;rw [e] at hl;simp at hl);have h6:4294967296 ^ 2<=4294967296 ^ (ds.length - 1):=Nat.pow_le_pow_right (by omega) (by omega);have h7:(4294967296:Nat) ^ 2=18446744073709551616:=by decide
   rw [h7] at h6
   omega
theorem zE.form {w:World} {v:Value} {z:Int} (h:zE w v z):∃ (x:Int) (A:Option Addr) (k c:Nat) (ng:Bool),v= .agg #[.int .i64 x,.slice A k c,.bool ng]/\
 -4611686018427387904<x/\x<4611686018427387904/\(A=none->k=0/\c=0/\z=x):=by
 rcases h with ⟨x,ng,rfl,h1,h2,rfl⟩ | ⟨ad,k,c,n,ng,rfl,hn,h3,rfl⟩
 . exact ⟨_,_,_,_,_,rfl,h1,h2,fun _=>⟨rfl,rfl,rfl⟩⟩
 . exact ⟨_,_,_,_,_,rfl,by omega,by omega,fun h=>by cases h⟩
def xE (cs:Array Value):Prop:=∀ (i:Nat) (d:Int),cs[i]?≠some (.int .u32 d)
theorem ZS (x:Int) (A:Option Addr) (k c:Nat) (ng:Bool):xE #[.int .i64 x,.slice A k c,.bool ng]:=by
 intro i d h
 match i with
 | 0=>simp at h
 | 1=>simp at h
 | 2=>simp at h
 | i+3=>simp at h
theorem yf.stored {w w' :World} {g:Nat} {t:TypeId} {cs:Array Value} {v:Value} {n:Nat} (h:yf w v n) (hb:Blk w g t cs) (hno:xE cs)
 (hk:∀ p:Addr,p.block≠g->w'.cell? p=w.cell? p) (hs:w.heap.size<=w'.heap.size):yf w' v n:=by
 obtain ⟨A,c',ds,rfl,h1,h2,h3,h4,h5⟩:=h
 refine ⟨A,c',ds,rfl,h1,h2,⟨h3.1,?_⟩,h4,h5⟩
 intro hn
 obtain ⟨ad,rfl,hlt,hc⟩:=h3.2 hn
 have hne:ad.block≠g:=by
  intro e
  have h0:=hc 0 _ (ys hn)
  unfold World.cell? at h0
  rw [zJ,e,show w.heap[g]?=_ from hb] at h0
  simp only at h0
  split at h0
  . cases h0
  . exact hno _ _ h0
 exact ⟨ad,rfl,by omega,fun j u hu=>(hk _ (by rw [zJ];exact hne)).trans (hc j u hu)⟩
theorem zE.stored {w w' :World} {g:Nat} {t:TypeId} {cs:Array Value} {v:Value} {z:Int} (h:zE w v z) (hb:Blk w g t cs) (hno:xE cs)
 (hk:∀ p:Addr,p.block≠g->w'.cell? p=w.cell? p) (hs:w.heap.size<=w'.heap.size):zE w' v z:=by
 rcases h with h | ⟨ad,k,c,n,ng,h1,h2,h3,h4⟩
 . exact .inl h
 . exact .inr ⟨ad,k,c,n,ng,h1,h2.stored hb hno hk hs,h3,h4⟩
abbrev World.num (w:World) (g:Nat) (x:Int) (A:Option Addr) (k c:Nat) (ng:Bool):World:=
 ((w.setCell ⟨g,0,none⟩ (.int .i64 x)).setCell ⟨g,1,none⟩ (.slice A k c)).setCell ⟨g,2,none⟩ (.bool ng)
theorem zt {W:World} {g:Nat} {t:TypeId} {x x0:Int} {A A0:Option Addr} {k c k0 c0:Nat} {ng n0:Bool} {v:Value} {z:Int} (hv:zE W v z) (hk:Blk W g t #[.int .i64 x0,.slice A0 k0 c0,.bool n0]):
 zE (World.num W g x A k c ng) v z:=by
 refine hv.stored hk (ZS _ _ _ _ _) ?_ (by simp [World.num,World.setCell])
 intro p hp
 simp only [World.num]
 rw [World.cell?_of_block (Below.heap_setCell _ _ _ _ (by exact hp)),World.cell?_of_block (Below.heap_setCell _ _ _ _ (by exact hp)),World.cell?_of_block (Below.heap_setCell _ _ _ _ (by exact hp))]
theorem zz {w W:World} {g:Nat} {x:Int} {A:Option Addr} {k c:Nat} {ng:Bool} (h:Below w.heap.size w W) (hg:w.heap.size<=g):Below w.heap.size w (World.num W g x A k c ng):=
 ((h.setCell hg _).setCell hg _).setCell hg _
theorem zQ {W:World} {g:Nat} {t:TypeId} {x x0:Int} {A A0:Option Addr} {k c k0 c0:Nat} {ng n0:Bool} (hk:Blk W g t #[.int .i64 x0,.slice A0 k0 c0,.bool n0]):
 Blk (World.num W g x A k c ng) g t #[.int .i64 x,.slice A k c,.bool ng]:=((hk.set_ 0 _).set_ 1 _).set_ 2 _
theorem yw (z:Int):signed (decide (z<0)) z.natAbs=z:=by
 unfold signed
 by_cases h:z<0
 . rw [decide_eq_true h,if_pos rfl];omega
 . rw [decide_eq_false h];simp only [Bool.false_eq_true,if_false];omega
theorem zi5 (x y:Int) (a b:Bool) (w:World) (h1: -4611686018427387904<x) (h2:x<4611686018427387904) (h3: -4611686018427387904<y) (h4:y<4611686018427387904) (hs1: -4611686018427387904<x+y) (hs2:x+y<4611686018427387904):
 Calls Tryz.prog 133 #[.agg #[.int .i64 x,.slice none 0 0,.bool a],.agg #[.int .i64 y,.slice none 0 0,.bool b]] w (vN w (x+y)):=by
 have q0:=fun w=>zfc w none 0 0 0 0
 have d1:decide ((x+y:Int)> -4611686018427387904)=true:=decide_eq_true hs1
 have d2:decide ((x+y:Int)<4611686018427387904)=true:=decide_eq_true hs2
 go_enter Tryz.func133,Tryz.ntmps133
 go_wp2
 refine bodyPost_ret (v:=.agg #[.int .i64 (x+y),.slice none 0 0,.bool false]) (by simp [results,Tryz.results133,go_sem]) rfl ?_
 exact ⟨_,rfl,.inl ⟨_,_,rfl,by omega,by omega,rfl⟩,ext (ext (zh _ _) (zh _ _)) (zh _ _)⟩
theorem yV (v:Value) (s:Bool) (n:Nat) (w:World) (h:zE w v (signed s n)) (h0:s=true->0<n):
 Calls Tryz.prog 149 #[v] w (fun e w' =>∃ p,e= .returned (.tuple #[.bool s,p])/\yf w' p n/\Below w.heap.size w w'):=by
 refine (xS v _ w h).mono ?_
 rintro e w' ⟨p,rfl,h1,h2⟩
 have e1:decide (signed s n<0)=s:=by
  cases s with
  | true=>exact decide_eq_true (by have:=h0 rfl;unfold signed;rw [if_pos rfl];omega)
  | false=>exact decide_eq_false (by unfold signed;simp only [Bool.false_eq_true,if_false];omega)
 have e2:(signed s n).natAbs=n:=by cases s<;>unfold signed<;>simp
 rw [e1]
 rw [e2] at h1
 exact ⟨p,rfl,h1,h2⟩
theorem X4 (s:Bool) (n m:Nat):signed s n+signed s m=signed s (n+m):=by cases s<;>unfold signed<;>simp<;>omega
theorem Xr {s t:Bool} {n m:Nat} (h:¬ s=t) (hle:m<=n):signed s n+signed t m=signed s (n - m):=by cases s<;>cases t<;>simp at h<;>unfold signed<;>simp<;>omega
theorem zd2 {s t:Bool} {n m:Nat} (h:¬ s=t) (hle:n<=m):signed s n+signed t m=signed t (m - n):=by cases s<;>cases t<;>simp at h<;>unfold signed<;>simp<;>omega
def zf2 (x y:Int) (A B:Option Addr):Prop:=A≠none\/(A=none/\B≠none)\/(A=none/\B=none/\4611686018427387904<=x+y)\/(A=none/\B=none/\x+y<= -4611686018427387904)
theorem zin (s t:Bool) (n m:Nat) (x y:Int) (A B:Option Addr) (k c k' c' :Nat) (a b:Bool) (w:World) (h1: -4611686018427387904<x) (h2:x<4611686018427387904) (h3: -4611686018427387904<y) (h4:y<4611686018427387904)
 (ha:zE w (.agg #[.int .i64 x,.slice A k c,.bool a]) (signed s n)) (hb:zE w (.agg #[.int .i64 y,.slice B k' c',.bool b]) (signed t m)) (hs:s=true->0<n) (ht:t=true->0<m)
 (hln:len 4294967296 n<=67108864) (hlm:len 4294967296 m<=67108864) (hsl:zf2 x y A B):
 Calls Tryz.prog 133 #[.agg #[.int .i64 x,.slice A k c,.bool a],.agg #[.int .i64 y,.slice B k' c',.bool b]] w (vN w (signed s n+signed t m)):=by
 have q1:=fun w=>zfc w A k c 0 0
 have q2:=fun w=>zfc w B k' c' 0 0
 have HLN:=ze hln
 have HLM:=ze hlm
 clear hln hlm
 rcases hsl with h | ⟨h,h'⟩ | ⟨h,h',h5⟩ | ⟨h,h',h5⟩
 . obtain ⟨ad,rfl⟩:=Option.ne_none_iff_exists'.1 h
   clear h
   go_enter Tryz.func133,Tryz.ntmps133
   go_wp2_with fail;have hW:=(ext (ext (zh w (.cells #[.int .i64 x,.slice (some ad) k c,.bool a] 91)) (zh _ (.cells #[.int .i64 y,.slice B k' c',.bool b] 91))) (zh _ (.cells #[.int .i64 0,.slice none 0 0,.bool false] 91)));have hA:=ha.below hW;have hB:=hb.below hW;have kB:=(Blk.new (w.alloc (.cells #[.int .i64 x,.slice (some ad) k c,.bool a] 91)) 91 #[.int .i64 y,.slice B k' c',.bool b]).alloc (.cells #[.int .i64 0,.slice none 0 0,.bool false] 91);have kC:=Blk.new ((w.alloc (.cells #[.int .i64 x,.slice (some ad) k c,.bool a] 91)).alloc (.cells #[.int .i64 y,.slice B k' c',.bool b] 91)) 91 #[.int .i64 0,.slice none 0 0,.bool false];simp only [World.size_alloc] at kB kC;generalize ((w.alloc (.cells #[.int .i64 x,.slice (some ad) k c,.bool a] 91)).alloc (.cells #[.int .i64 y,.slice B k' c',.bool b] 91)).alloc (.cells #[.int .i64 0,.slice none 0 0,.bool false] 91)=W at hA hB kB kC hW |-;refine (yV _ s n W hA hs).mono ?_;rintro e w1 ⟨p,rfl,hp,hb1⟩;have kB1:=kB.below hb1 kB.lt;have c0:=kB1.cell 0;have c1:=kB1.cell 1;have c2:=kB1.cell 2;simp at c0 c1 c2;go_wp2_with fail;refine (yV _ t m w1 (hB.below hb1) ht).mono ?_
   rintro e w2 ⟨p',rfl,hp',hb2⟩;have hp2:=hp.below hb2;have kC2:=(kC.below hb1 kC.lt).below hb2 (kC.below hb1 kC.lt).lt;have hW2:=ext (ext hW hb1) hb2;clear hb1 hb2 hW kC kB kB1 c0 c1 c2 hA hB hp
   by_cases hst:s=t
   . subst hst
     go_wp2_with fail;refine (XS p p' n m w2 hp2 hp' HLN.out HLM.out).mono ?_;rintro e w3 ⟨q,rfl,hq,hb3⟩;go_wp2_with fail;refine (zM s q (n+m) w3 hq).mono ?_;rintro e w4 ⟨v,rfl,hv,hb4⟩;obtain ⟨x',A',k2,c2',ng',rfl,_,_,_⟩:=hv.form;have kC4:=(kC2.below hb3 kC2.lt).below hb4 (kC2.below hb3 kC2.lt).lt;have hW4:=ext (ext hW2 hb3) hb4;have c0:=kC4.cell 0;have c1:=kC4.cell 1;have c2:=kC4.cell 2;have f0:=kC4.frozen 0;have f1:=kC4.frozen 1;have f2:=kC4.frozen 2;simp at c0 c1 c2;go_wp2;have kD:=zQ (x:=x') (A:=A') (k:=k2) (c:=c2') (ng:=ng') kC4;have d0:=kD.cell 0;have d1:=kD.cell 1;have d2:=kD.cell 2;simp at d0 d1 d2;refine bodyPost_ret (v:=.agg #[.int .i64 x',.slice A' k2 c2',.bool ng']) (by simp [results,Tryz.results133,go_sem,d0,d1,d2]) rfl ?_;exact ⟨_,rfl,zt (by rw [X4];exact hv) kC4,zz hW4 (by omega)⟩
   . have hst' :(s == t)=false:=beq_eq_false_iff_ne.2 hst
     go_wp2_with fail;refine (Ym p p' n m w2 hp2 hp' HLN.out HLM.out).mono ?_;rintro e w3 ⟨rfl,r,rfl⟩;have hp3:=hp2.below (ym w2 r);have hp4:=hp'.below (ym w2 r);have kC3:=kC2.drewN r;have hW3:=zr hW2 r;clear hp2 hp' kC2 hW2;generalize w2.drewN r=w2 at hp3 hp4 kC3 hW3 |-;have hp2:=hp3;have hp' :=hp4;have kC2:=kC3;have hW2:=hW3
     rcases Nat.lt_trichotomy n m with hlt | hlt | hlt
     . have hc:zN (n:Int) (m:Int)= -1:=by unfold zN;rw [if_pos (by omega)]
       rw [hc];clear hc;go_wp2_with fail;refine (vr p' p m n w2 hp' hp2 HLM.out (Nat.le_of_lt hlt)).mono ?_;rintro e w3 ⟨q,rfl,hq,hb3⟩;go_wp2_with fail;refine (zM t q (m - n) w3 hq).mono ?_;rintro e w4 ⟨v,rfl,hv,hb4⟩;obtain ⟨x',A',k2,c2',ng',rfl,_,_,_⟩:=hv.form;have kC4:=(kC2.below hb3 kC2.lt).below hb4 (kC2.below hb3 kC2.lt).lt;have hW4:=ext (ext hW2 hb3) hb4;have c0:=kC4.cell 0;have c1:=kC4.cell 1;have c2:=kC4.cell 2;have f0:=kC4.frozen 0;have f1:=kC4.frozen 1;have f2:=kC4.frozen 2;simp at c0 c1 c2;go_wp2;have kD:=zQ (x:=x') (A:=A') (k:=k2) (c:=c2') (ng:=ng') kC4;have d0:=kD.cell 0;have d1:=kD.cell 1;have d2:=kD.cell 2;simp at d0 d1 d2;refine bodyPost_ret (v:=.agg #[.int .i64 x',.slice A' k2 c2',.bool ng']) (by simp [results,Tryz.results133,go_sem,d0,d1,d2]) rfl ?_;exact ⟨_,rfl,zt (by rw [zd2 hst (Nat.le_of_lt hlt)];exact hv) kC4,zz hW4 (by omega)⟩
     . have hc:zN (n:Int) (m:Int)=0:=by unfold zN;rw [if_neg (by omega),if_neg (by omega)]
       rw [hc];clear hc;go_wp2_with fail;refine (vr p p' n m w2 hp2 hp' HLN.out (Nat.le_of_eq hlt.symm)).mono ?_;rintro e w3 ⟨q,rfl,hq,hb3⟩;go_wp2_with fail;refine (zM s q (n - m) w3 hq).mono ?_;rintro e w4 ⟨v,rfl,hv,hb4⟩;obtain ⟨x',A',k2,c2',ng',rfl,_,_,_⟩:=hv.form;have kC4:=(kC2.below hb3 kC2.lt).below hb4 (kC2.below hb3 kC2.lt).lt;have hW4:=ext (ext hW2 hb3) hb4;have c0:=kC4.cell 0;have c1:=kC4.cell 1;have c2:=kC4.cell 2;have f0:=kC4.frozen 0;have f1:=kC4.frozen 1;have f2:=kC4.frozen 2;simp at c0 c1 c2;go_wp2;have kD:=zQ (x:=x') (A:=A') (k:=k2) (c:=c2') (ng:=ng') kC4;have d0:=kD.cell 0;have d1:=kD.cell 1;have d2:=kD.cell 2;simp at d0 d1 d2;refine bodyPost_ret (v:=.agg #[.int .i64 x',.slice A' k2 c2',.bool ng']) (by simp [results,Tryz.results133,go_sem,d0,d1,d2]) rfl ?_;exact ⟨_,rfl,zt (by rw [Xr hst (Nat.le_of_eq hlt.symm)];exact hv) kC4,zz hW4 (by omega)⟩
     . have hc:zN (n:Int) (m:Int)=1:=by unfold zN;rw [if_neg (by omega),if_pos (by omega)]
       rw [hc];clear hc;go_wp2_with fail;refine (vr p p' n m w2 hp2 hp' HLN.out (Nat.le_of_lt hlt)).mono ?_;rintro e w3 ⟨q,rfl,hq,hb3⟩;go_wp2_with fail;refine (zM s q (n - m) w3 hq).mono ?_;rintro e w4 ⟨v,rfl,hv,hb4⟩;obtain ⟨x',A',k2,c2',ng',rfl,_,_,_⟩:=hv.form;have kC4:=(kC2.below hb3 kC2.lt).below hb4 (kC2.below hb3 kC2.lt).lt;have hW4:=ext (ext hW2 hb3) hb4;have c0:=kC4.cell 0;have c1:=kC4.cell 1;have c2:=kC4.cell 2;have f0:=kC4.frozen 0;have f1:=kC4.frozen 1;have f2:=kC4.frozen 2;simp at c0 c1 c2;go_wp2;have kD:=zQ (x:=x') (A:=A') (k:=k2) (c:=c2') (ng:=ng') kC4;have d0:=kD.cell 0;have d1:=kD.cell 1;have d2:=kD.cell 2;simp at d0 d1 d2;refine bodyPost_ret (v:=.agg #[.int .i64 x',.slice A' k2 c2',.bool ng']) (by simp [results,Tryz.results133,go_sem,d0,d1,d2]) rfl ?_;exact ⟨_,rfl,zt (by rw [Xr hst (Nat.le_of_lt hlt)];exact hv) kC4,zz hW4 (by omega)⟩
 . obtain ⟨bd,rfl⟩:=Option.ne_none_iff_exists'.1 h'
   subst h;clear h'
   go_enter Tryz.func133,Tryz.ntmps133
   go_wp2_with fail;have hW:=(ext (ext (zh w (.cells #[.int .i64 x,.slice none k c,.bool a] 91)) (zh _ (.cells #[.int .i64 y,.slice (some bd) k' c',.bool b] 91))) (zh _ (.cells #[.int .i64 0,.slice none 0 0,.bool false] 91)));have hA:=ha.below hW;have hB:=hb.below hW;have kB:=(Blk.new (w.alloc (.cells #[.int .i64 x,.slice none k c,.bool a] 91)) 91 #[.int .i64 y,.slice (some bd) k' c',.bool b]).alloc (.cells #[.int .i64 0,.slice none 0 0,.bool false] 91);have kC:=Blk.new ((w.alloc (.cells #[.int .i64 x,.slice none k c,.bool a] 91)).alloc (.cells #[.int .i64 y,.slice (some bd) k' c',.bool b] 91)) 91 #[.int .i64 0,.slice none 0 0,.bool false];simp only [World.size_alloc] at kB kC;generalize ((w.alloc (.cells #[.int .i64 x,.slice none k c,.bool a] 91)).alloc (.cells #[.int .i64 y,.slice (some bd) k' c',.bool b] 91)).alloc (.cells #[.int .i64 0,.slice none 0 0,.bool false] 91)=W at hA hB kB kC hW |-;refine (yV _ s n W hA hs).mono ?_;rintro e w1 ⟨p,rfl,hp,hb1⟩;have kB1:=kB.below hb1 kB.lt;have c0:=kB1.cell 0;have c1:=kB1.cell 1;have c2:=kB1.cell 2;simp at c0 c1 c2;go_wp2_with fail
   refine (yV _ t m w1 (hB.below hb1) ht).mono ?_;rintro e w2 ⟨p',rfl,hp',hb2⟩;have hp2:=hp.below hb2;have kC2:=(kC.below hb1 kC.lt).below hb2 (kC.below hb1 kC.lt).lt;have hW2:=ext (ext hW hb1) hb2;clear hb1 hb2 hW kC kB kB1 c0 c1 c2 hA hB hp
   by_cases hst:s=t
   . subst hst
     go_wp2_with fail;refine (XS p p' n m w2 hp2 hp' HLN.out HLM.out).mono ?_;rintro e w3 ⟨q,rfl,hq,hb3⟩;go_wp2_with fail;refine (zM s q (n+m) w3 hq).mono ?_;rintro e w4 ⟨v,rfl,hv,hb4⟩;obtain ⟨x',A',k2,c2',ng',rfl,_,_,_⟩:=hv.form;have kC4:=(kC2.below hb3 kC2.lt).below hb4 (kC2.below hb3 kC2.lt).lt;have hW4:=ext (ext hW2 hb3) hb4;have c0:=kC4.cell 0;have c1:=kC4.cell 1;have c2:=kC4.cell 2;have f0:=kC4.frozen 0;have f1:=kC4.frozen 1;have f2:=kC4.frozen 2;simp at c0 c1 c2;go_wp2;have kD:=zQ (x:=x') (A:=A') (k:=k2) (c:=c2') (ng:=ng') kC4;have d0:=kD.cell 0;have d1:=kD.cell 1;have d2:=kD.cell 2;simp at d0 d1 d2;refine bodyPost_ret (v:=.agg #[.int .i64 x',.slice A' k2 c2',.bool ng']) (by simp [results,Tryz.results133,go_sem,d0,d1,d2]) rfl ?_;exact ⟨_,rfl,zt (by rw [X4];exact hv) kC4,zz hW4 (by omega)⟩
   . have hst' :(s == t)=false:=beq_eq_false_iff_ne.2 hst
     go_wp2_with fail;refine (Ym p p' n m w2 hp2 hp' HLN.out HLM.out).mono ?_;rintro e w3 ⟨rfl,r,rfl⟩;have hp3:=hp2.below (ym w2 r);have hp4:=hp'.below (ym w2 r);have kC3:=kC2.drewN r;have hW3:=zr hW2 r;clear hp2 hp' kC2 hW2;generalize w2.drewN r=w2 at hp3 hp4 kC3 hW3 |-;have hp2:=hp3;have hp' :=hp4;have kC2:=kC3;have hW2:=hW3
     rcases Nat.lt_trichotomy n m with hlt | hlt | hlt
     . have hc:zN (n:Int) (m:Int)= -1:=by unfold zN;rw [if_pos (by omega)]
       rw [hc];clear hc;go_wp2_with fail;refine (vr p' p m n w2 hp' hp2 HLM.out (Nat.le_of_lt hlt)).mono ?_;rintro e w3 ⟨q,rfl,hq,hb3⟩;go_wp2_with fail;refine (zM t q (m - n) w3 hq).mono ?_;rintro e w4 ⟨v,rfl,hv,hb4⟩;obtain ⟨x',A',k2,c2',ng',rfl,_,_,_⟩:=hv.form;have kC4:=(kC2.below hb3 kC2.lt).below hb4 (kC2.below hb3 kC2.lt).lt;have hW4:=ext (ext hW2 hb3) hb4;have c0:=kC4.cell 0;have c1:=kC4.cell 1;have c2:=kC4.cell 2;have f0:=kC4.frozen 0;have f1:=kC4.frozen 1;have f2:=kC4.frozen 2;simp at c0 c1 c2;go_wp2;have kD:=zQ (x:=x') (A:=A') (k:=k2) (c:=c2') (ng:=ng') kC4;have d0:=kD.cell 0;have d1:=kD.cell 1;have d2:=kD.cell 2;simp at d0 d1 d2;refine bodyPost_ret (v:=.agg #[.int .i64 x',.slice A' k2 c2',.bool ng']) (by simp [results,Tryz.results133,go_sem,d0,d1,d2]) rfl ?_;exact ⟨_,rfl,zt (by rw [zd2 hst (Nat.le_of_lt hlt)];exact hv) kC4,zz hW4 (by omega)⟩
     . have hc:zN (n:Int) (m:Int)=0:=by unfold zN;rw [if_neg (by omega),if_neg (by omega)]
       rw [hc];clear hc;go_wp2_with fail;refine (vr p p' n m w2 hp2 hp' HLN.out (Nat.le_of_eq hlt.symm)).mono ?_;rintro e w3 ⟨q,rfl,hq,hb3⟩;go_wp2_with fail;refine (zM s q (n - m) w3 hq).mono ?_;rintro e w4 ⟨v,rfl,hv,hb4⟩;obtain ⟨x',A',k2,c2',ng',rfl,_,_,_⟩:=hv.form;have kC4:=(kC2.below hb3 kC2.lt).below hb4 (kC2.below hb3 kC2.lt).lt;have hW4:=ext (ext hW2 hb3) hb4;have c0:=kC4.cell 0;have c1:=kC4.cell 1;have c2:=kC4.cell 2;have f0:=kC4.frozen 0;have f1:=kC4.frozen 1;have f2:=kC4.frozen 2;simp at c0 c1 c2;go_wp2;have kD:=zQ (x:=x') (A:=A') (k:=k2) (c:=c2') (ng:=ng') kC4;have d0:=kD.cell 0;have d1:=kD.cell 1;have d2:=kD.cell 2;simp at d0 d1 d2;refine bodyPost_ret (v:=.agg #[.int .i64 x',.slice A' k2 c2',.bool ng']) (by simp [results,Tryz.results133,go_sem,d0,d1,d2]) rfl ?_;exact ⟨_,rfl,zt (by rw [Xr hst (Nat.le_of_eq hlt.symm)];exact hv) kC4,zz hW4 (by omega)⟩
     . have hc:zN (n:Int) (m:Int)=1:=by unfold zN;rw [if_neg (by omega),if_pos (by omega)]
       rw [hc];clear hc;go_wp2_with fail;refine (vr p p' n m w2 hp2 hp' HLN.out (Nat.le_of_lt hlt)).mono ?_;rintro e w3 ⟨q,rfl,hq,hb3⟩;go_wp2_with fail;refine (zM s q (n - m) w3 hq).mono ?_;rintro e w4 ⟨v,rfl,hv,hb4⟩;obtain ⟨x',A',k2,c2',ng',rfl,_,_,_⟩:=hv.form;have kC4:=(kC2.below hb3 kC2.lt).below hb4 (kC2.below hb3 kC2.lt).lt;have hW4:=ext (ext hW2 hb3) hb4;have c0:=kC4.cell 0;have c1:=kC4.cell 1;have c2:=kC4.cell 2;have f0:=kC4.frozen 0;have f1:=kC4.frozen 1;have f2:=kC4.frozen 2;simp at c0 c1 c2;go_wp2;have kD:=zQ (x:=x') (A:=A') (k:=k2) (c:=c2') (ng:=ng') kC4;have d0:=kD.cell 0;have d1:=kD.cell 1;have d2:=kD.cell 2;simp at d0 d1 d2;refine bodyPost_ret (v:=.agg #[.int .i64 x',.slice A' k2 c2',.bool ng']) (by simp [results,Tryz.results133,go_sem,d0,d1,d2]) rfl ?_;exact ⟨_,rfl,zt (by rw [Xr hst (Nat.le_of_lt hlt)];exact hv) kC4,zz hW4 (by omega)⟩
 . subst h h'
   have d1:decide ((x+y:Int)> -4611686018427387904)=true:=decide_eq_true (by omega);have d2:decide ((x+y:Int)<4611686018427387904)=false:=decide_eq_false (by omega);clear h5
   go_enter Tryz.func133,Tryz.ntmps133
   go_wp2_with fail;have hW:=(ext (ext (zh w (.cells #[.int .i64 x,.slice none k c,.bool a] 91)) (zh _ (.cells #[.int .i64 y,.slice none k' c',.bool b] 91))) (zh _ (.cells #[.int .i64 0,.slice none 0 0,.bool false] 91)));have hA:=ha.below hW;have hB:=hb.below hW;have kB:=(Blk.new (w.alloc (.cells #[.int .i64 x,.slice none k c,.bool a] 91)) 91 #[.int .i64 y,.slice none k' c',.bool b]).alloc (.cells #[.int .i64 0,.slice none 0 0,.bool false] 91);have kC:=Blk.new ((w.alloc (.cells #[.int .i64 x,.slice none k c,.bool a] 91)).alloc (.cells #[.int .i64 y,.slice none k' c',.bool b] 91)) 91 #[.int .i64 0,.slice none 0 0,.bool false];simp only [World.size_alloc] at kB kC;generalize ((w.alloc (.cells #[.int .i64 x,.slice none k c,.bool a] 91)).alloc (.cells #[.int .i64 y,.slice none k' c',.bool b] 91)).alloc (.cells #[.int .i64 0,.slice none 0 0,.bool false] 91)=W at hA hB kB kC hW |-;refine (yV _ s n W hA hs).mono ?_;rintro e w1 ⟨p,rfl,hp,hb1⟩;have kB1:=kB.below hb1 kB.lt;have c0:=kB1.cell 0;have c1:=kB1.cell 1;have c2:=kB1.cell 2;simp at c0 c1 c2;go_wp2_with fail;refine (yV _ t m w1 (hB.below hb1) ht).mono ?_
   rintro e w2 ⟨p',rfl,hp',hb2⟩;have hp2:=hp.below hb2;have kC2:=(kC.below hb1 kC.lt).below hb2 (kC.below hb1 kC.lt).lt;have hW2:=ext (ext hW hb1) hb2;clear hb1 hb2 hW kC kB kB1 c0 c1 c2 hA hB hp
   by_cases hst:s=t
   . subst hst
     go_wp2_with fail;refine (XS p p' n m w2 hp2 hp' HLN.out HLM.out).mono ?_;rintro e w3 ⟨q,rfl,hq,hb3⟩;go_wp2_with fail;refine (zM s q (n+m) w3 hq).mono ?_;rintro e w4 ⟨v,rfl,hv,hb4⟩;obtain ⟨x',A',k2,c2',ng',rfl,_,_,_⟩:=hv.form;have kC4:=(kC2.below hb3 kC2.lt).below hb4 (kC2.below hb3 kC2.lt).lt;have hW4:=ext (ext hW2 hb3) hb4;have c0:=kC4.cell 0;have c1:=kC4.cell 1;have c2:=kC4.cell 2;have f0:=kC4.frozen 0;have f1:=kC4.frozen 1;have f2:=kC4.frozen 2;simp at c0 c1 c2;go_wp2;have kD:=zQ (x:=x') (A:=A') (k:=k2) (c:=c2') (ng:=ng') kC4;have d0:=kD.cell 0;have d1:=kD.cell 1;have d2:=kD.cell 2;simp at d0 d1 d2;refine bodyPost_ret (v:=.agg #[.int .i64 x',.slice A' k2 c2',.bool ng']) (by simp [results,Tryz.results133,go_sem,d0,d1,d2]) rfl ?_;exact ⟨_,rfl,zt (by rw [X4];exact hv) kC4,zz hW4 (by omega)⟩
   . have hst' :(s == t)=false:=beq_eq_false_iff_ne.2 hst
     go_wp2_with fail;refine (Ym p p' n m w2 hp2 hp' HLN.out HLM.out).mono ?_;rintro e w3 ⟨rfl,r,rfl⟩;have hp3:=hp2.below (ym w2 r);have hp4:=hp'.below (ym w2 r);have kC3:=kC2.drewN r;have hW3:=zr hW2 r;clear hp2 hp' kC2 hW2;generalize w2.drewN r=w2 at hp3 hp4 kC3 hW3 |-;have hp2:=hp3;have hp' :=hp4;have kC2:=kC3;have hW2:=hW3
     rcases Nat.lt_trichotomy n m with hlt | hlt | hlt
     . have hc:zN (n:Int) (m:Int)= -1:=by unfold zN;rw [if_pos (by omega)]
       rw [hc];clear hc;go_wp2_with fail;refine (vr p' p m n w2 hp' hp2 HLM.out (Nat.le_of_lt hlt)).mono ?_;rintro e w3 ⟨q,rfl,hq,hb3⟩;go_wp2_with fail;refine (zM t q (m - n) w3 hq).mono ?_;rintro e w4 ⟨v,rfl,hv,hb4⟩;obtain ⟨x',A',k2,c2',ng',rfl,_,_,_⟩:=hv.form;have kC4:=(kC2.below hb3 kC2.lt).below hb4 (kC2.below hb3 kC2.lt).lt;have hW4:=ext (ext hW2 hb3) hb4;have c0:=kC4.cell 0;have c1:=kC4.cell 1;have c2:=kC4.cell 2;have f0:=kC4.frozen 0;have f1:=kC4.frozen 1;have f2:=kC4.frozen 2;simp at c0 c1 c2;go_wp2;have kD:=zQ (x:=x') (A:=A') (k:=k2) (c:=c2') (ng:=ng') kC4;have d0:=kD.cell 0;have d1:=kD.cell 1;have d2:=kD.cell 2;simp at d0 d1 d2;refine bodyPost_ret (v:=.agg #[.int .i64 x',.slice A' k2 c2',.bool ng']) (by simp [results,Tryz.results133,go_sem,d0,d1,d2]) rfl ?_;exact ⟨_,rfl,zt (by rw [zd2 hst (Nat.le_of_lt hlt)];exact hv) kC4,zz hW4 (by omega)⟩
     . have hc:zN (n:Int) (m:Int)=0:=by unfold zN;rw [if_neg (by omega),if_neg (by omega)]
       rw [hc];clear hc;go_wp2_with fail;refine (vr p p' n m w2 hp2 hp' HLN.out (Nat.le_of_eq hlt.symm)).mono ?_;rintro e w3 ⟨q,rfl,hq,hb3⟩;go_wp2_with fail;refine (zM s q (n - m) w3 hq).mono ?_;rintro e w4 ⟨v,rfl,hv,hb4⟩;obtain ⟨x',A',k2,c2',ng',rfl,_,_,_⟩:=hv.form;have kC4:=(kC2.below hb3 kC2.lt).below hb4 (kC2.below hb3 kC2.lt).lt;have hW4:=ext (ext hW2 hb3) hb4;have c0:=kC4.cell 0;have c1:=kC4.cell 1;have c2:=kC4.cell 2;have f0:=kC4.frozen 0;have f1:=kC4.frozen 1;have f2:=kC4.frozen 2;simp at c0 c1 c2;go_wp2;have kD:=zQ (x:=x') (A:=A') (k:=k2) (c:=c2') (ng:=ng') kC4;have d0:=kD.cell 0;have d1:=kD.cell 1;have d2:=kD.cell 2;simp at d0 d1 d2;refine bodyPost_ret (v:=.agg #[.int .i64 x',.slice A' k2 c2',.bool ng']) (by simp [results,Tryz.results133,go_sem,d0,d1,d2]) rfl ?_;exact ⟨_,rfl,zt (by rw [Xr hst (Nat.le_of_eq hlt.symm)];exact hv) kC4,zz hW4 (by omega)⟩
     . have hc:zN (n:Int) (m:Int)=1:=by unfold zN;rw [if_neg (by omega),if_pos (by omega)]
       rw [hc];clear hc;go_wp2_with fail;refine (vr p p' n m w2 hp2 hp' HLN.out (Nat.le_of_lt hlt)).mono ?_;rintro e w3 ⟨q,rfl,hq,hb3⟩;go_wp2_with fail;refine (zM s q (n - m) w3 hq).mono ?_;rintro e w4 ⟨v,rfl,hv,hb4⟩;obtain ⟨x',A',k2,c2',ng',rfl,_,_,_⟩:=hv.form;have kC4:=(kC2.below hb3 kC2.lt).below hb4 (kC2.below hb3 kC2.lt).lt;have hW4:=ext (ext hW2 hb3) hb4;have c0:=kC4.cell 0;have c1:=kC4.cell 1;have c2:=kC4.cell 2;have f0:=kC4.frozen 0;have f1:=kC4.frozen 1;have f2:=kC4.frozen 2;simp at c0 c1 c2;go_wp2;have kD:=zQ (x:=x') (A:=A') (k:=k2) (c:=c2') (ng:=ng') kC4;have d0:=kD.cell 0;have d1:=kD.cell 1;have d2:=kD.cell 2;simp at d0 d1 d2;refine bodyPost_ret (v:=.agg #[.int .i64 x',.slice A' k2 c2',.bool ng']) (by simp [results,Tryz.results133,go_sem,d0,d1,d2]) rfl ?_;exact ⟨_,rfl,zt (by rw [Xr hst (Nat.le_of_lt hlt)];exact hv) kC4,zz hW4 (by omega)⟩
 . subst h h'
   have d1:decide ((x+y:Int)> -4611686018427387904)=false:=decide_eq_false (by omega);clear h5
   go_enter Tryz.func133,Tryz.ntmps133
   go_wp2_with fail;have hW:=(ext (ext (zh w (.cells #[.int .i64 x,.slice none k c,.bool a] 91)) (zh _ (.cells #[.int .i64 y,.slice none k' c',.bool b] 91))) (zh _ (.cells #[.int .i64 0,.slice none 0 0,.bool false] 91)));have hA:=ha.below hW;have hB:=hb.below hW;have kB:=(Blk.new (w.alloc (.cells #[.int .i64 x,.slice none k c,.bool a] 91)) 91 #[.int .i64 y,.slice none k' c',.bool b]).alloc (.cells #[.int .i64 0,.slice none 0 0,.bool false] 91);have kC:=Blk.new ((w.alloc (.cells #[.int .i64 x,.slice none k c,.bool a] 91)).alloc (.cells #[.int .i64 y,.slice none k' c',.bool b] 91)) 91 #[.int .i64 0,.slice none 0 0,.bool false];simp only [World.size_alloc] at kB kC;generalize ((w.alloc (.cells #[.int .i64 x,.slice none k c,.bool a] 91)).alloc (.cells #[.int .i64 y,.slice none k' c',.bool b] 91)).alloc (.cells #[.int .i64 0,.slice none 0 0,.bool false] 91)=W at hA hB kB kC hW |-;refine (yV _ s n W hA hs).mono ?_;rintro e w1 ⟨p,rfl,hp,hb1⟩;have kB1:=kB.below hb1 kB.lt;have c0:=kB1.cell 0;have c1:=kB1.cell 1;have c2:=kB1.cell 2;simp at c0 c1 c2;go_wp2_with fail;refine (yV _ t m w1 (hB.below hb1) ht).mono ?_
   rintro e w2 ⟨p',rfl,hp',hb2⟩;have hp2:=hp.below hb2;have kC2:=(kC.below hb1 kC.lt).below hb2 (kC.below hb1 kC.lt).lt;have hW2:=ext (ext hW hb1) hb2;clear hb1 hb2 hW kC kB kB1 c0 c1 c2 hA hB hp
   by_cases hst:s=t
   . subst hst
     go_wp2_with fail;refine (XS p p' n m w2 hp2 hp' HLN.out HLM.out).mono ?_;rintro e w3 ⟨q,rfl,hq,hb3⟩;go_wp2_with fail;refine (zM s q (n+m) w3 hq).mono ?_;rintro e w4 ⟨v,rfl,hv,hb4⟩;obtain ⟨x',A',k2,c2',ng',rfl,_,_,_⟩:=hv.form;have kC4:=(kC2.below hb3 kC2.lt).below hb4 (kC2.below hb3 kC2.lt).lt;have hW4:=ext (ext hW2 hb3) hb4;have c0:=kC4.cell 0;have c1:=kC4.cell 1;have c2:=kC4.cell 2;have f0:=kC4.frozen 0;have f1:=kC4.frozen 1;have f2:=kC4.frozen 2;simp at c0 c1 c2;go_wp2;have kD:=zQ (x:=x') (A:=A') (k:=k2) (c:=c2') (ng:=ng') kC4;have d0:=kD.cell 0;have d1:=kD.cell 1;have d2:=kD.cell 2;simp at d0 d1 d2;refine bodyPost_ret (v:=.agg #[.int .i64 x',.slice A' k2 c2',.bool ng']) (by simp [results,Tryz.results133,go_sem,d0,d1,d2]) rfl ?_;exact ⟨_,rfl,zt (by rw [X4];exact hv) kC4,zz hW4 (by omega)⟩
   . have hst' :(s == t)=false:=beq_eq_false_iff_ne.2 hst
     go_wp2_with fail;refine (Ym p p' n m w2 hp2 hp' HLN.out HLM.out).mono ?_;rintro e w3 ⟨rfl,r,rfl⟩;have hp3:=hp2.below (ym w2 r);have hp4:=hp'.below (ym w2 r);have kC3:=kC2.drewN r;have hW3:=zr hW2 r;clear hp2 hp' kC2 hW2;generalize w2.drewN r=w2 at hp3 hp4 kC3 hW3 |-;have hp2:=hp3;have hp' :=hp4;have kC2:=kC3;have hW2:=hW3
     rcases Nat.lt_trichotomy n m with hlt | hlt | hlt
     . have hc:zN (n:Int) (m:Int)= -1:=by unfold zN;rw [if_pos (by omega)]
       rw [hc];clear hc;go_wp2_with fail;refine (vr p' p m n w2 hp' hp2 HLM.out (Nat.le_of_lt hlt)).mono ?_;rintro e w3 ⟨q,rfl,hq,hb3⟩;go_wp2_with fail;refine (zM t q (m - n) w3 hq).mono ?_;rintro e w4 ⟨v,rfl,hv,hb4⟩;obtain ⟨x',A',k2,c2',ng',rfl,_,_,_⟩:=hv.form;have kC4:=(kC2.below hb3 kC2.lt).below hb4 (kC2.below hb3 kC2.lt).lt;have hW4:=ext (ext hW2 hb3) hb4;have c0:=kC4.cell 0;have c1:=kC4.cell 1;have c2:=kC4.cell 2;have f0:=kC4.frozen 0;have f1:=kC4.frozen 1;have f2:=kC4.frozen 2;simp at c0 c1 c2;go_wp2;have kD:=zQ (x:=x') (A:=A') (k:=k2) (c:=c2') (ng:=ng') kC4;have d0:=kD.cell 0;have d1:=kD.cell 1;have d2:=kD.cell 2;simp at d0 d1 d2;refine bodyPost_ret (v:=.agg #[.int .i64 x',.slice A' k2 c2',.bool ng']) (by simp [results,Tryz.results133,go_sem,d0,d1,d2]) rfl ?_;exact ⟨_,rfl,zt (by rw [zd2 hst (Nat.le_of_lt hlt)];exact hv) kC4,zz hW4 (by omega)⟩
     . have hc:zN (n:Int) (m:Int)=0:=by unfold zN;rw [if_neg (by omega),if_neg (by omega)]
       rw [hc];clear hc;go_wp2_with fail;refine (vr p p' n m w2 hp2 hp' HLN.out (Nat.le_of_eq hlt.symm)).mono ?_;rintro e w3 ⟨q,rfl,hq,hb3⟩;go_wp2_with fail;refine (zM s q (n - m) w3 hq).mono ?_;rintro e w4 ⟨v,rfl,hv,hb4⟩;obtain ⟨x',A',k2,c2',ng',rfl,_,_,_⟩:=hv.form;have kC4:=(kC2.below hb3 kC2.lt).below hb4 (kC2.below hb3 kC2.lt).lt;have hW4:=ext (ext hW2 hb3) hb4;have c0:=kC4.cell 0;have c1:=kC4.cell 1;have c2:=kC4.cell 2;have f0:=kC4.frozen 0;have f1:=kC4.frozen 1;have f2:=kC4.frozen 2;simp at c0 c1 c2;go_wp2;have kD:=zQ (x:=x') (A:=A') (k:=k2) (c:=c2') (ng:=ng') kC4;have d0:=kD.cell 0;have d1:=kD.cell 1;have d2:=kD.cell 2;simp at d0 d1 d2;refine bodyPost_ret (v:=.agg #[.int .i64 x',.slice A' k2 c2',.bool ng']) (by simp [results,Tryz.results133,go_sem,d0,d1,d2]) rfl ?_;exact ⟨_,rfl,zt (by rw [Xr hst (Nat.le_of_eq hlt.symm)];exact hv) kC4,zz hW4 (by omega)⟩
     . have hc:zN (n:Int) (m:Int)=1:=by unfold zN;rw [if_neg (by omega),if_pos (by omega)]
       rw [hc];clear hc;go_wp2_with fail;refine (vr p p' n m w2 hp2 hp' HLN.out (Nat.le_of_lt hlt)).mono ?_;rintro e w3 ⟨q,rfl,hq,hb3⟩;go_wp2_with fail;refine (zM s q (n - m) w3 hq).mono ?_;rintro e w4 ⟨v,rfl,hv,hb4⟩;obtain ⟨x',A',k2,c2',ng',rfl,_,_,_⟩:=hv.form;have kC4:=(kC2.below hb3 kC2.lt).below hb4 (kC2.below hb3 kC2.lt).lt;have hW4:=ext (ext hW2 hb3) hb4;have c0:=kC4.cell 0;have c1:=kC4.cell 1;have c2:=kC4.cell 2;have f0:=kC4.frozen 0;have f1:=kC4.frozen 1;have f2:=kC4.frozen 2;simp at c0 c1 c2;go_wp2;have kD:=zQ (x:=x') (A:=A') (k:=k2) (c:=c2') (ng:=ng') kC4;have d0:=kD.cell 0;have d1:=kD.cell 1;have d2:=kD.cell 2;simp at d0 d1 d2;refine bodyPost_ret (v:=.agg #[.int .i64 x',.slice A' k2 c2',.bool ng']) (by simp [results,Tryz.results133,go_sem,d0,d1,d2]) rfl ?_;exact ⟨_,rfl,zt (by rw [Xr hst (Nat.le_of_lt hlt)];exact hv) kC4,zz hW4 (by omega)⟩
theorem vK {z:Int}:decide (z<0)=true->0<z.natAbs:=by
 intro h
 have:=of_decide_eq_true h
 omega
theorem VU (va vb:Value) (z y:Int) (w:World) (ha:zE w va z) (hb:zE w vb y) (hla:len 4294967296 z.natAbs<=67108864) (hlb:len 4294967296 y.natAbs<=67108864):
 Calls Tryz.prog 133 #[va,vb] w (vN w (z+y)):=by
 have ha' :=ha
 have hb' :=hb
 obtain ⟨x1,A,k,c,s,rfl,h1,h2,hA⟩:=ha.form
 obtain ⟨y1,B,k',c',t,rfl,h3,h4,hB⟩:=hb.form
 by_cases hf:A=none/\B=none/\ -4611686018427387904<x1+y1/\x1+y1<4611686018427387904
 . obtain ⟨e1,e2,h5,h6⟩:=hf
   obtain ⟨rfl,rfl,rfl⟩:=hA e1;obtain ⟨rfl,rfl,rfl⟩:=hB e2;subst e1 e2;exact zi5 z y s t w h1 h2 h3 h4 h5 h6
 . have:=zin (decide (z<0)) (decide (y<0)) z.natAbs y.natAbs x1 y1 A B k c k' c' s t w h1 h2 h3 h4 (by rw [yw];exact ha') (by rw [yw];exact hb') vK vK hla hlb (by
    unfold zf2
    by_cases e1:A=none
    . by_cases e2:B=none
      . have:¬ (-4611686018427387904<x1+y1/\x1+y1<4611686018427387904):=fun h=>hf ⟨e1,e2,h⟩
        rcases (show -4611686018427387904<x1+y1\/x1+y1<= -4611686018427387904 by omega) with h | h
        . exact .inr (.inr (.inl ⟨e1,e2,by omega⟩))
        . exact .inr (.inr (.inr ⟨e1,e2,by omega⟩))
      . exact .inr (.inl ⟨e1,e2⟩)
    . exact .inl e1)
   rwa [yw,yw] at this
theorem Zn (s t:Bool) (n m:Nat):signed s n*signed t m=signed (s != t) (n*m):=by
 cases s<;>cases t<;>unfold signed<;>simp [Int.neg_mul,Int.mul_neg,Int.natCast_mul]
theorem xZ {w w' :World} {g:Nat} {t:TypeId} {cs:Array Value} (hb:Below w.heap.size w w') (h:Hid (Blk w g t cs)):Hid (Blk w' g t cs):=h.out.below hb h.out.lt
theorem ziu (x y:Int) (a b:Bool) (P:Nat) (w:World) (h1: -4611686018427387904<x) (h2:x<4611686018427387904) (h3: -4611686018427387904<y) (h4:y<4611686018427387904) (hP:P=x.natAbs*y.natAbs) (hP2:P<4611686018427387904):
 Calls Tryz.prog 130 #[.agg #[.int .i64 x,.slice none 0 0,.bool a],.agg #[.int .i64 y,.slice none 0 0,.bool b]] w (vN w (x*y)):=by
 have q0:=fun w=>zfc w none 0 0 0 0
 have hx:=fun w=>ZT x (.slice none 0 0) a w h1 h2
 have hy:=fun w=>ZT y (.slice none 0 0) b w h3 h4
 have hm:=fun w=>zao x.natAbs y.natAbs (by omega) (by omega) w
 rw [<- hP,Nat.div_eq_of_lt (by omega),Nat.mod_eq_of_lt (by omega)] at hm
 have hz:x*y=signed (decide (x<0) != decide (y<0)) P:=by rw [hP, <- Zn,yw,yw]
 rw [hz]
 clear hz hP h1 h2 h3 h4
 have hPI:decide ((P:Int)<4611686018427387904)=true:=decide_eq_true (by omega)
 have HP2:=ze hP2
 have hPJ:(P:Int)<4611686018427387904:=by omega
 clear hP2
 have hn0:=Int.natCast_nonneg P
 rcases (show x<0\/¬ x<0 by omega) with hX | hX
 . rcases (show y<0\/¬ y<0 by omega) with hY | hY
   . have hsg:(decide (x<0) != decide (y<0))=false:=by rw [decide_eq_true hX,decide_eq_true hY];rfl
     rw [hsg];clear hsg;have hXD:decide (x<0)=true:=decide_eq_true hX;have hYD:decide (y<0)=true:=decide_eq_true hY;have hW:=(ext (ext (zh w (.cells #[.int .i64 x,.slice none 0 0,.bool a] 91)) (zh _ (.cells #[.int .i64 y,.slice none 0 0,.bool b] 91))) (zh _ (.cells #[.int .i64 0,.slice none 0 0,.bool false] 91)));have kB:=(Blk.new (w.alloc (.cells #[.int .i64 x,.slice none 0 0,.bool a] 91)) 91 #[.int .i64 y,.slice none 0 0,.bool b]).alloc (.cells #[.int .i64 0,.slice none 0 0,.bool false] 91);have kC:=Blk.new ((w.alloc (.cells #[.int .i64 x,.slice none 0 0,.bool a] 91)).alloc (.cells #[.int .i64 y,.slice none 0 0,.bool b] 91)) 91 #[.int .i64 0,.slice none 0 0,.bool false];simp only [World.size_alloc] at kB kC
     go_enter Tryz.func130,Tryz.ntmps130
     go_wp2_with fail
     go_region_held3 (fun w' =>w'.cell? ⟨w.heap.size,0,none⟩=some (.int .i64 x)/\w'.cell? ⟨w.heap.size,1,none⟩=some (.slice none 0 0)/\w'.cell? ⟨w.heap.size,2,none⟩=some (.bool a)/\
      w'.cell? ⟨w.heap.size+1,0,none⟩=some (.int .i64 y)/\w'.cell? ⟨w.heap.size+1,1,none⟩=some (.slice none 0 0)/\w'.cell? ⟨w.heap.size+1,2,none⟩=some (.bool b)/\
      w.heap.size<w'.heap.size/\w.heap.size+1<w'.heap.size/\Hid (Blk w' (w.heap.size+1) 91 #[.int .i64 y,.slice none 0 0,.bool b])/\Hid (Blk w' (w.heap.size+1+1) 91 #[.int .i64 0,.slice none 0 0,.bool false])/\Hid (Below w.heap.size w w'))
      (first
        | exact ⟨by go_keep,by go_keep,by go_keep,by go_keep,by go_keep,by go_keep,by simp;omega,by simp,ze (kB.drewN 1),ze (kC.drewN 1),ze (zr hW 1)⟩
        | go_keep
        | (go_split_ands;exact ⟨zi ‹_› ‹_› ‹_›,zi ‹_› ‹_› ‹_›,zi ‹_› ‹_› ‹_›,zi ‹_› ‹_› ‹_›,zi ‹_› ‹_› ‹_›,zi ‹_› ‹_› ‹_›,zU ‹_› ‹_›,zU ‹_› ‹_›,xZ ‹_› ‹_›,xZ ‹_› ‹_›,zp ‹_› ‹_›⟩))
      (first
        | (go_at_call_of 175 (Value.agg #[Value.int .i64 x,.slice none 0 0,.bool a]);refine (hx _).mono ?_;rintro e w1 ⟨rfl,hb1⟩)
        | (go_at_call_of 175 (Value.agg #[Value.int .i64 y,.slice none 0 0,.bool b]);refine (hy _).mono ?_;rintro e w1 ⟨rfl,hb1⟩)
        | (go_at_call 179;refine (hm _).mono ?_;rintro e w1 ⟨rfl,rfl⟩))
     go_split_ands;have kC4:=zS (by assumption:Hid (Blk _ (w.heap.size+1+1) _ _));have c0:=kC4.cell 0;have c1:=kC4.cell 1;have c2:=kC4.cell 2;have f0:=kC4.frozen 0;have f1:=kC4.frozen 1;have f2:=kC4.frozen 2;simp at c0 c1 c2;go_wp2;have kD:=zQ (x:=P) (A:=none) (k:=0) (c:=0) (ng:=false) kC4;have d0:=kD.cell 0;have d1:=kD.cell 1;have d2:=kD.cell 2;simp at d0 d1 d2;refine bodyPost_ret (v:=.agg #[.int .i64 (P),.slice none 0 0,.bool false]) (by simp [results,Tryz.results130,go_sem,d0,d1,d2]) rfl ?_;exact ⟨_,rfl,.inl ⟨_,_,rfl,by have:=HP2.out;omega,by have:=HP2.out;omega,rfl⟩,zz (zS ‹_›) (by omega)⟩
   . have hsg:(decide (x<0) != decide (y<0))=true:=by rw [decide_eq_true hX,decide_eq_false hY];rfl
     rw [hsg];clear hsg;have hXD:decide (x<0)=true:=decide_eq_true hX;have hYD:decide (y<0)=false:=decide_eq_false hY;have hW:=(ext (ext (zh w (.cells #[.int .i64 x,.slice none 0 0,.bool a] 91)) (zh _ (.cells #[.int .i64 y,.slice none 0 0,.bool b] 91))) (zh _ (.cells #[.int .i64 0,.slice none 0 0,.bool false] 91)));have kB:=(Blk.new (w.alloc (.cells #[.int .i64 x,.slice none 0 0,.bool a] 91)) 91 #[.int .i64 y,.slice none 0 0,.bool b]).alloc (.cells #[.int .i64 0,.slice none 0 0,.bool false] 91);have kC:=Blk.new ((w.alloc (.cells #[.int .i64 x,.slice none 0 0,.bool a] 91)).alloc (.cells #[.int .i64 y,.slice none 0 0,.bool b] 91)) 91 #[.int .i64 0,.slice none 0 0,.bool false];simp only [World.size_alloc] at kB kC
     go_enter Tryz.func130,Tryz.ntmps130
     go_wp2_with fail
     go_region_held3 (fun w' =>w'.cell? ⟨w.heap.size,0,none⟩=some (.int .i64 x)/\w'.cell? ⟨w.heap.size,1,none⟩=some (.slice none 0 0)/\w'.cell? ⟨w.heap.size,2,none⟩=some (.bool a)/\
      w'.cell? ⟨w.heap.size+1,0,none⟩=some (.int .i64 y)/\w'.cell? ⟨w.heap.size+1,1,none⟩=some (.slice none 0 0)/\w'.cell? ⟨w.heap.size+1,2,none⟩=some (.bool b)/\
      w.heap.size<w'.heap.size/\w.heap.size+1<w'.heap.size/\Hid (Blk w' (w.heap.size+1) 91 #[.int .i64 y,.slice none 0 0,.bool b])/\Hid (Blk w' (w.heap.size+1+1) 91 #[.int .i64 0,.slice none 0 0,.bool false])/\Hid (Below w.heap.size w w'))
      (first
        | exact ⟨by go_keep,by go_keep,by go_keep,by go_keep,by go_keep,by go_keep,by simp;omega,by simp,ze (kB.drewN 1),ze (kC.drewN 1),ze (zr hW 1)⟩
        | go_keep
        | (go_split_ands;exact ⟨zi ‹_› ‹_› ‹_›,zi ‹_› ‹_› ‹_›,zi ‹_› ‹_› ‹_›,zi ‹_› ‹_› ‹_›,zi ‹_› ‹_› ‹_›,zi ‹_› ‹_› ‹_›,zU ‹_› ‹_›,zU ‹_› ‹_›,xZ ‹_› ‹_›,xZ ‹_› ‹_›,zp ‹_› ‹_›⟩))
      (first
        | (go_at_call_of 175 (Value.agg #[Value.int .i64 x,.slice none 0 0,.bool a]);refine (hx _).mono ?_;rintro e w1 ⟨rfl,hb1⟩)
        | (go_at_call_of 175 (Value.agg #[Value.int .i64 y,.slice none 0 0,.bool b]);refine (hy _).mono ?_;rintro e w1 ⟨rfl,hb1⟩)
        | (go_at_call 179;refine (hm _).mono ?_;rintro e w1 ⟨rfl,rfl⟩))
     go_split_ands;have kC4:=zS (by assumption:Hid (Blk _ (w.heap.size+1+1) _ _));have c0:=kC4.cell 0;have c1:=kC4.cell 1;have c2:=kC4.cell 2;have f0:=kC4.frozen 0;have f1:=kC4.frozen 1;have f2:=kC4.frozen 2;simp at c0 c1 c2;go_wp2;have kD:=zQ (x:= -P) (A:=none) (k:=0) (c:=0) (ng:=false) kC4;have d0:=kD.cell 0;have d1:=kD.cell 1;have d2:=kD.cell 2;simp at d0 d1 d2;refine bodyPost_ret (v:=.agg #[.int .i64 (-P),.slice none 0 0,.bool false]) (by simp [results,Tryz.results130,go_sem,d0,d1,d2]) rfl ?_;exact ⟨_,rfl,.inl ⟨_,_,rfl,by have:=HP2.out;omega,by have:=HP2.out;omega,rfl⟩,zz (zS ‹_›) (by omega)⟩
 . rcases (show y<0\/¬ y<0 by omega) with hY | hY
   . have hsg:(decide (x<0) != decide (y<0))=true:=by rw [decide_eq_false hX,decide_eq_true hY];rfl
     rw [hsg];clear hsg;have hXD:decide (x<0)=false:=decide_eq_false hX;have hYD:decide (y<0)=true:=decide_eq_true hY;have hW:=(ext (ext (zh w (.cells #[.int .i64 x,.slice none 0 0,.bool a] 91)) (zh _ (.cells #[.int .i64 y,.slice none 0 0,.bool b] 91))) (zh _ (.cells #[.int .i64 0,.slice none 0 0,.bool false] 91)));have kB:=(Blk.new (w.alloc (.cells #[.int .i64 x,.slice none 0 0,.bool a] 91)) 91 #[.int .i64 y,.slice none 0 0,.bool b]).alloc (.cells #[.int .i64 0,.slice none 0 0,.bool false] 91);have kC:=Blk.new ((w.alloc (.cells #[.int .i64 x,.slice none 0 0,.bool a] 91)).alloc (.cells #[.int .i64 y,.slice none 0 0,.bool b] 91)) 91 #[.int .i64 0,.slice none 0 0,.bool false];simp only [World.size_alloc] at kB kC
     go_enter Tryz.func130,Tryz.ntmps130
     go_wp2_with fail
     go_region_held3 (fun w' =>w'.cell? ⟨w.heap.size,0,none⟩=some (.int .i64 x)/\w'.cell? ⟨w.heap.size,1,none⟩=some (.slice none 0 0)/\w'.cell? ⟨w.heap.size,2,none⟩=some (.bool a)/\
      w'.cell? ⟨w.heap.size+1,0,none⟩=some (.int .i64 y)/\w'.cell? ⟨w.heap.size+1,1,none⟩=some (.slice none 0 0)/\w'.cell? ⟨w.heap.size+1,2,none⟩=some (.bool b)/\
      w.heap.size<w'.heap.size/\w.heap.size+1<w'.heap.size/\Hid (Blk w' (w.heap.size+1) 91 #[.int .i64 y,.slice none 0 0,.bool b])/\Hid (Blk w' (w.heap.size+1+1) 91 #[.int .i64 0,.slice none 0 0,.bool false])/\Hid (Below w.heap.size w w'))
      (first
        | exact ⟨by go_keep,by go_keep,by go_keep,by go_keep,by go_keep,by go_keep,by simp;omega,by simp,ze (kB.drewN 1),ze (kC.drewN 1),ze (zr hW 1)⟩
        | go_keep
        | (go_split_ands;exact ⟨zi ‹_› ‹_› ‹_›,zi ‹_› ‹_› ‹_›,zi ‹_› ‹_› ‹_›,zi ‹_› ‹_› ‹_›,zi ‹_› ‹_› ‹_›,zi ‹_› ‹_› ‹_›,zU ‹_› ‹_›,zU ‹_› ‹_›,xZ ‹_› ‹_›,xZ ‹_› ‹_›,zp ‹_› ‹_›⟩))
      (first
        | (go_at_call_of 175 (Value.agg #[Value.int .i64 x,.slice none 0 0,.bool a]);refine (hx _).mono ?_;rintro e w1 ⟨rfl,hb1⟩)
        | (go_at_call_of 175 (Value.agg #[Value.int .i64 y,.slice none 0 0,.bool b]);refine (hy _).mono ?_;rintro e w1 ⟨rfl,hb1⟩)
        | (go_at_call 179;refine (hm _).mono ?_;rintro e w1 ⟨rfl,rfl⟩))
     go_split_ands;have kC4:=zS (by assumption:Hid (Blk _ (w.heap.size+1+1) _ _));have c0:=kC4.cell 0;have c1:=kC4.cell 1;have c2:=kC4.cell 2;have f0:=kC4.frozen 0;have f1:=kC4.frozen 1;have f2:=kC4.frozen 2;simp at c0 c1 c2;go_wp2;have kD:=zQ (x:= -P) (A:=none) (k:=0) (c:=0) (ng:=false) kC4;have d0:=kD.cell 0;have d1:=kD.cell 1;have d2:=kD.cell 2;simp at d0 d1 d2;refine bodyPost_ret (v:=.agg #[.int .i64 (-P),.slice none 0 0,.bool false]) (by simp [results,Tryz.results130,go_sem,d0,d1,d2]) rfl ?_;exact ⟨_,rfl,.inl ⟨_,_,rfl,by have:=HP2.out;omega,by have:=HP2.out;omega,rfl⟩,zz (zS ‹_›) (by omega)⟩
   . have hsg:(decide (x<0) != decide (y<0))=false:=by rw [decide_eq_false hX,decide_eq_false hY];rfl
     rw [hsg];clear hsg;have hXD:decide (x<0)=false:=decide_eq_false hX;have hYD:decide (y<0)=false:=decide_eq_false hY;have hW:=(ext (ext (zh w (.cells #[.int .i64 x,.slice none 0 0,.bool a] 91)) (zh _ (.cells #[.int .i64 y,.slice none 0 0,.bool b] 91))) (zh _ (.cells #[.int .i64 0,.slice none 0 0,.bool false] 91)));have kB:=(Blk.new (w.alloc (.cells #[.int .i64 x,.slice none 0 0,.bool a] 91)) 91 #[.int .i64 y,.slice none 0 0,.bool b]).alloc (.cells #[.int .i64 0,.slice none 0 0,.bool false] 91);have kC:=Blk.new ((w.alloc (.cells #[.int .i64 x,.slice none 0 0,.bool a] 91)).alloc (.cells #[.int .i64 y,.slice none 0 0,.bool b] 91)) 91 #[.int .i64 0,.slice none 0 0,.bool false];simp only [World.size_alloc] at kB kC
     go_enter Tryz.func130,Tryz.ntmps130
     go_wp2_with fail
     go_region_held3 (fun w' =>w'.cell? ⟨w.heap.size,0,none⟩=some (.int .i64 x)/\w'.cell? ⟨w.heap.size,1,none⟩=some (.slice none 0 0)/\w'.cell? ⟨w.heap.size,2,none⟩=some (.bool a)/\
      w'.cell? ⟨w.heap.size+1,0,none⟩=some (.int .i64 y)/\w'.cell? ⟨w.heap.size+1,1,none⟩=some (.slice none 0 0)/\w'.cell? ⟨w.heap.size+1,2,none⟩=some (.bool b)/\
      w.heap.size<w'.heap.size/\w.heap.size+1<w'.heap.size/\Hid (Blk w' (w.heap.size+1) 91 #[.int .i64 y,.slice none 0 0,.bool b])/\Hid (Blk w' (w.heap.size+1+1) 91 #[.int .i64 0,.slice none 0 0,.bool false])/\Hid (Below w.heap.size w w'))
      (first
        | exact ⟨by go_keep,by go_keep,by go_keep,by go_keep,by go_keep,by go_keep,by simp;omega,by simp,ze (kB.drewN 1),ze (kC.drewN 1),ze (zr hW 1)⟩
        | go_keep
        | (go_split_ands;exact ⟨zi ‹_› ‹_› ‹_›,zi ‹_› ‹_› ‹_›,zi ‹_› ‹_› ‹_›,zi ‹_› ‹_› ‹_›,zi ‹_› ‹_› ‹_›,zi ‹_› ‹_› ‹_›,zU ‹_› ‹_›,zU ‹_› ‹_›,xZ ‹_› ‹_›,xZ ‹_› ‹_›,zp ‹_› ‹_›⟩))
      (first
        | (go_at_call_of 175 (Value.agg #[Value.int .i64 x,.slice none 0 0,.bool a]);refine (hx _).mono ?_;rintro e w1 ⟨rfl,hb1⟩)
        | (go_at_call_of 175 (Value.agg #[Value.int .i64 y,.slice none 0 0,.bool b]);refine (hy _).mono ?_;rintro e w1 ⟨rfl,hb1⟩)
        | (go_at_call 179;refine (hm _).mono ?_;rintro e w1 ⟨rfl,rfl⟩))
     go_split_ands;have kC4:=zS (by assumption:Hid (Blk _ (w.heap.size+1+1) _ _));have c0:=kC4.cell 0;have c1:=kC4.cell 1;have c2:=kC4.cell 2;have f0:=kC4.frozen 0;have f1:=kC4.frozen 1;have f2:=kC4.frozen 2;simp at c0 c1 c2;go_wp2;have kD:=zQ (x:=P) (A:=none) (k:=0) (c:=0) (ng:=false) kC4;have d0:=kD.cell 0;have d1:=kD.cell 1;have d2:=kD.cell 2;simp at d0 d1 d2;refine bodyPost_ret (v:=.agg #[.int .i64 (P),.slice none 0 0,.bool false]) (by simp [results,Tryz.results130,go_sem,d0,d1,d2]) rfl ?_;exact ⟨_,rfl,.inl ⟨_,_,rfl,by have:=HP2.out;omega,by have:=HP2.out;omega,rfl⟩,zz (zS ‹_›) (by omega)⟩
def zgk (x y:Int) (A B:Option Addr):Prop:=A≠none\/(A=none/\B≠none)\/(A=none/\B=none/\4611686018427387904<=x.natAbs*y.natAbs)
theorem zjg (s t:Bool) (n m:Nat) (x y:Int) (A B:Option Addr) (k c k' c' :Nat) (a b:Bool) (w:World) (h1: -4611686018427387904<x) (h2:x<4611686018427387904) (h3: -4611686018427387904<y) (h4:y<4611686018427387904)
 (hA0:A=none->k=0/\c=0) (hB0:B=none->k' =0/\c' =0)
 (ha:zE w (.agg #[.int .i64 x,.slice A k c,.bool a]) (signed s n)) (hb:zE w (.agg #[.int .i64 y,.slice B k' c',.bool b]) (signed t m)) (hs:s=true->0<n) (ht:t=true->0<m)
 (hln:len 4294967296 n<=67108864) (hlm:len 4294967296 m<=67108864) (hsl:zgk x y A B):
 Calls Tryz.prog 130 #[.agg #[.int .i64 x,.slice A k c,.bool a],.agg #[.int .i64 y,.slice B k' c',.bool b]] w (vN w (signed s n*signed t m)):=by
 have q1:=fun w=>zfc w A k c 0 0
 have q2:=fun w=>zfc w B k' c' 0 0
 have HLN:=ze hln
 have HLM:=ze hlm
 clear hln hlm
 rcases hsl with h | ⟨h,h'⟩ | ⟨h,h',h5⟩
 . obtain ⟨ad,rfl⟩:=Option.ne_none_iff_exists'.1 h
   clear h
   go_enter Tryz.func130,Tryz.ntmps130
   go_wp2_with fail;have hW:=(ext (ext (zh w (.cells #[.int .i64 x,.slice (some ad) k c,.bool a] 91)) (zh _ (.cells #[.int .i64 y,.slice B k' c',.bool b] 91))) (zh _ (.cells #[.int .i64 0,.slice none 0 0,.bool false] 91)));have hA:=ha.below hW;have hB:=hb.below hW;have kB:=(Blk.new (w.alloc (.cells #[.int .i64 x,.slice (some ad) k c,.bool a] 91)) 91 #[.int .i64 y,.slice B k' c',.bool b]).alloc (.cells #[.int .i64 0,.slice none 0 0,.bool false] 91);have kC:=Blk.new ((w.alloc (.cells #[.int .i64 x,.slice (some ad) k c,.bool a] 91)).alloc (.cells #[.int .i64 y,.slice B k' c',.bool b] 91)) 91 #[.int .i64 0,.slice none 0 0,.bool false];simp only [World.size_alloc] at kB kC;generalize ((w.alloc (.cells #[.int .i64 x,.slice (some ad) k c,.bool a] 91)).alloc (.cells #[.int .i64 y,.slice B k' c',.bool b] 91)).alloc (.cells #[.int .i64 0,.slice none 0 0,.bool false] 91)=W at hA hB kB kC hW |-;refine (yV _ s n W hA hs).mono ?_;rintro e w1 ⟨p,rfl,hp,hb1⟩;have kB1:=kB.below hb1 kB.lt;have c0:=kB1.cell 0;have c1:=kB1.cell 1;have c2:=kB1.cell 2;simp at c0 c1 c2;go_wp2_with fail;refine (yV _ t m w1 (hB.below hb1) ht).mono ?_
   rintro e w2 ⟨p',rfl,hp',hb2⟩;have hp2:=hp.below hb2;have kC2:=(kC.below hb1 kC.lt).below hb2 (kC.below hb1 kC.lt).lt;have hW2:=ext (ext hW hb1) hb2;clear hb1 hb2 hW kC kB kB1 c0 c1 c2 hA hB hp;go_wp2_with fail;refine (XM p p' n m w2 hp2 hp' HLN.out HLM.out).mono ?_;rintro e w3 ⟨q,rfl,hq,hb3⟩;go_wp2_with fail;refine (zM (s != t) q (n*m) w3 hq).mono ?_;rintro e w4 ⟨v,rfl,hv,hb4⟩;obtain ⟨x',A',k2,c2',ng',rfl,_,_,_⟩:=hv.form;have kC4:=(kC2.below hb3 kC2.lt).below hb4 (kC2.below hb3 kC2.lt).lt;have hW4:=ext (ext hW2 hb3) hb4;have c0:=kC4.cell 0;have c1:=kC4.cell 1;have c2:=kC4.cell 2;have f0:=kC4.frozen 0;have f1:=kC4.frozen 1;have f2:=kC4.frozen 2;simp at c0 c1 c2;go_wp2;have kD:=zQ (x:=x') (A:=A') (k:=k2) (c:=c2') (ng:=ng') kC4;have d0:=kD.cell 0;have d1:=kD.cell 1;have d2:=kD.cell 2;simp at d0 d1 d2;refine bodyPost_ret (v:=.agg #[.int .i64 x',.slice A' k2 c2',.bool ng']) (by simp [results,Tryz.results130,go_sem,d0,d1,d2]) rfl ?_;exact ⟨_,rfl,zt (by rw [Zn];exact hv) kC4,zz hW4 (by omega)⟩
 . obtain ⟨bd,rfl⟩:=Option.ne_none_iff_exists'.1 h'
   subst h;obtain ⟨rfl,rfl⟩:=hA0 rfl;clear h' hA0 hB0
   go_enter Tryz.func130,Tryz.ntmps130
   go_wp2_with fail;have hW:=(ext (ext (zh w (.cells #[.int .i64 x,.slice none 0 0,.bool a] 91)) (zh _ (.cells #[.int .i64 y,.slice (some bd) k' c',.bool b] 91))) (zh _ (.cells #[.int .i64 0,.slice none 0 0,.bool false] 91)));have hA:=ha.below hW;have hB:=hb.below hW;have kB:=(Blk.new (w.alloc (.cells #[.int .i64 x,.slice none 0 0,.bool a] 91)) 91 #[.int .i64 y,.slice (some bd) k' c',.bool b]).alloc (.cells #[.int .i64 0,.slice none 0 0,.bool false] 91);have kC:=Blk.new ((w.alloc (.cells #[.int .i64 x,.slice none 0 0,.bool a] 91)).alloc (.cells #[.int .i64 y,.slice (some bd) k' c',.bool b] 91)) 91 #[.int .i64 0,.slice none 0 0,.bool false];simp only [World.size_alloc] at kB kC;generalize ((w.alloc (.cells #[.int .i64 x,.slice none 0 0,.bool a] 91)).alloc (.cells #[.int .i64 y,.slice (some bd) k' c',.bool b] 91)).alloc (.cells #[.int .i64 0,.slice none 0 0,.bool false] 91)=W at hA hB kB kC hW |-;refine (yV _ s n W hA hs).mono ?_;rintro e w1 ⟨p,rfl,hp,hb1⟩;have kB1:=kB.below hb1 kB.lt;have c0:=kB1.cell 0;have c1:=kB1.cell 1;have c2:=kB1.cell 2;simp at c0 c1 c2;go_wp2_with fail
   refine (yV _ t m w1 (hB.below hb1) ht).mono ?_;rintro e w2 ⟨p',rfl,hp',hb2⟩;have hp2:=hp.below hb2;have kC2:=(kC.below hb1 kC.lt).below hb2 (kC.below hb1 kC.lt).lt;have hW2:=ext (ext hW hb1) hb2;clear hb1 hb2 hW kC kB kB1 c0 c1 c2 hA hB hp;go_wp2_with fail;refine (XM p p' n m w2 hp2 hp' HLN.out HLM.out).mono ?_;rintro e w3 ⟨q,rfl,hq,hb3⟩;go_wp2_with fail;refine (zM (s != t) q (n*m) w3 hq).mono ?_;rintro e w4 ⟨v,rfl,hv,hb4⟩;obtain ⟨x',A',k2,c2',ng',rfl,_,_,_⟩:=hv.form;have kC4:=(kC2.below hb3 kC2.lt).below hb4 (kC2.below hb3 kC2.lt).lt;have hW4:=ext (ext hW2 hb3) hb4;have c0:=kC4.cell 0;have c1:=kC4.cell 1;have c2:=kC4.cell 2;have f0:=kC4.frozen 0;have f1:=kC4.frozen 1;have f2:=kC4.frozen 2;simp at c0 c1 c2;go_wp2;have kD:=zQ (x:=x') (A:=A') (k:=k2) (c:=c2') (ng:=ng') kC4;have d0:=kD.cell 0;have d1:=kD.cell 1;have d2:=kD.cell 2;simp at d0 d1 d2;refine bodyPost_ret (v:=.agg #[.int .i64 x',.slice A' k2 c2',.bool ng']) (by simp [results,Tryz.results130,go_sem,d0,d1,d2]) rfl ?_;exact ⟨_,rfl,zt (by rw [Zn];exact hv) kC4,zz hW4 (by omega)⟩
 . subst h h'
   obtain ⟨rfl,rfl⟩:=hA0 rfl;obtain ⟨rfl,rfl⟩:=hB0 rfl;have hx:=fun w=>ZT x (.slice none 0 0) a w h1 h2
   have hy:=fun w=>ZT y (.slice none 0 0) b w h3 h4
   have hm:=fun w=>zao x.natAbs y.natAbs (by omega) (by omega) w
   generalize x.natAbs*y.natAbs=P at hm h5;have hL:P / 18446744073709551616≠0\/(P / 18446744073709551616=0/\4611686018427387904<=P % 18446744073709551616):=by omega
   generalize P / 18446744073709551616=H at hm hL;generalize P % 18446744073709551616=L at hm hL;clear h5 h1 h2 h3 h4 hA0 hB0
   rcases hL with hL | ⟨rfl,hL⟩
   . have hH:¬ (H:Int)=0:=by omega
     have hH2:((H:Int) == 0)=false:=beq_eq_false_iff_ne.2 hH;clear hL;have hW:=(ext (ext (zh w (.cells #[.int .i64 x,.slice none 0 0,.bool a] 91)) (zh _ (.cells #[.int .i64 y,.slice none 0 0,.bool b] 91))) (zh _ (.cells #[.int .i64 0,.slice none 0 0,.bool false] 91)));have kB:=(Blk.new (w.alloc (.cells #[.int .i64 x,.slice none 0 0,.bool a] 91)) 91 #[.int .i64 y,.slice none 0 0,.bool b]).alloc (.cells #[.int .i64 0,.slice none 0 0,.bool false] 91);have kC:=Blk.new ((w.alloc (.cells #[.int .i64 x,.slice none 0 0,.bool a] 91)).alloc (.cells #[.int .i64 y,.slice none 0 0,.bool b] 91)) 91 #[.int .i64 0,.slice none 0 0,.bool false];simp only [World.size_alloc] at kB kC
     go_enter Tryz.func130,Tryz.ntmps130
     go_wp2_with fail
     go_region_held3 (fun w' =>w'.cell? ⟨w.heap.size,0,none⟩=some (.int .i64 x)/\w'.cell? ⟨w.heap.size,1,none⟩=some (.slice none 0 0)/\w'.cell? ⟨w.heap.size,2,none⟩=some (.bool a)/\
      w'.cell? ⟨w.heap.size+1,0,none⟩=some (.int .i64 y)/\w'.cell? ⟨w.heap.size+1,1,none⟩=some (.slice none 0 0)/\w'.cell? ⟨w.heap.size+1,2,none⟩=some (.bool b)/\
      w.heap.size<w'.heap.size/\w.heap.size+1<w'.heap.size/\Hid (Blk w' (w.heap.size+1) 91 #[.int .i64 y,.slice none 0 0,.bool b])/\Hid (Blk w' (w.heap.size+1+1) 91 #[.int .i64 0,.slice none 0 0,.bool false])/\Hid (Below w.heap.size w w'))
      (first
        | exact ⟨by go_keep,by go_keep,by go_keep,by go_keep,by go_keep,by go_keep,by simp;omega,by simp,ze (kB.drewN 1),ze (kC.drewN 1),ze (zr hW 1)⟩
        | go_keep
        | (go_split_ands;exact ⟨zi ‹_› ‹_› ‹_›,zi ‹_› ‹_› ‹_›,zi ‹_› ‹_› ‹_›,zi ‹_› ‹_› ‹_›,zi ‹_› ‹_› ‹_›,zi ‹_› ‹_› ‹_›,zU ‹_› ‹_›,zU ‹_› ‹_›,xZ ‹_› ‹_›,xZ ‹_› ‹_›,zp ‹_› ‹_›⟩))
      (first
        | (go_at_call_of 175 (Value.agg #[Value.int .i64 x,.slice none 0 0,.bool a]);refine (hx _).mono ?_;rintro e w1 ⟨rfl,hb1⟩)
        | (go_at_call_of 175 (Value.agg #[Value.int .i64 y,.slice none 0 0,.bool b]);refine (hy _).mono ?_;rintro e w1 ⟨rfl,hb1⟩)
        | (go_at_call 179;refine (hm _).mono ?_;rintro e w1 ⟨rfl,rfl⟩))
     go_split_ands;have hW' :=zS (by assumption:Hid (Below w.heap.size w _));have kB' :=zS (by assumption:Hid (Blk _ (w.heap.size+1) _ _));have kC' :=zS (by assumption:Hid (Blk _ (w.heap.size+1+1) _ _));have hA:=ha.below hW';have hB:=hb.below hW';clear hW kB kC;have hW:=hW';have kB:=kB';have kC:=kC';clear hW' kB' kC';go_wp2_with fail;refine (yV _ s n _ hA hs).mono ?_;rintro e w1 ⟨p,rfl,hp,hb1⟩;have kB1:=kB.below hb1 kB.lt;have c0:=kB1.cell 0;have c1:=kB1.cell 1;have c2:=kB1.cell 2;simp at c0 c1 c2;go_wp2_with fail;refine (yV _ t m w1 (hB.below hb1) ht).mono ?_;rintro e w2 ⟨p',rfl,hp',hb2⟩;have hp2:=hp.below hb2;have kC2:=(kC.below hb1 kC.lt).below hb2 (kC.below hb1 kC.lt).lt;have hW2:=ext (ext hW hb1) hb2;clear hb1 hb2 hW kC kB kB1 c0 c1 c2 hA hB hp;go_wp2_with fail;refine (XM p p' n m w2 hp2 hp' HLN.out HLM.out).mono ?_;rintro e w3 ⟨q,rfl,hq,hb3⟩;go_wp2_with fail;refine (zM (s != t) q (n*m) w3 hq).mono ?_;rintro e w4 ⟨v,rfl,hv,hb4⟩;obtain ⟨x',A',k2,c2',ng',rfl,_,_,_⟩:=hv.form;have kC4:=(kC2.below hb3 kC2.lt).below hb4 (kC2.below hb3 kC2.lt).lt;have hW4:=ext (ext hW2 hb3) hb4
     have c0:=kC4.cell 0;have c1:=kC4.cell 1;have c2:=kC4.cell 2;have f0:=kC4.frozen 0;have f1:=kC4.frozen 1;have f2:=kC4.frozen 2;simp at c0 c1 c2;go_wp2;have kD:=zQ (x:=x') (A:=A') (k:=k2) (c:=c2') (ng:=ng') kC4;have d0:=kD.cell 0;have d1:=kD.cell 1;have d2:=kD.cell 2;simp at d0 d1 d2;refine bodyPost_ret (v:=.agg #[.int .i64 x',.slice A' k2 c2',.bool ng']) (by simp [results,Tryz.results130,go_sem,d0,d1,d2]) rfl ?_;exact ⟨_,rfl,zt (by rw [Zn];exact hv) kC4,zz hW4 (by omega)⟩
   . have hD:decide ((L:Int)<4611686018427387904)=false:=decide_eq_false (by omega)
     clear hL;have hW:=(ext (ext (zh w (.cells #[.int .i64 x,.slice none 0 0,.bool a] 91)) (zh _ (.cells #[.int .i64 y,.slice none 0 0,.bool b] 91))) (zh _ (.cells #[.int .i64 0,.slice none 0 0,.bool false] 91)));have kB:=(Blk.new (w.alloc (.cells #[.int .i64 x,.slice none 0 0,.bool a] 91)) 91 #[.int .i64 y,.slice none 0 0,.bool b]).alloc (.cells #[.int .i64 0,.slice none 0 0,.bool false] 91);have kC:=Blk.new ((w.alloc (.cells #[.int .i64 x,.slice none 0 0,.bool a] 91)).alloc (.cells #[.int .i64 y,.slice none 0 0,.bool b] 91)) 91 #[.int .i64 0,.slice none 0 0,.bool false];simp only [World.size_alloc] at kB kC
     go_enter Tryz.func130,Tryz.ntmps130
     go_wp2_with fail
     go_region_held3 (fun w' =>w'.cell? ⟨w.heap.size,0,none⟩=some (.int .i64 x)/\w'.cell? ⟨w.heap.size,1,none⟩=some (.slice none 0 0)/\w'.cell? ⟨w.heap.size,2,none⟩=some (.bool a)/\
      w'.cell? ⟨w.heap.size+1,0,none⟩=some (.int .i64 y)/\w'.cell? ⟨w.heap.size+1,1,none⟩=some (.slice none 0 0)/\w'.cell? ⟨w.heap.size+1,2,none⟩=some (.bool b)/\
      w.heap.size<w'.heap.size/\w.heap.size+1<w'.heap.size/\Hid (Blk w' (w.heap.size+1) 91 #[.int .i64 y,.slice none 0 0,.bool b])/\Hid (Blk w' (w.heap.size+1+1) 91 #[.int .i64 0,.slice none 0 0,.bool false])/\Hid (Below w.heap.size w w'))
      (first
        | exact ⟨by go_keep,by go_keep,by go_keep,by go_keep,by go_keep,by go_keep,by simp;omega,by simp,ze (kB.drewN 1),ze (kC.drewN 1),ze (zr hW 1)⟩
        | go_keep
        | (go_split_ands;exact ⟨zi ‹_› ‹_› ‹_›,zi ‹_› ‹_› ‹_›,zi ‹_› ‹_› ‹_›,zi ‹_› ‹_› ‹_›,zi ‹_› ‹_› ‹_›,zi ‹_› ‹_› ‹_›,zU ‹_› ‹_›,zU ‹_› ‹_›,xZ ‹_› ‹_›,xZ ‹_› ‹_›,zp ‹_› ‹_›⟩))
      (first
        | (go_at_call_of 175 (Value.agg #[Value.int .i64 x,.slice none 0 0,.bool a]);refine (hx _).mono ?_;rintro e w1 ⟨rfl,hb1⟩)
        | (go_at_call_of 175 (Value.agg #[Value.int .i64 y,.slice none 0 0,.bool b]);refine (hy _).mono ?_;rintro e w1 ⟨rfl,hb1⟩)
        | (go_at_call 179;refine (hm _).mono ?_;rintro e w1 ⟨rfl,rfl⟩))
     go_split_ands;have hW' :=zS (by assumption:Hid (Below w.heap.size w _));have kB' :=zS (by assumption:Hid (Blk _ (w.heap.size+1) _ _));have kC' :=zS (by assumption:Hid (Blk _ (w.heap.size+1+1) _ _));have hA:=ha.below hW';have hB:=hb.below hW';clear hW kB kC;have hW:=hW';have kB:=kB';have kC:=kC';clear hW' kB' kC';go_wp2_with fail;refine (yV _ s n _ hA hs).mono ?_;rintro e w1 ⟨p,rfl,hp,hb1⟩;have kB1:=kB.below hb1 kB.lt;have c0:=kB1.cell 0;have c1:=kB1.cell 1;have c2:=kB1.cell 2;simp at c0 c1 c2;go_wp2_with fail;refine (yV _ t m w1 (hB.below hb1) ht).mono ?_;rintro e w2 ⟨p',rfl,hp',hb2⟩;have hp2:=hp.below hb2;have kC2:=(kC.below hb1 kC.lt).below hb2 (kC.below hb1 kC.lt).lt;have hW2:=ext (ext hW hb1) hb2;clear hb1 hb2 hW kC kB kB1 c0 c1 c2 hA hB hp;go_wp2_with fail;refine (XM p p' n m w2 hp2 hp' HLN.out HLM.out).mono ?_;rintro e w3 ⟨q,rfl,hq,hb3⟩;go_wp2_with fail;refine (zM (s != t) q (n*m) w3 hq).mono ?_;rintro e w4 ⟨v,rfl,hv,hb4⟩;obtain ⟨x',A',k2,c2',ng',rfl,_,_,_⟩:=hv.form;have kC4:=(kC2.below hb3 kC2.lt).below hb4 (kC2.below hb3 kC2.lt).lt;have hW4:=ext (ext hW2 hb3) hb4
     have c0:=kC4.cell 0;have c1:=kC4.cell 1;have c2:=kC4.cell 2;have f0:=kC4.frozen 0;have f1:=kC4.frozen 1;have f2:=kC4.frozen 2;simp at c0 c1 c2;go_wp2;have kD:=zQ (x:=x') (A:=A') (k:=k2) (c:=c2') (ng:=ng') kC4;have d0:=kD.cell 0;have d1:=kD.cell 1;have d2:=kD.cell 2;simp at d0 d1 d2;refine bodyPost_ret (v:=.agg #[.int .i64 x',.slice A' k2 c2',.bool ng']) (by simp [results,Tryz.results130,go_sem,d0,d1,d2]) rfl ?_;exact ⟨_,rfl,zt (by rw [Zn];exact hv) kC4,zz hW4 (by omega)⟩
theorem yY (va vb:Value) (z y:Int) (w:World) (ha:zE w va z) (hb:zE w vb y) (hla:len 4294967296 z.natAbs<=67108864) (hlb:len 4294967296 y.natAbs<=67108864):
 Calls Tryz.prog 130 #[va,vb] w (vN w (z*y)):=by
 have ha' :=ha
 have hb' :=hb
 obtain ⟨x1,A,k,c,s,rfl,h1,h2,hA⟩:=ha.form
 obtain ⟨y1,B,k',c',t,rfl,h3,h4,hB⟩:=hb.form
 by_cases hf:A=none/\B=none/\x1.natAbs*y1.natAbs<4611686018427387904
 . obtain ⟨e1,e2,h5⟩:=hf
   obtain ⟨rfl,rfl,rfl⟩:=hA e1;obtain ⟨rfl,rfl,rfl⟩:=hB e2;subst e1 e2;exact ziu z y s t _ w h1 h2 h3 h4 rfl h5
 . have:=zjg (decide (z<0)) (decide (y<0)) z.natAbs y.natAbs x1 y1 A B k c k' c' s t w h1 h2 h3 h4 (fun h=>⟨(hA h).1,(hA h).2.1⟩) (fun h=>⟨(hB h).1,(hB h).2.1⟩) (by rw [yw];exact ha') (by rw [yw];exact hb') vK vK hla hlb (by
    unfold zgk
    by_cases e1:A=none
    . by_cases e2:B=none
      . exact .inr (.inr ⟨e1,e2,Nat.le_of_not_lt fun h=>hf ⟨e1,e2,h⟩⟩)
      . exact .inr (.inl ⟨e1,e2⟩)
    . exact .inl e1)
   rwa [yw,yw] at this
def zcu (w:World) (z y:Int) (e:Ending) (w' :World):Prop:=∃ v v',e= .returned (.tuple #[v,v'])/\zE w' v z/\zE w' v' y/\Below w.heap.size w w'
theorem xk {W:World} {g g' :Nat} {t:TypeId} {x:Int} {A:Option Addr} {k c:Nat} {ng:Bool} {cs:Array Value} (hk:Blk W g t cs) (hne:g≠g'):Blk (World.num W g' x A k c ng) g t cs:=
 ((hk.far hne _).far hne _).far hne _
theorem XK (s t:Bool) (n m:Nat):(signed s n).tdiv (signed t m)=signed (s != t) (n / m):=by
 cases s<;>cases t<;>unfold signed<;>simp [Int.neg_tdiv,Int.tdiv_neg,Int.ofNat_tdiv]
theorem XC (s t:Bool) (n m:Nat):(signed s n).tmod (signed t m)=signed s (n % m):=by
 cases s<;>cases t<;>unfold signed<;>simp [Int.neg_tmod,Int.tmod_neg,Int.ofNat_tmod,Int.tmod_eq_emod_of_nonneg]
theorem Vk {x y:Int} (h1: -4611686018427387904<x) (h2:x<4611686018427387904): -4611686018427387904<x.tdiv y/\x.tdiv y<4611686018427387904:=by
 have:=Int.natAbs_tdiv_le_natAbs x y
 omega
theorem zcl {x y:Int} (h1: -4611686018427387904<x) (h2:x<4611686018427387904): -4611686018427387904<x.tmod y/\x.tmod y<4611686018427387904:=by
 have:=Int.natAbs_tmod x y
 have h3:=Nat.mod_le x.natAbs y.natAbs
 omega
theorem zjf (x y:Int) (a b:Bool) (w:World) (h1: -4611686018427387904<x) (h2:x<4611686018427387904) (h3: -4611686018427387904<y) (h4:y<4611686018427387904) (hy:y≠0):
 Calls Tryz.prog 177 #[.agg #[.int .i64 x,.slice none 0 0,.bool a],.agg #[.int .i64 y,.slice none 0 0,.bool b]] w (zcu w (x.tdiv y) (x.tmod y)):=by
 have q0:=fun w=>zfc w none 0 0 0 0
 have hy0:(y == 0)=false:=beq_eq_false_iff_ne.2 hy
 obtain ⟨b1,b2⟩:=Vk (y:=y) h1 h2
 obtain ⟨b3,b4⟩:=zcl (y:=y) h1 h2
 go_enter Tryz.func177,Tryz.ntmps177
 go_wp2_with fail
 go_region
 go_wp2
 refine bodyPost_ret (v:=.tuple #[.agg #[.int .i64 (x.tdiv y),.slice none 0 0,.bool false],.agg #[.int .i64 (x.tmod y),.slice none 0 0,.bool false]]) (by simp [results,Tryz.results177,go_sem]) rfl ?_
 exact ⟨_,_,rfl,.inl ⟨_,_,rfl,b1,b2,rfl⟩,.inl ⟨_,_,rfl,b3,b4,rfl⟩,zr (ext (ext (ext (zh _ _) (zh _ _)) (zh _ _)) (zh _ _)) 1⟩
def zf8 (A B:Option Addr):Prop:=A≠none\/(A=none/\B≠none)
theorem zip (s t:Bool) (n m:Nat) (x y:Int) (A B:Option Addr) (k c k' c' :Nat) (a b:Bool) (w:World) (h1: -4611686018427387904<x) (h2:x<4611686018427387904) (h3: -4611686018427387904<y) (h4:y<4611686018427387904)
 (ha:zE w (.agg #[.int .i64 x,.slice A k c,.bool a]) (signed s n)) (hb:zE w (.agg #[.int .i64 y,.slice B k' c',.bool b]) (signed t m)) (hs:s=true->0<n) (ht:t=true->0<m) (hm0:0<m)
 (hln:len 4294967296 n<=33554432) (hlm:len 4294967296 m<=33554432) (hsl:zf8 A B):
 Calls Tryz.prog 177 #[.agg #[.int .i64 x,.slice A k c,.bool a],.agg #[.int .i64 y,.slice B k' c',.bool b]] w (zcu w ((signed s n).tdiv (signed t m)) ((signed s n).tmod (signed t m))):=by
 have q1:=fun w=>zfc w A k c 0 0
 have q2:=fun w=>zfc w B k' c' 0 0
 have HLN:=ze hln
 have HLM:=ze hlm
 clear hln hlm
 rcases hsl with h | ⟨h,h'⟩
 . obtain ⟨ad,rfl⟩:=Option.ne_none_iff_exists'.1 h
   clear h
   go_enter Tryz.func177,Tryz.ntmps177
   go_wp2_with fail;have hW:=(ext (ext (ext (zh w (.cells #[.int .i64 x,.slice (some ad) k c,.bool a] 91)) (zh _ (.cells #[.int .i64 y,.slice B k' c',.bool b] 91))) (zh _ (.cells #[.int .i64 0,.slice none 0 0,.bool false] 91))) (zh _ (.cells #[.int .i64 0,.slice none 0 0,.bool false] 91)));have hA:=ha.below hW;have hB:=hb.below hW;have kB:=((Blk.new (w.alloc (.cells #[.int .i64 x,.slice (some ad) k c,.bool a] 91)) 91 #[.int .i64 y,.slice B k' c',.bool b]).alloc (.cells #[.int .i64 0,.slice none 0 0,.bool false] 91)).alloc (.cells #[.int .i64 0,.slice none 0 0,.bool false] 91);have kC:=(Blk.new ((w.alloc (.cells #[.int .i64 x,.slice (some ad) k c,.bool a] 91)).alloc (.cells #[.int .i64 y,.slice B k' c',.bool b] 91)) 91 #[.int .i64 0,.slice none 0 0,.bool false]).alloc (.cells #[.int .i64 0,.slice none 0 0,.bool false] 91);have kD:=Blk.new (((w.alloc (.cells #[.int .i64 x,.slice (some ad) k c,.bool a] 91)).alloc (.cells #[.int .i64 y,.slice B k' c',.bool b] 91)).alloc (.cells #[.int .i64 0,.slice none 0 0,.bool false] 91)) 91 #[.int .i64 0,.slice none 0 0,.bool false];simp only [World.size_alloc] at kB kC kD
   generalize (((w.alloc (.cells #[.int .i64 x,.slice (some ad) k c,.bool a] 91)).alloc (.cells #[.int .i64 y,.slice B k' c',.bool b] 91)).alloc (.cells #[.int .i64 0,.slice none 0 0,.bool false] 91)).alloc (.cells #[.int .i64 0,.slice none 0 0,.bool false] 91)=W at hA hB kB kC kD hW |-;refine (yV _ s n W hA hs).mono ?_;rintro e w1 ⟨p,rfl,hp,hb1⟩;have kB1:=kB.below hb1 kB.lt;have c0:=kB1.cell 0;have c1:=kB1.cell 1;have c2:=kB1.cell 2;simp at c0 c1 c2;go_wp2_with fail;refine (yV _ t m w1 (hB.below hb1) ht).mono ?_;rintro e w2 ⟨p',rfl,hp',hb2⟩;have hp2:=hp.below hb2;have kC2:=(kC.below hb1 kC.lt).below hb2 (kC.below hb1 kC.lt).lt;have kD2:=(kD.below hb1 kD.lt).below hb2 (kD.below hb1 kD.lt).lt;have hW2:=ext (ext hW hb1) hb2;clear hb1 hb2 hW kC kB kD kB1 c0 c1 c2 hA hB hp;go_wp2_with fail;refine (zct p p' n m w2 hp2 hp' hm0 HLN.out HLM.out).mono ?_;rintro e w3 ⟨q,r,rfl,hq,hr,hb3⟩;have kC3:=kC2.below hb3 kC2.lt;have kD3:=kD2.below hb3 kD2.lt;have hW3:=ext hW2 hb3;clear kC2 kD2 hW2 hp2 hp' hb3;go_wp2_with fail;refine (zM (s != t) q (n / m) w3 hq).mono ?_;rintro e w4 ⟨v,rfl,hv,hb4⟩;go_wp2_with fail
   refine (zM s r (n % m) w4 (hr.below hb4)).mono ?_;rintro e w5 ⟨v',rfl,hv',hb5⟩;have hv2:=hv.below hb5;obtain ⟨x',A',k2,c2',ng',rfl,_,_,_⟩:=hv2.form;obtain ⟨x3,A3,k3,c3,ng3,rfl,_,_,_⟩:=hv'.form;have kC5:=(kC3.below hb4 kC3.lt).below hb5 (kC3.below hb4 kC3.lt).lt;have kD5:=(kD3.below hb4 kD3.lt).below hb5 (kD3.below hb4 kD3.lt).lt;have hW5:=ext (ext hW3 hb4) hb5;clear kC3 kD3 hW3 hb4 hb5 hq hr hv;have c0:=kC5.cell 0;have c1:=kC5.cell 1;have c2:=kC5.cell 2;have f0:=kC5.frozen 0;have f1:=kC5.frozen 1;have f2:=kC5.frozen 2;have d0:=kD5.cell 0;have d1:=kD5.cell 1;have d2:=kD5.cell 2;have g0:=kD5.frozen 0;have g1:=kD5.frozen 1;have g2:=kD5.frozen 2;simp at c0 c1 c2 d0 d1 d2;go_wp2;have kE:=zQ (x:=x') (A:=A') (k:=k2) (c:=c2') (ng:=ng') kC5;have kF:=xk (g' :=w.heap.size+1+1) (x:=x') (A:=A') (k:=k2) (c:=c2') (ng:=ng') kD5 (by omega);have kG:=xk (g' :=w.heap.size+1+1+1) (x:=x3) (A:=A3) (k:=k3) (c:=c3) (ng:=ng3) kE (by omega);have kH:=zQ (x:=x3) (A:=A3) (k:=k3) (c:=c3) (ng:=ng3) kF;have e0:=kG.cell 0;have e1:=kG.cell 1;have e2:=kG.cell 2
   have h0:=kH.cell 0;have h1' :=kH.cell 1;have h2' :=kH.cell 2;simp at e0 e1 e2 h0 h1' h2';refine bodyPost_ret (v:=.tuple #[.agg #[.int .i64 x',.slice A' k2 c2',.bool ng'],.agg #[.int .i64 x3,.slice A3 k3 c3,.bool ng3]]) (by simp [results,Tryz.results177,go_sem,e0,e1,e2,h0,h1',h2']) rfl ?_;rw [XK,XC];exact ⟨_,_,rfl,zt (zt hv2 kC5) kF,zt (zt hv' kC5) kF,zz (zz hW5 (by omega)) (by omega)⟩
 . obtain ⟨bd,rfl⟩:=Option.ne_none_iff_exists'.1 h'
   subst h;clear h'
   go_enter Tryz.func177,Tryz.ntmps177
   go_wp2_with fail;have hW:=(ext (ext (ext (zh w (.cells #[.int .i64 x,.slice none k c,.bool a] 91)) (zh _ (.cells #[.int .i64 y,.slice (some bd) k' c',.bool b] 91))) (zh _ (.cells #[.int .i64 0,.slice none 0 0,.bool false] 91))) (zh _ (.cells #[.int .i64 0,.slice none 0 0,.bool false] 91)));have hA:=ha.below hW;have hB:=hb.below hW;have kB:=((Blk.new (w.alloc (.cells #[.int .i64 x,.slice none k c,.bool a] 91)) 91 #[.int .i64 y,.slice (some bd) k' c',.bool b]).alloc (.cells #[.int .i64 0,.slice none 0 0,.bool false] 91)).alloc (.cells #[.int .i64 0,.slice none 0 0,.bool false] 91);have kC:=(Blk.new ((w.alloc (.cells #[.int .i64 x,.slice none k c,.bool a] 91)).alloc (.cells #[.int .i64 y,.slice (some bd) k' c',.bool b] 91)) 91 #[.int .i64 0,.slice none 0 0,.bool false]).alloc (.cells #[.int .i64 0,.slice none 0 0,.bool false] 91);have kD:=Blk.new (((w.alloc (.cells #[.int .i64 x,.slice none k c,.bool a] 91)).alloc (.cells #[.int .i64 y,.slice (some bd) k' c',.bool b] 91)).alloc (.cells #[.int .i64 0,.slice none 0 0,.bool false] 91)) 91 #[.int .i64 0,.slice none 0 0,.bool false];simp only [World.size_alloc] at kB kC kD
   generalize (((w.alloc (.cells #[.int .i64 x,.slice none k c,.bool a] 91)).alloc (.cells #[.int .i64 y,.slice (some bd) k' c',.bool b] 91)).alloc (.cells #[.int .i64 0,.slice none 0 0,.bool false] 91)).alloc (.cells #[.int .i64 0,.slice none 0 0,.bool false] 91)=W at hA hB kB kC kD hW |-;refine (yV _ s n W hA hs).mono ?_;rintro e w1 ⟨p,rfl,hp,hb1⟩;have kB1:=kB.below hb1 kB.lt;have c0:=kB1.cell 0;have c1:=kB1.cell 1;have c2:=kB1.cell 2;simp at c0 c1 c2;go_wp2_with fail;refine (yV _ t m w1 (hB.below hb1) ht).mono ?_;rintro e w2 ⟨p',rfl,hp',hb2⟩;have hp2:=hp.below hb2;have kC2:=(kC.below hb1 kC.lt).below hb2 (kC.below hb1 kC.lt).lt;have kD2:=(kD.below hb1 kD.lt).below hb2 (kD.below hb1 kD.lt).lt;have hW2:=ext (ext hW hb1) hb2;clear hb1 hb2 hW kC kB kD kB1 c0 c1 c2 hA hB hp;go_wp2_with fail;refine (zct p p' n m w2 hp2 hp' hm0 HLN.out HLM.out).mono ?_;rintro e w3 ⟨q,r,rfl,hq,hr,hb3⟩;have kC3:=kC2.below hb3 kC2.lt;have kD3:=kD2.below hb3 kD2.lt;have hW3:=ext hW2 hb3;clear kC2 kD2 hW2 hp2 hp' hb3;go_wp2_with fail;refine (zM (s != t) q (n / m) w3 hq).mono ?_;rintro e w4 ⟨v,rfl,hv,hb4⟩;go_wp2_with fail
   refine (zM s r (n % m) w4 (hr.below hb4)).mono ?_;rintro e w5 ⟨v',rfl,hv',hb5⟩;have hv2:=hv.below hb5;obtain ⟨x',A',k2,c2',ng',rfl,_,_,_⟩:=hv2.form;obtain ⟨x3,A3,k3,c3,ng3,rfl,_,_,_⟩:=hv'.form;have kC5:=(kC3.below hb4 kC3.lt).below hb5 (kC3.below hb4 kC3.lt).lt;have kD5:=(kD3.below hb4 kD3.lt).below hb5 (kD3.below hb4 kD3.lt).lt;have hW5:=ext (ext hW3 hb4) hb5;clear kC3 kD3 hW3 hb4 hb5 hq hr hv;have c0:=kC5.cell 0;have c1:=kC5.cell 1;have c2:=kC5.cell 2;have f0:=kC5.frozen 0;have f1:=kC5.frozen 1;have f2:=kC5.frozen 2;have d0:=kD5.cell 0;have d1:=kD5.cell 1;have d2:=kD5.cell 2;have g0:=kD5.frozen 0;have g1:=kD5.frozen 1;have g2:=kD5.frozen 2;simp at c0 c1 c2 d0 d1 d2;go_wp2;have kE:=zQ (x:=x') (A:=A') (k:=k2) (c:=c2') (ng:=ng') kC5;have kF:=xk (g' :=w.heap.size+1+1) (x:=x') (A:=A') (k:=k2) (c:=c2') (ng:=ng') kD5 (by omega);have kG:=xk (g' :=w.heap.size+1+1+1) (x:=x3) (A:=A3) (k:=k3) (c:=c3) (ng:=ng3) kE (by omega);have kH:=zQ (x:=x3) (A:=A3) (k:=k3) (c:=c3) (ng:=ng3) kF;have e0:=kG.cell 0;have e1:=kG.cell 1;have e2:=kG.cell 2
   have h0:=kH.cell 0;have h1' :=kH.cell 1;have h2' :=kH.cell 2;simp at e0 e1 e2 h0 h1' h2';refine bodyPost_ret (v:=.tuple #[.agg #[.int .i64 x',.slice A' k2 c2',.bool ng'],.agg #[.int .i64 x3,.slice A3 k3 c3,.bool ng3]]) (by simp [results,Tryz.results177,go_sem,e0,e1,e2,h0,h1',h2']) rfl ?_;rw [XK,XC];exact ⟨_,_,rfl,zt (zt hv2 kC5) kF,zt (zt hv' kC5) kF,zz (zz hW5 (by omega)) (by omega)⟩
theorem YZ (va vb:Value) (z y:Int) (w:World) (ha:zE w va z) (hb:zE w vb y) (hy:y≠0) (hla:len 4294967296 z.natAbs<=33554432) (hlb:len 4294967296 y.natAbs<=33554432):
 Calls Tryz.prog 177 #[va,vb] w (zcu w (z.tdiv y) (z.tmod y)):=by
 have ha' :=ha
 have hb' :=hb
 obtain ⟨x1,A,k,c,s,rfl,h1,h2,hA⟩:=ha.form
 obtain ⟨y1,B,k',c',t,rfl,h3,h4,hB⟩:=hb.form
 by_cases hf:A=none/\B=none
 . obtain ⟨e1,e2⟩:=hf
   obtain ⟨rfl,rfl,rfl⟩:=hA e1;obtain ⟨rfl,rfl,rfl⟩:=hB e2;subst e1 e2;exact zjf z y s t w h1 h2 h3 h4 hy
 . have:=zip (decide (z<0)) (decide (y<0)) z.natAbs y.natAbs x1 y1 A B k c k' c' s t w h1 h2 h3 h4 (by rw [yw];exact ha') (by rw [yw];exact hb') vK vK (by omega) hla hlb (by
    unfold zf8
    by_cases e1:A=none
    . exact .inr ⟨e1,fun e2=>hf ⟨e1,e2⟩⟩
    . exact .inl e1)
   rwa [yw,yw] at this
theorem X9 (va vb:Value) (z y:Int) (w:World) (ha:zE w va z) (hb:zE w vb y) (hla:len 4294967296 z.natAbs<=67108864) (hlb:len 4294967296 y.natAbs<=67108864):
 Calls Tryz.prog 178 #[va,vb] w (vN w (z - y)):=by
 have ha' :=ha
 have hb' :=hb
 obtain ⟨x1,A,k,c,s,rfl,h1,h2,hA⟩:=ha'.form
 obtain ⟨y1,B,k',c',t,rfl,h3,h4,hB⟩:=hb'.form
 have hln:len 4294967296 (-y).natAbs<=67108864:=by rw [Int.natAbs_neg];exact hlb
 have HLN:=ze hln
 have HLM:=ze hla
 have hW:=zr (ext (ext (zh w (.cells #[.int .i64 x1,.slice A k c,.bool s] 91)) (zh _ (.cells #[.int .i64 y1,.slice B k' c',.bool t] 91))) (zh _ (.cells #[.int .i64 0,.slice none 0 0,.bool false] 91))) 1
 have hAW:=ha.below hW
 have hBW:=hb.below hW
 have kA:=(((Blk.new w 91 #[.int .i64 x1,.slice A k c,.bool s]).alloc (.cells #[.int .i64 y1,.slice B k' c',.bool t] 91)).alloc (.cells #[.int .i64 0,.slice none 0 0,.bool false] 91)).drewN 1
 have kC:=(Blk.new ((w.alloc (.cells #[.int .i64 x1,.slice A k c,.bool s] 91)).alloc (.cells #[.int .i64 y1,.slice B k' c',.bool t] 91)) 91 #[.int .i64 0,.slice none 0 0,.bool false]).drewN 1
 simp only [World.size_alloc] at kC
 have HW:=ze hW
 have HAW:=ze hAW
 have HBW:=ze hBW
 have HA:=ze kA
 have HC:=ze kC
 clear hW hAW hBW kA kC hln hla hlb h1 h2 h3 h4 hA hB ha hb ha' hb'
 go_enter Tryz.func178,Tryz.ntmps178
 go_wp2_with fail
 go_region_with (first
  | (go_at_call 161;refine (yz _ y _ HBW.out).mono ?_;rintro e w1 ⟨v,rfl,hv,hb1⟩;obtain ⟨x',A',k2,c2',ng',rfl,_,_,_⟩:=hv.form;have kA1:=HA.out.below hb1 HA.out.lt;have c0:=kA1.cell 0;have c1:=kA1.cell 1;have c2:=kA1.cell 2;simp at c0 c1 c2)
  | (go_at_call 133;refine (VU _ _ z (-y) _ (HAW.out.below ‹_›) ‹_› HLM.out HLN.out).mono ?_;rintro e w2 ⟨v,rfl,hv2,hb2⟩;obtain ⟨x3,A3,k3,c3,ng3,rfl,_,_,_⟩:=hv2.form;have kC2:=(HC.out.below hb1 HC.out.lt).below hb2 (HC.out.below hb1 HC.out.lt).lt;have c0:=kC2.cell 0;have c1:=kC2.cell 1;have c2:=kC2.cell 2;have f0:=kC2.frozen 0;have f1:=kC2.frozen 1;have f2:=kC2.frozen 2;simp at c0 c1 c2))
 all_goals
  go_wp2
  have kD:=zQ (x:=x3) (A:=A3) (k:=k3) (c:=c3) (ng:=ng3) kC2
  have d0:=kD.cell 0
  have d1:=kD.cell 1
  have d2:=kD.cell 2
  simp at d0 d1 d2
  refine bodyPost_ret (v:=.agg #[.int .i64 x3,.slice A3 k3 c3,.bool ng3]) (by simp [results,Tryz.results178,go_sem,d0,d1,d2]) rfl ?_
  exact ⟨_,rfl,zt (by rw [Int.sub_eq_add_neg];exact hv2) kC2,zz (ext (ext HW.out hb1) hb2) (by omega)⟩
theorem zcm (va vb:Value) (z y:Int) (w:World) (ha:zE w va z) (hb:zE w vb y) (hla:len 4294967296 z.natAbs<=67108864) (hlb:len 4294967296 y.natAbs<=67108864):
 Calls Tryz.prog 129 #[va,vb] w (zfa w (.int .i64 (zN z y))):=by
 have ha' :=ha
 have hb' :=hb
 obtain ⟨x1,A,k,c,s,rfl,h1,h2,hA⟩:=ha'.form
 obtain ⟨y1,B,k',c',t,rfl,h3,h4,hB⟩:=hb'.form
 have HLN:=ze hlb
 have HLM:=ze hla
 have hW:=ext (zh w (.cells #[.int .i64 x1,.slice A k c,.bool s] 91)) (zh _ (.cells #[.int .i64 y1,.slice B k' c',.bool t] 91))
 have HW:=ze hW
 have HAW:=ze (ha.below hW)
 have HBW:=ze (hb.below hW)
 clear hW hla hlb h1 h2 h3 h4 hA hB ha hb ha' hb'
 go_enter Tryz.func129,Tryz.ntmps129
 go_wp2_with fail
 refine (X9 _ _ z y _ HAW.out HBW.out HLM.out HLN.out).mono ?_
 rintro e w1 ⟨v,rfl,hv,hb1⟩
 go_wp2_with fail
 refine (Z0 v (z - y) w1 hv).mono ?_
 rintro e w2 ⟨rfl,hb2⟩
 go_wp2
 go_ret
 refine ⟨?_,ext (ext HW.out hb1) hb2⟩
 unfold zN
 have e1:z - y<0↔z<y:=by omega
 have e2:0<z - y↔y<z:=by omega
 simp only [e1,e2]
 rfl
theorem zix (l:List UInt8):(⟨#[45]⟩:ByteArray) ++ (⟨l.toArray⟩:ByteArray)=⟨((45:UInt8) :: l).toArray⟩:=by
 apply ByteArray.ext
 rw [ByteArray.data_append]
 simp
theorem vI {a:Nat} (h:len 4294967296 a<=67108864):(dec a).length<=671088641:=by
 unfold dec
 by_cases h0:a=0
 . rw [if_pos h0];simp
 . rw [if_neg h0,List.length_map,List.length_reverse]
   have:=Yb h;unfold len at this
   omega
def yC (z:Int):List UInt8:=if z<0 then 45 :: dec z.natAbs else dec z.natAbs
theorem Y1 (va:Value) (z:Int) (w:World) (ha:zE w va z) (hla:len 4294967296 z.natAbs<=67108864):
 Calls Tryz.prog 141 #[va] w (zgp w (yC z)):=by
 obtain ⟨x1,A,k,c,s,rfl,h1,h2,hA⟩:=ha.form
 have HLM:=ze hla
 have hW:=zh w (.cells #[.int .i64 x1,.slice A k c,.bool s] 91)
 have HW:=ze hW
 have HAW:=ze (ha.below hW)
 clear hW hla h1 h2 hA ha
 by_cases hz:z<0
 . have hp:=fun v w h=>xS v z w h
   unfold X2 at hp;rw [decide_eq_true hz] at hp;unfold yC;rw [if_pos hz]
   have hlen:¬ 9223372036854775807<1+(dec z.natAbs).length:=by
    have:=vI HLM.out
    omega
   go_enter Tryz.func141,Tryz.ntmps141
   go_wp2_with fail;refine (hp _ _ HAW.out).mono ?_;rintro e w1 ⟨v,rfl,hv,hb1⟩;go_wp2_with fail;refine (Za v _ w1 hv HLM.out).mono ?_;rintro e w2 ⟨rfl,hb2⟩;go_wp2;go_ret;refine ⟨?_,ext (ext HW.out hb1) hb2⟩;rw [zix]
   rfl
 . have hp:=fun v w h=>xS v z w h
   unfold X2 at hp;rw [decide_eq_false hz] at hp;unfold yC;rw [if_neg hz]
   go_enter Tryz.func141,Tryz.ntmps141
   go_wp2_with fail;refine (hp _ _ HAW.out).mono ?_;rintro e w1 ⟨v,rfl,hv,hb1⟩;go_wp2_with fail;refine (Za v _ w1 hv HLM.out).mono ?_;rintro e w2 ⟨rfl,hb2⟩;go_wp2;go_ret;exact ⟨rfl,ext (ext HW.out hb1) hb2⟩
end Go.Proofs.YtkmcmmcencdcpaaGreatDoor
namespace Go.Proofs.YtkmcmmcencdcpaaGreatDoor
open Go.RowKit
theorem zj {A B:Prop} (a:A) (f:A->B):A/\B:=⟨a,f a⟩
section
variable {W w w' :World}
theorem zf {g i:Nat} {v:Value} (h:Hid (Below W.heap.size W w)) (hl:g<W.heap.size) (hc:W.cell? ⟨g,i,none⟩=some v):w.cell? ⟨g,i,none⟩=some v:=(h.out.cell hl).trans hc
theorem zjs {a:Addr} {i:Nat} {v:Value} (h:Hid (Below W.heap.size W w)) (hl:a.block<W.heap.size) (hc:W.cell? (a.add i)=some v):w.cell? (a.add i)=some v:=(h.out.cell (by rw [zJ];exact hl)).trans hc
theorem XR {o:Obj} (h:Hid (Below W.heap.size W w)):Hid (Below W.heap.size W (w.alloc o)):=ext h.out (zh w o)
theorem zv (W:World):Hid (Below W.heap.size W W.drew):=zr (xz W) 1
theorem xt (W:World) (o:Obj):Hid (Below W.heap.size W (W.alloc o).drew):=zr (zh W o) 1
end
end Go.Proofs.YtkmcmmcencdcpaaGreatDoor
