/- Parts of the proof. -/
import Derived.LoopN
import Derived.Test.YthbmhkiphmcogaaGreatDoorMe09
set_option linter.all false
set_option maxRecDepth 100000
set_option maxHeartbeats 32000000
namespace Go.Proofs.YthbmhkiphmcogaaGreatDoor
open Proofs.Tryz Go.RowKit Go.Deep
def yb (w:World) (v:Value) (z:Int):Prop:=
 (∃ x ng,v= .agg #[.int .i64 x,.slice none 0 0,.bool ng]/\ -4611686018427387904<x/\x<4611686018427387904/\z=x)\/
 (∃ ad k c n ng,v= .agg #[.int .i64 0,.slice (some ad) k c,.bool ng]/\yF w (.slice (some ad) k c) n/\4611686018427387904<=n/\z=if ng=true then -(n:Int) else n)
theorem yb.below {w w' :World} {v:Value} {z:Int} (h:yb w v z) (hb:Below w.heap.size w w'):yb w' v z:=by
 rcases h with h | ⟨m,k,c,n,ng,j,e,b,l⟩
 . exact .inl h
 . exact .inr ⟨m,k,c,n,ng,j,yF.below e hb,b,l⟩
def YL (w:World) (z:Int) (e:Ending) (w' :World):Prop:=∃ v,e= .returned v/\yb w' v z/\Below w.heap.size w w'
def zch (w:World) (z:Int) (e:Ending) (w' :World):Prop:=∃ v,e= .returned (.tuple #[.bool (decide (z<0)),v])/\yF w' v z.natAbs/\Below w.heap.size w w'
theorem zvx (w:World) (a:Option Addr) (n c n' c' :Nat):(binOp .neq 51 (.slice a n c) (.slice none n' c')).run Tryz.prog w= .ok (.bool (!a.isNone)) w:=
 run_neq_slice_nil_any w _ _ a n c n' c' underlying51
theorem znp (w:World) (a:Option Addr) (n c n' c' :Nat):(binOp .eql 51 (.slice a n c) (.slice none n' c')).run Tryz.prog w= .ok (.bool a.isNone) w:=
 Lib.run_eql_slice_nil w _ _ a n c n' c' underlying51
theorem Vx (x:Int) (g:Value) (ng:Bool) (w:World) (h1: -4611686018427387904<x) (h2:x<4611686018427387904):
 Calls Tryz.prog 91 #[.agg #[.int .i64 x,g,.bool ng]] w (zfq w (.int .u64 (x.natAbs:Nat))):=by
 by_cases h:x<0
 . have e:(x.natAbs:Int)= -x:=by omega
   rw [e];clear e
   go_enter func91,ntmps91
   go_wp2;go_ret;exact ⟨by go_num,zf _ _⟩
 have e:(x.natAbs:Int)=x:=by omega
 rw [e];clear e
 go_enter func91,ntmps91
 go_wp2;go_ret;exact ⟨by go_num,zf _ _⟩
theorem X4 (v:Value) (z:Int) (w:World) (h:yb w v z):
 Calls Tryz.prog 36 #[v] w (zfq w (.int .i64 (zP z 0))):=by
 rcases h with ⟨x,ng,rfl,r,m,rfl⟩ | ⟨l,k,c,n,ng,rfl,u,e,rfl⟩
 . have j:=fun w=>zvx w none 0 0 0 0
   have b:Hid (zP z 0=if z<0 then -1 else if 0<z then 1 else 0):=rfl
   rcases Int.lt_trichotomy z 0 with h | h | h
   . go_enter func36,ntmps36
     go_wp2;go_ret;exact ⟨by rw [b.o,if_pos (by omega)];rfl,zf _ _⟩
   . subst h
     go_enter func36,ntmps36
     go_wp2;go_ret;exact ⟨by rw [b.o];rfl,zf _ _⟩
   . go_enter func36,ntmps36
     go_wp2;go_ret;exact ⟨by rw [b.o,if_neg (by omega),if_pos (by omega)];rfl,zf _ _⟩
 . have j:=fun w=>zvx w (some l) k c 0 0
   cases ng with
   | true=>
     have b:Hid (zP (if (true:Bool)=true then -(n:Int) else n) 0= -1):=by show _=_;simp only [if_true];unfold zP;rw [if_pos (by omega)]
     rw [b.o];clear e
     go_enter func36,ntmps36
     go_wp2;go_ret;exact ⟨rfl,zf _ _⟩
   | false=>
     have b:Hid (zP (if (false:Bool)=true then -(n:Int) else n) 0=1):=by show _=_;simp only [Bool.false_eq_true,if_false];unfold zP;rw [if_neg (by omega),if_pos (by omega)]
     rw [b.o];clear e
     go_enter func36,ntmps36
     go_wp2;go_ret;exact ⟨rfl,zf _ _⟩
theorem yY (v:Value) (z:Int) (w:World) (h:yb w v z):
 Calls Tryz.prog 72 #[v] w (YL w (-z)):=by
 rcases h with ⟨x,ng,rfl,B,y,rfl⟩ | ⟨b,k,c,n,ng,rfl,l,j,rfl⟩
 . have m:=fun w=>zvx w none 0 0 0 0
   go_enter func72,ntmps72
   go_wp2;refine bodyPost_ret (v:=.agg #[.int .i64 (-z),.slice none 0 0,.bool false]) (by simp [results,results72,go_sem]) rfl ?_;exact ⟨_,rfl,.inl ⟨_,_,rfl,by omega,by omega,rfl⟩,ext (zf _ _) (zf _ _)⟩
 . have m:=fun w=>zvx w (some b) k c 0 0
   have u:=ze j;clear j;have hb:Below w.heap.size w ((w.alloc (.cells #[.int .i64 0,.slice (some b) k c,.bool ng] 53)).alloc (.cells #[.int .i64 0,.slice (some b) k c,.bool (!ng)] 53)):=ext (zf _ _) (zf _ _)
   have e:yb ((w.alloc (.cells #[.int .i64 0,.slice (some b) k c,.bool ng] 53)).alloc (.cells #[.int .i64 0,.slice (some b) k c,.bool (!ng)] 53)) (.agg #[.int .i64 0,.slice (some b) k c,.bool (!ng)]) (-(if ng=true then -(n:Int) else n)):=
    .inr ⟨b,k,c,n, !ng,rfl,yF.below l hb,u.o,by cases ng<;>simp⟩
   clear l;generalize r: -(if ng=true then -(n:Int) else n)=z at e |-;clear r
   cases ng with
   | true=>
     go_enter func72,ntmps72
     go_wp2;refine bodyPost_ret (v:=.agg #[.int .i64 0,.slice (some b) k c,.bool false]) (by simp [results,results72,go_sem]) rfl ?_;exact ⟨_,rfl,e,hb⟩
   | false=>
     go_enter func72,ntmps72
     go_wp2;refine bodyPost_ret (v:=.agg #[.int .i64 0,.slice (some b) k c,.bool true]) (by simp [results,results72,go_sem]) rfl ?_;exact ⟨_,rfl,e,hb⟩
theorem zj {g i:Nat} {v:Value} {w w' :World} (hb:Below w.heap.size w w') (hl:g<w.heap.size) (h:w.cell? ⟨g,i,none⟩=some v):w'.cell? ⟨g,i,none⟩=some v:=(hb.cell hl).trans h
theorem zG {g:Nat} {w w' :World} (hb:Below w.heap.size w w') (hl:g<w.heap.size):g<w'.heap.size:=Nat.lt_of_lt_of_le hl hb.size
theorem zr {w0 w w' :World} (hb:Below w.heap.size w w') (h:Hid (Below w0.heap.size w0 w)):Hid (Below w0.heap.size w0 w'):=ext h.out hb
theorem ZB (v:Value) (z:Int) (w:World) (h:yb w v z):
 Calls Tryz.prog 77 #[v] w (zch w z):=by
 rcases h with ⟨x,ng,rfl,y,u,rfl⟩ | ⟨B,k,c,n,ng,rfl,r,C,rfl⟩
 . have E:=fun w=>zvx w none 0 0 0 0
   have I:=fun w=>Vx z (.slice none 0 0) ng w y u
   have j:z.natAbs<18446744073709551616:=by omega
   have G:=fun w=>zmu z.natAbs j w
   clear j y u
   go_enter func77,ntmps77
   go_wp2_with fail
   go_region_held3 (fun w' =>w'.cell? ⟨w.heap.size,0,none⟩=some (.int .i64 z)/\w'.cell? ⟨w.heap.size,1,none⟩=some (.slice none 0 0)/\w'.cell? ⟨w.heap.size,2,none⟩=some (.bool ng)/\w.heap.size<w'.heap.size/\Hid (Below w.heap.size w w'))
    (first
      | exact ⟨by go_keep,by go_keep,by go_keep,by go_keep,ze (zo (zf _ _) 1)⟩
      | go_keep
      | (go_split_ands;exact ⟨zj ‹_› ‹_› ‹_›,zj ‹_› ‹_› ‹_›,zj ‹_› ‹_› ‹_›,zG ‹_› ‹_›,zr ‹_› ‹_›⟩))
    (first
      | (refine (I _).mono ?_;rintro e w1 ⟨rfl,K⟩)
      | (refine (G _).mono ?_;rintro e J ⟨F,rfl,D,L⟩))
   all_goals
    go_wp2;go_ret2;go_split_ands;exact ⟨F,rfl,D,zK ‹_›⟩
 . have E:=fun w=>zvx w (some B) k c 0 0
   have m:(if ng=true then -(n:Int) else n).natAbs=n:=by cases ng<;>simp
   have l:decide ((if ng=true then -(n:Int) else n)<0)=ng:=by cases ng<;>simp<;>omega
   have b:∀ e w',(e= .returned (.tuple #[.bool ng,.slice (some B) k c])/\Below w.heap.size w w')->zch w (if ng=true then -(n:Int) else n) e w' :=by
    rintro e w' ⟨rfl,hb⟩;exact ⟨_,by rw [l],by rw [m];exact yF.below r hb,hb⟩
   refine Calls.mono ?_ b;clear m l b r C
   cases ng with
   | true=>
     go_enter func77,ntmps77
     go_wp2_with fail
     go_quiet (fail)
     go_wp2;go_ret2;exact ⟨rfl,zo (zf _ _) _⟩
   | false=>
     go_enter func77,ntmps77
     go_wp2_with fail
     go_quiet (fail)
     go_wp2;go_ret2;exact ⟨rfl,zo (zf _ _) _⟩
def signed (ng:Bool) (n:Nat):Int:=if ng=true then -(n:Int) else n
theorem zws (ng:Bool) (A:Option Addr) (c:Nat) (w:World):Calls Tryz.prog 92 #[.bool ng,.slice A 0 c] w (YL w (signed ng 0)):=by
 cases ng with
 | true=>
   go_enter func92,ntmps92
   go_wp2;refine wp_loop_rounds 1 ?_;rw [rounds_succ];go_wp2;refine bodyPost_ret (v:=.agg #[.int .i64 (0),.slice none 0 0,.bool false]) (by simp [results,results92,go_sem]) rfl ?_;exact ⟨_,rfl,.inl ⟨_,_,rfl,by omega,by omega,rfl⟩,zf _ _⟩
 | false=>
   go_enter func92,ntmps92
   go_wp2;refine wp_loop_rounds 1 ?_;rw [rounds_succ];go_wp2;refine bodyPost_ret (v:=.agg #[.int .i64 (0),.slice none 0 0,.bool false]) (by simp [results,results92,go_sem]) rfl ?_;exact ⟨_,rfl,.inl ⟨_,_,rfl,by omega,by omega,rfl⟩,zf _ _⟩
theorem zwe (ng:Bool) (ad:Addr) (c d:Nat) (w:World) (hd:d<4294967296) (hb:ad.block<w.heap.size) (hc:w.cell? ad=some (.int .u32 d)):Calls Tryz.prog 92 #[.bool ng,.slice (some ad) 1 c] w (YL w (signed ng d)):=by
 have e:bits .or .u64 0 (d:Int)=(d:Int):=by
  have:=u64_or_nat 0 d (by omega) (by omega)
  rw [Nat.zero_or] at this
  exact this
 have b:(d:Int)<4611686018427387904:=by omega
 have j:decide ((d:Int)<4611686018427387904)=true:=decide_eq_true b
 cases ng with
 | true=>
   go_enter func92,ntmps92
   go_wp2;refine wp_loop_rounds 2 ?_;rw [rounds_succ];go_wp2;rw [rounds_succ];go_wp2;refine bodyPost_ret (v:=.agg #[.int .i64 (-d),.slice none 0 0,.bool false]) (by simp [results,results92,go_sem]) rfl ?_;exact ⟨_,rfl,.inl ⟨_,_,rfl,by omega,by omega,rfl⟩,zf _ _⟩
 | false=>
   go_enter func92,ntmps92
   go_wp2;refine wp_loop_rounds 2 ?_;rw [rounds_succ];go_wp2;rw [rounds_succ];go_wp2;refine bodyPost_ret (v:=.agg #[.int .i64 (d),.slice none 0 0,.bool false]) (by simp [results,results92,go_sem]) rfl ?_;exact ⟨_,rfl,.inl ⟨_,_,rfl,by omega,by omega,rfl⟩,zf _ _⟩
theorem ztl (x y:Nat) (hx:x<4294967296) (hy:y<4294967296):bits .or .u64 (x:Int) ((y:Int)*4294967296)=((x+y*4294967296:Nat):Int):=by
 have:=u64_or_nat x (y*4294967296) (by omega) (by omega)
 rw [Int.natCast_mul] at this
 have j:(2:Nat) ^ 32=4294967296:=by decide
 have e:=zbo (n:=32) (a:=y) (b:=x) (by omega)
 rw [j,Nat.mul_comm] at e
 rw [e] at this
 exact this
theorem zwc (ng:Bool) (ad:Addr) (c d e V:Nat) (w:World) (hd:d<4294967296) (he:e<4294967296) (hV:V=d+e*4294967296) (hb:ad.block<w.heap.size) (hc:w.cell? ad=some (.int .u32 d))
 (hc1:w.cell? ⟨ad.block,ad.off+1,none⟩=some (.int .u32 e)) (hlt:V<4611686018427387904):Calls Tryz.prog 92 #[.bool ng,.slice (some ad) 2 c] w (YL w (signed ng V)):=by
 have l:bits .or .u64 0 (d:Int)=(d:Int):=by
  have:=u64_or_nat 0 d (by omega) (by omega)
  rw [Nat.zero_or] at this
  exact this
 have j:bits .or .u64 (d:Int) ((e:Int)*4294967296)=(V:Int):=by rw [ztl d e hd he,hV]
 clear hV
 have b:(V:Int)<4611686018427387904:=by omega
 have m:decide ((V:Int)<4611686018427387904)=true:=decide_eq_true b
 cases ng with
 | true=>
   go_enter func92,ntmps92
   go_wp2;refine wp_loop_rounds 3 ?_;rw [rounds_succ];go_wp2;rw [rounds_succ];go_wp2;rw [rounds_succ];go_wp2;refine bodyPost_ret (v:=.agg #[.int .i64 (-V),.slice none 0 0,.bool false]) (by simp [results,results92,go_sem]) rfl ?_;exact ⟨_,rfl,.inl ⟨_,_,rfl,by omega,by omega,rfl⟩,zf _ _⟩
 | false=>
   go_enter func92,ntmps92
   go_wp2;refine wp_loop_rounds 3 ?_;rw [rounds_succ];go_wp2;rw [rounds_succ];go_wp2;rw [rounds_succ];go_wp2;refine bodyPost_ret (v:=.agg #[.int .i64 (V),.slice none 0 0,.bool false]) (by simp [results,results92,go_sem]) rfl ?_;exact ⟨_,rfl,.inl ⟨_,_,rfl,by omega,by omega,rfl⟩,zf _ _⟩
theorem zuj (ng:Bool) (ad:Addr) (c d e V n:Nat) (w:World) (hd:d<4294967296) (he:e<4294967296) (hV:V=d+e*4294967296) (hb:ad.block<w.heap.size) (hc:w.cell? ad=some (.int .u32 d))
 (hc1:w.cell? ⟨ad.block,ad.off+1,none⟩=some (.int .u32 e)) (hge:4611686018427387904<=V) (hn:yF w (.slice (some ad) 2 c) n) (HG:Hid (4611686018427387904<=n)):Calls Tryz.prog 92 #[.bool ng,.slice (some ad) 2 c] w (YL w (signed ng n)):=by
 have j:bits .or .u64 0 (d:Int)=(d:Int):=by
  have:=u64_or_nat 0 d (by omega) (by omega)
  rw [Nat.zero_or] at this
  exact this
 have b:bits .or .u64 (d:Int) ((e:Int)*4294967296)=(V:Int):=by rw [ztl d e hd he,hV]
 clear hV
 have l:decide ((V:Int)<4611686018427387904)=false:=decide_eq_false (by omega)
 cases ng with
 | true=>
   go_enter func92,ntmps92
   go_wp2;refine wp_loop_rounds 3 ?_;rw [rounds_succ];go_wp2;rw [rounds_succ];go_wp2;rw [rounds_succ];go_wp2;refine bodyPost_ret (v:=.agg #[.int .i64 0,.slice (some ad) 2 c,.bool true]) (by simp [results,results92,go_sem]) rfl ?_;exact ⟨_,rfl,yb.below (w:=w) (.inr ⟨ad,2,c,n,true,rfl,hn,HG.o,rfl⟩) (zf _ _),zf _ _⟩
 | false=>
   go_enter func92,ntmps92
   go_wp2;refine wp_loop_rounds 3 ?_;rw [rounds_succ];go_wp2;rw [rounds_succ];go_wp2;rw [rounds_succ];go_wp2;refine bodyPost_ret (v:=.agg #[.int .i64 0,.slice (some ad) 2 c,.bool false]) (by simp [results,results92,go_sem]) rfl ?_;exact ⟨_,rfl,yb.below (w:=w) (.inr ⟨ad,2,c,n,false,rfl,hn,HG.o,rfl⟩) (zf _ _),zf _ _⟩
theorem zw0 (ng:Bool) (ad:Addr) (k c n:Nat) (w:World) (hk:3<=k) (hn:yF w (.slice (some ad) k c) n) (HG:Hid (4611686018427387904<=n)):Calls Tryz.prog 92 #[.bool ng,.slice (some ad) k c] w (YL w (signed ng n)):=by
 have b:¬ (k:Int)<=2:=by omega
 cases ng with
 | true=>
   go_enter func92,ntmps92
   go_wp2;refine bodyPost_ret (v:=.agg #[.int .i64 0,.slice (some ad) k c,.bool true]) (by simp [results,results92,go_sem]) rfl ?_;exact ⟨_,rfl,yb.below (w:=w) (.inr ⟨ad,k,c,n,true,rfl,hn,HG.o,rfl⟩) (zf _ _),zf _ _⟩
 | false=>
   go_enter func92,ntmps92
   go_wp2;refine bodyPost_ret (v:=.agg #[.int .i64 0,.slice (some ad) k c,.bool false]) (by simp [results,results92,go_sem]) rfl ?_;exact ⟨_,rfl,yb.below (w:=w) (.inr ⟨ad,k,c,n,false,rfl,hn,HG.o,rfl⟩) (zf _ _),zf _ _⟩
theorem ym (ng:Bool) (v:Value) (n:Nat) (w:World) (h:yF w v n):Calls Tryz.prog 92 #[.bool ng,v] w (YL w (signed ng n)):=by
 have B:=h
 obtain ⟨A,c,ds,rfl,O,N,b,j,rfl⟩:=h
 rcases Nat.lt_or_ge ds.length 3 with r | r
 . match ds,j,b,B with
   | [],_,_,_=>exact zws ng A c w
   | [d],j,b,_=>
     obtain ⟨l,u,rfl,hb,m,y⟩:=b.at_ (k:=0) (by simp)
     simp [XY] at m
     subst m;rw [YM];exact zwe ng l c d w (j.1.get 0 (by simp)) hb (by simpa [Addr.add] using y)
   | [d,e],j,b,B=>
     obtain ⟨l,u,rfl,hb,m,y⟩:=b.at_ (k:=0) (by simp);obtain ⟨L,M,C,K,D,E⟩:=b.at_ (k:=1) (by simp);injection C with C
     subst C
     simp [XY] at m D
     subst m D;have F:val 4294967296 [d,e]=d+e*4294967296:=by simp only [val];omega
     have hd:=j.1.get 0 (by simp);have G:=j.1.get 1 (by simp)
     rcases Nat.lt_or_ge (d+e*4294967296) 4611686018427387904 with z | z
     . rw [F]
       exact zwc ng l c d e _ w hd G rfl hb (by simpa [Addr.add] using y) (by simpa [Addr.add] using E) z
     . exact zuj ng l c d e _ _ w hd G rfl hb (by simpa [Addr.add] using y) (by simpa [Addr.add] using E) z B (ze (by rw [F];exact z))
   | _ :: _ :: _ :: _,_,_,_=>simp at r;omega
 . obtain ⟨l,u,rfl,hb,m,y⟩:=b.at_ (k:=0) (by omega)
   refine zw0 ng l _ c _ w r B (ze ?_);have Q:=j.ge (by intro e;rw [e] at r;simp at r);have J:4294967296 ^ 2<=4294967296 ^ (ds.length - 1):=Nat.pow_le_pow_right (by omega) (by omega);have I:(4294967296:Nat) ^ 2=18446744073709551616:=by decide
   rw [I] at J
   omega
theorem yb.form {w:World} {v:Value} {z:Int} (h:yb w v z):∃ (x:Int) (A:Option Addr) (k c:Nat) (ng:Bool),v= .agg #[.int .i64 x,.slice A k c,.bool ng]/\
 -4611686018427387904<x/\x<4611686018427387904/\(A=none->k=0/\c=0/\z=x):=by
 rcases h with ⟨x,ng,rfl,e,b,rfl⟩ | ⟨m,k,c,n,ng,rfl,l,j,rfl⟩
 . exact ⟨_,_,_,_,_,rfl,e,b,fun _=>⟨rfl,rfl,rfl⟩⟩
 . exact ⟨_,_,_,_,_,rfl,by omega,by omega,fun h=>by cases h⟩
def Ze (cs:Array Value):Prop:=∀ (i:Nat) (d:Int),cs[i]?≠some (.int .u32 d)
theorem V1 (x:Int) (A:Option Addr) (k c:Nat) (ng:Bool):Ze #[.int .i64 x,.slice A k c,.bool ng]:=by
 intro i d h
 match i with
 | 0=>simp at h
 | 1=>simp at h
 | 2=>simp at h
 | i+3=>simp at h
theorem yF.stored {w w' :World} {g:Nat} {t:TypeId} {cs:Array Value} {v:Value} {n:Nat} (h:yF w v n) (hb:Blk w g t cs) (hno:Ze cs)
 (hk:∀ p:Addr,p.block≠g->w'.cell? p=w.cell? p) (hs:w.heap.size<=w'.heap.size):yF w' v n:=by
 obtain ⟨A,c',ds,rfl,D,C,l,E,B⟩:=h
 refine ⟨A,c',ds,rfl,D,C,⟨l.1,?_⟩,E,B⟩
 intro r
 obtain ⟨y,rfl,F,m⟩:=l.2 r
 have z:y.block≠g:=by
  intro e
  have b:=m 0 _ (xb r)
  unfold World.cell? at b
  rw [zz,e,show w.heap[g]?=_ from hb] at b
  simp only at b
  split at b
  . cases b
  exact hno _ _ b
 exact ⟨y,rfl,by omega,fun j u hu=>(hk _ (by rw [zz];exact z)).trans (m j u hu)⟩
theorem yb.stored {w w' :World} {g:Nat} {t:TypeId} {cs:Array Value} {v:Value} {z:Int} (h:yb w v z) (hb:Blk w g t cs) (hno:Ze cs)
 (hk:∀ p:Addr,p.block≠g->w'.cell? p=w.cell? p) (hs:w.heap.size<=w'.heap.size):yb w' v z:=by
 rcases h with h | ⟨m,k,c,n,ng,j,e,b,l⟩
 . exact .inl h
 . exact .inr ⟨m,k,c,n,ng,j,e.stored hb hno hk hs,b,l⟩
abbrev World.num (w:World) (g:Nat) (x:Int) (A:Option Addr) (k c:Nat) (ng:Bool):World:=
 ((w.setCell ⟨g,0,none⟩ (.int .i64 x)).setCell ⟨g,1,none⟩ (.slice A k c)).setCell ⟨g,2,none⟩ (.bool ng)
theorem zC {W:World} {g:Nat} {t:TypeId} {x x0:Int} {A A0:Option Addr} {k c k0 c0:Nat} {ng n0:Bool} {v:Value} {z:Int} (hv:yb W v z) (hk:Blk W g t #[.int .i64 x0,.slice A0 k0 c0,.bool n0]):
 yb (World.num W g x A k c ng) v z:=by
 refine hv.stored hk (V1 _ _ _ _ _) ?_ (by simp [World.num,World.setCell])
 intro p b
 simp only [World.num]
 rw [World.cell?_of_block (Below.heap_setCell _ _ _ _ (by exact b)),World.cell?_of_block (Below.heap_setCell _ _ _ _ (by exact b)),World.cell?_of_block (Below.heap_setCell _ _ _ _ (by exact b))]
theorem zW {w W:World} {g:Nat} {x:Int} {A:Option Addr} {k c:Nat} {ng:Bool} (h:Below w.heap.size w W) (hg:w.heap.size<=g):Below w.heap.size w (World.num W g x A k c ng):=
 ((h.setCell hg _).setCell hg _).setCell hg _
theorem ys {W:World} {g:Nat} {t:TypeId} {x x0:Int} {A A0:Option Addr} {k c k0 c0:Nat} {ng n0:Bool} (hk:Blk W g t #[.int .i64 x0,.slice A0 k0 c0,.bool n0]):
 Blk (World.num W g x A k c ng) g t #[.int .i64 x,.slice A k c,.bool ng]:=((hk.set_ 0 _).set_ 1 _).set_ 2 _
theorem xj (z:Int):signed (decide (z<0)) z.natAbs=z:=by
 unfold signed
 by_cases h:z<0
 . rw [decide_eq_true h,if_pos rfl];omega
 rw [decide_eq_false h];simp only [Bool.false_eq_true,if_false];omega
theorem zsw (x y:Int) (a b:Bool) (w:World) (h1: -4611686018427387904<x) (h2:x<4611686018427387904) (h3: -4611686018427387904<y) (h4:y<4611686018427387904) (hs1: -4611686018427387904<x+y) (hs2:x+y<4611686018427387904):
 Calls Tryz.prog 56 #[.agg #[.int .i64 x,.slice none 0 0,.bool a],.agg #[.int .i64 y,.slice none 0 0,.bool b]] w (YL w (x+y)):=by
 have j:=fun w=>znp w none 0 0 0 0
 have d1:decide ((x+y:Int)> -4611686018427387904)=true:=decide_eq_true hs1
 have e:decide ((x+y:Int)<4611686018427387904)=true:=decide_eq_true hs2
 go_enter func56,ntmps56
 go_wp2
 refine bodyPost_ret (v:=.agg #[.int .i64 (x+y),.slice none 0 0,.bool false]) (by simp [results,results56,go_sem]) rfl ?_
 exact ⟨_,rfl,.inl ⟨_,_,rfl,by omega,by omega,rfl⟩,ext (ext (zf _ _) (zf _ _)) (zf _ _)⟩
theorem v8 (v:Value) (s:Bool) (n:Nat) (w:World) (h:yb w v (signed s n)) (h0:s=true->0<n):
 Calls Tryz.prog 77 #[v] w (fun e w' =>∃ p,e= .returned (.tuple #[.bool s,p])/\yF w' p n/\Below w.heap.size w w'):=by
 refine (ZB v _ w h).mono ?_
 rintro e w' ⟨p,rfl,b,m⟩
 have l:decide (signed s n<0)=s:=by
  cases s with
  | true=>exact decide_eq_true (by have:=h0 rfl;unfold signed;rw [if_pos rfl];omega)
  | false=>exact decide_eq_false (by unfold signed;simp only [Bool.false_eq_true,if_false];omega)
 have j:(signed s n).natAbs=n:=by cases s<;>unfold signed<;>simp
 rw [l]
 rw [j] at b
 exact ⟨p,rfl,b,m⟩
theorem zcl (s:Bool) (n m:Nat):signed s n+signed s m=signed s (n+m):=by cases s<;>unfold signed<;>simp<;>omega
theorem zb7 {s t:Bool} {n m:Nat} (h:¬ s=t) (hle:m<=n):signed s n+signed t m=signed s (n - m):=by cases s<;>cases t<;>simp at h<;>unfold signed<;>simp<;>omega
theorem zln {s t:Bool} {n m:Nat} (h:¬ s=t) (hle:n<=m):signed s n+signed t m=signed t (m - n):=by cases s<;>cases t<;>simp at h<;>unfold signed<;>simp<;>omega
def zo2 (x y:Int) (A B:Option Addr):Prop:=A≠none\/(A=none/\B≠none)\/(A=none/\B=none/\4611686018427387904<=x+y)\/(A=none/\B=none/\x+y<= -4611686018427387904)
theorem zs0 (s t:Bool) (n m:Nat) (x y:Int) (A B:Option Addr) (k c k' c' :Nat) (a b:Bool) (w:World) (h1: -4611686018427387904<x) (h2:x<4611686018427387904) (h3: -4611686018427387904<y) (h4:y<4611686018427387904)
 (ha:yb w (.agg #[.int .i64 x,.slice A k c,.bool a]) (signed s n)) (hb:yb w (.agg #[.int .i64 y,.slice B k' c',.bool b]) (signed t m)) (hs:s=true->0<n) (ht:t=true->0<m)
 (hln:len 4294967296 n<=67108864) (hlm:len 4294967296 m<=67108864) (hsl:zo2 x y A B):
 Calls Tryz.prog 56 #[.agg #[.int .i64 x,.slice A k c,.bool a],.agg #[.int .i64 y,.slice B k' c',.bool b]] w (YL w (signed s n+signed t m)):=by
 have q1:=fun w=>znp w A k c 0 0
 have q2:=fun w=>znp w B k' c' 0 0
 have ac:=ze hln
 have ae:=ze hlm
 clear hln hlm
 rcases hsl with h | ⟨h,h'⟩ | ⟨h,h',h5⟩ | ⟨h,h',h5⟩
 . obtain ⟨ad,rfl⟩:=Option.ne_none_iff_exists'.1 h
   clear h
   go_enter func56,ntmps56
   go_wp2_with fail;have Z:=(ext (ext (zf w (.cells #[.int .i64 x,.slice (some ad) k c,.bool a] 53)) (zf _ (.cells #[.int .i64 y,.slice B k' c',.bool b] 53))) (zf _ (.cells #[.int .i64 0,.slice none 0 0,.bool false] 53)));have hA:=ha.below Z;have hB:=hb.below Z;have Y:=(Blk.new (w.alloc (.cells #[.int .i64 x,.slice (some ad) k c,.bool a] 53)) 53 #[.int .i64 y,.slice B k' c',.bool b]).alloc (.cells #[.int .i64 0,.slice none 0 0,.bool false] 53);have T:=Blk.new ((w.alloc (.cells #[.int .i64 x,.slice (some ad) k c,.bool a] 53)).alloc (.cells #[.int .i64 y,.slice B k' c',.bool b] 53)) 53 #[.int .i64 0,.slice none 0 0,.bool false];simp only [World.size_alloc] at Y T;generalize ((w.alloc (.cells #[.int .i64 x,.slice (some ad) k c,.bool a] 53)).alloc (.cells #[.int .i64 y,.slice B k' c',.bool b] 53)).alloc (.cells #[.int .i64 0,.slice none 0 0,.bool false] 53)=W at hA hB Y T Z |-;refine (v8 _ s n W hA hs).mono ?_;rintro e w1 ⟨p,rfl,hp,U⟩;have aa:=Y.below U Y.lt;have J:=aa.cell 0;have c1:=aa.cell 1;have c2:=aa.cell 2;simp at J c1 c2;go_wp2_with fail;refine (v8 _ t m w1 (hB.below U) ht).mono ?_
   rintro e K ⟨X,rfl,M,ab⟩;have N:=hp.below ab;have l:=(T.below U T.lt).below ab (T.below U T.lt).lt;have R:=ext (ext Z U) ab;clear U ab Z T Y aa J c1 c2 hA hB hp
   by_cases V:s=t
   . subst V
     go_wp2_with fail;refine (zdf p X n m K N M ac.o ae.o).mono ?_;rintro e w3 ⟨q,rfl,Q,z⟩;go_wp2_with fail;refine (ym s q (n+m) w3 Q).mono ?_;rintro e w4 ⟨v,rfl,D,G⟩;obtain ⟨E,A',k2,I,F,rfl,_,_,_⟩:=D.form;have j:=(l.below z l.lt).below G (l.below z l.lt).lt;have S:=ext (ext R z) G;have J:=j.cell 0;have c1:=j.cell 1;have c2:=j.cell 2;have f0:=j.frozen 0;have f1:=j.frozen 1;have f2:=j.frozen 2;simp at J c1 c2;go_wp2;have u:=ys (x:=E) (A:=A') (k:=k2) (c:=I) (ng:=F) j;have d0:=u.cell 0;have d1:=u.cell 1;have C:=u.cell 2;simp at d0 d1 C;refine bodyPost_ret (v:=.agg #[.int .i64 E,.slice A' k2 I,.bool F]) (by simp [results,results56,go_sem,d0,d1,C]) rfl ?_;exact ⟨_,rfl,zC (by rw [zcl];exact D) j,zW S (by omega)⟩
   have aj :(s == t)=false:=beq_eq_false_iff_ne.2 V
   go_wp2_with fail;refine (VI p X n m K N M ac.o ae.o).mono ?_;rintro e w3 ⟨rfl,r,rfl⟩;have ag:=N.below (zD K r);have ai:=M.below (zD K r);have af:=l.drewN r;have ah:=zo R r;clear N M l R;generalize K.drewN r=K at ag ai af ah |-;have N:=ag;have M :=ai;have l:=af;have R:=ah
   rcases Nat.lt_trichotomy n m with L | L | L
   . have O:zP (n:Int) (m:Int)= -1:=by unfold zP;rw [if_pos (by omega)]
     rw [O];clear O;go_wp2_with fail;refine (Yj X p m n K M N ae.o (Nat.le_of_lt L)).mono ?_;rintro e w3 ⟨q,rfl,Q,z⟩;go_wp2_with fail;refine (ym t q (m - n) w3 Q).mono ?_;rintro e w4 ⟨v,rfl,D,G⟩;obtain ⟨E,A',k2,I,F,rfl,_,_,_⟩:=D.form;have j:=(l.below z l.lt).below G (l.below z l.lt).lt;have S:=ext (ext R z) G;have J:=j.cell 0;have c1:=j.cell 1;have c2:=j.cell 2;have f0:=j.frozen 0;have f1:=j.frozen 1;have f2:=j.frozen 2;simp at J c1 c2;go_wp2;have u:=ys (x:=E) (A:=A') (k:=k2) (c:=I) (ng:=F) j;have d0:=u.cell 0;have d1:=u.cell 1;have C:=u.cell 2;simp at d0 d1 C;refine bodyPost_ret (v:=.agg #[.int .i64 E,.slice A' k2 I,.bool F]) (by simp [results,results56,go_sem,d0,d1,C]) rfl ?_;exact ⟨_,rfl,zC (by rw [zln V (Nat.le_of_lt L)];exact D) j,zW S (by omega)⟩
   . have O:zP (n:Int) (m:Int)=0:=by unfold zP;rw [if_neg (by omega),if_neg (by omega)]
     rw [O];clear O;go_wp2_with fail;refine (Yj p X n m K N M ac.o (Nat.le_of_eq L.symm)).mono ?_;rintro e w3 ⟨q,rfl,Q,z⟩;go_wp2_with fail;refine (ym s q (n - m) w3 Q).mono ?_;rintro e w4 ⟨v,rfl,D,G⟩;obtain ⟨E,A',k2,I,F,rfl,_,_,_⟩:=D.form;have j:=(l.below z l.lt).below G (l.below z l.lt).lt;have S:=ext (ext R z) G;have J:=j.cell 0;have c1:=j.cell 1;have c2:=j.cell 2;have f0:=j.frozen 0;have f1:=j.frozen 1;have f2:=j.frozen 2;simp at J c1 c2;go_wp2;have u:=ys (x:=E) (A:=A') (k:=k2) (c:=I) (ng:=F) j;have d0:=u.cell 0;have d1:=u.cell 1;have C:=u.cell 2;simp at d0 d1 C;refine bodyPost_ret (v:=.agg #[.int .i64 E,.slice A' k2 I,.bool F]) (by simp [results,results56,go_sem,d0,d1,C]) rfl ?_;exact ⟨_,rfl,zC (by rw [zb7 V (Nat.le_of_eq L.symm)];exact D) j,zW S (by omega)⟩
   . have O:zP (n:Int) (m:Int)=1:=by unfold zP;rw [if_neg (by omega),if_pos (by omega)]
     rw [O];clear O;go_wp2_with fail;refine (Yj p X n m K N M ac.o (Nat.le_of_lt L)).mono ?_;rintro e w3 ⟨q,rfl,Q,z⟩;go_wp2_with fail;refine (ym s q (n - m) w3 Q).mono ?_;rintro e w4 ⟨v,rfl,D,G⟩;obtain ⟨E,A',k2,I,F,rfl,_,_,_⟩:=D.form;have j:=(l.below z l.lt).below G (l.below z l.lt).lt;have S:=ext (ext R z) G;have J:=j.cell 0;have c1:=j.cell 1;have c2:=j.cell 2;have f0:=j.frozen 0;have f1:=j.frozen 1;have f2:=j.frozen 2;simp at J c1 c2;go_wp2;have u:=ys (x:=E) (A:=A') (k:=k2) (c:=I) (ng:=F) j;have d0:=u.cell 0;have d1:=u.cell 1;have C:=u.cell 2;simp at d0 d1 C;refine bodyPost_ret (v:=.agg #[.int .i64 E,.slice A' k2 I,.bool F]) (by simp [results,results56,go_sem,d0,d1,C]) rfl ?_;exact ⟨_,rfl,zC (by rw [zb7 V (Nat.le_of_lt L)];exact D) j,zW S (by omega)⟩
 . obtain ⟨bd,rfl⟩:=Option.ne_none_iff_exists'.1 h'
   subst h;clear h'
   go_enter func56,ntmps56
   go_wp2_with fail;have Z:=(ext (ext (zf w (.cells #[.int .i64 x,.slice none k c,.bool a] 53)) (zf _ (.cells #[.int .i64 y,.slice (some bd) k' c',.bool b] 53))) (zf _ (.cells #[.int .i64 0,.slice none 0 0,.bool false] 53)));have hA:=ha.below Z;have hB:=hb.below Z;have Y:=(Blk.new (w.alloc (.cells #[.int .i64 x,.slice none k c,.bool a] 53)) 53 #[.int .i64 y,.slice (some bd) k' c',.bool b]).alloc (.cells #[.int .i64 0,.slice none 0 0,.bool false] 53);have T:=Blk.new ((w.alloc (.cells #[.int .i64 x,.slice none k c,.bool a] 53)).alloc (.cells #[.int .i64 y,.slice (some bd) k' c',.bool b] 53)) 53 #[.int .i64 0,.slice none 0 0,.bool false];simp only [World.size_alloc] at Y T;generalize ((w.alloc (.cells #[.int .i64 x,.slice none k c,.bool a] 53)).alloc (.cells #[.int .i64 y,.slice (some bd) k' c',.bool b] 53)).alloc (.cells #[.int .i64 0,.slice none 0 0,.bool false] 53)=W at hA hB Y T Z |-;refine (v8 _ s n W hA hs).mono ?_;rintro e w1 ⟨p,rfl,hp,U⟩;have aa:=Y.below U Y.lt;have J:=aa.cell 0;have c1:=aa.cell 1;have c2:=aa.cell 2;simp at J c1 c2;go_wp2_with fail
   refine (v8 _ t m w1 (hB.below U) ht).mono ?_;rintro e K ⟨X,rfl,M,ab⟩;have N:=hp.below ab;have l:=(T.below U T.lt).below ab (T.below U T.lt).lt;have R:=ext (ext Z U) ab;clear U ab Z T Y aa J c1 c2 hA hB hp
   by_cases V:s=t
   . subst V
     go_wp2_with fail;refine (zdf p X n m K N M ac.o ae.o).mono ?_;rintro e w3 ⟨q,rfl,Q,z⟩;go_wp2_with fail;refine (ym s q (n+m) w3 Q).mono ?_;rintro e w4 ⟨v,rfl,D,G⟩;obtain ⟨E,A',k2,I,F,rfl,_,_,_⟩:=D.form;have j:=(l.below z l.lt).below G (l.below z l.lt).lt;have S:=ext (ext R z) G;have J:=j.cell 0;have c1:=j.cell 1;have c2:=j.cell 2;have f0:=j.frozen 0;have f1:=j.frozen 1;have f2:=j.frozen 2;simp at J c1 c2;go_wp2;have u:=ys (x:=E) (A:=A') (k:=k2) (c:=I) (ng:=F) j;have d0:=u.cell 0;have d1:=u.cell 1;have C:=u.cell 2;simp at d0 d1 C;refine bodyPost_ret (v:=.agg #[.int .i64 E,.slice A' k2 I,.bool F]) (by simp [results,results56,go_sem,d0,d1,C]) rfl ?_;exact ⟨_,rfl,zC (by rw [zcl];exact D) j,zW S (by omega)⟩
   have aj :(s == t)=false:=beq_eq_false_iff_ne.2 V
   go_wp2_with fail;refine (VI p X n m K N M ac.o ae.o).mono ?_;rintro e w3 ⟨rfl,r,rfl⟩;have ag:=N.below (zD K r);have ai:=M.below (zD K r);have af:=l.drewN r;have ah:=zo R r;clear N M l R;generalize K.drewN r=K at ag ai af ah |-;have N:=ag;have M :=ai;have l:=af;have R:=ah
   rcases Nat.lt_trichotomy n m with L | L | L
   . have O:zP (n:Int) (m:Int)= -1:=by unfold zP;rw [if_pos (by omega)]
     rw [O];clear O;go_wp2_with fail;refine (Yj X p m n K M N ae.o (Nat.le_of_lt L)).mono ?_;rintro e w3 ⟨q,rfl,Q,z⟩;go_wp2_with fail;refine (ym t q (m - n) w3 Q).mono ?_;rintro e w4 ⟨v,rfl,D,G⟩;obtain ⟨E,A',k2,I,F,rfl,_,_,_⟩:=D.form;have j:=(l.below z l.lt).below G (l.below z l.lt).lt;have S:=ext (ext R z) G;have J:=j.cell 0;have c1:=j.cell 1;have c2:=j.cell 2;have f0:=j.frozen 0;have f1:=j.frozen 1;have f2:=j.frozen 2;simp at J c1 c2;go_wp2;have u:=ys (x:=E) (A:=A') (k:=k2) (c:=I) (ng:=F) j;have d0:=u.cell 0;have d1:=u.cell 1;have C:=u.cell 2;simp at d0 d1 C;refine bodyPost_ret (v:=.agg #[.int .i64 E,.slice A' k2 I,.bool F]) (by simp [results,results56,go_sem,d0,d1,C]) rfl ?_;exact ⟨_,rfl,zC (by rw [zln V (Nat.le_of_lt L)];exact D) j,zW S (by omega)⟩
   . have O:zP (n:Int) (m:Int)=0:=by unfold zP;rw [if_neg (by omega),if_neg (by omega)]
     rw [O];clear O;go_wp2_with fail;refine (Yj p X n m K N M ac.o (Nat.le_of_eq L.symm)).mono ?_;rintro e w3 ⟨q,rfl,Q,z⟩;go_wp2_with fail;refine (ym s q (n - m) w3 Q).mono ?_;rintro e w4 ⟨v,rfl,D,G⟩;obtain ⟨E,A',k2,I,F,rfl,_,_,_⟩:=D.form;have j:=(l.below z l.lt).below G (l.below z l.lt).lt;have S:=ext (ext R z) G;have J:=j.cell 0;have c1:=j.cell 1;have c2:=j.cell 2;have f0:=j.frozen 0;have f1:=j.frozen 1;have f2:=j.frozen 2;simp at J c1 c2;go_wp2;have u:=ys (x:=E) (A:=A') (k:=k2) (c:=I) (ng:=F) j;have d0:=u.cell 0;have d1:=u.cell 1;have C:=u.cell 2;simp at d0 d1 C;refine bodyPost_ret (v:=.agg #[.int .i64 E,.slice A' k2 I,.bool F]) (by simp [results,results56,go_sem,d0,d1,C]) rfl ?_;exact ⟨_,rfl,zC (by rw [zb7 V (Nat.le_of_eq L.symm)];exact D) j,zW S (by omega)⟩
   . have O:zP (n:Int) (m:Int)=1:=by unfold zP;rw [if_neg (by omega),if_pos (by omega)]
     rw [O];clear O;go_wp2_with fail;refine (Yj p X n m K N M ac.o (Nat.le_of_lt L)).mono ?_;rintro e w3 ⟨q,rfl,Q,z⟩;go_wp2_with fail;refine (ym s q (n - m) w3 Q).mono ?_;rintro e w4 ⟨v,rfl,D,G⟩;obtain ⟨E,A',k2,I,F,rfl,_,_,_⟩:=D.form;have j:=(l.below z l.lt).below G (l.below z l.lt).lt;have S:=ext (ext R z) G;have J:=j.cell 0;have c1:=j.cell 1;have c2:=j.cell 2;have f0:=j.frozen 0;have f1:=j.frozen 1;have f2:=j.frozen 2;simp at J c1 c2;go_wp2;have u:=ys (x:=E) (A:=A') (k:=k2) (c:=I) (ng:=F) j;have d0:=u.cell 0;have d1:=u.cell 1;have C:=u.cell 2;simp at d0 d1 C;refine bodyPost_ret (v:=.agg #[.int .i64 E,.slice A' k2 I,.bool F]) (by simp [results,results56,go_sem,d0,d1,C]) rfl ?_;exact ⟨_,rfl,zC (by rw [zb7 V (Nat.le_of_lt L)];exact D) j,zW S (by omega)⟩
 . subst h h'
   have d1:decide ((x+y:Int)> -4611686018427387904)=true:=decide_eq_true (by omega);have C:decide ((x+y:Int)<4611686018427387904)=false:=decide_eq_false (by omega);clear h5
   go_enter func56,ntmps56
   go_wp2_with fail;have Z:=(ext (ext (zf w (.cells #[.int .i64 x,.slice none k c,.bool a] 53)) (zf _ (.cells #[.int .i64 y,.slice none k' c',.bool b] 53))) (zf _ (.cells #[.int .i64 0,.slice none 0 0,.bool false] 53)));have hA:=ha.below Z;have hB:=hb.below Z;have Y:=(Blk.new (w.alloc (.cells #[.int .i64 x,.slice none k c,.bool a] 53)) 53 #[.int .i64 y,.slice none k' c',.bool b]).alloc (.cells #[.int .i64 0,.slice none 0 0,.bool false] 53);have T:=Blk.new ((w.alloc (.cells #[.int .i64 x,.slice none k c,.bool a] 53)).alloc (.cells #[.int .i64 y,.slice none k' c',.bool b] 53)) 53 #[.int .i64 0,.slice none 0 0,.bool false];simp only [World.size_alloc] at Y T;generalize ((w.alloc (.cells #[.int .i64 x,.slice none k c,.bool a] 53)).alloc (.cells #[.int .i64 y,.slice none k' c',.bool b] 53)).alloc (.cells #[.int .i64 0,.slice none 0 0,.bool false] 53)=W at hA hB Y T Z |-;refine (v8 _ s n W hA hs).mono ?_;rintro e w1 ⟨p,rfl,hp,U⟩;have aa:=Y.below U Y.lt;have J:=aa.cell 0;have c1:=aa.cell 1;have c2:=aa.cell 2;simp at J c1 c2;go_wp2_with fail;refine (v8 _ t m w1 (hB.below U) ht).mono ?_
   rintro e K ⟨X,rfl,M,ab⟩;have N:=hp.below ab;have l:=(T.below U T.lt).below ab (T.below U T.lt).lt;have R:=ext (ext Z U) ab;clear U ab Z T Y aa J c1 c2 hA hB hp
   by_cases V:s=t
   . subst V
     go_wp2_with fail;refine (zdf p X n m K N M ac.o ae.o).mono ?_;rintro e w3 ⟨q,rfl,Q,z⟩;go_wp2_with fail;refine (ym s q (n+m) w3 Q).mono ?_;rintro e w4 ⟨v,rfl,D,G⟩;obtain ⟨E,A',k2,I,F,rfl,_,_,_⟩:=D.form;have j:=(l.below z l.lt).below G (l.below z l.lt).lt;have S:=ext (ext R z) G;have J:=j.cell 0;have c1:=j.cell 1;have c2:=j.cell 2;have f0:=j.frozen 0;have f1:=j.frozen 1;have f2:=j.frozen 2;simp at J c1 c2;go_wp2;have u:=ys (x:=E) (A:=A') (k:=k2) (c:=I) (ng:=F) j;have d0:=u.cell 0;have d1:=u.cell 1;have C:=u.cell 2;simp at d0 d1 C;refine bodyPost_ret (v:=.agg #[.int .i64 E,.slice A' k2 I,.bool F]) (by simp [results,results56,go_sem,d0,d1,C]) rfl ?_;exact ⟨_,rfl,zC (by rw [zcl];exact D) j,zW S (by omega)⟩
   have aj :(s == t)=false:=beq_eq_false_iff_ne.2 V
   go_wp2_with fail;refine (VI p X n m K N M ac.o ae.o).mono ?_;rintro e w3 ⟨rfl,r,rfl⟩;have ag:=N.below (zD K r);have ai:=M.below (zD K r);have af:=l.drewN r;have ah:=zo R r;clear N M l R;generalize K.drewN r=K at ag ai af ah |-;have N:=ag;have M :=ai;have l:=af;have R:=ah
   rcases Nat.lt_trichotomy n m with L | L | L
   . have O:zP (n:Int) (m:Int)= -1:=by unfold zP;rw [if_pos (by omega)]
     rw [O];clear O;go_wp2_with fail;refine (Yj X p m n K M N ae.o (Nat.le_of_lt L)).mono ?_;rintro e w3 ⟨q,rfl,Q,z⟩;go_wp2_with fail;refine (ym t q (m - n) w3 Q).mono ?_;rintro e w4 ⟨v,rfl,D,G⟩;obtain ⟨E,A',k2,I,F,rfl,_,_,_⟩:=D.form;have j:=(l.below z l.lt).below G (l.below z l.lt).lt;have S:=ext (ext R z) G;have J:=j.cell 0;have c1:=j.cell 1;have c2:=j.cell 2;have f0:=j.frozen 0;have f1:=j.frozen 1;have f2:=j.frozen 2;simp at J c1 c2;go_wp2;have u:=ys (x:=E) (A:=A') (k:=k2) (c:=I) (ng:=F) j;have d0:=u.cell 0;have d1:=u.cell 1;have C:=u.cell 2;simp at d0 d1 C;refine bodyPost_ret (v:=.agg #[.int .i64 E,.slice A' k2 I,.bool F]) (by simp [results,results56,go_sem,d0,d1,C]) rfl ?_;exact ⟨_,rfl,zC (by rw [zln V (Nat.le_of_lt L)];exact D) j,zW S (by omega)⟩
   . have O:zP (n:Int) (m:Int)=0:=by unfold zP;rw [if_neg (by omega),if_neg (by omega)]
     rw [O];clear O;go_wp2_with fail;refine (Yj p X n m K N M ac.o (Nat.le_of_eq L.symm)).mono ?_;rintro e w3 ⟨q,rfl,Q,z⟩;go_wp2_with fail;refine (ym s q (n - m) w3 Q).mono ?_;rintro e w4 ⟨v,rfl,D,G⟩;obtain ⟨E,A',k2,I,F,rfl,_,_,_⟩:=D.form;have j:=(l.below z l.lt).below G (l.below z l.lt).lt;have S:=ext (ext R z) G;have J:=j.cell 0;have c1:=j.cell 1;have c2:=j.cell 2;have f0:=j.frozen 0;have f1:=j.frozen 1;have f2:=j.frozen 2;simp at J c1 c2;go_wp2;have u:=ys (x:=E) (A:=A') (k:=k2) (c:=I) (ng:=F) j;have d0:=u.cell 0;have d1:=u.cell 1;have C:=u.cell 2;simp at d0 d1 C;refine bodyPost_ret (v:=.agg #[.int .i64 E,.slice A' k2 I,.bool F]) (by simp [results,results56,go_sem,d0,d1,C]) rfl ?_;exact ⟨_,rfl,zC (by rw [zb7 V (Nat.le_of_eq L.symm)];exact D) j,zW S (by omega)⟩
   . have O:zP (n:Int) (m:Int)=1:=by unfold zP;rw [if_neg (by omega),if_pos (by omega)]
     rw [O];clear O;go_wp2_with fail;refine (Yj p X n m K N M ac.o (Nat.le_of_lt L)).mono ?_;rintro e w3 ⟨q,rfl,Q,z⟩;go_wp2_with fail;refine (ym s q (n - m) w3 Q).mono ?_;rintro e w4 ⟨v,rfl,D,G⟩;obtain ⟨E,A',k2,I,F,rfl,_,_,_⟩:=D.form;have j:=(l.below z l.lt).below G (l.below z l.lt).lt;have S:=ext (ext R z) G;have J:=j.cell 0;have c1:=j.cell 1;have c2:=j.cell 2;have f0:=j.frozen 0;have f1:=j.frozen 1;have f2:=j.frozen 2;simp at J c1 c2;go_wp2;have u:=ys (x:=E) (A:=A') (k:=k2) (c:=I) (ng:=F) j;have d0:=u.cell 0;have d1:=u.cell 1;have C:=u.cell 2;simp at d0 d1 C;refine bodyPost_ret (v:=.agg #[.int .i64 E,.slice A' k2 I,.bool F]) (by simp [results,results56,go_sem,d0,d1,C]) rfl ?_;exact ⟨_,rfl,zC (by rw [zb7 V (Nat.le_of_lt L)];exact D) j,zW S (by omega)⟩
 . subst h h'
   have d1:decide ((x+y:Int)> -4611686018427387904)=false:=decide_eq_false (by omega);clear h5
   go_enter func56,ntmps56
   go_wp2_with fail;have Z:=(ext (ext (zf w (.cells #[.int .i64 x,.slice none k c,.bool a] 53)) (zf _ (.cells #[.int .i64 y,.slice none k' c',.bool b] 53))) (zf _ (.cells #[.int .i64 0,.slice none 0 0,.bool false] 53)));have hA:=ha.below Z;have hB:=hb.below Z;have Y:=(Blk.new (w.alloc (.cells #[.int .i64 x,.slice none k c,.bool a] 53)) 53 #[.int .i64 y,.slice none k' c',.bool b]).alloc (.cells #[.int .i64 0,.slice none 0 0,.bool false] 53);have T:=Blk.new ((w.alloc (.cells #[.int .i64 x,.slice none k c,.bool a] 53)).alloc (.cells #[.int .i64 y,.slice none k' c',.bool b] 53)) 53 #[.int .i64 0,.slice none 0 0,.bool false];simp only [World.size_alloc] at Y T;generalize ((w.alloc (.cells #[.int .i64 x,.slice none k c,.bool a] 53)).alloc (.cells #[.int .i64 y,.slice none k' c',.bool b] 53)).alloc (.cells #[.int .i64 0,.slice none 0 0,.bool false] 53)=W at hA hB Y T Z |-;refine (v8 _ s n W hA hs).mono ?_;rintro e w1 ⟨p,rfl,hp,U⟩;have aa:=Y.below U Y.lt;have J:=aa.cell 0;have c1:=aa.cell 1;have c2:=aa.cell 2;simp at J c1 c2;go_wp2_with fail;refine (v8 _ t m w1 (hB.below U) ht).mono ?_
   rintro e K ⟨X,rfl,M,ab⟩;have N:=hp.below ab;have l:=(T.below U T.lt).below ab (T.below U T.lt).lt;have R:=ext (ext Z U) ab;clear U ab Z T Y aa J c1 c2 hA hB hp
   by_cases V:s=t
   . subst V
     go_wp2_with fail;refine (zdf p X n m K N M ac.o ae.o).mono ?_;rintro e w3 ⟨q,rfl,Q,z⟩;go_wp2_with fail;refine (ym s q (n+m) w3 Q).mono ?_;rintro e w4 ⟨v,rfl,D,G⟩;obtain ⟨E,A',k2,I,F,rfl,_,_,_⟩:=D.form;have j:=(l.below z l.lt).below G (l.below z l.lt).lt;have S:=ext (ext R z) G;have J:=j.cell 0;have c1:=j.cell 1;have c2:=j.cell 2;have f0:=j.frozen 0;have f1:=j.frozen 1;have f2:=j.frozen 2;simp at J c1 c2;go_wp2;have u:=ys (x:=E) (A:=A') (k:=k2) (c:=I) (ng:=F) j;have d0:=u.cell 0;have d1:=u.cell 1;have C:=u.cell 2;simp at d0 d1 C;refine bodyPost_ret (v:=.agg #[.int .i64 E,.slice A' k2 I,.bool F]) (by simp [results,results56,go_sem,d0,d1,C]) rfl ?_;exact ⟨_,rfl,zC (by rw [zcl];exact D) j,zW S (by omega)⟩
   have aj :(s == t)=false:=beq_eq_false_iff_ne.2 V
   go_wp2_with fail;refine (VI p X n m K N M ac.o ae.o).mono ?_;rintro e w3 ⟨rfl,r,rfl⟩;have ag:=N.below (zD K r);have ai:=M.below (zD K r);have af:=l.drewN r;have ah:=zo R r;clear N M l R;generalize K.drewN r=K at ag ai af ah |-;have N:=ag;have M :=ai;have l:=af;have R:=ah
   rcases Nat.lt_trichotomy n m with L | L | L
   . have O:zP (n:Int) (m:Int)= -1:=by unfold zP;rw [if_pos (by omega)]
     rw [O];clear O;go_wp2_with fail;refine (Yj X p m n K M N ae.o (Nat.le_of_lt L)).mono ?_;rintro e w3 ⟨q,rfl,Q,z⟩;go_wp2_with fail;refine (ym t q (m - n) w3 Q).mono ?_;rintro e w4 ⟨v,rfl,D,G⟩;obtain ⟨E,A',k2,I,F,rfl,_,_,_⟩:=D.form;have j:=(l.below z l.lt).below G (l.below z l.lt).lt;have S:=ext (ext R z) G;have J:=j.cell 0;have c1:=j.cell 1;have c2:=j.cell 2;have f0:=j.frozen 0;have f1:=j.frozen 1;have f2:=j.frozen 2;simp at J c1 c2;go_wp2;have u:=ys (x:=E) (A:=A') (k:=k2) (c:=I) (ng:=F) j;have d0:=u.cell 0;have d1:=u.cell 1;have C:=u.cell 2;simp at d0 d1 C;refine bodyPost_ret (v:=.agg #[.int .i64 E,.slice A' k2 I,.bool F]) (by simp [results,results56,go_sem,d0,d1,C]) rfl ?_;exact ⟨_,rfl,zC (by rw [zln V (Nat.le_of_lt L)];exact D) j,zW S (by omega)⟩
   . have O:zP (n:Int) (m:Int)=0:=by unfold zP;rw [if_neg (by omega),if_neg (by omega)]
     rw [O];clear O;go_wp2_with fail;refine (Yj p X n m K N M ac.o (Nat.le_of_eq L.symm)).mono ?_;rintro e w3 ⟨q,rfl,Q,z⟩;go_wp2_with fail;refine (ym s q (n - m) w3 Q).mono ?_;rintro e w4 ⟨v,rfl,D,G⟩;obtain ⟨E,A',k2,I,F,rfl,_,_,_⟩:=D.form;have j:=(l.below z l.lt).below G (l.below z l.lt).lt;have S:=ext (ext R z) G;have J:=j.cell 0;have c1:=j.cell 1;have c2:=j.cell 2;have f0:=j.frozen 0;have f1:=j.frozen 1;have f2:=j.frozen 2;simp at J c1 c2;go_wp2;have u:=ys (x:=E) (A:=A') (k:=k2) (c:=I) (ng:=F) j;have d0:=u.cell 0;have d1:=u.cell 1;have C:=u.cell 2;simp at d0 d1 C;refine bodyPost_ret (v:=.agg #[.int .i64 E,.slice A' k2 I,.bool F]) (by simp [results,results56,go_sem,d0,d1,C]) rfl ?_;exact ⟨_,rfl,zC (by rw [zb7 V (Nat.le_of_eq L.symm)];exact D) j,zW S (by omega)⟩
   . have O:zP (n:Int) (m:Int)=1:=by unfold zP;rw [if_neg (by omega),if_pos (by omega)]
     rw [O];clear O;go_wp2_with fail;refine (Yj p X n m K N M ac.o (Nat.le_of_lt L)).mono ?_;rintro e w3 ⟨q,rfl,Q,z⟩;go_wp2_with fail;refine (ym s q (n - m) w3 Q).mono ?_;rintro e w4 ⟨v,rfl,D,G⟩;obtain ⟨E,A',k2,I,F,rfl,_,_,_⟩:=D.form;have j:=(l.below z l.lt).below G (l.below z l.lt).lt;have S:=ext (ext R z) G;have J:=j.cell 0;have c1:=j.cell 1;have c2:=j.cell 2;have f0:=j.frozen 0;have f1:=j.frozen 1;have f2:=j.frozen 2;simp at J c1 c2;go_wp2;have u:=ys (x:=E) (A:=A') (k:=k2) (c:=I) (ng:=F) j;have d0:=u.cell 0;have d1:=u.cell 1;have C:=u.cell 2;simp at d0 d1 C;refine bodyPost_ret (v:=.agg #[.int .i64 E,.slice A' k2 I,.bool F]) (by simp [results,results56,go_sem,d0,d1,C]) rfl ?_;exact ⟨_,rfl,zC (by rw [zb7 V (Nat.le_of_lt L)];exact D) j,zW S (by omega)⟩
theorem Y8 {z:Int}:decide (z<0)=true->0<z.natAbs:=by
 intro h
 have:=of_decide_eq_true h
 omega
theorem zgn (va vb:Value) (z y:Int) (w:World) (ha:yb w va z) (hb:yb w vb y) (hla:len 4294967296 z.natAbs<=67108864) (hlb:len 4294967296 y.natAbs<=67108864):
 Calls Tryz.prog 56 #[va,vb] w (YL w (z+y)):=by
 have E :=ha
 have I :=hb
 obtain ⟨e,A,k,c,s,rfl,u,r,F⟩:=ha.form
 obtain ⟨j,B,k',c',t,rfl,m,C,K⟩:=hb.form
 by_cases D:A=none/\B=none/\ -4611686018427387904<e+j/\e+j<4611686018427387904
 . obtain ⟨b,l,G,J⟩:=D
   obtain ⟨rfl,rfl,rfl⟩:=F b;obtain ⟨rfl,rfl,rfl⟩:=K l;subst b l;exact zsw z y s t w u r m C G J
 have:=zs0 (decide (z<0)) (decide (y<0)) z.natAbs y.natAbs e j A B k c k' c' s t w u r m C (by rw [xj];exact E) (by rw [xj];exact I) Y8 Y8 hla hlb (by
  unfold zo2
  by_cases b:A=none
  . by_cases l:B=none
    rotate_left
    . exact .inr (.inl ⟨b,l⟩)
    have:¬ (-4611686018427387904<e+j/\e+j<4611686018427387904):=fun h=>D ⟨b,l,h⟩
    rcases (show -4611686018427387904<e+j\/e+j<= -4611686018427387904 by omega) with h | h
    . exact .inr (.inr (.inl ⟨b,l,by omega⟩))
    . exact .inr (.inr (.inr ⟨b,l,by omega⟩))
  . exact .inl b)
 rwa [xj,xj] at this
theorem Xl (s t:Bool) (n m:Nat):signed s n*signed t m=signed (s != t) (n*m):=by
 cases s<;>cases t<;>unfold signed<;>simp [Int.neg_mul,Int.mul_neg,Int.natCast_mul]
theorem ZW {w w' :World} {g:Nat} {t:TypeId} {cs:Array Value} (hb:Below w.heap.size w w') (h:Hid (Blk w g t cs)):Hid (Blk w' g t cs):=h.out.below hb h.out.lt
theorem zrn (x y:Int) (a b:Bool) (P:Nat) (w:World) (h1: -4611686018427387904<x) (h2:x<4611686018427387904) (h3: -4611686018427387904<y) (h4:y<4611686018427387904) (hP:P=x.natAbs*y.natAbs) (hP2:P<4611686018427387904):
 Calls Tryz.prog 55 #[.agg #[.int .i64 x,.slice none 0 0,.bool a],.agg #[.int .i64 y,.slice none 0 0,.bool b]] w (YL w (x*y)):=by
 have T:=fun w=>znp w none 0 0 0 0
 have J:=fun w=>Vx x (.slice none 0 0) a w h1 h2
 have K:=fun w=>Vx y (.slice none 0 0) b w h3 h4
 have I:=fun w=>zhk x.natAbs y.natAbs (by omega) (by omega) w
 rw [<- hP,Nat.div_eq_of_lt (by omega),Nat.mod_eq_of_lt (by omega)] at I
 have O:x*y=signed (decide (x<0) != decide (y<0)) P:=by rw [hP, <- Xl,xj,xj]
 rw [O]
 clear O hP h1 h2 h3 h4
 have S:decide ((P:Int)<4611686018427387904)=true:=decide_eq_true (by omega)
 have D:=ze hP2
 have R:(P:Int)<4611686018427387904:=by omega
 clear hP2
 have Q:=Int.natCast_nonneg P
 rcases (show x<0\/¬ x<0 by omega) with C | C
 . rcases (show y<0\/¬ y<0 by omega) with z | z
   . have m:(decide (x<0) != decide (y<0))=false:=by rw [decide_eq_true C,decide_eq_true z];rfl
     rw [m];clear m;have M:decide (x<0)=true:=decide_eq_true C;have L:decide (y<0)=true:=decide_eq_true z;have G:=(ext (ext (zf w (.cells #[.int .i64 x,.slice none 0 0,.bool a] 53)) (zf _ (.cells #[.int .i64 y,.slice none 0 0,.bool b] 53))) (zf _ (.cells #[.int .i64 0,.slice none 0 0,.bool false] 53)));have u:=(Blk.new (w.alloc (.cells #[.int .i64 x,.slice none 0 0,.bool a] 53)) 53 #[.int .i64 y,.slice none 0 0,.bool b]).alloc (.cells #[.int .i64 0,.slice none 0 0,.bool false] 53);have B:=Blk.new ((w.alloc (.cells #[.int .i64 x,.slice none 0 0,.bool a] 53)).alloc (.cells #[.int .i64 y,.slice none 0 0,.bool b] 53)) 53 #[.int .i64 0,.slice none 0 0,.bool false];simp only [World.size_alloc] at u B
     go_enter func55,ntmps55
     go_wp2_with fail
     go_region_held3 (fun w' =>w'.cell? ⟨w.heap.size,0,none⟩=some (.int .i64 x)/\w'.cell? ⟨w.heap.size,1,none⟩=some (.slice none 0 0)/\w'.cell? ⟨w.heap.size,2,none⟩=some (.bool a)/\
      w'.cell? ⟨w.heap.size+1,0,none⟩=some (.int .i64 y)/\w'.cell? ⟨w.heap.size+1,1,none⟩=some (.slice none 0 0)/\w'.cell? ⟨w.heap.size+1,2,none⟩=some (.bool b)/\
      w.heap.size<w'.heap.size/\w.heap.size+1<w'.heap.size/\Hid (Blk w' (w.heap.size+1) 53 #[.int .i64 y,.slice none 0 0,.bool b])/\Hid (Blk w' (w.heap.size+1+1) 53 #[.int .i64 0,.slice none 0 0,.bool false])/\Hid (Below w.heap.size w w'))
      (first
        | exact ⟨by go_keep,by go_keep,by go_keep,by go_keep,by go_keep,by go_keep,by simp;omega,by simp,ze (u.drewN 1),ze (B.drewN 1),ze (zo G 1)⟩
        | go_keep
        | (go_split_ands;exact ⟨zj ‹_› ‹_› ‹_›,zj ‹_› ‹_› ‹_›,zj ‹_› ‹_› ‹_›,zj ‹_› ‹_› ‹_›,zj ‹_› ‹_› ‹_›,zj ‹_› ‹_› ‹_›,zG ‹_› ‹_›,zG ‹_› ‹_›,ZW ‹_› ‹_›,ZW ‹_› ‹_›,zr ‹_› ‹_›⟩))
      (first
        | (go_at_call_of 91 (Value.agg #[Value.int .i64 x,.slice none 0 0,.bool a]);refine (J _).mono ?_;rintro e w1 ⟨rfl,E⟩)
        | (go_at_call_of 91 (Value.agg #[Value.int .i64 y,.slice none 0 0,.bool b]);refine (K _).mono ?_;rintro e w1 ⟨rfl,E⟩)
        | (go_at_call 95;refine (I _).mono ?_;rintro e w1 ⟨rfl,rfl⟩))
     go_split_ands;have j:=zK (by assumption:Hid (Blk _ (w.heap.size+1+1) _ _));have F:=j.cell 0;have c1:=j.cell 1;have c2:=j.cell 2;have N:=j.frozen 0;have f1:=j.frozen 1;have f2:=j.frozen 2;simp at F c1 c2;go_wp2;have l:=ys (x:=P) (A:=none) (k:=0) (c:=0) (ng:=false) j;have d0:=l.cell 0;have d1:=l.cell 1;have r:=l.cell 2;simp at d0 d1 r;refine bodyPost_ret (v:=.agg #[.int .i64 (P),.slice none 0 0,.bool false]) (by simp [results,results55,go_sem,d0,d1,r]) rfl ?_;exact ⟨_,rfl,.inl ⟨_,_,rfl,by have:=D.o;omega,by have:=D.o;omega,rfl⟩,zW (zK ‹_›) (by omega)⟩
   . have m:(decide (x<0) != decide (y<0))=true:=by rw [decide_eq_true C,decide_eq_false z];rfl
     rw [m];clear m;have M:decide (x<0)=true:=decide_eq_true C;have L:decide (y<0)=false:=decide_eq_false z;have G:=(ext (ext (zf w (.cells #[.int .i64 x,.slice none 0 0,.bool a] 53)) (zf _ (.cells #[.int .i64 y,.slice none 0 0,.bool b] 53))) (zf _ (.cells #[.int .i64 0,.slice none 0 0,.bool false] 53)));have u:=(Blk.new (w.alloc (.cells #[.int .i64 x,.slice none 0 0,.bool a] 53)) 53 #[.int .i64 y,.slice none 0 0,.bool b]).alloc (.cells #[.int .i64 0,.slice none 0 0,.bool false] 53);have B:=Blk.new ((w.alloc (.cells #[.int .i64 x,.slice none 0 0,.bool a] 53)).alloc (.cells #[.int .i64 y,.slice none 0 0,.bool b] 53)) 53 #[.int .i64 0,.slice none 0 0,.bool false];simp only [World.size_alloc] at u B
     go_enter func55,ntmps55
     go_wp2_with fail
     go_region_held3 (fun w' =>w'.cell? ⟨w.heap.size,0,none⟩=some (.int .i64 x)/\w'.cell? ⟨w.heap.size,1,none⟩=some (.slice none 0 0)/\w'.cell? ⟨w.heap.size,2,none⟩=some (.bool a)/\
      w'.cell? ⟨w.heap.size+1,0,none⟩=some (.int .i64 y)/\w'.cell? ⟨w.heap.size+1,1,none⟩=some (.slice none 0 0)/\w'.cell? ⟨w.heap.size+1,2,none⟩=some (.bool b)/\
      w.heap.size<w'.heap.size/\w.heap.size+1<w'.heap.size/\Hid (Blk w' (w.heap.size+1) 53 #[.int .i64 y,.slice none 0 0,.bool b])/\Hid (Blk w' (w.heap.size+1+1) 53 #[.int .i64 0,.slice none 0 0,.bool false])/\Hid (Below w.heap.size w w'))
      (first
        | exact ⟨by go_keep,by go_keep,by go_keep,by go_keep,by go_keep,by go_keep,by simp;omega,by simp,ze (u.drewN 1),ze (B.drewN 1),ze (zo G 1)⟩
        | go_keep
        | (go_split_ands;exact ⟨zj ‹_› ‹_› ‹_›,zj ‹_› ‹_› ‹_›,zj ‹_› ‹_› ‹_›,zj ‹_› ‹_› ‹_›,zj ‹_› ‹_› ‹_›,zj ‹_› ‹_› ‹_›,zG ‹_› ‹_›,zG ‹_› ‹_›,ZW ‹_› ‹_›,ZW ‹_› ‹_›,zr ‹_› ‹_›⟩))
      (first
        | (go_at_call_of 91 (Value.agg #[Value.int .i64 x,.slice none 0 0,.bool a]);refine (J _).mono ?_;rintro e w1 ⟨rfl,E⟩)
        | (go_at_call_of 91 (Value.agg #[Value.int .i64 y,.slice none 0 0,.bool b]);refine (K _).mono ?_;rintro e w1 ⟨rfl,E⟩)
        | (go_at_call 95;refine (I _).mono ?_;rintro e w1 ⟨rfl,rfl⟩))
     go_split_ands;have j:=zK (by assumption:Hid (Blk _ (w.heap.size+1+1) _ _));have F:=j.cell 0;have c1:=j.cell 1;have c2:=j.cell 2;have N:=j.frozen 0;have f1:=j.frozen 1;have f2:=j.frozen 2;simp at F c1 c2;go_wp2;have l:=ys (x:= -P) (A:=none) (k:=0) (c:=0) (ng:=false) j;have d0:=l.cell 0;have d1:=l.cell 1;have r:=l.cell 2;simp at d0 d1 r;refine bodyPost_ret (v:=.agg #[.int .i64 (-P),.slice none 0 0,.bool false]) (by simp [results,results55,go_sem,d0,d1,r]) rfl ?_;exact ⟨_,rfl,.inl ⟨_,_,rfl,by have:=D.o;omega,by have:=D.o;omega,rfl⟩,zW (zK ‹_›) (by omega)⟩
 . rcases (show y<0\/¬ y<0 by omega) with z | z
   . have m:(decide (x<0) != decide (y<0))=true:=by rw [decide_eq_false C,decide_eq_true z];rfl
     rw [m];clear m;have M:decide (x<0)=false:=decide_eq_false C;have L:decide (y<0)=true:=decide_eq_true z;have G:=(ext (ext (zf w (.cells #[.int .i64 x,.slice none 0 0,.bool a] 53)) (zf _ (.cells #[.int .i64 y,.slice none 0 0,.bool b] 53))) (zf _ (.cells #[.int .i64 0,.slice none 0 0,.bool false] 53)));have u:=(Blk.new (w.alloc (.cells #[.int .i64 x,.slice none 0 0,.bool a] 53)) 53 #[.int .i64 y,.slice none 0 0,.bool b]).alloc (.cells #[.int .i64 0,.slice none 0 0,.bool false] 53);have B:=Blk.new ((w.alloc (.cells #[.int .i64 x,.slice none 0 0,.bool a] 53)).alloc (.cells #[.int .i64 y,.slice none 0 0,.bool b] 53)) 53 #[.int .i64 0,.slice none 0 0,.bool false];simp only [World.size_alloc] at u B
     go_enter func55,ntmps55
     go_wp2_with fail
     go_region_held3 (fun w' =>w'.cell? ⟨w.heap.size,0,none⟩=some (.int .i64 x)/\w'.cell? ⟨w.heap.size,1,none⟩=some (.slice none 0 0)/\w'.cell? ⟨w.heap.size,2,none⟩=some (.bool a)/\
      w'.cell? ⟨w.heap.size+1,0,none⟩=some (.int .i64 y)/\w'.cell? ⟨w.heap.size+1,1,none⟩=some (.slice none 0 0)/\w'.cell? ⟨w.heap.size+1,2,none⟩=some (.bool b)/\
      w.heap.size<w'.heap.size/\w.heap.size+1<w'.heap.size/\Hid (Blk w' (w.heap.size+1) 53 #[.int .i64 y,.slice none 0 0,.bool b])/\Hid (Blk w' (w.heap.size+1+1) 53 #[.int .i64 0,.slice none 0 0,.bool false])/\Hid (Below w.heap.size w w'))
      (first
        | exact ⟨by go_keep,by go_keep,by go_keep,by go_keep,by go_keep,by go_keep,by simp;omega,by simp,ze (u.drewN 1),ze (B.drewN 1),ze (zo G 1)⟩
        | go_keep
        | (go_split_ands;exact ⟨zj ‹_› ‹_› ‹_›,zj ‹_› ‹_› ‹_›,zj ‹_› ‹_› ‹_›,zj ‹_› ‹_› ‹_›,zj ‹_› ‹_› ‹_›,zj ‹_› ‹_› ‹_›,zG ‹_› ‹_›,zG ‹_› ‹_›,ZW ‹_› ‹_›,ZW ‹_› ‹_›,zr ‹_› ‹_›⟩))
      (first
        | (go_at_call_of 91 (Value.agg #[Value.int .i64 x,.slice none 0 0,.bool a]);refine (J _).mono ?_;rintro e w1 ⟨rfl,E⟩)
        | (go_at_call_of 91 (Value.agg #[Value.int .i64 y,.slice none 0 0,.bool b]);refine (K _).mono ?_;rintro e w1 ⟨rfl,E⟩)
        | (go_at_call 95;refine (I _).mono ?_;rintro e w1 ⟨rfl,rfl⟩))
     go_split_ands;have j:=zK (by assumption:Hid (Blk _ (w.heap.size+1+1) _ _));have F:=j.cell 0;have c1:=j.cell 1;have c2:=j.cell 2;have N:=j.frozen 0;have f1:=j.frozen 1;have f2:=j.frozen 2;simp at F c1 c2;go_wp2;have l:=ys (x:= -P) (A:=none) (k:=0) (c:=0) (ng:=false) j;have d0:=l.cell 0;have d1:=l.cell 1;have r:=l.cell 2;simp at d0 d1 r;refine bodyPost_ret (v:=.agg #[.int .i64 (-P),.slice none 0 0,.bool false]) (by simp [results,results55,go_sem,d0,d1,r]) rfl ?_;exact ⟨_,rfl,.inl ⟨_,_,rfl,by have:=D.o;omega,by have:=D.o;omega,rfl⟩,zW (zK ‹_›) (by omega)⟩
   . have m:(decide (x<0) != decide (y<0))=false:=by rw [decide_eq_false C,decide_eq_false z];rfl
     rw [m];clear m;have M:decide (x<0)=false:=decide_eq_false C;have L:decide (y<0)=false:=decide_eq_false z;have G:=(ext (ext (zf w (.cells #[.int .i64 x,.slice none 0 0,.bool a] 53)) (zf _ (.cells #[.int .i64 y,.slice none 0 0,.bool b] 53))) (zf _ (.cells #[.int .i64 0,.slice none 0 0,.bool false] 53)));have u:=(Blk.new (w.alloc (.cells #[.int .i64 x,.slice none 0 0,.bool a] 53)) 53 #[.int .i64 y,.slice none 0 0,.bool b]).alloc (.cells #[.int .i64 0,.slice none 0 0,.bool false] 53);have B:=Blk.new ((w.alloc (.cells #[.int .i64 x,.slice none 0 0,.bool a] 53)).alloc (.cells #[.int .i64 y,.slice none 0 0,.bool b] 53)) 53 #[.int .i64 0,.slice none 0 0,.bool false];simp only [World.size_alloc] at u B
     go_enter func55,ntmps55
     go_wp2_with fail
     go_region_held3 (fun w' =>w'.cell? ⟨w.heap.size,0,none⟩=some (.int .i64 x)/\w'.cell? ⟨w.heap.size,1,none⟩=some (.slice none 0 0)/\w'.cell? ⟨w.heap.size,2,none⟩=some (.bool a)/\
      w'.cell? ⟨w.heap.size+1,0,none⟩=some (.int .i64 y)/\w'.cell? ⟨w.heap.size+1,1,none⟩=some (.slice none 0 0)/\w'.cell? ⟨w.heap.size+1,2,none⟩=some (.bool b)/\
      w.heap.size<w'.heap.size/\w.heap.size+1<w'.heap.size/\Hid (Blk w' (w.heap.size+1) 53 #[.int .i64 y,.slice none 0 0,.bool b])/\Hid (Blk w' (w.heap.size+1+1) 53 #[.int .i64 0,.slice none 0 0,.bool false])/\Hid (Below w.heap.size w w'))
      (first
        | exact ⟨by go_keep,by go_keep,by go_keep,by go_keep,by go_keep,by go_keep,by simp;omega,by simp,ze (u.drewN 1),ze (B.drewN 1),ze (zo G 1)⟩
        | go_keep
        | (go_split_ands;exact ⟨zj ‹_› ‹_› ‹_›,zj ‹_› ‹_› ‹_›,zj ‹_› ‹_› ‹_›,zj ‹_› ‹_› ‹_›,zj ‹_› ‹_› ‹_›,zj ‹_› ‹_› ‹_›,zG ‹_› ‹_›,zG ‹_› ‹_›,ZW ‹_› ‹_›,ZW ‹_› ‹_›,zr ‹_› ‹_›⟩))
      (first
        | (go_at_call_of 91 (Value.agg #[Value.int .i64 x,.slice none 0 0,.bool a]);refine (J _).mono ?_;rintro e w1 ⟨rfl,E⟩)
        | (go_at_call_of 91 (Value.agg #[Value.int .i64 y,.slice none 0 0,.bool b]);refine (K _).mono ?_;rintro e w1 ⟨rfl,E⟩)
        | (go_at_call 95;refine (I _).mono ?_;rintro e w1 ⟨rfl,rfl⟩))
     go_split_ands;have j:=zK (by assumption:Hid (Blk _ (w.heap.size+1+1) _ _));have F:=j.cell 0;have c1:=j.cell 1;have c2:=j.cell 2;have N:=j.frozen 0;have f1:=j.frozen 1;have f2:=j.frozen 2;simp at F c1 c2;go_wp2;have l:=ys (x:=P) (A:=none) (k:=0) (c:=0) (ng:=false) j;have d0:=l.cell 0;have d1:=l.cell 1;have r:=l.cell 2;simp at d0 d1 r;refine bodyPost_ret (v:=.agg #[.int .i64 (P),.slice none 0 0,.bool false]) (by simp [results,results55,go_sem,d0,d1,r]) rfl ?_;exact ⟨_,rfl,.inl ⟨_,_,rfl,by have:=D.o;omega,by have:=D.o;omega,rfl⟩,zW (zK ‹_›) (by omega)⟩
def zn4 (x y:Int) (A B:Option Addr):Prop:=A≠none\/(A=none/\B≠none)\/(A=none/\B=none/\4611686018427387904<=x.natAbs*y.natAbs)
theorem zrl (s t:Bool) (n m:Nat) (x y:Int) (A B:Option Addr) (k c k' c' :Nat) (a b:Bool) (w:World) (h1: -4611686018427387904<x) (h2:x<4611686018427387904) (h3: -4611686018427387904<y) (h4:y<4611686018427387904)
 (hA0:A=none->k=0/\c=0) (hB0:B=none->k' =0/\c' =0)
 (ha:yb w (.agg #[.int .i64 x,.slice A k c,.bool a]) (signed s n)) (hb:yb w (.agg #[.int .i64 y,.slice B k' c',.bool b]) (signed t m)) (hs:s=true->0<n) (ht:t=true->0<m)
 (hln:len 4294967296 n<=67108864) (hlm:len 4294967296 m<=67108864) (hsl:zn4 x y A B):
 Calls Tryz.prog 55 #[.agg #[.int .i64 x,.slice A k c,.bool a],.agg #[.int .i64 y,.slice B k' c',.bool b]] w (YL w (signed s n*signed t m)):=by
 have q1:=fun w=>znp w A k c 0 0
 have q2:=fun w=>znp w B k' c' 0 0
 have ae:=ze hln
 have af:=ze hlm
 clear hln hlm
 rcases hsl with h | ⟨h,h'⟩ | ⟨h,h',h5⟩
 . obtain ⟨ad,rfl⟩:=Option.ne_none_iff_exists'.1 h
   clear h
   go_enter func55,ntmps55
   go_wp2_with fail;have z:=(ext (ext (zf w (.cells #[.int .i64 x,.slice (some ad) k c,.bool a] 53)) (zf _ (.cells #[.int .i64 y,.slice B k' c',.bool b] 53))) (zf _ (.cells #[.int .i64 0,.slice none 0 0,.bool false] 53)));have K:=ha.below z;have J:=hb.below z;have u:=(Blk.new (w.alloc (.cells #[.int .i64 x,.slice (some ad) k c,.bool a] 53)) 53 #[.int .i64 y,.slice B k' c',.bool b]).alloc (.cells #[.int .i64 0,.slice none 0 0,.bool false] 53);have l:=Blk.new ((w.alloc (.cells #[.int .i64 x,.slice (some ad) k c,.bool a] 53)).alloc (.cells #[.int .i64 y,.slice B k' c',.bool b] 53)) 53 #[.int .i64 0,.slice none 0 0,.bool false];simp only [World.size_alloc] at u l;generalize ((w.alloc (.cells #[.int .i64 x,.slice (some ad) k c,.bool a] 53)).alloc (.cells #[.int .i64 y,.slice B k' c',.bool b] 53)).alloc (.cells #[.int .i64 0,.slice none 0 0,.bool false] 53)=W at K J u l z |-;refine (v8 _ s n W K hs).mono ?_;rintro e w1 ⟨p,rfl,M,r⟩;have C:=u.below r u.lt;have F:=C.cell 0;have c1:=C.cell 1;have c2:=C.cell 2;simp at F c1 c2;go_wp2_with fail;refine (v8 _ t m w1 (J.below r) ht).mono ?_
   rintro e w2 ⟨p',rfl,V,E⟩;have aa:=M.below E;have D:=(l.below r l.lt).below E (l.below r l.lt).lt;have Y:=ext (ext z r) E;clear r E z l u C F c1 c2 K J M;go_wp2_with fail;refine (zdb p p' n m w2 aa V ae.o af.o).mono ?_;rintro e w3 ⟨q,rfl,X,I⟩;go_wp2_with fail;refine (ym (s != t) q (n*m) w3 X).mono ?_;rintro e w4 ⟨v,rfl,N,S⟩;obtain ⟨O,A',k2,T,R,rfl,_,_,_⟩:=N.form;have j:=(D.below I D.lt).below S (D.below I D.lt).lt;have Z:=ext (ext Y I) S;have F:=j.cell 0;have c1:=j.cell 1;have c2:=j.cell 2;have f0:=j.frozen 0;have f1:=j.frozen 1;have f2:=j.frozen 2;simp at F c1 c2;go_wp2;have G:=ys (x:=O) (A:=A') (k:=k2) (c:=T) (ng:=R) j;have d0:=G.cell 0;have d1:=G.cell 1;have Q:=G.cell 2;simp at d0 d1 Q;refine bodyPost_ret (v:=.agg #[.int .i64 O,.slice A' k2 T,.bool R]) (by simp [results,results55,go_sem,d0,d1,Q]) rfl ?_;exact ⟨_,rfl,zC (by rw [Xl];exact N) j,zW Z (by omega)⟩
 . obtain ⟨bd,rfl⟩:=Option.ne_none_iff_exists'.1 h'
   subst h;obtain ⟨rfl,rfl⟩:=hA0 rfl;clear h' hA0 hB0
   go_enter func55,ntmps55
   go_wp2_with fail;have z:=(ext (ext (zf w (.cells #[.int .i64 x,.slice none 0 0,.bool a] 53)) (zf _ (.cells #[.int .i64 y,.slice (some bd) k' c',.bool b] 53))) (zf _ (.cells #[.int .i64 0,.slice none 0 0,.bool false] 53)));have K:=ha.below z;have J:=hb.below z;have u:=(Blk.new (w.alloc (.cells #[.int .i64 x,.slice none 0 0,.bool a] 53)) 53 #[.int .i64 y,.slice (some bd) k' c',.bool b]).alloc (.cells #[.int .i64 0,.slice none 0 0,.bool false] 53);have l:=Blk.new ((w.alloc (.cells #[.int .i64 x,.slice none 0 0,.bool a] 53)).alloc (.cells #[.int .i64 y,.slice (some bd) k' c',.bool b] 53)) 53 #[.int .i64 0,.slice none 0 0,.bool false];simp only [World.size_alloc] at u l;generalize ((w.alloc (.cells #[.int .i64 x,.slice none 0 0,.bool a] 53)).alloc (.cells #[.int .i64 y,.slice (some bd) k' c',.bool b] 53)).alloc (.cells #[.int .i64 0,.slice none 0 0,.bool false] 53)=W at K J u l z |-;refine (v8 _ s n W K hs).mono ?_;rintro e w1 ⟨p,rfl,M,r⟩;have C:=u.below r u.lt;have F:=C.cell 0;have c1:=C.cell 1;have c2:=C.cell 2;simp at F c1 c2;go_wp2_with fail
   refine (v8 _ t m w1 (J.below r) ht).mono ?_;rintro e w2 ⟨p',rfl,V,E⟩;have aa:=M.below E;have D:=(l.below r l.lt).below E (l.below r l.lt).lt;have Y:=ext (ext z r) E;clear r E z l u C F c1 c2 K J M;go_wp2_with fail;refine (zdb p p' n m w2 aa V ae.o af.o).mono ?_;rintro e w3 ⟨q,rfl,X,I⟩;go_wp2_with fail;refine (ym (s != t) q (n*m) w3 X).mono ?_;rintro e w4 ⟨v,rfl,N,S⟩;obtain ⟨O,A',k2,T,R,rfl,_,_,_⟩:=N.form;have j:=(D.below I D.lt).below S (D.below I D.lt).lt;have Z:=ext (ext Y I) S;have F:=j.cell 0;have c1:=j.cell 1;have c2:=j.cell 2;have f0:=j.frozen 0;have f1:=j.frozen 1;have f2:=j.frozen 2;simp at F c1 c2;go_wp2;have G:=ys (x:=O) (A:=A') (k:=k2) (c:=T) (ng:=R) j;have d0:=G.cell 0;have d1:=G.cell 1;have Q:=G.cell 2;simp at d0 d1 Q;refine bodyPost_ret (v:=.agg #[.int .i64 O,.slice A' k2 T,.bool R]) (by simp [results,results55,go_sem,d0,d1,Q]) rfl ?_;exact ⟨_,rfl,zC (by rw [Xl];exact N) j,zW Z (by omega)⟩
 . subst h h'
   obtain ⟨rfl,rfl⟩:=hA0 rfl;obtain ⟨rfl,rfl⟩:=hB0 rfl;have hx:=fun w=>Vx x (.slice none 0 0) a w h1 h2
   have hy:=fun w=>Vx y (.slice none 0 0) b w h3 h4
   have hm:=fun w=>zhk x.natAbs y.natAbs (by omega) (by omega) w
   generalize x.natAbs*y.natAbs=P at hm h5;have hL:P / 18446744073709551616≠0\/(P / 18446744073709551616=0/\4611686018427387904<=P % 18446744073709551616):=by omega
   generalize P / 18446744073709551616=H at hm hL;generalize P % 18446744073709551616=L at hm hL;clear h5 h1 h2 h3 h4 hA0 hB0
   rcases hL with hL | ⟨rfl,hL⟩
   . have hH:¬ (H:Int)=0:=by omega
     have ag:((H:Int) == 0)=false:=beq_eq_false_iff_ne.2 hH;clear hL;have z:=(ext (ext (zf w (.cells #[.int .i64 x,.slice none 0 0,.bool a] 53)) (zf _ (.cells #[.int .i64 y,.slice none 0 0,.bool b] 53))) (zf _ (.cells #[.int .i64 0,.slice none 0 0,.bool false] 53)));have u:=(Blk.new (w.alloc (.cells #[.int .i64 x,.slice none 0 0,.bool a] 53)) 53 #[.int .i64 y,.slice none 0 0,.bool b]).alloc (.cells #[.int .i64 0,.slice none 0 0,.bool false] 53);have l:=Blk.new ((w.alloc (.cells #[.int .i64 x,.slice none 0 0,.bool a] 53)).alloc (.cells #[.int .i64 y,.slice none 0 0,.bool b] 53)) 53 #[.int .i64 0,.slice none 0 0,.bool false];simp only [World.size_alloc] at u l
     go_enter func55,ntmps55
     go_wp2_with fail
     go_region_held3 (fun w' =>w'.cell? ⟨w.heap.size,0,none⟩=some (.int .i64 x)/\w'.cell? ⟨w.heap.size,1,none⟩=some (.slice none 0 0)/\w'.cell? ⟨w.heap.size,2,none⟩=some (.bool a)/\
      w'.cell? ⟨w.heap.size+1,0,none⟩=some (.int .i64 y)/\w'.cell? ⟨w.heap.size+1,1,none⟩=some (.slice none 0 0)/\w'.cell? ⟨w.heap.size+1,2,none⟩=some (.bool b)/\
      w.heap.size<w'.heap.size/\w.heap.size+1<w'.heap.size/\Hid (Blk w' (w.heap.size+1) 53 #[.int .i64 y,.slice none 0 0,.bool b])/\Hid (Blk w' (w.heap.size+1+1) 53 #[.int .i64 0,.slice none 0 0,.bool false])/\Hid (Below w.heap.size w w'))
      (first
        | exact ⟨by go_keep,by go_keep,by go_keep,by go_keep,by go_keep,by go_keep,by simp;omega,by simp,ze (u.drewN 1),ze (l.drewN 1),ze (zo z 1)⟩
        | go_keep
        | (go_split_ands;exact ⟨zj ‹_› ‹_› ‹_›,zj ‹_› ‹_› ‹_›,zj ‹_› ‹_› ‹_›,zj ‹_› ‹_› ‹_›,zj ‹_› ‹_› ‹_›,zj ‹_› ‹_› ‹_›,zG ‹_› ‹_›,zG ‹_› ‹_›,ZW ‹_› ‹_›,ZW ‹_› ‹_›,zr ‹_› ‹_›⟩))
      (first
        | (go_at_call_of 91 (Value.agg #[Value.int .i64 x,.slice none 0 0,.bool a]);refine (hx _).mono ?_;rintro e w1 ⟨rfl,r⟩)
        | (go_at_call_of 91 (Value.agg #[Value.int .i64 y,.slice none 0 0,.bool b]);refine (hy _).mono ?_;rintro e w1 ⟨rfl,r⟩)
        | (go_at_call 95;refine (hm _).mono ?_;rintro e w1 ⟨rfl,rfl⟩))
     go_split_ands;have U :=zK (by assumption:Hid (Below w.heap.size w _));have ac :=zK (by assumption:Hid (Blk _ (w.heap.size+1) _ _));have ab :=zK (by assumption:Hid (Blk _ (w.heap.size+1+1) _ _));have K:=ha.below U;have J:=hb.below U;clear z u l;have z:=U;have u:=ac;have l:=ab;clear U ac ab;go_wp2_with fail;refine (v8 _ s n _ K hs).mono ?_;rintro e w1 ⟨p,rfl,M,r⟩;have C:=u.below r u.lt;have F:=C.cell 0;have c1:=C.cell 1;have c2:=C.cell 2;simp at F c1 c2;go_wp2_with fail;refine (v8 _ t m w1 (J.below r) ht).mono ?_;rintro e w2 ⟨p',rfl,V,E⟩;have aa:=M.below E;have D:=(l.below r l.lt).below E (l.below r l.lt).lt;have Y:=ext (ext z r) E;clear r E z l u C F c1 c2 K J M;go_wp2_with fail;refine (zdb p p' n m w2 aa V ae.o af.o).mono ?_;rintro e w3 ⟨q,rfl,X,I⟩;go_wp2_with fail;refine (ym (s != t) q (n*m) w3 X).mono ?_;rintro e w4 ⟨v,rfl,N,S⟩;obtain ⟨O,A',k2,T,R,rfl,_,_,_⟩:=N.form;have j:=(D.below I D.lt).below S (D.below I D.lt).lt;have Z:=ext (ext Y I) S
     have F:=j.cell 0;have c1:=j.cell 1;have c2:=j.cell 2;have f0:=j.frozen 0;have f1:=j.frozen 1;have f2:=j.frozen 2;simp at F c1 c2;go_wp2;have G:=ys (x:=O) (A:=A') (k:=k2) (c:=T) (ng:=R) j;have d0:=G.cell 0;have d1:=G.cell 1;have Q:=G.cell 2;simp at d0 d1 Q;refine bodyPost_ret (v:=.agg #[.int .i64 O,.slice A' k2 T,.bool R]) (by simp [results,results55,go_sem,d0,d1,Q]) rfl ?_;exact ⟨_,rfl,zC (by rw [Xl];exact N) j,zW Z (by omega)⟩
   . have hD:decide ((L:Int)<4611686018427387904)=false:=decide_eq_false (by omega)
     clear hL;have z:=(ext (ext (zf w (.cells #[.int .i64 x,.slice none 0 0,.bool a] 53)) (zf _ (.cells #[.int .i64 y,.slice none 0 0,.bool b] 53))) (zf _ (.cells #[.int .i64 0,.slice none 0 0,.bool false] 53)));have u:=(Blk.new (w.alloc (.cells #[.int .i64 x,.slice none 0 0,.bool a] 53)) 53 #[.int .i64 y,.slice none 0 0,.bool b]).alloc (.cells #[.int .i64 0,.slice none 0 0,.bool false] 53);have l:=Blk.new ((w.alloc (.cells #[.int .i64 x,.slice none 0 0,.bool a] 53)).alloc (.cells #[.int .i64 y,.slice none 0 0,.bool b] 53)) 53 #[.int .i64 0,.slice none 0 0,.bool false];simp only [World.size_alloc] at u l
     go_enter func55,ntmps55
     go_wp2_with fail
     go_region_held3 (fun w' =>w'.cell? ⟨w.heap.size,0,none⟩=some (.int .i64 x)/\w'.cell? ⟨w.heap.size,1,none⟩=some (.slice none 0 0)/\w'.cell? ⟨w.heap.size,2,none⟩=some (.bool a)/\
      w'.cell? ⟨w.heap.size+1,0,none⟩=some (.int .i64 y)/\w'.cell? ⟨w.heap.size+1,1,none⟩=some (.slice none 0 0)/\w'.cell? ⟨w.heap.size+1,2,none⟩=some (.bool b)/\
      w.heap.size<w'.heap.size/\w.heap.size+1<w'.heap.size/\Hid (Blk w' (w.heap.size+1) 53 #[.int .i64 y,.slice none 0 0,.bool b])/\Hid (Blk w' (w.heap.size+1+1) 53 #[.int .i64 0,.slice none 0 0,.bool false])/\Hid (Below w.heap.size w w'))
      (first
        | exact ⟨by go_keep,by go_keep,by go_keep,by go_keep,by go_keep,by go_keep,by simp;omega,by simp,ze (u.drewN 1),ze (l.drewN 1),ze (zo z 1)⟩
        | go_keep
        | (go_split_ands;exact ⟨zj ‹_› ‹_› ‹_›,zj ‹_› ‹_› ‹_›,zj ‹_› ‹_› ‹_›,zj ‹_› ‹_› ‹_›,zj ‹_› ‹_› ‹_›,zj ‹_› ‹_› ‹_›,zG ‹_› ‹_›,zG ‹_› ‹_›,ZW ‹_› ‹_›,ZW ‹_› ‹_›,zr ‹_› ‹_›⟩))
      (first
        | (go_at_call_of 91 (Value.agg #[Value.int .i64 x,.slice none 0 0,.bool a]);refine (hx _).mono ?_;rintro e w1 ⟨rfl,r⟩)
        | (go_at_call_of 91 (Value.agg #[Value.int .i64 y,.slice none 0 0,.bool b]);refine (hy _).mono ?_;rintro e w1 ⟨rfl,r⟩)
        | (go_at_call 95;refine (hm _).mono ?_;rintro e w1 ⟨rfl,rfl⟩))
     go_split_ands;have U :=zK (by assumption:Hid (Below w.heap.size w _));have ac :=zK (by assumption:Hid (Blk _ (w.heap.size+1) _ _));have ab :=zK (by assumption:Hid (Blk _ (w.heap.size+1+1) _ _));have K:=ha.below U;have J:=hb.below U;clear z u l;have z:=U;have u:=ac;have l:=ab;clear U ac ab;go_wp2_with fail;refine (v8 _ s n _ K hs).mono ?_;rintro e w1 ⟨p,rfl,M,r⟩;have C:=u.below r u.lt;have F:=C.cell 0;have c1:=C.cell 1;have c2:=C.cell 2;simp at F c1 c2;go_wp2_with fail;refine (v8 _ t m w1 (J.below r) ht).mono ?_;rintro e w2 ⟨p',rfl,V,E⟩;have aa:=M.below E;have D:=(l.below r l.lt).below E (l.below r l.lt).lt;have Y:=ext (ext z r) E;clear r E z l u C F c1 c2 K J M;go_wp2_with fail;refine (zdb p p' n m w2 aa V ae.o af.o).mono ?_;rintro e w3 ⟨q,rfl,X,I⟩;go_wp2_with fail;refine (ym (s != t) q (n*m) w3 X).mono ?_;rintro e w4 ⟨v,rfl,N,S⟩;obtain ⟨O,A',k2,T,R,rfl,_,_,_⟩:=N.form;have j:=(D.below I D.lt).below S (D.below I D.lt).lt;have Z:=ext (ext Y I) S
     have F:=j.cell 0;have c1:=j.cell 1;have c2:=j.cell 2;have f0:=j.frozen 0;have f1:=j.frozen 1;have f2:=j.frozen 2;simp at F c1 c2;go_wp2;have G:=ys (x:=O) (A:=A') (k:=k2) (c:=T) (ng:=R) j;have d0:=G.cell 0;have d1:=G.cell 1;have Q:=G.cell 2;simp at d0 d1 Q;refine bodyPost_ret (v:=.agg #[.int .i64 O,.slice A' k2 T,.bool R]) (by simp [results,results55,go_sem,d0,d1,Q]) rfl ?_;exact ⟨_,rfl,zC (by rw [Xl];exact N) j,zW Z (by omega)⟩
theorem vq (va vb:Value) (z y:Int) (w:World) (ha:yb w va z) (hb:yb w vb y) (hla:len 4294967296 z.natAbs<=67108864) (hlb:len 4294967296 y.natAbs<=67108864):
 Calls Tryz.prog 55 #[va,vb] w (YL w (z*y)):=by
 have G :=ha
 have J :=hb
 obtain ⟨m,A,k,c,s,rfl,D,C,j⟩:=ha.form
 obtain ⟨u,B,k',c',t,rfl,r,E,l⟩:=hb.form
 by_cases F:A=none/\B=none/\m.natAbs*u.natAbs<4611686018427387904
 . obtain ⟨b,e,I⟩:=F
   obtain ⟨rfl,rfl,rfl⟩:=j b;obtain ⟨rfl,rfl,rfl⟩:=l e;subst b e;exact zrn z y s t _ w D C r E rfl I
 have:=zrl (decide (z<0)) (decide (y<0)) z.natAbs y.natAbs m u A B k c k' c' s t w D C r E (fun h=>⟨(j h).1,(j h).2.1⟩) (fun h=>⟨(l h).1,(l h).2.1⟩) (by rw [xj];exact G) (by rw [xj];exact J) Y8 Y8 hla hlb (by
  unfold zn4
  by_cases b:A=none
  . by_cases e:B=none
    . exact .inr (.inr ⟨b,e,Nat.le_of_not_lt fun h=>F ⟨b,e,h⟩⟩)
    exact .inr (.inl ⟨b,e⟩)
  . exact .inl b)
 rwa [xj,xj] at this
def zjz (w:World) (z y:Int) (e:Ending) (w' :World):Prop:=∃ v v',e= .returned (.tuple #[v,v'])/\yb w' v z/\yb w' v' y/\Below w.heap.size w w'
theorem vX {W:World} {g g' :Nat} {t:TypeId} {x:Int} {A:Option Addr} {k c:Nat} {ng:Bool} {cs:Array Value} (hk:Blk W g t cs) (hne:g≠g'):Blk (World.num W g' x A k c ng) g t cs:=
 ((hk.far hne _).far hne _).far hne _
theorem zc8 (s t:Bool) (n m:Nat):(signed s n).tdiv (signed t m)=signed (s != t) (n / m):=by
 cases s<;>cases t<;>unfold signed<;>simp [Int.neg_tdiv,Int.tdiv_neg,Int.ofNat_tdiv]
theorem zdw (s t:Bool) (n m:Nat):(signed s n).tmod (signed t m)=signed s (n % m):=by
 cases s<;>cases t<;>unfold signed<;>simp [Int.neg_tmod,Int.tmod_neg,Int.ofNat_tmod,Int.tmod_eq_emod_of_nonneg]
theorem zcs {x y:Int} (h1: -4611686018427387904<x) (h2:x<4611686018427387904): -4611686018427387904<x.tdiv y/\x.tdiv y<4611686018427387904:=by
 have:=Int.natAbs_tdiv_le_natAbs x y
 omega
theorem zkg {x y:Int} (h1: -4611686018427387904<x) (h2:x<4611686018427387904): -4611686018427387904<x.tmod y/\x.tmod y<4611686018427387904:=by
 have:=Int.natAbs_tmod x y
 have b:=Nat.mod_le x.natAbs y.natAbs
 omega
theorem zrt (x y:Int) (a b:Bool) (w:World) (h1: -4611686018427387904<x) (h2:x<4611686018427387904) (h3: -4611686018427387904<y) (h4:y<4611686018427387904) (hy:y≠0):
 Calls Tryz.prog 94 #[.agg #[.int .i64 x,.slice none 0 0,.bool a],.agg #[.int .i64 y,.slice none 0 0,.bool b]] w (zjz w (x.tdiv y) (x.tmod y)):=by
 have m:=fun w=>znp w none 0 0 0 0
 have l:(y == 0)=false:=beq_eq_false_iff_ne.2 hy
 obtain ⟨b1,b2⟩:=zcs (y:=y) h1 h2
 obtain ⟨j,e⟩:=zkg (y:=y) h1 h2
 go_enter func94,ntmps94
 go_wp2_with fail
 go_region
 go_wp2
 refine bodyPost_ret (v:=.tuple #[.agg #[.int .i64 (x.tdiv y),.slice none 0 0,.bool false],.agg #[.int .i64 (x.tmod y),.slice none 0 0,.bool false]]) (by simp [results,results94,go_sem]) rfl ?_
 exact ⟨_,_,rfl,.inl ⟨_,_,rfl,b1,b2,rfl⟩,.inl ⟨_,_,rfl,j,e,rfl⟩,zo (ext (ext (ext (zf _ _) (zf _ _)) (zf _ _)) (zf _ _)) 1⟩
def zn0 (A B:Option Addr):Prop:=A≠none\/(A=none/\B≠none)
theorem zsy (s t:Bool) (n m:Nat) (x y:Int) (A B:Option Addr) (k c k' c' :Nat) (a b:Bool) (w:World) (h1: -4611686018427387904<x) (h2:x<4611686018427387904) (h3: -4611686018427387904<y) (h4:y<4611686018427387904)
 (ha:yb w (.agg #[.int .i64 x,.slice A k c,.bool a]) (signed s n)) (hb:yb w (.agg #[.int .i64 y,.slice B k' c',.bool b]) (signed t m)) (hs:s=true->0<n) (ht:t=true->0<m) (hm0:0<m)
 (hln:len 4294967296 n<=33554432) (hlm:len 4294967296 m<=33554432) (hsl:zn0 A B):
 Calls Tryz.prog 94 #[.agg #[.int .i64 x,.slice A k c,.bool a],.agg #[.int .i64 y,.slice B k' c',.bool b]] w (zjz w ((signed s n).tdiv (signed t m)) ((signed s n).tmod (signed t m))):=by
 have q1:=fun w=>znp w A k c 0 0
 have q2:=fun w=>znp w B k' c' 0 0
 have an:=ze hln
 have ao:=ze hlm
 clear hln hlm
 rcases hsl with h | ⟨h,h'⟩
 . obtain ⟨ad,rfl⟩:=Option.ne_none_iff_exists'.1 h
   clear h
   go_enter func94,ntmps94
   go_wp2_with fail;have K:=(ext (ext (ext (zf w (.cells #[.int .i64 x,.slice (some ad) k c,.bool a] 53)) (zf _ (.cells #[.int .i64 y,.slice B k' c',.bool b] 53))) (zf _ (.cells #[.int .i64 0,.slice none 0 0,.bool false] 53))) (zf _ (.cells #[.int .i64 0,.slice none 0 0,.bool false] 53)));have Z:=ha.below K;have V:=hb.below K;have J:=((Blk.new (w.alloc (.cells #[.int .i64 x,.slice (some ad) k c,.bool a] 53)) 53 #[.int .i64 y,.slice B k' c',.bool b]).alloc (.cells #[.int .i64 0,.slice none 0 0,.bool false] 53)).alloc (.cells #[.int .i64 0,.slice none 0 0,.bool false] 53);have D:=(Blk.new ((w.alloc (.cells #[.int .i64 x,.slice (some ad) k c,.bool a] 53)).alloc (.cells #[.int .i64 y,.slice B k' c',.bool b] 53)) 53 #[.int .i64 0,.slice none 0 0,.bool false]).alloc (.cells #[.int .i64 0,.slice none 0 0,.bool false] 53);have C:=Blk.new (((w.alloc (.cells #[.int .i64 x,.slice (some ad) k c,.bool a] 53)).alloc (.cells #[.int .i64 y,.slice B k' c',.bool b] 53)).alloc (.cells #[.int .i64 0,.slice none 0 0,.bool false] 53)) 53 #[.int .i64 0,.slice none 0 0,.bool false];simp only [World.size_alloc] at J D C
   generalize (((w.alloc (.cells #[.int .i64 x,.slice (some ad) k c,.bool a] 53)).alloc (.cells #[.int .i64 y,.slice B k' c',.bool b] 53)).alloc (.cells #[.int .i64 0,.slice none 0 0,.bool false] 53)).alloc (.cells #[.int .i64 0,.slice none 0 0,.bool false] 53)=W at Z V J D C K |-;refine (v8 _ s n W Z hs).mono ?_;rintro e w1 ⟨p,rfl,hp,l⟩;have L:=J.below l J.lt;have M:=L.cell 0;have c1:=L.cell 1;have c2:=L.cell 2;simp at M c1 c2;go_wp2_with fail;refine (v8 _ t m w1 (V.below l) ht).mono ?_;rintro e w2 ⟨p',rfl,af,G⟩;have ah:=hp.below G;have X:=(D.below l D.lt).below G (D.below l D.lt).lt;have ab:=(C.below l C.lt).below G (C.below l C.lt).lt;have ag:=ext (ext K l) G;clear l G K D J C L M c1 c2 Z V hp;go_wp2_with fail;refine (zkl p p' n m w2 ah af hm0 an.o ao.o).mono ?_;rintro e w3 ⟨q,r,rfl,hq,hr,N⟩;have F:=X.below N X.lt;have I:=ab.below N ab.lt;have al:=ext ag N;clear X ab ag ah af N;go_wp2_with fail;refine (ym (s != t) q (n / m) w3 hq).mono ?_;rintro e w4 ⟨v,rfl,hv,z⟩;go_wp2_with fail
   refine (ym s r (n % m) w4 (hr.below z)).mono ?_;rintro e w5 ⟨v',rfl,ae,E⟩;have ai:=hv.below E;obtain ⟨x',A',k2,ac,aa,rfl,_,_,_⟩:=ai.form;obtain ⟨R,S,k3,Q,U,rfl,_,_,_⟩:=ae.form;have j:=(F.below z F.lt).below E (F.below z F.lt).lt;have u:=(I.below z I.lt).below E (I.below z I.lt).lt;have am:=ext (ext al z) E;clear F I al z E hq hr hv;have M:=j.cell 0;have c1:=j.cell 1;have c2:=j.cell 2;have f0:=j.frozen 0;have f1:=j.frozen 1;have f2:=j.frozen 2;have d0:=u.cell 0;have d1:=u.cell 1;have d2:=u.cell 2;have g0:=u.frozen 0;have g1:=u.frozen 1;have g2:=u.frozen 2;simp at M c1 c2 d0 d1 d2;go_wp2;have kE:=ys (x:=x') (A:=A') (k:=k2) (c:=ac) (ng:=aa) j;have T:=vX (g' :=w.heap.size+1+1) (x:=x') (A:=A') (k:=k2) (c:=ac) (ng:=aa) u (by omega);have Y:=vX (g' :=w.heap.size+1+1+1) (x:=R) (A:=S) (k:=k3) (c:=Q) (ng:=U) kE (by omega);have O:=ys (x:=R) (A:=S) (k:=k3) (c:=Q) (ng:=U) T;have e0:=Y.cell 0;have e1:=Y.cell 1;have e2:=Y.cell 2
   have h0:=O.cell 0;have aj :=O.cell 1;have ak :=O.cell 2;simp at e0 e1 e2 h0 aj ak;refine bodyPost_ret (v:=.tuple #[.agg #[.int .i64 x',.slice A' k2 ac,.bool aa],.agg #[.int .i64 R,.slice S k3 Q,.bool U]]) (by simp [results,results94,go_sem,e0,e1,e2,h0,aj,ak]) rfl ?_;rw [zc8,zdw];exact ⟨_,_,rfl,zC (zC ai j) T,zC (zC ae j) T,zW (zW am (by omega)) (by omega)⟩
 . obtain ⟨bd,rfl⟩:=Option.ne_none_iff_exists'.1 h'
   subst h;clear h'
   go_enter func94,ntmps94
   go_wp2_with fail;have K:=(ext (ext (ext (zf w (.cells #[.int .i64 x,.slice none k c,.bool a] 53)) (zf _ (.cells #[.int .i64 y,.slice (some bd) k' c',.bool b] 53))) (zf _ (.cells #[.int .i64 0,.slice none 0 0,.bool false] 53))) (zf _ (.cells #[.int .i64 0,.slice none 0 0,.bool false] 53)));have Z:=ha.below K;have V:=hb.below K;have J:=((Blk.new (w.alloc (.cells #[.int .i64 x,.slice none k c,.bool a] 53)) 53 #[.int .i64 y,.slice (some bd) k' c',.bool b]).alloc (.cells #[.int .i64 0,.slice none 0 0,.bool false] 53)).alloc (.cells #[.int .i64 0,.slice none 0 0,.bool false] 53);have D:=(Blk.new ((w.alloc (.cells #[.int .i64 x,.slice none k c,.bool a] 53)).alloc (.cells #[.int .i64 y,.slice (some bd) k' c',.bool b] 53)) 53 #[.int .i64 0,.slice none 0 0,.bool false]).alloc (.cells #[.int .i64 0,.slice none 0 0,.bool false] 53);have C:=Blk.new (((w.alloc (.cells #[.int .i64 x,.slice none k c,.bool a] 53)).alloc (.cells #[.int .i64 y,.slice (some bd) k' c',.bool b] 53)).alloc (.cells #[.int .i64 0,.slice none 0 0,.bool false] 53)) 53 #[.int .i64 0,.slice none 0 0,.bool false];simp only [World.size_alloc] at J D C
   generalize (((w.alloc (.cells #[.int .i64 x,.slice none k c,.bool a] 53)).alloc (.cells #[.int .i64 y,.slice (some bd) k' c',.bool b] 53)).alloc (.cells #[.int .i64 0,.slice none 0 0,.bool false] 53)).alloc (.cells #[.int .i64 0,.slice none 0 0,.bool false] 53)=W at Z V J D C K |-;refine (v8 _ s n W Z hs).mono ?_;rintro e w1 ⟨p,rfl,hp,l⟩;have L:=J.below l J.lt;have M:=L.cell 0;have c1:=L.cell 1;have c2:=L.cell 2;simp at M c1 c2;go_wp2_with fail;refine (v8 _ t m w1 (V.below l) ht).mono ?_;rintro e w2 ⟨p',rfl,af,G⟩;have ah:=hp.below G;have X:=(D.below l D.lt).below G (D.below l D.lt).lt;have ab:=(C.below l C.lt).below G (C.below l C.lt).lt;have ag:=ext (ext K l) G;clear l G K D J C L M c1 c2 Z V hp;go_wp2_with fail;refine (zkl p p' n m w2 ah af hm0 an.o ao.o).mono ?_;rintro e w3 ⟨q,r,rfl,hq,hr,N⟩;have F:=X.below N X.lt;have I:=ab.below N ab.lt;have al:=ext ag N;clear X ab ag ah af N;go_wp2_with fail;refine (ym (s != t) q (n / m) w3 hq).mono ?_;rintro e w4 ⟨v,rfl,hv,z⟩;go_wp2_with fail
   refine (ym s r (n % m) w4 (hr.below z)).mono ?_;rintro e w5 ⟨v',rfl,ae,E⟩;have ai:=hv.below E;obtain ⟨x',A',k2,ac,aa,rfl,_,_,_⟩:=ai.form;obtain ⟨R,S,k3,Q,U,rfl,_,_,_⟩:=ae.form;have j:=(F.below z F.lt).below E (F.below z F.lt).lt;have u:=(I.below z I.lt).below E (I.below z I.lt).lt;have am:=ext (ext al z) E;clear F I al z E hq hr hv;have M:=j.cell 0;have c1:=j.cell 1;have c2:=j.cell 2;have f0:=j.frozen 0;have f1:=j.frozen 1;have f2:=j.frozen 2;have d0:=u.cell 0;have d1:=u.cell 1;have d2:=u.cell 2;have g0:=u.frozen 0;have g1:=u.frozen 1;have g2:=u.frozen 2;simp at M c1 c2 d0 d1 d2;go_wp2;have kE:=ys (x:=x') (A:=A') (k:=k2) (c:=ac) (ng:=aa) j;have T:=vX (g' :=w.heap.size+1+1) (x:=x') (A:=A') (k:=k2) (c:=ac) (ng:=aa) u (by omega);have Y:=vX (g' :=w.heap.size+1+1+1) (x:=R) (A:=S) (k:=k3) (c:=Q) (ng:=U) kE (by omega);have O:=ys (x:=R) (A:=S) (k:=k3) (c:=Q) (ng:=U) T;have e0:=Y.cell 0;have e1:=Y.cell 1;have e2:=Y.cell 2
   have h0:=O.cell 0;have aj :=O.cell 1;have ak :=O.cell 2;simp at e0 e1 e2 h0 aj ak;refine bodyPost_ret (v:=.tuple #[.agg #[.int .i64 x',.slice A' k2 ac,.bool aa],.agg #[.int .i64 R,.slice S k3 Q,.bool U]]) (by simp [results,results94,go_sem,e0,e1,e2,h0,aj,ak]) rfl ?_;rw [zc8,zdw];exact ⟨_,_,rfl,zC (zC ai j) T,zC (zC ae j) T,zW (zW am (by omega)) (by omega)⟩
theorem zbf (va vb:Value) (z y:Int) (w:World) (ha:yb w va z) (hb:yb w vb y) (hy:y≠0) (hla:len 4294967296 z.natAbs<=33554432) (hlb:len 4294967296 y.natAbs<=33554432):
 Calls Tryz.prog 94 #[va,vb] w (zjz w (z.tdiv y) (z.tmod y)):=by
 have D :=ha
 have G :=hb
 obtain ⟨C,A,k,c,s,rfl,m,l,E⟩:=ha.form
 obtain ⟨F,B,k',c',t,rfl,j,r,I⟩:=hb.form
 by_cases u:A=none/\B=none
 . obtain ⟨b,e⟩:=u
   obtain ⟨rfl,rfl,rfl⟩:=E b;obtain ⟨rfl,rfl,rfl⟩:=I e;subst b e;exact zrt z y s t w m l j r hy
 have:=zsy (decide (z<0)) (decide (y<0)) z.natAbs y.natAbs C F A B k c k' c' s t w m l j r (by rw [xj];exact D) (by rw [xj];exact G) Y8 Y8 (by omega) hla hlb (by
  unfold zn0
  by_cases b:A=none
  . exact .inr ⟨b,fun e=>u ⟨b,e⟩⟩
  exact .inl b)
 rwa [xj,xj] at this
theorem zd2 (va vb:Value) (z y:Int) (w:World) (ha:yb w va z) (hb:yb w vb y) (hla:len 4294967296 z.natAbs<=67108864) (hlb:len 4294967296 y.natAbs<=67108864):
 Calls Tryz.prog 148 #[va,vb] w (YL w (z - y)):=by
 have G :=ha
 have M :=hb
 obtain ⟨r,A,k,c,s,rfl,h1,h2,hA⟩:=G.form
 obtain ⟨D,B,k',c',t,rfl,h3,h4,hB⟩:=M.form
 have V:len 4294967296 (-y).natAbs<=67108864:=by rw [Int.natAbs_neg];exact hlb
 have Y:=ze V
 have ab:=ze hla
 have m:=zo (ext (ext (zf w (.cells #[.int .i64 r,.slice A k c,.bool s] 53)) (zf _ (.cells #[.int .i64 D,.slice B k' c',.bool t] 53))) (zf _ (.cells #[.int .i64 0,.slice none 0 0,.bool false] 53))) 1
 have J:=ha.below m
 have O:=hb.below m
 have U:=(((Blk.new w 53 #[.int .i64 r,.slice A k c,.bool s]).alloc (.cells #[.int .i64 D,.slice B k' c',.bool t] 53)).alloc (.cells #[.int .i64 0,.slice none 0 0,.bool false] 53)).drewN 1
 have F:=(Blk.new ((w.alloc (.cells #[.int .i64 r,.slice A k c,.bool s] 53)).alloc (.cells #[.int .i64 D,.slice B k' c',.bool t] 53)) 53 #[.int .i64 0,.slice none 0 0,.bool false]).drewN 1
 simp only [World.size_alloc] at F
 have Z:=ze m
 have aa:=ze J
 have ac:=ze O
 have R:=ze U
 have l:=ze F
 clear m J O U F V hla hlb h1 h2 h3 h4 hA hB ha hb G M
 go_enter func148,ntmps148
 go_wp2_with fail
 go_region_with (first
  | (go_at_call 72;refine (yY _ y _ ac.o).mono ?_;rintro e w1 ⟨v,rfl,hv,j⟩;obtain ⟨x',A',k2,ae,ad,rfl,_,_,_⟩:=hv.form;have C:=R.o.below j R.o.lt;have u:=C.cell 0;have c1:=C.cell 1;have c2:=C.cell 2;simp at u c1 c2)
  | (go_at_call 56;refine (zgn _ _ z (-y) _ (aa.o.below ‹_›) ‹_› ab.o Y.o).mono ?_;rintro e w2 ⟨v,rfl,Q,T⟩;obtain ⟨K,L,X,I,N,rfl,_,_,_⟩:=Q.form;have b:=(l.o.below j l.o.lt).below T (l.o.below j l.o.lt).lt;have u:=b.cell 0;have c1:=b.cell 1;have c2:=b.cell 2;have f0:=b.frozen 0;have f1:=b.frozen 1;have f2:=b.frozen 2;simp at u c1 c2))
 all_goals
  go_wp2
  have E:=ys (x:=K) (A:=L) (k:=X) (c:=I) (ng:=N) b
  have d0:=E.cell 0
  have d1:=E.cell 1
  have S:=E.cell 2
  simp at d0 d1 S
  refine bodyPost_ret (v:=.agg #[.int .i64 K,.slice L X I,.bool N]) (by simp [results,results148,go_sem,d0,d1,S]) rfl ?_
  exact ⟨_,rfl,zC (by rw [Int.sub_eq_add_neg];exact Q) b,zW (ext (ext Z.o j) T) (by omega)⟩
theorem zja (va vb:Value) (z y:Int) (w:World) (ha:yb w va z) (hb:yb w vb y) (hla:len 4294967296 z.natAbs<=67108864) (hlb:len 4294967296 y.natAbs<=67108864):
 Calls Tryz.prog 110 #[va,vb] w (zfq w (.int .i64 (zP z y))):=by
 have j :=ha
 have l :=hb
 obtain ⟨m,A,k,c,s,rfl,M,G,L⟩:=j.form
 obtain ⟨S,B,k',c',t,rfl,K,J,F⟩:=l.form
 have r:=ze hlb
 have Q:=ze hla
 have b:=ext (zf w (.cells #[.int .i64 m,.slice A k c,.bool s] 53)) (zf _ (.cells #[.int .i64 S,.slice B k' c',.bool t] 53))
 have D:=ze b
 have O:=ze (ha.below b)
 have R:=ze (hb.below b)
 clear b hla hlb M G K J L F ha hb j l
 go_enter func110,ntmps110
 go_wp2_with fail
 refine (zd2 _ _ z y _ O.o R.o Q.o r.o).mono ?_
 rintro e w1 ⟨v,rfl,I,u⟩
 go_wp2_with fail
 refine (X4 v (z - y) w1 I).mono ?_
 rintro e T ⟨rfl,N⟩
 go_wp2
 go_ret
 refine ⟨?_,ext (ext D.o u) N⟩
 unfold zP
 have E:z - y<0↔z<y:=by omega
 have C:0<z - y↔y<z:=by omega
 simp only [E,C]
 rfl
theorem zr7 (l:List UInt8):(⟨#[45]⟩:ByteArray) ++ (⟨l.toArray⟩:ByteArray)=⟨((45:UInt8) :: l).toArray⟩:=by
 apply ByteArray.ext
 rw [ByteArray.data_append]
 simp
theorem Y3 {a:Nat} (h:len 4294967296 a<=67108864):(dec a).length<=671088641:=by
 unfold dec
 by_cases b:a=0
 . rw [if_pos b];simp
 rw [if_neg b,List.length_map,List.length_reverse]
 have:=VD h;unfold len at this
 omega
def xO (z:Int):List UInt8:=if z<0 then 45 :: dec z.natAbs else dec z.natAbs
theorem zan (va:Value) (z:Int) (w:World) (ha:yb w va z) (hla:len 4294967296 z.natAbs<=67108864):
 Calls Tryz.prog 68 #[va] w (zkz w (xO z)):=by
 obtain ⟨D,A,k,c,s,rfl,G,I,F⟩:=ha.form
 have m:=ze hla
 have l:=zf w (.cells #[.int .i64 D,.slice A k c,.bool s] 53)
 have B:=ze l
 have C:=ze (ha.below l)
 clear l hla G I F ha
 by_cases j:z<0
 rotate_left
 . have b:=fun v w h=>ZB v z w h
   unfold zch at b;rw [decide_eq_false j] at b;unfold xO;rw [if_neg j]
   go_enter func68,ntmps68
   go_wp2_with fail;refine (b _ _ C.o).mono ?_;rintro e w1 ⟨v,rfl,u,r⟩;go_wp2_with fail;refine (YT v _ w1 u m.o).mono ?_;rintro e E ⟨rfl,y⟩;go_wp2;go_ret;exact ⟨rfl,ext (ext B.o r) y⟩
 have b:=fun v w h=>ZB v z w h
 unfold zch at b;rw [decide_eq_true j] at b;unfold xO;rw [if_pos j]
 have J:¬ 9223372036854775807<1+(dec z.natAbs).length:=by
  have:=Y3 m.o
  omega
 go_enter func68,ntmps68
 go_wp2_with fail;refine (b _ _ C.o).mono ?_;rintro e w1 ⟨v,rfl,u,r⟩;go_wp2_with fail;refine (YT v _ w1 u m.o).mono ?_;rintro e E ⟨rfl,y⟩;go_wp2;go_ret;refine ⟨?_,ext (ext B.o r) y⟩;rw [zr7]
 rfl
end Go.Proofs.YthbmhkiphmcogaaGreatDoor
namespace Go.Proofs.YthbmhkiphmcogaaGreatDoor
open Proofs.Tryz Go.RowKit
theorem zl {A B:Prop} (a:A) (f:A->B):A/\B:=⟨a,f a⟩
section
variable {W w w' :World}
theorem zh {g i:Nat} {v:Value} (h:Hid (Below W.heap.size W w)) (hl:g<W.heap.size) (hc:W.cell? ⟨g,i,none⟩=some v):w.cell? ⟨g,i,none⟩=some v:=(h.out.cell hl).trans hc
theorem xD {a:Addr} {i:Nat} {v:Value} (h:Hid (Below W.heap.size W w)) (hl:a.block<W.heap.size) (hc:W.cell? (a.add i)=some v):w.cell? (a.add i)=some v:=(h.out.cell (by rw [zz];exact hl)).trans hc
theorem XT {a:Addr} {i j:Nat} {v:Value} (h:Hid (Below W.heap.size W w)) (hl:a.block<W.heap.size) (hc:W.cell? ⟨(a.add i).block,(a.add i).off+j,none⟩=some v):w.cell? ⟨(a.add i).block,(a.add i).off+j,none⟩=some v:=
 (h.out.cell (by simp only [zz];exact hl)).trans hc
theorem zc2 {o:Obj} (h:Hid (Below W.heap.size W w)):Hid (Below W.heap.size W (w.alloc o)):=ext h.out (zf w o)
theorem zu (W:World):Hid (Below W.heap.size W W.drew):=zo (vh W) 1
theorem yU (W:World) (o:Obj):Hid (Below W.heap.size W (W.alloc o).drew):=zo (zf W o) 1
end
end Go.Proofs.YthbmhkiphmcogaaGreatDoor
namespace Go.Proofs.YthbmhkiphmcogaaGreatDoor
open Proofs.Tryz Go.RowKit Go.Deep
def V7 (w:World) (B:Nat) (v:Value) (n:Nat):Prop:=
 ∃ A c ds,v= .slice A ds.length c/\ds.length<=c/\c<=maxLen/\zV w B 1 A ds.length (Yd ds)/\yW 1000000000 ds/\val 1000000000 ds=n
abbrev zy (w:World) (v:Value) (n:Nat):Prop:=V7 w w.heap.size v n
theorem V7.below {w w' :World} {B B' :Nat} {v:Value} {n:Nat} (h:V7 w B v n) (hb:Below B w w') (hB:B<=B'):V7 w' B' v n:=by
 obtain ⟨A,c,ds,l,j,b,m,r,e⟩:=h
 exact ⟨A,c,ds,l,j,b,(m.below hb).more hB,r,e⟩
theorem zy.below {w w' :World} {v:Value} {n:Nat} (h:zy w v n) (hb:Below w.heap.size w w'):zy w' v n:=V7.below h hb hb.size
def zfc (w:World) (n:Nat) (e:Ending) (w' :World):Prop:=∃ v,e= .returned v/\zy w' v n/\Below w.heap.size w w'
def zw3 (w:World) (B n:Nat) (e:Ending) (w' :World):Prop:=∃ v,e= .returned v/\V7 w B v n/\w=w'
theorem ZF {a b:Int} (h:a=b):Ending.returned (.int .i64 b)= .returned (.int .i64 a):=by rw [h]
theorem znk {ds:List Nat} {k:Nat} (hk:k<ds.length) (h:val 1000000000 (ds.take (k+1))=val 1000000000 ds) (h0:ds[k]=0):val 1000000000 (ds.take k)=val 1000000000 ds:=by
 rw [yR _ _ _ hk,h0] at h
 omega
theorem zqc {k:Nat} {ds:List Nat} (hs:zI 1000000000 ds) (hk:k<=ds.length) (hlast:∀ h:0<k,ds[k - 1]≠0):yW 1000000000 (ds.take k):=by
 have b:(ds.take k).length=k:=by rw [List.length_take];omega
 refine yW.mk_ (hs.take k) ?_
 intro h
 rw [List.getElem_take]
 have:=hlast (by omega)
 simp only [b]
 exact this
theorem zkq {w:World} {B c k:Nat} {A:Option Addr} {ds:List Nat} (hr:zV w B 1 A ds.length (Yd ds)) (hs:zI 1000000000 ds) (hl:ds.length<=c) (hc:c<=maxLen) (hk:k<=ds.length)
 (hlast:∀ h:0<k,ds[k - 1]≠0) (hv:val 1000000000 (ds.take k)=val 1000000000 ds):V7 w B (.slice A k c) (val 1000000000 ds):=by
 have b:(ds.take k).length=k:=by rw [List.length_take];omega
 refine ⟨A,c,ds.take k,by rw [b],by omega,hc,?_,zqc hs hk hlast,hv⟩
 have:=hr.head (k:=k) hk
 rw [b, <- zq2]
 simpa using this
def zr1 (w:World) (B:Nat) (A:Option Addr) (c n:Nat) (e:Ending) (w' :World):Prop:=∃ k,e= .returned (.slice A k c)/\V7 w B (.slice A k c) n/\w=w'
theorem zfh (A:Option Addr) (n c:Nat) (ds:List Nat) (w:World) (B:Nat) (hr:zV w B 1 A n (Yd ds)) (hs:zI 1000000000 ds) (hl:n<=c) (hc:c<=maxLen):
 Calls Tryz.prog 136 #[.slice A n c] w (zr1 w B A c (val 1000000000 ds)):=by
 have y:ds.length=n:=by have:=hr.1;rw [XC] at this;omega
 subst y
 have m:=ze hc
 unfold maxLen at hc
 go_enter func136,ntmps136
 go_wp2
 go_loop [0] (fun v=>∃ k:Nat,k<=ds.length/\v= .slice A k c/\Hid (val 1000000000 (ds.take k)=val 1000000000 ds)) (fun v=>match v with | .slice _ n _=>n | _=>0)
 case atStart=>exact ⟨ds.length,Nat.le_refl _,rfl,by rw [List.take_length];exact rfl⟩
 case round=>
  obtain ⟨k,l,rfl,j⟩:=hrel
  by_cases D:0<k
  rotate_left
  . obtain rfl:k=0:=by omega
    go_wp2;go_ret;exact ⟨_,rfl,zkq hr hs hl m.o l (fun h=>absurd h (by omega)) j.o,rfl⟩
  obtain ⟨C,u,rfl,hb,b,z⟩:=hr.at_ (k:=k - 1) (by omega)
  rw [vF (by omega)] at b;injection b with b
  subst b
  by_cases e:ds[k - 1]=0
  rotate_left
  . have r:((ds[k - 1]:Int) == 0)=false:=by rw [beq_eq_false_iff_ne];omega
    go_wp2;go_ret;exact ⟨_,rfl,zkq hr hs hl m.o l (fun _=>e) j.o,rfl⟩
  have r:((ds[k - 1]:Int) == 0)=true:=by rw [e];rfl
  go_wp2;go_round
  case rel=>
   refine ⟨k - 1,by omega,rfl,?_⟩;exact znk (by omega) (by rw [show k - 1+1=k by omega];exact j.o) e
  case measure=>simp;omega
theorem Yz (A:Option Addr) (n c:Nat) (ds:List Nat) (w:World) (B:Nat) (hr:zV w B 1 A n (Yd ds)) (hs:zI 1000000000 ds) (hl:n<=c) (hc:c<=maxLen):
 Calls Tryz.prog 136 #[.slice A n c] w (zw3 w B (val 1000000000 ds)):=
 (zfh A n c ds w B hr hs hl hc).mono fun _ _ ⟨k,h1,h2,h3⟩=>⟨_,h1,h2,h3⟩
theorem zui {da db:List Nat} (hl:da.length=db.length) (hsa:zI 1000000000 da) (hsb:zI 1000000000 db) (k:Nat) (hk:k<da.length) (h:∀ p,k+1<=p->da.getD p 0=db.getD p 0) (hne:da.getD k 0≠db.getD k 0):
 zP (da.getD k 0) (db.getD k 0)=zP (val 1000000000 da) (val 1000000000 db):=by
 have r:∀ j (e:j<da.length) (b:j<db.length),k<j->da[j]=db[j]:=by
  intro j e b m
  have:=h j (by omega)
  rwa [zv e,zv b] at this
 rw [zv hk,zv (by omega)] at hne |-
 rcases Nat.lt_or_ge da[k] (db[k]'(by omega)) with l | l
 . have:=zaj hl hsa k hk r l
   unfold zP;rw [if_pos (by omega),if_pos (by omega)]
 . have u :db[k]'(by omega)<da[k]:=by omega
   have:=zaj hl.symm hsb k (by omega) (fun j e b m=>(r j b e m).symm) u;unfold zP;rw [if_neg (by omega),if_pos (by omega),if_neg (by omega),if_pos (by omega)]
theorem Zw (va vb:Value) (a b:Nat) (w:World) (ha:zy w va a) (hb:zy w vb b) (hla:len 1000000000 a<=67108864) (hlb:len 1000000000 b<=67108864):
 Calls Tryz.prog 132 #[va,vb] w (RetD w (.int .i64 (zP a b))):=by
 obtain ⟨A,ca,j,rfl,Y,T,ab,J,rfl⟩:=ha
 obtain ⟨B,cb,l,rfl,k1,k2,S,F,rfl⟩:=hb
 rw [<- J.length_eq (by omega)] at hla
 rw [<- F.length_eq (by omega)] at hlb
 have ac:=J.1
 have aa:=F.1
 by_cases I:j.length=l.length
 rotate_left
 . have am:((j.length:Int) != (l.length:Int))=true:=by rw [bne_iff_ne];omega
   rcases (show j.length<l.length\/l.length<j.length by omega) with h | h
   . have:=yW.lt_of_length (by omega) J.1 F h
     have r:zP (val 1000000000 j:Int) (val 1000000000 l)= -1:=by unfold zP;rw [if_pos (by omega)]
     have N:=ze r;clear r
     go_enter func132,ntmps132
     go_wp2;go_ret;exact ⟨ZF N.o,0,rfl⟩
   . have:=yW.lt_of_length (by omega) F.1 J h
     have r:zP (val 1000000000 j:Int) (val 1000000000 l)=1:=by unfold zP;rw [if_neg (by omega),if_pos (by omega)]
     have N:=ze r;clear r
     go_enter func132,ntmps132
     go_wp2;go_ret;exact ⟨ZF N.o,0,rfl⟩
 have hc:((j.length:Int) != (l.length:Int))=false:=by rw [I,bne_self_eq_false]
 have G:=ze I;rw [<- I] at S k1 hc |-;clear I
 go_enter func132,ntmps132
 go_wp2
 go_loopw [5] (CmpR j l w) (fun iv _=>(intOf iv+1).toNat)
 case atStart=>
  refine ⟨j.length,0,Nat.le_refl _,rfl,?_,rfl⟩;intro p M;rw [xq M,xq (by have:=G.o;omega)]
 case round=>
  obtain ⟨k,m,hk,rfl,O,rfl⟩:=hrel
  by_cases ah:0<k
  rotate_left
  . obtain rfl:k=0:=by omega
    have V:zP (val 1000000000 j) (val 1000000000 l)=0:=by
     have:j=l:=by
      apply List.ext_getElem G.o
      intro i Y T;have:=O.o i (by omega)
      rwa [zv Y,zv T] at this
     rw [this];unfold zP;rw [if_neg (by omega),if_neg (by omega)]
    have ad:=ze V;clear V;go_wp2;go_ret;exact ⟨ZF ad.o,m,rfl⟩
  have U:k - 1<l.length:=by have:=G.o;omega
  have L:k - 1<j.length:=by omega
  obtain ⟨aj,u,rfl,ag,y,ai⟩:=ab.at_ (k:=k - 1) L;rw [vF L] at y;injection y with y
  subst y;obtain ⟨an,u,rfl,al,y,ak⟩:=S.at_ (k:=k - 1) (by omega);rw [vF U] at y;injection y with y
  subst y;have D:j.getD (k - 1) 0=j[k - 1]:=zv L;have E:l.getD (k - 1) 0=l[k - 1]:=zv U;have hi:((k:Int) - 1).toNat=k - 1:=by omega
  by_cases z:j.getD (k - 1) 0=l.getD (k - 1) 0
  . have R:=ze z
    have X:((j[k - 1]:Int) != (l[k - 1]:Int))=false:=by rw [<- D, <- E,z,bne_self_eq_false]
    clear z D E;go_wp2
    go_quiet (fail)
    go_wp2;go_roundw
    case rel=>
     refine ⟨k - 1,m+nq,by omega,congrArg _ (by omega),?_,rfl⟩;intro p M
     by_cases af:p=k - 1
     . subst af;exact R.o
     exact O.o p (by omega)
    case measure=>simp [intOf];omega
  have R:=ze z
  have X:((j[k - 1]:Int) != (l[k - 1]:Int))=true:=by
   rw [<- D, <- E,bne_iff_ne];omega
  have r:=zui G.o ac aa (k - 1) (by omega) (fun p M=>O.o p (by omega)) R.o;rw [D,E] at r;have K:=ze r;clear z D E r
  rcases (show j[k - 1]<l[k - 1]\/¬ j[k - 1]<l[k - 1] by omega) with Z | Z
  . have hD:decide ((j[k - 1]:Int)<(l[k - 1]:Int))=true:=decide_eq_true (by omega)
    have C:zP (j[k - 1]:Int) (l[k - 1]:Int)= -1:=by unfold zP;rw [if_pos (by omega)]
    have Q:=ze (K.o.symm.trans C);clear K C;go_wp2
    go_quiet (fail)
    go_wp2
    go_quiet (fail)
    go_wp2;go_ret;exact ⟨ZF Q.o,_,by rw [World.drewN_drewN,World.drewN_drewN]⟩
  . have hD:decide ((j[k - 1]:Int)<(l[k - 1]:Int))=false:=decide_eq_false (by omega)
    have ae:j[k - 1]≠l[k - 1]:=by
     intro e;have:=X;rw [e,bne_self_eq_false] at this
     cases this
    have C:zP (j[k - 1]:Int) (l[k - 1]:Int)=1:=by unfold zP;rw [if_neg (by omega),if_pos (by omega)]
    have Q:=ze (K.o.symm.trans C);clear K C ae;go_wp2
    go_quiet (fail)
    go_wp2
    go_quiet (fail)
    go_wp2;go_ret;exact ⟨ZF Q.o,_,by rw [World.drewN_drewN,World.drewN_drewN]⟩
theorem zev:(Tryz.prog.info? 3).map (fun i=>(i.zero,i.size,i.bytes))=some (some (.int .i64 0),1,8):=by kernel_rfl
theorem zd7 (ds:List Nat):∀ u∈Yd ds,u.oneCell' =true:=by
 intro u hu
 obtain ⟨d,_,rfl⟩:=List.mem_map.1 hu
 rfl
def zse (da db:List Nat) (w:World) (ov cv iv:Value) (wr:World):Prop:=
 ∃ (k c:Nat) (O:List Nat),(k<=max da.length db.length\/(k=max da.length db.length+1/\c=0))/\iv= .int .i64 k/\cv= .int .i64 c/\c<=1/\O.length=k/\zI 1000000000 O/\
  Hid (val 1000000000 O+c*1000000000 ^ k=val 1000000000 (da.take k)+val 1000000000 (db.take k))/\wr.ownsRow w.heap.size 3 1 ov k (Yd O)/\Below w.heap.size w wr
theorem zse.step {da db:List Nat} {w wr w2:World} {k c:Nat} {O:List Nat} {ov ov2:Value} {o:Obj} (hk:k<max da.length db.length\/(k=max da.length db.length/\c=1)) (hc:c<=1) (hO:O.length=k) (hsO:zI 1000000000 O)
 (HV:Hid (val 1000000000 O+c*1000000000 ^ k=val 1000000000 (da.take k)+val 1000000000 (db.take k))) (hown:wr.ownsRow w.heap.size 3 1 ov k (Yd O)) (hbl:Below w.heap.size w wr)
 (hsa:zI 1000000000 da) (hsb:zI 1000000000 db) (t:Nat) (ht:t=c+da.getD k 0+db.getD k 0) (cv iv dv:Value) (hcv:cv= .int .i64 ((t / 1000000000:Nat):Int)) (hiv:iv= .int .i64 ((k+1:Nat):Int)) (hdv:dv= .int .i64 ((t % 1000000000:Nat):Int))
 (hown2:w2.ownsRow w.heap.size 3 1 ov2 (k+1) (Yd O ++ [dv])) (hg:(wr.alloc o).grownBy w2 ov.ownBlock):zse da db w ov2 cv iv w2:=by
 subst hcv hiv hdv
 have j:=hsa.getD (by omega) k
 have e:=hsb.getD (by omega) k
 refine ⟨k+1,_,O ++ [t % 1000000000],?_,rfl,rfl,by omega,by simp [hO],hsO.append (zI.cons (Nat.mod_lt _ (by omega)) (zI.nil _)),?_,?_,?_⟩
 . rcases hk with h | ⟨h,b⟩
   . exact .inl (by omega)
   . refine .inr ⟨by omega,?_⟩
     rw [xq (by omega),xq (by omega)] at ht;subst ht b
     rfl
 . show _=_
   rw [Yb,hO,zO,zO,ht];exact zf0 HV.o
 . rw [VP]
   exact hown2
 . exact (hbl.alloc hbl.size o).grown hg (by have:=hbl.size;simp;omega) (fun k hk=>(hown.lt k hk).1)
theorem zse.end_ {da db O:List Nat} {k:Nat} (ha:da.length<=k) (hb:db.length<=k) (HV:Hid (val 1000000000 O+0*1000000000 ^ k=val 1000000000 (da.take k)+val 1000000000 (db.take k))):val 1000000000 O=val 1000000000 da+val 1000000000 db:=by
 have:=HV.o
 rw [List.take_of_length_le ha,List.take_of_length_le hb] at this
 omega
theorem VU {w:World} {base:Nat} {v:Value} {n:Nat} {ds:List Nat} (h:w.ownsRow base 3 1 v n (Yd ds)):∃ A c,v= .slice A n c/\n<=c/\c<=maxLen/\zV w w.heap.size 1 A n (Yd ds):=by
 rcases h.2 with ⟨rfl,e⟩ | ⟨g,m,r,rfl,hb,u,j,l,y,z⟩
 . have b:=h.1
   rw [e] at b;subst e;have:Yd ds=[]:=List.eq_nil_of_length_eq_zero (by simpa using b);rw [this];exact ⟨none,0,rfl,by omega,by simp [maxLen],zV.none_⟩
 . exact ⟨_,m,rfl,j,l,zV.of_own h⟩
theorem zrp (va vb:Value) (a b:Nat) (w:World) (ha:zy w va a) (hb:zy w vb b) (hla:len 1000000000 a<=67108864) (hlb:len 1000000000 b<=67108864):
 Calls Tryz.prog 131 #[va,vb] w (zfc w (a+b)):=by
 obtain ⟨A,ca,m,rfl,h1,h2,ak,h4,rfl⟩:=ha
 obtain ⟨B,cb,j,rfl,k1,k2,ad,k4,rfl⟩:=hb
 rw [<- h4.length_eq (by omega)] at hla
 rw [<- k4.length_eq (by omega)] at hlb
 have Q:=h4.1
 have L:=k4.1
 clear h4 k4 h2 k2 h1 k1
 obtain ⟨T,V,X,S,Y⟩:=info_parts zev
 go_enter func131,ntmps131
 go_wp2_with fail
 go_loopw [5,6,7] (zse m j w) (fun _ cv iv _=>max m.length j.length+1 - (intOf iv).toNat)
 case atStart=>exact ⟨0,0,[],.inl (Nat.zero_le _),rfl,rfl,by omega,rfl,zI.nil _,by simp [Hid,val],World.ownsRow_nil _ _ _ _,vh _⟩
 case round=>
  obtain ⟨k,c,O,hk,rfl,rfl,Z,hO,R,M,F,y⟩:=hrel
  by_cases ar:k<m.length\/k<j.length\/0<c
  rotate_left
  . obtain rfl:c=0:=by omega
    have aj:m.length<=k:=by omega
    have ah:j.length<=k:=by omega
    have al:k<=67108865:=by omega
    have af:=zse.end_ aj ah M;have an:=ze af;clear af M ar;obtain ⟨g,cg,rfl,ap,ae,l⟩:=VU F;have au:=ze ae;clear ae;go_wp2_with (go_at_call 136;refine (Yz _ _ _ _ _ _ l R ap au.o).mono ?_;rintro e w' ⟨v,rfl,ai,rfl⟩);go_ret;refine ⟨v,rfl,?_,y⟩;rw [<- an.o];exact ai
  have U:k<max m.length j.length\/(k=max m.length j.length/\c=1):=by omega
  have al:k<=67108864:=by omega
  have hm:k<max m.length j.length+1:=by omega
  clear hk
  by_cases N:k<m.length
  rotate_left
  . by_cases E:k<j.length
    rotate_left
    . have ax:(0:Int)<(c:Int):=by omega
      have aa:c<4294967296:=by omega
      have D:∀ u∈[Value.int .i64 ((c:Nat) % 1000000000:Int)],u.oneCell' =true:=by
       intro u hu;rw [List.mem_singleton] at hu;subst hu;rfl
      have l:=xJ wr 3 (.int .i64 ((c:Nat) % 1000000000:Int))
      push_cast at l D
      go_wp2_with (at_builtin;refine yj _ rfl (.tmp 46) (.tmp 49) _ rfl w.heap.size 3 T _ 1 8 underlying62 V X S Y rfl (by omega) _ k (Yd O) rfl (F.alloc _) _ (some ⟨wr.heap.size,0,none⟩) 1 1 _ rfl l D ?o2 ?o3 ?o4 ?_)
      case o2=>unfold maxLen;omega
      case o3=>omega
      case o4=>have:=y.size;simp;omega
      intro v3 w3 z C J;have I:=ze z;have K:=ze C;clear z C J l;go_wp2_with fail;go_roundw
      case rel=>exact zse.step U Z hO R M F y Q L (c) (by rw [xq (by omega),xq (by omega)];rfl) _ _ _ (by go_num) (by go_num) (by go_num) I.o K.o
      case measure=>simp [intOf];omega
    obtain ⟨ac,u,rfl,ab,r,G⟩:=ad.at_ E
    rw [vF E] at r;injection r with r
    subst r;have aq:=(y.cell (p:=ac.add k) (by rw [zz];exact ab)).trans G;clear G;have am:j[k]<1000000000:=L.get k E;have aa:c+j[k]<4294967296:=by omega
    have D:∀ u∈[Value.int .i64 ((c+j[k]:Nat) % 1000000000:Int)],u.oneCell' =true:=by
     intro u hu;rw [List.mem_singleton] at hu;subst hu;rfl
    have l:=xJ wr 3 (.int .i64 ((c+j[k]:Nat) % 1000000000:Int))
    push_cast at l D
    go_wp2_with (at_builtin;refine yj _ rfl (.tmp 46) (.tmp 49) _ rfl w.heap.size 3 T _ 1 8 underlying62 V X S Y rfl (by omega) _ k (Yd O) rfl (F.alloc _) _ (some ⟨wr.heap.size,0,none⟩) 1 1 _ rfl l D ?o2 ?o3 ?o4 ?_)
    case o2=>unfold maxLen;omega
    case o3=>omega
    case o4=>have:=y.size;simp;omega
    intro v3 w3 z C J;have I:=ze z;have K:=ze C;clear z C J l;go_wp2_with fail;go_roundw
    case rel=>exact zse.step U Z hO R M F y Q L (c+j[k]) (by rw [xq (by omega),zv E];rfl) _ _ _ (by go_num) (by go_num) (by go_num) I.o K.o
    case measure=>simp [intOf];omega
  obtain ⟨ao,u,rfl,ag,r,G⟩:=ak.at_ N
  rw [vF N] at r;injection r with r
  subst r;have av:=(y.cell (p:=ao.add k) (by rw [zz];exact ag)).trans G;clear G;have aw:m[k]<1000000000:=Q.get k N
  by_cases E:k<j.length
  rotate_left
  . have aa:c+m[k]<4294967296:=by omega
    have D:∀ u∈[Value.int .i64 ((c+m[k]:Nat) % 1000000000:Int)],u.oneCell' =true:=by
     intro u hu;rw [List.mem_singleton] at hu;subst hu;rfl
    have l:=xJ wr 3 (.int .i64 ((c+m[k]:Nat) % 1000000000:Int))
    push_cast at l D
    go_wp2_with (at_builtin;refine yj _ rfl (.tmp 46) (.tmp 49) _ rfl w.heap.size 3 T _ 1 8 underlying62 V X S Y rfl (by omega) _ k (Yd O) rfl (F.alloc _) _ (some ⟨wr.heap.size,0,none⟩) 1 1 _ rfl l D ?o2 ?o3 ?o4 ?_)
    case o2=>unfold maxLen;omega
    case o3=>omega
    case o4=>have:=y.size;simp;omega
    intro v3 w3 z C J;have I:=ze z;have K:=ze C;clear z C J l;go_wp2_with fail;go_roundw
    case rel=>exact zse.step U Z hO R M F y Q L (c+m[k]) (by rw [zv N,xq (by omega)];rfl) _ _ _ (by go_num) (by go_num) (by go_num) I.o K.o
    case measure=>simp [intOf];omega
  obtain ⟨ac,u,rfl,ab,r,G⟩:=ad.at_ E
  rw [vF E] at r;injection r with r
  subst r;have aq:=(y.cell (p:=ac.add k) (by rw [zz];exact ab)).trans G;clear G;have am:j[k]<1000000000:=L.get k E;have aa:c+m[k]+j[k]<4294967296:=by omega
  have D:∀ u∈[Value.int .i64 ((c+m[k]+j[k]:Nat) % 1000000000:Int)],u.oneCell' =true:=by
   intro u hu;rw [List.mem_singleton] at hu;subst hu;rfl
  have l:=xJ wr 3 (.int .i64 ((c+m[k]+j[k]:Nat) % 1000000000:Int))
  push_cast at l D
  go_wp2_with (at_builtin;refine yj _ rfl (.tmp 46) (.tmp 49) _ rfl w.heap.size 3 T _ 1 8 underlying62 V X S Y rfl (by omega) _ k (Yd O) rfl (F.alloc _) _ (some ⟨wr.heap.size,0,none⟩) 1 1 _ rfl l D ?o2 ?o3 ?o4 ?_)
  case o2=>unfold maxLen;omega
  case o3=>omega
  case o4=>have:=y.size;simp;omega
  intro v3 w3 z C J;have I:=ze z;have K:=ze C;clear z C J l;go_wp2_with fail;go_roundw
  case rel=>exact zse.step U Z hO R M F y Q L (c+m[k]+j[k]) (by rw [zv N,zv E];skip) _ _ _ (by go_num) (by go_num) (by go_num) I.o K.o
  case measure=>simp [intOf];omega
def zot (zs:List Int):List Value:=zs.map fun z=>Value.int .i64 z
theorem VL (zs:List Int):(zot zs).length=zs.length:=by simp [zot]
theorem zlb (ds:List Nat):zot (ds.map fun (d:Nat)=>(d:Int))=Yd ds:=by simp [zot,Yd]
def XI (w:World) (g:Nat) (zs:List Int) (rest:List Value):Prop:=Blk w g 3 (zot zs ++ rest).toArray
theorem XI.cell {w:World} {g:Nat} {zs:List Int} {rest:List Value} (h:XI w g zs rest) {k:Nat} (hk:k<zs.length):w.cell? ⟨g,k,none⟩=some (.int .i64 zs[k]):=by
 unfold XI at h
 rw [h.cell k,List.getElem?_toArray,List.getElem?_append_left (by rw [VL];exact hk)]
 simp [zot,hk]
theorem XI.set_ {w:World} {g:Nat} {zs:List Int} {rest:List Value} (h:XI w g zs rest) {k:Nat} (hk:k<zs.length) (z:Int):XI (w.setCell ⟨g,k,none⟩ (.int .i64 z)) g (zs.set k z) rest:=by
 unfold XI at h |-
 have:=h.set_ k (.int .i64 z)
 rw [List.setIfInBounds_toArray,List.set_append_left _ _ (by rw [VL];exact hk)] at this
 rw [show zot (zs.set k z)=(zot zs).set k (.int .i64 z) by simp [zot,List.map_set]]
 exact this
theorem XI.lt {w:World} {g:Nat} {zs:List Int} {rest:List Value} (h:XI w g zs rest):g<w.heap.size:=Blk.lt h
theorem XI.frozen {w:World} {g:Nat} {zs:List Int} {rest:List Value} (h:XI w g zs rest) (k:Nat):w.frozen? ⟨g,k,none⟩=false:=Blk.frozen h k
theorem XI.reads {w:World} {g:Nat} {ds:List Nat} {rest:List Value} (h:XI w g (ds.map fun (d:Nat)=>(d:Int)) rest):zV w w.heap.size 1 (some ⟨g,0,none⟩) ds.length (Yd ds):=by
 unfold XI at h
 have:=h.reads (n:=ds.length) (by simp [zot])
 rw [zlb] at this
 simpa [XC,List.take_append_of_le_length,List.take_of_length_le] using this
theorem zsl {w:World} {base n:Nat} {v:Value} {zs:List Int} (h:w.ownsRow base 3 1 v n (zot zs)) (hn:0<n):
 ∃ g c rest,v= .slice (some ⟨g,0,none⟩) n c/\base<=g/\zs.length=n/\XI w g zs rest/\n<=c/\c<=maxLen:=by
 have b:zs.length=n:=by have:=h.1;rw [VL] at this;omega
 rcases h.2 with ⟨_,z⟩ | ⟨g,m,j,u,hb,r,e,l,B,y⟩
 . omega
 . refine ⟨g,m,j.toList.drop n,u,hb,b,?_,e,l⟩
   unfold XI Blk;rw [r]
   congr 2
   rw [<- y,Nat.mul_one,List.take_append_drop]
def zxu (da db:List Nat) (g:Nat) (rest:List Value) (w:World) (iv:Value) (wr:World):Prop:=
 ∃ k:Nat,k<=db.length/\iv= .int .i64 k/\XI wr g (Zl da db k) rest/\Below w.heap.size w wr
def MinB (n V:Nat) (g:Nat) (rest:List Value) (w:World) (iv:Value) (wr:World):Prop:=
 ∃ (k:Nat) (zs:List Int),k<=n/\iv= .int .i64 k/\zs.length=n/\Hid (YX (1000000000:Nat) zs k (V:Int))/\XI wr g zs rest/\Below w.heap.size w wr
theorem zxu.step {da db:List Nat} {g k:Nat} {rest:List Value} {w wr:World} (hk:k<db.length) (hle:db.length<=da.length) (h:XI wr g (Zl da db k) rest) (hb:Below w.heap.size w wr) (hg:w.heap.size<=g) (n:Nat) (iv sv:Value)
 (hiv:iv= .int .i64 ((k+1:Nat):Int)) (hsv:sv= .int .i64 ((da.getD k 0:Int) - db.getD k 0)):zxu da db g rest w iv ((wr.setCell ⟨g,k,none⟩ sv).drewN n):=by
 subst hiv hsv
 refine ⟨k+1,by omega,rfl,?_,zo (hb.setCell hg _) n⟩
 have:=h.set_ (k:=k) (by rw [vU];omega) ((da.getD k 0:Int) - db.getD k 0)
 rw [zjr _ _ _ (by omega)] at this
 exact this
theorem Vk (va vb:Value) (a b:Nat) (w:World) (ha:zy w va a) (hb:zy w vb b) (hle:b<=a) (hla:len 1000000000 a<=67108864):
 Calls Tryz.prog 133 #[va,vb] w (zfc w (a - b)):=by
 obtain ⟨A,ca,j,rfl,h1,h2,aq,M,rfl⟩:=ha
 obtain ⟨B,cb,r,rfl,k1,k2,al,R,rfl⟩:=hb
 rw [<- M.length_eq (by omega)] at hla
 have aj:r.length<=j.length:=yW.length_le (by omega) R M hle
 have af:=M.1
 have ac:=R.1
 have aK:=ze hle
 have Y:=YX.start (β:=1000000000) (by omega) af ac aj
 rw [show ((val 1000000000 j:Int) - val 1000000000 r)=((val 1000000000 j - val 1000000000 r:Nat):Int) by omega] at Y
 have ai:=ze Y
 obtain ⟨i0,av,ax,am,aC⟩:=info_parts zev
 have aB:=zd7 j
 clear Y hle M R h2 k2 h1 k1
 go_enter func133,ntmps133
 go_wp2_with (at_builtin;refine yj _ rfl (.const (.slice none 0 0)) (.tmp 8) _ rfl w.heap.size 3 i0 _ 1 8 underlying62 av ax am aC rfl (by omega) _ 0 [] rfl (World.ownsRow_nil _ _ _ _) _ A j.length ca _ rfl aq aB ?o2 ?o3 ?o4 ?_)
 case o2=>unfold maxLen;omega
 case o3=>omega
 case o4=>exact Nat.le_refl _
 intro v3 w3 J ag az
 try rw [Nat.zero_add,List.nil_append] at J
 have z:Below w.heap.size w w3:=(vh w).grown ag (Nat.le_refl _) (by intro k U;simp [Value.ownBlock] at U)
 clear ag az
 rcases Nat.eq_zero_or_pos j.length with O | O
 . have e1:j=[]:=List.eq_nil_of_length_eq_zero O
   have e2:r=[]:=List.eq_nil_of_length_eq_zero (by omega);subst e1 e2;obtain ⟨g,cg,rfl,aH,ad,L⟩:=VU J;have aa:=ze ad;clear ad O;go_wp2_with fail;refine wp_loop_rounds 1 ?_;rw [rounds_succ];go_wp2_with fail;refine wp_loop_rounds 1 ?_;rw [rounds_succ];go_wp2_with (go_at_call 136;refine (Yz _ _ _ _ _ _ L (zI.nil _) (by simp) aa.o).mono ?_;rintro e w' ⟨v,rfl,T,rfl⟩);go_ret;exact ⟨v,rfl,T,z⟩
 . rw [<- zlb] at J
   obtain ⟨g,c,rest,rfl,X,F,l,ap,ae⟩:=zsl J O;have aa:=ze ae;rw [<- zh5 j r] at l;clear J ae F;go_wp2_with fail
   go_loopw [6] (zxu j r g rest w) (fun iv _=>r.length - (intOf iv).toNat)
   case atStart=>exact ⟨0,Nat.zero_le _,rfl,l,z⟩
   case round=>
    clear l z;obtain ⟨k,U,rfl,l,z⟩:=hrel
    by_cases E:k<r.length
    . obtain ⟨aF,u,rfl,aD,N,ak⟩:=al.at_ E
      rw [vF E] at N;injection N with N
      subst N;have aI:=(z.cell (p:=aF.add k) (by rw [zz];exact aD)).trans ak;clear ak;have ah :k<(Zl j r k).length:=by rw [vU];omega
      have G:=l.cell ah;rw [YD _ _ _ _ (by omega),if_neg (by omega)] at G;have an:=l.frozen k;have ao:=l.lt;have aA:=af.getD (by omega) k;have aG:=ac.get k E;have ey:(r.getD k 0:Int)=(r[k]:Int):=by rw [zv E]
      have aE:=ze ey;have aw:(k:Int)<(j.length:Int):=by omega
      obtain ⟨x,V⟩:∃ x,x=j.getD k 0:=⟨_,rfl⟩;rw [<- V] at G aA;have ay:=ze V;clear ey ah V;go_wp2_with fail
      go_region
      go_wp2;go_roundw
      case rel=>exact zxu.step E aj l z X 1 _ _ (by go_num) (by rw [aE.o, <- ay.o])
      case measure=>simp [intOf];omega
    obtain rfl:k=r.length:=by omega
    go_wp2_with fail
    go_loopw [7] (MinB j.length (val 1000000000 j - val 1000000000 r) g rest w) (fun iv _=>j.length - (intOf iv).toNat)
    case atStart=>exact ⟨0,_,Nat.zero_le _,rfl,vU _ _ _,ai,l,z⟩
    case round=>
     clear l z E ai;obtain ⟨k,m,U,rfl,F,C,l,z⟩:=hrel
     by_cases E:k<j.length
     rotate_left
     . obtain ⟨ds,rfl,hs,hl,hv⟩:=C.o.done (by omega)
       have L:=l.reads;have HV:=ze hv;have ar:ds.length=j.length:=by omega
       rw [ar] at L;clear hv C F hl;obtain rfl:k=j.length:=by omega
       go_wp2_with (go_at_call 136;refine (Yz _ _ _ _ _ _ L hs ap aa.o).mono ?_;rintro e w' ⟨v,rfl,T,rfl⟩);go_ret;refine ⟨v,rfl,?_,z⟩;rw [<- HV.o];exact T
     have D:k<m.length:=by omega
     have G:=l.cell D;have an:=l.frozen k;have ao:=l.lt;have aw:(k:Int)<(j.length:Int):=by omega
     obtain ⟨z1,z2⟩:=C.o.2.2.1 D
     by_cases Q:m[k]<0
     rotate_left
     . have K:=ze (C.o.keep D (by omega))
       generalize m[k]=x at G z1 z2 Q;clear C;go_wp2;go_roundw
       case rel=>exact ⟨k+1,m,by omega,by go_num,F,K,l,z⟩
       case measure=>simp [intOf];omega
     have I:=C.o.more (by omega) (by omega) D Q
     have ab:=(l.set_ D (m[k]+1000000000)).cell (k:=k+1) (by simpa using I);have au:=(l.set_ D (m[k]+1000000000)).frozen (k+1);rw [List.getElem_set_ne (by omega)] at ab;obtain ⟨z3,z4⟩:=C.o.2.2.2 (k+1) I (by omega);have aJ:(k:Int)+1<(j.length:Int):=by omega
     have K:=ze (C.o.back (by omega) I Q);have Z:=ze ((l.set_ D (m[k]+1000000000)).set_ (k:=k+1) (by simpa using I) (m[k+1] - 1));have S:=ze (show ((m.set k (m[k]+1000000000)).set (k+1) (m[k+1] - 1)).length=j.length by simpa using F);generalize m[k]=x at G ab au z1 z2 Q K Z S;generalize m[k+1]=y at ab z3 z4 K Z S;clear l C I D F;go_wp2_with fail;go_roundw
     case rel=>exact ⟨k+1,_,by omega,by go_num,S.o,K,Z.o,(z.setCell X _).setCell X _⟩
     case measure=>simp [intOf];omega
def vk (ds:List Nat):Array Value:=(Yd ds).toArray
theorem zgv (ds:List Nat):(vk ds).size=ds.length:=by simp [vk,XC]
theorem XB {ds:List Nat} {k:Nat} (hk:k<ds.length):(vk ds)[k]?=some (.int .i64 (ds[k]:Int)):=by
 unfold vk;rw [List.getElem?_toArray];exact vF hk
theorem Xy (ds:List Nat) (k d:Nat):(vk ds).setIfInBounds k (.int .i64 (d:Int))=vk (ds.set k d):=by
 unfold vk Yd
 simp [List.map_set]
theorem zg1 (n:Nat):madeCells #[Value.int .i64 0] n=vk (List.replicate n 0):=by
 apply Array.ext'
 rw [toList_madeCells_one]
 simp [vk,Yd]
theorem zb2 {w:World} {g t:Nat} {ds:List Nat} (h:Blk w g t (vk ds)):zV w w.heap.size 1 (some ⟨g,0,none⟩) ds.length (Yd ds):=by
 have:=h.reads (n:=ds.length) (by rw [zgv];exact Nat.le_refl _)
 rw [show (vk ds).toList.take ds.length=Yd ds by rw [<- XC ds];simp [vk]] at this
 exact this
theorem zts (k:IntKind) (n:Nat) (hn:n<=1073741824) (w:World):
 (Instr.makeSlice 62 (.int k (n:Int)) (.int k (n:Int))).run Tryz.prog w= .ok (.slice (some ⟨w.heap.size,0,none⟩) n n) (w.alloc (.cells (vk (List.replicate n 0)) 3)):=by
 rw [run_make_row' 62 3 (.int .i64 0) 8 underlying62 zev rfl k k n (by omega) (by omega) w,zg1]
def zxv (da db:List Nat) (w:World) (iv:Value) (wr:World):Prop:=
 ∃ (k:Nat) (O:List Nat),k<=da.length/\iv= .int .i64 k/\O.length=da.length+db.length+1/\zI 1000000000 O/\
  Hid (val 1000000000 O=val 1000000000 (da.take k)*val 1000000000 db)/\Hid (∀ p,k+db.length<=p->O.getD p 0=0)/\Blk wr w.heap.size 3 (vk O)/\Below w.heap.size w wr
def zwv (da db:List Nat) (k x:Nat) (w:World) (cv jv:Value) (wr:World):Prop:=
 ∃ (j c:Nat) (O:List Nat),j<=db.length+1/\(db.length<j->c=0)/\jv= .int .i64 j/\cv= .int .i64 c/\c<1000000000/\O.length=da.length+db.length+1/\zI 1000000000 O/\
  Hid (val 1000000000 O+c*(1000000000 ^ k*1000000000 ^ j)=val 1000000000 (da.take k)*val 1000000000 db+x*1000000000 ^ k*val 1000000000 (db.take j))/\
  Hid (∀ p,k+db.length<=p->k+j<=p->O.getD p 0=0)/\Blk wr w.heap.size 3 (vk O)/\Below w.heap.size w wr
theorem zmi {c x y o:Nat} (hc:c<1000000000) (hx:x<1000000000) (hy:y<1000000000) (ho:o<1000000000):o+c+x*y<1000000000*1000000000:=by
 have:=zh9 (β:=1000000000) hc hx hy ho
 omega
theorem zwv.step {da db:List Nat} {w wr:World} {k x j c:Nat} {O:List Nat} (hk:k<da.length) (hj:j<=db.length) (hc:c<1000000000) (hO:O.length=da.length+db.length+1) (hsO:zI 1000000000 O)
 (HV:Hid (val 1000000000 O+c*(1000000000 ^ k*1000000000 ^ j)=val 1000000000 (da.take k)*val 1000000000 db+x*1000000000 ^ k*val 1000000000 (db.take j)))
 (HZ:Hid (∀ p,k+db.length<=p->k+j<=p->O.getD p 0=0)) (hblk:Blk wr w.heap.size 3 (vk O)) (hbl:Below w.heap.size w wr) (hx:x<1000000000) (hsb:zI 1000000000 db)
 (o:Nat) (ho:O[k+j]'(by omega)=o) (t:Nat) (ht:t=o+c+x*db.getD j 0) (cv jv sv:Value) (hcv:cv= .int .i64 ((t / 1000000000:Nat):Int)) (hjv:jv= .int .i64 ((j+1:Nat):Int)) (hsv:sv= .int .i64 ((t % 1000000000:Nat):Int)):
 zwv da db k x w cv jv (wr.setCell ⟨w.heap.size,k+j,none⟩ sv):=by
 subst hcv hjv hsv
 have m :t=c+x*db.getD j 0+o:=by omega
 have l:o<1000000000:=by rw [<- ho];exact hsO.get _ _
 have hb:=zmi hc hx (hsb.getD (by omega) j) l
 have b:=zjw 1000000000 O (k+j) (t % 1000000000) (by omega)
 rw [ho,Nat.pow_add] at b
 refine ⟨j+1,_,O.set (k+j) (t % 1000000000),by omega,?_,rfl,rfl,(Nat.div_lt_iff_lt_mul (by omega)).2 (by omega),by simpa using hO,hsO.set _ _ (Nat.mod_lt _ (by omega)),?_,?_,?_,hbl.setCell (Nat.le_refl _) _⟩
 . intro y
   have z:j=db.length:=by omega
   have e:=HZ.o (k+j) (by omega) (by omega);rw [zv (by omega),ho] at e;rw [xq (by omega),e] at ht;rw [ht];simp;omega
 . show _=_
   rw [zO];have u:=HV.o;rw [m] at b |-;exact zlq u b
 . intro p r B
   rw [getD_set_ne _ _ _ _ (by omega)];exact HZ.o p r (by omega)
 . have:=hblk.set_ (k+j) (.int .i64 ((t % 1000000000:Nat):Int))
   rwa [Xy] at this
theorem zxv.step {da db:List Nat} {w wr:World} {k j:Nat} {O:List Nat} (hk:k<da.length) (hj:db.length<=j) (hj2:j<=db.length+1) (hO:O.length=da.length+db.length+1) (hsO:zI 1000000000 O)
 (HV:Hid (val 1000000000 O+0*(1000000000 ^ k*1000000000 ^ j)=val 1000000000 (da.take k)*val 1000000000 db+da[k]*1000000000 ^ k*val 1000000000 (db.take j)))
 (HZ:Hid (∀ p,k+db.length<=p->k+j<=p->O.getD p 0=0)) (hblk:Blk wr w.heap.size 3 (vk O)) (hbl:Below w.heap.size w wr)
 (iv:Value) (hiv:iv= .int .i64 ((k+1:Nat):Int)):zxv da db w iv wr:=by
 subst hiv
 refine ⟨k+1,O,by omega,rfl,hO,hsO,?_,?_,hblk,hbl⟩
 rotate_left
 . intro p b
   exact HZ.o p (by omega) (by omega)
 have h:=HV.o
 rw [List.take_of_length_le hj] at h
 show val _ _=_
 rw [yR _ _ _ hk,Nat.add_mul,Nat.mul_comm (1000000000 ^ k)]
 omega
theorem vt (va vb:Value) (a b:Nat) (w:World) (ha:zy w va a) (hb:zy w vb b) (hla:len 1000000000 a<=67108864) (hlb:len 1000000000 b<=67108864):
 Calls Tryz.prog 87 #[va,vb] w (zfc w (a*b)):=by
 obtain ⟨A,ca,m,rfl,h1,h2,ac,M,rfl⟩:=ha
 obtain ⟨B,cb,l,rfl,k1,k2,Y,L,rfl⟩:=hb
 rw [<- M.length_eq (by omega)] at hla
 rw [<- L.length_eq (by omega)] at hlb
 have ae:=M.1
 have K:=L.1
 clear M L h2 k2
 have ad:=fun w=>zts .i64 (m.length+l.length+1) (by omega) w
 rw [show ((m.length+l.length+1:Nat):Int)=(m.length:Int)+l.length+1 by omega] at ad
 go_enter func87,ntmps87
 go_wp2
 go_loopw [6] (zxv m l w) (fun iv _=>m.length - (intOf iv).toNat)
 case atStart=>
  refine ⟨0,List.replicate (m.length+l.length+1) 0,by omega,rfl,by simp,zI.replicate (by omega) _,by rw [zay,List.take_zero,Zc,Nat.zero_mul];exact rfl,?_,Blk.new _ _ _,(Below.refl _ _).alloc (Nat.le_refl _) _⟩
  intro p _
  rw [List.getD_eq_getElem?_getD,List.getElem?_replicate]
  split<;>rfl
 case round=>
  obtain ⟨k,O,hk,rfl,I,D,C,E,r,y⟩:=hrel
  have hg:=r.lt
  by_cases F:k<m.length
  rotate_left
  . obtain rfl:k=m.length:=by omega
    have X:=zb2 r;rw [I] at X
    have T:val 1000000000 O=val 1000000000 m*val 1000000000 l:=by
     have h:=C.o
     rwa [List.take_length] at h
    have af:=ze T;clear T C E;go_wp2_with (go_at_call 136;refine (Yz _ _ _ _ _ _ X D (Nat.le_refl _) (by unfold maxLen;omega)).mono ?_;rintro e w' ⟨v,rfl,aa,rfl⟩);go_ret;refine ⟨v,rfl,?_,y⟩;rw [<- af.o];exact aa
  obtain ⟨ag,u,rfl,Z,z,ai⟩:=ac.at_ F
  rw [vF F] at z;injection z with z
  subst z;have U:m[k]<1000000000:=ae.get k F;go_wp2;obtain ⟨wo,ab⟩:∃ wo:World,wo=wr:=⟨_,rfl⟩;subst ab
  go_loopw [7,8] (zwv m l k m[k] w) (fun _ jv _=>l.length+1 - (intOf jv).toNat)
  case atStart=>
   exact ⟨0,0,O,by omega,fun _=>rfl,rfl,rfl,by omega,I,D,by rw [List.take_zero,Zc,Nat.zero_mul,Nat.mul_zero];exact C,fun p hp _=>E.o p hp,r,y⟩
  case round=>
   clear C E r y D;obtain ⟨j,c,O,hj,J,rfl,rfl,V,I,D,C,E,r,y⟩:=hrel;have hg:=r.lt;have ap:=(y.cell (p:=ag.add k) (by rw [zz];exact Z)).trans ai
   by_cases N:j<l.length\/0<c
   rotate_left
   . obtain rfl:c=0:=by omega
     have G:l.length<=j:=by omega
     clear J;go_wp2;go_roundw
     case rel=>exact zxv.step F G hj I D C E r y _ (by go_num)
     case measure=>simp [intOf];omega
   have S:j<=l.length:=by
    rcases N with h | h
    . omega
    . rcases Nat.lt_or_ge l.length j with Q | Q
      . have:=J Q;omega
      . exact Q
   have al:=(r.cell (k+j)).trans (XB (by omega));have am:=r.frozen (k+j);have ao:O[k+j]<1000000000:=D.get _ _;have av:=ze J;clear J
   by_cases G:j<l.length
   rotate_left
   . have aw:0<c:=by omega
     clear N;go_wp2;go_roundw
     case rel=>exact zwv.step F S V I D C E r y U K O[k+j] rfl (O[k+j]+c) (by rw [xq (by omega)];rfl) _ _ _ (by go_num) (by go_num) (by go_num)
     case measure=>simp [intOf];omega
   obtain ⟨aj,u,rfl,ah,z,R⟩:=Y.at_ G
   rw [vF G] at z;injection z with z
   subst z;have au:=(y.cell (p:=aj.add j) (by rw [zz];exact ah)).trans R;clear R;have aq:l[j]<1000000000:=K.get j G;have an:m[k]*l[j]<=999999998000000001:=Nat.le_trans (Nat.mul_le_mul (show m[k]<=999999999 by omega) (show l[j]<=999999999 by omega)) (by omega);have ar :(m[k]:Int)*(l[j]:Int)<=999999998000000001:=by rw [<- Int.natCast_mul];omega
   have ak:(0:Int)<=(m[k]:Int)*(l[j]:Int):=Int.mul_nonneg (by omega) (by omega);clear N;go_wp2
   go_quiet (fail)
   go_wp2;go_roundw
   case rel=>exact zwv.step F S V I D C E (r.drewN nq) (zo y nq) U K O[k+j] rfl (O[k+j]+c+m[k]*l[j]) (by rw [zv G]) _ _ _ (by go_num) (by go_num) (by go_num)
   case measure=>simp [intOf];omega
end Go.Proofs.YthbmhkiphmcogaaGreatDoor
