/- Parts of the proof. -/
import Derived.LoopN
import Derived.Test.YtobdoblpnanclaaGreatDoorMo10
set_option linter.all false
set_option maxRecDepth 100000
set_option maxHeartbeats 32000000
namespace Go.Proofs.YtobdoblpnanclaaGreatDoor
open Proofs.Tryz Go.RowKit Go.Deep
def zN (w:World) (v:Value) (z:Int):Prop:=
 (∃ x ng,v= .agg #[.int .i64 x,.slice none 0 0,.bool ng]/\ -4611686018427387904<x/\x<4611686018427387904/\z=x)\/
 (∃ ad k c n ng,v= .agg #[.int .i64 0,.slice (some ad) k c,.bool ng]/\yt w (.slice (some ad) k c) n/\4611686018427387904<=n/\z=if ng=true then -(n:Int) else n)
theorem zN.below {w w' :World} {v:Value} {z:Int} (h:zN w v z) (hb:Below w.heap.size w w'):zN w' v z:=by
 rcases h with h | ⟨m,k,c,n,ng,j,b,l,e⟩
 . exact .inl h
 . exact .inr ⟨m,k,c,n,ng,j,yt.below b hb,l,e⟩
def ZW (w:World) (z:Int) (e:Ending) (w' :World):Prop:=∃ v,e= .returned v/\zN w' v z/\Below w.heap.size w w'
def zb2 (w:World) (z:Int) (e:Ending) (w' :World):Prop:=∃ v,e= .returned (.tuple #[.bool (decide (z<0)),v])/\yt w' v z.natAbs/\Below w.heap.size w w'
theorem zvc (w:World) (a:Option Addr) (n c n' c' :Nat):(binOp .neq 56 (.slice a n c) (.slice none n' c')).run prog w= .ok (.bool (!a.isNone)) w:=
 run_neq_slice_nil_any w _ _ a n c n' c' underlying56
theorem zml (w:World) (a:Option Addr) (n c n' c' :Nat):(binOp .eql 56 (.slice a n c) (.slice none n' c')).run prog w= .ok (.bool a.isNone) w:=
 Lib.run_eql_slice_nil w _ _ a n c n' c' underlying56
theorem X7 (x:Int) (g:Value) (ng:Bool) (w:World) (h1: -4611686018427387904<x) (h2:x<4611686018427387904):
 Calls prog 85 #[.agg #[.int .i64 x,g,.bool ng]] w (zj3 w (.int .u64 (x.natAbs:Nat))):=by
 by_cases h:x<0
 . have e:(x.natAbs:Int)= -x:=by omega
   rw [e];clear e
   go_in
   go_wp2;go_ret;exact ⟨by go_num,zf _ _⟩
 have e:(x.natAbs:Int)=x:=by omega
 rw [e];clear e
 go_in
 go_wp2;go_ret;exact ⟨by go_num,zf _ _⟩
theorem ZD (v:Value) (z:Int) (w:World) (h:zN w v z):
 Calls prog 76 #[v] w (zj3 w (.int .i64 (zZ z 0))):=by
 rcases h with ⟨x,ng,rfl,r,m,rfl⟩ | ⟨l,k,c,n,ng,rfl,u,e,rfl⟩
 . have j:=fun w=>zvc w none 0 0 0 0
   have b:Hid (zZ z 0=if z<0 then -1 else if 0<z then 1 else 0):=rfl
   rcases Int.lt_trichotomy z 0 with h | h | h
   . go_in
     go_wp2;go_ret;exact ⟨by rw [b.o,if_pos (by omega)];rfl,zf _ _⟩
   . subst h
     go_in
     go_wp2;go_ret;exact ⟨by rw [b.o];rfl,zf _ _⟩
   . go_in
     go_wp2;go_ret;exact ⟨by rw [b.o,if_neg (by omega),if_pos (by omega)];rfl,zf _ _⟩
 . have j:=fun w=>zvc w (some l) k c 0 0
   cases ng with
   | true=>
     have b:Hid (zZ (if (true:Bool)=true then -(n:Int) else n) 0= -1):=by show _=_;simp only [if_true];unfold zZ;rw [if_pos (by omega)]
     rw [b.o];clear e
     go_in
     go_wp2;go_ret;exact ⟨rfl,zf _ _⟩
   | false=>
     have b:Hid (zZ (if (false:Bool)=true then -(n:Int) else n) 0=1):=by show _=_;simp only [Bool.false_eq_true,if_false];unfold zZ;rw [if_neg (by omega),if_pos (by omega)]
     rw [b.o];clear e
     go_in
     go_wp2;go_ret;exact ⟨rfl,zf _ _⟩
theorem yF (v:Value) (z:Int) (w:World) (h:zN w v z):
 Calls prog 74 #[v] w (ZW w (-z)):=by
 rcases h with ⟨x,ng,rfl,B,y,rfl⟩ | ⟨b,k,c,n,ng,rfl,l,j,rfl⟩
 . have m:=fun w=>zvc w none 0 0 0 0
   go_in
   go_wp2;refine bodyPost_ret (v:=.agg #[.int .i64 (-z),.slice none 0 0,.bool false]) (by simp [results,results74,go_sem]) rfl ?_;exact ⟨_,rfl,.inl ⟨_,_,rfl,by omega,by omega,rfl⟩,ext (zf _ _) (zf _ _)⟩
 . have m:=fun w=>zvc w (some b) k c 0 0
   have r:=ze j;clear j;have hb:Below w.heap.size w ((w.alloc (.cells #[.int .i64 0,.slice (some b) k c,.bool ng] 58)).alloc (.cells #[.int .i64 0,.slice (some b) k c,.bool (!ng)] 58)):=ext (zf _ _) (zf _ _)
   have e:zN ((w.alloc (.cells #[.int .i64 0,.slice (some b) k c,.bool ng] 58)).alloc (.cells #[.int .i64 0,.slice (some b) k c,.bool (!ng)] 58)) (.agg #[.int .i64 0,.slice (some b) k c,.bool (!ng)]) (-(if ng=true then -(n:Int) else n)):=
    .inr ⟨b,k,c,n, !ng,rfl,yt.below l hb,r.o,by cases ng<;>simp⟩
   clear l;generalize u: -(if ng=true then -(n:Int) else n)=z at e |-;clear u
   cases ng with
   | true=>
     go_in
     go_wp2;refine bodyPost_ret (v:=.agg #[.int .i64 0,.slice (some b) k c,.bool false]) (by simp [results,results74,go_sem]) rfl ?_;exact ⟨_,rfl,e,hb⟩
   | false=>
     go_in
     go_wp2;refine bodyPost_ret (v:=.agg #[.int .i64 0,.slice (some b) k c,.bool true]) (by simp [results,results74,go_sem]) rfl ?_;exact ⟨_,rfl,e,hb⟩
theorem zi {g i:Nat} {v:Value} {w w' :World} (hb:Below w.heap.size w w') (hl:g<w.heap.size) (h:w.cell? ⟨g,i,none⟩=some v):w'.cell? ⟨g,i,none⟩=some v:=(hb.cell hl).trans h
theorem zY {g:Nat} {w w' :World} (hb:Below w.heap.size w w') (hl:g<w.heap.size):g<w'.heap.size:=uK hl hb.size
theorem zp {w0 w w' :World} (hb:Below w.heap.size w w') (h:Hid (Below w0.heap.size w0 w)):Hid (Below w0.heap.size w0 w'):=ext h.out hb
theorem vV (v:Value) (z:Int) (w:World) (h:zN w v z):
 Calls prog 86 #[v] w (zb2 w z):=by
 rcases h with ⟨x,ng,rfl,m,l,rfl⟩ | ⟨r,k,c,n,ng,rfl,y,G,rfl⟩
 . have E:=fun w=>zvc w none 0 0 0 0
   have I:=fun w=>X7 z (.slice none 0 0) ng w m l
   have B:z.natAbs<18446744073709551616:=by omega
   have C:=fun w=>zlp z.natAbs B w
   clear B m l
   go_in
   go_wp2_with fail
   go_region_held3 (fun w' =>w'.cell? ⟨w.heap.size,0,none⟩=some (.int .i64 z)/\w'.cell? ⟨w.heap.size,1,none⟩=some (.slice none 0 0)/\w'.cell? ⟨w.heap.size,2,none⟩=some (.bool ng)/\w.heap.size<w'.heap.size/\Hid (Below w.heap.size w w'))
    (first
      | exact ⟨by go_keep,by go_keep,by go_keep,by go_keep,ze (zo (zf _ _) 1)⟩
      | go_keep
      | (go_split_ands;exact ⟨zi ‹_› ‹_› ‹_›,zi ‹_› ‹_› ‹_›,zi ‹_› ‹_› ‹_›,zY ‹_› ‹_›,zp ‹_› ‹_›⟩))
    (first
      | (refine (I _).mono ?_;rintro e J ⟨rfl,K⟩)
      | (refine (C _).mono ?_;rintro e w2 ⟨F,rfl,D,L⟩))
   all_goals
    go_wp2;go_ret2;go_split_ands;exact ⟨F,rfl,D,zW ‹_›⟩
 . have E:=fun w=>zvc w (some r) k c 0 0
   have j:(if ng=true then -(n:Int) else n).natAbs=n:=by cases ng<;>simp
   have u:decide ((if ng=true then -(n:Int) else n)<0)=ng:=by cases ng<;>simp<;>omega
   have b:∀ e w',(e= .returned (.tuple #[.bool ng,.slice (some r) k c])/\Below w.heap.size w w')->zb2 w (if ng=true then -(n:Int) else n) e w' :=by
    rintro e w' ⟨rfl,hb⟩;exact ⟨_,by rw [u],by rw [j];exact yt.below y hb,hb⟩
   refine Calls.mono ?_ b;clear j u b y G
   cases ng with
   | true=>
     go_in
     go_wp2
     go_quiet (fail)
     go_wp2;go_ret2;exact ⟨rfl,zo (zf _ _) _⟩
   | false=>
     go_in
     go_wp2
     go_quiet (fail)
     go_wp2;go_ret2;exact ⟨rfl,zo (zf _ _) _⟩
def signed (ng:Bool) (n:Nat):Int:=if ng=true then -(n:Int) else n
theorem zv2 (ng:Bool) (A:Option Addr) (c:Nat) (w:World):Calls prog 46 #[.bool ng,.slice A 0 c] w (ZW w (signed ng 0)):=by
 cases ng with
 | true=>
   go_in
   go_wp2;refine wp_loop_rounds 1 ?_;rw [rounds_succ];go_wp2;refine bodyPost_ret (v:=.agg #[.int .i64 (0),.slice none 0 0,.bool false]) (by simp [results,results46,go_sem]) rfl ?_;exact ⟨_,rfl,.inl ⟨_,_,rfl,by omega,by omega,rfl⟩,zf _ _⟩
 | false=>
   go_in
   go_wp2;refine wp_loop_rounds 1 ?_;rw [rounds_succ];go_wp2;refine bodyPost_ret (v:=.agg #[.int .i64 (0),.slice none 0 0,.bool false]) (by simp [results,results46,go_sem]) rfl ?_;exact ⟨_,rfl,.inl ⟨_,_,rfl,by omega,by omega,rfl⟩,zf _ _⟩
theorem zvk (ng:Bool) (ad:Addr) (c d:Nat) (w:World) (hd:d<4294967296) (hb:ad.block<w.heap.size) (hc:w.cell? ad=some (.int .u32 d)):Calls prog 46 #[.bool ng,.slice (some ad) 1 c] w (ZW w (signed ng d)):=by
 have e:bits .or .u64 0 (d:Int)=(d:Int):=by
  have:=u64_or_nat 0 d (by omega) (by omega)
  rw [Nat.zero_or] at this
  exact this
 have b:(d:Int)<4611686018427387904:=by omega
 have j:decide ((d:Int)<4611686018427387904)=true:=uE b
 cases ng with
 | true=>
   go_in
   go_wp2;refine wp_loop_rounds 2 ?_;rw [rounds_succ];go_wp2;rw [rounds_succ];go_wp2;refine bodyPost_ret (v:=.agg #[.int .i64 (-d),.slice none 0 0,.bool false]) (by simp [results,results46,go_sem]) rfl ?_;exact ⟨_,rfl,.inl ⟨_,_,rfl,by omega,by omega,rfl⟩,zf _ _⟩
 | false=>
   go_in
   go_wp2;refine wp_loop_rounds 2 ?_;rw [rounds_succ];go_wp2;rw [rounds_succ];go_wp2;refine bodyPost_ret (v:=.agg #[.int .i64 (d),.slice none 0 0,.bool false]) (by simp [results,results46,go_sem]) rfl ?_;exact ⟨_,rfl,.inl ⟨_,_,rfl,by omega,by omega,rfl⟩,zf _ _⟩
theorem zsw (x y:Nat) (hx:x<4294967296) (hy:y<4294967296):bits .or .u64 (x:Int) ((y:Int)*4294967296)=((x+y*4294967296:Nat):Int):=by
 have:=u64_or_nat x (y*4294967296) (by omega) (by omega)
 rw [Int.natCast_mul] at this
 have j:(2:Nat) ^ 32=4294967296:=by decide
 have e:=VZ (n:=32) (a:=y) (b:=x) (by omega)
 rw [j,uH] at e
 rw [e] at this
 exact this
theorem zwe (ng:Bool) (ad:Addr) (c d e V:Nat) (w:World) (hd:d<4294967296) (he:e<4294967296) (hV:V=d+e*4294967296) (hb:ad.block<w.heap.size) (hc:w.cell? ad=some (.int .u32 d))
 (hc1:w.cell? ⟨ad.block,ad.off+1,none⟩=some (.int .u32 e)) (hlt:V<4611686018427387904):Calls prog 46 #[.bool ng,.slice (some ad) 2 c] w (ZW w (signed ng V)):=by
 have l:bits .or .u64 0 (d:Int)=(d:Int):=by
  have:=u64_or_nat 0 d (by omega) (by omega)
  rw [Nat.zero_or] at this
  exact this
 have j:bits .or .u64 (d:Int) ((e:Int)*4294967296)=(V:Int):=by rw [zsw d e hd he,hV]
 clear hV
 have b:(V:Int)<4611686018427387904:=by omega
 have m:decide ((V:Int)<4611686018427387904)=true:=uE b
 cases ng with
 | true=>
   go_in
   go_wp2;refine wp_loop_rounds 3 ?_;rw [rounds_succ];go_wp2;rw [rounds_succ];go_wp2;rw [rounds_succ];go_wp2;refine bodyPost_ret (v:=.agg #[.int .i64 (-V),.slice none 0 0,.bool false]) (by simp [results,results46,go_sem]) rfl ?_;exact ⟨_,rfl,.inl ⟨_,_,rfl,by omega,by omega,rfl⟩,zf _ _⟩
 | false=>
   go_in
   go_wp2;refine wp_loop_rounds 3 ?_;rw [rounds_succ];go_wp2;rw [rounds_succ];go_wp2;rw [rounds_succ];go_wp2;refine bodyPost_ret (v:=.agg #[.int .i64 (V),.slice none 0 0,.bool false]) (by simp [results,results46,go_sem]) rfl ?_;exact ⟨_,rfl,.inl ⟨_,_,rfl,by omega,by omega,rfl⟩,zf _ _⟩
theorem ztu (ng:Bool) (ad:Addr) (c d e V n:Nat) (w:World) (hd:d<4294967296) (he:e<4294967296) (hV:V=d+e*4294967296) (hb:ad.block<w.heap.size) (hc:w.cell? ad=some (.int .u32 d))
 (hc1:w.cell? ⟨ad.block,ad.off+1,none⟩=some (.int .u32 e)) (hge:4611686018427387904<=V) (hn:yt w (.slice (some ad) 2 c) n) (HG:Hid (4611686018427387904<=n)):Calls prog 46 #[.bool ng,.slice (some ad) 2 c] w (ZW w (signed ng n)):=by
 have b:bits .or .u64 0 (d:Int)=(d:Int):=by
  have:=u64_or_nat 0 d (by omega) (by omega)
  rw [Nat.zero_or] at this
  exact this
 have l:bits .or .u64 (d:Int) ((e:Int)*4294967296)=(V:Int):=by rw [zsw d e hd he,hV]
 clear hV
 have j:decide ((V:Int)<4611686018427387904)=false:=uF (by omega)
 cases ng with
 | true=>
   go_in
   go_wp2;refine wp_loop_rounds 3 ?_;rw [rounds_succ];go_wp2;rw [rounds_succ];go_wp2;rw [rounds_succ];go_wp2;refine bodyPost_ret (v:=.agg #[.int .i64 0,.slice (some ad) 2 c,.bool true]) (by simp [results,results46,go_sem]) rfl ?_;exact ⟨_,rfl,zN.below (w:=w) (.inr ⟨ad,2,c,n,true,rfl,hn,HG.o,rfl⟩) (zf _ _),zf _ _⟩
 | false=>
   go_in
   go_wp2;refine wp_loop_rounds 3 ?_;rw [rounds_succ];go_wp2;rw [rounds_succ];go_wp2;rw [rounds_succ];go_wp2;refine bodyPost_ret (v:=.agg #[.int .i64 0,.slice (some ad) 2 c,.bool false]) (by simp [results,results46,go_sem]) rfl ?_;exact ⟨_,rfl,zN.below (w:=w) (.inr ⟨ad,2,c,n,false,rfl,hn,HG.o,rfl⟩) (zf _ _),zf _ _⟩
theorem zv5 (ng:Bool) (ad:Addr) (k c n:Nat) (w:World) (hk:3<=k) (hn:yt w (.slice (some ad) k c) n) (HG:Hid (4611686018427387904<=n)):Calls prog 46 #[.bool ng,.slice (some ad) k c] w (ZW w (signed ng n)):=by
 have b:¬ (k:Int)<=2:=by omega
 cases ng with
 | true=>
   go_in
   go_wp2;refine bodyPost_ret (v:=.agg #[.int .i64 0,.slice (some ad) k c,.bool true]) (by simp [results,results46,go_sem]) rfl ?_;exact ⟨_,rfl,zN.below (w:=w) (.inr ⟨ad,k,c,n,true,rfl,hn,HG.o,rfl⟩) (zf _ _),zf _ _⟩
 | false=>
   go_in
   go_wp2;refine bodyPost_ret (v:=.agg #[.int .i64 0,.slice (some ad) k c,.bool false]) (by simp [results,results46,go_sem]) rfl ?_;exact ⟨_,rfl,zN.below (w:=w) (.inr ⟨ad,k,c,n,false,rfl,hn,HG.o,rfl⟩) (zf _ _),zf _ _⟩
theorem yb (ng:Bool) (v:Value) (n:Nat) (w:World) (h:yt w v n):Calls prog 46 #[.bool ng,v] w (ZW w (signed ng n)):=by
 have z:=h
 obtain ⟨A,c,B,rfl,K,J,j,b,rfl⟩:=h
 rcases uL B.length 3 with hl | hl
 . match B,b,j,z with
   | [],_,_,_=>exact zv2 ng A c w
   | [d],b,j,_=>
     obtain ⟨l,u,rfl,hb,m,r⟩:=j.at_ (k:=0) (by simp)
     simp [Xc] at m
     subst m;rw [zdx];exact zvk ng l c d w (b.1.get 0 (by simp)) hb (by simpa [Addr.add] using r)
   | [d,e],b,j,z=>
     obtain ⟨l,u,rfl,hb,m,r⟩:=j.at_ (k:=0) (by simp);obtain ⟨N,M,C,O,D,F⟩:=j.at_ (k:=1) (by simp);injection C with C
     subst C
     simp [Xc] at m D
     subst m D;have hv:val 4294967296 [d,e]=d+e*4294967296:=by simp only [val];omega
     have hd:=b.1.get 0 (by simp);have E:=b.1.get 1 (by simp)
     rcases uL (d+e*4294967296) 4611686018427387904 with y | y
     . rw [hv]
       exact zwe ng l c d e _ w hd E rfl hb (by simpa [Addr.add] using r) (by simpa [Addr.add] using F) y
     . exact ztu ng l c d e _ _ w hd E rfl hb (by simpa [Addr.add] using r) (by simpa [Addr.add] using F) y z (ze (by rw [hv];exact y))
   | _ :: _ :: _ :: _,_,_,_=>simp at hl;omega
 . obtain ⟨l,u,rfl,hb,m,r⟩:=j.at_ (k:=0) (by omega)
   refine zv5 ng l _ c _ w hl z (ze ?_);have L:=b.ge (by intro e;rw [e] at hl;simp at hl);have I:4294967296 ^ 2<=4294967296 ^ (B.length - 1):=Nat.pow_le_pow_right (by omega) (by omega);have G:(4294967296:Nat) ^ 2=18446744073709551616:=by decide
   rw [G] at I
   omega
theorem zN.form {w:World} {v:Value} {z:Int} (h:zN w v z):∃ (x:Int) (A:Option Addr) (k c:Nat) (ng:Bool),v= .agg #[.int .i64 x,.slice A k c,.bool ng]/\
 -4611686018427387904<x/\x<4611686018427387904/\(A=none->k=0/\c=0/\z=x):=by
 rcases h with ⟨x,ng,rfl,e,b,rfl⟩ | ⟨m,k,c,n,ng,rfl,l,j,rfl⟩
 . exact ⟨_,_,_,_,_,rfl,e,b,fun _=>⟨rfl,rfl,rfl⟩⟩
 . exact ⟨_,_,_,_,_,rfl,by omega,by omega,fun h=>by cases h⟩
def vD (cs:Array Value):Prop:=∀ (i:Nat) (d:Int),cs[i]?≠some (.int .u32 d)
theorem X8 (x:Int) (A:Option Addr) (k c:Nat) (ng:Bool):vD #[.int .i64 x,.slice A k c,.bool ng]:=by
 intro i d h
 match i with
 | 0=>simp at h
 | 1=>simp at h
 | 2=>simp at h
 | i+3=>simp at h
theorem yt.stored {w w' :World} {g:Nat} {t:TypeId} {cs:Array Value} {v:Value} {n:Nat} (h:yt w v n) (hb:Blk w g t cs) (hno:vD cs)
 (hk:∀ p:Addr,p.block≠g->w'.cell? p=w.cell? p) (hs:w.heap.size<=w'.heap.size):yt w' v n:=by
 obtain ⟨A,c',F,rfl,D,B,l,C,E⟩:=h
 refine ⟨A,c',F,rfl,D,B,⟨l.1,?_⟩,C,E⟩
 intro r
 obtain ⟨y,rfl,G,m⟩:=l.2 r
 have z:y.block≠g:=by
  intro e
  have b:=m 0 _ (yJ r)
  unfold World.cell? at b
  rw [zU,e,show w.heap[g]?=_ from hb] at b
  simp only at b
  split at b
  . cases b
  exact hno _ _ b
 exact ⟨y,rfl,by omega,fun j u hu=>(hk _ (by rw [zU];exact z)).trans (m j u hu)⟩
theorem zN.stored {w w' :World} {g:Nat} {t:TypeId} {cs:Array Value} {v:Value} {z:Int} (h:zN w v z) (hb:Blk w g t cs) (hno:vD cs)
 (hk:∀ p:Addr,p.block≠g->w'.cell? p=w.cell? p) (hs:w.heap.size<=w'.heap.size):zN w' v z:=by
 rcases h with h | ⟨m,k,c,n,ng,j,b,l,e⟩
 . exact .inl h
 . exact .inr ⟨m,k,c,n,ng,j,b.stored hb hno hk hs,l,e⟩
abbrev World.num (w:World) (g:Nat) (x:Int) (A:Option Addr) (k c:Nat) (ng:Bool):World:=
 ((w.setCell ⟨g,0,none⟩ (.int .i64 x)).setCell ⟨g,1,none⟩ (.slice A k c)).setCell ⟨g,2,none⟩ (.bool ng)
theorem zz {W:World} {g:Nat} {t:TypeId} {x x0:Int} {A A0:Option Addr} {k c k0 c0:Nat} {ng n0:Bool} {v:Value} {z:Int} (hv:zN W v z) (hk:Blk W g t #[.int .i64 x0,.slice A0 k0 c0,.bool n0]):
 zN (World.num W g x A k c ng) v z:=by
 refine hv.stored hk (X8 _ _ _ _ _) ?_ (by simp [World.num,World.setCell])
 intro p b
 simp only [World.num]
 rw [World.cell?_of_block (Below.heap_setCell _ _ _ _ (by exact b)),World.cell?_of_block (Below.heap_setCell _ _ _ _ (by exact b)),World.cell?_of_block (Below.heap_setCell _ _ _ _ (by exact b))]
theorem zK {w W:World} {g:Nat} {x:Int} {A:Option Addr} {k c:Nat} {ng:Bool} (h:Below w.heap.size w W) (hg:w.heap.size<=g):Below w.heap.size w (World.num W g x A k c ng):=
 ((h.setCell hg _).setCell hg _).setCell hg _
theorem yg {W:World} {g:Nat} {t:TypeId} {x x0:Int} {A A0:Option Addr} {k c k0 c0:Nat} {ng n0:Bool} (hk:Blk W g t #[.int .i64 x0,.slice A0 k0 c0,.bool n0]):
 Blk (World.num W g x A k c ng) g t #[.int .i64 x,.slice A k c,.bool ng]:=((hk.set_ 0 _).set_ 1 _).set_ 2 _
theorem yN (z:Int):signed (decide (z<0)) z.natAbs=z:=by
 unfold signed
 by_cases h:z<0
 . rw [uE h,if_pos rfl];omega
 rw [uF h];simp only [Bool.false_eq_true,if_false];omega
theorem zqo (x y:Int) (a b:Bool) (w:World) (h1: -4611686018427387904<x) (h2:x<4611686018427387904) (h3: -4611686018427387904<y) (h4:y<4611686018427387904) (hs1: -4611686018427387904<x+y) (hs2:x+y<4611686018427387904):
 Calls prog 63 #[.agg #[.int .i64 x,.slice none 0 0,.bool a],.agg #[.int .i64 y,.slice none 0 0,.bool b]] w (ZW w (x+y)):=by
 have l:=fun w=>zml w none 0 0 0 0
 have e:decide ((x+y:Int)> -4611686018427387904)=true:=uE hs1
 have j:decide ((x+y:Int)<4611686018427387904)=true:=uE hs2
 go_in
 go_wp2
 refine bodyPost_ret (v:=.agg #[.int .i64 (x+y),.slice none 0 0,.bool false]) (by simp [results,results63,go_sem]) rfl ?_
 exact ⟨_,rfl,.inl ⟨_,_,rfl,by omega,by omega,rfl⟩,ext (ext (zf _ _) (zf _ _)) (zf _ _)⟩
theorem xG (v:Value) (s:Bool) (n:Nat) (w:World) (h:zN w v (signed s n)) (h0:s=true->0<n):
 Calls prog 86 #[v] w (fun e w' =>∃ p,e= .returned (.tuple #[.bool s,p])/\yt w' p n/\Below w.heap.size w w'):=by
 refine (vV v _ w h).mono ?_
 rintro e w' ⟨p,rfl,b,l⟩
 have m:decide (signed s n<0)=s:=by
  cases s with
  | true=>exact uE (by have:=h0 rfl;unfold signed;rw [if_pos rfl];omega)
  | false=>exact uF (by unfold signed;simp only [Bool.false_eq_true,if_false];omega)
 have j:(signed s n).natAbs=n:=by cases s<;>unfold signed<;>simp
 rw [m]
 rw [j] at b
 exact ⟨p,rfl,b,l⟩
theorem zbu (s:Bool) (n m:Nat):signed s n+signed s m=signed s (n+m):=by cases s<;>unfold signed<;>simp<;>omega
theorem zbi {s t:Bool} {n m:Nat} (h:¬ s=t) (hle:m<=n):signed s n+signed t m=signed s (n - m):=by cases s<;>cases t<;>simp at h<;>unfold signed<;>simp<;>omega
theorem zkl {s t:Bool} {n m:Nat} (h:¬ s=t) (hle:n<=m):signed s n+signed t m=signed t (m - n):=by cases s<;>cases t<;>simp at h<;>unfold signed<;>simp<;>omega
def zo5 (x y:Int) (A B:Option Addr):Prop:=A≠none\/(A=none/\B≠none)\/(A=none/\B=none/\4611686018427387904<=x+y)\/(A=none/\B=none/\x+y<= -4611686018427387904)
theorem zp9 (s t:Bool) (n m:Nat) (x y:Int) (A B:Option Addr) (k c k' c' :Nat) (a b:Bool) (w:World) (h1: -4611686018427387904<x) (h2:x<4611686018427387904) (h3: -4611686018427387904<y) (h4:y<4611686018427387904)
 (ha:zN w (.agg #[.int .i64 x,.slice A k c,.bool a]) (signed s n)) (hb:zN w (.agg #[.int .i64 y,.slice B k' c',.bool b]) (signed t m)) (hs:s=true->0<n) (ht:t=true->0<m)
 (hln:len 4294967296 n<=67108864) (hlm:len 4294967296 m<=67108864) (hsl:zo5 x y A B):
 Calls prog 63 #[.agg #[.int .i64 x,.slice A k c,.bool a],.agg #[.int .i64 y,.slice B k' c',.bool b]] w (ZW w (signed s n+signed t m)):=by
 have q1:=fun w=>zml w A k c 0 0
 have q2:=fun w=>zml w B k' c' 0 0
 have ab:=ze hln
 have ac:=ze hlm
 clear hln hlm
 rcases hsl with h | ⟨h,h'⟩ | ⟨h,h',h5⟩ | ⟨h,h',h5⟩
 . obtain ⟨ad,rfl⟩:=Option.ne_none_iff_exists'.1 h
   clear h
   go_in
   go_wp2_with fail;have Z:=(ext (ext (zf w (.cells #[.int .i64 x,.slice (some ad) k c,.bool a] 58)) (zf _ (.cells #[.int .i64 y,.slice B k' c',.bool b] 58))) (zf _ (.cells #[.int .i64 0,.slice none 0 0,.bool false] 58)));have hA:=ha.below Z;have hB:=hb.below Z;have kB:=(Blk.new (w.alloc (.cells #[.int .i64 x,.slice (some ad) k c,.bool a] 58)) 58 #[.int .i64 y,.slice B k' c',.bool b]).alloc (.cells #[.int .i64 0,.slice none 0 0,.bool false] 58);have U:=Blk.new ((w.alloc (.cells #[.int .i64 x,.slice (some ad) k c,.bool a] 58)).alloc (.cells #[.int .i64 y,.slice B k' c',.bool b] 58)) 58 #[.int .i64 0,.slice none 0 0,.bool false];simp only [World.size_alloc] at kB U;generalize ((w.alloc (.cells #[.int .i64 x,.slice (some ad) k c,.bool a] 58)).alloc (.cells #[.int .i64 y,.slice B k' c',.bool b] 58)).alloc (.cells #[.int .i64 0,.slice none 0 0,.bool false] 58)=W at hA hB kB U Z |-;refine (xG _ s n W hA hs).mono ?_;rintro e w1 ⟨p,rfl,hp,X⟩;have af:=kB.below X kB.lt;obtain ⟨J,G,I,_⟩:=bp3 af;go_wp2_with fail;refine (xG _ t m w1 (hB.below X) ht).mono ?_
   rintro e w2 ⟨p',rfl,L,aa⟩;have M:=hp.below aa;have l:=(U.below X U.lt).below aa (U.below X U.lt).lt;have R:=ext (ext Z X) aa;clear X aa Z U kB af J G I hA hB hp
   by_cases Y:s=t
   . subst Y
     go_wp2_with fail;refine (zcb p p' n m w2 M L ab.o ac.o).mono ?_;rintro e w3 ⟨q,rfl,T,u⟩;go_wp2_with fail;refine (yb s q (n+m) w3 T).mono ?_;rintro e w4 ⟨v,rfl,hv,F⟩;obtain ⟨D,A',E,C,z,rfl,_,_,_⟩:=hv.form;have j:=(l.below u l.lt).below F (l.below u l.lt).lt;have V:=ext (ext R u) F;have J:=j.cell 0;have G:=j.cell 1;have I:=j.cell 2;obtain ⟨f0,f1,f2⟩:=fp3 j;simp at J G I;go_wp2;have S:=yg (x:=D) (A:=A') (k:=E) (c:=C) (ng:=z) j;obtain ⟨d0,O,Q,_⟩:=bp3 S;refine bodyPost_ret (v:=.agg #[.int .i64 D,.slice A' E C,.bool z]) (by simp [results,results63,go_sem,d0,O,Q]) rfl ?_;exact ⟨_,rfl,zz (by rw [zbu];exact hv) j,zK V (by omega)⟩
   have aj :(s == t)=false:=uD Y
   go_wp2_with fail;refine (XZ p p' n m w2 M L ab.o ac.o).mono ?_;rintro e w3 ⟨rfl,r,rfl⟩;have ag:=M.below (yD w2 r);have ah:=L.below (yD w2 r);have ae:=l.drewN r;have ai:=zo R r;clear M L l R;generalize w2.drewN r=w2 at ag ah ae ai |-;have M:=ag;have L :=ah;have l:=ae;have R:=ai
   rcases Nat.lt_trichotomy n m with K | K | K
   . have N:zZ (n:Int) (m:Int)= -1:=by unfold zZ;rw [if_pos (by omega)]
     rw [N];clear N;go_wp2_with fail;refine (Z0 p' p m n w2 L M ac.o (Nat.le_of_lt K)).mono ?_;rintro e w3 ⟨q,rfl,T,u⟩;go_wp2_with fail;refine (yb t q (m - n) w3 T).mono ?_;rintro e w4 ⟨v,rfl,hv,F⟩;obtain ⟨D,A',E,C,z,rfl,_,_,_⟩:=hv.form;have j:=(l.below u l.lt).below F (l.below u l.lt).lt;have V:=ext (ext R u) F;have J:=j.cell 0;have G:=j.cell 1;have I:=j.cell 2;obtain ⟨f0,f1,f2⟩:=fp3 j;simp at J G I;go_wp2;have S:=yg (x:=D) (A:=A') (k:=E) (c:=C) (ng:=z) j;obtain ⟨d0,O,Q,_⟩:=bp3 S;refine bodyPost_ret (v:=.agg #[.int .i64 D,.slice A' E C,.bool z]) (by simp [results,results63,go_sem,d0,O,Q]) rfl ?_;exact ⟨_,rfl,zz (by rw [zkl Y (Nat.le_of_lt K)];exact hv) j,zK V (by omega)⟩
   . have N:zZ (n:Int) (m:Int)=0:=by unfold zZ;rw [if_neg (by omega),if_neg (by omega)]
     rw [N];clear N;go_wp2_with fail;refine (Z0 p p' n m w2 M L ab.o (Nat.le_of_eq K.symm)).mono ?_;rintro e w3 ⟨q,rfl,T,u⟩;go_wp2_with fail;refine (yb s q (n - m) w3 T).mono ?_;rintro e w4 ⟨v,rfl,hv,F⟩;obtain ⟨D,A',E,C,z,rfl,_,_,_⟩:=hv.form;have j:=(l.below u l.lt).below F (l.below u l.lt).lt;have V:=ext (ext R u) F;have J:=j.cell 0;have G:=j.cell 1;have I:=j.cell 2;obtain ⟨f0,f1,f2⟩:=fp3 j;simp at J G I;go_wp2;have S:=yg (x:=D) (A:=A') (k:=E) (c:=C) (ng:=z) j;obtain ⟨d0,O,Q,_⟩:=bp3 S;refine bodyPost_ret (v:=.agg #[.int .i64 D,.slice A' E C,.bool z]) (by simp [results,results63,go_sem,d0,O,Q]) rfl ?_;exact ⟨_,rfl,zz (by rw [zbi Y (Nat.le_of_eq K.symm)];exact hv) j,zK V (by omega)⟩
   . have N:zZ (n:Int) (m:Int)=1:=by unfold zZ;rw [if_neg (by omega),if_pos (by omega)]
     rw [N];clear N;go_wp2_with fail;refine (Z0 p p' n m w2 M L ab.o (Nat.le_of_lt K)).mono ?_;rintro e w3 ⟨q,rfl,T,u⟩;go_wp2_with fail;refine (yb s q (n - m) w3 T).mono ?_;rintro e w4 ⟨v,rfl,hv,F⟩;obtain ⟨D,A',E,C,z,rfl,_,_,_⟩:=hv.form;have j:=(l.below u l.lt).below F (l.below u l.lt).lt;have V:=ext (ext R u) F;have J:=j.cell 0;have G:=j.cell 1;have I:=j.cell 2;obtain ⟨f0,f1,f2⟩:=fp3 j;simp at J G I;go_wp2;have S:=yg (x:=D) (A:=A') (k:=E) (c:=C) (ng:=z) j;obtain ⟨d0,O,Q,_⟩:=bp3 S;refine bodyPost_ret (v:=.agg #[.int .i64 D,.slice A' E C,.bool z]) (by simp [results,results63,go_sem,d0,O,Q]) rfl ?_;exact ⟨_,rfl,zz (by rw [zbi Y (Nat.le_of_lt K)];exact hv) j,zK V (by omega)⟩
 . obtain ⟨bd,rfl⟩:=Option.ne_none_iff_exists'.1 h'
   subst h;clear h'
   go_in
   go_wp2_with fail;have Z:=(ext (ext (zf w (.cells #[.int .i64 x,.slice none k c,.bool a] 58)) (zf _ (.cells #[.int .i64 y,.slice (some bd) k' c',.bool b] 58))) (zf _ (.cells #[.int .i64 0,.slice none 0 0,.bool false] 58)));have hA:=ha.below Z;have hB:=hb.below Z;have kB:=(Blk.new (w.alloc (.cells #[.int .i64 x,.slice none k c,.bool a] 58)) 58 #[.int .i64 y,.slice (some bd) k' c',.bool b]).alloc (.cells #[.int .i64 0,.slice none 0 0,.bool false] 58);have U:=Blk.new ((w.alloc (.cells #[.int .i64 x,.slice none k c,.bool a] 58)).alloc (.cells #[.int .i64 y,.slice (some bd) k' c',.bool b] 58)) 58 #[.int .i64 0,.slice none 0 0,.bool false];simp only [World.size_alloc] at kB U;generalize ((w.alloc (.cells #[.int .i64 x,.slice none k c,.bool a] 58)).alloc (.cells #[.int .i64 y,.slice (some bd) k' c',.bool b] 58)).alloc (.cells #[.int .i64 0,.slice none 0 0,.bool false] 58)=W at hA hB kB U Z |-;refine (xG _ s n W hA hs).mono ?_;rintro e w1 ⟨p,rfl,hp,X⟩;have af:=kB.below X kB.lt;obtain ⟨J,G,I,_⟩:=bp3 af;go_wp2_with fail
   refine (xG _ t m w1 (hB.below X) ht).mono ?_;rintro e w2 ⟨p',rfl,L,aa⟩;have M:=hp.below aa;have l:=(U.below X U.lt).below aa (U.below X U.lt).lt;have R:=ext (ext Z X) aa;clear X aa Z U kB af J G I hA hB hp
   by_cases Y:s=t
   . subst Y
     go_wp2_with fail;refine (zcb p p' n m w2 M L ab.o ac.o).mono ?_;rintro e w3 ⟨q,rfl,T,u⟩;go_wp2_with fail;refine (yb s q (n+m) w3 T).mono ?_;rintro e w4 ⟨v,rfl,hv,F⟩;obtain ⟨D,A',E,C,z,rfl,_,_,_⟩:=hv.form;have j:=(l.below u l.lt).below F (l.below u l.lt).lt;have V:=ext (ext R u) F;have J:=j.cell 0;have G:=j.cell 1;have I:=j.cell 2;obtain ⟨f0,f1,f2⟩:=fp3 j;simp at J G I;go_wp2;have S:=yg (x:=D) (A:=A') (k:=E) (c:=C) (ng:=z) j;obtain ⟨d0,O,Q,_⟩:=bp3 S;refine bodyPost_ret (v:=.agg #[.int .i64 D,.slice A' E C,.bool z]) (by simp [results,results63,go_sem,d0,O,Q]) rfl ?_;exact ⟨_,rfl,zz (by rw [zbu];exact hv) j,zK V (by omega)⟩
   have aj :(s == t)=false:=uD Y
   go_wp2_with fail;refine (XZ p p' n m w2 M L ab.o ac.o).mono ?_;rintro e w3 ⟨rfl,r,rfl⟩;have ag:=M.below (yD w2 r);have ah:=L.below (yD w2 r);have ae:=l.drewN r;have ai:=zo R r;clear M L l R;generalize w2.drewN r=w2 at ag ah ae ai |-;have M:=ag;have L :=ah;have l:=ae;have R:=ai
   rcases Nat.lt_trichotomy n m with K | K | K
   . have N:zZ (n:Int) (m:Int)= -1:=by unfold zZ;rw [if_pos (by omega)]
     rw [N];clear N;go_wp2_with fail;refine (Z0 p' p m n w2 L M ac.o (Nat.le_of_lt K)).mono ?_;rintro e w3 ⟨q,rfl,T,u⟩;go_wp2_with fail;refine (yb t q (m - n) w3 T).mono ?_;rintro e w4 ⟨v,rfl,hv,F⟩;obtain ⟨D,A',E,C,z,rfl,_,_,_⟩:=hv.form;have j:=(l.below u l.lt).below F (l.below u l.lt).lt;have V:=ext (ext R u) F;have J:=j.cell 0;have G:=j.cell 1;have I:=j.cell 2;obtain ⟨f0,f1,f2⟩:=fp3 j;simp at J G I;go_wp2;have S:=yg (x:=D) (A:=A') (k:=E) (c:=C) (ng:=z) j;obtain ⟨d0,O,Q,_⟩:=bp3 S;refine bodyPost_ret (v:=.agg #[.int .i64 D,.slice A' E C,.bool z]) (by simp [results,results63,go_sem,d0,O,Q]) rfl ?_;exact ⟨_,rfl,zz (by rw [zkl Y (Nat.le_of_lt K)];exact hv) j,zK V (by omega)⟩
   . have N:zZ (n:Int) (m:Int)=0:=by unfold zZ;rw [if_neg (by omega),if_neg (by omega)]
     rw [N];clear N;go_wp2_with fail;refine (Z0 p p' n m w2 M L ab.o (Nat.le_of_eq K.symm)).mono ?_;rintro e w3 ⟨q,rfl,T,u⟩;go_wp2_with fail;refine (yb s q (n - m) w3 T).mono ?_;rintro e w4 ⟨v,rfl,hv,F⟩;obtain ⟨D,A',E,C,z,rfl,_,_,_⟩:=hv.form;have j:=(l.below u l.lt).below F (l.below u l.lt).lt;have V:=ext (ext R u) F;have J:=j.cell 0;have G:=j.cell 1;have I:=j.cell 2;obtain ⟨f0,f1,f2⟩:=fp3 j;simp at J G I;go_wp2;have S:=yg (x:=D) (A:=A') (k:=E) (c:=C) (ng:=z) j;obtain ⟨d0,O,Q,_⟩:=bp3 S;refine bodyPost_ret (v:=.agg #[.int .i64 D,.slice A' E C,.bool z]) (by simp [results,results63,go_sem,d0,O,Q]) rfl ?_;exact ⟨_,rfl,zz (by rw [zbi Y (Nat.le_of_eq K.symm)];exact hv) j,zK V (by omega)⟩
   . have N:zZ (n:Int) (m:Int)=1:=by unfold zZ;rw [if_neg (by omega),if_pos (by omega)]
     rw [N];clear N;go_wp2_with fail;refine (Z0 p p' n m w2 M L ab.o (Nat.le_of_lt K)).mono ?_;rintro e w3 ⟨q,rfl,T,u⟩;go_wp2_with fail;refine (yb s q (n - m) w3 T).mono ?_;rintro e w4 ⟨v,rfl,hv,F⟩;obtain ⟨D,A',E,C,z,rfl,_,_,_⟩:=hv.form;have j:=(l.below u l.lt).below F (l.below u l.lt).lt;have V:=ext (ext R u) F;have J:=j.cell 0;have G:=j.cell 1;have I:=j.cell 2;obtain ⟨f0,f1,f2⟩:=fp3 j;simp at J G I;go_wp2;have S:=yg (x:=D) (A:=A') (k:=E) (c:=C) (ng:=z) j;obtain ⟨d0,O,Q,_⟩:=bp3 S;refine bodyPost_ret (v:=.agg #[.int .i64 D,.slice A' E C,.bool z]) (by simp [results,results63,go_sem,d0,O,Q]) rfl ?_;exact ⟨_,rfl,zz (by rw [zbi Y (Nat.le_of_lt K)];exact hv) j,zK V (by omega)⟩
 . subst h h'
   have O:decide ((x+y:Int)> -4611686018427387904)=true:=uE (by omega);have Q:decide ((x+y:Int)<4611686018427387904)=false:=uF (by omega);clear h5
   go_in
   go_wp2_with fail;have Z:=(ext (ext (zf w (.cells #[.int .i64 x,.slice none k c,.bool a] 58)) (zf _ (.cells #[.int .i64 y,.slice none k' c',.bool b] 58))) (zf _ (.cells #[.int .i64 0,.slice none 0 0,.bool false] 58)));have hA:=ha.below Z;have hB:=hb.below Z;have kB:=(Blk.new (w.alloc (.cells #[.int .i64 x,.slice none k c,.bool a] 58)) 58 #[.int .i64 y,.slice none k' c',.bool b]).alloc (.cells #[.int .i64 0,.slice none 0 0,.bool false] 58);have U:=Blk.new ((w.alloc (.cells #[.int .i64 x,.slice none k c,.bool a] 58)).alloc (.cells #[.int .i64 y,.slice none k' c',.bool b] 58)) 58 #[.int .i64 0,.slice none 0 0,.bool false];simp only [World.size_alloc] at kB U;generalize ((w.alloc (.cells #[.int .i64 x,.slice none k c,.bool a] 58)).alloc (.cells #[.int .i64 y,.slice none k' c',.bool b] 58)).alloc (.cells #[.int .i64 0,.slice none 0 0,.bool false] 58)=W at hA hB kB U Z |-;refine (xG _ s n W hA hs).mono ?_;rintro e w1 ⟨p,rfl,hp,X⟩;have af:=kB.below X kB.lt;obtain ⟨J,G,I,_⟩:=bp3 af;go_wp2_with fail;refine (xG _ t m w1 (hB.below X) ht).mono ?_
   rintro e w2 ⟨p',rfl,L,aa⟩;have M:=hp.below aa;have l:=(U.below X U.lt).below aa (U.below X U.lt).lt;have R:=ext (ext Z X) aa;clear X aa Z U kB af J G I hA hB hp
   by_cases Y:s=t
   . subst Y
     go_wp2_with fail;refine (zcb p p' n m w2 M L ab.o ac.o).mono ?_;rintro e w3 ⟨q,rfl,T,u⟩;go_wp2_with fail;refine (yb s q (n+m) w3 T).mono ?_;rintro e w4 ⟨v,rfl,hv,F⟩;obtain ⟨D,A',E,C,z,rfl,_,_,_⟩:=hv.form;have j:=(l.below u l.lt).below F (l.below u l.lt).lt;have V:=ext (ext R u) F;have J:=j.cell 0;have G:=j.cell 1;have I:=j.cell 2;obtain ⟨f0,f1,f2⟩:=fp3 j;simp at J G I;go_wp2;have S:=yg (x:=D) (A:=A') (k:=E) (c:=C) (ng:=z) j;obtain ⟨d0,O,Q,_⟩:=bp3 S;refine bodyPost_ret (v:=.agg #[.int .i64 D,.slice A' E C,.bool z]) (by simp [results,results63,go_sem,d0,O,Q]) rfl ?_;exact ⟨_,rfl,zz (by rw [zbu];exact hv) j,zK V (by omega)⟩
   have aj :(s == t)=false:=uD Y
   go_wp2_with fail;refine (XZ p p' n m w2 M L ab.o ac.o).mono ?_;rintro e w3 ⟨rfl,r,rfl⟩;have ag:=M.below (yD w2 r);have ah:=L.below (yD w2 r);have ae:=l.drewN r;have ai:=zo R r;clear M L l R;generalize w2.drewN r=w2 at ag ah ae ai |-;have M:=ag;have L :=ah;have l:=ae;have R:=ai
   rcases Nat.lt_trichotomy n m with K | K | K
   . have N:zZ (n:Int) (m:Int)= -1:=by unfold zZ;rw [if_pos (by omega)]
     rw [N];clear N;go_wp2_with fail;refine (Z0 p' p m n w2 L M ac.o (Nat.le_of_lt K)).mono ?_;rintro e w3 ⟨q,rfl,T,u⟩;go_wp2_with fail;refine (yb t q (m - n) w3 T).mono ?_;rintro e w4 ⟨v,rfl,hv,F⟩;obtain ⟨D,A',E,C,z,rfl,_,_,_⟩:=hv.form;have j:=(l.below u l.lt).below F (l.below u l.lt).lt;have V:=ext (ext R u) F;have J:=j.cell 0;have G:=j.cell 1;have I:=j.cell 2;obtain ⟨f0,f1,f2⟩:=fp3 j;simp at J G I;go_wp2;have S:=yg (x:=D) (A:=A') (k:=E) (c:=C) (ng:=z) j;obtain ⟨d0,O,Q,_⟩:=bp3 S;refine bodyPost_ret (v:=.agg #[.int .i64 D,.slice A' E C,.bool z]) (by simp [results,results63,go_sem,d0,O,Q]) rfl ?_;exact ⟨_,rfl,zz (by rw [zkl Y (Nat.le_of_lt K)];exact hv) j,zK V (by omega)⟩
   . have N:zZ (n:Int) (m:Int)=0:=by unfold zZ;rw [if_neg (by omega),if_neg (by omega)]
     rw [N];clear N;go_wp2_with fail;refine (Z0 p p' n m w2 M L ab.o (Nat.le_of_eq K.symm)).mono ?_;rintro e w3 ⟨q,rfl,T,u⟩;go_wp2_with fail;refine (yb s q (n - m) w3 T).mono ?_;rintro e w4 ⟨v,rfl,hv,F⟩;obtain ⟨D,A',E,C,z,rfl,_,_,_⟩:=hv.form;have j:=(l.below u l.lt).below F (l.below u l.lt).lt;have V:=ext (ext R u) F;have J:=j.cell 0;have G:=j.cell 1;have I:=j.cell 2;obtain ⟨f0,f1,f2⟩:=fp3 j;simp at J G I;go_wp2;have S:=yg (x:=D) (A:=A') (k:=E) (c:=C) (ng:=z) j;obtain ⟨d0,O,Q,_⟩:=bp3 S;refine bodyPost_ret (v:=.agg #[.int .i64 D,.slice A' E C,.bool z]) (by simp [results,results63,go_sem,d0,O,Q]) rfl ?_;exact ⟨_,rfl,zz (by rw [zbi Y (Nat.le_of_eq K.symm)];exact hv) j,zK V (by omega)⟩
   . have N:zZ (n:Int) (m:Int)=1:=by unfold zZ;rw [if_neg (by omega),if_pos (by omega)]
     rw [N];clear N;go_wp2_with fail;refine (Z0 p p' n m w2 M L ab.o (Nat.le_of_lt K)).mono ?_;rintro e w3 ⟨q,rfl,T,u⟩;go_wp2_with fail;refine (yb s q (n - m) w3 T).mono ?_;rintro e w4 ⟨v,rfl,hv,F⟩;obtain ⟨D,A',E,C,z,rfl,_,_,_⟩:=hv.form;have j:=(l.below u l.lt).below F (l.below u l.lt).lt;have V:=ext (ext R u) F;have J:=j.cell 0;have G:=j.cell 1;have I:=j.cell 2;obtain ⟨f0,f1,f2⟩:=fp3 j;simp at J G I;go_wp2;have S:=yg (x:=D) (A:=A') (k:=E) (c:=C) (ng:=z) j;obtain ⟨d0,O,Q,_⟩:=bp3 S;refine bodyPost_ret (v:=.agg #[.int .i64 D,.slice A' E C,.bool z]) (by simp [results,results63,go_sem,d0,O,Q]) rfl ?_;exact ⟨_,rfl,zz (by rw [zbi Y (Nat.le_of_lt K)];exact hv) j,zK V (by omega)⟩
 . subst h h'
   have O:decide ((x+y:Int)> -4611686018427387904)=false:=uF (by omega);clear h5
   go_in
   go_wp2_with fail;have Z:=(ext (ext (zf w (.cells #[.int .i64 x,.slice none k c,.bool a] 58)) (zf _ (.cells #[.int .i64 y,.slice none k' c',.bool b] 58))) (zf _ (.cells #[.int .i64 0,.slice none 0 0,.bool false] 58)));have hA:=ha.below Z;have hB:=hb.below Z;have kB:=(Blk.new (w.alloc (.cells #[.int .i64 x,.slice none k c,.bool a] 58)) 58 #[.int .i64 y,.slice none k' c',.bool b]).alloc (.cells #[.int .i64 0,.slice none 0 0,.bool false] 58);have U:=Blk.new ((w.alloc (.cells #[.int .i64 x,.slice none k c,.bool a] 58)).alloc (.cells #[.int .i64 y,.slice none k' c',.bool b] 58)) 58 #[.int .i64 0,.slice none 0 0,.bool false];simp only [World.size_alloc] at kB U;generalize ((w.alloc (.cells #[.int .i64 x,.slice none k c,.bool a] 58)).alloc (.cells #[.int .i64 y,.slice none k' c',.bool b] 58)).alloc (.cells #[.int .i64 0,.slice none 0 0,.bool false] 58)=W at hA hB kB U Z |-;refine (xG _ s n W hA hs).mono ?_;rintro e w1 ⟨p,rfl,hp,X⟩;have af:=kB.below X kB.lt;obtain ⟨J,G,I,_⟩:=bp3 af;go_wp2_with fail;refine (xG _ t m w1 (hB.below X) ht).mono ?_
   rintro e w2 ⟨p',rfl,L,aa⟩;have M:=hp.below aa;have l:=(U.below X U.lt).below aa (U.below X U.lt).lt;have R:=ext (ext Z X) aa;clear X aa Z U kB af J G I hA hB hp
   by_cases Y:s=t
   . subst Y
     go_wp2_with fail;refine (zcb p p' n m w2 M L ab.o ac.o).mono ?_;rintro e w3 ⟨q,rfl,T,u⟩;go_wp2_with fail;refine (yb s q (n+m) w3 T).mono ?_;rintro e w4 ⟨v,rfl,hv,F⟩;obtain ⟨D,A',E,C,z,rfl,_,_,_⟩:=hv.form;have j:=(l.below u l.lt).below F (l.below u l.lt).lt;have V:=ext (ext R u) F;have J:=j.cell 0;have G:=j.cell 1;have I:=j.cell 2;obtain ⟨f0,f1,f2⟩:=fp3 j;simp at J G I;go_wp2;have S:=yg (x:=D) (A:=A') (k:=E) (c:=C) (ng:=z) j;obtain ⟨d0,O,Q,_⟩:=bp3 S;refine bodyPost_ret (v:=.agg #[.int .i64 D,.slice A' E C,.bool z]) (by simp [results,results63,go_sem,d0,O,Q]) rfl ?_;exact ⟨_,rfl,zz (by rw [zbu];exact hv) j,zK V (by omega)⟩
   have aj :(s == t)=false:=uD Y
   go_wp2_with fail;refine (XZ p p' n m w2 M L ab.o ac.o).mono ?_;rintro e w3 ⟨rfl,r,rfl⟩;have ag:=M.below (yD w2 r);have ah:=L.below (yD w2 r);have ae:=l.drewN r;have ai:=zo R r;clear M L l R;generalize w2.drewN r=w2 at ag ah ae ai |-;have M:=ag;have L :=ah;have l:=ae;have R:=ai
   rcases Nat.lt_trichotomy n m with K | K | K
   . have N:zZ (n:Int) (m:Int)= -1:=by unfold zZ;rw [if_pos (by omega)]
     rw [N];clear N;go_wp2_with fail;refine (Z0 p' p m n w2 L M ac.o (Nat.le_of_lt K)).mono ?_;rintro e w3 ⟨q,rfl,T,u⟩;go_wp2_with fail;refine (yb t q (m - n) w3 T).mono ?_;rintro e w4 ⟨v,rfl,hv,F⟩;obtain ⟨D,A',E,C,z,rfl,_,_,_⟩:=hv.form;have j:=(l.below u l.lt).below F (l.below u l.lt).lt;have V:=ext (ext R u) F;have J:=j.cell 0;have G:=j.cell 1;have I:=j.cell 2;obtain ⟨f0,f1,f2⟩:=fp3 j;simp at J G I;go_wp2;have S:=yg (x:=D) (A:=A') (k:=E) (c:=C) (ng:=z) j;obtain ⟨d0,O,Q,_⟩:=bp3 S;refine bodyPost_ret (v:=.agg #[.int .i64 D,.slice A' E C,.bool z]) (by simp [results,results63,go_sem,d0,O,Q]) rfl ?_;exact ⟨_,rfl,zz (by rw [zkl Y (Nat.le_of_lt K)];exact hv) j,zK V (by omega)⟩
   . have N:zZ (n:Int) (m:Int)=0:=by unfold zZ;rw [if_neg (by omega),if_neg (by omega)]
     rw [N];clear N;go_wp2_with fail;refine (Z0 p p' n m w2 M L ab.o (Nat.le_of_eq K.symm)).mono ?_;rintro e w3 ⟨q,rfl,T,u⟩;go_wp2_with fail;refine (yb s q (n - m) w3 T).mono ?_;rintro e w4 ⟨v,rfl,hv,F⟩;obtain ⟨D,A',E,C,z,rfl,_,_,_⟩:=hv.form;have j:=(l.below u l.lt).below F (l.below u l.lt).lt;have V:=ext (ext R u) F;have J:=j.cell 0;have G:=j.cell 1;have I:=j.cell 2;obtain ⟨f0,f1,f2⟩:=fp3 j;simp at J G I;go_wp2;have S:=yg (x:=D) (A:=A') (k:=E) (c:=C) (ng:=z) j;obtain ⟨d0,O,Q,_⟩:=bp3 S;refine bodyPost_ret (v:=.agg #[.int .i64 D,.slice A' E C,.bool z]) (by simp [results,results63,go_sem,d0,O,Q]) rfl ?_;exact ⟨_,rfl,zz (by rw [zbi Y (Nat.le_of_eq K.symm)];exact hv) j,zK V (by omega)⟩
   . have N:zZ (n:Int) (m:Int)=1:=by unfold zZ;rw [if_neg (by omega),if_pos (by omega)]
     rw [N];clear N;go_wp2_with fail;refine (Z0 p p' n m w2 M L ab.o (Nat.le_of_lt K)).mono ?_;rintro e w3 ⟨q,rfl,T,u⟩;go_wp2_with fail;refine (yb s q (n - m) w3 T).mono ?_;rintro e w4 ⟨v,rfl,hv,F⟩;obtain ⟨D,A',E,C,z,rfl,_,_,_⟩:=hv.form;have j:=(l.below u l.lt).below F (l.below u l.lt).lt;have V:=ext (ext R u) F;have J:=j.cell 0;have G:=j.cell 1;have I:=j.cell 2;obtain ⟨f0,f1,f2⟩:=fp3 j;simp at J G I;go_wp2;have S:=yg (x:=D) (A:=A') (k:=E) (c:=C) (ng:=z) j;obtain ⟨d0,O,Q,_⟩:=bp3 S;refine bodyPost_ret (v:=.agg #[.int .i64 D,.slice A' E C,.bool z]) (by simp [results,results63,go_sem,d0,O,Q]) rfl ?_;exact ⟨_,rfl,zz (by rw [zbi Y (Nat.le_of_lt K)];exact hv) j,zK V (by omega)⟩
theorem ZL {z:Int}:decide (z<0)=true->0<z.natAbs:=by
 intro h
 have:=uG h
 omega
theorem zf0 (va vb:Value) (z y:Int) (w:World) (ha:zN w va z) (hb:zN w vb y) (hla:len 4294967296 z.natAbs<=67108864) (hlb:len 4294967296 y.natAbs<=67108864):
 Calls prog 63 #[va,vb] w (ZW w (z+y)):=by
 have J :=ha
 have F :=hb
 obtain ⟨e,A,k,c,s,rfl,C,r,K⟩:=ha.form
 obtain ⟨j,B,k',c',t,rfl,D,u,I⟩:=hb.form
 by_cases m:A=none/\B=none/\ -4611686018427387904<e+j/\e+j<4611686018427387904
 . obtain ⟨b,l,G,E⟩:=m
   obtain ⟨rfl,rfl,rfl⟩:=K b;obtain ⟨rfl,rfl,rfl⟩:=I l;subst b l;exact zqo z y s t w C r D u G E
 have:=zp9 (decide (z<0)) (decide (y<0)) z.natAbs y.natAbs e j A B k c k' c' s t w C r D u (by rw [yN];exact J) (by rw [yN];exact F) ZL ZL hla hlb (by
  unfold zo5
  by_cases b:A=none
  . by_cases l:B=none
    rotate_left
    . exact .inr (.inl ⟨b,l⟩)
    have:¬ (-4611686018427387904<e+j/\e+j<4611686018427387904):=fun h=>m ⟨b,l,h⟩
    rcases (show -4611686018427387904<e+j\/e+j<= -4611686018427387904 by omega) with h | h
    . exact .inr (.inr (.inl ⟨b,l,by omega⟩))
    . exact .inr (.inr (.inr ⟨b,l,by omega⟩))
  . exact .inl b)
 rwa [yN,yN] at this
theorem Y7 (s t:Bool) (n m:Nat):signed s n*signed t m=signed (s != t) (n*m):=by
 cases s<;>cases t<;>unfold signed<;>simp [Int.neg_mul,Int.mul_neg,Int.natCast_mul]
theorem Zj {w w' :World} {g:Nat} {t:TypeId} {cs:Array Value} (hb:Below w.heap.size w w') (h:Hid (Blk w g t cs)):Hid (Blk w' g t cs):=h.out.below hb h.out.lt
theorem zr1 (x y:Int) (a b:Bool) (P:Nat) (w:World) (h1: -4611686018427387904<x) (h2:x<4611686018427387904) (h3: -4611686018427387904<y) (h4:y<4611686018427387904) (hP:P=x.natAbs*y.natAbs) (hP2:P<4611686018427387904):
 Calls prog 40 #[.agg #[.int .i64 x,.slice none 0 0,.bool a],.agg #[.int .i64 y,.slice none 0 0,.bool b]] w (ZW w (x*y)):=by
 have X:=fun w=>zml w none 0 0 0 0
 have O:=fun w=>X7 x (.slice none 0 0) a w h1 h2
 have N:=fun w=>X7 y (.slice none 0 0) b w h3 h4
 have M:=fun w=>zge x.natAbs y.natAbs (by omega) (by omega) w
 rw [<- hP,Nat.div_eq_of_lt (by omega),Nat.mod_eq_of_lt (by omega)] at M
 have V:x*y=signed (decide (x<0) != decide (y<0)) P:=by rw [hP, <- Y7,yN,yN]
 rw [V]
 clear V hP h1 h2 h3 h4
 have Y:decide ((P:Int)<4611686018427387904)=true:=uE (by omega)
 have C:=ze hP2
 have Z:(P:Int)<4611686018427387904:=by omega
 clear hP2
 have aa:=Int.natCast_nonneg P
 rcases (show x<0\/¬ x<0 by omega) with B | B
 . rcases (show y<0\/¬ y<0 by omega) with r | r
   . have u:(decide (x<0) != decide (y<0))=false:=by rw [uE B,uE r];rfl
     rw [u];clear u;have U:decide (x<0)=true:=uE B;have S:decide (y<0)=true:=uE r;have F:=(ext (ext (zf w (.cells #[.int .i64 x,.slice none 0 0,.bool a] 58)) (zf _ (.cells #[.int .i64 y,.slice none 0 0,.bool b] 58))) (zf _ (.cells #[.int .i64 0,.slice none 0 0,.bool false] 58)));have z:=(Blk.new (w.alloc (.cells #[.int .i64 x,.slice none 0 0,.bool a] 58)) 58 #[.int .i64 y,.slice none 0 0,.bool b]).alloc (.cells #[.int .i64 0,.slice none 0 0,.bool false] 58);have m:=Blk.new ((w.alloc (.cells #[.int .i64 x,.slice none 0 0,.bool a] 58)).alloc (.cells #[.int .i64 y,.slice none 0 0,.bool b] 58)) 58 #[.int .i64 0,.slice none 0 0,.bool false];simp only [World.size_alloc] at z m
     go_in
     go_wp2_with fail
     go_region_held3 (fun w' =>w'.cell? ⟨w.heap.size,0,none⟩=some (.int .i64 x)/\w'.cell? ⟨w.heap.size,1,none⟩=some (.slice none 0 0)/\w'.cell? ⟨w.heap.size,2,none⟩=some (.bool a)/\
      w'.cell? ⟨w.heap.size+1,0,none⟩=some (.int .i64 y)/\w'.cell? ⟨w.heap.size+1,1,none⟩=some (.slice none 0 0)/\w'.cell? ⟨w.heap.size+1,2,none⟩=some (.bool b)/\
      w.heap.size<w'.heap.size/\w.heap.size+1<w'.heap.size/\Hid (Blk w' (w.heap.size+1) 58 #[.int .i64 y,.slice none 0 0,.bool b])/\Hid (Blk w' (w.heap.size+1+1) 58 #[.int .i64 0,.slice none 0 0,.bool false])/\Hid (Below w.heap.size w w'))
      (first
        | exact ⟨by go_keep,by go_keep,by go_keep,by go_keep,by go_keep,by go_keep,by simp;omega,by simp,ze (z.drewN 1),ze (m.drewN 1),ze (zo F 1)⟩
        | go_keep
        | (go_split_ands;exact ⟨zi ‹_› ‹_› ‹_›,zi ‹_› ‹_› ‹_›,zi ‹_› ‹_› ‹_›,zi ‹_› ‹_› ‹_›,zi ‹_› ‹_› ‹_›,zi ‹_› ‹_› ‹_›,zY ‹_› ‹_›,zY ‹_› ‹_›,Zj ‹_› ‹_›,Zj ‹_› ‹_›,zp ‹_› ‹_›⟩))
      (first
        | (go_at_call_of 85 (Value.agg #[Value.int .i64 x,.slice none 0 0,.bool a]);refine (O _).mono ?_;rintro e l ⟨rfl,K⟩)
        | (go_at_call_of 85 (Value.agg #[Value.int .i64 y,.slice none 0 0,.bool b]);refine (N _).mono ?_;rintro e l ⟨rfl,K⟩)
        | (go_at_call 89;refine (M _).mono ?_;rintro e l ⟨rfl,rfl⟩))
     go_split_ands;have j:=zW (by assumption:Hid (Blk _ (w.heap.size+1+1) _ _));have L:=j.cell 0;have I:=j.cell 1;have J:=j.cell 2;obtain ⟨Q,R,T⟩:=fp3 j;simp at L I J;go_wp2;have E:=yg (x:=P) (A:=none) (k:=0) (c:=0) (ng:=false) j;obtain ⟨d0,G,D,_⟩:=bp3 E;refine bodyPost_ret (v:=.agg #[.int .i64 (P),.slice none 0 0,.bool false]) (by simp [results,results40,go_sem,d0,G,D]) rfl ?_;exact ⟨_,rfl,.inl ⟨_,_,rfl,by have:=C.o;omega,by have:=C.o;omega,rfl⟩,zK (zW ‹_›) (by omega)⟩
   . have u:(decide (x<0) != decide (y<0))=true:=by rw [uE B,uF r];rfl
     rw [u];clear u;have U:decide (x<0)=true:=uE B;have S:decide (y<0)=false:=uF r;have F:=(ext (ext (zf w (.cells #[.int .i64 x,.slice none 0 0,.bool a] 58)) (zf _ (.cells #[.int .i64 y,.slice none 0 0,.bool b] 58))) (zf _ (.cells #[.int .i64 0,.slice none 0 0,.bool false] 58)));have z:=(Blk.new (w.alloc (.cells #[.int .i64 x,.slice none 0 0,.bool a] 58)) 58 #[.int .i64 y,.slice none 0 0,.bool b]).alloc (.cells #[.int .i64 0,.slice none 0 0,.bool false] 58);have m:=Blk.new ((w.alloc (.cells #[.int .i64 x,.slice none 0 0,.bool a] 58)).alloc (.cells #[.int .i64 y,.slice none 0 0,.bool b] 58)) 58 #[.int .i64 0,.slice none 0 0,.bool false];simp only [World.size_alloc] at z m
     go_in
     go_wp2_with fail
     go_region_held3 (fun w' =>w'.cell? ⟨w.heap.size,0,none⟩=some (.int .i64 x)/\w'.cell? ⟨w.heap.size,1,none⟩=some (.slice none 0 0)/\w'.cell? ⟨w.heap.size,2,none⟩=some (.bool a)/\
      w'.cell? ⟨w.heap.size+1,0,none⟩=some (.int .i64 y)/\w'.cell? ⟨w.heap.size+1,1,none⟩=some (.slice none 0 0)/\w'.cell? ⟨w.heap.size+1,2,none⟩=some (.bool b)/\
      w.heap.size<w'.heap.size/\w.heap.size+1<w'.heap.size/\Hid (Blk w' (w.heap.size+1) 58 #[.int .i64 y,.slice none 0 0,.bool b])/\Hid (Blk w' (w.heap.size+1+1) 58 #[.int .i64 0,.slice none 0 0,.bool false])/\Hid (Below w.heap.size w w'))
      (first
        | exact ⟨by go_keep,by go_keep,by go_keep,by go_keep,by go_keep,by go_keep,by simp;omega,by simp,ze (z.drewN 1),ze (m.drewN 1),ze (zo F 1)⟩
        | go_keep
        | (go_split_ands;exact ⟨zi ‹_› ‹_› ‹_›,zi ‹_› ‹_› ‹_›,zi ‹_› ‹_› ‹_›,zi ‹_› ‹_› ‹_›,zi ‹_› ‹_› ‹_›,zi ‹_› ‹_› ‹_›,zY ‹_› ‹_›,zY ‹_› ‹_›,Zj ‹_› ‹_›,Zj ‹_› ‹_›,zp ‹_› ‹_›⟩))
      (first
        | (go_at_call_of 85 (Value.agg #[Value.int .i64 x,.slice none 0 0,.bool a]);refine (O _).mono ?_;rintro e l ⟨rfl,K⟩)
        | (go_at_call_of 85 (Value.agg #[Value.int .i64 y,.slice none 0 0,.bool b]);refine (N _).mono ?_;rintro e l ⟨rfl,K⟩)
        | (go_at_call 89;refine (M _).mono ?_;rintro e l ⟨rfl,rfl⟩))
     go_split_ands;have j:=zW (by assumption:Hid (Blk _ (w.heap.size+1+1) _ _));have L:=j.cell 0;have I:=j.cell 1;have J:=j.cell 2;obtain ⟨Q,R,T⟩:=fp3 j;simp at L I J;go_wp2;have E:=yg (x:= -P) (A:=none) (k:=0) (c:=0) (ng:=false) j;obtain ⟨d0,G,D,_⟩:=bp3 E;refine bodyPost_ret (v:=.agg #[.int .i64 (-P),.slice none 0 0,.bool false]) (by simp [results,results40,go_sem,d0,G,D]) rfl ?_;exact ⟨_,rfl,.inl ⟨_,_,rfl,by have:=C.o;omega,by have:=C.o;omega,rfl⟩,zK (zW ‹_›) (by omega)⟩
 . rcases (show y<0\/¬ y<0 by omega) with r | r
   . have u:(decide (x<0) != decide (y<0))=true:=by rw [uF B,uE r];rfl
     rw [u];clear u;have U:decide (x<0)=false:=uF B;have S:decide (y<0)=true:=uE r;have F:=(ext (ext (zf w (.cells #[.int .i64 x,.slice none 0 0,.bool a] 58)) (zf _ (.cells #[.int .i64 y,.slice none 0 0,.bool b] 58))) (zf _ (.cells #[.int .i64 0,.slice none 0 0,.bool false] 58)));have z:=(Blk.new (w.alloc (.cells #[.int .i64 x,.slice none 0 0,.bool a] 58)) 58 #[.int .i64 y,.slice none 0 0,.bool b]).alloc (.cells #[.int .i64 0,.slice none 0 0,.bool false] 58);have m:=Blk.new ((w.alloc (.cells #[.int .i64 x,.slice none 0 0,.bool a] 58)).alloc (.cells #[.int .i64 y,.slice none 0 0,.bool b] 58)) 58 #[.int .i64 0,.slice none 0 0,.bool false];simp only [World.size_alloc] at z m
     go_in
     go_wp2_with fail
     go_region_held3 (fun w' =>w'.cell? ⟨w.heap.size,0,none⟩=some (.int .i64 x)/\w'.cell? ⟨w.heap.size,1,none⟩=some (.slice none 0 0)/\w'.cell? ⟨w.heap.size,2,none⟩=some (.bool a)/\
      w'.cell? ⟨w.heap.size+1,0,none⟩=some (.int .i64 y)/\w'.cell? ⟨w.heap.size+1,1,none⟩=some (.slice none 0 0)/\w'.cell? ⟨w.heap.size+1,2,none⟩=some (.bool b)/\
      w.heap.size<w'.heap.size/\w.heap.size+1<w'.heap.size/\Hid (Blk w' (w.heap.size+1) 58 #[.int .i64 y,.slice none 0 0,.bool b])/\Hid (Blk w' (w.heap.size+1+1) 58 #[.int .i64 0,.slice none 0 0,.bool false])/\Hid (Below w.heap.size w w'))
      (first
        | exact ⟨by go_keep,by go_keep,by go_keep,by go_keep,by go_keep,by go_keep,by simp;omega,by simp,ze (z.drewN 1),ze (m.drewN 1),ze (zo F 1)⟩
        | go_keep
        | (go_split_ands;exact ⟨zi ‹_› ‹_› ‹_›,zi ‹_› ‹_› ‹_›,zi ‹_› ‹_› ‹_›,zi ‹_› ‹_› ‹_›,zi ‹_› ‹_› ‹_›,zi ‹_› ‹_› ‹_›,zY ‹_› ‹_›,zY ‹_› ‹_›,Zj ‹_› ‹_›,Zj ‹_› ‹_›,zp ‹_› ‹_›⟩))
      (first
        | (go_at_call_of 85 (Value.agg #[Value.int .i64 x,.slice none 0 0,.bool a]);refine (O _).mono ?_;rintro e l ⟨rfl,K⟩)
        | (go_at_call_of 85 (Value.agg #[Value.int .i64 y,.slice none 0 0,.bool b]);refine (N _).mono ?_;rintro e l ⟨rfl,K⟩)
        | (go_at_call 89;refine (M _).mono ?_;rintro e l ⟨rfl,rfl⟩))
     go_split_ands;have j:=zW (by assumption:Hid (Blk _ (w.heap.size+1+1) _ _));have L:=j.cell 0;have I:=j.cell 1;have J:=j.cell 2;obtain ⟨Q,R,T⟩:=fp3 j;simp at L I J;go_wp2;have E:=yg (x:= -P) (A:=none) (k:=0) (c:=0) (ng:=false) j;obtain ⟨d0,G,D,_⟩:=bp3 E;refine bodyPost_ret (v:=.agg #[.int .i64 (-P),.slice none 0 0,.bool false]) (by simp [results,results40,go_sem,d0,G,D]) rfl ?_;exact ⟨_,rfl,.inl ⟨_,_,rfl,by have:=C.o;omega,by have:=C.o;omega,rfl⟩,zK (zW ‹_›) (by omega)⟩
   . have u:(decide (x<0) != decide (y<0))=false:=by rw [uF B,uF r];rfl
     rw [u];clear u;have U:decide (x<0)=false:=uF B;have S:decide (y<0)=false:=uF r;have F:=(ext (ext (zf w (.cells #[.int .i64 x,.slice none 0 0,.bool a] 58)) (zf _ (.cells #[.int .i64 y,.slice none 0 0,.bool b] 58))) (zf _ (.cells #[.int .i64 0,.slice none 0 0,.bool false] 58)));have z:=(Blk.new (w.alloc (.cells #[.int .i64 x,.slice none 0 0,.bool a] 58)) 58 #[.int .i64 y,.slice none 0 0,.bool b]).alloc (.cells #[.int .i64 0,.slice none 0 0,.bool false] 58);have m:=Blk.new ((w.alloc (.cells #[.int .i64 x,.slice none 0 0,.bool a] 58)).alloc (.cells #[.int .i64 y,.slice none 0 0,.bool b] 58)) 58 #[.int .i64 0,.slice none 0 0,.bool false];simp only [World.size_alloc] at z m
     go_in
     go_wp2_with fail
     go_region_held3 (fun w' =>w'.cell? ⟨w.heap.size,0,none⟩=some (.int .i64 x)/\w'.cell? ⟨w.heap.size,1,none⟩=some (.slice none 0 0)/\w'.cell? ⟨w.heap.size,2,none⟩=some (.bool a)/\
      w'.cell? ⟨w.heap.size+1,0,none⟩=some (.int .i64 y)/\w'.cell? ⟨w.heap.size+1,1,none⟩=some (.slice none 0 0)/\w'.cell? ⟨w.heap.size+1,2,none⟩=some (.bool b)/\
      w.heap.size<w'.heap.size/\w.heap.size+1<w'.heap.size/\Hid (Blk w' (w.heap.size+1) 58 #[.int .i64 y,.slice none 0 0,.bool b])/\Hid (Blk w' (w.heap.size+1+1) 58 #[.int .i64 0,.slice none 0 0,.bool false])/\Hid (Below w.heap.size w w'))
      (first
        | exact ⟨by go_keep,by go_keep,by go_keep,by go_keep,by go_keep,by go_keep,by simp;omega,by simp,ze (z.drewN 1),ze (m.drewN 1),ze (zo F 1)⟩
        | go_keep
        | (go_split_ands;exact ⟨zi ‹_› ‹_› ‹_›,zi ‹_› ‹_› ‹_›,zi ‹_› ‹_› ‹_›,zi ‹_› ‹_› ‹_›,zi ‹_› ‹_› ‹_›,zi ‹_› ‹_› ‹_›,zY ‹_› ‹_›,zY ‹_› ‹_›,Zj ‹_› ‹_›,Zj ‹_› ‹_›,zp ‹_› ‹_›⟩))
      (first
        | (go_at_call_of 85 (Value.agg #[Value.int .i64 x,.slice none 0 0,.bool a]);refine (O _).mono ?_;rintro e l ⟨rfl,K⟩)
        | (go_at_call_of 85 (Value.agg #[Value.int .i64 y,.slice none 0 0,.bool b]);refine (N _).mono ?_;rintro e l ⟨rfl,K⟩)
        | (go_at_call 89;refine (M _).mono ?_;rintro e l ⟨rfl,rfl⟩))
     go_split_ands;have j:=zW (by assumption:Hid (Blk _ (w.heap.size+1+1) _ _));have L:=j.cell 0;have I:=j.cell 1;have J:=j.cell 2;obtain ⟨Q,R,T⟩:=fp3 j;simp at L I J;go_wp2;have E:=yg (x:=P) (A:=none) (k:=0) (c:=0) (ng:=false) j;obtain ⟨d0,G,D,_⟩:=bp3 E;refine bodyPost_ret (v:=.agg #[.int .i64 (P),.slice none 0 0,.bool false]) (by simp [results,results40,go_sem,d0,G,D]) rfl ?_;exact ⟨_,rfl,.inl ⟨_,_,rfl,by have:=C.o;omega,by have:=C.o;omega,rfl⟩,zK (zW ‹_›) (by omega)⟩
def zpf (x y:Int) (A B:Option Addr):Prop:=A≠none\/(A=none/\B≠none)\/(A=none/\B=none/\4611686018427387904<=x.natAbs*y.natAbs)
theorem zrd (s t:Bool) (n m:Nat) (x y:Int) (A B:Option Addr) (k c k' c' :Nat) (a b:Bool) (w:World) (h1: -4611686018427387904<x) (h2:x<4611686018427387904) (h3: -4611686018427387904<y) (h4:y<4611686018427387904)
 (hA0:A=none->k=0/\c=0) (hB0:B=none->k' =0/\c' =0)
 (ha:zN w (.agg #[.int .i64 x,.slice A k c,.bool a]) (signed s n)) (hb:zN w (.agg #[.int .i64 y,.slice B k' c',.bool b]) (signed t m)) (hs:s=true->0<n) (ht:t=true->0<m)
 (hln:len 4294967296 n<=67108864) (hlm:len 4294967296 m<=67108864) (hsl:zpf x y A B):
 Calls prog 40 #[.agg #[.int .i64 x,.slice A k c,.bool a],.agg #[.int .i64 y,.slice B k' c',.bool b]] w (ZW w (signed s n*signed t m)):=by
 have q1:=fun w=>zml w A k c 0 0
 have q2:=fun w=>zml w B k' c' 0 0
 have ag:=ze hln
 have ah:=ze hlm
 clear hln hlm
 rcases hsl with h | ⟨h,h'⟩ | ⟨h,h',h5⟩
 . obtain ⟨ad,rfl⟩:=Option.ne_none_iff_exists'.1 h
   clear h
   go_in
   go_wp2_with fail;have z:=(ext (ext (zf w (.cells #[.int .i64 x,.slice (some ad) k c,.bool a] 58)) (zf _ (.cells #[.int .i64 y,.slice B k' c',.bool b] 58))) (zf _ (.cells #[.int .i64 0,.slice none 0 0,.bool false] 58)));have K:=ha.below z;have M:=hb.below z;have u:=(Blk.new (w.alloc (.cells #[.int .i64 x,.slice (some ad) k c,.bool a] 58)) 58 #[.int .i64 y,.slice B k' c',.bool b]).alloc (.cells #[.int .i64 0,.slice none 0 0,.bool false] 58);have j:=Blk.new ((w.alloc (.cells #[.int .i64 x,.slice (some ad) k c,.bool a] 58)).alloc (.cells #[.int .i64 y,.slice B k' c',.bool b] 58)) 58 #[.int .i64 0,.slice none 0 0,.bool false];simp only [World.size_alloc] at u j;generalize ((w.alloc (.cells #[.int .i64 x,.slice (some ad) k c,.bool a] 58)).alloc (.cells #[.int .i64 y,.slice B k' c',.bool b] 58)).alloc (.cells #[.int .i64 0,.slice none 0 0,.bool false] 58)=W at K M u j z |-;refine (xG _ s n W K hs).mono ?_;rintro e J ⟨p,rfl,S,l⟩;have O:=u.below l u.lt;obtain ⟨I,E,F,_⟩:=bp3 O;go_wp2_with fail;refine (xG _ t m J (M.below l) ht).mono ?_
   rintro e w2 ⟨p',rfl,aa,D⟩;have ac:=S.below D;have C:=(j.below l j.lt).below D (j.below l j.lt).lt;have Y:=ext (ext z l) D;clear l D z j u O I E F K M S;go_wp2_with fail;refine (zci p p' n m w2 ac aa ag.o ah.o).mono ?_;rintro e w3 ⟨q,rfl,hq,G⟩;go_wp2_with fail;refine (yb (s != t) q (n*m) w3 hq).mono ?_;rintro e w4 ⟨v,rfl,hv,U⟩;obtain ⟨R,A',T,Q,N,rfl,_,_,_⟩:=hv.form;have r:=(C.below G C.lt).below U (C.below G C.lt).lt;have ab:=ext (ext Y G) U;have I:=r.cell 0;have E:=r.cell 1;have F:=r.cell 2;obtain ⟨f0,f1,f2⟩:=fp3 r;simp at I E F;go_wp2;have Z:=yg (x:=R) (A:=A') (k:=T) (c:=Q) (ng:=N) r;obtain ⟨d0,d1,X,_⟩:=bp3 Z;refine bodyPost_ret (v:=.agg #[.int .i64 R,.slice A' T Q,.bool N]) (by simp [results,results40,go_sem,d0,d1,X]) rfl ?_;exact ⟨_,rfl,zz (by rw [Y7];exact hv) r,zK ab (by omega)⟩
 . obtain ⟨bd,rfl⟩:=Option.ne_none_iff_exists'.1 h'
   subst h;obtain ⟨rfl,rfl⟩:=hA0 rfl;clear h' hA0 hB0
   go_in
   go_wp2_with fail;have z:=(ext (ext (zf w (.cells #[.int .i64 x,.slice none 0 0,.bool a] 58)) (zf _ (.cells #[.int .i64 y,.slice (some bd) k' c',.bool b] 58))) (zf _ (.cells #[.int .i64 0,.slice none 0 0,.bool false] 58)));have K:=ha.below z;have M:=hb.below z;have u:=(Blk.new (w.alloc (.cells #[.int .i64 x,.slice none 0 0,.bool a] 58)) 58 #[.int .i64 y,.slice (some bd) k' c',.bool b]).alloc (.cells #[.int .i64 0,.slice none 0 0,.bool false] 58);have j:=Blk.new ((w.alloc (.cells #[.int .i64 x,.slice none 0 0,.bool a] 58)).alloc (.cells #[.int .i64 y,.slice (some bd) k' c',.bool b] 58)) 58 #[.int .i64 0,.slice none 0 0,.bool false];simp only [World.size_alloc] at u j;generalize ((w.alloc (.cells #[.int .i64 x,.slice none 0 0,.bool a] 58)).alloc (.cells #[.int .i64 y,.slice (some bd) k' c',.bool b] 58)).alloc (.cells #[.int .i64 0,.slice none 0 0,.bool false] 58)=W at K M u j z |-;refine (xG _ s n W K hs).mono ?_;rintro e J ⟨p,rfl,S,l⟩;have O:=u.below l u.lt;obtain ⟨I,E,F,_⟩:=bp3 O;go_wp2_with fail
   refine (xG _ t m J (M.below l) ht).mono ?_;rintro e w2 ⟨p',rfl,aa,D⟩;have ac:=S.below D;have C:=(j.below l j.lt).below D (j.below l j.lt).lt;have Y:=ext (ext z l) D;clear l D z j u O I E F K M S;go_wp2_with fail;refine (zci p p' n m w2 ac aa ag.o ah.o).mono ?_;rintro e w3 ⟨q,rfl,hq,G⟩;go_wp2_with fail;refine (yb (s != t) q (n*m) w3 hq).mono ?_;rintro e w4 ⟨v,rfl,hv,U⟩;obtain ⟨R,A',T,Q,N,rfl,_,_,_⟩:=hv.form;have r:=(C.below G C.lt).below U (C.below G C.lt).lt;have ab:=ext (ext Y G) U;have I:=r.cell 0;have E:=r.cell 1;have F:=r.cell 2;obtain ⟨f0,f1,f2⟩:=fp3 r;simp at I E F;go_wp2;have Z:=yg (x:=R) (A:=A') (k:=T) (c:=Q) (ng:=N) r;obtain ⟨d0,d1,X,_⟩:=bp3 Z;refine bodyPost_ret (v:=.agg #[.int .i64 R,.slice A' T Q,.bool N]) (by simp [results,results40,go_sem,d0,d1,X]) rfl ?_;exact ⟨_,rfl,zz (by rw [Y7];exact hv) r,zK ab (by omega)⟩
 . subst h h'
   obtain ⟨rfl,rfl⟩:=hA0 rfl;obtain ⟨rfl,rfl⟩:=hB0 rfl;have hx:=fun w=>X7 x (.slice none 0 0) a w h1 h2
   have hy:=fun w=>X7 y (.slice none 0 0) b w h3 h4
   have hm:=fun w=>zge x.natAbs y.natAbs (by omega) (by omega) w
   generalize x.natAbs*y.natAbs=P at hm h5;have hL:P / 18446744073709551616≠0\/(P / 18446744073709551616=0/\4611686018427387904<=P % 18446744073709551616):=by omega
   generalize P / 18446744073709551616=H at hm hL;generalize P % 18446744073709551616=L at hm hL;clear h5 h1 h2 h3 h4 hA0 hB0
   rcases hL with hL | ⟨rfl,hL⟩
   . have hH:¬ (H:Int)=0:=by omega
     have ai:((H:Int) == 0)=false:=uD hH;clear hL;have z:=(ext (ext (zf w (.cells #[.int .i64 x,.slice none 0 0,.bool a] 58)) (zf _ (.cells #[.int .i64 y,.slice none 0 0,.bool b] 58))) (zf _ (.cells #[.int .i64 0,.slice none 0 0,.bool false] 58)));have u:=(Blk.new (w.alloc (.cells #[.int .i64 x,.slice none 0 0,.bool a] 58)) 58 #[.int .i64 y,.slice none 0 0,.bool b]).alloc (.cells #[.int .i64 0,.slice none 0 0,.bool false] 58);have j:=Blk.new ((w.alloc (.cells #[.int .i64 x,.slice none 0 0,.bool a] 58)).alloc (.cells #[.int .i64 y,.slice none 0 0,.bool b] 58)) 58 #[.int .i64 0,.slice none 0 0,.bool false];simp only [World.size_alloc] at u j
     go_in
     go_wp2_with fail
     go_region_held3 (fun w' =>w'.cell? ⟨w.heap.size,0,none⟩=some (.int .i64 x)/\w'.cell? ⟨w.heap.size,1,none⟩=some (.slice none 0 0)/\w'.cell? ⟨w.heap.size,2,none⟩=some (.bool a)/\
      w'.cell? ⟨w.heap.size+1,0,none⟩=some (.int .i64 y)/\w'.cell? ⟨w.heap.size+1,1,none⟩=some (.slice none 0 0)/\w'.cell? ⟨w.heap.size+1,2,none⟩=some (.bool b)/\
      w.heap.size<w'.heap.size/\w.heap.size+1<w'.heap.size/\Hid (Blk w' (w.heap.size+1) 58 #[.int .i64 y,.slice none 0 0,.bool b])/\Hid (Blk w' (w.heap.size+1+1) 58 #[.int .i64 0,.slice none 0 0,.bool false])/\Hid (Below w.heap.size w w'))
      (first
        | exact ⟨by go_keep,by go_keep,by go_keep,by go_keep,by go_keep,by go_keep,by simp;omega,by simp,ze (u.drewN 1),ze (j.drewN 1),ze (zo z 1)⟩
        | go_keep
        | (go_split_ands;exact ⟨zi ‹_› ‹_› ‹_›,zi ‹_› ‹_› ‹_›,zi ‹_› ‹_› ‹_›,zi ‹_› ‹_› ‹_›,zi ‹_› ‹_› ‹_›,zi ‹_› ‹_› ‹_›,zY ‹_› ‹_›,zY ‹_› ‹_›,Zj ‹_› ‹_›,Zj ‹_› ‹_›,zp ‹_› ‹_›⟩))
      (first
        | (go_at_call_of 85 (Value.agg #[Value.int .i64 x,.slice none 0 0,.bool a]);refine (hx _).mono ?_;rintro e J ⟨rfl,l⟩)
        | (go_at_call_of 85 (Value.agg #[Value.int .i64 y,.slice none 0 0,.bool b]);refine (hy _).mono ?_;rintro e J ⟨rfl,l⟩)
        | (go_at_call 89;refine (hm _).mono ?_;rintro e J ⟨rfl,rfl⟩))
     go_split_ands;have V :=zW (by assumption:Hid (Below w.heap.size w _));have af :=zW (by assumption:Hid (Blk _ (w.heap.size+1) _ _));have ae :=zW (by assumption:Hid (Blk _ (w.heap.size+1+1) _ _));have K:=ha.below V;have M:=hb.below V;clear z u j;have z:=V;have u:=af;have j:=ae;clear V af ae;go_wp2_with fail;refine (xG _ s n _ K hs).mono ?_;rintro e J ⟨p,rfl,S,l⟩;have O:=u.below l u.lt;obtain ⟨I,E,F,_⟩:=bp3 O;go_wp2_with fail;refine (xG _ t m J (M.below l) ht).mono ?_;rintro e w2 ⟨p',rfl,aa,D⟩;have ac:=S.below D;have C:=(j.below l j.lt).below D (j.below l j.lt).lt;have Y:=ext (ext z l) D;clear l D z j u O I E F K M S;go_wp2_with fail;refine (zci p p' n m w2 ac aa ag.o ah.o).mono ?_;rintro e w3 ⟨q,rfl,hq,G⟩;go_wp2_with fail;refine (yb (s != t) q (n*m) w3 hq).mono ?_;rintro e w4 ⟨v,rfl,hv,U⟩;obtain ⟨R,A',T,Q,N,rfl,_,_,_⟩:=hv.form;have r:=(C.below G C.lt).below U (C.below G C.lt).lt;have ab:=ext (ext Y G) U
     have I:=r.cell 0;have E:=r.cell 1;have F:=r.cell 2;obtain ⟨f0,f1,f2⟩:=fp3 r;simp at I E F;go_wp2;have Z:=yg (x:=R) (A:=A') (k:=T) (c:=Q) (ng:=N) r;obtain ⟨d0,d1,X,_⟩:=bp3 Z;refine bodyPost_ret (v:=.agg #[.int .i64 R,.slice A' T Q,.bool N]) (by simp [results,results40,go_sem,d0,d1,X]) rfl ?_;exact ⟨_,rfl,zz (by rw [Y7];exact hv) r,zK ab (by omega)⟩
   . have hD:decide ((L:Int)<4611686018427387904)=false:=uF (by omega)
     clear hL;have z:=(ext (ext (zf w (.cells #[.int .i64 x,.slice none 0 0,.bool a] 58)) (zf _ (.cells #[.int .i64 y,.slice none 0 0,.bool b] 58))) (zf _ (.cells #[.int .i64 0,.slice none 0 0,.bool false] 58)));have u:=(Blk.new (w.alloc (.cells #[.int .i64 x,.slice none 0 0,.bool a] 58)) 58 #[.int .i64 y,.slice none 0 0,.bool b]).alloc (.cells #[.int .i64 0,.slice none 0 0,.bool false] 58);have j:=Blk.new ((w.alloc (.cells #[.int .i64 x,.slice none 0 0,.bool a] 58)).alloc (.cells #[.int .i64 y,.slice none 0 0,.bool b] 58)) 58 #[.int .i64 0,.slice none 0 0,.bool false];simp only [World.size_alloc] at u j
     go_in
     go_wp2_with fail
     go_region_held3 (fun w' =>w'.cell? ⟨w.heap.size,0,none⟩=some (.int .i64 x)/\w'.cell? ⟨w.heap.size,1,none⟩=some (.slice none 0 0)/\w'.cell? ⟨w.heap.size,2,none⟩=some (.bool a)/\
      w'.cell? ⟨w.heap.size+1,0,none⟩=some (.int .i64 y)/\w'.cell? ⟨w.heap.size+1,1,none⟩=some (.slice none 0 0)/\w'.cell? ⟨w.heap.size+1,2,none⟩=some (.bool b)/\
      w.heap.size<w'.heap.size/\w.heap.size+1<w'.heap.size/\Hid (Blk w' (w.heap.size+1) 58 #[.int .i64 y,.slice none 0 0,.bool b])/\Hid (Blk w' (w.heap.size+1+1) 58 #[.int .i64 0,.slice none 0 0,.bool false])/\Hid (Below w.heap.size w w'))
      (first
        | exact ⟨by go_keep,by go_keep,by go_keep,by go_keep,by go_keep,by go_keep,by simp;omega,by simp,ze (u.drewN 1),ze (j.drewN 1),ze (zo z 1)⟩
        | go_keep
        | (go_split_ands;exact ⟨zi ‹_› ‹_› ‹_›,zi ‹_› ‹_› ‹_›,zi ‹_› ‹_› ‹_›,zi ‹_› ‹_› ‹_›,zi ‹_› ‹_› ‹_›,zi ‹_› ‹_› ‹_›,zY ‹_› ‹_›,zY ‹_› ‹_›,Zj ‹_› ‹_›,Zj ‹_› ‹_›,zp ‹_› ‹_›⟩))
      (first
        | (go_at_call_of 85 (Value.agg #[Value.int .i64 x,.slice none 0 0,.bool a]);refine (hx _).mono ?_;rintro e J ⟨rfl,l⟩)
        | (go_at_call_of 85 (Value.agg #[Value.int .i64 y,.slice none 0 0,.bool b]);refine (hy _).mono ?_;rintro e J ⟨rfl,l⟩)
        | (go_at_call 89;refine (hm _).mono ?_;rintro e J ⟨rfl,rfl⟩))
     go_split_ands;have V :=zW (by assumption:Hid (Below w.heap.size w _));have af :=zW (by assumption:Hid (Blk _ (w.heap.size+1) _ _));have ae :=zW (by assumption:Hid (Blk _ (w.heap.size+1+1) _ _));have K:=ha.below V;have M:=hb.below V;clear z u j;have z:=V;have u:=af;have j:=ae;clear V af ae;go_wp2_with fail;refine (xG _ s n _ K hs).mono ?_;rintro e J ⟨p,rfl,S,l⟩;have O:=u.below l u.lt;obtain ⟨I,E,F,_⟩:=bp3 O;go_wp2_with fail;refine (xG _ t m J (M.below l) ht).mono ?_;rintro e w2 ⟨p',rfl,aa,D⟩;have ac:=S.below D;have C:=(j.below l j.lt).below D (j.below l j.lt).lt;have Y:=ext (ext z l) D;clear l D z j u O I E F K M S;go_wp2_with fail;refine (zci p p' n m w2 ac aa ag.o ah.o).mono ?_;rintro e w3 ⟨q,rfl,hq,G⟩;go_wp2_with fail;refine (yb (s != t) q (n*m) w3 hq).mono ?_;rintro e w4 ⟨v,rfl,hv,U⟩;obtain ⟨R,A',T,Q,N,rfl,_,_,_⟩:=hv.form;have r:=(C.below G C.lt).below U (C.below G C.lt).lt;have ab:=ext (ext Y G) U
     have I:=r.cell 0;have E:=r.cell 1;have F:=r.cell 2;obtain ⟨f0,f1,f2⟩:=fp3 r;simp at I E F;go_wp2;have Z:=yg (x:=R) (A:=A') (k:=T) (c:=Q) (ng:=N) r;obtain ⟨d0,d1,X,_⟩:=bp3 Z;refine bodyPost_ret (v:=.agg #[.int .i64 R,.slice A' T Q,.bool N]) (by simp [results,results40,go_sem,d0,d1,X]) rfl ?_;exact ⟨_,rfl,zz (by rw [Y7];exact hv) r,zK ab (by omega)⟩
theorem xB (va vb:Value) (z y:Int) (w:World) (ha:zN w va z) (hb:zN w vb y) (hla:len 4294967296 z.natAbs<=67108864) (hlb:len 4294967296 y.natAbs<=67108864):
 Calls prog 40 #[va,vb] w (ZW w (z*y)):=by
 have J :=ha
 have G :=hb
 obtain ⟨D,A,k,c,s,rfl,C,r,l⟩:=ha.form
 obtain ⟨F,B,k',c',t,rfl,E,u,j⟩:=hb.form
 by_cases m:A=none/\B=none/\D.natAbs*F.natAbs<4611686018427387904
 . obtain ⟨b,e,I⟩:=m
   obtain ⟨rfl,rfl,rfl⟩:=l b;obtain ⟨rfl,rfl,rfl⟩:=j e;subst b e;exact zr1 z y s t _ w C r E u rfl I
 have:=zrd (decide (z<0)) (decide (y<0)) z.natAbs y.natAbs D F A B k c k' c' s t w C r E u (fun h=>⟨(l h).1,(l h).2.1⟩) (fun h=>⟨(j h).1,(j h).2.1⟩) (by rw [yN];exact J) (by rw [yN];exact G) ZL ZL hla hlb (by
  unfold zpf
  by_cases b:A=none
  . by_cases e:B=none
    . exact .inr (.inr ⟨b,e,Nat.le_of_not_lt fun h=>m ⟨b,e,h⟩⟩)
    exact .inr (.inl ⟨b,e⟩)
  . exact .inl b)
 rwa [yN,yN] at this
def zi2 (w:World) (z y:Int) (e:Ending) (w' :World):Prop:=∃ v v',e= .returned (.tuple #[v,v'])/\zN w' v z/\zN w' v' y/\Below w.heap.size w w'
theorem xY {W:World} {g g' :Nat} {t:TypeId} {x:Int} {A:Option Addr} {k c:Nat} {ng:Bool} {cs:Array Value} (hk:Blk W g t cs) (hne:g≠g'):Blk (World.num W g' x A k c ng) g t cs:=
 ((hk.far hne _).far hne _).far hne _
theorem zdu (s t:Bool) (n m:Nat):(signed s n).tdiv (signed t m)=signed (s != t) (n / m):=by
 cases s<;>cases t<;>unfold signed<;>simp [Int.neg_tdiv,Int.tdiv_neg,Int.ofNat_tdiv]
theorem zb6 (s t:Bool) (n m:Nat):(signed s n).tmod (signed t m)=signed s (n % m):=by
 cases s<;>cases t<;>unfold signed<;>simp [Int.neg_tmod,Int.tmod_neg,Int.ofNat_tmod,Int.tmod_eq_emod_of_nonneg]
theorem zdi {x y:Int} (h1: -4611686018427387904<x) (h2:x<4611686018427387904): -4611686018427387904<x.tdiv y/\x.tdiv y<4611686018427387904:=by
 have:=Int.natAbs_tdiv_le_natAbs x y
 omega
theorem zip {x y:Int} (h1: -4611686018427387904<x) (h2:x<4611686018427387904): -4611686018427387904<x.tmod y/\x.tmod y<4611686018427387904:=by
 have:=Int.natAbs_tmod x y
 have b:=Nat.mod_le x.natAbs y.natAbs
 omega
theorem zrl (x y:Int) (a b:Bool) (w:World) (h1: -4611686018427387904<x) (h2:x<4611686018427387904) (h3: -4611686018427387904<y) (h4:y<4611686018427387904) (hy:y≠0):
 Calls prog 88 #[.agg #[.int .i64 x,.slice none 0 0,.bool a],.agg #[.int .i64 y,.slice none 0 0,.bool b]] w (zi2 w (x.tdiv y) (x.tmod y)):=by
 have r:=fun w=>zml w none 0 0 0 0
 have u:(y == 0)=false:=uD hy
 obtain ⟨e,l⟩:=zdi (y:=y) h1 h2
 obtain ⟨m,j⟩:=zip (y:=y) h1 h2
 go_in
 go_wp2_with fail
 go_region
 go_wp2
 refine bodyPost_ret (v:=.tuple #[.agg #[.int .i64 (x.tdiv y),.slice none 0 0,.bool false],.agg #[.int .i64 (x.tmod y),.slice none 0 0,.bool false]]) (by simp [results,results88,go_sem]) rfl ?_
 exact ⟨_,_,rfl,.inl ⟨_,_,rfl,e,l,rfl⟩,.inl ⟨_,_,rfl,m,j,rfl⟩,zo (ext (ext (ext (zf _ _) (zf _ _)) (zf _ _)) (zf _ _)) 1⟩
def zm9 (A B:Option Addr):Prop:=A≠none\/(A=none/\B≠none)
theorem zr5 (s t:Bool) (n m:Nat) (x y:Int) (A B:Option Addr) (k c k' c' :Nat) (a b:Bool) (w:World) (h1: -4611686018427387904<x) (h2:x<4611686018427387904) (h3: -4611686018427387904<y) (h4:y<4611686018427387904)
 (ha:zN w (.agg #[.int .i64 x,.slice A k c,.bool a]) (signed s n)) (hb:zN w (.agg #[.int .i64 y,.slice B k' c',.bool b]) (signed t m)) (hs:s=true->0<n) (ht:t=true->0<m) (hm0:0<m)
 (hln:len 4294967296 n<=33554432) (hlm:len 4294967296 m<=33554432) (hsl:zm9 A B):
 Calls prog 88 #[.agg #[.int .i64 x,.slice A k c,.bool a],.agg #[.int .i64 y,.slice B k' c',.bool b]] w (zi2 w ((signed s n).tdiv (signed t m)) ((signed s n).tmod (signed t m))):=by
 have q1:=fun w=>zml w A k c 0 0
 have q2:=fun w=>zml w B k' c' 0 0
 have am:=ze hln
 have an:=ze hlm
 clear hln hlm
 rcases hsl with h | ⟨h,h'⟩
 . obtain ⟨ad,rfl⟩:=Option.ne_none_iff_exists'.1 h
   clear h
   go_in
   go_wp2_with fail;have F:=(ext (ext (ext (zf w (.cells #[.int .i64 x,.slice (some ad) k c,.bool a] 58)) (zf _ (.cells #[.int .i64 y,.slice B k' c',.bool b] 58))) (zf _ (.cells #[.int .i64 0,.slice none 0 0,.bool false] 58))) (zf _ (.cells #[.int .i64 0,.slice none 0 0,.bool false] 58)));have X:=ha.below F;have hB:=hb.below F;have K:=((Blk.new (w.alloc (.cells #[.int .i64 x,.slice (some ad) k c,.bool a] 58)) 58 #[.int .i64 y,.slice B k' c',.bool b]).alloc (.cells #[.int .i64 0,.slice none 0 0,.bool false] 58)).alloc (.cells #[.int .i64 0,.slice none 0 0,.bool false] 58);have u:=(Blk.new ((w.alloc (.cells #[.int .i64 x,.slice (some ad) k c,.bool a] 58)).alloc (.cells #[.int .i64 y,.slice B k' c',.bool b] 58)) 58 #[.int .i64 0,.slice none 0 0,.bool false]).alloc (.cells #[.int .i64 0,.slice none 0 0,.bool false] 58);have l:=Blk.new (((w.alloc (.cells #[.int .i64 x,.slice (some ad) k c,.bool a] 58)).alloc (.cells #[.int .i64 y,.slice B k' c',.bool b] 58)).alloc (.cells #[.int .i64 0,.slice none 0 0,.bool false] 58)) 58 #[.int .i64 0,.slice none 0 0,.bool false];simp only [World.size_alloc] at K u l
   generalize (((w.alloc (.cells #[.int .i64 x,.slice (some ad) k c,.bool a] 58)).alloc (.cells #[.int .i64 y,.slice B k' c',.bool b] 58)).alloc (.cells #[.int .i64 0,.slice none 0 0,.bool false] 58)).alloc (.cells #[.int .i64 0,.slice none 0 0,.bool false] 58)=W at X hB K u l F |-;refine (xG _ s n W X hs).mono ?_;rintro e w1 ⟨p,rfl,hp,j⟩;have ae:=K.below j K.lt;obtain ⟨c0,Y,Z,_⟩:=bp3 ae;go_wp2_with fail;refine (xG _ t m w1 (hB.below j) ht).mono ?_;rintro e w2 ⟨p',rfl,ag,I⟩;have ah:=hp.below I;have aa:=(u.below j u.lt).below I (u.below j u.lt).lt;have O:=(l.below j l.lt).below I (l.below j l.lt).lt;have ab:=ext (ext F j) I;clear j I F u K l ae c0 Y Z X hB hp;go_wp2_with fail;refine (zi0 p p' n m w2 ah ag hm0 am.o an.o).mono ?_;rintro e w3 ⟨q,r,rfl,hq,hr,L⟩;have D:=aa.below L aa.lt;have E:=O.below L O.lt;have ak:=ext ab L;clear aa O ab ah ag L;go_wp2_with fail;refine (yb (s != t) q (n / m) w3 hq).mono ?_;rintro e w4 ⟨v,rfl,hv,C⟩;go_wp2_with fail
   refine (yb s r (n % m) w4 (hr.below C)).mono ?_;rintro e w5 ⟨v',rfl,ac,G⟩;have af:=hv.below G;obtain ⟨V,A',k2,T,M,rfl,_,_,_⟩:=af.form;obtain ⟨N,A3,R,c3,Q,rfl,_,_,_⟩:=ac.form;have z:=(D.below C D.lt).below G (D.below C D.lt).lt;have J:=(E.below C E.lt).below G (E.below C E.lt).lt;have al:=ext (ext ak C) G;clear D E ak C G hq hr hv;have c0:=z.cell 0;have Y:=z.cell 1;have Z:=z.cell 2;obtain ⟨f0,f1,f2⟩:=fp3 z;have d0:=J.cell 0;have d1:=J.cell 1;have d2:=J.cell 2;obtain ⟨g0,g1,g2⟩:=fp3 J;simp at c0 Y Z d0 d1 d2;go_wp2;have kE:=yg (x:=V) (A:=A') (k:=k2) (c:=T) (ng:=M) z;have U:=xY (g' :=w.heap.size+1+1) (x:=V) (A:=A') (k:=k2) (c:=T) (ng:=M) J (by omega);have kG:=xY (g' :=w.heap.size+1+1+1) (x:=N) (A:=A3) (k:=R) (c:=c3) (ng:=Q) kE (by omega);have S:=yg (x:=N) (A:=A3) (k:=R) (c:=c3) (ng:=Q) U;have e0:=kG.cell 0;have e1:=kG.cell 1;have e2:=kG.cell 2
   have h0:=S.cell 0;have aj :=S.cell 1;have ai :=S.cell 2;simp at e0 e1 e2 h0 aj ai;refine bodyPost_ret (v:=.tuple #[.agg #[.int .i64 V,.slice A' k2 T,.bool M],.agg #[.int .i64 N,.slice A3 R c3,.bool Q]]) (by simp [results,results88,go_sem,e0,e1,e2,h0,aj,ai]) rfl ?_;rw [zdu,zb6];exact ⟨_,_,rfl,zz (zz af z) U,zz (zz ac z) U,zK (zK al (by omega)) (by omega)⟩
 . obtain ⟨bd,rfl⟩:=Option.ne_none_iff_exists'.1 h'
   subst h;clear h'
   go_in
   go_wp2_with fail;have F:=(ext (ext (ext (zf w (.cells #[.int .i64 x,.slice none k c,.bool a] 58)) (zf _ (.cells #[.int .i64 y,.slice (some bd) k' c',.bool b] 58))) (zf _ (.cells #[.int .i64 0,.slice none 0 0,.bool false] 58))) (zf _ (.cells #[.int .i64 0,.slice none 0 0,.bool false] 58)));have X:=ha.below F;have hB:=hb.below F;have K:=((Blk.new (w.alloc (.cells #[.int .i64 x,.slice none k c,.bool a] 58)) 58 #[.int .i64 y,.slice (some bd) k' c',.bool b]).alloc (.cells #[.int .i64 0,.slice none 0 0,.bool false] 58)).alloc (.cells #[.int .i64 0,.slice none 0 0,.bool false] 58);have u:=(Blk.new ((w.alloc (.cells #[.int .i64 x,.slice none k c,.bool a] 58)).alloc (.cells #[.int .i64 y,.slice (some bd) k' c',.bool b] 58)) 58 #[.int .i64 0,.slice none 0 0,.bool false]).alloc (.cells #[.int .i64 0,.slice none 0 0,.bool false] 58);have l:=Blk.new (((w.alloc (.cells #[.int .i64 x,.slice none k c,.bool a] 58)).alloc (.cells #[.int .i64 y,.slice (some bd) k' c',.bool b] 58)).alloc (.cells #[.int .i64 0,.slice none 0 0,.bool false] 58)) 58 #[.int .i64 0,.slice none 0 0,.bool false];simp only [World.size_alloc] at K u l
   generalize (((w.alloc (.cells #[.int .i64 x,.slice none k c,.bool a] 58)).alloc (.cells #[.int .i64 y,.slice (some bd) k' c',.bool b] 58)).alloc (.cells #[.int .i64 0,.slice none 0 0,.bool false] 58)).alloc (.cells #[.int .i64 0,.slice none 0 0,.bool false] 58)=W at X hB K u l F |-;refine (xG _ s n W X hs).mono ?_;rintro e w1 ⟨p,rfl,hp,j⟩;have ae:=K.below j K.lt;obtain ⟨c0,Y,Z,_⟩:=bp3 ae;go_wp2_with fail;refine (xG _ t m w1 (hB.below j) ht).mono ?_;rintro e w2 ⟨p',rfl,ag,I⟩;have ah:=hp.below I;have aa:=(u.below j u.lt).below I (u.below j u.lt).lt;have O:=(l.below j l.lt).below I (l.below j l.lt).lt;have ab:=ext (ext F j) I;clear j I F u K l ae c0 Y Z X hB hp;go_wp2_with fail;refine (zi0 p p' n m w2 ah ag hm0 am.o an.o).mono ?_;rintro e w3 ⟨q,r,rfl,hq,hr,L⟩;have D:=aa.below L aa.lt;have E:=O.below L O.lt;have ak:=ext ab L;clear aa O ab ah ag L;go_wp2_with fail;refine (yb (s != t) q (n / m) w3 hq).mono ?_;rintro e w4 ⟨v,rfl,hv,C⟩;go_wp2_with fail
   refine (yb s r (n % m) w4 (hr.below C)).mono ?_;rintro e w5 ⟨v',rfl,ac,G⟩;have af:=hv.below G;obtain ⟨V,A',k2,T,M,rfl,_,_,_⟩:=af.form;obtain ⟨N,A3,R,c3,Q,rfl,_,_,_⟩:=ac.form;have z:=(D.below C D.lt).below G (D.below C D.lt).lt;have J:=(E.below C E.lt).below G (E.below C E.lt).lt;have al:=ext (ext ak C) G;clear D E ak C G hq hr hv;have c0:=z.cell 0;have Y:=z.cell 1;have Z:=z.cell 2;obtain ⟨f0,f1,f2⟩:=fp3 z;have d0:=J.cell 0;have d1:=J.cell 1;have d2:=J.cell 2;obtain ⟨g0,g1,g2⟩:=fp3 J;simp at c0 Y Z d0 d1 d2;go_wp2;have kE:=yg (x:=V) (A:=A') (k:=k2) (c:=T) (ng:=M) z;have U:=xY (g' :=w.heap.size+1+1) (x:=V) (A:=A') (k:=k2) (c:=T) (ng:=M) J (by omega);have kG:=xY (g' :=w.heap.size+1+1+1) (x:=N) (A:=A3) (k:=R) (c:=c3) (ng:=Q) kE (by omega);have S:=yg (x:=N) (A:=A3) (k:=R) (c:=c3) (ng:=Q) U;have e0:=kG.cell 0;have e1:=kG.cell 1;have e2:=kG.cell 2
   have h0:=S.cell 0;have aj :=S.cell 1;have ai :=S.cell 2;simp at e0 e1 e2 h0 aj ai;refine bodyPost_ret (v:=.tuple #[.agg #[.int .i64 V,.slice A' k2 T,.bool M],.agg #[.int .i64 N,.slice A3 R c3,.bool Q]]) (by simp [results,results88,go_sem,e0,e1,e2,h0,aj,ai]) rfl ?_;rw [zdu,zb6];exact ⟨_,_,rfl,zz (zz af z) U,zz (zz ac z) U,zK (zK al (by omega)) (by omega)⟩
theorem zah (va vb:Value) (z y:Int) (w:World) (ha:zN w va z) (hb:zN w vb y) (hy:y≠0) (hla:len 4294967296 z.natAbs<=33554432) (hlb:len 4294967296 y.natAbs<=33554432):
 Calls prog 88 #[va,vb] w (zi2 w (z.tdiv y) (z.tmod y)):=by
 have D :=ha
 have C :=hb
 obtain ⟨F,A,k,c,s,rfl,r,l,I⟩:=ha.form
 obtain ⟨G,B,k',c',t,rfl,u,m,E⟩:=hb.form
 by_cases j:A=none/\B=none
 . obtain ⟨b,e⟩:=j
   obtain ⟨rfl,rfl,rfl⟩:=I b;obtain ⟨rfl,rfl,rfl⟩:=E e;subst b e;exact zrl z y s t w r l u m hy
 have:=zr5 (decide (z<0)) (decide (y<0)) z.natAbs y.natAbs F G A B k c k' c' s t w r l u m (by rw [yN];exact D) (by rw [yN];exact C) ZL ZL (by omega) hla hlb (by
  unfold zm9
  by_cases b:A=none
  . exact .inr ⟨b,fun e=>j ⟨b,e⟩⟩
  exact .inl b)
 rwa [yN,yN] at this
theorem zc6 (va vb:Value) (z y:Int) (w:World) (ha:zN w va z) (hb:zN w vb y) (hla:len 4294967296 z.natAbs<=67108864) (hlb:len 4294967296 y.natAbs<=67108864):
 Calls prog 97 #[va,vb] w (ZW w (z - y)):=by
 have X :=ha
 have U :=hb
 obtain ⟨F,A,k,c,s,rfl,h1,Z,hA⟩:=X.form
 obtain ⟨r,B,k',c',t,rfl,h3,h4,hB⟩:=U.form
 have O:len 4294967296 (-y).natAbs<=67108864:=by rw [Int.natAbs_neg];exact hlb
 have aa:=ze O
 have ab:=ze hla
 have j:=zo (ext (ext (zf w (.cells #[.int .i64 F,.slice A k c,.bool s] 58)) (zf _ (.cells #[.int .i64 r,.slice B k' c',.bool t] 58))) (zf _ (.cells #[.int .i64 0,.slice none 0 0,.bool false] 58))) 1
 have M:=ha.below j
 have R:=hb.below j
 have V:=(((Blk.new w 58 #[.int .i64 F,.slice A k c,.bool s]).alloc (.cells #[.int .i64 r,.slice B k' c',.bool t] 58)).alloc (.cells #[.int .i64 0,.slice none 0 0,.bool false] 58)).drewN 1
 have u:=(Blk.new ((w.alloc (.cells #[.int .i64 F,.slice A k c,.bool s] 58)).alloc (.cells #[.int .i64 r,.slice B k' c',.bool t] 58)) 58 #[.int .i64 0,.slice none 0 0,.bool false]).drewN 1
 simp only [World.size_alloc] at u
 obtain ⟨HW,ad,ac,N,l⟩:=hz5 j M R V u
 clear j M R V u O hla hlb h1 Z h3 h4 hA hB ha hb X U
 go_in
 go_wp2_with fail
 go_region_with (first
  | (go_at_call 74;refine (yF _ y _ ac.o).mono ?_;rintro e w1 ⟨v,rfl,hv,m⟩;obtain ⟨x',A',k2,af,ae,rfl,_,_,_⟩:=hv.form;have E:=N.o.below m N.o.lt;have G:=E.cell 0;have C:=E.cell 1;have D:=E.cell 2;simp at G C D)
  | (go_at_call 63;refine (zf0 _ _ z (-y) _ (ad.o.below ‹_›) ‹_› ab.o aa.o).mono ?_;rintro e w2 ⟨v,rfl,J,S⟩;obtain ⟨I,T,L,Q,K,rfl,_,_,_⟩:=J.form;have b:=(l.o.below m l.o.lt).below S (l.o.below m l.o.lt).lt;have G:=b.cell 0;have C:=b.cell 1;have D:=b.cell 2;have f0:=b.frozen 0;have f1:=b.frozen 1;have f2:=b.frozen 2;simp at G C D))
 all_goals
  go_wp2
  have kD:=yg (x:=I) (A:=T) (k:=L) (c:=Q) (ng:=K) b
  obtain ⟨d0,d1,Y,_⟩:=bp3 kD
  refine bodyPost_ret (v:=.agg #[.int .i64 I,.slice T L Q,.bool K]) (by simp [results,results97,go_sem,d0,d1,Y]) rfl ?_
  exact ⟨_,rfl,zz (by rw [Int.sub_eq_add_neg];exact J) b,zK (ext (ext HW.o m) S) (by omega)⟩
theorem zc8 (va vb:Value) (z y:Int) (w:World) (ha:zN w va z) (hb:zN w vb y) (hla:len 4294967296 z.natAbs<=67108864) (hlb:len 4294967296 y.natAbs<=67108864):
 Calls prog 48 #[va,vb] w (zj3 w (.int .i64 (zZ z y))):=by
 have l :=ha
 have j :=hb
 obtain ⟨S,A,k,c,s,rfl,E,r,F⟩:=l.form
 obtain ⟨C,B,k',c',t,rfl,K,D,R⟩:=j.form
 have u:=ze hlb
 have G:=ze hla
 have b:=ext (zf w (.cells #[.int .i64 S,.slice A k c,.bool s] 58)) (zf _ (.cells #[.int .i64 C,.slice B k' c',.bool t] 58))
 have M:=ze b
 have N:=ze (ha.below b)
 have J:=ze (hb.below b)
 clear b hla hlb E r K D F R ha hb l j
 go_in
 go_wp2_with fail
 refine (zc6 _ _ z y _ N.o J.o G.o u.o).mono ?_
 rintro e m ⟨v,rfl,hv,Q⟩
 go_wp2_with fail
 refine (ZD v (z - y) m hv).mono ?_
 rintro e w2 ⟨rfl,L⟩
 go_wp2
 go_ret
 refine ⟨?_,ext (ext M.o Q) L⟩
 unfold zZ
 have O:z - y<0↔z<y:=by omega
 have I:0<z - y↔y<z:=by omega
 simp only [O,I]
 rfl
theorem zrc (l:List UInt8):(⟨#[45]⟩:ByteArray) ++ (⟨l.toArray⟩:ByteArray)=⟨((45:UInt8) :: l).toArray⟩:=by
 apply ByteArray.ext
 rw [ByteArray.data_append]
 simp
theorem ZI {a:Nat} (h:len 4294967296 a<=67108864):(dec a).length<=671088641:=by
 unfold dec
 by_cases b:a=0
 . rw [if_pos b];simp
 rw [if_neg b,List.length_map,List.length_reverse]
 have:=XV h;unfold len at this
 omega
def yZ (z:Int):List UInt8:=if z<0 then 45 :: dec z.natAbs else dec z.natAbs
theorem Vs (va:Value) (z:Int) (w:World) (ha:zN w va z) (hla:len 4294967296 z.natAbs<=67108864):
 Calls prog 41 #[va] w (zn4 w (yZ z)):=by
 obtain ⟨F,A,k,c,s,rfl,E,D,G⟩:=ha.form
 have y:=ze hla
 have m:=zf w (.cells #[.int .i64 F,.slice A k c,.bool s] 58)
 have B:=ze m
 have C:=ze (ha.below m)
 clear m hla E D G ha
 by_cases j:z<0
 rotate_left
 . have b:=fun v w h=>vV v z w h
   unfold zb2 at b;rw [uF j] at b;unfold yZ;rw [if_neg j]
   go_in
   go_wp2_with fail;refine (b _ _ C.o).mono ?_;rintro e l ⟨v,rfl,hv,r⟩;go_wp2_with fail;refine (Yi v _ l hv y.o).mono ?_;rintro e w2 ⟨rfl,u⟩;go_wp2;go_ret;exact ⟨rfl,ext (ext B.o r) u⟩
 have b:=fun v w h=>vV v z w h
 unfold zb2 at b;rw [uE j] at b;unfold yZ;rw [if_pos j]
 have I:¬ 9223372036854775807<1+(dec z.natAbs).length:=by
  have:=ZI y.o
  omega
 go_in
 go_wp2_with fail;refine (b _ _ C.o).mono ?_;rintro e l ⟨v,rfl,hv,r⟩;go_wp2_with fail;refine (Yi v _ l hv y.o).mono ?_;rintro e w2 ⟨rfl,u⟩;go_wp2;go_ret;refine ⟨?_,ext (ext B.o r) u⟩;rw [zrc]
 rfl
theorem zm {A B:Prop} (a:A) (f:A->B):A/\B:=⟨a,f a⟩
section
variable {W w w' :World}
theorem zl {g i:Nat} {v:Value} (h:Hid (Below W.heap.size W w)) (hl:g<W.heap.size) (hc:W.cell? ⟨g,i,none⟩=some v):w.cell? ⟨g,i,none⟩=some v:=(h.out.cell hl).trans hc
theorem zs4 {a:Addr} {i:Nat} {v:Value} (h:Hid (Below W.heap.size W w)) (hl:a.block<W.heap.size) (hc:W.cell? (a.add i)=some v):w.cell? (a.add i)=some v:=(h.out.cell (by rw [zU];exact hl)).trans hc
theorem zds {o:Obj} (h:Hid (Below W.heap.size W w)):Hid (Below W.heap.size W (w.alloc o)):=ext h.out (zf w o)
theorem zv (W:World):Hid (Below W.heap.size W W.drew):=zo (xh W) 1
theorem vi (W:World) (o:Obj):Hid (Below W.heap.size W (W.alloc o).drew):=zo (zf W o) 1
end
end Go.Proofs.YtobdoblpnanclaaGreatDoor
