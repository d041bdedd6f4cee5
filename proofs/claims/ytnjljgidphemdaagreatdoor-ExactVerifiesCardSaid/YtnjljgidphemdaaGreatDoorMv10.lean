/- Parts of the proof. -/
import Derived.LoopN
import Derived.Test.YtnjljgidphemdaaGreatDoorMv09
set_option linter.all false
set_option maxRecDepth 100000
set_option maxHeartbeats 32000000
namespace Go.Proofs.YtnjljgidphemdaaGreatDoor
open Proofs.Tryz Go.RowKit Go.Deep
def zY (w:World) (v:Value) (z:Int):Prop:=
 (∃ x ng,v= .agg #[.int .i64 x,.slice none 0 0,.bool ng]/\ -4611686018427387904<x/\x<4611686018427387904/\z=x)\/
 (∃ ad k c n ng,v= .agg #[.int .i64 0,.slice (some ad) k c,.bool ng]/\yH w (.slice (some ad) k c) n/\4611686018427387904<=n/\z=if ng=true then -(n:Int) else n)
theorem zY.below {w w' :World} {v:Value} {z:Int} (h:zY w v z) (hb:Below w.heap.size w w'):zY w' v z:=by
 rcases h with h | ⟨m,k,c,n,ng,j,b,l,e⟩
 . exact .inl h
 . exact .inr ⟨m,k,c,n,ng,j,yH.below b hb,l,e⟩
def Y6 (w:World) (z:Int) (e:Ending) (w' :World):Prop:=∃ v,e= .returned v/\zY w' v z/\Below w.heap.size w w'
def zdd (w:World) (z:Int) (e:Ending) (w' :World):Prop:=∃ v,e= .returned (.tuple #[.bool (decide (z<0)),v])/\yH w' v z.natAbs/\Below w.heap.size w w'
theorem zw7 (w:World) (a:Option Addr) (n c n' c' :Nat):(binOp .neq 66 (.slice a n c) (.slice none n' c')).run prog w= .ok (.bool (!a.isNone)) w:=
 run_neq_slice_nil_any w _ _ a n c n' c' underlying66
theorem zo1 (w:World) (a:Option Addr) (n c n' c' :Nat):(binOp .eql 66 (.slice a n c) (.slice none n' c')).run prog w= .ok (.bool a.isNone) w:=
 Lib.run_eql_slice_nil w _ _ a n c n' c' underlying66
theorem Vz (x:Int) (g:Value) (ng:Bool) (w:World) (h1: -4611686018427387904<x) (h2:x<4611686018427387904):
 Calls prog 115 #[.agg #[.int .i64 x,g,.bool ng]] w (VE w (.int .u64 (x.natAbs:Nat))):=by
 by_cases h:x<0
 . have e:(x.natAbs:Int)= -x:=by omega
   rw [e];clear e
   go_in
   go_wp2;go_ret;exact ⟨by go_num,zf _ _⟩
 have e:(x.natAbs:Int)=x:=by omega
 rw [e];clear e
 go_in
 go_wp2;go_ret;exact ⟨by go_num,zf _ _⟩
theorem X9 (v:Value) (z:Int) (w:World) (h:zY w v z):
 Calls prog 98 #[v] w (VE w (.int .i64 (zO z 0))):=by
 rcases h with ⟨x,ng,rfl,r,m,rfl⟩ | ⟨l,k,c,n,ng,rfl,u,e,rfl⟩
 . have j:=fun w=>zw7 w none 0 0 0 0
   have b:Hid (zO z 0=if z<0 then -1 else if 0<z then 1 else 0):=rfl
   rcases Int.lt_trichotomy z 0 with h | h | h
   . go_in
     go_wp2;go_ret;exact ⟨by rw [b.o,if_pos (by omega)];rfl,zf _ _⟩
   . subst h
     go_in
     go_wp2;go_ret;exact ⟨by rw [b.o];rfl,zf _ _⟩
   . go_in
     go_wp2;go_ret;exact ⟨by rw [b.o,if_neg (by omega),if_pos (by omega)];rfl,zf _ _⟩
 . have j:=fun w=>zw7 w (some l) k c 0 0
   cases ng with
   | true=>
     have b:Hid (zO (if (true:Bool)=true then -(n:Int) else n) 0= -1):=by show _=_;simp only [if_true];unfold zO;rw [if_pos (by omega)]
     rw [b.o];clear e
     go_in
     go_wp2;go_ret;exact ⟨rfl,zf _ _⟩
   | false=>
     have b:Hid (zO (if (false:Bool)=true then -(n:Int) else n) 0=1):=by show _=_;simp only [Bool.false_eq_true,if_false];unfold zO;rw [if_neg (by omega),if_pos (by omega)]
     rw [b.o];clear e
     go_in
     go_wp2;go_ret;exact ⟨rfl,zf _ _⟩
theorem xj (v:Value) (z:Int) (w:World) (h:zY w v z):
 Calls prog 114 #[v] w (Y6 w (-z)):=by
 rcases h with ⟨x,ng,rfl,B,y,rfl⟩ | ⟨b,k,c,n,ng,rfl,l,j,rfl⟩
 . have m:=fun w=>zw7 w none 0 0 0 0
   go_in
   go_wp2;refine bodyPost_ret (v:=.agg #[.int .i64 (-z),.slice none 0 0,.bool false]) (by simp [results,results114,go_sem]) rfl ?_;exact ⟨_,rfl,.inl ⟨_,_,rfl,by omega,by omega,rfl⟩,ext (zf _ _) (zf _ _)⟩
 . have m:=fun w=>zw7 w (some b) k c 0 0
   have r:=ze j;clear j;have hb:Below w.heap.size w ((w.alloc (.cells #[.int .i64 0,.slice (some b) k c,.bool ng] 68)).alloc (.cells #[.int .i64 0,.slice (some b) k c,.bool (!ng)] 68)):=ext (zf _ _) (zf _ _)
   have e:zY ((w.alloc (.cells #[.int .i64 0,.slice (some b) k c,.bool ng] 68)).alloc (.cells #[.int .i64 0,.slice (some b) k c,.bool (!ng)] 68)) (.agg #[.int .i64 0,.slice (some b) k c,.bool (!ng)]) (-(if ng=true then -(n:Int) else n)):=
    .inr ⟨b,k,c,n, !ng,rfl,yH.below l hb,r.o,by cases ng<;>simp⟩
   clear l;generalize u: -(if ng=true then -(n:Int) else n)=z at e |-;clear u
   cases ng with
   | true=>
     go_in
     go_wp2;refine bodyPost_ret (v:=.agg #[.int .i64 0,.slice (some b) k c,.bool false]) (by simp [results,results114,go_sem]) rfl ?_;exact ⟨_,rfl,e,hb⟩
   | false=>
     go_in
     go_wp2;refine bodyPost_ret (v:=.agg #[.int .i64 0,.slice (some b) k c,.bool true]) (by simp [results,results114,go_sem]) rfl ?_;exact ⟨_,rfl,e,hb⟩
theorem zj {g i:Nat} {v:Value} {w w' :World} (hb:Below w.heap.size w w') (hl:g<w.heap.size) (h:w.cell? ⟨g,i,none⟩=some v):w'.cell? ⟨g,i,none⟩=some v:=(hb.cell hl).trans h
theorem zG {g:Nat} {w w' :World} (hb:Below w.heap.size w w') (hl:g<w.heap.size):g<w'.heap.size:=uK hl hb.size
theorem zp {w0 w w' :World} (hb:Below w.heap.size w w') (h:Hid (Below w0.heap.size w0 w)):Hid (Below w0.heap.size w0 w'):=ext h.out hb
theorem Z2 (v:Value) (z:Int) (w:World) (h:zY w v z):
 Calls prog 116 #[v] w (zdd w z):=by
 rcases h with ⟨x,ng,rfl,m,l,rfl⟩ | ⟨r,k,c,n,ng,rfl,y,G,rfl⟩
 . have E:=fun w=>zw7 w none 0 0 0 0
   have I:=fun w=>Vz z (.slice none 0 0) ng w m l
   have B:z.natAbs<18446744073709551616:=by omega
   have C:=fun w=>znu z.natAbs B w
   clear B m l
   go_in
   go_wp2_with fail
   go_region_held3 (fun w' =>w'.cell? ⟨w.heap.size,0,none⟩=some (.int .i64 z)/\w'.cell? ⟨w.heap.size,1,none⟩=some (.slice none 0 0)/\w'.cell? ⟨w.heap.size,2,none⟩=some (.bool ng)/\w.heap.size<w'.heap.size/\Hid (Below w.heap.size w w'))
    (first
      | exact ⟨by go_keep,by go_keep,by go_keep,by go_keep,ze (zk (zf _ _) 1)⟩
      | go_keep
      | (go_split_ands;exact ⟨zj ‹_› ‹_› ‹_›,zj ‹_› ‹_› ‹_›,zj ‹_› ‹_› ‹_›,zG ‹_› ‹_›,zp ‹_› ‹_›⟩))
    (first
      | (refine (I _).mono ?_;rintro e J ⟨rfl,K⟩)
      | (refine (C _).mono ?_;rintro e w2 ⟨F,rfl,D,L⟩))
   all_goals
    go_wp2;go_ret2;go_split_ands;exact ⟨F,rfl,D,zM ‹_›⟩
 . have E:=fun w=>zw7 w (some r) k c 0 0
   have j:(if ng=true then -(n:Int) else n).natAbs=n:=by cases ng<;>simp
   have u:decide ((if ng=true then -(n:Int) else n)<0)=ng:=by cases ng<;>simp<;>omega
   have b:∀ e w',(e= .returned (.tuple #[.bool ng,.slice (some r) k c])/\Below w.heap.size w w')->zdd w (if ng=true then -(n:Int) else n) e w' :=by
    rintro e w' ⟨rfl,hb⟩;exact ⟨_,by rw [u],by rw [j];exact yH.below y hb,hb⟩
   refine Calls.mono ?_ b;clear j u b y G
   cases ng with
   | true=>
     go_in
     go_wp2
     go_quiet (fail)
     go_wp2;go_ret2;exact ⟨rfl,zk (zf _ _) _⟩
   | false=>
     go_in
     go_wp2
     go_quiet (fail)
     go_wp2;go_ret2;exact ⟨rfl,zk (zf _ _) _⟩
def signed (ng:Bool) (n:Nat):Int:=if ng=true then -(n:Int) else n
theorem zx6 (ng:Bool) (A:Option Addr) (c:Nat) (w:World):Calls prog 61 #[.bool ng,.slice A 0 c] w (Y6 w (signed ng 0)):=by
 cases ng with
 | true=>
   go_in
   go_wp2;refine wp_loop_rounds 1 ?_;rw [rounds_succ];go_wp2;refine bodyPost_ret (v:=.agg #[.int .i64 (0),.slice none 0 0,.bool false]) (by simp [results,results61,go_sem]) rfl ?_;exact ⟨_,rfl,.inl ⟨_,_,rfl,by omega,by omega,rfl⟩,zf _ _⟩
 | false=>
   go_in
   go_wp2;refine wp_loop_rounds 1 ?_;rw [rounds_succ];go_wp2;refine bodyPost_ret (v:=.agg #[.int .i64 (0),.slice none 0 0,.bool false]) (by simp [results,results61,go_sem]) rfl ?_;exact ⟨_,rfl,.inl ⟨_,_,rfl,by omega,by omega,rfl⟩,zf _ _⟩
theorem zxj (ng:Bool) (ad:Addr) (c d:Nat) (w:World) (hd:d<4294967296) (hb:ad.block<w.heap.size) (hc:w.cell? ad=some (.int .u32 d)):Calls prog 61 #[.bool ng,.slice (some ad) 1 c] w (Y6 w (signed ng d)):=by
 have e:bits .or .u64 0 (d:Int)=(d:Int):=by
  have:=u64_or_nat 0 d (by omega) (by omega)
  rw [Nat.zero_or] at this
  exact this
 have b:(d:Int)<4611686018427387904:=by omega
 have j:decide ((d:Int)<4611686018427387904)=true:=uE b
 cases ng with
 | true=>
   go_in
   go_wp2;refine wp_loop_rounds 2 ?_;rw [rounds_succ];go_wp2;rw [rounds_succ];go_wp2;refine bodyPost_ret (v:=.agg #[.int .i64 (-d),.slice none 0 0,.bool false]) (by simp [results,results61,go_sem]) rfl ?_;exact ⟨_,rfl,.inl ⟨_,_,rfl,by omega,by omega,rfl⟩,zf _ _⟩
 | false=>
   go_in
   go_wp2;refine wp_loop_rounds 2 ?_;rw [rounds_succ];go_wp2;rw [rounds_succ];go_wp2;refine bodyPost_ret (v:=.agg #[.int .i64 (d),.slice none 0 0,.bool false]) (by simp [results,results61,go_sem]) rfl ?_;exact ⟨_,rfl,.inl ⟨_,_,rfl,by omega,by omega,rfl⟩,zf _ _⟩
theorem zux (x y:Nat) (hx:x<4294967296) (hy:y<4294967296):bits .or .u64 (x:Int) ((y:Int)*4294967296)=((x+y*4294967296:Nat):Int):=by
 have:=u64_or_nat x (y*4294967296) (by omega) (by omega)
 rw [Int.natCast_mul] at this
 have j:(2:Nat) ^ 32=4294967296:=by decide
 have e:=zbp (n:=32) (a:=y) (b:=x) (by omega)
 rw [j,uH] at e
 rw [e] at this
 exact this
theorem zyj (ng:Bool) (ad:Addr) (c d e V:Nat) (w:World) (hd:d<4294967296) (he:e<4294967296) (hV:V=d+e*4294967296) (hb:ad.block<w.heap.size) (hc:w.cell? ad=some (.int .u32 d))
 (hc1:w.cell? ⟨ad.block,ad.off+1,none⟩=some (.int .u32 e)) (hlt:V<4611686018427387904):Calls prog 61 #[.bool ng,.slice (some ad) 2 c] w (Y6 w (signed ng V)):=by
 have l:bits .or .u64 0 (d:Int)=(d:Int):=by
  have:=u64_or_nat 0 d (by omega) (by omega)
  rw [Nat.zero_or] at this
  exact this
 have j:bits .or .u64 (d:Int) ((e:Int)*4294967296)=(V:Int):=by rw [zux d e hd he,hV]
 clear hV
 have b:(V:Int)<4611686018427387904:=by omega
 have m:decide ((V:Int)<4611686018427387904)=true:=uE b
 cases ng with
 | true=>
   go_in
   go_wp2;refine wp_loop_rounds 3 ?_;rw [rounds_succ];go_wp2;rw [rounds_succ];go_wp2;rw [rounds_succ];go_wp2;refine bodyPost_ret (v:=.agg #[.int .i64 (-V),.slice none 0 0,.bool false]) (by simp [results,results61,go_sem]) rfl ?_;exact ⟨_,rfl,.inl ⟨_,_,rfl,by omega,by omega,rfl⟩,zf _ _⟩
 | false=>
   go_in
   go_wp2;refine wp_loop_rounds 3 ?_;rw [rounds_succ];go_wp2;rw [rounds_succ];go_wp2;rw [rounds_succ];go_wp2;refine bodyPost_ret (v:=.agg #[.int .i64 (V),.slice none 0 0,.bool false]) (by simp [results,results61,go_sem]) rfl ?_;exact ⟨_,rfl,.inl ⟨_,_,rfl,by omega,by omega,rfl⟩,zf _ _⟩
theorem zvp (ng:Bool) (ad:Addr) (c d e V n:Nat) (w:World) (hd:d<4294967296) (he:e<4294967296) (hV:V=d+e*4294967296) (hb:ad.block<w.heap.size) (hc:w.cell? ad=some (.int .u32 d))
 (hc1:w.cell? ⟨ad.block,ad.off+1,none⟩=some (.int .u32 e)) (hge:4611686018427387904<=V) (hn:yH w (.slice (some ad) 2 c) n) (HG:Hid (4611686018427387904<=n)):Calls prog 61 #[.bool ng,.slice (some ad) 2 c] w (Y6 w (signed ng n)):=by
 have b:bits .or .u64 0 (d:Int)=(d:Int):=by
  have:=u64_or_nat 0 d (by omega) (by omega)
  rw [Nat.zero_or] at this
  exact this
 have l:bits .or .u64 (d:Int) ((e:Int)*4294967296)=(V:Int):=by rw [zux d e hd he,hV]
 clear hV
 have j:decide ((V:Int)<4611686018427387904)=false:=uF (by omega)
 cases ng with
 | true=>
   go_in
   go_wp2;refine wp_loop_rounds 3 ?_;rw [rounds_succ];go_wp2;rw [rounds_succ];go_wp2;rw [rounds_succ];go_wp2;refine bodyPost_ret (v:=.agg #[.int .i64 0,.slice (some ad) 2 c,.bool true]) (by simp [results,results61,go_sem]) rfl ?_;exact ⟨_,rfl,zY.below (w:=w) (.inr ⟨ad,2,c,n,true,rfl,hn,HG.o,rfl⟩) (zf _ _),zf _ _⟩
 | false=>
   go_in
   go_wp2;refine wp_loop_rounds 3 ?_;rw [rounds_succ];go_wp2;rw [rounds_succ];go_wp2;rw [rounds_succ];go_wp2;refine bodyPost_ret (v:=.agg #[.int .i64 0,.slice (some ad) 2 c,.bool false]) (by simp [results,results61,go_sem]) rfl ?_;exact ⟨_,rfl,zY.below (w:=w) (.inr ⟨ad,2,c,n,false,rfl,hn,HG.o,rfl⟩) (zf _ _),zf _ _⟩
theorem zya (ng:Bool) (ad:Addr) (k c n:Nat) (w:World) (hk:3<=k) (hn:yH w (.slice (some ad) k c) n) (HG:Hid (4611686018427387904<=n)):Calls prog 61 #[.bool ng,.slice (some ad) k c] w (Y6 w (signed ng n)):=by
 have b:¬ (k:Int)<=2:=by omega
 cases ng with
 | true=>
   go_in
   go_wp2;refine bodyPost_ret (v:=.agg #[.int .i64 0,.slice (some ad) k c,.bool true]) (by simp [results,results61,go_sem]) rfl ?_;exact ⟨_,rfl,zY.below (w:=w) (.inr ⟨ad,k,c,n,true,rfl,hn,HG.o,rfl⟩) (zf _ _),zf _ _⟩
 | false=>
   go_in
   go_wp2;refine bodyPost_ret (v:=.agg #[.int .i64 0,.slice (some ad) k c,.bool false]) (by simp [results,results61,go_sem]) rfl ?_;exact ⟨_,rfl,zY.below (w:=w) (.inr ⟨ad,k,c,n,false,rfl,hn,HG.o,rfl⟩) (zf _ _),zf _ _⟩
theorem yl (ng:Bool) (v:Value) (n:Nat) (w:World) (h:yH w v n):Calls prog 61 #[.bool ng,v] w (Y6 w (signed ng n)):=by
 have B:=h
 obtain ⟨A,c,ds,rfl,L,K,j,b,rfl⟩:=h
 rcases uL ds.length 3 with y | y
 . match ds,b,j,B with
   | [],_,_,_=>exact zx6 ng A c w
   | [d],b,j,_=>
     obtain ⟨l,u,rfl,hb,m,r⟩:=j.at_ (k:=0) (by simp)
     simp [XQ] at m
     subst m;rw [YA];exact zxj ng l c d w (b.1.get 0 (by simp)) hb (by simpa [Addr.add] using r)
   | [d,e],b,j,B=>
     obtain ⟨l,u,rfl,hb,m,r⟩:=j.at_ (k:=0) (by simp);obtain ⟨O,N,C,Q,D,G⟩:=j.at_ (k:=1) (by simp);injection C with C
     subst C
     simp [XQ] at m D
     subst m D;have E:val 4294967296 [d,e]=d+e*4294967296:=by simp only [val];omega
     have hd:=b.1.get 0 (by simp);have F:=b.1.get 1 (by simp)
     rcases uL (d+e*4294967296) 4611686018427387904 with z | z
     . rw [E]
       exact zyj ng l c d e _ w hd F rfl hb (by simpa [Addr.add] using r) (by simpa [Addr.add] using G) z
     . exact zvp ng l c d e _ _ w hd F rfl hb (by simpa [Addr.add] using r) (by simpa [Addr.add] using G) z B (ze (by rw [E];exact z))
   | _ :: _ :: _ :: _,_,_,_=>simp at y;omega
 . obtain ⟨l,u,rfl,hb,m,r⟩:=j.at_ (k:=0) (by omega)
   refine zya ng l _ c _ w y B (ze ?_);have M:=b.ge (by intro e;rw [e] at y;simp at y);have J:4294967296 ^ 2<=4294967296 ^ (ds.length - 1):=Nat.pow_le_pow_right (by omega) (by omega);have I:(4294967296:Nat) ^ 2=18446744073709551616:=by decide
   rw [I] at J
   omega
theorem zY.form {w:World} {v:Value} {z:Int} (h:zY w v z):∃ (x:Int) (A:Option Addr) (k c:Nat) (ng:Bool),v= .agg #[.int .i64 x,.slice A k c,.bool ng]/\
 -4611686018427387904<x/\x<4611686018427387904/\(A=none->k=0/\c=0/\z=x):=by
 rcases h with ⟨x,ng,rfl,e,b,rfl⟩ | ⟨m,k,c,n,ng,rfl,l,j,rfl⟩
 . exact ⟨_,_,_,_,_,rfl,e,b,fun _=>⟨rfl,rfl,rfl⟩⟩
 . exact ⟨_,_,_,_,_,rfl,by omega,by omega,fun h=>by cases h⟩
def Zi (cs:Array Value):Prop:=∀ (i:Nat) (d:Int),cs[i]?≠some (.int .u32 d)
theorem V6 (x:Int) (A:Option Addr) (k c:Nat) (ng:Bool):Zi #[.int .i64 x,.slice A k c,.bool ng]:=by
 intro i d h
 match i with
 | 0=>simp at h
 | 1=>simp at h
 | 2=>simp at h
 | i+3=>simp at h
theorem yH.stored {w w' :World} {g:Nat} {t:TypeId} {cs:Array Value} {v:Value} {n:Nat} (h:yH w v n) (hb:Blk w g t cs) (hno:Zi cs)
 (hk:∀ p:Addr,p.block≠g->w'.cell? p=w.cell? p) (hs:w.heap.size<=w'.heap.size):yH w' v n:=by
 obtain ⟨A,c',ds,rfl,D,B,l,C,E⟩:=h
 refine ⟨A,c',ds,rfl,D,B,⟨l.1,?_⟩,C,E⟩
 intro r
 obtain ⟨y,rfl,F,m⟩:=l.2 r
 have z:y.block≠g:=by
  intro e
  have b:=m 0 _ (xf r)
  unfold World.cell? at b
  rw [zD,e,show w.heap[g]?=_ from hb] at b
  simp only at b
  split at b
  . cases b
  exact hno _ _ b
 exact ⟨y,rfl,by omega,fun j u hu=>(hk _ (by rw [zD];exact z)).trans (m j u hu)⟩
theorem zY.stored {w w' :World} {g:Nat} {t:TypeId} {cs:Array Value} {v:Value} {z:Int} (h:zY w v z) (hb:Blk w g t cs) (hno:Zi cs)
 (hk:∀ p:Addr,p.block≠g->w'.cell? p=w.cell? p) (hs:w.heap.size<=w'.heap.size):zY w' v z:=by
 rcases h with h | ⟨m,k,c,n,ng,j,b,l,e⟩
 . exact .inl h
 . exact .inr ⟨m,k,c,n,ng,j,b.stored hb hno hk hs,l,e⟩
abbrev World.num (w:World) (g:Nat) (x:Int) (A:Option Addr) (k c:Nat) (ng:Bool):World:=
 ((w.setCell ⟨g,0,none⟩ (.int .i64 x)).setCell ⟨g,1,none⟩ (.slice A k c)).setCell ⟨g,2,none⟩ (.bool ng)
theorem zB {W:World} {g:Nat} {t:TypeId} {x x0:Int} {A A0:Option Addr} {k c k0 c0:Nat} {ng n0:Bool} {v:Value} {z:Int} (hv:zY W v z) (hk:Blk W g t #[.int .i64 x0,.slice A0 k0 c0,.bool n0]):
 zY (World.num W g x A k c ng) v z:=by
 refine hv.stored hk (V6 _ _ _ _ _) ?_ (by simp [World.num,World.setCell])
 intro p b
 simp only [World.num]
 rw [World.cell?_of_block (Below.heap_setCell _ _ _ _ (by exact b)),World.cell?_of_block (Below.heap_setCell _ _ _ _ (by exact b)),World.cell?_of_block (Below.heap_setCell _ _ _ _ (by exact b))]
theorem zT {w W:World} {g:Nat} {x:Int} {A:Option Addr} {k c:Nat} {ng:Bool} (h:Below w.heap.size w W) (hg:w.heap.size<=g):Below w.heap.size w (World.num W g x A k c ng):=
 ((h.setCell hg _).setCell hg _).setCell hg _
theorem yp {W:World} {g:Nat} {t:TypeId} {x x0:Int} {A A0:Option Addr} {k c k0 c0:Nat} {ng n0:Bool} (hk:Blk W g t #[.int .i64 x0,.slice A0 k0 c0,.bool n0]):
 Blk (World.num W g x A k c ng) g t #[.int .i64 x,.slice A k c,.bool ng]:=((hk.set_ 0 _).set_ 1 _).set_ 2 _
theorem xi (z:Int):signed (decide (z<0)) z.natAbs=z:=by
 unfold signed
 by_cases h:z<0
 . rw [uE h,if_pos rfl];omega
 rw [uF h];simp only [Bool.false_eq_true,if_false];omega
theorem zsx (x y:Int) (a b:Bool) (w:World) (h1: -4611686018427387904<x) (h2:x<4611686018427387904) (h3: -4611686018427387904<y) (h4:y<4611686018427387904) (hs1: -4611686018427387904<x+y) (hs2:x+y<4611686018427387904):
 Calls prog 82 #[.agg #[.int .i64 x,.slice none 0 0,.bool a],.agg #[.int .i64 y,.slice none 0 0,.bool b]] w (Y6 w (x+y)):=by
 have l:=fun w=>zo1 w none 0 0 0 0
 have e:decide ((x+y:Int)> -4611686018427387904)=true:=uE hs1
 have j:decide ((x+y:Int)<4611686018427387904)=true:=uE hs2
 go_in
 go_wp2
 refine bodyPost_ret (v:=.agg #[.int .i64 (x+y),.slice none 0 0,.bool false]) (by simp [results,results82,go_sem]) rfl ?_
 exact ⟨_,rfl,.inl ⟨_,_,rfl,by omega,by omega,rfl⟩,ext (ext (zf _ _) (zf _ _)) (zf _ _)⟩
theorem vr (v:Value) (s:Bool) (n:Nat) (w:World) (h:zY w v (signed s n)) (h0:s=true->0<n):
 Calls prog 116 #[v] w (fun e w' =>∃ p,e= .returned (.tuple #[.bool s,p])/\yH w' p n/\Below w.heap.size w w'):=by
 refine (Z2 v _ w h).mono ?_
 rintro e w' ⟨p,rfl,b,l⟩
 have m:decide (signed s n<0)=s:=by
  cases s with
  | true=>exact uE (by have:=h0 rfl;unfold signed;rw [if_pos rfl];omega)
  | false=>exact uF (by unfold signed;simp only [Bool.false_eq_true,if_false];omega)
 have j:(signed s n).natAbs=n:=by cases s<;>unfold signed<;>simp
 rw [m]
 rw [j] at b
 exact ⟨p,rfl,b,l⟩
theorem zc3 (s:Bool) (n m:Nat):signed s n+signed s m=signed s (n+m):=by cases s<;>unfold signed<;>simp<;>omega
theorem zcq {s t:Bool} {n m:Nat} (h:¬ s=t) (hle:m<=n):signed s n+signed t m=signed s (n - m):=by cases s<;>cases t<;>simp at h<;>unfold signed<;>simp<;>omega
theorem zmf {s t:Bool} {n m:Nat} (h:¬ s=t) (hle:n<=m):signed s n+signed t m=signed t (m - n):=by cases s<;>cases t<;>simp at h<;>unfold signed<;>simp<;>omega
def zrk (x y:Int) (A B:Option Addr):Prop:=A≠none\/(A=none/\B≠none)\/(A=none/\B=none/\4611686018427387904<=x+y)\/(A=none/\B=none/\x+y<= -4611686018427387904)
theorem zsl (s t:Bool) (n m:Nat) (x y:Int) (A B:Option Addr) (k c k' c' :Nat) (a b:Bool) (w:World) (h1: -4611686018427387904<x) (h2:x<4611686018427387904) (h3: -4611686018427387904<y) (h4:y<4611686018427387904)
 (ha:zY w (.agg #[.int .i64 x,.slice A k c,.bool a]) (signed s n)) (hb:zY w (.agg #[.int .i64 y,.slice B k' c',.bool b]) (signed t m)) (hs:s=true->0<n) (ht:t=true->0<m)
 (hln:len 4294967296 n<=67108864) (hlm:len 4294967296 m<=67108864) (hsl:zrk x y A B):
 Calls prog 82 #[.agg #[.int .i64 x,.slice A k c,.bool a],.agg #[.int .i64 y,.slice B k' c',.bool b]] w (Y6 w (signed s n+signed t m)):=by
 have q1:=fun w=>zo1 w A k c 0 0
 have q2:=fun w=>zo1 w B k' c' 0 0
 have ac:=ze hln
 have ae:=ze hlm
 clear hln hlm
 rcases hsl with h | ⟨h,h'⟩ | ⟨h,h',h5⟩ | ⟨h,h',h5⟩
 . obtain ⟨ad,rfl⟩:=Option.ne_none_iff_exists'.1 h
   clear h
   go_in
   go_wp2_with fail;have hW:=(ext (ext (zf w (.cells #[.int .i64 x,.slice (some ad) k c,.bool a] 68)) (zf _ (.cells #[.int .i64 y,.slice B k' c',.bool b] 68))) (zf _ (.cells #[.int .i64 0,.slice none 0 0,.bool false] 68)));have hA:=ha.below hW;have hB:=hb.below hW;have kB:=(Blk.new (w.alloc (.cells #[.int .i64 x,.slice (some ad) k c,.bool a] 68)) 68 #[.int .i64 y,.slice B k' c',.bool b]).alloc (.cells #[.int .i64 0,.slice none 0 0,.bool false] 68);have V:=Blk.new ((w.alloc (.cells #[.int .i64 x,.slice (some ad) k c,.bool a] 68)).alloc (.cells #[.int .i64 y,.slice B k' c',.bool b] 68)) 68 #[.int .i64 0,.slice none 0 0,.bool false];simp only [World.size_alloc] at kB V;generalize ((w.alloc (.cells #[.int .i64 x,.slice (some ad) k c,.bool a] 68)).alloc (.cells #[.int .i64 y,.slice B k' c',.bool b] 68)).alloc (.cells #[.int .i64 0,.slice none 0 0,.bool false] 68)=W at hA hB kB V hW |-;refine (vr _ s n W hA hs).mono ?_;rintro e w1 ⟨p,rfl,hp,Z⟩;have ag:=kB.below Z kB.lt;obtain ⟨K,I,J,_⟩:=bp3 ag;go_wp2_with fail;refine (vr _ t m w1 (hB.below Z) ht).mono ?_
   rintro e w2 ⟨p',rfl,M,ab⟩;have N:=hp.below ab;have l:=(V.below Z V.lt).below ab (V.below Z V.lt).lt;have S:=ext (ext hW Z) ab;clear Z ab hW V kB ag K I J hA hB hp
   by_cases aa:s=t
   . subst aa
     go_wp2_with fail;refine (zdq p p' n m w2 N M ac.o ae.o).mono ?_;rintro e w3 ⟨q,rfl,U,u⟩;go_wp2_with fail;refine (yl s q (n+m) w3 U).mono ?_;rintro e w4 ⟨v,rfl,F,G⟩;obtain ⟨D,A',E,C,z,rfl,_,_,_⟩:=F.form;have j:=(l.below u l.lt).below G (l.below u l.lt).lt;have X:=ext (ext S u) G;have K:=j.cell 0;have I:=j.cell 1;have J:=j.cell 2;obtain ⟨f0,f1,f2⟩:=fp3 j;simp at K I J;go_wp2;have T:=yp (x:=D) (A:=A') (k:=E) (c:=C) (ng:=z) j;obtain ⟨Y,Q,R,_⟩:=bp3 T;refine bodyPost_ret (v:=.agg #[.int .i64 D,.slice A' E C,.bool z]) (by simp [results,results82,go_sem,Y,Q,R]) rfl ?_;exact ⟨_,rfl,zB (by rw [zc3];exact F) j,zT X (by omega)⟩
   have ak :(s == t)=false:=uD aa
   go_wp2_with fail;refine (VQ p p' n m w2 N M ac.o ae.o).mono ?_;rintro e w3 ⟨rfl,r,rfl⟩;have ah:=N.below (zC w2 r);have ai:=M.below (zC w2 r);have af:=l.drewN r;have aj:=zk S r;clear N M l S;generalize w2.drewN r=w2 at ah ai af aj |-;have N:=ah;have M :=ai;have l:=af;have S:=aj
   rcases Nat.lt_trichotomy n m with L | L | L
   . have O:zO (n:Int) (m:Int)= -1:=by unfold zO;rw [if_pos (by omega)]
     rw [O];clear O;go_wp2_with fail;refine (ZZ p' p m n w2 M N ae.o (Nat.le_of_lt L)).mono ?_;rintro e w3 ⟨q,rfl,U,u⟩;go_wp2_with fail;refine (yl t q (m - n) w3 U).mono ?_;rintro e w4 ⟨v,rfl,F,G⟩;obtain ⟨D,A',E,C,z,rfl,_,_,_⟩:=F.form;have j:=(l.below u l.lt).below G (l.below u l.lt).lt;have X:=ext (ext S u) G;have K:=j.cell 0;have I:=j.cell 1;have J:=j.cell 2;obtain ⟨f0,f1,f2⟩:=fp3 j;simp at K I J;go_wp2;have T:=yp (x:=D) (A:=A') (k:=E) (c:=C) (ng:=z) j;obtain ⟨Y,Q,R,_⟩:=bp3 T;refine bodyPost_ret (v:=.agg #[.int .i64 D,.slice A' E C,.bool z]) (by simp [results,results82,go_sem,Y,Q,R]) rfl ?_;exact ⟨_,rfl,zB (by rw [zmf aa (Nat.le_of_lt L)];exact F) j,zT X (by omega)⟩
   . have O:zO (n:Int) (m:Int)=0:=by unfold zO;rw [if_neg (by omega),if_neg (by omega)]
     rw [O];clear O;go_wp2_with fail;refine (ZZ p p' n m w2 N M ac.o (Nat.le_of_eq L.symm)).mono ?_;rintro e w3 ⟨q,rfl,U,u⟩;go_wp2_with fail;refine (yl s q (n - m) w3 U).mono ?_;rintro e w4 ⟨v,rfl,F,G⟩;obtain ⟨D,A',E,C,z,rfl,_,_,_⟩:=F.form;have j:=(l.below u l.lt).below G (l.below u l.lt).lt;have X:=ext (ext S u) G;have K:=j.cell 0;have I:=j.cell 1;have J:=j.cell 2;obtain ⟨f0,f1,f2⟩:=fp3 j;simp at K I J;go_wp2;have T:=yp (x:=D) (A:=A') (k:=E) (c:=C) (ng:=z) j;obtain ⟨Y,Q,R,_⟩:=bp3 T;refine bodyPost_ret (v:=.agg #[.int .i64 D,.slice A' E C,.bool z]) (by simp [results,results82,go_sem,Y,Q,R]) rfl ?_;exact ⟨_,rfl,zB (by rw [zcq aa (Nat.le_of_eq L.symm)];exact F) j,zT X (by omega)⟩
   . have O:zO (n:Int) (m:Int)=1:=by unfold zO;rw [if_neg (by omega),if_pos (by omega)]
     rw [O];clear O;go_wp2_with fail;refine (ZZ p p' n m w2 N M ac.o (Nat.le_of_lt L)).mono ?_;rintro e w3 ⟨q,rfl,U,u⟩;go_wp2_with fail;refine (yl s q (n - m) w3 U).mono ?_;rintro e w4 ⟨v,rfl,F,G⟩;obtain ⟨D,A',E,C,z,rfl,_,_,_⟩:=F.form;have j:=(l.below u l.lt).below G (l.below u l.lt).lt;have X:=ext (ext S u) G;have K:=j.cell 0;have I:=j.cell 1;have J:=j.cell 2;obtain ⟨f0,f1,f2⟩:=fp3 j;simp at K I J;go_wp2;have T:=yp (x:=D) (A:=A') (k:=E) (c:=C) (ng:=z) j;obtain ⟨Y,Q,R,_⟩:=bp3 T;refine bodyPost_ret (v:=.agg #[.int .i64 D,.slice A' E C,.bool z]) (by simp [results,results82,go_sem,Y,Q,R]) rfl ?_;exact ⟨_,rfl,zB (by rw [zcq aa (Nat.le_of_lt L)];exact F) j,zT X (by omega)⟩
 . obtain ⟨bd,rfl⟩:=Option.ne_none_iff_exists'.1 h'
   subst h;clear h'
   go_in
   go_wp2_with fail;have hW:=(ext (ext (zf w (.cells #[.int .i64 x,.slice none k c,.bool a] 68)) (zf _ (.cells #[.int .i64 y,.slice (some bd) k' c',.bool b] 68))) (zf _ (.cells #[.int .i64 0,.slice none 0 0,.bool false] 68)));have hA:=ha.below hW;have hB:=hb.below hW;have kB:=(Blk.new (w.alloc (.cells #[.int .i64 x,.slice none k c,.bool a] 68)) 68 #[.int .i64 y,.slice (some bd) k' c',.bool b]).alloc (.cells #[.int .i64 0,.slice none 0 0,.bool false] 68);have V:=Blk.new ((w.alloc (.cells #[.int .i64 x,.slice none k c,.bool a] 68)).alloc (.cells #[.int .i64 y,.slice (some bd) k' c',.bool b] 68)) 68 #[.int .i64 0,.slice none 0 0,.bool false];simp only [World.size_alloc] at kB V;generalize ((w.alloc (.cells #[.int .i64 x,.slice none k c,.bool a] 68)).alloc (.cells #[.int .i64 y,.slice (some bd) k' c',.bool b] 68)).alloc (.cells #[.int .i64 0,.slice none 0 0,.bool false] 68)=W at hA hB kB V hW |-;refine (vr _ s n W hA hs).mono ?_;rintro e w1 ⟨p,rfl,hp,Z⟩;have ag:=kB.below Z kB.lt;obtain ⟨K,I,J,_⟩:=bp3 ag;go_wp2_with fail
   refine (vr _ t m w1 (hB.below Z) ht).mono ?_;rintro e w2 ⟨p',rfl,M,ab⟩;have N:=hp.below ab;have l:=(V.below Z V.lt).below ab (V.below Z V.lt).lt;have S:=ext (ext hW Z) ab;clear Z ab hW V kB ag K I J hA hB hp
   by_cases aa:s=t
   . subst aa
     go_wp2_with fail;refine (zdq p p' n m w2 N M ac.o ae.o).mono ?_;rintro e w3 ⟨q,rfl,U,u⟩;go_wp2_with fail;refine (yl s q (n+m) w3 U).mono ?_;rintro e w4 ⟨v,rfl,F,G⟩;obtain ⟨D,A',E,C,z,rfl,_,_,_⟩:=F.form;have j:=(l.below u l.lt).below G (l.below u l.lt).lt;have X:=ext (ext S u) G;have K:=j.cell 0;have I:=j.cell 1;have J:=j.cell 2;obtain ⟨f0,f1,f2⟩:=fp3 j;simp at K I J;go_wp2;have T:=yp (x:=D) (A:=A') (k:=E) (c:=C) (ng:=z) j;obtain ⟨Y,Q,R,_⟩:=bp3 T;refine bodyPost_ret (v:=.agg #[.int .i64 D,.slice A' E C,.bool z]) (by simp [results,results82,go_sem,Y,Q,R]) rfl ?_;exact ⟨_,rfl,zB (by rw [zc3];exact F) j,zT X (by omega)⟩
   have ak :(s == t)=false:=uD aa
   go_wp2_with fail;refine (VQ p p' n m w2 N M ac.o ae.o).mono ?_;rintro e w3 ⟨rfl,r,rfl⟩;have ah:=N.below (zC w2 r);have ai:=M.below (zC w2 r);have af:=l.drewN r;have aj:=zk S r;clear N M l S;generalize w2.drewN r=w2 at ah ai af aj |-;have N:=ah;have M :=ai;have l:=af;have S:=aj
   rcases Nat.lt_trichotomy n m with L | L | L
   . have O:zO (n:Int) (m:Int)= -1:=by unfold zO;rw [if_pos (by omega)]
     rw [O];clear O;go_wp2_with fail;refine (ZZ p' p m n w2 M N ae.o (Nat.le_of_lt L)).mono ?_;rintro e w3 ⟨q,rfl,U,u⟩;go_wp2_with fail;refine (yl t q (m - n) w3 U).mono ?_;rintro e w4 ⟨v,rfl,F,G⟩;obtain ⟨D,A',E,C,z,rfl,_,_,_⟩:=F.form;have j:=(l.below u l.lt).below G (l.below u l.lt).lt;have X:=ext (ext S u) G;have K:=j.cell 0;have I:=j.cell 1;have J:=j.cell 2;obtain ⟨f0,f1,f2⟩:=fp3 j;simp at K I J;go_wp2;have T:=yp (x:=D) (A:=A') (k:=E) (c:=C) (ng:=z) j;obtain ⟨Y,Q,R,_⟩:=bp3 T;refine bodyPost_ret (v:=.agg #[.int .i64 D,.slice A' E C,.bool z]) (by simp [results,results82,go_sem,Y,Q,R]) rfl ?_;exact ⟨_,rfl,zB (by rw [zmf aa (Nat.le_of_lt L)];exact F) j,zT X (by omega)⟩
   . have O:zO (n:Int) (m:Int)=0:=by unfold zO;rw [if_neg (by omega),if_neg (by omega)]
     rw [O];clear O;go_wp2_with fail;refine (ZZ p p' n m w2 N M ac.o (Nat.le_of_eq L.symm)).mono ?_;rintro e w3 ⟨q,rfl,U,u⟩;go_wp2_with fail;refine (yl s q (n - m) w3 U).mono ?_;rintro e w4 ⟨v,rfl,F,G⟩;obtain ⟨D,A',E,C,z,rfl,_,_,_⟩:=F.form;have j:=(l.below u l.lt).below G (l.below u l.lt).lt;have X:=ext (ext S u) G;have K:=j.cell 0;have I:=j.cell 1;have J:=j.cell 2;obtain ⟨f0,f1,f2⟩:=fp3 j;simp at K I J;go_wp2;have T:=yp (x:=D) (A:=A') (k:=E) (c:=C) (ng:=z) j;obtain ⟨Y,Q,R,_⟩:=bp3 T;refine bodyPost_ret (v:=.agg #[.int .i64 D,.slice A' E C,.bool z]) (by simp [results,results82,go_sem,Y,Q,R]) rfl ?_;exact ⟨_,rfl,zB (by rw [zcq aa (Nat.le_of_eq L.symm)];exact F) j,zT X (by omega)⟩
   . have O:zO (n:Int) (m:Int)=1:=by unfold zO;rw [if_neg (by omega),if_pos (by omega)]
     rw [O];clear O;go_wp2_with fail;refine (ZZ p p' n m w2 N M ac.o (Nat.le_of_lt L)).mono ?_;rintro e w3 ⟨q,rfl,U,u⟩;go_wp2_with fail;refine (yl s q (n - m) w3 U).mono ?_;rintro e w4 ⟨v,rfl,F,G⟩;obtain ⟨D,A',E,C,z,rfl,_,_,_⟩:=F.form;have j:=(l.below u l.lt).below G (l.below u l.lt).lt;have X:=ext (ext S u) G;have K:=j.cell 0;have I:=j.cell 1;have J:=j.cell 2;obtain ⟨f0,f1,f2⟩:=fp3 j;simp at K I J;go_wp2;have T:=yp (x:=D) (A:=A') (k:=E) (c:=C) (ng:=z) j;obtain ⟨Y,Q,R,_⟩:=bp3 T;refine bodyPost_ret (v:=.agg #[.int .i64 D,.slice A' E C,.bool z]) (by simp [results,results82,go_sem,Y,Q,R]) rfl ?_;exact ⟨_,rfl,zB (by rw [zcq aa (Nat.le_of_lt L)];exact F) j,zT X (by omega)⟩
 . subst h h'
   have Q:decide ((x+y:Int)> -4611686018427387904)=true:=uE (by omega);have R:decide ((x+y:Int)<4611686018427387904)=false:=uF (by omega);clear h5
   go_in
   go_wp2_with fail;have hW:=(ext (ext (zf w (.cells #[.int .i64 x,.slice none k c,.bool a] 68)) (zf _ (.cells #[.int .i64 y,.slice none k' c',.bool b] 68))) (zf _ (.cells #[.int .i64 0,.slice none 0 0,.bool false] 68)));have hA:=ha.below hW;have hB:=hb.below hW;have kB:=(Blk.new (w.alloc (.cells #[.int .i64 x,.slice none k c,.bool a] 68)) 68 #[.int .i64 y,.slice none k' c',.bool b]).alloc (.cells #[.int .i64 0,.slice none 0 0,.bool false] 68);have V:=Blk.new ((w.alloc (.cells #[.int .i64 x,.slice none k c,.bool a] 68)).alloc (.cells #[.int .i64 y,.slice none k' c',.bool b] 68)) 68 #[.int .i64 0,.slice none 0 0,.bool false];simp only [World.size_alloc] at kB V;generalize ((w.alloc (.cells #[.int .i64 x,.slice none k c,.bool a] 68)).alloc (.cells #[.int .i64 y,.slice none k' c',.bool b] 68)).alloc (.cells #[.int .i64 0,.slice none 0 0,.bool false] 68)=W at hA hB kB V hW |-;refine (vr _ s n W hA hs).mono ?_;rintro e w1 ⟨p,rfl,hp,Z⟩;have ag:=kB.below Z kB.lt;obtain ⟨K,I,J,_⟩:=bp3 ag;go_wp2_with fail;refine (vr _ t m w1 (hB.below Z) ht).mono ?_
   rintro e w2 ⟨p',rfl,M,ab⟩;have N:=hp.below ab;have l:=(V.below Z V.lt).below ab (V.below Z V.lt).lt;have S:=ext (ext hW Z) ab;clear Z ab hW V kB ag K I J hA hB hp
   by_cases aa:s=t
   . subst aa
     go_wp2_with fail;refine (zdq p p' n m w2 N M ac.o ae.o).mono ?_;rintro e w3 ⟨q,rfl,U,u⟩;go_wp2_with fail;refine (yl s q (n+m) w3 U).mono ?_;rintro e w4 ⟨v,rfl,F,G⟩;obtain ⟨D,A',E,C,z,rfl,_,_,_⟩:=F.form;have j:=(l.below u l.lt).below G (l.below u l.lt).lt;have X:=ext (ext S u) G;have K:=j.cell 0;have I:=j.cell 1;have J:=j.cell 2;obtain ⟨f0,f1,f2⟩:=fp3 j;simp at K I J;go_wp2;have T:=yp (x:=D) (A:=A') (k:=E) (c:=C) (ng:=z) j;obtain ⟨Y,Q,R,_⟩:=bp3 T;refine bodyPost_ret (v:=.agg #[.int .i64 D,.slice A' E C,.bool z]) (by simp [results,results82,go_sem,Y,Q,R]) rfl ?_;exact ⟨_,rfl,zB (by rw [zc3];exact F) j,zT X (by omega)⟩
   have ak :(s == t)=false:=uD aa
   go_wp2_with fail;refine (VQ p p' n m w2 N M ac.o ae.o).mono ?_;rintro e w3 ⟨rfl,r,rfl⟩;have ah:=N.below (zC w2 r);have ai:=M.below (zC w2 r);have af:=l.drewN r;have aj:=zk S r;clear N M l S;generalize w2.drewN r=w2 at ah ai af aj |-;have N:=ah;have M :=ai;have l:=af;have S:=aj
   rcases Nat.lt_trichotomy n m with L | L | L
   . have O:zO (n:Int) (m:Int)= -1:=by unfold zO;rw [if_pos (by omega)]
     rw [O];clear O;go_wp2_with fail;refine (ZZ p' p m n w2 M N ae.o (Nat.le_of_lt L)).mono ?_;rintro e w3 ⟨q,rfl,U,u⟩;go_wp2_with fail;refine (yl t q (m - n) w3 U).mono ?_;rintro e w4 ⟨v,rfl,F,G⟩;obtain ⟨D,A',E,C,z,rfl,_,_,_⟩:=F.form;have j:=(l.below u l.lt).below G (l.below u l.lt).lt;have X:=ext (ext S u) G;have K:=j.cell 0;have I:=j.cell 1;have J:=j.cell 2;obtain ⟨f0,f1,f2⟩:=fp3 j;simp at K I J;go_wp2;have T:=yp (x:=D) (A:=A') (k:=E) (c:=C) (ng:=z) j;obtain ⟨Y,Q,R,_⟩:=bp3 T;refine bodyPost_ret (v:=.agg #[.int .i64 D,.slice A' E C,.bool z]) (by simp [results,results82,go_sem,Y,Q,R]) rfl ?_;exact ⟨_,rfl,zB (by rw [zmf aa (Nat.le_of_lt L)];exact F) j,zT X (by omega)⟩
   . have O:zO (n:Int) (m:Int)=0:=by unfold zO;rw [if_neg (by omega),if_neg (by omega)]
     rw [O];clear O;go_wp2_with fail;refine (ZZ p p' n m w2 N M ac.o (Nat.le_of_eq L.symm)).mono ?_;rintro e w3 ⟨q,rfl,U,u⟩;go_wp2_with fail;refine (yl s q (n - m) w3 U).mono ?_;rintro e w4 ⟨v,rfl,F,G⟩;obtain ⟨D,A',E,C,z,rfl,_,_,_⟩:=F.form;have j:=(l.below u l.lt).below G (l.below u l.lt).lt;have X:=ext (ext S u) G;have K:=j.cell 0;have I:=j.cell 1;have J:=j.cell 2;obtain ⟨f0,f1,f2⟩:=fp3 j;simp at K I J;go_wp2;have T:=yp (x:=D) (A:=A') (k:=E) (c:=C) (ng:=z) j;obtain ⟨Y,Q,R,_⟩:=bp3 T;refine bodyPost_ret (v:=.agg #[.int .i64 D,.slice A' E C,.bool z]) (by simp [results,results82,go_sem,Y,Q,R]) rfl ?_;exact ⟨_,rfl,zB (by rw [zcq aa (Nat.le_of_eq L.symm)];exact F) j,zT X (by omega)⟩
   . have O:zO (n:Int) (m:Int)=1:=by unfold zO;rw [if_neg (by omega),if_pos (by omega)]
     rw [O];clear O;go_wp2_with fail;refine (ZZ p p' n m w2 N M ac.o (Nat.le_of_lt L)).mono ?_;rintro e w3 ⟨q,rfl,U,u⟩;go_wp2_with fail;refine (yl s q (n - m) w3 U).mono ?_;rintro e w4 ⟨v,rfl,F,G⟩;obtain ⟨D,A',E,C,z,rfl,_,_,_⟩:=F.form;have j:=(l.below u l.lt).below G (l.below u l.lt).lt;have X:=ext (ext S u) G;have K:=j.cell 0;have I:=j.cell 1;have J:=j.cell 2;obtain ⟨f0,f1,f2⟩:=fp3 j;simp at K I J;go_wp2;have T:=yp (x:=D) (A:=A') (k:=E) (c:=C) (ng:=z) j;obtain ⟨Y,Q,R,_⟩:=bp3 T;refine bodyPost_ret (v:=.agg #[.int .i64 D,.slice A' E C,.bool z]) (by simp [results,results82,go_sem,Y,Q,R]) rfl ?_;exact ⟨_,rfl,zB (by rw [zcq aa (Nat.le_of_lt L)];exact F) j,zT X (by omega)⟩
 . subst h h'
   have Q:decide ((x+y:Int)> -4611686018427387904)=false:=uF (by omega);clear h5
   go_in
   go_wp2_with fail;have hW:=(ext (ext (zf w (.cells #[.int .i64 x,.slice none k c,.bool a] 68)) (zf _ (.cells #[.int .i64 y,.slice none k' c',.bool b] 68))) (zf _ (.cells #[.int .i64 0,.slice none 0 0,.bool false] 68)));have hA:=ha.below hW;have hB:=hb.below hW;have kB:=(Blk.new (w.alloc (.cells #[.int .i64 x,.slice none k c,.bool a] 68)) 68 #[.int .i64 y,.slice none k' c',.bool b]).alloc (.cells #[.int .i64 0,.slice none 0 0,.bool false] 68);have V:=Blk.new ((w.alloc (.cells #[.int .i64 x,.slice none k c,.bool a] 68)).alloc (.cells #[.int .i64 y,.slice none k' c',.bool b] 68)) 68 #[.int .i64 0,.slice none 0 0,.bool false];simp only [World.size_alloc] at kB V;generalize ((w.alloc (.cells #[.int .i64 x,.slice none k c,.bool a] 68)).alloc (.cells #[.int .i64 y,.slice none k' c',.bool b] 68)).alloc (.cells #[.int .i64 0,.slice none 0 0,.bool false] 68)=W at hA hB kB V hW |-;refine (vr _ s n W hA hs).mono ?_;rintro e w1 ⟨p,rfl,hp,Z⟩;have ag:=kB.below Z kB.lt;obtain ⟨K,I,J,_⟩:=bp3 ag;go_wp2_with fail;refine (vr _ t m w1 (hB.below Z) ht).mono ?_
   rintro e w2 ⟨p',rfl,M,ab⟩;have N:=hp.below ab;have l:=(V.below Z V.lt).below ab (V.below Z V.lt).lt;have S:=ext (ext hW Z) ab;clear Z ab hW V kB ag K I J hA hB hp
   by_cases aa:s=t
   . subst aa
     go_wp2_with fail;refine (zdq p p' n m w2 N M ac.o ae.o).mono ?_;rintro e w3 ⟨q,rfl,U,u⟩;go_wp2_with fail;refine (yl s q (n+m) w3 U).mono ?_;rintro e w4 ⟨v,rfl,F,G⟩;obtain ⟨D,A',E,C,z,rfl,_,_,_⟩:=F.form;have j:=(l.below u l.lt).below G (l.below u l.lt).lt;have X:=ext (ext S u) G;have K:=j.cell 0;have I:=j.cell 1;have J:=j.cell 2;obtain ⟨f0,f1,f2⟩:=fp3 j;simp at K I J;go_wp2;have T:=yp (x:=D) (A:=A') (k:=E) (c:=C) (ng:=z) j;obtain ⟨Y,Q,R,_⟩:=bp3 T;refine bodyPost_ret (v:=.agg #[.int .i64 D,.slice A' E C,.bool z]) (by simp [results,results82,go_sem,Y,Q,R]) rfl ?_;exact ⟨_,rfl,zB (by rw [zc3];exact F) j,zT X (by omega)⟩
   have ak :(s == t)=false:=uD aa
   go_wp2_with fail;refine (VQ p p' n m w2 N M ac.o ae.o).mono ?_;rintro e w3 ⟨rfl,r,rfl⟩;have ah:=N.below (zC w2 r);have ai:=M.below (zC w2 r);have af:=l.drewN r;have aj:=zk S r;clear N M l S;generalize w2.drewN r=w2 at ah ai af aj |-;have N:=ah;have M :=ai;have l:=af;have S:=aj
   rcases Nat.lt_trichotomy n m with L | L | L
   . have O:zO (n:Int) (m:Int)= -1:=by unfold zO;rw [if_pos (by omega)]
     rw [O];clear O;go_wp2_with fail;refine (ZZ p' p m n w2 M N ae.o (Nat.le_of_lt L)).mono ?_;rintro e w3 ⟨q,rfl,U,u⟩;go_wp2_with fail;refine (yl t q (m - n) w3 U).mono ?_;rintro e w4 ⟨v,rfl,F,G⟩;obtain ⟨D,A',E,C,z,rfl,_,_,_⟩:=F.form;have j:=(l.below u l.lt).below G (l.below u l.lt).lt;have X:=ext (ext S u) G;have K:=j.cell 0;have I:=j.cell 1;have J:=j.cell 2;obtain ⟨f0,f1,f2⟩:=fp3 j;simp at K I J;go_wp2;have T:=yp (x:=D) (A:=A') (k:=E) (c:=C) (ng:=z) j;obtain ⟨Y,Q,R,_⟩:=bp3 T;refine bodyPost_ret (v:=.agg #[.int .i64 D,.slice A' E C,.bool z]) (by simp [results,results82,go_sem,Y,Q,R]) rfl ?_;exact ⟨_,rfl,zB (by rw [zmf aa (Nat.le_of_lt L)];exact F) j,zT X (by omega)⟩
   . have O:zO (n:Int) (m:Int)=0:=by unfold zO;rw [if_neg (by omega),if_neg (by omega)]
     rw [O];clear O;go_wp2_with fail;refine (ZZ p p' n m w2 N M ac.o (Nat.le_of_eq L.symm)).mono ?_;rintro e w3 ⟨q,rfl,U,u⟩;go_wp2_with fail;refine (yl s q (n - m) w3 U).mono ?_;rintro e w4 ⟨v,rfl,F,G⟩;obtain ⟨D,A',E,C,z,rfl,_,_,_⟩:=F.form;have j:=(l.below u l.lt).below G (l.below u l.lt).lt;have X:=ext (ext S u) G;have K:=j.cell 0;have I:=j.cell 1;have J:=j.cell 2;obtain ⟨f0,f1,f2⟩:=fp3 j;simp at K I J;go_wp2;have T:=yp (x:=D) (A:=A') (k:=E) (c:=C) (ng:=z) j;obtain ⟨Y,Q,R,_⟩:=bp3 T;refine bodyPost_ret (v:=.agg #[.int .i64 D,.slice A' E C,.bool z]) (by simp [results,results82,go_sem,Y,Q,R]) rfl ?_;exact ⟨_,rfl,zB (by rw [zcq aa (Nat.le_of_eq L.symm)];exact F) j,zT X (by omega)⟩
   . have O:zO (n:Int) (m:Int)=1:=by unfold zO;rw [if_neg (by omega),if_pos (by omega)]
     rw [O];clear O;go_wp2_with fail;refine (ZZ p p' n m w2 N M ac.o (Nat.le_of_lt L)).mono ?_;rintro e w3 ⟨q,rfl,U,u⟩;go_wp2_with fail;refine (yl s q (n - m) w3 U).mono ?_;rintro e w4 ⟨v,rfl,F,G⟩;obtain ⟨D,A',E,C,z,rfl,_,_,_⟩:=F.form;have j:=(l.below u l.lt).below G (l.below u l.lt).lt;have X:=ext (ext S u) G;have K:=j.cell 0;have I:=j.cell 1;have J:=j.cell 2;obtain ⟨f0,f1,f2⟩:=fp3 j;simp at K I J;go_wp2;have T:=yp (x:=D) (A:=A') (k:=E) (c:=C) (ng:=z) j;obtain ⟨Y,Q,R,_⟩:=bp3 T;refine bodyPost_ret (v:=.agg #[.int .i64 D,.slice A' E C,.bool z]) (by simp [results,results82,go_sem,Y,Q,R]) rfl ?_;exact ⟨_,rfl,zB (by rw [zcq aa (Nat.le_of_lt L)];exact F) j,zT X (by omega)⟩
theorem Yu {z:Int}:decide (z<0)=true->0<z.natAbs:=by
 intro h
 have:=uG h
 omega
theorem zhe (va vb:Value) (z y:Int) (w:World) (ha:zY w va z) (hb:zY w vb y) (hla:len 4294967296 z.natAbs<=67108864) (hlb:len 4294967296 y.natAbs<=67108864):
 Calls prog 82 #[va,vb] w (Y6 w (z+y)):=by
 have J :=ha
 have F :=hb
 obtain ⟨e,A,k,c,s,rfl,C,r,K⟩:=ha.form
 obtain ⟨j,B,k',c',t,rfl,D,u,I⟩:=hb.form
 by_cases m:A=none/\B=none/\ -4611686018427387904<e+j/\e+j<4611686018427387904
 . obtain ⟨b,l,G,E⟩:=m
   obtain ⟨rfl,rfl,rfl⟩:=K b;obtain ⟨rfl,rfl,rfl⟩:=I l;subst b l;exact zsx z y s t w C r D u G E
 have:=zsl (decide (z<0)) (decide (y<0)) z.natAbs y.natAbs e j A B k c k' c' s t w C r D u (by rw [xi];exact J) (by rw [xi];exact F) Yu Yu hla hlb (by
  unfold zrk
  by_cases b:A=none
  . by_cases l:B=none
    rotate_left
    . exact .inr (.inl ⟨b,l⟩)
    have:¬ (-4611686018427387904<e+j/\e+j<4611686018427387904):=fun h=>m ⟨b,l,h⟩
    rcases (show -4611686018427387904<e+j\/e+j<= -4611686018427387904 by omega) with h | h
    . exact .inr (.inr (.inl ⟨b,l,by omega⟩))
    . exact .inr (.inr (.inr ⟨b,l,by omega⟩))
  . exact .inl b)
 rwa [xi,xi] at this
theorem Xm (s t:Bool) (n m:Nat):signed s n*signed t m=signed (s != t) (n*m):=by
 cases s<;>cases t<;>unfold signed<;>simp [Int.neg_mul,Int.mul_neg,Int.natCast_mul]
theorem ZF {w w' :World} {g:Nat} {t:TypeId} {cs:Array Value} (hb:Below w.heap.size w w') (h:Hid (Blk w g t cs)):Hid (Blk w' g t cs):=h.out.below hb h.out.lt
theorem zua (x y:Int) (a b:Bool) (P:Nat) (w:World) (h1: -4611686018427387904<x) (h2:x<4611686018427387904) (h3: -4611686018427387904<y) (h4:y<4611686018427387904) (hP:P=x.natAbs*y.natAbs) (hP2:P<4611686018427387904):
 Calls prog 72 #[.agg #[.int .i64 x,.slice none 0 0,.bool a],.agg #[.int .i64 y,.slice none 0 0,.bool b]] w (Y6 w (x*y)):=by
 have Y:=fun w=>zo1 w none 0 0 0 0
 have Q:=fun w=>Vz x (.slice none 0 0) a w h1 h2
 have O:=fun w=>Vz y (.slice none 0 0) b w h3 h4
 have N:=fun w=>zhu x.natAbs y.natAbs (by omega) (by omega) w
 rw [<- hP,Nat.div_eq_of_lt (by omega),Nat.mod_eq_of_lt (by omega)] at N
 have X:x*y=signed (decide (x<0) != decide (y<0)) P:=by rw [hP, <- Xm,xi,xi]
 rw [X]
 clear X hP h1 h2 h3 h4
 have Z:decide ((P:Int)<4611686018427387904)=true:=uE (by omega)
 have C:=ze hP2
 have aa:(P:Int)<4611686018427387904:=by omega
 clear hP2
 have ab:=Int.natCast_nonneg P
 rcases (show x<0\/¬ x<0 by omega) with B | B
 . rcases (show y<0\/¬ y<0 by omega) with r | r
   . have u:(decide (x<0) != decide (y<0))=false:=by rw [uE B,uE r];rfl
     rw [u];clear u;have V:decide (x<0)=true:=uE B;have T:decide (y<0)=true:=uE r;have F:=(ext (ext (zf w (.cells #[.int .i64 x,.slice none 0 0,.bool a] 68)) (zf _ (.cells #[.int .i64 y,.slice none 0 0,.bool b] 68))) (zf _ (.cells #[.int .i64 0,.slice none 0 0,.bool false] 68)));have z:=(Blk.new (w.alloc (.cells #[.int .i64 x,.slice none 0 0,.bool a] 68)) 68 #[.int .i64 y,.slice none 0 0,.bool b]).alloc (.cells #[.int .i64 0,.slice none 0 0,.bool false] 68);have m:=Blk.new ((w.alloc (.cells #[.int .i64 x,.slice none 0 0,.bool a] 68)).alloc (.cells #[.int .i64 y,.slice none 0 0,.bool b] 68)) 68 #[.int .i64 0,.slice none 0 0,.bool false];simp only [World.size_alloc] at z m
     go_in
     go_wp2_with fail
     go_region_held3 (fun w' =>w'.cell? ⟨w.heap.size,0,none⟩=some (.int .i64 x)/\w'.cell? ⟨w.heap.size,1,none⟩=some (.slice none 0 0)/\w'.cell? ⟨w.heap.size,2,none⟩=some (.bool a)/\
      w'.cell? ⟨w.heap.size+1,0,none⟩=some (.int .i64 y)/\w'.cell? ⟨w.heap.size+1,1,none⟩=some (.slice none 0 0)/\w'.cell? ⟨w.heap.size+1,2,none⟩=some (.bool b)/\
      w.heap.size<w'.heap.size/\w.heap.size+1<w'.heap.size/\Hid (Blk w' (w.heap.size+1) 68 #[.int .i64 y,.slice none 0 0,.bool b])/\Hid (Blk w' (w.heap.size+1+1) 68 #[.int .i64 0,.slice none 0 0,.bool false])/\Hid (Below w.heap.size w w'))
      (first
        | exact ⟨by go_keep,by go_keep,by go_keep,by go_keep,by go_keep,by go_keep,by simp;omega,by simp,ze (z.drewN 1),ze (m.drewN 1),ze (zk F 1)⟩
        | go_keep
        | (go_split_ands;exact ⟨zj ‹_› ‹_› ‹_›,zj ‹_› ‹_› ‹_›,zj ‹_› ‹_› ‹_›,zj ‹_› ‹_› ‹_›,zj ‹_› ‹_› ‹_›,zj ‹_› ‹_› ‹_›,zG ‹_› ‹_›,zG ‹_› ‹_›,ZF ‹_› ‹_›,ZF ‹_› ‹_›,zp ‹_› ‹_›⟩))
      (first
        | (go_at_call_of 115 (Value.agg #[Value.int .i64 x,.slice none 0 0,.bool a]);refine (Q _).mono ?_;rintro e l ⟨rfl,L⟩)
        | (go_at_call_of 115 (Value.agg #[Value.int .i64 y,.slice none 0 0,.bool b]);refine (O _).mono ?_;rintro e l ⟨rfl,L⟩)
        | (go_at_call 123;refine (N _).mono ?_;rintro e l ⟨rfl,rfl⟩))
     go_split_ands;have j:=zM (by assumption:Hid (Blk _ (w.heap.size+1+1) _ _));have M:=j.cell 0;have I:=j.cell 1;have J:=j.cell 2;obtain ⟨R,S,U⟩:=fp3 j;simp at M I J;go_wp2;have E:=yp (x:=P) (A:=none) (k:=0) (c:=0) (ng:=false) j;obtain ⟨K,G,D,_⟩:=bp3 E;refine bodyPost_ret (v:=.agg #[.int .i64 (P),.slice none 0 0,.bool false]) (by simp [results,results72,go_sem,K,G,D]) rfl ?_;exact ⟨_,rfl,.inl ⟨_,_,rfl,by have:=C.o;omega,by have:=C.o;omega,rfl⟩,zT (zM ‹_›) (by omega)⟩
   . have u:(decide (x<0) != decide (y<0))=true:=by rw [uE B,uF r];rfl
     rw [u];clear u;have V:decide (x<0)=true:=uE B;have T:decide (y<0)=false:=uF r;have F:=(ext (ext (zf w (.cells #[.int .i64 x,.slice none 0 0,.bool a] 68)) (zf _ (.cells #[.int .i64 y,.slice none 0 0,.bool b] 68))) (zf _ (.cells #[.int .i64 0,.slice none 0 0,.bool false] 68)));have z:=(Blk.new (w.alloc (.cells #[.int .i64 x,.slice none 0 0,.bool a] 68)) 68 #[.int .i64 y,.slice none 0 0,.bool b]).alloc (.cells #[.int .i64 0,.slice none 0 0,.bool false] 68);have m:=Blk.new ((w.alloc (.cells #[.int .i64 x,.slice none 0 0,.bool a] 68)).alloc (.cells #[.int .i64 y,.slice none 0 0,.bool b] 68)) 68 #[.int .i64 0,.slice none 0 0,.bool false];simp only [World.size_alloc] at z m
     go_in
     go_wp2_with fail
     go_region_held3 (fun w' =>w'.cell? ⟨w.heap.size,0,none⟩=some (.int .i64 x)/\w'.cell? ⟨w.heap.size,1,none⟩=some (.slice none 0 0)/\w'.cell? ⟨w.heap.size,2,none⟩=some (.bool a)/\
      w'.cell? ⟨w.heap.size+1,0,none⟩=some (.int .i64 y)/\w'.cell? ⟨w.heap.size+1,1,none⟩=some (.slice none 0 0)/\w'.cell? ⟨w.heap.size+1,2,none⟩=some (.bool b)/\
      w.heap.size<w'.heap.size/\w.heap.size+1<w'.heap.size/\Hid (Blk w' (w.heap.size+1) 68 #[.int .i64 y,.slice none 0 0,.bool b])/\Hid (Blk w' (w.heap.size+1+1) 68 #[.int .i64 0,.slice none 0 0,.bool false])/\Hid (Below w.heap.size w w'))
      (first
        | exact ⟨by go_keep,by go_keep,by go_keep,by go_keep,by go_keep,by go_keep,by simp;omega,by simp,ze (z.drewN 1),ze (m.drewN 1),ze (zk F 1)⟩
        | go_keep
        | (go_split_ands;exact ⟨zj ‹_› ‹_› ‹_›,zj ‹_› ‹_› ‹_›,zj ‹_› ‹_› ‹_›,zj ‹_› ‹_› ‹_›,zj ‹_› ‹_› ‹_›,zj ‹_› ‹_› ‹_›,zG ‹_› ‹_›,zG ‹_› ‹_›,ZF ‹_› ‹_›,ZF ‹_› ‹_›,zp ‹_› ‹_›⟩))
      (first
        | (go_at_call_of 115 (Value.agg #[Value.int .i64 x,.slice none 0 0,.bool a]);refine (Q _).mono ?_;rintro e l ⟨rfl,L⟩)
        | (go_at_call_of 115 (Value.agg #[Value.int .i64 y,.slice none 0 0,.bool b]);refine (O _).mono ?_;rintro e l ⟨rfl,L⟩)
        | (go_at_call 123;refine (N _).mono ?_;rintro e l ⟨rfl,rfl⟩))
     go_split_ands;have j:=zM (by assumption:Hid (Blk _ (w.heap.size+1+1) _ _));have M:=j.cell 0;have I:=j.cell 1;have J:=j.cell 2;obtain ⟨R,S,U⟩:=fp3 j;simp at M I J;go_wp2;have E:=yp (x:= -P) (A:=none) (k:=0) (c:=0) (ng:=false) j;obtain ⟨K,G,D,_⟩:=bp3 E;refine bodyPost_ret (v:=.agg #[.int .i64 (-P),.slice none 0 0,.bool false]) (by simp [results,results72,go_sem,K,G,D]) rfl ?_;exact ⟨_,rfl,.inl ⟨_,_,rfl,by have:=C.o;omega,by have:=C.o;omega,rfl⟩,zT (zM ‹_›) (by omega)⟩
 . rcases (show y<0\/¬ y<0 by omega) with r | r
   . have u:(decide (x<0) != decide (y<0))=true:=by rw [uF B,uE r];rfl
     rw [u];clear u;have V:decide (x<0)=false:=uF B;have T:decide (y<0)=true:=uE r;have F:=(ext (ext (zf w (.cells #[.int .i64 x,.slice none 0 0,.bool a] 68)) (zf _ (.cells #[.int .i64 y,.slice none 0 0,.bool b] 68))) (zf _ (.cells #[.int .i64 0,.slice none 0 0,.bool false] 68)));have z:=(Blk.new (w.alloc (.cells #[.int .i64 x,.slice none 0 0,.bool a] 68)) 68 #[.int .i64 y,.slice none 0 0,.bool b]).alloc (.cells #[.int .i64 0,.slice none 0 0,.bool false] 68);have m:=Blk.new ((w.alloc (.cells #[.int .i64 x,.slice none 0 0,.bool a] 68)).alloc (.cells #[.int .i64 y,.slice none 0 0,.bool b] 68)) 68 #[.int .i64 0,.slice none 0 0,.bool false];simp only [World.size_alloc] at z m
     go_in
     go_wp2_with fail
     go_region_held3 (fun w' =>w'.cell? ⟨w.heap.size,0,none⟩=some (.int .i64 x)/\w'.cell? ⟨w.heap.size,1,none⟩=some (.slice none 0 0)/\w'.cell? ⟨w.heap.size,2,none⟩=some (.bool a)/\
      w'.cell? ⟨w.heap.size+1,0,none⟩=some (.int .i64 y)/\w'.cell? ⟨w.heap.size+1,1,none⟩=some (.slice none 0 0)/\w'.cell? ⟨w.heap.size+1,2,none⟩=some (.bool b)/\
      w.heap.size<w'.heap.size/\w.heap.size+1<w'.heap.size/\Hid (Blk w' (w.heap.size+1) 68 #[.int .i64 y,.slice none 0 0,.bool b])/\Hid (Blk w' (w.heap.size+1+1) 68 #[.int .i64 0,.slice none 0 0,.bool false])/\Hid (Below w.heap.size w w'))
      (first
        | exact ⟨by go_keep,by go_keep,by go_keep,by go_keep,by go_keep,by go_keep,by simp;omega,by simp,ze (z.drewN 1),ze (m.drewN 1),ze (zk F 1)⟩
        | go_keep
        | (go_split_ands;exact ⟨zj ‹_› ‹_› ‹_›,zj ‹_› ‹_› ‹_›,zj ‹_› ‹_› ‹_›,zj ‹_› ‹_› ‹_›,zj ‹_› ‹_› ‹_›,zj ‹_› ‹_› ‹_›,zG ‹_› ‹_›,zG ‹_› ‹_›,ZF ‹_› ‹_›,ZF ‹_› ‹_›,zp ‹_› ‹_›⟩))
      (first
        | (go_at_call_of 115 (Value.agg #[Value.int .i64 x,.slice none 0 0,.bool a]);refine (Q _).mono ?_;rintro e l ⟨rfl,L⟩)
        | (go_at_call_of 115 (Value.agg #[Value.int .i64 y,.slice none 0 0,.bool b]);refine (O _).mono ?_;rintro e l ⟨rfl,L⟩)
        | (go_at_call 123;refine (N _).mono ?_;rintro e l ⟨rfl,rfl⟩))
     go_split_ands;have j:=zM (by assumption:Hid (Blk _ (w.heap.size+1+1) _ _));have M:=j.cell 0;have I:=j.cell 1;have J:=j.cell 2;obtain ⟨R,S,U⟩:=fp3 j;simp at M I J;go_wp2;have E:=yp (x:= -P) (A:=none) (k:=0) (c:=0) (ng:=false) j;obtain ⟨K,G,D,_⟩:=bp3 E;refine bodyPost_ret (v:=.agg #[.int .i64 (-P),.slice none 0 0,.bool false]) (by simp [results,results72,go_sem,K,G,D]) rfl ?_;exact ⟨_,rfl,.inl ⟨_,_,rfl,by have:=C.o;omega,by have:=C.o;omega,rfl⟩,zT (zM ‹_›) (by omega)⟩
   . have u:(decide (x<0) != decide (y<0))=false:=by rw [uF B,uF r];rfl
     rw [u];clear u;have V:decide (x<0)=false:=uF B;have T:decide (y<0)=false:=uF r;have F:=(ext (ext (zf w (.cells #[.int .i64 x,.slice none 0 0,.bool a] 68)) (zf _ (.cells #[.int .i64 y,.slice none 0 0,.bool b] 68))) (zf _ (.cells #[.int .i64 0,.slice none 0 0,.bool false] 68)));have z:=(Blk.new (w.alloc (.cells #[.int .i64 x,.slice none 0 0,.bool a] 68)) 68 #[.int .i64 y,.slice none 0 0,.bool b]).alloc (.cells #[.int .i64 0,.slice none 0 0,.bool false] 68);have m:=Blk.new ((w.alloc (.cells #[.int .i64 x,.slice none 0 0,.bool a] 68)).alloc (.cells #[.int .i64 y,.slice none 0 0,.bool b] 68)) 68 #[.int .i64 0,.slice none 0 0,.bool false];simp only [World.size_alloc] at z m
     go_in
     go_wp2_with fail
     go_region_held3 (fun w' =>w'.cell? ⟨w.heap.size,0,none⟩=some (.int .i64 x)/\w'.cell? ⟨w.heap.size,1,none⟩=some (.slice none 0 0)/\w'.cell? ⟨w.heap.size,2,none⟩=some (.bool a)/\
      w'.cell? ⟨w.heap.size+1,0,none⟩=some (.int .i64 y)/\w'.cell? ⟨w.heap.size+1,1,none⟩=some (.slice none 0 0)/\w'.cell? ⟨w.heap.size+1,2,none⟩=some (.bool b)/\
      w.heap.size<w'.heap.size/\w.heap.size+1<w'.heap.size/\Hid (Blk w' (w.heap.size+1) 68 #[.int .i64 y,.slice none 0 0,.bool b])/\Hid (Blk w' (w.heap.size+1+1) 68 #[.int .i64 0,.slice none 0 0,.bool false])/\Hid (Below w.heap.size w w'))
      (first
        | exact ⟨by go_keep,by go_keep,by go_keep,by go_keep,by go_keep,by go_keep,by simp;omega,by simp,ze (z.drewN 1),ze (m.drewN 1),ze (zk F 1)⟩
        | go_keep
        | (go_split_ands;exact ⟨zj ‹_› ‹_› ‹_›,zj ‹_› ‹_› ‹_›,zj ‹_› ‹_› ‹_›,zj ‹_› ‹_› ‹_›,zj ‹_› ‹_› ‹_›,zj ‹_› ‹_› ‹_›,zG ‹_› ‹_›,zG ‹_› ‹_›,ZF ‹_› ‹_›,ZF ‹_› ‹_›,zp ‹_› ‹_›⟩))
      (first
        | (go_at_call_of 115 (Value.agg #[Value.int .i64 x,.slice none 0 0,.bool a]);refine (Q _).mono ?_;rintro e l ⟨rfl,L⟩)
        | (go_at_call_of 115 (Value.agg #[Value.int .i64 y,.slice none 0 0,.bool b]);refine (O _).mono ?_;rintro e l ⟨rfl,L⟩)
        | (go_at_call 123;refine (N _).mono ?_;rintro e l ⟨rfl,rfl⟩))
     go_split_ands;have j:=zM (by assumption:Hid (Blk _ (w.heap.size+1+1) _ _));have M:=j.cell 0;have I:=j.cell 1;have J:=j.cell 2;obtain ⟨R,S,U⟩:=fp3 j;simp at M I J;go_wp2;have E:=yp (x:=P) (A:=none) (k:=0) (c:=0) (ng:=false) j;obtain ⟨K,G,D,_⟩:=bp3 E;refine bodyPost_ret (v:=.agg #[.int .i64 (P),.slice none 0 0,.bool false]) (by simp [results,results72,go_sem,K,G,D]) rfl ?_;exact ⟨_,rfl,.inl ⟨_,_,rfl,by have:=C.o;omega,by have:=C.o;omega,rfl⟩,zT (zM ‹_›) (by omega)⟩
def zrs (x y:Int) (A B:Option Addr):Prop:=A≠none\/(A=none/\B≠none)\/(A=none/\B=none/\4611686018427387904<=x.natAbs*y.natAbs)
theorem ztq (s t:Bool) (n m:Nat) (x y:Int) (A B:Option Addr) (k c k' c' :Nat) (a b:Bool) (w:World) (h1: -4611686018427387904<x) (h2:x<4611686018427387904) (h3: -4611686018427387904<y) (h4:y<4611686018427387904)
 (hA0:A=none->k=0/\c=0) (hB0:B=none->k' =0/\c' =0)
 (ha:zY w (.agg #[.int .i64 x,.slice A k c,.bool a]) (signed s n)) (hb:zY w (.agg #[.int .i64 y,.slice B k' c',.bool b]) (signed t m)) (hs:s=true->0<n) (ht:t=true->0<m)
 (hln:len 4294967296 n<=67108864) (hlm:len 4294967296 m<=67108864) (hsl:zrs x y A B):
 Calls prog 72 #[.agg #[.int .i64 x,.slice A k c,.bool a],.agg #[.int .i64 y,.slice B k' c',.bool b]] w (Y6 w (signed s n*signed t m)):=by
 have q1:=fun w=>zo1 w A k c 0 0
 have q2:=fun w=>zo1 w B k' c' 0 0
 have ag:=ze hln
 have ah:=ze hlm
 clear hln hlm
 rcases hsl with h | ⟨h,h'⟩ | ⟨h,h',h5⟩
 . obtain ⟨ad,rfl⟩:=Option.ne_none_iff_exists'.1 h
   clear h
   go_in
   go_wp2_with fail;have z:=(ext (ext (zf w (.cells #[.int .i64 x,.slice (some ad) k c,.bool a] 68)) (zf _ (.cells #[.int .i64 y,.slice B k' c',.bool b] 68))) (zf _ (.cells #[.int .i64 0,.slice none 0 0,.bool false] 68)));have K:=ha.below z;have M:=hb.below z;have u:=(Blk.new (w.alloc (.cells #[.int .i64 x,.slice (some ad) k c,.bool a] 68)) 68 #[.int .i64 y,.slice B k' c',.bool b]).alloc (.cells #[.int .i64 0,.slice none 0 0,.bool false] 68);have j:=Blk.new ((w.alloc (.cells #[.int .i64 x,.slice (some ad) k c,.bool a] 68)).alloc (.cells #[.int .i64 y,.slice B k' c',.bool b] 68)) 68 #[.int .i64 0,.slice none 0 0,.bool false];simp only [World.size_alloc] at u j;generalize ((w.alloc (.cells #[.int .i64 x,.slice (some ad) k c,.bool a] 68)).alloc (.cells #[.int .i64 y,.slice B k' c',.bool b] 68)).alloc (.cells #[.int .i64 0,.slice none 0 0,.bool false] 68)=W at K M u j z |-;refine (vr _ s n W K hs).mono ?_;rintro e J ⟨p,rfl,S,l⟩;have O:=u.below l u.lt;obtain ⟨I,E,F,_⟩:=bp3 O;go_wp2_with fail;refine (vr _ t m J (M.below l) ht).mono ?_
   rintro e w2 ⟨p',rfl,aa,D⟩;have ac:=S.below D;have C:=(j.below l j.lt).below D (j.below l j.lt).lt;have Z:=ext (ext z l) D;clear l D z j u O I E F K M S;go_wp2_with fail;refine (zdz p p' n m w2 ac aa ag.o ah.o).mono ?_;rintro e w3 ⟨q,rfl,hq,G⟩;go_wp2_with fail;refine (yl (s != t) q (n*m) w3 hq).mono ?_;rintro e w4 ⟨v,rfl,U,V⟩;obtain ⟨R,A',T,Q,N,rfl,_,_,_⟩:=U.form;have r:=(C.below G C.lt).below V (C.below G C.lt).lt;have ab:=ext (ext Z G) V;have I:=r.cell 0;have E:=r.cell 1;have F:=r.cell 2;obtain ⟨f0,f1,f2⟩:=fp3 r;simp at I E F;go_wp2;have kD:=yp (x:=R) (A:=A') (k:=T) (c:=Q) (ng:=N) r;obtain ⟨d0,d1,Y,_⟩:=bp3 kD;refine bodyPost_ret (v:=.agg #[.int .i64 R,.slice A' T Q,.bool N]) (by simp [results,results72,go_sem,d0,d1,Y]) rfl ?_;exact ⟨_,rfl,zB (by rw [Xm];exact U) r,zT ab (by omega)⟩
 . obtain ⟨bd,rfl⟩:=Option.ne_none_iff_exists'.1 h'
   subst h;obtain ⟨rfl,rfl⟩:=hA0 rfl;clear h' hA0 hB0
   go_in
   go_wp2_with fail;have z:=(ext (ext (zf w (.cells #[.int .i64 x,.slice none 0 0,.bool a] 68)) (zf _ (.cells #[.int .i64 y,.slice (some bd) k' c',.bool b] 68))) (zf _ (.cells #[.int .i64 0,.slice none 0 0,.bool false] 68)));have K:=ha.below z;have M:=hb.below z;have u:=(Blk.new (w.alloc (.cells #[.int .i64 x,.slice none 0 0,.bool a] 68)) 68 #[.int .i64 y,.slice (some bd) k' c',.bool b]).alloc (.cells #[.int .i64 0,.slice none 0 0,.bool false] 68);have j:=Blk.new ((w.alloc (.cells #[.int .i64 x,.slice none 0 0,.bool a] 68)).alloc (.cells #[.int .i64 y,.slice (some bd) k' c',.bool b] 68)) 68 #[.int .i64 0,.slice none 0 0,.bool false];simp only [World.size_alloc] at u j;generalize ((w.alloc (.cells #[.int .i64 x,.slice none 0 0,.bool a] 68)).alloc (.cells #[.int .i64 y,.slice (some bd) k' c',.bool b] 68)).alloc (.cells #[.int .i64 0,.slice none 0 0,.bool false] 68)=W at K M u j z |-;refine (vr _ s n W K hs).mono ?_;rintro e J ⟨p,rfl,S,l⟩;have O:=u.below l u.lt;obtain ⟨I,E,F,_⟩:=bp3 O;go_wp2_with fail
   refine (vr _ t m J (M.below l) ht).mono ?_;rintro e w2 ⟨p',rfl,aa,D⟩;have ac:=S.below D;have C:=(j.below l j.lt).below D (j.below l j.lt).lt;have Z:=ext (ext z l) D;clear l D z j u O I E F K M S;go_wp2_with fail;refine (zdz p p' n m w2 ac aa ag.o ah.o).mono ?_;rintro e w3 ⟨q,rfl,hq,G⟩;go_wp2_with fail;refine (yl (s != t) q (n*m) w3 hq).mono ?_;rintro e w4 ⟨v,rfl,U,V⟩;obtain ⟨R,A',T,Q,N,rfl,_,_,_⟩:=U.form;have r:=(C.below G C.lt).below V (C.below G C.lt).lt;have ab:=ext (ext Z G) V;have I:=r.cell 0;have E:=r.cell 1;have F:=r.cell 2;obtain ⟨f0,f1,f2⟩:=fp3 r;simp at I E F;go_wp2;have kD:=yp (x:=R) (A:=A') (k:=T) (c:=Q) (ng:=N) r;obtain ⟨d0,d1,Y,_⟩:=bp3 kD;refine bodyPost_ret (v:=.agg #[.int .i64 R,.slice A' T Q,.bool N]) (by simp [results,results72,go_sem,d0,d1,Y]) rfl ?_;exact ⟨_,rfl,zB (by rw [Xm];exact U) r,zT ab (by omega)⟩
 . subst h h'
   obtain ⟨rfl,rfl⟩:=hA0 rfl;obtain ⟨rfl,rfl⟩:=hB0 rfl;have hx:=fun w=>Vz x (.slice none 0 0) a w h1 h2
   have hy:=fun w=>Vz y (.slice none 0 0) b w h3 h4
   have hm:=fun w=>zhu x.natAbs y.natAbs (by omega) (by omega) w
   generalize x.natAbs*y.natAbs=P at hm h5;have hL:P / 18446744073709551616≠0\/(P / 18446744073709551616=0/\4611686018427387904<=P % 18446744073709551616):=by omega
   generalize P / 18446744073709551616=H at hm hL;generalize P % 18446744073709551616=L at hm hL;clear h5 h1 h2 h3 h4 hA0 hB0
   rcases hL with hL | ⟨rfl,hL⟩
   . have hH:¬ (H:Int)=0:=by omega
     have ai:((H:Int) == 0)=false:=uD hH;clear hL;have z:=(ext (ext (zf w (.cells #[.int .i64 x,.slice none 0 0,.bool a] 68)) (zf _ (.cells #[.int .i64 y,.slice none 0 0,.bool b] 68))) (zf _ (.cells #[.int .i64 0,.slice none 0 0,.bool false] 68)));have u:=(Blk.new (w.alloc (.cells #[.int .i64 x,.slice none 0 0,.bool a] 68)) 68 #[.int .i64 y,.slice none 0 0,.bool b]).alloc (.cells #[.int .i64 0,.slice none 0 0,.bool false] 68);have j:=Blk.new ((w.alloc (.cells #[.int .i64 x,.slice none 0 0,.bool a] 68)).alloc (.cells #[.int .i64 y,.slice none 0 0,.bool b] 68)) 68 #[.int .i64 0,.slice none 0 0,.bool false];simp only [World.size_alloc] at u j
     go_in
     go_wp2_with fail
     go_region_held3 (fun w' =>w'.cell? ⟨w.heap.size,0,none⟩=some (.int .i64 x)/\w'.cell? ⟨w.heap.size,1,none⟩=some (.slice none 0 0)/\w'.cell? ⟨w.heap.size,2,none⟩=some (.bool a)/\
      w'.cell? ⟨w.heap.size+1,0,none⟩=some (.int .i64 y)/\w'.cell? ⟨w.heap.size+1,1,none⟩=some (.slice none 0 0)/\w'.cell? ⟨w.heap.size+1,2,none⟩=some (.bool b)/\
      w.heap.size<w'.heap.size/\w.heap.size+1<w'.heap.size/\Hid (Blk w' (w.heap.size+1) 68 #[.int .i64 y,.slice none 0 0,.bool b])/\Hid (Blk w' (w.heap.size+1+1) 68 #[.int .i64 0,.slice none 0 0,.bool false])/\Hid (Below w.heap.size w w'))
      (first
        | exact ⟨by go_keep,by go_keep,by go_keep,by go_keep,by go_keep,by go_keep,by simp;omega,by simp,ze (u.drewN 1),ze (j.drewN 1),ze (zk z 1)⟩
        | go_keep
        | (go_split_ands;exact ⟨zj ‹_› ‹_› ‹_›,zj ‹_› ‹_› ‹_›,zj ‹_› ‹_› ‹_›,zj ‹_› ‹_› ‹_›,zj ‹_› ‹_› ‹_›,zj ‹_› ‹_› ‹_›,zG ‹_› ‹_›,zG ‹_› ‹_›,ZF ‹_› ‹_›,ZF ‹_› ‹_›,zp ‹_› ‹_›⟩))
      (first
        | (go_at_call_of 115 (Value.agg #[Value.int .i64 x,.slice none 0 0,.bool a]);refine (hx _).mono ?_;rintro e J ⟨rfl,l⟩)
        | (go_at_call_of 115 (Value.agg #[Value.int .i64 y,.slice none 0 0,.bool b]);refine (hy _).mono ?_;rintro e J ⟨rfl,l⟩)
        | (go_at_call 123;refine (hm _).mono ?_;rintro e J ⟨rfl,rfl⟩))
     go_split_ands;have X :=zM (by assumption:Hid (Below w.heap.size w _));have af :=zM (by assumption:Hid (Blk _ (w.heap.size+1) _ _));have ae :=zM (by assumption:Hid (Blk _ (w.heap.size+1+1) _ _));have K:=ha.below X;have M:=hb.below X;clear z u j;have z:=X;have u:=af;have j:=ae;clear X af ae;go_wp2_with fail;refine (vr _ s n _ K hs).mono ?_;rintro e J ⟨p,rfl,S,l⟩;have O:=u.below l u.lt;obtain ⟨I,E,F,_⟩:=bp3 O;go_wp2_with fail;refine (vr _ t m J (M.below l) ht).mono ?_;rintro e w2 ⟨p',rfl,aa,D⟩;have ac:=S.below D;have C:=(j.below l j.lt).below D (j.below l j.lt).lt;have Z:=ext (ext z l) D;clear l D z j u O I E F K M S;go_wp2_with fail;refine (zdz p p' n m w2 ac aa ag.o ah.o).mono ?_;rintro e w3 ⟨q,rfl,hq,G⟩;go_wp2_with fail;refine (yl (s != t) q (n*m) w3 hq).mono ?_;rintro e w4 ⟨v,rfl,U,V⟩;obtain ⟨R,A',T,Q,N,rfl,_,_,_⟩:=U.form;have r:=(C.below G C.lt).below V (C.below G C.lt).lt;have ab:=ext (ext Z G) V
     have I:=r.cell 0;have E:=r.cell 1;have F:=r.cell 2;obtain ⟨f0,f1,f2⟩:=fp3 r;simp at I E F;go_wp2;have kD:=yp (x:=R) (A:=A') (k:=T) (c:=Q) (ng:=N) r;obtain ⟨d0,d1,Y,_⟩:=bp3 kD;refine bodyPost_ret (v:=.agg #[.int .i64 R,.slice A' T Q,.bool N]) (by simp [results,results72,go_sem,d0,d1,Y]) rfl ?_;exact ⟨_,rfl,zB (by rw [Xm];exact U) r,zT ab (by omega)⟩
   . have hD:decide ((L:Int)<4611686018427387904)=false:=uF (by omega)
     clear hL;have z:=(ext (ext (zf w (.cells #[.int .i64 x,.slice none 0 0,.bool a] 68)) (zf _ (.cells #[.int .i64 y,.slice none 0 0,.bool b] 68))) (zf _ (.cells #[.int .i64 0,.slice none 0 0,.bool false] 68)));have u:=(Blk.new (w.alloc (.cells #[.int .i64 x,.slice none 0 0,.bool a] 68)) 68 #[.int .i64 y,.slice none 0 0,.bool b]).alloc (.cells #[.int .i64 0,.slice none 0 0,.bool false] 68);have j:=Blk.new ((w.alloc (.cells #[.int .i64 x,.slice none 0 0,.bool a] 68)).alloc (.cells #[.int .i64 y,.slice none 0 0,.bool b] 68)) 68 #[.int .i64 0,.slice none 0 0,.bool false];simp only [World.size_alloc] at u j
     go_in
     go_wp2_with fail
     go_region_held3 (fun w' =>w'.cell? ⟨w.heap.size,0,none⟩=some (.int .i64 x)/\w'.cell? ⟨w.heap.size,1,none⟩=some (.slice none 0 0)/\w'.cell? ⟨w.heap.size,2,none⟩=some (.bool a)/\
      w'.cell? ⟨w.heap.size+1,0,none⟩=some (.int .i64 y)/\w'.cell? ⟨w.heap.size+1,1,none⟩=some (.slice none 0 0)/\w'.cell? ⟨w.heap.size+1,2,none⟩=some (.bool b)/\
      w.heap.size<w'.heap.size/\w.heap.size+1<w'.heap.size/\Hid (Blk w' (w.heap.size+1) 68 #[.int .i64 y,.slice none 0 0,.bool b])/\Hid (Blk w' (w.heap.size+1+1) 68 #[.int .i64 0,.slice none 0 0,.bool false])/\Hid (Below w.heap.size w w'))
      (first
        | exact ⟨by go_keep,by go_keep,by go_keep,by go_keep,by go_keep,by go_keep,by simp;omega,by simp,ze (u.drewN 1),ze (j.drewN 1),ze (zk z 1)⟩
        | go_keep
        | (go_split_ands;exact ⟨zj ‹_› ‹_› ‹_›,zj ‹_› ‹_› ‹_›,zj ‹_› ‹_› ‹_›,zj ‹_› ‹_› ‹_›,zj ‹_› ‹_› ‹_›,zj ‹_› ‹_› ‹_›,zG ‹_› ‹_›,zG ‹_› ‹_›,ZF ‹_› ‹_›,ZF ‹_› ‹_›,zp ‹_› ‹_›⟩))
      (first
        | (go_at_call_of 115 (Value.agg #[Value.int .i64 x,.slice none 0 0,.bool a]);refine (hx _).mono ?_;rintro e J ⟨rfl,l⟩)
        | (go_at_call_of 115 (Value.agg #[Value.int .i64 y,.slice none 0 0,.bool b]);refine (hy _).mono ?_;rintro e J ⟨rfl,l⟩)
        | (go_at_call 123;refine (hm _).mono ?_;rintro e J ⟨rfl,rfl⟩))
     go_split_ands;have X :=zM (by assumption:Hid (Below w.heap.size w _));have af :=zM (by assumption:Hid (Blk _ (w.heap.size+1) _ _));have ae :=zM (by assumption:Hid (Blk _ (w.heap.size+1+1) _ _));have K:=ha.below X;have M:=hb.below X;clear z u j;have z:=X;have u:=af;have j:=ae;clear X af ae;go_wp2_with fail;refine (vr _ s n _ K hs).mono ?_;rintro e J ⟨p,rfl,S,l⟩;have O:=u.below l u.lt;obtain ⟨I,E,F,_⟩:=bp3 O;go_wp2_with fail;refine (vr _ t m J (M.below l) ht).mono ?_;rintro e w2 ⟨p',rfl,aa,D⟩;have ac:=S.below D;have C:=(j.below l j.lt).below D (j.below l j.lt).lt;have Z:=ext (ext z l) D;clear l D z j u O I E F K M S;go_wp2_with fail;refine (zdz p p' n m w2 ac aa ag.o ah.o).mono ?_;rintro e w3 ⟨q,rfl,hq,G⟩;go_wp2_with fail;refine (yl (s != t) q (n*m) w3 hq).mono ?_;rintro e w4 ⟨v,rfl,U,V⟩;obtain ⟨R,A',T,Q,N,rfl,_,_,_⟩:=U.form;have r:=(C.below G C.lt).below V (C.below G C.lt).lt;have ab:=ext (ext Z G) V
     have I:=r.cell 0;have E:=r.cell 1;have F:=r.cell 2;obtain ⟨f0,f1,f2⟩:=fp3 r;simp at I E F;go_wp2;have kD:=yp (x:=R) (A:=A') (k:=T) (c:=Q) (ng:=N) r;obtain ⟨d0,d1,Y,_⟩:=bp3 kD;refine bodyPost_ret (v:=.agg #[.int .i64 R,.slice A' T Q,.bool N]) (by simp [results,results72,go_sem,d0,d1,Y]) rfl ?_;exact ⟨_,rfl,zB (by rw [Xm];exact U) r,zT ab (by omega)⟩
theorem xY (va vb:Value) (z y:Int) (w:World) (ha:zY w va z) (hb:zY w vb y) (hla:len 4294967296 z.natAbs<=67108864) (hlb:len 4294967296 y.natAbs<=67108864):
 Calls prog 72 #[va,vb] w (Y6 w (z*y)):=by
 have J :=ha
 have G :=hb
 obtain ⟨D,A,k,c,s,rfl,C,r,l⟩:=ha.form
 obtain ⟨F,B,k',c',t,rfl,E,u,j⟩:=hb.form
 by_cases m:A=none/\B=none/\D.natAbs*F.natAbs<4611686018427387904
 . obtain ⟨b,e,I⟩:=m
   obtain ⟨rfl,rfl,rfl⟩:=l b;obtain ⟨rfl,rfl,rfl⟩:=j e;subst b e;exact zua z y s t _ w C r E u rfl I
 have:=ztq (decide (z<0)) (decide (y<0)) z.natAbs y.natAbs D F A B k c k' c' s t w C r E u (fun h=>⟨(l h).1,(l h).2.1⟩) (fun h=>⟨(j h).1,(j h).2.1⟩) (by rw [xi];exact J) (by rw [xi];exact G) Yu Yu hla hlb (by
  unfold zrs
  by_cases b:A=none
  . by_cases e:B=none
    . exact .inr (.inr ⟨b,e,Nat.le_of_not_lt fun h=>m ⟨b,e,h⟩⟩)
    exact .inr (.inl ⟨b,e⟩)
  . exact .inl b)
 rwa [xi,xi] at this
def zkq (w:World) (z y:Int) (e:Ending) (w' :World):Prop:=∃ v v',e= .returned (.tuple #[v,v'])/\zY w' v z/\zY w' v' y/\Below w.heap.size w w'
theorem vP {W:World} {g g' :Nat} {t:TypeId} {x:Int} {A:Option Addr} {k c:Nat} {ng:Bool} {cs:Array Value} (hk:Blk W g t cs) (hne:g≠g'):Blk (World.num W g' x A k c ng) g t cs:=
 ((hk.far hne _).far hne _).far hne _
theorem zey (s t:Bool) (n m:Nat):(signed s n).tdiv (signed t m)=signed (s != t) (n / m):=by
 cases s<;>cases t<;>unfold signed<;>simp [Int.neg_tdiv,Int.tdiv_neg,Int.ofNat_tdiv]
theorem zdh (s t:Bool) (n m:Nat):(signed s n).tmod (signed t m)=signed s (n % m):=by
 cases s<;>cases t<;>unfold signed<;>simp [Int.neg_tmod,Int.tmod_neg,Int.ofNat_tmod,Int.tmod_eq_emod_of_nonneg]
theorem zeq {x y:Int} (h1: -4611686018427387904<x) (h2:x<4611686018427387904): -4611686018427387904<x.tdiv y/\x.tdiv y<4611686018427387904:=by
 have:=Int.natAbs_tdiv_le_natAbs x y
 omega
theorem zj7 {x y:Int} (h1: -4611686018427387904<x) (h2:x<4611686018427387904): -4611686018427387904<x.tmod y/\x.tmod y<4611686018427387904:=by
 have:=Int.natAbs_tmod x y
 have b:=Nat.mod_le x.natAbs y.natAbs
 omega
theorem ztx (x y:Int) (a b:Bool) (w:World) (h1: -4611686018427387904<x) (h2:x<4611686018427387904) (h3: -4611686018427387904<y) (h4:y<4611686018427387904) (hy:y≠0):
 Calls prog 118 #[.agg #[.int .i64 x,.slice none 0 0,.bool a],.agg #[.int .i64 y,.slice none 0 0,.bool b]] w (zkq w (x.tdiv y) (x.tmod y)):=by
 have r:=fun w=>zo1 w none 0 0 0 0
 have u:(y == 0)=false:=uD hy
 obtain ⟨e,l⟩:=zeq (y:=y) h1 h2
 obtain ⟨m,j⟩:=zj7 (y:=y) h1 h2
 go_in
 go_wp2_with fail
 go_region
 go_wp2
 refine bodyPost_ret (v:=.tuple #[.agg #[.int .i64 (x.tdiv y),.slice none 0 0,.bool false],.agg #[.int .i64 (x.tmod y),.slice none 0 0,.bool false]]) (by simp [results,results118,go_sem]) rfl ?_
 exact ⟨_,_,rfl,.inl ⟨_,_,rfl,e,l,rfl⟩,.inl ⟨_,_,rfl,m,j,rfl⟩,zk (ext (ext (ext (zf _ _) (zf _ _)) (zf _ _)) (zf _ _)) 1⟩
def zpo (A B:Option Addr):Prop:=A≠none\/(A=none/\B≠none)
theorem zud (s t:Bool) (n m:Nat) (x y:Int) (A B:Option Addr) (k c k' c' :Nat) (a b:Bool) (w:World) (h1: -4611686018427387904<x) (h2:x<4611686018427387904) (h3: -4611686018427387904<y) (h4:y<4611686018427387904)
 (ha:zY w (.agg #[.int .i64 x,.slice A k c,.bool a]) (signed s n)) (hb:zY w (.agg #[.int .i64 y,.slice B k' c',.bool b]) (signed t m)) (hs:s=true->0<n) (ht:t=true->0<m) (hm0:0<m)
 (hln:len 4294967296 n<=33554432) (hlm:len 4294967296 m<=33554432) (hsl:zpo A B):
 Calls prog 118 #[.agg #[.int .i64 x,.slice A k c,.bool a],.agg #[.int .i64 y,.slice B k' c',.bool b]] w (zkq w ((signed s n).tdiv (signed t m)) ((signed s n).tmod (signed t m))):=by
 have q1:=fun w=>zo1 w A k c 0 0
 have q2:=fun w=>zo1 w B k' c' 0 0
 have am:=ze hln
 have an:=ze hlm
 clear hln hlm
 rcases hsl with h | ⟨h,h'⟩
 . obtain ⟨ad,rfl⟩:=Option.ne_none_iff_exists'.1 h
   clear h
   go_in
   go_wp2_with fail;have F:=(ext (ext (ext (zf w (.cells #[.int .i64 x,.slice (some ad) k c,.bool a] 68)) (zf _ (.cells #[.int .i64 y,.slice B k' c',.bool b] 68))) (zf _ (.cells #[.int .i64 0,.slice none 0 0,.bool false] 68))) (zf _ (.cells #[.int .i64 0,.slice none 0 0,.bool false] 68)));have X:=ha.below F;have hB:=hb.below F;have K:=((Blk.new (w.alloc (.cells #[.int .i64 x,.slice (some ad) k c,.bool a] 68)) 68 #[.int .i64 y,.slice B k' c',.bool b]).alloc (.cells #[.int .i64 0,.slice none 0 0,.bool false] 68)).alloc (.cells #[.int .i64 0,.slice none 0 0,.bool false] 68);have u:=(Blk.new ((w.alloc (.cells #[.int .i64 x,.slice (some ad) k c,.bool a] 68)).alloc (.cells #[.int .i64 y,.slice B k' c',.bool b] 68)) 68 #[.int .i64 0,.slice none 0 0,.bool false]).alloc (.cells #[.int .i64 0,.slice none 0 0,.bool false] 68);have l:=Blk.new (((w.alloc (.cells #[.int .i64 x,.slice (some ad) k c,.bool a] 68)).alloc (.cells #[.int .i64 y,.slice B k' c',.bool b] 68)).alloc (.cells #[.int .i64 0,.slice none 0 0,.bool false] 68)) 68 #[.int .i64 0,.slice none 0 0,.bool false];simp only [World.size_alloc] at K u l
   generalize (((w.alloc (.cells #[.int .i64 x,.slice (some ad) k c,.bool a] 68)).alloc (.cells #[.int .i64 y,.slice B k' c',.bool b] 68)).alloc (.cells #[.int .i64 0,.slice none 0 0,.bool false] 68)).alloc (.cells #[.int .i64 0,.slice none 0 0,.bool false] 68)=W at X hB K u l F |-;refine (vr _ s n W X hs).mono ?_;rintro e w1 ⟨p,rfl,hp,j⟩;have ae:=K.below j K.lt;obtain ⟨c0,Y,Z,_⟩:=bp3 ae;go_wp2_with fail;refine (vr _ t m w1 (hB.below j) ht).mono ?_;rintro e w2 ⟨p',rfl,ag,I⟩;have ah:=hp.below I;have aa:=(u.below j u.lt).below I (u.below j u.lt).lt;have O:=(l.below j l.lt).below I (l.below j l.lt).lt;have ab:=ext (ext F j) I;clear j I F u K l ae c0 Y Z X hB hp;go_wp2_with fail;refine (zko p p' n m w2 ah ag hm0 am.o an.o).mono ?_;rintro e w3 ⟨q,r,rfl,hq,hr,L⟩;have D:=aa.below L aa.lt;have E:=O.below L O.lt;have ak:=ext ab L;clear aa O ab ah ag L;go_wp2_with fail;refine (yl (s != t) q (n / m) w3 hq).mono ?_;rintro e w4 ⟨v,rfl,hv,C⟩;go_wp2_with fail
   refine (yl s r (n % m) w4 (hr.below C)).mono ?_;rintro e w5 ⟨v',rfl,ac,G⟩;have af:=hv.below G;obtain ⟨V,A',k2,T,M,rfl,_,_,_⟩:=af.form;obtain ⟨N,A3,R,c3,Q,rfl,_,_,_⟩:=ac.form;have z:=(D.below C D.lt).below G (D.below C D.lt).lt;have J:=(E.below C E.lt).below G (E.below C E.lt).lt;have al:=ext (ext ak C) G;clear D E ak C G hq hr hv;have c0:=z.cell 0;have Y:=z.cell 1;have Z:=z.cell 2;obtain ⟨f0,f1,f2⟩:=fp3 z;have d0:=J.cell 0;have d1:=J.cell 1;have d2:=J.cell 2;obtain ⟨g0,g1,g2⟩:=fp3 J;simp at c0 Y Z d0 d1 d2;go_wp2;have kE:=yp (x:=V) (A:=A') (k:=k2) (c:=T) (ng:=M) z;have U:=vP (g' :=w.heap.size+1+1) (x:=V) (A:=A') (k:=k2) (c:=T) (ng:=M) J (by omega);have kG:=vP (g' :=w.heap.size+1+1+1) (x:=N) (A:=A3) (k:=R) (c:=c3) (ng:=Q) kE (by omega);have S:=yp (x:=N) (A:=A3) (k:=R) (c:=c3) (ng:=Q) U;have e0:=kG.cell 0;have e1:=kG.cell 1;have e2:=kG.cell 2
   have h0:=S.cell 0;have aj :=S.cell 1;have ai :=S.cell 2;simp at e0 e1 e2 h0 aj ai;refine bodyPost_ret (v:=.tuple #[.agg #[.int .i64 V,.slice A' k2 T,.bool M],.agg #[.int .i64 N,.slice A3 R c3,.bool Q]]) (by simp [results,results118,go_sem,e0,e1,e2,h0,aj,ai]) rfl ?_;rw [zey,zdh];exact ⟨_,_,rfl,zB (zB af z) U,zB (zB ac z) U,zT (zT al (by omega)) (by omega)⟩
 . obtain ⟨bd,rfl⟩:=Option.ne_none_iff_exists'.1 h'
   subst h;clear h'
   go_in
   go_wp2_with fail;have F:=(ext (ext (ext (zf w (.cells #[.int .i64 x,.slice none k c,.bool a] 68)) (zf _ (.cells #[.int .i64 y,.slice (some bd) k' c',.bool b] 68))) (zf _ (.cells #[.int .i64 0,.slice none 0 0,.bool false] 68))) (zf _ (.cells #[.int .i64 0,.slice none 0 0,.bool false] 68)));have X:=ha.below F;have hB:=hb.below F;have K:=((Blk.new (w.alloc (.cells #[.int .i64 x,.slice none k c,.bool a] 68)) 68 #[.int .i64 y,.slice (some bd) k' c',.bool b]).alloc (.cells #[.int .i64 0,.slice none 0 0,.bool false] 68)).alloc (.cells #[.int .i64 0,.slice none 0 0,.bool false] 68);have u:=(Blk.new ((w.alloc (.cells #[.int .i64 x,.slice none k c,.bool a] 68)).alloc (.cells #[.int .i64 y,.slice (some bd) k' c',.bool b] 68)) 68 #[.int .i64 0,.slice none 0 0,.bool false]).alloc (.cells #[.int .i64 0,.slice none 0 0,.bool false] 68);have l:=Blk.new (((w.alloc (.cells #[.int .i64 x,.slice none k c,.bool a] 68)).alloc (.cells #[.int .i64 y,.slice (some bd) k' c',.bool b] 68)).alloc (.cells #[.int .i64 0,.slice none 0 0,.bool false] 68)) 68 #[.int .i64 0,.slice none 0 0,.bool false];simp only [World.size_alloc] at K u l
   generalize (((w.alloc (.cells #[.int .i64 x,.slice none k c,.bool a] 68)).alloc (.cells #[.int .i64 y,.slice (some bd) k' c',.bool b] 68)).alloc (.cells #[.int .i64 0,.slice none 0 0,.bool false] 68)).alloc (.cells #[.int .i64 0,.slice none 0 0,.bool false] 68)=W at X hB K u l F |-;refine (vr _ s n W X hs).mono ?_;rintro e w1 ⟨p,rfl,hp,j⟩;have ae:=K.below j K.lt;obtain ⟨c0,Y,Z,_⟩:=bp3 ae;go_wp2_with fail;refine (vr _ t m w1 (hB.below j) ht).mono ?_;rintro e w2 ⟨p',rfl,ag,I⟩;have ah:=hp.below I;have aa:=(u.below j u.lt).below I (u.below j u.lt).lt;have O:=(l.below j l.lt).below I (l.below j l.lt).lt;have ab:=ext (ext F j) I;clear j I F u K l ae c0 Y Z X hB hp;go_wp2_with fail;refine (zko p p' n m w2 ah ag hm0 am.o an.o).mono ?_;rintro e w3 ⟨q,r,rfl,hq,hr,L⟩;have D:=aa.below L aa.lt;have E:=O.below L O.lt;have ak:=ext ab L;clear aa O ab ah ag L;go_wp2_with fail;refine (yl (s != t) q (n / m) w3 hq).mono ?_;rintro e w4 ⟨v,rfl,hv,C⟩;go_wp2_with fail
   refine (yl s r (n % m) w4 (hr.below C)).mono ?_;rintro e w5 ⟨v',rfl,ac,G⟩;have af:=hv.below G;obtain ⟨V,A',k2,T,M,rfl,_,_,_⟩:=af.form;obtain ⟨N,A3,R,c3,Q,rfl,_,_,_⟩:=ac.form;have z:=(D.below C D.lt).below G (D.below C D.lt).lt;have J:=(E.below C E.lt).below G (E.below C E.lt).lt;have al:=ext (ext ak C) G;clear D E ak C G hq hr hv;have c0:=z.cell 0;have Y:=z.cell 1;have Z:=z.cell 2;obtain ⟨f0,f1,f2⟩:=fp3 z;have d0:=J.cell 0;have d1:=J.cell 1;have d2:=J.cell 2;obtain ⟨g0,g1,g2⟩:=fp3 J;simp at c0 Y Z d0 d1 d2;go_wp2;have kE:=yp (x:=V) (A:=A') (k:=k2) (c:=T) (ng:=M) z;have U:=vP (g' :=w.heap.size+1+1) (x:=V) (A:=A') (k:=k2) (c:=T) (ng:=M) J (by omega);have kG:=vP (g' :=w.heap.size+1+1+1) (x:=N) (A:=A3) (k:=R) (c:=c3) (ng:=Q) kE (by omega);have S:=yp (x:=N) (A:=A3) (k:=R) (c:=c3) (ng:=Q) U;have e0:=kG.cell 0;have e1:=kG.cell 1;have e2:=kG.cell 2
   have h0:=S.cell 0;have aj :=S.cell 1;have ai :=S.cell 2;simp at e0 e1 e2 h0 aj ai;refine bodyPost_ret (v:=.tuple #[.agg #[.int .i64 V,.slice A' k2 T,.bool M],.agg #[.int .i64 N,.slice A3 R c3,.bool Q]]) (by simp [results,results118,go_sem,e0,e1,e2,h0,aj,ai]) rfl ?_;rw [zey,zdh];exact ⟨_,_,rfl,zB (zB af z) U,zB (zB ac z) U,zT (zT al (by omega)) (by omega)⟩
theorem zbv (va vb:Value) (z y:Int) (w:World) (ha:zY w va z) (hb:zY w vb y) (hy:y≠0) (hla:len 4294967296 z.natAbs<=33554432) (hlb:len 4294967296 y.natAbs<=33554432):
 Calls prog 118 #[va,vb] w (zkq w (z.tdiv y) (z.tmod y)):=by
 have D :=ha
 have C :=hb
 obtain ⟨F,A,k,c,s,rfl,r,l,I⟩:=ha.form
 obtain ⟨G,B,k',c',t,rfl,u,m,E⟩:=hb.form
 by_cases j:A=none/\B=none
 . obtain ⟨b,e⟩:=j
   obtain ⟨rfl,rfl,rfl⟩:=I b;obtain ⟨rfl,rfl,rfl⟩:=E e;subst b e;exact ztx z y s t w r l u m hy
 have:=zud (decide (z<0)) (decide (y<0)) z.natAbs y.natAbs F G A B k c k' c' s t w r l u m (by rw [xi];exact D) (by rw [xi];exact C) Yu Yu (by omega) hla hlb (by
  unfold zpo
  by_cases b:A=none
  . exact .inr ⟨b,fun e=>j ⟨b,e⟩⟩
  exact .inl b)
 rwa [xi,xi] at this
theorem zef (va vb:Value) (z y:Int) (w:World) (ha:zY w va z) (hb:zY w vb y) (hla:len 4294967296 z.natAbs<=67108864) (hlb:len 4294967296 y.natAbs<=67108864):
 Calls prog 119 #[va,vb] w (Y6 w (z - y)):=by
 have X :=ha
 have U :=hb
 obtain ⟨F,A,k,c,s,rfl,h1,Z,hA⟩:=X.form
 obtain ⟨r,B,k',c',t,rfl,h3,h4,hB⟩:=U.form
 have O:len 4294967296 (-y).natAbs<=67108864:=by rw [Int.natAbs_neg];exact hlb
 have aa:=ze O
 have ab:=ze hla
 have j:=zk (ext (ext (zf w (.cells #[.int .i64 F,.slice A k c,.bool s] 68)) (zf _ (.cells #[.int .i64 r,.slice B k' c',.bool t] 68))) (zf _ (.cells #[.int .i64 0,.slice none 0 0,.bool false] 68))) 1
 have M:=ha.below j
 have R:=hb.below j
 have V:=(((Blk.new w 68 #[.int .i64 F,.slice A k c,.bool s]).alloc (.cells #[.int .i64 r,.slice B k' c',.bool t] 68)).alloc (.cells #[.int .i64 0,.slice none 0 0,.bool false] 68)).drewN 1
 have u:=(Blk.new ((w.alloc (.cells #[.int .i64 F,.slice A k c,.bool s] 68)).alloc (.cells #[.int .i64 r,.slice B k' c',.bool t] 68)) 68 #[.int .i64 0,.slice none 0 0,.bool false]).drewN 1
 simp only [World.size_alloc] at u
 obtain ⟨HW,ad,ac,N,l⟩:=hz5 j M R V u
 clear j M R V u O hla hlb h1 Z h3 h4 hA hB ha hb X U
 go_in
 go_wp2_with fail
 go_region_with (first
  | (go_at_call 114;refine (xj _ y _ ac.o).mono ?_;rintro e w1 ⟨v,rfl,hv,m⟩;obtain ⟨x',A',k2,af,ae,rfl,_,_,_⟩:=hv.form;have E:=N.o.below m N.o.lt;have G:=E.cell 0;have C:=E.cell 1;have D:=E.cell 2;simp at G C D)
  | (go_at_call 82;refine (zhe _ _ z (-y) _ (ad.o.below ‹_›) ‹_› ab.o aa.o).mono ?_;rintro e w2 ⟨v,rfl,J,S⟩;obtain ⟨I,T,L,Q,K,rfl,_,_,_⟩:=J.form;have b:=(l.o.below m l.o.lt).below S (l.o.below m l.o.lt).lt;have G:=b.cell 0;have C:=b.cell 1;have D:=b.cell 2;have f0:=b.frozen 0;have f1:=b.frozen 1;have f2:=b.frozen 2;simp at G C D))
 all_goals
  go_wp2
  have kD:=yp (x:=I) (A:=T) (k:=L) (c:=Q) (ng:=K) b
  obtain ⟨d0,d1,Y,_⟩:=bp3 kD
  refine bodyPost_ret (v:=.agg #[.int .i64 I,.slice T L Q,.bool K]) (by simp [results,results119,go_sem,d0,d1,Y]) rfl ?_
  exact ⟨_,rfl,zB (by rw [Int.sub_eq_add_neg];exact J) b,zT (ext (ext HW.o m) S) (by omega)⟩
theorem zg5 (va vb:Value) (z y:Int) (w:World) (ha:zY w va z) (hb:zY w vb y) (hla:len 4294967296 z.natAbs<=67108864) (hlb:len 4294967296 y.natAbs<=67108864):
 Calls prog 64 #[va,vb] w (VE w (.int .i64 (zO z y))):=by
 have l :=ha
 have j :=hb
 obtain ⟨T,A,k,c,s,rfl,E,r,F⟩:=l.form
 obtain ⟨C,B,k',c',t,rfl,K,D,S⟩:=j.form
 have u:=ze hlb
 have G:=ze hla
 have b:=ext (zf w (.cells #[.int .i64 T,.slice A k c,.bool s] 68)) (zf _ (.cells #[.int .i64 C,.slice B k' c',.bool t] 68))
 have M:=ze b
 have N:=ze (ha.below b)
 have J:=ze (hb.below b)
 clear b hla hlb E r K D F S ha hb l j
 go_in
 go_wp2_with fail
 refine (zef _ _ z y _ N.o J.o G.o u.o).mono ?_
 rintro e m ⟨v,rfl,Q,R⟩
 go_wp2_with fail
 refine (X9 v (z - y) m Q).mono ?_
 rintro e w2 ⟨rfl,L⟩
 go_wp2
 go_ret
 refine ⟨?_,ext (ext M.o R) L⟩
 unfold zO
 have O:z - y<0↔z<y:=by omega
 have I:0<z - y↔y<z:=by omega
 simp only [O,I]
 rfl
theorem ztp (l:List UInt8):(⟨#[45]⟩:ByteArray) ++ (⟨l.toArray⟩:ByteArray)=⟨((45:UInt8) :: l).toArray⟩:=by
 apply ByteArray.ext
 rw [ByteArray.data_append]
 simp
theorem Yq {a:Nat} (h:len 4294967296 a<=67108864):(dec a).length<=671088641:=by
 unfold dec
 by_cases b:a=0
 . rw [if_pos b];simp
 rw [if_neg b,List.length_map,List.length_reverse]
 have:=VM h;unfold len at this
 omega
def xG (z:Int):List UInt8:=if z<0 then 45 :: dec z.natAbs else dec z.natAbs
theorem zan (va:Value) (z:Int) (w:World) (ha:zY w va z) (hla:len 4294967296 z.natAbs<=67108864):
 Calls prog 93 #[va] w (zmj w (xG z)):=by
 obtain ⟨G,A,k,c,s,rfl,F,E,I⟩:=ha.form
 have B:=ze hla
 have m:=zf w (.cells #[.int .i64 G,.slice A k c,.bool s] 68)
 have C:=ze m
 have D:=ze (ha.below m)
 clear m hla F E I ha
 by_cases j:z<0
 rotate_left
 . have b:=fun v w h=>Z2 v z w h
   unfold zdd at b;rw [uF j] at b;unfold xG;rw [if_neg j]
   go_in
   go_wp2_with fail;refine (b _ _ D.o).mono ?_;rintro e l ⟨v,rfl,r,u⟩;go_wp2_with fail;refine (YL v _ l r B.o).mono ?_;rintro e w2 ⟨rfl,y⟩;go_wp2;go_ret;exact ⟨rfl,ext (ext C.o u) y⟩
 have b:=fun v w h=>Z2 v z w h
 unfold zdd at b;rw [uE j] at b;unfold xG;rw [if_pos j]
 have J:¬ 9223372036854775807<1+(dec z.natAbs).length:=by
  have:=Yq B.o
  omega
 go_in
 go_wp2_with fail;refine (b _ _ D.o).mono ?_;rintro e l ⟨v,rfl,r,u⟩;go_wp2_with fail;refine (YL v _ l r B.o).mono ?_;rintro e w2 ⟨rfl,y⟩;go_wp2;go_ret;refine ⟨?_,ext (ext C.o u) y⟩;rw [ztp]
 rfl
theorem zo {A B:Prop} (a:A) (f:A->B):A/\B:=⟨a,f a⟩
section
variable {W w w' :World}
theorem zq {g i:Nat} {v:Value} (h:Hid (Below W.heap.size W w)) (hl:g<W.heap.size) (hc:W.cell? ⟨g,i,none⟩=some v):w.cell? ⟨g,i,none⟩=some v:=(h.out.cell hl).trans hc
theorem xy {a:Addr} {i:Nat} {v:Value} (h:Hid (Below W.heap.size W w)) (hl:a.block<W.heap.size) (hc:W.cell? (a.add i)=some v):w.cell? (a.add i)=some v:=(h.out.cell (by rw [zD];exact hl)).trans hc
theorem Vh {a:Addr} {i j:Nat} {v:Value} (h:Hid (Below W.heap.size W w)) (hl:a.block<W.heap.size) (hc:W.cell? ⟨(a.add i).block,(a.add i).off+j,none⟩=some v):w.cell? ⟨(a.add i).block,(a.add i).off+j,none⟩=some v:=
 (h.out.cell (by simp only [zD];exact hl)).trans hc
theorem zew {o:Obj} (h:Hid (Below W.heap.size W w)):Hid (Below W.heap.size W (w.alloc o)):=ext h.out (zf w o)
theorem zt (W:World):Hid (Below W.heap.size W W.drew):=zk (yR W) 1
theorem yU (W:World) (o:Obj):Hid (Below W.heap.size W (W.alloc o).drew):=zk (zf W o) 1
end
def VG (w:World) (B:Nat) (v:Value) (n:Nat):Prop:=
 ∃ A c ds,v= .slice A ds.length c/\ds.length<=c/\c<=maxLen/\yc w B 1 A ds.length (ZL ds)/\yZ 1000000000 ds/\val 1000000000 ds=n
abbrev zz (w:World) (v:Value) (n:Nat):Prop:=VG w w.heap.size v n
theorem VG.below {w w' :World} {B B' :Nat} {v:Value} {n:Nat} (h:VG w B v n) (hb:Below B w w') (hB:B<=B'):VG w' B' v n:=by
 obtain ⟨A,c,ds,l,e,r,j,m,b⟩:=h
 exact ⟨A,c,ds,l,e,r,(j.below hb).more hB,m,b⟩
theorem zz.below {w w' :World} {v:Value} {n:Nat} (h:zz w v n) (hb:Below w.heap.size w w'):zz w' v n:=VG.below h hb hb.size
def zge (w:World) (n:Nat) (e:Ending) (w' :World):Prop:=∃ v,e= .returned v/\zz w' v n/\Below w.heap.size w w'
def zxx (w:World) (B n:Nat) (e:Ending) (w' :World):Prop:=∃ v,e= .returned v/\VG w B v n/\w=w'
theorem Zr {a b:Int} (h:a=b):Ending.returned (.int .i64 b)= .returned (.int .i64 a):=by rw [h]
theorem znd {ds:List Nat} {k:Nat} (hk:k<ds.length) (h:val 1000000000 (ds.take (k+1))=val 1000000000 ds) (h0:ds[k]=0):val 1000000000 (ds.take k)=val 1000000000 ds:=by
 rw [yV _ _ _ hk,h0] at h
 omega
theorem zpc {k:Nat} {ds:List Nat} (hs:zF 1000000000 ds) (hk:k<=ds.length) (hlast:∀ h:0<k,ds[k - 1]≠0):yZ 1000000000 (ds.take k):=by
 have b:(ds.take k).length=k:=by rw [List.length_take];omega
 refine yZ.mk_ (hs.take k) ?_
 intro h
 rw [List.getElem_take]
 have:=hlast (by omega)
 simp only [b]
 exact this
theorem zl0 {w:World} {B c k:Nat} {A:Option Addr} {ds:List Nat} (hr:yc w B 1 A ds.length (ZL ds)) (hs:zF 1000000000 ds) (hl:ds.length<=c) (hc:c<=maxLen) (hk:k<=ds.length)
 (hlast:∀ h:0<k,ds[k - 1]≠0) (hv:val 1000000000 (ds.take k)=val 1000000000 ds):VG w B (.slice A k c) (val 1000000000 ds):=by
 have b:(ds.take k).length=k:=by rw [List.length_take];omega
 refine ⟨A,c,ds.take k,by rw [b],by omega,hc,?_,zpc hs hk hlast,hv⟩
 have:=hr.head (k:=k) hk
 rw [b, <- zo8]
 simpa using this
def zsm (w:World) (B:Nat) (A:Option Addr) (c n:Nat) (e:Ending) (w' :World):Prop:=∃ k,e= .returned (.slice A k c)/\VG w B (.slice A k c) n/\w=w'
theorem zfv (A:Option Addr) (n c:Nat) (ds:List Nat) (w:World) (B:Nat) (hr:yc w B 1 A n (ZL ds)) (hs:zF 1000000000 ds) (hl:n<=c) (hc:c<=maxLen):
 Calls prog 165 #[.slice A n c] w (zsm w B A c (val 1000000000 ds)):=by
 have r:ds.length=n:=by have:=hr.1;rw [Xr] at this;omega
 subst r
 have m:=ze hc
 unfold maxLen at hc
 go_in
 go_wp2
 go_loop [0] (fun v=>∃ k:Nat,k<=ds.length/\v= .slice A k c/\Hid (val 1000000000 (ds.take k)=val 1000000000 ds)) (fun v=>match v with | .slice _ n _=>n | _=>0)
 case atStart=>exact ⟨ds.length,uA,rfl,by rw [List.take_length];exact rfl⟩
 case round=>
  obtain ⟨k,l,rfl,e⟩:=hrel
  by_cases y:0<k
  rotate_left
  . obtain rfl:k=0:=by omega
    go_wp2;go_ret;exact ⟨_,rfl,zl0 hr hs hl m.o l (fun h=>absurd h (by omega)) e.o,rfl⟩
  obtain ⟨C,u,rfl,hb,b,z⟩:=hr.at_ (k:=k - 1) (by omega)
  rw [vH (by omega)] at b;injection b with b
  subst b
  by_cases j:ds[k - 1]=0
  rotate_left
  . have g0:((ds[k - 1]:Int) == 0)=false:=by rw [beq_eq_false_iff_ne];omega
    go_wp2;go_ret;exact ⟨_,rfl,zl0 hr hs hl m.o l (fun _=>j) e.o,rfl⟩
  have g0:((ds[k - 1]:Int) == 0)=true:=by rw [j];rfl
  go_wp2;go_round
  case rel=>
   refine ⟨k - 1,by omega,rfl,?_⟩;exact znd (by omega) (by rw [show k - 1+1=k by omega];exact e.o) j
  case measure=>simp;omega
theorem Yn (A:Option Addr) (n c:Nat) (ds:List Nat) (w:World) (B:Nat) (hr:yc w B 1 A n (ZL ds)) (hs:zF 1000000000 ds) (hl:n<=c) (hc:c<=maxLen):
 Calls prog 165 #[.slice A n c] w (zxx w B (val 1000000000 ds)):=
 (zfv A n c ds w B hr hs hl hc).mono fun _ _ ⟨k,h1,h2,h3⟩=>⟨_,h1,h2,h3⟩
theorem zv7 {da db:List Nat} (hl:da.length=db.length) (hsa:zF 1000000000 da) (hsb:zF 1000000000 db) (k:Nat) (hk:k<da.length) (h:∀ p,k+1<=p->da.getD p 0=db.getD p 0) (hne:da.getD k 0≠db.getD k 0):
 zO (da.getD k 0) (db.getD k 0)=zO (val 1000000000 da) (val 1000000000 db):=by
 have m:∀ j (e:j<da.length) (b:j<db.length),k<j->da[j]=db[j]:=by
  intro j e b l
  have:=h j (by omega)
  rwa [zy e,zy b] at this
 rw [zy hk,zy (by omega)] at hne |-
 rcases uL da[k] (db[k]'(by omega)) with r | r
 . have:=zar hl hsa k hk m r
   unfold zO;rw [if_pos (by omega),if_pos (by omega)]
 . have u :db[k]'(by omega)<da[k]:=by omega
   have:=zar hl.symm hsb k (by omega) (fun j e b l=>(m j b e l).symm) u;unfold zO;rw [if_neg (by omega),if_pos (by omega),if_neg (by omega),if_pos (by omega)]
theorem Zo (va vb:Value) (a b:Nat) (w:World) (ha:zz w va a) (hb:zz w vb b) (hla:len 1000000000 a<=67108864) (hlb:len 1000000000 b<=67108864):
 Calls prog 157 #[va,vb] w (RetD w (.int .i64 (zO a b))):=by
 obtain ⟨A,ca,j,rfl,V,S,ab,F,rfl⟩:=ha
 obtain ⟨B,cb,l,rfl,Y,k2,X,K,rfl⟩:=hb
 rw [<- F.length_eq (by omega)] at hla
 rw [<- K.length_eq (by omega)] at hlb
 have ac:=F.1
 have ad:=K.1
 by_cases I:j.length=l.length
 rotate_left
 . have ah:((j.length:Int) != (l.length:Int))=true:=by rw [bne_iff_ne];omega
   rcases (show j.length<l.length\/l.length<j.length by omega) with h | h
   . have:=yZ.lt_of_length (by omega) F.1 K h
     have y:zO (val 1000000000 j:Int) (val 1000000000 l)= -1:=by unfold zO;rw [if_pos (by omega)]
     have M:=ze y;clear y
     go_in
     go_wp2;go_ret;exact ⟨Zr M.o,0,rfl⟩
   . have:=yZ.lt_of_length (by omega) K.1 F h
     have y:zO (val 1000000000 j:Int) (val 1000000000 l)=1:=by unfold zO;rw [if_neg (by omega),if_pos (by omega)]
     have M:=ze y;clear y
     go_in
     go_wp2;go_ret;exact ⟨Zr M.o,0,rfl⟩
 have hc:((j.length:Int) != (l.length:Int))=false:=by rw [I,bne_self_eq_false]
 have J:=ze I;rw [<- I] at X Y hc |-;clear I
 go_in
 go_wp2
 go_loopw [5] (CmpR j l w) (fun iv _=>(intOf iv+1).toNat)
 case atStart=>
  refine ⟨j.length,0,uA,rfl,?_,rfl⟩;intro p N;rw [xl N,xl (by have:=J.o;omega)]
 case round=>
  obtain ⟨k,m,hk,rfl,Q,rfl⟩:=hrel
  by_cases ak:0<k
  rotate_left
  . obtain rfl:k=0:=by omega
    have U:zO (val 1000000000 j) (val 1000000000 l)=0:=by
     have:j=l:=by
      apply List.ext_getElem J.o
      intro i V S;have:=Q.o i (by omega)
      rwa [zy V,zy S] at this
     rw [this];unfold zO;rw [if_neg (by omega),if_neg (by omega)]
    have aa:=ze U;clear U;go_wp2;go_ret;exact ⟨Zr aa.o,m,rfl⟩
  have T:k - 1<l.length:=by have:=J.o;omega
  have O:k - 1<j.length:=by omega
  obtain ⟨am,u,rfl,aj,r,an⟩:=ab.at_ (k:=k - 1) O;rw [vH O] at r;injection r with r
  subst r;obtain ⟨ai,u,rfl,al,r,ag⟩:=X.at_ (k:=k - 1) (by omega);rw [vH T] at r;injection r with r
  subst r;have E:j.getD (k - 1) 0=j[k - 1]:=zy O;have C:l.getD (k - 1) 0=l[k - 1]:=zy T;have hi:((k:Int) - 1).toNat=k - 1:=by omega
  by_cases z:j.getD (k - 1) 0=l.getD (k - 1) 0
  . have R:=ze z
    have g0:((j[k - 1]:Int) != (l[k - 1]:Int))=false:=by rw [<- E, <- C,z,bne_self_eq_false]
    clear z E C;go_wp2
    go_quiet (fail)
    go_wp2;go_roundw
    case rel=>
     refine ⟨k - 1,m+nq,by omega,congrArg _ (by omega),?_,rfl⟩;intro p N
     by_cases ae:p=k - 1
     . subst ae;exact R.o
     exact Q.o p (by omega)
    case measure=>simp [intOf];omega
  have R:=ze z
  have g0:((j[k - 1]:Int) != (l[k - 1]:Int))=true:=by
   rw [<- E, <- C,bne_iff_ne];omega
  have y:=zv7 J.o ac ad (k - 1) (by omega) (fun p N=>Q.o p (by omega)) R.o;rw [E,C] at y;have G:=ze y;clear z E C y
  rcases (show j[k - 1]<l[k - 1]\/¬ j[k - 1]<l[k - 1] by omega) with Z | Z
  . have hD:decide ((j[k - 1]:Int)<(l[k - 1]:Int))=true:=uE (by omega)
    have D:zO (j[k - 1]:Int) (l[k - 1]:Int)= -1:=by unfold zO;rw [if_pos (by omega)]
    have L:=ze (G.o.symm.trans D);clear G D;go_wp2
    go_quiet (fail)
    go_wp2
    go_quiet (fail)
    go_wp2;go_ret;exact ⟨Zr L.o,_,by rw [World.drewN_drewN,World.drewN_drewN]⟩
  . have hD:decide ((j[k - 1]:Int)<(l[k - 1]:Int))=false:=uF (by omega)
    have af:j[k - 1]≠l[k - 1]:=by
     intro e;have:=g0;rw [e,bne_self_eq_false] at this
     cases this
    have D:zO (j[k - 1]:Int) (l[k - 1]:Int)=1:=by unfold zO;rw [if_neg (by omega),if_pos (by omega)]
    have L:=ze (G.o.symm.trans D);clear G D af;go_wp2
    go_quiet (fail)
    go_wp2
    go_quiet (fail)
    go_wp2;go_ret;exact ⟨Zr L.o,_,by rw [World.drewN_drewN,World.drewN_drewN]⟩
theorem zfz:(prog.info? 3).map (fun i=>(i.zero,i.size,i.bytes))=some (some (.int .i64 0),1,8):=by kernel_rfl
theorem zdj (ds:List Nat):∀ u∈ZL ds,u.oneCell' =true:=by
 intro u hu
 obtain ⟨d,_,rfl⟩:=List.mem_map.1 hu
 rfl
def ztf (da db:List Nat) (w:World) (ov cv iv:Value) (wr:World):Prop:=
 ∃ (k c:Nat) (O:List Nat),(k<=max da.length db.length\/(k=max da.length db.length+1/\c=0))/\iv= .int .i64 k/\cv= .int .i64 c/\c<=1/\O.length=k/\zF 1000000000 O/\
  Hid (val 1000000000 O+c*1000000000 ^ k=val 1000000000 (da.take k)+val 1000000000 (db.take k))/\wr.ownsRow w.heap.size 3 1 ov k (ZL O)/\Below w.heap.size w wr
theorem ztf.step {da db:List Nat} {w wr w2:World} {k c:Nat} {O:List Nat} {ov ov2:Value} {o:Obj} (hk:k<max da.length db.length\/(k=max da.length db.length/\c=1)) (hc:c<=1) (hO:O.length=k) (hsO:zF 1000000000 O)
 (HV:Hid (val 1000000000 O+c*1000000000 ^ k=val 1000000000 (da.take k)+val 1000000000 (db.take k))) (hown:wr.ownsRow w.heap.size 3 1 ov k (ZL O)) (hbl:Below w.heap.size w wr)
 (hsa:zF 1000000000 da) (hsb:zF 1000000000 db) (t:Nat) (ht:t=c+da.getD k 0+db.getD k 0) (cv iv dv:Value) (hcv:cv= .int .i64 ((t / 1000000000:Nat):Int)) (hiv:iv= .int .i64 ((k+1:Nat):Int)) (hdv:dv= .int .i64 ((t % 1000000000:Nat):Int))
 (hown2:w2.ownsRow w.heap.size 3 1 ov2 (k+1) (ZL O ++ [dv])) (hg:(wr.alloc o).grownBy w2 ov.ownBlock):ztf da db w ov2 cv iv w2:=by
 subst hcv hiv hdv
 have j:=hsa.getD (by omega) k
 have e:=hsb.getD (by omega) k
 refine ⟨k+1,_,O ++ [t % 1000000000],?_,rfl,rfl,by omega,by simp [hO],hsO.append (zF.cons (Nat.mod_lt _ (by omega)) (zF.nil _)),?_,?_,?_⟩
 . rcases hk with h | ⟨h,b⟩
   . exact .inl (by omega)
   . refine .inr ⟨by omega,?_⟩
     rw [xl (by omega),xl (by omega)] at ht;subst ht b
     rfl
 . show _=_
   rw [ZK,hO,zN,zN,ht];exact zgs HV.o
 . rw [VN]
   exact hown2
 . exact (hbl.alloc hbl.size o).grown hg (by have:=hbl.size;simp;omega) (fun k hk=>(hown.lt k hk).1)
theorem ztf.end_ {da db O:List Nat} {k:Nat} (ha:da.length<=k) (hb:db.length<=k) (HV:Hid (val 1000000000 O+0*1000000000 ^ k=val 1000000000 (da.take k)+val 1000000000 (db.take k))):val 1000000000 O=val 1000000000 da+val 1000000000 db:=by
 have:=HV.o
 rw [uJ ha,uJ hb] at this
 omega
theorem za3 {w:World} {base:Nat} {v:Value} {n:Nat} {ds:List Nat} (h:w.ownsRow base 3 1 v n (ZL ds)):∃ A c,v= .slice A n c/\n<=c/\c<=maxLen/\yc w w.heap.size 1 A n (ZL ds):=by
 rcases h.2 with ⟨rfl,e⟩ | ⟨g,m,r,rfl,hb,z,l,j,y,u⟩
 . have b:=h.1
   rw [e] at b;subst e;have:ZL ds=[]:=uI (by simpa using b);rw [this];exact ⟨none,0,rfl,by omega,by simp [maxLen],yc.none_⟩
 . exact ⟨_,m,rfl,l,j,yc.of_own h⟩
theorem zti (va vb:Value) (a b:Nat) (w:World) (ha:zz w va a) (hb:zz w vb b) (hla:len 1000000000 a<=67108864) (hlb:len 1000000000 b<=67108864):
 Calls prog 156 #[va,vb] w (zge w (a+b)):=by
 obtain ⟨A,ca,l,rfl,h1,h2,ak,h4,rfl⟩:=ha
 obtain ⟨B,cb,j,rfl,k1,k2,af,k4,rfl⟩:=hb
 rw [<- h4.length_eq (by omega)] at hla
 rw [<- k4.length_eq (by omega)] at hlb
 have N:=h4.1
 have L:=k4.1
 clear h4 k4 h2 k2 h1 k1
 obtain ⟨Y,U,T,V,Z⟩:=info_parts zfz
 go_in
 go_wp2
 go_loopw [5,6,7] (ztf l j w) (fun _ cv iv _=>max l.length j.length+1 - (intOf iv).toNat)
 case atStart=>exact ⟨0,0,[],.inl (uB),rfl,rfl,by omega,rfl,zF.nil _,by simp [Hid,val],World.ownsRow_nil _ _ _ _,yR _⟩
 case round=>
  obtain ⟨k,c,O,hk,rfl,rfl,hc,X,R,M,E,y⟩:=hrel
  by_cases ap:k<l.length\/k<j.length\/0<c
  rotate_left
  . obtain rfl:c=0:=by omega
    have ag:l.length<=k:=by omega
    have au:j.length<=k:=by omega
    have aq:k<=67108865:=by omega
    have ae:=ztf.end_ ag au M;have ah:=ze ae;clear ae M ap;obtain ⟨g,cg,rfl,an,ad,m⟩:=za3 E;have am:=ze ad;clear ad;go_wp2_with (go_at_call 165;refine (Yn _ _ _ _ _ _ m R an am.o).mono ?_;rintro e w' ⟨v,rfl,ao,rfl⟩);go_ret;refine ⟨v,rfl,?_,y⟩;rw [<- ah.o];exact ao
  have S:k<max l.length j.length\/(k=max l.length j.length/\c=1):=by omega
  have aq:k<=67108864:=by omega
  have hm:k<max l.length j.length+1:=by omega
  clear hk
  by_cases Q:k<l.length
  rotate_left
  . by_cases F:k<j.length
    rotate_left
    . have av:(0:Int)<(c:Int):=by omega
      have ac:c<4294967296:=by omega
      have D:∀ u∈[Value.int .i64 ((c:Nat) % 1000000000:Int)],u.oneCell' =true:=by
       intro u hu;rw [uM] at hu;subst hu;rfl
      have m:=xF wr 3 (.int .i64 ((c:Nat) % 1000000000:Int))
      push_cast at m D
      go_wp2_with (at_builtin;refine ym _ rfl (.tmp 46) (.tmp 49) _ rfl w.heap.size 3 Y _ 1 8 underlying110 U T V Z rfl (by omega) _ k (ZL O) rfl (E.alloc _) _ (some ⟨wr.heap.size,0,none⟩) 1 1 _ rfl m D ?o2 ?o3 ?o4 ?_)
      case o2=>unfold maxLen;omega
      case o3=>omega
      case o4=>have:=y.size;simp;omega
      intro v3 w3 z C I;have J:=ze z;have K:=ze C;clear z C I m;go_wp2;go_roundw
      case rel=>exact ztf.step S hc X R M E y N L (c) (by rw [xl (by omega),xl (by omega)];rfl) _ _ _ (by go_num) (by go_num) (by go_num) J.o K.o
      case measure=>simp [intOf];omega
    obtain ⟨aa,u,rfl,ab,r,G⟩:=af.at_ F
    rw [vH F] at r;injection r with r
    subst r;have ai:=(y.cell (p:=aa.add k) (by rw [zD];exact ab)).trans G;clear G;have aj:j[k]<1000000000:=L.get k F;have ac:c+j[k]<4294967296:=by omega
    have D:∀ u∈[Value.int .i64 ((c+j[k]:Nat) % 1000000000:Int)],u.oneCell' =true:=by
     intro u hu;rw [uM] at hu;subst hu;rfl
    have m:=xF wr 3 (.int .i64 ((c+j[k]:Nat) % 1000000000:Int))
    push_cast at m D
    go_wp2_with (at_builtin;refine ym _ rfl (.tmp 46) (.tmp 49) _ rfl w.heap.size 3 Y _ 1 8 underlying110 U T V Z rfl (by omega) _ k (ZL O) rfl (E.alloc _) _ (some ⟨wr.heap.size,0,none⟩) 1 1 _ rfl m D ?o2 ?o3 ?o4 ?_)
    case o2=>unfold maxLen;omega
    case o3=>omega
    case o4=>have:=y.size;simp;omega
    intro v3 w3 z C I;have J:=ze z;have K:=ze C;clear z C I m;go_wp2;go_roundw
    case rel=>exact ztf.step S hc X R M E y N L (c+j[k]) (by rw [xl (by omega),zy F];rfl) _ _ _ (by go_num) (by go_num) (by go_num) J.o K.o
    case measure=>simp [intOf];omega
  obtain ⟨ar,u,rfl,al,r,G⟩:=ak.at_ Q
  rw [vH Q] at r;injection r with r
  subst r;have ax:=(y.cell (p:=ar.add k) (by rw [zD];exact al)).trans G;clear G;have aw:l[k]<1000000000:=N.get k Q
  by_cases F:k<j.length
  rotate_left
  . have ac:c+l[k]<4294967296:=by omega
    have D:∀ u∈[Value.int .i64 ((c+l[k]:Nat) % 1000000000:Int)],u.oneCell' =true:=by
     intro u hu;rw [uM] at hu;subst hu;rfl
    have m:=xF wr 3 (.int .i64 ((c+l[k]:Nat) % 1000000000:Int))
    push_cast at m D
    go_wp2_with (at_builtin;refine ym _ rfl (.tmp 46) (.tmp 49) _ rfl w.heap.size 3 Y _ 1 8 underlying110 U T V Z rfl (by omega) _ k (ZL O) rfl (E.alloc _) _ (some ⟨wr.heap.size,0,none⟩) 1 1 _ rfl m D ?o2 ?o3 ?o4 ?_)
    case o2=>unfold maxLen;omega
    case o3=>omega
    case o4=>have:=y.size;simp;omega
    intro v3 w3 z C I;have J:=ze z;have K:=ze C;clear z C I m;go_wp2;go_roundw
    case rel=>exact ztf.step S hc X R M E y N L (c+l[k]) (by rw [zy Q,xl (by omega)];rfl) _ _ _ (by go_num) (by go_num) (by go_num) J.o K.o
    case measure=>simp [intOf];omega
  obtain ⟨aa,u,rfl,ab,r,G⟩:=af.at_ F
  rw [vH F] at r;injection r with r
  subst r;have ai:=(y.cell (p:=aa.add k) (by rw [zD];exact ab)).trans G;clear G;have aj:j[k]<1000000000:=L.get k F;have ac:c+l[k]+j[k]<4294967296:=by omega
  have D:∀ u∈[Value.int .i64 ((c+l[k]+j[k]:Nat) % 1000000000:Int)],u.oneCell' =true:=by
   intro u hu;rw [uM] at hu;subst hu;rfl
  have m:=xF wr 3 (.int .i64 ((c+l[k]+j[k]:Nat) % 1000000000:Int))
  push_cast at m D
  go_wp2_with (at_builtin;refine ym _ rfl (.tmp 46) (.tmp 49) _ rfl w.heap.size 3 Y _ 1 8 underlying110 U T V Z rfl (by omega) _ k (ZL O) rfl (E.alloc _) _ (some ⟨wr.heap.size,0,none⟩) 1 1 _ rfl m D ?o2 ?o3 ?o4 ?_)
  case o2=>unfold maxLen;omega
  case o3=>omega
  case o4=>have:=y.size;simp;omega
  intro v3 w3 z C I;have J:=ze z;have K:=ze C;clear z C I m;go_wp2;go_roundw
  case rel=>exact ztf.step S hc X R M E y N L (c+l[k]+j[k]) (by rw [zy Q,zy F];skip) _ _ _ (by go_num) (by go_num) (by go_num) J.o K.o
  case measure=>simp [intOf];omega
def zqw (zs:List Int):List Value:=zs.map fun z=>Value.int .i64 z
theorem VT (zs:List Int):(zqw zs).length=zs.length:=by simp [zqw]
theorem zmt (ds:List Nat):zqw (ds.map fun (d:Nat)=>(d:Int))=ZL ds:=by simp [zqw,ZL]
def XH (w:World) (g:Nat) (zs:List Int) (rest:List Value):Prop:=Blk w g 3 (zqw zs ++ rest).toArray
theorem XH.cell {w:World} {g:Nat} {zs:List Int} {rest:List Value} (h:XH w g zs rest) {k:Nat} (hk:k<zs.length):w.cell? ⟨g,k,none⟩=some (.int .i64 zs[k]):=by
 unfold XH at h
 rw [h.cell k,List.getElem?_toArray,List.getElem?_append_left (by rw [VT];exact hk)]
 simp [zqw,hk]
theorem XH.set_ {w:World} {g:Nat} {zs:List Int} {rest:List Value} (h:XH w g zs rest) {k:Nat} (hk:k<zs.length) (z:Int):XH (w.setCell ⟨g,k,none⟩ (.int .i64 z)) g (zs.set k z) rest:=by
 unfold XH at h |-
 have:=h.set_ k (.int .i64 z)
 rw [List.setIfInBounds_toArray,List.set_append_left _ _ (by rw [VT];exact hk)] at this
 rw [show zqw (zs.set k z)=(zqw zs).set k (.int .i64 z) by simp [zqw,List.map_set]]
 exact this
theorem XH.lt {w:World} {g:Nat} {zs:List Int} {rest:List Value} (h:XH w g zs rest):g<w.heap.size:=Blk.lt h
theorem XH.frozen {w:World} {g:Nat} {zs:List Int} {rest:List Value} (h:XH w g zs rest) (k:Nat):w.frozen? ⟨g,k,none⟩=false:=Blk.frozen h k
theorem XH.reads {w:World} {g:Nat} {ds:List Nat} {rest:List Value} (h:XH w g (ds.map fun (d:Nat)=>(d:Int)) rest):yc w w.heap.size 1 (some ⟨g,0,none⟩) ds.length (ZL ds):=by
 unfold XH at h
 have:=h.reads (n:=ds.length) (by simp [zqw])
 rw [zmt] at this
 simpa [Xr,List.take_append_of_le_length,uJ] using this
theorem zts {w:World} {base n:Nat} {v:Value} {zs:List Int} (h:w.ownsRow base 3 1 v n (zqw zs)) (hn:0<n):
 ∃ g c rest,v= .slice (some ⟨g,0,none⟩) n c/\base<=g/\zs.length=n/\XH w g zs rest/\n<=c/\c<=maxLen:=by
 have j:zs.length=n:=by have:=h.1;rw [VT] at this;omega
 rcases h.2 with ⟨_,z⟩ | ⟨g,r,b,e,hb,y,m,l,B,u⟩
 . omega
 . refine ⟨g,r,b.toList.drop n,e,hb,j,?_,m,l⟩
   unfold XH Blk;rw [y]
   congr 2
   rw [<- u,Nat.mul_one,List.take_append_drop]
def zy4 (da db:List Nat) (g:Nat) (rest:List Value) (w:World) (iv:Value) (wr:World):Prop:=
 ∃ k:Nat,k<=db.length/\iv= .int .i64 k/\XH wr g (vY da db k) rest/\Below w.heap.size w wr
def MinB (n V:Nat) (g:Nat) (rest:List Value) (w:World) (iv:Value) (wr:World):Prop:=
 ∃ (k:Nat) (zs:List Int),k<=n/\iv= .int .i64 k/\zs.length=n/\Hid (YI (1000000000:Nat) zs k (V:Int))/\XH wr g zs rest/\Below w.heap.size w wr
theorem zy4.step {da db:List Nat} {g k:Nat} {rest:List Value} {w wr:World} (hk:k<db.length) (hle:db.length<=da.length) (h:XH wr g (vY da db k) rest) (hb:Below w.heap.size w wr) (hg:w.heap.size<=g) (n:Nat) (iv sv:Value)
 (hiv:iv= .int .i64 ((k+1:Nat):Int)) (hsv:sv= .int .i64 ((da.getD k 0:Int) - db.getD k 0)):zy4 da db g rest w iv ((wr.setCell ⟨g,k,none⟩ sv).drewN n):=by
 subst hiv hsv
 refine ⟨k+1,by omega,rfl,?_,zk (hb.setCell hg _) n⟩
 have:=h.set_ (k:=k) (by rw [vO];omega) ((da.getD k 0:Int) - db.getD k 0)
 rw [zk0 _ _ _ (by omega)] at this
 exact this
theorem Vs (va vb:Value) (a b:Nat) (w:World) (ha:zz w va a) (hb:zz w vb b) (hle:b<=a) (hla:len 1000000000 a<=67108864):
 Calls prog 158 #[va,vb] w (zge w (a - b)):=by
 obtain ⟨A,ca,j,rfl,h1,h2,ak,N,rfl⟩:=ha
 obtain ⟨B,cb,r,rfl,k1,k2,aC,k4,rfl⟩:=hb
 rw [<- N.length_eq (by omega)] at hla
 have ah:r.length<=j.length:=yZ.length_le (by omega) k4 N hle
 have af:=N.1
 have ag:=k4.1
 have aJ:=ze hle
 have S:=YI.start (β:=1000000000) (by omega) af ag ah
 rw [show ((val 1000000000 j:Int) - val 1000000000 r)=((val 1000000000 j - val 1000000000 r:Nat):Int) by omega] at S
 have aj:=ze S
 obtain ⟨i0,ax,am,aA,av⟩:=info_parts zfz
 have aw:=zdj j
 clear S hle N k4 h2 k2 h1 k1
 go_in
 go_wp2_with (at_builtin;refine ym _ rfl (.const (.slice none 0 0)) (.tmp 8) _ rfl w.heap.size 3 i0 _ 1 8 underlying110 ax am aA av rfl (by omega) _ 0 [] rfl (World.ownsRow_nil _ _ _ _) _ A j.length ca _ rfl ak aw ?o2 ?o3 ?o4 ?_)
 case o2=>unfold maxLen;omega
 case o3=>omega
 case o4=>exact uA
 intro v3 w3 G ab ar
 try rw [Nat.zero_add,List.nil_append] at G
 have z:Below w.heap.size w w3:=(yR w).grown ab (uA) (by intro k T;simp [Value.ownBlock] at T)
 clear ab ar
 rcases uN j.length with Q | Q
 . have e1:j=[]:=uI Q
   have e2:r=[]:=uI (by omega);subst e1 e2;obtain ⟨g,cg,rfl,aG,ae,O⟩:=za3 G;have aa:=ze ae;clear ae Q;go_wp2_with fail;refine wp_loop_rounds 1 ?_;rw [rounds_succ];go_wp2_with fail;refine wp_loop_rounds 1 ?_;rw [rounds_succ];go_wp2_with (go_at_call 165;refine (Yn _ _ _ _ _ _ O (zF.nil _) (by simp) aa.o).mono ?_;rintro e w' ⟨v,rfl,V,rfl⟩);go_ret;exact ⟨v,rfl,V,z⟩
 . rw [<- zmt] at G
   obtain ⟨g,c,rest,rfl,R,F,l,aE,ad⟩:=zts G Q;have aa:=ze ad;rw [<- zje j r] at l;clear G ad F;go_wp2
   go_loopw [6] (zy4 j r g rest w) (fun iv _=>r.length - (intOf iv).toNat)
   case atStart=>exact ⟨0,uB,rfl,l,z⟩
   case round=>
    clear l z;obtain ⟨k,T,rfl,l,z⟩:=hrel
    by_cases E:k<r.length
    . obtain ⟨aq,u,rfl,al,M,ac⟩:=aC.at_ E
      rw [vH E] at M;injection M with M
      subst M;have aI:=(z.cell (p:=aq.add k) (by rw [zD];exact al)).trans ac;clear ac;have ai :k<(vY j r k).length:=by rw [vO];omega
      have K:=l.cell ai;rw [Y1 _ _ _ _ (by omega),if_neg (by omega)] at K;have ay:=l.frozen k;have ao:=l.lt;have aD:=af.getD (by omega) k;have aF:=ag.get k E;have ey:(r.getD k 0:Int)=(r[k]:Int):=by rw [zy E]
      have ap:=ze ey;have an:(k:Int)<(j.length:Int):=by omega
      obtain ⟨x,U⟩:=uQ (j.getD k 0);rw [<- U] at K aD;have az:=ze U;clear ey ai U;go_wp2_with fail
      go_region
      go_wp2;go_roundw
      case rel=>exact zy4.step E ah l z R 1 _ _ (by go_num) (by rw [ap.o, <- az.o])
      case measure=>simp [intOf];omega
    obtain rfl:k=r.length:=by omega
    go_wp2
    go_loopw [7] (MinB j.length (val 1000000000 j - val 1000000000 r) g rest w) (fun iv _=>j.length - (intOf iv).toNat)
    case atStart=>exact ⟨0,_,uB,rfl,vO _ _ _,aj,l,z⟩
    case round=>
     clear l z E aj;obtain ⟨k,m,T,rfl,F,C,l,z⟩:=hrel
     by_cases E:k<j.length
     rotate_left
     . obtain ⟨ds,rfl,hs,hl,hv⟩:=C.o.done (by omega)
       have O:=l.reads;have HV:=ze hv;have au:ds.length=j.length:=by omega
       rw [au] at O;clear hv C F hl;obtain rfl:k=j.length:=by omega
       go_wp2_with (go_at_call 165;refine (Yn _ _ _ _ _ _ O hs aE aa.o).mono ?_;rintro e w' ⟨v,rfl,V,rfl⟩);go_ret;refine ⟨v,rfl,?_,z⟩;rw [<- HV.o];exact V
     have D:k<m.length:=by omega
     have K:=l.cell D;have ay:=l.frozen k;have ao:=l.lt;have an:(k:Int)<(j.length:Int):=by omega
     obtain ⟨z1,z2⟩:=C.o.2.2.1 D
     by_cases L:m[k]<0
     rotate_left
     . have J:=ze (C.o.keep D (by omega))
       generalize m[k]=x at K z1 z2 L;clear C;go_wp2;go_roundw
       case rel=>exact ⟨k+1,m,by omega,by go_num,F,J,l,z⟩
       case measure=>simp [intOf];omega
     have I:=C.o.more (by omega) (by omega) D L
     have Z:=(l.set_ D (m[k]+1000000000)).cell (k:=k+1) (by simpa using I);have aB:=(l.set_ D (m[k]+1000000000)).frozen (k+1);rw [List.getElem_set_ne (by omega)] at Z;obtain ⟨z3,z4⟩:=C.o.2.2.2 (k+1) I (by omega);have aH:(k:Int)+1<(j.length:Int):=by omega
     have J:=ze (C.o.back (by omega) I L);have X:=ze ((l.set_ D (m[k]+1000000000)).set_ (k:=k+1) (by simpa using I) (m[k+1] - 1));have Y:=ze (show ((m.set k (m[k]+1000000000)).set (k+1) (m[k+1] - 1)).length=j.length by simpa using F);generalize m[k]=x at K Z aB z1 z2 L J X Y;generalize m[k+1]=y at Z z3 z4 J X Y;clear l C I D F;go_wp2;go_roundw
     case rel=>exact ⟨k+1,_,by omega,by go_num,Y.o,J,X.o,(z.setCell R _).setCell R _⟩
     case measure=>simp [intOf];omega
def xZ (ds:List Nat):Array Value:=(ZL ds).toArray
theorem zi3 (ds:List Nat):(xZ ds).size=ds.length:=by simp [xZ,Xr]
theorem XB {ds:List Nat} {k:Nat} (hk:k<ds.length):(xZ ds)[k]?=some (.int .i64 (ds[k]:Int)):=by
 unfold xZ;rw [List.getElem?_toArray];exact vH hk
theorem XA (ds:List Nat) (k d:Nat):(xZ ds).setIfInBounds k (.int .i64 (d:Int))=xZ (ds.set k d):=by
 unfold xZ ZL
 simp [List.map_set]
theorem zjn (n:Nat):madeCells #[Value.int .i64 0] n=xZ (List.replicate n 0):=by
 apply Array.ext'
 rw [toList_madeCells_one]
 simp [xZ,ZL]
theorem zcn {w:World} {g t:Nat} {ds:List Nat} (h:Blk w g t (xZ ds)):yc w w.heap.size 1 (some ⟨g,0,none⟩) ds.length (ZL ds):=by
 have:=h.reads (n:=ds.length) (by rw [zi3];exact uA)
 rw [show (xZ ds).toList.take ds.length=ZL ds by rw [<- Xr ds];simp [xZ]] at this
 exact this
theorem zup (k:IntKind) (n:Nat) (hn:n<=1073741824) (w:World):
 (Instr.makeSlice 110 (.int k (n:Int)) (.int k (n:Int))).run prog w= .ok (.slice (some ⟨w.heap.size,0,none⟩) n n) (w.alloc (.cells (xZ (List.replicate n 0)) 3)):=by
 rw [run_make_row' 110 3 (.int .i64 0) 8 underlying110 zfz rfl k k n (by omega) (by omega) w,zjn]
def zy3 (da db:List Nat) (w:World) (iv:Value) (wr:World):Prop:=
 ∃ (k:Nat) (O:List Nat),k<=da.length/\iv= .int .i64 k/\O.length=da.length+db.length+1/\zF 1000000000 O/\
  Hid (val 1000000000 O=val 1000000000 (da.take k)*val 1000000000 db)/\Hid (∀ p,k+db.length<=p->O.getD p 0=0)/\Blk wr w.heap.size 3 (xZ O)/\Below w.heap.size w wr
def zxl (da db:List Nat) (k x:Nat) (w:World) (cv jv:Value) (wr:World):Prop:=
 ∃ (j c:Nat) (O:List Nat),j<=db.length+1/\(db.length<j->c=0)/\jv= .int .i64 j/\cv= .int .i64 c/\c<1000000000/\O.length=da.length+db.length+1/\zF 1000000000 O/\
  Hid (val 1000000000 O+c*(1000000000 ^ k*1000000000 ^ j)=val 1000000000 (da.take k)*val 1000000000 db+x*1000000000 ^ k*val 1000000000 (db.take j))/\
  Hid (∀ p,k+db.length<=p->k+j<=p->O.getD p 0=0)/\Blk wr w.heap.size 3 (xZ O)/\Below w.heap.size w wr
theorem zoy {c x y o:Nat} (hc:c<1000000000) (hx:x<1000000000) (hy:y<1000000000) (ho:o<1000000000):o+c+x*y<1000000000*1000000000:=by
 have:=zh7 (β:=1000000000) hc hx hy ho
 omega
theorem zxl.step {da db:List Nat} {w wr:World} {k x j c:Nat} {O:List Nat} (hk:k<da.length) (hj:j<=db.length) (hc:c<1000000000) (hO:O.length=da.length+db.length+1) (hsO:zF 1000000000 O)
 (HV:Hid (val 1000000000 O+c*(1000000000 ^ k*1000000000 ^ j)=val 1000000000 (da.take k)*val 1000000000 db+x*1000000000 ^ k*val 1000000000 (db.take j)))
 (HZ:Hid (∀ p,k+db.length<=p->k+j<=p->O.getD p 0=0)) (hblk:Blk wr w.heap.size 3 (xZ O)) (hbl:Below w.heap.size w wr) (hx:x<1000000000) (hsb:zF 1000000000 db)
 (o:Nat) (ho:O[k+j]'(by omega)=o) (t:Nat) (ht:t=o+c+x*db.getD j 0) (cv jv sv:Value) (hcv:cv= .int .i64 ((t / 1000000000:Nat):Int)) (hjv:jv= .int .i64 ((j+1:Nat):Int)) (hsv:sv= .int .i64 ((t % 1000000000:Nat):Int)):
 zxl da db k x w cv jv (wr.setCell ⟨w.heap.size,k+j,none⟩ sv):=by
 subst hcv hjv hsv
 have l :t=c+x*db.getD j 0+o:=by omega
 have r:o<1000000000:=by rw [<- ho];exact hsO.get _ _
 have hb:=zoy hc hx (hsb.getD (by omega) j) r
 have b:=zj2 1000000000 O (k+j) (t % 1000000000) (by omega)
 rw [ho,Nat.pow_add] at b
 refine ⟨j+1,_,O.set (k+j) (t % 1000000000),by omega,?_,rfl,rfl,(Nat.div_lt_iff_lt_mul (by omega)).2 (by omega),by simpa using hO,hsO.set _ _ (Nat.mod_lt _ (by omega)),?_,?_,?_,hbl.setCell (uA) _⟩
 . intro y
   have z:j=db.length:=by omega
   have e:=HZ.o (k+j) (by omega) (by omega);rw [zy (by omega),ho] at e;rw [xl (by omega),e] at ht;rw [ht];simp;omega
 . show _=_
   rw [zN];have u:=HV.o;rw [l] at b |-;exact zl2 u b
 . intro p m B
   rw [getD_set_ne _ _ _ _ (by omega)];exact HZ.o p m (by omega)
 . have:=hblk.set_ (k+j) (.int .i64 ((t % 1000000000:Nat):Int))
   rwa [XA] at this
theorem zy3.step {da db:List Nat} {w wr:World} {k j:Nat} {O:List Nat} (hk:k<da.length) (hj:db.length<=j) (hj2:j<=db.length+1) (hO:O.length=da.length+db.length+1) (hsO:zF 1000000000 O)
 (HV:Hid (val 1000000000 O+0*(1000000000 ^ k*1000000000 ^ j)=val 1000000000 (da.take k)*val 1000000000 db+da[k]*1000000000 ^ k*val 1000000000 (db.take j)))
 (HZ:Hid (∀ p,k+db.length<=p->k+j<=p->O.getD p 0=0)) (hblk:Blk wr w.heap.size 3 (xZ O)) (hbl:Below w.heap.size w wr)
 (iv:Value) (hiv:iv= .int .i64 ((k+1:Nat):Int)):zy3 da db w iv wr:=by
 subst hiv
 refine ⟨k+1,O,by omega,rfl,hO,hsO,?_,?_,hblk,hbl⟩
 rotate_left
 . intro p b
   exact HZ.o p (by omega) (by omega)
 have h:=HV.o
 rw [uJ hj] at h
 show val _ _=_
 rw [yV _ _ _ hk,Nat.add_mul,uH (1000000000 ^ k)]
 omega
theorem vU (va vb:Value) (a b:Nat) (w:World) (ha:zz w va a) (hb:zz w vb b) (hla:len 1000000000 a<=67108864) (hlb:len 1000000000 b<=67108864):
 Calls prog 155 #[va,vb] w (zge w (a*b)):=by
 obtain ⟨A,ca,m,rfl,h1,h2,ab,K,rfl⟩:=ha
 obtain ⟨B,cb,l,rfl,k1,k2,ae,Q,rfl⟩:=hb
 rw [<- K.length_eq (by omega)] at hla
 rw [<- Q.length_eq (by omega)] at hlb
 have ad:=K.1
 have M:=Q.1
 clear K Q h2 k2
 have ai:=fun w=>zup .i64 (m.length+l.length+1) (by omega) w
 rw [show ((m.length+l.length+1:Nat):Int)=(m.length:Int)+l.length+1 by omega] at ai
 go_in
 go_wp2
 go_loopw [6] (zy3 m l w) (fun iv _=>m.length - (intOf iv).toNat)
 case atStart=>
  refine ⟨0,List.replicate (m.length+l.length+1) 0,by omega,rfl,by simp,zF.replicate (by omega) _,by rw [zam,List.take_zero,vX,Nat.zero_mul];exact rfl,?_,Blk.new _ _ _,(Below.refl _ _).alloc (uA) _⟩
  intro p _
  rw [List.getD_eq_getElem?_getD,List.getElem?_replicate]
  split<;>rfl
 case round=>
  obtain ⟨k,O,hk,rfl,I,C,D,E,r,y⟩:=hrel
  have hg:=r.lt
  by_cases F:k<m.length
  rotate_left
  . obtain rfl:k=m.length:=by omega
    have X:=zcn r;rw [I] at X
    have R:val 1000000000 O=val 1000000000 m*val 1000000000 l:=by
     have h:=D.o
     rwa [List.take_length] at h
    have Z:=ze R;clear R D E;go_wp2_with (go_at_call 165;refine (Yn _ _ _ _ _ _ X C (uA) (by unfold maxLen;omega)).mono ?_;rintro e w' ⟨v,rfl,ah,rfl⟩);go_ret;refine ⟨v,rfl,?_,y⟩;rw [<- Z.o];exact ah
  obtain ⟨aj,u,rfl,ac,z,af⟩:=ab.at_ F
  rw [vH F] at z;injection z with z
  subst z;have V:m[k]<1000000000:=ad.get k F;go_wp2;obtain ⟨S,ak⟩:∃ S:World,S=wr:=⟨_,rfl⟩;subst ak
  go_loopw [7,8] (zxl m l k m[k] w) (fun _ jv _=>l.length+1 - (intOf jv).toNat)
  case atStart=>
   exact ⟨0,0,O,by omega,fun _=>rfl,rfl,rfl,by omega,I,C,by rw [List.take_zero,vX,Nat.zero_mul,Nat.mul_zero];exact D,fun p hp _=>E.o p hp,r,y⟩
  case round=>
   clear D E r y C;obtain ⟨j,c,O,hj,J,rfl,rfl,Y,I,C,D,E,r,y⟩:=hrel;have hg:=r.lt;have av:=(y.cell (p:=aj.add k) (by rw [zD];exact ac)).trans af
   by_cases N:j<l.length\/0<c
   rotate_left
   . obtain rfl:c=0:=by omega
     have G:l.length<=j:=by omega
     clear J;go_wp2;go_roundw
     case rel=>exact zy3.step F G hj I C D E r y _ (by go_num)
     case measure=>simp [intOf];omega
   have T:j<=l.length:=by
    rcases N with h | h
    . omega
    . rcases uL l.length j with L | L
      . have:=J L;omega
      . exact L
   have aq:=(r.cell (k+j)).trans (XB (by omega));have am:=r.frozen (k+j);have ar:O[k+j]<1000000000:=C.get _ _;have aw:=ze J;clear J
   by_cases G:j<l.length
   rotate_left
   . have an:0<c:=by omega
     clear N;go_wp2;go_roundw
     case rel=>exact zxl.step F T Y I C D E r y V M O[k+j] rfl (O[k+j]+c) (by rw [xl (by omega)];rfl) _ _ _ (by go_num) (by go_num) (by go_num)
     case measure=>simp [intOf];omega
   obtain ⟨aa,u,rfl,ag,z,U⟩:=ae.at_ G
   rw [vH G] at z;injection z with z
   subst z;have al:=(y.cell (p:=aa.add j) (by rw [zD];exact ag)).trans U;clear U;have ao:l[j]<1000000000:=M.get j G;have au:m[k]*l[j]<=999999998000000001:=uC (Nat.mul_le_mul (show m[k]<=999999999 by omega) (show l[j]<=999999999 by omega)) (by omega);have ax :(m[k]:Int)*(l[j]:Int)<=999999998000000001:=by rw [<- Int.natCast_mul];omega
   have ap:(0:Int)<=(m[k]:Int)*(l[j]:Int):=Int.mul_nonneg (by omega) (by omega);clear N;go_wp2
   go_quiet (fail)
   go_wp2;go_roundw
   case rel=>exact zxl.step F T Y I C D E (r.drewN nq) (zk y nq) V M O[k+j] rfl (O[k+j]+c+m[k]*l[j]) (by rw [zy G]) _ _ _ (by go_num) (by go_num) (by go_num)
   case measure=>simp [intOf];omega
end Go.Proofs.YtnjljgidphemdaaGreatDoor
