/- Parts of the proof. -/
import Derived.LoopN
import Derived.Test.YtofmkndhocinmaaGreatDoorMs10
set_option linter.all false
set_option maxRecDepth 100000
set_option maxHeartbeats 32000000
namespace Go.Proofs.YtofmkndhocinmaaGreatDoor
open Proofs.Tryz Go.RowKit Go.Deep
def zM (w:World) (v:Value) (z:Int):Prop:=
 (∃ x ng,v= .agg #[.int .i64 x,.slice none 0 0,.bool ng]/\ -4611686018427387904<x/\x<4611686018427387904/\z=x)\/
 (∃ ad k c n ng,v= .agg #[.int .i64 0,.slice (some ad) k c,.bool ng]/\yA w (.slice (some ad) k c) n/\4611686018427387904<=n/\z=if ng=true then -(n:Int) else n)
theorem zM.below {w w' :World} {v:Value} {z:Int} (h:zM w v z) (hb:Below w.heap.size w w'):zM w' v z:=by
 rcases h with h | ⟨m,k,c,n,ng,j,b,l,e⟩
 . exact .inl h
 . exact .inr ⟨m,k,c,n,ng,j,yA.below b hb,l,e⟩
def ZX (w:World) (z:Int) (e:Ending) (w' :World):Prop:=∃ v,e= .returned v/\zM w' v z/\Below w.heap.size w w'
def zav (w:World) (z:Int) (e:Ending) (w' :World):Prop:=∃ v,e= .returned (.tuple #[.bool (decide (z<0)),v])/\yA w' v z.natAbs/\Below w.heap.size w w'
theorem ztf (w:World) (a:Option Addr) (n c n' c' :Nat):(binOp .neq 58 (.slice a n c) (.slice none n' c')).run prog w= .ok (.bool (!a.isNone)) w:=
 run_neq_slice_nil_any w _ _ a n c n' c' underlying58
theorem zlg (w:World) (a:Option Addr) (n c n' c' :Nat):(binOp .eql 58 (.slice a n c) (.slice none n' c')).run prog w= .ok (.bool a.isNone) w:=
 Lib.run_eql_slice_nil w _ _ a n c n' c' underlying58
theorem Xp (x:Int) (g:Value) (ng:Bool) (w:World) (h1: -4611686018427387904<x) (h2:x<4611686018427387904):
 Calls prog 97 #[.agg #[.int .i64 x,g,.bool ng]] w (zij w (.int .u64 (x.natAbs:Nat))):=by
 by_cases h:x<0
 . have e:(x.natAbs:Int)= -x:=by omega
   rw [e];clear e
   go_in
   go_wp2;go_ret;exact ⟨by go_num,zf _ _⟩
 have e:(x.natAbs:Int)=x:=by omega
 rw [e];clear e
 go_in
 go_wp2;go_ret;exact ⟨by go_num,zf _ _⟩
theorem YH (v:Value) (z:Int) (w:World) (h:zM w v z):
 Calls prog 46 #[v] w (zij w (.int .i64 (yj z 0))):=by
 rcases h with ⟨x,ng,rfl,r,m,rfl⟩ | ⟨l,k,c,n,ng,rfl,u,e,rfl⟩
 . have j:=fun w=>ztf w none 0 0 0 0
   have b:Hid (yj z 0=if z<0 then -1 else if 0<z then 1 else 0):=rfl
   rcases Int.lt_trichotomy z 0 with h | h | h
   . go_in
     go_wp2;go_ret;exact ⟨by rw [b.o,if_pos (by omega)];rfl,zf _ _⟩
   . subst h
     go_in
     go_wp2;go_ret;exact ⟨by rw [b.o];rfl,zf _ _⟩
   . go_in
     go_wp2;go_ret;exact ⟨by rw [b.o,if_neg (by omega),if_pos (by omega)];rfl,zf _ _⟩
 . have j:=fun w=>ztf w (some l) k c 0 0
   cases ng with
   | true=>
     have b:Hid (yj (if (true:Bool)=true then -(n:Int) else n) 0= -1):=by show _=_;simp only [if_true];unfold yj;rw [if_pos (by omega)]
     rw [b.o];clear e
     go_in
     go_wp2;go_ret;exact ⟨rfl,zf _ _⟩
   | false=>
     have b:Hid (yj (if (false:Bool)=true then -(n:Int) else n) 0=1):=by show _=_;simp only [Bool.false_eq_true,if_false];unfold yj;rw [if_neg (by omega),if_pos (by omega)]
     rw [b.o];clear e
     go_in
     go_wp2;go_ret;exact ⟨rfl,zf _ _⟩
theorem yK (v:Value) (z:Int) (w:World) (h:zM w v z):
 Calls prog 81 #[v] w (ZX w (-z)):=by
 rcases h with ⟨x,ng,rfl,B,y,rfl⟩ | ⟨b,k,c,n,ng,rfl,l,j,rfl⟩
 . have m:=fun w=>ztf w none 0 0 0 0
   go_in
   go_wp2;refine bodyPost_ret (v:=.agg #[.int .i64 (-z),.slice none 0 0,.bool false]) (by simp [results,results81,go_sem]) rfl ?_;exact ⟨_,rfl,.inl ⟨_,_,rfl,by omega,by omega,rfl⟩,ext (zf _ _) (zf _ _)⟩
 . have m:=fun w=>ztf w (some b) k c 0 0
   have r:=ze j;clear j;have hb:Below w.heap.size w ((w.alloc (.cells #[.int .i64 0,.slice (some b) k c,.bool ng] 60)).alloc (.cells #[.int .i64 0,.slice (some b) k c,.bool (!ng)] 60)):=ext (zf _ _) (zf _ _)
   have e:zM ((w.alloc (.cells #[.int .i64 0,.slice (some b) k c,.bool ng] 60)).alloc (.cells #[.int .i64 0,.slice (some b) k c,.bool (!ng)] 60)) (.agg #[.int .i64 0,.slice (some b) k c,.bool (!ng)]) (-(if ng=true then -(n:Int) else n)):=
    .inr ⟨b,k,c,n, !ng,rfl,yA.below l hb,r.o,by cases ng<;>simp⟩
   clear l;generalize u: -(if ng=true then -(n:Int) else n)=z at e |-;clear u
   cases ng with
   | true=>
     go_in
     go_wp2;refine bodyPost_ret (v:=.agg #[.int .i64 0,.slice (some b) k c,.bool false]) (by simp [results,results81,go_sem]) rfl ?_;exact ⟨_,rfl,e,hb⟩
   | false=>
     go_in
     go_wp2;refine bodyPost_ret (v:=.agg #[.int .i64 0,.slice (some b) k c,.bool true]) (by simp [results,results81,go_sem]) rfl ?_;exact ⟨_,rfl,e,hb⟩
theorem zh {g i:Nat} {v:Value} {w w' :World} (hb:Below w.heap.size w w') (hl:g<w.heap.size) (h:w.cell? ⟨g,i,none⟩=some v):w'.cell? ⟨g,i,none⟩=some v:=(hb.cell hl).trans h
theorem zU {g:Nat} {w w' :World} (hb:Below w.heap.size w w') (hl:g<w.heap.size):g<w'.heap.size:=uK hl hb.size
theorem zo {w0 w w' :World} (hb:Below w.heap.size w w') (h:Hid (Below w0.heap.size w0 w)):Hid (Below w0.heap.size w0 w'):=ext h.out hb
theorem Zb (v:Value) (z:Int) (w:World) (h:zM w v z):
 Calls prog 86 #[v] w (zav w z):=by
 rcases h with ⟨x,ng,rfl,m,l,rfl⟩ | ⟨r,k,c,n,ng,rfl,y,G,rfl⟩
 . have E:=fun w=>ztf w none 0 0 0 0
   have I:=fun w=>Xp z (.slice none 0 0) ng w m l
   have B:z.natAbs<18446744073709551616:=by omega
   have C:=fun w=>zkd z.natAbs B w
   clear B m l
   go_in
   go_wp2_with fail
   go_region_held3 (fun w' =>w'.cell? ⟨w.heap.size,0,none⟩=some (.int .i64 z)/\w'.cell? ⟨w.heap.size,1,none⟩=some (.slice none 0 0)/\w'.cell? ⟨w.heap.size,2,none⟩=some (.bool ng)/\w.heap.size<w'.heap.size/\Hid (Below w.heap.size w w'))
    (first
      | exact ⟨by go_keep,by go_keep,by go_keep,by go_keep,ze (zt (zf _ _) 1)⟩
      | go_keep
      | (go_split_ands;exact ⟨zh ‹_› ‹_› ‹_›,zh ‹_› ‹_› ‹_›,zh ‹_› ‹_› ‹_›,zU ‹_› ‹_›,zo ‹_› ‹_›⟩))
    (first
      | (refine (I _).mono ?_;rintro e w1 ⟨rfl,J⟩)
      | (refine (C _).mono ?_;rintro e K ⟨F,rfl,D,L⟩))
   all_goals
    go_wp2;go_ret2;go_split_ands;exact ⟨F,rfl,D,zO ‹_›⟩
 . have E:=fun w=>ztf w (some r) k c 0 0
   have j:(if ng=true then -(n:Int) else n).natAbs=n:=by cases ng<;>simp
   have u:decide ((if ng=true then -(n:Int) else n)<0)=ng:=by cases ng<;>simp<;>omega
   have b:∀ e w',(e= .returned (.tuple #[.bool ng,.slice (some r) k c])/\Below w.heap.size w w')->zav w (if ng=true then -(n:Int) else n) e w' :=by
    rintro e w' ⟨rfl,hb⟩;exact ⟨_,by rw [u],by rw [j];exact yA.below y hb,hb⟩
   refine Calls.mono ?_ b;clear j u b y G
   cases ng with
   | true=>
     go_in
     go_wp2
     go_quiet (fail)
     go_wp2;go_ret2;exact ⟨rfl,zt (zf _ _) _⟩
   | false=>
     go_in
     go_wp2
     go_quiet (fail)
     go_wp2;go_ret2;exact ⟨rfl,zt (zf _ _) _⟩
def signed (ng:Bool) (n:Nat):Int:=if ng=true then -(n:Int) else n
theorem zt7 (ng:Bool) (A:Option Addr) (c:Nat) (w:World):Calls prog 62 #[.bool ng,.slice A 0 c] w (ZX w (signed ng 0)):=by
 cases ng with
 | true=>
   go_in
   go_wp2;refine wp_loop_rounds 1 ?_;rw [rounds_succ];go_wp2;refine bodyPost_ret (v:=.agg #[.int .i64 (0),.slice none 0 0,.bool false]) (by simp [results,results62,go_sem]) rfl ?_;exact ⟨_,rfl,.inl ⟨_,_,rfl,by omega,by omega,rfl⟩,zf _ _⟩
 | false=>
   go_in
   go_wp2;refine wp_loop_rounds 1 ?_;rw [rounds_succ];go_wp2;refine bodyPost_ret (v:=.agg #[.int .i64 (0),.slice none 0 0,.bool false]) (by simp [results,results62,go_sem]) rfl ?_;exact ⟨_,rfl,.inl ⟨_,_,rfl,by omega,by omega,rfl⟩,zf _ _⟩
theorem ztn (ng:Bool) (ad:Addr) (c d:Nat) (w:World) (hd:d<4294967296) (hb:ad.block<w.heap.size) (hc:w.cell? ad=some (.int .u32 d)):Calls prog 62 #[.bool ng,.slice (some ad) 1 c] w (ZX w (signed ng d)):=by
 have e:bits .or .u64 0 (d:Int)=(d:Int):=by
  have:=u64_or_nat 0 d (by omega) (by omega)
  rw [Nat.zero_or] at this
  exact this
 have b:(d:Int)<4611686018427387904:=by omega
 have j:decide ((d:Int)<4611686018427387904)=true:=uE b
 cases ng with
 | true=>
   go_in
   go_wp2;refine wp_loop_rounds 2 ?_;rw [rounds_succ];go_wp2;rw [rounds_succ];go_wp2;refine bodyPost_ret (v:=.agg #[.int .i64 (-d),.slice none 0 0,.bool false]) (by simp [results,results62,go_sem]) rfl ?_;exact ⟨_,rfl,.inl ⟨_,_,rfl,by omega,by omega,rfl⟩,zf _ _⟩
 | false=>
   go_in
   go_wp2;refine wp_loop_rounds 2 ?_;rw [rounds_succ];go_wp2;rw [rounds_succ];go_wp2;refine bodyPost_ret (v:=.agg #[.int .i64 (d),.slice none 0 0,.bool false]) (by simp [results,results62,go_sem]) rfl ?_;exact ⟨_,rfl,.inl ⟨_,_,rfl,by omega,by omega,rfl⟩,zf _ _⟩
theorem zqz (x y:Nat) (hx:x<4294967296) (hy:y<4294967296):bits .or .u64 (x:Int) ((y:Int)*4294967296)=((x+y*4294967296:Nat):Int):=by
 have:=u64_or_nat x (y*4294967296) (by omega) (by omega)
 rw [Int.natCast_mul] at this
 have j:(2:Nat) ^ 32=4294967296:=by decide
 have e:=V4 (n:=32) (a:=y) (b:=x) (by omega)
 rw [j,uH] at e
 rw [e] at this
 exact this
theorem zuq (ng:Bool) (ad:Addr) (c d e V:Nat) (w:World) (hd:d<4294967296) (he:e<4294967296) (hV:V=d+e*4294967296) (hb:ad.block<w.heap.size) (hc:w.cell? ad=some (.int .u32 d))
 (hc1:w.cell? ⟨ad.block,ad.off+1,none⟩=some (.int .u32 e)) (hlt:V<4611686018427387904):Calls prog 62 #[.bool ng,.slice (some ad) 2 c] w (ZX w (signed ng V)):=by
 have l:bits .or .u64 0 (d:Int)=(d:Int):=by
  have:=u64_or_nat 0 d (by omega) (by omega)
  rw [Nat.zero_or] at this
  exact this
 have j:bits .or .u64 (d:Int) ((e:Int)*4294967296)=(V:Int):=by rw [zqz d e hd he,hV]
 clear hV
 have b:(V:Int)<4611686018427387904:=by omega
 have m:decide ((V:Int)<4611686018427387904)=true:=uE b
 cases ng with
 | true=>
   go_in
   go_wp2;refine wp_loop_rounds 3 ?_;rw [rounds_succ];go_wp2;rw [rounds_succ];go_wp2;rw [rounds_succ];go_wp2;refine bodyPost_ret (v:=.agg #[.int .i64 (-V),.slice none 0 0,.bool false]) (by simp [results,results62,go_sem]) rfl ?_;exact ⟨_,rfl,.inl ⟨_,_,rfl,by omega,by omega,rfl⟩,zf _ _⟩
 | false=>
   go_in
   go_wp2;refine wp_loop_rounds 3 ?_;rw [rounds_succ];go_wp2;rw [rounds_succ];go_wp2;rw [rounds_succ];go_wp2;refine bodyPost_ret (v:=.agg #[.int .i64 (V),.slice none 0 0,.bool false]) (by simp [results,results62,go_sem]) rfl ?_;exact ⟨_,rfl,.inl ⟨_,_,rfl,by omega,by omega,rfl⟩,zf _ _⟩
theorem zrs (ng:Bool) (ad:Addr) (c d e V n:Nat) (w:World) (hd:d<4294967296) (he:e<4294967296) (hV:V=d+e*4294967296) (hb:ad.block<w.heap.size) (hc:w.cell? ad=some (.int .u32 d))
 (hc1:w.cell? ⟨ad.block,ad.off+1,none⟩=some (.int .u32 e)) (hge:4611686018427387904<=V) (hn:yA w (.slice (some ad) 2 c) n) (HG:Hid (4611686018427387904<=n)):Calls prog 62 #[.bool ng,.slice (some ad) 2 c] w (ZX w (signed ng n)):=by
 have b:bits .or .u64 0 (d:Int)=(d:Int):=by
  have:=u64_or_nat 0 d (by omega) (by omega)
  rw [Nat.zero_or] at this
  exact this
 have l:bits .or .u64 (d:Int) ((e:Int)*4294967296)=(V:Int):=by rw [zqz d e hd he,hV]
 clear hV
 have j:decide ((V:Int)<4611686018427387904)=false:=uF (by omega)
 cases ng with
 | true=>
   go_in
   go_wp2;refine wp_loop_rounds 3 ?_;rw [rounds_succ];go_wp2;rw [rounds_succ];go_wp2;rw [rounds_succ];go_wp2;refine bodyPost_ret (v:=.agg #[.int .i64 0,.slice (some ad) 2 c,.bool true]) (by simp [results,results62,go_sem]) rfl ?_;exact ⟨_,rfl,zM.below (w:=w) (.inr ⟨ad,2,c,n,true,rfl,hn,HG.o,rfl⟩) (zf _ _),zf _ _⟩
 | false=>
   go_in
   go_wp2;refine wp_loop_rounds 3 ?_;rw [rounds_succ];go_wp2;rw [rounds_succ];go_wp2;rw [rounds_succ];go_wp2;refine bodyPost_ret (v:=.agg #[.int .i64 0,.slice (some ad) 2 c,.bool false]) (by simp [results,results62,go_sem]) rfl ?_;exact ⟨_,rfl,zM.below (w:=w) (.inr ⟨ad,2,c,n,false,rfl,hn,HG.o,rfl⟩) (zf _ _),zf _ _⟩
theorem zub (ng:Bool) (ad:Addr) (k c n:Nat) (w:World) (hk:3<=k) (hn:yA w (.slice (some ad) k c) n) (HG:Hid (4611686018427387904<=n)):Calls prog 62 #[.bool ng,.slice (some ad) k c] w (ZX w (signed ng n)):=by
 have b:¬ (k:Int)<=2:=by omega
 cases ng with
 | true=>
   go_in
   go_wp2;refine bodyPost_ret (v:=.agg #[.int .i64 0,.slice (some ad) k c,.bool true]) (by simp [results,results62,go_sem]) rfl ?_;exact ⟨_,rfl,zM.below (w:=w) (.inr ⟨ad,k,c,n,true,rfl,hn,HG.o,rfl⟩) (zf _ _),zf _ _⟩
 | false=>
   go_in
   go_wp2;refine bodyPost_ret (v:=.agg #[.int .i64 0,.slice (some ad) k c,.bool false]) (by simp [results,results62,go_sem]) rfl ?_;exact ⟨_,rfl,zM.below (w:=w) (.inr ⟨ad,k,c,n,false,rfl,hn,HG.o,rfl⟩) (zf _ _),zf _ _⟩
theorem yh (ng:Bool) (v:Value) (n:Nat) (w:World) (h:yA w v n):Calls prog 62 #[.bool ng,v] w (ZX w (signed ng n)):=by
 have B:=h
 obtain ⟨A,c,ds,rfl,L,K,j,b,rfl⟩:=h
 rcases uL ds.length 3 with y | y
 . match ds,b,j,B with
   | [],_,_,_=>exact zt7 ng A c w
   | [d],b,j,_=>
     obtain ⟨l,u,rfl,hb,m,r⟩:=j.at_ (k:=0) (by simp)
     simp [YS] at m
     subst m;rw [zco];exact ztn ng l c d w (b.1.get 0 (by simp)) hb (by simpa [Addr.add] using r)
   | [d,e],b,j,B=>
     obtain ⟨l,u,rfl,hb,m,r⟩:=j.at_ (k:=0) (by simp);obtain ⟨O,N,C,Q,D,G⟩:=j.at_ (k:=1) (by simp);injection C with C
     subst C
     simp [YS] at m D
     subst m D;have E:val 4294967296 [d,e]=d+e*4294967296:=by simp only [val];omega
     have hd:=b.1.get 0 (by simp);have F:=b.1.get 1 (by simp)
     rcases uL (d+e*4294967296) 4611686018427387904 with z | z
     . rw [E]
       exact zuq ng l c d e _ w hd F rfl hb (by simpa [Addr.add] using r) (by simpa [Addr.add] using G) z
     . exact zrs ng l c d e _ _ w hd F rfl hb (by simpa [Addr.add] using r) (by simpa [Addr.add] using G) z B (ze (by rw [E];exact z))
   | _ :: _ :: _ :: _,_,_,_=>simp at y;omega
 . obtain ⟨l,u,rfl,hb,m,r⟩:=j.at_ (k:=0) (by omega)
   refine zub ng l _ c _ w y B (ze ?_);have M:=b.ge (by intro e;rw [e] at y;simp at y);have J:4294967296 ^ 2<=4294967296 ^ (ds.length - 1):=Nat.pow_le_pow_right (by omega) (by omega);have I:(4294967296:Nat) ^ 2=18446744073709551616:=by decide
   rw [I] at J
   omega
theorem zM.form {w:World} {v:Value} {z:Int} (h:zM w v z):∃ (x:Int) (A:Option Addr) (k c:Nat) (ng:Bool),v= .agg #[.int .i64 x,.slice A k c,.bool ng]/\
 -4611686018427387904<x/\x<4611686018427387904/\(A=none->k=0/\c=0/\z=x):=by
 rcases h with ⟨x,ng,rfl,e,b,rfl⟩ | ⟨m,k,c,n,ng,rfl,l,j,rfl⟩
 . exact ⟨_,_,_,_,_,rfl,e,b,fun _=>⟨rfl,rfl,rfl⟩⟩
 . exact ⟨_,_,_,_,_,rfl,by omega,by omega,fun h=>by cases h⟩
def vC (cs:Array Value):Prop:=∀ (i:Nat) (d:Int),cs[i]?≠some (.int .u32 d)
theorem Xq (x:Int) (A:Option Addr) (k c:Nat) (ng:Bool):vC #[.int .i64 x,.slice A k c,.bool ng]:=by
 intro i d h
 match i with
 | 0=>simp at h
 | 1=>simp at h
 | 2=>simp at h
 | i+3=>simp at h
theorem yA.stored {w w' :World} {g:Nat} {t:TypeId} {cs:Array Value} {v:Value} {n:Nat} (h:yA w v n) (hb:Blk w g t cs) (hno:vC cs)
 (hk:∀ p:Addr,p.block≠g->w'.cell? p=w.cell? p) (hs:w.heap.size<=w'.heap.size):yA w' v n:=by
 obtain ⟨A,c',ds,rfl,D,B,l,C,E⟩:=h
 refine ⟨A,c',ds,rfl,D,B,⟨l.1,?_⟩,C,E⟩
 intro r
 obtain ⟨y,rfl,F,m⟩:=l.2 r
 have z:y.block≠g:=by
  intro e
  have b:=m 0 _ (yQ r)
  unfold World.cell? at b
  rw [zG,e,show w.heap[g]?=_ from hb] at b
  simp only at b
  split at b
  . cases b
  exact hno _ _ b
 exact ⟨y,rfl,by omega,fun j u hu=>(hk _ (by rw [zG];exact z)).trans (m j u hu)⟩
theorem zM.stored {w w' :World} {g:Nat} {t:TypeId} {cs:Array Value} {v:Value} {z:Int} (h:zM w v z) (hb:Blk w g t cs) (hno:vC cs)
 (hk:∀ p:Addr,p.block≠g->w'.cell? p=w.cell? p) (hs:w.heap.size<=w'.heap.size):zM w' v z:=by
 rcases h with h | ⟨m,k,c,n,ng,j,b,l,e⟩
 . exact .inl h
 . exact .inr ⟨m,k,c,n,ng,j,b.stored hb hno hk hs,l,e⟩
abbrev World.num (w:World) (g:Nat) (x:Int) (A:Option Addr) (k c:Nat) (ng:Bool):World:=
 ((w.setCell ⟨g,0,none⟩ (.int .i64 x)).setCell ⟨g,1,none⟩ (.slice A k c)).setCell ⟨g,2,none⟩ (.bool ng)
theorem zy {W:World} {g:Nat} {t:TypeId} {x x0:Int} {A A0:Option Addr} {k c k0 c0:Nat} {ng n0:Bool} {v:Value} {z:Int} (hv:zM W v z) (hk:Blk W g t #[.int .i64 x0,.slice A0 k0 c0,.bool n0]):
 zM (World.num W g x A k c ng) v z:=by
 refine hv.stored hk (Xq _ _ _ _ _) ?_ (by simp [World.num,World.setCell])
 intro p b
 simp only [World.num]
 rw [World.cell?_of_block (Below.heap_setCell _ _ _ _ (by exact b)),World.cell?_of_block (Below.heap_setCell _ _ _ _ (by exact b)),World.cell?_of_block (Below.heap_setCell _ _ _ _ (by exact b))]
theorem zI {w W:World} {g:Nat} {x:Int} {A:Option Addr} {k c:Nat} {ng:Bool} (h:Below w.heap.size w W) (hg:w.heap.size<=g):Below w.heap.size w (World.num W g x A k c ng):=
 ((h.setCell hg _).setCell hg _).setCell hg _
theorem yo {W:World} {g:Nat} {t:TypeId} {x x0:Int} {A A0:Option Addr} {k c k0 c0:Nat} {ng n0:Bool} (hk:Blk W g t #[.int .i64 x0,.slice A0 k0 c0,.bool n0]):
 Blk (World.num W g x A k c ng) g t #[.int .i64 x,.slice A k c,.bool ng]:=((hk.set_ 0 _).set_ 1 _).set_ 2 _
theorem yU (z:Int):signed (decide (z<0)) z.natAbs=z:=by
 unfold signed
 by_cases h:z<0
 . rw [uE h,if_pos rfl];omega
 rw [uF h];simp only [Bool.false_eq_true,if_false];omega
theorem zo0 (x y:Int) (a b:Bool) (w:World) (h1: -4611686018427387904<x) (h2:x<4611686018427387904) (h3: -4611686018427387904<y) (h4:y<4611686018427387904) (hs1: -4611686018427387904<x+y) (hs2:x+y<4611686018427387904):
 Calls prog 67 #[.agg #[.int .i64 x,.slice none 0 0,.bool a],.agg #[.int .i64 y,.slice none 0 0,.bool b]] w (ZX w (x+y)):=by
 have j:=fun w=>zlg w none 0 0 0 0
 have d1:decide ((x+y:Int)> -4611686018427387904)=true:=uE hs1
 have e:decide ((x+y:Int)<4611686018427387904)=true:=uE hs2
 go_in
 go_wp2
 refine bodyPost_ret (v:=.agg #[.int .i64 (x+y),.slice none 0 0,.bool false]) (by simp [results,results67,go_sem]) rfl ?_
 exact ⟨_,rfl,.inl ⟨_,_,rfl,by omega,by omega,rfl⟩,ext (ext (zf _ _) (zf _ _)) (zf _ _)⟩
theorem xO (v:Value) (s:Bool) (n:Nat) (w:World) (h:zM w v (signed s n)) (h0:s=true->0<n):
 Calls prog 86 #[v] w (fun e w' =>∃ p,e= .returned (.tuple #[.bool s,p])/\yA w' p n/\Below w.heap.size w w'):=by
 refine (Zb v _ w h).mono ?_
 rintro e w' ⟨p,rfl,b,l⟩
 have m:decide (signed s n<0)=s:=by
  cases s with
  | true=>exact uE (by have:=h0 rfl;unfold signed;rw [if_pos rfl];omega)
  | false=>exact uF (by unfold signed;simp only [Bool.false_eq_true,if_false];omega)
 have j:(signed s n).natAbs=n:=by cases s<;>unfold signed<;>simp
 rw [m]
 rw [j] at b
 exact ⟨p,rfl,b,l⟩
theorem zao (s:Bool) (n m:Nat):signed s n+signed s m=signed s (n+m):=by cases s<;>unfold signed<;>simp<;>omega
theorem zac {s t:Bool} {n m:Nat} (h:¬ s=t) (hle:m<=n):signed s n+signed t m=signed s (n - m):=by cases s<;>cases t<;>simp at h<;>unfold signed<;>simp<;>omega
theorem zi7 {s t:Bool} {n m:Nat} (h:¬ s=t) (hle:n<=m):signed s n+signed t m=signed t (m - n):=by cases s<;>cases t<;>simp at h<;>unfold signed<;>simp<;>omega
def znq (x y:Int) (A B:Option Addr):Prop:=A≠none\/(A=none/\B≠none)\/(A=none/\B=none/\4611686018427387904<=x+y)\/(A=none/\B=none/\x+y<= -4611686018427387904)
theorem zoo (s t:Bool) (n m:Nat) (x y:Int) (A B:Option Addr) (k c k' c' :Nat) (a b:Bool) (w:World) (h1: -4611686018427387904<x) (h2:x<4611686018427387904) (h3: -4611686018427387904<y) (h4:y<4611686018427387904)
 (ha:zM w (.agg #[.int .i64 x,.slice A k c,.bool a]) (signed s n)) (hb:zM w (.agg #[.int .i64 y,.slice B k' c',.bool b]) (signed t m)) (hs:s=true->0<n) (ht:t=true->0<m)
 (hln:len 4294967296 n<=67108864) (hlm:len 4294967296 m<=67108864) (hsl:znq x y A B):
 Calls prog 67 #[.agg #[.int .i64 x,.slice A k c,.bool a],.agg #[.int .i64 y,.slice B k' c',.bool b]] w (ZX w (signed s n+signed t m)):=by
 have q1:=fun w=>zlg w A k c 0 0
 have q2:=fun w=>zlg w B k' c' 0 0
 have ab:=ze hln
 have ac:=ze hlm
 clear hln hlm
 rcases hsl with h | ⟨h,h'⟩ | ⟨h,h',h5⟩ | ⟨h,h',h5⟩
 . obtain ⟨ad,rfl⟩:=Option.ne_none_iff_exists'.1 h
   clear h
   go_in
   go_wp2_with fail;have X:=(ext (ext (zf w (.cells #[.int .i64 x,.slice (some ad) k c,.bool a] 60)) (zf _ (.cells #[.int .i64 y,.slice B k' c',.bool b] 60))) (zf _ (.cells #[.int .i64 0,.slice none 0 0,.bool false] 60)));have hA:=ha.below X;have hB:=hb.below X;have Z:=(Blk.new (w.alloc (.cells #[.int .i64 x,.slice (some ad) k c,.bool a] 60)) 60 #[.int .i64 y,.slice B k' c',.bool b]).alloc (.cells #[.int .i64 0,.slice none 0 0,.bool false] 60);have S:=Blk.new ((w.alloc (.cells #[.int .i64 x,.slice (some ad) k c,.bool a] 60)).alloc (.cells #[.int .i64 y,.slice B k' c',.bool b] 60)) 60 #[.int .i64 0,.slice none 0 0,.bool false];simp only [World.size_alloc] at Z S;generalize ((w.alloc (.cells #[.int .i64 x,.slice (some ad) k c,.bool a] 60)).alloc (.cells #[.int .i64 y,.slice B k' c',.bool b] 60)).alloc (.cells #[.int .i64 0,.slice none 0 0,.bool false] 60)=W at hA hB Z S X |-;refine (xO _ s n W hA hs).mono ?_;rintro e w1 ⟨p,rfl,hp,U⟩;have af:=Z.below U Z.lt;obtain ⟨I,c1,c2,_⟩:=bp3 af;go_wp2_with fail;refine (xO _ t m w1 (hB.below U) ht).mono ?_
   rintro e G ⟨Y,rfl,K,aa⟩;have L:=hp.below aa;have l:=(S.below U S.lt).below aa (S.below U S.lt).lt;have O:=ext (ext X U) aa;clear U aa X S Z af I c1 c2 hA hB hp
   by_cases V:s=t
   . subst V
     go_wp2_with fail;refine (za8 p Y n m G L K ab.o ac.o).mono ?_;rintro e w3 ⟨q,rfl,R,u⟩;go_wp2_with fail;refine (yh s q (n+m) w3 R).mono ?_;rintro e w4 ⟨v,rfl,E,F⟩;obtain ⟨D,A',k2,C,z,rfl,_,_,_⟩:=E.form;have j:=(l.below u l.lt).below F (l.below u l.lt).lt;have T:=ext (ext O u) F;have I:=j.cell 0;have c1:=j.cell 1;have c2:=j.cell 2;obtain ⟨f0,f1,f2⟩:=fp3 j;simp at I c1 c2;go_wp2;have Q:=yo (x:=D) (A:=A') (k:=k2) (c:=C) (ng:=z) j;obtain ⟨d0,d1,N,_⟩:=bp3 Q;refine bodyPost_ret (v:=.agg #[.int .i64 D,.slice A' k2 C,.bool z]) (by simp [results,results67,go_sem,d0,d1,N]) rfl ?_;exact ⟨_,rfl,zy (by rw [zao];exact E) j,zI T (by omega)⟩
   have aj :(s == t)=false:=uD V
   go_wp2_with fail;refine (XA p Y n m G L K ab.o ac.o).mono ?_;rintro e w3 ⟨rfl,r,rfl⟩;have ag:=L.below (yI G r);have ah:=K.below (yI G r);have ae:=l.drewN r;have ai:=zt O r;clear L K l O;generalize G.drewN r=G at ag ah ae ai |-;have L:=ag;have K :=ah;have l:=ae;have O:=ai
   rcases Nat.lt_trichotomy n m with J | J | J
   . have M:yj (n:Int) (m:Int)= -1:=by unfold yj;rw [if_pos (by omega)]
     rw [M];clear M;go_wp2_with fail;refine (ZC Y p m n G K L ac.o (Nat.le_of_lt J)).mono ?_;rintro e w3 ⟨q,rfl,R,u⟩;go_wp2_with fail;refine (yh t q (m - n) w3 R).mono ?_;rintro e w4 ⟨v,rfl,E,F⟩;obtain ⟨D,A',k2,C,z,rfl,_,_,_⟩:=E.form;have j:=(l.below u l.lt).below F (l.below u l.lt).lt;have T:=ext (ext O u) F;have I:=j.cell 0;have c1:=j.cell 1;have c2:=j.cell 2;obtain ⟨f0,f1,f2⟩:=fp3 j;simp at I c1 c2;go_wp2;have Q:=yo (x:=D) (A:=A') (k:=k2) (c:=C) (ng:=z) j;obtain ⟨d0,d1,N,_⟩:=bp3 Q;refine bodyPost_ret (v:=.agg #[.int .i64 D,.slice A' k2 C,.bool z]) (by simp [results,results67,go_sem,d0,d1,N]) rfl ?_;exact ⟨_,rfl,zy (by rw [zi7 V (Nat.le_of_lt J)];exact E) j,zI T (by omega)⟩
   . have M:yj (n:Int) (m:Int)=0:=by unfold yj;rw [if_neg (by omega),if_neg (by omega)]
     rw [M];clear M;go_wp2_with fail;refine (ZC p Y n m G L K ab.o (Nat.le_of_eq J.symm)).mono ?_;rintro e w3 ⟨q,rfl,R,u⟩;go_wp2_with fail;refine (yh s q (n - m) w3 R).mono ?_;rintro e w4 ⟨v,rfl,E,F⟩;obtain ⟨D,A',k2,C,z,rfl,_,_,_⟩:=E.form;have j:=(l.below u l.lt).below F (l.below u l.lt).lt;have T:=ext (ext O u) F;have I:=j.cell 0;have c1:=j.cell 1;have c2:=j.cell 2;obtain ⟨f0,f1,f2⟩:=fp3 j;simp at I c1 c2;go_wp2;have Q:=yo (x:=D) (A:=A') (k:=k2) (c:=C) (ng:=z) j;obtain ⟨d0,d1,N,_⟩:=bp3 Q;refine bodyPost_ret (v:=.agg #[.int .i64 D,.slice A' k2 C,.bool z]) (by simp [results,results67,go_sem,d0,d1,N]) rfl ?_;exact ⟨_,rfl,zy (by rw [zac V (Nat.le_of_eq J.symm)];exact E) j,zI T (by omega)⟩
   . have M:yj (n:Int) (m:Int)=1:=by unfold yj;rw [if_neg (by omega),if_pos (by omega)]
     rw [M];clear M;go_wp2_with fail;refine (ZC p Y n m G L K ab.o (Nat.le_of_lt J)).mono ?_;rintro e w3 ⟨q,rfl,R,u⟩;go_wp2_with fail;refine (yh s q (n - m) w3 R).mono ?_;rintro e w4 ⟨v,rfl,E,F⟩;obtain ⟨D,A',k2,C,z,rfl,_,_,_⟩:=E.form;have j:=(l.below u l.lt).below F (l.below u l.lt).lt;have T:=ext (ext O u) F;have I:=j.cell 0;have c1:=j.cell 1;have c2:=j.cell 2;obtain ⟨f0,f1,f2⟩:=fp3 j;simp at I c1 c2;go_wp2;have Q:=yo (x:=D) (A:=A') (k:=k2) (c:=C) (ng:=z) j;obtain ⟨d0,d1,N,_⟩:=bp3 Q;refine bodyPost_ret (v:=.agg #[.int .i64 D,.slice A' k2 C,.bool z]) (by simp [results,results67,go_sem,d0,d1,N]) rfl ?_;exact ⟨_,rfl,zy (by rw [zac V (Nat.le_of_lt J)];exact E) j,zI T (by omega)⟩
 . obtain ⟨bd,rfl⟩:=Option.ne_none_iff_exists'.1 h'
   subst h;clear h'
   go_in
   go_wp2_with fail;have X:=(ext (ext (zf w (.cells #[.int .i64 x,.slice none k c,.bool a] 60)) (zf _ (.cells #[.int .i64 y,.slice (some bd) k' c',.bool b] 60))) (zf _ (.cells #[.int .i64 0,.slice none 0 0,.bool false] 60)));have hA:=ha.below X;have hB:=hb.below X;have Z:=(Blk.new (w.alloc (.cells #[.int .i64 x,.slice none k c,.bool a] 60)) 60 #[.int .i64 y,.slice (some bd) k' c',.bool b]).alloc (.cells #[.int .i64 0,.slice none 0 0,.bool false] 60);have S:=Blk.new ((w.alloc (.cells #[.int .i64 x,.slice none k c,.bool a] 60)).alloc (.cells #[.int .i64 y,.slice (some bd) k' c',.bool b] 60)) 60 #[.int .i64 0,.slice none 0 0,.bool false];simp only [World.size_alloc] at Z S;generalize ((w.alloc (.cells #[.int .i64 x,.slice none k c,.bool a] 60)).alloc (.cells #[.int .i64 y,.slice (some bd) k' c',.bool b] 60)).alloc (.cells #[.int .i64 0,.slice none 0 0,.bool false] 60)=W at hA hB Z S X |-;refine (xO _ s n W hA hs).mono ?_;rintro e w1 ⟨p,rfl,hp,U⟩;have af:=Z.below U Z.lt;obtain ⟨I,c1,c2,_⟩:=bp3 af;go_wp2_with fail
   refine (xO _ t m w1 (hB.below U) ht).mono ?_;rintro e G ⟨Y,rfl,K,aa⟩;have L:=hp.below aa;have l:=(S.below U S.lt).below aa (S.below U S.lt).lt;have O:=ext (ext X U) aa;clear U aa X S Z af I c1 c2 hA hB hp
   by_cases V:s=t
   . subst V
     go_wp2_with fail;refine (za8 p Y n m G L K ab.o ac.o).mono ?_;rintro e w3 ⟨q,rfl,R,u⟩;go_wp2_with fail;refine (yh s q (n+m) w3 R).mono ?_;rintro e w4 ⟨v,rfl,E,F⟩;obtain ⟨D,A',k2,C,z,rfl,_,_,_⟩:=E.form;have j:=(l.below u l.lt).below F (l.below u l.lt).lt;have T:=ext (ext O u) F;have I:=j.cell 0;have c1:=j.cell 1;have c2:=j.cell 2;obtain ⟨f0,f1,f2⟩:=fp3 j;simp at I c1 c2;go_wp2;have Q:=yo (x:=D) (A:=A') (k:=k2) (c:=C) (ng:=z) j;obtain ⟨d0,d1,N,_⟩:=bp3 Q;refine bodyPost_ret (v:=.agg #[.int .i64 D,.slice A' k2 C,.bool z]) (by simp [results,results67,go_sem,d0,d1,N]) rfl ?_;exact ⟨_,rfl,zy (by rw [zao];exact E) j,zI T (by omega)⟩
   have aj :(s == t)=false:=uD V
   go_wp2_with fail;refine (XA p Y n m G L K ab.o ac.o).mono ?_;rintro e w3 ⟨rfl,r,rfl⟩;have ag:=L.below (yI G r);have ah:=K.below (yI G r);have ae:=l.drewN r;have ai:=zt O r;clear L K l O;generalize G.drewN r=G at ag ah ae ai |-;have L:=ag;have K :=ah;have l:=ae;have O:=ai
   rcases Nat.lt_trichotomy n m with J | J | J
   . have M:yj (n:Int) (m:Int)= -1:=by unfold yj;rw [if_pos (by omega)]
     rw [M];clear M;go_wp2_with fail;refine (ZC Y p m n G K L ac.o (Nat.le_of_lt J)).mono ?_;rintro e w3 ⟨q,rfl,R,u⟩;go_wp2_with fail;refine (yh t q (m - n) w3 R).mono ?_;rintro e w4 ⟨v,rfl,E,F⟩;obtain ⟨D,A',k2,C,z,rfl,_,_,_⟩:=E.form;have j:=(l.below u l.lt).below F (l.below u l.lt).lt;have T:=ext (ext O u) F;have I:=j.cell 0;have c1:=j.cell 1;have c2:=j.cell 2;obtain ⟨f0,f1,f2⟩:=fp3 j;simp at I c1 c2;go_wp2;have Q:=yo (x:=D) (A:=A') (k:=k2) (c:=C) (ng:=z) j;obtain ⟨d0,d1,N,_⟩:=bp3 Q;refine bodyPost_ret (v:=.agg #[.int .i64 D,.slice A' k2 C,.bool z]) (by simp [results,results67,go_sem,d0,d1,N]) rfl ?_;exact ⟨_,rfl,zy (by rw [zi7 V (Nat.le_of_lt J)];exact E) j,zI T (by omega)⟩
   . have M:yj (n:Int) (m:Int)=0:=by unfold yj;rw [if_neg (by omega),if_neg (by omega)]
     rw [M];clear M;go_wp2_with fail;refine (ZC p Y n m G L K ab.o (Nat.le_of_eq J.symm)).mono ?_;rintro e w3 ⟨q,rfl,R,u⟩;go_wp2_with fail;refine (yh s q (n - m) w3 R).mono ?_;rintro e w4 ⟨v,rfl,E,F⟩;obtain ⟨D,A',k2,C,z,rfl,_,_,_⟩:=E.form;have j:=(l.below u l.lt).below F (l.below u l.lt).lt;have T:=ext (ext O u) F;have I:=j.cell 0;have c1:=j.cell 1;have c2:=j.cell 2;obtain ⟨f0,f1,f2⟩:=fp3 j;simp at I c1 c2;go_wp2;have Q:=yo (x:=D) (A:=A') (k:=k2) (c:=C) (ng:=z) j;obtain ⟨d0,d1,N,_⟩:=bp3 Q;refine bodyPost_ret (v:=.agg #[.int .i64 D,.slice A' k2 C,.bool z]) (by simp [results,results67,go_sem,d0,d1,N]) rfl ?_;exact ⟨_,rfl,zy (by rw [zac V (Nat.le_of_eq J.symm)];exact E) j,zI T (by omega)⟩
   . have M:yj (n:Int) (m:Int)=1:=by unfold yj;rw [if_neg (by omega),if_pos (by omega)]
     rw [M];clear M;go_wp2_with fail;refine (ZC p Y n m G L K ab.o (Nat.le_of_lt J)).mono ?_;rintro e w3 ⟨q,rfl,R,u⟩;go_wp2_with fail;refine (yh s q (n - m) w3 R).mono ?_;rintro e w4 ⟨v,rfl,E,F⟩;obtain ⟨D,A',k2,C,z,rfl,_,_,_⟩:=E.form;have j:=(l.below u l.lt).below F (l.below u l.lt).lt;have T:=ext (ext O u) F;have I:=j.cell 0;have c1:=j.cell 1;have c2:=j.cell 2;obtain ⟨f0,f1,f2⟩:=fp3 j;simp at I c1 c2;go_wp2;have Q:=yo (x:=D) (A:=A') (k:=k2) (c:=C) (ng:=z) j;obtain ⟨d0,d1,N,_⟩:=bp3 Q;refine bodyPost_ret (v:=.agg #[.int .i64 D,.slice A' k2 C,.bool z]) (by simp [results,results67,go_sem,d0,d1,N]) rfl ?_;exact ⟨_,rfl,zy (by rw [zac V (Nat.le_of_lt J)];exact E) j,zI T (by omega)⟩
 . subst h h'
   have d1:decide ((x+y:Int)> -4611686018427387904)=true:=uE (by omega);have N:decide ((x+y:Int)<4611686018427387904)=false:=uF (by omega);clear h5
   go_in
   go_wp2_with fail;have X:=(ext (ext (zf w (.cells #[.int .i64 x,.slice none k c,.bool a] 60)) (zf _ (.cells #[.int .i64 y,.slice none k' c',.bool b] 60))) (zf _ (.cells #[.int .i64 0,.slice none 0 0,.bool false] 60)));have hA:=ha.below X;have hB:=hb.below X;have Z:=(Blk.new (w.alloc (.cells #[.int .i64 x,.slice none k c,.bool a] 60)) 60 #[.int .i64 y,.slice none k' c',.bool b]).alloc (.cells #[.int .i64 0,.slice none 0 0,.bool false] 60);have S:=Blk.new ((w.alloc (.cells #[.int .i64 x,.slice none k c,.bool a] 60)).alloc (.cells #[.int .i64 y,.slice none k' c',.bool b] 60)) 60 #[.int .i64 0,.slice none 0 0,.bool false];simp only [World.size_alloc] at Z S;generalize ((w.alloc (.cells #[.int .i64 x,.slice none k c,.bool a] 60)).alloc (.cells #[.int .i64 y,.slice none k' c',.bool b] 60)).alloc (.cells #[.int .i64 0,.slice none 0 0,.bool false] 60)=W at hA hB Z S X |-;refine (xO _ s n W hA hs).mono ?_;rintro e w1 ⟨p,rfl,hp,U⟩;have af:=Z.below U Z.lt;obtain ⟨I,c1,c2,_⟩:=bp3 af;go_wp2_with fail;refine (xO _ t m w1 (hB.below U) ht).mono ?_
   rintro e G ⟨Y,rfl,K,aa⟩;have L:=hp.below aa;have l:=(S.below U S.lt).below aa (S.below U S.lt).lt;have O:=ext (ext X U) aa;clear U aa X S Z af I c1 c2 hA hB hp
   by_cases V:s=t
   . subst V
     go_wp2_with fail;refine (za8 p Y n m G L K ab.o ac.o).mono ?_;rintro e w3 ⟨q,rfl,R,u⟩;go_wp2_with fail;refine (yh s q (n+m) w3 R).mono ?_;rintro e w4 ⟨v,rfl,E,F⟩;obtain ⟨D,A',k2,C,z,rfl,_,_,_⟩:=E.form;have j:=(l.below u l.lt).below F (l.below u l.lt).lt;have T:=ext (ext O u) F;have I:=j.cell 0;have c1:=j.cell 1;have c2:=j.cell 2;obtain ⟨f0,f1,f2⟩:=fp3 j;simp at I c1 c2;go_wp2;have Q:=yo (x:=D) (A:=A') (k:=k2) (c:=C) (ng:=z) j;obtain ⟨d0,d1,N,_⟩:=bp3 Q;refine bodyPost_ret (v:=.agg #[.int .i64 D,.slice A' k2 C,.bool z]) (by simp [results,results67,go_sem,d0,d1,N]) rfl ?_;exact ⟨_,rfl,zy (by rw [zao];exact E) j,zI T (by omega)⟩
   have aj :(s == t)=false:=uD V
   go_wp2_with fail;refine (XA p Y n m G L K ab.o ac.o).mono ?_;rintro e w3 ⟨rfl,r,rfl⟩;have ag:=L.below (yI G r);have ah:=K.below (yI G r);have ae:=l.drewN r;have ai:=zt O r;clear L K l O;generalize G.drewN r=G at ag ah ae ai |-;have L:=ag;have K :=ah;have l:=ae;have O:=ai
   rcases Nat.lt_trichotomy n m with J | J | J
   . have M:yj (n:Int) (m:Int)= -1:=by unfold yj;rw [if_pos (by omega)]
     rw [M];clear M;go_wp2_with fail;refine (ZC Y p m n G K L ac.o (Nat.le_of_lt J)).mono ?_;rintro e w3 ⟨q,rfl,R,u⟩;go_wp2_with fail;refine (yh t q (m - n) w3 R).mono ?_;rintro e w4 ⟨v,rfl,E,F⟩;obtain ⟨D,A',k2,C,z,rfl,_,_,_⟩:=E.form;have j:=(l.below u l.lt).below F (l.below u l.lt).lt;have T:=ext (ext O u) F;have I:=j.cell 0;have c1:=j.cell 1;have c2:=j.cell 2;obtain ⟨f0,f1,f2⟩:=fp3 j;simp at I c1 c2;go_wp2;have Q:=yo (x:=D) (A:=A') (k:=k2) (c:=C) (ng:=z) j;obtain ⟨d0,d1,N,_⟩:=bp3 Q;refine bodyPost_ret (v:=.agg #[.int .i64 D,.slice A' k2 C,.bool z]) (by simp [results,results67,go_sem,d0,d1,N]) rfl ?_;exact ⟨_,rfl,zy (by rw [zi7 V (Nat.le_of_lt J)];exact E) j,zI T (by omega)⟩
   . have M:yj (n:Int) (m:Int)=0:=by unfold yj;rw [if_neg (by omega),if_neg (by omega)]
     rw [M];clear M;go_wp2_with fail;refine (ZC p Y n m G L K ab.o (Nat.le_of_eq J.symm)).mono ?_;rintro e w3 ⟨q,rfl,R,u⟩;go_wp2_with fail;refine (yh s q (n - m) w3 R).mono ?_;rintro e w4 ⟨v,rfl,E,F⟩;obtain ⟨D,A',k2,C,z,rfl,_,_,_⟩:=E.form;have j:=(l.below u l.lt).below F (l.below u l.lt).lt;have T:=ext (ext O u) F;have I:=j.cell 0;have c1:=j.cell 1;have c2:=j.cell 2;obtain ⟨f0,f1,f2⟩:=fp3 j;simp at I c1 c2;go_wp2;have Q:=yo (x:=D) (A:=A') (k:=k2) (c:=C) (ng:=z) j;obtain ⟨d0,d1,N,_⟩:=bp3 Q;refine bodyPost_ret (v:=.agg #[.int .i64 D,.slice A' k2 C,.bool z]) (by simp [results,results67,go_sem,d0,d1,N]) rfl ?_;exact ⟨_,rfl,zy (by rw [zac V (Nat.le_of_eq J.symm)];exact E) j,zI T (by omega)⟩
   . have M:yj (n:Int) (m:Int)=1:=by unfold yj;rw [if_neg (by omega),if_pos (by omega)]
     rw [M];clear M;go_wp2_with fail;refine (ZC p Y n m G L K ab.o (Nat.le_of_lt J)).mono ?_;rintro e w3 ⟨q,rfl,R,u⟩;go_wp2_with fail;refine (yh s q (n - m) w3 R).mono ?_;rintro e w4 ⟨v,rfl,E,F⟩;obtain ⟨D,A',k2,C,z,rfl,_,_,_⟩:=E.form;have j:=(l.below u l.lt).below F (l.below u l.lt).lt;have T:=ext (ext O u) F;have I:=j.cell 0;have c1:=j.cell 1;have c2:=j.cell 2;obtain ⟨f0,f1,f2⟩:=fp3 j;simp at I c1 c2;go_wp2;have Q:=yo (x:=D) (A:=A') (k:=k2) (c:=C) (ng:=z) j;obtain ⟨d0,d1,N,_⟩:=bp3 Q;refine bodyPost_ret (v:=.agg #[.int .i64 D,.slice A' k2 C,.bool z]) (by simp [results,results67,go_sem,d0,d1,N]) rfl ?_;exact ⟨_,rfl,zy (by rw [zac V (Nat.le_of_lt J)];exact E) j,zI T (by omega)⟩
 . subst h h'
   have d1:decide ((x+y:Int)> -4611686018427387904)=false:=uF (by omega);clear h5
   go_in
   go_wp2_with fail;have X:=(ext (ext (zf w (.cells #[.int .i64 x,.slice none k c,.bool a] 60)) (zf _ (.cells #[.int .i64 y,.slice none k' c',.bool b] 60))) (zf _ (.cells #[.int .i64 0,.slice none 0 0,.bool false] 60)));have hA:=ha.below X;have hB:=hb.below X;have Z:=(Blk.new (w.alloc (.cells #[.int .i64 x,.slice none k c,.bool a] 60)) 60 #[.int .i64 y,.slice none k' c',.bool b]).alloc (.cells #[.int .i64 0,.slice none 0 0,.bool false] 60);have S:=Blk.new ((w.alloc (.cells #[.int .i64 x,.slice none k c,.bool a] 60)).alloc (.cells #[.int .i64 y,.slice none k' c',.bool b] 60)) 60 #[.int .i64 0,.slice none 0 0,.bool false];simp only [World.size_alloc] at Z S;generalize ((w.alloc (.cells #[.int .i64 x,.slice none k c,.bool a] 60)).alloc (.cells #[.int .i64 y,.slice none k' c',.bool b] 60)).alloc (.cells #[.int .i64 0,.slice none 0 0,.bool false] 60)=W at hA hB Z S X |-;refine (xO _ s n W hA hs).mono ?_;rintro e w1 ⟨p,rfl,hp,U⟩;have af:=Z.below U Z.lt;obtain ⟨I,c1,c2,_⟩:=bp3 af;go_wp2_with fail;refine (xO _ t m w1 (hB.below U) ht).mono ?_
   rintro e G ⟨Y,rfl,K,aa⟩;have L:=hp.below aa;have l:=(S.below U S.lt).below aa (S.below U S.lt).lt;have O:=ext (ext X U) aa;clear U aa X S Z af I c1 c2 hA hB hp
   by_cases V:s=t
   . subst V
     go_wp2_with fail;refine (za8 p Y n m G L K ab.o ac.o).mono ?_;rintro e w3 ⟨q,rfl,R,u⟩;go_wp2_with fail;refine (yh s q (n+m) w3 R).mono ?_;rintro e w4 ⟨v,rfl,E,F⟩;obtain ⟨D,A',k2,C,z,rfl,_,_,_⟩:=E.form;have j:=(l.below u l.lt).below F (l.below u l.lt).lt;have T:=ext (ext O u) F;have I:=j.cell 0;have c1:=j.cell 1;have c2:=j.cell 2;obtain ⟨f0,f1,f2⟩:=fp3 j;simp at I c1 c2;go_wp2;have Q:=yo (x:=D) (A:=A') (k:=k2) (c:=C) (ng:=z) j;obtain ⟨d0,d1,N,_⟩:=bp3 Q;refine bodyPost_ret (v:=.agg #[.int .i64 D,.slice A' k2 C,.bool z]) (by simp [results,results67,go_sem,d0,d1,N]) rfl ?_;exact ⟨_,rfl,zy (by rw [zao];exact E) j,zI T (by omega)⟩
   have aj :(s == t)=false:=uD V
   go_wp2_with fail;refine (XA p Y n m G L K ab.o ac.o).mono ?_;rintro e w3 ⟨rfl,r,rfl⟩;have ag:=L.below (yI G r);have ah:=K.below (yI G r);have ae:=l.drewN r;have ai:=zt O r;clear L K l O;generalize G.drewN r=G at ag ah ae ai |-;have L:=ag;have K :=ah;have l:=ae;have O:=ai
   rcases Nat.lt_trichotomy n m with J | J | J
   . have M:yj (n:Int) (m:Int)= -1:=by unfold yj;rw [if_pos (by omega)]
     rw [M];clear M;go_wp2_with fail;refine (ZC Y p m n G K L ac.o (Nat.le_of_lt J)).mono ?_;rintro e w3 ⟨q,rfl,R,u⟩;go_wp2_with fail;refine (yh t q (m - n) w3 R).mono ?_;rintro e w4 ⟨v,rfl,E,F⟩;obtain ⟨D,A',k2,C,z,rfl,_,_,_⟩:=E.form;have j:=(l.below u l.lt).below F (l.below u l.lt).lt;have T:=ext (ext O u) F;have I:=j.cell 0;have c1:=j.cell 1;have c2:=j.cell 2;obtain ⟨f0,f1,f2⟩:=fp3 j;simp at I c1 c2;go_wp2;have Q:=yo (x:=D) (A:=A') (k:=k2) (c:=C) (ng:=z) j;obtain ⟨d0,d1,N,_⟩:=bp3 Q;refine bodyPost_ret (v:=.agg #[.int .i64 D,.slice A' k2 C,.bool z]) (by simp [results,results67,go_sem,d0,d1,N]) rfl ?_;exact ⟨_,rfl,zy (by rw [zi7 V (Nat.le_of_lt J)];exact E) j,zI T (by omega)⟩
   . have M:yj (n:Int) (m:Int)=0:=by unfold yj;rw [if_neg (by omega),if_neg (by omega)]
     rw [M];clear M;go_wp2_with fail;refine (ZC p Y n m G L K ab.o (Nat.le_of_eq J.symm)).mono ?_;rintro e w3 ⟨q,rfl,R,u⟩;go_wp2_with fail;refine (yh s q (n - m) w3 R).mono ?_;rintro e w4 ⟨v,rfl,E,F⟩;obtain ⟨D,A',k2,C,z,rfl,_,_,_⟩:=E.form;have j:=(l.below u l.lt).below F (l.below u l.lt).lt;have T:=ext (ext O u) F;have I:=j.cell 0;have c1:=j.cell 1;have c2:=j.cell 2;obtain ⟨f0,f1,f2⟩:=fp3 j;simp at I c1 c2;go_wp2;have Q:=yo (x:=D) (A:=A') (k:=k2) (c:=C) (ng:=z) j;obtain ⟨d0,d1,N,_⟩:=bp3 Q;refine bodyPost_ret (v:=.agg #[.int .i64 D,.slice A' k2 C,.bool z]) (by simp [results,results67,go_sem,d0,d1,N]) rfl ?_;exact ⟨_,rfl,zy (by rw [zac V (Nat.le_of_eq J.symm)];exact E) j,zI T (by omega)⟩
   . have M:yj (n:Int) (m:Int)=1:=by unfold yj;rw [if_neg (by omega),if_pos (by omega)]
     rw [M];clear M;go_wp2_with fail;refine (ZC p Y n m G L K ab.o (Nat.le_of_lt J)).mono ?_;rintro e w3 ⟨q,rfl,R,u⟩;go_wp2_with fail;refine (yh s q (n - m) w3 R).mono ?_;rintro e w4 ⟨v,rfl,E,F⟩;obtain ⟨D,A',k2,C,z,rfl,_,_,_⟩:=E.form;have j:=(l.below u l.lt).below F (l.below u l.lt).lt;have T:=ext (ext O u) F;have I:=j.cell 0;have c1:=j.cell 1;have c2:=j.cell 2;obtain ⟨f0,f1,f2⟩:=fp3 j;simp at I c1 c2;go_wp2;have Q:=yo (x:=D) (A:=A') (k:=k2) (c:=C) (ng:=z) j;obtain ⟨d0,d1,N,_⟩:=bp3 Q;refine bodyPost_ret (v:=.agg #[.int .i64 D,.slice A' k2 C,.bool z]) (by simp [results,results67,go_sem,d0,d1,N]) rfl ?_;exact ⟨_,rfl,zy (by rw [zac V (Nat.le_of_lt J)];exact E) j,zI T (by omega)⟩
theorem ZP {z:Int}:decide (z<0)=true->0<z.natAbs:=by
 intro h
 have:=uG h
 omega
theorem zen (va vb:Value) (z y:Int) (w:World) (ha:zM w va z) (hb:zM w vb y) (hla:len 4294967296 z.natAbs<=67108864) (hlb:len 4294967296 y.natAbs<=67108864):
 Calls prog 67 #[va,vb] w (ZX w (z+y)):=by
 have J :=ha
 have F :=hb
 obtain ⟨e,A,k,c,s,rfl,C,r,K⟩:=ha.form
 obtain ⟨j,B,k',c',t,rfl,D,u,I⟩:=hb.form
 by_cases m:A=none/\B=none/\ -4611686018427387904<e+j/\e+j<4611686018427387904
 . obtain ⟨b,l,G,E⟩:=m
   obtain ⟨rfl,rfl,rfl⟩:=K b;obtain ⟨rfl,rfl,rfl⟩:=I l;subst b l;exact zo0 z y s t w C r D u G E
 have:=zoo (decide (z<0)) (decide (y<0)) z.natAbs y.natAbs e j A B k c k' c' s t w C r D u (by rw [yU];exact J) (by rw [yU];exact F) ZP ZP hla hlb (by
  unfold znq
  by_cases b:A=none
  . by_cases l:B=none
    rotate_left
    . exact .inr (.inl ⟨b,l⟩)
    have:¬ (-4611686018427387904<e+j/\e+j<4611686018427387904):=fun h=>m ⟨b,l,h⟩
    rcases (show -4611686018427387904<e+j\/e+j<= -4611686018427387904 by omega) with h | h
    . exact .inr (.inr (.inl ⟨b,l,by omega⟩))
    . exact .inr (.inr (.inr ⟨b,l,by omega⟩))
  . exact .inl b)
 rwa [yU,yU] at this
theorem Y3 (s t:Bool) (n m:Nat):signed s n*signed t m=signed (s != t) (n*m):=by
 cases s<;>cases t<;>unfold signed<;>simp [Int.neg_mul,Int.mul_neg,Int.natCast_mul]
theorem Zv {w w' :World} {g:Nat} {t:TypeId} {cs:Array Value} (hb:Below w.heap.size w w') (h:Hid (Blk w g t cs)):Hid (Blk w' g t cs):=h.out.below hb h.out.lt
theorem zp9 (x y:Int) (a b:Bool) (P:Nat) (w:World) (h1: -4611686018427387904<x) (h2:x<4611686018427387904) (h3: -4611686018427387904<y) (h4:y<4611686018427387904) (hP:P=x.natAbs*y.natAbs) (hP2:P<4611686018427387904):
 Calls prog 66 #[.agg #[.int .i64 x,.slice none 0 0,.bool a],.agg #[.int .i64 y,.slice none 0 0,.bool b]] w (ZX w (x*y)):=by
 have Q:=fun w=>zlg w none 0 0 0 0
 have K:=fun w=>Xp x (.slice none 0 0) a w h1 h2
 have J:=fun w=>Xp y (.slice none 0 0) b w h3 h4
 have I:=fun w=>ze1 x.natAbs y.natAbs (by omega) (by omega) w
 rw [<- hP,Nat.div_eq_of_lt (by omega),Nat.mod_eq_of_lt (by omega)] at I
 have O:x*y=signed (decide (x<0) != decide (y<0)) P:=by rw [hP, <- Y3,yU,yU]
 rw [O]
 clear O hP h1 h2 h3 h4
 have R:decide ((P:Int)<4611686018427387904)=true:=uE (by omega)
 have B:=ze hP2
 have S:(P:Int)<4611686018427387904:=by omega
 clear hP2
 have T:=Int.natCast_nonneg P
 rcases (show x<0\/¬ x<0 by omega) with z | z
 . rcases (show y<0\/¬ y<0 by omega) with m | m
   . have r:(decide (x<0) != decide (y<0))=false:=by rw [uE z,uE m];rfl
     rw [r];clear r;have N:decide (x<0)=true:=uE z;have M:decide (y<0)=true:=uE m;have E:=(ext (ext (zf w (.cells #[.int .i64 x,.slice none 0 0,.bool a] 60)) (zf _ (.cells #[.int .i64 y,.slice none 0 0,.bool b] 60))) (zf _ (.cells #[.int .i64 0,.slice none 0 0,.bool false] 60)));have u:=(Blk.new (w.alloc (.cells #[.int .i64 x,.slice none 0 0,.bool a] 60)) 60 #[.int .i64 y,.slice none 0 0,.bool b]).alloc (.cells #[.int .i64 0,.slice none 0 0,.bool false] 60);have l:=Blk.new ((w.alloc (.cells #[.int .i64 x,.slice none 0 0,.bool a] 60)).alloc (.cells #[.int .i64 y,.slice none 0 0,.bool b] 60)) 60 #[.int .i64 0,.slice none 0 0,.bool false];simp only [World.size_alloc] at u l
     go_in
     go_wp2_with fail
     go_region_held3 (fun w' =>w'.cell? ⟨w.heap.size,0,none⟩=some (.int .i64 x)/\w'.cell? ⟨w.heap.size,1,none⟩=some (.slice none 0 0)/\w'.cell? ⟨w.heap.size,2,none⟩=some (.bool a)/\
      w'.cell? ⟨w.heap.size+1,0,none⟩=some (.int .i64 y)/\w'.cell? ⟨w.heap.size+1,1,none⟩=some (.slice none 0 0)/\w'.cell? ⟨w.heap.size+1,2,none⟩=some (.bool b)/\
      w.heap.size<w'.heap.size/\w.heap.size+1<w'.heap.size/\Hid (Blk w' (w.heap.size+1) 60 #[.int .i64 y,.slice none 0 0,.bool b])/\Hid (Blk w' (w.heap.size+1+1) 60 #[.int .i64 0,.slice none 0 0,.bool false])/\Hid (Below w.heap.size w w'))
      (first
        | exact ⟨by go_keep,by go_keep,by go_keep,by go_keep,by go_keep,by go_keep,by simp;omega,by simp,ze (u.drewN 1),ze (l.drewN 1),ze (zt E 1)⟩
        | go_keep
        | (go_split_ands;exact ⟨zh ‹_› ‹_› ‹_›,zh ‹_› ‹_› ‹_›,zh ‹_› ‹_› ‹_›,zh ‹_› ‹_› ‹_›,zh ‹_› ‹_› ‹_›,zh ‹_› ‹_› ‹_›,zU ‹_› ‹_›,zU ‹_› ‹_›,Zv ‹_› ‹_›,Zv ‹_› ‹_›,zo ‹_› ‹_›⟩))
      (first
        | (go_at_call_of 97 (Value.agg #[Value.int .i64 x,.slice none 0 0,.bool a]);refine (K _).mono ?_;rintro e w1 ⟨rfl,F⟩)
        | (go_at_call_of 97 (Value.agg #[Value.int .i64 y,.slice none 0 0,.bool b]);refine (J _).mono ?_;rintro e w1 ⟨rfl,F⟩)
        | (go_at_call 101;refine (I _).mono ?_;rintro e w1 ⟨rfl,rfl⟩))
     go_split_ands;have j:=zO (by assumption:Hid (Blk _ (w.heap.size+1+1) _ _));have G:=j.cell 0;have c1:=j.cell 1;have c2:=j.cell 2;obtain ⟨L,f1,f2⟩:=fp3 j;simp at G c1 c2;go_wp2;have D:=yo (x:=P) (A:=none) (k:=0) (c:=0) (ng:=false) j;obtain ⟨d0,d1,C,_⟩:=bp3 D;refine bodyPost_ret (v:=.agg #[.int .i64 (P),.slice none 0 0,.bool false]) (by simp [results,results66,go_sem,d0,d1,C]) rfl ?_;exact ⟨_,rfl,.inl ⟨_,_,rfl,by have:=B.o;omega,by have:=B.o;omega,rfl⟩,zI (zO ‹_›) (by omega)⟩
   . have r:(decide (x<0) != decide (y<0))=true:=by rw [uE z,uF m];rfl
     rw [r];clear r;have N:decide (x<0)=true:=uE z;have M:decide (y<0)=false:=uF m;have E:=(ext (ext (zf w (.cells #[.int .i64 x,.slice none 0 0,.bool a] 60)) (zf _ (.cells #[.int .i64 y,.slice none 0 0,.bool b] 60))) (zf _ (.cells #[.int .i64 0,.slice none 0 0,.bool false] 60)));have u:=(Blk.new (w.alloc (.cells #[.int .i64 x,.slice none 0 0,.bool a] 60)) 60 #[.int .i64 y,.slice none 0 0,.bool b]).alloc (.cells #[.int .i64 0,.slice none 0 0,.bool false] 60);have l:=Blk.new ((w.alloc (.cells #[.int .i64 x,.slice none 0 0,.bool a] 60)).alloc (.cells #[.int .i64 y,.slice none 0 0,.bool b] 60)) 60 #[.int .i64 0,.slice none 0 0,.bool false];simp only [World.size_alloc] at u l
     go_in
     go_wp2_with fail
     go_region_held3 (fun w' =>w'.cell? ⟨w.heap.size,0,none⟩=some (.int .i64 x)/\w'.cell? ⟨w.heap.size,1,none⟩=some (.slice none 0 0)/\w'.cell? ⟨w.heap.size,2,none⟩=some (.bool a)/\
      w'.cell? ⟨w.heap.size+1,0,none⟩=some (.int .i64 y)/\w'.cell? ⟨w.heap.size+1,1,none⟩=some (.slice none 0 0)/\w'.cell? ⟨w.heap.size+1,2,none⟩=some (.bool b)/\
      w.heap.size<w'.heap.size/\w.heap.size+1<w'.heap.size/\Hid (Blk w' (w.heap.size+1) 60 #[.int .i64 y,.slice none 0 0,.bool b])/\Hid (Blk w' (w.heap.size+1+1) 60 #[.int .i64 0,.slice none 0 0,.bool false])/\Hid (Below w.heap.size w w'))
      (first
        | exact ⟨by go_keep,by go_keep,by go_keep,by go_keep,by go_keep,by go_keep,by simp;omega,by simp,ze (u.drewN 1),ze (l.drewN 1),ze (zt E 1)⟩
        | go_keep
        | (go_split_ands;exact ⟨zh ‹_› ‹_› ‹_›,zh ‹_› ‹_› ‹_›,zh ‹_› ‹_› ‹_›,zh ‹_› ‹_› ‹_›,zh ‹_› ‹_› ‹_›,zh ‹_› ‹_› ‹_›,zU ‹_› ‹_›,zU ‹_› ‹_›,Zv ‹_› ‹_›,Zv ‹_› ‹_›,zo ‹_› ‹_›⟩))
      (first
        | (go_at_call_of 97 (Value.agg #[Value.int .i64 x,.slice none 0 0,.bool a]);refine (K _).mono ?_;rintro e w1 ⟨rfl,F⟩)
        | (go_at_call_of 97 (Value.agg #[Value.int .i64 y,.slice none 0 0,.bool b]);refine (J _).mono ?_;rintro e w1 ⟨rfl,F⟩)
        | (go_at_call 101;refine (I _).mono ?_;rintro e w1 ⟨rfl,rfl⟩))
     go_split_ands;have j:=zO (by assumption:Hid (Blk _ (w.heap.size+1+1) _ _));have G:=j.cell 0;have c1:=j.cell 1;have c2:=j.cell 2;obtain ⟨L,f1,f2⟩:=fp3 j;simp at G c1 c2;go_wp2;have D:=yo (x:= -P) (A:=none) (k:=0) (c:=0) (ng:=false) j;obtain ⟨d0,d1,C,_⟩:=bp3 D;refine bodyPost_ret (v:=.agg #[.int .i64 (-P),.slice none 0 0,.bool false]) (by simp [results,results66,go_sem,d0,d1,C]) rfl ?_;exact ⟨_,rfl,.inl ⟨_,_,rfl,by have:=B.o;omega,by have:=B.o;omega,rfl⟩,zI (zO ‹_›) (by omega)⟩
 . rcases (show y<0\/¬ y<0 by omega) with m | m
   . have r:(decide (x<0) != decide (y<0))=true:=by rw [uF z,uE m];rfl
     rw [r];clear r;have N:decide (x<0)=false:=uF z;have M:decide (y<0)=true:=uE m;have E:=(ext (ext (zf w (.cells #[.int .i64 x,.slice none 0 0,.bool a] 60)) (zf _ (.cells #[.int .i64 y,.slice none 0 0,.bool b] 60))) (zf _ (.cells #[.int .i64 0,.slice none 0 0,.bool false] 60)));have u:=(Blk.new (w.alloc (.cells #[.int .i64 x,.slice none 0 0,.bool a] 60)) 60 #[.int .i64 y,.slice none 0 0,.bool b]).alloc (.cells #[.int .i64 0,.slice none 0 0,.bool false] 60);have l:=Blk.new ((w.alloc (.cells #[.int .i64 x,.slice none 0 0,.bool a] 60)).alloc (.cells #[.int .i64 y,.slice none 0 0,.bool b] 60)) 60 #[.int .i64 0,.slice none 0 0,.bool false];simp only [World.size_alloc] at u l
     go_in
     go_wp2_with fail
     go_region_held3 (fun w' =>w'.cell? ⟨w.heap.size,0,none⟩=some (.int .i64 x)/\w'.cell? ⟨w.heap.size,1,none⟩=some (.slice none 0 0)/\w'.cell? ⟨w.heap.size,2,none⟩=some (.bool a)/\
      w'.cell? ⟨w.heap.size+1,0,none⟩=some (.int .i64 y)/\w'.cell? ⟨w.heap.size+1,1,none⟩=some (.slice none 0 0)/\w'.cell? ⟨w.heap.size+1,2,none⟩=some (.bool b)/\
      w.heap.size<w'.heap.size/\w.heap.size+1<w'.heap.size/\Hid (Blk w' (w.heap.size+1) 60 #[.int .i64 y,.slice none 0 0,.bool b])/\Hid (Blk w' (w.heap.size+1+1) 60 #[.int .i64 0,.slice none 0 0,.bool false])/\Hid (Below w.heap.size w w'))
      (first
        | exact ⟨by go_keep,by go_keep,by go_keep,by go_keep,by go_keep,by go_keep,by simp;omega,by simp,ze (u.drewN 1),ze (l.drewN 1),ze (zt E 1)⟩
        | go_keep
        | (go_split_ands;exact ⟨zh ‹_› ‹_› ‹_›,zh ‹_› ‹_› ‹_›,zh ‹_› ‹_› ‹_›,zh ‹_› ‹_› ‹_›,zh ‹_› ‹_› ‹_›,zh ‹_› ‹_› ‹_›,zU ‹_› ‹_›,zU ‹_› ‹_›,Zv ‹_› ‹_›,Zv ‹_› ‹_›,zo ‹_› ‹_›⟩))
      (first
        | (go_at_call_of 97 (Value.agg #[Value.int .i64 x,.slice none 0 0,.bool a]);refine (K _).mono ?_;rintro e w1 ⟨rfl,F⟩)
        | (go_at_call_of 97 (Value.agg #[Value.int .i64 y,.slice none 0 0,.bool b]);refine (J _).mono ?_;rintro e w1 ⟨rfl,F⟩)
        | (go_at_call 101;refine (I _).mono ?_;rintro e w1 ⟨rfl,rfl⟩))
     go_split_ands;have j:=zO (by assumption:Hid (Blk _ (w.heap.size+1+1) _ _));have G:=j.cell 0;have c1:=j.cell 1;have c2:=j.cell 2;obtain ⟨L,f1,f2⟩:=fp3 j;simp at G c1 c2;go_wp2;have D:=yo (x:= -P) (A:=none) (k:=0) (c:=0) (ng:=false) j;obtain ⟨d0,d1,C,_⟩:=bp3 D;refine bodyPost_ret (v:=.agg #[.int .i64 (-P),.slice none 0 0,.bool false]) (by simp [results,results66,go_sem,d0,d1,C]) rfl ?_;exact ⟨_,rfl,.inl ⟨_,_,rfl,by have:=B.o;omega,by have:=B.o;omega,rfl⟩,zI (zO ‹_›) (by omega)⟩
   . have r:(decide (x<0) != decide (y<0))=false:=by rw [uF z,uF m];rfl
     rw [r];clear r;have N:decide (x<0)=false:=uF z;have M:decide (y<0)=false:=uF m;have E:=(ext (ext (zf w (.cells #[.int .i64 x,.slice none 0 0,.bool a] 60)) (zf _ (.cells #[.int .i64 y,.slice none 0 0,.bool b] 60))) (zf _ (.cells #[.int .i64 0,.slice none 0 0,.bool false] 60)));have u:=(Blk.new (w.alloc (.cells #[.int .i64 x,.slice none 0 0,.bool a] 60)) 60 #[.int .i64 y,.slice none 0 0,.bool b]).alloc (.cells #[.int .i64 0,.slice none 0 0,.bool false] 60);have l:=Blk.new ((w.alloc (.cells #[.int .i64 x,.slice none 0 0,.bool a] 60)).alloc (.cells #[.int .i64 y,.slice none 0 0,.bool b] 60)) 60 #[.int .i64 0,.slice none 0 0,.bool false];simp only [World.size_alloc] at u l
     go_in
     go_wp2_with fail
     go_region_held3 (fun w' =>w'.cell? ⟨w.heap.size,0,none⟩=some (.int .i64 x)/\w'.cell? ⟨w.heap.size,1,none⟩=some (.slice none 0 0)/\w'.cell? ⟨w.heap.size,2,none⟩=some (.bool a)/\
      w'.cell? ⟨w.heap.size+1,0,none⟩=some (.int .i64 y)/\w'.cell? ⟨w.heap.size+1,1,none⟩=some (.slice none 0 0)/\w'.cell? ⟨w.heap.size+1,2,none⟩=some (.bool b)/\
      w.heap.size<w'.heap.size/\w.heap.size+1<w'.heap.size/\Hid (Blk w' (w.heap.size+1) 60 #[.int .i64 y,.slice none 0 0,.bool b])/\Hid (Blk w' (w.heap.size+1+1) 60 #[.int .i64 0,.slice none 0 0,.bool false])/\Hid (Below w.heap.size w w'))
      (first
        | exact ⟨by go_keep,by go_keep,by go_keep,by go_keep,by go_keep,by go_keep,by simp;omega,by simp,ze (u.drewN 1),ze (l.drewN 1),ze (zt E 1)⟩
        | go_keep
        | (go_split_ands;exact ⟨zh ‹_› ‹_› ‹_›,zh ‹_› ‹_› ‹_›,zh ‹_› ‹_› ‹_›,zh ‹_› ‹_› ‹_›,zh ‹_› ‹_› ‹_›,zh ‹_› ‹_› ‹_›,zU ‹_› ‹_›,zU ‹_› ‹_›,Zv ‹_› ‹_›,Zv ‹_› ‹_›,zo ‹_› ‹_›⟩))
      (first
        | (go_at_call_of 97 (Value.agg #[Value.int .i64 x,.slice none 0 0,.bool a]);refine (K _).mono ?_;rintro e w1 ⟨rfl,F⟩)
        | (go_at_call_of 97 (Value.agg #[Value.int .i64 y,.slice none 0 0,.bool b]);refine (J _).mono ?_;rintro e w1 ⟨rfl,F⟩)
        | (go_at_call 101;refine (I _).mono ?_;rintro e w1 ⟨rfl,rfl⟩))
     go_split_ands;have j:=zO (by assumption:Hid (Blk _ (w.heap.size+1+1) _ _));have G:=j.cell 0;have c1:=j.cell 1;have c2:=j.cell 2;obtain ⟨L,f1,f2⟩:=fp3 j;simp at G c1 c2;go_wp2;have D:=yo (x:=P) (A:=none) (k:=0) (c:=0) (ng:=false) j;obtain ⟨d0,d1,C,_⟩:=bp3 D;refine bodyPost_ret (v:=.agg #[.int .i64 (P),.slice none 0 0,.bool false]) (by simp [results,results66,go_sem,d0,d1,C]) rfl ?_;exact ⟨_,rfl,.inl ⟨_,_,rfl,by have:=B.o;omega,by have:=B.o;omega,rfl⟩,zI (zO ‹_›) (by omega)⟩
def znx (x y:Int) (A B:Option Addr):Prop:=A≠none\/(A=none/\B≠none)\/(A=none/\B=none/\4611686018427387904<=x.natAbs*y.natAbs)
theorem zpp (s t:Bool) (n m:Nat) (x y:Int) (A B:Option Addr) (k c k' c' :Nat) (a b:Bool) (w:World) (h1: -4611686018427387904<x) (h2:x<4611686018427387904) (h3: -4611686018427387904<y) (h4:y<4611686018427387904)
 (hA0:A=none->k=0/\c=0) (hB0:B=none->k' =0/\c' =0)
 (ha:zM w (.agg #[.int .i64 x,.slice A k c,.bool a]) (signed s n)) (hb:zM w (.agg #[.int .i64 y,.slice B k' c',.bool b]) (signed t m)) (hs:s=true->0<n) (ht:t=true->0<m)
 (hln:len 4294967296 n<=67108864) (hlm:len 4294967296 m<=67108864) (hsl:znx x y A B):
 Calls prog 66 #[.agg #[.int .i64 x,.slice A k c,.bool a],.agg #[.int .i64 y,.slice B k' c',.bool b]] w (ZX w (signed s n*signed t m)):=by
 have q1:=fun w=>zlg w A k c 0 0
 have q2:=fun w=>zlg w B k' c' 0 0
 have ae:=ze hln
 have af:=ze hlm
 clear hln hlm
 rcases hsl with h | ⟨h,h'⟩ | ⟨h,h',h5⟩
 . obtain ⟨ad,rfl⟩:=Option.ne_none_iff_exists'.1 h
   clear h
   go_in
   go_wp2_with fail;have z:=(ext (ext (zf w (.cells #[.int .i64 x,.slice (some ad) k c,.bool a] 60)) (zf _ (.cells #[.int .i64 y,.slice B k' c',.bool b] 60))) (zf _ (.cells #[.int .i64 0,.slice none 0 0,.bool false] 60)));have G:=ha.below z;have I:=hb.below z;have u:=(Blk.new (w.alloc (.cells #[.int .i64 x,.slice (some ad) k c,.bool a] 60)) 60 #[.int .i64 y,.slice B k' c',.bool b]).alloc (.cells #[.int .i64 0,.slice none 0 0,.bool false] 60);have j:=Blk.new ((w.alloc (.cells #[.int .i64 x,.slice (some ad) k c,.bool a] 60)).alloc (.cells #[.int .i64 y,.slice B k' c',.bool b] 60)) 60 #[.int .i64 0,.slice none 0 0,.bool false];simp only [World.size_alloc] at u j;generalize ((w.alloc (.cells #[.int .i64 x,.slice (some ad) k c,.bool a] 60)).alloc (.cells #[.int .i64 y,.slice B k' c',.bool b] 60)).alloc (.cells #[.int .i64 0,.slice none 0 0,.bool false] 60)=W at G I u j z |-;refine (xO _ s n W G hs).mono ?_;rintro e w1 ⟨p,rfl,O,l⟩;have K:=u.below l u.lt;obtain ⟨F,c1,c2,_⟩:=bp3 K;go_wp2_with fail;refine (xO _ t m w1 (I.below l) ht).mono ?_
   rintro e w2 ⟨p',rfl,X,D⟩;have aa:=O.below D;have C:=(j.below l j.lt).below D (j.below l j.lt).lt;have U:=ext (ext z l) D;clear l D z j u K F c1 c2 G I O;go_wp2_with fail;refine (zbf p p' n m w2 aa X ae.o af.o).mono ?_;rintro e w3 ⟨q,rfl,Y,E⟩;go_wp2_with fail;refine (yh (s != t) q (n*m) w3 Y).mono ?_;rintro e w4 ⟨v,rfl,Q,R⟩;obtain ⟨N,A',k2,M,J,rfl,_,_,_⟩:=Q.form;have r:=(C.below E C.lt).below R (C.below E C.lt).lt;have Z:=ext (ext U E) R;have F:=r.cell 0;have c1:=r.cell 1;have c2:=r.cell 2;obtain ⟨f0,f1,f2⟩:=fp3 r;simp at F c1 c2;go_wp2;have V:=yo (x:=N) (A:=A') (k:=k2) (c:=M) (ng:=J) r;obtain ⟨d0,d1,T,_⟩:=bp3 V;refine bodyPost_ret (v:=.agg #[.int .i64 N,.slice A' k2 M,.bool J]) (by simp [results,results66,go_sem,d0,d1,T]) rfl ?_;exact ⟨_,rfl,zy (by rw [Y3];exact Q) r,zI Z (by omega)⟩
 . obtain ⟨bd,rfl⟩:=Option.ne_none_iff_exists'.1 h'
   subst h;obtain ⟨rfl,rfl⟩:=hA0 rfl;clear h' hA0 hB0
   go_in
   go_wp2_with fail;have z:=(ext (ext (zf w (.cells #[.int .i64 x,.slice none 0 0,.bool a] 60)) (zf _ (.cells #[.int .i64 y,.slice (some bd) k' c',.bool b] 60))) (zf _ (.cells #[.int .i64 0,.slice none 0 0,.bool false] 60)));have G:=ha.below z;have I:=hb.below z;have u:=(Blk.new (w.alloc (.cells #[.int .i64 x,.slice none 0 0,.bool a] 60)) 60 #[.int .i64 y,.slice (some bd) k' c',.bool b]).alloc (.cells #[.int .i64 0,.slice none 0 0,.bool false] 60);have j:=Blk.new ((w.alloc (.cells #[.int .i64 x,.slice none 0 0,.bool a] 60)).alloc (.cells #[.int .i64 y,.slice (some bd) k' c',.bool b] 60)) 60 #[.int .i64 0,.slice none 0 0,.bool false];simp only [World.size_alloc] at u j;generalize ((w.alloc (.cells #[.int .i64 x,.slice none 0 0,.bool a] 60)).alloc (.cells #[.int .i64 y,.slice (some bd) k' c',.bool b] 60)).alloc (.cells #[.int .i64 0,.slice none 0 0,.bool false] 60)=W at G I u j z |-;refine (xO _ s n W G hs).mono ?_;rintro e w1 ⟨p,rfl,O,l⟩;have K:=u.below l u.lt;obtain ⟨F,c1,c2,_⟩:=bp3 K;go_wp2_with fail
   refine (xO _ t m w1 (I.below l) ht).mono ?_;rintro e w2 ⟨p',rfl,X,D⟩;have aa:=O.below D;have C:=(j.below l j.lt).below D (j.below l j.lt).lt;have U:=ext (ext z l) D;clear l D z j u K F c1 c2 G I O;go_wp2_with fail;refine (zbf p p' n m w2 aa X ae.o af.o).mono ?_;rintro e w3 ⟨q,rfl,Y,E⟩;go_wp2_with fail;refine (yh (s != t) q (n*m) w3 Y).mono ?_;rintro e w4 ⟨v,rfl,Q,R⟩;obtain ⟨N,A',k2,M,J,rfl,_,_,_⟩:=Q.form;have r:=(C.below E C.lt).below R (C.below E C.lt).lt;have Z:=ext (ext U E) R;have F:=r.cell 0;have c1:=r.cell 1;have c2:=r.cell 2;obtain ⟨f0,f1,f2⟩:=fp3 r;simp at F c1 c2;go_wp2;have V:=yo (x:=N) (A:=A') (k:=k2) (c:=M) (ng:=J) r;obtain ⟨d0,d1,T,_⟩:=bp3 V;refine bodyPost_ret (v:=.agg #[.int .i64 N,.slice A' k2 M,.bool J]) (by simp [results,results66,go_sem,d0,d1,T]) rfl ?_;exact ⟨_,rfl,zy (by rw [Y3];exact Q) r,zI Z (by omega)⟩
 . subst h h'
   obtain ⟨rfl,rfl⟩:=hA0 rfl;obtain ⟨rfl,rfl⟩:=hB0 rfl;have hx:=fun w=>Xp x (.slice none 0 0) a w h1 h2
   have hy:=fun w=>Xp y (.slice none 0 0) b w h3 h4
   have hm:=fun w=>ze1 x.natAbs y.natAbs (by omega) (by omega) w
   generalize x.natAbs*y.natAbs=P at hm h5;have hL:P / 18446744073709551616≠0\/(P / 18446744073709551616=0/\4611686018427387904<=P % 18446744073709551616):=by omega
   generalize P / 18446744073709551616=H at hm hL;generalize P % 18446744073709551616=L at hm hL;clear h5 h1 h2 h3 h4 hA0 hB0
   rcases hL with hL | ⟨rfl,hL⟩
   . have hH:¬ (H:Int)=0:=by omega
     have ag:((H:Int) == 0)=false:=uD hH;clear hL;have z:=(ext (ext (zf w (.cells #[.int .i64 x,.slice none 0 0,.bool a] 60)) (zf _ (.cells #[.int .i64 y,.slice none 0 0,.bool b] 60))) (zf _ (.cells #[.int .i64 0,.slice none 0 0,.bool false] 60)));have u:=(Blk.new (w.alloc (.cells #[.int .i64 x,.slice none 0 0,.bool a] 60)) 60 #[.int .i64 y,.slice none 0 0,.bool b]).alloc (.cells #[.int .i64 0,.slice none 0 0,.bool false] 60);have j:=Blk.new ((w.alloc (.cells #[.int .i64 x,.slice none 0 0,.bool a] 60)).alloc (.cells #[.int .i64 y,.slice none 0 0,.bool b] 60)) 60 #[.int .i64 0,.slice none 0 0,.bool false];simp only [World.size_alloc] at u j
     go_in
     go_wp2_with fail
     go_region_held3 (fun w' =>w'.cell? ⟨w.heap.size,0,none⟩=some (.int .i64 x)/\w'.cell? ⟨w.heap.size,1,none⟩=some (.slice none 0 0)/\w'.cell? ⟨w.heap.size,2,none⟩=some (.bool a)/\
      w'.cell? ⟨w.heap.size+1,0,none⟩=some (.int .i64 y)/\w'.cell? ⟨w.heap.size+1,1,none⟩=some (.slice none 0 0)/\w'.cell? ⟨w.heap.size+1,2,none⟩=some (.bool b)/\
      w.heap.size<w'.heap.size/\w.heap.size+1<w'.heap.size/\Hid (Blk w' (w.heap.size+1) 60 #[.int .i64 y,.slice none 0 0,.bool b])/\Hid (Blk w' (w.heap.size+1+1) 60 #[.int .i64 0,.slice none 0 0,.bool false])/\Hid (Below w.heap.size w w'))
      (first
        | exact ⟨by go_keep,by go_keep,by go_keep,by go_keep,by go_keep,by go_keep,by simp;omega,by simp,ze (u.drewN 1),ze (j.drewN 1),ze (zt z 1)⟩
        | go_keep
        | (go_split_ands;exact ⟨zh ‹_› ‹_› ‹_›,zh ‹_› ‹_› ‹_›,zh ‹_› ‹_› ‹_›,zh ‹_› ‹_› ‹_›,zh ‹_› ‹_› ‹_›,zh ‹_› ‹_› ‹_›,zU ‹_› ‹_›,zU ‹_› ‹_›,Zv ‹_› ‹_›,Zv ‹_› ‹_›,zo ‹_› ‹_›⟩))
      (first
        | (go_at_call_of 97 (Value.agg #[Value.int .i64 x,.slice none 0 0,.bool a]);refine (hx _).mono ?_;rintro e w1 ⟨rfl,l⟩)
        | (go_at_call_of 97 (Value.agg #[Value.int .i64 y,.slice none 0 0,.bool b]);refine (hy _).mono ?_;rintro e w1 ⟨rfl,l⟩)
        | (go_at_call 101;refine (hm _).mono ?_;rintro e w1 ⟨rfl,rfl⟩))
     go_split_ands;have S :=zO (by assumption:Hid (Below w.heap.size w _));have ac :=zO (by assumption:Hid (Blk _ (w.heap.size+1) _ _));have ab :=zO (by assumption:Hid (Blk _ (w.heap.size+1+1) _ _));have G:=ha.below S;have I:=hb.below S;clear z u j;have z:=S;have u:=ac;have j:=ab;clear S ac ab;go_wp2_with fail;refine (xO _ s n _ G hs).mono ?_;rintro e w1 ⟨p,rfl,O,l⟩;have K:=u.below l u.lt;obtain ⟨F,c1,c2,_⟩:=bp3 K;go_wp2_with fail;refine (xO _ t m w1 (I.below l) ht).mono ?_;rintro e w2 ⟨p',rfl,X,D⟩;have aa:=O.below D;have C:=(j.below l j.lt).below D (j.below l j.lt).lt;have U:=ext (ext z l) D;clear l D z j u K F c1 c2 G I O;go_wp2_with fail;refine (zbf p p' n m w2 aa X ae.o af.o).mono ?_;rintro e w3 ⟨q,rfl,Y,E⟩;go_wp2_with fail;refine (yh (s != t) q (n*m) w3 Y).mono ?_;rintro e w4 ⟨v,rfl,Q,R⟩;obtain ⟨N,A',k2,M,J,rfl,_,_,_⟩:=Q.form;have r:=(C.below E C.lt).below R (C.below E C.lt).lt;have Z:=ext (ext U E) R
     have F:=r.cell 0;have c1:=r.cell 1;have c2:=r.cell 2;obtain ⟨f0,f1,f2⟩:=fp3 r;simp at F c1 c2;go_wp2;have V:=yo (x:=N) (A:=A') (k:=k2) (c:=M) (ng:=J) r;obtain ⟨d0,d1,T,_⟩:=bp3 V;refine bodyPost_ret (v:=.agg #[.int .i64 N,.slice A' k2 M,.bool J]) (by simp [results,results66,go_sem,d0,d1,T]) rfl ?_;exact ⟨_,rfl,zy (by rw [Y3];exact Q) r,zI Z (by omega)⟩
   . have hD:decide ((L:Int)<4611686018427387904)=false:=uF (by omega)
     clear hL;have z:=(ext (ext (zf w (.cells #[.int .i64 x,.slice none 0 0,.bool a] 60)) (zf _ (.cells #[.int .i64 y,.slice none 0 0,.bool b] 60))) (zf _ (.cells #[.int .i64 0,.slice none 0 0,.bool false] 60)));have u:=(Blk.new (w.alloc (.cells #[.int .i64 x,.slice none 0 0,.bool a] 60)) 60 #[.int .i64 y,.slice none 0 0,.bool b]).alloc (.cells #[.int .i64 0,.slice none 0 0,.bool false] 60);have j:=Blk.new ((w.alloc (.cells #[.int .i64 x,.slice none 0 0,.bool a] 60)).alloc (.cells #[.int .i64 y,.slice none 0 0,.bool b] 60)) 60 #[.int .i64 0,.slice none 0 0,.bool false];simp only [World.size_alloc] at u j
     go_in
     go_wp2_with fail
     go_region_held3 (fun w' =>w'.cell? ⟨w.heap.size,0,none⟩=some (.int .i64 x)/\w'.cell? ⟨w.heap.size,1,none⟩=some (.slice none 0 0)/\w'.cell? ⟨w.heap.size,2,none⟩=some (.bool a)/\
      w'.cell? ⟨w.heap.size+1,0,none⟩=some (.int .i64 y)/\w'.cell? ⟨w.heap.size+1,1,none⟩=some (.slice none 0 0)/\w'.cell? ⟨w.heap.size+1,2,none⟩=some (.bool b)/\
      w.heap.size<w'.heap.size/\w.heap.size+1<w'.heap.size/\Hid (Blk w' (w.heap.size+1) 60 #[.int .i64 y,.slice none 0 0,.bool b])/\Hid (Blk w' (w.heap.size+1+1) 60 #[.int .i64 0,.slice none 0 0,.bool false])/\Hid (Below w.heap.size w w'))
      (first
        | exact ⟨by go_keep,by go_keep,by go_keep,by go_keep,by go_keep,by go_keep,by simp;omega,by simp,ze (u.drewN 1),ze (j.drewN 1),ze (zt z 1)⟩
        | go_keep
        | (go_split_ands;exact ⟨zh ‹_› ‹_› ‹_›,zh ‹_› ‹_› ‹_›,zh ‹_› ‹_› ‹_›,zh ‹_› ‹_› ‹_›,zh ‹_› ‹_› ‹_›,zh ‹_› ‹_› ‹_›,zU ‹_› ‹_›,zU ‹_› ‹_›,Zv ‹_› ‹_›,Zv ‹_› ‹_›,zo ‹_› ‹_›⟩))
      (first
        | (go_at_call_of 97 (Value.agg #[Value.int .i64 x,.slice none 0 0,.bool a]);refine (hx _).mono ?_;rintro e w1 ⟨rfl,l⟩)
        | (go_at_call_of 97 (Value.agg #[Value.int .i64 y,.slice none 0 0,.bool b]);refine (hy _).mono ?_;rintro e w1 ⟨rfl,l⟩)
        | (go_at_call 101;refine (hm _).mono ?_;rintro e w1 ⟨rfl,rfl⟩))
     go_split_ands;have S :=zO (by assumption:Hid (Below w.heap.size w _));have ac :=zO (by assumption:Hid (Blk _ (w.heap.size+1) _ _));have ab :=zO (by assumption:Hid (Blk _ (w.heap.size+1+1) _ _));have G:=ha.below S;have I:=hb.below S;clear z u j;have z:=S;have u:=ac;have j:=ab;clear S ac ab;go_wp2_with fail;refine (xO _ s n _ G hs).mono ?_;rintro e w1 ⟨p,rfl,O,l⟩;have K:=u.below l u.lt;obtain ⟨F,c1,c2,_⟩:=bp3 K;go_wp2_with fail;refine (xO _ t m w1 (I.below l) ht).mono ?_;rintro e w2 ⟨p',rfl,X,D⟩;have aa:=O.below D;have C:=(j.below l j.lt).below D (j.below l j.lt).lt;have U:=ext (ext z l) D;clear l D z j u K F c1 c2 G I O;go_wp2_with fail;refine (zbf p p' n m w2 aa X ae.o af.o).mono ?_;rintro e w3 ⟨q,rfl,Y,E⟩;go_wp2_with fail;refine (yh (s != t) q (n*m) w3 Y).mono ?_;rintro e w4 ⟨v,rfl,Q,R⟩;obtain ⟨N,A',k2,M,J,rfl,_,_,_⟩:=Q.form;have r:=(C.below E C.lt).below R (C.below E C.lt).lt;have Z:=ext (ext U E) R
     have F:=r.cell 0;have c1:=r.cell 1;have c2:=r.cell 2;obtain ⟨f0,f1,f2⟩:=fp3 r;simp at F c1 c2;go_wp2;have V:=yo (x:=N) (A:=A') (k:=k2) (c:=M) (ng:=J) r;obtain ⟨d0,d1,T,_⟩:=bp3 V;refine bodyPost_ret (v:=.agg #[.int .i64 N,.slice A' k2 M,.bool J]) (by simp [results,results66,go_sem,d0,d1,T]) rfl ?_;exact ⟨_,rfl,zy (by rw [Y3];exact Q) r,zI Z (by omega)⟩
theorem xi (va vb:Value) (z y:Int) (w:World) (ha:zM w va z) (hb:zM w vb y) (hla:len 4294967296 z.natAbs<=67108864) (hlb:len 4294967296 y.natAbs<=67108864):
 Calls prog 66 #[va,vb] w (ZX w (z*y)):=by
 have J :=ha
 have G :=hb
 obtain ⟨D,A,k,c,s,rfl,C,r,l⟩:=ha.form
 obtain ⟨F,B,k',c',t,rfl,E,u,j⟩:=hb.form
 by_cases m:A=none/\B=none/\D.natAbs*F.natAbs<4611686018427387904
 . obtain ⟨b,e,I⟩:=m
   obtain ⟨rfl,rfl,rfl⟩:=l b;obtain ⟨rfl,rfl,rfl⟩:=j e;subst b e;exact zp9 z y s t _ w C r E u rfl I
 have:=zpp (decide (z<0)) (decide (y<0)) z.natAbs y.natAbs D F A B k c k' c' s t w C r E u (fun h=>⟨(l h).1,(l h).2.1⟩) (fun h=>⟨(j h).1,(j h).2.1⟩) (by rw [yU];exact J) (by rw [yU];exact G) ZP ZP hla hlb (by
  unfold znx
  by_cases b:A=none
  . by_cases e:B=none
    . exact .inr (.inr ⟨b,e,Nat.le_of_not_lt fun h=>m ⟨b,e,h⟩⟩)
    exact .inr (.inl ⟨b,e⟩)
  . exact .inl b)
 rwa [yU,yU] at this
def zhj (w:World) (z y:Int) (e:Ending) (w' :World):Prop:=∃ v v',e= .returned (.tuple #[v,v'])/\zM w' v z/\zM w' v' y/\Below w.heap.size w w'
theorem vm {W:World} {g g' :Nat} {t:TypeId} {x:Int} {A:Option Addr} {k c:Nat} {ng:Bool} {cs:Array Value} (hk:Blk W g t cs) (hne:g≠g'):Blk (World.num W g' x A k c ng) g t cs:=
 ((hk.far hne _).far hne _).far hne _
theorem zcl (s t:Bool) (n m:Nat):(signed s n).tdiv (signed t m)=signed (s != t) (n / m):=by
 cases s<;>cases t<;>unfold signed<;>simp [Int.neg_tdiv,Int.tdiv_neg,Int.ofNat_tdiv]
theorem zaz (s t:Bool) (n m:Nat):(signed s n).tmod (signed t m)=signed s (n % m):=by
 cases s<;>cases t<;>unfold signed<;>simp [Int.neg_tmod,Int.tmod_neg,Int.ofNat_tmod,Int.tmod_eq_emod_of_nonneg]
theorem zca {x y:Int} (h1: -4611686018427387904<x) (h2:x<4611686018427387904): -4611686018427387904<x.tdiv y/\x.tdiv y<4611686018427387904:=by
 have:=Int.natAbs_tdiv_le_natAbs x y
 omega
theorem zg5 {x y:Int} (h1: -4611686018427387904<x) (h2:x<4611686018427387904): -4611686018427387904<x.tmod y/\x.tmod y<4611686018427387904:=by
 have:=Int.natAbs_tmod x y
 have b:=Nat.mod_le x.natAbs y.natAbs
 omega
theorem zpv (x y:Int) (a b:Bool) (w:World) (h1: -4611686018427387904<x) (h2:x<4611686018427387904) (h3: -4611686018427387904<y) (h4:y<4611686018427387904) (hy:y≠0):
 Calls prog 99 #[.agg #[.int .i64 x,.slice none 0 0,.bool a],.agg #[.int .i64 y,.slice none 0 0,.bool b]] w (zhj w (x.tdiv y) (x.tmod y)):=by
 have m:=fun w=>zlg w none 0 0 0 0
 have l:(y == 0)=false:=uD hy
 obtain ⟨b1,b2⟩:=zca (y:=y) h1 h2
 obtain ⟨e,j⟩:=zg5 (y:=y) h1 h2
 go_in
 go_wp2_with fail
 go_region
 go_wp2
 refine bodyPost_ret (v:=.tuple #[.agg #[.int .i64 (x.tdiv y),.slice none 0 0,.bool false],.agg #[.int .i64 (x.tmod y),.slice none 0 0,.bool false]]) (by simp [results,results99,go_sem]) rfl ?_
 exact ⟨_,_,rfl,.inl ⟨_,_,rfl,b1,b2,rfl⟩,.inl ⟨_,_,rfl,e,j,rfl⟩,zt (ext (ext (ext (zf _ _) (zf _ _)) (zf _ _)) (zf _ _)) 1⟩
def zl3 (A B:Option Addr):Prop:=A≠none\/(A=none/\B≠none)
theorem zqc (s t:Bool) (n m:Nat) (x y:Int) (A B:Option Addr) (k c k' c' :Nat) (a b:Bool) (w:World) (h1: -4611686018427387904<x) (h2:x<4611686018427387904) (h3: -4611686018427387904<y) (h4:y<4611686018427387904)
 (ha:zM w (.agg #[.int .i64 x,.slice A k c,.bool a]) (signed s n)) (hb:zM w (.agg #[.int .i64 y,.slice B k' c',.bool b]) (signed t m)) (hs:s=true->0<n) (ht:t=true->0<m) (hm0:0<m)
 (hln:len 4294967296 n<=33554432) (hlm:len 4294967296 m<=33554432) (hsl:zl3 A B):
 Calls prog 99 #[.agg #[.int .i64 x,.slice A k c,.bool a],.agg #[.int .i64 y,.slice B k' c',.bool b]] w (zhj w ((signed s n).tdiv (signed t m)) ((signed s n).tmod (signed t m))):=by
 have q1:=fun w=>zlg w A k c 0 0
 have q2:=fun w=>zlg w B k' c' 0 0
 have al:=ze hln
 have am:=ze hlm
 clear hln hlm
 rcases hsl with h | ⟨h,h'⟩
 . obtain ⟨ad,rfl⟩:=Option.ne_none_iff_exists'.1 h
   clear h
   go_in
   go_wp2_with fail;have F:=(ext (ext (ext (zf w (.cells #[.int .i64 x,.slice (some ad) k c,.bool a] 60)) (zf _ (.cells #[.int .i64 y,.slice B k' c',.bool b] 60))) (zf _ (.cells #[.int .i64 0,.slice none 0 0,.bool false] 60))) (zf _ (.cells #[.int .i64 0,.slice none 0 0,.bool false] 60)));have X:=ha.below F;have hB:=hb.below F;have K:=((Blk.new (w.alloc (.cells #[.int .i64 x,.slice (some ad) k c,.bool a] 60)) 60 #[.int .i64 y,.slice B k' c',.bool b]).alloc (.cells #[.int .i64 0,.slice none 0 0,.bool false] 60)).alloc (.cells #[.int .i64 0,.slice none 0 0,.bool false] 60);have u:=(Blk.new ((w.alloc (.cells #[.int .i64 x,.slice (some ad) k c,.bool a] 60)).alloc (.cells #[.int .i64 y,.slice B k' c',.bool b] 60)) 60 #[.int .i64 0,.slice none 0 0,.bool false]).alloc (.cells #[.int .i64 0,.slice none 0 0,.bool false] 60);have l:=Blk.new (((w.alloc (.cells #[.int .i64 x,.slice (some ad) k c,.bool a] 60)).alloc (.cells #[.int .i64 y,.slice B k' c',.bool b] 60)).alloc (.cells #[.int .i64 0,.slice none 0 0,.bool false] 60)) 60 #[.int .i64 0,.slice none 0 0,.bool false];simp only [World.size_alloc] at K u l
   generalize (((w.alloc (.cells #[.int .i64 x,.slice (some ad) k c,.bool a] 60)).alloc (.cells #[.int .i64 y,.slice B k' c',.bool b] 60)).alloc (.cells #[.int .i64 0,.slice none 0 0,.bool false] 60)).alloc (.cells #[.int .i64 0,.slice none 0 0,.bool false] 60)=W at X hB K u l F |-;refine (xO _ s n W X hs).mono ?_;rintro e w1 ⟨p,rfl,hp,j⟩;have ac:=K.below j K.lt;obtain ⟨c0,c1,c2,_⟩:=bp3 ac;go_wp2_with fail;refine (xO _ t m w1 (hB.below j) ht).mono ?_;rintro e w2 ⟨p',rfl,af,I⟩;have ag:=hp.below I;have Y:=(u.below j u.lt).below I (u.below j u.lt).lt;have O:=(l.below j l.lt).below I (l.below j l.lt).lt;have aa:=ext (ext F j) I;clear j I F u K l ac c0 c1 c2 X hB hp;go_wp2_with fail;refine (zhi p p' n m w2 ag af hm0 al.o am.o).mono ?_;rintro e w3 ⟨q,r,rfl,hq,hr,L⟩;have D:=Y.below L Y.lt;have E:=O.below L O.lt;have aj:=ext aa L;clear Y O aa ag af L;go_wp2_with fail;refine (yh (s != t) q (n / m) w3 hq).mono ?_;rintro e w4 ⟨v,rfl,hv,C⟩;go_wp2_with fail
   refine (yh s r (n % m) w4 (hr.below C)).mono ?_;rintro e w5 ⟨v',rfl,ab,G⟩;have ae:=hv.below G;obtain ⟨V,A',k2,T,M,rfl,_,_,_⟩:=ae.form;obtain ⟨N,A3,R,Z,Q,rfl,_,_,_⟩:=ab.form;have z:=(D.below C D.lt).below G (D.below C D.lt).lt;have J:=(E.below C E.lt).below G (E.below C E.lt).lt;have ak:=ext (ext aj C) G;clear D E aj C G hq hr hv;have c0:=z.cell 0;have c1:=z.cell 1;have c2:=z.cell 2;obtain ⟨f0,f1,f2⟩:=fp3 z;have d0:=J.cell 0;have d1:=J.cell 1;have d2:=J.cell 2;obtain ⟨g0,g1,g2⟩:=fp3 J;simp at c0 c1 c2 d0 d1 d2;go_wp2;have kE:=yo (x:=V) (A:=A') (k:=k2) (c:=T) (ng:=M) z;have U:=vm (g' :=w.heap.size+1+1) (x:=V) (A:=A') (k:=k2) (c:=T) (ng:=M) J (by omega);have kG:=vm (g' :=w.heap.size+1+1+1) (x:=N) (A:=A3) (k:=R) (c:=Z) (ng:=Q) kE (by omega);have S:=yo (x:=N) (A:=A3) (k:=R) (c:=Z) (ng:=Q) U;have e0:=kG.cell 0;have e1:=kG.cell 1;have e2:=kG.cell 2
   have h0:=S.cell 0;have ai :=S.cell 1;have ah :=S.cell 2;simp at e0 e1 e2 h0 ai ah;refine bodyPost_ret (v:=.tuple #[.agg #[.int .i64 V,.slice A' k2 T,.bool M],.agg #[.int .i64 N,.slice A3 R Z,.bool Q]]) (by simp [results,results99,go_sem,e0,e1,e2,h0,ai,ah]) rfl ?_;rw [zcl,zaz];exact ⟨_,_,rfl,zy (zy ae z) U,zy (zy ab z) U,zI (zI ak (by omega)) (by omega)⟩
 . obtain ⟨bd,rfl⟩:=Option.ne_none_iff_exists'.1 h'
   subst h;clear h'
   go_in
   go_wp2_with fail;have F:=(ext (ext (ext (zf w (.cells #[.int .i64 x,.slice none k c,.bool a] 60)) (zf _ (.cells #[.int .i64 y,.slice (some bd) k' c',.bool b] 60))) (zf _ (.cells #[.int .i64 0,.slice none 0 0,.bool false] 60))) (zf _ (.cells #[.int .i64 0,.slice none 0 0,.bool false] 60)));have X:=ha.below F;have hB:=hb.below F;have K:=((Blk.new (w.alloc (.cells #[.int .i64 x,.slice none k c,.bool a] 60)) 60 #[.int .i64 y,.slice (some bd) k' c',.bool b]).alloc (.cells #[.int .i64 0,.slice none 0 0,.bool false] 60)).alloc (.cells #[.int .i64 0,.slice none 0 0,.bool false] 60);have u:=(Blk.new ((w.alloc (.cells #[.int .i64 x,.slice none k c,.bool a] 60)).alloc (.cells #[.int .i64 y,.slice (some bd) k' c',.bool b] 60)) 60 #[.int .i64 0,.slice none 0 0,.bool false]).alloc (.cells #[.int .i64 0,.slice none 0 0,.bool false] 60);have l:=Blk.new (((w.alloc (.cells #[.int .i64 x,.slice none k c,.bool a] 60)).alloc (.cells #[.int .i64 y,.slice (some bd) k' c',.bool b] 60)).alloc (.cells #[.int .i64 0,.slice none 0 0,.bool false] 60)) 60 #[.int .i64 0,.slice none 0 0,.bool false];simp only [World.size_alloc] at K u l
   generalize (((w.alloc (.cells #[.int .i64 x,.slice none k c,.bool a] 60)).alloc (.cells #[.int .i64 y,.slice (some bd) k' c',.bool b] 60)).alloc (.cells #[.int .i64 0,.slice none 0 0,.bool false] 60)).alloc (.cells #[.int .i64 0,.slice none 0 0,.bool false] 60)=W at X hB K u l F |-;refine (xO _ s n W X hs).mono ?_;rintro e w1 ⟨p,rfl,hp,j⟩;have ac:=K.below j K.lt;obtain ⟨c0,c1,c2,_⟩:=bp3 ac;go_wp2_with fail;refine (xO _ t m w1 (hB.below j) ht).mono ?_;rintro e w2 ⟨p',rfl,af,I⟩;have ag:=hp.below I;have Y:=(u.below j u.lt).below I (u.below j u.lt).lt;have O:=(l.below j l.lt).below I (l.below j l.lt).lt;have aa:=ext (ext F j) I;clear j I F u K l ac c0 c1 c2 X hB hp;go_wp2_with fail;refine (zhi p p' n m w2 ag af hm0 al.o am.o).mono ?_;rintro e w3 ⟨q,r,rfl,hq,hr,L⟩;have D:=Y.below L Y.lt;have E:=O.below L O.lt;have aj:=ext aa L;clear Y O aa ag af L;go_wp2_with fail;refine (yh (s != t) q (n / m) w3 hq).mono ?_;rintro e w4 ⟨v,rfl,hv,C⟩;go_wp2_with fail
   refine (yh s r (n % m) w4 (hr.below C)).mono ?_;rintro e w5 ⟨v',rfl,ab,G⟩;have ae:=hv.below G;obtain ⟨V,A',k2,T,M,rfl,_,_,_⟩:=ae.form;obtain ⟨N,A3,R,Z,Q,rfl,_,_,_⟩:=ab.form;have z:=(D.below C D.lt).below G (D.below C D.lt).lt;have J:=(E.below C E.lt).below G (E.below C E.lt).lt;have ak:=ext (ext aj C) G;clear D E aj C G hq hr hv;have c0:=z.cell 0;have c1:=z.cell 1;have c2:=z.cell 2;obtain ⟨f0,f1,f2⟩:=fp3 z;have d0:=J.cell 0;have d1:=J.cell 1;have d2:=J.cell 2;obtain ⟨g0,g1,g2⟩:=fp3 J;simp at c0 c1 c2 d0 d1 d2;go_wp2;have kE:=yo (x:=V) (A:=A') (k:=k2) (c:=T) (ng:=M) z;have U:=vm (g' :=w.heap.size+1+1) (x:=V) (A:=A') (k:=k2) (c:=T) (ng:=M) J (by omega);have kG:=vm (g' :=w.heap.size+1+1+1) (x:=N) (A:=A3) (k:=R) (c:=Z) (ng:=Q) kE (by omega);have S:=yo (x:=N) (A:=A3) (k:=R) (c:=Z) (ng:=Q) U;have e0:=kG.cell 0;have e1:=kG.cell 1;have e2:=kG.cell 2
   have h0:=S.cell 0;have ai :=S.cell 1;have ah :=S.cell 2;simp at e0 e1 e2 h0 ai ah;refine bodyPost_ret (v:=.tuple #[.agg #[.int .i64 V,.slice A' k2 T,.bool M],.agg #[.int .i64 N,.slice A3 R Z,.bool Q]]) (by simp [results,results99,go_sem,e0,e1,e2,h0,ai,ah]) rfl ?_;rw [zcl,zaz];exact ⟨_,_,rfl,zy (zy ae z) U,zy (zy ab z) U,zI (zI ak (by omega)) (by omega)⟩
theorem VB (va vb:Value) (z y:Int) (w:World) (ha:zM w va z) (hb:zM w vb y) (hy:y≠0) (hla:len 4294967296 z.natAbs<=33554432) (hlb:len 4294967296 y.natAbs<=33554432):
 Calls prog 99 #[va,vb] w (zhj w (z.tdiv y) (z.tmod y)):=by
 have D :=ha
 have C :=hb
 obtain ⟨F,A,k,c,s,rfl,r,l,I⟩:=ha.form
 obtain ⟨G,B,k',c',t,rfl,u,m,E⟩:=hb.form
 by_cases j:A=none/\B=none
 . obtain ⟨b,e⟩:=j
   obtain ⟨rfl,rfl,rfl⟩:=I b;obtain ⟨rfl,rfl,rfl⟩:=E e;subst b e;exact zpv z y s t w r l u m hy
 have:=zqc (decide (z<0)) (decide (y<0)) z.natAbs y.natAbs F G A B k c k' c' s t w r l u m (by rw [yU];exact D) (by rw [yU];exact C) ZP ZP (by omega) hla hlb (by
  unfold zl3
  by_cases b:A=none
  . exact .inr ⟨b,fun e=>j ⟨b,e⟩⟩
  exact .inl b)
 rwa [yU,yU] at this
theorem zb0 (va vb:Value) (z y:Int) (w:World) (ha:zM w va z) (hb:zM w vb y) (hla:len 4294967296 z.natAbs<=67108864) (hlb:len 4294967296 y.natAbs<=67108864):
 Calls prog 100 #[va,vb] w (ZX w (z - y)):=by
 have U :=ha
 have S :=hb
 obtain ⟨D,A,k,c,s,rfl,h1,X,hA⟩:=U.form
 obtain ⟨r,B,k',c',t,rfl,h3,h4,hB⟩:=S.form
 have M:len 4294967296 (-y).natAbs<=67108864:=by rw [Int.natAbs_neg];exact hlb
 have Y:=ze M
 have aa:=ze hla
 have j:=zt (ext (ext (zf w (.cells #[.int .i64 D,.slice A k c,.bool s] 60)) (zf _ (.cells #[.int .i64 r,.slice B k' c',.bool t] 60))) (zf _ (.cells #[.int .i64 0,.slice none 0 0,.bool false] 60))) 1
 have K:=ha.below j
 have O:=hb.below j
 have T:=(((Blk.new w 60 #[.int .i64 D,.slice A k c,.bool s]).alloc (.cells #[.int .i64 r,.slice B k' c',.bool t] 60)).alloc (.cells #[.int .i64 0,.slice none 0 0,.bool false] 60)).drewN 1
 have u:=(Blk.new ((w.alloc (.cells #[.int .i64 D,.slice A k c,.bool s] 60)).alloc (.cells #[.int .i64 r,.slice B k' c',.bool t] 60)) 60 #[.int .i64 0,.slice none 0 0,.bool false]).drewN 1
 simp only [World.size_alloc] at u
 obtain ⟨HW,ac,ab,L,l⟩:=hz5 j K O T u
 clear j K O T u M hla hlb h1 X h3 h4 hA hB ha hb U S
 go_in
 go_wp2_with fail
 go_region_with (first
  | (go_at_call 81;refine (yK _ y _ ab.o).mono ?_;rintro e w1 ⟨v,rfl,hv,m⟩;obtain ⟨x',A',k2,ae,ad,rfl,_,_,_⟩:=hv.form;have C:=L.o.below m L.o.lt;have E:=C.cell 0;have c1:=C.cell 1;have c2:=C.cell 2;simp at E c1 c2)
  | (go_at_call 67;refine (zen _ _ z (-y) _ (ac.o.below ‹_›) ‹_› aa.o Y.o).mono ?_;rintro e w2 ⟨v,rfl,G,Q⟩;obtain ⟨F,R,J,N,I,rfl,_,_,_⟩:=G.form;have b:=(l.o.below m l.o.lt).below Q (l.o.below m l.o.lt).lt;have E:=b.cell 0;have c1:=b.cell 1;have c2:=b.cell 2;have f0:=b.frozen 0;have f1:=b.frozen 1;have f2:=b.frozen 2;simp at E c1 c2))
 all_goals
  go_wp2
  have Z:=yo (x:=F) (A:=R) (k:=J) (c:=N) (ng:=I) b
  obtain ⟨d0,d1,V,_⟩:=bp3 Z
  refine bodyPost_ret (v:=.agg #[.int .i64 F,.slice R J N,.bool I]) (by simp [results,results100,go_sem,d0,d1,V]) rfl ?_
  exact ⟨_,rfl,zy (by rw [Int.sub_eq_add_neg];exact G) b,zI (ext (ext HW.o m) Q) (by omega)⟩
theorem zeh (va vb:Value) (z y:Int) (w:World) (ha:zM w va z) (hb:zM w vb y) (hla:len 4294967296 z.natAbs<=67108864) (hlb:len 4294967296 y.natAbs<=67108864):
 Calls prog 65 #[va,vb] w (zij w (.int .i64 (yj z y))):=by
 have l :=ha
 have j :=hb
 obtain ⟨S,A,k,c,s,rfl,D,m,E⟩:=l.form
 obtain ⟨u,B,k',c',t,rfl,J,C,R⟩:=j.form
 have r:=ze hlb
 have F:=ze hla
 have b:=ext (zf w (.cells #[.int .i64 S,.slice A k c,.bool s] 60)) (zf _ (.cells #[.int .i64 u,.slice B k' c',.bool t] 60))
 have L:=ze b
 have M:=ze (ha.below b)
 have I:=ze (hb.below b)
 clear b hla hlb D m J C E R ha hb l j
 go_in
 go_wp2_with fail
 refine (zb0 _ _ z y _ M.o I.o F.o r.o).mono ?_
 rintro e w1 ⟨v,rfl,O,Q⟩
 go_wp2_with fail
 refine (YH v (z - y) w1 O).mono ?_
 rintro e T ⟨rfl,K⟩
 go_wp2
 go_ret
 refine ⟨?_,ext (ext L.o Q) K⟩
 unfold yj
 have N:z - y<0↔z<y:=by omega
 have G:0<z - y↔y<z:=by omega
 simp only [N,G]
 rfl
theorem zpn (l:List UInt8):(⟨#[45]⟩:ByteArray) ++ (⟨l.toArray⟩:ByteArray)=⟨((45:UInt8) :: l).toArray⟩:=by
 apply ByteArray.ext
 rw [ByteArray.data_append]
 simp
theorem ZM {a:Nat} (h:len 4294967296 a<=67108864):(dec a).length<=671088641:=by
 unfold dec
 by_cases b:a=0
 . rw [if_pos b];simp
 rw [if_neg b,List.length_map,List.length_reverse]
 have:=X3 h;unfold len at this
 omega
def xj (z:Int):List UInt8:=if z<0 then 45 :: dec z.natAbs else dec z.natAbs
theorem XT (va:Value) (z:Int) (w:World) (ha:zM w va z) (hla:len 4294967296 z.natAbs<=67108864):
 Calls prog 78 #[va] w (zmu w (xj z)):=by
 obtain ⟨F,A,k,c,s,rfl,E,D,I⟩:=ha.form
 have y:=ze hla
 have l:=zf w (.cells #[.int .i64 F,.slice A k c,.bool s] 60)
 have B:=ze l
 have C:=ze (ha.below l)
 clear l hla E D I ha
 by_cases j:z<0
 rotate_left
 . have b:=fun v w h=>Zb v z w h
   unfold zav at b;rw [uF j] at b;unfold xj;rw [if_neg j]
   go_in
   go_wp2_with fail;refine (b _ _ C.o).mono ?_;rintro e w1 ⟨v,rfl,m,r⟩;go_wp2_with fail;refine (Yo v _ w1 m y.o).mono ?_;rintro e G ⟨rfl,u⟩;go_wp2;go_ret;exact ⟨rfl,ext (ext B.o r) u⟩
 have b:=fun v w h=>Zb v z w h
 unfold zav at b;rw [uE j] at b;unfold xj;rw [if_pos j]
 have J:¬ 9223372036854775807<1+(dec z.natAbs).length:=by
  have:=ZM y.o
  omega
 go_in
 go_wp2_with fail;refine (b _ _ C.o).mono ?_;rintro e w1 ⟨v,rfl,m,r⟩;go_wp2_with fail;refine (Yo v _ w1 m y.o).mono ?_;rintro e G ⟨rfl,u⟩;go_wp2;go_ret;refine ⟨?_,ext (ext B.o r) u⟩;rw [zpn]
 rfl
theorem zl {A B:Prop} (a:A) (f:A->B):A/\B:=⟨a,f a⟩
section
variable {W w w' :World}
theorem zk {g i:Nat} {v:Value} (h:Hid (Below W.heap.size W w)) (hl:g<W.heap.size) (hc:W.cell? ⟨g,i,none⟩=some v):w.cell? ⟨g,i,none⟩=some v:=(h.out.cell hl).trans hc
theorem zq8 {a:Addr} {i:Nat} {v:Value} (h:Hid (Below W.heap.size W w)) (hl:a.block<W.heap.size) (hc:W.cell? (a.add i)=some v):w.cell? (a.add i)=some v:=(h.out.cell (by rw [zG];exact hl)).trans hc
theorem zcj {o:Obj} (h:Hid (Below W.heap.size W w)):Hid (Below W.heap.size W (w.alloc o)):=ext h.out (zf w o)
theorem zw (W:World):Hid (Below W.heap.size W W.drew):=zt (vG W) 1
theorem vz (W:World) (o:Obj):Hid (Below W.heap.size W (W.alloc o).drew):=zt (zf W o) 1
end
end Go.Proofs.YtofmkndhocinmaaGreatDoor
