/- The walks of whole numbers (1): size, parts, sign, the negative one. · The walks of whole numbers (2): the parts, and a number that is made of them. · The walks of whole numbers (3): sum. · The walks of whole numbers (4): sums of any, and products. · The walks of whole numbers (5): quotient and rest, difference, order, text. · The walks of whole numbers (6): difference, order, text. · Memory: what a region with calls keeps, told from where it began. -/
import Derived.LoopN
import Derived.Test.YtnmkalocbfdecaaGreatDoorMg11
set_option linter.unusedVariables false
set_option linter.unusedSimpArgs false
namespace Go.Proofs.YtnmkalocbfdecaaGreatDoor
open Go.RowKit Go.Deep
def NumIs (w:World) (v:Value) (z:Int):Prop:=
 (∃ x ng,v= .agg #[.int .i64 x,.slice none 0 0,.bool ng] ∧ -4611686018427387904<x ∧ x<4611686018427387904 ∧ z=x) ∨
 (∃ ad k c n ng,v= .agg #[.int .i64 0,.slice (some ad) k c,.bool ng] ∧ NatIs w (.slice (some ad) k c) n ∧ 4611686018427387904 ≤ n ∧ z=if ng=true then -(n:Int) else n)
theorem NumIs.below {w w' :World} {v:Value} {z:Int} (h:NumIs w v z) (hb:Below w.heap.size w w'):NumIs w' v z:=by
 rcases h with h | ⟨ad,k,c,n,ng,h1,h2,h3,h4⟩
 · exact .inl h
 · exact .inr ⟨ad,k,c,n,ng,h1,NatIs.below h2 hb,h3,h4⟩
def NewNum (w:World) (z:Int) (e:Ending) (w' :World):Prop:=∃ v,e= .returned v ∧ NumIs w' v z ∧ Below w.heap.size w w'
def RetParts (w:World) (z:Int) (e:Ending) (w' :World):Prop:=∃ v,e= .returned (.tuple #[.bool (decide (z<0)),v]) ∧ NatIs w' v z.natAbs ∧ Below w.heap.size w w'
theorem neqN (w:World) (a:Option Addr) (n c n' c' :Nat):(binOp .neq 63 (.slice a n c) (.slice none n' c')).run Tryz.prog w= .ok (.bool (!a.isNone)) w:=
 run_neq_slice_nil_any w _ _ a n c n' c' Tryz.underlying63
theorem eqlN (w:World) (a:Option Addr) (n c n' c' :Nat):(binOp .eql 63 (.slice a n c) (.slice none n' c')).run Tryz.prog w= .ok (.bool a.isNone) w:=
 Lib.run_eql_slice_nil w _ _ a n c n' c' Tryz.underlying63
theorem size_any (x:Int) (g:Value) (ng:Bool) (w:World) (h1: -4611686018427387904<x) (h2:x<4611686018427387904):
 Calls Tryz.prog 108 #[.agg #[.int .i64 x,g,.bool ng]] w (RetB w (.int .u64 (x.natAbs:Nat))):=by
 by_cases h:x<0
 · have e:(x.natAbs:Int)= -x:=by omega
   rw [e]
   clear e
   go_enter Tryz.func108,Tryz.ntmps108
   go_wp2
   go_ret
   exact ⟨by go_num,ext_alloc _ _⟩
 · have e:(x.natAbs:Int)=x:=by omega
   rw [e]
   clear e
   go_enter Tryz.func108,Tryz.ntmps108
   go_wp2
   go_ret
   exact ⟨by go_num,ext_alloc _ _⟩
theorem sign_any (v:Value) (z:Int) (w:World) (h:NumIs w v z):
 Calls Tryz.prog 94 #[v] w (RetB w (.int .i64 (cmpOf z 0))):=by
 rcases h with ⟨x,ng,rfl,h1,h2,rfl⟩ | ⟨ad,k,c,n,ng,rfl,hn,h3,rfl⟩
 · have q0:=fun w=>neqN w none 0 0 0 0
   have HC:Hid (cmpOf z 0=if z<0 then -1 else if 0<z then 1 else 0):=rfl
   rcases Int.lt_trichotomy z 0 with h | h | h
   · go_enter Tryz.func94,Tryz.ntmps94
     go_wp2
     go_ret
     exact ⟨by rw [HC.out,if_pos (by omega)];rfl,ext_alloc _ _⟩
   · subst h
     go_enter Tryz.func94,Tryz.ntmps94
     go_wp2
     go_ret
     exact ⟨by rw [HC.out];rfl,ext_alloc _ _⟩
   · go_enter Tryz.func94,Tryz.ntmps94
     go_wp2
     go_ret
     exact ⟨by rw [HC.out,if_neg (by omega),if_pos (by omega)];rfl,ext_alloc _ _⟩
 · have q0:=fun w=>neqN w (some ad) k c 0 0
   cases ng with
   | true=>
     have HC:Hid (cmpOf (if (true:Bool)=true then -(n:Int) else n) 0= -1):=by show _=_;simp only [if_true];unfold cmpOf;rw [if_pos (by omega)]
     rw [HC.out]
     clear h3
     go_enter Tryz.func94,Tryz.ntmps94
     go_wp2
     go_ret
     exact ⟨rfl,ext_alloc _ _⟩
   | false=>
     have HC:Hid (cmpOf (if (false:Bool)=true then -(n:Int) else n) 0=1):=by show _=_;simp only [Bool.false_eq_true,if_false];unfold cmpOf;rw [if_neg (by omega),if_pos (by omega)]
     rw [HC.out]
     clear h3
     go_enter Tryz.func94,Tryz.ntmps94
     go_wp2
     go_ret
     exact ⟨rfl,ext_alloc _ _⟩
theorem negated_any (v:Value) (z:Int) (w:World) (h:NumIs w v z):
 Calls Tryz.prog 123 #[v] w (NewNum w (-z)):=by
 rcases h with ⟨x,ng,rfl,h1,h2,rfl⟩ | ⟨ad,k,c,n,ng,rfl,hn,h3,rfl⟩
 · have q0:=fun w=>neqN w none 0 0 0 0
   go_enter Tryz.func123,Tryz.ntmps123
   go_wp2
   refine bodyPost_ret (v:=.agg #[.int .i64 (-z),.slice none 0 0,.bool false]) (by simp [results,Tryz.results123,go_sem]) rfl ?_
   exact ⟨_,rfl,.inl ⟨_,_,rfl,by omega,by omega,rfl⟩,ext (ext_alloc _ _) (ext_alloc _ _)⟩
 · have q0:=fun w=>neqN w (some ad) k c 0 0
   have H3:=hide h3
   clear h3
   have hb:Below w.heap.size w ((w.alloc (.cells #[.int .i64 0,.slice (some ad) k c,.bool ng] 65)).alloc (.cells #[.int .i64 0,.slice (some ad) k c,.bool (!ng)] 65)):=ext (ext_alloc _ _) (ext_alloc _ _)
   have hf:NumIs ((w.alloc (.cells #[.int .i64 0,.slice (some ad) k c,.bool ng] 65)).alloc (.cells #[.int .i64 0,.slice (some ad) k c,.bool (!ng)] 65)) (.agg #[.int .i64 0,.slice (some ad) k c,.bool (!ng)]) (-(if ng=true then -(n:Int) else n)):=
    .inr ⟨ad,k,c,n, !ng,rfl,NatIs.below hn hb,H3.out,by cases ng<;>simp⟩
   clear hn
   generalize hz: -(if ng=true then -(n:Int) else n)=z at hf ⊢
   clear hz
   cases ng with
   | true=>
     go_enter Tryz.func123,Tryz.ntmps123
     go_wp2
     refine bodyPost_ret (v:=.agg #[.int .i64 0,.slice (some ad) k c,.bool false]) (by simp [results,Tryz.results123,go_sem]) rfl ?_
     exact ⟨_,rfl,hf,hb⟩
   | false=>
     go_enter Tryz.func123,Tryz.ntmps123
     go_wp2
     refine bodyPost_ret (v:=.agg #[.int .i64 0,.slice (some ad) k c,.bool true]) (by simp [results,Tryz.results123,go_sem]) rfl ?_
     exact ⟨_,rfl,hf,hb⟩
end Go.Proofs.YtnmkalocbfdecaaGreatDoor
namespace Go.Proofs.YtnmkalocbfdecaaGreatDoor
open Go.RowKit Go.Deep
theorem cell_keep {g i:Nat} {v:Value} {w w' :World} (hb:Below w.heap.size w w') (hl:g<w.heap.size) (h:w.cell? ⟨g,i,none⟩=some v):w'.cell? ⟨g,i,none⟩=some v:=(hb.cell hl).trans h
theorem size_keep {g:Nat} {w w' :World} (hb:Below w.heap.size w w') (hl:g<w.heap.size):g<w'.heap.size:=Nat.lt_of_lt_of_le hl hb.size
theorem hid_below {w0 w w' :World} (hb:Below w.heap.size w w') (h:Hid (Below w0.heap.size w0 w)):Hid (Below w0.heap.size w0 w'):=ext h.out hb
set_option maxRecDepth 100000 in
theorem parts_any (v:Value) (z:Int) (w:World) (h:NumIs w v z):
 Calls Tryz.prog 60 #[v] w (RetParts w z):=by
 rcases h with ⟨x,ng,rfl,h1,h2,rfl⟩ | ⟨ad,k,c,n,ng,rfl,hn,h3,rfl⟩
 · have q0:=fun w=>neqN w none 0 0 0 0
   have hs:=fun w=>size_any z (.slice none 0 0) ng w h1 h2
   have hz:z.natAbs<18446744073709551616:=by omega
   have hw:=fun w=>word64_any z.natAbs hz w
   clear hz h1 h2
   go_enter Tryz.func60,Tryz.ntmps60
   go_wp2_with fail
   go_region_held3 (fun w' =>w'.cell? ⟨w.heap.size,0,none⟩=some (.int .i64 z) ∧ w'.cell? ⟨w.heap.size,1,none⟩=some (.slice none 0 0) ∧ w'.cell? ⟨w.heap.size,2,none⟩=some (.bool ng) ∧ w.heap.size<w'.heap.size ∧ Hid (Below w.heap.size w w'))
    (first
      | exact ⟨by go_keep,by go_keep,by go_keep,by go_keep,hide (below_drewN (ext_alloc _ _) 1)⟩
      | go_keep
      | (go_split_ands;exact ⟨cell_keep (by assumption) (by assumption) (by assumption),cell_keep (by assumption) (by assumption) (by assumption),cell_keep (by assumption) (by assumption) (by assumption),size_keep (by assumption) (by assumption),hid_below (by assumption) (by assumption)⟩))
    (first
      | (refine (hs _).mono ?_;rintro e w1 ⟨rfl,hb1⟩)
      | (refine (hw _).mono ?_;rintro e w2 ⟨v2,rfl,hv2,hb2⟩))
   all_goals
    go_wp2
    go_ret2
    go_split_ands
    exact ⟨v2,rfl,hv2,unhide (by assumption)⟩
 · have q0:=fun w=>neqN w (some ad) k c 0 0
   have e1:(if ng=true then -(n:Int) else n).natAbs=n:=by cases ng<;>simp
   have e2:decide ((if ng=true then -(n:Int) else n)<0)=ng:=by cases ng<;>simp<;>omega
   have hp:∀ e w',(e= .returned (.tuple #[.bool ng,.slice (some ad) k c]) ∧ Below w.heap.size w w') → RetParts w (if ng=true then -(n:Int) else n) e w' :=by
    rintro e w' ⟨rfl,hb⟩
    exact ⟨_,by rw [e2],by rw [e1];exact NatIs.below hn hb,hb⟩
   refine Calls.mono ?_ hp
   clear e1 e2 hp hn h3
   cases ng with
   | true=>
     go_enter Tryz.func60,Tryz.ntmps60
     go_wp2_with fail
     go_quiet (fail)
     go_wp2
     go_ret2
     exact ⟨rfl,below_drewN (ext_alloc _ _) _⟩
   | false=>
     go_enter Tryz.func60,Tryz.ntmps60
     go_wp2_with fail
     go_quiet (fail)
     go_wp2
     go_ret2
     exact ⟨rfl,below_drewN (ext_alloc _ _) _⟩
def signed (ng:Bool) (n:Nat):Int:=if ng=true then -(n:Int) else n
theorem made_0 (ng:Bool) (A:Option Addr) (c:Nat) (w:World):Calls Tryz.prog 57 #[.bool ng,.slice A 0 c] w (NewNum w (signed ng 0)):=by
 cases ng with
 | true=>
   go_enter Tryz.func57,Tryz.ntmps57
   go_wp2
   refine wp_loop_rounds 1 ?_
   rw [rounds_succ]
   go_wp2
   refine bodyPost_ret (v:=.agg #[.int .i64 (0),.slice none 0 0,.bool false]) (by simp [results,Tryz.results57,go_sem]) rfl ?_
   exact ⟨_,rfl,.inl ⟨_,_,rfl,by omega,by omega,rfl⟩,ext_alloc _ _⟩
 | false=>
   go_enter Tryz.func57,Tryz.ntmps57
   go_wp2
   refine wp_loop_rounds 1 ?_
   rw [rounds_succ]
   go_wp2
   refine bodyPost_ret (v:=.agg #[.int .i64 (0),.slice none 0 0,.bool false]) (by simp [results,Tryz.results57,go_sem]) rfl ?_
   exact ⟨_,rfl,.inl ⟨_,_,rfl,by omega,by omega,rfl⟩,ext_alloc _ _⟩
theorem made_1 (ng:Bool) (ad:Addr) (c d:Nat) (w:World) (hd:d<4294967296) (hb:ad.block<w.heap.size) (hc:w.cell? ad=some (.int .u32 d)):Calls Tryz.prog 57 #[.bool ng,.slice (some ad) 1 c] w (NewNum w (signed ng d)):=by
 have hor:bits .or .u64 0 (d:Int)=(d:Int):=by
  have:=u64_or_nat 0 d (by omega) (by omega)
  rw [Nat.zero_or] at this
  exact this
 have hI:(d:Int)<4611686018427387904:=by omega
 have hD:decide ((d:Int)<4611686018427387904)=true:=decide_eq_true hI
 cases ng with
 | true=>
   go_enter Tryz.func57,Tryz.ntmps57
   go_wp2
   refine wp_loop_rounds 2 ?_
   rw [rounds_succ]
   go_wp2
   rw [rounds_succ]
   go_wp2
   refine bodyPost_ret (v:=.agg #[.int .i64 (-d),.slice none 0 0,.bool false]) (by simp [results,Tryz.results57,go_sem]) rfl ?_
   exact ⟨_,rfl,.inl ⟨_,_,rfl,by omega,by omega,rfl⟩,ext_alloc _ _⟩
 | false=>
   go_enter Tryz.func57,Tryz.ntmps57
   go_wp2
   refine wp_loop_rounds 2 ?_
   rw [rounds_succ]
   go_wp2
   rw [rounds_succ]
   go_wp2
   refine bodyPost_ret (v:=.agg #[.int .i64 (d),.slice none 0 0,.bool false]) (by simp [results,Tryz.results57,go_sem]) rfl ?_
   exact ⟨_,rfl,.inl ⟨_,_,rfl,by omega,by omega,rfl⟩,ext_alloc _ _⟩
theorem or_shl (x y:Nat) (hx:x<4294967296) (hy:y<4294967296):bits .or .u64 (x:Int) ((y:Int)*4294967296)=((x+y*4294967296:Nat):Int):=by
 have:=u64_or_nat x (y*4294967296) (by omega) (by omega)
 rw [Int.natCast_mul] at this
 have h2:(2:Nat) ^ 32=4294967296:=by decide
 have h3:=or_eq_add' (n:=32) (a:=y) (b:=x) (by omega)
 rw [h2,Nat.mul_comm] at h3
 rw [h3] at this
 exact this
theorem made_2 (ng:Bool) (ad:Addr) (c d e V:Nat) (w:World) (hd:d<4294967296) (he:e<4294967296) (hV:V=d+e*4294967296) (hb:ad.block<w.heap.size) (hc:w.cell? ad=some (.int .u32 d))
 (hc1:w.cell? ⟨ad.block,ad.off+1,none⟩=some (.int .u32 e)) (hlt:V<4611686018427387904):Calls Tryz.prog 57 #[.bool ng,.slice (some ad) 2 c] w (NewNum w (signed ng V)):=by
 have hor:bits .or .u64 0 (d:Int)=(d:Int):=by
  have:=u64_or_nat 0 d (by omega) (by omega)
  rw [Nat.zero_or] at this
  exact this
 have hor2:bits .or .u64 (d:Int) ((e:Int)*4294967296)=(V:Int):=by rw [or_shl d e hd he,hV]
 clear hV
 have hI:(V:Int)<4611686018427387904:=by omega
 have hD:decide ((V:Int)<4611686018427387904)=true:=decide_eq_true hI
 cases ng with
 | true=>
   go_enter Tryz.func57,Tryz.ntmps57
   go_wp2
   refine wp_loop_rounds 3 ?_
   rw [rounds_succ]
   go_wp2
   rw [rounds_succ]
   go_wp2
   rw [rounds_succ]
   go_wp2
   refine bodyPost_ret (v:=.agg #[.int .i64 (-V),.slice none 0 0,.bool false]) (by simp [results,Tryz.results57,go_sem]) rfl ?_
   exact ⟨_,rfl,.inl ⟨_,_,rfl,by omega,by omega,rfl⟩,ext_alloc _ _⟩
 | false=>
   go_enter Tryz.func57,Tryz.ntmps57
   go_wp2
   refine wp_loop_rounds 3 ?_
   rw [rounds_succ]
   go_wp2
   rw [rounds_succ]
   go_wp2
   rw [rounds_succ]
   go_wp2
   refine bodyPost_ret (v:=.agg #[.int .i64 (V),.slice none 0 0,.bool false]) (by simp [results,Tryz.results57,go_sem]) rfl ?_
   exact ⟨_,rfl,.inl ⟨_,_,rfl,by omega,by omega,rfl⟩,ext_alloc _ _⟩
theorem made_2g (ng:Bool) (ad:Addr) (c d e V n:Nat) (w:World) (hd:d<4294967296) (he:e<4294967296) (hV:V=d+e*4294967296) (hb:ad.block<w.heap.size) (hc:w.cell? ad=some (.int .u32 d))
 (hc1:w.cell? ⟨ad.block,ad.off+1,none⟩=some (.int .u32 e)) (hge:4611686018427387904 ≤ V) (hn:NatIs w (.slice (some ad) 2 c) n) (HG:Hid (4611686018427387904 ≤ n)):Calls Tryz.prog 57 #[.bool ng,.slice (some ad) 2 c] w (NewNum w (signed ng n)):=by
 have hor:bits .or .u64 0 (d:Int)=(d:Int):=by
  have:=u64_or_nat 0 d (by omega) (by omega)
  rw [Nat.zero_or] at this
  exact this
 have hor2:bits .or .u64 (d:Int) ((e:Int)*4294967296)=(V:Int):=by rw [or_shl d e hd he,hV]
 clear hV
 have hD:decide ((V:Int)<4611686018427387904)=false:=decide_eq_false (by omega)
 cases ng with
 | true=>
   go_enter Tryz.func57,Tryz.ntmps57
   go_wp2
   refine wp_loop_rounds 3 ?_
   rw [rounds_succ]
   go_wp2
   rw [rounds_succ]
   go_wp2
   rw [rounds_succ]
   go_wp2
   refine bodyPost_ret (v:=.agg #[.int .i64 0,.slice (some ad) 2 c,.bool true]) (by simp [results,Tryz.results57,go_sem]) rfl ?_
   exact ⟨_,rfl,NumIs.below (w:=w) (.inr ⟨ad,2,c,n,true,rfl,hn,HG.out,rfl⟩) (ext_alloc _ _),ext_alloc _ _⟩
 | false=>
   go_enter Tryz.func57,Tryz.ntmps57
   go_wp2
   refine wp_loop_rounds 3 ?_
   rw [rounds_succ]
   go_wp2
   rw [rounds_succ]
   go_wp2
   rw [rounds_succ]
   go_wp2
   refine bodyPost_ret (v:=.agg #[.int .i64 0,.slice (some ad) 2 c,.bool false]) (by simp [results,Tryz.results57,go_sem]) rfl ?_
   exact ⟨_,rfl,NumIs.below (w:=w) (.inr ⟨ad,2,c,n,false,rfl,hn,HG.out,rfl⟩) (ext_alloc _ _),ext_alloc _ _⟩
theorem made_3 (ng:Bool) (ad:Addr) (k c n:Nat) (w:World) (hk:3 ≤ k) (hn:NatIs w (.slice (some ad) k c) n) (HG:Hid (4611686018427387904 ≤ n)):Calls Tryz.prog 57 #[.bool ng,.slice (some ad) k c] w (NewNum w (signed ng n)):=by
 have hI:¬ (k:Int) ≤ 2:=by omega
 cases ng with
 | true=>
   go_enter Tryz.func57,Tryz.ntmps57
   go_wp2
   refine bodyPost_ret (v:=.agg #[.int .i64 0,.slice (some ad) k c,.bool true]) (by simp [results,Tryz.results57,go_sem]) rfl ?_
   exact ⟨_,rfl,NumIs.below (w:=w) (.inr ⟨ad,k,c,n,true,rfl,hn,HG.out,rfl⟩) (ext_alloc _ _),ext_alloc _ _⟩
 | false=>
   go_enter Tryz.func57,Tryz.ntmps57
   go_wp2
   refine bodyPost_ret (v:=.agg #[.int .i64 0,.slice (some ad) k c,.bool false]) (by simp [results,Tryz.results57,go_sem]) rfl ?_
   exact ⟨_,rfl,NumIs.below (w:=w) (.inr ⟨ad,k,c,n,false,rfl,hn,HG.out,rfl⟩) (ext_alloc _ _),ext_alloc _ _⟩
theorem made_any (ng:Bool) (v:Value) (n:Nat) (w:World) (h:NatIs w v n):Calls Tryz.prog 57 #[.bool ng,v] w (NewNum w (signed ng n)):=by
 have hn:=h
 obtain ⟨A,c,ds,rfl,h1,h2,hr,hcan,rfl⟩:=h
 rcases Nat.lt_or_ge ds.length 3 with hl | hl
 · match ds,hcan,hr,hn with
   | [],_,_,_=>exact made_0 ng A c w
   | [d],hcan,hr,_=>
     obtain ⟨ad,u,rfl,hb,hx,hcell⟩:=hr.at_ (k:=0) (by simp)
     simp [u32s] at hx
     subst hx
     rw [val_one]
     exact made_1 ng ad c d w (hcan.1.get 0 (by simp)) hb (by simpa [Addr.add] using hcell)
   | [d,e],hcan,hr,hn=>
     obtain ⟨ad,u,rfl,hb,hx,hcell⟩:=hr.at_ (k:=0) (by simp)
     obtain ⟨ad',u',e1,hb',hx',hcell'⟩:=hr.at_ (k:=1) (by simp)
     injection e1 with e1
     subst e1
     simp [u32s] at hx hx'
     subst hx hx'
     have hv:val 4294967296 [d,e]=d+e*4294967296:=by simp only [val];omega
     have hd:=hcan.1.get 0 (by simp)
     have he:=hcan.1.get 1 (by simp)
     rcases Nat.lt_or_ge (d+e*4294967296) 4611686018427387904 with h0 | h0
     · rw [hv]
       exact made_2 ng ad c d e _ w hd he rfl hb (by simpa [Addr.add] using hcell) (by simpa [Addr.add] using hcell') h0
     · exact made_2g ng ad c d e _ _ w hd he rfl hb (by simpa [Addr.add] using hcell) (by simpa [Addr.add] using hcell') h0 hn (hide (by rw [hv];exact h0))
   | _ :: _ :: _ :: _,_,_,_=>simp at hl;omega
 · obtain ⟨ad,u,rfl,hb,hx,hcell⟩:=hr.at_ (k:=0) (by omega)
   refine made_3 ng ad _ c _ w hl hn (hide ?_)
   have h5:=hcan.ge (by intro e;rw [e] at hl;simp at hl)
   have h6:4294967296 ^ 2 ≤ 4294967296 ^ (ds.length - 1):=Nat.pow_le_pow_right (by omega) (by omega)
   have h7:(4294967296:Nat) ^ 2=18446744073709551616:=by decide
   rw [h7] at h6
   omega
end Go.Proofs.YtnmkalocbfdecaaGreatDoor
namespace Go.Proofs.YtnmkalocbfdecaaGreatDoor
open Go.RowKit Go.Deep
theorem NumIs.form {w:World} {v:Value} {z:Int} (h:NumIs w v z):∃ (x:Int) (A:Option Addr) (k c:Nat) (ng:Bool),v= .agg #[.int .i64 x,.slice A k c,.bool ng] ∧
 -4611686018427387904<x ∧ x<4611686018427387904 ∧ (A=none → k=0 ∧ c=0 ∧ z=x):=by
 rcases h with ⟨x,ng,rfl,h1,h2,rfl⟩ | ⟨ad,k,c,n,ng,rfl,hn,h3,rfl⟩
 · exact ⟨_,_,_,_,_,rfl,h1,h2,fun _=>⟨rfl,rfl,rfl⟩⟩
 · exact ⟨_,_,_,_,_,rfl,by omega,by omega,fun h=>by cases h⟩
def NoDigit (cs:Array Value):Prop:=∀ (i:Nat) (d:Int),cs[i]?≠some (.int .u32 d)
theorem noDigit3 (x:Int) (A:Option Addr) (k c:Nat) (ng:Bool):NoDigit #[.int .i64 x,.slice A k c,.bool ng]:=by
 intro i d h
 match i with
 | 0=>simp at h
 | 1=>simp at h
 | 2=>simp at h
 | i+3=>simp at h
theorem NatIs.stored {w w' :World} {g:Nat} {t:TypeId} {cs:Array Value} {v:Value} {n:Nat} (h:NatIs w v n) (hb:Blk w g t cs) (hno:NoDigit cs)
 (hk:∀ p:Addr,p.block≠g → w'.cell? p=w.cell? p) (hs:w.heap.size ≤ w'.heap.size):NatIs w' v n:=by
 obtain ⟨A,c',ds,rfl,h1,h2,h3,h4,h5⟩:=h
 refine ⟨A,c',ds,rfl,h1,h2,⟨h3.1,?_⟩,h4,h5⟩
 intro hn
 obtain ⟨ad,rfl,hlt,hc⟩:=h3.2 hn
 have hne:ad.block≠g:=by
  intro e
  have h0:=hc 0 _ (u32s_get hn)
  unfold World.cell? at h0
  rw [block_of_add,e,show w.heap[g]?=_ from hb] at h0
  simp only at h0
  split at h0
  · cases h0
  · exact hno _ _ h0
 exact ⟨ad,rfl,by omega,fun j u hu=>(hk _ (by rw [block_of_add];exact hne)).trans (hc j u hu)⟩
theorem NumIs.stored {w w' :World} {g:Nat} {t:TypeId} {cs:Array Value} {v:Value} {z:Int} (h:NumIs w v z) (hb:Blk w g t cs) (hno:NoDigit cs)
 (hk:∀ p:Addr,p.block≠g → w'.cell? p=w.cell? p) (hs:w.heap.size ≤ w'.heap.size):NumIs w' v z:=by
 rcases h with h | ⟨ad,k,c,n,ng,h1,h2,h3,h4⟩
 · exact .inl h
 · exact .inr ⟨ad,k,c,n,ng,h1,h2.stored hb hno hk hs,h3,h4⟩
abbrev World.num (w:World) (g:Nat) (x:Int) (A:Option Addr) (k c:Nat) (ng:Bool):World:=
 ((w.setCell ⟨g,0,none⟩ (.int .i64 x)).setCell ⟨g,1,none⟩ (.slice A k c)).setCell ⟨g,2,none⟩ (.bool ng)
theorem num_stored {W:World} {g:Nat} {t:TypeId} {x x0:Int} {A A0:Option Addr} {k c k0 c0:Nat} {ng n0:Bool} {v:Value} {z:Int} (hv:NumIs W v z) (hk:Blk W g t #[.int .i64 x0,.slice A0 k0 c0,.bool n0]):
 NumIs (World.num W g x A k c ng) v z:=by
 refine hv.stored hk (noDigit3 _ _ _ _ _) ?_ (by simp [World.num,World.setCell])
 intro p hp
 simp only [World.num]
 rw [World.cell?_of_block (Below.heap_setCell _ _ _ _ (by exact hp)),World.cell?_of_block (Below.heap_setCell _ _ _ _ (by exact hp)),World.cell?_of_block (Below.heap_setCell _ _ _ _ (by exact hp))]
theorem num_below {w W:World} {g:Nat} {x:Int} {A:Option Addr} {k c:Nat} {ng:Bool} (h:Below w.heap.size w W) (hg:w.heap.size ≤ g):Below w.heap.size w (World.num W g x A k c ng):=
 ((h.setCell hg _).setCell hg _).setCell hg _
theorem num_blk {W:World} {g:Nat} {t:TypeId} {x x0:Int} {A A0:Option Addr} {k c k0 c0:Nat} {ng n0:Bool} (hk:Blk W g t #[.int .i64 x0,.slice A0 k0 c0,.bool n0]):
 Blk (World.num W g x A k c ng) g t #[.int .i64 x,.slice A k c,.bool ng]:=((hk.set_ 0 _).set_ 1 _).set_ 2 _
theorem signed_abs (z:Int):signed (decide (z<0)) z.natAbs=z:=by
 unfold signed
 by_cases h:z<0
 · rw [decide_eq_true h,if_pos rfl];omega
 · rw [decide_eq_false h];simp only [Bool.false_eq_true,if_false];omega
theorem add_fast (x y:Int) (a b:Bool) (w:World) (h1: -4611686018427387904<x) (h2:x<4611686018427387904) (h3: -4611686018427387904<y) (h4:y<4611686018427387904) (hs1: -4611686018427387904<x+y) (hs2:x+y<4611686018427387904):
 Calls Tryz.prog 85 #[.agg #[.int .i64 x,.slice none 0 0,.bool a],.agg #[.int .i64 y,.slice none 0 0,.bool b]] w (NewNum w (x+y)):=by
 have q0:=fun w=>eqlN w none 0 0 0 0
 have d1:decide ((x+y:Int)> -4611686018427387904)=true:=decide_eq_true hs1
 have d2:decide ((x+y:Int)<4611686018427387904)=true:=decide_eq_true hs2
 go_enter Tryz.func85,Tryz.ntmps85
 go_wp2
 refine bodyPost_ret (v:=.agg #[.int .i64 (x+y),.slice none 0 0,.bool false]) (by simp [results,Tryz.results85,go_sem]) rfl ?_
 exact ⟨_,rfl,.inl ⟨_,_,rfl,by omega,by omega,rfl⟩,ext (ext (ext_alloc _ _) (ext_alloc _ _)) (ext_alloc _ _)⟩
theorem parts_s (v:Value) (s:Bool) (n:Nat) (w:World) (h:NumIs w v (signed s n)) (h0:s=true → 0<n):
 Calls Tryz.prog 60 #[v] w (fun e w' =>∃ p,e= .returned (.tuple #[.bool s,p]) ∧ NatIs w' p n ∧ Below w.heap.size w w'):=by
 refine (parts_any v _ w h).mono ?_
 rintro e w' ⟨p,rfl,h1,h2⟩
 have e1:decide (signed s n<0)=s:=by
  cases s with
  | true=>exact decide_eq_true (by have:=h0 rfl;unfold signed;rw [if_pos rfl];omega)
  | false=>exact decide_eq_false (by unfold signed;simp only [Bool.false_eq_true,if_false];omega)
 have e2:(signed s n).natAbs=n:=by cases s<;>unfold signed<;>simp
 rw [e1]
 rw [e2] at h1
 exact ⟨p,rfl,h1,h2⟩
theorem add_same (s:Bool) (n m:Nat):signed s n+signed s m=signed s (n+m):=by cases s<;>unfold signed<;>simp<;>omega
theorem add_ge {s t:Bool} {n m:Nat} (h:¬ s=t) (hle:m ≤ n):signed s n+signed t m=signed s (n - m):=by cases s<;>cases t<;>simp at h<;>unfold signed<;>simp<;>omega
theorem add_lt {s t:Bool} {n m:Nat} (h:¬ s=t) (hle:n ≤ m):signed s n+signed t m=signed t (m - n):=by cases s<;>cases t<;>simp at h<;>unfold signed<;>simp<;>omega
def AddSlow (x y:Int) (A B:Option Addr):Prop:=A≠none ∨ (A=none ∧ B≠none) ∨ (A=none ∧ B=none ∧ 4611686018427387904 ≤ x+y) ∨ (A=none ∧ B=none ∧ x+y ≤ -4611686018427387904)
theorem add_slow (s t:Bool) (n m:Nat) (x y:Int) (A B:Option Addr) (k c k' c' :Nat) (a b:Bool) (w:World) (h1: -4611686018427387904<x) (h2:x<4611686018427387904) (h3: -4611686018427387904<y) (h4:y<4611686018427387904)
 (ha:NumIs w (.agg #[.int .i64 x,.slice A k c,.bool a]) (signed s n)) (hb:NumIs w (.agg #[.int .i64 y,.slice B k' c',.bool b]) (signed t m)) (hs:s=true → 0<n) (ht:t=true → 0<m)
 (hln:len 4294967296 n ≤ 67108864) (hlm:len 4294967296 m ≤ 67108864) (hsl:AddSlow x y A B):
 Calls Tryz.prog 85 #[.agg #[.int .i64 x,.slice A k c,.bool a],.agg #[.int .i64 y,.slice B k' c',.bool b]] w (NewNum w (signed s n+signed t m)):=by
 have q1:=fun w=>eqlN w A k c 0 0
 have q2:=fun w=>eqlN w B k' c' 0 0
 have HLN:=hide hln
 have HLM:=hide hlm
 clear hln hlm
 rcases hsl with h | ⟨h,h'⟩ | ⟨h,h',h5⟩ | ⟨h,h',h5⟩
 · obtain ⟨ad,rfl⟩:=Option.ne_none_iff_exists'.1 h
   clear h
   go_enter Tryz.func85,Tryz.ntmps85
   go_wp2_with fail
   have hW:=(ext (ext (ext_alloc w (.cells #[.int .i64 x,.slice (some ad) k c,.bool a] 65)) (ext_alloc _ (.cells #[.int .i64 y,.slice B k' c',.bool b] 65))) (ext_alloc _ (.cells #[.int .i64 0,.slice none 0 0,.bool false] 65)))
   have hA:=ha.below hW
   have hB:=hb.below hW
   have kB:=(Blk.new (w.alloc (.cells #[.int .i64 x,.slice (some ad) k c,.bool a] 65)) 65 #[.int .i64 y,.slice B k' c',.bool b]).alloc (.cells #[.int .i64 0,.slice none 0 0,.bool false] 65)
   have kC:=Blk.new ((w.alloc (.cells #[.int .i64 x,.slice (some ad) k c,.bool a] 65)).alloc (.cells #[.int .i64 y,.slice B k' c',.bool b] 65)) 65 #[.int .i64 0,.slice none 0 0,.bool false]
   simp only [World.size_alloc] at kB kC
   generalize ((w.alloc (.cells #[.int .i64 x,.slice (some ad) k c,.bool a] 65)).alloc (.cells #[.int .i64 y,.slice B k' c',.bool b] 65)).alloc (.cells #[.int .i64 0,.slice none 0 0,.bool false] 65)=W at hA hB kB kC hW ⊢
   refine (parts_s _ s n W hA hs).mono ?_
   rintro e w1 ⟨p,rfl,hp,hb1⟩
   have kB1:=kB.below hb1 kB.lt
   have c0:=kB1.cell 0
   have c1:=kB1.cell 1
   have c2:=kB1.cell 2
   simp at c0 c1 c2
   go_wp2_with fail
   refine (parts_s _ t m w1 (hB.below hb1) ht).mono ?_
   rintro e w2 ⟨p',rfl,hp',hb2⟩
   have hp2:=hp.below hb2
   have kC2:=(kC.below hb1 kC.lt).below hb2 (kC.below hb1 kC.lt).lt
   have hW2:=ext (ext hW hb1) hb2
   clear hb1 hb2 hW kC kB kB1 c0 c1 c2 hA hB hp
   by_cases hst:s=t
   · subst hst
     go_wp2_with fail
     refine (nat_add p p' n m w2 hp2 hp' HLN.out HLM.out).mono ?_
     rintro e w3 ⟨q,rfl,hq,hb3⟩
     go_wp2_with fail
     refine (made_any s q (n+m) w3 hq).mono ?_
     rintro e w4 ⟨v,rfl,hv,hb4⟩
     obtain ⟨x',A',k2,c2',ng',rfl,_,_,_⟩:=hv.form
     have kC4:=(kC2.below hb3 kC2.lt).below hb4 (kC2.below hb3 kC2.lt).lt
     have hW4:=ext (ext hW2 hb3) hb4
     have c0:=kC4.cell 0
     have c1:=kC4.cell 1
     have c2:=kC4.cell 2
     have f0:=kC4.frozen 0
     have f1:=kC4.frozen 1
     have f2:=kC4.frozen 2
     simp at c0 c1 c2
     go_wp2
     have kD:=num_blk (x:=x') (A:=A') (k:=k2) (c:=c2') (ng:=ng') kC4
     have d0:=kD.cell 0
     have d1:=kD.cell 1
     have d2:=kD.cell 2
     simp at d0 d1 d2
     refine bodyPost_ret (v:=.agg #[.int .i64 x',.slice A' k2 c2',.bool ng']) (by simp [results,Tryz.results85,go_sem,d0,d1,d2]) rfl ?_
     exact ⟨_,rfl,num_stored (by rw [add_same];exact hv) kC4,num_below hW4 (by omega)⟩
   · have hst' :(s == t)=false:=beq_eq_false_iff_ne.2 hst
     go_wp2_with fail
     refine (nat_cmp p p' n m w2 hp2 hp' HLN.out HLM.out).mono ?_
     rintro e w3 ⟨rfl,r,rfl⟩
     have hp3:=hp2.below (ext_drewN w2 r)
     have hp4:=hp'.below (ext_drewN w2 r)
     have kC3:=kC2.drewN r
     have hW3:=below_drewN hW2 r
     clear hp2 hp' kC2 hW2
     generalize w2.drewN r=w2 at hp3 hp4 kC3 hW3 ⊢
     have hp2:=hp3
     have hp' :=hp4
     have kC2:=kC3
     have hW2:=hW3
     rcases Nat.lt_trichotomy n m with hlt | hlt | hlt
     · have hc:cmpOf (n:Int) (m:Int)= -1:=by unfold cmpOf;rw [if_pos (by omega)]
       rw [hc]
       clear hc
       go_wp2_with fail
       refine (nat_sub p' p m n w2 hp' hp2 HLM.out (Nat.le_of_lt hlt)).mono ?_
       rintro e w3 ⟨q,rfl,hq,hb3⟩
       go_wp2_with fail
       refine (made_any t q (m - n) w3 hq).mono ?_
       rintro e w4 ⟨v,rfl,hv,hb4⟩
       obtain ⟨x',A',k2,c2',ng',rfl,_,_,_⟩:=hv.form
       have kC4:=(kC2.below hb3 kC2.lt).below hb4 (kC2.below hb3 kC2.lt).lt
       have hW4:=ext (ext hW2 hb3) hb4
       have c0:=kC4.cell 0
       have c1:=kC4.cell 1
       have c2:=kC4.cell 2
       have f0:=kC4.frozen 0
       have f1:=kC4.frozen 1
       have f2:=kC4.frozen 2
       simp at c0 c1 c2
       go_wp2
       have kD:=num_blk (x:=x') (A:=A') (k:=k2) (c:=c2') (ng:=ng') kC4
       have d0:=kD.cell 0
       have d1:=kD.cell 1
       have d2:=kD.cell 2
       simp at d0 d1 d2
       refine bodyPost_ret (v:=.agg #[.int .i64 x',.slice A' k2 c2',.bool ng']) (by simp [results,Tryz.results85,go_sem,d0,d1,d2]) rfl ?_
       exact ⟨_,rfl,num_stored (by rw [add_lt hst (Nat.le_of_lt hlt)];exact hv) kC4,num_below hW4 (by omega)⟩
     · have hc:cmpOf (n:Int) (m:Int)=0:=by unfold cmpOf;rw [if_neg (by omega),if_neg (by omega)]
       rw [hc]
       clear hc
       go_wp2_with fail
       refine (nat_sub p p' n m w2 hp2 hp' HLN.out (Nat.le_of_eq hlt.symm)).mono ?_
       rintro e w3 ⟨q,rfl,hq,hb3⟩
       go_wp2_with fail
       refine (made_any s q (n - m) w3 hq).mono ?_
       rintro e w4 ⟨v,rfl,hv,hb4⟩
       obtain ⟨x',A',k2,c2',ng',rfl,_,_,_⟩:=hv.form
       have kC4:=(kC2.below hb3 kC2.lt).below hb4 (kC2.below hb3 kC2.lt).lt
       have hW4:=ext (ext hW2 hb3) hb4
       have c0:=kC4.cell 0
       have c1:=kC4.cell 1
       have c2:=kC4.cell 2
       have f0:=kC4.frozen 0
       have f1:=kC4.frozen 1
       have f2:=kC4.frozen 2
       simp at c0 c1 c2
       go_wp2
       have kD:=num_blk (x:=x') (A:=A') (k:=k2) (c:=c2') (ng:=ng') kC4
       have d0:=kD.cell 0
       have d1:=kD.cell 1
       have d2:=kD.cell 2
       simp at d0 d1 d2
       refine bodyPost_ret (v:=.agg #[.int .i64 x',.slice A' k2 c2',.bool ng']) (by simp [results,Tryz.results85,go_sem,d0,d1,d2]) rfl ?_
       exact ⟨_,rfl,num_stored (by rw [add_ge hst (Nat.le_of_eq hlt.symm)];exact hv) kC4,num_below hW4 (by omega)⟩
     · have hc:cmpOf (n:Int) (m:Int)=1:=by unfold cmpOf;rw [if_neg (by omega),if_pos (by omega)]
       rw [hc]
       clear hc
       go_wp2_with fail
       refine (nat_sub p p' n m w2 hp2 hp' HLN.out (Nat.le_of_lt hlt)).mono ?_
       rintro e w3 ⟨q,rfl,hq,hb3⟩
       go_wp2_with fail
       refine (made_any s q (n - m) w3 hq).mono ?_
       rintro e w4 ⟨v,rfl,hv,hb4⟩
       obtain ⟨x',A',k2,c2',ng',rfl,_,_,_⟩:=hv.form
       have kC4:=(kC2.below hb3 kC2.lt).below hb4 (kC2.below hb3 kC2.lt).lt
       have hW4:=ext (ext hW2 hb3) hb4
       have c0:=kC4.cell 0
       have c1:=kC4.cell 1
       have c2:=kC4.cell 2
       have f0:=kC4.frozen 0
       have f1:=kC4.frozen 1
       have f2:=kC4.frozen 2
       simp at c0 c1 c2
       go_wp2
       have kD:=num_blk (x:=x') (A:=A') (k:=k2) (c:=c2') (ng:=ng') kC4
       have d0:=kD.cell 0
       have d1:=kD.cell 1
       have d2:=kD.cell 2
       simp at d0 d1 d2
       refine bodyPost_ret (v:=.agg #[.int .i64 x',.slice A' k2 c2',.bool ng']) (by simp [results,Tryz.results85,go_sem,d0,d1,d2]) rfl ?_
       exact ⟨_,rfl,num_stored (by rw [add_ge hst (Nat.le_of_lt hlt)];exact hv) kC4,num_below hW4 (by omega)⟩
 · obtain ⟨bd,rfl⟩:=Option.ne_none_iff_exists'.1 h'
   subst h
   clear h'
   go_enter Tryz.func85,Tryz.ntmps85
   go_wp2_with fail
   have hW:=(ext (ext (ext_alloc w (.cells #[.int .i64 x,.slice none k c,.bool a] 65)) (ext_alloc _ (.cells #[.int .i64 y,.slice (some bd) k' c',.bool b] 65))) (ext_alloc _ (.cells #[.int .i64 0,.slice none 0 0,.bool false] 65)))
   have hA:=ha.below hW
   have hB:=hb.below hW
   have kB:=(Blk.new (w.alloc (.cells #[.int .i64 x,.slice none k c,.bool a] 65)) 65 #[.int .i64 y,.slice (some bd) k' c',.bool b]).alloc (.cells #[.int .i64 0,.slice none 0 0,.bool false] 65)
   have kC:=Blk.new ((w.alloc (.cells #[.int .i64 x,.slice none k c,.bool a] 65)).alloc (.cells #[.int .i64 y,.slice (some bd) k' c',.bool b] 65)) 65 #[.int .i64 0,.slice none 0 0,.bool false]
   simp only [World.size_alloc] at kB kC
   generalize ((w.alloc (.cells #[.int .i64 x,.slice none k c,.bool a] 65)).alloc (.cells #[.int .i64 y,.slice (some bd) k' c',.bool b] 65)).alloc (.cells #[.int .i64 0,.slice none 0 0,.bool false] 65)=W at hA hB kB kC hW ⊢
   refine (parts_s _ s n W hA hs).mono ?_
   rintro e w1 ⟨p,rfl,hp,hb1⟩
   have kB1:=kB.below hb1 kB.lt
   have c0:=kB1.cell 0
   have c1:=kB1.cell 1
   have c2:=kB1.cell 2
   simp at c0 c1 c2
   go_wp2_with fail
   refine (parts_s _ t m w1 (hB.below hb1) ht).mono ?_
   rintro e w2 ⟨p',rfl,hp',hb2⟩
   have hp2:=hp.below hb2
   have kC2:=(kC.below hb1 kC.lt).below hb2 (kC.below hb1 kC.lt).lt
   have hW2:=ext (ext hW hb1) hb2
   clear hb1 hb2 hW kC kB kB1 c0 c1 c2 hA hB hp
   by_cases hst:s=t
   · subst hst
     go_wp2_with fail
     refine (nat_add p p' n m w2 hp2 hp' HLN.out HLM.out).mono ?_
     rintro e w3 ⟨q,rfl,hq,hb3⟩
     go_wp2_with fail
     refine (made_any s q (n+m) w3 hq).mono ?_
     rintro e w4 ⟨v,rfl,hv,hb4⟩
     obtain ⟨x',A',k2,c2',ng',rfl,_,_,_⟩:=hv.form
     have kC4:=(kC2.below hb3 kC2.lt).below hb4 (kC2.below hb3 kC2.lt).lt
     have hW4:=ext (ext hW2 hb3) hb4
     have c0:=kC4.cell 0
     have c1:=kC4.cell 1
     have c2:=kC4.cell 2
     have f0:=kC4.frozen 0
     have f1:=kC4.frozen 1
     have f2:=kC4.frozen 2
     simp at c0 c1 c2
     go_wp2
     have kD:=num_blk (x:=x') (A:=A') (k:=k2) (c:=c2') (ng:=ng') kC4
     have d0:=kD.cell 0
     have d1:=kD.cell 1
     have d2:=kD.cell 2
     simp at d0 d1 d2
     refine bodyPost_ret (v:=.agg #[.int .i64 x',.slice A' k2 c2',.bool ng']) (by simp [results,Tryz.results85,go_sem,d0,d1,d2]) rfl ?_
     exact ⟨_,rfl,num_stored (by rw [add_same];exact hv) kC4,num_below hW4 (by omega)⟩
   · have hst' :(s == t)=false:=beq_eq_false_iff_ne.2 hst
     go_wp2_with fail
     refine (nat_cmp p p' n m w2 hp2 hp' HLN.out HLM.out).mono ?_
     rintro e w3 ⟨rfl,r,rfl⟩
     have hp3:=hp2.below (ext_drewN w2 r)
     have hp4:=hp'.below (ext_drewN w2 r)
     have kC3:=kC2.drewN r
     have hW3:=below_drewN hW2 r
     clear hp2 hp' kC2 hW2
     generalize w2.drewN r=w2 at hp3 hp4 kC3 hW3 ⊢
     have hp2:=hp3
     have hp' :=hp4
     have kC2:=kC3
     have hW2:=hW3
     rcases Nat.lt_trichotomy n m with hlt | hlt | hlt
     · have hc:cmpOf (n:Int) (m:Int)= -1:=by unfold cmpOf;rw [if_pos (by omega)]
       rw [hc]
       clear hc
       go_wp2_with fail
       refine (nat_sub p' p m n w2 hp' hp2 HLM.out (Nat.le_of_lt hlt)).mono ?_
       rintro e w3 ⟨q,rfl,hq,hb3⟩
       go_wp2_with fail
       refine (made_any t q (m - n) w3 hq).mono ?_
       rintro e w4 ⟨v,rfl,hv,hb4⟩
       obtain ⟨x',A',k2,c2',ng',rfl,_,_,_⟩:=hv.form
       have kC4:=(kC2.below hb3 kC2.lt).below hb4 (kC2.below hb3 kC2.lt).lt
       have hW4:=ext (ext hW2 hb3) hb4
       have c0:=kC4.cell 0
       have c1:=kC4.cell 1
       have c2:=kC4.cell 2
       have f0:=kC4.frozen 0
       have f1:=kC4.frozen 1
       have f2:=kC4.frozen 2
       simp at c0 c1 c2
       go_wp2
       have kD:=num_blk (x:=x') (A:=A') (k:=k2) (c:=c2') (ng:=ng') kC4
       have d0:=kD.cell 0
       have d1:=kD.cell 1
       have d2:=kD.cell 2
       simp at d0 d1 d2
       refine bodyPost_ret (v:=.agg #[.int .i64 x',.slice A' k2 c2',.bool ng']) (by simp [results,Tryz.results85,go_sem,d0,d1,d2]) rfl ?_
       exact ⟨_,rfl,num_stored (by rw [add_lt hst (Nat.le_of_lt hlt)];exact hv) kC4,num_below hW4 (by omega)⟩
     · have hc:cmpOf (n:Int) (m:Int)=0:=by unfold cmpOf;rw [if_neg (by omega),if_neg (by omega)]
       rw [hc]
       clear hc
       go_wp2_with fail
       refine (nat_sub p p' n m w2 hp2 hp' HLN.out (Nat.le_of_eq hlt.symm)).mono ?_
       rintro e w3 ⟨q,rfl,hq,hb3⟩
       go_wp2_with fail
       refine (made_any s q (n - m) w3 hq).mono ?_
       rintro e w4 ⟨v,rfl,hv,hb4⟩
       obtain ⟨x',A',k2,c2',ng',rfl,_,_,_⟩:=hv.form
       have kC4:=(kC2.below hb3 kC2.lt).below hb4 (kC2.below hb3 kC2.lt).lt
       have hW4:=ext (ext hW2 hb3) hb4
       have c0:=kC4.cell 0
       have c1:=kC4.cell 1
       have c2:=kC4.cell 2
       have f0:=kC4.frozen 0
       have f1:=kC4.frozen 1
       have f2:=kC4.frozen 2
       simp at c0 c1 c2
       go_wp2
       have kD:=num_blk (x:=x') (A:=A') (k:=k2) (c:=c2') (ng:=ng') kC4
       have d0:=kD.cell 0
       have d1:=kD.cell 1
       have d2:=kD.cell 2
       simp at d0 d1 d2
       refine bodyPost_ret (v:=.agg #[.int .i64 x',.slice A' k2 c2',.bool ng']) (by simp [results,Tryz.results85,go_sem,d0,d1,d2]) rfl ?_
       exact ⟨_,rfl,num_stored (by rw [add_ge hst (Nat.le_of_eq hlt.symm)];exact hv) kC4,num_below hW4 (by omega)⟩
     · have hc:cmpOf (n:Int) (m:Int)=1:=by unfold cmpOf;rw [if_neg (by omega),if_pos (by omega)]
       rw [hc]
       clear hc
       go_wp2_with fail
       refine (nat_sub p p' n m w2 hp2 hp' HLN.out (Nat.le_of_lt hlt)).mono ?_
       rintro e w3 ⟨q,rfl,hq,hb3⟩
       go_wp2_with fail
       refine (made_any s q (n - m) w3 hq).mono ?_
       rintro e w4 ⟨v,rfl,hv,hb4⟩
       obtain ⟨x',A',k2,c2',ng',rfl,_,_,_⟩:=hv.form
       have kC4:=(kC2.below hb3 kC2.lt).below hb4 (kC2.below hb3 kC2.lt).lt
       have hW4:=ext (ext hW2 hb3) hb4
       have c0:=kC4.cell 0
       have c1:=kC4.cell 1
       have c2:=kC4.cell 2
       have f0:=kC4.frozen 0
       have f1:=kC4.frozen 1
       have f2:=kC4.frozen 2
       simp at c0 c1 c2
       go_wp2
       have kD:=num_blk (x:=x') (A:=A') (k:=k2) (c:=c2') (ng:=ng') kC4
       have d0:=kD.cell 0
       have d1:=kD.cell 1
       have d2:=kD.cell 2
       simp at d0 d1 d2
       refine bodyPost_ret (v:=.agg #[.int .i64 x',.slice A' k2 c2',.bool ng']) (by simp [results,Tryz.results85,go_sem,d0,d1,d2]) rfl ?_
       exact ⟨_,rfl,num_stored (by rw [add_ge hst (Nat.le_of_lt hlt)];exact hv) kC4,num_below hW4 (by omega)⟩
 · subst h h'
   have d1:decide ((x+y:Int)> -4611686018427387904)=true:=decide_eq_true (by omega)
   have d2:decide ((x+y:Int)<4611686018427387904)=false:=decide_eq_false (by omega)
   clear h5
   go_enter Tryz.func85,Tryz.ntmps85
   go_wp2_with fail
   have hW:=(ext (ext (ext_alloc w (.cells #[.int .i64 x,.slice none k c,.bool a] 65)) (ext_alloc _ (.cells #[.int .i64 y,.slice none k' c',.bool b] 65))) (ext_alloc _ (.cells #[.int .i64 0,.slice none 0 0,.bool false] 65)))
   have hA:=ha.below hW
   have hB:=hb.below hW
   have kB:=(Blk.new (w.alloc (.cells #[.int .i64 x,.slice none k c,.bool a] 65)) 65 #[.int .i64 y,.slice none k' c',.bool b]).alloc (.cells #[.int .i64 0,.slice none 0 0,.bool false] 65)
   have kC:=Blk.new ((w.alloc (.cells #[.int .i64 x,.slice none k c,.bool a] 65)).alloc (.cells #[.int .i64 y,.slice none k' c',.bool b] 65)) 65 #[.int .i64 0,.slice none 0 0,.bool false]
   simp only [World.size_alloc] at kB kC
   generalize ((w.alloc (.cells #[.int .i64 x,.slice none k c,.bool a] 65)).alloc (.cells #[.int .i64 y,.slice none k' c',.bool b] 65)).alloc (.cells #[.int .i64 0,.slice none 0 0,.bool false] 65)=W at hA hB kB kC hW ⊢
   refine (parts_s _ s n W hA hs).mono ?_
   rintro e w1 ⟨p,rfl,hp,hb1⟩
   have kB1:=kB.below hb1 kB.lt
   have c0:=kB1.cell 0
   have c1:=kB1.cell 1
   have c2:=kB1.cell 2
   simp at c0 c1 c2
   go_wp2_with fail
   refine (parts_s _ t m w1 (hB.below hb1) ht).mono ?_
   rintro e w2 ⟨p',rfl,hp',hb2⟩
   have hp2:=hp.below hb2
   have kC2:=(kC.below hb1 kC.lt).below hb2 (kC.below hb1 kC.lt).lt
   have hW2:=ext (ext hW hb1) hb2
   clear hb1 hb2 hW kC kB kB1 c0 c1 c2 hA hB hp
   by_cases hst:s=t
   · subst hst
     go_wp2_with fail
     refine (nat_add p p' n m w2 hp2 hp' HLN.out HLM.out).mono ?_
     rintro e w3 ⟨q,rfl,hq,hb3⟩
     go_wp2_with fail
     refine (made_any s q (n+m) w3 hq).mono ?_
     rintro e w4 ⟨v,rfl,hv,hb4⟩
     obtain ⟨x',A',k2,c2',ng',rfl,_,_,_⟩:=hv.form
     have kC4:=(kC2.below hb3 kC2.lt).below hb4 (kC2.below hb3 kC2.lt).lt
     have hW4:=ext (ext hW2 hb3) hb4
     have c0:=kC4.cell 0
     have c1:=kC4.cell 1
     have c2:=kC4.cell 2
     have f0:=kC4.frozen 0
     have f1:=kC4.frozen 1
     have f2:=kC4.frozen 2
     simp at c0 c1 c2
     go_wp2
     have kD:=num_blk (x:=x') (A:=A') (k:=k2) (c:=c2') (ng:=ng') kC4
     have d0:=kD.cell 0
     have d1:=kD.cell 1
     have d2:=kD.cell 2
     simp at d0 d1 d2
     refine bodyPost_ret (v:=.agg #[.int .i64 x',.slice A' k2 c2',.bool ng']) (by simp [results,Tryz.results85,go_sem,d0,d1,d2]) rfl ?_
     exact ⟨_,rfl,num_stored (by rw [add_same];exact hv) kC4,num_below hW4 (by omega)⟩
   · have hst' :(s == t)=false:=beq_eq_false_iff_ne.2 hst
     go_wp2_with fail
     refine (nat_cmp p p' n m w2 hp2 hp' HLN.out HLM.out).mono ?_
     rintro e w3 ⟨rfl,r,rfl⟩
     have hp3:=hp2.below (ext_drewN w2 r)
     have hp4:=hp'.below (ext_drewN w2 r)
     have kC3:=kC2.drewN r
     have hW3:=below_drewN hW2 r
     clear hp2 hp' kC2 hW2
     generalize w2.drewN r=w2 at hp3 hp4 kC3 hW3 ⊢
     have hp2:=hp3
     have hp' :=hp4
     have kC2:=kC3
     have hW2:=hW3
     rcases Nat.lt_trichotomy n m with hlt | hlt | hlt
     · have hc:cmpOf (n:Int) (m:Int)= -1:=by unfold cmpOf;rw [if_pos (by omega)]
       rw [hc]
       clear hc
       go_wp2_with fail
       refine (nat_sub p' p m n w2 hp' hp2 HLM.out (Nat.le_of_lt hlt)).mono ?_
       rintro e w3 ⟨q,rfl,hq,hb3⟩
       go_wp2_with fail
       refine (made_any t q (m - n) w3 hq).mono ?_
       rintro e w4 ⟨v,rfl,hv,hb4⟩
       obtain ⟨x',A',k2,c2',ng',rfl,_,_,_⟩:=hv.form
       have kC4:=(kC2.below hb3 kC2.lt).below hb4 (kC2.below hb3 kC2.lt).lt
       have hW4:=ext (ext hW2 hb3) hb4
       have c0:=kC4.cell 0
       have c1:=kC4.cell 1
       have c2:=kC4.cell 2
       have f0:=kC4.frozen 0
       have f1:=kC4.frozen 1
       have f2:=kC4.frozen 2
       simp at c0 c1 c2
       go_wp2
       have kD:=num_blk (x:=x') (A:=A') (k:=k2) (c:=c2') (ng:=ng') kC4
       have d0:=kD.cell 0
       have d1:=kD.cell 1
       have d2:=kD.cell 2
       simp at d0 d1 d2
       refine bodyPost_ret (v:=.agg #[.int .i64 x',.slice A' k2 c2',.bool ng']) (by simp [results,Tryz.results85,go_sem,d0,d1,d2]) rfl ?_
       exact ⟨_,rfl,num_stored (by rw [add_lt hst (Nat.le_of_lt hlt)];exact hv) kC4,num_below hW4 (by omega)⟩
     · have hc:cmpOf (n:Int) (m:Int)=0:=by unfold cmpOf;rw [if_neg (by omega),if_neg (by omega)]
       rw [hc]
       clear hc
       go_wp2_with fail
       refine (nat_sub p p' n m w2 hp2 hp' HLN.out (Nat.le_of_eq hlt.symm)).mono ?_
       rintro e w3 ⟨q,rfl,hq,hb3⟩
       go_wp2_with fail
       refine (made_any s q (n - m) w3 hq).mono ?_
       rintro e w4 ⟨v,rfl,hv,hb4⟩
       obtain ⟨x',A',k2,c2',ng',rfl,_,_,_⟩:=hv.form
       have kC4:=(kC2.below hb3 kC2.lt).below hb4 (kC2.below hb3 kC2.lt).lt
       have hW4:=ext (ext hW2 hb3) hb4
       have c0:=kC4.cell 0
       have c1:=kC4.cell 1
       have c2:=kC4.cell 2
       have f0:=kC4.frozen 0
       have f1:=kC4.frozen 1
       have f2:=kC4.frozen 2
       simp at c0 c1 c2
       go_wp2
       have kD:=num_blk (x:=x') (A:=A') (k:=k2) (c:=c2') (ng:=ng') kC4
       have d0:=kD.cell 0
       have d1:=kD.cell 1
       have d2:=kD.cell 2
       simp at d0 d1 d2
       refine bodyPost_ret (v:=.agg #[.int .i64 x',.slice A' k2 c2',.bool ng']) (by simp [results,Tryz.results85,go_sem,d0,d1,d2]) rfl ?_
       exact ⟨_,rfl,num_stored (by rw [add_ge hst (Nat.le_of_eq hlt.symm)];exact hv) kC4,num_below hW4 (by omega)⟩
     · have hc:cmpOf (n:Int) (m:Int)=1:=by unfold cmpOf;rw [if_neg (by omega),if_pos (by omega)]
       rw [hc]
       clear hc
       go_wp2_with fail
       refine (nat_sub p p' n m w2 hp2 hp' HLN.out (Nat.le_of_lt hlt)).mono ?_
       rintro e w3 ⟨q,rfl,hq,hb3⟩
       go_wp2_with fail
       refine (made_any s q (n - m) w3 hq).mono ?_
       rintro e w4 ⟨v,rfl,hv,hb4⟩
       obtain ⟨x',A',k2,c2',ng',rfl,_,_,_⟩:=hv.form
       have kC4:=(kC2.below hb3 kC2.lt).below hb4 (kC2.below hb3 kC2.lt).lt
       have hW4:=ext (ext hW2 hb3) hb4
       have c0:=kC4.cell 0
       have c1:=kC4.cell 1
       have c2:=kC4.cell 2
       have f0:=kC4.frozen 0
       have f1:=kC4.frozen 1
       have f2:=kC4.frozen 2
       simp at c0 c1 c2
       go_wp2
       have kD:=num_blk (x:=x') (A:=A') (k:=k2) (c:=c2') (ng:=ng') kC4
       have d0:=kD.cell 0
       have d1:=kD.cell 1
       have d2:=kD.cell 2
       simp at d0 d1 d2
       refine bodyPost_ret (v:=.agg #[.int .i64 x',.slice A' k2 c2',.bool ng']) (by simp [results,Tryz.results85,go_sem,d0,d1,d2]) rfl ?_
       exact ⟨_,rfl,num_stored (by rw [add_ge hst (Nat.le_of_lt hlt)];exact hv) kC4,num_below hW4 (by omega)⟩
 · subst h h'
   have d1:decide ((x+y:Int)> -4611686018427387904)=false:=decide_eq_false (by omega)
   clear h5
   go_enter Tryz.func85,Tryz.ntmps85
   go_wp2_with fail
   have hW:=(ext (ext (ext_alloc w (.cells #[.int .i64 x,.slice none k c,.bool a] 65)) (ext_alloc _ (.cells #[.int .i64 y,.slice none k' c',.bool b] 65))) (ext_alloc _ (.cells #[.int .i64 0,.slice none 0 0,.bool false] 65)))
   have hA:=ha.below hW
   have hB:=hb.below hW
   have kB:=(Blk.new (w.alloc (.cells #[.int .i64 x,.slice none k c,.bool a] 65)) 65 #[.int .i64 y,.slice none k' c',.bool b]).alloc (.cells #[.int .i64 0,.slice none 0 0,.bool false] 65)
   have kC:=Blk.new ((w.alloc (.cells #[.int .i64 x,.slice none k c,.bool a] 65)).alloc (.cells #[.int .i64 y,.slice none k' c',.bool b] 65)) 65 #[.int .i64 0,.slice none 0 0,.bool false]
   simp only [World.size_alloc] at kB kC
   generalize ((w.alloc (.cells #[.int .i64 x,.slice none k c,.bool a] 65)).alloc (.cells #[.int .i64 y,.slice none k' c',.bool b] 65)).alloc (.cells #[.int .i64 0,.slice none 0 0,.bool false] 65)=W at hA hB kB kC hW ⊢
   refine (parts_s _ s n W hA hs).mono ?_
   rintro e w1 ⟨p,rfl,hp,hb1⟩
   have kB1:=kB.below hb1 kB.lt
   have c0:=kB1.cell 0
   have c1:=kB1.cell 1
   have c2:=kB1.cell 2
   simp at c0 c1 c2
   go_wp2_with fail
   refine (parts_s _ t m w1 (hB.below hb1) ht).mono ?_
   rintro e w2 ⟨p',rfl,hp',hb2⟩
   have hp2:=hp.below hb2
   have kC2:=(kC.below hb1 kC.lt).below hb2 (kC.below hb1 kC.lt).lt
   have hW2:=ext (ext hW hb1) hb2
   clear hb1 hb2 hW kC kB kB1 c0 c1 c2 hA hB hp
   by_cases hst:s=t
   · subst hst
     go_wp2_with fail
     refine (nat_add p p' n m w2 hp2 hp' HLN.out HLM.out).mono ?_
     rintro e w3 ⟨q,rfl,hq,hb3⟩
     go_wp2_with fail
     refine (made_any s q (n+m) w3 hq).mono ?_
     rintro e w4 ⟨v,rfl,hv,hb4⟩
     obtain ⟨x',A',k2,c2',ng',rfl,_,_,_⟩:=hv.form
     have kC4:=(kC2.below hb3 kC2.lt).below hb4 (kC2.below hb3 kC2.lt).lt
     have hW4:=ext (ext hW2 hb3) hb4
     have c0:=kC4.cell 0
     have c1:=kC4.cell 1
     have c2:=kC4.cell 2
     have f0:=kC4.frozen 0
     have f1:=kC4.frozen 1
     have f2:=kC4.frozen 2
     simp at c0 c1 c2
     go_wp2
     have kD:=num_blk (x:=x') (A:=A') (k:=k2) (c:=c2') (ng:=ng') kC4
     have d0:=kD.cell 0
     have d1:=kD.cell 1
     have d2:=kD.cell 2
     simp at d0 d1 d2
     refine bodyPost_ret (v:=.agg #[.int .i64 x',.slice A' k2 c2',.bool ng']) (by simp [results,Tryz.results85,go_sem,d0,d1,d2]) rfl ?_
     exact ⟨_,rfl,num_stored (by rw [add_same];exact hv) kC4,num_below hW4 (by omega)⟩
   · have hst' :(s == t)=false:=beq_eq_false_iff_ne.2 hst
     go_wp2_with fail
     refine (nat_cmp p p' n m w2 hp2 hp' HLN.out HLM.out).mono ?_
     rintro e w3 ⟨rfl,r,rfl⟩
     have hp3:=hp2.below (ext_drewN w2 r)
     have hp4:=hp'.below (ext_drewN w2 r)
     have kC3:=kC2.drewN r
     have hW3:=below_drewN hW2 r
     clear hp2 hp' kC2 hW2
     generalize w2.drewN r=w2 at hp3 hp4 kC3 hW3 ⊢
     have hp2:=hp3
     have hp' :=hp4
     have kC2:=kC3
     have hW2:=hW3
     rcases Nat.lt_trichotomy n m with hlt | hlt | hlt
     · have hc:cmpOf (n:Int) (m:Int)= -1:=by unfold cmpOf;rw [if_pos (by omega)]
       rw [hc]
       clear hc
       go_wp2_with fail
       refine (nat_sub p' p m n w2 hp' hp2 HLM.out (Nat.le_of_lt hlt)).mono ?_
       rintro e w3 ⟨q,rfl,hq,hb3⟩
       go_wp2_with fail
       refine (made_any t q (m - n) w3 hq).mono ?_
       rintro e w4 ⟨v,rfl,hv,hb4⟩
       obtain ⟨x',A',k2,c2',ng',rfl,_,_,_⟩:=hv.form
       have kC4:=(kC2.below hb3 kC2.lt).below hb4 (kC2.below hb3 kC2.lt).lt
       have hW4:=ext (ext hW2 hb3) hb4
       have c0:=kC4.cell 0
       have c1:=kC4.cell 1
       have c2:=kC4.cell 2
       have f0:=kC4.frozen 0
       have f1:=kC4.frozen 1
       have f2:=kC4.frozen 2
       simp at c0 c1 c2
       go_wp2
       have kD:=num_blk (x:=x') (A:=A') (k:=k2) (c:=c2') (ng:=ng') kC4
       have d0:=kD.cell 0
       have d1:=kD.cell 1
       have d2:=kD.cell 2
       simp at d0 d1 d2
       refine bodyPost_ret (v:=.agg #[.int .i64 x',.slice A' k2 c2',.bool ng']) (by simp [results,Tryz.results85,go_sem,d0,d1,d2]) rfl ?_
       exact ⟨_,rfl,num_stored (by rw [add_lt hst (Nat.le_of_lt hlt)];exact hv) kC4,num_below hW4 (by omega)⟩
     · have hc:cmpOf (n:Int) (m:Int)=0:=by unfold cmpOf;rw [if_neg (by omega),if_neg (by omega)]
       rw [hc]
       clear hc
       go_wp2_with fail
       refine (nat_sub p p' n m w2 hp2 hp' HLN.out (Nat.le_of_eq hlt.symm)).mono ?_
       rintro e w3 ⟨q,rfl,hq,hb3⟩
       go_wp2_with fail
       refine (made_any s q (n - m) w3 hq).mono ?_
       rintro e w4 ⟨v,rfl,hv,hb4⟩
       obtain ⟨x',A',k2,c2',ng',rfl,_,_,_⟩:=hv.form
       have kC4:=(kC2.below hb3 kC2.lt).below hb4 (kC2.below hb3 kC2.lt).lt
       have hW4:=ext (ext hW2 hb3) hb4
       have c0:=kC4.cell 0
       have c1:=kC4.cell 1
       have c2:=kC4.cell 2
       have f0:=kC4.frozen 0
       have f1:=kC4.frozen 1
       have f2:=kC4.frozen 2
       simp at c0 c1 c2
       go_wp2
       have kD:=num_blk (x:=x') (A:=A') (k:=k2) (c:=c2') (ng:=ng') kC4
       have d0:=kD.cell 0
       have d1:=kD.cell 1
       have d2:=kD.cell 2
       simp at d0 d1 d2
       refine bodyPost_ret (v:=.agg #[.int .i64 x',.slice A' k2 c2',.bool ng']) (by simp [results,Tryz.results85,go_sem,d0,d1,d2]) rfl ?_
       exact ⟨_,rfl,num_stored (by rw [add_ge hst (Nat.le_of_eq hlt.symm)];exact hv) kC4,num_below hW4 (by omega)⟩
     · have hc:cmpOf (n:Int) (m:Int)=1:=by unfold cmpOf;rw [if_neg (by omega),if_pos (by omega)]
       rw [hc]
       clear hc
       go_wp2_with fail
       refine (nat_sub p p' n m w2 hp2 hp' HLN.out (Nat.le_of_lt hlt)).mono ?_
       rintro e w3 ⟨q,rfl,hq,hb3⟩
       go_wp2_with fail
       refine (made_any s q (n - m) w3 hq).mono ?_
       rintro e w4 ⟨v,rfl,hv,hb4⟩
       obtain ⟨x',A',k2,c2',ng',rfl,_,_,_⟩:=hv.form
       have kC4:=(kC2.below hb3 kC2.lt).below hb4 (kC2.below hb3 kC2.lt).lt
       have hW4:=ext (ext hW2 hb3) hb4
       have c0:=kC4.cell 0
       have c1:=kC4.cell 1
       have c2:=kC4.cell 2
       have f0:=kC4.frozen 0
       have f1:=kC4.frozen 1
       have f2:=kC4.frozen 2
       simp at c0 c1 c2
       go_wp2
       have kD:=num_blk (x:=x') (A:=A') (k:=k2) (c:=c2') (ng:=ng') kC4
       have d0:=kD.cell 0
       have d1:=kD.cell 1
       have d2:=kD.cell 2
       simp at d0 d1 d2
       refine bodyPost_ret (v:=.agg #[.int .i64 x',.slice A' k2 c2',.bool ng']) (by simp [results,Tryz.results85,go_sem,d0,d1,d2]) rfl ?_
       exact ⟨_,rfl,num_stored (by rw [add_ge hst (Nat.le_of_lt hlt)];exact hv) kC4,num_below hW4 (by omega)⟩
end Go.Proofs.YtnmkalocbfdecaaGreatDoor
namespace Go.Proofs.YtnmkalocbfdecaaGreatDoor
open Go.RowKit Go.Deep
theorem signed_pos {z:Int}:decide (z<0)=true → 0<z.natAbs:=by
 intro h
 have:=of_decide_eq_true h
 omega
theorem add_any (va vb:Value) (z y:Int) (w:World) (ha:NumIs w va z) (hb:NumIs w vb y) (hla:len 4294967296 z.natAbs ≤ 67108864) (hlb:len 4294967296 y.natAbs ≤ 67108864):
 Calls Tryz.prog 85 #[va,vb] w (NewNum w (z+y)):=by
 have ha' :=ha
 have hb' :=hb
 obtain ⟨x1,A,k,c,s,rfl,h1,h2,hA⟩:=ha.form
 obtain ⟨y1,B,k',c',t,rfl,h3,h4,hB⟩:=hb.form
 by_cases hf:A=none ∧ B=none ∧ -4611686018427387904<x1+y1 ∧ x1+y1<4611686018427387904
 · obtain ⟨e1,e2,h5,h6⟩:=hf
   obtain ⟨rfl,rfl,rfl⟩:=hA e1
   obtain ⟨rfl,rfl,rfl⟩:=hB e2
   subst e1 e2
   exact add_fast z y s t w h1 h2 h3 h4 h5 h6
 · have:=add_slow (decide (z<0)) (decide (y<0)) z.natAbs y.natAbs x1 y1 A B k c k' c' s t w h1 h2 h3 h4 (by rw [signed_abs];exact ha') (by rw [signed_abs];exact hb') signed_pos signed_pos hla hlb (by
    unfold AddSlow
    by_cases e1:A=none
    · by_cases e2:B=none
      · have:¬ (-4611686018427387904<x1+y1 ∧ x1+y1<4611686018427387904):=fun h=>hf ⟨e1,e2,h⟩
        rcases (show -4611686018427387904<x1+y1 ∨ x1+y1 ≤ -4611686018427387904 by omega) with h | h
        · exact .inr (.inr (.inl ⟨e1,e2,by omega⟩))
        · exact .inr (.inr (.inr ⟨e1,e2,by omega⟩))
      · exact .inr (.inl ⟨e1,e2⟩)
    · exact .inl e1)
   rwa [signed_abs,signed_abs] at this
theorem mul_signed (s t:Bool) (n m:Nat):signed s n*signed t m=signed (s != t) (n*m):=by
 cases s<;>cases t<;>unfold signed<;>simp [Int.neg_mul,Int.mul_neg,Int.natCast_mul]
theorem hid_blk {w w' :World} {g:Nat} {t:TypeId} {cs:Array Value} (hb:Below w.heap.size w w') (h:Hid (Blk w g t cs)):Hid (Blk w' g t cs):=h.out.below hb h.out.lt
set_option maxRecDepth 100000 in
set_option maxHeartbeats 4000000 in
theorem mul_fast (x y:Int) (a b:Bool) (P:Nat) (w:World) (h1: -4611686018427387904<x) (h2:x<4611686018427387904) (h3: -4611686018427387904<y) (h4:y<4611686018427387904) (hP:P=x.natAbs*y.natAbs) (hP2:P<4611686018427387904):
 Calls Tryz.prog 84 #[.agg #[.int .i64 x,.slice none 0 0,.bool a],.agg #[.int .i64 y,.slice none 0 0,.bool b]] w (NewNum w (x*y)):=by
 have q0:=fun w=>eqlN w none 0 0 0 0
 have hx:=fun w=>size_any x (.slice none 0 0) a w h1 h2
 have hy:=fun w=>size_any y (.slice none 0 0) b w h3 h4
 have hm:=fun w=>mul64_any x.natAbs y.natAbs (by omega) (by omega) w
 rw [← hP,Nat.div_eq_of_lt (by omega),Nat.mod_eq_of_lt (by omega)] at hm
 have hz:x*y=signed (decide (x<0) != decide (y<0)) P:=by rw [hP, ← mul_signed,signed_abs,signed_abs]
 rw [hz]
 clear hz hP h1 h2 h3 h4
 have hPI:decide ((P:Int)<4611686018427387904)=true:=decide_eq_true (by omega)
 have HP2:=hide hP2
 have hPJ:(P:Int)<4611686018427387904:=by omega
 clear hP2
 have hn0:=Int.natCast_nonneg P
 rcases (show x<0 ∨ ¬ x<0 by omega) with hX | hX
 · rcases (show y<0 ∨ ¬ y<0 by omega) with hY | hY
   · have hsg:(decide (x<0) != decide (y<0))=false:=by rw [decide_eq_true hX,decide_eq_true hY];rfl
     rw [hsg]
     clear hsg
     have hXD:decide (x<0)=true:=decide_eq_true hX
     have hYD:decide (y<0)=true:=decide_eq_true hY
     have hW:=(ext (ext (ext_alloc w (.cells #[.int .i64 x,.slice none 0 0,.bool a] 65)) (ext_alloc _ (.cells #[.int .i64 y,.slice none 0 0,.bool b] 65))) (ext_alloc _ (.cells #[.int .i64 0,.slice none 0 0,.bool false] 65)))
     have kB:=(Blk.new (w.alloc (.cells #[.int .i64 x,.slice none 0 0,.bool a] 65)) 65 #[.int .i64 y,.slice none 0 0,.bool b]).alloc (.cells #[.int .i64 0,.slice none 0 0,.bool false] 65)
     have kC:=Blk.new ((w.alloc (.cells #[.int .i64 x,.slice none 0 0,.bool a] 65)).alloc (.cells #[.int .i64 y,.slice none 0 0,.bool b] 65)) 65 #[.int .i64 0,.slice none 0 0,.bool false]
     simp only [World.size_alloc] at kB kC
     go_enter Tryz.func84,Tryz.ntmps84
     go_wp2_with fail
     go_region_held3 (fun w' =>w'.cell? ⟨w.heap.size,0,none⟩=some (.int .i64 x) ∧ w'.cell? ⟨w.heap.size,1,none⟩=some (.slice none 0 0) ∧ w'.cell? ⟨w.heap.size,2,none⟩=some (.bool a) ∧
      w'.cell? ⟨w.heap.size+1,0,none⟩=some (.int .i64 y) ∧ w'.cell? ⟨w.heap.size+1,1,none⟩=some (.slice none 0 0) ∧ w'.cell? ⟨w.heap.size+1,2,none⟩=some (.bool b) ∧
      w.heap.size<w'.heap.size ∧ w.heap.size+1<w'.heap.size ∧ Hid (Blk w' (w.heap.size+1) 65 #[.int .i64 y,.slice none 0 0,.bool b]) ∧ Hid (Blk w' (w.heap.size+1+1) 65 #[.int .i64 0,.slice none 0 0,.bool false]) ∧ Hid (Below w.heap.size w w'))
      (first
        | exact ⟨by go_keep,by go_keep,by go_keep,by go_keep,by go_keep,by go_keep,by simp;omega,by simp,hide (kB.drewN 1),hide (kC.drewN 1),hide (below_drewN hW 1)⟩
        | go_keep
        | (go_split_ands;exact ⟨cell_keep (by assumption) (by assumption) (by assumption),cell_keep (by assumption) (by assumption) (by assumption),cell_keep (by assumption) (by assumption) (by assumption),cell_keep (by assumption) (by assumption) (by assumption),cell_keep (by assumption) (by assumption) (by assumption),cell_keep (by assumption) (by assumption) (by assumption),size_keep (by assumption) (by assumption),size_keep (by assumption) (by assumption),hid_blk (by assumption) (by assumption),hid_blk (by assumption) (by assumption),hid_below (by assumption) (by assumption)⟩))
      (first
        | (go_at_call_of 108 (Value.agg #[Value.int .i64 x,.slice none 0 0,.bool a]);refine (hx _).mono ?_;rintro e w1 ⟨rfl,hb1⟩)
        | (go_at_call_of 108 (Value.agg #[Value.int .i64 y,.slice none 0 0,.bool b]);refine (hy _).mono ?_;rintro e w1 ⟨rfl,hb1⟩)
        | (go_at_call 143;refine (hm _).mono ?_;rintro e w1 ⟨rfl,rfl⟩))
     go_split_ands
     have kC4:=unhide (by assumption:Hid (Blk _ (w.heap.size+1+1) _ _))
     have c0:=kC4.cell 0
     have c1:=kC4.cell 1
     have c2:=kC4.cell 2
     have f0:=kC4.frozen 0
     have f1:=kC4.frozen 1
     have f2:=kC4.frozen 2
     simp at c0 c1 c2
     go_wp2
     have kD:=num_blk (x:=P) (A:=none) (k:=0) (c:=0) (ng:=false) kC4
     have d0:=kD.cell 0
     have d1:=kD.cell 1
     have d2:=kD.cell 2
     simp at d0 d1 d2
     refine bodyPost_ret (v:=.agg #[.int .i64 (P),.slice none 0 0,.bool false]) (by simp [results,Tryz.results84,go_sem,d0,d1,d2]) rfl ?_
     exact ⟨_,rfl,.inl ⟨_,_,rfl,by have:=HP2.out;omega,by have:=HP2.out;omega,rfl⟩,num_below (unhide (by assumption)) (by omega)⟩
   · have hsg:(decide (x<0) != decide (y<0))=true:=by rw [decide_eq_true hX,decide_eq_false hY];rfl
     rw [hsg]
     clear hsg
     have hXD:decide (x<0)=true:=decide_eq_true hX
     have hYD:decide (y<0)=false:=decide_eq_false hY
     have hW:=(ext (ext (ext_alloc w (.cells #[.int .i64 x,.slice none 0 0,.bool a] 65)) (ext_alloc _ (.cells #[.int .i64 y,.slice none 0 0,.bool b] 65))) (ext_alloc _ (.cells #[.int .i64 0,.slice none 0 0,.bool false] 65)))
     have kB:=(Blk.new (w.alloc (.cells #[.int .i64 x,.slice none 0 0,.bool a] 65)) 65 #[.int .i64 y,.slice none 0 0,.bool b]).alloc (.cells #[.int .i64 0,.slice none 0 0,.bool false] 65)
     have kC:=Blk.new ((w.alloc (.cells #[.int .i64 x,.slice none 0 0,.bool a] 65)).alloc (.cells #[.int .i64 y,.slice none 0 0,.bool b] 65)) 65 #[.int .i64 0,.slice none 0 0,.bool false]
     simp only [World.size_alloc] at kB kC
     go_enter Tryz.func84,Tryz.ntmps84
     go_wp2_with fail
     go_region_held3 (fun w' =>w'.cell? ⟨w.heap.size,0,none⟩=some (.int .i64 x) ∧ w'.cell? ⟨w.heap.size,1,none⟩=some (.slice none 0 0) ∧ w'.cell? ⟨w.heap.size,2,none⟩=some (.bool a) ∧
      w'.cell? ⟨w.heap.size+1,0,none⟩=some (.int .i64 y) ∧ w'.cell? ⟨w.heap.size+1,1,none⟩=some (.slice none 0 0) ∧ w'.cell? ⟨w.heap.size+1,2,none⟩=some (.bool b) ∧
      w.heap.size<w'.heap.size ∧ w.heap.size+1<w'.heap.size ∧ Hid (Blk w' (w.heap.size+1) 65 #[.int .i64 y,.slice none 0 0,.bool b]) ∧ Hid (Blk w' (w.heap.size+1+1) 65 #[.int .i64 0,.slice none 0 0,.bool false]) ∧ Hid (Below w.heap.size w w'))
      (first
        | exact ⟨by go_keep,by go_keep,by go_keep,by go_keep,by go_keep,by go_keep,by simp;omega,by simp,hide (kB.drewN 1),hide (kC.drewN 1),hide (below_drewN hW 1)⟩
        | go_keep
        | (go_split_ands;exact ⟨cell_keep (by assumption) (by assumption) (by assumption),cell_keep (by assumption) (by assumption) (by assumption),cell_keep (by assumption) (by assumption) (by assumption),cell_keep (by assumption) (by assumption) (by assumption),cell_keep (by assumption) (by assumption) (by assumption),cell_keep (by assumption) (by assumption) (by assumption),size_keep (by assumption) (by assumption),size_keep (by assumption) (by assumption),hid_blk (by assumption) (by assumption),hid_blk (by assumption) (by assumption),hid_below (by assumption) (by assumption)⟩))
      (first
        | (go_at_call_of 108 (Value.agg #[Value.int .i64 x,.slice none 0 0,.bool a]);refine (hx _).mono ?_;rintro e w1 ⟨rfl,hb1⟩)
        | (go_at_call_of 108 (Value.agg #[Value.int .i64 y,.slice none 0 0,.bool b]);refine (hy _).mono ?_;rintro e w1 ⟨rfl,hb1⟩)
        | (go_at_call 143;refine (hm _).mono ?_;rintro e w1 ⟨rfl,rfl⟩))
     go_split_ands
     have kC4:=unhide (by assumption:Hid (Blk _ (w.heap.size+1+1) _ _))
     have c0:=kC4.cell 0
     have c1:=kC4.cell 1
     have c2:=kC4.cell 2
     have f0:=kC4.frozen 0
     have f1:=kC4.frozen 1
     have f2:=kC4.frozen 2
     simp at c0 c1 c2
     go_wp2
     have kD:=num_blk (x:= -P) (A:=none) (k:=0) (c:=0) (ng:=false) kC4
     have d0:=kD.cell 0
     have d1:=kD.cell 1
     have d2:=kD.cell 2
     simp at d0 d1 d2
     refine bodyPost_ret (v:=.agg #[.int .i64 (-P),.slice none 0 0,.bool false]) (by simp [results,Tryz.results84,go_sem,d0,d1,d2]) rfl ?_
     exact ⟨_,rfl,.inl ⟨_,_,rfl,by have:=HP2.out;omega,by have:=HP2.out;omega,rfl⟩,num_below (unhide (by assumption)) (by omega)⟩
 · rcases (show y<0 ∨ ¬ y<0 by omega) with hY | hY
   · have hsg:(decide (x<0) != decide (y<0))=true:=by rw [decide_eq_false hX,decide_eq_true hY];rfl
     rw [hsg]
     clear hsg
     have hXD:decide (x<0)=false:=decide_eq_false hX
     have hYD:decide (y<0)=true:=decide_eq_true hY
     have hW:=(ext (ext (ext_alloc w (.cells #[.int .i64 x,.slice none 0 0,.bool a] 65)) (ext_alloc _ (.cells #[.int .i64 y,.slice none 0 0,.bool b] 65))) (ext_alloc _ (.cells #[.int .i64 0,.slice none 0 0,.bool false] 65)))
     have kB:=(Blk.new (w.alloc (.cells #[.int .i64 x,.slice none 0 0,.bool a] 65)) 65 #[.int .i64 y,.slice none 0 0,.bool b]).alloc (.cells #[.int .i64 0,.slice none 0 0,.bool false] 65)
     have kC:=Blk.new ((w.alloc (.cells #[.int .i64 x,.slice none 0 0,.bool a] 65)).alloc (.cells #[.int .i64 y,.slice none 0 0,.bool b] 65)) 65 #[.int .i64 0,.slice none 0 0,.bool false]
     simp only [World.size_alloc] at kB kC
     go_enter Tryz.func84,Tryz.ntmps84
     go_wp2_with fail
     go_region_held3 (fun w' =>w'.cell? ⟨w.heap.size,0,none⟩=some (.int .i64 x) ∧ w'.cell? ⟨w.heap.size,1,none⟩=some (.slice none 0 0) ∧ w'.cell? ⟨w.heap.size,2,none⟩=some (.bool a) ∧
      w'.cell? ⟨w.heap.size+1,0,none⟩=some (.int .i64 y) ∧ w'.cell? ⟨w.heap.size+1,1,none⟩=some (.slice none 0 0) ∧ w'.cell? ⟨w.heap.size+1,2,none⟩=some (.bool b) ∧
      w.heap.size<w'.heap.size ∧ w.heap.size+1<w'.heap.size ∧ Hid (Blk w' (w.heap.size+1) 65 #[.int .i64 y,.slice none 0 0,.bool b]) ∧ Hid (Blk w' (w.heap.size+1+1) 65 #[.int .i64 0,.slice none 0 0,.bool false]) ∧ Hid (Below w.heap.size w w'))
      (first
        | exact ⟨by go_keep,by go_keep,by go_keep,by go_keep,by go_keep,by go_keep,by simp;omega,by simp,hide (kB.drewN 1),hide (kC.drewN 1),hide (below_drewN hW 1)⟩
        | go_keep
        | (go_split_ands;exact ⟨cell_keep (by assumption) (by assumption) (by assumption),cell_keep (by assumption) (by assumption) (by assumption),cell_keep (by assumption) (by assumption) (by assumption),cell_keep (by assumption) (by assumption) (by assumption),cell_keep (by assumption) (by assumption) (by assumption),cell_keep (by assumption) (by assumption) (by assumption),size_keep (by assumption) (by assumption),size_keep (by assumption) (by assumption),hid_blk (by assumption) (by assumption),hid_blk (by assumption) (by assumption),hid_below (by assumption) (by assumption)⟩))
      (first
        | (go_at_call_of 108 (Value.agg #[Value.int .i64 x,.slice none 0 0,.bool a]);refine (hx _).mono ?_;rintro e w1 ⟨rfl,hb1⟩)
        | (go_at_call_of 108 (Value.agg #[Value.int .i64 y,.slice none 0 0,.bool b]);refine (hy _).mono ?_;rintro e w1 ⟨rfl,hb1⟩)
        | (go_at_call 143;refine (hm _).mono ?_;rintro e w1 ⟨rfl,rfl⟩))
     go_split_ands
     have kC4:=unhide (by assumption:Hid (Blk _ (w.heap.size+1+1) _ _))
     have c0:=kC4.cell 0
     have c1:=kC4.cell 1
     have c2:=kC4.cell 2
     have f0:=kC4.frozen 0
     have f1:=kC4.frozen 1
     have f2:=kC4.frozen 2
     simp at c0 c1 c2
     go_wp2
     have kD:=num_blk (x:= -P) (A:=none) (k:=0) (c:=0) (ng:=false) kC4
     have d0:=kD.cell 0
     have d1:=kD.cell 1
     have d2:=kD.cell 2
     simp at d0 d1 d2
     refine bodyPost_ret (v:=.agg #[.int .i64 (-P),.slice none 0 0,.bool false]) (by simp [results,Tryz.results84,go_sem,d0,d1,d2]) rfl ?_
     exact ⟨_,rfl,.inl ⟨_,_,rfl,by have:=HP2.out;omega,by have:=HP2.out;omega,rfl⟩,num_below (unhide (by assumption)) (by omega)⟩
   · have hsg:(decide (x<0) != decide (y<0))=false:=by rw [decide_eq_false hX,decide_eq_false hY];rfl
     rw [hsg]
     clear hsg
     have hXD:decide (x<0)=false:=decide_eq_false hX
     have hYD:decide (y<0)=false:=decide_eq_false hY
     have hW:=(ext (ext (ext_alloc w (.cells #[.int .i64 x,.slice none 0 0,.bool a] 65)) (ext_alloc _ (.cells #[.int .i64 y,.slice none 0 0,.bool b] 65))) (ext_alloc _ (.cells #[.int .i64 0,.slice none 0 0,.bool false] 65)))
     have kB:=(Blk.new (w.alloc (.cells #[.int .i64 x,.slice none 0 0,.bool a] 65)) 65 #[.int .i64 y,.slice none 0 0,.bool b]).alloc (.cells #[.int .i64 0,.slice none 0 0,.bool false] 65)
     have kC:=Blk.new ((w.alloc (.cells #[.int .i64 x,.slice none 0 0,.bool a] 65)).alloc (.cells #[.int .i64 y,.slice none 0 0,.bool b] 65)) 65 #[.int .i64 0,.slice none 0 0,.bool false]
     simp only [World.size_alloc] at kB kC
     go_enter Tryz.func84,Tryz.ntmps84
     go_wp2_with fail
     go_region_held3 (fun w' =>w'.cell? ⟨w.heap.size,0,none⟩=some (.int .i64 x) ∧ w'.cell? ⟨w.heap.size,1,none⟩=some (.slice none 0 0) ∧ w'.cell? ⟨w.heap.size,2,none⟩=some (.bool a) ∧
      w'.cell? ⟨w.heap.size+1,0,none⟩=some (.int .i64 y) ∧ w'.cell? ⟨w.heap.size+1,1,none⟩=some (.slice none 0 0) ∧ w'.cell? ⟨w.heap.size+1,2,none⟩=some (.bool b) ∧
      w.heap.size<w'.heap.size ∧ w.heap.size+1<w'.heap.size ∧ Hid (Blk w' (w.heap.size+1) 65 #[.int .i64 y,.slice none 0 0,.bool b]) ∧ Hid (Blk w' (w.heap.size+1+1) 65 #[.int .i64 0,.slice none 0 0,.bool false]) ∧ Hid (Below w.heap.size w w'))
      (first
        | exact ⟨by go_keep,by go_keep,by go_keep,by go_keep,by go_keep,by go_keep,by simp;omega,by simp,hide (kB.drewN 1),hide (kC.drewN 1),hide (below_drewN hW 1)⟩
        | go_keep
        | (go_split_ands;exact ⟨cell_keep (by assumption) (by assumption) (by assumption),cell_keep (by assumption) (by assumption) (by assumption),cell_keep (by assumption) (by assumption) (by assumption),cell_keep (by assumption) (by assumption) (by assumption),cell_keep (by assumption) (by assumption) (by assumption),cell_keep (by assumption) (by assumption) (by assumption),size_keep (by assumption) (by assumption),size_keep (by assumption) (by assumption),hid_blk (by assumption) (by assumption),hid_blk (by assumption) (by assumption),hid_below (by assumption) (by assumption)⟩))
      (first
        | (go_at_call_of 108 (Value.agg #[Value.int .i64 x,.slice none 0 0,.bool a]);refine (hx _).mono ?_;rintro e w1 ⟨rfl,hb1⟩)
        | (go_at_call_of 108 (Value.agg #[Value.int .i64 y,.slice none 0 0,.bool b]);refine (hy _).mono ?_;rintro e w1 ⟨rfl,hb1⟩)
        | (go_at_call 143;refine (hm _).mono ?_;rintro e w1 ⟨rfl,rfl⟩))
     go_split_ands
     have kC4:=unhide (by assumption:Hid (Blk _ (w.heap.size+1+1) _ _))
     have c0:=kC4.cell 0
     have c1:=kC4.cell 1
     have c2:=kC4.cell 2
     have f0:=kC4.frozen 0
     have f1:=kC4.frozen 1
     have f2:=kC4.frozen 2
     simp at c0 c1 c2
     go_wp2
     have kD:=num_blk (x:=P) (A:=none) (k:=0) (c:=0) (ng:=false) kC4
     have d0:=kD.cell 0
     have d1:=kD.cell 1
     have d2:=kD.cell 2
     simp at d0 d1 d2
     refine bodyPost_ret (v:=.agg #[.int .i64 (P),.slice none 0 0,.bool false]) (by simp [results,Tryz.results84,go_sem,d0,d1,d2]) rfl ?_
     exact ⟨_,rfl,.inl ⟨_,_,rfl,by have:=HP2.out;omega,by have:=HP2.out;omega,rfl⟩,num_below (unhide (by assumption)) (by omega)⟩
def MulSlow (x y:Int) (A B:Option Addr):Prop:=A≠none ∨ (A=none ∧ B≠none) ∨ (A=none ∧ B=none ∧ 4611686018427387904 ≤ x.natAbs*y.natAbs)
set_option maxRecDepth 100000 in
set_option maxHeartbeats 4000000 in
theorem mul_slow (s t:Bool) (n m:Nat) (x y:Int) (A B:Option Addr) (k c k' c' :Nat) (a b:Bool) (w:World) (h1: -4611686018427387904<x) (h2:x<4611686018427387904) (h3: -4611686018427387904<y) (h4:y<4611686018427387904)
 (hA0:A=none → k=0 ∧ c=0) (hB0:B=none → k' =0 ∧ c' =0)
 (ha:NumIs w (.agg #[.int .i64 x,.slice A k c,.bool a]) (signed s n)) (hb:NumIs w (.agg #[.int .i64 y,.slice B k' c',.bool b]) (signed t m)) (hs:s=true → 0<n) (ht:t=true → 0<m)
 (hln:len 4294967296 n ≤ 67108864) (hlm:len 4294967296 m ≤ 67108864) (hsl:MulSlow x y A B):
 Calls Tryz.prog 84 #[.agg #[.int .i64 x,.slice A k c,.bool a],.agg #[.int .i64 y,.slice B k' c',.bool b]] w (NewNum w (signed s n*signed t m)):=by
 have q1:=fun w=>eqlN w A k c 0 0
 have q2:=fun w=>eqlN w B k' c' 0 0
 have HLN:=hide hln
 have HLM:=hide hlm
 clear hln hlm
 rcases hsl with h | ⟨h,h'⟩ | ⟨h,h',h5⟩
 · obtain ⟨ad,rfl⟩:=Option.ne_none_iff_exists'.1 h
   clear h
   go_enter Tryz.func84,Tryz.ntmps84
   go_wp2_with fail
   have hW:=(ext (ext (ext_alloc w (.cells #[.int .i64 x,.slice (some ad) k c,.bool a] 65)) (ext_alloc _ (.cells #[.int .i64 y,.slice B k' c',.bool b] 65))) (ext_alloc _ (.cells #[.int .i64 0,.slice none 0 0,.bool false] 65)))
   have hA:=ha.below hW
   have hB:=hb.below hW
   have kB:=(Blk.new (w.alloc (.cells #[.int .i64 x,.slice (some ad) k c,.bool a] 65)) 65 #[.int .i64 y,.slice B k' c',.bool b]).alloc (.cells #[.int .i64 0,.slice none 0 0,.bool false] 65)
   have kC:=Blk.new ((w.alloc (.cells #[.int .i64 x,.slice (some ad) k c,.bool a] 65)).alloc (.cells #[.int .i64 y,.slice B k' c',.bool b] 65)) 65 #[.int .i64 0,.slice none 0 0,.bool false]
   simp only [World.size_alloc] at kB kC
   generalize ((w.alloc (.cells #[.int .i64 x,.slice (some ad) k c,.bool a] 65)).alloc (.cells #[.int .i64 y,.slice B k' c',.bool b] 65)).alloc (.cells #[.int .i64 0,.slice none 0 0,.bool false] 65)=W at hA hB kB kC hW ⊢
   refine (parts_s _ s n W hA hs).mono ?_
   rintro e w1 ⟨p,rfl,hp,hb1⟩
   have kB1:=kB.below hb1 kB.lt
   have c0:=kB1.cell 0
   have c1:=kB1.cell 1
   have c2:=kB1.cell 2
   simp at c0 c1 c2
   go_wp2_with fail
   refine (parts_s _ t m w1 (hB.below hb1) ht).mono ?_
   rintro e w2 ⟨p',rfl,hp',hb2⟩
   have hp2:=hp.below hb2
   have kC2:=(kC.below hb1 kC.lt).below hb2 (kC.below hb1 kC.lt).lt
   have hW2:=ext (ext hW hb1) hb2
   clear hb1 hb2 hW kC kB kB1 c0 c1 c2 hA hB hp
   go_wp2_with fail
   refine (nat_mul p p' n m w2 hp2 hp' HLN.out HLM.out).mono ?_
   rintro e w3 ⟨q,rfl,hq,hb3⟩
   go_wp2_with fail
   refine (made_any (s != t) q (n*m) w3 hq).mono ?_
   rintro e w4 ⟨v,rfl,hv,hb4⟩
   obtain ⟨x',A',k2,c2',ng',rfl,_,_,_⟩:=hv.form
   have kC4:=(kC2.below hb3 kC2.lt).below hb4 (kC2.below hb3 kC2.lt).lt
   have hW4:=ext (ext hW2 hb3) hb4
   have c0:=kC4.cell 0
   have c1:=kC4.cell 1
   have c2:=kC4.cell 2
   have f0:=kC4.frozen 0
   have f1:=kC4.frozen 1
   have f2:=kC4.frozen 2
   simp at c0 c1 c2
   go_wp2
   have kD:=num_blk (x:=x') (A:=A') (k:=k2) (c:=c2') (ng:=ng') kC4
   have d0:=kD.cell 0
   have d1:=kD.cell 1
   have d2:=kD.cell 2
   simp at d0 d1 d2
   refine bodyPost_ret (v:=.agg #[.int .i64 x',.slice A' k2 c2',.bool ng']) (by simp [results,Tryz.results84,go_sem,d0,d1,d2]) rfl ?_
   exact ⟨_,rfl,num_stored (by rw [mul_signed];exact hv) kC4,num_below hW4 (by omega)⟩
 · obtain ⟨bd,rfl⟩:=Option.ne_none_iff_exists'.1 h'
   subst h
   obtain ⟨rfl,rfl⟩:=hA0 rfl
   clear h' hA0 hB0
   go_enter Tryz.func84,Tryz.ntmps84
   go_wp2_with fail
   have hW:=(ext (ext (ext_alloc w (.cells #[.int .i64 x,.slice none 0 0,.bool a] 65)) (ext_alloc _ (.cells #[.int .i64 y,.slice (some bd) k' c',.bool b] 65))) (ext_alloc _ (.cells #[.int .i64 0,.slice none 0 0,.bool false] 65)))
   have hA:=ha.below hW
   have hB:=hb.below hW
   have kB:=(Blk.new (w.alloc (.cells #[.int .i64 x,.slice none 0 0,.bool a] 65)) 65 #[.int .i64 y,.slice (some bd) k' c',.bool b]).alloc (.cells #[.int .i64 0,.slice none 0 0,.bool false] 65)
   have kC:=Blk.new ((w.alloc (.cells #[.int .i64 x,.slice none 0 0,.bool a] 65)).alloc (.cells #[.int .i64 y,.slice (some bd) k' c',.bool b] 65)) 65 #[.int .i64 0,.slice none 0 0,.bool false]
   simp only [World.size_alloc] at kB kC
   generalize ((w.alloc (.cells #[.int .i64 x,.slice none 0 0,.bool a] 65)).alloc (.cells #[.int .i64 y,.slice (some bd) k' c',.bool b] 65)).alloc (.cells #[.int .i64 0,.slice none 0 0,.bool false] 65)=W at hA hB kB kC hW ⊢
   refine (parts_s _ s n W hA hs).mono ?_
   rintro e w1 ⟨p,rfl,hp,hb1⟩
   have kB1:=kB.below hb1 kB.lt
   have c0:=kB1.cell 0
   have c1:=kB1.cell 1
   have c2:=kB1.cell 2
   simp at c0 c1 c2
   go_wp2_with fail
   refine (parts_s _ t m w1 (hB.below hb1) ht).mono ?_
   rintro e w2 ⟨p',rfl,hp',hb2⟩
   have hp2:=hp.below hb2
   have kC2:=(kC.below hb1 kC.lt).below hb2 (kC.below hb1 kC.lt).lt
   have hW2:=ext (ext hW hb1) hb2
   clear hb1 hb2 hW kC kB kB1 c0 c1 c2 hA hB hp
   go_wp2_with fail
   refine (nat_mul p p' n m w2 hp2 hp' HLN.out HLM.out).mono ?_
   rintro e w3 ⟨q,rfl,hq,hb3⟩
   go_wp2_with fail
   refine (made_any (s != t) q (n*m) w3 hq).mono ?_
   rintro e w4 ⟨v,rfl,hv,hb4⟩
   obtain ⟨x',A',k2,c2',ng',rfl,_,_,_⟩:=hv.form
   have kC4:=(kC2.below hb3 kC2.lt).below hb4 (kC2.below hb3 kC2.lt).lt
   have hW4:=ext (ext hW2 hb3) hb4
   have c0:=kC4.cell 0
   have c1:=kC4.cell 1
   have c2:=kC4.cell 2
   have f0:=kC4.frozen 0
   have f1:=kC4.frozen 1
   have f2:=kC4.frozen 2
   simp at c0 c1 c2
   go_wp2
   have kD:=num_blk (x:=x') (A:=A') (k:=k2) (c:=c2') (ng:=ng') kC4
   have d0:=kD.cell 0
   have d1:=kD.cell 1
   have d2:=kD.cell 2
   simp at d0 d1 d2
   refine bodyPost_ret (v:=.agg #[.int .i64 x',.slice A' k2 c2',.bool ng']) (by simp [results,Tryz.results84,go_sem,d0,d1,d2]) rfl ?_
   exact ⟨_,rfl,num_stored (by rw [mul_signed];exact hv) kC4,num_below hW4 (by omega)⟩
 · subst h h'
   obtain ⟨rfl,rfl⟩:=hA0 rfl
   obtain ⟨rfl,rfl⟩:=hB0 rfl
   have hx:=fun w=>size_any x (.slice none 0 0) a w h1 h2
   have hy:=fun w=>size_any y (.slice none 0 0) b w h3 h4
   have hm:=fun w=>mul64_any x.natAbs y.natAbs (by omega) (by omega) w
   generalize x.natAbs*y.natAbs=P at hm h5
   have hL:P / 18446744073709551616≠0 ∨ (P / 18446744073709551616=0 ∧ 4611686018427387904 ≤ P % 18446744073709551616):=by omega
   generalize P / 18446744073709551616=H at hm hL
   generalize P % 18446744073709551616=L at hm hL
   clear h5 h1 h2 h3 h4 hA0 hB0
   rcases hL with hL | ⟨rfl,hL⟩
   · have hH:¬ (H:Int)=0:=by omega
     have hH2:((H:Int) == 0)=false:=beq_eq_false_iff_ne.2 hH
     clear hL
     have hW:=(ext (ext (ext_alloc w (.cells #[.int .i64 x,.slice none 0 0,.bool a] 65)) (ext_alloc _ (.cells #[.int .i64 y,.slice none 0 0,.bool b] 65))) (ext_alloc _ (.cells #[.int .i64 0,.slice none 0 0,.bool false] 65)))
     have kB:=(Blk.new (w.alloc (.cells #[.int .i64 x,.slice none 0 0,.bool a] 65)) 65 #[.int .i64 y,.slice none 0 0,.bool b]).alloc (.cells #[.int .i64 0,.slice none 0 0,.bool false] 65)
     have kC:=Blk.new ((w.alloc (.cells #[.int .i64 x,.slice none 0 0,.bool a] 65)).alloc (.cells #[.int .i64 y,.slice none 0 0,.bool b] 65)) 65 #[.int .i64 0,.slice none 0 0,.bool false]
     simp only [World.size_alloc] at kB kC
     go_enter Tryz.func84,Tryz.ntmps84
     go_wp2_with fail
     go_region_held3 (fun w' =>w'.cell? ⟨w.heap.size,0,none⟩=some (.int .i64 x) ∧ w'.cell? ⟨w.heap.size,1,none⟩=some (.slice none 0 0) ∧ w'.cell? ⟨w.heap.size,2,none⟩=some (.bool a) ∧
      w'.cell? ⟨w.heap.size+1,0,none⟩=some (.int .i64 y) ∧ w'.cell? ⟨w.heap.size+1,1,none⟩=some (.slice none 0 0) ∧ w'.cell? ⟨w.heap.size+1,2,none⟩=some (.bool b) ∧
      w.heap.size<w'.heap.size ∧ w.heap.size+1<w'.heap.size ∧ Hid (Blk w' (w.heap.size+1) 65 #[.int .i64 y,.slice none 0 0,.bool b]) ∧ Hid (Blk w' (w.heap.size+1+1) 65 #[.int .i64 0,.slice none 0 0,.bool false]) ∧ Hid (Below w.heap.size w w'))
      (first
        | exact ⟨by go_keep,by go_keep,by go_keep,by go_keep,by go_keep,by go_keep,by simp;omega,by simp,hide (kB.drewN 1),hide (kC.drewN 1),hide (below_drewN hW 1)⟩
        | go_keep
        | (go_split_ands;exact ⟨cell_keep (by assumption) (by assumption) (by assumption),cell_keep (by assumption) (by assumption) (by assumption),cell_keep (by assumption) (by assumption) (by assumption),cell_keep (by assumption) (by assumption) (by assumption),cell_keep (by assumption) (by assumption) (by assumption),cell_keep (by assumption) (by assumption) (by assumption),size_keep (by assumption) (by assumption),size_keep (by assumption) (by assumption),hid_blk (by assumption) (by assumption),hid_blk (by assumption) (by assumption),hid_below (by assumption) (by assumption)⟩))
      (first
        | (go_at_call_of 108 (Value.agg #[Value.int .i64 x,.slice none 0 0,.bool a]);refine (hx _).mono ?_;rintro e w1 ⟨rfl,hb1⟩)
        | (go_at_call_of 108 (Value.agg #[Value.int .i64 y,.slice none 0 0,.bool b]);refine (hy _).mono ?_;rintro e w1 ⟨rfl,hb1⟩)
        | (go_at_call 143;refine (hm _).mono ?_;rintro e w1 ⟨rfl,rfl⟩))
     go_split_ands
     have hW' :=unhide (by assumption:Hid (Below w.heap.size w _))
     have kB' :=unhide (by assumption:Hid (Blk _ (w.heap.size+1) _ _))
     have kC' :=unhide (by assumption:Hid (Blk _ (w.heap.size+1+1) _ _))
     have hA:=ha.below hW'
     have hB:=hb.below hW'
     clear hW kB kC
     have hW:=hW'
     have kB:=kB'
     have kC:=kC'
     clear hW' kB' kC'
     go_wp2_with fail
     refine (parts_s _ s n _ hA hs).mono ?_
     rintro e w1 ⟨p,rfl,hp,hb1⟩
     have kB1:=kB.below hb1 kB.lt
     have c0:=kB1.cell 0
     have c1:=kB1.cell 1
     have c2:=kB1.cell 2
     simp at c0 c1 c2
     go_wp2_with fail
     refine (parts_s _ t m w1 (hB.below hb1) ht).mono ?_
     rintro e w2 ⟨p',rfl,hp',hb2⟩
     have hp2:=hp.below hb2
     have kC2:=(kC.below hb1 kC.lt).below hb2 (kC.below hb1 kC.lt).lt
     have hW2:=ext (ext hW hb1) hb2
     clear hb1 hb2 hW kC kB kB1 c0 c1 c2 hA hB hp
     go_wp2_with fail
     refine (nat_mul p p' n m w2 hp2 hp' HLN.out HLM.out).mono ?_
     rintro e w3 ⟨q,rfl,hq,hb3⟩
     go_wp2_with fail
     refine (made_any (s != t) q (n*m) w3 hq).mono ?_
     rintro e w4 ⟨v,rfl,hv,hb4⟩
     obtain ⟨x',A',k2,c2',ng',rfl,_,_,_⟩:=hv.form
     have kC4:=(kC2.below hb3 kC2.lt).below hb4 (kC2.below hb3 kC2.lt).lt
     have hW4:=ext (ext hW2 hb3) hb4
     have c0:=kC4.cell 0
     have c1:=kC4.cell 1
     have c2:=kC4.cell 2
     have f0:=kC4.frozen 0
     have f1:=kC4.frozen 1
     have f2:=kC4.frozen 2
     simp at c0 c1 c2
     go_wp2
     have kD:=num_blk (x:=x') (A:=A') (k:=k2) (c:=c2') (ng:=ng') kC4
     have d0:=kD.cell 0
     have d1:=kD.cell 1
     have d2:=kD.cell 2
     simp at d0 d1 d2
     refine bodyPost_ret (v:=.agg #[.int .i64 x',.slice A' k2 c2',.bool ng']) (by simp [results,Tryz.results84,go_sem,d0,d1,d2]) rfl ?_
     exact ⟨_,rfl,num_stored (by rw [mul_signed];exact hv) kC4,num_below hW4 (by omega)⟩
   · have hD:decide ((L:Int)<4611686018427387904)=false:=decide_eq_false (by omega)
     clear hL
     have hW:=(ext (ext (ext_alloc w (.cells #[.int .i64 x,.slice none 0 0,.bool a] 65)) (ext_alloc _ (.cells #[.int .i64 y,.slice none 0 0,.bool b] 65))) (ext_alloc _ (.cells #[.int .i64 0,.slice none 0 0,.bool false] 65)))
     have kB:=(Blk.new (w.alloc (.cells #[.int .i64 x,.slice none 0 0,.bool a] 65)) 65 #[.int .i64 y,.slice none 0 0,.bool b]).alloc (.cells #[.int .i64 0,.slice none 0 0,.bool false] 65)
     have kC:=Blk.new ((w.alloc (.cells #[.int .i64 x,.slice none 0 0,.bool a] 65)).alloc (.cells #[.int .i64 y,.slice none 0 0,.bool b] 65)) 65 #[.int .i64 0,.slice none 0 0,.bool false]
     simp only [World.size_alloc] at kB kC
     go_enter Tryz.func84,Tryz.ntmps84
     go_wp2_with fail
     go_region_held3 (fun w' =>w'.cell? ⟨w.heap.size,0,none⟩=some (.int .i64 x) ∧ w'.cell? ⟨w.heap.size,1,none⟩=some (.slice none 0 0) ∧ w'.cell? ⟨w.heap.size,2,none⟩=some (.bool a) ∧
      w'.cell? ⟨w.heap.size+1,0,none⟩=some (.int .i64 y) ∧ w'.cell? ⟨w.heap.size+1,1,none⟩=some (.slice none 0 0) ∧ w'.cell? ⟨w.heap.size+1,2,none⟩=some (.bool b) ∧
      w.heap.size<w'.heap.size ∧ w.heap.size+1<w'.heap.size ∧ Hid (Blk w' (w.heap.size+1) 65 #[.int .i64 y,.slice none 0 0,.bool b]) ∧ Hid (Blk w' (w.heap.size+1+1) 65 #[.int .i64 0,.slice none 0 0,.bool false]) ∧ Hid (Below w.heap.size w w'))
      (first
        | exact ⟨by go_keep,by go_keep,by go_keep,by go_keep,by go_keep,by go_keep,by simp;omega,by simp,hide (kB.drewN 1),hide (kC.drewN 1),hide (below_drewN hW 1)⟩
        | go_keep
        | (go_split_ands;exact ⟨cell_keep (by assumption) (by assumption) (by assumption),cell_keep (by assumption) (by assumption) (by assumption),cell_keep (by assumption) (by assumption) (by assumption),cell_keep (by assumption) (by assumption) (by assumption),cell_keep (by assumption) (by assumption) (by assumption),cell_keep (by assumption) (by assumption) (by assumption),size_keep (by assumption) (by assumption),size_keep (by assumption) (by assumption),hid_blk (by assumption) (by assumption),hid_blk (by assumption) (by assumption),hid_below (by assumption) (by assumption)⟩))
      (first
        | (go_at_call_of 108 (Value.agg #[Value.int .i64 x,.slice none 0 0,.bool a]);refine (hx _).mono ?_;rintro e w1 ⟨rfl,hb1⟩)
        | (go_at_call_of 108 (Value.agg #[Value.int .i64 y,.slice none 0 0,.bool b]);refine (hy _).mono ?_;rintro e w1 ⟨rfl,hb1⟩)
        | (go_at_call 143;refine (hm _).mono ?_;rintro e w1 ⟨rfl,rfl⟩))
     go_split_ands
     have hW' :=unhide (by assumption:Hid (Below w.heap.size w _))
     have kB' :=unhide (by assumption:Hid (Blk _ (w.heap.size+1) _ _))
     have kC' :=unhide (by assumption:Hid (Blk _ (w.heap.size+1+1) _ _))
     have hA:=ha.below hW'
     have hB:=hb.below hW'
     clear hW kB kC
     have hW:=hW'
     have kB:=kB'
     have kC:=kC'
     clear hW' kB' kC'
     go_wp2_with fail
     refine (parts_s _ s n _ hA hs).mono ?_
     rintro e w1 ⟨p,rfl,hp,hb1⟩
     have kB1:=kB.below hb1 kB.lt
     have c0:=kB1.cell 0
     have c1:=kB1.cell 1
     have c2:=kB1.cell 2
     simp at c0 c1 c2
     go_wp2_with fail
     refine (parts_s _ t m w1 (hB.below hb1) ht).mono ?_
     rintro e w2 ⟨p',rfl,hp',hb2⟩
     have hp2:=hp.below hb2
     have kC2:=(kC.below hb1 kC.lt).below hb2 (kC.below hb1 kC.lt).lt
     have hW2:=ext (ext hW hb1) hb2
     clear hb1 hb2 hW kC kB kB1 c0 c1 c2 hA hB hp
     go_wp2_with fail
     refine (nat_mul p p' n m w2 hp2 hp' HLN.out HLM.out).mono ?_
     rintro e w3 ⟨q,rfl,hq,hb3⟩
     go_wp2_with fail
     refine (made_any (s != t) q (n*m) w3 hq).mono ?_
     rintro e w4 ⟨v,rfl,hv,hb4⟩
     obtain ⟨x',A',k2,c2',ng',rfl,_,_,_⟩:=hv.form
     have kC4:=(kC2.below hb3 kC2.lt).below hb4 (kC2.below hb3 kC2.lt).lt
     have hW4:=ext (ext hW2 hb3) hb4
     have c0:=kC4.cell 0
     have c1:=kC4.cell 1
     have c2:=kC4.cell 2
     have f0:=kC4.frozen 0
     have f1:=kC4.frozen 1
     have f2:=kC4.frozen 2
     simp at c0 c1 c2
     go_wp2
     have kD:=num_blk (x:=x') (A:=A') (k:=k2) (c:=c2') (ng:=ng') kC4
     have d0:=kD.cell 0
     have d1:=kD.cell 1
     have d2:=kD.cell 2
     simp at d0 d1 d2
     refine bodyPost_ret (v:=.agg #[.int .i64 x',.slice A' k2 c2',.bool ng']) (by simp [results,Tryz.results84,go_sem,d0,d1,d2]) rfl ?_
     exact ⟨_,rfl,num_stored (by rw [mul_signed];exact hv) kC4,num_below hW4 (by omega)⟩
theorem mul_any (va vb:Value) (z y:Int) (w:World) (ha:NumIs w va z) (hb:NumIs w vb y) (hla:len 4294967296 z.natAbs ≤ 67108864) (hlb:len 4294967296 y.natAbs ≤ 67108864):
 Calls Tryz.prog 84 #[va,vb] w (NewNum w (z*y)):=by
 have ha' :=ha
 have hb' :=hb
 obtain ⟨x1,A,k,c,s,rfl,h1,h2,hA⟩:=ha.form
 obtain ⟨y1,B,k',c',t,rfl,h3,h4,hB⟩:=hb.form
 by_cases hf:A=none ∧ B=none ∧ x1.natAbs*y1.natAbs<4611686018427387904
 · obtain ⟨e1,e2,h5⟩:=hf
   obtain ⟨rfl,rfl,rfl⟩:=hA e1
   obtain ⟨rfl,rfl,rfl⟩:=hB e2
   subst e1 e2
   exact mul_fast z y s t _ w h1 h2 h3 h4 rfl h5
 · have:=mul_slow (decide (z<0)) (decide (y<0)) z.natAbs y.natAbs x1 y1 A B k c k' c' s t w h1 h2 h3 h4 (fun h=>⟨(hA h).1,(hA h).2.1⟩) (fun h=>⟨(hB h).1,(hB h).2.1⟩) (by rw [signed_abs];exact ha') (by rw [signed_abs];exact hb') signed_pos signed_pos hla hlb (by
    unfold MulSlow
    by_cases e1:A=none
    · by_cases e2:B=none
      · exact .inr (.inr ⟨e1,e2,Nat.le_of_not_lt fun h=>hf ⟨e1,e2,h⟩⟩)
      · exact .inr (.inl ⟨e1,e2⟩)
    · exact .inl e1)
   rwa [signed_abs,signed_abs] at this
end Go.Proofs.YtnmkalocbfdecaaGreatDoor
namespace Go.Proofs.YtnmkalocbfdecaaGreatDoor
open Go.RowKit Go.Deep
def NewNum2 (w:World) (z y:Int) (e:Ending) (w' :World):Prop:=∃ v v',e= .returned (.tuple #[v,v']) ∧ NumIs w' v z ∧ NumIs w' v' y ∧ Below w.heap.size w w'
theorem num_far {W:World} {g g' :Nat} {t:TypeId} {x:Int} {A:Option Addr} {k c:Nat} {ng:Bool} {cs:Array Value} (hk:Blk W g t cs) (hne:g≠g'):Blk (World.num W g' x A k c ng) g t cs:=
 ((hk.far hne _).far hne _).far hne _
theorem tdiv_signed (s t:Bool) (n m:Nat):(signed s n).tdiv (signed t m)=signed (s != t) (n / m):=by
 cases s<;>cases t<;>unfold signed<;>simp [Int.neg_tdiv,Int.tdiv_neg,Int.ofNat_tdiv]
theorem tmod_signed (s t:Bool) (n m:Nat):(signed s n).tmod (signed t m)=signed s (n % m):=by
 cases s<;>cases t<;>unfold signed<;>simp [Int.neg_tmod,Int.tmod_neg,Int.ofNat_tmod,Int.tmod_eq_emod_of_nonneg]
theorem tdiv_bounds {x y:Int} (h1: -4611686018427387904<x) (h2:x<4611686018427387904): -4611686018427387904<x.tdiv y ∧ x.tdiv y<4611686018427387904:=by
 have:=Int.natAbs_tdiv_le_natAbs x y
 omega
theorem tmod_bounds {x y:Int} (h1: -4611686018427387904<x) (h2:x<4611686018427387904): -4611686018427387904<x.tmod y ∧ x.tmod y<4611686018427387904:=by
 have:=Int.natAbs_tmod x y
 have h3:=Nat.mod_le x.natAbs y.natAbs
 omega
set_option maxRecDepth 100000 in
set_option maxHeartbeats 4000000 in
theorem quo_fast (x y:Int) (a b:Bool) (w:World) (h1: -4611686018427387904<x) (h2:x<4611686018427387904) (h3: -4611686018427387904<y) (h4:y<4611686018427387904) (hy:y≠0):
 Calls Tryz.prog 96 #[.agg #[.int .i64 x,.slice none 0 0,.bool a],.agg #[.int .i64 y,.slice none 0 0,.bool b]] w (NewNum2 w (x.tdiv y) (x.tmod y)):=by
 have q0:=fun w=>eqlN w none 0 0 0 0
 have hy0:(y == 0)=false:=beq_eq_false_iff_ne.2 hy
 obtain ⟨b1,b2⟩:=tdiv_bounds (y:=y) h1 h2
 obtain ⟨b3,b4⟩:=tmod_bounds (y:=y) h1 h2
 go_enter Tryz.func96,Tryz.ntmps96
 go_wp2_with fail
 go_region
 go_wp2
 refine bodyPost_ret (v:=.tuple #[.agg #[.int .i64 (x.tdiv y),.slice none 0 0,.bool false],.agg #[.int .i64 (x.tmod y),.slice none 0 0,.bool false]]) (by simp [results,Tryz.results96,go_sem]) rfl ?_
 exact ⟨_,_,rfl,.inl ⟨_,_,rfl,b1,b2,rfl⟩,.inl ⟨_,_,rfl,b3,b4,rfl⟩,below_drewN (ext (ext (ext (ext_alloc _ _) (ext_alloc _ _)) (ext_alloc _ _)) (ext_alloc _ _)) 1⟩
def QuoSlow (A B:Option Addr):Prop:=A≠none ∨ (A=none ∧ B≠none)
set_option maxHeartbeats 4000000 in
theorem quo_slow (s t:Bool) (n m:Nat) (x y:Int) (A B:Option Addr) (k c k' c' :Nat) (a b:Bool) (w:World) (h1: -4611686018427387904<x) (h2:x<4611686018427387904) (h3: -4611686018427387904<y) (h4:y<4611686018427387904)
 (ha:NumIs w (.agg #[.int .i64 x,.slice A k c,.bool a]) (signed s n)) (hb:NumIs w (.agg #[.int .i64 y,.slice B k' c',.bool b]) (signed t m)) (hs:s=true → 0<n) (ht:t=true → 0<m) (hm0:0<m)
 (hln:len 4294967296 n ≤ 33554432) (hlm:len 4294967296 m ≤ 33554432) (hsl:QuoSlow A B):
 Calls Tryz.prog 96 #[.agg #[.int .i64 x,.slice A k c,.bool a],.agg #[.int .i64 y,.slice B k' c',.bool b]] w (NewNum2 w ((signed s n).tdiv (signed t m)) ((signed s n).tmod (signed t m))):=by
 have q1:=fun w=>eqlN w A k c 0 0
 have q2:=fun w=>eqlN w B k' c' 0 0
 have HLN:=hide hln
 have HLM:=hide hlm
 clear hln hlm
 rcases hsl with h | ⟨h,h'⟩
 · obtain ⟨ad,rfl⟩:=Option.ne_none_iff_exists'.1 h
   clear h
   go_enter Tryz.func96,Tryz.ntmps96
   go_wp2_with fail
   have hW:=(ext (ext (ext (ext_alloc w (.cells #[.int .i64 x,.slice (some ad) k c,.bool a] 65)) (ext_alloc _ (.cells #[.int .i64 y,.slice B k' c',.bool b] 65))) (ext_alloc _ (.cells #[.int .i64 0,.slice none 0 0,.bool false] 65))) (ext_alloc _ (.cells #[.int .i64 0,.slice none 0 0,.bool false] 65)))
   have hA:=ha.below hW
   have hB:=hb.below hW
   have kB:=((Blk.new (w.alloc (.cells #[.int .i64 x,.slice (some ad) k c,.bool a] 65)) 65 #[.int .i64 y,.slice B k' c',.bool b]).alloc (.cells #[.int .i64 0,.slice none 0 0,.bool false] 65)).alloc (.cells #[.int .i64 0,.slice none 0 0,.bool false] 65)
   have kC:=(Blk.new ((w.alloc (.cells #[.int .i64 x,.slice (some ad) k c,.bool a] 65)).alloc (.cells #[.int .i64 y,.slice B k' c',.bool b] 65)) 65 #[.int .i64 0,.slice none 0 0,.bool false]).alloc (.cells #[.int .i64 0,.slice none 0 0,.bool false] 65)
   have kD:=Blk.new (((w.alloc (.cells #[.int .i64 x,.slice (some ad) k c,.bool a] 65)).alloc (.cells #[.int .i64 y,.slice B k' c',.bool b] 65)).alloc (.cells #[.int .i64 0,.slice none 0 0,.bool false] 65)) 65 #[.int .i64 0,.slice none 0 0,.bool false]
   simp only [World.size_alloc] at kB kC kD
   generalize (((w.alloc (.cells #[.int .i64 x,.slice (some ad) k c,.bool a] 65)).alloc (.cells #[.int .i64 y,.slice B k' c',.bool b] 65)).alloc (.cells #[.int .i64 0,.slice none 0 0,.bool false] 65)).alloc (.cells #[.int .i64 0,.slice none 0 0,.bool false] 65)=W at hA hB kB kC kD hW ⊢
   refine (parts_s _ s n W hA hs).mono ?_
   rintro e w1 ⟨p,rfl,hp,hb1⟩
   have kB1:=kB.below hb1 kB.lt
   have c0:=kB1.cell 0
   have c1:=kB1.cell 1
   have c2:=kB1.cell 2
   simp at c0 c1 c2
   go_wp2_with fail
   refine (parts_s _ t m w1 (hB.below hb1) ht).mono ?_
   rintro e w2 ⟨p',rfl,hp',hb2⟩
   have hp2:=hp.below hb2
   have kC2:=(kC.below hb1 kC.lt).below hb2 (kC.below hb1 kC.lt).lt
   have kD2:=(kD.below hb1 kD.lt).below hb2 (kD.below hb1 kD.lt).lt
   have hW2:=ext (ext hW hb1) hb2
   clear hb1 hb2 hW kC kB kD kB1 c0 c1 c2 hA hB hp
   go_wp2_with fail
   refine (nat_div p p' n m w2 hp2 hp' hm0 HLN.out HLM.out).mono ?_
   rintro e w3 ⟨q,r,rfl,hq,hr,hb3⟩
   have kC3:=kC2.below hb3 kC2.lt
   have kD3:=kD2.below hb3 kD2.lt
   have hW3:=ext hW2 hb3
   clear kC2 kD2 hW2 hp2 hp' hb3
   go_wp2_with fail
   refine (made_any (s != t) q (n / m) w3 hq).mono ?_
   rintro e w4 ⟨v,rfl,hv,hb4⟩
   go_wp2_with fail
   refine (made_any s r (n % m) w4 (hr.below hb4)).mono ?_
   rintro e w5 ⟨v',rfl,hv',hb5⟩
   have hv2:=hv.below hb5
   obtain ⟨x',A',k2,c2',ng',rfl,_,_,_⟩:=hv2.form
   obtain ⟨x3,A3,k3,c3,ng3,rfl,_,_,_⟩:=hv'.form
   have kC5:=(kC3.below hb4 kC3.lt).below hb5 (kC3.below hb4 kC3.lt).lt
   have kD5:=(kD3.below hb4 kD3.lt).below hb5 (kD3.below hb4 kD3.lt).lt
   have hW5:=ext (ext hW3 hb4) hb5
   clear kC3 kD3 hW3 hb4 hb5 hq hr hv
   have c0:=kC5.cell 0
   have c1:=kC5.cell 1
   have c2:=kC5.cell 2
   have f0:=kC5.frozen 0
   have f1:=kC5.frozen 1
   have f2:=kC5.frozen 2
   have d0:=kD5.cell 0
   have d1:=kD5.cell 1
   have d2:=kD5.cell 2
   have g0:=kD5.frozen 0
   have g1:=kD5.frozen 1
   have g2:=kD5.frozen 2
   simp at c0 c1 c2 d0 d1 d2
   go_wp2
   have kE:=num_blk (x:=x') (A:=A') (k:=k2) (c:=c2') (ng:=ng') kC5
   have kF:=num_far (g' :=w.heap.size+1+1) (x:=x') (A:=A') (k:=k2) (c:=c2') (ng:=ng') kD5 (by omega)
   have kG:=num_far (g' :=w.heap.size+1+1+1) (x:=x3) (A:=A3) (k:=k3) (c:=c3) (ng:=ng3) kE (by omega)
   have kH:=num_blk (x:=x3) (A:=A3) (k:=k3) (c:=c3) (ng:=ng3) kF
   have e0:=kG.cell 0
   have e1:=kG.cell 1
   have e2:=kG.cell 2
   have h0:=kH.cell 0
   have h1' :=kH.cell 1
   have h2' :=kH.cell 2
   simp at e0 e1 e2 h0 h1' h2'
   refine bodyPost_ret (v:=.tuple #[.agg #[.int .i64 x',.slice A' k2 c2',.bool ng'],.agg #[.int .i64 x3,.slice A3 k3 c3,.bool ng3]]) (by simp [results,Tryz.results96,go_sem,e0,e1,e2,h0,h1',h2']) rfl ?_
   rw [tdiv_signed,tmod_signed]
   exact ⟨_,_,rfl,num_stored (num_stored hv2 kC5) kF,num_stored (num_stored hv' kC5) kF,num_below (num_below hW5 (by omega)) (by omega)⟩
 · obtain ⟨bd,rfl⟩:=Option.ne_none_iff_exists'.1 h'
   subst h
   clear h'
   go_enter Tryz.func96,Tryz.ntmps96
   go_wp2_with fail
   have hW:=(ext (ext (ext (ext_alloc w (.cells #[.int .i64 x,.slice none k c,.bool a] 65)) (ext_alloc _ (.cells #[.int .i64 y,.slice (some bd) k' c',.bool b] 65))) (ext_alloc _ (.cells #[.int .i64 0,.slice none 0 0,.bool false] 65))) (ext_alloc _ (.cells #[.int .i64 0,.slice none 0 0,.bool false] 65)))
   have hA:=ha.below hW
   have hB:=hb.below hW
   have kB:=((Blk.new (w.alloc (.cells #[.int .i64 x,.slice none k c,.bool a] 65)) 65 #[.int .i64 y,.slice (some bd) k' c',.bool b]).alloc (.cells #[.int .i64 0,.slice none 0 0,.bool false] 65)).alloc (.cells #[.int .i64 0,.slice none 0 0,.bool false] 65)
   have kC:=(Blk.new ((w.alloc (.cells #[.int .i64 x,.slice none k c,.bool a] 65)).alloc (.cells #[.int .i64 y,.slice (some bd) k' c',.bool b] 65)) 65 #[.int .i64 0,.slice none 0 0,.bool false]).alloc (.cells #[.int .i64 0,.slice none 0 0,.bool false] 65)
   have kD:=Blk.new (((w.alloc (.cells #[.int .i64 x,.slice none k c,.bool a] 65)).alloc (.cells #[.int .i64 y,.slice (some bd) k' c',.bool b] 65)).alloc (.cells #[.int .i64 0,.slice none 0 0,.bool false] 65)) 65 #[.int .i64 0,.slice none 0 0,.bool false]
   simp only [World.size_alloc] at kB kC kD
   generalize (((w.alloc (.cells #[.int .i64 x,.slice none k c,.bool a] 65)).alloc (.cells #[.int .i64 y,.slice (some bd) k' c',.bool b] 65)).alloc (.cells #[.int .i64 0,.slice none 0 0,.bool false] 65)).alloc (.cells #[.int .i64 0,.slice none 0 0,.bool false] 65)=W at hA hB kB kC kD hW ⊢
   refine (parts_s _ s n W hA hs).mono ?_
   rintro e w1 ⟨p,rfl,hp,hb1⟩
   have kB1:=kB.below hb1 kB.lt
   have c0:=kB1.cell 0
   have c1:=kB1.cell 1
   have c2:=kB1.cell 2
   simp at c0 c1 c2
   go_wp2_with fail
   refine (parts_s _ t m w1 (hB.below hb1) ht).mono ?_
   rintro e w2 ⟨p',rfl,hp',hb2⟩
   have hp2:=hp.below hb2
   have kC2:=(kC.below hb1 kC.lt).below hb2 (kC.below hb1 kC.lt).lt
   have kD2:=(kD.below hb1 kD.lt).below hb2 (kD.below hb1 kD.lt).lt
   have hW2:=ext (ext hW hb1) hb2
   clear hb1 hb2 hW kC kB kD kB1 c0 c1 c2 hA hB hp
   go_wp2_with fail
   refine (nat_div p p' n m w2 hp2 hp' hm0 HLN.out HLM.out).mono ?_
   rintro e w3 ⟨q,r,rfl,hq,hr,hb3⟩
   have kC3:=kC2.below hb3 kC2.lt
   have kD3:=kD2.below hb3 kD2.lt
   have hW3:=ext hW2 hb3
   clear kC2 kD2 hW2 hp2 hp' hb3
   go_wp2_with fail
   refine (made_any (s != t) q (n / m) w3 hq).mono ?_
   rintro e w4 ⟨v,rfl,hv,hb4⟩
   go_wp2_with fail
   refine (made_any s r (n % m) w4 (hr.below hb4)).mono ?_
   rintro e w5 ⟨v',rfl,hv',hb5⟩
   have hv2:=hv.below hb5
   obtain ⟨x',A',k2,c2',ng',rfl,_,_,_⟩:=hv2.form
   obtain ⟨x3,A3,k3,c3,ng3,rfl,_,_,_⟩:=hv'.form
   have kC5:=(kC3.below hb4 kC3.lt).below hb5 (kC3.below hb4 kC3.lt).lt
   have kD5:=(kD3.below hb4 kD3.lt).below hb5 (kD3.below hb4 kD3.lt).lt
   have hW5:=ext (ext hW3 hb4) hb5
   clear kC3 kD3 hW3 hb4 hb5 hq hr hv
   have c0:=kC5.cell 0
   have c1:=kC5.cell 1
   have c2:=kC5.cell 2
   have f0:=kC5.frozen 0
   have f1:=kC5.frozen 1
   have f2:=kC5.frozen 2
   have d0:=kD5.cell 0
   have d1:=kD5.cell 1
   have d2:=kD5.cell 2
   have g0:=kD5.frozen 0
   have g1:=kD5.frozen 1
   have g2:=kD5.frozen 2
   simp at c0 c1 c2 d0 d1 d2
   go_wp2
   have kE:=num_blk (x:=x') (A:=A') (k:=k2) (c:=c2') (ng:=ng') kC5
   have kF:=num_far (g' :=w.heap.size+1+1) (x:=x') (A:=A') (k:=k2) (c:=c2') (ng:=ng') kD5 (by omega)
   have kG:=num_far (g' :=w.heap.size+1+1+1) (x:=x3) (A:=A3) (k:=k3) (c:=c3) (ng:=ng3) kE (by omega)
   have kH:=num_blk (x:=x3) (A:=A3) (k:=k3) (c:=c3) (ng:=ng3) kF
   have e0:=kG.cell 0
   have e1:=kG.cell 1
   have e2:=kG.cell 2
   have h0:=kH.cell 0
   have h1' :=kH.cell 1
   have h2' :=kH.cell 2
   simp at e0 e1 e2 h0 h1' h2'
   refine bodyPost_ret (v:=.tuple #[.agg #[.int .i64 x',.slice A' k2 c2',.bool ng'],.agg #[.int .i64 x3,.slice A3 k3 c3,.bool ng3]]) (by simp [results,Tryz.results96,go_sem,e0,e1,e2,h0,h1',h2']) rfl ?_
   rw [tdiv_signed,tmod_signed]
   exact ⟨_,_,rfl,num_stored (num_stored hv2 kC5) kF,num_stored (num_stored hv' kC5) kF,num_below (num_below hW5 (by omega)) (by omega)⟩
theorem quo_any (va vb:Value) (z y:Int) (w:World) (ha:NumIs w va z) (hb:NumIs w vb y) (hy:y≠0) (hla:len 4294967296 z.natAbs ≤ 33554432) (hlb:len 4294967296 y.natAbs ≤ 33554432):
 Calls Tryz.prog 96 #[va,vb] w (NewNum2 w (z.tdiv y) (z.tmod y)):=by
 have ha' :=ha
 have hb' :=hb
 obtain ⟨x1,A,k,c,s,rfl,h1,h2,hA⟩:=ha.form
 obtain ⟨y1,B,k',c',t,rfl,h3,h4,hB⟩:=hb.form
 by_cases hf:A=none ∧ B=none
 · obtain ⟨e1,e2⟩:=hf
   obtain ⟨rfl,rfl,rfl⟩:=hA e1
   obtain ⟨rfl,rfl,rfl⟩:=hB e2
   subst e1 e2
   exact quo_fast z y s t w h1 h2 h3 h4 hy
 · have:=quo_slow (decide (z<0)) (decide (y<0)) z.natAbs y.natAbs x1 y1 A B k c k' c' s t w h1 h2 h3 h4 (by rw [signed_abs];exact ha') (by rw [signed_abs];exact hb') signed_pos signed_pos (by omega) hla hlb (by
    unfold QuoSlow
    by_cases e1:A=none
    · exact .inr ⟨e1,fun e2=>hf ⟨e1,e2⟩⟩
    · exact .inl e1)
   rwa [signed_abs,signed_abs] at this
end Go.Proofs.YtnmkalocbfdecaaGreatDoor
namespace Go.Proofs.YtnmkalocbfdecaaGreatDoor
open Go.RowKit Go.Deep
set_option maxRecDepth 100000 in
set_option maxHeartbeats 4000000 in
theorem sub_any (va vb:Value) (z y:Int) (w:World) (ha:NumIs w va z) (hb:NumIs w vb y) (hla:len 4294967296 z.natAbs ≤ 67108864) (hlb:len 4294967296 y.natAbs ≤ 67108864):
 Calls Tryz.prog 97 #[va,vb] w (NewNum w (z - y)):=by
 have ha' :=ha
 have hb' :=hb
 obtain ⟨x1,A,k,c,s,rfl,h1,h2,hA⟩:=ha'.form
 obtain ⟨y1,B,k',c',t,rfl,h3,h4,hB⟩:=hb'.form
 have hln:len 4294967296 (-y).natAbs ≤ 67108864:=by rw [Int.natAbs_neg];exact hlb
 have HLN:=hide hln
 have HLM:=hide hla
 have hW:=below_drewN (ext (ext (ext_alloc w (.cells #[.int .i64 x1,.slice A k c,.bool s] 65)) (ext_alloc _ (.cells #[.int .i64 y1,.slice B k' c',.bool t] 65))) (ext_alloc _ (.cells #[.int .i64 0,.slice none 0 0,.bool false] 65))) 1
 have hAW:=ha.below hW
 have hBW:=hb.below hW
 have kA:=(((Blk.new w 65 #[.int .i64 x1,.slice A k c,.bool s]).alloc (.cells #[.int .i64 y1,.slice B k' c',.bool t] 65)).alloc (.cells #[.int .i64 0,.slice none 0 0,.bool false] 65)).drewN 1
 have kC:=(Blk.new ((w.alloc (.cells #[.int .i64 x1,.slice A k c,.bool s] 65)).alloc (.cells #[.int .i64 y1,.slice B k' c',.bool t] 65)) 65 #[.int .i64 0,.slice none 0 0,.bool false]).drewN 1
 simp only [World.size_alloc] at kC
 have HW:=hide hW
 have HAW:=hide hAW
 have HBW:=hide hBW
 have HA:=hide kA
 have HC:=hide kC
 clear hW hAW hBW kA kC hln hla hlb h1 h2 h3 h4 hA hB ha hb ha' hb'
 go_enter Tryz.func97,Tryz.ntmps97
 go_wp2_with fail
 go_region_with (first
  | (go_at_call 123;refine (negated_any _ y _ HBW.out).mono ?_;rintro e w1 ⟨v,rfl,hv,hb1⟩;obtain ⟨x',A',k2,c2',ng',rfl,_,_,_⟩:=hv.form;have kA1:=HA.out.below hb1 HA.out.lt;have c0:=kA1.cell 0;have c1:=kA1.cell 1;have c2:=kA1.cell 2;simp at c0 c1 c2)
  | (go_at_call 85;refine (add_any _ _ z (-y) _ (HAW.out.below (by assumption)) (by assumption) HLM.out HLN.out).mono ?_;rintro e w2 ⟨v,rfl,hv2,hb2⟩;obtain ⟨x3,A3,k3,c3,ng3,rfl,_,_,_⟩:=hv2.form;have kC2:=(HC.out.below hb1 HC.out.lt).below hb2 (HC.out.below hb1 HC.out.lt).lt;have c0:=kC2.cell 0;have c1:=kC2.cell 1;have c2:=kC2.cell 2;have f0:=kC2.frozen 0;have f1:=kC2.frozen 1;have f2:=kC2.frozen 2;simp at c0 c1 c2))
 all_goals
  go_wp2
  have kD:=num_blk (x:=x3) (A:=A3) (k:=k3) (c:=c3) (ng:=ng3) kC2
  have d0:=kD.cell 0
  have d1:=kD.cell 1
  have d2:=kD.cell 2
  simp at d0 d1 d2
  refine bodyPost_ret (v:=.agg #[.int .i64 x3,.slice A3 k3 c3,.bool ng3]) (by simp [results,Tryz.results97,go_sem,d0,d1,d2]) rfl ?_
  exact ⟨_,rfl,num_stored (by rw [Int.sub_eq_add_neg];exact hv2) kC2,num_below (ext (ext HW.out hb1) hb2) (by omega)⟩
theorem cmp_any (va vb:Value) (z y:Int) (w:World) (ha:NumIs w va z) (hb:NumIs w vb y) (hla:len 4294967296 z.natAbs ≤ 67108864) (hlb:len 4294967296 y.natAbs ≤ 67108864):
 Calls Tryz.prog 93 #[va,vb] w (RetB w (.int .i64 (cmpOf z y))):=by
 have ha' :=ha
 have hb' :=hb
 obtain ⟨x1,A,k,c,s,rfl,h1,h2,hA⟩:=ha'.form
 obtain ⟨y1,B,k',c',t,rfl,h3,h4,hB⟩:=hb'.form
 have HLN:=hide hlb
 have HLM:=hide hla
 have hW:=ext (ext_alloc w (.cells #[.int .i64 x1,.slice A k c,.bool s] 65)) (ext_alloc _ (.cells #[.int .i64 y1,.slice B k' c',.bool t] 65))
 have HW:=hide hW
 have HAW:=hide (ha.below hW)
 have HBW:=hide (hb.below hW)
 clear hW hla hlb h1 h2 h3 h4 hA hB ha hb ha' hb'
 go_enter Tryz.func93,Tryz.ntmps93
 go_wp2_with fail
 refine (sub_any _ _ z y _ HAW.out HBW.out HLM.out HLN.out).mono ?_
 rintro e w1 ⟨v,rfl,hv,hb1⟩
 go_wp2_with fail
 refine (sign_any v (z - y) w1 hv).mono ?_
 rintro e w2 ⟨rfl,hb2⟩
 go_wp2
 go_ret
 refine ⟨?_,ext (ext HW.out hb1) hb2⟩
 unfold cmpOf
 have e1:z - y<0↔z<y:=by omega
 have e2:0<z - y↔y<z:=by omega
 simp only [e1,e2]
 rfl
theorem text_neg (l:List UInt8):(⟨#[45]⟩:ByteArray) ++ (⟨l.toArray⟩:ByteArray)=⟨((45:UInt8) :: l).toArray⟩:=by
 apply ByteArray.ext
 rw [ByteArray.data_append]
 simp
theorem dec_len_le {a:Nat} (h:len 4294967296 a ≤ 67108864):(dec a).length ≤ 671088641:=by
 unfold dec
 by_cases h0:a=0
 · rw [if_pos h0];simp
 · rw [if_neg h0,List.length_map,List.length_reverse]
   have:=digs_length_le h
   unfold len at this
   omega
def intText (z:Int):List UInt8:=if z<0 then 45 :: dec z.natAbs else dec z.natAbs
theorem text_any (va:Value) (z:Int) (w:World) (ha:NumIs w va z) (hla:len 4294967296 z.natAbs ≤ 67108864):
 Calls Tryz.prog 125 #[va] w (NewStr w (intText z)):=by
 obtain ⟨x1,A,k,c,s,rfl,h1,h2,hA⟩:=ha.form
 have HLM:=hide hla
 have hW:=ext_alloc w (.cells #[.int .i64 x1,.slice A k c,.bool s] 65)
 have HW:=hide hW
 have HAW:=hide (ha.below hW)
 clear hW hla h1 h2 hA ha
 by_cases hz:z<0
 · have hp:=fun v w h=>parts_any v z w h
   unfold RetParts at hp
   rw [decide_eq_true hz] at hp
   unfold intText
   rw [if_pos hz]
   have hlen:¬ 9223372036854775807<1+(dec z.natAbs).length:=by
    have:=dec_len_le HLM.out
    omega
   go_enter Tryz.func125,Tryz.ntmps125
   go_wp2_with fail
   refine (hp _ _ HAW.out).mono ?_
   rintro e w1 ⟨v,rfl,hv,hb1⟩
   go_wp2_with fail
   refine (nat_text v _ w1 hv HLM.out).mono ?_
   rintro e w2 ⟨rfl,hb2⟩
   go_wp2
   go_ret
   refine ⟨?_,ext (ext HW.out hb1) hb2⟩
   rw [text_neg]
   rfl
 · have hp:=fun v w h=>parts_any v z w h
   unfold RetParts at hp
   rw [decide_eq_false hz] at hp
   unfold intText
   rw [if_neg hz]
   go_enter Tryz.func125,Tryz.ntmps125
   go_wp2_with fail
   refine (hp _ _ HAW.out).mono ?_
   rintro e w1 ⟨v,rfl,hv,hb1⟩
   go_wp2_with fail
   refine (nat_text v _ w1 hv HLM.out).mono ?_
   rintro e w2 ⟨rfl,hb2⟩
   go_wp2
   go_ret
   exact ⟨rfl,ext (ext HW.out hb1) hb2⟩
end Go.Proofs.YtnmkalocbfdecaaGreatDoor
namespace Go.Proofs.YtnmkalocbfdecaaGreatDoor
open Go.RowKit
theorem and_keep {A B:Prop} (a:A) (f:A → B):A ∧ B:=⟨a,f a⟩
section
variable {W w w' :World}
theorem cellB {g i:Nat} {v:Value} (h:Hid (Below W.heap.size W w)) (hl:g<W.heap.size) (hc:W.cell? ⟨g,i,none⟩=some v):w.cell? ⟨g,i,none⟩=some v:=(h.out.cell hl).trans hc
theorem acellB {a:Addr} {i:Nat} {v:Value} (h:Hid (Below W.heap.size W w)) (hl:a.block<W.heap.size) (hc:W.cell? (a.add i)=some v):w.cell? (a.add i)=some v:=(h.out.cell (by rw [block_of_add];exact hl)).trans hc
theorem hid_alloc {o:Obj} (h:Hid (Below W.heap.size W w)):Hid (Below W.heap.size W (w.alloc o)):=ext h.out (ext_alloc w o)
theorem hid_drawn (W:World):Hid (Below W.heap.size W W.drew):=below_drewN (ext_refl W) 1
theorem hid_alloc_drawn (W:World) (o:Obj):Hid (Below W.heap.size W (W.alloc o).drew):=below_drewN (ext_alloc W o) 1
end
end Go.Proofs.YtnmkalocbfdecaaGreatDoor
