/- Parts of the proof: memory, numbers, walks of the functions that are called. -/
import Derived.Deep.Cut
import Derived.Test.YtacfcmdlgebhgaaGreatMg27
set_option linter.unusedVariables false
set_option linter.unusedSimpArgs false
set_option maxRecDepth 100000
set_option maxHeartbeats 32000000
namespace Go.Proofs.YtacfcmdlgebhgaaGreat
open Go.RowKit Go.Deep
attribute [local go_sem ↓] Go.wp_at_zero Go.wp_at_succ
noncomputable def XD (n:Net) (cs:List (List UInt8)) (a b:Int):Int:=if YK n cs≠0 then YK n cs else xY n a b
def zn2 (n:Net) (cs:List (List UInt8)) (a b:Int) (x:Int) (w:World) (e:Ending) (w' :World):Prop:=
 Below w.heap.size w w' /\((x≠0/\e= .returned (.tuple #[str [],.int .i64 x]))\/
  (x=0/\∃ h,Eff n.nodes.length n.pipes.length n.pf n.pt (zl cs) a.toNat b.toNat h/\xB n.nodes.length h 12735/\e= .returned (.tuple #[str (zh (XT n.pipes.length n.pf n.pt (zl cs) a.toNat h)),.int .i64 0])))
def zal (a b:Nat) (k:Nat):Option Rat:=if k=a then some 1 else if k=b then some 0 else none
def Vp (a b:Int):List yU:=[⟨a,[49]⟩,⟨b,[48]⟩]
theorem zcy:Dz 12 1:=zG.sz (Vd (k:=1) (by omega))
theorem ZZ:zh 1=[49]:=by
 have h:=X6 1
 rw [dec1] at h
 exact h
theorem zpv {a b:Nat} (k:Nat):Ym (Vp a b) (k:Int)=zh (xL (zal a b) k)/\((Vp a b).find? (fun v=>v.node == (k:Int))).isSome=(zal a b k).isSome:=by
 unfold Ym Vp xL zal
 by_cases h1:k=a
 . subst h1
   simp [ZZ]
 have e1:((a:Int) == (k:Int))=false:=by rw [beq_eq_false_iff_ne];omega
 by_cases h2:k=b
 . subst h2
   simp [h1,e1,vX]
 have e2:((b:Int) == (k:Int))=false:=by rw [beq_eq_false_iff_ne];omega
 simp [h1,h2,e1,e2,vX]
theorem zm3 {n:Net} {cs:List (List UInt8)} {a b:Nat} {l:List Bool} (h0:n.err=0) (hc:xw n cs=0) (hN:n.nodes.length<=6) (hp:n.pipes.length<=9) (ha:a<n.nodes.length)
 (hm:zde n (fun k=>(k:Int)∈[(a:Int)]) l):xP n.nodes.length n.pipes.length n.pf n.pt (zl cs) (zal a b) (fun _=>0) (fun k=>l.getD k false):=by
 obtain ⟨h5,hj⟩:=Net.err_zero h0
 obtain ⟨hl,hcs⟩:=X8 hc
 refine {
  piped:=Net.piped h5.1.1 (fun i hi=>(hcs i (by omega)).2.2)
  tied:=fun k hk hf=>?_
  cd:=fun i hi=>VH (hcs i (by omega)).2.1
  fd:=fun k _=>?_
  wd:=fun k _=>(Dz.zero 1).more (by omega)
  hN:=hN
  hp:=hp }
 . have h1:l[k]?=some true:=by
    have h2:l.getD k false=true:=hf.2;have hkl:k<l.length:=by rw [hm.len];exact hk
    rw [List.getElem?_eq_getElem hkl]
    simpa [List.getD,List.getElem?_eq_getElem hkl] using h2
   refine ((hm.iff k).1 h1).mono fun j hj=>?_
   simp only [List.mem_singleton] at hj;obtain rfl:j=a:=by omega
   exact ⟨ha,by unfold zal;simp⟩
 . unfold xL zal
   split
   . exact zcy
   split
   . exact (Dz.zero 1).more (by omega)
   exact (Dz.zero 1).more (by omega)
theorem zv7 {n:Net} {cs:List (List UInt8)} {a b:Nat} {l:List Bool} {h:Nat->Rat} (hG:xP n.nodes.length n.pipes.length n.pf n.pt (zl cs) (zal a b) (fun _=>0) (fun k=>l.getD k false)) (ha:a<n.nodes.length) (hb:b<n.nodes.length) (hne:a≠b)
 (hm:zde n (fun k=>(k:Int)∈[(a:Int)]) l) (hj:xg n.pipes.length n.pf n.pt (fun k=>(k:Int)∈[(a:Int)]) b) (hh:Yp n.nodes.length n.pipes.length n.pf n.pt (zl cs) (zal a b) (fun _=>0) (fun k=>l.getD k false) h):
 Eff n.nodes.length n.pipes.length n.pf n.pt (zl cs) a b h:=by
 have hS:∀ k:Nat,(k:Int)∈[(a:Int)]->k=a:=fun k hk=>by simp only [List.mem_singleton] at hk;omega
 have hS2:∀ k:Nat,k=a->(k:Int)∈[(a:Int)]:=fun k hk=>by simp only [List.mem_singleton];omega
 refine Eff.of_heads hG.piped ha hb hne (by unfold zal;simp) (by unfold zal;simp [Ne.symm hne]) (fun k _ h1 h2=>by unfold zal;simp [h1,h2]) (fun _ _=>rfl) (fun k hk=>?_) (hj.mono hS) hh
 have h1:=hm.iff k
 have hkl:k<l.length:=by rw [hm.len];exact hk
 rw [List.getElem?_eq_getElem hkl] at h1
 constructor
 . intro h2
   refine (h1.1 ?_).mono hS
   simpa [List.getD,List.getElem?_eq_getElem hkl] using h2
 intro h2
 have:=h1.2 (h2.mono hS2)
 simpa [List.getD,List.getElem?_eq_getElem hkl] using this
theorem Yj {n:Net} {a b:Int} (h:xY n a b=0):0<=a/\a<n.nodes.length/\0<=b/\b<n.nodes.length/\a≠b/\xg n.pipes.length n.pf n.pt (fun k=>(k:Int)∈[a]) b.toNat:=by
 unfold xY at h
 by_cases h1:a<0\/(n.nodes.length:Int)<=a\/b<0\/(n.nodes.length:Int)<=b
 . rw [if_pos h1] at h;cases h
 rw [if_neg h1] at h
 by_cases h2:a=b
 . rw [if_pos h2] at h;cases h
 rw [if_neg h2] at h
 by_cases h3:xg n.pipes.length n.pf n.pt (fun k=>(k:Int)∈[a]) b.toNat
 . exact ⟨by omega,by omega,by omega,by omega,h2,h3⟩
 rw [if_neg h3] at h;cases h
theorem vJ (W:World) (o o2:Obj):Hid (Below W.heap.size W ((W.alloc o).alloc o2).drew):=zo (ext (zg W o) (zg _ o2)) 1
theorem zo2 (w:World) (o:Obj) (t:TypeId) (a:Value):zK ((w.alloc o).alloc (.cells #[a] t)).drew ((w.alloc o).alloc (.cells #[a] t)).drew.heap.size 1 (some ⟨w.heap.size+1,0,none⟩) 1 [a]:=by
 have h:=zbn (w.alloc o) t a
 have e:(w.alloc o).heap.size=w.heap.size+1:=World.size_alloc _ _
 rw [e] at h
 exact h
theorem zpj (w:World) (o:Obj) (t:TypeId) (a:Value):zK ((w.alloc (.cells #[a] t)).alloc o).drew ((w.alloc (.cells #[a] t)).alloc o).drew.heap.size 1 (some ⟨w.heap.size,0,none⟩) 1 [a]:=
 ((zbn w t a).below (zg _ o)).more (zg (w.alloc (.cells #[a] t)) o).size
theorem zw6 (w:World) (o:Obj) (t:TypeId) (cs:Array Value):Blk ((w.alloc o).alloc (.cells cs t)).drew (w.heap.size+1) t cs:=by
 have h:=Blk.new (w.alloc o) t cs
 rw [World.size_alloc] at h
 exact h
theorem zju {w:World} {g:Nat} {a b:Int} (h:Blk w g 43 #[.int .i64 a,str [49],.int .i64 b,str [48]]):yk w (.slice (some ⟨g,0,none⟩) 2 2) (Vp a b):=
 ⟨_,2,rfl,by simp [Vp],by unfold maxLen;omega,by simp [Vp],Yl (size:=2) (n:=2) (cs:=[.int .i64 a,str [49],.int .i64 b,str [48]]) h rfl,fun x hx=>by simp [Vp] at hx;rcases hx with rfl | rfl<;>(unfold zV;simp)⟩
theorem zqz (w:World):yk w (.slice none 0 0) []:=⟨none,0,rfl,by simp,by unfold maxLen;omega,by simp,zK.none_,fun x hx=>by cases hx⟩
def zzi (n:Net) (cs:List (List UInt8)) (a b:Nat) (w:World) (e:Ending) (w' :World):Prop:=
 ∃ (A:Option Addr) (h:Nat->Rat),e= .returned (.slice A n.nodes.length n.nodes.length)/\Eff n.nodes.length n.pipes.length n.pf n.pt (zl cs) a b h/\xB n.nodes.length h 12735/\zxq w' A n.nodes.length (fun k=>str (zh (h k)))/\Below w.heap.size w w'
theorem zvg (vn vc vl vb:Value) (n:Net) (cs:List (List UInt8)) (l:List Bool) (a b:Nat) (w:World) (hn:Zw w vn n) (hc:yY w vc cs) (hl:yk w vl (Vp a b)) (hb:Zy w vb l) (hm:zde n (fun k=>(k:Int)∈[(a:Int)]) l)
 (h0:n.err=0) (hcn:xw n cs=0) (hN:n.nodes.length<=6) (hp:n.pipes.length<=9) (he:xY n a b=0):
 Calls Tryz.prog 20 #[vn,vc,vl,.slice none 0 0,vb] w (zzi n cs a b w):=by
 obtain ⟨e1,e2,e3,e4,e5,e6⟩:=Yj he
 have hG:=zm3 (b:=b) h0 hcn hN hp (by omega:a<n.nodes.length) hm
 refine (zag vn vc vl (.slice none 0 0) vb n cs (Vp a b) [] l (zl cs) (zal a b) (fun _=>0) w hn hc hl (zqz w) hb (X8 hcn).1 (fun i hi=>((X8 hcn).2 i hi).1) (fun k _=>zpv k)
  (fun k _=>vX.symm) hm.len (Net.err_zero h0).1.1.1.ends hG).mono ?_
 rintro e w' ⟨A,cap,h,rfl,rfl,hIs,hdz,hrd,hbl⟩
 exact ⟨A,h,rfl,zv7 hG (by omega) (by omega) (by omega) hm (by simpa using e6) hIs,hG.commonE hIs,hrd,hbl⟩
theorem zfo {a b:Rat} (w:World) (ha:zG 50000 a) (hb:zG 50000 b) (h:zG 50000 (a+b)):Calls Tryz.prog 22 #[str (zh a),str (zh b)] w (vO w (str (zh (a+b)))):=by
 have h1:=zam (zh a) (zh b) w (yp ha) (yp hb)
 unfold ZE at h1
 rw [Xg ha hb h] at h1
 exact h1
theorem zdu {a b:Rat} (w:World) (ha:zG 50000 a) (hb:zG 50000 b) (h:zG 50000 (a - b)):Calls Tryz.prog 24 #[str (zh a),str (zh b)] w (vO w (str (zh (a - b)))):=by
 have h1:=VE (zh a) (zh b) w (yp ha) (yp hb)
 unfold Vv at h1
 rw [Xg ha hb h] at h1
 exact h1
theorem zat {a b:Rat} (w:World) (ha:zG 50000 a) (hb:zG 50000 b) (h:zG 50000 (a*b)):Calls Tryz.prog 23 #[str (zh a),str (zh b)] w (vO w (str (zh (a*b)))):=by
 have h1:=zbr (zh a) (zh b) w (yp ha) (yp hb)
 unfold VK at h1
 rw [Xg ha hb h] at h1
 exact h1
theorem zr5 {a b:Rat} (w:World) (ha:zG 50000 a) (hb:zG 50000 b) (h0:b≠0) (h:zG 50000 (a / b)):Calls Tryz.prog 41 #[str (zh a),str (zh b)] w (vO w (str (zh (a / b)))):=by
 have h1:=ze2 (zh a) (zh b) w (yp ha) (yp hb)
 unfold zuf at h1
 rw [zhs ha hb h0 h] at h1
 exact h1
theorem zi4 (n:Net) (c h:Nat->Rat) {k i:Nat} (hne:n.pf i≠n.pt i):
 yA (i+1) n.pf n.pt c h k=if n.pf i=k then yA i n.pf n.pt c h k+c i*(h k - h (n.pt i)) else if n.pt i=k then yA i n.pf n.pt c h k+c i*(h k - h (n.pf i)) else yA i n.pf n.pt c h k:=by
 rw [YH]
 by_cases h1:n.pf i=k
 . rw [if_pos h1,if_pos h1,if_neg (fun h2=>hne (h1.trans h2.symm)),h1];grind
 rw [if_neg h1,if_neg h1]
 by_cases h2:n.pt i=k
 . rw [if_pos h2,if_pos h2,h2];grind
 rw [if_neg h2,if_neg h2];grind
def IdxW (K:Nat) (f:Nat->Rat) (W:World) (sv iv:Value) (wr:World):Prop:=∃ i:Nat,i<=K/\iv= .int .i64 i/\sv=str (zh (f i))/\Hid (Below W.heap.size W wr)
theorem zmo (vn vc:Value) (n:Net) (cs:List (List UInt8)) (a b:Int) (w:World) (hn:Zw w vn n) (hc:yY w vc cs) (hsz:n.err=0->n.nodes.length<=6/\n.pipes.length<=9):
 Calls Tryz.prog 7 #[vn,vc,.int .i64 a,.int .i64 b] w (zn2 n cs a b (XD n cs a b) w):=by
 have h1:=fun w' (h:Below w.heap.size w w')=>zfa vn vc n cs w' (hn.below h) (hc.below h)
 have h2:=fun w' (h:Below w.heap.size w w') (h0:n.err=0)=>zga vn n a b w' (hn.below h) h0
 have hjn:=fun w' (h:Below w.heap.size w w') A (hr:zK w' w'.heap.size 1 A 1 [.int .i64 a]) (ha:0<=a/\a<n.nodes.length) (h0:n.err=0)=>Vt vn (.slice A 1 1) n [a] w' (hn.below h) ⟨A,1,rfl,by simp,by unfold maxLen;omega,by simp,hr⟩ (Net.err_zero h0).1.1.1.ends (by omega) (fun z hz=>by simp at hz;subst hz;exact ha)
 have hhd:=fun w' (h:Below w.heap.size w w')=>zag vn vc
 have HNET:=ze hn
 have HCN:=ze hc
 obtain ⟨x,HX⟩:∃ x,Hid (YK n cs=x):=⟨_,ze rfl⟩
 obtain ⟨z,HZ⟩:∃ z,Hid (xY n a b=z):=⟨_,ze rfl⟩
 obtain ⟨y,HY⟩:∃ y,Hid (XD n cs a b=y):=⟨_,ze rfl⟩
 rw [HY.out]
 unfold XD at HY
 rw [HX.out] at h1 HY
 rw [HZ.out] at h2 HY
 obtain ⟨Ac,cc,rfl,_⟩:=hc
 obtain ⟨A0,k0,c0,A1,k1,c1,A2,k2,c2,A3,k3,c3,rfl,hn0,hn1,hn2,hn3⟩:=hn
 have hk0:k0=n.nodes.length:=by obtain ⟨A',c',e,_⟩:=hn0;injection e
 have hk1:k1=n.pipes.length:=by obtain ⟨A',c',e,_⟩:=hn1;injection e
 have HK0:=ze hk0
 have HK1:=ze hk1
 have HN1:=ze hn1
 have HW:=ze (zg w (.cells #[.slice A0 k0 c0,.slice A1 k1 c1,.slice A2 k2 c2,.slice A3 k3 c3] 26))
 have HK:=ze (Blk.new w 26 #[.slice A0 k0 c0,.slice A1 k1 c1,.slice A2 k2 c2,.slice A3 k3 c3])
 clear hn0 hn1 hn2 hn3 hk0 hk1 hhd
 have HSZ:=ze hsz
 have H2:=ze h2
 have HJN:=ze hjn
 clear hsz h2 hjn
 obtain ⟨r0,r1,r2,r3,rL⟩:=yG HK.out
 go_enter Tryz.func7,Tryz.ntmps7
 go_wp2_with fail
 refine (h1 _ HW.out).mono ?_
 rintro e WN ⟨rfl,hbB⟩
 try clear r0 r1 r2 r3 rL
 replace HK:=kb_ HK hbB
 replace HW:=eb_ HW hbB
 clear hbB
 obtain ⟨r0,r1,r2,r3,rL⟩:=yG HK.out
 clear h1
 by_cases h0:x=0
 . subst h0
   have hz:n.err=0/\xw n cs=0:=by
    have h0:=HX.out;unfold YK at h0
    by_cases h3:n.err=0
    . rw [if_neg (by rw [h3];decide)] at h0;exact ⟨h3,h0⟩
    rw [if_pos h3] at h0;exact absurd h0 h3
   have HZ0:=ze hz;clear hz;go_wp2_with fail;refine (H2.out _ HW.out HZ0.out.1).mono ?_;rintro e WN ⟨rfl,hbB⟩
   try clear r0 r1 r2 r3 rL
   replace HK:=kb_ HK hbB;replace HW:=eb_ HW hbB;clear hbB;obtain ⟨r0,r1,r2,r3,rL⟩:=yG HK.out
   by_cases hz0:z=0
   rotate_left
   . have hI:(z != 0)=true:=by rw [bne_iff_ne];exact hz0
     have hyz:Hid (y=z):=ze (by have:=HY.out;rw [if_neg (show ¬ (0:Int)≠0 by simp)] at this;exact this.symm);have HNE:=ze hz0;clear hz0 H2 HY HJN;go_wp2_with fail;go_ret2;rw [hyz.out];exact ⟨HW.out,.inl ⟨HNE.out,rfl⟩⟩
   subst hz0
   have he:=Yj HZ.out;obtain ⟨an,ha⟩:∃ an:Nat,a=(an:Int):=⟨a.toNat,by omega⟩;obtain ⟨bn,hb⟩:∃ bn:Nat,b=(bn:Int):=⟨b.toNat,by omega⟩;subst ha;subst hb;have HE:=ze he;have hyz:Hid (y=0):=ze (by have:=HY.out;rw [if_neg (show ¬ (0:Int)≠0 by simp)] at this;exact this.symm);clear he H2 HY
   go_upto_region 7 with fail
   go_cut [12] from 29 (fun s wc=>∃ (A9:Option Addr) (h:Nat->Rat),s= .slice A9 n.nodes.length n.nodes.length/\Hid (Eff n.nodes.length n.pipes.length n.pf n.pt (zl cs) an bn h)/\Hid (xB n.nodes.length h 12735)/\
    Hid (zxq wc A9 n.nodes.length fun k=>str (zh (h k)))/\Hid (Blk wc w.heap.size 26 #[.slice A0 k0 c0,.slice A1 k1 c1,.slice A2 k2 c2,.slice A3 k3 c3])/\Hid (Below w.heap.size w wc))
   case first=>
    have hj1:=HJN.out (((WN.alloc (.cells #[.int .i64 (an:Int),.string ⟨#[49]⟩,.int .i64 (bn:Int),.string ⟨#[48]⟩] 43)).alloc (.cells #[.int .i64 (an:Int)] 3)).drew) (ext HW.out (vJ WN _ _).out) (some ⟨WN.heap.size+1,0,none⟩) (zo2 WN _ _ _) ⟨HE.out.1,HE.out.2.1⟩ HZ0.out.1;have hL:=((Blk.new WN 43 #[.int .i64 (an:Int),.string ⟨#[49]⟩,.int .i64 (bn:Int),.string ⟨#[48]⟩]).alloc (.cells #[.int .i64 (an:Int)] 3)).drew;have HL0:=ze hL;clear hL;have hj3:=HJN.out ((WN.alloc (.cells #[.int .i64 (an:Int)] 3)).drew) (ext HW.out (zL WN _).out) (some ⟨WN.heap.size,0,none⟩) (zbn WN _ _) ⟨HE.out.1,HE.out.2.1⟩ HZ0.out.1;have hj4:=HJN.out (((WN.alloc (.cells #[.int .i64 (an:Int)] 3)).alloc (.cells #[.int .i64 (an:Int),.string ⟨#[49]⟩,.int .i64 (bn:Int),.string ⟨#[48]⟩] 43)).drew) (ext HW.out (vJ WN _ _).out) (some ⟨WN.heap.size,0,none⟩) (zpj WN _ _ _) ⟨HE.out.1,HE.out.2.1⟩ HZ0.out.1;have HL4:=ze (zw6 WN (.cells #[.int .i64 (an:Int)] 3) 43 #[.int .i64 (an:Int),.string ⟨#[49]⟩,.int .i64 (bn:Int),.string ⟨#[48]⟩])
    (first | (go_region_held3 (fun w' =>Hid (Below WN.heap.size WN w')/\w'.cell? ⟨w.heap.size,0,none⟩=some (.slice A0 k0 c0)/\w'.cell? ⟨w.heap.size,1,none⟩=some (.slice A1 k1 c1)/\w'.cell? ⟨w.heap.size,2,none⟩=some (.slice A2 k2 c2)/\w'.cell? ⟨w.heap.size,3,none⟩=some (.slice A3 k3 c3)/\w.heap.size<w'.heap.size)
      (first
        | (with_reducible refine zx ?_ (fun hB=>⟨zk hB rL r0,zk hB rL r1,zk hB rL r2,zk hB rL r3,zdf hB rL⟩);with_reducible exact z8 _)
        | (go_split_ands;with_reducible refine zx ?_ (fun hB=>⟨zk hB rL r0,zk hB rL r1,zk hB rL r2,zk hB rL r3,zdf hB rL⟩);first | with_reducible exact zu ‹_› ‹_› | with_reducible exact Zj ‹_› | with_reducible exact zL _ _ | (with_reducible exact vJ _ _ _) | (with_reducible exact Zj (zu ‹_› ‹_›))))
      (first
        | (go_at_call 21;(with_reducible refine hj1.mono ?_);rintro e w1 ⟨v1,l,rfl,hv1,hm,hb1⟩;have HV:=ze hv1;have HM:=ze hm;have HL:=ze (zju (HL0.out.below hb1 HL0.out.lt));have HBW:=ze (ext HW.out (ext (vJ WN _ _).out hb1));clear hv1 hm)
        | (go_at_call 20;(with_reducible refine (zvg (.agg #[.slice A0 k0 c0,.slice A1 k1 c1,.slice A2 k2 c2,.slice A3 k3 c3]) (.slice Ac cs.length cc) _ _ n cs l an bn _ (HNET.out.below HBW.out) (HCN.out.below HBW.out) HL.out HV.out HM.out HZ0.out.1 HZ0.out.2 (HSZ.out HZ0.out.1).1 (HSZ.out HZ0.out.1).2 HZ.out).mono ?_);rintro e w2 ⟨A9,h,rfl,hEff,hCom,hrd,hb2⟩;have HEF:=ze hEff;have HCO:=ze hCom;have HRD:=ze hrd;clear hEff hCom hrd)
        | (go_at_call 21;(with_reducible refine hj3.mono ?_);rintro e w1 ⟨v1,l,rfl,hv1,hm,hb1⟩;have HV:=ze (hv1.below (zg w1 (.cells #[.int .i64 (an:Int),.string ⟨#[49]⟩,.int .i64 (bn:Int),.string ⟨#[48]⟩] 43)));have HM:=ze hm;have HL:=ze (zju (Blk.new w1 43 #[.int .i64 (an:Int),.string ⟨#[49]⟩,.int .i64 (bn:Int),.string ⟨#[48]⟩]));have HBW:=ze (ext HW.out (ext (ext (zL WN _).out hb1) (zg w1 (.cells #[.int .i64 (an:Int),.string ⟨#[49]⟩,.int .i64 (bn:Int),.string ⟨#[48]⟩] 43))));clear hv1 hm)
        | (go_at_call 21;(with_reducible refine hj4.mono ?_);rintro e w1 ⟨v1,l,rfl,hv1,hm,hb1⟩;have HV:=ze hv1;have HM:=ze hm;have HL:=ze (zju (HL4.out.below hb1 HL4.out.lt));have HBW:=ze (ext HW.out (ext (vJ WN _ _).out hb1));clear hv1 hm))) | fail "region")
    all_goals
     go_split_ands;have HBZ:=zB (by assumption:Hid (Below WN.heap.size WN _));obtain ⟨w4,hWX,HBY⟩:=(⟨_,rfl,HBZ⟩:∃ X,X=_/\Below WN.heap.size WN X);rw [<- hWX] at HRD |-;clear hWX HBZ
     try clear r0 r1 r2 r3 rL
     replace HK:=kb_ HK HBY;replace HW:=eb_ HW HBY;clear HBY;obtain ⟨r0,r1,r2,r3,rL⟩:=yG HK.out
    all_goals
     go_wp2_with fail;go_meet;exact ⟨A9,h,rfl,HEF,HCO,HRD,HK,HW⟩
   case rest=>
    clear HK HW r0 r1 r2 r3 rL HJN;obtain ⟨A9,h,rfl,HEF,HCO,HRD,HK,HW⟩:=hcut;obtain ⟨r0,r1,r2,r3,rL⟩:=yG HK.out;have HEN:=ze (Net.err_zero HZ0.out.1).1.1.1.ends;have HCG:=ze (X8 HZ0.out.2);have HNP:=ze (HSZ.out HZ0.out.1).2;obtain ⟨S,HT⟩:∃ S,Hid (zik n.nodes.length n.pipes.length (zl cs) h S (12735+108)):=znm (fun i hi=>VH (HCG.out.2 i (by have:=HCG.out.1;omega)).2.1) HNP.out HCO.out;have hk1000:k1<=9:=by have:=HNP.out;have:=HK1.out;omega
    have HAN:=ze HEF.out.ha;generalize hN:n.nodes.length=N at HRD HT HCO HEF HAN HK0 |-;have HN:=ze hN;clear hN;go_wp2_with fail;rw [show ([48]:List UInt8)=zh (yA 0 n.pf n.pt (zl cs) h an) from vX.symm];clear r0 r1 r2 r3 rL
    go_loopw [13,44] (IdxW k1 (fun i=>yA i n.pf n.pt (zl cs) h an) wc) (fun _ iv _=>k1 - (intOf iv).toNat)
    case atStart=>exact ⟨0,Nat.zero_le _,rfl,rfl,ze (zP wc)⟩
    case round=>
     obtain ⟨i,hi,rfl,rfl,HWR⟩:=hrel
     by_cases hil:i<k1
     rotate_left
     . obtain rfl:k1=i:=by omega
       go_wp2_with fail;go_ret2;refine ⟨ext HW.out HWR.out,.inr ⟨hyz.out,h,?_,?_,?_⟩⟩
       . rw [HN.out];exact HEF.out
       . rw [HN.out];exact HCO.out
       . rw [<- HK1.out];rfl
     have hin:i<n.pipes.length:=by have:=HK1.out;omega
     have hii:(i:Int)<(k1:Int):=by omega
     obtain ⟨ad,e1,hb,p0,p1,p2,p3,p4⟩:=(HN1.out.below (ext HW.out HWR.out)).at_ hin;subst e1;have hic:i<cs.length:=by have:=HCG.out.1;omega
     obtain ⟨ac,e2,lc,qc⟩:=Vw (HCN.out.below (ext HW.out HWR.out)) hic;subst e2;have hci:=HCG.out.2 i hic;rw [hci.1] at qc;have hcs:zG 50000 (zl cs i):=Dz.short (zG.sz hci.2.1) (show 12<50000 by omega);have hcc:vS (cs.getD i [])=zl cs i:=rfl;rw [hcc] at qc;obtain ⟨q1,q2,q3,q4⟩:=HEN.out i hin;rw [q1] at p1;rw [q3] at p2;have hf0:n.pf i<N:=HEF.out.piped.from_lt i hin;have ht0:n.pt i<N:=HEF.out.piped.to_lt i hin;have hne:n.pf i≠n.pt i:=HEF.out.piped.ne i hin;obtain ⟨a9,e3,l9,h9⟩:=(HRD.out.below HWR.out).at_ hf0;subst e3;have u1:=h9 _ hf0;have u2:=h9 _ ht0;have hx:=zg wr (.cells #[str n.pipes[i].name,.int .i64 (n.pf i:Int),.int .i64 (n.pt i:Int),str n.pipes[i].low,str n.pipes[i].high] 41);have hff:(n.pf i:Int)<(N:Int):=by omega
     have htt:(n.pt i:Int)<(N:Int):=by omega
     have hll:(i:Int)<(cs.length:Int):=by omega
     have hst:=zi4 n (zl cs) h (k:=an) hne;have s0:zG 50000 (yA i n.pf n.pt (zl cs) h an):=HT.out.flow_short (by omega) HEF.out.piped HNP.out an (by omega);have s9:zG 50000 (yA (i+1) n.pf n.pt (zl cs) h an):=HT.out.flow_short (by omega) HEF.out.piped HNP.out an (by omega);clear hci hcc q1 q2 q3 q4 h9
     by_cases hp1:n.pf i=an
     . rw [if_pos hp1] at hst
       have hI1:((an:Int) == (n.pf i:Int))=true:=by rw [beq_iff_eq,hp1]
       clear hp1;have hea:=HEF.out.ea;have s1:zG 50000 (1 - h (n.pt i)):=by rw [<- hea];exact HCO.out.diff (by omega) HAN.out ht0
       have s2:zG 50000 (zl cs i*(1 - h (n.pt i))):=by rw [<- hea];exact HT.out.short (by omega) hin HAN.out ht0
       have sx:zG 50000 (h (n.pt i)):=Dz.short (HCO.out.get ht0) (by omega);rw [hea] at hst;rw [hst] at s9;have hmi:=fun w' =>zdu w' (Dz.short zcy (by omega)) sx s1
       have htm:=fun w' =>zat w' hcs s1 s2
       have hpl:=fun w' =>zfo w' s0 s2 s9
       rw [ZZ] at hmi;have HNX:=ze (congrArg zh hst);generalize hX1:zh (h (n.pt i))=x1 at u2 hmi;generalize hX2:zh (1 - h (n.pt i))=x2 at hmi htm;generalize hX3:zh (zl cs i*(1 - h (n.pt i)))=x3 at htm hpl;generalize hX4:zh (zl cs i)=x4 at htm qc;generalize hX5:zh (yA i n.pf n.pt (zl cs) h an+zl cs i*(1 - h (n.pt i)))=x5 at hpl HNX;generalize hX6:zh (yA i n.pf n.pt (zl cs) h an)=x6 at hpl |-;clear s0 s1 s2 s9 sx hst hea hcs hne hf0 ht0 hX1 hX2 hX3 hX4 hX5 hX6;go_wp2_with fail;have HP:=ze (Blk.new wr 41 #[str n.pipes[i].name,.int .i64 (n.pf i:Int),.int .i64 (n.pt i:Int),str n.pipes[i].low,str n.pipes[i].high]);have u2:=(hx.cell (by rw [zy];exact l9)).trans u2;have qc:=(hx.cell (by rw [zy];exact lc)).trans qc;have l9:=Nat.lt_of_lt_of_le l9 hx.size;have lc:=Nat.lt_of_lt_of_le lc hx.size;clear p0 p1 p2 p3 p4 hb u1;replace HWR:=eb_ HWR hx;generalize wr.alloc (.cells #[str n.pipes[i].name,.int .i64 (n.pf i:Int),.int .i64 (n.pt i:Int),str n.pipes[i].low,str n.pipes[i].high] 41)=WP at HP HWR hx u2 qc l9 lc |-;generalize wr.heap.size=q at HP |-;clear hx;have c1:=HP.out.cell 1
       have c2:=HP.out.cell 2;have cL:=HP.out.lt;simp only [List.getElem?_toArray,List.getElem?_cons_succ,List.getElem?_cons_zero] at c1 c2;clear HP;have c2g:=zF cL c2;have qcg:=vW lc qc;have u2g:=vW l9 u2;refine xe (by kernel_rfl) (by kernel_rfl) ?_
       repeat (quiet_step (first | (go_at_call 24;exact zR (hmi _)) | (go_at_call 23;exact zR (htm _)) | (go_at_call 22;exact zR (hpl _))))
       refine wpQuiet_nil ?_;rintro w9 ⟨t9,rfl⟩;clear c2g qcg u2g;have hbB:=yq WP t9;replace HWR:=eb_ HWR hbB;generalize grown WP t9=WQ at hbB HWR |-;clear t9;clear c1 c2 cL qc lc u2 l9 hbB hmi htm hpl;go_wp2_with fail;go_round
       case rel=>exact ⟨i+1,by omega,by go_num,congrArg str HNX.out.symm,HWR⟩
       case measure=>simp [intOf];omega
     rw [if_neg hp1] at hst
     have hI1:((an:Int) == (n.pf i:Int))=false:=by rw [beq_eq_false_iff_ne];omega
     clear hp1
     by_cases hp2:n.pt i=an
     rotate_left
     . rw [if_neg hp2] at hst
       have hI2:((an:Int) == (n.pt i:Int))=false:=by rw [beq_eq_false_iff_ne];omega
       have HNX:=ze (congrArg zh hst);generalize zh (yA i n.pf n.pt (zl cs) h an)=x6 at HNX |-;clear s0 s9 hst hcs hne hp2 hf0 ht0 u1 u2 qc lc l9;go_wp2_with fail;replace HWR:=eb_ HWR hx;go_round
       case rel=>exact ⟨i+1,by omega,by go_num,congrArg str HNX.out.symm,HWR⟩
       case measure=>simp [intOf];omega
     rw [if_pos hp2] at hst
     have hI2:((an:Int) == (n.pt i:Int))=true:=by rw [beq_iff_eq,hp2]
     clear hp2;have hea:=HEF.out.ea;have s1:zG 50000 (1 - h (n.pf i)):=by rw [<- hea];exact HCO.out.diff (by omega) HAN.out hf0
     have s2:zG 50000 (zl cs i*(1 - h (n.pf i))):=by rw [<- hea];exact HT.out.short (by omega) hin HAN.out hf0
     have sx:zG 50000 (h (n.pf i)):=Dz.short (HCO.out.get hf0) (by omega);rw [hea] at hst;rw [hst] at s9;have hmi:=fun w' =>zdu w' (Dz.short zcy (by omega)) sx s1
     have htm:=fun w' =>zat w' hcs s1 s2
     have hpl:=fun w' =>zfo w' s0 s2 s9
     rw [ZZ] at hmi;have HNX:=ze (congrArg zh hst);generalize hX1:zh (h (n.pf i))=x1 at u1 hmi;generalize hX2:zh (1 - h (n.pf i))=x2 at hmi htm;generalize hX3:zh (zl cs i*(1 - h (n.pf i)))=x3 at htm hpl;generalize hX4:zh (zl cs i)=x4 at htm qc;generalize hX5:zh (yA i n.pf n.pt (zl cs) h an+zl cs i*(1 - h (n.pf i)))=x5 at hpl HNX;generalize hX6:zh (yA i n.pf n.pt (zl cs) h an)=x6 at hpl |-;clear s0 s1 s2 s9 sx hst hea hcs hne hf0 ht0 hX1 hX2 hX3 hX4 hX5 hX6;go_wp2_with fail;have HP:=ze (Blk.new wr 41 #[str n.pipes[i].name,.int .i64 (n.pf i:Int),.int .i64 (n.pt i:Int),str n.pipes[i].low,str n.pipes[i].high]);have u1:=(hx.cell (by rw [zy];exact l9)).trans u1;have qc:=(hx.cell (by rw [zy];exact lc)).trans qc;have l9:=Nat.lt_of_lt_of_le l9 hx.size;have lc:=Nat.lt_of_lt_of_le lc hx.size;clear p0 p1 p2 p3 p4 hb u2;replace HWR:=eb_ HWR hx;generalize wr.alloc (.cells #[str n.pipes[i].name,.int .i64 (n.pf i:Int),.int .i64 (n.pt i:Int),str n.pipes[i].low,str n.pipes[i].high] 41)=WP at HP HWR hx u1 qc l9 lc |-;generalize wr.heap.size=q at HP |-;clear hx;have c1:=HP.out.cell 1
     have c2:=HP.out.cell 2;have cL:=HP.out.lt;simp only [List.getElem?_toArray,List.getElem?_cons_succ,List.getElem?_cons_zero] at c1 c2;clear HP;have c1g:=zF cL c1;have qcg:=vW lc qc;have u1g:=vW l9 u1;refine xe (by kernel_rfl) (by kernel_rfl) ?_
     repeat (quiet_step (first | (go_at_call 24;exact zR (hmi _)) | (go_at_call 23;exact zR (htm _)) | (go_at_call 22;exact zR (hpl _))))
     refine wpQuiet_nil ?_;rintro w9 ⟨t9,rfl⟩;clear c1g qcg u1g;have hbB:=yq WP t9;replace HWR:=eb_ HWR hbB;generalize grown WP t9=WQ at hbB HWR |-;clear t9;clear c1 c2 cL qc lc u1 l9 hbB hmi htm hpl;go_wp2_with fail;go_round
     case rel=>exact ⟨i+1,by omega,by go_num,congrArg str HNX.out.symm,HWR⟩
     case measure=>simp [intOf];omega
 . have hI:(x != 0)=true:=by rw [bne_iff_ne];exact h0
   have hyz:Hid (y=x):=ze (by have:=HY.out;rw [if_pos h0] at this;exact this.symm);have HNE:=ze h0;clear h0 H2 HY HJN;go_wp2_with fail;go_ret2;rw [hyz.out];exact ⟨HW.out,.inl ⟨HNE.out,rfl⟩⟩
 end Go.Proofs.YtacfcmdlgebhgaaGreat
namespace Go.Proofs.YtacfcmdlgebhgaaGreat
open Go.RowKit Go.Deep
attribute [local go_sem ↓] Go.wp_at_zero Go.wp_at_succ
noncomputable def xj (n:Net) (a b:Int) (gs:List (List UInt8)) (many:Int):Int:=
 if n.err≠0 then n.err else if xY n a b≠0 then xY n a b else if (gs.length:Int)≠many then 1 else if (∃ g∈gs,(zp g).isSome=false) then 4 else 0
theorem zok (g:List UInt8) (w:World) (hs:zV g):Calls Tryz.prog 68 #[str g] w (vO w (.bool (!(zp g).isSome))):=by
 have h:=fun w=>zei ⟨g.toArray⟩ w (yE hs)
 rw [yy] at h
 obtain ⟨b,hb⟩:∃ b,(zp g).isSome=b:=⟨_,rfl⟩
 rw [hb] at h |-
 clear hb hs
 go_enter Tryz.func68,Tryz.ntmps68
 go_wp2_with fail
 refine (h _).mono ?_
 rintro e w1 ⟨rfl,hb1⟩
 have HW:=ze hb1
 clear hb1 h
 go_wp2_with fail
 go_ret
 exact ⟨rfl,HW.out⟩
theorem zfl (vn vg:Value) (n:Net) (a b:Int) (gs:List (List UInt8)) (many:Int) (w:World) (hn:Zw w vn n) (hg:yY w vg gs):
 Calls Tryz.prog 35 #[vn,.int .i64 a,.int .i64 b,vg,.int .i64 many] w (vO w (.int .i64 (xj n a b gs many))):=by
 have h1:=fun w' (h:Below w.heap.size w w')=>ze5 vn n w' (hn.below h)
 have h2:=fun w' (h:Below w.heap.size w w') (h0:n.err=0)=>zga vn n a b w' (hn.below h) h0
 have HGN:=ze hg
 obtain ⟨Ag,cg,rfl,hg2,hg3,hg4,hg5,hg6⟩:=hg
 have h3:=fun w' (h:Below w.heap.size w w')=>ztc Ag gs.length cg gs 68 (fun k=> !(zp (gs.getD k [])).isSome) w' (HGN.out.below h) (zjc Tryz.func68 (by rfl) (by rfl)) (fun k hk w2 _=>by
  have:=zok gs[k] w2 (hg6 _ (List.getElem_mem hk))
  simpa [List.getD,List.getElem?_eq_getElem hk] using this)
 rw [zi1] at h3
 obtain ⟨r,HR⟩:∃ r,Hid (xj n a b gs many=r):=⟨_,ze rfl⟩
 rw [HR.out]
 unfold xj at HR
 obtain ⟨x,HX⟩:∃ x,Hid (n.err=x):=⟨_,ze rfl⟩
 obtain ⟨z,HZ⟩:∃ z,Hid (xY n a b=z):=⟨_,ze rfl⟩
 obtain ⟨bb,HB⟩:∃ bb,Hid (decide (∃ g∈gs,(zp g).isSome=false)=bb):=⟨_,ze rfl⟩
 rw [HX.out] at h1 HR
 rw [HZ.out] at h2 HR
 rw [HB.out] at h3
 obtain ⟨A0,k0,c0,A1,k1,c1,A2,k2,c2,A3,k3,c3,rfl,hn0,hn1,hn2,hn3⟩:=hn
 have HW:=ze (zg w (.cells #[.slice A0 k0 c0,.slice A1 k1 c1,.slice A2 k2 c2,.slice A3 k3 c3] 26))
 have HK:=ze (Blk.new w 26 #[.slice A0 k0 c0,.slice A1 k1 c1,.slice A2 k2 c2,.slice A3 k3 c3])
 have H2:=ze h2
 clear hn0 hn1 hn2 hn3 hg2 hg3 hg4 hg5 hg6 h2
 obtain ⟨r0,r1,r2,r3,rL⟩:=yG HK.out
 by_cases h0:x=0
 rotate_left
 . have hI:(x != 0)=true:=by rw [bne_iff_ne];exact h0
   have HF:Hid (r=x):=ze (by have:=HR.out;rw [if_pos h0] at this;exact this.symm);clear HR h0 h3 H2
   go_enter Tryz.func35,Tryz.ntmps35
   go_wp2_with fail;refine (h1 _ HW.out).mono ?_;rintro e WN ⟨rfl,hbB⟩
   try clear r0 r1 r2 r3 rL
   replace HK:=kb_ HK hbB;replace HW:=eb_ HW hbB;clear hbB;obtain ⟨r0,r1,r2,r3,rL⟩:=yG HK.out;go_wp2_with fail;go_ret;exact ⟨zr HF.out,HW.out⟩
 subst h0
 by_cases hz:z=0
 rotate_left
 . have hI:(z != 0)=true:=by rw [bne_iff_ne];exact hz
   have HF:Hid (r=z):=ze (by have:=HR.out;rw [if_neg (show ¬ (0:Int)≠0 by simp),if_pos hz] at this;exact this.symm);clear HR hz h3
   go_enter Tryz.func35,Tryz.ntmps35
   go_wp2_with fail;refine (h1 _ HW.out).mono ?_;rintro e WN ⟨rfl,hbB⟩
   try clear r0 r1 r2 r3 rL
   replace HK:=kb_ HK hbB;replace HW:=eb_ HW hbB;clear hbB;obtain ⟨r0,r1,r2,r3,rL⟩:=yG HK.out;go_wp2_with fail;refine (H2.out _ HW.out HX.out).mono ?_;rintro e WN ⟨rfl,hbB⟩
   try clear r0 r1 r2 r3 rL
   replace HK:=kb_ HK hbB;replace HW:=eb_ HW hbB;clear hbB;obtain ⟨r0,r1,r2,r3,rL⟩:=yG HK.out;go_wp2_with fail;go_ret;exact ⟨zr HF.out,HW.out⟩
 subst hz
 have HR2:Hid ((if (gs.length:Int)≠many then 1 else if (∃ g∈gs,(zp g).isSome=false) then 4 else 0)=r):=ze (by have:=HR.out;rw [if_neg (show ¬ (0:Int)≠0 by simp),if_neg (show ¬ (0:Int)≠0 by simp)] at this;exact this);clear HR
 by_cases hl:(gs.length:Int)=many
 rotate_left
 . have hI:((gs.length:Int) != many)=true:=by rw [bne_iff_ne];exact hl
   have HF:Hid (r=1):=ze (by have:=HR2.out;rw [if_pos hl] at this;exact this.symm);clear HR2 hl h3
   go_enter Tryz.func35,Tryz.ntmps35
   go_wp2_with fail;refine (h1 _ HW.out).mono ?_;rintro e WN ⟨rfl,hbB⟩
   try clear r0 r1 r2 r3 rL
   replace HK:=kb_ HK hbB;replace HW:=eb_ HW hbB;clear hbB;obtain ⟨r0,r1,r2,r3,rL⟩:=yG HK.out;go_wp2_with fail;refine (H2.out _ HW.out HX.out).mono ?_;rintro e WN ⟨rfl,hbB⟩
   try clear r0 r1 r2 r3 rL
   replace HK:=kb_ HK hbB;replace HW:=eb_ HW hbB;clear hbB;obtain ⟨r0,r1,r2,r3,rL⟩:=yG HK.out;go_wp2_with fail;go_ret;exact ⟨zr HF.out,HW.out⟩
 have hI:((gs.length:Int) != many)=false:=by rw [hl];simp
 have HR3:Hid ((if (∃ g∈gs,(zp g).isSome=false) then 4 else 0)=r):=ze (by have:=HR2.out;rw [if_neg (show ¬ (gs.length:Int)≠many by simpa using hl)] at this;exact this);clear HR2 hl
 cases bb with
 | true=>
   have HF:Hid (r=4):=ze (by rw [<- HR3.out,if_pos (of_decide_eq_true HB.out)]);clear HR3
   go_enter Tryz.func35,Tryz.ntmps35
   go_wp2_with fail;refine (h1 _ HW.out).mono ?_;rintro e WN ⟨rfl,hbB⟩
   try clear r0 r1 r2 r3 rL
   replace HK:=kb_ HK hbB;replace HW:=eb_ HW hbB;clear hbB;obtain ⟨r0,r1,r2,r3,rL⟩:=yG HK.out;go_wp2_with fail;refine (H2.out _ HW.out HX.out).mono ?_;rintro e WN ⟨rfl,hbB⟩
   try clear r0 r1 r2 r3 rL
   replace HK:=kb_ HK hbB;replace HW:=eb_ HW hbB;clear hbB;obtain ⟨r0,r1,r2,r3,rL⟩:=yG HK.out;go_wp2_with fail;refine (h3 _ HW.out).mono ?_;rintro e WN ⟨rfl,hbB⟩
   try clear r0 r1 r2 r3 rL
   replace HK:=kb_ HK hbB;replace HW:=eb_ HW hbB;clear hbB;obtain ⟨r0,r1,r2,r3,rL⟩:=yG HK.out;go_wp2_with fail;go_ret;exact ⟨zr HF.out,HW.out⟩
 | false=>
   have HF:Hid (r=0):=ze (by rw [<- HR3.out,if_neg (of_decide_eq_false HB.out)]);clear HR3
   go_enter Tryz.func35,Tryz.ntmps35
   go_wp2_with fail;refine (h1 _ HW.out).mono ?_;rintro e WN ⟨rfl,hbB⟩
   try clear r0 r1 r2 r3 rL
   replace HK:=kb_ HK hbB;replace HW:=eb_ HW hbB;clear hbB;obtain ⟨r0,r1,r2,r3,rL⟩:=yG HK.out;go_wp2_with fail;refine (H2.out _ HW.out HX.out).mono ?_;rintro e WN ⟨rfl,hbB⟩
   try clear r0 r1 r2 r3 rL
   replace HK:=kb_ HK hbB;replace HW:=eb_ HW hbB;clear hbB;obtain ⟨r0,r1,r2,r3,rL⟩:=yG HK.out;go_wp2_with fail;refine (h3 _ HW.out).mono ?_;rintro e WN ⟨rfl,hbB⟩
   try clear r0 r1 r2 r3 rL
   replace HK:=kb_ HK hbB;replace HW:=eb_ HW hbB;clear hbB;obtain ⟨r0,r1,r2,r3,rL⟩:=yG HK.out;go_wp2_with fail;go_ret;exact ⟨zr HF.out,HW.out⟩
section
variable {w w' :World} {g:Nat} {l:List (List UInt8)} {rest:List Value}
end
theorem zjj {l:List (List UInt8)} {i:Nat} {q:Rat} (hi:i<l.length) (h:l[i]=zh q) (hq:zG 50000 q):zl l i=q:=by
 unfold zl
 have e:l.getD i []=zh q:=by simp [List.getD,List.getElem?_eq_getElem hi,h]
 rw [e]
 unfold vS
 rw [yv hq];rfl
def Sq (N np:Nat) (c g:Nat->Rat) (S:Int) (F:Nat):Prop:=S≠0/\S.natAbs<=10 ^ F/\∀ i,i<np->∀ x,x<N->∀ y,y<N->xq S (10 ^ (F+1)) (c i*((g x - g y)*(g x - g y)))
theorem zyw {N np E:Nat} {c g:Nat->Rat} (hc:∀ i,i<np->Dz 12 (c i)) (hnp:np<=9) (hC:xB N g E):∃ S,Sq N np c g S (E+E+108):=by
 obtain ⟨T,t1,t2,t3⟩:=hC
 obtain ⟨p1,p2⟩:=XG hc
 have hp:10 ^ (12*np)<=10 ^ 108:=Nat.pow_le_pow_right (by omega) (by omega)
 refine ⟨(vT np (fun j=>(c j).den):Int)*(T*T),Int.mul_ne_zero (by omega) (Int.mul_ne_zero t1 t1),?_,fun i hi x hx y hy=>?_⟩
 . rw [Int.natAbs_mul,Int.natAbs_natCast,Int.natAbs_mul,Nat.add_comm (E+E),Nat.pow_add,Nat.pow_add (m:=E)]
   exact Nat.mul_le_mul (Nat.le_trans p1 hp) (Nat.mul_le_mul t2 t2)
 refine ((xq.prod hc hi).mul (((t3 x hx).sub (t3 y hy)).mul ((t3 x hx).sub (t3 y hy)))).mono ?_
 rw [show E+E+108+1=108+(E+E+1) by omega,Nat.pow_add,Nat.pow_add (m:=E+E),Nat.pow_add (m:=E)];refine Nat.mul_le_mul hp ?_;generalize 10 ^ E=Y;rw [show (Y+Y)*(Y+Y)=4*(Y*Y) by rw [<- Nat.two_mul,Nat.mul_mul_mul_comm]]
 omega
section
variable {N np F:Nat} {pf pt:Nat->Nat} {c g:Nat->Rat} {S:Int}
theorem Sq.short (t:Sq N np c g S F) (hF:F<49990) {i x y:Nat} (hi:i<np) (hx:x<N) (hy:y<N):zG 50000 (c i*((g x - g y)*(g x - g y))):=
 Dz.short (e:=F+1) ((t.2.2 i hi x hx y hy).sz t.1 (Nat.le_refl _) (Nat.le_trans t.2.1 (Nat.pow_le_pow_right (by omega) (by omega)))) (by omega)
theorem Sq.sum (t:Sq N np c g S F) (hf:∀ i,i<np->pf i<N) (ht:∀ i,i<np->pt i<N) (hnp:np<=9) {n:Nat} (hn:n<=np):Dz (F+2) (cross n pf pt c g g):=by
 have h1:xq S (n*10 ^ (F+1)) (cross n pf pt c g g):=xq.sum fun i hi=>by
  have:=t.2.2 i (by omega) _ (hf i (by omega)) _ (ht i (by omega))
  rw [<- Rat.mul_assoc] at this
  exact this
 refine h1.sz t.1 ?_ (Nat.le_trans t.2.1 (Nat.pow_le_pow_right (by omega) (by omega)))
 rw [show F+2=F+1+1 by omega,Nat.pow_succ (n:=10) (m:=F+1),Nat.mul_comm]
 exact Nat.mul_le_mul (Nat.le_refl _) (by omega)
theorem zha (n:Nat) (pf pt:Nat->Nat) (c g h:Nat->Rat):cross (n+1) pf pt c g h=cross n pf pt c g h+c n*(g (pf n) - g (pt n))*(h (pf n) - h (pt n)):=rfl
end
theorem xB.diff_dz {n E:Nat} {h:Nat->Rat} (hc:xB n h E) {x y:Nat} (hx:x<n) (hy:y<n):Dz (E+1) (h x - h y):=by
 obtain ⟨T,h1,h2,h3⟩:=hc
 refine ((h3 x hx).sub (h3 y hy)).sz h1 ?_ (Nat.le_trans h2 (Nat.pow_le_pow_right (by omega) (by omega)))
 rw [Nat.pow_succ];omega
theorem zeg (q:Rat):zh q≠[]:=by
 intro h
 unfold zh at h
 rw [List.append_eq_nil_iff,List.append_eq_nil_iff] at h
 exact zwd _ h.1.2
def xt (n:Net):Nat->Rat:=fun i=>vS (n.pipes.getD i default).high
def Zl (n:Net):Nat->Rat:=fun i=>vS (n.pipes.getD i default).low
theorem Net.bounds {n:Net} (h:n.P3) {i:Nat} (hi:i<n.pipes.length):n.pipes[i].high=zh (xt n i)/\Dz 12 (xt n i)/\n.pipes[i].low=zh (Zl n i)/\Dz 12 (Zl n i)/\0<Zl n i/\Zl n i<=xt n i:=by
 have h0:=Net.pipe_ends (zN.1 h.2.2 i hi)
 have e:n.pipes.getD i default=n.pipes[i]:=by simp [List.getD,List.getElem?_eq_getElem hi]
 obtain ⟨_,_,_,_,_,h1,h2,h3,h4⟩:=h0
 obtain ⟨q,a1,a2,a3,a4⟩:=vF h1
 obtain ⟨r,b1,b2,b3,b4⟩:=vF h2
 unfold xt Zl
 rw [e] at*
 refine ⟨?_,?_,?_,?_,?_,?_⟩
 . rw [b3];exact b4
 . rw [b3];exact zG.sz b2
 . rw [a3];exact a4
 . rw [a3];exact zG.sz a2
 . grind
 . grind
noncomputable def VM (n:Net) (a b:Int) (gs:List (List UInt8)):Int:=
 if xj n a b gs n.nodes.length≠0 then xj n a b gs n.nodes.length else if gs.getD a.toNat []≠[49]\/gs.getD b.toNat []≠[48] then 8 else 0
def znd (n:Net) (gs:List (List UInt8)) (x:Int) (w:World) (e:Ending) (w' :World):Prop:=
 Below w.heap.size w w' /\((x≠0/\e= .returned (.tuple #[str [],.int .i64 x]))\/
  (x=0/\e= .returned (.tuple #[str (zh (cross n.pipes.length n.pf n.pt (xt n) (zl gs) (zl gs))),.int .i64 0])))
theorem Vr {n:Net} {a b:Int} {gs:List (List UInt8)} {many:Int} (h:xj n a b gs many=0):n.err=0/\xY n a b=0/\(gs.length:Int)=many/\∀ i (hi:i<gs.length),gs[i]=zh (zl gs i)/\zG 50000 (zl gs i):=by
 unfold xj at h
 by_cases h1:n.err=0
 rotate_left
 . rw [if_pos h1] at h;exact absurd h h1
 rw [if_neg (by rw [h1];simp)] at h
 by_cases h2:xY n a b=0
 rotate_left
 . rw [if_pos h2] at h;exact absurd h h2
 rw [if_neg (by rw [h2];simp)] at h
 by_cases h3:(gs.length:Int)=many
 rotate_left
 . rw [if_pos h3] at h;cases h
 rw [if_neg (by simpa using h3)] at h
 by_cases h4:(∃ g∈gs,(zp g).isSome=false)
 . rw [if_pos h4] at h;cases h
 refine ⟨h1,h2,h3,fun i hi=>?_⟩
 have h5:(zp gs[i]).isSome=true:=by
  cases hs:(zp gs[i]).isSome with
  | true=>rfl
  | false=>exact absurd ⟨gs[i],List.getElem_mem hi,hs⟩ h4
 obtain ⟨q,hq⟩:=Option.isSome_iff_exists.1 h5;have hr:=yR.1 hq;have:zl gs i=q:=zjj hi hr.1 hr.2;rw [this];exact hr
def AbvR (K:Nat) (f:Nat->Rat) (W:World) (sv iv:Value) (wr:World):Prop:=∃ i:Nat,i<=K/\iv= .int .i64 i/\sv=str (zh (f i))/\Hid (Below W.heap.size W wr)
theorem zkv (vn vg:Value) (n:Net) (a b:Int) (gs:List (List UInt8)) (w:World) (hn:Zw w vn n) (hg:yY w vg gs) (hsz:n.err=0->n.nodes.length<=6/\n.pipes.length<=9)
 (hcom:xj n a b gs n.nodes.length=0->xB n.nodes.length (zl gs) 12735):
 Calls Tryz.prog 9 #[vn,.int .i64 a,.int .i64 b,vg] w (znd n gs (VM n a b gs) w):=by
 have h1:=fun w' (h:Below w.heap.size w w')=>zfl vn vg n a b gs n.nodes.length w' (hn.below h) (hg.below h)
 have HGN:=ze hg
 obtain ⟨x,HX⟩:∃ x,Hid (xj n a b gs n.nodes.length=x):=⟨_,ze rfl⟩
 obtain ⟨y,HY⟩:∃ y,Hid (VM n a b gs=y):=⟨_,ze rfl⟩
 rw [HY.out]
 unfold VM at HY
 rw [HX.out] at h1 HY hcom
 obtain ⟨Ag,cg,rfl,_⟩:=hg
 obtain ⟨A0,k0,c0,A1,k1,c1,A2,k2,c2,A3,k3,c3,rfl,hn0,hn1,hn2,hn3⟩:=hn
 have hk0:k0=n.nodes.length:=by obtain ⟨A',c',e,_⟩:=hn0;injection e
 have hk1:k1=n.pipes.length:=by obtain ⟨A',c',e,_⟩:=hn1;injection e
 have HK0:=ze hk0
 have HK1:=ze hk1
 have HN1:=ze hn1
 have HSZ:=ze hsz
 have HCM:=ze hcom
 have HW:=ze (zg w (.cells #[.slice A0 k0 c0,.slice A1 k1 c1,.slice A2 k2 c2,.slice A3 k3 c3] 26))
 have HK:=ze (Blk.new w 26 #[.slice A0 k0 c0,.slice A1 k1 c1,.slice A2 k2 c2,.slice A3 k3 c3])
 rw [<- hk0] at h1
 clear hn0 hn1 hn2 hn3 hk0 hk1 hsz hcom
 obtain ⟨r0,r1,r2,r3,rL⟩:=yG HK.out
 go_enter Tryz.func9,Tryz.ntmps9
 go_wp2_with fail
 refine (h1 _ HW.out).mono ?_
 rintro e WN ⟨rfl,hbB⟩
 try clear r0 r1 r2 r3 rL
 replace HK:=kb_ HK hbB
 replace HW:=eb_ HW hbB
 clear hbB
 obtain ⟨r0,r1,r2,r3,rL⟩:=yG HK.out
 clear h1
 by_cases h0:x=0
 rotate_left
 . have hI:(x != 0)=true:=by rw [bne_iff_ne];exact h0
   have hyz:Hid (y=x):=ze (by have:=HY.out;rw [if_pos h0] at this;exact this.symm);have HNE:=ze h0;clear h0 HY;go_wp2_with fail;go_ret2;rw [hyz.out];exact ⟨HW.out,.inl ⟨HNE.out,rfl⟩⟩
 subst h0
 obtain ⟨he0,he1,hlen,hgs⟩:=Vr HX.out;have he:=Yj he1;have hlen' :gs.length=k0:=by have:=HK0.out;omega
 obtain ⟨an,ha⟩:∃ an:Nat,a=(an:Int):=⟨a.toNat,by omega⟩;obtain ⟨bn,hb⟩:∃ bn:Nat,b=(bn:Int):=⟨b.toNat,by omega⟩;subst ha;subst hb;have han:an<gs.length:=by omega
 have hbn:bn<gs.length:=by omega
 obtain ⟨ag,e1,lg,qa⟩:=Vw (HGN.out.below HW.out) han;subst e1;obtain ⟨ag',e1',_,qb⟩:=Vw (HGN.out.below HW.out) hbn;injection e1' with e1'
 subst e1';have hga:gs.getD an []=gs[an]:=by simp [List.getD,List.getElem?_eq_getElem han]
 have hgb:gs.getD bn []=gs[bn]:=by simp [List.getD,List.getElem?_eq_getElem hbn]
 have HY2:Hid ((if gs.getD an []≠[49]\/gs.getD bn []≠[48] then 8 else 0)=y):=ze (by
  have h:=HY.out;rw [if_neg (show ¬ (0:Int)≠0 by simp)] at h
  exact h)
 have HGA:=ze hga;have HGB:=ze hgb;have HE0:=ze he0;have HGS:=ze hgs;have HLEN:=ze hlen';have hai:(an:Int)<(gs.length:Int):=by omega
 have hbi:(bn:Int)<(gs.length:Int):=by omega
 clear he0 he1 hlen hgs he hlen' hga hgb HY
 by_cases g1:gs[an]=[49]
 rotate_left
 . have hyz:Hid (y=8):=ze (by rw [<- HY2.out,if_pos (.inl (fun h=>g1 (HGA.out.symm.trans h)))])
   have hI:(gs[an] == [49])=false:=by rw [beq_eq_false_iff_ne];exact g1
   clear g1 HY2 qb;generalize gs[an]=ta at qa hI;go_wp2_with fail;go_ret2;rw [hyz.out];exact ⟨HW.out,.inl ⟨by decide,rfl⟩⟩
 by_cases g2:gs[bn]=[48]
 rotate_left
 . have hyz:Hid (y=8):=ze (by rw [<- HY2.out,if_pos (.inr (fun h=>g2 (HGB.out.symm.trans h)))])
   rw [g1] at qa;have hI:(gs[bn] == [48])=false:=by rw [beq_eq_false_iff_ne];exact g2
   generalize gs[bn]=tb at qb hI;clear g1 g2 HY2;go_wp2_with fail;go_ret2;rw [hyz.out];exact ⟨HW.out,.inl ⟨by decide,rfl⟩⟩
 have hyz:Hid (y=0):=ze (by rw [<- HY2.out,if_neg (by rintro (h | h);exact h (HGA.out.trans g1);exact h (HGB.out.trans g2))])
 rw [g1] at qa;rw [g2] at qb;clear g1 g2 HY2 HGA HGB;go_wp2_with fail;rw [show ([48]:List UInt8)=zh (cross 0 n.pf n.pt (xt n) (zl gs) (zl gs)) from vX.symm];have HEN:=ze (Net.err_zero HE0.out).1.1.1.ends;have HP3:=ze (Net.err_zero HE0.out).1.1.1;have hnp:=(HSZ.out HE0.out).2;obtain ⟨S,HT⟩:∃ S,Hid (Sq n.nodes.length n.pipes.length (xt n) (zl gs) S (12735+12735+108)):=zyw (fun i hi=>(Net.bounds HP3.out hi).2.1) hnp (HCM.out trivial);have HCO:=ze (HCM.out trivial);have HNP:=ze hnp;have hk1000:k1<=9:=by have:=HK1.out;omega
 have hgk:gs.length<=6:=by have:=(HSZ.out HE0.out).1;have:=HLEN.out;have:=HK0.out;omega
 clear r0 r1 r2 r3 rL qa qb lg hnp
 go_loopw [11,41] (AbvR k1 (fun i=>cross i n.pf n.pt (xt n) (zl gs) (zl gs)) WN) (fun _ iv _=>k1 - (intOf iv).toNat)
 case atStart=>exact ⟨0,Nat.zero_le _,rfl,rfl,ze (zP WN)⟩
 case round=>
  obtain ⟨i,hi,rfl,rfl,HWR⟩:=hrel
  by_cases hil:i<k1
  rotate_left
  . obtain rfl:k1=i:=by omega
    rw [HK1.out];have hne:(zh (cross n.pipes.length n.pf n.pt (xt n) (zl gs) (zl gs)) == [])=false:=by rw [beq_eq_false_iff_ne];exact zeg _
    go_wp2_with fail;go_ret2;exact ⟨ext HW.out HWR.out,.inr ⟨hyz.out,rfl⟩⟩
  have hin:i<n.pipes.length:=by have:=HK1.out;omega
  have hii:(i:Int)<(k1:Int):=by omega
  obtain ⟨ad,e1,hb,p0,p1,p2,p3,p4⟩:=(HN1.out.below (ext HW.out HWR.out)).at_ hin;subst e1;obtain ⟨q1,q2,q3,q4⟩:=HEN.out i hin;have hf0:n.pf i<gs.length:=by have:=HLEN.out;have:=HK0.out;omega
  have ht0:n.pt i<gs.length:=by have:=HLEN.out;have:=HK0.out;omega
  rw [q1] at p1;rw [q3] at p2;obtain ⟨a9,e3,l9,u1⟩:=Vw (HGN.out.below (ext HW.out HWR.out)) hf0;injection e3 with e3
  subst e3;obtain ⟨a9',e3',_,u2⟩:=Vw (HGN.out.below (ext HW.out HWR.out)) ht0;injection e3' with e3'
  subst e3';rw [(HGS.out _ hf0).1] at u1;rw [(HGS.out _ ht0).1] at u2;have hh:=Net.bounds HP3.out hin;rw [hh.1] at p4;have s1:zG 50000 (zl gs (n.pf i) - zl gs (n.pt i)):=HCO.out.diff (by omega) q2 q4;have sd:Dz (12735+1) (zl gs (n.pf i) - zl gs (n.pt i)):=HCO.out.diff_dz q2 q4;have s2:zG 50000 ((zl gs (n.pf i) - zl gs (n.pt i))*(zl gs (n.pf i) - zl gs (n.pt i))):=Dz.short (Dz.mul sd sd (Nat.le_refl _)) (by omega);have s3:zG 50000 (xt n i*((zl gs (n.pf i) - zl gs (n.pt i))*(zl gs (n.pf i) - zl gs (n.pt i)))):=HT.out.short (by omega) hin q2 q4;have s4:zG 50000 (cross i n.pf n.pt (xt n) (zl gs) (zl gs)):=Dz.short (HT.out.sum (fun i hi=>(HEN.out i hi).2.1) (fun i hi=>(HEN.out i hi).2.2.2) HNP.out (by omega)) (by omega);have s5:zG 50000 (cross (i+1) n.pf n.pt (xt n) (zl gs) (zl gs)):=Dz.short (HT.out.sum (fun i hi=>(HEN.out i hi).2.1) (fun i hi=>(HEN.out i hi).2.2.2) HNP.out (by omega)) (by omega);have hst:cross (i+1) n.pf n.pt (xt n) (zl gs) (zl gs)=cross i n.pf n.pt (xt n) (zl gs) (zl gs)+xt n i*((zl gs (n.pf i) - zl gs (n.pt i))*(zl gs (n.pf i) - zl gs (n.pt i))):=by rw [zha,Rat.mul_assoc]
  rw [hst] at s5;have hmi:=fun w' =>zdu w' (HGS.out _ hf0).2 (HGS.out _ ht0).2 s1
  have ht1:=fun w' =>zat w' s1 s1 s2
  have ht2:=fun w' =>zat w' (Dz.short hh.2.1 (by omega)) s2 s3
  have hpl:=fun w' =>zfo w' s4 s3 s5
  have HNX:=ze (congrArg zh hst);have hff:(n.pf i:Int)<(gs.length:Int):=by omega
  have htt:(n.pt i:Int)<(gs.length:Int):=by omega
  have hx:=zg wr (.cells #[str n.pipes[i].name,.int .i64 (n.pf i:Int),.int .i64 (n.pt i:Int),str n.pipes[i].low,str n.pipes[i].high] 41);have e4:n.pipes[i].high=zh (xt n i):=hh.1;generalize hX1:zh (zl gs (n.pf i))=x1 at u1 hmi;generalize hX2:zh (zl gs (n.pt i))=x2 at u2 hmi;generalize hX3:zh (zl gs (n.pf i) - zl gs (n.pt i))=x3 at hmi ht1;generalize hX4:zh ((zl gs (n.pf i) - zl gs (n.pt i))*(zl gs (n.pf i) - zl gs (n.pt i)))=x4 at ht1 ht2;generalize hX5:zh (xt n i*((zl gs (n.pf i) - zl gs (n.pt i))*(zl gs (n.pf i) - zl gs (n.pt i))))=x5 at ht2 hpl;generalize hX6:zh (cross i n.pf n.pt (xt n) (zl gs) (zl gs)+xt n i*((zl gs (n.pf i) - zl gs (n.pt i))*(zl gs (n.pf i) - zl gs (n.pt i))))=x6 at hpl HNX;generalize hX7:zh (cross i n.pf n.pt (xt n) (zl gs) (zl gs))=x7 at hpl |-;generalize hX8:zh (xt n i)=x8 at ht2 p4;clear s1 sd s2 s3 s4 s5 hst q1 q2 q3 q4 hh e4 hf0 ht0 hX1 hX2 hX3 hX4 hX5 hX6 hX7 hX8;go_wp2_with fail;have hx:=zg wr (.cells #[str n.pipes[i].name,.int .i64 (n.pf i:Int),.int .i64 (n.pt i:Int),str n.pipes[i].low,str x8] 41)
  have HP:=ze (Blk.new wr 41 #[str n.pipes[i].name,.int .i64 (n.pf i:Int),.int .i64 (n.pt i:Int),str n.pipes[i].low,str x8]);have u1:=(hx.cell (by rw [zy];exact l9)).trans u1;have u2:=(hx.cell (by rw [zy];exact l9)).trans u2;have l9:=Nat.lt_of_lt_of_le l9 hx.size;clear p0 p1 p2 p3 p4 hb;replace HWR:=eb_ HWR hx;generalize wr.alloc (.cells #[str n.pipes[i].name,.int .i64 (n.pf i:Int),.int .i64 (n.pt i:Int),str n.pipes[i].low,str x8] 41)=WP at HP HWR hx u1 u2 l9 |-;generalize wr.heap.size=q at HP |-;clear hx;obtain ⟨c0,c1,c2,c3,c4,cL⟩:=zj9 HP.out;have c1g:=zF cL c1;have c2g:=zF cL c2;have u1g:=vW l9 u1;have u2g:=vW l9 u2;refine xe (by kernel_rfl) (by kernel_rfl) ?_
  repeat (quiet_step (first | (go_at_call 24;exact zR (hmi _))))
  refine wpQuiet_nil ?_;rintro w9 ⟨t9,rfl⟩;clear c1g c2g u1g u2g;have hbB:=yq WP t9
  try clear c0 c1 c2 c3 c4 cL
  replace HWR:=eb_ HWR hbB;replace HP:=kb_ HP hbB;generalize grown WP t9=WQ at hbB HWR HP |-;clear t9;obtain ⟨c0,c1,c2,c3,c4,cL⟩:=zj9 HP.out;clear u1 u2 l9 hbB hmi;go_wp2_with fail;have c4g:=zF cL c4;refine xe (by kernel_rfl) (by kernel_rfl) ?_
  repeat (quiet_step (first | (go_at_call_of 23 (str x3);exact zR (ht1 _)) | (go_at_call_of 23 (str x8);exact zR (ht2 _)) | (go_at_call 22;exact zR (hpl _))))
  refine wpQuiet_nil ?_;rintro w9 ⟨t9,rfl⟩;clear c4g;have hbB:=yq WQ t9
  try clear c0 c1 c2 c3 c4 cL
  replace HWR:=eb_ HWR hbB;replace HP:=kb_ HP hbB;generalize grown WQ t9=WS at hbB HWR HP |-;clear t9;obtain ⟨c0,c1,c2,c3,c4,cL⟩:=zj9 HP.out;clear hbB ht1 ht2 hpl c0 c1 c2 c3 c4 cL HP;go_wp2_with fail;go_round
  case rel=>exact ⟨i+1,by omega,by go_num,congrArg str HNX.out.symm,HWR⟩
  case measure=>simp [intOf];omega
end Go.Proofs.YtacfcmdlgebhgaaGreat
namespace Go.Proofs.YtacfcmdlgebhgaaGreat
open Go.RowKit Go.Deep
theorem Dz.inv {e:Nat} {q:Rat} (h:Dz e q) (h0:q≠0):Dz e (1 / q):=by
 have hn:q.num≠0:=fun h=>h0 (Rat.num_eq_zero.1 h)
 refine zkk (s:=q.num) (M:=q.den) hn ?_ (by rw [Int.natAbs_natCast];exact h.2) h.1
 rw [<- VZ q, <- Rat.mul_assoc,Rat.div_mul_cancel h0,Rat.one_mul]
def zxv (np:Nat) (c f:Nat->Rat) (S:Int) (F:Nat):Prop:=S≠0/\S.natAbs<=10 ^ F/\∀ i,i<np->xq S (10 ^ F) (f i*f i / c i)
theorem zsh {np E:Nat} {c f:Nat->Rat} (hc:∀ i,i<np->Dz 12 (c i)) (h0:∀ i,i<np->0<c i) (hnp:np<=9) (hC:xB np f E):∃ S,zxv np c f S (E+E+108):=by
 obtain ⟨T,t1,t2,t3⟩:=hC
 have hd:∀ i,i<np->Dz 12 (1 / c i):=fun i hi=>(hc i hi).inv (by have:=h0 i hi;grind)
 obtain ⟨p1,p2⟩:=XG hd
 have hp:10 ^ (12*np)<=10 ^ 108:=Nat.pow_le_pow_right (by omega) (by omega)
 refine ⟨(vT np (fun j=>(1 / c j).den):Int)*(T*T),Int.mul_ne_zero (by omega) (Int.mul_ne_zero t1 t1),?_,fun i hi=>?_⟩
 . rw [Int.natAbs_mul,Int.natAbs_natCast,Int.natAbs_mul,Nat.add_comm (E+E),Nat.pow_add,Nat.pow_add (m:=E)]
   exact Nat.mul_le_mul (Nat.le_trans p1 hp) (Nat.mul_le_mul t2 t2)
 have h1:=(xq.prod hd hi).mul ((t3 i hi).mul (t3 i hi))
 rw [show 1 / c i*(f i*f i)=f i*f i / c i by rw [Rat.div_def,Rat.div_def,Rat.one_mul,Rat.mul_comm]] at h1;refine h1.mono ?_;rw [Nat.add_comm (E+E),Nat.pow_add,Nat.pow_add (m:=E)];exact Nat.mul_le_mul hp (Nat.le_refl _)
def Zv (n:Nat) (c f:Nat->Rat):Rat:=yi n fun i=>f i*f i / c i
theorem Va (n:Nat) (c f:Nat->Rat):Zv (n+1) c f=Zv n c f+f n*f n / c n:=rfl
section
variable {np F:Nat} {c f:Nat->Rat} {S:Int}
theorem zxv.one (t:zxv np c f S F) {i:Nat} (hi:i<np):Dz F (f i*f i / c i):=(t.2.2 i hi).sz t.1 (Nat.le_refl _) t.2.1
theorem zxv.sum (t:zxv np c f S F) (hnp:np<=9) {n:Nat} (hn:n<=np):Dz (F+1) (Zv n c f):=by
 have h1:xq S (n*10 ^ F) (Zv n c f):=xq.sum fun i hi=>t.2.2 i (by omega)
 refine h1.sz t.1 ?_ (Nat.le_trans t.2.1 (Nat.pow_le_pow_right (by omega) (by omega)))
 rw [Nat.pow_succ,Nat.mul_comm]
 exact Nat.mul_le_mul (Nat.le_refl _) (by omega)
theorem zll (hc:∀ i,i<np->0<c i):∀ n,n<=np->0<=Zv n c f:=by
 intro n
 induction n with
 | zero=>intro _;exact Rat.le_refl
 | succ n ih=>
   intro hn;rw [Va];have h1:=ih (by omega)
   have h2:0<=f n*f n / c n:=by
    rw [Rat.div_def];exact Rat.mul_nonneg (VC _) (Rat.le_of_lt (Rat.inv_pos.2 (hc n (by omega))))
   grind
theorem znv (hc:∀ i,i<np->0<c i):∀ n,n<=np->(∃ i,i<n/\f i≠0)->0<Zv n c f:=by
 intro n
 induction n with
 | zero=>rintro _ ⟨i,hi,_⟩;omega
 | succ n ih=>
   rintro hn ⟨i,hi,h0⟩;rw [Va];have h1:=zll (f:=f) hc n (by omega);have hv:=Rat.inv_pos.2 (hc n (by omega))
   have h2:0<=f n*f n / c n:=by
    rw [Rat.div_def];exact Rat.mul_nonneg (VC _) (Rat.le_of_lt hv)
   by_cases hn0:f n=0
   . have h3:=ih (by omega) ⟨i,by
      have:i≠n:=fun h=>h0 (h ▸ hn0)
      omega,h0⟩
     grind
   have h3:0<f n*f n / c n:=by
    rw [Rat.div_def];refine Rat.mul_pos ?_ hv
    have h4:f n*f n≠0:=by
     intro h
     rcases Rat.mul_eq_zero.1 h with h | h<;>exact hn0 h
    have h5:=VC (f n)
    grind
   grind
theorem zh3 (n:Nat) (pf pt:Nat->Nat) (f:Nat->Rat) (k:Nat):yN (n+1) pf pt f k=yN n pf pt f k+((if pf n=k then f n else 0)+(if pt n=k then -(f n) else 0)):=rfl
theorem zg6 {E:Nat} (h:xB np f E) (hnp:np<=9) (pf pt:Nat->Nat) (k:Nat) {n:Nat} (hn:n<=np):Dz (E+2) (yN n pf pt f k):=by
 obtain ⟨T,t1,t2,t3⟩:=h
 have h1:xq T (n*(10 ^ E+10 ^ E)) (yN n pf pt f k):=xq.sum fun i hi=>by
  have h2:=t3 i (by omega)
  refine xq.add ?_ ?_
  . by_cases h:pf i=k
    . rw [if_pos h];exact h2
    rw [if_neg h];exact xq.zero _ _
  by_cases h:pt i=k
  . rw [if_pos h];exact h2.neg
  rw [if_neg h];exact xq.zero _ _
 refine h1.sz t1 ?_ (Nat.le_trans t2 (Nat.pow_le_pow_right (by omega) (by omega)))
 rw [Nat.pow_add,show 10 ^ 2=100 from rfl,Nat.mul_comm]
 generalize 10 ^ E=Y
 have:(Y+Y)*n<=(Y+Y)*9:=Nat.mul_le_mul (Nat.le_refl _) (by omega)
 omega
theorem zrt {E:Nat} (h:xB np f E) {i:Nat} (hi:i<np):Dz E (f i):=by
 obtain ⟨T,t1,t2,t3⟩:=h
 exact (t3 i hi).sz t1 (Nat.le_refl _) t2
theorem Yb.some {N a b:Nat} {pf pt:Nat->Nat} (h:Yb N np pf pt a b f) (ha:a<N):∃ i,i<np/\f i≠0:=by
 apply Classical.byContradiction
 intro hx
 have h0:∀ i,i<np->f i=0:=fun i hi=>Classical.byContradiction fun h=>hx ⟨i,hi,h⟩
 have h1:=h a ha
 rw [if_pos rfl] at h1
 have h2:yN np pf pt f a=0:=by
  unfold yN
  rw [zJ (g:=fun _=>0) (fun i hi=>by simp only [h0 i hi];grind),vY]
 rw [h2] at h1
 exact absurd h1 (by decide)
end
noncomputable def VL (n:Net) (a b:Int) (fs:List (List UInt8)):Int:=
 if xj n a b fs n.pipes.length≠0 then xj n a b fs n.pipes.length else @ite _ (Yb n.nodes.length n.pipes.length n.pf n.pt a.toNat b.toNat (zl fs)) (Classical.propDecidable _) 0 8
def znc (n:Net) (fs:List (List UInt8)) (x:Int) (w:World) (e:Ending) (w' :World):Prop:=
 Below w.heap.size w w' /\((x≠0/\e= .returned (.tuple #[str [],.int .i64 x]))\/
  (x=0/\e= .returned (.tuple #[str (zh (1 / Zv n.pipes.length (Zl n) (zl fs))),.int .i64 0])))
def Xl (a b k:Nat):Rat:=if k=a then 1 else if k=b then -1 else 0
end Go.Proofs.YtacfcmdlgebhgaaGreat
namespace Go.Proofs.YtacfcmdlgebhgaaGreat
open Go.RowKit Go.Deep
attribute [local go_sem ↓] Go.wp_at_zero Go.wp_at_succ
theorem zi9:zh (-1)=[45,49]:=by
 have h1:(-1:Rat).num= -1:=rfl
 have h2:(-1:Rat).den=1:=rfl
 have h3:dec 1=[49]:=by have h:=ZZ;unfold zh at h;simpa using h
 unfold zh
 rw [h1,h2]
 simp [h3]
def Vg (i:Nat):Nat->Value:=fun j=>str (if j<i then [48] else [])
theorem zs3 (i:Nat):Vg (i+1) i=str [48]:=by unfold Vg;rw [if_pos (by omega)]
theorem zo7 {i j:Nat} (h:j≠i):Vg (i+1) j=Vg i j:=by
 unfold Vg
 by_cases h1:j<i
 . rw [if_pos h1,if_pos (by omega)]
 rw [if_neg h1,if_neg (by omega)]
def zbd (f:Nat->Rat):Nat->Value:=fun j=>str (zh (f j))
theorem zru (pf pt:Nat->Nat) (f:Nat->Rat) (k:Nat):yN 0 pf pt f k=0:=rfl
theorem zhz {n:Nat} {pf pt:Nat->Nat} {f:Nat->Rat} (h:pf n≠pt n):yN (n+1) pf pt f (pf n)=yN n pf pt f (pf n)+f n:=by
 rw [zh3,if_pos rfl,if_neg (fun e=>h e.symm)];grind
theorem ztb {n:Nat} {pf pt:Nat->Nat} {f:Nat->Rat} (h:pf n≠pt n):yN (n+1) pf pt f (pt n)=yN n pf pt f (pt n) - f n:=by
 rw [zh3,if_pos rfl,if_neg h];grind
theorem zr0 {n:Nat} {pf pt:Nat->Nat} {f:Nat->Rat} {k:Nat} (h1:k≠pf n) (h2:k≠pt n):yN (n+1) pf pt f k=yN n pf pt f k:=by
 rw [zh3,if_neg (fun e=>h1 e.symm),if_neg (fun e=>h2 e.symm)];grind
theorem Net.pf_ne {n:Net} (h:n.P3) {i:Nat} (hi:i<n.pipes.length):n.pf i≠n.pt i:=by
 have h0:=Net.pipe_ends (zN.1 h.2.2 i hi)
 unfold Net.pf Net.pt
 omega
def BlwZ (K g:Nat) (W:World) (iv:Value) (wr:World):Prop:=∃ i:Nat,i<=K/\iv= .int .i64 i/\Hid (xE wr g 28 K (Vg i))/\Hid (Below W.heap.size W wr)
def BlwS (K N g:Nat) (n:Net) (f:Nat->Rat) (W:World) (sv iv:Value) (wr:World):Prop:=
 ∃ i:Nat,i<=K/\iv= .int .i64 i/\sv=str (zh (Zv i (Zl n) f))/\Hid (xE wr g 28 N (zbd (yN i n.pf n.pt f)))/\Hid (Below W.heap.size W wr)
def BlwC (N:Nat) (ok:Nat->Prop) (W:World) (iv:Value) (wr:World):Prop:=
 ∃ i:Nat,i<=N/\iv= .int .i64 i/\Hid (∀ j,j<i->ok j)/\Hid (Below W.heap.size W wr)
def ztn (WN:World) (q:Nat) (cs:Array Value) (w:World):Prop:=Below WN.heap.size WN w/\Blk w q 41 cs
theorem Zu {WN w:World} {q:Nat} {cs:Array Value} {v1 v2:Value} (h1:cs[1]?=some v1) (h2:cs[2]?=some v2) (h:ztn WN q cs w):Hid (ztn WN q cs w)/\w.cell? ⟨q,1,none⟩=some v1/\w.cell? ⟨q,2,none⟩=some v2:=
 ⟨ze h,(h.2.cell 1).trans h1,(h.2.cell 2).trans h2⟩
theorem zvk {WN w:World} {q:Nat} {cs:Array Value} (h:Hid (ztn WN q cs w)):ztn WN q cs w.drew:=⟨zo h.out.1 1,h.out.2⟩
theorem V6 {WN w w' :World} {q:Nat} {cs:Array Value} (h:Hid (ztn WN q cs w)) (hb:Below w.heap.size w w'):ztn WN q cs w' :=⟨ext h.out.1 hb,h.out.2.below hb h.out.2.lt⟩
theorem zbw {WN w:World} {q g k:Nat} {cs:Array Value} {v:Value} (h:Hid (ztn WN q cs w)) (hq:Hid (g≠q)) (hg:Hid (WN.heap.size<=g)):ztn WN q cs (w.setCell ⟨g,k,none⟩ v):=
 ⟨h.out.1.setCell (p:=⟨g,k,none⟩) hg.out v,h.out.2.far (p:=⟨g,k,none⟩) (fun e=>hq.out e.symm) v⟩
theorem zlk (vn vg:Value) (n:Net) (a b:Int) (fs:List (List UInt8)) (w:World) (hn:Zw w vn n) (hg:yY w vg fs) (hsz:n.err=0->n.nodes.length<=6/\n.pipes.length<=9)
 (hcom:xj n a b fs n.pipes.length=0->xB n.pipes.length (zl fs) 13000):
 Calls Tryz.prog 11 #[vn,.int .i64 a,.int .i64 b,vg] w (znc n fs (VL n a b fs) w):=by
 have h1:=fun w' (h:Below w.heap.size w w')=>zfl vn vg n a b fs n.pipes.length w' (hn.below h) (hg.below h)
 have HGN:=ze hg
 obtain ⟨x,HX⟩:∃ x,Hid (xj n a b fs n.pipes.length=x):=⟨_,ze rfl⟩
 obtain ⟨y,HY⟩:∃ y,Hid (VL n a b fs=y):=⟨_,ze rfl⟩
 rw [HY.out]
 unfold VL at HY
 rw [HX.out] at h1 HY hcom
 obtain ⟨Ag,cg,rfl,_⟩:=hg
 obtain ⟨A0,k0,c0,A1,k1,c1,A2,k2,c2,A3,k3,c3,rfl,hn0,hn1,hn2,hn3⟩:=hn
 have hk0:k0=n.nodes.length:=by obtain ⟨A',c',e,_⟩:=hn0;injection e
 have hk1:k1=n.pipes.length:=by obtain ⟨A',c',e,_⟩:=hn1;injection e
 have HK0:=ze hk0
 have HK1:=ze hk1
 have HN1:=ze hn1
 have HSZ:=ze hsz
 have HCM:=ze hcom
 have HW:=ze (zg w (.cells #[.slice A0 k0 c0,.slice A1 k1 c1,.slice A2 k2 c2,.slice A3 k3 c3] 26))
 have HK:=ze (Blk.new w 26 #[.slice A0 k0 c0,.slice A1 k1 c1,.slice A2 k2 c2,.slice A3 k3 c3])
 rw [<- hk1] at h1
 clear hn0 hn1 hn2 hn3 hk0 hk1 hsz hcom
 obtain ⟨r0,r1,r2,r3,rL⟩:=yG HK.out
 go_enter Tryz.func11,Tryz.ntmps11
 go_wp2_with fail
 refine (h1 _ HW.out).mono ?_
 rintro e WN ⟨rfl,hbB⟩
 try clear r0 r1 r2 r3 rL
 replace HK:=kb_ HK hbB
 replace HW:=eb_ HW hbB
 clear hbB
 obtain ⟨r0,r1,r2,r3,rL⟩:=yG HK.out
 clear h1
 by_cases h0:x=0
 rotate_left
 . have hI:(x != 0)=true:=by rw [bne_iff_ne];exact h0
   have hyz:Hid (y=x):=ze (by have:=HY.out;rw [if_pos h0] at this;exact this.symm);have HNE:=ze h0;clear h0 HY;go_wp2_with fail;go_ret2;rw [hyz.out];exact ⟨HW.out,.inl ⟨HNE.out,rfl⟩⟩
 subst h0
 obtain ⟨he0,he1,hlen,hgs⟩:=Vr HX.out;have he:=Yj he1;have hlen' :fs.length=k1:=by have:=HK1.out;omega
 obtain ⟨an,ha⟩:∃ an:Nat,a=(an:Int):=⟨a.toNat,by omega⟩;obtain ⟨bn,hb⟩:∃ bn:Nat,b=(bn:Int):=⟨b.toNat,by omega⟩;subst ha;subst hb;have HAN:Hid (an<n.nodes.length):=ze (by omega);have HAB:Hid (an≠bn):=ze (by omega)
 have HY2:Hid (@ite Int (Yb n.nodes.length n.pipes.length n.pf n.pt an bn (zl fs)) (Classical.propDecidable _) 0 8=y):=ze (by
  have h:=HY.out;rw [if_neg (show ¬ (0:Int)≠0 by simp)] at h
  exact h)
 have HE0:=ze he0;have HGS:=ze hgs;have HLEN:=ze hlen';have hsz:=HSZ.out he0;have hk06:k0<=6:=by have:=HK0.out;omega
 have hk19:k1<=9:=by have:=HK1.out;omega
 have HEN:=ze (Net.err_zero he0).1.1.1.ends;have HP3:=ze (Net.err_zero he0).1.1.1;have HNP:=ze hsz.2;have HCO:=ze (HCM.out rfl);obtain ⟨S,HT⟩:∃ S,Hid (zxv n.pipes.length (Zl n) (zl fs) S (13000+13000+108)):=zsh (fun i hi=>(Net.bounds HP3.out hi).2.2.2.1) (fun i hi=>(Net.bounds HP3.out hi).2.2.2.2.1) hsz.2 (HCM.out rfl);have hmk:=fun w=>zns .i64 k0 (by omega) w
 clear he0 he1 hlen hgs he hlen' hsz HY HX HCM;go_wp2_with fail;clear hmk;have hRO:xE (WN.alloc (.cells (row k0 fun _=>str []).toArray 28)) WN.heap.size 28 k0 (Vg 0):=xE.congr (f:=fun _=>str []) (Blk.new WN 28 (row k0 fun _=>str []).toArray) (fun k _=>by unfold Vg;rw [if_neg (by omega)]);have HRO:=ze hRO;have HBZ:=ze (zg WN (.cells (row k0 fun _=>str []).toArray 28));obtain ⟨g,hgg⟩:∃ g,g=WN.heap.size:=⟨_,rfl⟩;have HGG:=ze hgg;rw [<- hgg] at HRO HBZ |-;clear hRO hgg;generalize WN.alloc (.cells (row k0 fun _=>str []).toArray 28)=WM at HRO HBZ |-;rw [HGG.out] at HBZ;clear r0 r1 r2 r3 rL
 go_loopw [37] (BlwZ k0 g WN) (fun iv _=>k0 - (intOf iv).toNat)
 case atStart=>exact ⟨0,Nat.zero_le _,rfl,HRO,HBZ⟩
 case round=>
  obtain ⟨i,hi,rfl,HRO,HBZ⟩:=hrel
  by_cases hil:i<k0
  . have hii:(i:Int)<(k0:Int):=by omega
    have c2:=HRO.out.cell hil;have f2:=HRO.out.frozen i;have l2:=HRO.out.lt;unfold Vg at c2;rw [if_neg (by omega)] at c2;have HR3:=ze (HRO.out.set_ (k:=i) (v:=str [48]) (f' :=Vg (i+1)) (zs3 i) (fun j _ hj=>zo7 hj));have HB3:=ze (HBZ.out.setCell (p:=⟨g,i,none⟩) (by rw [HGG.out];exact Nat.le_refl _) (str [48]));go_wp2_with fail;go_round
    case rel=>exact ⟨i+1,by omega,by go_num,HR3,HB3⟩
    case measure=>simp [intOf];omega
  obtain rfl:k0=i:=by omega
  have HRO:Hid (xE wr g 28 k0 (zbd (yN 0 n.pf n.pt (zl fs)))):=ze (HRO.out.congr fun k hk=>by unfold Vg zbd;rw [if_pos hk,zru,vX]);have hgl:=HRO.out.lt;have HGL:=ze hgl;clear hgl;have r1:=(HK.out.below HBZ.out HK.out.lt).cell 1;have rL:=Nat.lt_of_lt_of_le HK.out.lt HBZ.out.size;simp at r1;go_wp2_with fail;clear r1 rL;rw [show ([48]:List UInt8)=zh (Zv 0 (Zl n) (zl fs)) from vX.symm]
  go_loopw [13,47] (BlwS k1 k0 g n (zl fs) WN) (fun _ iv _=>k1 - (intOf iv).toNat)
  case atStart=>exact ⟨0,Nat.zero_le _,rfl,rfl,HRO,HBZ⟩
  case round=>
   clear HRO HBZ HGL;obtain ⟨j,hj,rfl,rfl,HRO,HBZ⟩:=hrel
   by_cases hjl:j<k1
   rotate_left
   . obtain rfl:k1=j:=by omega
     obtain ⟨WL,rfl⟩:∃ WL,WL=wr:=⟨_,rfl⟩;have HRF:=HRO;have HWL:=ze (ext HW.out HBZ.out);clear HRO HBZ;have HLN:=ze (show Zv k1 (Zl n) (zl fs)=Zv n.pipes.length (Zl n) (zl fs) by rw [HK1.out]);rw [HLN.out];have HDN:Hid (∀ k,yN k1 n.pf n.pt (zl fs) k=yN n.pipes.length n.pf n.pt (zl fs) k):=ze (fun k=>by rw [HK1.out]);go_wp2_with fail
     go_loopw [89] (BlwC k0 (fun k=>yN n.pipes.length n.pf n.pt (zl fs) k=Xl an bn k) WL) (fun iv _=>k0 - (intOf iv).toNat)
     case atStart=>exact ⟨0,Nat.zero_le _,rfl,ze (fun j h=>absurd h (Nat.not_lt_zero _)),ze (zP WL)⟩
     case round=>
      obtain ⟨k,hk,rfl,HOK,HWR⟩:=hrel
      by_cases hkl:k<k0
      rotate_left
      . obtain rfl:k0=k:=by omega
        have hu:Yb n.nodes.length n.pipes.length n.pf n.pt an bn (zl fs):=fun k hk=>HOK.out k (by have:=HK0.out;omega)
        have hyz:Hid (y=0):=ze (by rw [<- HY2.out,if_pos hu]);have hlp:0<Zv n.pipes.length (Zl n) (zl fs):=znv (fun i hi=>(Net.bounds HP3.out hi).2.2.2.2.1) _ (Nat.le_refl _) (hu.some HAN.out);have hld:=HT.out.sum HNP.out (Nat.le_refl _);have hl0:Zv n.pipes.length (Zl n) (zl fs)≠0:=by grind
        have hov:=fun w' =>zr5 w' (Dz.short zcy (by omega)) (hld.short (by omega)) hl0 ((hld.inv hl0).short (by omega))
        rw [ZZ] at hov;have hne:(zh (1 / Zv n.pipes.length (Zl n) (zl fs)) == [])=false:=by rw [beq_eq_false_iff_ne];exact zeg _
        clear hu hlp hld hl0;go_wp2_with fail;refine (hov _).mono ?_;rintro e WN ⟨rfl,hbB⟩;replace HWR:=eb_ HWR hbB;clear hbB;clear hov;go_wp2_with fail;go_ret2;exact ⟨ext HWL.out HWR.out,.inr ⟨hyz.out,rfl⟩⟩
      have hkk:(k:Int)<(k0:Int):=by omega
      have u1:=(HRF.out.below HWR.out).cell hkl;unfold zbd at u1;rw [HDN.out] at u1
      have H8:Hid (yN n.pipes.length n.pf n.pt (zl fs) k≠Xl an bn k->y=8):=ze (fun h=>by
       rw [<- HY2.out,if_neg];intro hu
       exact h (hu k (by have:=HK0.out;omega)))
      have HNX:Hid (yN n.pipes.length n.pf n.pt (zl fs) k=Xl an bn k->∀ j,j<k+1->yN n.pipes.length n.pf n.pt (zl fs) j=Xl an bn j):=ze (fun h j hj=>by
       rcases Nat.lt_or_ge j k with h1 | h1
       . exact HOK.out j h1
       . obtain rfl:j=k:=by omega
         exact h)
      by_cases g1:k=an
      . have hI1:((k:Int) == (an:Int))=true:=by rw [beq_iff_eq,g1]
        have hwt:Xl an bn k=1:=by unfold Xl;rw [if_pos g1]
        have HWT:=ze hwt;clear g1 hwt
        by_cases hw:yN n.pipes.length n.pf n.pt (zl fs) k=1
        . have HNX:=ze (HNX.out (hw.trans HWT.out.symm))
          rw [hw,ZZ] at u1;clear hw;go_wp2_with fail;go_round
          case rel=>exact ⟨k+1,by omega,by go_num,HNX,HWR⟩
          case measure=>simp [intOf];omega
        have hyz:=ze (H8.out (by rw [HWT.out];exact hw))
        have hI3:(zh (yN n.pipes.length n.pf n.pt (zl fs) k) == [49])=false:=by
         rw [beq_eq_false_iff_ne, <- ZZ];exact fun h=>hw (vZ h)
        generalize zh (yN n.pipes.length n.pf n.pt (zl fs) k)=tx at u1 hI3;clear hw;go_wp2_with fail;go_ret2;rw [hyz.out];exact ⟨ext HWL.out HWR.out,.inl ⟨by decide,rfl⟩⟩
      have hI1:((k:Int) == (an:Int))=false:=by rw [beq_eq_false_iff_ne];omega
      by_cases g2:k=bn
      . have hI2:((k:Int) == (bn:Int))=true:=by rw [beq_iff_eq,g2]
        have hwt:Xl an bn k= -1:=by unfold Xl;rw [if_neg g1,if_pos g2]
        have HWT:=ze hwt;clear g1 g2 hwt
        by_cases hw:yN n.pipes.length n.pf n.pt (zl fs) k= -1
        . have HNX:=ze (HNX.out (hw.trans HWT.out.symm))
          rw [hw,zi9] at u1;clear hw;go_wp2_with fail;go_round
          case rel=>exact ⟨k+1,by omega,by go_num,HNX,HWR⟩
          case measure=>simp [intOf];omega
        have hyz:=ze (H8.out (by rw [HWT.out];exact hw))
        have hI3:(zh (yN n.pipes.length n.pf n.pt (zl fs) k) == [45,49])=false:=by
         rw [beq_eq_false_iff_ne, <- zi9];exact fun h=>hw (vZ h)
        generalize zh (yN n.pipes.length n.pf n.pt (zl fs) k)=tx at u1 hI3;clear hw;go_wp2_with fail;go_ret2;rw [hyz.out];exact ⟨ext HWL.out HWR.out,.inl ⟨by decide,rfl⟩⟩
      have hI2:((k:Int) == (bn:Int))=false:=by rw [beq_eq_false_iff_ne];omega
      have hwt:Xl an bn k=0:=by unfold Xl;rw [if_neg g1,if_neg g2]
      have HWT:=ze hwt;clear g1 g2 hwt
      by_cases hw:yN n.pipes.length n.pf n.pt (zl fs) k=0
      . have HNX:=ze (HNX.out (hw.trans HWT.out.symm))
        rw [hw,vX] at u1;clear hw;go_wp2_with fail;go_round
        case rel=>exact ⟨k+1,by omega,by go_num,HNX,HWR⟩
        case measure=>simp [intOf];omega
      have hyz:=ze (H8.out (by rw [HWT.out];exact hw))
      have hI3:(zh (yN n.pipes.length n.pf n.pt (zl fs) k) == [48])=false:=by
       rw [beq_eq_false_iff_ne, <- vX];exact fun h=>hw (vZ h)
      generalize zh (yN n.pipes.length n.pf n.pt (zl fs) k)=tx at u1 hI3;clear hw;go_wp2_with fail;go_ret2;rw [hyz.out];exact ⟨ext HWL.out HWR.out,.inl ⟨by decide,rfl⟩⟩
   skip
   have hin:j<n.pipes.length:=by have:=HK1.out;omega
   have hii:(j:Int)<(k1:Int):=by omega
   have hjf:j<fs.length:=by have:=HLEN.out;omega
   have hjfi:(j:Int)<(fs.length:Int):=by omega
   obtain ⟨ad,e1,hb,p0,p1,p2,p3,p4⟩:=(HN1.out.below (ext HW.out HBZ.out)).at_ hin;subst e1;obtain ⟨q1,q2,q3,q4⟩:=HEN.out j hin;have hne:=Net.pf_ne HP3.out hin;rw [q1] at p1;rw [q3] at p2;obtain ⟨a9,e3,l9,u9⟩:=Vw (HGN.out.below (ext HW.out HBZ.out)) hjf;subst e3;rw [(HGS.out _ hjf).1] at u9;have hf0:n.pf j<k0:=by have:=HK0.out;omega
   have ht0:n.pt j<k0:=by have:=HK0.out;omega
   have hh:=Net.bounds HP3.out hin;rw [hh.2.2.1] at p3;have u1:=HRO.out.cell hf0;have u2:=HRO.out.cell ht0;unfold zbd at u1 u2;have df:=zrt HCO.out hin;have d1:=zg6 HCO.out HNP.out n.pf n.pt (n.pf j) (n:=j) (by omega);have d2:=zg6 HCO.out HNP.out n.pf n.pt (n.pt j) (n:=j) (by omega);have d3:=zg6 HCO.out HNP.out n.pf n.pt (n.pf j) (n:=j+1) (by omega);have d4:=zg6 HCO.out HNP.out n.pf n.pt (n.pt j) (n:=j+1) (by omega);rw [zhz hne] at d3;rw [ztb hne] at d4;have sf:zG 50000 (zl fs j):=df.short (by omega);have s5:zG 50000 (zl fs j*zl fs j):=Dz.short (Dz.mul df df (Nat.le_refl _)) (by omega);have s6:zG 50000 (zl fs j*zl fs j / Zl n j):=Dz.short (HT.out.one hin) (by omega);have s7:zG 50000 (Zv j (Zl n) (zl fs)):=Dz.short (HT.out.sum HNP.out (by omega)) (by omega);have s8:zG 50000 (Zv (j+1) (Zl n) (zl fs)):=Dz.short (HT.out.sum HNP.out (by omega)) (by omega);rw [Va] at s8;have sL:zG 50000 (Zl n j):=Dz.short hh.2.2.2.1 (by omega);have hl0:Zl n j≠0:=by have:=hh.2.2.2.2.1;grind
   have hpa:=fun w' =>zfo w' (d1.short (by omega)) sf (d3.short (by omega))
   have hmi:=fun w' =>zdu w' (d2.short (by omega)) sf (d4.short (by omega))
   have htm:=fun w' =>zat w' sf sf s5
   have hov:=fun w' =>zr5 w' s5 sL hl0 s6
   have hpb:=fun w' =>zfo w' s7 s6 s8
   have HNX:=ze (congrArg zh (Va j (Zl n) (zl fs)));have HAW:Hid (∀ k,k<k0->k≠n.pf j->k≠n.pt j->zbd (yN (j+1) n.pf n.pt (zl fs)) k=zbd (yN j n.pf n.pt (zl fs)) k):=ze (fun k _ h1 h2=>by unfold zbd;rw [zr0 h1 h2]);have HD3:Hid (zbd (yN (j+1) n.pf n.pt (zl fs)) (n.pf j)=str (zh (yN j n.pf n.pt (zl fs) (n.pf j)+zl fs j))):=ze (by unfold zbd;rw [zhz hne]);have HD4:Hid (zbd (yN (j+1) n.pf n.pt (zl fs)) (n.pt j)=str (zh (yN j n.pf n.pt (zl fs) (n.pt j) - zl fs j))):=ze (by unfold zbd;rw [ztb hne]);generalize hA1:zbd (yN (j+1) n.pf n.pt (zl fs))=aw1 at HAW HD3 HD4;have HA1:=ze hA1;clear hA1;generalize zbd (yN j n.pf n.pt (zl fs))=aw0 at HAW HRO;generalize hXF:zh (zl fs j)=xf at u9 hpa hmi htm;generalize hX1:zh (yN j n.pf n.pt (zl fs) (n.pf j))=x1 at u1 hpa;generalize hX2:zh (yN j n.pf n.pt (zl fs) (n.pt j))=x2 at u2 hmi;generalize hX3:zh (yN j n.pf n.pt (zl fs) (n.pf j)+zl fs j)=x3 at hpa HD3;generalize hX4:zh (yN j n.pf n.pt (zl fs) (n.pt j) - zl fs j)=x4 at hmi HD4;generalize hX5:zh (zl fs j*zl fs j)=x5 at htm hov;generalize hX6:zh (zl fs j*zl fs j / Zl n j)=x6 at hov hpb
   generalize hX7:zh (Zv j (Zl n) (zl fs)+zl fs j*zl fs j / Zl n j)=x7 at hpb HNX;generalize hX8:zh (Zv j (Zl n) (zl fs))=x8 at hpb |-;generalize hX9:zh (Zl n j)=x9 at hov p3;have hff:(n.pf j:Int)<(k0:Int):=by omega
   have htt:(n.pt j:Int)<(k0:Int):=by omega
   have HNE:=ze hne;have HF0:=ze hf0;have HT0:=ze ht0;have gl:=HRO.out.lt;clear df d1 d2 d3 d4 sf s5 s6 s7 s8 sL hl0 q1 q2 q3 q4 hh hf0 ht0 hne hX1 hX2 hX3 hX4 hX5 hX6 hX7 hX8 hX9 hXF;have hx:=zg wr (.cells #[str n.pipes[j].name,.int .i64 (n.pf j:Int),.int .i64 (n.pt j:Int),str x9,str n.pipes[j].high] 41);have u9:=(hx.cell (by rw [zy];exact l9)).trans u9;go_wp2_with fail;have HP:=ze (Blk.new wr 41 #[str n.pipes[j].name,.int .i64 (n.pf j:Int),.int .i64 (n.pt j:Int),str x9,str n.pipes[j].high]);have u1:=(hx.cell (p:=⟨g,n.pf j,none⟩) gl).trans u1;have u2:=(hx.cell (p:=⟨g,n.pt j,none⟩) gl).trans u2;have gl:=Nat.lt_of_lt_of_le gl hx.size;clear p0 p1 p2 p3 p4 hb l9 u9;replace HRO:=ze (HRO.out.below hx);replace HBZ:=eb_ HBZ hx;generalize wr.alloc (.cells #[str n.pipes[j].name,.int .i64 (n.pf j:Int),.int .i64 (n.pt j:Int),str x9,str n.pipes[j].high] 41)=WP at HP HRO HBZ hx u1 u2 gl |-;generalize wr.heap.size=q at HP |-;clear hx;obtain ⟨c0,c1,c2,c3,c4,cL⟩:=zj9 HP.out;have hne:=HNE.out
   have HQ:Hid (g≠q):=ze (fun e=>by
    have h1:=HP.out;have h2:=HRO.out;subst e;unfold xE at h2;have h3:=h1.symm.trans h2;injection h3 with h3
    injection h3 with h4 h5
    exact absurd h5 (by decide))
   have HQ2:Hid (WN.heap.size<=g):=ze (by rw [HGG.out];exact Nat.le_refl _);have HZ:Hid (ztn WN q #[str n.pipes[j].name,.int .i64 (n.pf j:Int),.int .i64 (n.pt j:Int),str x9,str n.pipes[j].high] WP):=ze ⟨HBZ.out,HP.out⟩;clear c0 c3 c4 HP HBZ;refine wp_region_held_drew (S:=(fun w' =>Hid (ztn WN q #[str n.pipes[j].name,.int .i64 (n.pf j:Int),.int .i64 (n.pt j:Int),str x9,str n.pipes[j].high] w')/\w'.cell? ⟨q,1,none⟩=some (.int .i64 (n.pf j:Int))/\w'.cell? ⟨q,2,none⟩=some (.int .i64 (n.pt j:Int)))) (by kernel_rfl) (Zu rfl rfl (zvk HZ)) (fun hHeld=>?_);refine wpAnyH_take (i:=0) (oi:=_) (v:=?_) rfl (by kernel_rfl) (by kernel_rfl) (by kernel_rfl) (fun _ _ _ h=>h) (Or.inl ⟨by rfl,?_⟩) ‹_› ?_;rotate_left
   . (intro w9 hSw;(try dsimp only at hSw);go_split_ands;go_simp;try with_reducible rfl)
   try simp only [Act.put,List.setIfInBounds_toArray,List.set_cons_zero,List.set_cons_succ]
   refine wpAnyH_take (i:=1) (oi:=_) (v:=?_) rfl (by kernel_rfl) (by kernel_rfl) (by kernel_rfl) (fun _ _ _ h=>h) (Or.inl ⟨by rfl,?_⟩) ‹_› ?_;rotate_left
   . (intro w9 hSw;(try dsimp only at hSw);go_split_ands;go_simp;try with_reducible rfl)
   try simp only [Act.put,List.setIfInBounds_toArray,List.set_cons_zero,List.set_cons_succ]
   refine wpAnyH_take (i:=2) (oi:=_) (v:=?_) rfl (by kernel_rfl) (by kernel_rfl) (by kernel_rfl) (fun _ _ _ h=>h) (Or.inl ⟨by rfl,?_⟩) ‹_› ?_;rotate_left
   . (intro w9 hSw;(try dsimp only at hSw);go_split_ands;go_simp;try with_reducible rfl)
   try simp only [Act.put,List.setIfInBounds_toArray,List.set_cons_zero,List.set_cons_succ]
   refine wpAnyH_take (i:=3) (oi:=_) (v:=?_) rfl (by kernel_rfl) (by kernel_rfl) (by kernel_rfl) (fun _ _ _ h=>h) (Or.inl ⟨by rfl,?_⟩) ‹_› ?_;rotate_left
   . (intro w9 hSw;(try dsimp only at hSw);go_split_ands;go_simp;try with_reducible rfl)
   try simp only [Act.put,List.setIfInBounds_toArray,List.set_cons_zero,List.set_cons_succ]
   refine wpAnyH_take (i:=4) (oi:=_) (v:=?_) rfl (by kernel_rfl) (by kernel_rfl) (by kernel_rfl) (fun _ _ _ h=>h) (Or.inl ⟨by rfl,?_⟩) ‹_› ?_;rotate_left
   . (intro w9 hSw;(try dsimp only at hSw);go_split_ands;go_simp;try with_reducible rfl)
   try simp only [Act.put,List.setIfInBounds_toArray,List.set_cons_zero,List.set_cons_succ]
   refine wpAnyH_take (i:=5) (oi:=_) (v:=?_) rfl (by kernel_rfl) (by kernel_rfl) (by kernel_rfl) (fun _ _ _ h=>h) (Or.inl ⟨by rfl,?_⟩) ‹_› ?_;rotate_left
   . (intro w9 hSw;(try dsimp only at hSw);go_split_ands;go_simp;try with_reducible rfl)
   try simp only [Act.put,List.setIfInBounds_toArray,List.set_cons_zero,List.set_cons_succ]
   refine wpAnyH_take (i:=6) (oi:=_) (v:=?_) rfl (by kernel_rfl) (by kernel_rfl) (by kernel_rfl) (fun _ _ _ h=>h) (Or.inl ⟨by rfl,?_⟩) ‹_› ?_;rotate_left
   . (intro w9 hSw;(try dsimp only at hSw);go_split_ands;go_simp;try with_reducible rfl)
   try simp only [Act.put,List.setIfInBounds_toArray,List.set_cons_zero,List.set_cons_succ]
   refine wpAnyH_take (i:=7) (oi:=_) (v:=?_) rfl (by kernel_rfl) (by kernel_rfl) (by kernel_rfl) (fun _ _ _ h=>h) (Or.inl ⟨by rfl,?_⟩) ‹_› ?_;rotate_left
   . (intro w9 hSw;(try dsimp only at hSw);go_split_ands;go_simp;try with_reducible rfl)
   try simp only [Act.put,List.setIfInBounds_toArray,List.set_cons_zero,List.set_cons_succ]
   refine wpAnyH_take (i:=8) (oi:=_) (v:=?_) rfl (by kernel_rfl) (by kernel_rfl) (by kernel_rfl) (fun _ _ _ h=>h) (Or.inl ⟨by rfl,?_⟩) ‹_› ?_;rotate_left
   . (intro w9 hSw;(try dsimp only at hSw);go_split_ands;go_simp;try with_reducible rfl)
   try simp only [Act.put,List.setIfInBounds_toArray,List.set_cons_zero,List.set_cons_succ]
   refine wpAnyH_take (i:=9) (oi:=_) (v:=?_) rfl (by kernel_rfl) (by kernel_rfl) (by kernel_rfl) (fun _ _ _ h=>h) (Or.inl ⟨by rfl,?_⟩) ‹_› ?_;rotate_left
   . (intro w9 hSw;(try dsimp only at hSw);go_split_ands;go_simp;try with_reducible rfl)
   try simp only [Act.put,List.setIfInBounds_toArray,List.set_cons_zero,List.set_cons_succ]
   refine wpAnyH_take (i:=11) (oi:=_) (v:=?_) rfl (by kernel_rfl) (by kernel_rfl) (by kernel_rfl) (fun _ _ _ h=>h) (Or.inl ⟨by rfl,?_⟩) ‹_› ?_;rotate_left
   . (intro w9 hSw;(try dsimp only at hSw);go_split_ands;go_simp;try with_reducible rfl)
   try simp only [Act.put,List.setIfInBounds_toArray,List.set_cons_zero,List.set_cons_succ]
   refine wpAnyH_take (i:=13) (oi:=_) (v:=?_) rfl (by kernel_rfl) (by kernel_rfl) (by kernel_rfl) (fun _ _ _ h=>h) (Or.inl ⟨by rfl,?_⟩) ‹_› ?_;rotate_left
   . (intro w9 hSw;(try dsimp only at hSw);go_split_ands;go_simp;try with_reducible rfl)
   try simp only [Act.put,List.setIfInBounds_toArray,List.set_cons_zero,List.set_cons_succ]
   refine wpAnyH_take (i:=14) (oi:=_) (v:=?_) rfl (by kernel_rfl) (by kernel_rfl) (by kernel_rfl) (fun _ _ _ h=>h) (Or.inl ⟨by rfl,?_⟩) ‹_› ?_;rotate_left
   . (intro w9 hSw;(try dsimp only at hSw);go_split_ands;go_simp;try with_reducible rfl)
   try simp only [Act.put,List.setIfInBounds_toArray,List.set_cons_zero,List.set_cons_succ]
   refine wpAnyH_take (i:=15) (oi:=_) (v:=?_) rfl (by kernel_rfl) (by kernel_rfl) (by kernel_rfl) (fun _ _ _ h=>h) (Or.inl ⟨by rfl,?_⟩) ‹_› ?_;rotate_left
   . (intro w9 hSw;(try dsimp only at hSw);go_split_ands;go_simp;try with_reducible rfl)
   try simp only [Act.put,List.setIfInBounds_toArray,List.set_cons_zero,List.set_cons_succ]
   refine wpAnyH_take (i:=16) (oi:=_) (v:=?_) rfl (by kernel_rfl) (by kernel_rfl) (by kernel_rfl) (fun _ _ _ h=>h) (Or.inl ⟨by rfl,?_⟩) ‹_› ?_;rotate_left
   . (intro w9 hSw;(try dsimp only at hSw);go_split_ands;go_simp;try with_reducible rfl)
   try simp only [Act.put,List.setIfInBounds_toArray,List.set_cons_zero,List.set_cons_succ]
   refine wpAnyH_take (i:=18) (oi:=_) (v:=?_) rfl (by kernel_rfl) (by kernel_rfl) (by kernel_rfl) (fun _ _ _ h=>h) (Or.inl ⟨by rfl,?_⟩) ‹_› ?_;rotate_left
   . (intro w9 hSw;(try dsimp only at hSw);go_split_ands;go_simp;try with_reducible rfl)
   try simp only [Act.put,List.setIfInBounds_toArray,List.set_cons_zero,List.set_cons_succ]
   refine wpAnyH_ready (rs:=[10,17]) (by kernel_rfl) (by simp) ?_;refine AllReadyH.cons (o:=_) rfl (fun K hK=>?_) (AllReadyH.cons (o:=_) rfl (fun K hK=>?_) AllReadyH.nil)
   . skip
     go_simp
     refine hK.out _ _ ?_ (fun hHeld=>?_)
     . exact hHeld
     clear hK K
     try simp only [Act.put,List.setIfInBounds_toArray,List.set_cons_zero,List.set_cons_succ]
     refine wpAnyH_ready (rs:=[12,17]) (by kernel_rfl) (by simp) ?_;refine AllReadyH.cons (o:=_) rfl (fun K hK=>?_) (AllReadyH.cons (o:=_) rfl (fun K hK=>?_) AllReadyH.nil)
     . skip
       go_simp
       go_at_call 22;refine (hpa _).mono ?_;rintro e w1 ⟨rfl,hb1⟩;have HRO1:=ze (xE.below (w:=WP.drew) HRO.out hb1);have u1:=(hb1.cell (p:=⟨g,n.pf j,none⟩) gl).trans u1;have u2:=(hb1.cell (p:=⟨g,n.pt j,none⟩) gl).trans u2;refine hK.out _ _ ?_ (fun hHeld=>?_)
       . exact Zu rfl rfl (V6 hHeld.1 hb1)
       clear hK K
       try simp only [Act.put,List.setIfInBounds_toArray,List.set_cons_zero,List.set_cons_succ]
       refine wpAnyH_ready (rs:=[17]) (by kernel_rfl) (by simp) ?_;refine AllReadyH.cons (o:=_) rfl (fun K hK=>?_) AllReadyH.nil
       go_simp
       refine hK.out _ _ ?_ (fun hHeld=>?_)
       . exact hHeld
       clear hK K
       try simp only [Act.put,List.setIfInBounds_toArray,List.set_cons_zero,List.set_cons_succ]
       refine wpAnyH_ready (rs:=[19]) (by kernel_rfl) (by simp) ?_;refine AllReadyH.cons (o:=_) rfl (fun K hK=>?_) AllReadyH.nil
       go_simp
       go_at_call 24;refine (hmi _).mono ?_;rintro e w2 ⟨rfl,hb2⟩;have HRO2:=ze (xE.below HRO1.out hb2);have v1:=HRO2.out.cell HF0.out;have v2:=HRO2.out.cell HT0.out;have f1:=HRO2.out.frozen (n.pf j);have f2:=HRO2.out.frozen (n.pt j);refine hK.out _ _ ?_ (fun hHeld=>?_)
       . exact Zu rfl rfl (V6 hHeld.1 hb2)
       clear hK K
       try simp only [Act.put,List.setIfInBounds_toArray,List.set_cons_zero,List.set_cons_succ]
       refine wpAnyH_ready (rs:=[20]) (by kernel_rfl) (by simp) ?_;refine AllReadyH.cons (o:=_) rfl (fun K hK=>?_) AllReadyH.nil
       go_simp
       refine hK.out _ _ ?_ (fun hHeld=>?_)
       . exact hHeld
       clear hK K
       try simp only [Act.put,List.setIfInBounds_toArray,List.set_cons_zero,List.set_cons_succ]
       refine wpAnyH_ready (rs:=[21]) (by kernel_rfl) (by simp) ?_;refine AllReadyH.cons (o:=_) rfl (fun K hK=>?_) AllReadyH.nil
       go_simp
       refine hK.out _ _ ?_ (fun hHeld=>?_)
       . exact Zu rfl rfl (zbw hHeld.1 HQ HQ2)
       clear hK K
       try simp only [Act.put,List.setIfInBounds_toArray,List.set_cons_zero,List.set_cons_succ]
       refine wpAnyH_ready (rs:=[22]) (by kernel_rfl) (by simp) ?_;refine AllReadyH.cons (o:=_) rfl (fun K hK=>?_) AllReadyH.nil
       go_simp
       refine hK.out _ _ ?_ (fun hHeld=>?_)
       . exact hHeld
       clear hK K
       try simp only [Act.put,List.setIfInBounds_toArray,List.set_cons_zero,List.set_cons_succ]
       refine wpAnyH_ready (rs:=[23]) (by kernel_rfl) (by simp) ?_;refine AllReadyH.cons (o:=_) rfl (fun K hK=>?_) AllReadyH.nil
       go_simp
       refine hK.out _ _ ?_ (fun hHeld=>?_)
       . exact Zu rfl rfl (zbw hHeld.1 HQ HQ2)
       clear hK K
       try simp only [Act.put,List.setIfInBounds_toArray,List.set_cons_zero,List.set_cons_succ]
       refine wpAnyH_done (by kernel_rfl) ?_ _
       have HR2:=ze ((HRO2.out.set_ (k:=n.pf j) (v:=str x3) (f' :=fun k=>if k=n.pf j then str x3 else aw0 k) (by simp) (fun k _ h=>by simp [h])).set_ (k:=n.pt j) (v:=str x4) (f' :=aw1) HD4.out (fun k hk h=>by
        by_cases h2:k=n.pf j
        . subst h2;rw [if_pos rfl,HD3.out]
        . rw [if_neg h2,HAW.out k hk h2 h]))
       have HS:=hHeld.1.out;generalize (w2.setCell ⟨g,n.pf j,none⟩ (str x3)).setCell ⟨g,n.pt j,none⟩ (str x4)=WS at HR2 HS |-;have HRO:=HR2;have HBZ:=ze HS.1;have HP:=ze HS.2;have c3:=HP.out.cell 3;have cL:=HP.out.lt;simp at c3;clear u1 u2 v1 v2 f1 f2 HR2 HS HRO1 HRO2 hb1 hb2 hHeld;go_wp2_with fail;have c3g:=zF cL c3;refine xe (by kernel_rfl) (by kernel_rfl) ?_
       repeat (quiet_step (first | (go_at_call 23;exact zR (htm _)) | (go_at_call 41;exact zR (hov _)) | (go_at_call 22;exact zR (hpb _))))
       refine wpQuiet_nil ?_;rintro w9 ⟨t9,rfl⟩;clear c3g;have hbB:=yq WS t9;replace HRO:=ze (HRO.out.below hbB);replace HBZ:=eb_ HBZ hbB;replace HP:=ze (HP.out.below hbB);generalize grown WS t9=WV at hbB HRO HBZ HP |-;clear t9;clear c3 cL hbB htm hov hpb;go_wp2_with fail;go_round
       case rel=>exact ⟨j+1,by omega,by go_num,congrArg str HNX.out.symm,by rw [HA1.out];exact HRO,HBZ⟩
       case measure=>simp [intOf];omega
     . skip
       go_simp
       refine hK.out _ _ ?_ (fun hHeld=>?_)
       . exact hHeld
       clear hK K
       try simp only [Act.put,List.setIfInBounds_toArray,List.set_cons_zero,List.set_cons_succ]
       refine wpAnyH_ready (rs:=[12]) (by kernel_rfl) (by simp) ?_;refine AllReadyH.cons (o:=_) rfl (fun K hK=>?_) AllReadyH.nil
       go_simp
       go_at_call 22;refine (hpa _).mono ?_;rintro e w1 ⟨rfl,hb1⟩;have HRO1:=ze (xE.below (w:=WP.drew) HRO.out hb1);have u1:=(hb1.cell (p:=⟨g,n.pf j,none⟩) gl).trans u1;have u2:=(hb1.cell (p:=⟨g,n.pt j,none⟩) gl).trans u2;refine hK.out _ _ ?_ (fun hHeld=>?_)
       . exact Zu rfl rfl (V6 hHeld.1 hb1)
       clear hK K
       try simp only [Act.put,List.setIfInBounds_toArray,List.set_cons_zero,List.set_cons_succ]
       refine wpAnyH_ready (rs:=[19]) (by kernel_rfl) (by simp) ?_;refine AllReadyH.cons (o:=_) rfl (fun K hK=>?_) AllReadyH.nil
       go_simp
       go_at_call 24;refine (hmi _).mono ?_;rintro e w2 ⟨rfl,hb2⟩;have HRO2:=ze (xE.below HRO1.out hb2);have v1:=HRO2.out.cell HF0.out;have v2:=HRO2.out.cell HT0.out;have f1:=HRO2.out.frozen (n.pf j);have f2:=HRO2.out.frozen (n.pt j);refine hK.out _ _ ?_ (fun hHeld=>?_)
       . exact Zu rfl rfl (V6 hHeld.1 hb2)
       clear hK K
       try simp only [Act.put,List.setIfInBounds_toArray,List.set_cons_zero,List.set_cons_succ]
       refine wpAnyH_ready (rs:=[20]) (by kernel_rfl) (by simp) ?_;refine AllReadyH.cons (o:=_) rfl (fun K hK=>?_) AllReadyH.nil
       go_simp
       refine hK.out _ _ ?_ (fun hHeld=>?_)
       . exact hHeld
       clear hK K
       try simp only [Act.put,List.setIfInBounds_toArray,List.set_cons_zero,List.set_cons_succ]
       refine wpAnyH_ready (rs:=[21]) (by kernel_rfl) (by simp) ?_;refine AllReadyH.cons (o:=_) rfl (fun K hK=>?_) AllReadyH.nil
       go_simp
       refine hK.out _ _ ?_ (fun hHeld=>?_)
       . exact Zu rfl rfl (zbw hHeld.1 HQ HQ2)
       clear hK K
       try simp only [Act.put,List.setIfInBounds_toArray,List.set_cons_zero,List.set_cons_succ]
       refine wpAnyH_ready (rs:=[22]) (by kernel_rfl) (by simp) ?_;refine AllReadyH.cons (o:=_) rfl (fun K hK=>?_) AllReadyH.nil
       go_simp
       refine hK.out _ _ ?_ (fun hHeld=>?_)
       . exact hHeld
       clear hK K
       try simp only [Act.put,List.setIfInBounds_toArray,List.set_cons_zero,List.set_cons_succ]
       refine wpAnyH_ready (rs:=[23]) (by kernel_rfl) (by simp) ?_;refine AllReadyH.cons (o:=_) rfl (fun K hK=>?_) AllReadyH.nil
       go_simp
       refine hK.out _ _ ?_ (fun hHeld=>?_)
       . exact Zu rfl rfl (zbw hHeld.1 HQ HQ2)
       clear hK K
       try simp only [Act.put,List.setIfInBounds_toArray,List.set_cons_zero,List.set_cons_succ]
       refine wpAnyH_done (by kernel_rfl) ?_ _
       have HR2:=ze ((HRO2.out.set_ (k:=n.pf j) (v:=str x3) (f' :=fun k=>if k=n.pf j then str x3 else aw0 k) (by simp) (fun k _ h=>by simp [h])).set_ (k:=n.pt j) (v:=str x4) (f' :=aw1) HD4.out (fun k hk h=>by
        by_cases h2:k=n.pf j
        . subst h2;rw [if_pos rfl,HD3.out]
        . rw [if_neg h2,HAW.out k hk h2 h]))
       have HS:=hHeld.1.out;generalize (w2.setCell ⟨g,n.pf j,none⟩ (str x3)).setCell ⟨g,n.pt j,none⟩ (str x4)=WS at HR2 HS |-;have HRO:=HR2;have HBZ:=ze HS.1;have HP:=ze HS.2;have c3:=HP.out.cell 3;have cL:=HP.out.lt;simp at c3;clear u1 u2 v1 v2 f1 f2 HR2 HS HRO1 HRO2 hb1 hb2 hHeld;go_wp2_with fail;have c3g:=zF cL c3;refine xe (by kernel_rfl) (by kernel_rfl) ?_
       repeat (quiet_step (first | (go_at_call 23;exact zR (htm _)) | (go_at_call 41;exact zR (hov _)) | (go_at_call 22;exact zR (hpb _))))
       refine wpQuiet_nil ?_;rintro w9 ⟨t9,rfl⟩;clear c3g;have hbB:=yq WS t9;replace HRO:=ze (HRO.out.below hbB);replace HBZ:=eb_ HBZ hbB;replace HP:=ze (HP.out.below hbB);generalize grown WS t9=WV at hbB HRO HBZ HP |-;clear t9;clear c3 cL hbB htm hov hpb;go_wp2_with fail;go_round
       case rel=>exact ⟨j+1,by omega,by go_num,congrArg str HNX.out.symm,by rw [HA1.out];exact HRO,HBZ⟩
       case measure=>simp [intOf];omega
   . skip
     go_simp
     refine hK.out _ _ ?_ (fun hHeld=>?_)
     . exact hHeld
     clear hK K
     try simp only [Act.put,List.setIfInBounds_toArray,List.set_cons_zero,List.set_cons_succ]
     refine wpAnyH_ready (rs:=[10]) (by kernel_rfl) (by simp) ?_;refine AllReadyH.cons (o:=_) rfl (fun K hK=>?_) AllReadyH.nil
     go_simp
     refine hK.out _ _ ?_ (fun hHeld=>?_)
     . exact hHeld
     clear hK K
     try simp only [Act.put,List.setIfInBounds_toArray,List.set_cons_zero,List.set_cons_succ]
     refine wpAnyH_ready (rs:=[12]) (by kernel_rfl) (by simp) ?_;refine AllReadyH.cons (o:=_) rfl (fun K hK=>?_) AllReadyH.nil
     go_simp
     go_at_call 22;refine (hpa _).mono ?_;rintro e w1 ⟨rfl,hb1⟩;have HRO1:=ze (xE.below (w:=WP.drew) HRO.out hb1);have u1:=(hb1.cell (p:=⟨g,n.pf j,none⟩) gl).trans u1;have u2:=(hb1.cell (p:=⟨g,n.pt j,none⟩) gl).trans u2;refine hK.out _ _ ?_ (fun hHeld=>?_)
     . exact Zu rfl rfl (V6 hHeld.1 hb1)
     clear hK K
     try simp only [Act.put,List.setIfInBounds_toArray,List.set_cons_zero,List.set_cons_succ]
     refine wpAnyH_ready (rs:=[19]) (by kernel_rfl) (by simp) ?_;refine AllReadyH.cons (o:=_) rfl (fun K hK=>?_) AllReadyH.nil
     go_simp
     go_at_call 24;refine (hmi _).mono ?_;rintro e w2 ⟨rfl,hb2⟩;have HRO2:=ze (xE.below HRO1.out hb2);have v1:=HRO2.out.cell HF0.out;have v2:=HRO2.out.cell HT0.out;have f1:=HRO2.out.frozen (n.pf j);have f2:=HRO2.out.frozen (n.pt j);refine hK.out _ _ ?_ (fun hHeld=>?_)
     . exact Zu rfl rfl (V6 hHeld.1 hb2)
     clear hK K
     try simp only [Act.put,List.setIfInBounds_toArray,List.set_cons_zero,List.set_cons_succ]
     refine wpAnyH_ready (rs:=[20]) (by kernel_rfl) (by simp) ?_;refine AllReadyH.cons (o:=_) rfl (fun K hK=>?_) AllReadyH.nil
     go_simp
     refine hK.out _ _ ?_ (fun hHeld=>?_)
     . exact hHeld
     clear hK K
     try simp only [Act.put,List.setIfInBounds_toArray,List.set_cons_zero,List.set_cons_succ]
     refine wpAnyH_ready (rs:=[21]) (by kernel_rfl) (by simp) ?_;refine AllReadyH.cons (o:=_) rfl (fun K hK=>?_) AllReadyH.nil
     go_simp
     refine hK.out _ _ ?_ (fun hHeld=>?_)
     . exact Zu rfl rfl (zbw hHeld.1 HQ HQ2)
     clear hK K
     try simp only [Act.put,List.setIfInBounds_toArray,List.set_cons_zero,List.set_cons_succ]
     refine wpAnyH_ready (rs:=[22]) (by kernel_rfl) (by simp) ?_;refine AllReadyH.cons (o:=_) rfl (fun K hK=>?_) AllReadyH.nil
     go_simp
     refine hK.out _ _ ?_ (fun hHeld=>?_)
     . exact hHeld
     clear hK K
     try simp only [Act.put,List.setIfInBounds_toArray,List.set_cons_zero,List.set_cons_succ]
     refine wpAnyH_ready (rs:=[23]) (by kernel_rfl) (by simp) ?_;refine AllReadyH.cons (o:=_) rfl (fun K hK=>?_) AllReadyH.nil
     go_simp
     refine hK.out _ _ ?_ (fun hHeld=>?_)
     . exact Zu rfl rfl (zbw hHeld.1 HQ HQ2)
     clear hK K
     try simp only [Act.put,List.setIfInBounds_toArray,List.set_cons_zero,List.set_cons_succ]
     refine wpAnyH_done (by kernel_rfl) ?_ _
     have HR2:=ze ((HRO2.out.set_ (k:=n.pf j) (v:=str x3) (f' :=fun k=>if k=n.pf j then str x3 else aw0 k) (by simp) (fun k _ h=>by simp [h])).set_ (k:=n.pt j) (v:=str x4) (f' :=aw1) HD4.out (fun k hk h=>by
      by_cases h2:k=n.pf j
      . subst h2;rw [if_pos rfl,HD3.out]
      . rw [if_neg h2,HAW.out k hk h2 h]))
     have HS:=hHeld.1.out;generalize (w2.setCell ⟨g,n.pf j,none⟩ (str x3)).setCell ⟨g,n.pt j,none⟩ (str x4)=WS at HR2 HS |-;have HRO:=HR2;have HBZ:=ze HS.1;have HP:=ze HS.2;have c3:=HP.out.cell 3;have cL:=HP.out.lt;simp at c3;clear u1 u2 v1 v2 f1 f2 HR2 HS HRO1 HRO2 hb1 hb2 hHeld;go_wp2_with fail;have c3g:=zF cL c3;refine xe (by kernel_rfl) (by kernel_rfl) ?_
     repeat (quiet_step (first | (go_at_call 23;exact zR (htm _)) | (go_at_call 41;exact zR (hov _)) | (go_at_call 22;exact zR (hpb _))))
     refine wpQuiet_nil ?_;rintro w9 ⟨t9,rfl⟩;clear c3g;have hbB:=yq WS t9;replace HRO:=ze (HRO.out.below hbB);replace HBZ:=eb_ HBZ hbB;replace HP:=ze (HP.out.below hbB);generalize grown WS t9=WV at hbB HRO HBZ HP |-;clear t9;clear c3 cL hbB htm hov hpb;go_wp2_with fail;go_round
     case rel=>exact ⟨j+1,by omega,by go_num,congrArg str HNX.out.symm,by rw [HA1.out];exact HRO,HBZ⟩
     case measure=>simp [intOf];omega
end Go.Proofs.YtacfcmdlgebhgaaGreat
namespace Go.Proofs.YtacfcmdlgebhgaaGreat
open Go.RowKit Go.Deep
theorem zyy {l:List UInt8} {q:Rat} (h:l=zh q):q.num.natAbs*q.den<=10 ^ l.length/\q.den<=10 ^ l.length/\q.num.natAbs<=10 ^ l.length:=by
 have h1:q.num.natAbs<10 ^ (dec q.num.natAbs).length:=vL (Nat.le_refl _)
 have h2:q.den<10 ^ (dec q.den).length:=vL (Nat.le_refl _)
 have hd:0<q.den:=q.den_pos
 have hlen:(dec q.num.natAbs).length<=l.length:=by
  rw [h];unfold zh;rw [List.length_append,List.length_append];omega
 by_cases h0:q.den=1
 . have:=Nat.pow_le_pow_right (n:=10) (by omega) hlen
   rw [h0];have h3:0<10 ^ l.length:=Nat.pow_pos (by omega)
   omega
 have hlen2:(dec q.num.natAbs).length+(dec q.den).length<=l.length:=by
  rw [h];unfold zh;rw [List.length_append,List.length_append,if_neg h0,List.length_cons];omega
 have h3:=Nat.pow_le_pow_right (n:=10) (by omega) hlen2;rw [Nat.pow_add] at h3;have h4:q.num.natAbs*q.den<=10 ^ (dec q.num.natAbs).length*10 ^ (dec q.den).length:=Nat.mul_le_mul (Nat.le_of_lt h1) (Nat.le_of_lt h2);have h5:=Nat.pow_le_pow_right (n:=10) (by omega) (show (dec q.den).length<=l.length by omega);have h6:=Nat.pow_le_pow_right (n:=10) (by omega) hlen
 omega
theorem zme {α:Type} (f:α->Nat) (x:α) (l:List α):zI f (x :: l)=f x+zI f l:=by simp [zI]
theorem zc5:∀ (l:List (List UInt8)) (q:Nat->Rat),(∀ i (h:i<l.length),l[i]=zh (q i))->xB l.length q (zI List.length l)
 | [],q,_=>⟨1,by decide,Nat.pow_pos (by omega),fun k hk=>absurd hk (Nat.not_lt_zero _)⟩
 | x :: l,q,h=>by
   obtain ⟨T,t1,t2,t3⟩:=zc5 l (fun i=>q (i+1)) (fun i hi=>by have:=h (i+1) (by simpa using hi);simpa using this);have hx:=zyy (h 0 (by simp));simp only [List.getElem_cons_zero] at hx;have e:(10:Nat) ^ zI List.length (x :: l)=10 ^ x.length*10 ^ zI List.length l:=by rw [zme,Nat.pow_add]
   refine ⟨((q 0).den:Int)*T,Int.mul_ne_zero (by have:=(q 0).den_pos;omega) t1,?_,?_⟩
   . rw [Int.natAbs_mul,Int.natAbs_natCast,e]
     exact Nat.mul_le_mul hx.2.1 t2
   intro k hk
   cases k with
   | zero=>
     refine ((xq.den (q 0)).scale T).mono ?_;rw [e];exact Nat.mul_le_mul hx.2.2 t2
   | succ k=>
     refine ((t3 k (by simpa using hk)).scale' ((q 0).den:Int)).mono ?_;rw [e,Int.natAbs_natCast];exact Nat.mul_le_mul hx.2.1 (Nat.le_refl _)
theorem XH {n:Net} {a b:Int} {gs:List (List UInt8)} {many:Int} {N E:Nat} (hl:ZQ gs=false) (h:xj n a b gs many=0) (hN:many=(N:Int)) (hE:1500<=E):xB N (zl gs) E:=by
 obtain ⟨_,_,h3,h4⟩:=Vr h
 have h1:=(zc9 hl).1
 unfold ZQ at hl
 rw [decide_eq_false_iff_not,List.take_of_length_le (by omega)] at hl
 have:=(zc5 gs (zl gs) (fun i hi=>(h4 i hi).1)).more (show zI List.length gs<=E by omega)
 rw [show gs.length=N by omega] at this
 exact this
section
variable {n:Net} {cs:List (List UInt8)} {a b:Nat}
end
end Go.Proofs.YtacfcmdlgebhgaaGreat
