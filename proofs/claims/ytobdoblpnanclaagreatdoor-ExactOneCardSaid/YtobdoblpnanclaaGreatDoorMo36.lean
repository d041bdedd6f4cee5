/- Parts of the proof. -/
import Derived.Test.YtobdoblpnanclaaGreatDoorMo33
import Derived.Test.YtobdoblpnanclaaGreatDoorMo35
set_option linter.all false
set_option maxHeartbeats 32000000
namespace Go.Proofs.YtobdoblpnanclaaGreatDoor
open Proofs.Tryz Go.RowKit Go.Deep
attribute [local go_sem ↓] Go.wp_at_zero Go.wp_at_succ
section
variable {base m L:Nat} {F:zG} {w w' :World} {T:zk}
theorem zI.noDigS (h:zI base m L F w T) (x:Nat) (hx:F.S m x):zO w x:=by
 rcases hx with rfl | ⟨i,hi,rfl⟩ | e | e
 . obtain ⟨⟨x,A,n,c,ng,b,_⟩,_⟩:=id h
   exact b.noDig (zfk (xH h.bas) (xH h.oth))
 . exact (h.mat.rows i (by omega)).2.noDig
 . exact h.bas.2 _ e
 . exact h.oth.2 _ e
theorem zI.ltS (h:zI base m L F w T) (x:Nat) (hx:F.S m x):base<=x/\x<w.heap.size:=by
 rcases hx with rfl | ⟨i,hi,rfl⟩ | e | e
 . exact ⟨h.lo,h.lt⟩
 . exact ⟨(h.mat.rows i (by omega)).1,(h.mat.rows i (by omega)).2.lt⟩
 . exact h.bas.1.lt _ e
 . exact h.oth.1.lt _ e
theorem zI.neS (h:zI base m L F w T) {g:Nat} {cs:Array Value} (hg:w.heap[g]?=some (.cells cs 58 (0,0))) (hr:∀ i,i<=m->F.g i≠g):¬ F.S m g:=by
 rintro (rfl | ⟨i,hi,e⟩ | e | e)
 . obtain ⟨⟨x,A,n,c,ng,j,_⟩,_⟩:=id h
   exact xp j hg (by decide) rfl
 . exact hr i hi e.symm
 . obtain ⟨l,b⟩:=h.bas.heap e
   rw [hg] at b;injection b with b
   injection b with _ k3 _
   exact absurd k3 (by decide)
 . obtain ⟨l,b⟩:=h.oth.heap e
   rw [hg] at b;injection b with b
   injection b with _ k3 _
   exact absurd k3 (by decide)
theorem zbg.chg {S:Nat->Prop} {g n:Nat} {f:Nat->Int} (h:zbg w g n f) (hc:Chg S w w') (hg:¬ S g) (hS:∀ b,S b->zO w b):zbg w' g n f:=⟨uK h.1 hc.size,fun k hk=>(h.2 k hk).chg hc hg hS⟩
theorem zot.chg {S:Nat->Prop} {sv:Value} {f:Nat->Int} {P P' :Nat->Prop} (h:zot w sv m f P) (hc:Chg S w w') (hg:∀ j,j<w.heap.size->(∃ cs,w.heap[j]?=some (.cells cs 58 (0,0)))->P j->¬ S j/\P' j) (hS:∀ b,S b->zO w b):zot w' sv m f P' :=by
 obtain ⟨A,c,e,h⟩:=h
 refine ⟨A,c,e,fun h0=>?_⟩
 obtain ⟨j,z,l,⟨cs,u⟩,B⟩:=h h0
 obtain ⟨r,y⟩:=hg j l.1 ⟨cs,u⟩ B
 exact ⟨j,z,l.chg hc r hS,⟨cs,(hc.block j l.1 r).trans u⟩,y⟩
end
structure PgK (w0:World) (base b g8 m:Nat) (F:zG) (sv nv gv:Value) (names:List (List UInt8)) (goal:List zr) (f:Nat->Int) (w:World):Prop where
 book:zu w b
 names:zT w w0.heap.size nv names
 goal:zh w w0.heap.size gv goal
 res:Blk w g8 63 #[.int .u8 0,.int .i64 0,.slice none 0 0,.bool false,.int .i64 0,.slice none 0 0,.bool false,.slice none 0 0,.slice none 0 0,.slice none 0 0]
 scl:zot w sv m f (fun gs=>∀ i,i<=m->F.g i≠gs)
 chg:Chg (· =b) w0 w
 bl:b<w0.heap.size
 e8:g8=w0.heap.size
 eb:base=w0.heap.size+1
 lo:base<=w.heap.size
section
variable {w0 w w' :World} {base b g8 m L:Nat} {F F' :zG} {sv nv gv:Value} {names:List (List UInt8)} {goal:List zr} {f:Nat->Int} {T:zk}
theorem PgK.below (h:PgK w0 base b g8 m F sv nv gv names goal f w) (hb:Below w.heap.size w w'):PgK w0 base b g8 m F sv nv gv names goal f w' :=
 ⟨h.book.below hb,h.names.below hb,zh.below h.goal hb,h.res.below hb h.res.lt,h.scl.chg (S:=fun _=>False) (Chg.of_below hb) (fun _ _ _ h=>⟨fun h=>h,h⟩) (fun _ h=>h.elim),zD h.chg hb,h.bl,h.e8,h.eb,uC h.lo hb.size⟩
theorem PgK.tab (h:PgK w0 base b g8 m F sv nv gv names goal f w) (ht:zI base m L F w T) (hc:Chg (F.S m) w w'):PgK w0 base b g8 m F sv nv gv names goal f w' :=by
 have j:=ht.noDigS
 have hS:=ht.ltS
 have l:=h.bl
 have r:=h.e8
 have u:=h.eb
 exact ⟨h.book.chg hc (fun e=>by have:=(hS _ e).1;omega) j,h.names.chg hc (fun x hx e=>by have:=(hS _ e).1;omega),h.goal.chg hc (fun x hx e=>by have:=(hS _ e).1;omega),hc.blk h.res (fun e=>by have:=(hS _ e).1;omega),
  h.scl.chg hc (fun gs _ hty hP=>⟨by obtain ⟨cs,k⟩:=hty;exact ht.neS k hP,hP⟩) j,h.chg.trans hc (fun x hx e=>by have:=(hS _ e).1;omega),h.bl,h.e8,h.eb,uC h.lo hc.size⟩
theorem PgK.aims {gl:Nat} (h:PgK w0 base b g8 m F sv nv gv names goal f w) (ht:zI base m L F w T) (hB:zu w' b) (hc:Chg (fun x=>x=b\/x=F.gm) w w') (hgl:w.heap.size<=gl):PgK w0 base b g8 m (zrj F m gl) sv nv gv names goal f w' :=by
 have z:base<=F.gm/\F.gm<w.heap.size:=ht.mat.lt
 have u:=h.bl
 have r:=h.e8
 have y:=h.eb
 obtain ⟨cm,j⟩:=ht.mat.own.heap rfl
 have l:∀ x,(x=b\/x=F.gm)->zO w x:=fun x e=>by
  rcases e with rfl | rfl
  . exact h.book.noDig
  . exact ht.mat.own.2 _ rfl
 exact ⟨hB,h.names.chg hc (fun x hx e=>by
  rcases e with rfl | rfl
  . exact h.book.noCells
  . omega),h.goal.chg hc (fun x hx e=>by
  rcases e with rfl | rfl
  . exact h.book.noCells
  . omega),hc.blk h.res (by
  rintro (e | e)
  . omega
  . omega),
  h.scl.chg hc (fun gs hlt hty hP=>by
   obtain ⟨cs,k⟩:=hty;refine ⟨?_,fun i hi=>?_⟩
   . rintro (e | e)
     . exact h.book.ne k e
     . rw [e,j] at k
       injection k with k
       injection k with _ k _
       exact absurd k (by decide)
   . show (if i=m then gl else F.g i)≠gs
     by_cases e:i=m
     . rw [if_pos e];omega
     . rw [if_neg e];exact hP i hi) l,
  h.chg.trans hc (fun x hx e=>by
   rcases e with e | e
   . exact e
   . omega),h.bl,h.e8,h.eb,uC h.lo hc.size⟩
end
structure zty (rows:List zS) (names:List (List UInt8)):Prop where
 rok:∀ r∈rows,ztn names r
 mm:rows.length<=10000
 nn:names.length<=400
 fit:(Z7 rows names).Fits rows.length (2*names.length+1+1)
 scl:∀ i,i<rows.length->Fit (Vu rows i)
structure zhg (U:zk) (nn m c:Nat):Prop where
 hb:∀ i,i<m->U.basic i<=1000000
 ho:∀ k,k<2*nn+1->U.other k<=1000000
 hl:∀ i j,i<=m->j<nn->xJ 8388608 (zff U nn c i j)
 hv:∀ i,i<m->xJ 8388608 (Rat.divInt (U.cell i c) U.den)
def zsg (U:zk) (m:Nat) (names:List (List UInt8)) (goal:List zr):zk:=U.aimed m (YJ U names m (2*names.length+1+1) (yq goal) goal goal.length)
inductive XQ (rows:List zS) (names:List (List UInt8)) (goal:List zr):Nat->Rat->Option (Nat->Rat)->Option (Nat->Rat)->Option (Nat->Rat)->Prop
 | empty (U:zk) (hf:zld rows.length (2*names.length+1) (2*names.length+rows.length) (Z7 rows names) U false) (fU:U.Fits rows.length (2*names.length+1+1)) (ho:∀ k,k<2*names.length+1->U.other k<=1000000):
    XQ rows names goal 2 0 none none (some (wtN U names.length rows.length (Vu rows) 1 (2*names.length+1)))
 | free (U W:zk) (d:Nat) (hf:zld rows.length (2*names.length+1) (2*names.length+rows.length) (Z7 rows names) U true) (fU:U.Fits rows.length (2*names.length+1+1)) (ha:zl4 U names rows.length (2*names.length+1+1) goal)
    (fV:(zsg U rows.length names goal).Fits rows.length (2*names.length+1+1)) (hw:vU rows.length (2*names.length+1+1) (2*names.length+rows.length) ((2*names.length+rows.length:Nat):Int) (zsg U rows.length names goal) W d)
    (fW:W.Fits rows.length (2*names.length+1+1)) (hd:0<d) (hdL:d<2*names.length+1+1) (v0:zhg W names.length rows.length 0) (vd:zhg W names.length rows.length d):
    XQ rows names goal 3 0 (some (VJ W names.length rows.length 0)) (some (VJ W names.length rows.length d)) none
 | best (U W:zk) (hf:zld rows.length (2*names.length+1) (2*names.length+rows.length) (Z7 rows names) U true) (fU:U.Fits rows.length (2*names.length+1+1)) (ha:zl4 U names rows.length (2*names.length+1+1) goal)
    (fV:(zsg U rows.length names goal).Fits rows.length (2*names.length+1+1)) (hw:vU rows.length (2*names.length+1+1) (2*names.length+rows.length) ((2*names.length+rows.length:Nat):Int) (zsg U rows.length names goal) W 0)
    (fW:W.Fits rows.length (2*names.length+1+1)) (v0:zhg W names.length rows.length 0):
    XQ rows names goal 1 (Rat.divInt (W.cell rows.length 0) (W.den*yq goal)) (some (VJ W names.length rows.length 0)) none (some (wtN W names.length rows.length (Vu rows) (yq goal) (2*names.length+1)))
def zh0 (w:World) (v:Value) (n:Nat):Option (Nat->Rat)->Prop
 | none=>v= .slice none 0 0
 | some f=>∃ g,v= .slice (some ⟨g,0,none⟩) n n/\yH w g n n f
def zsj (m:Nat) (names:List (List UInt8)) (nv:Value) (kd:Nat) (val:Rat) (pt ry ws:Option (Nat->Rat)) (b:Nat) (w:World) (e:Ending) (w' :World):Prop:=
 ∃ (x:Int) (A:Option Addr) (n c:Nat) (s:Bool) (y:Int) (B:Option Addr) (n' c' :Nat) (t:Bool) (pv rv wv:Value),e= .returned (.agg #[.int .u8 kd,.int .i64 x,.slice A n c,.bool s,.int .i64 y,.slice B n' c',.bool t,pv,rv,wv])/\
  (kd=1->zV w' (.agg #[.int .i64 x,.slice A n c,.bool s,.int .i64 y,.slice B n' c',.bool t]) val)/\zh0 w' pv names.length pt/\zh0 w' rv names.length ry/\zh0 w' wv m ws/\zT w' w.heap.size nv names/\zu w' b/\Chg (· =b) w w'
abbrev World.resAt (w:World) (g:Nat) (k:Int) (x:Int) (A:Option Addr) (n c:Nat) (s:Bool) (y:Int) (B:Option Addr) (n' c' :Nat) (t:Bool) (p r v:Value):World:=
 (((((((((w.setCell ⟨g,0,none⟩ (.int .u8 k)).setCell ⟨g,1,none⟩ (.int .i64 x)).setCell ⟨g,2,none⟩ (.slice A n c)).setCell ⟨g,3,none⟩ (.bool s)).setCell ⟨g,4,none⟩ (.int .i64 y)).setCell ⟨g,5,none⟩ (.slice B n' c')).setCell ⟨g,6,none⟩ (.bool t)).setCell ⟨g,7,none⟩ p).setCell ⟨g,8,none⟩ r).setCell ⟨g,9,none⟩ v
theorem zh0.chg {S:Nat->Prop} {w w' :World} {v:Value} {n:Nat} {o:Option (Nat->Rat)} (h:zh0 w v n o) (hc:Chg S w w') (hg:∀ g cs,w.heap[g]?=some (.cells cs 60 (0,0))->¬ S g) (hS:∀ b,S b->zO w b):zh0 w' v n o:=by
 cases o with
 | none=>exact h
 | some f=>
   obtain ⟨g,e,h⟩:=h;obtain ⟨cs,k⟩:=h.heap;exact ⟨g,e,h.chg hc (hg g cs k) hS⟩
theorem zh0.below {w w' :World} {v:Value} {n:Nat} {o:Option (Nat->Rat)} (h:zh0 w v n o) (hb:Below w.heap.size w w'):zh0 w' v n o:=h.chg (S:=fun _=>False) (Chg.of_below hb) (fun _ _ _ h=>h) (fun _ h=>h.elim)
theorem PgK.done {w0 w:World} {base b g8 m:Nat} {F:zG} {sv nv gv:Value} {names:List (List UInt8)} {goal:List zr} {f:Nat->Int} {kd:Nat} {x y:Int} {A B:Option Addr} {n c n' c' :Nat} {s t:Bool} {p r v:Value} {val:Rat} {pt ry ws:Option (Nat->Rat)}
 (h:PgK w0 base b g8 m F sv nv gv names goal f w) (hv:kd=1->zV w (.agg #[.int .i64 x,.slice A n c,.bool s,.int .i64 y,.slice B n' c',.bool t]) val) (hp:zh0 w p names.length pt) (hr:zh0 w r names.length ry) (hw:zh0 w v m ws):
 zsj m names nv kd val pt ry ws b w0 (.returned (.agg #[.int .u8 kd,.int .i64 x,.slice A n c,.bool s,.int .i64 y,.slice B n' c',.bool t,p,r,v])) (World.resAt w g8 kd x A n c s y B n' c' t p r v)/\
 Blk (World.resAt w g8 kd x A n c s y B n' c' t p r v) g8 63 #[.int .u8 kd,.int .i64 x,.slice A n c,.bool s,.int .i64 y,.slice B n' c',.bool t,p,r,v]:=by
 have O:zO w g8:=h.res.noDig (ZK (by
  intro u hu;simp at hu
  rcases hu with rfl | rfl | rfl | rfl | rfl | rfl | rfl | rfl | rfl | rfl
  all_goals first | exact xe _ | exact yf _ _ _ | exact vH _ | (intro x e;cases e)))
 have J:Blk _ g8 63 #[.int .u8 kd,.int .i64 0,.slice none 0 0,.bool false,.int .i64 0,.slice none 0 0,.bool false,.slice none 0 0,.slice none 0 0,.slice none 0 0]:=h.res.set_ 0 (.int .u8 kd)
 have D:Blk _ g8 63 #[.int .u8 kd,.int .i64 x,.slice none 0 0,.bool false,.int .i64 0,.slice none 0 0,.bool false,.slice none 0 0,.slice none 0 0,.slice none 0 0]:=J.set_ 1 (.int .i64 x)
 have G:Blk _ g8 63 #[.int .u8 kd,.int .i64 x,.slice A n c,.bool false,.int .i64 0,.slice none 0 0,.bool false,.slice none 0 0,.slice none 0 0,.slice none 0 0]:=D.set_ 2 (.slice A n c)
 have I:Blk _ g8 63 #[.int .u8 kd,.int .i64 x,.slice A n c,.bool s,.int .i64 0,.slice none 0 0,.bool false,.slice none 0 0,.slice none 0 0,.slice none 0 0]:=G.set_ 3 (.bool s)
 have K:Blk _ g8 63 #[.int .u8 kd,.int .i64 x,.slice A n c,.bool s,.int .i64 y,.slice none 0 0,.bool false,.slice none 0 0,.slice none 0 0,.slice none 0 0]:=I.set_ 4 (.int .i64 y)
 have N:Blk _ g8 63 #[.int .u8 kd,.int .i64 x,.slice A n c,.bool s,.int .i64 y,.slice B n' c',.bool false,.slice none 0 0,.slice none 0 0,.slice none 0 0]:=K.set_ 5 (.slice B n' c')
 have L:Blk _ g8 63 #[.int .u8 kd,.int .i64 x,.slice A n c,.bool s,.int .i64 y,.slice B n' c',.bool t,.slice none 0 0,.slice none 0 0,.slice none 0 0]:=N.set_ 6 (.bool t)
 have Q:Blk _ g8 63 #[.int .u8 kd,.int .i64 x,.slice A n c,.bool s,.int .i64 y,.slice B n' c',.bool t,p,.slice none 0 0,.slice none 0 0]:=L.set_ 7 (p)
 have M:Blk _ g8 63 #[.int .u8 kd,.int .i64 x,.slice A n c,.bool s,.int .i64 y,.slice B n' c',.bool t,p,r,.slice none 0 0]:=Q.set_ 8 (r)
 have E:Blk _ g8 63 #[.int .u8 kd,.int .i64 x,.slice A n c,.bool s,.int .i64 y,.slice B n' c',.bool t,p,r,v]:=M.set_ 9 (v)
 have j:Chg (· =g8) w (World.resAt w g8 kd x A n c s y B n' c' t p r v):=by
  iterate 10 (apply Chg.setCell (S:=fun b=>b=g8) ?_ (by rfl))
  exact Chg.refl w
 have l:∀ z,z=g8->zO w z:=fun z e=>by subst e;exact O
 have C:∀ g cs,w.heap[g]?=some (.cells cs 60 (0,0))->¬ g=g8:=fun g cs k e=>xp h.res k (by decide) e.symm
 have T:=h.e8
 have R:=h.bl
 exact ⟨⟨_,_,_,_,_,_,_,_,_,_,_,_,_,rfl,fun e=>j.rat (hv e) l,hp.chg j C l,hr.chg j C l,hw.chg j C l,h.names.chg j (fun z hz e=>by omega),h.book.chg j (fun e=>by omega) l,h.chg.trans j (fun z hz e=>by omega)⟩,E⟩
theorem XQ.search {rows:List zS} {names:List (List UInt8)} {goal:List zr} {kd:Nat} {val:Rat} {pt ry ws:Option (Nat->Rat)} (h:XQ rows names goal kd val pt ry ws):
 ∃ U ok,zld rows.length (2*names.length+1) (2*names.length+rows.length) (Z7 rows names) U ok/\U.Fits rows.length (2*names.length+1+1)/\
  ((ok=false/\kd=2/\pt=none/\ry=none/\ws=some (wtN U names.length rows.length (Vu rows) 1 (2*names.length+1))/\∀ k,k<2*names.length+1->U.other k<=1000000)\/
  (ok=true/\zl4 U names rows.length (2*names.length+1+1) goal/\(zsg U rows.length names goal).Fits rows.length (2*names.length+1+1)/\∃ W d,d<2*names.length+1+1/\vU rows.length (2*names.length+1+1) (2*names.length+rows.length) ((2*names.length+rows.length:Nat):Int) (zsg U rows.length names goal) W d/\
    W.Fits rows.length (2*names.length+1+1)/\zhg W names.length rows.length 0/\zhg W names.length rows.length d/\pt=some (VJ W names.length rows.length 0)/\
    ((0<d/\kd=3/\ry=some (VJ W names.length rows.length d)/\ws=none)\/
    (d=0/\kd=1/\val=Rat.divInt (W.cell rows.length 0) (W.den*yq goal)/\ry=none/\ws=some (wtN W names.length rows.length (Vu rows) (yq goal) (2*names.length+1)))))):=by
 cases h with
 | empty U hf fU ho=>exact ⟨U,false,hf,fU,.inl ⟨rfl,rfl,rfl,rfl,rfl,ho⟩⟩
 | free U W d hf fU ha fV hw fW hd hdL v0 vd=>exact ⟨U,true,hf,fU,.inr ⟨rfl,ha,fV,W,d,hdL,hw,fW,v0,vd,rfl,.inl ⟨hd,rfl,rfl,rfl⟩⟩⟩
 | best U W hf fU ha fV hw fW v0=>exact ⟨U,true,hf,fU,.inr ⟨rfl,ha,fV,W,0,by omega,hw,fW,v0,v0,rfl,.inr ⟨rfl,rfl,rfl,rfl,rfl⟩⟩⟩
set_option maxRecDepth 100000 in
theorem zaj (b n1 c n2 nc n3 c3:Nat) (rA nA gA:Option Addr) (rows:List zS) (names:List (List UInt8)) (goal:List zr) (kd:Nat) (val:Rat) (pt ry ws:Option (Nat->Rat)) (w:World) (hB:zu w b) (hr:Zi w (.slice rA n1 c) rows) (hn:zT w w.heap.size (.slice nA n2 nc) names) (hg:yu w (.slice gA n3 c3) goal)
 (hok:zty rows names) (hend:XQ rows names goal kd val pt ry ws):Calls prog 14 #[.map (some b),.slice rA n1 c,.slice nA n2 nc,.slice gA n3 c3] w (zsj rows.length names (.slice nA n2 nc) kd val pt ry ws b w):=by
 obtain rfl:=hn.len
 obtain rfl:=hr.len
 obtain ⟨U,ok,hf,fU,bi⟩:=hend.search
 have C:=zf w (.cells #[.int .u8 0,.int .i64 0,.slice none 0 0,.bool false,.int .i64 0,.slice none 0 0,.bool false,.slice none 0 0,.slice none 0 0,.slice none 0 0] 63)
 have ar:=ze (Blk.new w 63 #[.int .u8 0,.int .i64 0,.slice none 0 0,.bool false,.int .i64 0,.slice none 0 0,.bool false,.slice none 0 0,.slice none 0 0,.slice none 0 0])
 have HB:=ze (hB.below C)
 have HR:=ze ((zR.below hr C).more C.size)
 have ap:=ze (hn.below C)
 have HG:=ze (zh.below hg C)
 have HC:Hid (Chg (· =b) w (w.alloc (.cells #[.int .u8 0,.int .i64 0,.slice none 0 0,.bool false,.int .i64 0,.slice none 0 0,.bool false,.slice none 0 0,.slice none 0 0,.slice none 0 0] 63))):=Chg.of_below C
 obtain ⟨ae,be,bo,ao⟩:=hz4 hok hf fU bi
 have a4:=ze hB.lt
 clear hB hr hn hg hok C hend hf fU bi
 go_in
 go_upto_region 1 with fail
 have aw:Hid ((w.alloc (.cells #[.int .u8 0,.int .i64 0,.slice none 0 0,.bool false,.int .i64 0,.slice none 0 0,.bool false,.slice none 0 0,.slice none 0 0,.slice none 0 0] 63)).heap.size=w.heap.size+1):=by show _=_;simp
 generalize w.alloc (.cells #[.int .u8 0,.int .i64 0,.slice none 0 0,.bool false,.int .i64 0,.slice none 0 0,.bool false,.slice none 0 0,.slice none 0 0,.slice none 0 0] 63)=W0 at ar HB HR ap HG HC aw |-
 obtain ⟨g8,aQ⟩:=uQ w.heap.size
 rw [<- aQ] at ar |-
 have aY:=ze aQ
 clear aQ
 have bw:=ae.o.mm
 have bx:=ae.o.nn
 have bd:=ze (zjh b rows.length c names.length nc rA nA rows names W0 HB.o HR.o (ap.o.more (by have:=aw.o;omega)) ae.o.rok bw bx)
 obtain ⟨base,a3⟩:=uQ W0.heap.size
 have au:=ze a3
 clear a3
 go_wp2_with fail
 refine bd.o.mono ?_
 rintro e w1 ⟨F,sv,rfl,E⟩
 clear bd
 have ad:Hid (F.bk=some b/\F.nA=nA/\F.nn=names.length/\F.nc=nc):=⟨E.bk,E.nA,E.nn,E.nc⟩
 have m:=ze E.tab
 rw [<- au.o] at m
 have j:Hid (PgK w base b g8 rows.length F sv (.slice nA names.length nc) (.slice gA n3 c3) names goal (Vu rows) w1):=
  ⟨E.book,ap.o.chg E.chg (fun _ _ e=>by subst e;exact HB.o.noCells),(HB.o.keepT E.chg HG.o),HB.o.keepBlk E.chg ar.o,E.scl,yp HC.o E.chg,a4.o,aY.o,by have:=au.o;have:=aw.o;omega,by have:=E.chg.size;have:=au.o;omega⟩
 clear E HR ar ap HG HC HB au aw a4 aY
 have bl:=ze (V8 base rows.length (2*names.length+1) F (Z7 rows names) U ok w1 m.o ae.o.fit (by rw [ad.o.2.2.1];exact be.o) (by omega) (by omega) j.o.lo)
 go_wp2_with fail
 refine bl.o.mono ?_
 rintro e w2 ⟨rfl,aT,a6⟩
 replace j:=ze (j.o.tab m.o a6)
 replace m:=ze aT
 clear aT a6 bl be
 cases ok with
 | false=>
   obtain ⟨rfl,rfl,rfl,rfl,ho⟩:kd=2/\pt=none/\ry=none/\ws=some (wtN U names.length rows.length (Vu rows) 1 (2*names.length+1))/\∀ k,k<2*names.length+1->U.other k<=1000000:=by
    rcases ao.o with ⟨_,h⟩ | ⟨h,_⟩
    . exact h
    . cases h
   obtain ⟨sA,sc,aK,hs⟩:=j.o.scl;subst aK;have f1:Fit 1:=uC (xJ.of_dz (Dz.one 0)).1 (by omega);have ab:=Vz base rows.length (2*names.length+1+1) F U sA sc (Vu rows) (.agg #[.int .i64 1,.slice none 0 0,.bool false]) 1 w2 m.o (fun h0=>by obtain ⟨gs,G,I,_⟩:=hs h0;exact ⟨gs,G,I⟩) (.inl ⟨1,false,rfl,by omega,by omega,rfl⟩) bo.o f1 (by omega) ae.o.scl (by omega) (by omega) (fun k hk=>ho k (by omega));rw [ad.o.2.2.1,show 2*names.length+1+1 - 1=2*names.length+1 by omega] at ab;have ai:=ze ab;clear ab f1 hs ho ao
   go_upto_region 3 with fail
   go_wp2_with fail;refine ai.o.mono ?_;rintro e w3 ⟨J,rfl,ak,a9⟩;replace j:=ze (j.o.below a9);have aF:Hid (zh0 w3 (.slice (some ⟨J,0,none⟩) rows.length rows.length) rows.length (some (wtN U names.length rows.length (Vu rows) 1 (2*names.length+1)))):=⟨J,rfl,ak⟩;clear ak a9 ai m;have l:=j.o.res;have r0:=l.cell 0;have r1:=l.cell 1;have r2:=l.cell 2;have r3:=l.cell 3;have r4:=l.cell 4;have r5:=l.cell 5;have r6:=l.cell 6;have r7:=l.cell 7;have r8:=l.cell 8;have r9:=l.cell 9;simp at r0 r1 r2 r3 r4 r5 r6 r7 r8 r9;obtain ⟨f0,f1,f2,f3,f4,f5,f6,f7,f8,f9⟩:=fp10 l;have hdn:=j.o.done (kd:=2) (x:=0) (A:=none) (n:=0) (c:=0) (s:=false) (y:=0) (B:=none) (n' :=0) (c' :=0) (t:=false) (val:=val) (pt:=none) (ry:=none) (fun h=>by omega) rfl rfl aF.o;have M:=hdn.2.cell 0;have G:=hdn.2.cell 1;have I:=hdn.2.cell 2;have Y:=hdn.2.cell 3
   have X:=hdn.2.cell 4;have T:=hdn.2.cell 5;have R:=hdn.2.cell 6;have O:=hdn.2.cell 7;have e8:=hdn.2.cell 8;have V:=hdn.2.cell 9;simp at M G I Y X T R O e8 V;have N:=ze hdn.1;clear l hdn j;go_wp2_with fail;refine bodyPost_ret (v:=.agg #[.int .u8 2,.int .i64 0,.slice none 0 0,.bool false,.int .i64 0,.slice none 0 0,.bool false,.slice none 0 0,.slice none 0 0,.slice (some ⟨J,0,none⟩) rows.length rows.length]) (by simp [results,results14,go_sem,M,G,I,Y,X,T,R,O,e8,V]) rfl ?_;exact N.o
 | true=>
   obtain ⟨ha,fV,W,d,hdL,hw,fW,v0,vd,rfl,hd⟩:zl4 U names rows.length (2*names.length+1+1) goal/\(zsg U rows.length names goal).Fits rows.length (2*names.length+1+1)/\∃ W d,d<2*names.length+1+1/\vU rows.length (2*names.length+1+1) (2*names.length+rows.length) ((2*names.length+rows.length:Nat):Int) (zsg U rows.length names goal) W d/\
    W.Fits rows.length (2*names.length+1+1)/\zhg W names.length rows.length 0/\zhg W names.length rows.length d/\pt=some (VJ W names.length rows.length 0)/\
    ((0<d/\kd=3/\ry=some (VJ W names.length rows.length d)/\ws=none)\/
    (d=0/\kd=1/\val=Rat.divInt (W.cell rows.length 0) (W.den*yq goal)/\ry=none/\ws=some (wtN W names.length rows.length (Vu rows) (yq goal) (2*names.length+1)))):=by
    rcases ao.o with ⟨h,_⟩ | ⟨_,h⟩
    . cases h
    . exact h
   obtain ⟨a5,bu,aR,Z,al,ah,HD,br⟩:=hz8 ha fV hw fW v0 vd hd hdL;clear ao ha fV hw fW v0 vd hd hdL
   have a8:zT w2 base (.slice F.nA F.nn F.nc) names:=by
    have h1:=ad.o;rw [h1.2.1,h1.2.2.1,h1.2.2.2];exact j.o.names.more (by have:=j.o.eb;omega)
   have bn:=ze (zmi base rows.length (2*names.length+1+1) F U b gA n3 c3 goal names w2 m.o ad.o.1 j.o.book (j.o.goal.more j.o.chg.size) a8 a5.o bo.o (by omega) (by omega) j.o.lo);clear a8;go_wp2_with fail;refine bn.o.mono ?_;rintro e w3 ⟨v,gl,rfl,hv,aV,aX,bq,ba,aW⟩;replace j:=ze (j.o.aims m.o aX ba aW);replace m:=ze aV;obtain ⟨x2,A2,k2,c2,s2,rfl,_,_,_⟩:=hv.form;have C:=zf w3 (.cells #[.int .i64 x2,.slice A2 k2 c2,.bool s2] 58);have L:Hid (Z3 (w3.alloc (.cells #[.int .i64 x2,.slice A2 k2 c2,.bool s2] 58)) w3.heap.size (yq goal)):=⟨_,_,_,_,_,Blk.new _ _ _,hv.below C⟩;have aq:=ze (fun x (C:(zrj F rows.length gl).S rows.length x)=>(m.o.ltS x C).2);replace j:=ze (j.o.below C);replace m:=ze (m.o.below C);clear C aV aX bq ba aW hv bn;have aa:Hid ((zrj F rows.length gl).nn=names.length):=ad.o.2.2.1;obtain ⟨u,aP⟩:=uQ (zrj F rows.length gl);have bg:F.gt=u.gt:=by rw [aP];rfl
   rw [<- aP] at j m aq aa;rw [bg];clear aP bg ad
   go_upto_region 5 with fail
   generalize w3.alloc (.cells #[.int .i64 x2,.slice A2 k2 c2,.bool s2] 58)=W4 at L m j |-;generalize w3.heap.size=gz at L aq |-;have aE:=zak base rows.length (2*names.length+1+1) u _ W4 m.o (by omega) (by omega);rw [aa.o] at aE;have aU:=ze aE;clear aE;go_wp2_with fail;refine aU.o.mono ?_;rintro e w5 ⟨rfl,av⟩;clear aU;replace L:=ze (L.o.below av);replace j:=ze (j.o.below av);replace m:=ze (m.o.below av);clear av;obtain ⟨cn,aS⟩:=zew aR.o;have bm:=ze (zau base rows.length (2*names.length+1+1) u _ W ((2*names.length+rows.length:Nat):Int) d cn w5 m.o bu.o (by rw [aa.o];exact aS) (by omega) (by omega) j.o.lo);clear aS aR;go_wp2_with fail;refine bm.o.mono ?_;rintro e Q ⟨rfl,a7,aI⟩;have hz6:¬ u.S rows.length gz:=fun e=>by have:=aq.o gz e;omega
   replace L:=ze (L.o.chg aI hz6 m.o.noDigS);replace j:=ze (j.o.tab m.o aI);replace m:=ze a7;clear aI a7 hz6 aq bm;have aN:=fun w' (h:zI base rows.length (2*names.length+1+1) u w' W)=>Xb base rows.length (2*names.length+1+1) 0 u W w' h Z.o (by omega) (by omega) (by omega) al.o.hb al.o.ho (by rw [aa.o];exact al.o.hl) al.o.hv
   have aM:=fun w' (h:zI base rows.length (2*names.length+1+1) u w' W)=>Xb base rows.length (2*names.length+1+1) d u W w' h Z.o (by omega) (by omega) br.o ah.o.hb ah.o.ho (by rw [aa.o];exact ah.o.hl) ah.o.hv
   rw [aa.o] at aN aM;have aB:=ze aN;have aC:=ze aM;clear aN aM
   rcases HD.o with ⟨bE,rfl,rfl,rfl⟩ | ⟨rfl,rfl,rfl,rfl,rfl⟩
   . have bs:(0:Int)<(d:Int):=by omega
     have d1:decide ((d:Int)>0)=true:=uE bs;clear HD L
     go_upto_region 7 with fail
     go_wp2_with fail;refine (aB.o _ m.o).mono ?_;rintro e w7 ⟨gp,rfl,hp,aO⟩;have aG:Hid (zh0 w7 (.slice (some ⟨gp,0,none⟩) names.length names.length) names.length (some (VJ W names.length rows.length 0))):=⟨gp,rfl,hp⟩;replace j:=ze (j.o.below aO);replace m:=ze (m.o.below aO);clear hp aO aB;go_wp2_with fail;refine (aC.o _ m.o).mono ?_;rintro e w8 ⟨J,rfl,hw,aD⟩;have aF:Hid (zh0 w8 (.slice (some ⟨J,0,none⟩) names.length names.length) names.length (some (VJ W names.length rows.length d))):=⟨J,rfl,hw⟩;replace j:=ze (j.o.below aD);replace aG:=ze (aG.o.below aD);clear hw aD aC m;have l:=j.o.res;have r0:=l.cell 0;have r1:=l.cell 1;have r2:=l.cell 2;have r3:=l.cell 3;have r4:=l.cell 4;have r5:=l.cell 5;have r6:=l.cell 6;have r7:=l.cell 7;have r8:=l.cell 8;have r9:=l.cell 9;simp at r0 r1 r2 r3 r4 r5 r6 r7 r8 r9;obtain ⟨f0,f1,f2,f3,f4,f5,f6,f7,f8⟩:=fp9 l
     have f9:=l.frozen 9;have hdn:=j.o.done (kd:=3) (x:=0) (A:=none) (n:=0) (c:=0) (s:=false) (y:=0) (B:=none) (n' :=0) (c' :=0) (t:=false) (val:=val) (ws:=none) (fun h=>by omega) aG.o aF.o rfl;have M:=hdn.2.cell 0;have G:=hdn.2.cell 1;have I:=hdn.2.cell 2;have Y:=hdn.2.cell 3;have X:=hdn.2.cell 4;have T:=hdn.2.cell 5;have R:=hdn.2.cell 6;have O:=hdn.2.cell 7;have e8:=hdn.2.cell 8;have V:=hdn.2.cell 9;simp at M G I Y X T R O e8 V;have N:=ze hdn.1;clear l hdn j;go_wp2_with fail;refine bodyPost_ret (v:=.agg #[.int .u8 3,.int .i64 0,.slice none 0 0,.bool false,.int .i64 0,.slice none 0 0,.bool false,.slice (some ⟨gp,0,none⟩) names.length names.length,.slice (some ⟨J,0,none⟩) names.length names.length,.slice none 0 0]) (by simp [results,results14,go_sem,M,G,I,Y,X,T,R,O,e8,V]) rfl ?_;exact N.o
   . clear HD aC ah
     go_upto_region 8 with fail
     have t1:=m.o.cell1;have t3:=m.o.cell3;have bz:(rows.length:Int)<(rows.length:Int)+1:=by omega
     have t4:=m.o.mat.cell (i:=rows.length) (by omega);obtain ⟨ax,aA,an,ac,ag,a0,a1,a2,ha⟩:=m.o.mat.at_ (i:=rows.length) (k:=0) (by omega) (by omega);simp only [Nat.zero_mul,Nat.zero_add] at a0 a1 a2;obtain ⟨dx,dA,dn,dc,dg,aj,bh⟩:=m.o.blk;have d4:Q.cell? ⟨u.gt,4,none⟩=some (.int .i64 dx):=by rw [aj.cell];rfl
     have d5:Q.cell? ⟨u.gt,5,none⟩=some (.slice dA dn dc):=by rw [aj.cell];rfl
     have d6:Q.cell? ⟨u.gt,6,none⟩=some (.bool dg):=by rw [aj.cell];rfl
     obtain ⟨vx,vA,vn,vc,vg,aH,bj⟩:=L.o;obtain ⟨q0,q1,q2,_⟩:=bp3 aH;have bB:0<2*names.length+1+1:=by omega
     have bC:(0:Int)<2*(names.length:Int)+2:=by omega
     have bA:(0:Int)<2*(names.length:Int)+1+1:=by omega
     have bD:(0:Int)<=2*(names.length:Int)+1:=by omega
     have tL:=aj.lt;have mL:=m.o.mat.lt.2;have aL:=(m.o.mat.rows rows.length (by omega)).2.lt;have vL:=aH.lt;obtain ⟨HA,N,ay⟩:=hz3 ha bh bj;have N1:=ze (Z.o.cell rows.length 0 (uA) (by omega));have HZ:=ze (a5.o.ok.fit goal.length (uA));have bp:Hid (W.den*yq goal≠0):=by have:=Z.o.den;exact Int.mul_ne_zero (by omega) HZ.o.2
     obtain ⟨sA,sc,aK,hs⟩:=j.o.scl;subst aK;have ab:=fun w' vn (h:zI base rows.length (2*names.length+1+1) u w' W) (hb:Below Q.heap.size Q w') (hv:zN w' vn (yq goal))=>Vz base rows.length (2*names.length+1+1) u W sA sc (Vu rows) vn (yq goal) w' h (fun h0=>by obtain ⟨gs,G,I,_⟩:=hs h0;exact ⟨gs,G,I.below hb⟩) hv Z.o HZ.o.1 HZ.o.2 ae.o.scl (by omega) (by omega) (fun k hk=>al.o.ho k (by omega))
     rw [aa.o,show 2*names.length+1+1 - 1=2*names.length+1 by omega] at ab;have ai:=ze ab;clear ha aj bh aH bj ab hs;have af:∀ w',Hid (Below Q.heap.size Q w')->w'.cell? ⟨u.gt,3,none⟩=some (.slice (some ⟨u.gm,0,none⟩) (rows.length+1) u.cm)/\w'.cell? ⟨u.gt,1,none⟩=some (.slice u.rA rows.length u.rc)/\w'.cell? ⟨u.gm,rows.length,none⟩=some (.slice (some ⟨u.g rows.length,0,none⟩) (2*names.length+1+1) (2*names.length+1+1))/\w'.cell? ⟨u.g rows.length,0,none⟩=some (.int .i64 ax)/\w'.cell? ⟨u.g rows.length,1,none⟩=some (.slice aA an ac)/\w'.cell? ⟨u.g rows.length,2,none⟩=some (.bool ag)/\w'.cell? ⟨u.gt,4,none⟩=some (.int .i64 dx)/\w'.cell? ⟨u.gt,5,none⟩=some (.slice dA dn dc)/\w'.cell? ⟨u.gt,6,none⟩=some (.bool dg)/\w'.cell? ⟨gz,0,none⟩=some (.int .i64 vx)/\w'.cell? ⟨gz,1,none⟩=some (.slice vA vn vc)/\w'.cell? ⟨gz,2,none⟩=some (.bool vg):=fun w' hB=>⟨zl hB tL t3,zl hB tL t1,zl hB mL t4,zl hB aL a0,zl hB aL a1,zl hB aL a2,zl hB tL d4,zl hB tL d5,zl hB tL d6,zl hB vL q0,zl hB vL q1,zl hB vL q2⟩
     refine y8 af 18 9 27 (zv Q) fun z=>?_;simp only [xDR]
     iterate 18 refine zH ?_
     refine zB ?_;refine tK 20 ?_;refine tK 22 ?_;refine tK 23 ?_;refine tK 24 ?_;refine rK 18 fun K hK=>?_
     go_simp
     go_at_call 40;refine (xB _ _ _ _ _ (N.o.below z.1.out) (ay.o.below z.1.out) (Z.o.fden.le2 (by omega)) (HZ.o.1.le2 (by omega))).mono ?_;rintro e w7 ⟨v1,rfl,hv,D⟩;have bb:=ze hv;clear hv;refine hK.out _ _ (zm (zp D z.1) (af _)) ?_;clear hK K z;intro z
     try simp only [Act.put,xST]
     clear D;refine rK 19 fun K hK=>?_
     go_simp
     go_at_call 39;refine (Yd _ _ _ _ _ (HA.o.below z.1.out) bb.o bp.o (N1.o.le2 (by omega)) (YG Z.o.fden HZ.o.1 (by omega))).mono ?_;rintro e w8 ⟨v2,rfl,⟨x,A,n4,c4,s,y,B,n5,c5,t,rfl,aZ,bf⟩,D⟩;have am:Hid (zV w8 (.agg #[.int .i64 x,.slice A n4 c4,.bool s,.int .i64 y,.slice B n5 c5,.bool t]) (Rat.divInt (W.cell rows.length 0) (W.den*yq goal))):=⟨_,_,_,_,_,_,_,_,_,_,rfl,aZ,bf⟩;clear aZ bf bb;refine hK.out _ _ (zm (zp D z.1) (af _)) ?_;clear hK K z;intro z
     try simp only [Act.put,xST]
     clear D;refine rK 21 fun K hK=>?_
     go_simp
     go_at_call 38;refine (aB.o _ (m.o.below z.1.out)).mono ?_;rintro e w9 ⟨gp,rfl,bc,D⟩;have aJ:=ze bc;replace am:=ze (am.o.below D);clear bc;refine hK.out _ _ (zm (zp D z.1) (af _)) ?_;clear hK K z;intro z
     try simp only [Act.put,xST]
     clear D;refine rK 25 fun K hK=>?_
     go_simp
     go_at_call 34;refine (ai.o _ _ (m.o.below z.1.out) z.1.out (ay.o.below z.1.out)).mono ?_;rintro e bF ⟨J,rfl,ak,D⟩;have bv:=ze ak;replace am:=ze (am.o.below D);replace aJ:=ze (aJ.o.below D);clear ak ai;refine hK.out _ _ (zm (zp D z.1) (af _)) ?_;clear hK K z;intro z
     try simp only [Act.put,xST]
     clear D;refine tK 26 ?_;have az:=(z.1).out;replace m:=ze (zI.below m.o az);replace j:=ze (PgK.below j.o az);clear az z af;refine hdn ?_;simp only [xDR];clear t1 t3 t4 a0 a1 a2 d4 d5 d6 q0 q1 q2 tL mL aL vL HA N ay L;have l:=j.o.res;have r0:=l.cell 0;have r1:=l.cell 1;have r2:=l.cell 2;have r3:=l.cell 3;have r4:=l.cell 4;have r5:=l.cell 5;have r6:=l.cell 6;have r7:=l.cell 7;have r8:=l.cell 8;have r9:=l.cell 9;simp at r0 r1 r2 r3 r4 r5 r6 r7 r8 r9;obtain ⟨f0,f1,f2,f3,f4,f5,f6,f7,f8,f9⟩:=fp10 l;have hdn:=j.o.done (kd:=1) (pt:=some (VJ W names.length rows.length 0)) (ry:=none) (ws:=some (wtN W names.length rows.length (Vu rows) (yq goal) (2*names.length+1))) (p:=.slice (some ⟨gp,0,none⟩) names.length names.length) (r:=.slice none 0 0) (v:=.slice (some ⟨J,0,none⟩) rows.length rows.length) (fun _=>am.o) ⟨gp,rfl,aJ.o⟩ rfl ⟨J,rfl,bv.o⟩
     have M:=hdn.2.cell 0;have G:=hdn.2.cell 1;have I:=hdn.2.cell 2;have Y:=hdn.2.cell 3;have X:=hdn.2.cell 4;have T:=hdn.2.cell 5;have R:=hdn.2.cell 6;have O:=hdn.2.cell 7;have e8:=hdn.2.cell 8;have V:=hdn.2.cell 9;simp at M G I Y X T R O e8 V;have N:=ze hdn.1;clear l hdn j;go_wp2_with fail;refine bodyPost_ret (v:=.agg #[.int .u8 1,.int .i64 x,.slice A n4 c4,.bool s,.int .i64 y,.slice B n5 c5,.bool t,.slice (some ⟨gp,0,none⟩) names.length names.length,.slice none 0 0,.slice (some ⟨J,0,none⟩) rows.length rows.length]) (by simp [results,results14,go_sem,M,G,I,Y,X,T,R,O,e8,V]) rfl ?_;exact N.o
end Go.Proofs.YtobdoblpnanclaaGreatDoor
