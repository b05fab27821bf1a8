/-
 The contract of package simplex's (*table).flip.
-/
import Derived.Test.YtlhhbccgfkhflaaGreatDoorProofDualWeak07
namespace Go.Proofs.YtlhhbccgfkhflaaGreatDoor
open Go.RowKit
set_option linter.unusedVariables false
set_option maxRecDepth 100000
set_option maxHeartbeats 8000000
open _root_.Go.Lib renaming hid → f
open _root_.Nat renaming le_trans → q, lt_of_lt_of_le → u, lt_or_ge → D, zero_le → E
open _root_.Go.World renaming cell?_setCell_other → s, cell?_of_block → A
open _root_.And renaming intro → p
open _root_.List renaming length_append → B, getElem?_map → C
open _root_.Go renaming World → e, Value → o
variable {P Q : Option Addr} {b : e} {base c i j k l r : Nat} {t : TB} {v : o}
theorem ymn {P:Program} {w:e} {ops:Array Oper} {g:Oper} {a:Act} {J:Act->e->Prop} {Q:Exit->Act->e->Prop} {O:Prop} {t n:TypeId} {bytes:Nat} (I:ElN P t n 1 bytes) (Y:g.guard=none) (s x:Operand) (aa:g.op= .call {callee:= .builtin .append,args:= #[s,x],argTypes:= #[t,t]})
 {h:Nat} {S:Nat->Prop} {l news:List o} {ak:TypeId} (ae:a.eval s=v) (d:a.eval x= .slice (some ⟨h,0,none⟩) news.length c) (hr:Row w h ak news) (ac:OwnS 1 n IsSl w base S v l)
 (F:∀x∈news,∃A m c,x= .slice A m c) (D:(l.length+news.length)*(bytes+1)<=140737488355328) (W:base<=w.heap.size)
 (V:∀G w',OwnS 1 n IsSl w' base S G (l++news)->w.grownBy w' v.ownBlock->J (a.put g.dst G) w'):if Region.wanted g (yielded ops a.tmps)=true then Oper.wp P g a w J Q else O:=by
 have ag:Region.wanted g (yielded ops a.tmps)=true:=by simp[Region.wanted,Y]
 rw[if_pos ag]
 obtain⟨i,z,Z,ah,af,X,ai⟩:=I.info
 obtain⟨H,T,U,p,K⟩:=ac
 have R:cellsOf news=news:=by
  have key:∀l:List o,(∀x∈l,∃A m c,x= .slice A m c)->cellsOf l=l:=fun l M=>by
   induction l with
   |nil=>rfl
   |cons x l ih=>
    obtain⟨A,m,c,rfl⟩:=M x (by simp)
    have n:cellsOf (Value.slice A m c::l)=(Value.slice A m c).cells.toList++cellsOf l:=by simp[cellsOf]
    rw[n,ih fun y f=>M y (by simp[f])];rfl
  exact key news F
 have ab:∀k∈news,k.oneCell'=true:=fun k q=>by obtain⟨A,m,c,rfl⟩:=F k q;rfl
 rw[Nat.mul_add,Nat.mul_one] at D
 obtain⟨G,w',ad,aj,N,_,r⟩:=run_append_own_at (P:=P) w base t g.type n i z 1 bytes I.und Z ah af X ai og v l.length (cellsOf H) T ⟨h,0,none⟩ news.length c news og (fun j k q=>by rw[Addr.add_lit,Nat.zero_add,hr.cell j];exact q) ab (by unfold maxLen;omega) og W
 unfold Oper.wp execOp
 simp only[aa,resolve,invoke,builtin,Sem.run_bind,Sem.run_pure,Result.andThen_ok,List.map_toArray,List.map_cons,List.map_nil,ae,d,ad]
 refine V G w' ⟨H++news,?_,?_,?_,fun b D=>⟨u (K b D).1 N.size,fun C=> ?_⟩⟩ N
 ·rw[yfl,R,B];exact aj
 ·intro k q
  rcases List.mem_append.1 q with h|h
  ·exact U k h
  ·obtain⟨A,m,c,rfl⟩:=F k h;rfl
 ·refine⟨by rw[B,B,p.1],fun j x y d f=> ?_⟩
  rw[List.getElem?_append] at d f
  by_cases E:j<H.length
  ·rw[if_pos E] at d
   rw[if_pos (by rw[<-p.1];exact E)] at f
   exact p.2 j x y d f
  ·rw[if_neg E] at d
   rw[if_neg (by rw[<-p.1];exact E),<-p.1] at f
   rw[d] at f
   cases f
   exact⟨rfl,F x (List.mem_of_getElem? d)⟩
 ·have L:=K b D
  rcases r with r|r
  ·rw[r] at C;exact L.2 C
  ·rw[r] at C;cases C;exact Nat.lt_irrefl _ L.1
def znm (F:Nat->Nat->Int) (i j:Nat):Nat->Nat->Int:=fun l k=>if l<i\/(l=i/\k<j) then -(F l k) else F l k
theorem zsm {a:Prop} [Decidable a] (b g:Nat->Int) (k:Nat):(if a then b else g) k=if a then b k else g k:=by split<;>rfl
theorem yxa (F:Nat->Nat->Int) (i j:Nat):znm F i j i j=F i j:=by unfold znm;rw[if_neg og]
theorem yxc (F:Nat->Nat->Int) (i j l k:Nat):(if l=i then(if k=j then -(F i j) else znm F i j i k) else znm F i j l k)=znm F i (j+1) l k:=by
 unfold znm;by_cases h:l=i
 ·subst h;rw[if_pos rfl];by_cases b:k=j
  ·subst b;rw[if_pos rfl,if_pos (.inr ⟨rfl,by omega⟩)]
  ·rw[if_neg b];by_cases a:k<j
   ·rw[if_pos (.inr ⟨rfl,a⟩),if_pos (.inr ⟨rfl,by omega⟩)]
   ·rw[if_neg og,if_neg og]
 ·rw[if_neg h];by_cases a:l<i
  ·rw[if_pos (.inl a),if_pos (.inl a)]
  ·rw[if_neg og,if_neg og]
theorem yxd (F:Nat->Nat->Int):znm F 0 0=F:=by funext l k;unfold znm;rw[if_neg og]
theorem yxb (F:Nat->Nat->Int) {n:Nat} (h:l=i->k<n):znm F i n l k=znm F (i+1) 0 l k:=by
 unfold znm;by_cases b:l<i
 ·rw[if_pos (.inl b),if_pos (.inl og)]
 ·by_cases a:l=i
  ·rw[if_pos (.inr ⟨a,h a⟩),if_pos (.inl og)]
  ·rw[if_neg og,if_neg og]
def hdL (L:Lay) (m n l:Nat):o:= .slice (L.ha l) (M4 m n l) (L.cp l)
def zmx (L:Lay) (m n:Nat):List o:=(List.range m).map (hdL L m n)
theorem zz1385 {L:Lay} {m n:Nat} (h:i<m+2):(zmx L m n++[.slice (L.ha m) m (L.cp m),.slice (L.ha (m+1)) n (L.cp (m+1))])[i]? =some (hdL L m n i):=by
 have c:(zmx L m n).length=m:=(by unfold zmx;simp);rw[List.getElem?_append,c];by_cases a:i<m
 ·rw[if_pos a];unfold zmx;rw[C,List.getElem?_range a];rfl
 ·rw[if_neg a];by_cases b:i=m
  ·subst b;rw[Nat.sub_self];unfold hdL;rw[Y2];rfl
  ·obtain rfl:i=m+1:=og;rw[show m+1-m=1 by omega];unfold hdL;rw[zke];rfl
theorem SchG.rowsS {w:e} {S:Nat->Prop} {lo0 lo g m n top:Nat} {L:Lay} {sc:Nat->Nat} {F:Nat->Nat->Int} {z:Int} {d:Nat} {bas oth:List Nat} {st a steps:Int} (h:SchG w S lo0 lo g L m n sc top F z d bas oth st a steps):IsS 1 IsSl w (C5 w) (.slice L.ra m L.rc) (zmx L m n):=by
 have b:(zmx L m n).length=m:=by unfold zmx;simp
 have key:∀l:List o,(∀x∈l,∃A m c,x=Value.slice A m c)->cellsOf l=l:=fun l b=>by
  induction l with
  |nil=>rfl
  |cons x l ih=>obtain⟨A,m,c,rfl⟩:=b x (by simp);have u:cellsOf (Value.slice A m c::l)=(Value.slice A m c).cells.toList++cellsOf l:=(by simp[cellsOf]);rw[u,ih fun y k=>b y (by simp[k])];rfl
 have r:∀x∈zmx L m n,∃A m c,x=Value.slice A m c:=fun x f=>(by unfold zmx at f;obtain⟨i,_,rfl⟩:=List.mem_map.1 f;exact⟨_,_,_,rfl⟩);refine⟨L.ra,L.rc,zmx L m n,by rw[b],by rw[b];exact h.caps.1,h.caps.2.1,fun t=> ?_,fun x f=>by obtain⟨A,m,c,rfl⟩:=r x f;rfl,rfl,fun j x y f k=>by rw[f] at k;cases k;exact⟨rfl,r x (List.mem_of_getElem? f)⟩⟩;rw[key _ r] at t⊢
 have s:0<m:=by
  rcases Nat.eq_zero_or_pos m with p|p
  ·exact absurd (List.eq_nil_of_length_eq_zero (by rw[b,p])) t
  ·exact p
 refine⟨L.r0,0,(h.hd 0 s).1,h.sn_lt _ (.inl (h.hd 0 s).2.1),fun j v hv=> ?_⟩;have q:j<m:=(by have:=(List.getElem?_eq_some_iff.1 hv).1;rwa[b] at this);unfold zmx at hv;rw[C,List.getElem?_range q] at hv;cases hv;rw[Nat.zero_add];have:=(h.hd j q).2.2;unfold hdL;rw[K3 q];exact this
theorem yhf {L:Lay} {m n lo:Nat} {w:e} {S:Nat->Prop} (h:OwnS 1 26 IsSl w base S v (zmx L m n++[.slice (L.ha m) m (L.cp m),.slice (L.ha (m+1)) n (L.cp (m+1))])) (l:lo<=base):
 ∃bl a,v= .slice (some ⟨bl,0,none⟩) (m+2) a/\m+2<=a/\a<=9223372036854775807/\Hid (∀i,i<m+2->w.cell? ⟨bl,i,none⟩=some (hdL L m n i))/\Hid (lo<=bl/\bl<w.heap.size):=by have c:(zmx L m n++[Value.slice (L.ha m) m (L.cp m),Value.slice (L.ha (m+1)) n (L.cp (m+1))]).length=m+2:=(by rw[B];unfold zmx;simp);obtain⟨bl,a,x,y,d,o,j,g,p,t,u,k,-,-⟩:=h.shape (fun b=>by rw[b] at c;simp at c);rw[c] at d g;refine⟨bl,a,d,g,by unfold maxLen at p;omega,fun i s=> ?_,q l o,(Array.getElem?_eq_some_iff.1 j).1⟩;obtain⟨b,r,f,_⟩:=k.get (zz1385 (L:=L) (m:=m) (n:=n) s);have hc:=zrh j t (znv u (i:=0) r (u:=b) (by rw[f];rfl));rw[Nat.mul_one,Nat.add_zero] at hc;rw[hc,f]
def zyu (t:TB):TB:=⟨fun i j=> -(t.A i j),t.d,t.bas,t.oth⟩
structure Btw (lo0 lo:Nat) (S:Nat->Prop) (w w':e):Prop where
 bel:Below lo0 w w'
 up:∀b,lo<=b->b<w.heap.size->w'.heap[b]? =w.heap[b]?
 ks:∀b,S b->b<w.heap.size->w'.heap[b]? =w.heap[b]?
theorem Btw.refl (lo0 lo:Nat) (S:Nat->Prop) (w:e):Btw lo0 lo S w w:=⟨Below.refl _ _,fun _ _ _=>rfl,fun _ _ _=>rfl⟩
theorem Btw.step {lo0 lo:Nat} {S:Nat->Prop} {a c:e} {r:Option Nat} (h:Btw lo0 lo S a b) (k:b.grownBy c r) (i:lo0<=a.heap.size) (hr:∀x,r=some x->lo0<=x/\x<lo/\¬S x):Btw lo0 lo S a c:=
 ⟨h.bel.grown k (q i h.bel.size) fun x d=>(hr x d).1,fun x g f=>(k.block x (u f h.bel.size) fun d=>by have:=(hr x d.symm).2.1;omega).trans (h.up x g f),
  fun x g f=>(k.block x (u f h.bel.size) fun d=>(hr x d.symm).2.2 g).trans (h.ks x g f)⟩
theorem Btw.below {lo0 lo:Nat} {S:Nat->Prop} {a c:e} (h:Btw lo0 lo S a b) (k:Below b.heap.size b c) (f:lo0<=a.heap.size):Btw lo0 lo S a c:=h.step (r:=none) (K9 k) f fun x d=>by cases d
theorem Btw.trans {lo0 lo:Nat} {S:Nat->Prop} {a c:e} (h:Btw lo0 lo S a b) (k:Btw lo0 lo S b c):Btw lo0 lo S a c:=
 ⟨h.bel.trans k.bel,fun x d f=>(k.up x d (u f h.bel.size)).trans (h.up x d f),fun x d f=>(k.ks x d (u f h.bel.size)).trans (h.ks x d f)⟩
theorem Btw.same {lo0 lo:Nat} {S:Nat->Prop} {a:e} (h:Btw lo0 lo S a b) (d:∀x,S x->x<a.heap.size):L6 (SN S lo a) (SN S lo b) a b:=fun x c=>⟨zrx h.bel.size x c,fun f=>A (by
 rcases c with c|c
 ·exact h.ks x c (d x c)
 ·exact h.up x c.1 c.2)⟩
theorem Btw.row {lo0 lo:Nat} {S:Nat->Prop} {a:e} (h:Btw lo0 lo S a b) {g:Nat} {t:TypeId} {c:List o} (hr:Row a g t c) (d:lo<=g):Row b g t c:=(h.up g d hr.lt).trans hr
abbrev zuz (w:e) (g:Nat) (x y z:o):e:=((w.setCell ⟨g,5,none⟩ x).setCell ⟨g,6,none⟩ y).setCell ⟨g,7,none⟩ z
theorem ybz (w:e) (g:Nat) (x y z:o):w.grownBy (zuz w g x y z) (some g):=L5 (L5 (K0 _ _ _ _) (K0 _ _ _ _)) (K0 _ _ _ _)
theorem SchG.value {w:e} {S:Nat->Prop} {lo0 lo g m n top:Nat} {L:Lay} {sc:Nat->Nat} {F:Nat->Nat->Int} {z:Int} {d:Nat} {bas oth:List Nat} {st a steps:Int} (h:SchG w S lo0 lo g L m n sc top F z d bas oth st a steps) {z':Int}
 (t:IsQ w (SN S lo w) (.agg #[.bool (decide (z'<0)),.slice P (A8 z'.natAbs).length k,.slice Q (A8 1).length l]) ((z':Int):Rat)):
 SchG (zuz w g (.bool (decide (z'<0))) (.slice P (A8 z'.natAbs).length k) (.slice Q (A8 1).length l)) S lo0 lo g L m n sc top F z' d bas oth st a steps:=by obtain⟨u,y,v,A,D,j,i,o,q,x,r,s⟩:=h.row;have f:=ybz w g (.bool (decide (z'<0))) (.slice P (A8 z'.natAbs).length k) (.slice Q (A8 1).length l);have c:=h.same f fun b p=>(by cases p;exact h.gS.2);exact h.cells f ⟨P,k,Q,l,D,j,i,o,((q.set_ 5 _).set_ 6 _).set_ 7 _,IsQ.stb.to t c,IsK.stb.to r c,IsK.stb.to s c⟩
theorem ywg {m n:Nat} (h:∀i j,i<=m->j<=n->Sz ((t.A i j:Int):Rat) k) (d:l<m+2) (b:j<M4 m n l):Sz ((zkb t m n l j:Int):Rat) k:=by
 unfold zkb;unfold M4 at b;by_cases a:l=m
 ·rw[if_pos a];rw[if_pos a] at b;exact h j n og (Nat.le_refl _)
 ·rw[if_neg a];rw[if_neg a] at b;by_cases c:l=m+1
  ·rw[if_pos c,Rat.intCast_neg];exact(h m j (Nat.le_refl _) og).neg
  ·rw[if_neg c];exact h l j og og
theorem ywf (t:TB) (m n l j:Nat):zkb (zyu t) m n l j= -(zkb t m n l j):=by
 unfold zkb;by_cases a:l=m
 ·rw[if_pos a,if_pos a];rfl
 ·rw[if_neg a,if_neg a];by_cases b:l=m+1
  ·rw[if_pos b,if_pos b];rfl
  ·rw[if_neg b,if_neg b];rfl
theorem zz1439 {w:e} {S:Nat->Prop} {lo0 lo g m n top:Nat} {L:Lay} {sc:Nat->Nat} {st a steps:Int} (h:T3 w S lo0 lo g L m n sc top t st a steps) (cT:m<=100) (cU:n<=100) (bv:∀i j,i<=m->j<=n->Sz ((t.A i j:Int):Rat) 100000):
 Calls Tryz.prog 121 #[.pointer (some ⟨g,0,none⟩)] w fun c w'=>c= .returned (.tuple #[])/\T3 w' S lo0 lo g L m n sc top (zyu t) st a steps/\Btw lo0 lo S w w':=by
 obtain⟨a7,bd⟩:=C7 h bv;have F:Hid (lo0<=w.heap.size/\lo<=w.heap.size):=⟨q h.gS.1 (Nat.le_of_lt h.g_lt),h.tab.hlo⟩;have cK:m<=L.rc:=h.caps.1;have cL:L.rc<=9223372036854775807:=(by have:=h.caps.2.1;unfold maxLen at this;omega);obtain⟨ct,cV,cv,cX,cn,cC,cx,cF,⟨bi,bm,-,-⟩,⟨aO,aP,W,X,Y⟩,⟨aQ,aR,aS⟩,-,-⟩:=h.open;obtain⟨ag,cm,H⟩:=F0 (IsQ.stb.to bm (G4 (T:=C5 w) h.sn_lt)) (p W (p X Y)) (p aQ (p aR aS));have aG:Hid (∀T,Below w.heap.size w T->∀a2,T.frozen? ⟨g,a2,none⟩=false):=fun T aV a2=>(bi.next aV).frozen a2;obtain⟨cd,bw⟩:=nm (decide (t.A m n<0));obtain⟨cf,bx⟩:=nm ((A8 (t.A m n).natAbs).length);obtain⟨bJ,G⟩:=nm ((A8 1).length);rw[<-bw] at aQ ag H;rw[<-bx] at aR ag H;rw[<-G] at aS ag H;have cE:=N9;have bQ:=f G;clear h bv bi bm aO aP W X Y bw bx G;go_in;go_wp2_with fail;clear aQ aR aS;obtain⟨z,bE⟩:=nm (-(t.A m n));have a9:=f bE;clear bE;refine(zrq (p:=((z:Int):Rat)) ag.out (bd.out m n (Nat.le_refl _) (Nat.le_refl _)) (by rw[a9.out,Rat.intCast_neg])).mono ?_;rintro c aB ⟨⟨cZ,rfl,hv⟩,r⟩;obtain⟨be,bF,bf,bG,rfl⟩:=zle hv;have u0:=A9 r H.out.1;have u1:=A9 r H.out.2.1;have u2:=A9 r H.out.2.2;have ai:=aG.out aB r 5;have aj:=aG.out aB r 6;have ak:=aG.out aB r 7;obtain⟨bK,O⟩:=C7 r ((a7.out.next r).value (P:=be) (k:=bF) (Q:=bf) (l:=bG) (z':=z) (IsQ.stb.to hv (G4 fun b Z=> .inr ⟨q F.out.2 Z.1,Z.2⟩)));clear r hv;go_wp2_with fail;clear u0 u1 u2 ai aj ak;rw[bQ.out] at*;obtain⟨d,aA⟩:=nm (((aB.setCell ⟨g,5,none⟩ (.bool (decide (z<0)))).setCell ⟨g,6,none⟩ (.slice be (A8 z.natAbs).length bF)).setCell ⟨g,7,none⟩ (.slice bf (A8 1).length bG));have ad:Hid (Btw lo0 lo S w d):=(by rw[Hid,aA];exact((Btw.refl lo0 lo S w).step (K9 (row:=none) bK.out) F.out.1 (fun x c=>by cases c)).step (ybz _ _ _ _ _) F.out.1 fun x c=>by cases c;exact a7.out.gS);have O:Hid (SchG d S lo0 lo g L m n sc top (zkb t m n) z t.d t.bas t.oth st a steps):=(by rw[Hid,aA];exact O.out);rw[<-aA];have a6:Hid (lo<=d.heap.size):=q F.out.2 ad.out.bel.size;clear aA;obtain⟨cu,cW,cw,cY,cq,cD,cy,cG,-,⟨aO,aP,W,X,Y⟩,-,-,-⟩:=O.out.open;have RV:=f O.out.rowsS;have bu:(zmx L m n).length=m:=(by unfold zmx;simp);have aH:=f bu;clear aO aP bu;have aI:=zlz W X Y;have a5:=f fun T (aV:Below d.heap.size d T)=>yqp ((IsS.stb IsSl.stb).to RV.out (C9 aV)) (by rw[aH.out];omega)
 go_region_held3 (SH.mk _ aI).s
  (exact aI.out _ bel)
  (first
    |(go_at_call 134;(with_reducible refine Calls.mono (a5.out _ bel) ?_);rintro c a3 ⟨⟨cg,rfl,bA⟩,ao⟩;have P:=f bA;have M:=bW d a3;obtain⟨cl,cB,rfl⟩:=bA.slice;(first|(have cc:Row a3 d.heap.size 26 [.slice (L.ha m) m (L.cp m),.slice (L.ha (m+1)) n (L.cp (m+1))]:=(Row.next (heap_alloc_new (World.drew d) _) ao:Row a3 _ _ _))|skip))
    |(refine ymn elV rfl _ _ rfl (news:=[.slice (L.ha m) m (L.cp m),.slice (L.ha (m+1)) n (L.cp (m+1))]) rfl rfl (heap_alloc_new _ _) (OwnS.step IsSl.stb P.out (L7 _ _) (fun b h=>h) (fun b h=> .inl h)) (by intro x v;rcases List.mem_cons.1 v with h|h;exact⟨_,_,_,h⟩;rw[List.mem_singleton] at h;exact⟨_,_,_,h⟩) (by rw[aH.out];simp;omega) (by have:=ao.size;simp at this;simp;omega) ?_;intro ch ac az ar;have N:Hid (Below d.heap.size d ac):=(T4 M.out _).grown ar (Below.size (T4 M.out _)) (fun k c=>by have al:=(OwnS.own_lt P.out k c).1;simp at al;omega);obtain⟨bl,bY,aN,b1,b3,bn,aX⟩:=yhf (lo:=lo) az (by have:=a6.out;simp;omega);subst aN)
    |(refine ymn elV rfl _ _ rfl (news:=[.slice (L.ha m) m (L.cp m),.slice (L.ha (m+1)) n (L.cp (m+1))]) rfl rfl cc P.out (by intro x v;rcases List.mem_cons.1 v with h|h;exact⟨_,_,_,h⟩;rw[List.mem_singleton] at h;exact⟨_,_,_,h⟩) (by rw[aH.out];simp;omega) (by have:=ao.size;simp at this;simp;omega) ?_;intro ch ac az ar;have N:Hid (Below d.heap.size d ac):=M.out.grown ar (Below.size M.out) (fun k c=>by have al:=(OwnS.own_lt P.out k c).1;simp at al;omega);obtain⟨bl,bY,aN,b1,b3,bn,aX⟩:=yhf (lo:=lo) az (by have:=a6.out;simp;omega);subst aN))
 all_goals
  have bO:=f (O.out.next N.out)
  clear aI a5 az ar P M ao
  go_wp2_with fail
  clear W X Y
  go_loopw [35,3,4,5] (fun aY _ _ _ wr=>∃i:Nat,i<=m+2/\aY= .int .i64 (i:Int)/\Btw lo0 lo S ac wr/\Hid (SchG wr S lo0 lo g L m n sc top (znm (zkb t m n) i 0) z t.d t.bas t.oth st a steps)) (fun aY _ _ _ _=>m+2-(intOf aY).toNat)
  case atStart=>exact⟨0,E _,rfl,Btw.refl _ _ _ _,by rw[Hid,yxd];exact bO.out⟩
  case round=>
   obtain⟨i,cN,rfl,aa,ab⟩:=hrel
   have aC:=f aa
   have aL:=f ab.out
   clear aa ab
   rcases D i (m+2) with ay|cM
   ·have aM:=(A (aC.out.up _ aX.out.1 aX.out.2)).trans (bn.out i ay)
    have cO:(0:Int)<=(i:Int):=og
    have cP:(i:Int)<(m:Int)+2:=og
    unfold hdL at aM
    obtain⟨cA,aW⟩:=nm (L.ha i)
    obtain⟨J,an⟩:=nm (M4 m n i)
    obtain⟨C,aU⟩:=nm (L.cp i)
    have aq:=aL.out.cap i ay
    rw[<-aW,<-an,<-aU] at aM
    rw[<-an,<-aU] at aq
    obtain⟨bM,ae⟩:=C7 aW an
    have cI:J<=C:=aq.1
    have cJ:C<=9223372036854775807:=by have:=aq.2;unfold maxLen at this;omega
    have o:=f ay
    clear aW an aU aq ay
    go_wp2_with fail
    clear aM
    go_loopw [41,4,5] (fun aZ _ _ bI=>∃j:Nat,j<=J/\aZ= .int .i64 (j:Int)/\Btw lo0 lo S ac bI/\Hid (SchG bI S lo0 lo g L m n sc top (znm (zkb t m n) i j) z t.d t.bas t.oth st a steps)) (fun aZ _ _ _=>J-(intOf aZ).toNat)
    case atStart=>exact⟨0,E _,rfl,aC.out,aL.out⟩
    case round=>
     obtain⟨j,cQ,rfl,aa,ab⟩:=hrel
     have a4:=f aa
     have Q:=f ab.out
     clear aa ab
     rcases D j J with bq|bq
     ·have au:j<M4 m n i:=by rw[<-ae.out];exact bq
      have aT:1<=M4 m n i:=og
      obtain⟨bR,ca,bT,cb,ea,U,V,ah,eq⟩:=Q.out.el o.out au
      rw[yxa] at U V eq
      have av:=Q.out.tab.line i o.out aT
      have ai:wr.frozen? ⟨L.bk i,j*3,none⟩=false:=av.free
      have aj:wr.frozen? ⟨L.bk i,j*3+1,none⟩=false:=av.free
      have ak:wr.frozen? ⟨L.bk i,j*3+2,none⟩=false:=av.free
      have af:=f eq
      have cR:(0:Int)<=(j:Int):=og
      have cS:(j:Int)<(J:Int):=og
      obtain⟨cj,bC⟩:=nm (decide (zkb t m n i j<0))
      obtain⟨ck,bD⟩:=nm ((A8 (zkb t m n i j).natAbs).length)
      obtain⟨bJ,G⟩:=nm ((A8 1).length)
      rw[<-bC] at U af
      rw[<-bD] at V af
      rw[<-G] at ah af
      obtain⟨c1,b8,u,bH,b9⟩:=J9 wr #[.bool cj,.slice bR ck ca,.slice bT bJ cb] 30
      obtain⟨bV,bX,b2⟩:=C0 bH
      have bU:=nQ af u
      obtain⟨I,aE,aD,B,bP⟩:=hd5 (p (A9 u U) (p (A9 u V) (A9 u ah))) (p (J5 u U ai) (p (J5 u V aj) (J5 u ah ak))) u (p au aT) (ywg bd.out o.out au)
      have bZ:=bM.out.trans ea
      subst bZ
      obtain⟨cz,bj⟩:=nm (L.bk i)
      obtain⟨cr,cs⟩:=C7 bj G
      clear eq av bC bD G bH b9 u ai aj ak au aT ea
      go_wp2_with fail
      clear b8 U V ah
      obtain⟨y,bB⟩:=nm (-zkb t m n i j)
      have a8:=f bB
      clear bB
      refine(zrq (p:=((y:Int):Rat)) bU.out bP.out (by rw[a8.out,Rat.intCast_neg])).mono ?_
      rintro c K ⟨⟨c0,rfl,hv⟩,s⟩
      obtain⟨aJ,a0,aK,a1,rfl⟩:=zle hv
      have u0:=A9 s I.out.1
      have u1:=A9 s I.out.2.1
      have u2:=A9 s I.out.2.2
      have cd:=J5 s I.out.1 aE.out.1
      have cf:=J5 s I.out.2.1 aE.out.2.1
      have cg:=J5 s I.out.2.2 aE.out.2.2
      have R:=f ((Q.out.next aD.out).next s)
      have bL:=nB aD s
      have bN:Hid (IsQ K (SN S lo K) (.agg #[.bool (decide (y<0)),.slice aJ (A8 y.natAbs).length a0,.slice aK (A8 1).length a1]) ((y:Int):Rat)):=IsQ.stb.to hv (G4 fun b Z=> .inr ⟨by have al:=Z.1;have cH:=Q.out.tab.hlo;have bg:=aD.out.size;omega,Z.2⟩)
      clear s hv bV bX b2 bj
      go_wp2_with fail
      go_roundw
      case rel=>
       have bh:=(R.out.tab.line i o.out B.out.2).put (fun x v c=>by
        have bg:=R.out.tab.sep i o.out B.out.2
        rcases v with v|v
        ·exact bg.2 (by rw[<-c];exact v)
        ·have:=v.1;omega) B.out.1 bN.out
       have bp:K.grownBy (N8 K (L.bk i) j (.bool (decide (y<0))) (.slice aJ (A8 y.natAbs).length a0) (.slice aK (A8 1).length a1)) (some (L.bk i)):=zmr (J0 _ _)
       have b5:SN S lo K=SN S lo (N8 K (L.bk i) j (.bool (decide (y<0))) (.slice aJ (A8 y.natAbs).length a0) (.slice aK (A8 1).length a1)):=by unfold SN;rw[zqw]
       rw[b5] at bh
       have b0:=(R.out.line o.out B.out.2 bp bh).nums (G:=znm (zkb t m n) i (j+1)) fun l k _ _=>by rw[a8.out,zsm];exact yxc _ i j l k
       have b4:=R.out.lS i o.out B.out.2
       have b7:=R.out.tab.sep i o.out B.out.2
       exact⟨j+1,by have:=B.out.1;rw[ae.out];omega,by go_num,(a4.out.step (K9 (row:=none) bL.out) (by have:=F.out;have:=ad.out.bel.size;have:=N.out.size;omega) (fun x c=>by cases c)).step bp (by have:=F.out;have:=ad.out.bel.size;have:=N.out.size;omega) (fun x c=>by cases c;exact⟨b4.1,b7⟩),b0⟩
      case measure=>simp[intOf];have:=B.out.1;rw[<-ae.out] at this;omega
     ·obtain rfl:j=J:=og
      go_wp2_with fail
      go_roundw
      case rel=>
       refine⟨i+1,o.out,by go_num,a4.out,?_⟩
       exact Q.out.nums fun l k bt br=>yxb _ fun c=>by subst c;rw[ae.out];exact br
      case measure=>simp[intOf];have:=o.out;omega
   ·obtain rfl:i=m+2:=og
    go_wp2_with fail
    refine bodyPost_end (results_none rfl _ _ _) rfl ?_
    have hfin:=aL.out
    rw[a9.out] at hfin
    refine⟨rfl,hfin.nums fun l k bt br=> ?_,(ad.out.below N.out F.out.1).trans aC.out⟩
    unfold znm
    rw[if_pos (.inl bt)]
    exact(ywf t m n l k).symm
def L9 (t:TB) (r c m n i:Nat):Nat->Nat->Int:=fun l j=>
 if l<m then(if l<i/\l≠r then zoj (t.A l) (t.A r) c t.d j else t.A l j)
 else if l=m then(if j<i/\j≠r then zlc (t.A j n) (t.A r c) (t.A j c) (t.A r n) t.d else t.A j n) else -(t.A m j)
theorem yyz {m n:Nat} (d:l<m+2):zkb t m n l j=L9 t r c m n 0 l j:=by
 unfold zkb L9;by_cases b:l<m
 ·rw[if_neg og,if_neg og,if_pos b,if_neg og]
 ·rw[if_neg b];by_cases a:l=m
  ·rw[if_pos a,if_pos a,if_neg og]
  ·rw[if_neg a,if_neg a,if_pos og]
theorem yyx (t:TB) (r c m n l j:Nat):L9 t r c m n r l j=L9 t r c m n (r+1) l j:=by
 unfold L9;by_cases b:l<m
 ·rw[if_pos b,if_pos b];by_cases a:l<r/\l≠r
  ·rw[if_pos a,if_pos ⟨by omega,a.2⟩]
  ·rw[if_neg a,if_neg og]
 ·rw[if_neg b,if_neg b];by_cases d:l=m
  ·rw[if_pos d,if_pos d];by_cases a:j<r/\j≠r
   ·rw[if_pos a,if_pos ⟨by omega,a.2⟩]
   ·rw[if_neg a,if_neg og]
  ·rw[if_neg d,if_neg d]
theorem ydj {m n:Nat} (a:i<m):L9 t r c m n i i j=t.A i j:=by unfold L9;rw[if_pos a,if_neg og]
theorem zzf {m n:Nat} (hr:r<m):L9 t r c m n i r j=t.A r j:=by unfold L9;rw[if_pos hr,if_neg og]
theorem yyw {m n:Nat}:L9 t r c m n i m i=t.A i n:=by unfold L9;rw[if_neg og,if_pos rfl,if_neg og]
theorem ydi {m n:Nat}:L9 t r c m n i (m+1) j= -(t.A m j):=by unfold L9;rw[if_neg og,if_neg og]
theorem yyy {m n:Nat} (f:i<m) (g:i≠r) (hr:r<m) (l j:Nat):
 (if l=i then zoj (if i=m then(fun x=>if x=i then zlc (t.A i n) (t.A r c) (t.A i c) (t.A r n) t.d else L9 t r c m n i m x) else L9 t r c m n i i) (if r=m then(fun x=>if x=i then zlc (t.A i n) (t.A r c) (t.A i c) (t.A r n) t.d else L9 t r c m n i m x) else L9 t r c m n i r) c t.d j
   else(if l=m then(fun x=>if x=i then zlc (t.A i n) (t.A r c) (t.A i c) (t.A r n) t.d else L9 t r c m n i m x) else L9 t r c m n i l) j)=L9 t r c m n (i+1) l j:=by
 have a:L9 t r c m n i i=t.A i:=(by funext x;exact ydj f);have b:L9 t r c m n i r=t.A r:=(by funext x;exact zzf hr);rw[if_neg (show¬i=m by omega),if_neg (show¬r=m by omega),a,b,zsm];unfold L9;by_cases d:l=i
 ·subst d;grind
 ·by_cases e:l=m
  ·subst e;grind
  ·grind
theorem yuv {w:e} {b i g:Nat} {x y z:o} (h:w.cell? ⟨b,i,none⟩=some v) (d:b≠g):(zuz w g x y z).cell? ⟨b,i,none⟩=some v:=by unfold zuz;rw[s _ _ _ _ (fun a=>by injection a with c f;exact d c.symm),s _ _ _ _ (fun a=>by injection a with c f;exact d c.symm),s _ _ _ _ (fun a=>by injection a with c f;exact d c.symm)];exact h
theorem yra (a e b c:Int) (d:Nat):zlc (-a) e (-b) c d= -(zlc a e b c d):=by unfold zlc;rw[<-Int.neg_tdiv];congr 1;rw[Int.neg_mul,Int.neg_mul];omega
def zqb (t:TB) (r c:Nat):TB:=⟨zli t.A t.d r c,(t.A r c).natAbs,t.bas.set r (t.oth.getD c 0),t.oth.set c (t.bas.getD r 0)⟩
theorem yzc (h:¬t.A r c<0):zqb t r c=U4 t r c:=by have a:zno t.A t.d r c=zli t.A t.d r c:=(by funext i j;unfold zno;rw[if_neg h]);unfold U4 zqb;rw[a]
theorem yzb (h:t.A r c<0):zyu (zqb t r c)=U4 t r c:=by have a:zno t.A t.d r c=fun i j=> -(zli t.A t.d r c i j):=(by funext i j;unfold zno;rw[if_pos h]);unfold U4 zyu zqb;rw[a]
theorem yzd {m n:Nat} (h:∀i j,i<=m->j<=n->Sz ((zno t.A t.d r c i j:Int):Rat) k) (i j:Nat) (b:i<=m) (d:j<=n):Sz (((zqb t r c).A i j:Int):Rat) k:=by
 have a:=h i j b d;unfold zno at a;show Sz ((zli t.A t.d r c i j:Int):Rat) k;split at a
 ·have:=a.neg;rw[Rat.intCast_neg] at this;rwa[Rat.neg_neg] at this
 ·exact a
theorem yyv {m n:Nat} (hr:r<m) (hc:c<n) (k:l<m+2) (d:j<M4 m n l):
 (if l=r then(if j=c then((t.d:Nat):Int) else(if r=m+1 then zoj (L9 t r c m n m (m+1)) (L9 t r c m n m r) c t.d j else L9 t r c m n m r j))
   else if l=m+1 then zoj (L9 t r c m n m (m+1)) (L9 t r c m n m r) c t.d j else L9 t r c m n m l j)=zkb (zqb t r c) m n l j:=by
 have f:L9 t r c m n m (m+1)=fun j=> -(t.A m j):=(by funext j;exact ydi);have g:L9 t r c m n m r=t.A r:=(by funext j;exact zzf hr);have h:∀i j,(zqb t r c).A i j=zli t.A t.d r c i j:=fun _ _=>rfl;rw[f,g];unfold zkb;simp only[h];unfold M4 at d;by_cases e:l=r
 ·subst e;unfold zli;grind
 ·rw[if_neg e];by_cases b:l=m+1
  ·rw[if_pos b,if_neg og,if_pos b,zli,if_neg og];unfold zoj;by_cases a:j=c
   ·rw[if_pos a,if_pos a]
   ·rw[if_neg a,if_neg a,yra]
  ·rw[if_neg b];unfold L9;by_cases a:l=m
   ·subst a;rw[if_pos rfl] at d;unfold zli;grind
   ·rw[if_neg a] at d;unfold zli zoj;grind
section
variable {w w' : e} {S : Nat → Prop} {lo0 lo g m n top : Nat} {L : Lay} {sc : Nat → Nat} {F : Nat → Nat → Int} {z : Int} {d : Nat} {bas oth : List Nat} {st a steps : Int}
theorem SchG.putL (h:SchG w S lo0 lo g L m n sc top F z d bas oth st a steps) (e:l<m+2) (r:j<M4 m n l) {x:Int} {q:Nat}
 (s:IsQ w (SN S lo w) (.agg #[.bool (decide (x<0)),.slice P (A8 x.natAbs).length k,.slice Q (A8 1).length q]) ((x:Int):Rat)):
 SchG (N8 w (L.bk l) j (.bool (decide (x<0))) (.slice P (A8 x.natAbs).length k) (.slice Q (A8 1).length q)) S lo0 lo g L m n sc top (fun k=>if k=l then(fun i=>if i=j then x else F l i) else F k) z d bas oth st a steps:=by
 have c:1<=M4 m n l:=og
 have f:=(h.tab.line l e c).put (fun y b o=>by
  have p:=h.tab.sep l e c;rcases b with b|b
  ·exact p.2 (by rw[<-o];exact b)
  ·have:=b.1;omega) r s
 have t:SN S lo w=SN S lo (N8 w (L.bk l) j (.bool (decide (x<0))) (.slice P (A8 x.natAbs).length k) (.slice Q (A8 1).length q)):=(by unfold SN;rw[zqw]);rw[t] at f;exact h.line e c (zmr (J0 _ _)) f
theorem SchG.ints (h:SchG w S lo0 lo g L m n sc top F z d bas oth st a steps) (hr:r<m) (hc:c<n):
 SchG ((w.setCell ⟨L.bb,r,none⟩ (.int .i64 ((oth.getD c 0:Nat):Int))).setCell ⟨L.ob,c,none⟩ (.int .i64 ((bas.getD r 0:Nat):Int))) S lo0 lo g L m n sc top F z d (bas.set r (oth.getD c 0)) (oth.set c (bas.getD r 0)) st a steps:=by
 have C:1<=m:=og;have t:1<=n:=og;have e:=h.bS C;have q:=h.oS t;have J:=h.bo C t;have s:=K0 w L.bb r (.int .i64 ((oth.getD c 0:Nat):Int));obtain⟨o,N⟩:=nm (w.setCell ⟨L.bb,r,none⟩ (.int .i64 ((oth.getD c 0:Nat):Int)));have B:=K0 o L.ob c (.int .i64 ((bas.getD r 0:Nat):Int));have I:=(h.basW C).2.put hr (oth.getD c 0);rw[<-N] at s I⊢;have K:o.heap.size=w.heap.size:=(by rw[N];simp[World.setCell]);have M:∀b,some L.bb=some b->b<lo/\¬S b:=fun b f=>(by cases f;exact⟨e.2.1,e.2.2.1⟩);have ae:∀b,some L.ob=some b->b<lo/\¬S b:=fun b f=>(by cases f;exact⟨q.2.1,q.2.2.1⟩);have ag:SchG o S lo0 lo g L m n sc top F z d (bas.set r (oth.getD c 0)) oth st a steps->SchG o S lo0 lo g L m n sc top F z d (bas.set r (oth.getD c 0)) oth st a steps:=id;have W:TabW o S lo L.bk L.cp (m+2) (M4 m n) F:=h.tab.grown s fun b f=>(by cases f;exact⟨e.2.1,e.2.2.1,fun l G H=>(h.lS l G H).2.2.1 C⟩);have U:=h.row_next s fun b f=>(by cases f;exact⟨e.2.1,e.2.2.1,e.2.2.2⟩);have R:=h.hd_next s M;have O:=h.scl_next s M;have T:IntW o L.ob n (fun j=>oth.getD j 0):=(h.othW t).2.keep (s.block _ (h.othW t).2.lt fun f=>J (by injection f with f;exact f.symm));have ad:SchG o S lo0 lo g L m n sc top F z d bas oth st a steps->True:=fun _=>trivial;have Z:(fun i=>(bas.set r (oth.getD c 0)).getD i 0)=O7 (fun i=>bas.getD i 0) r (oth.getD c 0):=zum (by rw[h.len.1];exact hr);have aa:(fun j=>(oth.set c (bas.getD r 0)).getD j 0)=O7 (fun j=>oth.getD j 0) c (bas.getD r 0):=zum (by rw[h.len.2];exact hc);have ac:∀b,SN S lo o b->b<o.heap.size:=fun b e=>by rw[K];exact h.sn_lt b (by unfold SN at e⊢;rw[K] at e;exact e)
 have u:L6 (SN S lo o) (SN S lo (o.setCell ⟨L.ob,c,none⟩ (.int .i64 ((bas.getD r 0:Nat):Int)))) o (o.setCell ⟨L.ob,c,none⟩ (.int .i64 ((bas.getD r 0:Nat):Int))):=fun b e=>⟨zrx B.size b e,fun af=>A (B.block b (ac b e) fun f=>by
  cases f;rcases e with e|e
  ·exact q.2.2.1 e
  ·have:=e.1;have:=q.2.1;omega)⟩
 refine⟨W.grown B fun b f=>by cases f;exact⟨q.2.1,q.2.2.1,fun l G H=>(h.lS l G H).2.2.2 t⟩,h.hv,h.cap,?_,fun i ab=> ?_,h.caps,fun _=>⟨(h.basW C).1,?_⟩,fun _=>⟨(h.othW t).1,?_⟩,fun v hv=> ?_,h.gS,h.bS,h.oS,h.bo,h.lS,by rw[List.length_set,List.length_set];exact h.len⟩
 ·obtain⟨P,k,Q,l,D,X,V,Y,x,p,y,E⟩:=U;exact⟨P,k,Q,l,D,X,V,Y,x.grownN B fun b f=>by cases f;exact Ne.symm q.2.2.2,IsQ.stb.to p u,IsK.stb.to y u,IsK.stb.to E u⟩
 ·obtain⟨x,p,y⟩:=R i ab;exact⟨x,p,((u _ (.inl p)).2 _).trans y⟩
 ·rw[Z];exact I.keep (B.block _ I.lt fun f=>J (by injection f))
 ·rw[aa];exact T.put hc (bas.getD r 0)
 ·obtain⟨x,p,P,k,y,E⟩:=O v (ylv (by rw[h.len.1];exact hr) (by rw[h.len.2];exact hc) v hv);exact⟨x,p,P,k,((u _ (.inl p)).2 _).trans y,IsK.stb.to E fun b e=>⟨e,(u b (.inl e)).2⟩⟩
end
theorem hpV {w:e} {c:Nat} {S:e->Prop} (h:Hid (∀a:e,Below w.heap.size w a->S a)) (r:NeL c S):Hid (∀a:e,Below w.heap.size w a->∀x y z,S (zuz a c x y z)):=fun a d x y z=>r (fun a=>zuz a c x y z) (fun b f v a n h=>yuv h n) a (h.out a d)
end Go.Proofs.YtlhhbccgfkhflaaGreatDoor
