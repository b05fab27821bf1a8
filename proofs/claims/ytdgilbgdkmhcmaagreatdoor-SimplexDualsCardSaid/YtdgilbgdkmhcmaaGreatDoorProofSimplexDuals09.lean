/-
 The contract of package simplex's (*table).flip.
-/
import Derived.Test.YtdgilbgdkmhcmaaGreatDoorProofSimplexDuals08
namespace Go.Proofs.YtdgilbgdkmhcmaaGreatDoor
open Go.RowKit
set_option linter.unusedVariables false
set_option maxRecDepth 100000
set_option maxHeartbeats 8000000
open _root_.Go.Lib renaming hid → f
open _root_.Nat renaming le_trans → q, lt_of_lt_of_le → u, lt_or_ge → D, zero_le → E
open _root_.Go.World renaming cell?_setCell_other → s, cell?_of_block → A
open _root_.And renaming intro → p
open _root_.List renaming length_append → B, getElem?_map → C
open _root_.Go renaming World → e, Value → o
variable {P Q : Option Addr} {b : e} {base c i j k l r : Nat} {t : TB} {v : o}
theorem ykk {P:Program} {w:e} {ops:Array Oper} {g:Oper} {a:Act} {J:Act->e->Prop} {Q:Exit->Act->e->Prop} {O:Prop} {t n:TypeId} {bytes:Nat} (I:ElN P t n 1 bytes) (Y:g.guard=none) (s x:Operand) (aa:g.op= .call {callee:= .builtin .append,args:= #[s,x],argTypes:= #[t,t]})
 {h:Nat} {S:Nat->Prop} {l news:List o} {al:TypeId} (af:a.eval s=v) (d:a.eval x= .slice (some ⟨h,0,none⟩) news.length c) (hr:Row w h al news) (ad:OwnS 1 n IsSl w base S v l)
 (F:∀x∈news,∃A m c,x= .slice A m c) (D:(l.length+news.length)*(bytes+1)<=140737488355328) (W:base<=w.heap.size)
 (V:∀G w',OwnS 1 n IsSl w' base S G (l++news)->w.grownBy w' v.ownBlock->J (a.put g.dst G) w'):if Region.wanted g (yielded ops a.tmps)=true then Oper.wp P g a w J Q else O:=by
 have ah:Region.wanted g (yielded ops a.tmps)=true:=by simp[Region.wanted,Y]
 rw[if_pos ah]
 obtain⟨i,z,Z,ai,ag,X,aj⟩:=I.info
 obtain⟨H,T,U,p,K⟩:=ad
 have R:cellsOf news=news:=by
  have key:∀l:List o,(∀x∈l,∃A m c,x= .slice A m c)->cellsOf l=l:=fun l M=>by
   induction l with
   |nil=>rfl
   |cons x l ih=>
    obtain⟨A,m,c,rfl⟩:=M x (by simp)
    have n:cellsOf (Value.slice A m c::l)=(Value.slice A m c).cells.toList++cellsOf l:=by simp[cellsOf]
    rw[n,ih fun y f=>M y (by simp[f])];rfl
  exact key news F
 have ac:∀k∈news,k.oneCell'=true:=fun k q=>by obtain⟨A,m,c,rfl⟩:=F k q;rfl
 rw[Nat.mul_add,Nat.mul_one] at D
 obtain⟨G,w',ae,ak,N,_,r⟩:=run_append_own_at (P:=P) w base t g.type n i z 1 bytes I.und Z ai ag X aj og v l.length (cellsOf H) T ⟨h,0,none⟩ news.length c news og (fun j k q=>by rw[Addr.add_lit,Nat.zero_add,hr.cell j];exact q) ac (by unfold maxLen;omega) og W
 unfold Oper.wp execOp
 simp only[aa,resolve,invoke,builtin,Sem.run_bind,Sem.run_pure,Result.andThen_ok,List.map_toArray,List.map_cons,List.map_nil,af,d,ae]
 refine V G w' ⟨H++news,?_,?_,?_,fun b D=>⟨u (K b D).1 N.size,fun C=> ?_⟩⟩ N
 ·rw[ydj,R,B];exact ak
 ·intro k q
  rcases List.mem_append.1 q with h|h
  ·exact U k h
  ·obtain⟨A,m,c,rfl⟩:=F k h;rfl
 ·refine⟨by rw[B,B,p.1],fun j x y d f=> ?_⟩
  rw[List.getElem?_append] at d f
  by_cases E:j<H.length
  ·rw[if_pos E] at d
   rw[if_pos (by rw[<-p.1];exact E)] at f
   exact p.2 j x y d f
  ·rw[if_neg E] at d
   rw[if_neg (by rw[<-p.1];exact E),<-p.1] at f
   rw[d] at f
   cases f
   exact⟨rfl,F x (List.mem_of_getElem? d)⟩
 ·have L:=K b D
  rcases r with r|r
  ·rw[r] at C;exact L.2 C
  ·rw[r] at C;cases C;exact Nat.lt_irrefl _ L.1
def zmf (F:Nat->Nat->Int) (i j:Nat):Nat->Nat->Int:=fun l k=>if l<i\/(l=i/\k<j) then -(F l k) else F l k
theorem zqi {a:Prop} [Decidable a] (b g:Nat->Int) (k:Nat):(if a then b else g) k=if a then b k else g k:=by split<;>rfl
theorem yuk (F:Nat->Nat->Int) (i j:Nat):zmf F i j i j=F i j:=by unfold zmf;rw[if_neg og]
theorem yum (F:Nat->Nat->Int) (i j l k:Nat):(if l=i then(if k=j then -(F i j) else zmf F i j i k) else zmf F i j l k)=zmf F i (j+1) l k:=by
 unfold zmf;by_cases h:l=i
 ·subst h;rw[if_pos rfl];by_cases b:k=j
  ·subst b;rw[if_pos rfl,if_pos (.inr ⟨rfl,by omega⟩)]
  ·rw[if_neg b];by_cases a:k<j
   ·rw[if_pos (.inr ⟨rfl,a⟩),if_pos (.inr ⟨rfl,by omega⟩)]
   ·rw[if_neg og,if_neg og]
 ·rw[if_neg h];by_cases a:l<i
  ·rw[if_pos (.inl a),if_pos (.inl a)]
  ·rw[if_neg og,if_neg og]
theorem yun (F:Nat->Nat->Int):zmf F 0 0=F:=by funext l k;unfold zmf;rw[if_neg og]
theorem yul (F:Nat->Nat->Int) {n:Nat} (h:l=i->k<n):zmf F i n l k=zmf F (i+1) 0 l k:=by
 unfold zmf;by_cases b:l<i
 ·rw[if_pos (.inl b),if_pos (.inl og)]
 ·by_cases a:l=i
  ·rw[if_pos (.inr ⟨a,h a⟩),if_pos (.inl og)]
  ·rw[if_neg og,if_neg og]
def hdL (L:Lay) (m n l:Nat):o:= .slice (L.ha l) (L4 m n l) (L.cp l)
def zlx (L:Lay) (m n:Nat):List o:=(List.range m).map (hdL L m n)
theorem yyo {L:Lay} {m n:Nat} (h:i<m+2):(zlx L m n++[.slice (L.ha m) m (L.cp m),.slice (L.ha (m+1)) n (L.cp (m+1))])[i]? =some (hdL L m n i):=by
 have c:(zlx L m n).length=m:=(by unfold zlx;simp);rw[List.getElem?_append,c];by_cases a:i<m
 ·rw[if_pos a];unfold zlx;rw[C,List.getElem?_range a];rfl
 ·rw[if_neg a];by_cases b:i=m
  ·subst b;rw[Nat.sub_self];unfold hdL;rw[U5];rfl
  ·obtain rfl:i=m+1:=og;rw[show m+1-m=1 by omega];unfold hdL;rw[X8];rfl
theorem SchG.rowsS {w:e} {S:Nat->Prop} {lo0 lo g m n top:Nat} {L:Lay} {sc:Nat->Nat} {F:Nat->Nat->Int} {z:Int} {d:Nat} {bas oth:List Nat} {st a steps:Int} (h:SchG w S lo0 lo g L m n sc top F z d bas oth st a steps):IsS 1 IsSl w (C2 w) (.slice L.ra m L.rc) (zlx L m n):=by
 have b:(zlx L m n).length=m:=by unfold zlx;simp
 have key:∀l:List o,(∀x∈l,∃A m c,x=Value.slice A m c)->cellsOf l=l:=fun l b=>by
  induction l with
  |nil=>rfl
  |cons x l ih=>obtain⟨A,m,c,rfl⟩:=b x (by simp);have u:cellsOf (Value.slice A m c::l)=(Value.slice A m c).cells.toList++cellsOf l:=(by simp[cellsOf]);rw[u,ih fun y k=>b y (by simp[k])];rfl
 have r:∀x∈zlx L m n,∃A m c,x=Value.slice A m c:=fun x f=>(by unfold zlx at f;obtain⟨i,_,rfl⟩:=List.mem_map.1 f;exact⟨_,_,_,rfl⟩);refine⟨L.ra,L.rc,zlx L m n,by rw[b],by rw[b];exact h.caps.1,h.caps.2.1,fun t=> ?_,fun x f=>by obtain⟨A,m,c,rfl⟩:=r x f;rfl,rfl,fun j x y f k=>by rw[f] at k;cases k;exact⟨rfl,r x (List.mem_of_getElem? f)⟩⟩;rw[key _ r] at t⊢
 have s:0<m:=by
  rcases Nat.eq_zero_or_pos m with p|p
  ·exact absurd (List.eq_nil_of_length_eq_zero (by rw[b,p])) t
  ·exact p
 refine⟨L.r0,0,(h.hd 0 s).1,h.sn_lt _ (.inl (h.hd 0 s).2.1),fun j v hv=> ?_⟩;have q:j<m:=(by have:=(List.getElem?_eq_some_iff.1 hv).1;rwa[b] at this);unfold zlx at hv;rw[C,List.getElem?_range q] at hv;cases hv;rw[Nat.zero_add];have:=(h.hd j q).2.2;unfold hdL;rw[J4 q];exact this
theorem yfl {L:Lay} {m n lo:Nat} {w:e} {S:Nat->Prop} (h:OwnS 1 30 IsSl w base S v (zlx L m n++[.slice (L.ha m) m (L.cp m),.slice (L.ha (m+1)) n (L.cp (m+1))])) (l:lo<=base):
 ∃bl a,v= .slice (some ⟨bl,0,none⟩) (m+2) a/\m+2<=a/\a<=9223372036854775807/\Hid (∀i,i<m+2->w.cell? ⟨bl,i,none⟩=some (hdL L m n i))/\Hid (lo<=bl/\bl<w.heap.size):=by have c:(zlx L m n++[Value.slice (L.ha m) m (L.cp m),Value.slice (L.ha (m+1)) n (L.cp (m+1))]).length=m+2:=(by rw[B];unfold zlx;simp);obtain⟨bl,a,x,y,d,o,j,g,p,t,u,k,-,-⟩:=h.shape (fun b=>by rw[b] at c;simp at c);rw[c] at d g;refine⟨bl,a,d,g,by unfold maxLen at p;omega,fun i s=> ?_,q l o,(Array.getElem?_eq_some_iff.1 j).1⟩;obtain⟨b,r,f,_⟩:=k.get (yyo (L:=L) (m:=m) (n:=n) s);have hc:=zpi j t (zop u (i:=0) r (u:=b) (by rw[f];rfl));rw[Nat.mul_one,Nat.add_zero] at hc;rw[hc,f]
def zxj (t:TB):TB:=⟨fun i j=> -(t.A i j),t.d,t.bas,t.oth⟩
structure Btw (lo0 lo:Nat) (S:Nat->Prop) (w w':e):Prop where
 bel:Below lo0 w w'
 up:∀b,lo<=b->b<w.heap.size->w'.heap[b]? =w.heap[b]?
 ks:∀b,S b->b<w.heap.size->w'.heap[b]? =w.heap[b]?
theorem Btw.refl (lo0 lo:Nat) (S:Nat->Prop) (w:e):Btw lo0 lo S w w:=⟨Below.refl _ _,fun _ _ _=>rfl,fun _ _ _=>rfl⟩
theorem Btw.step {lo0 lo:Nat} {S:Nat->Prop} {a c:e} {r:Option Nat} (h:Btw lo0 lo S a b) (k:b.grownBy c r) (i:lo0<=a.heap.size) (hr:∀x,r=some x->lo0<=x/\x<lo/\¬S x):Btw lo0 lo S a c:=
 ⟨h.bel.grown k (q i h.bel.size) fun x d=>(hr x d).1,fun x g f=>(k.block x (u f h.bel.size) fun d=>by have:=(hr x d.symm).2.1;omega).trans (h.up x g f),
  fun x g f=>(k.block x (u f h.bel.size) fun d=>(hr x d.symm).2.2 g).trans (h.ks x g f)⟩
theorem Btw.below {lo0 lo:Nat} {S:Nat->Prop} {a c:e} (h:Btw lo0 lo S a b) (k:Below b.heap.size b c) (f:lo0<=a.heap.size):Btw lo0 lo S a c:=h.step (r:=none) (K8 k) f fun x d=>by cases d
theorem Btw.trans {lo0 lo:Nat} {S:Nat->Prop} {a c:e} (h:Btw lo0 lo S a b) (k:Btw lo0 lo S b c):Btw lo0 lo S a c:=
 ⟨h.bel.trans k.bel,fun x d f=>(k.up x d (u f h.bel.size)).trans (h.up x d f),fun x d f=>(k.ks x d (u f h.bel.size)).trans (h.ks x d f)⟩
theorem Btw.same {lo0 lo:Nat} {S:Nat->Prop} {a:e} (h:Btw lo0 lo S a b) (d:∀x,S x->x<a.heap.size):L2 (SN S lo a) (SN S lo b) a b:=fun x c=>⟨zps h.bel.size x c,fun f=>A (by
 rcases c with c|c
 ·exact h.ks x c (d x c)
 ·exact h.up x c.1 c.2)⟩
theorem Btw.row {lo0 lo:Nat} {S:Nat->Prop} {a:e} (h:Btw lo0 lo S a b) {g:Nat} {t:TypeId} {c:List o} (hr:Row a g t c) (hg:lo<=g):Row b g t c:=(h.up g hg hr.lt).trans hr
abbrev zti (w:e) (g:Nat) (x y z:o):e:=((w.setCell ⟨g,5,none⟩ x).setCell ⟨g,6,none⟩ y).setCell ⟨g,7,none⟩ z
theorem zzz (w:e) (g:Nat) (x y z:o):w.grownBy (zti w g x y z) (some g):=J5 (J5 (I0 _ _ _ _) (I0 _ _ _ _)) (I0 _ _ _ _)
theorem SchG.value {w:e} {S:Nat->Prop} {lo0 lo g m n top:Nat} {L:Lay} {sc:Nat->Nat} {F:Nat->Nat->Int} {z:Int} {d:Nat} {bas oth:List Nat} {st a steps:Int} (h:SchG w S lo0 lo g L m n sc top F z d bas oth st a steps) {z':Int}
 (s:IsQ w (SN S lo w) (.agg #[.bool (decide (z'<0)),.slice P (A9 z'.natAbs).length k,.slice Q (A9 1).length l]) ((z':Int):Rat)):
 SchG (zti w g (.bool (decide (z'<0))) (.slice P (A9 z'.natAbs).length k) (.slice Q (A9 1).length l)) S lo0 lo g L m n sc top F z' d bas oth st a steps:=by obtain⟨t,x,u,y,D,i,f,j,p,v,q,r⟩:=h.row;have hg:=zzz w g (.bool (decide (z'<0))) (.slice P (A9 z'.natAbs).length k) (.slice Q (A9 1).length l);have c:=h.same hg fun b o=>(by cases o;exact h.gS.2);exact h.cells hg ⟨P,k,Q,l,D,i,f,j,((p.set_ 5 _).set_ 6 _).set_ 7 _,IsQ.stb.to s c,IsK.stb.to q c,IsK.stb.to r c⟩
theorem ytn {m n:Nat} (h:∀i j,i<=m->j<=n->Sz ((t.A i j:Int):Rat) k) (d:l<m+2) (b:j<L4 m n l):Sz ((W8 t m n l j:Int):Rat) k:=by
 unfold W8;unfold L4 at b;by_cases a:l=m
 ·rw[if_pos a];rw[if_pos a] at b;exact h j n og (Nat.le_refl _)
 ·rw[if_neg a];rw[if_neg a] at b;by_cases c:l=m+1
  ·rw[if_pos c,Rat.intCast_neg];exact(h m j (Nat.le_refl _) og).neg
  ·rw[if_neg c];exact h l j og og
theorem ytm (t:TB) (m n l j:Nat):W8 (zxj t) m n l j= -(W8 t m n l j):=by
 unfold W8;by_cases a:l=m
 ·rw[if_pos a,if_pos a];rfl
 ·rw[if_neg a,if_neg a];by_cases b:l=m+1
  ·rw[if_pos b,if_pos b];rfl
  ·rw[if_neg b,if_neg b];rfl
theorem zz1359 {w:e} {S:Nat->Prop} {lo0 lo g m n top:Nat} {L:Lay} {sc:Nat->Nat} {st a steps:Int} (h:N7 w S lo0 lo g L m n sc top t st a steps) (cU:m<=100) (cV:n<=100) (bw:∀i j,i<=m->j<=n->Sz ((t.A i j:Int):Rat) 100000):
 Calls Tryz.prog 133 #[.pointer (some ⟨g,0,none⟩)] w fun c w'=>c= .returned (.tuple #[])/\N7 w' S lo0 lo g L m n sc top (zxj t) st a steps/\Btw lo0 lo S w w':=by
 obtain⟨a8,be⟩:=C4 h bw;have F:Hid (lo0<=w.heap.size/\lo<=w.heap.size):=⟨q h.gS.1 (Nat.le_of_lt h.g_lt),h.tab.hlo⟩;have cL:m<=L.rc:=h.caps.1;have cM:L.rc<=9223372036854775807:=(by have:=h.caps.2.1;unfold maxLen at this;omega);obtain⟨cu,cW,cw,cY,cq,cD,cy,cG,⟨bj,bp,-,-⟩,⟨aP,aQ,W,X,Y⟩,⟨aR,aS,aT⟩,-,-⟩:=h.open;obtain⟨ah,cn,H⟩:=G6 (IsQ.stb.to bp (F6 (T:=C2 w) h.sn_lt)) (p W (p X Y)) (p aR (p aS aT));have aH:Hid (∀T,Below w.heap.size w T->∀a3,T.frozen? ⟨g,a3,none⟩=false):=fun T aW a3=>(bj.next aW).frozen a3;obtain⟨cf,bx⟩:=nm (decide (t.A m n<0));obtain⟨cg,bA⟩:=nm ((A9 (t.A m n).natAbs).length);obtain⟨bK,G⟩:=nm ((A9 1).length);rw[<-bx] at aR ah H;rw[<-bA] at aS ah H;rw[<-G] at aT ah H;have cF:=R4;have bR:=f G;clear h bw bj bp aP aQ W X Y bx bA G;go_in;go_wp2_with fail;clear aR aS aT;obtain⟨z,bF⟩:=nm (-(t.A m n));have bd:=f bF;clear bF;refine(zqn (p:=((z:Int):Rat)) ah.out (be.out m n (Nat.le_refl _) (Nat.le_refl _)) (by rw[bd.out,Rat.intCast_neg])).mono ?_;rintro c aC ⟨⟨c0,rfl,hv⟩,r⟩;obtain⟨bf,bG,bg,bH,rfl⟩:=zkh hv;have u0:=B9 r H.out.1;have u1:=B9 r H.out.2.1;have u2:=B9 r H.out.2.2;have aj:=aH.out aC r 5;have ak:=aH.out aC r 6;have al:=aH.out aC r 7;obtain⟨bL,O⟩:=C4 r ((a8.out.next r).value (P:=bf) (k:=bG) (Q:=bg) (l:=bH) (z':=z) (IsQ.stb.to hv (F6 fun b Z=> .inr ⟨q F.out.2 Z.1,Z.2⟩)));clear r hv;go_wp2_with fail;clear u0 u1 u2 aj ak al;rw[bR.out] at*;obtain⟨d,aB⟩:=nm (((aC.setCell ⟨g,5,none⟩ (.bool (decide (z<0)))).setCell ⟨g,6,none⟩ (.slice bf (A9 z.natAbs).length bG)).setCell ⟨g,7,none⟩ (.slice bg (A9 1).length bH));have ae:Hid (Btw lo0 lo S w d):=(by rw[Hid,aB];exact((Btw.refl lo0 lo S w).step (K8 (row:=none) bL.out) F.out.1 (fun x c=>by cases c)).step (zzz _ _ _ _ _) F.out.1 fun x c=>by cases c;exact a8.out.gS);have O:Hid (SchG d S lo0 lo g L m n sc top (W8 t m n) z t.d t.bas t.oth st a steps):=(by rw[Hid,aB];exact O.out);rw[<-aB];have a7:Hid (lo<=d.heap.size):=q F.out.2 ae.out.bel.size;clear aB;obtain⟨cv,cX,cx,cZ,cr,cE,cz,cH,-,⟨aP,aQ,W,X,Y⟩,-,-,-⟩:=O.out.open;have RV:=f O.out.rowsS;have bv:(zlx L m n).length=m:=(by unfold zlx;simp);have aI:=f bv;clear aP aQ bv;have aJ:=zmp W X Y;have a6:=f fun T (aW:Below d.heap.size d T)=>yoc ((IsS.stb IsSl.stb).to RV.out (F7 aW)) (by rw[aI.out];omega)
 go_region_held3 (SH.mk _ aJ).s
  (exact aJ.out _ bel)
  (first
    |(go_at_call 160;(with_reducible refine Calls.mono (a6.out _ bel) ?_);rintro c a4 ⟨⟨ch,rfl,bB⟩,aq⟩;have P:=f bB;have M:=bW d a4;obtain⟨cm,cC,rfl⟩:=bB.slice;(first|(have cd:Row a4 d.heap.size 30 [.slice (L.ha m) m (L.cp m),.slice (L.ha (m+1)) n (L.cp (m+1))]:=(Row.next (heap_alloc_new (World.drew d) _) aq:Row a4 _ _ _))|skip))
    |(refine ykk elV rfl _ _ rfl (news:=[.slice (L.ha m) m (L.cp m),.slice (L.ha (m+1)) n (L.cp (m+1))]) rfl rfl (heap_alloc_new _ _) (OwnS.step IsSl.stb P.out (O0 _ _) (fun b h=>h) (fun b h=> .inl h)) (by intro x v;rcases List.mem_cons.1 v with h|h;exact⟨_,_,_,h⟩;rw[List.mem_singleton] at h;exact⟨_,_,_,h⟩) (by rw[aI.out];simp;omega) (by have:=aq.size;simp at this;simp;omega) ?_;intro cj ad aA au;have N:Hid (Below d.heap.size d ad):=(zue M.out _).grown au (Below.size (zue M.out _)) (fun k c=>by have an:=(OwnS.own_lt P.out k c).1;simp at an;omega);obtain⟨bl,bZ,aO,b3,b4,bq,aY⟩:=yfl (lo:=lo) aA (by have:=a7.out;simp;omega);subst aO)
    |(refine ykk elV rfl _ _ rfl (news:=[.slice (L.ha m) m (L.cp m),.slice (L.ha (m+1)) n (L.cp (m+1))]) rfl rfl cd P.out (by intro x v;rcases List.mem_cons.1 v with h|h;exact⟨_,_,_,h⟩;rw[List.mem_singleton] at h;exact⟨_,_,_,h⟩) (by rw[aI.out];simp;omega) (by have:=aq.size;simp at this;simp;omega) ?_;intro cj ad aA au;have N:Hid (Below d.heap.size d ad):=M.out.grown au (Below.size M.out) (fun k c=>by have an:=(OwnS.own_lt P.out k c).1;simp at an;omega);obtain⟨bl,bZ,aO,b3,b4,bq,aY⟩:=yfl (lo:=lo) aA (by have:=a7.out;simp;omega);subst aO))
 all_goals
  have bP:=f (O.out.next N.out)
  clear aJ a6 aA au P M aq
  go_wp2_with fail
  clear W X Y
  go_loopw [35,3,4,5] (fun aZ _ _ _ wr=>∃i:Nat,i<=m+2/\aZ= .int .i64 (i:Int)/\Btw lo0 lo S ad wr/\Hid (SchG wr S lo0 lo g L m n sc top (zmf (W8 t m n) i 0) z t.d t.bas t.oth st a steps)) (fun aZ _ _ _ _=>m+2-(intOf aZ).toNat)
  case atStart=>exact⟨0,E _,rfl,Btw.refl _ _ _ _,by rw[Hid,yun];exact bP.out⟩
  case round=>
   obtain⟨i,cO,rfl,aa,ac⟩:=hrel
   have aD:=f aa
   have aM:=f ac.out
   clear aa ac
   rcases D i (m+2) with az|cN
   ·have aN:=(A (aD.out.up _ aY.out.1 aY.out.2)).trans (bq.out i az)
    have cP:(0:Int)<=(i:Int):=og
    have cQ:(i:Int)<(m:Int)+2:=og
    unfold hdL at aN
    obtain⟨cB,aX⟩:=nm (L.ha i)
    obtain⟨J,ao⟩:=nm (L4 m n i)
    obtain⟨C,aV⟩:=nm (L.cp i)
    have ar:=aM.out.cap i az
    rw[<-aX,<-ao,<-aV] at aN
    rw[<-ao,<-aV] at ar
    obtain⟨bN,af⟩:=C4 aX ao
    have cJ:J<=C:=ar.1
    have cK:C<=9223372036854775807:=by have:=ar.2;unfold maxLen at this;omega
    have o:=f az
    clear aX ao aV ar az
    go_wp2_with fail
    clear aN
    go_loopw [41,4,5] (fun a0 _ _ bJ=>∃j:Nat,j<=J/\a0= .int .i64 (j:Int)/\Btw lo0 lo S ad bJ/\Hid (SchG bJ S lo0 lo g L m n sc top (zmf (W8 t m n) i j) z t.d t.bas t.oth st a steps)) (fun a0 _ _ _=>J-(intOf a0).toNat)
    case atStart=>exact⟨0,E _,rfl,aD.out,aM.out⟩
    case round=>
     obtain⟨j,cR,rfl,aa,ac⟩:=hrel
     have a5:=f aa
     have Q:=f ac.out
     clear aa ac
     rcases D j J with br|br
     ·have av:j<L4 m n i:=by rw[<-af.out];exact br
      have aU:1<=L4 m n i:=og
      obtain⟨bT,cb,bU,cc,ea,U,V,ai,eq⟩:=Q.out.el o.out av
      rw[yuk] at U V eq
      have ay:=Q.out.tab.line i o.out aU
      have aj:wr.frozen? ⟨L.bk i,j*3,none⟩=false:=ay.free
      have ak:wr.frozen? ⟨L.bk i,j*3+1,none⟩=false:=ay.free
      have al:wr.frozen? ⟨L.bk i,j*3+2,none⟩=false:=ay.free
      have ag:=f eq
      have cS:(0:Int)<=(j:Int):=og
      have cT:(j:Int)<(J:Int):=og
      obtain⟨ck,bD⟩:=nm (decide (W8 t m n i j<0))
      obtain⟨cl,bE⟩:=nm ((A9 (W8 t m n i j).natAbs).length)
      obtain⟨bK,G⟩:=nm ((A9 1).length)
      rw[<-bD] at U ag
      rw[<-bE] at V ag
      rw[<-G] at ai ag
      obtain⟨c2,b9,u,bI,ca⟩:=K7 wr #[.bool ck,.slice bT cl cb,.slice bU bK cc] 37
      obtain⟨bX,bY,b2⟩:=C5 bI
      have bV:=nQ ag u
      obtain⟨I,aG,aE,B,bQ⟩:=hd5 (p (B9 u U) (p (B9 u V) (B9 u ai))) (p (H8 u U aj) (p (H8 u V ak) (H8 u ai al))) u (p av aU) (ytn be.out o.out av)
      have b0:=bN.out.trans ea
      subst b0
      obtain⟨cA,bm⟩:=nm (L.bk i)
      obtain⟨cs,ct⟩:=C4 bm G
      clear eq ay bD bE G bI ca u aj ak al av aU ea
      go_wp2_with fail
      clear b9 U V ai
      obtain⟨y,bC⟩:=nm (-W8 t m n i j)
      have a9:=f bC
      clear bC
      refine(zqn (p:=((y:Int):Rat)) bV.out bQ.out (by rw[a9.out,Rat.intCast_neg])).mono ?_
      rintro c K ⟨⟨c1,rfl,hv⟩,s⟩
      obtain⟨aK,a1,aL,a2,rfl⟩:=zkh hv
      have u0:=B9 s I.out.1
      have u1:=B9 s I.out.2.1
      have u2:=B9 s I.out.2.2
      have cf:=H8 s I.out.1 aG.out.1
      have cg:=H8 s I.out.2.1 aG.out.2.1
      have ch:=H8 s I.out.2.2 aG.out.2.2
      have R:=f ((Q.out.next aE.out).next s)
      have bM:=nB aE s
      have bO:Hid (IsQ K (SN S lo K) (.agg #[.bool (decide (y<0)),.slice aK (A9 y.natAbs).length a1,.slice aL (A9 1).length a2]) ((y:Int):Rat)):=IsQ.stb.to hv (F6 fun b Z=> .inr ⟨by have an:=Z.1;have cI:=Q.out.tab.hlo;have bh:=aE.out.size;omega,Z.2⟩)
      clear s hv bX bY b2 bm
      go_wp2_with fail
      go_roundw
      case rel=>
       have bi:=(R.out.tab.line i o.out B.out.2).put (fun x v c=>by
        have bh:=R.out.tab.sep i o.out B.out.2
        rcases v with v|v
        ·exact bh.2 (by rw[<-c];exact v)
        ·have:=v.1;omega) B.out.1 bO.out
       have hg:K.grownBy (M8 K (L.bk i) j (.bool (decide (y<0))) (.slice aK (A9 y.natAbs).length a1) (.slice aL (A9 1).length a2)) (some (L.bk i)):=zlt (H7 _ _)
       have b7:SN S lo K=SN S lo (M8 K (L.bk i) j (.bool (decide (y<0))) (.slice aK (A9 y.natAbs).length a1) (.slice aL (A9 1).length a2)):=by unfold SN;rw[zov]
       rw[b7] at bi
       have b1:=(R.out.line o.out B.out.2 hg bi).nums (G:=zmf (W8 t m n) i (j+1)) fun l k _ _=>by rw[a9.out,zqi];exact yum _ i j l k
       have b5:=R.out.lS i o.out B.out.2
       have b8:=R.out.tab.sep i o.out B.out.2
       exact⟨j+1,by have:=B.out.1;rw[af.out];omega,by go_num,(a5.out.step (K8 (row:=none) bM.out) (by have:=F.out;have:=ae.out.bel.size;have:=N.out.size;omega) (fun x c=>by cases c)).step hg (by have:=F.out;have:=ae.out.bel.size;have:=N.out.size;omega) (fun x c=>by cases c;exact⟨b5.1,b8⟩),b1⟩
      case measure=>simp[intOf];have:=B.out.1;rw[<-af.out] at this;omega
     ·obtain rfl:j=J:=og
      go_wp2_with fail
      go_roundw
      case rel=>
       refine⟨i+1,o.out,by go_num,a5.out,?_⟩
       exact Q.out.nums fun l k bu bt=>yul _ fun c=>by subst c;rw[af.out];exact bt
      case measure=>simp[intOf];have:=o.out;omega
   ·obtain rfl:i=m+2:=og
    go_wp2_with fail
    refine bodyPost_end (results_none rfl _ _ _) rfl ?_
    have hfin:=aM.out
    rw[bd.out] at hfin
    refine⟨rfl,hfin.nums fun l k bu bt=> ?_,(ae.out.below N.out F.out.1).trans aD.out⟩
    unfold zmf
    rw[if_pos (.inl bu)]
    exact(ytm t m n l k).symm
def K9 (t:TB) (r c m n i:Nat):Nat->Nat->Int:=fun l j=>
 if l<m then(if l<i/\l≠r then zmz (t.A l) (t.A r) c t.d j else t.A l j)
 else if l=m then(if j<i/\j≠r then zkg (t.A j n) (t.A r c) (t.A j c) (t.A r n) t.d else t.A j n) else -(t.A m j)
theorem ywl {m n:Nat} (d:l<m+2):W8 t m n l j=K9 t r c m n 0 l j:=by
 unfold W8 K9;by_cases b:l<m
 ·rw[if_neg og,if_neg og,if_pos b,if_neg og]
 ·rw[if_neg b];by_cases a:l=m
  ·rw[if_pos a,if_pos a,if_neg og]
  ·rw[if_neg a,if_neg a,if_pos og]
theorem ywj (t:TB) (r c m n l j:Nat):K9 t r c m n r l j=K9 t r c m n (r+1) l j:=by
 unfold K9;by_cases b:l<m
 ·rw[if_pos b,if_pos b];by_cases a:l<r/\l≠r
  ·rw[if_pos a,if_pos ⟨by omega,a.2⟩]
  ·rw[if_neg a,if_neg og]
 ·rw[if_neg b,if_neg b];by_cases d:l=m
  ·rw[if_pos d,if_pos d];by_cases a:j<r/\j≠r
   ·rw[if_pos a,if_pos ⟨by omega,a.2⟩]
   ·rw[if_neg a,if_neg og]
  ·rw[if_neg d,if_neg d]
theorem ybj {m n:Nat} (a:i<m):K9 t r c m n i i j=t.A i j:=by unfold K9;rw[if_pos a,if_neg og]
theorem zxp {m n:Nat} (hr:r<m):K9 t r c m n i r j=t.A r j:=by unfold K9;rw[if_pos hr,if_neg og]
theorem ywi {m n:Nat}:K9 t r c m n i m i=t.A i n:=by unfold K9;rw[if_neg og,if_pos rfl,if_neg og]
theorem ybi {m n:Nat}:K9 t r c m n i (m+1) j= -(t.A m j):=by unfold K9;rw[if_neg og,if_neg og]
theorem ywk {m n:Nat} (f:i<m) (g:i≠r) (hr:r<m) (l j:Nat):
 (if l=i then zmz (if i=m then(fun x=>if x=i then zkg (t.A i n) (t.A r c) (t.A i c) (t.A r n) t.d else K9 t r c m n i m x) else K9 t r c m n i i) (if r=m then(fun x=>if x=i then zkg (t.A i n) (t.A r c) (t.A i c) (t.A r n) t.d else K9 t r c m n i m x) else K9 t r c m n i r) c t.d j
   else(if l=m then(fun x=>if x=i then zkg (t.A i n) (t.A r c) (t.A i c) (t.A r n) t.d else K9 t r c m n i m x) else K9 t r c m n i l) j)=K9 t r c m n (i+1) l j:=by
 have a:K9 t r c m n i i=t.A i:=(by funext x;exact ybj f);have b:K9 t r c m n i r=t.A r:=(by funext x;exact zxp hr);rw[if_neg (show¬i=m by omega),if_neg (show¬r=m by omega),a,b,zqi];unfold K9;by_cases d:l=i
 ·subst d;grind
 ·by_cases e:l=m
  ·subst e;grind
  ·grind
theorem ysi {w:e} {b i g:Nat} {x y z:o} (h:w.cell? ⟨b,i,none⟩=some v) (d:b≠g):(zti w g x y z).cell? ⟨b,i,none⟩=some v:=by unfold zti;rw[s _ _ _ _ (fun a=>by injection a with c f;exact d c.symm),s _ _ _ _ (fun a=>by injection a with c f;exact d c.symm),s _ _ _ _ (fun a=>by injection a with c f;exact d c.symm)];exact h
theorem yop (a e b c:Int) (d:Nat):zkg (-a) e (-b) c d= -(zkg a e b c d):=by unfold zkg;rw[<-Int.neg_tdiv];congr 1;rw[Int.neg_mul,Int.neg_mul];omega
def zog (t:TB) (r c:Nat):TB:=⟨zkk t.A t.d r c,(t.A r c).natAbs,t.bas.set r (t.oth.getD c 0),t.oth.set c (t.bas.getD r 0)⟩
theorem ywo (h:¬t.A r c<0):zog t r c=P7 t r c:=by have a:zmi t.A t.d r c=zkk t.A t.d r c:=(by funext i j;unfold zmi;rw[if_neg h]);unfold P7 zog;rw[a]
theorem ywn (h:t.A r c<0):zxj (zog t r c)=P7 t r c:=by have a:zmi t.A t.d r c=fun i j=> -(zkk t.A t.d r c i j):=(by funext i j;unfold zmi;rw[if_pos h]);unfold P7 zxj zog;rw[a]
theorem ywp {m n:Nat} (h:∀i j,i<=m->j<=n->Sz ((zmi t.A t.d r c i j:Int):Rat) k) (i j:Nat) (b:i<=m) (d:j<=n):Sz (((zog t r c).A i j:Int):Rat) k:=by
 have a:=h i j b d;unfold zmi at a;show Sz ((zkk t.A t.d r c i j:Int):Rat) k;split at a
 ·have:=a.neg;rw[Rat.intCast_neg] at this;rwa[Rat.neg_neg] at this
 ·exact a
theorem ywh {m n:Nat} (hr:r<m) (hc:c<n) (k:l<m+2) (d:j<L4 m n l):
 (if l=r then(if j=c then((t.d:Nat):Int) else(if r=m+1 then zmz (K9 t r c m n m (m+1)) (K9 t r c m n m r) c t.d j else K9 t r c m n m r j))
   else if l=m+1 then zmz (K9 t r c m n m (m+1)) (K9 t r c m n m r) c t.d j else K9 t r c m n m l j)=W8 (zog t r c) m n l j:=by
 have f:K9 t r c m n m (m+1)=fun j=> -(t.A m j):=(by funext j;exact ybi);have g:K9 t r c m n m r=t.A r:=(by funext j;exact zxp hr);have h:∀i j,(zog t r c).A i j=zkk t.A t.d r c i j:=fun _ _=>rfl;rw[f,g];unfold W8;simp only[h];unfold L4 at d;by_cases e:l=r
 ·subst e;unfold zkk;grind
 ·rw[if_neg e];by_cases b:l=m+1
  ·rw[if_pos b,if_neg og,if_pos b,zkk,if_neg og];unfold zmz;by_cases a:j=c
   ·rw[if_pos a,if_pos a]
   ·rw[if_neg a,if_neg a,yop]
  ·rw[if_neg b];unfold K9;by_cases a:l=m
   ·subst a;rw[if_pos rfl] at d;unfold zkk;grind
   ·rw[if_neg a] at d;unfold zkk zmz;grind
section
variable {w w' : e} {S : Nat → Prop} {lo0 lo g m n top : Nat} {L : Lay} {sc : Nat → Nat} {F : Nat → Nat → Int} {z : Int} {d : Nat} {bas oth : List Nat} {st a steps : Int}
theorem SchG.putL (h:SchG w S lo0 lo g L m n sc top F z d bas oth st a steps) (e:l<m+2) (r:j<L4 m n l) {x:Int} {q:Nat}
 (s:IsQ w (SN S lo w) (.agg #[.bool (decide (x<0)),.slice P (A9 x.natAbs).length k,.slice Q (A9 1).length q]) ((x:Int):Rat)):
 SchG (M8 w (L.bk l) j (.bool (decide (x<0))) (.slice P (A9 x.natAbs).length k) (.slice Q (A9 1).length q)) S lo0 lo g L m n sc top (fun k=>if k=l then(fun i=>if i=j then x else F l i) else F k) z d bas oth st a steps:=by
 have c:1<=L4 m n l:=og
 have f:=(h.tab.line l e c).put (fun y b o=>by
  have p:=h.tab.sep l e c;rcases b with b|b
  ·exact p.2 (by rw[<-o];exact b)
  ·have:=b.1;omega) r s
 have t:SN S lo w=SN S lo (M8 w (L.bk l) j (.bool (decide (x<0))) (.slice P (A9 x.natAbs).length k) (.slice Q (A9 1).length q)):=(by unfold SN;rw[zov]);rw[t] at f;exact h.line e c (zlt (H7 _ _)) f
theorem SchG.ints (h:SchG w S lo0 lo g L m n sc top F z d bas oth st a steps) (hr:r<m) (hc:c<n):
 SchG ((w.setCell ⟨L.bb,r,none⟩ (.int .i64 ((oth.getD c 0:Nat):Int))).setCell ⟨L.ob,c,none⟩ (.int .i64 ((bas.getD r 0:Nat):Int))) S lo0 lo g L m n sc top F z d (bas.set r (oth.getD c 0)) (oth.set c (bas.getD r 0)) st a steps:=by
 have C:1<=m:=og;have t:1<=n:=og;have e:=h.bS C;have q:=h.oS t;have J:=h.bo C t;have s:=I0 w L.bb r (.int .i64 ((oth.getD c 0:Nat):Int));obtain⟨o,N⟩:=nm (w.setCell ⟨L.bb,r,none⟩ (.int .i64 ((oth.getD c 0:Nat):Int)));have B:=I0 o L.ob c (.int .i64 ((bas.getD r 0:Nat):Int));have I:=(h.basW C).2.put hr (oth.getD c 0);rw[<-N] at s I⊢;have K:o.heap.size=w.heap.size:=(by rw[N];simp[World.setCell]);have M:∀b,some L.bb=some b->b<lo/\¬S b:=fun b f=>(by cases f;exact⟨e.2.1,e.2.2.1⟩);have af:∀b,some L.ob=some b->b<lo/\¬S b:=fun b f=>(by cases f;exact⟨q.2.1,q.2.2.1⟩);have ah:SchG o S lo0 lo g L m n sc top F z d (bas.set r (oth.getD c 0)) oth st a steps->SchG o S lo0 lo g L m n sc top F z d (bas.set r (oth.getD c 0)) oth st a steps:=id;have W:TabW o S lo L.bk L.cp (m+2) (L4 m n) F:=h.tab.grown s fun b f=>(by cases f;exact⟨e.2.1,e.2.2.1,fun l G H=>(h.lS l G H).2.2.1 C⟩);have U:=h.row_next s fun b f=>(by cases f;exact⟨e.2.1,e.2.2.1,e.2.2.2⟩);have R:=h.hd_next s M;have O:=h.scl_next s M;have T:IntW o L.ob n (fun j=>oth.getD j 0):=(h.othW t).2.keep (s.block _ (h.othW t).2.lt fun f=>J (by injection f with f;exact f.symm));have ae:SchG o S lo0 lo g L m n sc top F z d bas oth st a steps->True:=fun _=>trivial;have Z:(fun i=>(bas.set r (oth.getD c 0)).getD i 0)=N6 (fun i=>bas.getD i 0) r (oth.getD c 0):=zss (by rw[h.len.1];exact hr);have aa:(fun j=>(oth.set c (bas.getD r 0)).getD j 0)=N6 (fun j=>oth.getD j 0) c (bas.getD r 0):=zss (by rw[h.len.2];exact hc);have ad:∀b,SN S lo o b->b<o.heap.size:=fun b e=>by rw[K];exact h.sn_lt b (by unfold SN at e⊢;rw[K] at e;exact e)
 have u:L2 (SN S lo o) (SN S lo (o.setCell ⟨L.ob,c,none⟩ (.int .i64 ((bas.getD r 0:Nat):Int)))) o (o.setCell ⟨L.ob,c,none⟩ (.int .i64 ((bas.getD r 0:Nat):Int))):=fun b e=>⟨zps B.size b e,fun ag=>A (B.block b (ad b e) fun f=>by
  cases f;rcases e with e|e
  ·exact q.2.2.1 e
  ·have:=e.1;have:=q.2.1;omega)⟩
 refine⟨W.grown B fun b f=>by cases f;exact⟨q.2.1,q.2.2.1,fun l G H=>(h.lS l G H).2.2.2 t⟩,h.hv,h.cap,?_,fun i ac=> ?_,h.caps,fun _=>⟨(h.basW C).1,?_⟩,fun _=>⟨(h.othW t).1,?_⟩,fun v hv=> ?_,h.gS,h.bS,h.oS,h.bo,h.lS,by rw[List.length_set,List.length_set];exact h.len⟩
 ·obtain⟨P,k,Q,l,D,X,V,Y,x,p,y,E⟩:=U;exact⟨P,k,Q,l,D,X,V,Y,x.grownN B fun b f=>by cases f;exact Ne.symm q.2.2.2,IsQ.stb.to p u,IsK.stb.to y u,IsK.stb.to E u⟩
 ·obtain⟨x,p,y⟩:=R i ac;exact⟨x,p,((u _ (.inl p)).2 _).trans y⟩
 ·rw[Z];exact I.keep (B.block _ I.lt fun f=>J (by injection f))
 ·rw[aa];exact T.put hc (bas.getD r 0)
 ·obtain⟨x,p,P,k,y,E⟩:=O v (yjr (by rw[h.len.1];exact hr) (by rw[h.len.2];exact hc) v hv);exact⟨x,p,P,k,((u _ (.inl p)).2 _).trans y,IsK.stb.to E fun b e=>⟨e,(u b (.inl e)).2⟩⟩
end
theorem hpV {w:e} {c:Nat} {S:e->Prop} (h:Hid (∀a:e,Below w.heap.size w a->S a)) (r:NeL c S):Hid (∀a:e,Below w.heap.size w a->∀x y z,S (zti a c x y z)):=fun a d x y z=>r (fun a=>zti a c x y z) (fun b f v a n h=>ysi h n) a (h.out a d)
end Go.Proofs.YtdgilbgdkmhcmaaGreatDoor
