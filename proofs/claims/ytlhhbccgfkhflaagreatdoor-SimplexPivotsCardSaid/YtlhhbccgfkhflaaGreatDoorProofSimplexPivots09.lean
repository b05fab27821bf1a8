/-
 A table's lines during a pivot.
-/
import Derived.Test.YtlhhbccgfkhflaaGreatDoorProofSimplexPivots08
namespace Go.Proofs.YtlhhbccgfkhflaaGreatDoor
open Go.RowKit
set_option linter.unusedVariables false
set_option maxRecDepth 100000
set_option maxHeartbeats 8000000
open _root_.Go.Lib renaming hid → V
open _root_.Nat renaming lt_of_lt_of_le → ab, lt_or_ge → ad
open _root_.Go.World renaming cell?_setCell_other → ac
open _root_.Array renaming getElem?_eq_getElem → N, getD_eq_getD_getElem? → aa
open _root_.Go renaming World → e, Value → u, undef → C, Addr → O
variable {K H : u} {r : Nat} {t : TB}
def L9 (t:TB) (r c m n i:Nat):Nat->Nat->Int:=fun l j=>
 if l<m then(if l<i/\l≠r then zod (t.A l) (t.A r) c t.d j else t.A l j)
 else if l=m then(if j<i/\j≠r then zld (t.A j n) (t.A r c) (t.A j c) (t.A r n) t.d else t.A j n) else -(t.A m j)
theorem yza {c m n l j:Nat} (d:l<m+2):zkb t m n l j=L9 t r c m n 0 l j:=by
 unfold zkb L9;by_cases b:l<m
 ·rw[if_neg og,if_neg og,if_pos b,if_neg og]
 ·rw[if_neg b];by_cases a:l=m
  ·rw[if_pos a,if_pos a,if_neg og]
  ·rw[if_neg a,if_neg a,if_pos og]
theorem yyy (t:TB) (r c m n l j:Nat):L9 t r c m n r l j=L9 t r c m n (r+1) l j:=by
 unfold L9;by_cases b:l<m
 ·rw[if_pos b,if_pos b];by_cases a:l<r/\l≠r
  ·rw[if_pos a,if_pos ⟨by omega,a.2⟩]
  ·rw[if_neg a,if_neg og]
 ·rw[if_neg b,if_neg b];by_cases d:l=m
  ·rw[if_pos d,if_pos d];by_cases a:j<r/\j≠r
   ·rw[if_pos a,if_pos ⟨by omega,a.2⟩]
   ·rw[if_neg a,if_neg og]
  ·rw[if_neg d,if_neg d]
theorem yda {c m n i j:Nat} (a:i<m):L9 t r c m n i i j=t.A i j:=by unfold L9;rw[if_pos a,if_neg og]
theorem zyz {c m n i j:Nat} (hr:r<m):L9 t r c m n i r j=t.A r j:=by unfold L9;rw[if_pos hr,if_neg og]
theorem yyx {c m n i:Nat}:L9 t r c m n i m i=t.A i n:=by unfold L9;rw[if_neg og,if_pos rfl,if_neg og]
theorem ycz {c m n i j:Nat}:L9 t r c m n i (m+1) j= -(t.A m j):=by unfold L9;rw[if_neg og,if_neg og]
theorem yyz {c m n i:Nat} (f:i<m) (g:i≠r) (hr:r<m) (l j:Nat):
 (if l=i then zod (if i=m then(fun x=>if x=i then zld (t.A i n) (t.A r c) (t.A i c) (t.A r n) t.d else L9 t r c m n i m x) else L9 t r c m n i i) (if r=m then(fun x=>if x=i then zld (t.A i n) (t.A r c) (t.A i c) (t.A r n) t.d else L9 t r c m n i m x) else L9 t r c m n i r) c t.d j
   else(if l=m then(fun x=>if x=i then zld (t.A i n) (t.A r c) (t.A i c) (t.A r n) t.d else L9 t r c m n i m x) else L9 t r c m n i l) j)=L9 t r c m n (i+1) l j:=by
 have a:L9 t r c m n i i=t.A i:=(by funext x;exact yda f);have b:L9 t r c m n i r=t.A r:=(by funext x;exact zyz hr);rw[if_neg (show¬i=m by omega),if_neg (show¬r=m by omega),a,b,zrs];unfold L9;by_cases d:l=i
 ·subst d;grind
 ·by_cases e:l=m
  ·subst e;grind
  ·grind
theorem yvj {w:e} {b o g:Nat} {v x y z:u} (h:w.cell? ⟨b,o,none⟩=some v) (d:b≠g):(putVal w g x y z).cell? ⟨b,o,none⟩=some v:=by unfold putVal;rw[ac _ _ _ _ (fun a=>by injection a with c f;exact d c.symm),ac _ _ _ _ (fun a=>by injection a with c f;exact d c.symm),ac _ _ _ _ (fun a=>by injection a with c f;exact d c.symm)];exact h
theorem yrj (a e b c:Int) (d:Nat):zld (-a) e (-b) c d= -(zld a e b c d):=by unfold zld;rw[<-Int.neg_tdiv];congr 1;rw[Int.neg_mul,Int.neg_mul];omega
def zpr (t:TB) (r c:Nat):TB:=⟨zlh t.A t.d r c,(t.A r c).natAbs,t.bas.set r (t.oth.getD c 0),t.oth.set c (t.bas.getD r 0)⟩
theorem yzd {c:Nat} (h:¬t.A r c<0):zpr t r c=V9 t r c:=by have a:zng t.A t.d r c=zlh t.A t.d r c:=(by funext i j;unfold zng;rw[if_neg h]);unfold V9 zpr;rw[a]
theorem yzc {c:Nat} (h:t.A r c<0):zyu (zpr t r c)=V9 t r c:=by have a:zng t.A t.d r c=fun i j=> -(zlh t.A t.d r c i j):=(by funext i j;unfold zng;rw[if_pos h]);unfold V9 zyu zpr;rw[a]
theorem yze {c m n k:Nat} (h:∀i j,i<=m->j<=n->Sz ((zng t.A t.d r c i j:Int):Rat) k) (i j:Nat) (b:i<=m) (d:j<=n):Sz (((zpr t r c).A i j:Int):Rat) k:=by
 have a:=h i j b d;unfold zng at a;show Sz ((zlh t.A t.d r c i j:Int):Rat) k;split at a
 ·have:=a.neg;rw[Rat.intCast_neg] at this;rwa[Rat.neg_neg] at this
 ·exact a
theorem yyw {c m n:Nat} (hr:r<m) (hc:c<n) {l j:Nat} (k:l<m+2) (d:j<F9 m n l):
 (if l=r then(if j=c then((t.d:Nat):Int) else(if r=m+1 then zod (L9 t r c m n m (m+1)) (L9 t r c m n m r) c t.d j else L9 t r c m n m r j))
   else if l=m+1 then zod (L9 t r c m n m (m+1)) (L9 t r c m n m r) c t.d j else L9 t r c m n m l j)=zkb (zpr t r c) m n l j:=by
 have f:L9 t r c m n m (m+1)=fun j=> -(t.A m j):=(by funext j;exact ycz);have g:L9 t r c m n m r=t.A r:=(by funext j;exact zyz hr);have h:∀i j,(zpr t r c).A i j=zlh t.A t.d r c i j:=fun _ _=>rfl;rw[f,g];unfold zkb;simp only[h];unfold F9 at d;by_cases e:l=r
 ·subst e;unfold zlh;grind
 ·rw[if_neg e];by_cases b:l=m+1
  ·rw[if_pos b,if_neg og,if_pos b,zlh,if_neg og];unfold zod;by_cases a:j=c
   ·rw[if_pos a,if_pos a]
   ·rw[if_neg a,if_neg a,yrj]
  ·rw[if_neg b];unfold L9;by_cases a:l=m
   ·subst a;rw[if_pos rfl] at d;unfold zlh;grind
   ·rw[if_neg a] at d;unfold zlh zod;grind
section
variable {w w' : e} {S : Nat → Prop} {lo0 lo g m n top : Nat} {L : Lay} {sc : Nat → Nat} {F : Nat → Nat → Int} {z : Int} {d : Nat} {bas oth : List Nat} {st X steps : Int}
theorem SchG.putL (h:SchG w S lo0 lo g L m n sc top F z d bas oth st X steps) {l j:Nat} (c:l<m+2) (p:j<F9 m n l) {x:Int} {P Q:Option O} {k q:Nat}
 (r:IsQ w (SN S lo w) (.agg #[.bool (decide (x<0)),.slice P (A9 x.natAbs).length k,.slice Q (A9 1).length q]) ((x:Int):Rat)):
 SchG (L7 w (L.bk l) j (.bool (decide (x<0))) (.slice P (A9 x.natAbs).length k) (.slice Q (A9 1).length q)) S lo0 lo g L m n sc top (fun k=>if k=l then(fun i=>if i=j then x else F l i) else F k) z d bas oth st X steps:=by
 have b:1<=F9 m n l:=og
 have e:=(h.tab.line l c b).put (fun y a f=>by
  have o:=h.tab.sep l c b;rcases a with a|a
  ·exact o.2 (by rw[<-f];exact a)
  ·have:=a.1;omega) p r
 have s:SN S lo w=SN S lo (L7 w (L.bk l) j (.bool (decide (x<0))) (.slice P (A9 x.natAbs).length k) (.slice Q (A9 1).length q)):=(by unfold SN;rw[zom]);rw[s] at e;exact h.line c b (zmk (I7 _ _)) e
theorem SchG.ints (h:SchG w S lo0 lo g L m n sc top F z d bas oth st X steps) {c:Nat} (hr:r<m) (hc:c<n):
 SchG ((w.setCell ⟨L.bb,r,none⟩ (.int .i64 ((oth.getD c 0:Nat):Int))).setCell ⟨L.ob,c,none⟩ (.int .i64 ((bas.getD r 0:Nat):Int))) S lo0 lo g L m n sc top F z d (bas.set r (oth.getD c 0)) (oth.set c (bas.getD r 0)) st X steps:=by
 have y:1<=m:=og;have s:1<=n:=og;have a:=h.bS y;have p:=h.oS s;have G:=h.bo y s;have q:=I9 w L.bb r (.int .i64 ((oth.getD c 0:Nat):Int));obtain⟨f,M⟩:=nm (w.setCell ⟨L.bb,r,none⟩ (.int .i64 ((oth.getD c 0:Nat):Int)));have x:=I9 f L.ob c (.int .i64 ((bas.getD r 0:Nat):Int));have E:=(h.basW y).2.put hr (oth.getD c 0);rw[<-M] at q E⊢;have I:f.heap.size=w.heap.size:=(by rw[M];simp[World.setCell]);have J:∀b,some L.bb=some b->b<lo/\¬S b:=fun b e=>(by cases e;exact⟨a.2.1,a.2.2.1⟩);have ae:∀b,some L.ob=some b->b<lo/\¬S b:=fun b e=>(by cases e;exact⟨p.2.1,p.2.2.1⟩);have af:SchG f S lo0 lo g L m n sc top F z d (bas.set r (oth.getD c 0)) oth st X steps->SchG f S lo0 lo g L m n sc top F z d (bas.set r (oth.getD c 0)) oth st X steps:=id;have V:TabW f S lo L.bk L.cp (m+2) (F9 m n) F:=h.tab.grown q fun b e=>(by cases e;exact⟨a.2.1,a.2.2.1,fun l B C=>(h.lS l B C).2.2.1 y⟩);have U:=h.row_next q fun b e=>(by cases e;exact⟨a.2.1,a.2.2.1,a.2.2.2⟩);have O:=h.hd_next q J;have N:=h.scl_next q J;have R:IntW f L.ob n (fun j=>oth.getD j 0):=(h.othW s).2.keep (q.block _ (h.othW s).2.lt fun e=>G (by injection e with e;exact e.symm));have ad:SchG f S lo0 lo g L m n sc top F z d bas oth st X steps->True:=fun _=>trivial;have Z:(fun i=>(bas.set r (oth.getD c 0)).getD i 0)=N5 (fun i=>bas.getD i 0) r (oth.getD c 0):=zrn (by rw[h.len.1];exact hr);have aa:(fun j=>(oth.set c (bas.getD r 0)).getD j 0)=N5 (fun j=>oth.getD j 0) c (bas.getD r 0):=zrn (by rw[h.len.2];exact hc);have ac:∀b,SN S lo f b->b<f.heap.size:=fun b a=>by rw[I];exact h.sn_lt b (by unfold SN at a⊢;rw[I] at a;exact a)
 have t:K6 (SN S lo f) (SN S lo (f.setCell ⟨L.ob,c,none⟩ (.int .i64 ((bas.getD r 0:Nat):Int)))) f (f.setCell ⟨L.ob,c,none⟩ (.int .i64 ((bas.getD r 0:Nat):Int))):=fun b a=>⟨zmt x.size b a,fun o=>World.cell?_of_block (x.block b (ac b a) fun e=>by
  cases e;rcases a with a|a
  ·exact p.2.2.1 a
  ·have:=a.1;have:=p.2.1;omega)⟩
 refine⟨V.grown x fun b e=>by cases e;exact⟨p.2.1,p.2.2.1,fun l B C=>(h.lS l B C).2.2.2 s⟩,h.hv,h.cap,?_,fun i ab=> ?_,h.caps,fun _=>⟨(h.basW y).1,?_⟩,fun _=>⟨(h.othW s).1,?_⟩,fun v hv=> ?_,h.gS,h.bS,h.oS,h.bo,h.lS,by rw[List.length_set,List.length_set];exact h.len⟩
 ·obtain⟨P,k,Q,l,D,W,T,Y,K,H,u,A⟩:=U;exact⟨P,k,Q,l,D,W,T,Y,K.grownN x fun b e=>by cases e;exact Ne.symm p.2.2.2,IsQ.stb.to H t,IsK.stb.to u t,IsK.stb.to A t⟩
 ·obtain⟨K,H,u⟩:=O i ab;exact⟨K,H,((t _ (.inl H)).2 _).trans u⟩
 ·rw[Z];exact E.keep (x.block _ E.lt fun e=>G (by injection e))
 ·rw[aa];exact R.put hc (bas.getD r 0)
 ·obtain⟨K,H,P,k,u,A⟩:=N v (yds (by rw[h.len.1];exact hr) (by rw[h.len.2];exact hc) v hv);exact⟨K,H,P,k,((t _ (.inl H)).2 _).trans u,IsK.stb.to A fun b a=>⟨a,(t b (.inl a)).2⟩⟩
end
theorem ybr {a:Prop} [Decidable a] {f g:Nat->Rat} {k:Nat}:(if a then f else g) k=if a then f k else g k:=by split<;>rfl
theorem zly {w:e} {S:Nat->Prop} {v:u} {q:Rat} (h:IsQ w S v q):∃(s:Bool) (P:Option O) (n k:Nat) (Q:Option O) (c b:Nat),v= .agg #[.bool s,.slice P n k,.slice Q c b]:=by obtain⟨P,k,Q,l,a⟩:=zrq h;exact⟨_,_,_,_,_,_,_,a⟩
section
variable {w w' : e} {S : Nat → Prop} {b c m j : Nat} {f : Nat → Rat}
theorem LineQ.el3 (h:LineQ w S b c m f) (p:j<m):∃(s:Bool) (P:Option O) (n k:Nat) (Q:Option O) (d a:Nat),(w.cell? ⟨b,j*3,none⟩=some (.bool s)/\w.cell? ⟨b,j*3+1,none⟩=some (.slice P n k)/\w.cell? ⟨b,j*3+2,none⟩=some (.slice Q d a))/\
 (w.frozen? ⟨b,j*3,none⟩=false/\w.frozen? ⟨b,j*3+1,none⟩=false/\w.frozen? ⟨b,j*3+2,none⟩=false)/\IsQ w S (.agg #[.bool s,.slice P n k,.slice Q d a]) (f j):=by obtain⟨P,k,Q,l,e,g,i,o⟩:=h.el j p;exact⟨_,_,_,_,_,_,_,⟨e,g,i⟩,⟨h.free,h.free,h.free⟩,o⟩
theorem LineQ.put3 (h:LineQ w S b c m f) (e:∀x,S x->x≠b) (g:j<m) {z:Rat} {s:u} (d:IsQ w S (.agg #[s,K,H]) z):LineQ (L7 w b j s K H) S b c m (fun i=>if i=j then z else f i):=by obtain⟨P,k,Q,l,a⟩:=zrq d;simp only[Value.agg.injEq,Array.mk.injEq,List.cons.injEq,and_true] at a;obtain⟨rfl,rfl,rfl⟩:=a;exact h.put e g d
end
section
variable {w w' : e} {S : Nat → Prop} {lo0 lo g m n l j : Nat} {L : Lay} {F : Nat → Nat → Rat} {z : Rat} {bas oth : List Nat}
theorem ExG.el3 (h:ExG w S lo0 lo g L m n F z bas oth) (e:l<m+2) (d:j<F9 m n l):∃(s:Bool) (P:Option O) (c k:Nat) (Q:Option O) (b a:Nat),(w.cell? ⟨L.bk l,j*3,none⟩=some (.bool s)/\w.cell? ⟨L.bk l,j*3+1,none⟩=some (.slice P c k)/\w.cell? ⟨L.bk l,j*3+2,none⟩=some (.slice Q b a))/\
 (w.frozen? ⟨L.bk l,j*3,none⟩=false/\w.frozen? ⟨L.bk l,j*3+1,none⟩=false/\w.frozen? ⟨L.bk l,j*3+2,none⟩=false)/\IsQ w (SN S lo w) (.agg #[.bool s,.slice P c k,.slice Q b a]) (F l j):=
 (h.tab.line l e og).el3 d
theorem ExG.old (h:ExG w S lo0 lo g L m n F z bas oth) {v:u} {q:Rat} (a:IsQ w (SN S lo w) v q):IsQ w (C3 w) v q:=IsQ.stb.to a (F7 h.sn_lt)
theorem ExG.ne (h:ExG w S lo0 lo g L m n F z bas oth) (e:l<m+2) (d:1<=F9 m n l):∀x,SN S lo w x->x≠L.bk l:=fun x a b=>by
 have c:=h.tab.sep l e d
 rcases a with a|a
 ·exact c.2 (by rw[<-b];exact a)
 ·have:=a.1;omega
theorem ExG.putL (h:ExG w S lo0 lo g L m n F z bas oth) (b:l<m+2) (e:j<F9 m n l) {x:Rat} {s:u} (f:IsQ w (SN S lo w) (.agg #[s,K,H]) x):
 ExG (L7 w (L.bk l) j s K H) S lo0 lo g L m n (fun k=>if k=l then(fun i=>if i=j then x else F l i) else F k) z bas oth:=by have a:1<=F9 m n l:=og;have d:SN S lo (L7 w (L.bk l) j s K H)=SN S lo w:=(by unfold SN;rw[zom]);have c:=(h.tab.line l b a).put3 (h.ne b a) e f;rw[<-d] at c;exact h.line b a (zmk (I7 _ _)) c
theorem ExG.putVal (h:ExG w S lo0 lo g L m n F z bas oth) {x:Rat} {s:u} (c:IsQ w (SN S lo w) (.agg #[s,K,H]) x):
 ExG (Go.Proofs.YtlhhbccgfkhflaaGreatDoor.putVal w g s K H) S lo0 lo g L m n F x bas oth:=by obtain⟨P,k,Q,l,a⟩:=zrq c;simp only[Value.agg.injEq,Array.mk.injEq,List.cons.injEq,and_true] at a;obtain⟨rfl,rfl,rfl⟩:=a;obtain⟨d,f,e,i,hr,_⟩:=h.row;refine h.cells (ztz _ _ _ _ _) ⟨P,k,Q,l,((hr.set_ 5 _).set_ 6 _).set_ 7 _,?_⟩;have hg:=ztz w g (.bool (decide (x.num<0))) (.slice P (A9 x.num.natAbs).length k) (.slice Q (A9 x.den).length l);exact IsQ.stb.to c (h.same hg fun b a=>by cases a;exact h.gS.2)
theorem ExG.open3 (h:ExG w S lo0 lo g L m n F z bas oth):∃(s:Bool) (P:Option O) (a k:Nat) (Q:Option O) (b l:Nat),Row w g 107 [.slice L.ba m L.bc,.slice L.oa n L.oc,.slice L.ra m L.rc,.slice (L.ha m) m (L.cp m),.slice (L.ha (m+1)) n (L.cp (m+1)),.bool s,.slice P a k,.slice Q b l]/\
 IsQ w (SN S lo w) (.agg #[.bool s,.slice P a k,.slice Q b l]) z:=by obtain⟨P,k,Q,l,c,d⟩:=h.row;exact⟨_,P,_,k,Q,_,l,c,d⟩
theorem ExG.int1 (h:ExG w S lo0 lo g L m n F z bas oth) (hr:r<m) (v:Nat):ExG (w.setCell ⟨L.bb,r,none⟩ (.int .i64 (v:Int))) S lo0 lo g L m n F z (bas.set r v) oth:=by
 have d:1<=m:=og;have c:=h.bS d;have e:=I9 w L.bb r (.int .i64 (v:Int));have j:(fun i=>(bas.set r v).getD i 0)=N5 (fun i=>bas.getD i 0) r v:=zrn (by rw[h.len.1];exact hr)
 exact {h with
  tab:=h.tab.grown e fun b a=>by cases a;exact⟨c.2.1,c.2.2.1,fun l k o=>(h.lS l k o).2.2.1 d⟩
  row:=h.row_next e fun b a=>by cases a;exact⟨c.2.1,c.2.2.1,c.2.2.2⟩
  hd:=h.hd_next e fun b a=>by cases a;exact⟨c.2.1,c.2.2.1⟩
  basW:=fun _=>⟨(h.basW d).1,by rw[j];exact(h.basW d).2.put hr v⟩
  othW:=fun f=>⟨(h.othW f).1,(h.othW f).2.keep (e.block _ (h.othW f).2.lt fun a=>h.bo d f (by injection a with a;exact a.symm))⟩
  len:=by rw[List.length_set];exact h.len}
theorem ExG.int2 (h:ExG w S lo0 lo g L m n F z bas oth) {c:Nat} (hc:c<n) (v:Nat):ExG (w.setCell ⟨L.ob,c,none⟩ (.int .i64 (v:Int))) S lo0 lo g L m n F z bas (oth.set c v):=by
 have e:1<=n:=og;have d:=h.oS e;have f:=I9 w L.ob c (.int .i64 (v:Int));have k:(fun i=>(oth.set c v).getD i 0)=N5 (fun i=>oth.getD i 0) c v:=zrn (by rw[h.len.2];exact hc)
 exact {h with
  tab:=h.tab.grown f fun b a=>by cases a;exact⟨d.2.1,d.2.2.1,fun l o p=>(h.lS l o p).2.2.2 e⟩
  row:=h.row_next f fun b a=>by cases a;exact⟨d.2.1,d.2.2.1,d.2.2.2⟩
  hd:=h.hd_next f fun b a=>by cases a;exact⟨d.2.1,d.2.2.1⟩
  basW:=fun j=>⟨(h.basW j).1,(h.basW j).2.keep (f.block _ (h.basW j).2.lt fun a=>h.bo j e (by injection a))⟩
  othW:=fun _=>⟨(h.othW e).1,by rw[k];exact(h.othW e).2.put hc v⟩
  len:=by rw[List.length_set];exact h.len}
end
theorem Bru.btw {w w':e} {lo0 lo:Nat} {S:Nat->Prop} (h:Bru w) (a:Btw lo0 lo S w w') (b:zsn<lo0):Bru w':=
 ⟨ab h.1 a.bel.size,fun i c=>(a.bel.cell (p:=⟨zsn,i,none⟩) b).trans (h.2 i c)⟩
structure RowO (w:e) (base:Nat) (S:Nat->Prop) (B:Nat->Option Nat) (k:Nat) (hd:Nat->u) (A:u) (G:Nat->List Rat):Prop where
 rows:∀i,i<k->OwnS 3 30 IsR w base S (hd i) (C2 (G i))/\(hd i).ownBlock=B (7+i)
 heads:OwnS 1 26 IsVal w base (fun _=>False) A ((List.range k).map hd)/\A.ownBlock=B 3
 sep:Sep w base S B
 supp:∀p,p<7->p≠3->B p=none
 low:∀b,S b->base<=b
section
variable {w w' : e} {base : Nat} {S T : Nat → Prop} {B : Nat → Option Nat} {k : Nat} {hd : Nat → u} {A : u} {G : Nat → List Rat}
theorem RowO.row {j d:u} {e:Nat} (h:RowO w base S B k hd A G) (l:base<=w.heap.size) (s:w.grownBy w' (B 3)) (C:w.heap.size<=e) (D:e<=w'.heap.size)
 (x:OwnS 3 30 IsR w' w.heap.size (fun b=>w.heap.size<=b/\b<e/\d.ownBlock≠some b) d (C2 (G k))) (H:∀b,d.ownBlock=some b->b<e)
 (hv:OwnS 1 26 IsVal w' base (fun _=>False) j ((List.range k).map hd++[d])) (I:j.ownBlock=A.ownBlock\/∃b,j.ownBlock=some b/\e<=b):
 RowO w' base (fun b=>S b\/(w.heap.size<=b/\b<e/\d.ownBlock≠some b)) (U0 (U0 B (7+k) d.ownBlock) 3 j.ownBlock) (k+1) (zph hd k d) j G:=by
 have n:∀b,S b->b<w.heap.size:=h.sep.q;have o:=s.size;have F:∀b,(S b\/(w.heap.size<=b/\b<e/\d.ownBlock≠some b))->S b\/(w.heap.size<=b/\b<w'.heap.size):=fun b a=>a.imp id fun a=>⟨a.1,by omega⟩
 have old:∀(v:u) (g:Nat) (q:List Raw),v.ownBlock=B g->g≠3->OwnS 3 30 IsR w base S v q->OwnS 3 30 IsR w' base (fun b=>S b\/(w.heap.size<=b/\b<e/\d.ownBlock≠some b)) v q:=fun v g q t m E=>
  zxb h.sep o F (fun b a=> .inl a) t (E.grown IsR.stb s fun b c=>⟨fun y=>h.sep.ne 3 g b (Ne.symm m) c (t▸y),(h.sep.lt 3 b c).2.2⟩)
 have p:=x.own_lt;refine⟨fun i J=> ?_,⟨?_,zkn _ _ _▸rfl⟩,?_,fun g m r=> ?_,fun b a=> ?_⟩
 ·by_cases c:i=k
  ·subst c;have f:zph hd i d i=d:=if_pos rfl;rw[f];refine⟨x.higher IsR.stb l (fun b a=> .inr a) fun b a=> ?_,?_⟩
   ·rcases a with a|a
    ·exact⟨ab (n b a) o,fun c=>by have:=(p b c.symm).1;have:=n b a;omega⟩
    ·exact⟨by omega,fun c=>a.2.2 c.symm⟩
   ·rw[J8 og,zkn]
  ·have f:zph hd k d i=hd i:=if_neg c;rw[f];refine⟨old _ _ _ (h.rows i og).2 og (h.rows i og).1,?_⟩;rw[J8 og,J8 og];exact(h.rows i og).2
 ·rw[ymf];exact hv
 ·exact h.sep.two og o l D C (fun b a=>a.imp id fun a=>⟨a.1,a.2.1⟩) (fun b c=>⟨(p b c).1,H b c,fun a=>by
   rcases a with a|a
   ·have:=n b a;have:=(p b c).1;omega
   ·exact a.2.2 c⟩) (by
   rcases I with c|⟨b,f,z⟩
   ·exact .inl (c.trans h.heads.2)
   ·exact .inr ⟨b,f,z,(hv.own_lt b f).2⟩)
 ·rw[J8 r,J8 og];exact h.supp g m r
 ·rcases a with a|a
  ·exact h.low b a
  ·exact Nat.le_trans l a.1
end
theorem zz1392 {w:e} {aj:u} {a:List (List Rat)} {f:Nat} (ha:IsM w (C3 w) aj (G6 a)) (M:a.length=f) (aT:f<=1000) (hr:∀r∈a,r.length<=1000) (sa:∀r∈a,∀q∈r,Sz q 100000):
 Calls Tryz.prog 65 #[aj] w fun c w'=>(∃v,c= .returned v/\∃S B hd,RowO w' w.heap.size S B f hd v (fun i=>a.getD i []))/\Below w.heap.size w w':=by
 obtain⟨Q,av,az,ay⟩:=X7 ha M sa hr;obtain⟨A,aS,rfl,_⟩:=zqg ha;have L:(G6 a).length=f:=(by simp[G6,M]);rw[L] at Q;rw[L];clear ha M sa L hr;go_in;go_wp2_with (at_make;refine zxc zoy rfl _ _ rfl IsVal f rfl rfl rfl og (base:=w.heap.size) (S:=fun _=>False) (Nat.le_refl _) (fun b h=>h.elim) ?_;intro ai aO H Z aM);have al:=V Z
 have T:Hid (RowO aO w.heap.size (fun _=>False) (U0 (fun _=>none) 3 ai.ownBlock) 0 (fun _=>C) ai (fun i=>a.getD i [])):=by
  refine⟨fun i aJ=>absurd aJ (Nat.not_lt_zero _),⟨by simpa using H,(zkn _ _ _).symm⟩,⟨fun i b c=> ?_,fun i j b aK c z=> ?_,fun b d=>d.elim⟩,fun aZ aY aG=>J8 aG,fun b d=>d.elim⟩
  ·by_cases h:i=3
   ·subst h;rw[zkn] at c;exact⟨(H.own_lt b c).1,(H.own_lt b c).2,fun x=>x⟩
   ·rw[J8 h] at c;cases c
  ·by_cases h:i=3
   ·subst h;rw[J8 (Ne.symm aK)] at z;cases z
   ·rw[J8 h] at c;cases c
 clear Z H aM;go_loopw [11,3,5] (fun i D _ wr=>∃(k:Nat) (S:Nat->Prop) (B:Nat->Option Nat) (hd:Nat->u),k<=f/\i= .int .i64 (k:Int)/\Below w.heap.size w wr/\Hid (RowO wr w.heap.size S B k hd D (fun i=>a.getD i []))) (fun i _ _ _=>f-(intOf i).toNat);case atStart=>exact⟨0,_,_,_,Nat.zero_le _,rfl,al.out,T.out⟩
 case round=>
  obtain⟨k,S,B,hd,aV,rfl,o,hrel⟩:=hrel;have J:=V o;have l:=V hrel.out;have ag:=o.size;clear hrel T;rcases ad k f with t|aU
  ·obtain⟨x,I,af⟩:=ydm (m:=a) (j:=k) (by rw[av.out];exact t);obtain⟨aD,aN,aQ,aR,rfl,Y,F,s⟩:=zpo Q.out af;rw[zkc] at s F;obtain⟨m,N⟩:=nm (x.length);rw[<-N] at s F;replace s:=o.cell (p:=⟨aD,aN+k,none⟩) Y|>.trans s;have aC:=V (IsV.stb.to F (E7 o));have ar:Hid (a.getD k []=x):=(by rw[Hid,List.getD_eq_getElem?_getD,I];rfl);have K:=V N;have aA:Hid (∀q∈x,Sz q 100000):=az.out x (List.mem_of_getElem? I);have aL:=ay.out x (List.mem_of_getElem? I);have aW:(0:Int)<=(k:Int):=og;have aX:(k:Int)<(f:Int):=og;have au:=V t;clear I af F N o Y t;go_wp2_with fail;refine(zxp (M:=m) aC.out K.out.symm (by rw[K.out];exact aL) aA.out).mono ?_;rintro c g ⟨⟨O,rfl,aP,y,aH⟩,E⟩;have aB:Hid (OwnS 3 30 IsR g wr.heap.size (fun b=>wr.heap.size<=b/\b<g.heap.size/\O.ownBlock≠some b) O (C2 (a.getD k []))):=(by rw[Hid,ar.out];exact y.wider IsR.stb (fun b d=>⟨aH b d,by obtain⟨_,_,_,_,X⟩:=y;exact⟨(X b d).1,fun c=>(X b d).2 c.symm⟩⟩) fun b d=>⟨d.2.1,fun c=>d.2.2 c.symm⟩);have aa:∀b,O.ownBlock=some b->wr.heap.size<=b/\b<g.heap.size:=y.own_lt;have R:=V aa;obtain⟨n,p,W,_,_,_⟩:=y.head;rw[zkc,<-K.out] at W;subst W;have ac:OwnS 1 26 IsVal g w.heap.size (fun _=>False) _ ((List.range k).map hd):=OwnS.step IsVal.stb l.out.heads.1 E (fun b h=>h) (fun b h=>h.elim);have an:=nB J E;have aI:w.heap.size<=g.heap.size:=an.out.size;have P:=V E;have t:=au.out;clear E y s aa;go_wp2_with (at_builtin;refine zz1474 zoy rfl (.tmp 15) (.tmp 18) rfl IsVal.stb (ev:= .slice n m p) (h:=g.heap.size) rfl rfl (show Row (g.alloc (.cells #[.slice n m p] 26)) g.heap.size 26 [.slice n m p] from heap_alloc_new _ _) (OwnS.step IsVal.stb ac (L8 _ _) (fun b h=>h) (fun b h=>h.elim)) (y:= .slice n m p) rfl rfl (by intro a0 ah;simp[Value.cells] at ah;subst ah;rfl) (by rw[List.length_map,List.length_range];omega) (by have:=aI;simp;omega) ?_;intro a1 ak ae G ab);have g6:wr.grownBy ak (B 3):=by have aE:=J7 (K0 (row:=B 3) (C6 P.out (L8 g (.cells #[.slice n m p] 26)))) (by rw[<-l.out.heads.2];exact G);exact aE
   have U:=l.out.row ag g6 P.out.size (by have:=G.size;simp at this;omega) (aB.out.grown IsR.stb (J7 (K0 (row:=B 3) (L8 g (.cells #[.slice n m p] 26))) (by rw[<-l.out.heads.2];exact G)) fun b c=>⟨fun z=>by have:=(l.out.sep.lt 3 b c).2.1;have:=(R.out b z).1;omega,fun d=>by have:=(l.out.sep.lt 3 b c).2.1;have:=d.1;omega⟩) (fun b c=>(R.out b c).2) ae
    (ab.imp id fun c=>⟨_,c,by simp⟩)
   have aq:=V U;have ao:Hid (Below w.heap.size w ak):=J.out.grown g6 ag fun b c=>(l.out.sep.lt 3 b c).1;clear U g6 ae G ab ac;go_roundw;(case rel=>exact⟨k+1,_,_,_,t,by go_num,ao.out,aq.out⟩);case measure=>simp[intOf];omega
  ·obtain rfl:f=k:=og;clear o;go_wp2_with fail;go_ret;exact⟨⟨_,rfl,S,B,hd,l.out⟩,J.out⟩
structure Pt (S:Nat->Prop) (B:Nat->Option Nat) (U:Nat->Prop):Prop where
 lt:∀i b,B i=some b->U b/\¬S b
 ne:∀i j b,i≠j->B i=some b->B j≠some b
 q:∀b,S b->U b
theorem Pt.join {q r m n:Nat->Prop} {f g:Nat->Option Nat} (k:Pt q f m) (l:Pt r g n) (o:∀b,m b->n b->False) (hd:∀a,f a=none\/g a=none):
 Pt (fun b=>q b\/r b) (fun a=>(f a).or (g a)) (fun b=>m b\/n b):=by
 have key:∀a b,(f a).or (g a)=some b->(f a=some b/\m b)\/(g a=some b/\n b):=fun a b c=>by
  rcases hd a with h|h
  ·rw[h,Option.none_or] at c;exact .inr ⟨c,(l.lt a b c).1⟩
  ·rw[h,Option.or_none] at c;exact .inl ⟨c,(k.lt a b c).1⟩
 refine⟨fun a b c=> ?_,fun i j b s c t=> ?_,fun b d=>d.imp (k.q b) (l.q b)⟩
 ·rcases key a b c with⟨e,u1⟩|⟨e,u1⟩
  ·exact⟨.inl u1,fun d=>d.elim (k.lt a b e).2 fun d=>o b u1 (l.q b d)⟩
  ·exact⟨.inr u1,fun d=>d.elim (fun d=>o b (k.q b d) u1) (l.lt a b e).2⟩
 ·rcases key i b c with⟨e,u1⟩|⟨e,u1⟩<;>rcases key j b t with⟨p,u2⟩|⟨p,u2⟩
  ·exact k.ne i j b s e p
  ·exact o b u1 u2
  ·exact o b u2 u1
  ·exact l.ne i j b s e p
theorem Pt.sep {w:e} {base:Nat} {S U:Nat->Prop} {B:Nat->Option Nat} (h:Pt S B U) (c:∀b,U b->base<=b/\b<w.heap.size):Sep w base S B:=
 ⟨fun i b a=>⟨(c b (h.lt i b a).1).1,(c b (h.lt i b a).1).2,(h.lt i b a).2⟩,h.ne,fun b d=>(c b (h.q b d)).2⟩
theorem Pt.one {S U:Nat->Prop} {o:Option Nat} (c:Nat) (f:∀b,o=some b->U b/\¬S b) (g:∀b,S b->U b):Pt S (U0 (fun _=>none) c o) U:=by
 refine⟨fun i b a=> ?_,fun i j b e a d=> ?_,g⟩
 ·by_cases h:i=c
  ·subst h;rw[zkn] at a;exact f b a
  ·rw[J8 h] at a;cases a
 ·by_cases h:i=c
  ·subst h;rw[J8 (Ne.symm e)] at d;cases d
  ·rw[J8 h] at a;cases a
structure PartE (w:e) (base:Nat) (S:Nat->Prop) (B:Nat->Option Nat) (m n g:Nat) (hd:Nat->u) (A q p I D:u) (F:Nat->Nat->Rat) (bas oth:List Nat):Prop where
 line:∀l,l<m+2->OwnS 3 30 IsR w base S (J9 hd q p m l) (C2 (G9 (F9 m n l) (F l)))/\(J9 hd q p m l).ownBlock=B (zli m l)
 heads:OwnS 1 26 IsVal w base (fun _=>False) A ((List.range m).map hd)/\A.ownBlock=B 3
 basO:OwnS 1 3 IsIV w base (fun _=>False) I (bas.map fun(x:Nat)=>(x:Int))/\I.ownBlock=B 0
 othO:OwnS 1 3 IsIV w base (fun _=>False) D (oth.map fun(x:Nat)=>(x:Int))/\D.ownBlock=B 1
 sep:Sep w base S B
 g6:B 6=some g
 low:∀b,S b->base<=b
section
variable {w W : e} {base m n g : Nat} {S : Nat → Prop} {B : Nat → Option Nat} {hd : Nat → u} {A q p I D : u} {F : Nat → Nat → Rat} {bas oth : List Nat}
theorem PartE.grown (h:PartE w base S B m n g hd A q p I D F bas oth) (hg:w.grownBy W (some g)):PartE W base S B m n g hd A q p I D F bas oth:=by
 have key:∀c o,o=B c->c≠6->∀b,some g=some b->o≠some b:=fun c o j e b a f=>(by cases a;exact h.sep.ne 6 c g (Ne.symm e) h.g6 (j▸f));have i:∀b,some g=some b->¬S b:=fun b a=>(by cases a;exact(h.sep.lt 6 g h.g6).2.2);have e:∀l,zli m l≠6:=fun l a=>by have:=zuq (m:=m) (l:=l);omega
 exact⟨fun l d=>⟨(h.line l d).1.grown IsR.stb hg fun b a=>⟨key _ _ (h.line l d).2 (e l) b a,i b a⟩,(h.line l d).2⟩,
  ⟨h.heads.1.grown IsVal.stb hg fun b a=>⟨key 3 _ h.heads.2 og b a,fun x=>x⟩,h.heads.2⟩,⟨h.basO.1.grown IsIV.stb hg fun b a=>⟨key 0 _ h.basO.2 og b a,fun x=>x⟩,h.basO.2⟩,
  ⟨h.othO.1.grown IsIV.stb hg fun b a=>⟨key 1 _ h.othO.2 og b a,fun x=>x⟩,h.othO.2⟩,h.sep.size hg.size,h.g6,h.low⟩
theorem PartE.shape (h:PartE w base S B m n g hd A q p I D F bas oth) {l:Nat} (t:l<m+2):
 J9 hd q p m l= .slice (zkv (J9 hd q p m l)) (F9 m n l) (zlr (J9 hd q p m l))/\F9 m n l<=zlr (J9 hd q p m l)/\zlr (J9 hd q p m l)<=maxLen/\
 (1<=F9 m n l->∃b,zkv (J9 hd q p m l)=some ⟨b,0,none⟩/\B (zli m l)=some b):=by obtain⟨k,o⟩:=h.line l t;obtain⟨a,c,d,f,r,e⟩:=k.head;have u:(C2 (G9 (F9 m n l) (F l))).length=F9 m n l:=(by simp[C2,T4]);rw[u] at d f e;rw[o] at e;refine⟨by rw[d];rfl,by rw[d];exact f,by rw[d];exact r,fun s=> ?_⟩;obtain⟨b,i,j⟩:=e s;exact⟨b,by rw[d];exact i,j⟩
theorem yto (h:PartE w base S B m n g hd A q p I D F bas oth) (Q:bas.length=m) (R:oth.length=n) {z:Rat} {s:Bool} {P aj:Option O} {av k ay au:Nat} (aZ:base<=w.heap.size)
 (ag:IsQ w S (.agg #[.bool s,.slice P av k,.slice aj ay au]) z)
 (Y:Row w g 107 [I,D,A,q,p,.bool s,.slice P av k,.slice aj ay au]):
 ∃(u:Nat->Prop) (L:Lay),ExG w u base w.heap.size g L m n F z bas oth/\∀b,u b->base<=b:=by
 obtain⟨ra,rc,aa,r1,r2,r3⟩:=h.heads.1.head;have af:((List.range m).map hd).length=m:=(by simp);rw[af] at aa r1 r3;rw[h.heads.2] at r3;obtain⟨ba,bc,eb,ak,b2,U⟩:=h.basO.1.head;have aH:(bas.map fun(x:Nat)=>(x:Int)).length=m:=(by simp[Q]);rw[aH] at eb ak U;rw[h.basO.2] at U;obtain⟨oa,oc,Z,az,aS,ai⟩:=h.othO.1.head;have aL:(oth.map fun(x:Nat)=>(x:Int)).length=n:=(by simp[R]);rw[aL] at Z az ai;rw[h.othO.2] at ai;obtain⟨aB,aP,aC,aQ,an⟩:=zrq ag;simp only[Value.agg.injEq,Array.mk.injEq,List.cons.injEq,and_true] at an;obtain⟨al,aE,eq⟩:=an;rw[al,aE,eq] at Y ag;obtain⟨L,aG⟩:=nm (⟨fun l=>H9 (J9 hd q p m l),fun l=>zlr (J9 hd q p m l),fun l=>zkv (J9 hd q p m l),H9 A,rc,ra,H9 I,bc,ba,H9 D,oc,oa,0,0,none⟩:Lay);have sep:=h.sep;have aq:=sep.lt 6 g h.g6;have M:∀v b,v≠6->B v=some b->b≠g:=fun v b ae d V=>sep.ne v 6 b ae d (by rw[h.g6,V]);have aM:∀l,zli m l≠6:=fun l d=>(by have:=zuq (m:=m) (l:=l);omega);have N:∀l,l<m+2->1<=F9 m n l->zkv (J9 hd q p m l)=some ⟨H9 (J9 hd q p m l),0,none⟩/\B (zli m l)=some (H9 (J9 hd q p m l)):=fun l r a=>(by obtain⟨_,_,_,aO⟩:=h.shape r;obtain⟨b,f,t⟩:=aO a;unfold H9;rw[f];exact⟨rfl,t⟩);have aA:1<=m->ra=some ⟨H9 A,0,none⟩/\B 3=some (H9 A):=fun a=>(by obtain⟨b,f,t⟩:=r3 a;unfold H9 zkv;rw[aa,f];exact⟨rfl,t⟩);have H:1<=m->ba=some ⟨H9 I,0,none⟩/\B 0=some (H9 I):=fun a=>(by obtain⟨b,f,t⟩:=U a;unfold H9 zkv;rw[eb,f];exact⟨rfl,t⟩);have J:1<=n->oa=some ⟨H9 D,0,none⟩/\B 1=some (H9 D):=fun a=>(by obtain⟨b,f,t⟩:=ai a;unfold H9 zkv;rw[Z,f];exact⟨rfl,t⟩);obtain⟨u,K⟩:∃u:Nat->Prop,u=fun b=>S b\/B 3=some b:=⟨_,rfl⟩;have sS:∀b,S b->u b:=fun b e=>by rw[K];exact .inl e
 have aD:∀b,u b->b<w.heap.size:=fun b e=>by
  rw[K] at e;rcases e with e|e
  ·exact sep.q b e
  ·exact(sep.lt _ b e).2.1
 have T:∀v b,v≠3->B v=some b->¬u b:=fun v b C d e=>by
  rw[K] at e;rcases e with e|e
  ·exact(sep.lt v b d).2.2 e
  ·exact sep.ne 3 v b (Ne.symm C) e d
 have aX:K6 S (SN u w.heap.size w) w w:=fun b e=>⟨.inl (sS b e),fun o=>rfl⟩;have aR:∀l,l<m+2->1<=F9 m n l->LineQ w S (H9 (J9 hd q p m l)) (zlr (J9 hd q p m l)) (F9 m n l) (F l):=fun l r a=>by obtain⟨b,c,d,_,_,_,ao⟩:=(h.line l r).1.lineQ (fun d=>by have:=T4 (F9 m n l) (F l);rw[d] at this;simp at this;omega);rw[T4] at ao;have f:H9 (J9 hd q p m l)=b:=(by unfold H9;rw[d];rfl);have t:zlr (J9 hd q p m l)=c:=(by rw[d];rfl);rw[f,t];exact ao.same fun j aJ=>zxa aJ
 refine⟨u,L,?_,fun b e=>by
  rw[K] at e;rcases e with e|e
  ·exact h.low b e
  ·exact(sep.lt _ b e).1⟩
 subst aG
 refine⟨⟨fun l r a=>(aR l r a).mono fun x ah=> .inl (sS x ah),fun l k r ar a ab d=> ?_,fun l r a=> ?_,fun b e=>aD b e,Nat.le_refl _⟩,
  fun l r a=>(N l r a).1,fun l r=>⟨(h.shape r).2.1,(h.shape r).2.2.1⟩,⟨aB,aP,aC,aQ,?_,IsQ.stb.to ag aX⟩,fun i G=> ?_,⟨r1,r2,ak,b2,az,aS⟩,
  fun a=>⟨(H a).1,?_⟩,fun a=>⟨(J a).1,?_⟩,⟨aq.1,aq.2.1,T 6 g og h.g6⟩,fun a=> ?_,fun a=> ?_,fun a ab=> ?_,fun l r a=> ?_,⟨Q,R⟩⟩
 ·have E:=(N l r a).2;have aK:=(N k ar ab).2;exact Classical.byContradiction fun M=>sep.ne _ _ _ (fun V=>M (ykq r ar V)) E (by rw[aK];exact congrArg some d.symm)
 ·have E:=(N l r a).2;have:=sep.lt _ _ E;have ae:=zuq (m:=m) (l:=l);exact⟨this.2.1,T _ _ og E⟩
 ·show Row w g _ [.slice ba m bc,.slice oa n oc,.slice ra m rc,.slice (zkv (J9 hd q p m m)) m (zlr (J9 hd q p m m)),.slice (zkv (J9 hd q p m (m+1))) n (zlr (J9 hd q p m (m+1))),_,_,_];have f:=(h.shape (l:=m) og).1;have t:=(h.shape (l:=m+1) og).1;rw[M9] at f;rw[U6] at t;have W:J9 hd q p m m=q:=if_pos rfl;have X:J9 hd q p m (m+1)=p:=(by unfold J9;rw[if_neg og,if_pos rfl]);rw[<-f,<-t,W,X,<-eb,<-Z,<-aa];exact Y
 ·have a:1<=m:=og;have aN:=(aA a).2;refine⟨(aA a).1,by rw[K];exact .inr aN,?_⟩;show w.cell? ⟨H9 A,i,none⟩=some (.slice (zkv (J9 hd q p m i)) n (zlr (J9 hd q p m i)));have f:=(h.shape (l:=i) og).1;rw[J4 G] at f;have t:J9 hd q p m i=hd i:=(by unfold J9;rw[if_neg og,if_neg og]);have hc:(hd i).cells[0]? =some (hd i):=(by obtain⟨x,y,z,ah⟩:∃x y z,hd i= .slice x y z:=⟨_,_,_,t▸f⟩;rw[ah];rfl);rw[<-f,t];obtain⟨b,c,aY,al,W,_,aT,_,_,aU,aV,aW,_,_⟩:=h.heads.1.shape (fun d=>by rw[d] at af;simp at af;omega);have X:H9 A=b:=(by unfold H9;rw[W];rfl);rw[X];have hr:((List.range m).map hd)[i]? =some (hd i):=(by rw[List.getElem?_map,List.getElem?_range G];rfl);obtain⟨d,aI,ad⟩:=aW.get hr;have ad:d=_:=ad;subst ad;have:=znp aT aU (zmi aV (i:=0) aI hc);rwa[Nat.mul_one,Nat.add_zero] at this
 ·obtain⟨b,c,d,G⟩:=h.basO.1.intW (by rw[Q];exact a);have f:H9 I=b:=(by unfold H9;rw[d];rfl);rw[Q] at G;show IntW w (H9 I) m _;rw[f];exact G
 ·obtain⟨b,c,d,G⟩:=h.othO.1.intW (by rw[R];exact a);have f:H9 D=b:=(by unfold H9;rw[d];rfl);rw[R] at G;show IntW w (H9 D) n _;rw[f];exact G
 ·have C:=sep.lt _ _ (H a).2;exact⟨C.1,C.2.1,T 0 _ og (H a).2,M 0 _ og (H a).2⟩
 ·have C:=sep.lt _ _ (J a).2;exact⟨C.1,C.2.1,T 1 _ og (J a).2,M 1 _ og (J a).2⟩
 ·exact fun d=>sep.ne 0 1 _ og (H a).2 (by rw[(J ab).2];exact congrArg some (show H9 D=H9 I from d.symm))
 ·have E:=(N l r a).2;have C:=sep.lt _ _ E;have ae:=zuq (m:=m) (l:=l);exact⟨C.1,M _ _ (aM l) E,fun ac d=>sep.ne _ 0 _ og E (by rw[(H ac).2];exact congrArg some (show H9 I=H9 _ from d.symm)),fun ac d=>sep.ne _ 1 _ og E (by rw[(J ac).2];exact congrArg some (show H9 D=H9 _ from d.symm))⟩
end
section
variable {P : Program} {ops : Array Oper} {Q : Exit → Act → e → Prop} {Φ : Nat → u → e → Option u → Prop} {U : e → u → e → Prop} {k : Nat} {M : Nat → e → Prop} {J : e → Option u → Prop} {E : Nat → e → e → Option u → Prop} {s : Act} {Z : e}
def zmw (ops:Array Oper) (k:Nat) (listed:Array Bool) (T:Array u):Option u:=if listed[k]? =some true then(ops[k]?).map (N7 T) else none
structure GrowInvX (ops:Array Oper) (k:Nat) (Φ:Nat->u->e->Option u->Prop) (M:Nat->e->Prop) (J:e->Option u->Prop) (s:Act) (listed:Array Bool) (a:Act) (w:e):Prop where
 size:a.tmps.size=s.tmps.size
 defers:a.defers=s.defers
 inv:J w (zmw ops k listed a.tmps)
 pre:∀i,listed[i]? =some false->M i w
 free:∀t,zms ops t=false->a.tmps[t]? =s.tmps[t]?
 holds:∀j oj,ops[j]? =some oj->listed[j]? =some true->Φ j (N7 a.tmps oj) w (zmw ops k listed a.tmps)
theorem zz1470 (hPs:∀i m w w' x,i≠m->M i w->J w x->E m w w' x->M i w') (hst:∀i m v w w' x,i≠m->m≠k->Φ i v w x->J w x->E m w w' x->Φ i v w' x) (aB:∀i v w w' ao,i≠k->Φ i v w none->J w none->E k w w' none->U w ao w'->Φ i v w' (some ao)) (hg:zyf ops s.tmps.size=true)
 (aC:∀i o x,ops[i]? =some o->(i=k->x=none)->∀(a:Act) (w:e),a.tmps.size=s.tmps.size->a.defers=s.defers->J w x->M i w->(∀t,zms ops t=false->a.tmps[t]? =s.tmps[t]?)->
   (∀j b,j∈Z4 o->ops[j]? =some b->Φ j (N7 a.tmps b) w x)->
   if Region.wanted o (yielded ops a.tmps)=true then o.wp P a w (fun Y w'=>∃v,Y=a.put o.dst v/\E i w w' x/\J w' (if i=k then some (if o.dst.isSome then v else C) else x)/\Φ i (if o.dst.isSome then v else C) w' (if i=k then some (if o.dst.isSome then v else C) else x)/\(i=k->U w (if o.dst.isSome then v else C) w')) Q else i≠k/\Φ i C w x/\E i w w x)
 (az:∀(a:Act) (w:e),a.tmps.size=s.tmps.size->a.defers=s.defers->J w ((ops[k]?).map (N7 a.tmps))->(∀t,zms ops t=false->a.tmps[t]? =s.tmps[t]?)->
   (∀j b,ops[j]? =some b->Φ j (N7 a.tmps b) w ((ops[k]?).map (N7 a.tmps)))->Q .normal a w):
 ∀(G:Nat) (listed:Array Bool) (a:Act) (w:e),listed.size=ops.size->zkp listed.toList<=G->GrowInvX ops k Φ M J s listed a w->wpAny P .any ops Q G listed a w:=by
 have done:∀(listed:Array Bool) (a:Act) (w:e),listed.size=ops.size->Region.ready .any ops listed=[]->GrowInvX ops k Φ M J s listed a w->Q .normal a w:=by
  intro listed a w L hr inv
  have all:∀n i,i<n->i<ops.size->listed[i]? =some true:=by
   intro n;induction n with
   |zero=>intro i g;omega
   |succ n ih=>
    intro i g F;rcases ad i n with h|h
    ·exact ih i h F
    ·obtain rfl:i=n:=og;have f:i<listed.size:=og;cases B:listed[i] with
     |true=>rw[N f,B]
     |false=>
      exfalso
      have q:i∈Region.ready .any ops listed:=by
       unfold Region.ready;refine List.mem_filter.2 ⟨List.mem_range.2 F,?_⟩;have g:ops[i]? =some ops[i]:=N F;obtain⟨_,aA⟩:=yhu hg g;rw[g];simp only[Option.map_some,Option.getD_some,Bool.and_eq_true,Bool.not_eq_true'];refine⟨by simp[aa,N f,B],Array.all_eq_true'.2 fun p ay=> ?_⟩;cases ar:Region.binds .any p with
       |false=>rfl
       |true=>have c:=aA p.on (List.mem_map.2 ⟨p,List.mem_filter.2 ⟨by simpa using ay,ar⟩,rfl⟩);have:=ih p.on c og;simp[aa,this]
      rw[hr] at q;cases q
  have I:zmw ops k listed a.tmps=(ops[k]?).map (N7 a.tmps):=by
   unfold zmw;cases z:ops[k]? with
   |none=>split<;>rfl
   |some ok=>rw[if_pos (all (k+1) k og (Array.getElem?_eq_some_iff.1 z).1)]
  have r:=inv.inv;rw[I] at r;refine az a w inv.size inv.defers r inv.free fun j b c=> ?_;have H:=inv.holds j b c (all (j+1) j og (Array.getElem?_eq_some_iff.1 c).1);rw[I] at H;exact H
 intro G;induction G with
 |zero=>
  intro listed a w L hc inv
  have hr:Region.ready .any ops listed=[]:=by
   cases hr:Region.ready .any ops listed with
   |nil=>rfl
   |cons i l=>exfalso;have q:i∈Region.ready .any ops listed:=(by rw[hr];simp);have F:i<ops.size:=(by unfold Region.ready at q;exact List.mem_range.1 (List.mem_filter.1 q).1);have H:=(zwl (N F) q).1;have f:i<listed.size:=og;have I:=zxt (l:=listed.toList) (i:=i) (b:=listed[i]) og (by simp[f]);simp[aa,N f,I] at H
  exact⟨hr,done listed a w L hr inv⟩
 |succ G ih=>
  intro listed a w L hc inv;refine⟨fun hr=>done listed a w L hr inv,fun i q=> ?_⟩;have F:i<ops.size:=(by unfold Region.ready at q;exact List.mem_range.1 (List.mem_filter.1 q).1);have g:ops[i]? =some ops[i]:=N F;obtain⟨H,I⟩:=zwl g q;have f:i<listed.size:=og;have B:listed[i]=false:=(by simpa[aa,N f] using H);obtain⟨ae,_⟩:=yhu hg g;have A:=aC i ops[i] (zmw ops k listed a.tmps) g (fun p=>by unfold zmw;rw[<-p,N f,B];simp) a w inv.size inv.defers inv.inv (inv.pre i (by rw[N f,B])) inv.free fun j b c ah=>inv.holds j b ah (by have r:=I j c;have af:j<listed.size:=(by have:=(Array.getElem?_eq_some_iff.1 ah).1;omega);rw[N af];simp only[aa,N af,Option.getD_some] at r;rw[r])
  have next:∀(v:u) (w':e),E i w w' (zmw ops k listed a.tmps)->J w' (if i=k then some (if ops[i].dst.isSome then v else C) else zmw ops k listed a.tmps)->Φ i (if ops[i].dst.isSome then v else C) w' (if i=k then some (if ops[i].dst.isSome then v else C) else zmw ops k listed a.tmps)->(i=k->U w (if ops[i].dst.isSome then v else C) w')->wpAny P .any ops Q G (listed.setIfInBounds i true) (a.put ops[i].dst v) w':=by
   intro v w' R S hv T
   have aj:∀t,(∀d,ops[i].dst=some d->t≠d)->(a.put ops[i].dst v).tmps[t]? =a.tmps[t]? :=by
    intro t K;cases hd:ops[i].dst with
    |none=>rfl
    |some d=>exact zzb _ _ (K d hd)
   have ak:N7 (a.put ops[i].dst v).tmps ops[i]=(if ops[i].dst.isSome then v else C):=by
    unfold N7;cases hd:ops[i].dst with
    |none=>rfl
    |some d=>simp only;exact ydi _ _ (by rw[inv.size];exact(ae d hd).1)
   have ai:∀j b,ops[j]? =some b->j≠i->N7 (a.put ops[i].dst v).tmps b=N7 a.tmps b:=by
    intro j b c D;unfold N7;cases av:b.dst with
    |none=>rfl
    |some aq=>exact ybi (aj aq fun d hd p=>D ((ae d hd).2 j b c (by rw[av,p])))
   have al:zmw ops k (listed.setIfInBounds i true) (a.put ops[i].dst v).tmps=(if i=k then some (if ops[i].dst.isSome then v else C) else zmw ops k listed a.tmps):=by
    by_cases y:i=k
    ·subst y;unfold zmw;rw[if_pos rfl,Array.getElem?_setIfInBounds_self_of_lt f,if_pos rfl,g];simp only[Option.map_some,ak]
    ·rw[if_neg y];unfold zmw;rw[Array.getElem?_setIfInBounds_ne y];cases z:ops[k]? with
     |none=>rfl
     |some ok=>simp only[Option.map_some,ai k ok z (Ne.symm y)]
   refine ih _ _ _ (by simp[L]) ?_ ⟨?_,?_,by rw[al];exact S,fun m z=> ?_,fun t K=> ?_,fun j b c W=> ?_⟩
   ·have:=zxs (l:=listed.toList) (i:=i) (by simp[f,B]);simp only[Array.toList_setIfInBounds];omega
   ·cases hd:ops[i].dst with
    |none=>exact inv.size
    |some d=>rw[ydj];exact inv.size
   ·cases hd:ops[i].dst with
    |none=>exact inv.defers
    |some d=>exact inv.defers
   ·have ag:m≠i:=(by rintro rfl;rw[Array.getElem?_setIfInBounds_self_of_lt f] at z;cases z);rw[Array.getElem?_setIfInBounds_ne (Ne.symm ag)] at z;exact hPs m i w w' _ ag (inv.pre m z) inv.inv R
   ·rw[aj t (by rintro d hd rfl;unfold zms at K;rw[List.any_eq_false] at K;exact K ops[i] (by simp) (by rw[hd];simp))];exact inv.free t K
   ·rw[al];by_cases D:j=i
    ·subst D;rw[g] at c;cases c;rw[ak];exact hv
    ·rw[ai j b c D];rw[Array.getElem?_setIfInBounds_ne (Ne.symm D)] at W;by_cases y:i=k
     ·subst y;rw[if_pos rfl];have Z:=inv.holds j b c W;have an:zmw ops i listed a.tmps=none:=(by unfold zmw;rw[N f,B];simp);rw[an] at Z;have r:=inv.inv;rw[an] at R r;exact aB j _ _ _ _ D Z r R (T rfl)
     ·rw[if_neg y];exact hst j i _ _ _ _ D y (inv.holds j b c W) inv.inv R
  unfold wpOp;rw[g];simp only;split
  ·rename_i X;rw[if_pos X] at A;exact .inl (Oper.wp_mono (fun Y w' ⟨v,ha,au,S,hv,T⟩=>by rw[ha];exact next v w' au S hv T) A)
  ·rename_i X;rw[if_neg X] at A;exact next C w A.2.2 (by rw[if_neg A.1];exact inv.inv) (by rw[if_neg A.1];have:=A.2.1;split<;>exact this) (fun p=>absurd p A.1)
theorem yel {id:Nat} (k:Nat) (U:e->u->e->Prop) (Φ:Nat->u->e->Option u->Prop) (M:Nat->e->Prop) (J:e->Option u->Prop) (E:Nat->e->e->Option u->Prop) (l:P.follows .mixedOrders=true) (hJ0:J Z.drew none) (hP0:∀i,M i Z.drew)
 (hPs:∀i m w w' x,i≠m->M i w->J w x->E m w w' x->M i w') (hst:∀i m v w w' x,i≠m->m≠k->Φ i v w x->J w x->E m w w' x->Φ i v w' x) (n:∀i v w w' d,i≠k->Φ i v w none->J w none->E k w w' none->U w d w'->Φ i v w' (some d)) (hg:zyf ops s.tmps.size=true)
 (p:∀i o x,ops[i]? =some o->(i=k->x=none)->∀(a:Act) (w:e),a.tmps.size=s.tmps.size->a.defers=s.defers->J w x->M i w->(∀t,zms ops t=false->a.tmps[t]? =s.tmps[t]?)->
   (∀j b,j∈Z4 o->ops[j]? =some b->Φ j (N7 a.tmps b) w x)->
   if Region.wanted o (yielded ops a.tmps)=true then o.wp P a w (fun f w'=>∃v,f=a.put o.dst v/\E i w w' x/\J w' (if i=k then some (if o.dst.isSome then v else C) else x)/\Φ i (if o.dst.isSome then v else C) w' (if i=k then some (if o.dst.isSome then v else C) else x)/\(i=k->U w (if o.dst.isSome then v else C) w')) Q else i≠k/\Φ i C w x/\E i w w x)
 (g:∀(a:Act) (w:e),a.tmps.size=s.tmps.size->a.defers=s.defers->J w ((ops[k]?).map (N7 a.tmps))->(∀t,zms ops t=false->a.tmps[t]? =s.tmps[t]?)->
   (∀j b,ops[j]? =some b->Φ j (N7 a.tmps b) w ((ops[k]?).map (N7 a.tmps)))->Q .normal a w):
 (Code.region id ops true).wp P Q s Z:=by
 refine wp_region_any l (zz1470 hPs hst n hg p g _ _ _ _ (by simp) (by simp[zxr]) ⟨rfl,rfl,?_,fun i _=>hP0 i,fun _ _=>rfl,fun j b q c=> ?_⟩)
 ·have h:zmw ops k (Array.replicate ops.size false) s.tmps=none:=(by unfold zmw;rw[if_neg];rw[Array.getElem?_replicate];split<;>simp);rw[h];exact hJ0
 ·rw[Array.getElem?_replicate] at c;split at c<;>cases c
end
abbrev X5 (g:Nat):u:= .pointer (some ⟨g,0,none⟩)
def NX (n0:Nat) (w:e) (x:Option u) (b:Nat):Prop:=n0<=b/\b<w.heap.size/\∀g,x=some (X5 g)->b≠g
def zov (n0:Nat) (Z w:e) (x:Option u):Prop:=Below n0 Z w/\n0<=w.heap.size/\∀g,x=some (X5 g)->n0<=g/\g<w.heap.size
def zrh (w:e) (a:u) (w':e):Prop:=a=X5 w.heap.size
section
variable {h : Type} {R : e → (Nat → Prop) → u → h → Prop} (Y : Stb R) {n0 : Nat} {w w' : e} {x : Option u} {v : u} {y : h}
include Y
theorem zqv (h:R w (NX n0 w x) v y) (c:Below w.heap.size w w'):R w' (NX n0 w' x) v y:=Y.to h fun b a=>⟨⟨a.1,ab a.2.1 c.size,a.2.2⟩,fun o=>c.cell (p:=⟨b,o,none⟩) a.2.1⟩
theorem zte (h:R w (NX n0 w none) v y) (c:Below w.heap.size w w'):R w' (NX n0 w' (some (X5 w.heap.size))) v y:=Y.to h fun b a=>⟨⟨a.1,ab a.2.1 c.size,fun g d hg=>by cases d;have:=a.2.1;omega⟩,fun o=>c.cell (p:=⟨b,o,none⟩) a.2.1⟩
theorem zrx (h:R w' (G4 w.heap.size w') v y) (d:n0<=w.heap.size) (e:∀g,x=some (X5 g)->n0<=g/\g<w.heap.size):R w' (NX n0 w' x) v y:=Y.to h (F7 fun b a=>⟨Nat.le_trans d a.1,a.2,fun g c hg=>by have:=(e g c).2;have:=a.1;omega⟩)
end
section
variable {P : Program} {o : Oper} {a : Act} {w Z : e} {Φ : Nat → u → e → Option u → Prop} {Q : Exit → Act → e → Prop} {n0 i k n : Nat} {x : Option u}
end
theorem zz1475 {P:Program} {w:e} {ops:Array Oper} {rest:List Oper} {o:Oper} {a:Act} {Q:Exit->Act->e->Prop} {t b:TypeId} {z:u} {bytes:Nat} (E:ElT P t b z bytes) (D:z.cells= #[z]) (hg:o.guard=none) (l c:Operand) (B:o.op=Op.makeSlice t l c) {f d:IntKind} {L C:Int} (n:Nat)
 (y:a.eval l= .int f L) (hc:a.eval c= .int d C) (r:L=(n:Int)) (m:C=(n:Int)) (s:n*(bytes+1)<=140737488355328)
 (p:∀w',Row w' w.heap.size b (List.replicate n z)->Below w.heap.size w w'->Hid (w'.heap.size=w.heap.size+1)->wpList P ops Q rest (a.put o.dst (.slice (some ⟨w.heap.size,0,none⟩) n n)) w'):
 wpList P ops Q (o::rest) a w:=by obtain⟨i,g,j,k,x⟩:=E.info;rw[Nat.mul_add,Nat.mul_one] at s;refine wpList_plain hg fun F q=> ?_;have b2:i.bytes*n<=281474976710656:=(by rw[x,Nat.mul_comm];omega);have v:(i.bytes:Int)*(n:Int)<=281474976710656:=(by have h:((i.bytes*n:Nat):Int)<=281474976710656:=og;rwa[Int.natCast_mul] at h);have hr:=run_make (P:=P) w t b i z E.und g j f d n n og (Int.le_refl _) v og;simp only[Int.toNat_natCast] at hr;subst r;subst m;unfold Oper.wp;simp[execOp,B,y,hc,hr,Result.andThen];refine q _ _ (p _ ?_ ((Below.refl _ _).alloc (Nat.le_refl _) _) (by simp[Hid]));unfold Row;(have A:(List.replicate n z).toArray=madeCells z.cells (n*i.size):=by apply Array.ext';rw[k,Nat.mul_one,D];show _=(madeCells #[z] n).toList;rw[toList_madeCells_one]);rw[A];exact heap_alloc_new w _
end Go.Proofs.YtlhhbccgfkhflaaGreatDoor
