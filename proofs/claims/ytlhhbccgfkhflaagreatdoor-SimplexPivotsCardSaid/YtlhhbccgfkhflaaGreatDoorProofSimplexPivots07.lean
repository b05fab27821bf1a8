/-
 Lines of rationals that are changed in place.
-/
import Derived.Test.YtlhhbccgfkhflaaGreatDoorProofSimplexPivots06
namespace Go.Proofs.YtlhhbccgfkhflaaGreatDoor
open Go.RowKit
set_option linter.unusedVariables false
set_option maxRecDepth 100000
set_option maxHeartbeats 8000000
open _root_.Go.Lib renaming hid → d
open _root_.Nat renaming le_trans → u, lt_of_lt_of_le → p, lt_succ_self → A
open _root_.List renaming getD_eq_getElem?_getD → s, getElem?_eq_getElem → B, getElem?_map → a
open _root_.Go.World renaming cell?_of_block → q
open _root_.And renaming intro → o
open _root_.Go renaming World → e
variable {T : Nat → Prop} {V b l : Nat} {f : Nat → Rat} {t : Rat} {v : Value}
structure LineQ (w:e) (S:Nat->Prop) (b c m:Nat) (f:Nat->Rat):Prop where
 blk:∃cur,w.heap[b]? =some (.cells cur 30 (0,0))
 cap:m<=c/\c<=maxLen
 el:∀j,j<m->∃P k Q l,w.cell? ⟨b,j*3,none⟩=some (.bool (decide ((f j).num<0)))/\w.cell? ⟨b,j*3+1,none⟩=some (.slice P (A9 (f j).num.natAbs).length k)/\w.cell? ⟨b,j*3+2,none⟩=some (.slice Q (A9 (f j).den).length l)/\
  IsQ w S (.agg #[.bool (decide ((f j).num<0)),.slice P (A9 (f j).num.natAbs).length k,.slice Q (A9 (f j).den).length l]) (f j)
theorem zrq {w:e} {S:Nat->Prop} {q:Rat} (h:IsQ w S v q):∃a k b l,v= .agg #[.bool (decide (q.num<0)),.slice a (A9 q.num.natAbs).length k,.slice b (A9 q.den).length l]:=by obtain⟨a,k,b,l,c,_,_⟩:=h;exact⟨a,k,b,l,c⟩
theorem OwnS.lineQ {w:e} {base:Nat} {S:Nat->Prop} {l:List Rat} (h:OwnS 3 30 IsR w base S v (C2 l)) (C:l≠[]):
 ∃b c,v= .slice (some ⟨b,0,none⟩) l.length c/\base<=b/\b<w.heap.size/\¬S b/\LineQ w S b c l.length fun j=>l.getD j 0:=by have n:(C2 l).length=l.length:=(by simp[C2]);obtain⟨b,c,t,D,rfl,u,d,o,x,f,i,y,z,_⟩:=h.shape (fun g=>C (List.eq_nil_of_length_eq_zero (by rw[<-n,g];rfl)));rw[n] at o f;refine⟨b,c,by rw[n],u,(Array.getElem?_eq_some_iff.1 d).1,z,⟨t,d⟩,⟨o,x⟩,fun j A=> ?_⟩;have hr:(C2 l)[j]? =some (C7 (l.getD j 0)):=(by unfold C2;rw[a,s,B A];rfl);obtain⟨g,m,p⟩:=y.get hr;obtain⟨q,k,r,l,rfl⟩:=zrq (show IsQ w S g (l.getD j 0) from p);exact⟨q,k,r,l,znp d f (zmi i (i:=0) m rfl),znp d f (zmi i (i:=1) m rfl),znp d f (zmi i (i:=2) m rfl),p⟩
theorem LineQ.keep {w w':e} {S:Nat->Prop} {c m:Nat} (h:LineQ w S b c m f) (a:w'.heap[b]? =w.heap[b]?) (d:∀x,S x->T x/\w'.heap[x]? =w.heap[x]?):LineQ w' T b c m f where
 blk:=by rw[a];exact h.blk
 cap:=h.cap
 el j hj:=by obtain⟨i,k,n,l,o,p,r,s⟩:=h.el j hj;exact⟨i,k,n,l,(q a).trans o,(q a).trans p,(q a).trans r,IsQ.stb.to s fun x g=>⟨(d x g).1,fun t=>q (d x g).2⟩⟩
theorem LineQ.same {w:e} {S:Nat->Prop} {c m:Nat} {g:Nat->Rat} (h:LineQ w S b c m f) (d:∀j,j<m->f j=g j):LineQ w S b c m g:=
 ⟨h.blk,h.cap,fun j a=>by rw[<-d j a];exact h.el j a⟩
theorem LineQ.lt {w:e} {S:Nat->Prop} {c m:Nat} (h:LineQ w S b c m f):b<w.heap.size:=by obtain⟨d,a⟩:=h.blk;exact(Array.getElem?_eq_some_iff.1 a).1
theorem LineQ.free {w:e} {S:Nat->Prop} {c m d:Nat} (h:LineQ w S b c m f):w.frozen? ⟨b,d,none⟩=false:=by obtain⟨g,a⟩:=h.blk;simp[World.frozen?,a]
theorem LineQ.put {w:e} {S:Nat->Prop} {c m:Nat} (h:LineQ w S b c m f) (F:∀x,S x->x≠b) {j:Nat} (K:j<m) {z:Rat} {P Q:Option Addr} {k:Nat}
 (G:IsQ w S (.agg #[.bool (decide (z.num<0)),.slice P (A9 z.num.natAbs).length k,.slice Q (A9 z.den).length l]) z):
 LineQ (L7 w b j (.bool (decide (z.num<0))) (.slice P (A9 z.num.natAbs).length k) (.slice Q (A9 z.den).length l)) S b c m (fun i=>if i=j then z else f i) where
 blk:=by
  obtain⟨J,a⟩:=h.blk
  obtain⟨H,y⟩:=zsc (o:=j*3) (u:= .bool (decide (z.num<0))) a
  obtain⟨I,A⟩:=zsc (o:=j*3+1) (u:= .slice P (A9 z.num.natAbs).length k) y
  exact zsc (o:=j*3+2) (u:= .slice Q (A9 z.den).length l) A
 cap:=h.cap
 el i hi:=by
  have s:K6 S S w (L7 w b j (.bool (decide (z.num<0))) (.slice P (A9 z.num.natAbs).length k) (.slice Q (A9 z.den).length l)):=fun x t=>⟨t,fun L=>zmd (.inl (F x t))⟩;by_cases a:i=j
  ·subst a;simp only[if_pos];obtain⟨q,u,r,v,g,n,o,_⟩:=h.el i hi;obtain⟨B,C,D⟩:=ydh (x:= .bool (decide (z.num<0))) (y:= .slice P (A9 z.num.natAbs).length k) (z:= .slice Q (A9 z.den).length l) g n o;exact⟨P,k,Q,l,B,C,D,IsQ.stb.to G s⟩
  ·simp only[if_neg a];obtain⟨q,u,r,v,g,n,o,E⟩:=h.el i hi;have p:∀d,d<3->i*3+d<j*3\/j*3+3<=i*3+d:=fun d hd=>(by omega);exact⟨q,u,r,v,(zmd (.inr (p 0 og))).trans g,(zmd (.inr (p 1 og))).trans n,(zmd (.inr (p 2 og))).trans o,IsQ.stb.to E s⟩
theorem LineQ.isV {w:e} {S:Nat->Prop} {c m:Nat} (h:LineQ w S b c m f) (N:∀x,S x->T x) (O:T b):IsV w T (.slice (some ⟨b,0,none⟩) m c) (C2 (G9 m f)):=by
 have E:(C2 (G9 m f)).length=m:=by simp[C2,T4]
 have hex:∀j,∃t,j<m->(t.cells.size=3/\IsR w T t (C7 (f j))/\∀i F,t.cells[i]? =some F->w.cell? ⟨b,j*3+i,none⟩=some F):=fun j=>by
  by_cases r:j<m
  ·obtain⟨Q,k,R,l,C,G,z,D⟩:=h.el j r;refine⟨_,fun _=>⟨rfl,IsQ.stb.to D (F7 N),fun i F n=> ?_⟩⟩;match i,n with
   |0,n=>cases n;exact C
   |1,n=>cases n;exact G
   |2,n=>cases n;exact z
   |_+3,n=>simp[Value.cells] at n
  ·exact⟨undef,fun h=>absurd h r⟩
 obtain⟨t,H⟩:=Classical.axiomOfChoice hex;have I:Wid 3 ((List.range m).map t):=fun v hv=>(by obtain⟨j,r,rfl⟩:=List.mem_map.1 hv;exact(H j (List.mem_range.1 r)).1);refine⟨some ⟨b,0,none⟩,c,(List.range m).map t,by rw[E],by rw[E];exact h.cap.1,h.cap.2,fun _=>⟨b,0,rfl,O,fun g F n=> ?_⟩,I,⟨by rw[E];simp,fun j x y K J=> ?_⟩⟩
 ·rw[Nat.zero_add];have P:=zqc I;have U:g<m*3:=(by have:=(List.getElem?_eq_some_iff.1 n).1;rw[P] at this;simpa using this);have r:g/3<m:=og;have C:=H (g/3) r;have G:((List.range m).map t)[g/3]? =some (t (g/3)):=(by rw[a,List.getElem?_range r];rfl);have z:∃L,(t (g/3)).cells[g%3]? =some L:=(by have:g%3<(t (g/3)).cells.size:=(by rw[C.1];omega);exact⟨_,Array.getElem?_eq_getElem this⟩);obtain⟨L,z⟩:=z;have D:=zmi I G z;rw[show g/3*3+g%3=g by omega] at D;rw[D] at n;cases n;have M:=C.2.2 _ _ z;rwa[show g/3*3+g%3=g by omega] at M
 ·have r:j<m:=(by have:=(List.getElem?_eq_some_iff.1 J).1;rwa[E] at this);rw[a,List.getElem?_range r] at K;cases K;have hr:(C2 (G9 m f))[j]? =some (C7 (f j)):=(by unfold C2;rw[a,znz r];rfl);rw[hr] at J;cases J;exact(H j r).2.1
structure TabQ (w:e) (S:Nat->Prop) (lo:Nat) (bk cp:Nat->Nat) (N:Nat) (len:Nat->Nat) (F:Nat->Nat->Rat):Prop where
 line:∀l,l<N->1<=len l->LineQ w (SN S lo w) (bk l) (cp l) (len l) (F l)
 inj:∀l k,l<N->k<N->1<=len l->1<=len k->bk l=bk k->l=k
 sep:∀l,l<N->1<=len l->bk l<lo/\¬S (bk l)
 sS:∀b,S b->b<lo
 hlo:lo<=w.heap.size
section
variable {w w' : e} {S : Nat → Prop} {lo N : Nat} {bk cp len : Nat → Nat} {F : Nat → Nat → Rat}
theorem TabQ.same {a:Nat->Nat->Rat} (h:TabQ w S lo bk cp N len F) (c:∀l j,l<N->j<len l->F l j=a l j):TabQ w S lo bk cp N len a:=
 ⟨fun l b d=>(h.line l b d).same fun j e=>c l j b e,h.inj,h.sep,h.sS,h.hlo⟩
theorem TabQ.grown (h:TabQ w S lo bk cp N len F) {r:Option Nat} (hg:w.grownBy w' r) (hr:∀b,r=some b->b<lo/\¬S b/\∀l,l<N->1<=len l->bk l≠b):TabQ w' S lo bk cp N len F where
 line l e d:=by
  refine(h.line l e d).keep (hg.block _ (h.line l e d).lt fun c=>(hr _ c.symm).2.2 l e d rfl) fun x a=>⟨zmt hg.size x a,hg.block _ ?_ fun c=> ?_⟩
  ·rcases a with a|a
   ·exact p (h.sS x a) h.hlo
   ·exact a.2
  ·have:=hr _ c.symm
   rcases a with a|a
   ·exact this.2.1 a
   ·have:=a.1;omega
 inj:=h.inj;sep:=h.sep;sS:=h.sS;hlo:=u h.hlo hg.size
theorem TabQ.upd (h:TabQ w S lo bk cp N len F) (i:l<N) (g:1<=len l) (hg:w.grownBy w' (some (bk l))) (m:LineQ w' (SN S lo w') (bk l) (cp l) (len l) f):
 TabQ w' S lo bk cp N len (fun k=>if k=l then f else F k) where
 line k e d:=by
  by_cases c:k=l
  ·subst c;simp only[if_pos];exact m
  ·simp only[if_neg c]
   refine(h.line k e d).keep (hg.block _ (h.line k e d).lt fun b=>c (h.inj _ _ e i d g (by injection b))) fun x a=>⟨zmt hg.size x a,hg.block _ ?_ fun b=> ?_⟩
   ·rcases a with a|a
    ·exact p (h.sS x a) h.hlo
    ·exact a.2
   ·have j:=h.sep l i g
    injection b with b
    rcases a with a|a
    ·exact j.2 (by rw[<-b];exact a)
    ·have:=a.1;omega
 inj:=h.inj;sep:=h.sep;sS:=h.sS;hlo:=u h.hlo hg.size
end
def Y8 (D:Nat->Nat->Rat) (m n l j:Nat):Rat:=if l=m then D j n else if l=m+1 then -(D m j) else D l j
theorem zvt {D:Nat->Nat->Rat} {m n i j:Nat} (h:i<m):Y8 D m n i j=D i j:=by unfold Y8;rw[if_neg og,if_neg og]
theorem ycc (D:Nat->Nat->Rat) (m n j:Nat):Y8 D m n (m+1) j= -(D m j):=by unfold Y8;rw[if_neg og,if_pos rfl]
theorem zvs (D:Nat->Nat->Rat) (m n j:Nat):Y8 D m n m j=D j n:=if_pos rfl
def zxy (L:Lay) (m n:Nat) (z:Rat) (a:Option Addr) (k:Nat) (b:Option Addr) (l:Nat):List Value:=
 [.slice L.ba m L.bc,.slice L.oa n L.oc,.slice L.ra m L.rc,.slice (L.ha m) m (L.cp m),.slice (L.ha (m+1)) n (L.cp (m+1)),.bool (decide (z.num<0)),.slice a (A9 z.num.natAbs).length k,.slice b (A9 z.den).length l]
structure ExG (w:e) (S:Nat->Prop) (lo0 lo g:Nat) (L:Lay) (m n:Nat) (F:Nat->Nat->Rat) (z:Rat) (bas oth:List Nat):Prop where
 tab:TabQ w S lo L.bk L.cp (m+2) (F9 m n) F
 hv:∀l,l<m+2->1<=F9 m n l->L.ha l=some ⟨L.bk l,0,none⟩
 cap:∀l,l<m+2->F9 m n l<=L.cp l/\L.cp l<=maxLen
 row:∃P k Q l,Row w g 107 (zxy L m n z P k Q l)/\
  IsQ w (SN S lo w) (.agg #[.bool (decide (z.num<0)),.slice P (A9 z.num.natAbs).length k,.slice Q (A9 z.den).length l]) z
 hd:∀i,i<m->L.ra=some ⟨L.r0,0,none⟩/\S L.r0/\w.cell? ⟨L.r0,i,none⟩=some (.slice (L.ha i) n (L.cp i))
 caps:m<=L.rc/\L.rc<=maxLen/\m<=L.bc/\L.bc<=maxLen/\n<=L.oc/\L.oc<=maxLen
 basW:1<=m->L.ba=some ⟨L.bb,0,none⟩/\IntW w L.bb m (fun i=>bas.getD i 0)
 othW:1<=n->L.oa=some ⟨L.ob,0,none⟩/\IntW w L.ob n (fun j=>oth.getD j 0)
 gS:lo0<=g/\g<lo/\¬S g
 bS:1<=m->lo0<=L.bb/\L.bb<lo/\¬S L.bb/\L.bb≠g
 oS:1<=n->lo0<=L.ob/\L.ob<lo/\¬S L.ob/\L.ob≠g
 bo:1<=m->1<=n->L.bb≠L.ob
 lS:∀l,l<m+2->1<=F9 m n l->lo0<=L.bk l/\L.bk l≠g/\(1<=m->L.bk l≠L.bb)/\(1<=n->L.bk l≠L.ob)
 len:bas.length=m/\oth.length=n
section
variable {w w' : e} {S : Nat → Prop} {lo0 lo g m n : Nat} {L : Lay} {F : Nat → Nat → Rat} {z : Rat} {bas oth : List Nat}
theorem ExG.open (h:ExG w S lo0 lo g L m n F z bas oth):∃b k c l,(Row w g 107 (zxy L m n z b k c l)/\
 IsQ w (SN S lo w) (.agg #[.bool (decide (z.num<0)),.slice b (A9 z.num.natAbs).length k,.slice c (A9 z.den).length l]) z)/\
 (w.cell? ⟨g,0,none⟩=some (.slice L.ba m L.bc)/\w.cell? ⟨g,1,none⟩=some (.slice L.oa n L.oc)/\w.cell? ⟨g,2,none⟩=some (.slice L.ra m L.rc)/\w.cell? ⟨g,3,none⟩=some (.slice (L.ha m) m (L.cp m))/\w.cell? ⟨g,4,none⟩=some (.slice (L.ha (m+1)) n (L.cp (m+1))))/\
 (w.cell? ⟨g,5,none⟩=some (.bool (decide (z.num<0)))/\w.cell? ⟨g,6,none⟩=some (.slice b (A9 z.num.natAbs).length k)/\w.cell? ⟨g,7,none⟩=some (.slice c (A9 z.den).length l)):=by obtain⟨b,k,c,l,a,d⟩:=h.row;exact⟨b,k,c,l,⟨a,d⟩,⟨a.cell 0,a.cell 1,a.cell 2,a.cell 3,a.cell 4⟩,a.cell 5,a.cell 6,a.cell 7⟩
theorem ExG.sn_lt (h:ExG w S lo0 lo g L m n F z bas oth):∀b,SN S lo w b->b<w.heap.size:=fun b c=>by
 rcases c with a|a
 ·exact p (h.tab.sS b a) h.tab.hlo
 ·exact a.2
theorem ExG.same (h:ExG w S lo0 lo g L m n F z bas oth) {r:Option Nat} (hg:w.grownBy w' r) (hr:∀b,r=some b->b<lo/\¬S b):K6 (SN S lo w) (SN S lo w') w w':=fun b a=>⟨zmt hg.size b a,fun d=>q (hg.block b (h.sn_lt b a) fun c=>by
 have:=hr b c.symm
 rcases a with a|a
 ·exact this.2 a
 ·have:=a.1;omega)⟩
theorem ExG.hd_next (h:ExG w S lo0 lo g L m n F z bas oth) {r:Option Nat} (hg:w.grownBy w' r) (hr:∀b,r=some b->b<lo/\¬S b):∀i,i<m->L.ra=some ⟨L.r0,0,none⟩/\S L.r0/\w'.cell? ⟨L.r0,i,none⟩=some (.slice (L.ha i) n (L.cp i)):=fun i e=>by
 obtain⟨c,a,d⟩:=h.hd i e
 exact⟨c,a,((h.same hg hr _ (.inl a)).2 _).trans d⟩
theorem ExG.row_next (h:ExG w S lo0 lo g L m n F z bas oth) {r:Option Nat} (hg:w.grownBy w' r) (hr:∀b,r=some b->b<lo/\¬S b/\b≠g):∃a k c l,Row w' g 107 (zxy L m n z a k c l)/\
 IsQ w' (SN S lo w') (.agg #[.bool (decide (z.num<0)),.slice a (A9 z.num.natAbs).length k,.slice c (A9 z.den).length l]) z:=by obtain⟨a,k,c,l,e,f⟩:=h.row;have i:=h.same hg fun b d=>⟨(hr b d).1,(hr b d).2.1⟩;exact⟨a,k,c,l,e.grownN hg fun b d=>Ne.symm (hr b d).2.2,IsQ.stb.to f i⟩
theorem ExG.grown (h:ExG w S lo0 lo g L m n F z bas oth) {r:Option Nat} (hg:w.grownBy w' r) (hr:∀b,r=some b->b<lo/\¬S b/\b≠g/\(1<=m->b≠L.bb)/\(1<=n->b≠L.ob)/\∀l,l<m+2->1<=F9 m n l->L.bk l≠b):
 ExG w' S lo0 lo g L m n F z bas oth:=
 {h with
  tab:=h.tab.grown hg fun b a=>⟨(hr b a).1,(hr b a).2.1,(hr b a).2.2.2.2.2⟩
  row:=h.row_next hg fun b a=>⟨(hr b a).1,(hr b a).2.1,(hr b a).2.2.1⟩
  hd:=h.hd_next hg fun b a=>⟨(hr b a).1,(hr b a).2.1⟩
  basW:=fun c=>⟨(h.basW c).1,(h.basW c).2.keep (hg.block _ (h.basW c).2.lt fun a=>(hr _ a.symm).2.2.2.1 c rfl)⟩
  othW:=fun c=>⟨(h.othW c).1,(h.othW c).2.keep (hg.block _ (h.othW c).2.lt fun a=>(hr _ a.symm).2.2.2.2.1 c rfl)⟩}
theorem ExG.next (h:ExG w S lo0 lo g L m n F z bas oth) (c:Below w.heap.size w w'):ExG w' S lo0 lo g L m n F z bas oth:=h.grown (r:=none) (K0 c) fun b a=>by cases a
theorem ExG.line (h:ExG w S lo0 lo g L m n F z bas oth) (d:l<m+2) (a:1<=F9 m n l) (hg:w.grownBy w' (some (L.bk l))) (j:LineQ w' (SN S lo w') (L.bk l) (L.cp l) (F9 m n l) f):
 ExG w' S lo0 lo g L m n (fun k=>if k=l then f else F k) z bas oth:=by
 have i:=h.tab.sep l d a;have e:=h.lS l d a;have hr:∀b,some (L.bk l)=some b->b<lo/\¬S b:=fun b c=>by cases c;exact i
 exact {h with
  tab:=h.tab.upd d a hg j
  row:=h.row_next hg fun b c=>by cases c;exact⟨i.1,i.2,e.2.1⟩
  hd:=h.hd_next hg hr
  basW:=fun a=>⟨(h.basW a).1,(h.basW a).2.keep (hg.block _ (h.basW a).2.lt fun c=>e.2.2.1 a (by injection c with c;exact c.symm))⟩
  othW:=fun a=>⟨(h.othW a).1,(h.othW a).2.keep (hg.block _ (h.othW a).2.lt fun c=>e.2.2.2 a (by injection c with c;exact c.symm))⟩}
theorem ExG.cells (h:ExG w S lo0 lo g L m n F z bas oth) (hg:w.grownBy w' (some g)) {d:Rat}
 (i:∃e k f l,Row w' g 107 (zxy L m n d e k f l)/\
   IsQ w' (SN S lo w') (.agg #[.bool (decide (d.num<0)),.slice e (A9 d.num.natAbs).length k,.slice f (A9 d.den).length l]) d):
 ExG w' S lo0 lo g L m n F d bas oth:=by
 have hr:∀b,some g=some b->b<lo/\¬S b:=fun b c=>by cases c;exact h.gS.2
 exact {h with
  tab:=h.tab.grown hg fun b c=>by cases c;exact⟨h.gS.2.1,h.gS.2.2,fun l j a=>(h.lS l j a).2.1⟩
  row:=i
  hd:=h.hd_next hg hr
  basW:=fun a=>⟨(h.basW a).1,(h.basW a).2.keep (hg.block _ (h.basW a).2.lt fun c=>(h.bS a).2.2.2 (by injection c with c))⟩
  othW:=fun a=>⟨(h.othW a).1,(h.othW a).2.keep (hg.block _ (h.othW a).2.lt fun c=>(h.oS a).2.2.2 (by injection c with c))⟩}
theorem ExG.g_lt (h:ExG w S lo0 lo g L m n F z bas oth):g<w.heap.size:=p h.gS.2.1 h.tab.hlo
theorem ExG.nums (h:ExG w S lo0 lo g L m n F z bas oth) {G:Nat->Nat->Rat} (a:∀l j,l<m+2->j<F9 m n l->F l j=G l j):ExG w S lo0 lo g L m n G z bas oth:={h with tab:=h.tab.same a}
theorem ExG.el (h:ExG w S lo0 lo g L m n F z bas oth) {j:Nat} (i:l<m+2) (p:j<F9 m n l):∃d k e q,L.ha l=some ⟨L.bk l,0,none⟩/\w.cell? ⟨L.bk l,j*3,none⟩=some (.bool (decide ((F l j).num<0)))/\w.cell? ⟨L.bk l,j*3+1,none⟩=some (.slice d (A9 (F l j).num.natAbs).length k)/\w.cell? ⟨L.bk l,j*3+2,none⟩=some (.slice e (A9 (F l j).den).length q)/\
 IsQ w (C3 w) (.agg #[.bool (decide ((F l j).num<0)),.slice d (A9 (F l j).num.natAbs).length k,.slice e (A9 (F l j).den).length q]) (F l j):=by have f:1<=F9 m n l:=og;obtain⟨d,k,e,q,a,b,c,o⟩:=(h.tab.line l i f).el j p;exact⟨d,k,e,q,h.hv l i f,a,b,c,IsQ.stb.to o (F7 h.sn_lt)⟩
theorem ExG.elS (h:ExG w S lo0 lo g L m n F z bas oth) {j:Nat} (i:l<m+2) (p:j<F9 m n l):∃d k e q,L.ha l=some ⟨L.bk l,0,none⟩/\w.cell? ⟨L.bk l,j*3,none⟩=some (.bool (decide ((F l j).num<0)))/\w.cell? ⟨L.bk l,j*3+1,none⟩=some (.slice d (A9 (F l j).num.natAbs).length k)/\w.cell? ⟨L.bk l,j*3+2,none⟩=some (.slice e (A9 (F l j).den).length q)/\
 IsQ w (SN S lo w) (.agg #[.bool (decide ((F l j).num<0)),.slice d (A9 (F l j).num.natAbs).length k,.slice e (A9 (F l j).den).length q]) (F l j):=by have f:1<=F9 m n l:=og;obtain⟨d,k,e,q,a,b,c,o⟩:=(h.tab.line l i f).el j p;exact⟨d,k,e,q,h.hv l i f,a,b,c,o⟩
end
theorem yie {q:Rat} (h:q≠0):mkRat (sg (decide (q.num<0)) q.den) q.num.natAbs=q⁻¹:=by
 have i:q.num.natAbs≠0:=zmr h;have j:q.den≠0:=q.den_nz;obtain⟨s,d⟩:=nm (decide (q.num<0));have f:q.num*sg s q.den=((q.num.natAbs*q.den:Nat):Int):=(by have a:=zwq s s q.num.natAbs q.den;have g:sg s q.num.natAbs=q.num:=(by rw[d];exact zuv _);rw[g] at a;rw[<-a,show(s !=s)=false by cases s<;>rfl,ydu]);have e:q*mkRat (sg s q.den) q.num.natAbs=1:=(by have b:mkRat q.num q.den*mkRat (sg s q.den) q.num.natAbs=mkRat (q.num*sg s q.den) (q.den*q.num.natAbs):=Rat.mkRat_mul_mkRat _ _ _ _;rw[Rat.mkRat_self] at b;rw[b,f];have c:=ycj (i:=1) (d:=1) (k:=q.den*q.num.natAbs) (Nat.mul_ne_zero j i);rw[Int.one_mul,Nat.one_mul] at c;rw[Nat.mul_comm q.num.natAbs];exact c.trans rfl);rw[<-d]
 calc mkRat (sg s q.den) q.num.natAbs=q⁻¹*q*mkRat (sg s q.den) q.num.natAbs:=by rw[Rat.inv_mul_cancel q h,Rat.one_mul]
  _=q⁻¹:=by rw[Rat.mul_assoc,e,Rat.mul_one]
theorem yvc {q:Rat} (h:q≠0):C7 q⁻¹=⟨decide (q.num<0),A9 q.den,A9 q.num.natAbs⟩:=by rw[<-yie h];exact zzh (zmr h) (by rw[Nat.gcd_comm];exact cop q) (fun a=>absurd a q.den_nz)
theorem Sz.inv {q:Rat} {k:Nat} (a:Sz q k) (h:q≠0):Sz q⁻¹ k:=by rw[<-yie h];exact zzu (zmr h) (by rw[zws];exact a.2) a.1
theorem yvd {w:e} {q:Rat} (h:IsQ w (C3 w) v q) (s:Sz q 100000) (p:q≠0):Calls Tryz.prog 129 #[v] w (N8 w q⁻¹):=by
 obtain⟨neg,A,k,B,l,rfl,G,F,E⟩:=G7 h;obtain⟨j,D⟩:=C5 s p;clear h s p;obtain⟨i,U,f,r,y,H⟩:=zko w #[.bool neg,.slice A (A9 q.num.natAbs).length k,.slice B (A9 q.den).length l] #[.bool false,.slice none 0 0,.slice none 0 0] 30 30;obtain⟨I,C,g,a,L⟩:=hd5 (IsK.stb.next F.out f) (IsK.stb.next E.out f) (r) (y) (f);have z:Hid (w.heap.size+2<=i.heap.size):=d (Nat.le_of_eq H.out.symm);clear r y f;obtain⟨M,O,Q⟩:=B9 g.out;obtain⟨X,aa,ad⟩:=B9 a.out;obtain⟨ag,aj,an⟩:=E0 a.out;go_in;go_wp2_with fail;clear U
 go_region_held3 (fun w'=>w'.cell? ⟨w.heap.size,0,none⟩=some (.bool neg)/\w'.cell? ⟨w.heap.size,1,none⟩=some (.slice A (A9 q.num.natAbs).length k)/\w'.cell? ⟨w.heap.size,2,none⟩=some (.slice B (A9 q.den).length l))
  (first
    |exact⟨M,O,Q⟩
    |exact⟨N,P,R⟩
    |exact⟨m,n,o⟩
    |exact⟨T7 m og,T7 n og,T7 o og⟩)
  (first
    |(go_at_call 128;have hc:=zpm (E9 (uK i.drew C)) (u j.out.2 og);(with_reducible refine hc.mono ?_);clear hc;rintro S c ⟨⟨av,rfl,t⟩,T⟩;have J:=d (M6 t (uS i.drew z));obtain⟨V,ar,rfl,_,_,_⟩:=id t;obtain⟨N,P,R⟩:=B9 (uR c g);obtain⟨Y,ab,ae⟩:=B9 (uR c a);obtain⟨ah,ak,ao⟩:=E0 (uR c a))
    |(go_at_call 128;have hc:=zpm (E9 (uK c I)) (u j.out.1 og);(with_reducible refine hc.mono ?_);clear hc;rintro S b ⟨⟨ay,rfl,x⟩,T⟩;have K:=d (M6 x (uS c z));obtain⟨W,au,rfl,_,_,_⟩:=id x;obtain⟨m,n,o⟩:=B9 (uR b g);obtain⟨Z,ac,af⟩:=B9 (uR b a);obtain⟨ai,al,aq⟩:=E0 (uR b a)))
 go_wp2_with fail;refine M7 Tryz.results129 rfl rfl (Row.put3 (uR b a) _ _ _) (zme (by rw[G.out];exact yvc D.out) (uB b L) og (uF b J) K.out og og)
def zmz (m n:Nat) (D:Nat->Nat->Rat):List (List Rat):=(List.range m).map fun i=>G9 n (D i)
theorem zwa (m n:Nat) (D:Nat->Nat->Rat):(zmz m n D).length=m:=by unfold zmz;simp
theorem zvz {m n i:Nat} {D:Nat->Nat->Rat} (h:i<m):(zmz m n D)[i]? =some (G9 n (D i)):=by unfold zmz;rw[a,List.getElem?_range h];rfl
theorem yje {m n:Nat} {D:Nat->Nat->Rat} {r:List Rat} (h:r∈zmz m n D):∃i,i<m/\r=G9 n (D i):=by obtain⟨i,b,a⟩:=List.mem_map.1 h;exact⟨i,List.mem_range.1 b,a.symm⟩
theorem ycg {m n:Nat} {D:Nat->Nat->Rat}:∀r∈zmz m n D,r.length=n:=fun r h=>by
 obtain⟨i,_,rfl⟩:=yje h
 exact T4 _ _
section
variable {D : Nat → Nat → Rat} {m n r c k i j : Nat}
theorem ych (h:∀i j,i<=m->j<=n->Sz (D i j) k):∀r∈zmz m n D,∀q∈r,Sz q k:=fun r hr q a=>by
 obtain⟨i,b,rfl⟩:=yje hr
 obtain⟨j,c,rfl⟩:=zpi a
 exact h i j og og
theorem ydp (h:∀i j,i<=m->j<=n->Sz (D i j) k):∀q∈G9 m (fun i=>D i n),Sz q k:=fun q a=>by
 obtain⟨j,b,rfl⟩:=zpi a
 exact h j n og og
theorem zvl (h:∀i j,i<=m->j<=n->Sz (D i j) k):∀q∈G9 n (fun j=> -(D m j)),Sz q k:=fun q a=>by
 obtain⟨j,b,rfl⟩:=zpi a
 exact(h m j og og).neg
theorem ywo (h:∀i j,i<=m->j<=n->Sz (D i j) k) (d:l<m+2) (a:j<F9 m n l):Sz (Y8 D m n l j) k:=by
 by_cases b:l<m
 ·rw[zvt b];rw[J4 b] at a;exact h l j og og
 ·by_cases c:l=m
  ·subst c;rw[zvs];rw[M9] at a;exact h j n og og
  ·obtain rfl:l=m+1:=og;rw[ycc];rw[U6] at a;exact(h m j og og).neg
def zkh (f g:Nat->Rat) (t:Rat) (c k:Nat):Nat->Rat:=fun j=>if j<k then(if j=c then 0 else f j)-t*g j else if j=c then 0 else f j
theorem zz1375 (f g:Nat->Rat) (t:Rat) (c:Nat):(fun j=>if j=c then 0 else f j)=zkh f g t c 0:=by funext j;unfold zkh;rw[if_neg (Nat.not_lt_zero _)]
theorem zz1373 (f g:Nat->Rat) (t:Rat) (c k j:Nat):(if j=k then zkh f g t c k k-t*g k else zkh f g t c k j)=zkh f g t c (k+1) j:=by
 unfold zkh;by_cases a:j=k
 ·subst a;rw[if_pos rfl,if_neg (Nat.lt_irrefl _),if_pos (A _)]
 ·rw[if_neg a];by_cases h:j<k
  ·rw[if_pos h,if_pos (Nat.lt_succ_of_lt h)]
  ·rw[if_neg h,if_neg (show¬j<k+1 by omega)]
theorem zz1374 {g:Nat->Rat} {a:Nat} (hf:Sz (f k) a) (ha:1<=a):Sz (zkh f g t c k k) a:=by
 unfold zkh;rw[if_neg (Nat.lt_irrefl _)];split
 ·exact Sz.zero.le ha
 ·exact hf
def T8 (D:Nat->Nat->Rat) (r c m n i:Nat):Nat->Nat->Rat:=fun l j=>
 if l<m then(if l=r\/l<i then F0 D r c l j else D l j)
 else if l=m then(if j=r\/j<i then F0 D r c j n else D j n) else -(D m j)
theorem ycy (hc:c<n):F0 D r c r n=D r n*(D r c)⁻¹:=by unfold F0;rw[if_pos rfl,if_neg og];exact Rat.mul_comm _ _
theorem ykn (D:Nat->Nat->Rat) (r c j:Nat):F0 D r c r j=(if j=c then 1 else D r j)*(D r c)⁻¹:=by
 unfold F0;rw[if_pos rfl];split
 ·rw[Rat.one_mul]
 ·exact Rat.mul_comm _ _
theorem zz1352 (hr:r<m) (g:l<m+2):(if l=m then(if j=r then F0 D r c r n else(if m=r then F0 D r c r j else Y8 D m n m j)) else if l=r then F0 D r c r j else Y8 D m n l j)=T8 D r c m n 0 l j:=by
 have f:¬m=r:=og;unfold T8 Y8;rw[if_neg f,if_pos rfl];by_cases d:l<m
 ·have a:¬l=m:=og;have b:¬l=m+1:=og;rw[if_neg a,if_pos d,if_neg a,if_neg b];by_cases e:l=r
  ·subst e;rw[if_pos rfl,if_pos (.inl rfl)]
  ·rw[if_neg e,if_neg (show¬(l=r\/l<0) by omega)]
 ·by_cases a:l=m
  ·subst a;rw[if_pos rfl,if_neg d,if_pos rfl];by_cases b:j=r
   ·subst b;rw[if_pos rfl,if_pos (.inl rfl)]
   ·rw[if_neg b,if_neg (show¬(j=r\/j<0) by omega)]
  ·rw[if_neg a,if_neg d,if_neg a,if_neg a,if_neg (show¬l=r by omega),if_pos (show l=m+1 by omega)]
theorem yzy (l j:Nat):T8 D r c m n r l j=T8 D r c m n (r+1) l j:=by unfold T8;have a:∀x,(x=r\/x<r)↔(x=r\/x<r+1):=fun x=>(by omega);simp only[a]
theorem ylb (a:i<m) (h:i≠r):T8 D r c m n i i j=D i j:=by unfold T8;rw[if_pos a,if_neg og]
theorem ykz (hr:r<m):T8 D r c m n i r j=F0 D r c r j:=by unfold T8;rw[if_pos hr,if_pos (.inl rfl)]
theorem yzx (h:i≠r):T8 D r c m n i m i=D i n:=by unfold T8;rw[if_neg (Nat.lt_irrefl _),if_pos rfl,if_neg (show¬(i=r\/i<i) by omega)]
theorem yla:T8 D r c m n i m r=F0 D r c r n:=by unfold T8;rw[if_neg og,if_pos rfl,if_pos (.inl rfl)]
theorem yky:T8 D r c m n i (m+1) j= -(D m j):=by unfold T8;rw[if_neg og,if_neg og]
theorem yli (h:i≠r) (j:Nat):zkh (D i) (F0 D r c r) (D i c) c (j+1) j=F0 D r c i j:=by
 unfold zkh;rw[if_pos og,ykn];unfold F0;rw[if_neg h];by_cases a:j=c
 ·rw[if_pos a,if_pos a,if_pos a,Rat.one_mul];grind
 ·rw[if_neg a,if_neg a,if_neg a];grind
theorem ylh {g:Nat->Rat} (h:j<k):zkh f g t c k j=zkh f g t c (j+1) j:=by unfold zkh;rw[if_pos h,if_pos (A _)]
theorem zz1378 (hc:c<n) (h:i≠r):D i n-D i c*F0 D r c r n=F0 D r c i n:=by rw[ycy hc];unfold F0;rw[if_neg h,if_neg og];grind
theorem yzz (f:i<m) (g:i≠r) (hc:c<n) (h:j<F9 m n l):
 (if l=i then zkh (D i) (F0 D r c r) (D i c) c n j else if l=m then(if j=i then D i n-D i c*F0 D r c r n else T8 D r c m n i m j) else T8 D r c m n i l j)=T8 D r c m n (i+1) l j:=by
 by_cases e:l=i
 ·subst e;rw[if_pos rfl];rw[J4 f] at h;rw[ylh h,yli g];unfold T8;rw[if_pos f,if_pos og]
 ·rw[if_neg e];by_cases d:l=m
  ·subst d;rw[if_pos rfl];by_cases a:j=i
   ·subst a;rw[if_pos rfl,zz1378 hc g];unfold T8;rw[if_neg og,if_pos rfl,if_pos og]
   ·rw[if_neg a];unfold T8;rw[if_neg (Nat.lt_irrefl _),if_pos rfl,if_neg (Nat.lt_irrefl _),if_pos rfl];by_cases b:j=r\/j<i
    ·rw[if_pos b,if_pos (show j=r\/j<i+1 by omega)]
    ·rw[if_neg b,if_neg (show¬(j=r\/j<i+1) by omega)]
  ·rw[if_neg d];unfold T8;by_cases a:l<m
   ·rw[if_pos a,if_pos a];by_cases b:l=r\/l<i
    ·rw[if_pos b,if_pos (show l=r\/l<i+1 by omega)]
    ·rw[if_neg b,if_neg (show¬(l=r\/l<i+1) by omega)]
   ·rw[if_neg a,if_neg a,if_neg d,if_neg d]
theorem yzw (hr:r<m) (f:l<m+2) (d:j<F9 m n l):
 (if l=m+1 then zkh (fun j=> -(D m j)) (F0 D r c r) (-(D m c)) c n j else T8 D r c m n m l j)=Y8 (F0 D r c) m n l j:=by
 unfold Y8;by_cases b:l=m+1
 ·subst b;rw[U6] at d;rw[if_pos rfl,if_neg (show¬m+1=m by omega),if_pos rfl,ylh d];have h:=yli (D:=D) (r:=r) (c:=c) (i:=m) og j;rw[<-h];unfold zkh;rw[if_pos (A _),if_pos (A _)];by_cases a:j=c
  ·rw[if_pos a,if_pos a];grind
  ·rw[if_neg a,if_neg a];grind
 ·rw[if_neg b,if_neg b];unfold T8;by_cases e:l=m
  ·subst e;rw[M9] at d;rw[if_neg og,if_pos rfl,if_pos rfl,if_pos og]
  ·rw[if_pos og,if_pos og,if_neg e]
theorem zz1459 (hr:r<m) (hc:c<n):D m n+ -(D m c)*F0 D r c r n=F0 D r c m n:=by rw[ycy hc];unfold F0;rw[if_neg og,if_neg og];grind
def zlu (D:Nat->Nat->Rat) (r c m n k:Nat):Nat->Nat->Rat:=fun l j=>if l=r then(if j<k then F0 D r c r j else if j=c then 1 else D r j) else Y8 D m n l j
theorem ysu (hr:r<m) (l j:Nat):(if l=r then(fun i=>if i=c then 1 else Y8 D m n r i) else Y8 D m n l) j=zlu D r c m n 0 l j:=by
 unfold zlu;by_cases h:l=r
 ·rw[if_pos h,if_pos h,if_neg (Nat.not_lt_zero _),zvt hr]
 ·rw[if_neg h,if_neg h]
theorem ysr:zlu D r c m n j r j=if j=c then 1 else D r j:=by unfold zlu;rw[if_pos rfl,if_neg (Nat.lt_irrefl _)]
theorem yst (l j:Nat):(if l=r then(fun i=>if i=k then F0 D r c r k else zlu D r c m n k r i) else zlu D r c m n k l) j=zlu D r c m n (k+1) l j:=by
 by_cases h:l=r
 ·rw[if_pos h];unfold zlu;rw[if_pos rfl,if_pos h];by_cases b:j=k
  ·subst b;rw[if_pos rfl,if_pos (A _)]
  ·rw[if_neg b];by_cases a:j<k
   ·rw[if_pos a,if_pos (Nat.lt_succ_of_lt a)]
   ·rw[if_neg a,if_neg (show¬j<k+1 by omega)]
 ·rw[if_neg h];unfold zlu;rw[if_neg h,if_neg h]
theorem ygx (hr:r<m):zlu D r c m n k m j=D j n:=by unfold zlu;rw[if_neg (show¬m=r by omega)];exact zvs _ _ _ _
theorem yss (hr:r<m) (d:l<m+2) (b:j<F9 m n l):(if l=m then(fun i=>if i=r then F0 D r c r n else zlu D r c m n n m i) else zlu D r c m n n l) j=T8 D r c m n 0 l j:=by
 rw[<-zz1352 hr d];by_cases h:l=m
 ·rw[if_pos h,if_pos h];by_cases a:j=r
  ·rw[if_pos a,if_pos a]
  ·rw[if_neg a,if_neg a,if_neg (show¬m=r by omega),ygx hr,zvs]
 ·rw[if_neg h,if_neg h];unfold zlu;by_cases a:l=r
  ·subst a;rw[J4 hr] at b;rw[if_pos rfl,if_pos rfl,if_pos b]
  ·rw[if_neg a,if_neg a]
theorem zwe (e:D r c≠0) (f:1<=k) (hr:r<m) (hc:c<n) (h:∀i j,i<=m->j<=n->Sz (D i j) k):∀i j,i<=m->j<=n->Sz (F0 D r c i j) (4*k+1):=by
 intro i j b d;have a:=(h r c og og).inv e;unfold F0;split
 ·split
  ·exact a.le og
  ·exact(a.mul (h r j og d)).le og
 ·split
  ·exact(a.mul (h i c b og)).neg.le og
  ·exact((h i j b d).sub ((a.mul (h i c b og)).mul (h r j og d))).le og
end
def zof (bas oth:List Nat) (D:Nat->Nat->Rat):Dic:=⟨fun i=>bas.getD i 0,fun j=>oth.getD j 0,D⟩
structure DicOK (m n:Nat) (bas oth:List Nat):Prop where
 lb:bas.length=m
 lo:oth.length=n
 lt:∀x∈bas++oth,x<m+n
 nd:(bas++oth).Nodup
section
variable {m n r c : Nat} {bas oth : List Nat} {D : Nat → Nat → Rat}
theorem DicOK.dist (h:DicOK m n bas oth) (D:Nat->Nat->Rat):Dist m n (zof bas oth D):=by
 have e:=h.lb;have f:=h.lo;have b:=List.nodup_append.1 h.nd
 exact⟨fun i j c d a=>zqj b.1 og og a,fun i j c d a=>zqj b.2.1 og og a,
  fun i j c d a=>b.2.2 _ (zlw (l:=bas) og) _ (zlw (l:=oth) og) a⟩
theorem zyd {l:List Nat} {i k v:Nat} (h:i<l.length):(l.set i v).getD k 0=if k=i then v else l.getD k 0:=by
 rw[s,List.getElem?_set];by_cases a:k=i
 ·subst a;rw[if_pos rfl,if_pos h,if_pos rfl];rfl
 ·rw[if_neg (Ne.symm a),if_neg a,s]
theorem ygg (h:DicOK m n bas oth) (hr:r<m) (hc:c<n) (D:Nat->Nat->Rat):zof (bas.set r (oth.getD c 0)) (oth.set c (bas.getD r 0)) (F0 D r c)=zkj (zof bas oth D) r c:=by unfold zof zkj N5;simp only[Dic.mk.injEq,and_true];exact⟨funext fun k=>zyd (by rw[h.lb];exact hr),funext fun k=>zyd (by rw[h.lo];exact hc)⟩
theorem DicOK.piv (h:DicOK m n bas oth) (hr:r<m) (hc:c<n):DicOK m n (bas.set r (oth.getD c 0)) (oth.set c (bas.getD r 0)):=by have hD:=(h.dist fun _ _=>0).piv hr hc;rw[<-ygg h hr hc] at hD;have lb:(bas.set r (oth.getD c 0)).length=m:=(by rw[List.length_set];exact h.lb);have lo:(oth.set c (bas.getD r 0)).length=n:=(by rw[List.length_set];exact h.lo);refine⟨lb,lo,fun v hv=>h.lt v (yds (by rw[h.lb];exact hr) (by rw[h.lo];exact hc) v hv),?_⟩;rw[List.nodup_append];exact⟨zun fun i j e f d=>hD.bb i j og og d,zun fun i j e f d=>hD.oo i j og og d,fun a ha b l d=>by obtain⟨i,e,rfl⟩:=List.getElem_of_mem ha;obtain⟨j,f,rfl⟩:=List.getElem_of_mem l;refine hD.bo i j og og ?_;show(bas.set r (oth.getD c 0)).getD i 0=(oth.set c (bas.getD r 0)).getD j 0;have g:(bas.set r (oth.getD c 0)).getD i 0=(bas.set r (oth.getD c 0))[i]:=(by rw[s,B e];rfl);have k:(oth.set c (bas.getD r 0)).getD j 0=(oth.set c (bas.getD r 0))[j]:=(by rw[s,B f];rfl);rw[g,k,d]⟩
theorem yps (h:DicOK m n bas oth) (hr:r<m) (hc:c<n):(bas.set r (oth.getD c 0)).set r ((oth.set c (bas.getD r 0)).getD c 0)=bas/\(oth.set c (bas.getD r 0)).set c ((bas.set r (oth.getD c 0)).getD r 0)=oth:=by have b:(oth.set c (bas.getD r 0)).getD c 0=bas.getD r 0:=(by rw[zyd (by rw[h.lo];exact hc),if_pos rfl]);have d:(bas.set r (oth.getD c 0)).getD r 0=oth.getD c 0:=(by rw[zyd (by rw[h.lb];exact hr),if_pos rfl]);rw[b,d,List.set_set,List.set_set];have k:∀(l:List Nat) (i:Nat),i<l.length->l.set i (l.getD i 0)=l:=fun l i a=>(by rw[s,B a];exact List.set_getElem_self a);exact⟨k _ _ (by rw[h.lb];exact hr),k _ _ (by rw[h.lo];exact hc)⟩
end
theorem hpE {w:e} {S:e->Prop} (j:Nat) (h:Hid (∀a:e,Below w.heap.size w a->S a)) (r:NeL V S):Hid (∀a:e,Below w.heap.size w a->∀x y z,S (L7 a V j x y z)):=fun a c x y z=>r (fun a=>L7 a V j x y z) (fun b d v a n h=>yvi h n) a (h.out a c)
theorem LineQ.mono {w:e} {S:Nat->Prop} {c m:Nat} (h:LineQ w S b c m f) (a:∀x,S x->T x):LineQ w T b c m f:=h.keep rfl fun x d=>⟨a x d,rfl⟩
theorem LineQ.grow {w w':e} {S:Nat->Prop} {lo c m:Nat} (h:LineQ w (SN S lo w) b c m f) (i:∀x,S x->x<w.heap.size) (d:Below w.heap.size w w'):LineQ w' (SN S lo w') b c m f:=
 h.keep (d.block _ h.lt) fun x g=>⟨zmt d.size x g,d.block x (by rcases g with a|a;exact i x a;exact a.2)⟩
def zsn:Nat:=0
theorem Bru.grown {w w':e} {r:Option Nat} (h:Bru w) (hg:w.grownBy w' r) (hr:∀b,r=some b->zsn≠b):Bru w':=
 ⟨p h.1 hg.size,fun i c=>(q (hg.block zsn h.1 fun a=>hr _ a.symm rfl)).trans (h.2 i c)⟩
theorem ylj {w:e} {C ai B m c:Nat} {g:Nat->Rat} {bP:Value} (ab:LineQ w T V C m f) (aa:LineQ w T ai B m g) (bu:ai≠V) (bt:∀b,T b->b<w.heap.size/\b≠V) (al:IsQ w T bP t) (bp:Bru w) (bq:zsn≠V)
 (cW:m<=100) (hc:c<m) (bM:∀j,j<m->Sz (f j) 20000) (sg:∀j,j<m->Sz (g j) 20000) (st:Sz t 20000):
 Calls Tryz.prog 132 #[.slice (some ⟨V,0,none⟩) m C,.slice (some ⟨ai,0,none⟩) m B,bP,.int .i64 (c:Int)] w fun v w'=>v= .returned (.tuple #[])/\w.grownBy w' (some V)/\LineQ w' (SN T w.heap.size w') V C m (zkh f g t c m):=by
 obtain⟨U,b1,D,ad,b0,bZ,cg,ch⟩:=hd8 ab aa bt bu bp bq bM sg;have ST:=d st;obtain⟨P,k,Q,l,rfl⟩:=zrq al;obtain⟨cA,bI⟩:=nm (decide (t.num<0));obtain⟨cB,bJ⟩:=nm ((A9 t.num.natAbs).length);obtain⟨cC,bK⟩:=nm ((A9 t.den).length);rw[<-bI,<-bJ,<-bK] at al⊢;have b4:=d al;have M:=d ab.lt;have b7:=d aa.lt;have cO:=ab.cap.1;have cP:C<=9223372036854775807:=(by have:=ab.cap.2;unfold maxLen at this;omega);have cQ:=aa.cap.1;have cR:B<=9223372036854775807:=(by have:=aa.cap.2;unfold maxLen at this;omega);have cM:(0:Int)<=(c:Int):=og;have cN:(c:Int)<(m:Int):=og;have a2:=d hc;have cK:=T3;obtain⟨c7,cn,bv,bL,-⟩:=J5 w #[.bool cA,.slice P cB k,.slice Q cC l] 30;obtain⟨a9,B0⟩:=C5 bL bv;clear ab aa bt bu bp bq bM sg st al bI bJ bK bL bv hc;go_in;go_wp2_with fail;clear cn;refine(zsl _).mono ?_;obtain⟨z,aT⟩:=nm (0:Rat);rw[<-aT];rintro v E ⟨⟨aV,rfl,an⟩,aK⟩;have a5:=d aT;obtain⟨ag,az,ae,aB,rfl⟩:=zrq an;obtain⟨aW,aQ⟩:=nm (decide (z.num<0));obtain⟨aX,aR⟩:=nm ((A9 z.num.natAbs).length);obtain⟨aY,aS⟩:=nm ((A9 z.den).length);have J:=d (o aQ (o aR aS));rw[<-aQ,<-aR,<-aS] at an⊢;have G:=nB B0 aK;have cf:=d (a9.out.next aK);obtain⟨_,_,_,_,u0,u1,u2,_⟩:=U.out.el c a2.out;have bN:w.frozen? ⟨V,c*3,none⟩=false:=U.out.free;have aV:w.frozen? ⟨V,c*3+1,none⟩=false:=U.out.free;have bO:w.frozen? ⟨V,c*3+2,none⟩=false:=U.out.free;have bQ:=C0 G.out u0;have bR:=C0 G.out u1;have bT:=C0 G.out u2;have cx:=I8 G.out u0 bN;have cy:=I8 G.out u1 aV;have cz:=I8 G.out u2 bO;have a6:Hid (LineQ E (SN T w.heap.size E) V C m f):=(U.out.mono (T:=SN T w.heap.size w) fun x i=> .inl i).grow (fun x i=>(D.out x i).1) G.out;have bx:IsQ E (SN T w.heap.size E) (.agg #[.bool aW,.slice ag aX az,.slice ae aY aB]) z:=IsQ.stb.to an (F7 fun b n=> .inr ⟨u B0.out.size n.1,n.2⟩);have a8:=d bx;clear aT an aK aQ aR aS u0 u1 u2 bN aV bO bx a9;go_wp2_with fail;clear bQ bR bT cx cy cz
 have aJ:∀b,SN T w.heap.size E b->b≠V:=fun b n v=>by
  rcases n with n|n
  ·exact(D.out b n).2 v
  ·have:=M.out;have:=n.1;omega
 have cD:=d aJ;have aj:=a6.out.put aJ a2.out (z:=z) (P:=ag) (k:=az) (Q:=ae) (l:=aB) (by rw[<-J.out.1,<-J.out.2.1,<-J.out.2.2];exact a8.out);rw[<-J.out.1,<-J.out.2.1,<-J.out.2.2] at aj;have H:SN T w.heap.size (L7 E V c (.bool aW) (.slice ag aX az) (.slice ae aY aB))=SN T w.heap.size E:=(by unfold SN;rw[zom]);rw[<-H,a5.out,zz1375 f g t c] at aj;obtain⟨aD,aq⟩:=nm (((E.setCell ⟨V,c*3,none⟩ (.bool aW)).setCell ⟨V,c*3+1,none⟩ (.slice ag aX az)).setCell ⟨V,c*3+2,none⟩ (.slice ae aY aB));have b8:Hid (LineQ aD (SN T w.heap.size aD) V C m (zkh f g t c 0)):=(by rw[Hid,aq];exact aj);have bV:Hid (E.grownBy aD (some V)):=(by rw[Hid,aq];exact zmk (I7 E _));rw[<-aq];clear aq aj H aJ a6 a8 J a5;go_loopw [15,8] (fun aU _ wr=>∃j:Nat,j<=m/\aU= .int .i64 (j:Int)/\aD.grownBy wr (some V)/\Hid (LineQ wr (SN T w.heap.size wr) V C m (zkh f g t c j))) (fun aU _ _=>m-(intOf aU).toNat);case atStart=>exact⟨0,Nat.zero_le _,rfl,I7 _ _,b8.out⟩
 case round=>
  obtain⟨j,cT,rfl,aL,bw⟩:=hrel;have bY:=d aL;have N:=d bw.out;have a1:=d (J7 bV.out aL);have F:=d (J7 (K0 G.out) a1.out);clear aL bw;rcases Nat.lt_or_ge j m with O|cS
  ·have a7:LineQ wr T ai B m g:=b1.out.keep (F.out.block _ b7.out fun v=>ad.out (by cases v;rfl)) fun x i=>⟨i,F.out.block _ (D.out x i).1 fun v=>(D.out x i).2 (by cases v;rfl)⟩;have a3:K6 T (C3 wr) w wr:=fun b n=>⟨p (D.out b n).1 F.out.size,fun c3=>q (F.out.block b (D.out b n).1 fun v=>(D.out b n).2 (by cases v;rfl))⟩;have cb:=d (IsQ.stb.to b4.out a3);have bd:=cf.out.grownN a1.out fun b v=>(by cases v;exact Nat.ne_of_gt M.out);obtain⟨cH,cX,cE,c0,Y,Z,H,eq⟩:=N.out.el j O;obtain⟨cI,cY,cF,c1,au,av,ay,R⟩:=a7.el j O;obtain⟨y,ar⟩:=nm (zkh f g t c j j);rw[<-ar] at Y Z H eq;have cj:Hid (Sz y 20000):=(by rw[Hid,ar];exact zz1374 (cg.out j O) og);obtain⟨x,i⟩:=nm (g j);rw[<-i] at au av ay R;have be:Hid (Sz x 20000):=(by rw[Hid,i];exact ch.out j O);obtain⟨s,aP⟩:=nm (t*x);obtain⟨r,hr⟩:=nm (y-s);have aG:=d (o aP hr);have b5:Hid (r=zkh f g t c j j-t*g j):=(by rw[Hid,hr,aP,ar,i]);obtain⟨bQ,bF⟩:=nm (decide (y.num<0));obtain⟨bR,bG⟩:=nm ((A9 y.num.natAbs).length);obtain⟨bT,bH⟩:=nm ((A9 y.den).length);obtain⟨c8,bC⟩:=nm (decide (x.num<0));obtain⟨c9,bD⟩:=nm ((A9 x.num.natAbs).length);obtain⟨da,bE⟩:=nm ((A9 x.den).length);rw[<-bF] at Y eq;rw[<-bG] at Z eq;rw[<-bH] at H eq;rw[<-bC] at au R;rw[<-bD] at av R;rw[<-bE] at ay R
   have a4:Hid (∀b,SN T w.heap.size wr b->C3 wr b):=fun b n=>by
    rcases n with h|h
    ·exact p (D.out b h).1 F.out.size
    ·exact h.2
   obtain⟨cd,cc⟩:=C5 (IsQ.stb.to eq (F7 (T:=C3 wr) a4.out)) (IsQ.stb.to R (F7 (T:=C3 wr) fun b n=>a4.out b (.inl n)));have bj:wr.frozen? ⟨V,j*3,none⟩=false:=N.out.free;have bm:wr.frozen? ⟨V,j*3+1,none⟩=false:=N.out.free;have bn:wr.frozen? ⟨V,j*3+2,none⟩=false:=N.out.free;obtain⟨bf,bg,bh⟩:=B9 bd;have W:=zmx bf bg bh au av ay;have b3:=hpE j W (nA (Nat.ne_of_gt M.out) (nA (Nat.ne_of_gt M.out) (nA (Nat.ne_of_gt M.out) (nA ad.out (nA ad.out (nZ ad.out))))));have ac:=zkr Y Z H;obtain⟨aE,K⟩:=C5 (o bj (o bm bn)) (o Y (o Z H));have cU:(0:Int)<=(j:Int):=og;have cV:(j:Int)<(m:Int):=og;have aH:=d O;have a0:Hid (Bru wr):=b0.out.grown F.out fun b v=>(by cases v;exact bZ.out);clear ar i aP hr bF bG bH bC bD bE eq R a3 bd a7 bf bg bh au av ay Y Z H bj bm bn O;go_wp2_with fail;refine wp_region_noPanic ?_;refine zsa [14] (SH.mk _ W).s (SH.mk _ ac).s kr (W.out _ bel) (ac.out _ bel) (fun aI br=> ?_);refine pB 0 18 ?_;refine pB 1 19 ?_;refine pB 2 20 ?_;refine pB 3 21 ?_;refine pB 4 22 ?_;refine pA 5 23 ?_;refine pB 6 24 ?_;refine pB 7 25 ?_;refine pB 8 26 ?_;refine pB 9 27 ?_;refine pB 10 28 ?_;refine zpd (i:=11) kr rfl rfl fun X I=> ?_;go_simp;go_at_call 131;(with_reducible refine Calls.mono (zwx (uQ _ cb) (uQ _ cc) (uU _ a0) (ST.out.le og) (be.out.le og) aG.out.1) ?_)
   rintro v cw ⟨⟨c5,rfl,bB⟩,cL⟩;have ck:=d (IsQ.stb.old bB);obtain⟨c4,cJ,cZ,cG,c2,rfl,_,_,_⟩:=G7 bB;have aZ:=bW wr cw;(focus go_wp2_with fail)
   refine I.out _ _ (W.out _ bel) (ac.out _ bel) fun aI br=> ?_;clear I X;refine sP ?_;refine zpd (i:=12) kr rfl rfl fun X I=> ?_;go_simp;go_at_call 102;(with_reducible refine Calls.mono (yjg (uQ _ cd) (uQ _ ck) (uU _ a0) (cj.out.le og) (by have:=ST.out.mul be.out;rw[<-aG.out.1] at this;exact this.le og) aG.out.2) ?_)
   rintro v S ⟨⟨c6,rfl,ao⟩,cm⟩;obtain⟨ah,aA,af,aC,rfl⟩:=zrq ao;obtain⟨r0,aM⟩:=nm (decide (r.num<0));obtain⟨r1,aN⟩:=nm ((A9 r.num.natAbs).length);obtain⟨r2,aO⟩:=nm ((A9 r.den).length);rw[<-aM,<-aN,<-aO] at ao⊢;obtain⟨L,cl⟩:=C5 (o aM (o aN aO)) ao;have A:=nB aZ cm;have bU:=d aZ.out.size;clear aM aN aO ao;(focus go_wp2_with fail)
   refine I.out _ _ (W.out _ A.out) (ac.out _ A.out) fun aI br=> ?_;clear I X;refine sP ?_;refine pB 13 31 ?_;have cq:=C0 A.out K.out.1;have cr:=C0 A.out K.out.2.1;have cs:=C0 A.out K.out.2.2;have ct:=I8 A.out K.out.1 aE.out.1;have cu:=I8 A.out K.out.2.1 aE.out.2.1;have cv:=I8 A.out K.out.2.2 aE.out.2.2;refine ztf (i:=14) kr rfl rfl rfl rfl fun X I=> ?_;go_simp;refine I.out _ _ (b3.out _ A.out _ _ _) fun aI=> ?_;clear I X cq cr cs ct cu cv;refine sP ?_;refine zrj kr ?_ _;refine NoPanic.normal ?_;have ca:=d (N.out.grow (fun x i=>p (D.out x i).1 F.out.size) A.out);have bA:IsQ S (SN T w.heap.size S) (.agg #[.bool (decide (r.num<0)),.slice ah (A9 r.num.natAbs).length aA,.slice af (A9 r.den).length aC]) r:=by rw[<-L.out.1,<-L.out.2.1,<-L.out.2.2];exact IsQ.stb.to cl.out (F7 fun b n=> .inr ⟨u F.out.size (u bU.out n.1),n.2⟩)
   have ak:=ca.out.put (fun x i v=>by
    rcases i with i|i
    ·exact(D.out x i).2 v
    ·have:=M.out;have:=i.1;omega) aH.out bA
   rw[<-L.out.1,<-L.out.2.1,<-L.out.2.2] at ak;have bi:SN T w.heap.size (L7 S V j (.bool r0) (.slice ah r1 aA) (.slice af r2 aC))=SN T w.heap.size S:=(by unfold SN;rw[zom]);rw[<-bi] at ak;have b9:Hid (LineQ (L7 S V j (.bool r0) (.slice ah r1 aA) (.slice af r2 aC)) (SN T w.heap.size (L7 S V j (.bool r0) (.slice ah r1 aA) (.slice af r2 aC))) V C m (zkh f g t c (j+1))):=ak.same fun a _=>(by rw[b5.out];exact zz1373 f g t c j a);have bX:=d (J7 bY.out (K0 A.out));clear bA ak bi;go_wp2_with fail;go_roundw;(case rel=>exact⟨j+1,aH.out,by go_num,zmk bX.out,b9.out⟩);case measure=>simp[intOf];have:=aH.out;omega
  ·obtain rfl:j=m:=og;go_wp2_with fail;refine bodyPost_end (results_none rfl _ _ _) rfl ?_;exact⟨rfl,F.out,N.out⟩
end Go.Proofs.YtlhhbccgfkhflaaGreatDoor
