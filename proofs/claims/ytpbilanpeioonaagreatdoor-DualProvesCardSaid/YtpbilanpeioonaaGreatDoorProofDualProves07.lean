/-
 Words for package simplex's tables in memory:lines of whole numbers and lists of ints that are changed in place,b table behind a search.
-/
import Derived.Test.YtpbilanpeioonaaGreatDoorProofDualProves06
import Derived.BigRegion
namespace Go.Proofs.YtpbilanpeioonaaGreatDoor
open Go.RowKit
set_option linter.unusedVariables false
set_option maxRecDepth 100000
set_option maxHeartbeats 8000000
open _root_.Go.Lib renaming hid → s
open _root_.Nat renaming le_refl → v, le_trans → B, lt_of_lt_of_le → C, lt_or_ge → D, zero_le → G
open _root_.And renaming intro → h
open _root_.Go renaming World → a, Value → E, Addr → y
variable {f : Nat → Int} {i j k l o u : Nat} {key : Nat → Nat} {p : Nat → Prop} {r : Option Nat}
theorem LineW.same {w:a} {S:Nat->Prop} {b c m:Nat} {g:Nat->Int} (h:LineW w S b c m f) (e:∀j,j<m->f j=g j):LineW w S b c m g:=
 ⟨h.blk,h.cap,fun j d=>by rw[<-e j d];exact h.el j d⟩
theorem LineW.lt {w:a} {S:Nat->Prop} {b c m:Nat} (h:LineW w S b c m f):b<w.heap.size:=by obtain⟨e,d⟩:=h.blk;exact(Array.getElem?_eq_some_iff.1 d).1
theorem LineW.free {w:a} {S:Nat->Prop} {b c m:Nat} (h:LineW w S b c m f):w.frozen? ⟨b,o,none⟩=false:=by obtain⟨e,d⟩:=h.blk;simp[World.frozen?,d]
theorem zxy {w:a} {b:Nat} {c:Array E} {t:TypeId} {u:E} (h:w.heap[b]? =some (.cells c t (0,0))):∃e,(w.setCell ⟨b,o,none⟩ u).heap[b]? =some (.cells e t (0,0)):=by have d:=(Array.getElem?_eq_some_iff.1 h).1;have f:w.heap[b]= .cells c t (0,0):=(by have:=Array.getElem?_eq_getElem d;rw[h] at this;exact(Option.some.inj this).symm);refine⟨c.setIfInBounds o u,?_⟩;simp[World.setCell,d,Array.getElem_modify,f]
theorem LineW.put {w:a} {S:Nat->Prop} {b c m:Nat} (h:LineW w S b c m f) (J:∀x,S x->x≠b) (O:j<m) {z:Int} {e g:Option y}
 (K:IsQ w S (.agg #[.bool (decide (z<0)),.slice e (A9 z.natAbs).length k,.slice g (A9 1).length l]) ((z:Int):Rat)):
 LineW (T4 w b j (.bool (decide (z<0))) (.slice e (A9 z.natAbs).length k) (.slice g (A9 1).length l)) S b c m (fun i=>if i=j then z else f i) where
 blk:=by
  obtain⟨N,n⟩:=h.blk
  obtain⟨L,D⟩:=zxy (o:=j*3) (u:= .bool (decide (z<0))) n
  obtain⟨M,E⟩:=zxy (o:=j*3+1) (u:= .slice e (A9 z.natAbs).length k) D
  exact zxy (o:=j*3+2) (u:= .slice g (A9 1).length l) E
 cap:=h.cap
 el i hi:=by
  have v:L8 S S w (T4 w b j (.bool (decide (z<0))) (.slice e (A9 z.natAbs).length k) (.slice g (A9 1).length l)):=fun x A=>⟨A,fun o=>zqo (.inl (J x A))⟩;by_cases n:i=j
  ·subst n;simp only[if_pos];obtain⟨t,B,u,C,p,q,r,_⟩:=h.el i hi;obtain⟨F,G,H⟩:=ymt (x:= .bool (decide (z<0))) (y:= .slice e (A9 z.natAbs).length k) (z:= .slice g (A9 1).length l) p q r;exact⟨e,k,g,l,F,G,H,IsQ.stb.to K v⟩
  ·simp only[if_neg n];obtain⟨t,B,u,C,p,q,r,I⟩:=h.el i hi;have s:∀d,d<3->i*3+d<j*3\/j*3+3<=i*3+d:=fun d hd=>(by omega);exact⟨t,B,u,C,(zqo (.inr (s 0 og))).trans p,(zqo (.inr (s 1 og))).trans q,(zqo (.inr (s 2 og))).trans r,IsQ.stb.to I v⟩
structure IntW (w:a) (b len:Nat) (f:Nat->Nat):Prop where
 blk:∃cur,w.heap[b]? =some (.cells cur 3 (0,0))
 el:∀i,i<len->w.cell? ⟨b,i,none⟩=some (.int .i64 ((f i:Nat):Int))
theorem IntW.lt {w:a} {b len:Nat} {f:Nat->Nat} (h:IntW w b len f):b<w.heap.size:=by obtain⟨d,c⟩:=h.blk;exact(Array.getElem?_eq_some_iff.1 c).1
theorem IntW.free {w:a} {b len:Nat} {f:Nat->Nat} (h:IntW w b len f):w.frozen? ⟨b,o,none⟩=false:=by obtain⟨d,c⟩:=h.blk;simp[World.frozen?,c]
theorem IntW.keep {w w':a} {b len:Nat} {f:Nat->Nat} (h:IntW w b len f) (c:w'.heap[b]? =w.heap[b]?):IntW w' b len f:=
 ⟨by rw[c];exact h.blk,fun i d=>(World.cell?_of_block c).trans (h.el i d)⟩
theorem IntW.same {w:a} {b len:Nat} {f g:Nat->Nat} (h:IntW w b len f) (d:∀i,i<len->f i=g i):IntW w b len g:=⟨h.blk,fun i c=>by rw[<-d i c];exact h.el i c⟩
theorem IntW.put {w:a} {b len:Nat} {f:Nat->Nat} (h:IntW w b len f) (n:i<len) (e:Nat):IntW (w.setCell ⟨b,i,none⟩ (.int .i64 (e:Int))) b len (U1 f i e) where
 blk:=by obtain⟨l,c⟩:=h.blk;exact zxy c
 el k d:=by
  by_cases c:k=i
  ·subst c;rw[zoy];exact World.cell?_setCell_same _ _ _ (h.el k d)
  ·rw[zoz _ _ c,World.cell?_setCell_other _ _ _ _ (fun g=>by injection g with m j;exact c j.symm)];exact h.el k d
structure TabW (w:a) (S:Nat->Prop) (lo:Nat) (bk cp:Nat->Nat) (N:Nat) (len:Nat->Nat) (F:Nat->Nat->Int):Prop where
 line:∀l,l<N->1<=len l->LineW w (SN S lo w) (bk l) (cp l) (len l) (F l)
 inj:∀l k,l<N->k<N->1<=len l->1<=len k->bk l=bk k->l=k
 sep:∀l,l<N->1<=len l->bk l<lo/\¬S (bk l)
 sS:∀b,S b->b<lo
 hlo:lo<=w.heap.size
section
variable {w w' : a} {S : Nat → Prop} {lo N : Nat} {bk cp len : Nat → Nat} {F : Nat → Nat → Int}
theorem TabW.same {a:Nat->Nat->Int} (h:TabW w S lo bk cp N len F) (c:∀l j,l<N->j<len l->F l j=a l j):TabW w S lo bk cp N len a:=
 ⟨fun l b d=>(h.line l b d).same fun j e=>c l j b e,h.inj,h.sep,h.sS,h.hlo⟩
theorem zsn {S:Nat->Prop} {lo:Nat} {w w':a} (d:w.heap.size<=w'.heap.size):∀b,SN S lo w b->SN S lo w' b:=fun b c=>by
 rcases c with h|h
 ·exact .inl h
 ·exact .inr ⟨h.1,C h.2 d⟩
theorem TabW.grown (h:TabW w S lo bk cp N len F) (c:w.grownBy w' r) (hr:∀b,r=some b->b<lo/\¬S b/\∀l,l<N->1<=len l->bk l≠b):TabW w' S lo bk cp N len F where
 line l f e:=by
  refine(h.line l f e).keep (c.block _ (h.line l f e).lt fun d=>(hr _ d.symm).2.2 l f e rfl) fun x a=>⟨zsn c.size x a,c.block _ ?_ fun d=> ?_⟩
  ·rcases a with a|a
   ·exact C (h.sS x a) h.hlo
   ·exact a.2
  ·have:=hr _ d.symm
   rcases a with a|a
   ·exact this.2.1 a
   ·have:=a.1;omega
 inj:=h.inj;sep:=h.sep;sS:=h.sS;hlo:=B h.hlo c.size
theorem TabW.upd (h:TabW w S lo bk cp N len F) (j:l<N) (i:1<=len l) (c:w.grownBy w' (some (bk l))) (n:LineW w' (SN S lo w') (bk l) (cp l) (len l) f):
 TabW w' S lo bk cp N len (fun k=>if k=l then f else F k) where
 line k g e:=by
  by_cases d:k=l
  ·subst d;simp only[if_pos];exact n
  ·simp only[if_neg d]
   refine(h.line k g e).keep (c.block _ (h.line k g e).lt fun b=>d (h.inj _ _ g j e i (by injection b))) fun x a=>⟨zsn c.size x a,c.block _ ?_ fun b=> ?_⟩
   ·rcases a with a|a
    ·exact C (h.sS x a) h.hlo
    ·exact a.2
   ·have m:=h.sep l j i
    injection b with b
    rcases a with a|a
    ·exact m.2 (by rw[<-b];exact a)
    ·have:=a.1;omega
 inj:=h.inj;sep:=h.sep;sS:=h.sS;hlo:=B h.hlo c.size
end
structure Lay where
 bk:Nat->Nat
 cp:Nat->Nat
 ha:Nat->Option y
 r0:Nat
 rc:Nat
 ra:Option y
 bb:Nat
 bc:Nat
 ba:Option y
 ob:Nat
 oc:Nat
 oa:Option y
 sb:Nat
 sp:Nat
 sa:Option y
def M7 (m n l:Nat):Nat:=if l=m then m else n
def zkj (t:TB) (m n l j:Nat):Int:=if l=m then t.A j n else if l=m+1 then -(t.A m j) else t.A l j
theorem K8 {m n:Nat} (h:i<m):M7 m n i=n:=if_neg og
theorem Z7 (m n:Nat):M7 m n m=m:=if_pos rfl
theorem zkl (m n:Nat):M7 m n (m+1)=n:=if_neg og
theorem zsa {t:TB} {m n:Nat} (h:i<m):zkj t m n i j=t.A i j:=by unfold zkj;rw[if_neg og,if_neg og]
theorem yeb (t:TB) (m n j:Nat):zkj t m n (m+1) j= -(t.A m j):=by unfold zkj;rw[if_neg og,if_pos rfl]
theorem zvr (t:TB) (m n j:Nat):zkj t m n m j=t.A j n:=if_pos rfl
def zxx (L:Lay) (m n:Nat) (z:Int) (d top:Nat) (a:Option y) (k:Nat) (b:Option y) (l:Nat) (D:Option y) (f:Nat) (c:Option y) (g:Nat) (st e steps:Int):List E:=
 [.slice L.ba m L.bc,.slice L.oa n L.oc,.slice L.ra m L.rc,.slice (L.ha m) m (L.cp m),.slice (L.ha (m+1)) n (L.cp (m+1)),.bool (decide (z<0)),.slice a (A9 z.natAbs).length k,.slice b (A9 1).length l,.slice D (A9 d).length f,.slice L.sa (m+n) L.sp,.slice c (A9 top).length g,.int .i64 st,.int .i64 e,.int .i64 steps]
structure SchG (w:a) (S:Nat->Prop) (lo0 lo g:Nat) (L:Lay) (m n:Nat) (sc:Nat->Nat) (top:Nat) (F:Nat->Nat->Int) (z:Int) (d:Nat) (bas oth:List Nat) (st e steps:Int):Prop where
 tab:TabW w S lo L.bk L.cp (m+2) (M7 m n) F
 hv:∀l,l<m+2->1<=M7 m n l->L.ha l=some ⟨L.bk l,0,none⟩
 cap:∀l,l<m+2->M7 m n l<=L.cp l/\L.cp l<=maxLen
 row:∃P k Q l D cd T ct,Row w g 99 (zxx L m n z d top P k Q l D cd T ct st e steps)/\
  IsQ w (SN S lo w) (.agg #[.bool (decide (z<0)),.slice P (A9 z.natAbs).length k,.slice Q (A9 1).length l]) ((z:Int):Rat)/\NumS w (SN S lo w) (.slice D (A9 d).length cd) d/\NumS w (SN S lo w) (.slice T (A9 top).length ct) top
 hd:∀i,i<m->L.ra=some ⟨L.r0,0,none⟩/\S L.r0/\w.cell? ⟨L.r0,i,none⟩=some (.slice (L.ha i) n (L.cp i))
 caps:m<=L.rc/\L.rc<=maxLen/\m<=L.bc/\L.bc<=maxLen/\n<=L.oc/\L.oc<=maxLen/\m+n<=L.sp/\L.sp<=maxLen
 basW:1<=m->L.ba=some ⟨L.bb,0,none⟩/\IntW w L.bb m (fun i=>bas.getD i 0)
 othW:1<=n->L.oa=some ⟨L.ob,0,none⟩/\IntW w L.ob n (fun j=>oth.getD j 0)
 scl:∀v,v∈bas++oth->L.sa=some ⟨L.sb,0,none⟩/\S L.sb/\∃P k,w.cell? ⟨L.sb,v,none⟩=some (.slice P (A9 (sc v)).length k)/\NumS w S (.slice P (A9 (sc v)).length k) (sc v)
 gS:lo0<=g/\g<lo/\¬S g
 bS:1<=m->lo0<=L.bb/\L.bb<lo/\¬S L.bb/\L.bb≠g
 oS:1<=n->lo0<=L.ob/\L.ob<lo/\¬S L.ob/\L.ob≠g
 bo:1<=m->1<=n->L.bb≠L.ob
 lS:∀l,l<m+2->1<=M7 m n l->lo0<=L.bk l/\L.bk l≠g/\(1<=m->L.bk l≠L.bb)/\(1<=n->L.bk l≠L.ob)
 len:bas.length=m/\oth.length=n
abbrev U8 (w:a) (S:Nat->Prop) (lo0 lo g:Nat) (L:Lay) (m n:Nat) (sc:Nat->Nat) (top:Nat) (t:TB) (st e steps:Int):Prop:=SchG w S lo0 lo g L m n sc top (zkj t m n) (t.A m n) t.d t.bas t.oth st e steps
section
variable {w w' : a} {S : Nat → Prop} {lo0 lo g m n top : Nat} {L : Lay} {sc : Nat → Nat} {F : Nat → Nat → Int} {z : Int} {d : Nat} {bas oth : List Nat} {st e steps : Int}
theorem SchG.open (h:SchG w S lo0 lo g L m n sc top F z d bas oth st e steps):∃b k c l D i f j,(Row w g 99 (zxx L m n z d top b k c l D i f j st e steps)/\
 IsQ w (SN S lo w) (.agg #[.bool (decide (z<0)),.slice b (A9 z.natAbs).length k,.slice c (A9 1).length l]) ((z:Int):Rat)/\NumS w (SN S lo w) (.slice D (A9 d).length i) d/\NumS w (SN S lo w) (.slice f (A9 top).length j) top)/\
 (w.cell? ⟨g,0,none⟩=some (.slice L.ba m L.bc)/\w.cell? ⟨g,1,none⟩=some (.slice L.oa n L.oc)/\w.cell? ⟨g,2,none⟩=some (.slice L.ra m L.rc)/\w.cell? ⟨g,3,none⟩=some (.slice (L.ha m) m (L.cp m))/\w.cell? ⟨g,4,none⟩=some (.slice (L.ha (m+1)) n (L.cp (m+1))))/\
 (w.cell? ⟨g,5,none⟩=some (.bool (decide (z<0)))/\w.cell? ⟨g,6,none⟩=some (.slice b (A9 z.natAbs).length k)/\w.cell? ⟨g,7,none⟩=some (.slice c (A9 1).length l))/\
 (w.cell? ⟨g,8,none⟩=some (.slice D (A9 d).length i)/\w.cell? ⟨g,9,none⟩=some (.slice L.sa (m+n) L.sp)/\w.cell? ⟨g,10,none⟩=some (.slice f (A9 top).length j))/\
 (w.cell? ⟨g,11,none⟩=some (.int .i64 st)/\w.cell? ⟨g,12,none⟩=some (.int .i64 e)/\w.cell? ⟨g,13,none⟩=some (.int .i64 steps)):=by obtain⟨b,k,c,l,D,i,f,j,a,o,p,q⟩:=h.row;exact⟨b,k,c,l,D,i,f,j,⟨a,o,p,q⟩,⟨a.cell 0,a.cell 1,a.cell 2,a.cell 3,a.cell 4⟩,⟨a.cell 5,a.cell 6,a.cell 7⟩,⟨a.cell 8,a.cell 9,a.cell 10⟩,a.cell 11,a.cell 12,a.cell 13⟩
theorem SchG.sn_lt (h:SchG w S lo0 lo g L m n sc top F z d bas oth st e steps):∀b,SN S lo w b->b<w.heap.size:=fun b c=>by
 rcases c with a|a
 ·exact C (h.tab.sS b a) h.tab.hlo
 ·exact a.2
theorem SchG.same (h:SchG w S lo0 lo g L m n sc top F z d bas oth st e steps) (c:w.grownBy w' r) (hr:∀b,r=some b->b<lo/\¬S b):L8 (SN S lo w) (SN S lo w') w w':=fun b a=>⟨zsn c.size b a,fun o=>World.cell?_of_block (c.block b (h.sn_lt b a) fun f=>by
 have:=hr b f.symm
 rcases a with a|a
 ·exact this.2 a
 ·have:=a.1;omega)⟩
theorem SchG.hd_next (h:SchG w S lo0 lo g L m n sc top F z d bas oth st e steps) (j:w.grownBy w' r) (hr:∀b,r=some b->b<lo/\¬S b):∀i,i<m->L.ra=some ⟨L.r0,0,none⟩/\S L.r0/\w'.cell? ⟨L.r0,i,none⟩=some (.slice (L.ha i) n (L.cp i)):=fun i k=>by
 obtain⟨c,a,f⟩:=h.hd i k
 exact⟨c,a,((h.same j hr _ (.inl a)).2 _).trans f⟩
theorem SchG.scl_next (h:SchG w S lo0 lo g L m n sc top F z d bas oth st e steps) (j:w.grownBy w' r) (hr:∀b,r=some b->b<lo/\¬S b):∀a,a∈bas++oth->L.sa=some ⟨L.sb,0,none⟩/\S L.sb/\∃c k,w'.cell? ⟨L.sb,a,none⟩=some (.slice c (A9 (sc a)).length k)/\NumS w' S (.slice c (A9 (sc a)).length k) (sc a):=fun a hv=>by
 obtain⟨l,f,c,k,o,p⟩:=h.scl a hv
 exact⟨l,f,c,k,((h.same j hr _ (.inl f)).2 _).trans o,IsK.stb.to p fun b i=>⟨i,(h.same j hr b (.inl i)).2⟩⟩
theorem SchG.row_next (h:SchG w S lo0 lo g L m n sc top F z d bas oth st e steps) (q:w.grownBy w' r) (hr:∀b,r=some b->b<lo/\¬S b/\b≠g):∃a k c l D i f j,Row w' g 99 (zxx L m n z d top a k c l D i f j st e steps)/\
 IsQ w' (SN S lo w') (.agg #[.bool (decide (z<0)),.slice a (A9 z.natAbs).length k,.slice c (A9 1).length l]) ((z:Int):Rat)/\NumS w' (SN S lo w') (.slice D (A9 d).length i) d/\NumS w' (SN S lo w') (.slice f (A9 top).length j) top:=by obtain⟨a,k,c,l,D,i,f,j,s,t,u,v⟩:=h.row;have p:=h.same q fun b o=>⟨(hr b o).1,(hr b o).2.1⟩;exact⟨a,k,c,l,D,i,f,j,s.grownN q fun b o=>Ne.symm (hr b o).2.2,IsQ.stb.to t p,IsK.stb.to u p,IsK.stb.to v p⟩
theorem SchG.grown (h:SchG w S lo0 lo g L m n sc top F z d bas oth st e steps) (f:w.grownBy w' r) (hr:∀b,r=some b->b<lo/\¬S b/\b≠g/\(1<=m->b≠L.bb)/\(1<=n->b≠L.ob)/\∀l,l<m+2->1<=M7 m n l->L.bk l≠b):
 SchG w' S lo0 lo g L m n sc top F z d bas oth st e steps:=
 {h with
  tab:=h.tab.grown f fun b a=>⟨(hr b a).1,(hr b a).2.1,(hr b a).2.2.2.2.2⟩
  row:=h.row_next f fun b a=>⟨(hr b a).1,(hr b a).2.1,(hr b a).2.2.1⟩
  hd:=h.hd_next f fun b a=>⟨(hr b a).1,(hr b a).2.1⟩
  basW:=fun c=>⟨(h.basW c).1,(h.basW c).2.keep (f.block _ (h.basW c).2.lt fun a=>(hr _ a.symm).2.2.2.1 c rfl)⟩
  othW:=fun c=>⟨(h.othW c).1,(h.othW c).2.keep (f.block _ (h.othW c).2.lt fun a=>(hr _ a.symm).2.2.2.2.1 c rfl)⟩
  scl:=h.scl_next f fun b a=>⟨(hr b a).1,(hr b a).2.1⟩}
theorem SchG.next (h:SchG w S lo0 lo g L m n sc top F z d bas oth st e steps) (c:Below w.heap.size w w'):SchG w' S lo0 lo g L m n sc top F z d bas oth st e steps:=h.grown (r:=none) (K7 c) fun b a=>by cases a
theorem SchG.line (h:SchG w S lo0 lo g L m n sc top F z d bas oth st e steps) (j:l<m+2) (a:1<=M7 m n l) (i:w.grownBy w' (some (L.bk l))) (q:LineW w' (SN S lo w') (L.bk l) (L.cp l) (M7 m n l) f):
 SchG w' S lo0 lo g L m n sc top (fun k=>if k=l then f else F k) z d bas oth st e steps:=by
 have p:=h.tab.sep l j a;have o:=h.lS l j a;have hr:∀b,some (L.bk l)=some b->b<lo/\¬S b:=fun b c=>by cases c;exact p
 exact {h with
  tab:=h.tab.upd j a i q
  row:=h.row_next i fun b c=>by cases c;exact⟨p.1,p.2,o.2.1⟩
  hd:=h.hd_next i hr
  basW:=fun a=>⟨(h.basW a).1,(h.basW a).2.keep (i.block _ (h.basW a).2.lt fun c=>o.2.2.1 a (by injection c with c;exact c.symm))⟩
  othW:=fun a=>⟨(h.othW a).1,(h.othW a).2.keep (i.block _ (h.othW a).2.lt fun c=>o.2.2.2 a (by injection c with c;exact c.symm))⟩
  scl:=h.scl_next i hr}
theorem SchG.cells (h:SchG w S lo0 lo g L m n sc top F z d bas oth st e steps) (f:w.grownBy w' (some g)) {i:Int} {j:Nat} {u s v:Int}
 (x:∃o k p l D r q t,Row w' g 99 (zxx L m n i j top o k p l D r q t u s v)/\
   IsQ w' (SN S lo w') (.agg #[.bool (decide (i<0)),.slice o (A9 i.natAbs).length k,.slice p (A9 1).length l]) ((i:Int):Rat)/\NumS w' (SN S lo w') (.slice D (A9 j).length r) j/\NumS w' (SN S lo w') (.slice q (A9 top).length t) top):
 SchG w' S lo0 lo g L m n sc top F i j bas oth u s v:=by
 have hr:∀b,some g=some b->b<lo/\¬S b:=fun b c=>by cases c;exact h.gS.2
 exact {h with
  tab:=h.tab.grown f fun b c=>by cases c;exact⟨h.gS.2.1,h.gS.2.2,fun l y a=>(h.lS l y a).2.1⟩
  row:=x
  hd:=h.hd_next f hr
  basW:=fun a=>⟨(h.basW a).1,(h.basW a).2.keep (f.block _ (h.basW a).2.lt fun c=>(h.bS a).2.2.2 (by injection c with c))⟩
  othW:=fun a=>⟨(h.othW a).1,(h.othW a).2.keep (f.block _ (h.othW a).2.lt fun c=>(h.oS a).2.2.2 (by injection c with c))⟩
  scl:=h.scl_next f hr}
theorem SchG.g_lt (h:SchG w S lo0 lo g L m n sc top F z d bas oth st e steps):g<w.heap.size:=C h.gS.2.1 h.tab.hlo
theorem SchG.nums (h:SchG w S lo0 lo g L m n sc top F z d bas oth st e steps) {G:Nat->Nat->Int} (a:∀l j,l<m+2->j<M7 m n l->F l j=G l j):SchG w S lo0 lo g L m n sc top G z d bas oth st e steps:={h with tab:=h.tab.same a}
theorem SchG.el (h:SchG w S lo0 lo g L m n sc top F z d bas oth st e steps) (p:l<m+2) (s:j<M7 m n l):∃f k i q,L.ha l=some ⟨L.bk l,0,none⟩/\w.cell? ⟨L.bk l,j*3,none⟩=some (.bool (decide (F l j<0)))/\w.cell? ⟨L.bk l,j*3+1,none⟩=some (.slice f (A9 (F l j).natAbs).length k)/\w.cell? ⟨L.bk l,j*3+2,none⟩=some (.slice i (A9 1).length q)/\
 IsQ w (C6 w) (.agg #[.bool (decide (F l j<0)),.slice f (A9 (F l j).natAbs).length k,.slice i (A9 1).length q]) ((F l j:Int):Rat):=by have o:1<=M7 m n l:=og;obtain⟨f,k,i,q,a,b,c,r⟩:=(h.tab.line l p o).el j s;exact⟨f,k,i,q,h.hv l p o,a,b,c,IsQ.stb.to r (G6 h.sn_lt)⟩
theorem SchG.elS (h:SchG w S lo0 lo g L m n sc top F z d bas oth st e steps) (p:l<m+2) (s:j<M7 m n l):∃f k i q,L.ha l=some ⟨L.bk l,0,none⟩/\w.cell? ⟨L.bk l,j*3,none⟩=some (.bool (decide (F l j<0)))/\w.cell? ⟨L.bk l,j*3+1,none⟩=some (.slice f (A9 (F l j).natAbs).length k)/\w.cell? ⟨L.bk l,j*3+2,none⟩=some (.slice i (A9 1).length q)/\
 IsQ w (SN S lo w) (.agg #[.bool (decide (F l j<0)),.slice f (A9 (F l j).natAbs).length k,.slice i (A9 1).length q]) ((F l j:Int):Rat):=by have o:1<=M7 m n l:=og;obtain⟨f,k,i,q,a,b,c,r⟩:=(h.tab.line l p o).el j s;exact⟨f,k,i,q,h.hv l p o,a,b,c,r⟩
end
def Q7:Option Nat->Int
 |none=> -1
 |some k=>(k:Int)
theorem zyj (p:Nat->Bool) (key:Nat->Nat) (k:Nat):X9 p key (k+1)=match X9 p key k with
 |none=>if p k then some k else none
 |some b=>if p k&&decide (key k<key b) then some k else some b:=rfl
theorem yen {p:Nat->Bool} (h:p k=false):Q7 (X9 p key (k+1))=Q7 (X9 p key k):=by rw[zyj,h];cases X9 p key k<;>rfl
theorem yem {p:Nat->Bool} (h:p k=true) (a:X9 p key k=none):Q7 (X9 p key (k+1))=(k:Int):=by rw[zyj,h,a];rfl
theorem yel {p:Nat->Bool} {b:Nat} (h:p k=true) (a:X9 p key k=some b) (c:key k<key b):Q7 (X9 p key (k+1))=(k:Int):=by rw[zyj,h,a];show Q7 (if true&&decide (key k<key b) then some k else some b)=_;rw[decide_eq_true c];rfl
theorem yeo {p:Nat->Bool} {b:Nat} (h:p k=true) (a:X9 p key k=some b) (c:¬key k<key b):Q7 (X9 p key (k+1))=(b:Int):=by rw[zyj,h,a];show Q7 (if true&&decide (key k<key b) then some k else some b)=_;rw[decide_eq_false c];rfl
def J5 (z:Int) (u d a:Nat):Rat:=((z:Rat)*((u:Nat):Rat))/(((d:Nat):Rat)*((a:Nat):Rat))
theorem ylr {z:Int} {d a:Nat}:J5 z u d a=mkRat (sg (decide (z<0)) (z.natAbs*u)) (d*a):=by
 have b:sg (decide (z<0)) (z.natAbs*u)=z*(u:Int):=by
  rcases Int.lt_or_le z 0 with h|h
  ·rw[decide_eq_true h];unfold sg;have:((z.natAbs:Nat):Int)= -z:=og;simp only[if_true,Int.natCast_mul,this];rw[Int.neg_mul,Int.neg_neg]
  ·rw[decide_eq_false og];unfold sg;have:((z.natAbs:Nat):Int)=z:=og;simp[this]
 rw[b,Rat.mkRat_eq_div,Rat.intCast_mul];unfold J5;congr 1;exact(Rat.natCast_mul d a).symm
theorem zup {w:a} {g d dn:Nat} {z:Int} {vx ar aq:E} {D:Option y} {aa:Nat} (n:w.cell? ⟨g,8,none⟩=some (.slice D (A9 d).length aa)) (hD:NumS w (C6 w) (.slice D (A9 d).length aa) d) (N:IsQ w (C6 w) vx ((z:Int):Rat)) (L:NumS w (C6 w) ar u) (hv:NumS w (C6 w) aq dn) (ag:Bru w)
 (ac:(A9 z.natAbs).length<=100000) (ad:(A9 u).length<=100000) (ae:(A9 d).length<=100000) (af:(A9 dn).length<=100000) (H:0<d) (I:0<dn):
 Calls Tryz.prog 137 #[.pointer (some ⟨g,0,none⟩),vx,ar,aq] w (L5 w (J5 z u d dn)):=by
 obtain⟨T,aL,V,W,aJ,m⟩:=hd6 hD N L hv ag (h ac (h ad (h ae (h af (h H I)))));obtain⟨aN,k,aO,l,rfl⟩:=zlp N;obtain⟨A,a8,rfl,aV⟩:=zuk (F7 L);obtain⟨C,a9,rfl,aW⟩:=zuk (F7 hv);have t:=s (zku aL.out);rw[Rat.num_intCast] at t;obtain⟨r,o⟩:=nm (decide (z<0));obtain⟨a1,O⟩:=nm ((A9 z.natAbs).length);obtain⟨a2,an⟩:=nm ((A9 1).length);obtain⟨u1,M⟩:=nm ((A9 u).length);obtain⟨be,ai⟩:=nm ((A9 d).length);obtain⟨bm,J⟩:=nm ((A9 dn).length);rw[<-o,<-O,<-an,<-M,<-J];rw[<-O] at t;rw[<-M] at V;rw[<-ai] at T n;rw[<-J] at W;have a3:=s o;obtain⟨q,K⟩:=nm (J5 z u d dn);rw[<-K];have U:Hid (q=mkRat (sg r (z.natAbs*u)) (d*dn)):=(by rw[Hid,K,o];exact ylr);have f:Hid ((A9 (z.natAbs*u)).length<=1000000/\(A9 (d*dn)).length<=1000000/\d*dn≠0):=(by refine⟨B (zzt _ _) og,B (zzt _ _) og,?_⟩;have:=Nat.mul_pos H I;omega);clear hD N L hv ag ac ad ae af H I o O an M ai J aV aW K;have bd:=U0;obtain⟨e,aX,c,ao,p,X⟩:=zkn w #[.bool r,.slice aN a1 k,.slice aO a2 l] #[.bool false,.slice none 0 0,.slice none 0 0] 37 37;obtain⟨B0,aP⟩:=C7 c p;have aM:=s X.out;obtain⟨aQ,aR,b2⟩:=C4 ao;obtain⟨az,aA,aB⟩:=C4 p;obtain⟨au,av,ay⟩:=F6 p;have aS:=C0 c n;obtain⟨aI,aG,aE,aH⟩:=U2 (IsK.stb.next t.out c) (IsK.stb.next V.out c) (IsK.stb.next T.out c) (IsK.stb.next W.out c);have S:=nU aJ c;obtain⟨i,G⟩:=C7 (h az (h aA aB)) (h au (h av ay));have aU:Hid (g<w.heap.size):=World.block_lt_of_cell? w _ n;clear c ao p X n az aA aB au av ay;go_in;go_wp2_with fail;clear aX;have x:=zmk aQ aR aS;have aC:=s fun F (j:Below e.heap.size e F)=>zni (F7 (IsK.stb.next aI.out j)) (F7 (IsK.stb.next aG.out j)) (v _) (v _) (B m.out.1 og) (B m.out.2.1 og);have aD:=s fun F (j:Below e.heap.size e F)=>zni (F7 (IsK.stb.next aE.out j)) (F7 (IsK.stb.next aH.out j)) (v _) (v _) (B m.out.2.2.1 og) (B m.out.2.2.2.1 og);have P:w.heap.size≠(w.heap.size+1):=og;have aK:=hp3 x (nA P (nA P (nZ (oh aU))));clear P
 go_region_held3 (SH.mk _ x).s
  (first|exact x.out _ bel|exact aK.out _ bel _ _ _)
  (first
    |(go_at_call 169;(with_reducible refine Calls.mono (aC.out _ bel) ?_);rintro ab aY ⟨⟨bv,rfl,aj⟩,ah⟩;have Q:=bW e aY;have Y:=s (zuj aj);obtain⟨a5,bg,rfl,_,_,_⟩:=id aj)
    |(go_at_call 169;(with_reducible refine Calls.mono (aD.out _ bel) ?_);rintro ab aZ ⟨⟨bw,rfl,ak⟩,aT⟩;have R:=bW e aZ;have Z:=s (zuj ak);obtain⟨a6,bh,rfl,_,_,_⟩:=id ak)
    |(go_at_call 179;(first|(with_reducible refine Calls.mono (ymy (q:=q) r (F7 (IsK.stb.next Y.out aT)) (F7 Z.out) (Bru.next S.out R.out) f.out.1 f.out.2.1 f.out.2.2 U.out) ?_)|(with_reducible refine Calls.mono (ymy (q:=q) r (F7 Y.out) (F7 (IsK.stb.next Z.out ah)) (Bru.next S.out Q.out) f.out.1 f.out.2.1 f.out.2.2 U.out) ?_));rintro ab a0 ⟨⟨bx,rfl,al⟩,bf⟩;have b:=bW e a0;obtain⟨bq,a7,bi,a4,bj,rfl,_,_,_⟩:=G4 al;have br:=C0 b.out i.out.1;have bt:=C0 b.out i.out.2.1;have bu:=C0 b.out i.out.2.2;have s0:=J8 b.out i.out.1 G.out.1;have bn:=J8 b.out i.out.2.1 G.out.2.1;have bp:=J8 b.out i.out.2.2 G.out.2.2))
 all_goals
  go_wp2_with fail
  refine T6 Tryz.results137 rfl rfl (Row.put3 (aP.out.next b.out) _ _ _) (zlu (lo:=e.heap.size) (IsQ.stb.le al (by first|exact(by have:=R.out.size;have:=ah.size;simp at*;omega)|exact(by have:=Q.out.size;simp at*;omega))) (C8 B0.out b.out) og (oh aM))
def zrp (w w':a) (c:E) (l:List Rat):Prop:=∃S:Nat->Prop,OwnS 3 37 IsR w' w.heap.size S c (C5 l)/\∀b,S b->w.heap.size<=b
theorem zz1418 (j:Nat):C5 (List.replicate (j+1) (0:Rat))=C5 (List.replicate j 0)++[E9 0]:=by unfold C5;rw[List.replicate_succ',List.map_append];rfl
theorem ybn (w:a) {n:Nat} (R:n<=1000):
 Calls Tryz.prog 180 #[.int .i64 (n:Int)] w fun q w'=>(∃B,q= .returned B/\zrp w w' B (List.replicate n 0))/\Below w.heap.size w w':=by
 have O:=U0;go_in;go_wp2_with (at_make;refine zwl zlf rfl _ _ rfl IsR n rfl rfl rfl og (base:=w.heap.size) (S:=fun _=>False) (v _) (fun b h=>h.elim) ?_;intro X Z z t T);obtain⟨E,C⟩:=C7 z t;clear z t;go_loopw [7,3] (fun l out wr=>∃(j:Nat) (c:Nat->Prop),j<=n/\l= .int .i64 (j:Int)/\Below w.heap.size w wr/\OwnS 3 37 IsR wr w.heap.size c out (C5 (List.replicate j 0))/\Hid (∀b,c b->w.heap.size<=b)) (fun l _ _=>n-(intOf l).toNat);case atStart=>exact⟨0,fun _=>False,G _,rfl,C.out,E.out,fun b h=>h.elim⟩
 case round=>
  obtain⟨j,c,P,rfl,x,y,r⟩:=hrel;obtain⟨f,p⟩:=C7 x y;clear x y;rcases D j n with i|i
  ·have o:=s i;clear i;have Q:=o.out;go_wp2_with fail;refine(zro wr).mono ?_;rintro q d ⟨⟨L,rfl,k⟩,g⟩;obtain⟨M,V,N,W,rfl⟩:=zlp (show IsQ d (I8 wr.heap.size d) L (((0:Int)):Rat) from k);have J:=OwnS.step IsR.stb (T:=fun b=>c b\/(wr.heap.size<=b/\b<d.heap.size)) p.out g (fun b h=> .inl h) (fun b h=>h);have I:=IsQ.stb.to k (G6 (T:=fun b=>c b\/(wr.heap.size<=b/\b<d.heap.size)) fun b h=> .inr h);have m:=nB f g;have H:w.heap.size<=d.heap.size:=m.out.size;have S:=f.out.size;clear g k;go_wp2_with (at_builtin;refine zqb zlf rfl _ _ rfl IsR.stb rfl rfl rfl J I rfl (by intro u A;simp[Value.cells] at A;rcases A with rfl|rfl|rfl<;>rfl) (by rw[show(C5 (List.replicate j (0:Rat))).length=j by simp[C5]];omega) H ?_;intro Y aa K F U);go_roundw;(case rel=>exact⟨j+1,fun b=>c b\/(wr.heap.size<=b/\b<d.heap.size),o.out,by go_num,m.out.trans F,by rw[zz1418];exact K,fun b e=>by rcases e with e|e;exact r.out b e;omega⟩);case measure=>simp[intOf];omega
  ·obtain rfl:j=n:=og;go_wp2_with fail;go_ret;exact⟨⟨_,rfl,c,p.out,r.out⟩,f.out⟩
def zrh (l:List Rat) (N:Nat) (j:Nat):Int:=(l.getD j 0).num*((N/(l.getD j 0).den:Nat):Int)
theorem yla {w:a} {ak an:E} {l:List Rat} {N m:Nat} (h:IsV w (C6 w) ak (C5 l)) (t:IsN w 0 w.heap.size an N) (y:l.length=m) (a9:m<=1000) (ag:∀q∈l,Sz q 100000) (W:(A9 N).length<=1000000) (hd:∀q∈l,0<N/q.den):
 Calls Tryz.prog 175 #[ak,an] w fun S w'=>(∃al,S= .returned al/\zrp w w' al (ints m (zrh l N)))/\Below w.heap.size w w':=by
 obtain⟨p,ay,av,ar,aq,L⟩:=hd6 h ag y hd W (zuj t);obtain⟨A,c,rfl,aT⟩:=K3 h;obtain⟨C,a2,rfl,_,_,_⟩:=id t;obtain⟨bi,ac⟩:=nm ((A9 N).length);have el:(C5 l).length=m:=(by simp[C5,y]);rw[el] at p aT⊢;rw[<-ac] at L⊢;obtain⟨aY,r,a4,f,aO,ab,_⟩:=id p.out;simp only[Value.slice.injEq] at f;obtain⟨-,-,rfl⟩:=f;have a5:c<=9223372036854775807:=(by unfold maxLen at ab;omega);rw[el] at aO;clear h t y ag W hd el ac ab;have a3:=U0;go_in;go_wp2_with (at_make;refine zwl zlf rfl _ _ rfl IsR m rfl rfl rfl og (base:=w.heap.size) (S:=fun _=>False) (v _) (fun b h=>h.elim) ?_;intro bm bq ae Y be);obtain⟨aA,ao⟩:=C7 ae Y;clear ae Y;go_loopw [13,5,7] (fun H out _ wr=>∃(j:Nat) (d:Nat->Prop),j<=m/\H= .int .i64 (j:Int)/\Below w.heap.size w wr/\OwnS 3 37 IsR wr w.heap.size d out (C5 (ints j (zrh l N)))/\Hid (∀b,d b->w.heap.size<=b)) (fun H _ _ _=>m-(intOf H).toNat);case atStart=>exact⟨0,fun _=>False,G _,rfl,ao.out,aA.out,fun b h=>h.elim⟩
 case round=>
  obtain⟨j,d,a6,rfl,aa,ad,X⟩:=hrel;obtain⟨g,P⟩:=C7 aa ad;clear aa ad;rcases D j m with e|e
  ·obtain⟨x,f,af⟩:=zrl (l:=l) (j:=j) (by rw[av.out];exact e);obtain⟨a1,bj,aE,aG,aH,aI,rfl,_,i,Q,r,R⟩:=znt (IsV.stb.to p.out (E0 g.out)) af;obtain⟨aJ,T⟩:=nm ((E9 x).neg);obtain⟨aK,U⟩:=nm ((E9 x).num.length);obtain⟨aL,V⟩:=nm ((E9 x).den.length);rw[<-T] at Q i;rw[<-U] at r i;rw[<-V] at R i;obtain⟨aB,O⟩:=C7 (zqj i) (List.mem_of_getElem? f);have aj:zrh l N j=x.num*((N/x.den:Nat):Int):=(by unfold zrh;rw[List.getD_eq_getElem?_getD,f];rfl);have az:=s aj;have a7:(0:Int)<=(j:Int):=og;have a8:(j:Int)<(m:Int):=og;obtain⟨bt,aS,n,rx,aU⟩:=J7 wr #[.bool aJ,.slice aE aK aG,.slice aH aL aI] 37;have J:=s n;have aC:=nQ aB n;have aD:=s (F7 (IsK.stb.next (IsK.stb.next L.out g.out) n));obtain⟨aV,aW,aX⟩:=C4 rx;have au:=s e;obtain⟨z,ai⟩:=nm (x.num*((N/x.den:Nat):Int));have M:=s ai;clear f af i T U V rx aU n e ai aj;go_wp2_with fail;clear aS Q r R;refine(ydy aC.out aD.out (ay.out x O.out) aq.out (ar.out x O.out)).mono ?_;rw[<-M.out];rintro S o ⟨⟨bn,rfl,F⟩,Z⟩;obtain⟨aZ,bg,a0,bh,rfl⟩:=zlp F;have I:=nB J Z;have aQ:=OwnS.step IsR.stb (T:=fun b=>d b\/(wr.heap.size<=b/\b<o.heap.size)) P.out I.out (fun b h=> .inl h) (fun b h=>h);have aP:=IsQ.stb.to F (G6 (T:=fun b=>d b\/(wr.heap.size<=b/\b<o.heap.size)) fun b h=> .inr ⟨B J.out.size h.1,h.2⟩);have K:=s (C8 g.out I.out);have aN:w.heap.size<=o.heap.size:=K.out.size;have bd:=g.out.size;have e:=au.out;clear Z F aV aW aX;go_wp2_with (at_builtin;refine zqb zlf rfl _ _ rfl IsR.stb rfl rfl rfl aQ aP rfl (by intro u ah;simp[Value.cells] at ah;rcases ah with rfl|rfl|rfl<;>rfl) (by rw[show(C5 (ints j (zrh l N))).length=j by simp[C5,zta]];omega) aN ?_;intro bp br aR aM bf);go_roundw;(case rel=>refine⟨j+1,fun b=>d b\/(wr.heap.size<=b/\b<o.heap.size),e,by go_num,K.out.trans aM,?_,fun b k=>by rcases k with k|k;exact X.out b k;omega⟩;rw[ykd,C5,List.map_append,az.out,<-M.out];exact aR);case measure=>simp[intOf];omega
  ·obtain rfl:j=m:=og;go_wp2_with fail;go_ret;exact⟨⟨_,rfl,d,P.out,X.out⟩,g.out⟩
theorem yxl:∀k,p k->∃k,p k/\∀j,p j->k<=j:=by
 intro k;induction k using Nat.strongRecOn with
 |ind k ih=>
  intro h;by_cases b:∃j,j<k/\p j
  ·obtain⟨j,a,d⟩:=b;exact ih j a d
  ·exact⟨k,h,fun j a=>Nat.le_of_not_lt fun c=>b ⟨j,c,a⟩⟩
noncomputable def leastN (p:Nat->Prop):Nat:=open Classical in if h:∃k,p k/\∀j,p j->k<=j then Classical.choose h else 0
theorem zzp (h:p k):p (leastN p)/\leastN p<=k:=by have a:=yxl k h;unfold leastN;rw[dif_pos a];have:=Classical.choose_spec a;exact⟨this.1,this.2 k h⟩
noncomputable def leftO {b:Type} (f:b->Option b) (a:b):Nat:=leastN fun k=>f (T8 f k a)=none
theorem ykx {d:Type} {f:d->Option d} {a b:d} (h:zyh f a) (e:f a=some b):zyh f b/\leftO f b<leftO f a:=by have key:∀k,f (T8 f (k+1) a)=f (T8 f k b):=fun k=>(by rw[ydq e]);obtain⟨m,i⟩:=h;have c:=(zzp (p:=fun k=>f (T8 f k a)=none) i).1;have l:leftO f a≠0:=fun g=>(by have c:f (T8 f (leftO f a) a)=none:=c;rw[g] at c;have:f a=none:=c;rw[e] at this;cases this);obtain⟨k,j⟩:∃k,leftO f a=k+1:=⟨leftO f a-1,by omega⟩;have c:f (T8 f (leftO f a) a)=none:=c;rw[j,key] at c;refine⟨⟨k,c⟩,?_⟩;have:=(zzp (p:=fun k=>f (T8 f k b)=none) c).2;show leastN _<_;omega
noncomputable def leastM {a:Type} (b:a->Prop) (c:a->Nat):Nat:=leastN fun k=>∃s,b s/\c s=k
theorem yku {a:Type} {J:a->Prop} {μ:a->Nat} {s:a} (h:J s):leastM J μ<=μ s:=(zzp (p:=fun k=>∃s,J s/\μ s=k) ⟨s,h,rfl⟩).2
theorem ykt {b:Type} {a:b->Prop} {μ:b->Nat} (h:∃s,a s):∃s,a s/\μ s=leastM a μ:=by obtain⟨s,c⟩:=h;exact(zzp (p:=fun k=>∃s,a s/\μ s=k) ⟨s,c,rfl⟩).1
structure OkT (M m n:Nat) (sc:Nat->Nat) (top:Nat) (q:Dic) (t:TB):Prop where
 inv:TInv M m n t
 eqv:Eqv m n q (L7 sc top m n t)
section
variable {M m n top : Nat} {sc : Nat → Nat} {q : Dic} {t x : TB}
theorem ytl (b:∀o,0<sc o) (l:0<top) (h:TInv M m n t) {r c:Nat} (hr:r<=m) (hc:c<=n) (k:t.A r c≠0):(L7 sc top m n t).D r c≠0:=by
 show(if r<=m/\c<=n then _ else _)≠_;rw[if_pos ⟨hr,hc⟩];have d:((t.A r c:Int):Rat)≠0:=(by simpa using k);have e:=ydj (zxj h.d0);have f:=zz1499 b n (fun j=>t.oth.getD j 0) c;have g:=ydj (zz1505 b l m (fun i=>t.bas.getD i 0) r);intro a;rcases Rat.mul_eq_zero.1 a with a|a
 ·rcases Rat.mul_eq_zero.1 a with a|a
  ·rcases Rat.mul_eq_zero.1 a with a|a
   ·exact d a
   ·exact e a
  ·exact f a
 ·exact g a
theorem OkT.piv (b:∀e,0<sc e) (d:0<top) (h:OkT M m n sc top q t) {r c:Nat} (hr:r<m) (hc:c<n) (a:t.A r c≠0):OkT M m n sc top q (W7 t r c) where
 inv:=h.inv.piv hr hc a
 eqv:=by rw[h.inv.dic b d hr hc a];exact h.eqv.piv hr hc (ytl b d h.inv og og a)
theorem OkT.rep (b:∀e,0<sc e) (d:0<top) (h:OkT M m n sc top q t) (hst:zle m n t=some x):OkT M m n sc top q x:=by obtain⟨r,c,rfl,hr,hc,a,_⟩:=yci h.inv hst;exact h.piv b d hr hc a
theorem OkT.step (e:∀g,0<sc g) (f:0<top) (h:OkT M m n sc top q t) (a:∀i,i<m->0<=t.A i n) (hst:zkx m n t=some x):OkT M m n sc top q x/\∀i,i<m->0<=x.A i n:=by obtain⟨r,c,rfl,d,b⟩:=ycj h.inv a hst;exact⟨h.piv e f b.hr b.hc d,(restT h.inv a hst).2⟩
theorem yes (a:∀f,0<sc f) (e:0<top) (h:TInv M m n t) (i j:Nat):0<((t.d:Int):Rat)⁻¹*uc sc n (fun j=>t.oth.getD j 0) j*(ur sc top m (fun i=>t.bas.getD i 0) i)⁻¹:=by
 have p:∀x:Nat,0<x->(0:Rat)<((x:Nat):Rat):=fun x g=>(by have:=Rat.intCast_lt_intCast.2 (show(0:Int)<(x:Int) by omega);exact this);have b:=zvf h.d0
 have c:0<uc sc n (fun j=>t.oth.getD j 0) j:=by
  unfold uc;split
  ·exact p _ (a _)
  ·decide
 have d:0<ur sc top m (fun i=>t.bas.getD i 0) i:=by
  unfold ur;split
  ·exact p _ (a _)
  ·exact p _ e
 exact Rat.mul_pos (Rat.mul_pos b c) (inv_pos d)
theorem ycq (a:i<=m) (b:j<=n):(L7 sc top m n t).D i j=(t.A i j:Rat)*(((t.d:Int):Rat)⁻¹*uc sc n (fun j=>t.oth.getD j 0) j*(ur sc top m (fun i=>t.bas.getD i 0) i)⁻¹):=by show(if i<=m/\j<=n then _ else _)=_;rw[if_pos ⟨a,b⟩,Rat.mul_assoc,Rat.mul_assoc,Rat.mul_assoc]
theorem zyz (c:∀e,0<sc e) (d:0<top) (h:TInv M m n t) (a:i<=m) (b:j<=n):0<=(L7 sc top m n t).D i j↔0<=t.A i j:=by rw[ycq a b];exact yax (yes c d h i j)
theorem yik (c:∀e,0<sc e) (d:0<top) (h:TInv M m n t) (a:i<=m) (b:j<=n):(L7 sc top m n t).D i j<0↔t.A i j<0:=by rw[ycq a b];exact zsk (yes c d h i j)
theorem yyy (h:zov m n t=none):∀i,i<m->0<=t.A i n:=fun i a=>by
 have:=zwn h i a
 rw[decide_eq_false_iff_not] at this
 omega
end
section
variable {M m n top : Nat} {sc : Nat → Nat} {t : TB} {A : List (List Rat)} {b c : List Rat}
theorem yuj (d:∀q,0<sc q) (e:0<top) (g:A.length=m) (k:b.length=m) (hc:c.length=n) (p:∀r∈A,r.length=n) (h:OkT M m n sc top (W4 m n (aF A) (lF b) (lF c)) t) (f:∀i,i<m->0<=t.A i n) (l:zmb m n t=none):
 CertOpt A b c (zus m n (L7 sc top m n t)) (zxm m n (L7 sc top m n t)) ((L7 sc top m n t).D m n):=
 ysc g k hc p (h.inv.distD _ _) h.eqv (fun j a=>by have:=h.inv.ltD.2 j a;show t.oth.getD j 0<n+m;omega) (fun i o=>(zyz d e h.inv og (v _)).2 (f i o)) fun j a=>(zyz d e h.inv (v _) og).2 (by
  have:=zwn l j a
  rw[decide_eq_false_iff_not] at this
  omega)
theorem yui (e:∀o,0<sc o) (f:0<top) (k:A.length=m) (l:b.length=m) (hc:c.length=n) (h:OkT M m n sc top (W4 m n (aF A) (lF b) (lF c)) t) {r:Nat} (g:zov m n t=some r) (i:zpo n t r=none):CertNone A b c (zxl m n (L7 sc top m n t) r):=by obtain⟨hr,d,_⟩:=znc g;have d:t.A r n<0:=of_decide_eq_true d;exact ysb k l hc h.eqv (fun j a=>by have:=h.inv.ltD.2 j a;show t.oth.getD j 0<n+m;omega) hr (by have:=h.inv.ltD.1 r hr;show t.bas.getD r 0<n+m;omega) ((yik e f h.inv og (v _)).2 d) fun j a=>(zyz e f h.inv og og).2 (by have:=zwn i j a;rw[decide_eq_false_iff_not] at this;omega)
theorem yuk (e:∀y,0<sc y) (f:0<top) (s:A.length=m) (u:b.length=m) (hc:c.length=n) (x:∀r∈A,r.length=n) (h:OkT M m n sc top (W4 m n (aF A) (lF b) (lF c)) t) (g:∀i,i<m->0<=t.A i n) (j:zmb m n t=some k) (l:znv m n t k=none):
 CertRay A b c (zus m n (L7 sc top m n t)) (zxs m n (L7 sc top m n t) k):=by obtain⟨w,d,_⟩:=znc j;have d:t.A m k<0:=of_decide_eq_true d;exact ysd s u hc x (h.inv.distD _ _) h.eqv w (fun i a=>(zyz e f h.inv og (v _)).2 (g i a)) ((yik e f h.inv (v _) og).2 d) fun i a=>by have z:=ydw l i a;have o:=ycq (sc:=sc) (top:=top) (m:=m) (n:=n) (t:=t) (show i<=m by omega) (show k<=n by omega);have p:=(yay (z:=t.A i k) (yes e f h.inv i k));rw[o];exact Rat.not_lt.1 fun q=>by have:=p.1 q;omega
end
theorem yyz {w:a} {S:Nat->Prop} {lo0 lo g m n top:Nat} {L:Lay} {sc:Nat->Nat} {t:TB} {st e steps:Int} (h:U8 w S lo0 lo g L m n sc top t st e steps) (a5:m<=100) (a6:n<=100):
 Calls Tryz.prog 126 #[.pointer (some ⟨g,0,none⟩)] w fun au w'=>au= .returned (.int .i64 (Q7 (zov m n t)))/\Below w.heap.size w w':=by
 have U:=s h;obtain⟨aM,a9,aN,bd,aL,aR,aP,aT,-,⟨aa,ay,az,ab,aA⟩,-,-,-⟩:=h.open;obtain⟨p,N⟩:=nm (fun i=>decide (t.A i n<0));obtain⟨key,l⟩:=nm (fun i=>t.bas.getD i 0);have an:Hid (zov m n t=X9 p key m):=(by rw[Hid,N,l];rfl);rw[an.out];obtain⟨ak,T⟩:=C7 N l;have A:=h.cap m og;rw[Z7] at A;have aX:=A.1;have aY:L.cp m<=9223372036854775807:=(by have:=A.2;unfold maxLen at this;omega);have M:=h.caps;have a3:m<=L.bc:=og;have a4:L.bc<=9223372036854775807:=(by unfold maxLen at M;omega);have a7:m<=L.rc:=og;have a8:L.rc<=9223372036854775807:=(by unfold maxLen at M;omega);clear h N l M A;have aS:=U0;clear ay az aA;obtain⟨aQ,K⟩:=nm (L.ha m);rw[<-K] at ab;have aj:=s K;clear K;have ao:=s aa;go_in;go_wp2_with fail;clear ab aa;go_loopw [12,3,4,5] (fun Q best _ _ wr=>∃k:Nat,k<=m/\Q= .int .i64 (k:Int)/\best= .int .i64 (Q7 (X9 p key k))/\Below w.heap.size w wr) (fun Q _ _ _ _=>m-(intOf Q).toNat);case atStart=>exact⟨0,G _,rfl,rfl,Below.refl _ _⟩
 case round=>
  obtain⟨k,a2,rfl,rfl,ad⟩:=hrel;have q:=s ad;clear ad;rcases D k m with B|aZ
  ·obtain⟨aq,aG,ar,aI,ea,H,I,Z,eq⟩:=(U.out.next q.out).el (l:=m) (j:=k) og (by rw[Z7];exact B);rw[zvr] at H I eq;obtain⟨aH,hI⟩:=(U.out.next q.out).basW og;have R:=C0 q.out ao.out;rw[aH] at R;have Y:=hI.el k B;have al:=s B;have a0:(0:Int)<=(k:Int):=og;have a1:(k:Int)<(m:Int):=og;have v:=s eq;obtain⟨E,P⟩:=nm (decide (t.A k n<0));obtain⟨aK,ag⟩:=nm ((A9 (t.A k n).natAbs).length);obtain⟨aJ,af⟩:=nm ((A9 1).length);rw[<-P] at H v;rw[<-ag] at I v;rw[<-af] at Z v;obtain⟨ah,aD,j,rx,aE⟩:=J7 wr #[.bool E,.slice aq aK aG,.slice ar aJ aI] 37;obtain⟨x,y,b2⟩:=C4 rx;have ai:=s j;have u:=nB q j;have C:=C0 j R;have f:=C0 j Y;have l:∀i,(fun i=>t.bas.getD i 0) i=key i:=fun i=>(by rw[T.out]);have r:t.bas.getD k 0=key k:=l k;have f:ah.cell? ⟨L.bb,k,none⟩=some (.int .i64 ((key k:Nat):Int)):=(by rw[<-r];exact f);have aO:=nQ v j;have V:Hid (p k=E):=(by rw[Hid,ak.out,P]);have av:=aj.out.trans ea;subst av;clear P ag af rx aE j eq R Y r l B;go_wp2_with fail;clear aD H I Z;have c:Hid (k+1<=m):=al.out;cases o:p k with
   |false=>have O:E=false:=V.out.symm.trans o;subst O;have d:=hs5 x y b2 C f;refine wp_region_noPanic ?_;refine zmd d fun J=> ?_;refine sT 0 17 ?_;refine sT 1 18 ?_;refine sT 2 19 ?_;refine sU 3 20 ?_;refine sU 4 21 ?_;refine sU 5 22 ?_;refine sU 6 23 ?_;refine sU 7 24 ?_;refine sU 8 25 ?_;refine sU 9 26 ?_;refine sU 10 27 ?_;refine sU 11 28 ?_;refine sU 12 29 ?_;refine sU 13 30 ?_;refine sU 14 31 ?_;refine sU 15 32 ?_;refine sU 16 33 ?_;refine sU 17 34 ?_;refine sU 18 35 ?_;refine sU 19 36 ?_;refine sU 20 37 ?_;refine sU 21 38 ?_;refine sU 22 39 ?_;refine sU 23 40 ?_;refine sT 24 41 ?_;refine wpAnyH_done kr ?_ _;refine NoPanic.normal ?_;go_wp2_with fail;have F:=u.out;go_roundw;(case rel=>exact⟨k+1,c.out,by go_num,by rw[yen o],bel⟩);case measure=>simp[intOf];have:=c.out;omega
   |true=>
    have O:E=true:=V.out.symm.trans o;subst O;cases z:X9 p key k with
    |none=>have ac:Q7 (none:Option Nat)= -1:=rfl;rw[ac];have d:=hs5 x y b2 C f;refine wp_region_noPanic ?_;refine zmd d fun J=> ?_;refine sT 0 17 ?_;refine sT 1 18 ?_;refine sT 2 19 ?_;refine sT 3 20 ?_;refine sT 4 21 ?_;refine sT 5 22 ?_;refine sU 6 23 ?_;refine sU 7 24 ?_;refine sU 8 25 ?_;refine sU 9 26 ?_;refine sU 10 27 ?_;refine sU 11 28 ?_;refine sU 12 29 ?_;refine sU 13 30 ?_;refine sU 14 31 ?_;refine sU 15 32 ?_;refine sU 16 33 ?_;refine sU 17 34 ?_;refine sU 18 35 ?_;refine sU 19 36 ?_;refine sU 20 37 ?_;refine sU 21 38 ?_;refine sU 22 39 ?_;refine sT 23 40 ?_;refine sT 24 41 ?_;refine wpAnyH_done kr ?_ _;refine NoPanic.normal ?_;go_wp2_with fail;have F:=u.out;go_roundw;(case rel=>exact⟨k+1,c.out,by go_num,by rw[yem o z],bel⟩);case measure=>simp[intOf];have:=c.out;omega
    |some b=>
     have aW:b<k:=(znc z).1;have W:=hI.el b (oh c);have r:t.bas.getD b 0=key b:=(by rw[T.out]);have X:ah.cell? ⟨L.bb,b,none⟩=some (.int .i64 ((key b:Nat):Int)):=(by rw[<-r];exact C0 ai.out W);clear r;have aU:(0:Int)<=(b:Int):=og;have aV:(b:Int)<(m:Int):=oh c;have aB:Q7 (some b)=(b:Int):=rfl;rw[aB];have ac:decide ((b:Int)<0)=false:=decide_eq_false og;clear W;by_cases ae:key k<key b
     ·have aC:decide (((key k:Nat):Int)<((key b:Nat):Int))=true:=decide_eq_true og;have d:=zoj x y b2 C f X;refine wp_region_noPanic ?_;refine zmd d fun J=> ?_;refine sT 0 17 ?_;refine sT 1 18 ?_;refine sT 2 19 ?_;refine sT 3 20 ?_;refine sT 4 21 ?_;refine sT 5 22 ?_;refine sT 6 23 ?_;refine sT 7 24 ?_;refine sT 8 25 ?_;refine sT 9 26 ?_;refine sT 10 27 ?_;refine sT 11 28 ?_;refine sT 12 29 ?_;refine sT 13 30 ?_;refine sT 14 31 ?_;refine sT 15 32 ?_;refine sT 16 33 ?_;refine sT 17 34 ?_;refine sT 18 35 ?_;refine sT 19 36 ?_;refine sT 20 37 ?_;refine sT 21 38 ?_;refine sT 22 39 ?_;refine sT 23 40 ?_;refine sT 24 41 ?_;refine wpAnyH_done kr ?_ _;refine NoPanic.normal ?_;go_wp2_with fail;have F:=u.out;go_roundw;(case rel=>exact⟨k+1,c.out,by go_num,by rw[yel o z ae],bel⟩);case measure=>simp[intOf];have:=c.out;omega
     ·have aC:decide (((key k:Nat):Int)<((key b:Nat):Int))=false:=decide_eq_false og;have d:=zoj x y b2 C f X;refine wp_region_noPanic ?_;refine zmd d fun J=> ?_;refine sT 0 17 ?_;refine sT 1 18 ?_;refine sT 2 19 ?_;refine sT 3 20 ?_;refine sT 4 21 ?_;refine sT 5 22 ?_;refine sT 6 23 ?_;refine sT 7 24 ?_;refine sT 8 25 ?_;refine sT 9 26 ?_;refine sT 10 27 ?_;refine sT 11 28 ?_;refine sT 12 29 ?_;refine sT 13 30 ?_;refine sT 14 31 ?_;refine sT 15 32 ?_;refine sT 16 33 ?_;refine sT 17 34 ?_;refine sT 18 35 ?_;refine sT 19 36 ?_;refine sT 20 37 ?_;refine sT 21 38 ?_;refine sT 22 39 ?_;refine sT 23 40 ?_;refine sT 24 41 ?_;refine wpAnyH_done kr ?_ _;refine NoPanic.normal ?_;go_wp2_with fail;have F:=u.out;go_roundw;(case rel=>exact⟨k+1,c.out,by go_num,by rw[yeo o z ae],bel⟩);case measure=>simp[intOf];have:=c.out;omega
  ·obtain rfl:k=m:=og;go_wp2_with fail;go_ret;exact⟨rfl,q.out⟩
end Go.Proofs.YtpbilanpeioonaaGreatDoor
