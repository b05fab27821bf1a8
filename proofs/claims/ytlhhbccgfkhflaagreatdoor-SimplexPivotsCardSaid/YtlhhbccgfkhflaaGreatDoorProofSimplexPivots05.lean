/-
 A search of package simplex in memory.
-/
import Derived.Test.YtlhhbccgfkhflaaGreatDoorProofSimplexPivots04
import Derived.Lib.SliceRun
namespace Go.Proofs.YtlhhbccgfkhflaaGreatDoor
open Go.RowKit
set_option linter.unusedVariables false
set_option maxRecDepth 100000
set_option maxHeartbeats 8000000
open _root_.Nat renaming le_refl → D, lt_of_lt_of_le → C
open _root_.Go renaming World → e, Value → f, Addr → u
variable {V al : Rat} {hi i j p : Nat} {key : Nat → Nat} {o r : Option Nat} {t : TypeId} {v : f}
structure Lay where
 bk:Nat->Nat
 cp:Nat->Nat
 ha:Nat->Option u
 r0:Nat
 rc:Nat
 ra:Option u
 bb:Nat
 bc:Nat
 ba:Option u
 ob:Nat
 oc:Nat
 oa:Option u
 sb:Nat
 sp:Nat
 sa:Option u
def F9 (m n l:Nat):Nat:=if l=m then m else n
def zkb (t:TB) (m n l j:Nat):Int:=if l=m then t.A j n else if l=m+1 then -(t.A m j) else t.A l j
theorem J4 {m n:Nat} (h:i<m):F9 m n i=n:=if_neg og
theorem M9 (m n:Nat):F9 m n m=m:=if_pos rfl
theorem U6 (m n:Nat):F9 m n (m+1)=n:=if_neg og
theorem zvu {t:TB} {m n:Nat} (h:i<m):zkb t m n i j=t.A i j:=by unfold zkb;rw[if_neg og,if_neg og]
theorem ycd (t:TB) (m n j:Nat):zkb t m n (m+1) j= -(t.A m j):=by unfold zkb;rw[if_neg og,if_pos rfl]
theorem zuh (t:TB) (m n j:Nat):zkb t m n m j=t.A j n:=if_pos rfl
def zwp (L:Lay) (m n:Nat) (z:Int) (d top:Nat) (a:Option u) (k:Nat) (Q:Option u) (l:Nat) (D:Option u) (b:Nat) (T:Option u) (c:Nat) (st s steps:Int):List f:=
 [.slice L.ba m L.bc,.slice L.oa n L.oc,.slice L.ra m L.rc,.slice (L.ha m) m (L.cp m),.slice (L.ha (m+1)) n (L.cp (m+1)),.bool (decide (z<0)),.slice a (A9 z.natAbs).length k,.slice Q (A9 1).length l,.slice D (A9 d).length b,.slice L.sa (m+n) L.sp,.slice T (A9 top).length c,.int .i64 st,.int .i64 s,.int .i64 steps]
structure SchG (w:e) (S:Nat->Prop) (lo0 lo g:Nat) (L:Lay) (m n:Nat) (sc:Nat->Nat) (top:Nat) (F:Nat->Nat->Int) (z:Int) (d:Nat) (bas oth:List Nat) (st s steps:Int):Prop where
 tab:TabW w S lo L.bk L.cp (m+2) (F9 m n) F
 hv:∀l,l<m+2->1<=F9 m n l->L.ha l=some ⟨L.bk l,0,none⟩
 cap:∀l,l<m+2->F9 m n l<=L.cp l/\L.cp l<=maxLen
 row:∃P k Q l D cd T ct,Row w g 98 (zwp L m n z d top P k Q l D cd T ct st s steps)/\
  IsQ w (SN S lo w) (.agg #[.bool (decide (z<0)),.slice P (A9 z.natAbs).length k,.slice Q (A9 1).length l]) ((z:Int):Rat)/\NumS w (SN S lo w) (.slice D (A9 d).length cd) d/\NumS w (SN S lo w) (.slice T (A9 top).length ct) top
 hd:∀i,i<m->L.ra=some ⟨L.r0,0,none⟩/\S L.r0/\w.cell? ⟨L.r0,i,none⟩=some (.slice (L.ha i) n (L.cp i))
 caps:m<=L.rc/\L.rc<=maxLen/\m<=L.bc/\L.bc<=maxLen/\n<=L.oc/\L.oc<=maxLen/\m+n<=L.sp/\L.sp<=maxLen
 basW:1<=m->L.ba=some ⟨L.bb,0,none⟩/\IntW w L.bb m (fun i=>bas.getD i 0)
 othW:1<=n->L.oa=some ⟨L.ob,0,none⟩/\IntW w L.ob n (fun j=>oth.getD j 0)
 scl:∀v,v∈bas++oth->L.sa=some ⟨L.sb,0,none⟩/\S L.sb/\∃P k,w.cell? ⟨L.sb,v,none⟩=some (.slice P (A9 (sc v)).length k)/\NumS w S (.slice P (A9 (sc v)).length k) (sc v)
 gS:lo0<=g/\g<lo/\¬S g
 bS:1<=m->lo0<=L.bb/\L.bb<lo/\¬S L.bb/\L.bb≠g
 oS:1<=n->lo0<=L.ob/\L.ob<lo/\¬S L.ob/\L.ob≠g
 bo:1<=m->1<=n->L.bb≠L.ob
 lS:∀l,l<m+2->1<=F9 m n l->lo0<=L.bk l/\L.bk l≠g/\(1<=m->L.bk l≠L.bb)/\(1<=n->L.bk l≠L.ob)
 len:bas.length=m/\oth.length=n
abbrev U8 (w:e) (S:Nat->Prop) (lo0 lo g:Nat) (L:Lay) (m n:Nat) (sc:Nat->Nat) (top:Nat) (t:TB) (st s steps:Int):Prop:=SchG w S lo0 lo g L m n sc top (zkb t m n) (t.A m n) t.d t.bas t.oth st s steps
section
variable {w w' : e} {S : Nat → Prop} {lo0 lo g m n top : Nat} {L : Lay} {sc : Nat → Nat} {F : Nat → Nat → Int} {z : Int} {d : Nat} {bas oth : List Nat} {st s steps : Int}
theorem SchG.open (h:SchG w S lo0 lo g L m n sc top F z d bas oth st s steps):∃b k Q l D c T e,(Row w g 98 (zwp L m n z d top b k Q l D c T e st s steps)/\
 IsQ w (SN S lo w) (.agg #[.bool (decide (z<0)),.slice b (A9 z.natAbs).length k,.slice Q (A9 1).length l]) ((z:Int):Rat)/\NumS w (SN S lo w) (.slice D (A9 d).length c) d/\NumS w (SN S lo w) (.slice T (A9 top).length e) top)/\
 (w.cell? ⟨g,0,none⟩=some (.slice L.ba m L.bc)/\w.cell? ⟨g,1,none⟩=some (.slice L.oa n L.oc)/\w.cell? ⟨g,2,none⟩=some (.slice L.ra m L.rc)/\w.cell? ⟨g,3,none⟩=some (.slice (L.ha m) m (L.cp m))/\w.cell? ⟨g,4,none⟩=some (.slice (L.ha (m+1)) n (L.cp (m+1))))/\
 (w.cell? ⟨g,5,none⟩=some (.bool (decide (z<0)))/\w.cell? ⟨g,6,none⟩=some (.slice b (A9 z.natAbs).length k)/\w.cell? ⟨g,7,none⟩=some (.slice Q (A9 1).length l))/\
 (w.cell? ⟨g,8,none⟩=some (.slice D (A9 d).length c)/\w.cell? ⟨g,9,none⟩=some (.slice L.sa (m+n) L.sp)/\w.cell? ⟨g,10,none⟩=some (.slice T (A9 top).length e))/\
 (w.cell? ⟨g,11,none⟩=some (.int .i64 st)/\w.cell? ⟨g,12,none⟩=some (.int .i64 s)/\w.cell? ⟨g,13,none⟩=some (.int .i64 steps)):=by obtain⟨b,k,Q,l,D,c,T,e,a,f,i,j⟩:=h.row;exact⟨b,k,Q,l,D,c,T,e,⟨a,f,i,j⟩,⟨a.cell 0,a.cell 1,a.cell 2,a.cell 3,a.cell 4⟩,⟨a.cell 5,a.cell 6,a.cell 7⟩,⟨a.cell 8,a.cell 9,a.cell 10⟩,a.cell 11,a.cell 12,a.cell 13⟩
theorem SchG.sn_lt (h:SchG w S lo0 lo g L m n sc top F z d bas oth st s steps):∀b,SN S lo w b->b<w.heap.size:=fun b c=>by
 rcases c with a|a
 ·exact C (h.tab.sS b a) h.tab.hlo
 ·exact a.2
theorem SchG.same (h:SchG w S lo0 lo g L m n sc top F z d bas oth st s steps) (hg:w.grownBy w' r) (hr:∀b,r=some b->b<lo/\¬S b):K6 (SN S lo w) (SN S lo w') w w':=fun b a=>⟨zmt hg.size b a,fun o=>World.cell?_of_block (hg.block b (h.sn_lt b a) fun c=>by
 have:=hr b c.symm
 rcases a with a|a
 ·exact this.2 a
 ·have:=a.1;omega)⟩
theorem SchG.hd_next (h:SchG w S lo0 lo g L m n sc top F z d bas oth st s steps) (hg:w.grownBy w' r) (hr:∀b,r=some b->b<lo/\¬S b):∀i,i<m->L.ra=some ⟨L.r0,0,none⟩/\S L.r0/\w'.cell? ⟨L.r0,i,none⟩=some (.slice (L.ha i) n (L.cp i)):=fun i hi=>by
 obtain⟨c,a,e⟩:=h.hd i hi
 exact⟨c,a,((h.same hg hr _ (.inl a)).2 _).trans e⟩
theorem SchG.scl_next (h:SchG w S lo0 lo g L m n sc top F z d bas oth st s steps) (hg:w.grownBy w' r) (hr:∀b,r=some b->b<lo/\¬S b):∀v,v∈bas++oth->L.sa=some ⟨L.sb,0,none⟩/\S L.sb/\∃a k,w'.cell? ⟨L.sb,v,none⟩=some (.slice a (A9 (sc v)).length k)/\NumS w' S (.slice a (A9 (sc v)).length k) (sc v):=fun v hv=>by
 obtain⟨f,c,a,k,i,j⟩:=h.scl v hv
 exact⟨f,c,a,k,((h.same hg hr _ (.inl c)).2 _).trans i,IsK.stb.to j fun b e=>⟨e,(h.same hg hr b (.inl e)).2⟩⟩
theorem SchG.row_next (h:SchG w S lo0 lo g L m n sc top F z d bas oth st s steps) (hg:w.grownBy w' r) (hr:∀b,r=some b->b<lo/\¬S b/\b≠g):∃a k Q l D c T e,Row w' g 98 (zwp L m n z d top a k Q l D c T e st s steps)/\
 IsQ w' (SN S lo w') (.agg #[.bool (decide (z<0)),.slice a (A9 z.natAbs).length k,.slice Q (A9 1).length l]) ((z:Int):Rat)/\NumS w' (SN S lo w') (.slice D (A9 d).length c) d/\NumS w' (SN S lo w') (.slice T (A9 top).length e) top:=by obtain⟨a,k,Q,l,D,c,T,e,j,o,p,q⟩:=h.row;have i:=h.same hg fun b f=>⟨(hr b f).1,(hr b f).2.1⟩;exact⟨a,k,Q,l,D,c,T,e,j.grownN hg fun b f=>Ne.symm (hr b f).2.2,IsQ.stb.to o i,IsK.stb.to p i,IsK.stb.to q i⟩
theorem SchG.grown (h:SchG w S lo0 lo g L m n sc top F z d bas oth st s steps) (hg:w.grownBy w' r) (hr:∀b,r=some b->b<lo/\¬S b/\b≠g/\(1<=m->b≠L.bb)/\(1<=n->b≠L.ob)/\∀l,l<m+2->1<=F9 m n l->L.bk l≠b):
 SchG w' S lo0 lo g L m n sc top F z d bas oth st s steps:=
 {h with
  tab:=h.tab.grown hg fun b a=>⟨(hr b a).1,(hr b a).2.1,(hr b a).2.2.2.2.2⟩
  row:=h.row_next hg fun b a=>⟨(hr b a).1,(hr b a).2.1,(hr b a).2.2.1⟩
  hd:=h.hd_next hg fun b a=>⟨(hr b a).1,(hr b a).2.1⟩
  basW:=fun c=>⟨(h.basW c).1,(h.basW c).2.keep (hg.block _ (h.basW c).2.lt fun a=>(hr _ a.symm).2.2.2.1 c rfl)⟩
  othW:=fun c=>⟨(h.othW c).1,(h.othW c).2.keep (hg.block _ (h.othW c).2.lt fun a=>(hr _ a.symm).2.2.2.2.1 c rfl)⟩
  scl:=h.scl_next hg fun b a=>⟨(hr b a).1,(hr b a).2.1⟩}
theorem SchG.next (h:SchG w S lo0 lo g L m n sc top F z d bas oth st s steps) (c:Below w.heap.size w w'):SchG w' S lo0 lo g L m n sc top F z d bas oth st s steps:=h.grown (r:=none) (K0 c) fun b a=>by cases a
theorem SchG.line (h:SchG w S lo0 lo g L m n sc top F z d bas oth st s steps) {l:Nat} (e:l<m+2) (a:1<=F9 m n l) (hg:w.grownBy w' (some (L.bk l))) {f:Nat->Int} (o:LineW w' (SN S lo w') (L.bk l) (L.cp l) (F9 m n l) f):
 SchG w' S lo0 lo g L m n sc top (fun k=>if k=l then f else F k) z d bas oth st s steps:=by
 have j:=h.tab.sep l e a;have i:=h.lS l e a;have hr:∀b,some (L.bk l)=some b->b<lo/\¬S b:=fun b c=>by cases c;exact j
 exact {h with
  tab:=h.tab.upd e a hg o
  row:=h.row_next hg fun b c=>by cases c;exact⟨j.1,j.2,i.2.1⟩
  hd:=h.hd_next hg hr
  basW:=fun a=>⟨(h.basW a).1,(h.basW a).2.keep (hg.block _ (h.basW a).2.lt fun c=>i.2.2.1 a (by injection c with c;exact c.symm))⟩
  othW:=fun a=>⟨(h.othW a).1,(h.othW a).2.keep (hg.block _ (h.othW a).2.lt fun c=>i.2.2.2 a (by injection c with c;exact c.symm))⟩
  scl:=h.scl_next hg hr}
theorem SchG.cells (h:SchG w S lo0 lo g L m n sc top F z d bas oth st s steps) (hg:w.grownBy w' (some g)) {e:Int} {f:Nat} {q o r:Int}
 (t:∃i k Q l D j T p,Row w' g 98 (zwp L m n e f top i k Q l D j T p q o r)/\
   IsQ w' (SN S lo w') (.agg #[.bool (decide (e<0)),.slice i (A9 e.natAbs).length k,.slice Q (A9 1).length l]) ((e:Int):Rat)/\NumS w' (SN S lo w') (.slice D (A9 f).length j) f/\NumS w' (SN S lo w') (.slice T (A9 top).length p) top):
 SchG w' S lo0 lo g L m n sc top F e f bas oth q o r:=by
 have hr:∀b,some g=some b->b<lo/\¬S b:=fun b c=>by cases c;exact h.gS.2
 exact {h with
  tab:=h.tab.grown hg fun b c=>by cases c;exact⟨h.gS.2.1,h.gS.2.2,fun l u a=>(h.lS l u a).2.1⟩
  row:=t
  hd:=h.hd_next hg hr
  basW:=fun a=>⟨(h.basW a).1,(h.basW a).2.keep (hg.block _ (h.basW a).2.lt fun c=>(h.bS a).2.2.2 (by injection c with c))⟩
  othW:=fun a=>⟨(h.othW a).1,(h.othW a).2.keep (hg.block _ (h.othW a).2.lt fun c=>(h.oS a).2.2.2 (by injection c with c))⟩
  scl:=h.scl_next hg hr}
theorem SchG.g_lt (h:SchG w S lo0 lo g L m n sc top F z d bas oth st s steps):g<w.heap.size:=C h.gS.2.1 h.tab.hlo
theorem SchG.nums (h:SchG w S lo0 lo g L m n sc top F z d bas oth st s steps) {G:Nat->Nat->Int} (a:∀l j,l<m+2->j<F9 m n l->F l j=G l j):SchG w S lo0 lo g L m n sc top G z d bas oth st s steps:={h with tab:=h.tab.same a}
theorem SchG.el (h:SchG w S lo0 lo g L m n sc top F z d bas oth st s steps) {l:Nat} (i:l<m+2) (p:j<F9 m n l):∃e k Q q,L.ha l=some ⟨L.bk l,0,none⟩/\w.cell? ⟨L.bk l,j*3,none⟩=some (.bool (decide (F l j<0)))/\w.cell? ⟨L.bk l,j*3+1,none⟩=some (.slice e (A9 (F l j).natAbs).length k)/\w.cell? ⟨L.bk l,j*3+2,none⟩=some (.slice Q (A9 1).length q)/\
 IsQ w (C3 w) (.agg #[.bool (decide (F l j<0)),.slice e (A9 (F l j).natAbs).length k,.slice Q (A9 1).length q]) ((F l j:Int):Rat):=by have f:1<=F9 m n l:=og;obtain⟨e,k,Q,q,a,b,c,o⟩:=(h.tab.line l i f).el j p;exact⟨e,k,Q,q,h.hv l i f,a,b,c,IsQ.stb.to o (F7 h.sn_lt)⟩
theorem SchG.elS (h:SchG w S lo0 lo g L m n sc top F z d bas oth st s steps) {l:Nat} (i:l<m+2) (p:j<F9 m n l):∃e k Q q,L.ha l=some ⟨L.bk l,0,none⟩/\w.cell? ⟨L.bk l,j*3,none⟩=some (.bool (decide (F l j<0)))/\w.cell? ⟨L.bk l,j*3+1,none⟩=some (.slice e (A9 (F l j).natAbs).length k)/\w.cell? ⟨L.bk l,j*3+2,none⟩=some (.slice Q (A9 1).length q)/\
 IsQ w (SN S lo w) (.agg #[.bool (decide (F l j<0)),.slice e (A9 (F l j).natAbs).length k,.slice Q (A9 1).length q]) ((F l j:Int):Rat):=by have f:1<=F9 m n l:=og;obtain⟨e,k,Q,q,a,b,c,o⟩:=(h.tab.line l i f).el j p;exact⟨e,k,Q,q,h.hv l i f,a,b,c,o⟩
end
def O0:Option Nat->Int
 |none=> -1
 |some k=>(k:Int)
theorem zxf (p:Nat->Bool) (key:Nat->Nat) (k:Nat):W6 p key (k+1)=match W6 p key k with
 |none=>if p k then some k else none
 |some b=>if p k&&decide (key k<key b) then some k else some b:=rfl
theorem ycv {p:Nat->Bool} {k:Nat} (h:p k=false):O0 (W6 p key (k+1))=O0 (W6 p key k):=by rw[zxf,h];cases W6 p key k<;>rfl
theorem ycu {p:Nat->Bool} {k:Nat} (h:p k=true) (a:W6 p key k=none):O0 (W6 p key (k+1))=(k:Int):=by rw[zxf,h,a];rfl
theorem yct {p:Nat->Bool} {k b:Nat} (h:p k=true) (a:W6 p key k=some b) (c:key k<key b):O0 (W6 p key (k+1))=(k:Int):=by rw[zxf,h,a];show O0 (if true&&decide (key k<key b) then some k else some b)=_;rw[decide_eq_true c];rfl
theorem ycw {p:Nat->Bool} {k b:Nat} (h:p k=true) (a:W6 p key k=some b) (c:¬key k<key b):O0 (W6 p key (k+1))=(b:Int):=by rw[zxf,h,a];show O0 (if true&&decide (key k<key b) then some k else some b)=_;rw[decide_eq_false c];rfl
theorem yvg {w:e} {S:Nat->Prop} {a:f} {x:Raw} (h:IsR w S a x):∀g∈a.cells,g.oneCell'=true:=by obtain⟨A,c,B,d,rfl,_,_⟩:=h;intro g b;simp[Value.cells] at b;rcases b with rfl|rfl|rfl<;>rfl
theorem yib:(Tryz.prog.info? 3).map (fun i=>(i.zero,i.size,i.bytes))=some (some (.int .i64 0),1,8):=by kernel_rfl
theorem zsw:ElN Tryz.prog 22 3 1 8:=⟨Tryz.underlying22,by obtain⟨i,a,b,c,d⟩:=info_parts yib;exact⟨i,_,a,b,c,d,rfl⟩,by omega⟩
def IsIV (w:e) (S:Nat->Prop) (v:f) (x:Int):Prop:=v= .int .i64 x
theorem IsIV.stb:Stb IsIV:=fun _ _ _ _ _ _ h _=>h
theorem yfh (l:List Int):cellsOf (l.map fun x=>Value.int .i64 x)=l.map fun x=>Value.int .i64 x:=by
 induction l with
 |nil=>rfl
 |cons x l ih=>have a:cellsOf ((x::l).map fun x=>Value.int .i64 x)=(Value.int .i64 x).cells.toList++cellsOf (l.map fun x=>Value.int .i64 x):=(by simp[cellsOf]);rw[a,ih];rfl
theorem yoy {w:e} {S:Nat->Prop} (l:List Int):All2 (IsIV w S) (l.map fun x=>Value.int .i64 x) l:=⟨by simp,fun j x y a b=>by
 rw[List.getElem?_map,b] at a
 cases a;rfl⟩
theorem zz1468 (l:List Int):Wid 1 (l.map fun x=>Value.int .i64 x):=fun v hv=>by obtain⟨x,_,rfl⟩:=List.mem_map.1 hv;rfl
theorem IsIL.isS {w:e} {S:Nat->Prop} {l:List Int} (h:IsIL w S v l):IsS 1 IsIV w S v l:=by obtain⟨A,c,hv,a,b,d,f⟩:=h;exact⟨A,c,l.map fun x=>Value.int .i64 x,hv,a,b,by rw[yfh];exact d,zz1468 l,yoy l⟩
theorem yek {E:Program} {w:e} {ops:Array Oper} {rest:List Oper} {o:Oper} {a:Act} {Q:Exit->Act->e->Prop} {d:TypeId} {n bytes:Nat} (C:ElN E t d n bytes) (aa:o.guard=none) (s x:Operand) (ae:o.op= .call {callee:= .builtin .append,args:= #[s,x],argTypes:= #[t,t]})
 {O:Type} {R:e->(Nat->Prop)->f->O->Prop} (W:Stb R) {S:Nat->Prop} {F:u} {m c:Nat} {l:List O} (af:a.eval s= .slice (some ⟨w.heap.size,0,none⟩) 0 0) (I:a.eval x= .slice (some F) m c) (hv:IsS n R w S (.slice (some F) m c) l)
 (q:∀b,S b->b<w.heap.size) (T:∀d x,R w S d x->∀r∈d.cells,r.oneCell'=true) (g:l.length*(bytes+1)<=140737488355328)
 (h:∀v w',OwnS n d R w' w.heap.size S v l->Below w.heap.size w w'->v≠.slice none 0 0->wpList E ops Q rest (a.put o.dst v) w'):wpList E ops Q (o::rest) a (w.alloc (.cells #[] d)):=by
 obtain⟨i,z,hi,ai,ag,Y,aj⟩:=C.info
 obtain⟨A,al,H,N,ao,aq,U,L,B⟩:=hv
 simp only[Value.slice.injEq] at N
 obtain⟨rfl,rfl,rfl⟩:=N
 have ac:=zqc L
 rw[Nat.mul_add,Nat.mul_one] at g
 refine wpList_append_own _ aa s x t ae w.heap.size d i z n bytes C.und hi ai ag Y aj C.pos _ 0 [] af (World.ownsRow_made w #[] 0 (D _) (Nat.zero_le _) (by simp)) F l.length c (cellsOf H) I (by rw[ac,B.1]) (fun j r p=> ?_) (fun r p=> ?_) (by unfold maxLen;omega) (by rw[Nat.zero_add];omega) (by simp)
  fun v w' J K ak=>h v w' ?_ ?_ ?_
 ·have ad:cellsOf H≠[]:=fun d=>by rw[d] at p;simp at p
  obtain⟨b,off,V,an,Z⟩:=U ad
  cases V
  rw[Addr.add_lit]
  exact Lib.cell?_alloc_some _ (Z j r p)
 ·unfold cellsOf at p
  obtain⟨x,I,p⟩:=List.mem_flatMap.1 p
  obtain⟨j,M⟩:=List.getElem?_of_mem I
  obtain⟨y,ah⟩:∃y,l[j]? =some y:=⟨_,List.getElem?_eq_getElem (by rw[<-B.1];exact(List.getElem?_eq_some_iff.1 M).1)⟩
  exact T _ _ (B.2 j _ _ M ah) r (by simpa using p)
 ·have X:=(Below.refl w.heap.size w).alloc (D _) (.cells #[] d)
  have hst:K6 S S w w':=fun b g=>⟨g,fun o=>by
   have P:=K.block b (by rw[World.size_alloc];have:=q b g;omega) (by simp[Value.ownBlock];have:=q b g;omega)
   exact(World.cell?_of_block P).trans ((zqy X q b g).2 o)⟩
  refine⟨H,?_,L,B.imp fun x y h=>W.to h hst,fun b g=>⟨?_,fun G=> ?_⟩⟩
  ·rw[Nat.zero_add,List.nil_append] at J;exact J
  ·have:=K.size;rw[World.size_alloc] at this;have:=q b g;omega
  ·have:=(J.lt b G.symm).1;have:=q b g;omega
 ·exact((Below.refl _ w).alloc (D _) _).grown K (by simp) (by intro k ab;simp[Value.ownBlock] at ab;omega)
 ·intro G
  have:=(ak.1 G).1
  simp at this
theorem zxo {w:e} {l:List Int} (h:IsS 1 IsIV w (C3 w) v l) (M:l.length<=10000):
 Calls Tryz.prog 64 #[v] w fun d w'=>(∃k,d= .returned k/\OwnS 1 3 IsIV w' w.heap.size (C3 w) k l)/\Below w.heap.size w w':=by
 have m:=Lib.hid h;obtain⟨A,c,o,rfl,K,L,y,z,B⟩:=id h;clear h y z B;cases A with
 |none=>
  have p:l=[]:=by
   obtain⟨A,g,o,d,_,_,H,I,ha⟩:=m.out;simp only[Value.slice.injEq] at d;obtain⟨rfl,_,_⟩:=d;refine List.eq_nil_of_length_eq_zero ?_;rw[<-ha.1];rcases Nat.eq_zero_or_pos o.length with h|h
   ·exact h
   ·exfalso;have r:=zqc I;obtain⟨b,off,E,_⟩:=H (fun d=>by rw[d] at r;simp at r;omega);cases E
  have t:=Lib.hid p;clear p;have q:=fun(w:e) (a:Option u) (n c j g:Nat)=>Lib.run_eql_slice_nil w _ _ a n c j g Tryz.underlying22;go_in;go_wp2_with fail;go_ret;refine⟨⟨_,rfl,?_⟩,Below.refl _ _⟩;rw[t.out];exact OwnS.nil fun b i=>i
 |some J=>have q:=fun(w:e) (a:Option u) (n c j g:Nat)=>Lib.run_eql_slice_nil w _ _ a n c j g Tryz.underlying22;go_in;go_wp2_with (at_builtin;refine yek zsw rfl _ _ rfl IsIV.stb rfl rfl m.out (fun b i=>i) (fun d x h O s=>by cases(show d= .int .i64 x from h);simp[Value.cells] at s;subst s;rfl) og ?_;intro k w' G F N);go_ret;exact⟨⟨_,rfl,G⟩,F⟩
theorem yfy {w:e} {l:List Raw} (h:IsS 3 IsR w (C3 w) v l) (L:l.length<=10000):
 Calls Tryz.prog 124 #[v] w fun d w'=>(∃k,d= .returned k/\OwnS 3 30 IsR w' w.heap.size (C3 w) k l)/\Below w.heap.size w w':=by
 have m:=Lib.hid h;obtain⟨A,c,o,rfl,J,K,t,y,z⟩:=id h;clear h t y z;cases A with
 |none=>
  have p:l=[]:=by
   obtain⟨A,g,o,d,_,_,G,H,ha⟩:=m.out;simp only[Value.slice.injEq] at d;obtain⟨rfl,_,_⟩:=d;refine List.eq_nil_of_length_eq_zero ?_;rw[<-ha.1];rcases Nat.eq_zero_or_pos o.length with h|h
   ·exact h
   ·exfalso;have r:=zqc H;obtain⟨b,off,B,_⟩:=G (fun d=>by rw[d] at r;simp at r;omega);cases B
  have s:=Lib.hid p;clear p;have q:=fun(w:e) (a:Option u) (n c j g:Nat)=>Lib.run_eql_slice_nil w _ _ a n c j g Tryz.underlying26;go_in;go_wp2_with fail;go_ret;refine⟨⟨_,rfl,?_⟩,Below.refl _ _⟩;rw[s.out];exact OwnS.nil fun b i=>i
 |some I=>have q:=fun(w:e) (a:Option u) (n c j g:Nat)=>Lib.run_eql_slice_nil w _ _ a n c j g Tryz.underlying26;go_in;go_wp2_with (at_builtin;refine yek zlv rfl _ _ rfl IsR.stb rfl rfl m.out (fun b i=>i) (fun d x h=>yvg h) og ?_;intro k w' F E M);go_ret;exact⟨⟨_,rfl,F⟩,E⟩
def IsSl (w:e) (S:Nat->Prop) (v x:f):Prop:=v=x/\∃A m c,x= .slice A m c
theorem IsSl.stb:Stb IsSl:=fun _ _ _ _ _ _ h _=>h
theorem yfx {w:e} {l:List f} (h:IsS 1 IsSl w (C3 w) v l) (N:l.length<=10000):
 Calls Tryz.prog 134 #[v] w fun d w'=>(∃k,d= .returned k/\OwnS 1 26 IsSl w' w.heap.size (C3 w) k l)/\Below w.heap.size w w':=by
 have o:=Lib.hid h;obtain⟨A,c,p,rfl,L,M,z,B,E⟩:=id h;clear h z B E;cases A with
 |none=>
  have r:l=[]:=by
   obtain⟨A,g,p,d,_,_,I,J,ha⟩:=o.out;simp only[Value.slice.injEq] at d;obtain⟨rfl,_,_⟩:=d;refine List.eq_nil_of_length_eq_zero ?_;rw[<-ha.1];rcases Nat.eq_zero_or_pos p.length with h|h
   ·exact h
   ·exfalso;have s:=zqc J;obtain⟨b,off,F,_⟩:=I (fun d=>by rw[d] at s;simp at s;omega);cases F
  have y:=Lib.hid r;clear r;have q:=fun(w:e) (a:Option u) (n c j g:Nat)=>Lib.run_eql_slice_nil w _ _ a n c j g Tryz.underlying24;go_in;go_wp2_with fail;go_ret;refine⟨⟨_,rfl,?_⟩,Below.refl _ _⟩;rw[y.out];exact OwnS.nil fun b i=>i
 |some K=>have q:=fun(w:e) (a:Option u) (n c j g:Nat)=>Lib.run_eql_slice_nil w _ _ a n c j g Tryz.underlying24;go_in;go_wp2_with (at_builtin;refine yek zoy rfl _ _ rfl IsSl.stb rfl rfl o.out (fun b i=>i) (fun d x h P t=>by obtain⟨rfl,A,m,c,rfl⟩:=h;simp[Value.cells] at t;subst t;rfl) og ?_;intro k w' H G O);go_ret;exact⟨⟨_,rfl,H⟩,G⟩
def U0 (B:Nat->Option Nat) (i:Nat) (o:Option Nat):Nat->Option Nat:=fun j=>if j=i then o else B j
theorem zkn (B:Nat->Option Nat) (i:Nat) (o:Option Nat):U0 B i o i=o:=if_pos rfl
theorem J8 {B:Nat->Option Nat} (h:j≠i):U0 B i o j=B j:=if_neg h
structure Sep (w:e) (base:Nat) (S:Nat->Prop) (B:Nat->Option Nat):Prop where
 lt:∀i b,B i=some b->base<=b/\b<w.heap.size/\¬S b
 ne:∀i j b,i≠j->B i=some b->B j≠some b
 q:∀b,S b->b<w.heap.size
section
variable {w w' : e} {base : Nat} {S T : Nat → Prop} {B : Nat → Option Nat}
theorem Sep.upd (h:Sep w base S B) (q:w.heap.size<=w'.heap.size) (r:base<=w.heap.size) (n:∀b,T b->S b\/(w.heap.size<=b/\b<w'.heap.size))
 (l:∀b,o=some b->B i=some b\/(w.heap.size<=b/\b<w'.heap.size/\¬T b)):Sep w' base T (U0 B i o):=by
 have old:∀j b,B j=some b->base<=b/\b<w'.heap.size/\¬T b:=fun j b c=>by
  have a:=h.lt j b c;refine⟨a.1,by omega,fun g=> ?_⟩;rcases n b g with m|m
  ·exact a.2.2 m
  ·omega
 refine⟨fun j b c=> ?_,fun j k b f c d=> ?_,fun b g=> ?_⟩
 ·by_cases e:j=i
  ·subst e;rw[zkn] at c;rcases l b c with a|a
   ·exact old _ _ a
   ·exact⟨by omega,a.2⟩
  ·rw[J8 e] at c;exact old _ _ c
 ·by_cases e:j=i
  ·subst e;rw[zkn] at c;rw[J8 (Ne.symm f)] at d;rcases l b c with a|a
   ·exact h.ne _ _ _ f a d
   ·have:=(h.lt _ _ d).2.1;omega
  ·rw[J8 e] at c;by_cases p:k=i
   ·subst p;rw[zkn] at d;rcases l b d with a|a
    ·exact h.ne _ _ _ f c a
    ·have:=(h.lt _ _ c).2.1;omega
   ·rw[J8 p] at d;exact h.ne _ _ _ f c d
 ·rcases n b g with a|a
  ·exact C (h.q b a) q
  ·exact a.2
theorem Sep.more (h:Sep w base S B) (g:w.heap.size<=w'.heap.size) (f:∀b,T b->S b\/(w.heap.size<=b/\b<w'.heap.size)):Sep w' base T B where
 lt i b e:=by
  have a:=h.lt i b e
  refine⟨a.1,by omega,fun c=> ?_⟩
  rcases f b c with d|d
  ·exact a.2.2 d
  ·omega
 ne:=h.ne
 q b c:=by
  rcases f b c with a|a
  ·exact C (h.q b a) g
  ·exact a.2
theorem Sep.size (h:Sep w base S B) (c:w.heap.size<=w'.heap.size):Sep w' base S B:=h.more c fun b a=> .inl a
end
theorem OwnS.head {i:Type} {n:Nat} {R:e->(Nat->Prop)->f->i->Prop} {w:e} {base:Nat} {S:Nat->Prop} {l:List i} (h:OwnS n t R w base S v l):
 ∃a c,v= .slice a l.length c/\l.length<=c/\c<=maxLen/\(1<=l.length->∃b,a=some ⟨b,0,none⟩/\v.ownBlock=some b):=by
 obtain⟨q,k,_⟩:=h;rcases k.2 with⟨j,d⟩|⟨g,cap,p,d,u,x,m,o,r,s⟩
 ·rw[d];exact⟨none,0,j,D _,by unfold maxLen;omega,fun h=>by omega⟩
 ·exact⟨_,_,d,m,o,fun _=>⟨g,rfl,by rw[d];rfl⟩⟩
theorem OwnS.bare {c:Type} {n:Nat} {R:e->(Nat->Prop)->f->c->Prop} (k:∀w S T a x,R w S a x->R w T a x) {w:e} {base:Nat} {S:Nat->Prop} {l:List c} (h:OwnS n t R w base S v l):OwnS n t R w base (fun _=>False) v l:=by obtain⟨d,g,i,j,m⟩:=h;exact⟨d,g,i,j.imp fun x y h=>k _ _ _ _ _ h,fun b h=>h.elim⟩
theorem OwnS.intW {w:e} {base:Nat} {S:Nat->Prop} {l:List Nat} (h:OwnS 1 3 IsIV w base S v (l.map fun(x:Nat)=>(x:Int))) (u:1<=l.length):
 ∃b c,v= .slice (some ⟨b,0,none⟩) l.length c/\IntW w b l.length (fun i=>l.getD i 0):=by have f:(l.map fun(x:Nat)=>(x:Int)).length=l.length:=(by simp);obtain⟨b,c,j,p,rfl,q,g,r,s,k,m,n,t,_⟩:=h.shape (fun a=>by rw[a] at f;simp at f;omega);refine⟨b,c,by rw[f],⟨j,g⟩,fun i hi=> ?_⟩;have hr:(l.map fun(x:Nat)=>(x:Int))[i]? =some ((l.getD i 0:Nat):Int):=(by rw[List.getElem?_map,List.getD_eq_getElem?_getD,List.getElem?_eq_getElem hi];rfl);obtain⟨a,o,d⟩:=n.get hr;have d:a=_:=d;subst d;have:=znp g k (zmi m (i:=0) o rfl);rwa[Nat.mul_one,Nat.add_zero] at this
structure TabO (w:e) (base:Nat) (S:Nat->Prop) (B:Nat->Option Nat) (k l n:Nat) (hd:Nat->f) (q y:f) (F:Nat->Nat->Int) (Q:Nat->Int):Prop where
 rows:∀i,i<k->OwnS 3 30 IsR w base S (hd i) (C2 (ints n (F i)))/\(hd i).ownBlock=B (7+i)
 rests:OwnS 3 30 IsR w base S y (C2 (ints l Q))/\y.ownBlock=B 4
 heads:OwnS 1 26 IsVal w base (fun _=>False) q ((List.range k).map hd)/\q.ownBlock=B 3
 sep:Sep w base S B
def zph (hd:Nat->f) (k:Nat) (a:f):Nat->f:=fun i=>if i=k then a else hd i
theorem ymf (hd:Nat->f) (k:Nat) (a:f):(List.range (k+1)).map (zph hd k a)=(List.range k).map hd++[a]:=by
 rw[List.range_succ,List.map_append];congr 1
 ·refine List.map_congr_left fun i hi=> ?_;have:=List.mem_range.1 hi;unfold zph;rw[if_neg og]
 ·show[zph hd k a k]=_;unfold zph;rw[if_pos rfl]
section
variable {w w' : e} {base : Nat} {S T : Nat → Prop} {B : Nat → Option Nat} {k l n : Nat} {hd : Nat → f} {q y : f} {F : Nat → Nat → Int} {Q : Nat → Int}
theorem zxb {f:List Raw} (d:Sep w base S B) (j:w.heap.size<=w'.heap.size) (i:∀b,T b->S b\/(w.heap.size<=b/\b<w'.heap.size)) (h:∀b,S b->T b) (e:v.ownBlock=B p) (g:OwnS 3 30 IsR w' base S v f):OwnS 3 30 IsR w' base T v f:=by
 refine g.wider IsR.stb h fun b a=> ?_;rcases i b a with a|a
 ·exact⟨C (d.q b a) j,fun c=>(d.lt p b (e▸c.symm)).2.2 a⟩
 ·exact⟨by omega,fun c=>by have:=(d.lt p b (e▸c.symm)).2.1;omega⟩
theorem TabO.grown (h:TabO w base S B k l n hd q y F Q) (hg:w.grownBy w' r) (hr:∀b,r=some b->w.heap.size<=b\/∃p,B p=some b/\p≠3/\p≠4/\p<7):TabO w' base S B k l n hd q y F Q:=by
 have key:∀p o,o=B p->(p=3\/p=4\/7<=p)->∀b,r=some b->o≠some b/\¬S b:=fun p o e t b a=>by
  rcases hr b a with d|⟨f,d,j,m,s⟩
  ·exact⟨fun c=>by have:=(h.sep.lt p b (e▸c)).2.1;omega,fun g=>by have:=h.sep.q b g;omega⟩
  ·exact⟨fun c=>h.sep.ne f p b og d (e▸c),(h.sep.lt f b d).2.2⟩
 exact⟨fun i hi=>⟨(h.rows i hi).1.grown IsR.stb hg (key (7+i) _ (h.rows i hi).2 og),(h.rows i hi).2⟩,⟨h.rests.1.grown IsR.stb hg (key 4 _ h.rests.2 og),h.rests.2⟩,
  ⟨h.heads.1.grown IsVal.stb hg fun b a=>⟨(key 3 _ h.heads.2 og b a).1,fun x=>x⟩,h.heads.2⟩,h.sep.size hg.size⟩
theorem TabO.next (h:TabO w base S B k l n hd q y F Q) (c:Below w.heap.size w w'):TabO w' base S B k l n hd q y F Q:=h.grown (r:=none) (K0 c) fun b a=>by cases a
theorem TabO.more (h:TabO w base S B k l n hd q y F Q) (a:Below w.heap.size w w') (e:∀b,S b->T b) (d:∀b,T b->S b\/(w.heap.size<=b/\b<w'.heap.size)):TabO w' base T B k l n hd q y F Q:=by have c:=h.next a;exact⟨fun i hi=>⟨zxb h.sep a.size d e (h.rows i hi).2 (c.rows i hi).1,(h.rows i hi).2⟩,⟨zxb h.sep a.size d e h.rests.2 c.rests.1,h.rests.2⟩,c.heads,h.sep.more a.size d⟩
theorem Sep.two {n v:Option Nat} {q:Nat} (u:q≠p) (h:Sep w base S B) (z:w.heap.size<=w'.heap.size) (y:base<=w.heap.size) (D:hi<=w'.heap.size) (E:w.heap.size<=hi) (s:∀b,T b->S b\/(w.heap.size<=b/\b<hi))
 (m:∀b,n=some b->w.heap.size<=b/\b<hi/\¬T b) (hv:v=B q\/∃b,v=some b/\hi<=b/\b<w'.heap.size):Sep w' base T (U0 (U0 B p n) q v):=by
 have k:Sep w' base T (U0 B p n):=h.upd z y (fun b d=>(s b d).imp id fun d=>⟨d.1,by omega⟩) fun b a=> .inr ⟨(m b a).1,by have:=(m b a).2.1;omega,(m b a).2.2⟩
 have new:∀j b,j≠q->U0 B p n j=some b->v=some b->False:=fun j b e c g=>by
  rcases hv with i|⟨x,i,A,C⟩
  ·rw[i] at g;exact k.ne q j b (Ne.symm e) (by rw[J8 u];exact g) c
  ·rw[i] at g;cases g;by_cases r:j=p
   ·subst r;rw[zkn] at c;have:=(m b c).2.1;omega
   ·rw[J8 r] at c;have:=(h.lt j b c).2.1;omega
 refine⟨fun j b a=> ?_,fun j l b o a f=> ?_,k.q⟩
 ·by_cases e:j=q
  ·subst e;rw[zkn] at a;rcases hv with c|⟨x,c,g,i⟩
   ·rw[c] at a;exact k.lt j b (by rw[J8 u];exact a)
   ·rw[c] at a;cases a;refine⟨by omega,i,fun d=> ?_⟩;rcases s b d with d|d
    ·have:=h.q b d;omega
    ·omega
  ·rw[J8 e] at a;exact k.lt j b a
 ·by_cases e:j=q
  ·subst e;rw[zkn] at a;rw[J8 (Ne.symm o)] at f;exact(new l b (Ne.symm o) f a).elim
  ·rw[J8 e] at a;by_cases t:l=q
   ·subst t;rw[zkn] at f;exact(new j b e a f).elim
   ·rw[J8 t] at f;exact k.ne _ _ _ o a f
theorem OwnS.higher {j:Type} {c:Nat} {R:e->(Nat->Prop)->f->j->Prop} (p:Stb R) {lo:Nat} {a V:Nat->Prop} {i:List j} (h:OwnS c t R w lo a v i) (A:base<=lo) (q:∀b,a b->V b) (r:∀b,V b->b<w.heap.size/\some b≠v.ownBlock):OwnS c t R w base V v i:=by
 obtain⟨n,d,k,l,u⟩:=h;refine⟨n,⟨d.1,?_⟩,k,l.imp fun x y h=>p.to h fun b s=>⟨q b s,fun o=>rfl⟩,r⟩;rcases d.2 with h|⟨g,cap,m,hv,z,rest⟩
 ·exact .inl h
 ·exact .inr ⟨g,cap,m,hv,by omega,rest⟩
theorem TabO.row {g d:f} (h:TabO w base S B k l n hd q y F Q) (s:base<=w.heap.size) (t:w.grownBy w' (B 3)) (D:w.heap.size<=hi) (E:hi<=w'.heap.size)
 (x:OwnS 3 30 IsR w' w.heap.size (fun b=>w.heap.size<=b/\b<hi/\d.ownBlock≠some b) d (C2 (ints n (F k)))) (J:∀b,d.ownBlock=some b->b<hi)
 (hv:OwnS 1 26 IsVal w' base (fun _=>False) g ((List.range k).map hd++[d])) (K:g.ownBlock=q.ownBlock\/∃b,g.ownBlock=some b/\hi<=b):
 TabO w' base (fun b=>S b\/(w.heap.size<=b/\b<hi/\d.ownBlock≠some b)) (U0 (U0 B (7+k) d.ownBlock) 3 g.ownBlock) (k+1) l n (zph hd k d) g y F Q:=by
 have j:∀b,S b->b<w.heap.size:=h.sep.q;have m:=t.size;have H:∀b,(S b\/(w.heap.size<=b/\b<hi/\d.ownBlock≠some b))->S b\/(w.heap.size<=b/\b<w'.heap.size):=fun b a=>a.imp id fun a=>⟨a.1,by omega⟩
 have old:∀(v:f) (p:Nat) (r:List Raw),v.ownBlock=B p->p≠3->OwnS 3 30 IsR w base S v r->OwnS 3 30 IsR w' base (fun b=>S b\/(w.heap.size<=b/\b<hi/\d.ownBlock≠some b)) v r:=fun v p r u I G=>
  zxb h.sep m H (fun b a=> .inl a) u (G.grown IsR.stb t fun b c=>⟨fun z=>h.sep.ne 3 p b (Ne.symm I) c (u▸z),(h.sep.lt 3 b c).2.2⟩)
 have o:=x.own_lt;refine⟨fun i L=> ?_,⟨old _ 4 _ h.rests.2 og h.rests.1,?_⟩,⟨?_,zkn _ _ _▸rfl⟩,?_⟩
 ·by_cases c:i=k
  ·subst c;have e:zph hd i d i=d:=if_pos rfl;rw[e];refine⟨x.higher IsR.stb s (fun b a=> .inr a) fun b a=> ?_,?_⟩
   ·rcases a with a|a
    ·exact⟨C (j b a) m,fun c=>by have:=(o b c.symm).1;have:=j b a;omega⟩
    ·exact⟨by omega,fun c=>a.2.2 c.symm⟩
   ·rw[J8 og,zkn]
  ·have e:zph hd k d i=hd i:=if_neg c;rw[e];refine⟨old _ _ _ (h.rows i og).2 og (h.rows i og).1,?_⟩;rw[J8 og,J8 og];exact(h.rows i og).2
 ·rw[J8 og,J8 og];exact h.rests.2
 ·rw[ymf];exact hv
 ·exact h.sep.two og m s E D (fun b a=>a.imp id fun a=>⟨a.1,a.2.1⟩) (fun b c=>⟨(o b c).1,J b c,fun a=>by
   rcases a with a|a
   ·have:=j b a;have:=(o b c).1;omega
   ·exact a.2.2 c⟩) (by
   rcases K with c|⟨b,e,A⟩
   ·exact .inl (c.trans h.heads.2)
   ·exact .inr ⟨b,e,A,(hv.own_lt b e).2⟩)
theorem TabO.rest {c:f} {T:Nat->Prop} (h:TabO w base S B k l n hd q y F Q) (t:base<=w.heap.size) (e:w.grownBy w' (B 4)) (r:∀b,S b->T b) (g:∀b,T b->S b\/(w.heap.size<=b/\b<w'.heap.size))
 (hv:OwnS 3 30 IsR w' base T c (C2 (ints (l+1) Q))) (u:∀b,c.ownBlock=some b->B 4=some b\/w.heap.size<=b):
 TabO w' base T (U0 B 4 c.ownBlock) k (l+1) n hd q c F Q:=by
 have j:=e.size;refine⟨fun i hi=>⟨?_,?_⟩,⟨hv,(zkn _ _ _).symm⟩,⟨h.heads.1.grown IsVal.stb e fun b a=>⟨fun d=>h.sep.ne 4 3 b og a (h.heads.2▸d),fun x=>x⟩,?_⟩,?_⟩
 ·exact zxb h.sep j g r (h.rows i hi).2 ((h.rows i hi).1.grown IsR.stb e fun b a=>⟨fun d=>h.sep.ne 4 (7+i) b og a ((h.rows i hi).2▸d),(h.sep.lt 4 b a).2.2⟩)
 ·rw[J8 og];exact(h.rows i hi).2
 ·rw[J8 og];exact h.heads.2
 ·obtain⟨A,m,v,z,o⟩:=hv;exact h.sep.upd j t g fun b a=>(u b a).imp id fun p=>⟨p,(m.lt b a).2,fun s=>(o b s).2 a.symm⟩
theorem TabO.place (h:TabO w base S B k l n hd q y F Q) {a:Nat->Option Nat} (e:Sep w base S a) (b:a 3=B 3) (c:a 4=B 4) (d:∀i,a (7+i)=B (7+i)):TabO w base S a k l n hd q y F Q:=
 ⟨fun i hi=>⟨(h.rows i hi).1,by rw[d];exact(h.rows i hi).2⟩,⟨h.rests.1,by rw[c];exact h.rests.2⟩,⟨h.heads.1,by rw[b];exact h.heads.2⟩,e⟩
end
theorem ycx {D:Nat->Nat->Rat} {r c:Nat} (h:D r c≠0):F0 (F0 D r c) r c=D:=by
 have k:=Rat.mul_inv_cancel _ h;have d:F0 D r c r c=(D r c)⁻¹:=(by unfold F0;rw[if_pos rfl,if_pos rfl]);have g:((D r c)⁻¹)⁻¹=D r c:=zub (by rw[Rat.mul_comm];exact k);funext i j;show(if i=r then(if j=c then(F0 D r c r c)⁻¹ else(F0 D r c r c)⁻¹*F0 D r c r j) else if j=c then -((F0 D r c r c)⁻¹*F0 D r c i c) else F0 D r c i j-(F0 D r c r c)⁻¹*F0 D r c i c*F0 D r c r j)=D i j;rw[d,g];by_cases hi:i=r
 ·subst hi;rw[if_pos rfl];by_cases a:j=c
  ·subst a;rw[if_pos rfl]
  ·have:F0 D i c i j=(D i c)⁻¹*D i j:=(by unfold F0;rw[if_pos rfl,if_neg a]);rw[if_neg a,this];grind
 ·rw[if_neg hi];have b:F0 D r c i c= -((D r c)⁻¹*D i c):=(by unfold F0;rw[if_neg hi,if_pos rfl]);by_cases a:j=c
  ·subst a;rw[if_pos rfl,b];grind
  ·have e:F0 D r c r j=(D r c)⁻¹*D r j:=(by unfold F0;rw[if_pos rfl,if_neg a]);have f:F0 D r c i j=D i j-(D r c)⁻¹*D i c*D r j:=(by unfold F0;rw[if_neg hi,if_neg a]);rw[if_neg a,b,e,f];grind
theorem yme (a:Nat->Nat) (i v:Nat):N5 (N5 a i v) i (a i)=a:=by
 funext k;by_cases h:k=i
 ·subst h;rw[zoo]
 ·rw[zop _ _ h,zop _ _ h]
theorem yzb {S:Dic} {r c:Nat} (a:S.D r c≠0):zkj (zkj S r c) r c=S:=by obtain⟨b,o,D⟩:=S;show(⟨N5 (N5 b r (o c)) r (N5 o c (b r) c),N5 (N5 o c (b r)) c (N5 b r (o c) r),F0 (F0 D r c) r c⟩:Dic)=⟨b,o,D⟩;rw[zoo,zoo,yme,yme,ycx a]
theorem Fit1.back {m n r c:Nat} {S:Dic} {x:Nat->Rat} {z t:Rat} (h:Fit1 m n (zkj S r c) x z t) (hr:r<m) (hc:c<n) (a:S.D r c≠0):Fit1 m n S x z t:=by (have b:(zkj S r c).D r c=(S.D r c)⁻¹:=by show F0 S.D r c r c=_;unfold F0;rw[if_pos rfl,if_pos rfl]);have:=h.piv hr hc (by rw[b];exact ybo a);rwa[yzb a] at this
def Eqv (m n:Nat) (S T:Dic):Prop:=∀x z s,Fit1 m n S x z s↔Fit1 m n T x z s
theorem Eqv.refl (m n:Nat) (S:Dic):Eqv m n S S:=fun _ _ _=>Iff.rfl
theorem Eqv.piv {m n r c:Nat} {S T:Dic} (h:Eqv m n S T) (hr:r<m) (hc:c<n) (a:T.D r c≠0):Eqv m n S (zkj T r c):=fun x z s=>⟨fun k=>((h x z s).1 k).piv hr hc a,fun k=>(h x z s).2 (k.back hr hc a)⟩
def M0 (m n:Nat) (a:Nat->Nat->Rat) (b c:Nat->Rat):Dic:=⟨fun i=>n+i,fun j=>j,fun i j=>if i<m then(if j<n then a i j else b i) else if j<n then -(c j) else 0⟩
theorem zz1424 (n m:Nat) (a:Nat->Rat):C4 (n+m) a=C4 n a+C4 m fun i=>a (n+i):=by
 induction m with
 |zero=>simp only[C4,Nat.add_zero];grind
 |succ m ih=>rw[<-Nat.add_assoc,C4,ih,C4];grind
section
variable {m n : Nat} {a : Nat → Nat → Rat} {b c : Nat → Rat}
theorem ybb (X:Nat->Rat) (s:Rat):Fit1 m n (M0 m n a b c) (fun v=>if v<n then X v else b (v-n)*s-C4 n fun j=>a (v-n) j*X j) (C4 n fun j=>c j*X j) s where
 row i hi:=by
  show(if n+i<n then X (n+i) else b (n+i-n)*s-C4 n fun j=>a (n+i-n) j*X j)+C4 n (fun j=>(if i<m then(if j<n then a i j else b i) else if j<n then -(c j) else 0)*(if j<n then X j else _))=(if i<m then(if n<n then a i n else b i) else _)*s
  rw[if_neg og,if_pos hi,if_neg og,Nat.add_sub_cancel_left]
  have e:C4 n (fun j=>(if i<m then(if j<n then a i j else b i) else if j<n then -(c j) else 0)*(if j<n then X j else b (j-n)*s-C4 n fun k=>a (j-n) k*X k))=C4 n fun j=>a i j*X j:=R4 fun j d=>by rw[if_pos hi,if_pos d,if_pos d]
  have f:=Eq.trans (show C4 n (fun j=>(if i<m then(if j<n then a i j else b i) else if j<n then -(c j) else 0)*(if j<n then X j else b ((M0 m n a b c).oth j-n)*s-C4 n fun k=>a ((M0 m n a b c).oth j-n) k*X k))=_ from rfl) e
  rw[f];grind
 obj:=by show(C4 n fun j=>c j*X j)+C4 n (fun j=>(if m<m then(if j<n then a m j else b m) else if j<n then -(c j) else 0)*(if j<n then X j else _))=(if m<m then(if n<n then a m n else b m) else if n<n then -(c n) else 0)*s;rw[if_neg og,if_neg og];have e:C4 n (fun j=>(if m<m then(if j<n then a m j else b m) else if j<n then -(c j) else 0)*(if j<n then X j else b (j-n)*s-C4 n fun k=>a (j-n) k*X k))=(-1)*C4 n fun j=>c j*X j:=(by rw[<-zor];exact R4 fun j d=>by rw[if_neg og,if_pos d,if_pos d];grind);have f:=Eq.trans (show C4 n (fun j=>(if m<m then(if j<n then a m j else b m) else if j<n then -(c j) else 0)*(if j<n then X j else b ((M0 m n a b c).oth j-n)*s-C4 n fun k=>a ((M0 m n a b c).oth j-n) k*X k))=_ from rfl) e;rw[f];grind
theorem yvn {y:Nat->Rat} (h:∀x z s,Fit1 m n (M0 m n a b c) x z s->al*z+C4 (n+m) (fun v=>y v*x v)=V*s):
 (C4 m fun i=>b i*y (n+i))=V/\∀k,k<n->al*c k+y k=C4 m fun i=>a i k*y (n+i):=by
 have sp:∀x:Nat->Rat,(C4 (n+m) fun v=>y v*x v)=(C4 n fun v=>y v*x v)+C4 m fun i=>y (n+i)*x (n+i):=fun x=>zz1424 n m _;constructor
 ·have d:=h _ _ _ (ybb (fun _=>0) 1);rw[sp] at d;have e:(C4 n fun v=>y v*(if v<n then(0:Rat) else b (v-n)*1-C4 n fun j=>a (v-n) j*0))=0:=zlp fun v hv=>(by rw[if_pos hv];grind);have f:(C4 m fun i=>y (n+i)*(if n+i<n then(0:Rat) else b (n+i-n)*1-C4 n fun j=>a (n+i-n) j*0))=C4 m fun i=>b i*y (n+i):=R4 fun i hi=>(by rw[if_neg og,Nat.add_sub_cancel_left,zlp fun j _=>by grind];grind);have l:(C4 n fun j=>c j*0)=0:=zlp fun j _=>(by grind);rw[e,f,l] at d;grind
 ·intro k p;have d:=h _ _ _ (ybb (fun v=>if v=k then 1 else 0) 0);rw[sp] at d;have one:∀g:Nat->Rat,(C4 n fun j=>g j*(if j=k then(1:Rat) else 0))=g k:=fun g=>(by rw[znb p fun j _ o=>by rw[if_neg o];grind,if_pos rfl];grind);have e:(C4 n fun v=>y v*(if v<n then(if v=k then(1:Rat) else 0) else b (v-n)*0-C4 n fun j=>a (v-n) j*(if j=k then 1 else 0)))=y k:=(by rw[<-one y];exact R4 fun v hv=>by rw[if_pos hv]);have f:(C4 m fun i=>y (n+i)*(if n+i<n then(if n+i=k then(1:Rat) else 0) else b (n+i-n)*0-C4 n fun j=>a (n+i-n) j*(if j=k then 1 else 0)))=(-1)*C4 m fun i=>a i k*y (n+i):=(by rw[<-zor];exact R4 fun i hi=>by rw[if_neg og,Nat.add_sub_cancel_left,one (a i)];grind);rw[e,f,one c] at d;grind
theorem yka {x:Nat->Rat} {z s:Rat} (h:Fit1 m n (M0 m n a b c) x z s):(∀i,i<m->x (n+i)+C4 n (fun j=>a i j*x j)=b i*s)/\z=C4 n fun j=>c j*x j:=by
 constructor
 ·intro i hi;have:=h.row i hi;(have d:(C4 n fun j=>(M0 m n a b c).D i j*x ((M0 m n a b c).oth j))=C4 n fun j=>a i j*x j:=R4 fun j f=>by show(if i<m then(if j<n then a i j else b i) else _)*x j=_;rw[if_pos hi,if_pos f]);(have e:(M0 m n a b c).D i n=b i:=by show(if i<m then(if n<n then a i n else b i) else _)=_;rw[if_pos hi,if_neg og]);rw[d,e] at this;exact this
 ·have:=h.obj;(have d:(C4 n fun j=>(M0 m n a b c).D m j*x ((M0 m n a b c).oth j))=(-1)*C4 n fun j=>c j*x j:=by rw[<-zor];exact R4 fun j f=>by show(if m<m then(if j<n then a m j else b m) else if j<n then -(c j) else 0)*x j=_;rw[if_neg og,if_pos f];grind);(have e:(M0 m n a b c).D m n=0:=by show(if m<m then(if n<n then a m n else b m) else if n<n then -(c n) else 0)=_;rw[if_neg og,if_neg og]);rw[d,e] at this;grind
end
def Z7 (n:Nat) (o:Nat->Nat) (a:Nat->Rat) (v:Nat):Rat:=C4 n fun j=>if o j=v then a j else 0
theorem yny {n:Nat} {o:Nat->Nat} {a:Nat->Rat} (h:∀j,j<n->0<=a j) (v:Nat):0<=Z7 n o a v:=by
 have:∀k,k<=n->0<=C4 k fun j=>if o j=v then a j else 0:=fun k=>by
  induction k with
  |zero=>intro _;exact Rat.le_refl
  |succ k ih=>
   intro d;have b:=ih og
   have c:0<=if o k=v then a k else 0:=by
    split
    ·exact h k og
    ·exact Rat.le_refl
   rw[C4];grind
 exact this n (D _)
theorem ynz {n b:Nat} {o:Nat->Nat} (d:∀j,j<n->o j<b) (a x:Nat->Rat):(C4 b fun v=>Z7 n o a v*x v)=C4 n fun j=>a j*x (o j):=by
 induction n with
 |zero=>exact zlp fun v _=>by show Z7 0 o a v*x v=0;unfold Z7;simp only[C4];grind
 |succ n ih=>
  have g:(C4 b fun v=>Z7 (n+1) o a v*x v)=(C4 b fun v=>Z7 n o a v*x v)+C4 b fun v=>if v=o n then a n*x v else 0:=by
   rw[<-zto];refine R4 fun v _=> ?_;show Z7 (n+1) o a v*x v=Z7 n o a v*x v+_;have:Z7 (n+1) o a v=Z7 n o a v+if o n=v then a n else 0:=rfl;rw[this];by_cases h:v=o n
   ·rw[if_pos h,if_pos h.symm];grind
   ·rw[if_neg h,if_neg (Ne.symm h)];grind
  rw[g,ih fun j c=>d j og,znb (d n og) fun j _ c=>if_neg c,if_pos rfl,C4]
section
variable {m n : Nat} {a : Nat → Nat → Rat} {b c : Nat → Rat} {S : Dic}
theorem yhh (e:Dist m n S) {X:Nat->Rat} {s:Rat} (f:∀j,j<n->0<=X j) (g:∀i,i<m->0<=zka m n S X s (S.bas i)) (v:Nat):0<=zka m n S X s v:=by
 by_cases c:∃i,i<m/\S.bas i=v
 ·obtain⟨i,hi,rfl⟩:=c;exact g i hi
 ·by_cases d:∃j,j<n/\S.oth j=v
  ·obtain⟨j,a,rfl⟩:=d;rw[zyb e X s a];exact f j a
  ·rw[yhi X s (fun i hi b=>c ⟨i,hi,b⟩) (fun j a b=>d ⟨j,a,b⟩)];exact Rat.le_refl
theorem yfi (d:Dist m n S) (o:Eqv m n (M0 m n a b c) S) (h:∀i,i<m->0<=S.D i n):
 (∀v,0<=zka m n S (fun _=>0) 1 v)/\(∀i,i<m->C4 n (fun j=>a i j*zka m n S (fun _=>0) 1 j)<=b i)/\(C4 n fun j=>c j*zka m n S (fun _=>0) 1 j)=S.D m n:=by
 have g:∀e:Nat->Rat,(C4 n fun j=>e j*(0:Rat))=0:=fun e=>zlp fun j _=>(by grind);have f:∀v,0<=zka m n S (fun _=>0) 1 v:=yhh d (fun _ _=>Rat.le_refl) fun i hi=>(by rw[zvo d _ _ hi,g];have:=h i hi;grind);obtain⟨k,l⟩:=yka ((o _ _ _).2 (zya d (fun _=>0) 1));refine⟨f,fun i hi=> ?_,?_⟩
 ·have:=k i hi;have:=f (n+i);grind
 ·rw[<-l,g];grind
theorem yfj (d:Eqv m n (M0 m n a b c) S) {y:Nat->Rat} (h:∀x z s,Fit1 m n S x z s->al*z+C4 (n+m) (fun v=>y v*x v)=V*s):
 (C4 m fun i=>b i*y (n+i))=V/\∀k,k<n->al*c k+y k=C4 m fun i=>a i k*y (n+i):=yvn fun x z s hf=>h x z s ((d x z s).1 hf)
theorem yqq (f:Eqv m n (M0 m n a b c) S) (h:∀j,j<n->S.oth j<n+m) (hc:∀j,j<n->0<=S.D m j):
 (C4 m fun i=>b i*Z7 n S.oth (S.D m) (n+i))=S.D m n/\(∀k,k<n->c k<=C4 m fun i=>a i k*Z7 n S.oth (S.D m) (n+i))/\∀v,0<=Z7 n S.oth (S.D m) v:=by have d:=yfj (y:=Z7 n S.oth (S.D m)) (al:=1) (V:=S.D m n) f fun x z s hf=>(by rw[ynz h];have:=hf.obj;grind);have e:=yny (o:=S.oth) hc;refine⟨d.1,fun k g=> ?_,e⟩;have:=d.2 k g;have:=e k;grind
theorem yqr (g:Eqv m n (M0 m n a b c) S) (q:∀j,j<n->S.oth j<n+m) {r:Nat} (hr:r<m) (l:S.bas r<n+m) (hc:∀j,j<n->0<=S.D r j):
 (C4 m fun i=>b i*(Z7 n S.oth (S.D r) (n+i)+if S.bas r=n+i then 1 else 0))=S.D r n/\(∀k,k<n->0<=C4 m fun i=>a i k*(Z7 n S.oth (S.D r) (n+i)+if S.bas r=n+i then 1 else 0))/\∀v,0<=Z7 n S.oth (S.D r) v+if S.bas r=v then 1 else 0:=by
 have d:=yfj (y:=fun v=>Z7 n S.oth (S.D r) v+if S.bas r=v then 1 else 0) (al:=0) (V:=S.D r n) g fun x z s hf=>by
  have f:(C4 (n+m) fun v=>(Z7 n S.oth (S.D r) v+if S.bas r=v then 1 else 0)*x v)=(C4 (n+m) fun v=>Z7 n S.oth (S.D r) v*x v)+C4 (n+m) fun v=>if v=S.bas r then x v else 0:=by
   rw[<-zto];refine R4 fun v _=> ?_;by_cases h:S.bas r=v
   ·rw[if_pos h,if_pos h.symm];grind
   ·rw[if_neg h,if_neg (Ne.symm h)];grind
  show 0*z+(C4 (n+m) fun v=>(Z7 n S.oth (S.D r) v+if S.bas r=v then 1 else 0)*x v)=_;rw[f,ynz q,znb l fun j _ o=>if_neg o,if_pos rfl];have:=hf.row r hr;grind
 have e:∀v,0<=Z7 n S.oth (S.D r) v+if S.bas r=v then 1 else 0:=fun v=>(by have:=yny (o:=S.oth) hc v;split<;>grind);refine⟨d.1,fun k p=> ?_,e⟩;have t:=d.2 k p;have u:=e k;grind
theorem yqs (e:Dist m n S) (l:Eqv m n (M0 m n a b c) S) {k:Nat} (p:k<n) (hc:S.D m k<0) (hr:∀i,i<m->S.D i k<=0):
 (∀v,0<=zka m n S (fun j=>if j=k then 1 else 0) 0 v)/\(∀i,i<m->C4 n (fun j=>a i j*zka m n S (fun j=>if j=k then 1 else 0) 0 j)<=0)/\0<C4 n fun j=>c j*zka m n S (fun j=>if j=k then 1 else 0) 0 j:=by
 have one:∀d:Nat->Rat,(C4 n fun j=>d j*(if j=k then(1:Rat) else 0))=d k:=fun d=>(by rw[znb p fun j _ o=>by rw[if_neg o];grind,if_pos rfl];grind);have f:∀v,0<=zka m n S (fun j=>if j=k then 1 else 0) 0 v:=yhh e (fun j _=>by split<;>grind) fun i hi=>(by rw[zvo e _ _ hi,one];have:=hr i hi;grind);obtain⟨g,h⟩:=yka ((l _ _ _).2 (zya e (fun j=>if j=k then 1 else 0) 0));refine⟨f,fun i hi=> ?_,?_⟩
 ·have:=g i hi;have:=f (n+i);grind
 ·rw[<-h,one];grind
end
end Go.Proofs.YtlhhbccgfkhflaaGreatDoor
