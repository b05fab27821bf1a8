/-
 A search of package simplex in memory.
-/
import Derived.Test.YtdgilbgdkmhcmaaGreatDoorProofSimplexProves07
namespace Go.Proofs.YtdgilbgdkmhcmaaGreatDoor
open Go.RowKit
set_option linter.unusedVariables false
set_option maxRecDepth 100000
set_option maxHeartbeats 8000000
open _root_.Nat renaming le_refl → y, le_trans → B, lt_of_lt_of_le → E
open _root_.List renaming getD_eq_getElem?_getD → p, getElem?_eq_getElem → C, mem_of_getElem? → q, getElem?_map → D
open _root_.And renaming intro → s
variable {M i j k l r u : Nat} {N key o : Nat → Nat} {T : Dic} {V al t : Rat} {f : Nat → Rat}
structure Lay where
 bk:Nat->Nat
 cp:Nat->Nat
 ha:Nat->Option Addr
 r0:Nat
 rc:Nat
 ra:Option Addr
 bb:Nat
 bc:Nat
 ba:Option Addr
 ob:Nat
 oc:Nat
 oa:Option Addr
 sb:Nat
 sp:Nat
 sa:Option Addr
def L4 (m n l:Nat):Nat:=if l=m then m else n
def Y7 (t:TB) (m n l j:Nat):Int:=if l=m then t.A j n else if l=m+1 then -(t.A m j) else t.A l j
theorem J5 {m n:Nat} (h:i<m):L4 m n i=n:=if_neg og
theorem W4 (m n:Nat):L4 m n m=m:=if_pos rfl
theorem Z6 (m n:Nat):L4 m n (m+1)=n:=if_neg og
theorem zqa {t:TB} {m n:Nat} (h:i<m):Y7 t m n i j=t.A i j:=by unfold Y7;rw[if_neg og,if_neg og]
theorem ybh (t:TB) (m n j:Nat):Y7 t m n (m+1) j= -(t.A m j):=by unfold Y7;rw[if_neg og,if_pos rfl]
theorem ztr (t:TB) (m n j:Nat):Y7 t m n m j=t.A j n:=if_pos rfl
def zvx (L:Lay) (m n:Nat) (z:Int) (d top:Nat) (a:Option Addr) (k:Nat) (b:Option Addr) (l:Nat) (D:Option Addr) (c:Nat) (T:Option Addr) (f:Nat) (st e steps:Int):List Value:=
 [.slice L.ba m L.bc,.slice L.oa n L.oc,.slice L.ra m L.rc,.slice (L.ha m) m (L.cp m),.slice (L.ha (m+1)) n (L.cp (m+1)),.bool (decide (z<0)),.slice a (A9 z.natAbs).length k,.slice b (A9 1).length l,.slice D (A9 d).length c,.slice L.sa (m+n) L.sp,.slice T (A9 top).length f,.int .i64 st,.int .i64 e,.int .i64 steps]
structure SchG (w:World) (S:Nat->Prop) (lo0 lo g:Nat) (L:Lay) (m n:Nat) (sc:Nat->Nat) (top:Nat) (F:Nat->Nat->Int) (z:Int) (d:Nat) (bas oth:List Nat) (st e steps:Int):Prop where
 tab:TabW w S lo L.bk L.cp (m+2) (L4 m n) F
 hv:∀l,l<m+2->1<=L4 m n l->L.ha l=some ⟨L.bk l,0,none⟩
 cap:∀l,l<m+2->L4 m n l<=L.cp l/\L.cp l<=maxLen
 row:∃P k Q l D cd T ct,Row w g 96 (zvx L m n z d top P k Q l D cd T ct st e steps)/\
  IsQ w (SN S lo w) (.agg #[.bool (decide (z<0)),.slice P (A9 z.natAbs).length k,.slice Q (A9 1).length l]) ((z:Int):Rat)/\G0 w (SN S lo w) (.slice D (A9 d).length cd) d/\G0 w (SN S lo w) (.slice T (A9 top).length ct) top
 hd:∀i,i<m->L.ra=some ⟨L.r0,0,none⟩/\S L.r0/\w.cell? ⟨L.r0,i,none⟩=some (.slice (L.ha i) n (L.cp i))
 caps:m<=L.rc/\L.rc<=maxLen/\m<=L.bc/\L.bc<=maxLen/\n<=L.oc/\L.oc<=maxLen/\m+n<=L.sp/\L.sp<=maxLen
 basW:1<=m->L.ba=some ⟨L.bb,0,none⟩/\IntW w L.bb m (fun i=>bas.getD i 0)
 othW:1<=n->L.oa=some ⟨L.ob,0,none⟩/\IntW w L.ob n (fun j=>oth.getD j 0)
 scl:∀v,v∈bas++oth->L.sa=some ⟨L.sb,0,none⟩/\S L.sb/\∃P k,w.cell? ⟨L.sb,v,none⟩=some (.slice P (A9 (sc v)).length k)/\G0 w S (.slice P (A9 (sc v)).length k) (sc v)
 gS:lo0<=g/\g<lo/\¬S g
 bS:1<=m->lo0<=L.bb/\L.bb<lo/\¬S L.bb/\L.bb≠g
 oS:1<=n->lo0<=L.ob/\L.ob<lo/\¬S L.ob/\L.ob≠g
 bo:1<=m->1<=n->L.bb≠L.ob
 lS:∀l,l<m+2->1<=L4 m n l->lo0<=L.bk l/\L.bk l≠g/\(1<=m->L.bk l≠L.bb)/\(1<=n->L.bk l≠L.ob)
 len:bas.length=m/\oth.length=n
abbrev O7 (w:World) (S:Nat->Prop) (lo0 lo g:Nat) (L:Lay) (m n:Nat) (sc:Nat->Nat) (top:Nat) (t:TB) (st e steps:Int):Prop:=SchG w S lo0 lo g L m n sc top (Y7 t m n) (t.A m n) t.d t.bas t.oth st e steps
section
variable {w w' : World} {S : Nat → Prop} {lo0 lo g m n top : Nat} {L : Lay} {sc : Nat → Nat} {F : Nat → Nat → Int} {z : Int} {d : Nat} {bas oth : List Nat} {st e steps : Int}
theorem SchG.open (h:SchG w S lo0 lo g L m n sc top F z d bas oth st e steps):∃b k c l D f T i,(Row w g 96 (zvx L m n z d top b k c l D f T i st e steps)/\
 IsQ w (SN S lo w) (.agg #[.bool (decide (z<0)),.slice b (A9 z.natAbs).length k,.slice c (A9 1).length l]) ((z:Int):Rat)/\G0 w (SN S lo w) (.slice D (A9 d).length f) d/\G0 w (SN S lo w) (.slice T (A9 top).length i) top)/\
 (w.cell? ⟨g,0,none⟩=some (.slice L.ba m L.bc)/\w.cell? ⟨g,1,none⟩=some (.slice L.oa n L.oc)/\w.cell? ⟨g,2,none⟩=some (.slice L.ra m L.rc)/\w.cell? ⟨g,3,none⟩=some (.slice (L.ha m) m (L.cp m))/\w.cell? ⟨g,4,none⟩=some (.slice (L.ha (m+1)) n (L.cp (m+1))))/\
 (w.cell? ⟨g,5,none⟩=some (.bool (decide (z<0)))/\w.cell? ⟨g,6,none⟩=some (.slice b (A9 z.natAbs).length k)/\w.cell? ⟨g,7,none⟩=some (.slice c (A9 1).length l))/\
 (w.cell? ⟨g,8,none⟩=some (.slice D (A9 d).length f)/\w.cell? ⟨g,9,none⟩=some (.slice L.sa (m+n) L.sp)/\w.cell? ⟨g,10,none⟩=some (.slice T (A9 top).length i))/\
 (w.cell? ⟨g,11,none⟩=some (.int .i64 st)/\w.cell? ⟨g,12,none⟩=some (.int .i64 e)/\w.cell? ⟨g,13,none⟩=some (.int .i64 steps)):=by obtain⟨b,k,c,l,D,f,T,i,a,j,o,p⟩:=h.row;exact⟨b,k,c,l,D,f,T,i,⟨a,j,o,p⟩,⟨a.cell 0,a.cell 1,a.cell 2,a.cell 3,a.cell 4⟩,⟨a.cell 5,a.cell 6,a.cell 7⟩,⟨a.cell 8,a.cell 9,a.cell 10⟩,a.cell 11,a.cell 12,a.cell 13⟩
theorem SchG.sn_lt (h:SchG w S lo0 lo g L m n sc top F z d bas oth st e steps):∀b,SN S lo w b->b<w.heap.size:=fun b c=>by
 rcases c with a|a
 ·exact E (h.tab.sS b a) h.tab.hlo
 ·exact a.2
theorem SchG.same (h:SchG w S lo0 lo g L m n sc top F z d bas oth st e steps) {r:Option Nat} (hg:w.grownBy w' r) (hr:∀b,r=some b->b<lo/\¬S b):L1 (SN S lo w) (SN S lo w') w w':=fun b a=>⟨zql hg.size b a,fun o=>World.cell?_of_block (hg.block b (h.sn_lt b a) fun c=>by
 have:=hr b c.symm
 rcases a with a|a
 ·exact this.2 a
 ·have:=a.1;omega)⟩
theorem SchG.hd_next (h:SchG w S lo0 lo g L m n sc top F z d bas oth st e steps) {r:Option Nat} (hg:w.grownBy w' r) (hr:∀b,r=some b->b<lo/\¬S b):∀i,i<m->L.ra=some ⟨L.r0,0,none⟩/\S L.r0/\w'.cell? ⟨L.r0,i,none⟩=some (.slice (L.ha i) n (L.cp i)):=fun i j=>by
 obtain⟨c,a,f⟩:=h.hd i j
 exact⟨c,a,((h.same hg hr _ (.inl a)).2 _).trans f⟩
theorem SchG.scl_next (h:SchG w S lo0 lo g L m n sc top F z d bas oth st e steps) {r:Option Nat} (hg:w.grownBy w' r) (hr:∀b,r=some b->b<lo/\¬S b):∀v,v∈bas++oth->L.sa=some ⟨L.sb,0,none⟩/\S L.sb/\∃a k,w'.cell? ⟨L.sb,v,none⟩=some (.slice a (A9 (sc v)).length k)/\G0 w' S (.slice a (A9 (sc v)).length k) (sc v):=fun v hv=>by
 obtain⟨i,c,a,k,j,l⟩:=h.scl v hv
 exact⟨i,c,a,k,((h.same hg hr _ (.inl c)).2 _).trans j,IsK.stb.to l fun b f=>⟨f,(h.same hg hr b (.inl f)).2⟩⟩
theorem SchG.row_next (h:SchG w S lo0 lo g L m n sc top F z d bas oth st e steps) {r:Option Nat} (hg:w.grownBy w' r) (hr:∀b,r=some b->b<lo/\¬S b/\b≠g):∃a k c l D f T i,Row w' g 96 (zvx L m n z d top a k c l D f T i st e steps)/\
 IsQ w' (SN S lo w') (.agg #[.bool (decide (z<0)),.slice a (A9 z.natAbs).length k,.slice c (A9 1).length l]) ((z:Int):Rat)/\G0 w' (SN S lo w') (.slice D (A9 d).length f) d/\G0 w' (SN S lo w') (.slice T (A9 top).length i) top:=by obtain⟨a,k,c,l,D,f,T,i,p,q,s,t⟩:=h.row;have o:=h.same hg fun b j=>⟨(hr b j).1,(hr b j).2.1⟩;exact⟨a,k,c,l,D,f,T,i,p.grownN hg fun b j=>Ne.symm (hr b j).2.2,IsQ.stb.to q o,IsK.stb.to s o,IsK.stb.to t o⟩
theorem SchG.grown (h:SchG w S lo0 lo g L m n sc top F z d bas oth st e steps) {r:Option Nat} (hg:w.grownBy w' r) (hr:∀b,r=some b->b<lo/\¬S b/\b≠g/\(1<=m->b≠L.bb)/\(1<=n->b≠L.ob)/\∀l,l<m+2->1<=L4 m n l->L.bk l≠b):
 SchG w' S lo0 lo g L m n sc top F z d bas oth st e steps:=
 {h with
  tab:=h.tab.grown hg fun b a=>⟨(hr b a).1,(hr b a).2.1,(hr b a).2.2.2.2.2⟩
  row:=h.row_next hg fun b a=>⟨(hr b a).1,(hr b a).2.1,(hr b a).2.2.1⟩
  hd:=h.hd_next hg fun b a=>⟨(hr b a).1,(hr b a).2.1⟩
  basW:=fun c=>⟨(h.basW c).1,(h.basW c).2.keep (hg.block _ (h.basW c).2.lt fun a=>(hr _ a.symm).2.2.2.1 c rfl)⟩
  othW:=fun c=>⟨(h.othW c).1,(h.othW c).2.keep (hg.block _ (h.othW c).2.lt fun a=>(hr _ a.symm).2.2.2.2.1 c rfl)⟩
  scl:=h.scl_next hg fun b a=>⟨(hr b a).1,(hr b a).2.1⟩}
theorem SchG.next (h:SchG w S lo0 lo g L m n sc top F z d bas oth st e steps) (c:Below w.heap.size w w'):SchG w' S lo0 lo g L m n sc top F z d bas oth st e steps:=h.grown (r:=none) (K7 c) fun b a=>by cases a
theorem SchG.line (h:SchG w S lo0 lo g L m n sc top F z d bas oth st e steps) (i:l<m+2) (a:1<=L4 m n l) (hg:w.grownBy w' (some (L.bk l))) {f:Nat->Int} (p:LineW w' (SN S lo w') (L.bk l) (L.cp l) (L4 m n l) f):
 SchG w' S lo0 lo g L m n sc top (fun k=>if k=l then f else F k) z d bas oth st e steps:=by
 have o:=h.tab.sep l i a;have j:=h.lS l i a;have hr:∀b,some (L.bk l)=some b->b<lo/\¬S b:=fun b c=>by cases c;exact o
 exact {h with
  tab:=h.tab.upd i a hg p
  row:=h.row_next hg fun b c=>by cases c;exact⟨o.1,o.2,j.2.1⟩
  hd:=h.hd_next hg hr
  basW:=fun a=>⟨(h.basW a).1,(h.basW a).2.keep (hg.block _ (h.basW a).2.lt fun c=>j.2.2.1 a (by injection c with c;exact c.symm))⟩
  othW:=fun a=>⟨(h.othW a).1,(h.othW a).2.keep (hg.block _ (h.othW a).2.lt fun c=>j.2.2.2 a (by injection c with c;exact c.symm))⟩
  scl:=h.scl_next hg hr}
theorem SchG.cells (h:SchG w S lo0 lo g L m n sc top F z d bas oth st e steps) (hg:w.grownBy w' (some g)) {f:Int} {i:Nat} {s q t:Int}
 (u:∃j k o l D p T r,Row w' g 96 (zvx L m n f i top j k o l D p T r s q t)/\
   IsQ w' (SN S lo w') (.agg #[.bool (decide (f<0)),.slice j (A9 f.natAbs).length k,.slice o (A9 1).length l]) ((f:Int):Rat)/\G0 w' (SN S lo w') (.slice D (A9 i).length p) i/\G0 w' (SN S lo w') (.slice T (A9 top).length r) top):
 SchG w' S lo0 lo g L m n sc top F f i bas oth s q t:=by
 have hr:∀b,some g=some b->b<lo/\¬S b:=fun b c=>by cases c;exact h.gS.2
 exact {h with
  tab:=h.tab.grown hg fun b c=>by cases c;exact⟨h.gS.2.1,h.gS.2.2,fun l v a=>(h.lS l v a).2.1⟩
  row:=u
  hd:=h.hd_next hg hr
  basW:=fun a=>⟨(h.basW a).1,(h.basW a).2.keep (hg.block _ (h.basW a).2.lt fun c=>(h.bS a).2.2.2 (by injection c with c))⟩
  othW:=fun a=>⟨(h.othW a).1,(h.othW a).2.keep (hg.block _ (h.othW a).2.lt fun c=>(h.oS a).2.2.2 (by injection c with c))⟩
  scl:=h.scl_next hg hr}
theorem SchG.g_lt (h:SchG w S lo0 lo g L m n sc top F z d bas oth st e steps):g<w.heap.size:=E h.gS.2.1 h.tab.hlo
theorem SchG.nums (h:SchG w S lo0 lo g L m n sc top F z d bas oth st e steps) {G:Nat->Nat->Int} (a:∀l j,l<m+2->j<L4 m n l->F l j=G l j):SchG w S lo0 lo g L m n sc top G z d bas oth st e steps:={h with tab:=h.tab.same a}
theorem SchG.el (h:SchG w S lo0 lo g L m n sc top F z d bas oth st e steps) (p:l<m+2) (s:j<L4 m n l):∃f k i q,L.ha l=some ⟨L.bk l,0,none⟩/\w.cell? ⟨L.bk l,j*3,none⟩=some (.bool (decide (F l j<0)))/\w.cell? ⟨L.bk l,j*3+1,none⟩=some (.slice f (A9 (F l j).natAbs).length k)/\w.cell? ⟨L.bk l,j*3+2,none⟩=some (.slice i (A9 1).length q)/\
 IsQ w (C2 w) (.agg #[.bool (decide (F l j<0)),.slice f (A9 (F l j).natAbs).length k,.slice i (A9 1).length q]) ((F l j:Int):Rat):=by have o:1<=L4 m n l:=og;obtain⟨f,k,i,q,a,b,c,r⟩:=(h.tab.line l p o).el j s;exact⟨f,k,i,q,h.hv l p o,a,b,c,IsQ.stb.to r (E0 h.sn_lt)⟩
theorem SchG.elS (h:SchG w S lo0 lo g L m n sc top F z d bas oth st e steps) (p:l<m+2) (s:j<L4 m n l):∃f k i q,L.ha l=some ⟨L.bk l,0,none⟩/\w.cell? ⟨L.bk l,j*3,none⟩=some (.bool (decide (F l j<0)))/\w.cell? ⟨L.bk l,j*3+1,none⟩=some (.slice f (A9 (F l j).natAbs).length k)/\w.cell? ⟨L.bk l,j*3+2,none⟩=some (.slice i (A9 1).length q)/\
 IsQ w (SN S lo w) (.agg #[.bool (decide (F l j<0)),.slice f (A9 (F l j).natAbs).length k,.slice i (A9 1).length q]) ((F l j:Int):Rat):=by have o:1<=L4 m n l:=og;obtain⟨f,k,i,q,a,b,c,r⟩:=(h.tab.line l p o).el j s;exact⟨f,k,i,q,h.hv l p o,a,b,c,r⟩
end
def M8:Option Nat->Int
 |none=> -1
 |some k=>(k:Int)
theorem zwk (a:Nat->Bool) (key:Nat->Nat) (k:Nat):T6 a key (k+1)=match T6 a key k with
 |none=>if a k then some k else none
 |some b=>if a k&&decide (key k<key b) then some k else some b:=rfl
theorem ybq {a:Nat->Bool} (h:a k=false):M8 (T6 a key (k+1))=M8 (T6 a key k):=by rw[zwk,h];cases T6 a key k<;>rfl
theorem ybp {a:Nat->Bool} (h:a k=true) (b:T6 a key k=none):M8 (T6 a key (k+1))=(k:Int):=by rw[zwk,h,b];rfl
theorem ybo {a:Nat->Bool} {b:Nat} (h:a k=true) (c:T6 a key k=some b) (d:key k<key b):M8 (T6 a key (k+1))=(k:Int):=by rw[zwk,h,c];show M8 (if true&&decide (key k<key b) then some k else some b)=_;rw[decide_eq_true d];rfl
theorem ybr {a:Nat->Bool} {b:Nat} (h:a k=true) (c:T6 a key k=some b) (d:¬key k<key b):M8 (T6 a key (k+1))=(b:Int):=by rw[zwk,h,c];show M8 (if true&&decide (key k<key b) then some k else some b)=_;rw[decide_eq_false d];rfl
def H7 (z:Int) (u d v:Nat):Rat:=((z:Rat)*((u:Nat):Rat))/(((d:Nat):Rat)*((v:Nat):Rat))
theorem yhu {z:Int} {d v:Nat}:H7 z u d v=mkRat (sg (decide (z<0)) (z.natAbs*u)) (d*v):=by
 have a:sg (decide (z<0)) (z.natAbs*u)=z*(u:Int):=by
  rcases Int.lt_or_le z 0 with h|h
  ·rw[decide_eq_true h];unfold sg;have:((z.natAbs:Nat):Int)= -z:=og;simp only[if_true,Int.natCast_mul,this];rw[Int.neg_mul,Int.neg_neg]
  ·rw[decide_eq_false og];unfold sg;have:((z.natAbs:Nat):Int)=z:=og;simp[this]
 rw[a,Rat.mkRat_eq_div,Rat.intCast_mul];unfold H7;congr 1;exact(Rat.natCast_mul d v).symm
theorem zss {w:World} {g d dn:Nat} {z:Int} {vx ak aj:Value} {D:Option Addr} {V:Nat} (hg:w.cell? ⟨g,8,none⟩=some (.slice D (A9 d).length V)) (hD:G0 w (C2 w) (.slice D (A9 d).length V) d) (I:IsQ w (C2 w) vx ((z:Int):Rat)) (G:G0 w (C2 w) ak u) (hv:G0 w (C2 w) aj dn) (ab:Bru w)
 (X:(A9 z.natAbs).length<=100000) (Y:(A9 u).length<=100000) (Z:(A9 d).length<=100000) (aa:(A9 dn).length<=100000) (v:0<d) (x:0<dn):
 Calls Tryz.prog 135 #[.pointer (some ⟨g,0,none⟩),vx,ak,aj] w (U9 w (H7 z u d dn)):=by
 obtain⟨O,aG,Q,R,aD,i⟩:=zpe hD I G hv ab (s X (s Y (s Z (s aa (s v x)))));obtain⟨aI,k,aJ,l,rfl⟩:=zku I;obtain⟨A,a3,rfl,aQ⟩:=zso (E9 G);obtain⟨C,a4,rfl,aR⟩:=zso (E9 hv);have o:=Lib.hid (zmq aG.out);rw[Rat.num_intCast] at o;obtain⟨n,j⟩:=nm (decide (z<0));obtain⟨aW,J⟩:=nm ((A9 z.natAbs).length);obtain⟨aX,ah⟩:=nm ((A9 1).length);obtain⟨u1,H⟩:=nm ((A9 u).length);obtain⟨a6,ad⟩:=nm ((A9 d).length);obtain⟨bf,E⟩:=nm ((A9 dn).length);rw[<-j,<-J,<-ah,<-H,<-E];rw[<-J] at o;rw[<-H] at Q;rw[<-ad] at O hg;rw[<-E] at R;have aY:=Lib.hid j;obtain⟨q,F⟩:=nm (H7 z u d dn);rw[<-F];have P:Hid (q=mkRat (sg n (z.natAbs*u)) (d*dn)):=(by rw[Hid,F,j];exact yhu);have e:Hid ((A9 (z.natAbs*u)).length<=1000000/\(A9 (d*dn)).length<=1000000/\d*dn≠0):=(by refine⟨B (zxs _ _) og,B (zxs _ _) og,?_⟩;have:=Nat.mul_pos v x;omega);clear hD I G hv ab X Y Z aa v x j J ah H ad E aQ aR F;have a5:=L7;obtain⟨c,aS,b,ai,m,S⟩:=zkd w #[.bool n,.slice aI aW k,.slice aJ aX l] #[.bool false,.slice none 0 0,.slice none 0 0] 37 37;obtain⟨B0,aK⟩:=C4 b m;have aH:=Lib.hid S.out;obtain⟨aL,aM,b2⟩:=C3 ai;obtain⟨aq,ar,au⟩:=C3 m;obtain⟨al,an,ao⟩:=F7 m;have aN:=B9 b hg;obtain⟨aC,aA,az,aB⟩:=Z5 (IsK.stb.next o.out b) (IsK.stb.next Q.out b) (IsK.stb.next O.out b) (IsK.stb.next R.out b);have N:=nU aD b;obtain⟨f,t⟩:=C4 (s aq (s ar au)) (s al (s an ao));have aP:Hid (g<w.heap.size):=World.block_lt_of_cell? w _ hg;clear b ai m S hg aq ar au al an ao;go_in;go_wp2_with fail;clear aS;have p:=zll aL aM aN;have av:=Lib.hid fun r (h:Below c.heap.size c r)=>zre (E9 (IsK.stb.next aC.out h)) (E9 (IsK.stb.next aA.out h)) (y _) (y _) (B i.out.1 og) (B i.out.2.1 og);have ay:=Lib.hid fun r (h:Below c.heap.size c r)=>zre (E9 (IsK.stb.next az.out h)) (E9 (IsK.stb.next aB.out h)) (y _) (y _) (B i.out.2.2.1 og) (B i.out.2.2.2.1 og);have K:w.heap.size≠(w.heap.size+1):=og;have aE:=hp3 p (nA K (nA K (nZ (oh aP))));clear K
 go_region_held3 (SH.mk _ p).s
  (first|exact p.out _ bel|exact aE.out _ bel _ _ _)
  (first
    |(go_at_call 168;(with_reducible refine Calls.mono (av.out _ bel) ?_);rintro W aT ⟨⟨bp,rfl,ae⟩,ac⟩;have L:=bW c aT;have T:=Lib.hid (zsn ae);obtain⟨a0,a8,rfl,_,_,_⟩:=id ae)
    |(go_at_call 168;(with_reducible refine Calls.mono (ay.out _ bel) ?_);rintro W aU ⟨⟨bq,rfl,af⟩,aO⟩;have M:=bW c aU;have U:=Lib.hid (zsn af);obtain⟨a1,a9,rfl,_,_,_⟩:=id af)
    |(go_at_call 178;(first|(with_reducible refine Calls.mono (yis (q:=q) n (E9 (IsK.stb.next T.out aO)) (E9 U.out) (Bru.next N.out M.out) e.out.1 e.out.2.1 e.out.2.2 P.out) ?_)|(with_reducible refine Calls.mono (yis (q:=q) n (E9 T.out) (E9 (IsK.stb.next U.out ac)) (Bru.next N.out L.out) e.out.1 e.out.2.1 e.out.2.2 P.out) ?_));rintro W aV ⟨⟨br,rfl,ag⟩,a7⟩;have a:=bW c aV;obtain⟨bi,a2,bd,aZ,be,rfl,_,_,_⟩:=G9 ag;have bj:=B9 a.out f.out.1;have bm:=B9 a.out f.out.2.1;have bn:=B9 a.out f.out.2.2;have s0:=G6 a.out f.out.1 t.out.1;have bg:=G6 a.out f.out.2.1 t.out.2.1;have bh:=G6 a.out f.out.2.2 t.out.2.2))
 all_goals
  go_wp2_with fail
  refine W5 Tryz.results135 rfl rfl (Row.put3 (aK.out.next a.out) _ _ _) (zqe (lo:=c.heap.size) (IsQ.stb.le ag (by first|exact(by have:=M.out.size;have:=ac.size;simp at*;omega)|exact(by have:=L.out.size;simp at*;omega))) (C9 B0.out a.out) og (oh aH))
theorem ywh {D:Nat->Nat->Rat} {c:Nat} (k:D r c≠0):J8 (J8 D r c) r c=D:=by
 have l:=Rat.mul_inv_cancel _ k;have e:J8 D r c r c=(D r c)⁻¹:=(by unfold J8;rw[if_pos rfl,if_pos rfl]);have h:((D r c)⁻¹)⁻¹=D r c:=ztn (by rw[Rat.mul_comm];exact l);funext i j;show(if i=r then(if j=c then(J8 D r c r c)⁻¹ else(J8 D r c r c)⁻¹*J8 D r c r j) else if j=c then -((J8 D r c r c)⁻¹*J8 D r c i c) else J8 D r c i j-(J8 D r c r c)⁻¹*J8 D r c i c*J8 D r c r j)=D i j;rw[e,h];by_cases b:i=r
 ·subst b;rw[if_pos rfl];by_cases a:j=c
  ·subst a;rw[if_pos rfl]
  ·have:J8 D i c i j=(D i c)⁻¹*D i j:=(by unfold J8;rw[if_pos rfl,if_neg a]);rw[if_neg a,this];grind
 ·rw[if_neg b];have d:J8 D r c i c= -((D r c)⁻¹*D i c):=(by unfold J8;rw[if_neg b,if_pos rfl]);by_cases a:j=c
  ·subst a;rw[if_pos rfl,d];grind
  ·have f:J8 D r c r j=(D r c)⁻¹*D r j:=(by unfold J8;rw[if_pos rfl,if_neg a]);have g:J8 D r c i j=D i j-(D r c)⁻¹*D i c*D r j:=(by unfold J8;rw[if_neg b,if_neg a]);rw[if_neg a,d,f,g];grind
theorem yjr (f:Nat->Nat) (i v:Nat):O0 (O0 f i v) i (f i)=f:=by
 funext k;by_cases h:k=i
 ·subst h;rw[znp]
 ·rw[znq _ _ h,znq _ _ h]
theorem ywn {S:Dic} {c:Nat} (a:S.D r c≠0):zko (zko S r c) r c=S:=by obtain⟨b,o,D⟩:=S;show(⟨O0 (O0 b r (o c)) r (O0 o c (b r) c),O0 (O0 o c (b r)) c (O0 b r (o c) r),J8 (J8 D r c) r c⟩:Dic)=⟨b,o,D⟩;rw[znp,znp,yjr,yjr,ywh a]
theorem Fit1.back {m n c:Nat} {S:Dic} {x:Nat->Rat} {z:Rat} (h:Fit1 m n (zko S r c) x z t) (hr:r<m) (hc:c<n) (a:S.D r c≠0):Fit1 m n S x z t:=by (have b:(zko S r c).D r c=(S.D r c)⁻¹:=by show J8 S.D r c r c=_;unfold J8;rw[if_pos rfl,if_pos rfl]);have:=h.piv hr hc (by rw[b];exact yas a);rwa[ywn a] at this
def Eqv (m n:Nat) (S T:Dic):Prop:=∀x z s,Fit1 m n S x z s↔Fit1 m n T x z s
theorem Eqv.refl (m n:Nat) (S:Dic):Eqv m n S S:=fun _ _ _=>Iff.rfl
theorem Eqv.piv {m n c:Nat} {S:Dic} (h:Eqv m n S T) (hr:r<m) (hc:c<n) (a:T.D r c≠0):Eqv m n S (zko T r c):=fun x z s=>⟨fun k=>((h x z s).1 k).piv hr hc a,fun k=>(h x z s).2 (k.back hr hc a)⟩
def R4 (m n:Nat) (a:Nat->Nat->Rat) (b c:Nat->Rat):Dic:=⟨fun i=>n+i,fun j=>j,fun i j=>if i<m then(if j<n then a i j else b i) else if j<n then -(c j) else 0⟩
theorem zz1352 (n m:Nat) (f:Nat->Rat):C5 (n+m) f=C5 n f+C5 m fun i=>f (n+i):=by
 induction m with
 |zero=>simp only[C5,Nat.add_zero];grind
 |succ m ih=>rw[<-Nat.add_assoc,C5,ih,C5];grind
section
variable {m n : Nat} {a : Nat → Nat → Rat} {b c : Nat → Rat}
theorem yfi (X:Nat->Rat) (s:Rat):Fit1 m n (R4 m n a b c) (fun v=>if v<n then X v else b (v-n)*s-C5 n fun j=>a (v-n) j*X j) (C5 n fun j=>c j*X j) s where
 row i hi:=by
  show(if n+i<n then X (n+i) else b (n+i-n)*s-C5 n fun j=>a (n+i-n) j*X j)+C5 n (fun j=>(if i<m then(if j<n then a i j else b i) else if j<n then -(c j) else 0)*(if j<n then X j else _))=(if i<m then(if n<n then a i n else b i) else _)*s
  rw[if_neg og,if_pos hi,if_neg og,Nat.add_sub_cancel_left]
  have e:C5 n (fun j=>(if i<m then(if j<n then a i j else b i) else if j<n then -(c j) else 0)*(if j<n then X j else b (j-n)*s-C5 n fun k=>a (j-n) k*X k))=C5 n fun j=>a i j*X j:=P7 fun j d=>by rw[if_pos hi,if_pos d,if_pos d]
  have f:=Eq.trans (show C5 n (fun j=>(if i<m then(if j<n then a i j else b i) else if j<n then -(c j) else 0)*(if j<n then X j else b ((R4 m n a b c).oth j-n)*s-C5 n fun k=>a ((R4 m n a b c).oth j-n) k*X k))=_ from rfl) e
  rw[f];grind
 obj:=by show(C5 n fun j=>c j*X j)+C5 n (fun j=>(if m<m then(if j<n then a m j else b m) else if j<n then -(c j) else 0)*(if j<n then X j else _))=(if m<m then(if n<n then a m n else b m) else if n<n then -(c n) else 0)*s;rw[if_neg og,if_neg og];have e:C5 n (fun j=>(if m<m then(if j<n then a m j else b m) else if j<n then -(c j) else 0)*(if j<n then X j else b (j-n)*s-C5 n fun k=>a (j-n) k*X k))=(-1)*C5 n fun j=>c j*X j:=(by rw[<-zoh];exact P7 fun j d=>by rw[if_neg og,if_pos d,if_pos d];grind);have f:=Eq.trans (show C5 n (fun j=>(if m<m then(if j<n then a m j else b m) else if j<n then -(c j) else 0)*(if j<n then X j else b ((R4 m n a b c).oth j-n)*s-C5 n fun k=>a ((R4 m n a b c).oth j-n) k*X k))=_ from rfl) e;rw[f];grind
theorem ysr {y:Nat->Rat} (h:∀x z s,Fit1 m n (R4 m n a b c) x z s->al*z+C5 (n+m) (fun v=>y v*x v)=V*s):
 (C5 m fun i=>b i*y (n+i))=V/\∀k,k<n->al*c k+y k=C5 m fun i=>a i k*y (n+i):=by
 have sp:∀x:Nat->Rat,(C5 (n+m) fun v=>y v*x v)=(C5 n fun v=>y v*x v)+C5 m fun i=>y (n+i)*x (n+i):=fun x=>zz1352 n m _;constructor
 ·have d:=h _ _ _ (yfi (fun _=>0) 1);rw[sp] at d;have e:(C5 n fun v=>y v*(if v<n then(0:Rat) else b (v-n)*1-C5 n fun j=>a (v-n) j*0))=0:=zld fun v hv=>(by rw[if_pos hv];grind);have g:(C5 m fun i=>y (n+i)*(if n+i<n then(0:Rat) else b (n+i-n)*1-C5 n fun j=>a (n+i-n) j*0))=C5 m fun i=>b i*y (n+i):=P7 fun i o=>(by rw[if_neg og,Nat.add_sub_cancel_left,zld fun j _=>by grind];grind);have l:(C5 n fun j=>c j*0)=0:=zld fun j _=>(by grind);rw[e,g,l] at d;grind
 ·intro k q;have d:=h _ _ _ (yfi (fun v=>if v=k then 1 else 0) 0);rw[sp] at d;have one:∀f:Nat->Rat,(C5 n fun j=>f j*(if j=k then(1:Rat) else 0))=f k:=fun f=>(by rw[zmn q fun j _ p=>by rw[if_neg p];grind,if_pos rfl];grind);have e:(C5 n fun v=>y v*(if v<n then(if v=k then(1:Rat) else 0) else b (v-n)*0-C5 n fun j=>a (v-n) j*(if j=k then 1 else 0)))=y k:=(by rw[<-one y];exact P7 fun v hv=>by rw[if_pos hv]);have g:(C5 m fun i=>y (n+i)*(if n+i<n then(if n+i=k then(1:Rat) else 0) else b (n+i-n)*0-C5 n fun j=>a (n+i-n) j*(if j=k then 1 else 0)))=(-1)*C5 m fun i=>a i k*y (n+i):=(by rw[<-zoh];exact P7 fun i o=>by rw[if_neg og,Nat.add_sub_cancel_left,one (a i)];grind);rw[e,g,one c] at d;grind
theorem yic {x:Nat->Rat} {z s:Rat} (h:Fit1 m n (R4 m n a b c) x z s):(∀i,i<m->x (n+i)+C5 n (fun j=>a i j*x j)=b i*s)/\z=C5 n fun j=>c j*x j:=by
 constructor
 ·intro i f;have:=h.row i f;(have d:(C5 n fun j=>(R4 m n a b c).D i j*x ((R4 m n a b c).oth j))=C5 n fun j=>a i j*x j:=P7 fun j g=>by show(if i<m then(if j<n then a i j else b i) else _)*x j=_;rw[if_pos f,if_pos g]);(have e:(R4 m n a b c).D i n=b i:=by show(if i<m then(if n<n then a i n else b i) else _)=_;rw[if_pos f,if_neg og]);rw[d,e] at this;exact this
 ·have:=h.obj;(have d:(C5 n fun j=>(R4 m n a b c).D m j*x ((R4 m n a b c).oth j))=(-1)*C5 n fun j=>c j*x j:=by rw[<-zoh];exact P7 fun j g=>by show(if m<m then(if j<n then a m j else b m) else if j<n then -(c j) else 0)*x j=_;rw[if_neg og,if_pos g];grind);(have e:(R4 m n a b c).D m n=0:=by show(if m<m then(if n<n then a m n else b m) else if n<n then -(c n) else 0)=_;rw[if_neg og,if_neg og]);rw[d,e] at this;grind
end
def X9 (n:Nat) (o:Nat->Nat) (f:Nat->Rat) (v:Nat):Rat:=C5 n fun j=>if o j=v then f j else 0
theorem ylm {n:Nat} (h:∀j,j<n->0<=f j) (v:Nat):0<=X9 n o f v:=by
 have:∀k,k<=n->0<=C5 k fun j=>if o j=v then f j else 0:=fun k=>by
  induction k with
  |zero=>intro _;exact Rat.le_refl
  |succ k ih=>
   intro c;have a:=ih og
   have b:0<=if o k=v then f k else 0:=by
    split
    ·exact h k og
    ·exact Rat.le_refl
   rw[C5];grind
 exact this n (y _)
theorem yln {n a:Nat} (c:∀j,j<n->o j<a) (f x:Nat->Rat):(C5 a fun v=>X9 n o f v*x v)=C5 n fun j=>f j*x (o j):=by
 induction n with
 |zero=>exact zld fun v _=>by show X9 0 o f v*x v=0;unfold X9;simp only[C5];grind
 |succ n ih=>
  have d:(C5 a fun v=>X9 (n+1) o f v*x v)=(C5 a fun v=>X9 n o f v*x v)+C5 a fun v=>if v=o n then f n*x v else 0:=by
   rw[<-zro];refine P7 fun v _=> ?_;show X9 (n+1) o f v*x v=X9 n o f v*x v+_;have:X9 (n+1) o f v=X9 n o f v+if o n=v then f n else 0:=rfl;rw[this];by_cases h:v=o n
   ·rw[if_pos h,if_pos h.symm];grind
   ·rw[if_neg h,if_neg (Ne.symm h)];grind
  rw[d,ih fun j b=>c j og,zmn (c n og) fun j _ b=>if_neg b,if_pos rfl,C5]
section
variable {m n : Nat} {a : Nat → Nat → Rat} {b c : Nat → Rat} {S : Dic}
theorem yfp (f:Dist m n S) {X:Nat->Rat} {s:Rat} (g:∀j,j<n->0<=X j) (h:∀i,i<m->0<=Y6 m n S X s (S.bas i)) (v:Nat):0<=Y6 m n S X s v:=by
 by_cases d:∃i,i<m/\S.bas i=v
 ·obtain⟨i,c,rfl⟩:=d;exact h i c
 ·by_cases e:∃j,j<n/\S.oth j=v
  ·obtain⟨j,a,rfl⟩:=e;rw[zxb f X s a];exact g j a
  ·rw[yfq X s (fun i c b=>d ⟨i,c,b⟩) (fun j a b=>e ⟨j,a,b⟩)];exact Rat.le_refl
theorem ydr (e:Dist m n S) (p:Eqv m n (R4 m n a b c) S) (k:∀i,i<m->0<=S.D i n):
 (∀v,0<=Y6 m n S (fun _=>0) 1 v)/\(∀i,i<m->C5 n (fun j=>a i j*Y6 m n S (fun _=>0) 1 j)<=b i)/\(C5 n fun j=>c j*Y6 m n S (fun _=>0) 1 j)=S.D m n:=by
 have h:∀f:Nat->Rat,(C5 n fun j=>f j*(0:Rat))=0:=fun f=>zld fun j _=>(by grind);have g:∀v,0<=Y6 m n S (fun _=>0) 1 v:=yfp e (fun _ _=>Rat.le_refl) fun i d=>(by rw[zuz e _ _ d,h];have:=k i d;grind);obtain⟨l,o⟩:=yic ((p _ _ _).2 (zxa e (fun _=>0) 1));refine⟨g,fun i d=> ?_,?_⟩
 ·have:=l i d;have:=g (n+i);grind
 ·rw[<-o,h];grind
theorem yds (d:Eqv m n (R4 m n a b c) S) {y:Nat->Rat} (h:∀x z s,Fit1 m n S x z s->al*z+C5 (n+m) (fun v=>y v*x v)=V*s):
 (C5 m fun i=>b i*y (n+i))=V/\∀k,k<n->al*c k+y k=C5 m fun i=>a i k*y (n+i):=ysr fun x z s hf=>h x z s ((d x z s).1 hf)
theorem yod (f:Eqv m n (R4 m n a b c) S) (h:∀j,j<n->S.oth j<n+m) (hc:∀j,j<n->0<=S.D m j):
 (C5 m fun i=>b i*X9 n S.oth (S.D m) (n+i))=S.D m n/\(∀k,k<n->c k<=C5 m fun i=>a i k*X9 n S.oth (S.D m) (n+i))/\∀v,0<=X9 n S.oth (S.D m) v:=by have d:=yds (y:=X9 n S.oth (S.D m)) (al:=1) (V:=S.D m n) f fun x z s hf=>(by rw[yln h];have:=hf.obj;grind);have e:=ylm (o:=S.oth) hc;refine⟨d.1,fun k g=> ?_,e⟩;have:=d.2 k g;have:=e k;grind
theorem yoe (g:Eqv m n (R4 m n a b c) S) (q:∀j,j<n->S.oth j<n+m) (hr:r<m) (l:S.bas r<n+m) (hc:∀j,j<n->0<=S.D r j):
 (C5 m fun i=>b i*(X9 n S.oth (S.D r) (n+i)+if S.bas r=n+i then 1 else 0))=S.D r n/\(∀k,k<n->0<=C5 m fun i=>a i k*(X9 n S.oth (S.D r) (n+i)+if S.bas r=n+i then 1 else 0))/\∀v,0<=X9 n S.oth (S.D r) v+if S.bas r=v then 1 else 0:=by
 have d:=yds (y:=fun v=>X9 n S.oth (S.D r) v+if S.bas r=v then 1 else 0) (al:=0) (V:=S.D r n) g fun x z s hf=>by
  have f:(C5 (n+m) fun v=>(X9 n S.oth (S.D r) v+if S.bas r=v then 1 else 0)*x v)=(C5 (n+m) fun v=>X9 n S.oth (S.D r) v*x v)+C5 (n+m) fun v=>if v=S.bas r then x v else 0:=by
   rw[<-zro];refine P7 fun v _=> ?_;by_cases h:S.bas r=v
   ·rw[if_pos h,if_pos h.symm];grind
   ·rw[if_neg h,if_neg (Ne.symm h)];grind
  show 0*z+(C5 (n+m) fun v=>(X9 n S.oth (S.D r) v+if S.bas r=v then 1 else 0)*x v)=_;rw[f,yln q,zmn l fun j _ o=>if_neg o,if_pos rfl];have:=hf.row r hr;grind
 have e:∀v,0<=X9 n S.oth (S.D r) v+if S.bas r=v then 1 else 0:=fun v=>(by have:=ylm (o:=S.oth) hc v;split<;>grind);refine⟨d.1,fun k p=> ?_,e⟩;have t:=d.2 k p;have u:=e k;grind
theorem yof (e:Dist m n S) (o:Eqv m n (R4 m n a b c) S) (q:k<n) (hc:S.D m k<0) (hr:∀i,i<m->S.D i k<=0):
 (∀v,0<=Y6 m n S (fun j=>if j=k then 1 else 0) 0 v)/\(∀i,i<m->C5 n (fun j=>a i j*Y6 m n S (fun j=>if j=k then 1 else 0) 0 j)<=0)/\0<C5 n fun j=>c j*Y6 m n S (fun j=>if j=k then 1 else 0) 0 j:=by
 have one:∀f:Nat->Rat,(C5 n fun j=>f j*(if j=k then(1:Rat) else 0))=f k:=fun f=>(by rw[zmn q fun j _ p=>by rw[if_neg p];grind,if_pos rfl];grind);have g:∀v,0<=Y6 m n S (fun j=>if j=k then 1 else 0) 0 v:=yfp e (fun j _=>by split<;>grind) fun i d=>(by rw[zuz e _ _ d,one];have:=hr i d;grind);obtain⟨h,l⟩:=yic ((o _ _ _).2 (zxa e (fun j=>if j=k then 1 else 0) 0));refine⟨g,fun i d=> ?_,?_⟩
 ·have:=h i d;have:=g (n+i);grind
 ·rw[<-l,one];grind
end
def zly (R:List (List Rat)) (b c:List Rat) (v:Rat) (bas oth:List Nat) (m n:Nat):TB:=
 ⟨fun i j=>if i<m then zlw (zuj R b m) i j else if j<n then -(zlw [c++[v]] 0 j) else zlw [c++[v]] 0 j,1,bas,oth⟩
def zou (R:List (List Rat)) (b:List Rat) (i:Nat):Nat:=zkk (R.getD i []++[b.getD i 0])
def zkp (c:List Rat) (v:Rat):Nat:=zkk (c++[v])
def zno (bas:List Nat) (N:Nat->Nat):Nat->Nat->Nat
 |0,_=>1
 |k+1,v=>if bas.getD k 0=v then N k else zno bas N k v
theorem yjp {bas:List Nat} (h:∀i,0<N i):∀k v,0<zno bas N k v
 |0,_=>Nat.one_pos
 |k+1,v=>by
  rw[zno]
  split
  ·exact h k
  ·exact yjp h k v
theorem yjo {bas:List Nat} {v:Nat}:∀{k},(∀i,i<k->bas.getD i 0≠v)->zno bas N k v=1
 |0,_=>rfl
 |k+1,h=>by rw[zno,if_neg (h k og)];exact yjo fun i a=>h i og
theorem yjm {bas:List Nat}:∀{k},i<k->(∀j,j<k->bas.getD j 0=bas.getD i 0->j=i)->zno bas N k (bas.getD i 0)=N i
 |0,h,_=>by omega
 |k+1,h,hd=>by
  rw[zno]
  by_cases a:bas.getD k 0=bas.getD i 0
  ·rw[if_pos a,hd k og a]
  ·rw[if_neg a]
   have:i≠k:=fun b=>a (by rw[b])
   exact yjm og fun j c=>hd j og
def zmm (R:List (List Rat)) (b:List Rat) (bas:List Nat) (m:Nat):Nat->Nat:=zno bas (zou R b) m
theorem yje (R:List (List Rat)) (b:List Rat) (i:Nat):0<zou R b i:=zxl _
theorem ykz (c:List Rat) (v:Rat):0<zkp c v:=zxl _
theorem yza (R:List (List Rat)) (b:List Rat) (bas:List Nat) (m v:Nat):0<zmm R b bas m v:=yjp (yje R b) m v
def znu (i:Nat):RV:=fun x=>if x=i then 1 else 0
theorem yep:∀a,T7 (List.range a) (W0 a znu)=1
 |0=>rfl
 |a+1=>by
  have b:W0 (a+1) znu=W0 a znu++[znu a]:=by unfold W0;rw[List.range_succ,List.map_append];rfl
  rw[List.range_succ,b,ype a (List.range a) (fun c hc=>by have:=List.mem_range.1 hc;unfold znu;rw[if_neg og]) (W0 a znu) (by unfold W0;simp),yep a]
  unfold znu
  rw[if_pos rfl];grind
theorem ysg {f:Nat->Int} {a:Nat->Prop} [DecidablePred a]:zpa (fun x=>if a x then((f x:Int):Rat) else 0):=fun x=>by
 show∃z:Int,(if a x then((f x:Int):Rat) else 0)=(z:Rat)
 split
 ·exact⟨f x,rfl⟩
 ·exact⟨0,rfl⟩
theorem zyb {z:Int} (h:z.natAbs<=M): -(M:Rat)<=(z:Rat)/\(z:Rat)<=(M:Rat):=by have a:((M:Nat):Rat)=((M:Int):Rat):=(Rat.intCast_natCast M).symm;rw[a,<-Rat.intCast_neg,Rat.intCast_le_intCast,Rat.intCast_le_intCast];omega
theorem yzt {m n:Nat} {t:TB} (hd:t.d=1) (g:t.bas.length=m) (o:t.oth.length=n) (l:(t.bas++t.oth).Nodup) (k:∀v∈t.bas++t.oth,v<m+n) (e:1<=M) (f:∀i j,i<=m->j<=n->(t.A i j).natAbs<=M):TInv M m n t where
 cram:=by
  have c:(0:Rat)=((0:Int):Rat):=rfl
  refine⟨znu,fun j x=>if x<m+1 then((t.A x j:Int):Rat) else 0,⟨by rw[hd];exact Nat.one_pos,fun i _ x=> ?_,fun j _=>ysg,.inl ?_,fun j _ x=> ?_⟩,fun i _ x=> ?_,fun j h x=> ?_⟩
  ·unfold znu
   split
   ·exact⟨1,rfl⟩
   ·exact⟨0,rfl⟩
  ·rw[hd,yep];rfl
  ·rw[hd]
   show((1:Int):Rat)*(if x<m+1 then((t.A x j:Int):Rat) else 0)=_
   have d:((1:Int):Rat)=1:=rfl
   rw[d,Rat.one_mul]
   by_cases a:x<m+1
   ·rw[if_pos a,zmn a fun i _ b=>by unfold znu;rw[if_neg (Ne.symm b)];grind]
    unfold znu;rw[if_pos rfl];grind
   ·rw[if_neg a,zld fun i b=>by unfold znu;rw[if_neg og];grind]
  ·unfold znu
   split
   ·exact zyb (z:=1) (by simpa using e)
   ·rw[c];exact zyb (by simp)
  ·show _<=(if x<m+1 then((t.A x j:Int):Rat) else 0)/\(if x<m+1 then((t.A x j:Int):Rat) else 0)<=_
   by_cases a:x<m+1
   ·rw[if_pos a];exact zyb (f x j og h)
   ·rw[if_neg a,c];exact zyb (by simp)
 bl:=g;ol:=o;dist:=l;lt:=k
section
variable {R : List (List Rat)} {b c : List Rat} {v : Rat} {bas oth : List Nat} {m n : Nat}
theorem yuy (g:R.length=m) (k:b.length=m) (f:∀r∈R,r.length=n) (a:i<m) (l:j<=n):
 (((zly R b c v bas oth m n).A i j:Int):Rat)=(if j<n then(R.getD i []).getD j 0 else b.getD i 0)*((zou R b i:Nat):Rat):=by
 show((if i<m then zlw (zuj R b m) i j else _:Int):Rat)=_;rw[if_pos a];have hr:R[i]? =some (R.getD i []):=(by rw[p,C og];rfl);have e:=ycu (b:=b) (n:=m) (m:=n) a hr;have d:(R.getD i []).length=n:=f _ (q hr);by_cases h:j<n
 ·rw[if_pos h,zxr e (zxc d h)];rfl
 ·obtain rfl:j=n:=og;rw[if_neg h,zxr e (yal d)];rfl
theorem yuv (hc:c.length=n) (a:j<=n):
 (((zly R b c v bas oth m n).A m j:Int):Rat)=(if j<n then -(c.getD j 0) else v)*((zkp c v:Nat):Rat):=by
 show((if m<m then _ else if j<n then -(zlw [c++[v]] 0 j) else zlw [c++[v]] 0 j:Int):Rat)=_;rw[if_neg og];by_cases h:j<n
 ·rw[if_pos h,if_pos h,Rat.intCast_neg,zxr (b:=[c++[v]]) (i:=0) rfl (zxc hc h)];show -(_*((zkp c v:Nat):Rat))=_;grind
 ·obtain rfl:j=n:=og;rw[if_neg h,if_neg h,zxr (b:=[c++[v]]) (i:=0) rfl (yal hc)];rfl
theorem yhr (x:Nat) (h:0<x):((x:Nat):Rat)*((x:Nat):Rat)⁻¹=1:=Rat.mul_inv_cancel _ (zub h)
theorem yuw (o:R.length=m) (p:b.length=m) (u:∀r∈R,r.length=n) (hc:c.length=n) (w:bas.length=m) (x:oth.length=n) (t:(bas++oth).Nodup) (q:i<=m) (e:j<=n):
 (J9 (zmm R b bas m) (zkp c v) m n (zly R b c v bas oth m n)).D i j=if i<m then(if j<n then(R.getD i []).getD j 0 else b.getD i 0) else if j<n then -(c.getD j 0) else v:=by
 have f:=List.nodup_append.1 t;show(if i<=m/\j<=n then(((zly R b c v bas oth m n).A i j:Int):Rat)*((1:Int):Rat)⁻¹*uc (zmm R b bas m) n (fun j=>oth.getD j 0) j*(ur (zmm R b bas m) (zkp c v) m (fun i=>bas.getD i 0) i)⁻¹ else 0)=_;rw[if_pos ⟨q,e⟩];have g:((1:Int):Rat)⁻¹=1:=ztn (Rat.mul_one 1)
 have l:uc (zmm R b bas m) n (fun j=>oth.getD j 0) j=1:=by
  unfold uc;split
  ·rename_i h;have:zmm R b bas m (oth.getD j 0)=1:=yjo fun k s a=>f.2.2 _ (Z8 og) _ (Z8 (l:=oth) (i:=j) og) a;rw[this];rfl
  ·rfl
 rw[g,l,Rat.mul_one,Rat.mul_one];by_cases h:i<m
 ·rw[if_pos h,yuy o p u h e];have d:ur (zmm R b bas m) (zkp c v) m (fun i=>bas.getD i 0) i=((zou R b i:Nat):Rat):=(by unfold ur;rw[if_pos h];have:zmm R b bas m (bas.getD i 0)=zou R b i:=yjm h fun k s a=>zoc f.1 og og a;rw[this]);rw[d,Rat.mul_assoc,yhr _ (yje R b i),Rat.mul_one]
 ·obtain rfl:i=m:=og;rw[if_neg h,yuv hc e];have d:ur (zmm R b bas i) (zkp c v) i (fun i=>bas.getD i 0) i=((zkp c v:Nat):Rat):=(by unfold ur;rw[if_neg h]);rw[d,Rat.mul_assoc,yhr _ (ykz c v),Rat.mul_one]
end
theorem yfj {m n:Nat} {S:Dic} (c:∀i,i<m->S.bas i=T.bas i) (b:∀j,j<n->S.oth j=T.oth j) (hD:∀i j,i<=m->j<=n->S.D i j=T.D i j) {x:Nat->Rat} {z s:Rat} (h:Fit1 m n S x z s):Fit1 m n T x z s where
 row i hi:=by
  rw[<-c i hi,<-hD i n og (y _),<-h.row i hi]
  congr 1
  exact P7 fun j a=>by rw[<-hD i j og og,<-b j a]
 obj:=by rw[<-hD m n (y _) (y _),<-h.obj];congr 1;exact P7 fun j a=>by rw[<-hD m j (y _) og,<-b j a]
theorem yqm {m n:Nat} {S:Dic} (c:∀i,i<m->S.bas i=T.bas i) (d:∀j,j<n->S.oth j=T.oth j) (hD:∀i j,i<=m->j<=n->S.D i j=T.D i j):Eqv m n S T:=fun x z s=>
 ⟨yfj c d hD,yfj (fun i a=>(c i a).symm) (fun j b=>(d j b).symm) fun i j a b=>(hD i j a b).symm⟩
theorem yux {R:List (List Rat)} {b c:List Rat} {m n:Nat} (s:R.length=m) (t:b.length=m) (v:∀r∈R,r.length=n) (hc:c.length=n) {bas oth:List Nat} (l:bas=(List.range m).map fun i=>n+i) (q:oth=List.range n):
 Eqv m n (R4 m n (fun i j=>(R.getD i []).getD j 0) (fun i=>b.getD i 0) fun j=>c.getD j 0) (J9 (zmm R b bas m) (zkp c 0) m n (zly R b c 0 bas oth m n)):=by
 have f:bas.length=m:=(by rw[l];simp);have o:oth.length=n:=(by rw[q];simp);have g:∀i,i<m->bas.getD i 0=n+i:=fun i a=>(by rw[l,p,D,List.getElem?_range a];rfl);have go:∀j,j<n->oth.getD j 0=j:=fun j d=>by rw[q,p,List.getElem?_range d];rfl
 have u:(bas++oth).Nodup:=zxy fun i j a d e=>by
  rw[List.length_append,f,o] at a d
  have key:∀k,k<m+n->(bas++oth).getD k 0=if k<m then n+k else k-m:=fun k w=>by
   rw[p,List.getElem?_append,f];split
   ·rename_i h;rw[<-p];exact g k h
   ·rename_i h;rw[<-p];exact go _ og
  rw[key i a,key j d] at e;split at e<;>split at e<;>omega
 refine yqm (fun i a=>(g i a).symm) (fun j d=>(go j d).symm) fun i j a d=> ?_;rw[yuw s t v hc f o u a d];show(if i<m then(if j<n then(R.getD i []).getD j 0 else b.getD i 0) else if j<n then -(c.getD j 0) else 0)=_;rfl
def N7 (n:Nat) (f:Nat->Rat):List Rat:=(List.range n).map f
theorem zqn (n:Nat) (f:Nat->Rat):(N7 n f).length=n:=by unfold N7;simp
theorem zrv {n:Nat} (h:j<n):(N7 n f)[j]? =some (f j):=by unfold N7;rw[D,List.getElem?_range h];rfl
theorem ycs {n:Nat} (h:j<n):(N7 n f).getD j 0=f j:=by rw[p,zrv h];rfl
theorem ztb {n:Nat} {q:Rat} (h:q∈N7 n f):∃j,j<n/\q=f j:=by unfold N7 at h;obtain⟨j,b,a⟩:=List.mem_map.1 h;exact⟨j,List.mem_range.1 b,a.symm⟩
def zsg (A:List (List Rat)) (Y:List Rat) (k:Nat):Rat:=C5 A.length fun i=>(A.getD i []).getD k 0*Y.getD i 0
structure Feas (A:List (List Rat)) (b:List Rat) (n:Nat) (X:List Rat):Prop where
 len:X.length=n
 nn:∀x∈X,0<=x
 le:∀i r,A[i]? =some r->L2 r X<=b.getD i 0
structure Mult (A:List (List Rat)) (b:List Rat) (n:Nat) (f:Nat->Rat) (Y:List Rat):Prop where
 len:Y.length=b.length
 nn:∀y∈Y,0<=y
 ge:∀k,k<n->f k<=zsg A Y k
structure RayQ (A:List (List Rat)) (n:Nat) (Z:List Rat):Prop where
 len:Z.length=n
 nn:∀x∈Z,0<=x
 le:∀r∈A,L2 r Z<=0
structure CertOpt (A:List (List Rat)) (b c X Y:List Rat) (V:Rat):Prop where
 x:Feas A b c.length X
 y:Mult A b c.length (fun k=>c.getD k 0) Y
 vx:L2 c X=V
 vy:L2 b Y=V
structure CertNone (A:List (List Rat)) (b c Y:List Rat):Prop where
 y:Mult A b c.length (fun _=>0) Y
 vy:L2 b Y<0
structure CertRay (A:List (List Rat)) (b c X Z:List Rat):Prop where
 x:Feas A b c.length X
 z:RayQ A c.length Z
 up:0<L2 c Z
section
variable {A : List (List Rat)} {b c : List Rat} {m n : Nat} {S : Dic}
abbrev aF (A:List (List Rat)) (i j:Nat):Rat:=(A.getD i []).getD j 0
abbrev lF (b:List Rat) (i:Nat):Rat:=b.getD i 0
theorem zwy {r:List Rat} {n:Nat} (hr:r.length=n) (f:Nat->Rat):L2 r (N7 n f)=C5 n fun j=>r.getD j 0*f j:=by rw[zwv r _ (by rw[zqn,hr]),hr];exact P7 fun j a=>by rw[ycs a]
theorem yfy {A:List (List Rat)} {r:List Rat} (h:A[i]? =some r):A.getD i []=r:=by rw[p,h];rfl
theorem yfg (e:A.length=m) (h:∀r∈A,r.length=n) (c:∀v,0<=f v) (d:∀i,i<m->C5 n (fun j=>aF A i j*f j)<=lF b i):Feas A b n (N7 n f) where
 len:=zqn n f
 nn x hx:=by obtain⟨j,_,rfl⟩:=ztb hx;exact c j
 le i r hr:=by have g:i<m:=(by rw[<-e];exact(List.getElem?_eq_some_iff.1 hr).1);have:=d i g;rw[zwy (h r (q hr))];have a:aF A i=fun j=>r.getD j 0:=(by funext j;unfold aF;rw[yfy hr]);rw[show(fun j=>r.getD j 0*f j)=fun j=>aF A i j*f j by rw[a]];exact this
theorem yxs (g:A.length=m) (e:∀r∈A,r.length=n) (b:∀v,0<=f v) (c:∀i,i<m->C5 n (fun j=>aF A i j*f j)<=0):RayQ A n (N7 n f) where
 len:=zqn n f
 nn x hx:=by obtain⟨j,_,rfl⟩:=ztb hx;exact b j
 le r hr:=by obtain⟨i,d,rfl⟩:=List.getElem_of_mem hr;have:=c i og;rw[zwy (e _ hr)];have a:aF A i=fun j=>(A[i]).getD j 0:=(by funext j;unfold aF;rw[yfy (C d)]);rw[show(fun j=>(A[i]).getD j 0*f j)=fun j=>aF A i j*f j by rw[a]];exact this
theorem yhq (d:A.length=m) (e:b.length=m) {g y:Nat->Rat} (a:∀v,0<=y v) (c:∀k,k<n->g k<=C5 m fun i=>aF A i k*y (n+i)):Mult A b n g (N7 m fun i=>y (n+i)) where
 len:=by rw[zqn,e]
 nn x hx:=by obtain⟨j,_,rfl⟩:=ztb hx;exact a _
 ge k hk:=by have:=c k hk;unfold zsg;rw[d];rw[show C5 m (fun i=>(A.getD i []).getD k 0*(N7 m fun i=>y (n+i)).getD i 0)=C5 m fun i=>aF A i k*y (n+i) from P7 fun i f=>by rw[ycs f]];exact this
def zsv (m n:Nat) (S:Dic):List Rat:=N7 n (Y6 m n S (fun _=>0) 1)
def zvl (m n:Nat) (S:Dic):List Rat:=N7 m fun i=>X9 n S.oth (S.D m) (n+i)
def zvk (m n:Nat) (S:Dic) (r:Nat):List Rat:=N7 m fun i=>X9 n S.oth (S.D r) (n+i)+if S.bas r=n+i then 1 else 0
def zvr (m n:Nat) (S:Dic) (k:Nat):List Rat:=N7 n (Y6 m n S (fun j=>if j=k then 1 else 0) 0)
theorem zwx {b:List Rat} (a:b.length=m) (f:Nat->Rat):L2 b (N7 m f)=C5 m fun i=>lF b i*f i:=zwy a f
theorem yob (a:A.length=m) (e:b.length=m) (hc:c.length=n) (q:∀r∈A,r.length=n) (o:Dist m n S) (d:Eqv m n (R4 m n (aF A) (lF b) (lF c)) S) (p:∀j,j<n->S.oth j<n+m)
 (k:∀i,i<m->0<=S.D i n) (l:∀j,j<n->0<=S.D m j):CertOpt A b c (zsv m n S) (zvl m n S) (S.D m n):=by obtain⟨s,t,u⟩:=ydr o d k;obtain⟨f,g,h⟩:=yod d p l;subst hc;exact⟨yfg a q s t,yhq a e h g,by rw[zsv,zwx rfl];exact u,by rw[zvl,zwx e];exact f⟩
theorem yoa (i:A.length=m) (a:b.length=m) (hc:c.length=n) (k:Eqv m n (R4 m n (aF A) (lF b) (lF c)) S) (o:∀j,j<n->S.oth j<n+m) (hr:r<m) (l:S.bas r<n+m)
 (g:S.D r n<0) (h:∀j,j<n->0<=S.D r j):CertNone A b c (zvk m n S r):=by obtain⟨d,e,f⟩:=yoe k o hr l h;subst hc;exact⟨yhq (y:=fun v=>X9 c.length S.oth (S.D r) v+if S.bas r=v then 1 else 0) i a f e,by rw[zvk,zwx a,d];exact g⟩
theorem yoc (a:A.length=m) (t:b.length=m) (hc:c.length=n) (f:∀r∈A,r.length=n) (e:Dist m n S) (d:Eqv m n (R4 m n (aF A) (lF b) (lF c)) S) (l:k<n)
 (g:∀i,i<m->0<=S.D i n) (h:S.D m k<0) (j:∀i,i<m->S.D i k<=0):CertRay A b c (zsv m n S) (zvr m n S k):=by obtain⟨o,p,_⟩:=ydr e d g;obtain⟨q,s,q3⟩:=yof e d l h j;subst hc;exact⟨yfg a f o p,yxs a f q s,by rw[zvr,zwx rfl];exact q3⟩
end
theorem ykq {n:Nat} {g:Nat->Rat} (h:∀i,i<n->f i<=g i):C5 n f<=C5 n g:=by
 induction n with
 |zero=>exact Rat.le_refl
 |succ n ih=>have a:=ih fun i c=>h i og;have b:=h n og;rw[C5,C5];grind
theorem zxd {X:List Rat} (h:∀x∈X,0<=x) (k:Nat):0<=X.getD k 0:=by
 rw[p];cases e:X[k]? with
 |none=>exact Rat.le_refl
 |some x=>exact h x (q e)
section
variable {A : List (List Rat)} {b c X Y Z : List Rat} {n : Nat}
theorem yll (a:Feas A b n X) (c:Mult A b n f Y) (m:A.length=b.length) (t:∀r∈A,r.length=n):(C5 n fun k=>f k*X.getD k 0)<=L2 b Y:=by have d:(C5 n fun k=>f k*X.getD k 0)<=C5 n fun k=>zsg A Y k*X.getD k 0:=ykq fun k s=>(by have:=Rat.mul_le_mul_of_nonneg_right (c.ge k s) (zxd a.nn k);exact this);have h:(C5 n fun k=>zsg A Y k*X.getD k 0)=C5 A.length fun i=>(C5 n fun k=>(A.getD i []).getD k 0*X.getD k 0)*Y.getD i 0:=(by have g:(C5 n fun k=>zsg A Y k*X.getD k 0)=C5 n fun k=>C5 A.length fun i=>((A.getD i []).getD k 0*X.getD k 0)*Y.getD i 0:=P7 fun k _=>(by unfold zsg;have:X.getD k 0*(C5 A.length fun i=>(A.getD i []).getD k 0*Y.getD i 0)=C5 A.length fun i=>X.getD k 0*((A.getD i []).getD k 0*Y.getD i 0):=(zoh _ _ _).symm;rw[Rat.mul_comm,this];exact P7 fun i _=>by grind);rw[g,zz1355];refine P7 fun i _=> ?_;have:Y.getD i 0*(C5 n fun k=>(A.getD i []).getD k 0*X.getD k 0)=C5 n fun k=>Y.getD i 0*((A.getD i []).getD k 0*X.getD k 0):=(zoh _ _ _).symm;rw[Rat.mul_comm,this];exact P7 fun k _=>by grind);have j:(C5 A.length fun i=>(C5 n fun k=>(A.getD i []).getD k 0*X.getD k 0)*Y.getD i 0)<=C5 A.length fun i=>b.getD i 0*Y.getD i 0:=ykq fun i o=>(by have hr:A[i]? =some (A.getD i []):=(by rw[p,C o];rfl);have:=a.le i _ hr;have e:(A.getD i []).length=n:=t _ (q hr);rw[zwv _ _ (by rw[e,a.len]),e] at this;exact Rat.mul_le_mul_of_nonneg_right this (zxd c.nn i));have l:L2 b Y=C5 A.length fun i=>b.getD i 0*Y.getD i 0:=(by rw[zwv _ _ c.len.symm,m]);rw[l];rw[h] at d;exact Rat.le_trans d j
theorem yaf (h:c.length=n) (a:X.length=n):L2 c X=C5 n fun k=>c.getD k 0*X.getD k 0:=by rw[zwv c X og,h]
theorem CertOpt.best (h:CertOpt A b c Y Z V) (d:A.length=b.length) (e:∀r∈A,r.length=c.length) (a:Feas A b c.length X):L2 c X<=V:=by have:=yll a h.y d e;rw[yaf rfl a.len,<-h.vy];exact this
theorem CertNone.no (h:CertNone A b c Y) (e:A.length=b.length) (f:∀r∈A,r.length=c.length) (g:Feas A b c.length X):False:=by have a:=yll g h.y e f;have d:(C5 c.length fun k=>(0:Rat)*X.getD k 0)=0:=zld fun k _=>(by grind);have i:=h.vy;rw[d] at a;grind
def zlr (t:Rat) (X Z:List Rat) (n:Nat):List Rat:=N7 n fun k=>X.getD k 0+t*Z.getD k 0
theorem yde {r:List Rat} (hr:r.length=n) (a:X.length=n) (b:Z.length=n) (t:Rat):L2 r (zlr t X Z n)=L2 r X+t*L2 r Z:=by rw[zlr,zwy hr,yaf hr a,yaf hr b,<-zoh,<-zro];exact P7 fun k _=>by grind
theorem RayQ.along (h:RayQ A n Z) (a:Feas A b n X) (g:∀r∈A,r.length=n) (d:0<=t):Feas A b n (zlr t X Z n) where
 len:=zqn _ _
 nn x hx':=by
  obtain⟨k,_,rfl⟩:=ztb hx'
  have e:=zxd a.nn k
  have f:=Rat.mul_nonneg d (zxd h.nn k)
  grind
 le i r hr:=by have c:=q hr;rw[yde (g r c) a.len h.len];have e:=a.le i r hr;have f:=Rat.mul_nonneg d (show 0<=-L2 r Z by have:=h.le r c;grind);grind
theorem CertRay.grows (h:CertRay A b c Y Z) (d:X.length=c.length) (a:0<t):L2 c X<L2 c (zlr t X Z c.length):=by rw[yde rfl d h.z.len];have:=Rat.mul_pos a h.up;grind
end
end Go.Proofs.YtdgilbgdkmhcmaaGreatDoor
