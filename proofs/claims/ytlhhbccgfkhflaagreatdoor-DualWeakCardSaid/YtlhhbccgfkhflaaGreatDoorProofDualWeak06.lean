/-
 A search of package simplex in memory.
-/
import Derived.Test.YtlhhbccgfkhflaaGreatDoorProofDualWeak05
import Derived.BigRegion
namespace Go.Proofs.YtlhhbccgfkhflaaGreatDoor
open Go.RowKit
set_option linter.unusedVariables false
set_option maxRecDepth 100000
set_option maxHeartbeats 8000000
open _root_.Go.Lib renaming hid → a
open _root_.Nat renaming le_refl → f, le_trans → s, lt_of_lt_of_le → x, lt_or_ge → y, zero_le → B
open _root_.And renaming intro → o
variable {i j k l u : Nat} {key : Nat → Nat} {p : Nat → Prop} {r : Option Nat}
structure Lay where
 bk:Nat->Nat
 cp:Nat->Nat
 ha:Nat->Option Addr
 r0:Nat
 rc:Nat
 ra:Option Addr
 bb:Nat
 bc:Nat
 ba:Option Addr
 ob:Nat
 oc:Nat
 oa:Option Addr
 sb:Nat
 sp:Nat
 sa:Option Addr
def M4 (m n l:Nat):Nat:=if l=m then m else n
def zkb (t:TB) (m n l j:Nat):Int:=if l=m then t.A j n else if l=m+1 then -(t.A m j) else t.A l j
theorem K3 {m n:Nat} (h:i<m):M4 m n i=n:=if_neg og
theorem Y2 (m n:Nat):M4 m n m=m:=if_pos rfl
theorem zke (m n:Nat):M4 m n (m+1)=n:=if_neg og
theorem zrp {t:TB} {m n:Nat} (h:i<m):zkb t m n i j=t.A i j:=by unfold zkb;rw[if_neg og,if_neg og]
theorem ycs (t:TB) (m n j:Nat):zkb t m n (m+1) j= -(t.A m j):=by unfold zkb;rw[if_neg og,if_pos rfl]
theorem zus (t:TB) (m n j:Nat):zkb t m n m j=t.A j n:=if_pos rfl
def zww (L:Lay) (m n:Nat) (z:Int) (d top:Nat) (a:Option Addr) (k:Nat) (b:Option Addr) (l:Nat) (D:Option Addr) (f:Nat) (c:Option Addr) (g:Nat) (st e steps:Int):List Value:=
 [.slice L.ba m L.bc,.slice L.oa n L.oc,.slice L.ra m L.rc,.slice (L.ha m) m (L.cp m),.slice (L.ha (m+1)) n (L.cp (m+1)),.bool (decide (z<0)),.slice a (A8 z.natAbs).length k,.slice b (A8 1).length l,.slice D (A8 d).length f,.slice L.sa (m+n) L.sp,.slice c (A8 top).length g,.int .i64 st,.int .i64 e,.int .i64 steps]
structure SchG (w:World) (S:Nat->Prop) (lo0 lo g:Nat) (L:Lay) (m n:Nat) (sc:Nat->Nat) (top:Nat) (F:Nat->Nat->Int) (z:Int) (d:Nat) (bas oth:List Nat) (st e steps:Int):Prop where
 tab:TabW w S lo L.bk L.cp (m+2) (M4 m n) F
 hv:∀l,l<m+2->1<=M4 m n l->L.ha l=some ⟨L.bk l,0,none⟩
 cap:∀l,l<m+2->M4 m n l<=L.cp l/\L.cp l<=maxLen
 row:∃P k Q l D cd T ct,Row w g 98 (zww L m n z d top P k Q l D cd T ct st e steps)/\
  IsQ w (SN S lo w) (.agg #[.bool (decide (z<0)),.slice P (A8 z.natAbs).length k,.slice Q (A8 1).length l]) ((z:Int):Rat)/\NumS w (SN S lo w) (.slice D (A8 d).length cd) d/\NumS w (SN S lo w) (.slice T (A8 top).length ct) top
 hd:∀i,i<m->L.ra=some ⟨L.r0,0,none⟩/\S L.r0/\w.cell? ⟨L.r0,i,none⟩=some (.slice (L.ha i) n (L.cp i))
 caps:m<=L.rc/\L.rc<=maxLen/\m<=L.bc/\L.bc<=maxLen/\n<=L.oc/\L.oc<=maxLen/\m+n<=L.sp/\L.sp<=maxLen
 basW:1<=m->L.ba=some ⟨L.bb,0,none⟩/\IntW w L.bb m (fun i=>bas.getD i 0)
 othW:1<=n->L.oa=some ⟨L.ob,0,none⟩/\IntW w L.ob n (fun j=>oth.getD j 0)
 scl:∀v,v∈bas++oth->L.sa=some ⟨L.sb,0,none⟩/\S L.sb/\∃P k,w.cell? ⟨L.sb,v,none⟩=some (.slice P (A8 (sc v)).length k)/\NumS w S (.slice P (A8 (sc v)).length k) (sc v)
 gS:lo0<=g/\g<lo/\¬S g
 bS:1<=m->lo0<=L.bb/\L.bb<lo/\¬S L.bb/\L.bb≠g
 oS:1<=n->lo0<=L.ob/\L.ob<lo/\¬S L.ob/\L.ob≠g
 bo:1<=m->1<=n->L.bb≠L.ob
 lS:∀l,l<m+2->1<=M4 m n l->lo0<=L.bk l/\L.bk l≠g/\(1<=m->L.bk l≠L.bb)/\(1<=n->L.bk l≠L.ob)
 len:bas.length=m/\oth.length=n
abbrev T3 (w:World) (S:Nat->Prop) (lo0 lo g:Nat) (L:Lay) (m n:Nat) (sc:Nat->Nat) (top:Nat) (t:TB) (st e steps:Int):Prop:=SchG w S lo0 lo g L m n sc top (zkb t m n) (t.A m n) t.d t.bas t.oth st e steps
section
variable {w w' : World} {S : Nat → Prop} {lo0 lo g m n top : Nat} {L : Lay} {sc : Nat → Nat} {F : Nat → Nat → Int} {z : Int} {d : Nat} {bas oth : List Nat} {st e steps : Int}
theorem SchG.open (h:SchG w S lo0 lo g L m n sc top F z d bas oth st e steps):∃b k c l D i f j,(Row w g 98 (zww L m n z d top b k c l D i f j st e steps)/\
 IsQ w (SN S lo w) (.agg #[.bool (decide (z<0)),.slice b (A8 z.natAbs).length k,.slice c (A8 1).length l]) ((z:Int):Rat)/\NumS w (SN S lo w) (.slice D (A8 d).length i) d/\NumS w (SN S lo w) (.slice f (A8 top).length j) top)/\
 (w.cell? ⟨g,0,none⟩=some (.slice L.ba m L.bc)/\w.cell? ⟨g,1,none⟩=some (.slice L.oa n L.oc)/\w.cell? ⟨g,2,none⟩=some (.slice L.ra m L.rc)/\w.cell? ⟨g,3,none⟩=some (.slice (L.ha m) m (L.cp m))/\w.cell? ⟨g,4,none⟩=some (.slice (L.ha (m+1)) n (L.cp (m+1))))/\
 (w.cell? ⟨g,5,none⟩=some (.bool (decide (z<0)))/\w.cell? ⟨g,6,none⟩=some (.slice b (A8 z.natAbs).length k)/\w.cell? ⟨g,7,none⟩=some (.slice c (A8 1).length l))/\
 (w.cell? ⟨g,8,none⟩=some (.slice D (A8 d).length i)/\w.cell? ⟨g,9,none⟩=some (.slice L.sa (m+n) L.sp)/\w.cell? ⟨g,10,none⟩=some (.slice f (A8 top).length j))/\
 (w.cell? ⟨g,11,none⟩=some (.int .i64 st)/\w.cell? ⟨g,12,none⟩=some (.int .i64 e)/\w.cell? ⟨g,13,none⟩=some (.int .i64 steps)):=by obtain⟨b,k,c,l,D,i,f,j,a,o,p,q⟩:=h.row;exact⟨b,k,c,l,D,i,f,j,⟨a,o,p,q⟩,⟨a.cell 0,a.cell 1,a.cell 2,a.cell 3,a.cell 4⟩,⟨a.cell 5,a.cell 6,a.cell 7⟩,⟨a.cell 8,a.cell 9,a.cell 10⟩,a.cell 11,a.cell 12,a.cell 13⟩
theorem SchG.sn_lt (h:SchG w S lo0 lo g L m n sc top F z d bas oth st e steps):∀b,SN S lo w b->b<w.heap.size:=fun b c=>by
 rcases c with a|a
 ·exact x (h.tab.sS b a) h.tab.hlo
 ·exact a.2
theorem SchG.same (h:SchG w S lo0 lo g L m n sc top F z d bas oth st e steps) (c:w.grownBy w' r) (hr:∀b,r=some b->b<lo/\¬S b):L6 (SN S lo w) (SN S lo w') w w':=fun b a=>⟨zrx c.size b a,fun i=>World.cell?_of_block (c.block b (h.sn_lt b a) fun f=>by
 have:=hr b f.symm
 rcases a with a|a
 ·exact this.2 a
 ·have:=a.1;omega)⟩
theorem SchG.hd_next (h:SchG w S lo0 lo g L m n sc top F z d bas oth st e steps) (j:w.grownBy w' r) (hr:∀b,r=some b->b<lo/\¬S b):∀i,i<m->L.ra=some ⟨L.r0,0,none⟩/\S L.r0/\w'.cell? ⟨L.r0,i,none⟩=some (.slice (L.ha i) n (L.cp i)):=fun i k=>by
 obtain⟨c,a,f⟩:=h.hd i k
 exact⟨c,a,((h.same j hr _ (.inl a)).2 _).trans f⟩
theorem SchG.scl_next (h:SchG w S lo0 lo g L m n sc top F z d bas oth st e steps) (j:w.grownBy w' r) (hr:∀b,r=some b->b<lo/\¬S b):∀a,a∈bas++oth->L.sa=some ⟨L.sb,0,none⟩/\S L.sb/\∃c k,w'.cell? ⟨L.sb,a,none⟩=some (.slice c (A8 (sc a)).length k)/\NumS w' S (.slice c (A8 (sc a)).length k) (sc a):=fun a hv=>by
 obtain⟨l,f,c,k,o,p⟩:=h.scl a hv
 exact⟨l,f,c,k,((h.same j hr _ (.inl f)).2 _).trans o,IsK.stb.to p fun b i=>⟨i,(h.same j hr b (.inl i)).2⟩⟩
theorem SchG.row_next (h:SchG w S lo0 lo g L m n sc top F z d bas oth st e steps) (q:w.grownBy w' r) (hr:∀b,r=some b->b<lo/\¬S b/\b≠g):∃a k c l D i f j,Row w' g 98 (zww L m n z d top a k c l D i f j st e steps)/\
 IsQ w' (SN S lo w') (.agg #[.bool (decide (z<0)),.slice a (A8 z.natAbs).length k,.slice c (A8 1).length l]) ((z:Int):Rat)/\NumS w' (SN S lo w') (.slice D (A8 d).length i) d/\NumS w' (SN S lo w') (.slice f (A8 top).length j) top:=by obtain⟨a,k,c,l,D,i,f,j,s,t,u,v⟩:=h.row;have p:=h.same q fun b o=>⟨(hr b o).1,(hr b o).2.1⟩;exact⟨a,k,c,l,D,i,f,j,s.grownN q fun b o=>Ne.symm (hr b o).2.2,IsQ.stb.to t p,IsK.stb.to u p,IsK.stb.to v p⟩
theorem SchG.grown (h:SchG w S lo0 lo g L m n sc top F z d bas oth st e steps) (f:w.grownBy w' r) (hr:∀b,r=some b->b<lo/\¬S b/\b≠g/\(1<=m->b≠L.bb)/\(1<=n->b≠L.ob)/\∀l,l<m+2->1<=M4 m n l->L.bk l≠b):
 SchG w' S lo0 lo g L m n sc top F z d bas oth st e steps:=
 {h with
  tab:=h.tab.grown f fun b a=>⟨(hr b a).1,(hr b a).2.1,(hr b a).2.2.2.2.2⟩
  row:=h.row_next f fun b a=>⟨(hr b a).1,(hr b a).2.1,(hr b a).2.2.1⟩
  hd:=h.hd_next f fun b a=>⟨(hr b a).1,(hr b a).2.1⟩
  basW:=fun c=>⟨(h.basW c).1,(h.basW c).2.keep (f.block _ (h.basW c).2.lt fun a=>(hr _ a.symm).2.2.2.1 c rfl)⟩
  othW:=fun c=>⟨(h.othW c).1,(h.othW c).2.keep (f.block _ (h.othW c).2.lt fun a=>(hr _ a.symm).2.2.2.2.1 c rfl)⟩
  scl:=h.scl_next f fun b a=>⟨(hr b a).1,(hr b a).2.1⟩}
theorem SchG.next (h:SchG w S lo0 lo g L m n sc top F z d bas oth st e steps) (c:Below w.heap.size w w'):SchG w' S lo0 lo g L m n sc top F z d bas oth st e steps:=h.grown (r:=none) (K9 c) fun b a=>by cases a
theorem SchG.line (h:SchG w S lo0 lo g L m n sc top F z d bas oth st e steps) (i:l<m+2) (a:1<=M4 m n l) (f:w.grownBy w' (some (L.bk l))) {p:Nat->Int} (q:LineW w' (SN S lo w') (L.bk l) (L.cp l) (M4 m n l) p):
 SchG w' S lo0 lo g L m n sc top (fun k=>if k=l then p else F k) z d bas oth st e steps:=by
 have o:=h.tab.sep l i a;have j:=h.lS l i a;have hr:∀b,some (L.bk l)=some b->b<lo/\¬S b:=fun b c=>by cases c;exact o
 exact {h with
  tab:=h.tab.upd i a f q
  row:=h.row_next f fun b c=>by cases c;exact⟨o.1,o.2,j.2.1⟩
  hd:=h.hd_next f hr
  basW:=fun a=>⟨(h.basW a).1,(h.basW a).2.keep (f.block _ (h.basW a).2.lt fun c=>j.2.2.1 a (by injection c with c;exact c.symm))⟩
  othW:=fun a=>⟨(h.othW a).1,(h.othW a).2.keep (f.block _ (h.othW a).2.lt fun c=>j.2.2.2 a (by injection c with c;exact c.symm))⟩
  scl:=h.scl_next f hr}
theorem SchG.cells (h:SchG w S lo0 lo g L m n sc top F z d bas oth st e steps) (f:w.grownBy w' (some g)) {i:Int} {j:Nat} {u s v:Int}
 (x:∃o k p l D r q t,Row w' g 98 (zww L m n i j top o k p l D r q t u s v)/\
   IsQ w' (SN S lo w') (.agg #[.bool (decide (i<0)),.slice o (A8 i.natAbs).length k,.slice p (A8 1).length l]) ((i:Int):Rat)/\NumS w' (SN S lo w') (.slice D (A8 j).length r) j/\NumS w' (SN S lo w') (.slice q (A8 top).length t) top):
 SchG w' S lo0 lo g L m n sc top F i j bas oth u s v:=by
 have hr:∀b,some g=some b->b<lo/\¬S b:=fun b c=>by cases c;exact h.gS.2
 exact {h with
  tab:=h.tab.grown f fun b c=>by cases c;exact⟨h.gS.2.1,h.gS.2.2,fun l y a=>(h.lS l y a).2.1⟩
  row:=x
  hd:=h.hd_next f hr
  basW:=fun a=>⟨(h.basW a).1,(h.basW a).2.keep (f.block _ (h.basW a).2.lt fun c=>(h.bS a).2.2.2 (by injection c with c))⟩
  othW:=fun a=>⟨(h.othW a).1,(h.othW a).2.keep (f.block _ (h.othW a).2.lt fun c=>(h.oS a).2.2.2 (by injection c with c))⟩
  scl:=h.scl_next f hr}
theorem SchG.g_lt (h:SchG w S lo0 lo g L m n sc top F z d bas oth st e steps):g<w.heap.size:=x h.gS.2.1 h.tab.hlo
theorem SchG.nums (h:SchG w S lo0 lo g L m n sc top F z d bas oth st e steps) {G:Nat->Nat->Int} (a:∀l j,l<m+2->j<M4 m n l->F l j=G l j):SchG w S lo0 lo g L m n sc top G z d bas oth st e steps:={h with tab:=h.tab.same a}
theorem SchG.el (h:SchG w S lo0 lo g L m n sc top F z d bas oth st e steps) (p:l<m+2) (s:j<M4 m n l):∃f k i q,L.ha l=some ⟨L.bk l,0,none⟩/\w.cell? ⟨L.bk l,j*3,none⟩=some (.bool (decide (F l j<0)))/\w.cell? ⟨L.bk l,j*3+1,none⟩=some (.slice f (A8 (F l j).natAbs).length k)/\w.cell? ⟨L.bk l,j*3+2,none⟩=some (.slice i (A8 1).length q)/\
 IsQ w (C5 w) (.agg #[.bool (decide (F l j<0)),.slice f (A8 (F l j).natAbs).length k,.slice i (A8 1).length q]) ((F l j:Int):Rat):=by have o:1<=M4 m n l:=og;obtain⟨f,k,i,q,a,b,c,r⟩:=(h.tab.line l p o).el j s;exact⟨f,k,i,q,h.hv l p o,a,b,c,IsQ.stb.to r (G4 h.sn_lt)⟩
theorem SchG.elS (h:SchG w S lo0 lo g L m n sc top F z d bas oth st e steps) (p:l<m+2) (s:j<M4 m n l):∃f k i q,L.ha l=some ⟨L.bk l,0,none⟩/\w.cell? ⟨L.bk l,j*3,none⟩=some (.bool (decide (F l j<0)))/\w.cell? ⟨L.bk l,j*3+1,none⟩=some (.slice f (A8 (F l j).natAbs).length k)/\w.cell? ⟨L.bk l,j*3+2,none⟩=some (.slice i (A8 1).length q)/\
 IsQ w (SN S lo w) (.agg #[.bool (decide (F l j<0)),.slice f (A8 (F l j).natAbs).length k,.slice i (A8 1).length q]) ((F l j:Int):Rat):=by have o:1<=M4 m n l:=og;obtain⟨f,k,i,q,a,b,c,r⟩:=(h.tab.line l p o).el j s;exact⟨f,k,i,q,h.hv l p o,a,b,c,r⟩
end
def N7:Option Nat->Int
 |none=> -1
 |some k=>(k:Int)
theorem zxh (p:Nat->Bool) (key:Nat->Nat) (k:Nat):V8 p key (k+1)=match V8 p key k with
 |none=>if p k then some k else none
 |some b=>if p k&&decide (key k<key b) then some k else some b:=rfl
theorem ydg {p:Nat->Bool} (h:p k=false):N7 (V8 p key (k+1))=N7 (V8 p key k):=by rw[zxh,h];cases V8 p key k<;>rfl
theorem ydf {p:Nat->Bool} (h:p k=true) (a:V8 p key k=none):N7 (V8 p key (k+1))=(k:Int):=by rw[zxh,h,a];rfl
theorem yde {p:Nat->Bool} {b:Nat} (h:p k=true) (a:V8 p key k=some b) (c:key k<key b):N7 (V8 p key (k+1))=(k:Int):=by rw[zxh,h,a];show N7 (if true&&decide (key k<key b) then some k else some b)=_;rw[decide_eq_true c];rfl
theorem ydh {p:Nat->Bool} {b:Nat} (h:p k=true) (a:V8 p key k=some b) (c:¬key k<key b):N7 (V8 p key (k+1))=(b:Int):=by rw[zxh,h,a];show N7 (if true&&decide (key k<key b) then some k else some b)=_;rw[decide_eq_false c];rfl
def J4 (z:Int) (u d a:Nat):Rat:=((z:Rat)*((u:Nat):Rat))/(((d:Nat):Rat)*((a:Nat):Rat))
theorem yju {z:Int} {d a:Nat}:J4 z u d a=mkRat (sg (decide (z<0)) (z.natAbs*u)) (d*a):=by
 have b:sg (decide (z<0)) (z.natAbs*u)=z*(u:Int):=by
  rcases Int.lt_or_le z 0 with h|h
  ·rw[decide_eq_true h];unfold sg;have:((z.natAbs:Nat):Int)= -z:=og;simp only[if_true,Int.natCast_mul,this];rw[Int.neg_mul,Int.neg_neg]
  ·rw[decide_eq_false og];unfold sg;have:((z.natAbs:Nat):Int)=z:=og;simp[this]
 rw[b,Rat.mkRat_eq_div,Rat.intCast_mul];unfold J4;congr 1;exact(Rat.natCast_mul d a).symm
theorem ztv {w:World} {g d dn:Nat} {z:Int} {vx an al:Value} {D:Option Addr} {X:Nat} (n:w.cell? ⟨g,8,none⟩=some (.slice D (A8 d).length X)) (hD:NumS w (C5 w) (.slice D (A8 d).length X) d) (K:IsQ w (C5 w) vx ((z:Int):Rat)) (I:NumS w (C5 w) an u) (hv:NumS w (C5 w) al dn) (ad:Bru w)
 (Z:(A8 z.natAbs).length<=100000) (aa:(A8 u).length<=100000) (ab:(A8 d).length<=100000) (ac:(A8 dn).length<=100000) (E:0<d) (F:0<dn):
 Calls Tryz.prog 123 #[.pointer (some ⟨g,0,none⟩),vx,an,al] w (K8 w (J4 z u d dn)):=by
 obtain⟨Q,aI,S,T,aG,m⟩:=zpu hD K I hv ad (o Z (o aa (o ab (o ac (o E F)))));obtain⟨aK,k,aL,l,rfl⟩:=zle K;obtain⟨A,a5,rfl,aS⟩:=ztp (F7 I);obtain⟨C,a6,rfl,aT⟩:=ztp (F7 hv);have v:=a (zls aI.out);rw[Rat.num_intCast] at v;obtain⟨t,p⟩:=nm (decide (z<0));obtain⟨aY,L⟩:=nm ((A8 z.natAbs).length);obtain⟨aZ,aj⟩:=nm ((A8 1).length);obtain⟨u1,J⟩:=nm ((A8 u).length);obtain⟨a8,af⟩:=nm ((A8 d).length);obtain⟨bh,G⟩:=nm ((A8 dn).length);rw[<-p,<-L,<-aj,<-J,<-G];rw[<-L] at v;rw[<-J] at S;rw[<-af] at Q n;rw[<-G] at T;have a0:=a p;obtain⟨q,H⟩:=nm (J4 z u d dn);rw[<-H];have R:Hid (q=mkRat (sg t (z.natAbs*u)) (d*dn)):=(by rw[Hid,H,p];exact yju);have h:Hid ((A8 (z.natAbs*u)).length<=1000000/\(A8 (d*dn)).length<=1000000/\d*dn≠0):=(by refine⟨s (ycq _ _) og,s (ycq _ _) og,?_⟩;have:=Nat.mul_pos E F;omega);clear hD K I hv ad Z aa ab ac E F p L aj J af G aS aT H;have a7:=N9;obtain⟨e,aU,c,ak,r,U⟩:=zkd w #[.bool t,.slice aK aY k,.slice aL aZ l] #[.bool false,.slice none 0 0,.slice none 0 0] 30 30;obtain⟨B0,aM⟩:=C7 c r;have aJ:=a U.out;obtain⟨aN,aO,b2⟩:=C0 ak;obtain⟨au,av,ay⟩:=C0 r;obtain⟨ao,aq,ar⟩:=E9 r;have aP:=A9 c n;obtain⟨aE,aC,aB,aD⟩:=V7 (IsK.stb.next v.out c) (IsK.stb.next S.out c) (IsK.stb.next Q.out c) (IsK.stb.next T.out c);have P:=nU aG c;obtain⟨i,B⟩:=C7 (o au (o av ay)) (o ao (o aq ar));have aR:Hid (g<w.heap.size):=World.block_lt_of_cell? w _ n;clear c ak r U n au av ay ao aq ar;go_in;go_wp2_with fail;clear aU;have x:=zlz aN aO aP;have az:=a fun y (j:Below e.heap.size e y)=>zmv (F7 (IsK.stb.next aE.out j)) (F7 (IsK.stb.next aC.out j)) (f _) (f _) (s m.out.1 og) (s m.out.2.1 og);have aA:=a fun y (j:Below e.heap.size e y)=>zmv (F7 (IsK.stb.next aB.out j)) (F7 (IsK.stb.next aD.out j)) (f _) (f _) (s m.out.2.2.1 og) (s m.out.2.2.2.1 og);have M:w.heap.size≠(w.heap.size+1):=og;have aH:=hp3 x (nA M (nA M (nZ (oh aR))));clear M
 go_region_held3 (SH.mk _ x).s
  (first|exact x.out _ bel|exact aH.out _ bel _ _ _)
  (first
    |(go_at_call 160;(with_reducible refine Calls.mono (az.out _ bel) ?_);rintro Y aV ⟨⟨br,rfl,ag⟩,ae⟩;have N:=bW e aV;have V:=a (zto ag);obtain⟨a2,bd,rfl,_,_,_⟩:=id ag)
    |(go_at_call 160;(with_reducible refine Calls.mono (aA.out _ bel) ?_);rintro Y aW ⟨⟨bt,rfl,ah⟩,aQ⟩;have O:=bW e aW;have W:=a (zto ah);obtain⟨a3,be,rfl,_,_,_⟩:=id ah)
    |(go_at_call 171;(first|(with_reducible refine Calls.mono (yld (q:=q) t (F7 (IsK.stb.next V.out aQ)) (F7 W.out) (Bru.next P.out O.out) h.out.1 h.out.2.1 h.out.2.2 R.out) ?_)|(with_reducible refine Calls.mono (yld (q:=q) t (F7 V.out) (F7 (IsK.stb.next W.out ae)) (Bru.next P.out N.out) h.out.1 h.out.2.1 h.out.2.2 R.out) ?_));rintro Y aX ⟨⟨bu,rfl,ai⟩,a9⟩;have b:=bW e aX;obtain⟨bm,a4,bf,a1,bg,rfl,_,_,_⟩:=F9 ai;have bn:=A9 b.out i.out.1;have bp:=A9 b.out i.out.2.1;have bq:=A9 b.out i.out.2.2;have s0:=J5 b.out i.out.1 B.out.1;have bi:=J5 b.out i.out.2.1 B.out.2.1;have bj:=J5 b.out i.out.2.2 B.out.2.2))
 all_goals
  go_wp2_with fail
  refine U5 Tryz.results123 rfl rfl (Row.put3 (aM.out.next b.out) _ _ _) (zmw (lo:=e.heap.size) (IsQ.stb.le ai (by first|exact(by have:=O.out.size;have:=ae.size;simp at*;omega)|exact(by have:=N.out.size;simp at*;omega))) (C8 B0.out b.out) og (oh aJ))
def zrc (w w':World) (a:Value) (l:List Rat):Prop:=∃S:Nat->Prop,OwnS 3 30 IsR w' w.heap.size S a (C4 l)/\∀b,S b->w.heap.size<=b
theorem zz1373 (j:Nat):C4 (List.replicate (j+1) (0:Rat))=C4 (List.replicate j 0)++[E0 0]:=by unfold C4;rw[List.replicate_succ',List.map_append];rfl
theorem yak (w:World) {n:Nat} (Q:n<=1000):
 Calls Tryz.prog 183 #[.int .i64 (n:Int)] w fun r w'=>(∃C,r= .returned C/\zrc w w' C (List.replicate n 0))/\Below w.heap.size w w':=by
 have N:=N9;go_in;go_wp2_with (at_make;refine zvp zlp rfl _ _ rfl IsR n rfl rfl rfl og (base:=w.heap.size) (S:=fun _=>False) (f _) (fun b h=>h.elim) ?_;intro W Y z t S);obtain⟨E,D⟩:=C7 z t;clear z t;go_loopw [7,3] (fun m out wr=>∃(j:Nat) (c:Nat->Prop),j<=n/\m= .int .i64 (j:Int)/\Below w.heap.size w wr/\OwnS 3 30 IsR wr w.heap.size c out (C4 (List.replicate j 0))/\Hid (∀b,c b->w.heap.size<=b)) (fun m _ _=>n-(intOf m).toNat);case atStart=>exact⟨0,fun _=>False,B _,rfl,D.out,E.out,fun b h=>h.elim⟩
 case round=>
  obtain⟨j,c,O,rfl,v,x,s⟩:=hrel;obtain⟨g,q⟩:=C7 v x;clear v x;rcases y j n with k|k
  ·have p:=a k;clear k;have P:=p.out;go_wp2_with fail;refine(zrb wr).mono ?_;rintro r d ⟨⟨K,rfl,l⟩,i⟩;obtain⟨L,U,M,V,rfl⟩:=zle (show IsQ d (I7 wr.heap.size d) K (((0:Int)):Rat) from l);have I:=OwnS.step IsR.stb (T:=fun b=>c b\/(wr.heap.size<=b/\b<d.heap.size)) q.out i (fun b h=> .inl h) (fun b h=>h);have H:=IsQ.stb.to l (G4 (T:=fun b=>c b\/(wr.heap.size<=b/\b<d.heap.size)) fun b h=> .inr h);have o:=nB g i;have G:w.heap.size<=d.heap.size:=o.out.size;have R:=g.out.size;clear i l;go_wp2_with (at_builtin;refine zpn zlp rfl _ _ rfl IsR.stb rfl rfl rfl I H rfl (by intro u A;simp[Value.cells] at A;rcases A with rfl|rfl|rfl<;>rfl) (by rw[show(C4 (List.replicate j (0:Rat))).length=j by simp[C4]];omega) G ?_;intro X Z J F T);go_roundw;(case rel=>exact⟨j+1,fun b=>c b\/(wr.heap.size<=b/\b<d.heap.size),p.out,by go_num,o.out.trans F,by rw[zz1373];exact J,fun b e=>by rcases e with e|e;exact s.out b e;omega⟩);case measure=>simp[intOf];omega
  ·obtain rfl:j=n:=og;go_wp2_with fail;go_ret;exact⟨⟨_,rfl,c,q.out,s.out⟩,g.out⟩
def zqs (l:List Rat) (a:Nat) (j:Nat):Int:=(l.getD j 0).num*((a/(l.getD j 0).den:Nat):Int)
theorem yjc {w:World} {aj al:Value} {l:List Rat} {d m:Nat} (h:IsV w (C5 w) aj (C4 l)) (D:IsN w 0 w.heap.size al d) (E:l.length=m) (a8:m<=1000) (ae:∀q∈l,Sz q 100000) (U:(A8 d).length<=1000000) (hd:∀q∈l,0<d/q.den):
 Calls Tryz.prog 166 #[aj,al] w fun Q w'=>(∃ak,Q= .returned ak/\zrc w w' ak (ints m (zqs l d)))/\Below w.heap.size w w':=by
 obtain⟨t,av,au,aq,ao,K⟩:=zpu h ae E hd U (zto D);obtain⟨A,c,rfl,aS⟩:=J6 h;obtain⟨C,a1,rfl,_,_,_⟩:=id D;obtain⟨bh,aa⟩:=nm ((A8 d).length);have el:(C4 l).length=m:=(by simp[C4,E]);rw[el] at t aS⊢;rw[<-aa] at K⊢;obtain⟨aX,v,a3,i,aN,Z,_⟩:=id t.out;simp only[Value.slice.injEq] at i;obtain⟨-,-,rfl⟩:=i;have a4:c<=9223372036854775807:=(by unfold maxLen at Z;omega);rw[el] at aN;clear h D E ae U hd el aa Z;have a2:=N9;go_in;go_wp2_with (at_make;refine zvp zlp rfl _ _ rfl IsR m rfl rfl rfl og (base:=w.heap.size) (S:=fun _=>False) (f _) (fun b h=>h.elim) ?_;intro bj bp ac W bd);obtain⟨az,an⟩:=C7 ac W;clear ac W;go_loopw [13,5,7] (fun G out _ wr=>∃(j:Nat) (e:Nat->Prop),j<=m/\G= .int .i64 (j:Int)/\Below w.heap.size w wr/\OwnS 3 30 IsR wr w.heap.size e out (C4 (ints j (zqs l d)))/\Hid (∀b,e b->w.heap.size<=b)) (fun G _ _ _=>m-(intOf G).toNat);case atStart=>exact⟨0,fun _=>False,B _,rfl,an.out,az.out,fun b h=>h.elim⟩
 case round=>
  obtain⟨j,e,a5,rfl,Y,ab,V⟩:=hrel;obtain⟨k,N⟩:=C7 Y ab;clear Y ab;rcases y j m with g|g
  ·obtain⟨x,i,ad⟩:=zph (l:=l) (j:=j) (by rw[au.out];exact g);obtain⟨a0,bi,aD,aE,aG,aH,rfl,_,n,O,v,P⟩:=zmt (IsV.stb.to t.out (C9 k.out)) ad;obtain⟨aI,R⟩:=nm ((E0 x).neg);obtain⟨aJ,S⟩:=nm ((E0 x).num.length);obtain⟨aK,T⟩:=nm ((E0 x).den.length);rw[<-R] at O n;rw[<-S] at v n;rw[<-T] at P n;obtain⟨aA,M⟩:=C7 (zpd n) (List.mem_of_getElem? i);have ah:zqs l d j=x.num*((d/x.den:Nat):Int):=(by unfold zqs;rw[List.getD_eq_getElem?_getD,i];rfl);have ay:=a ah;have a6:(0:Int)<=(j:Int):=og;have a7:(j:Int)<(m:Int):=og;obtain⟨br,aR,p,ai,aT⟩:=J9 wr #[.bool aI,.slice aD aJ aE,.slice aG aK aH] 30;have I:=a p;have aB:=nQ aA p;have aC:=a (F7 (IsK.stb.next (IsK.stb.next K.out k.out) p));obtain⟨aU,aV,aW⟩:=C0 ai;have ar:=a g;obtain⟨z,ag⟩:=nm (x.num*((d/x.den:Nat):Int));have L:=a ag;clear i ad n R S T ai aT p g ag ah;go_wp2_with fail;clear aR O v P;refine(yco aB.out aC.out (av.out x M.out) ao.out (aq.out x M.out)).mono ?_;rw[<-L.out];rintro Q r ⟨⟨bm,rfl,F⟩,X⟩;obtain⟨aY,bf,aZ,bg,rfl⟩:=zle F;have H:=nB I X;have aP:=OwnS.step IsR.stb (T:=fun b=>e b\/(wr.heap.size<=b/\b<r.heap.size)) N.out H.out (fun b h=> .inl h) (fun b h=>h);have aO:=IsQ.stb.to F (G4 (T:=fun b=>e b\/(wr.heap.size<=b/\b<r.heap.size)) fun b h=> .inr ⟨s I.out.size h.1,h.2⟩);have J:=a (C8 k.out H.out);have aM:w.heap.size<=r.heap.size:=J.out.size;have a9:=k.out.size;have g:=ar.out;clear X F aU aV aW;go_wp2_with (at_builtin;refine zpn zlp rfl _ _ rfl IsR.stb rfl rfl rfl aP aO rfl (by intro u af;simp[Value.cells] at af;rcases af with rfl|rfl|rfl<;>rfl) (by rw[show(C4 (ints j (zqs l d))).length=j by simp[C4,zsl]];omega) aM ?_;intro bn bq aQ aL be);go_roundw;(case rel=>refine⟨j+1,fun b=>e b\/(wr.heap.size<=b/\b<r.heap.size),g,by go_num,J.out.trans aL,?_,fun b o=>by rcases o with o|o;exact V.out b o;omega⟩;rw[yig,C4,List.map_append,ay.out,<-L.out];exact aQ);case measure=>simp[intOf];omega
  ·obtain rfl:j=m:=og;go_wp2_with fail;go_ret;exact⟨⟨_,rfl,e,N.out,V.out⟩,k.out⟩
theorem yvt:∀k,p k->∃k,p k/\∀j,p j->k<=j:=by
 intro k;induction k using Nat.strongRecOn with
 |ind k ih=>
  intro h;by_cases c:∃j,j<k/\p j
  ·obtain⟨j,b,e⟩:=c;exact ih j b e
  ·exact⟨k,h,fun j b=>Nat.le_of_not_lt fun d=>c ⟨j,d,b⟩⟩
noncomputable def leastN (p:Nat->Prop):Nat:=open Classical in if h:∃k,p k/\∀j,p j->k<=j then Classical.choose h else 0
theorem zyo (h:p k):p (leastN p)/\leastN p<=k:=by have a:=yvt k h;unfold leastN;rw[dif_pos a];have:=Classical.choose_spec a;exact⟨this.1,this.2 k h⟩
noncomputable def leftO {b:Type} (c:b->Option b) (a:b):Nat:=leastN fun k=>c (O0 c k a)=none
theorem yiz {e:Type} {c:e->Option e} {a b:e} (h:zxg c a) (f:c a=some b):zxg c b/\leftO c b<leftO c a:=by have key:∀k,c (O0 c (k+1) a)=c (O0 c k b):=fun k=>(by rw[ycf f]);obtain⟨m,i⟩:=h;have d:=(zyo (p:=fun k=>c (O0 c k a)=none) i).1;have l:leftO c a≠0:=fun g=>(by have d:c (O0 c (leftO c a) a)=none:=d;rw[g] at d;have:c a=none:=d;rw[f] at this;cases this);obtain⟨k,j⟩:∃k,leftO c a=k+1:=⟨leftO c a-1,by omega⟩;have d:c (O0 c (leftO c a) a)=none:=d;rw[j,key] at d;refine⟨⟨k,d⟩,?_⟩;have:=(zyo (p:=fun k=>c (O0 c k b)=none) d).2;show leastN _<_;omega
noncomputable def leastM {a:Type} (b:a->Prop) (c:a->Nat):Nat:=leastN fun k=>∃s,b s/\c s=k
theorem yiw {a:Type} {J:a->Prop} {μ:a->Nat} {s:a} (h:J s):leastM J μ<=μ s:=(zyo (p:=fun k=>∃s,J s/\μ s=k) ⟨s,h,rfl⟩).2
theorem yiv {b:Type} {a:b->Prop} {μ:b->Nat} (h:∃s,a s):∃s,a s/\μ s=leastM a μ:=by obtain⟨s,c⟩:=h;exact(zyo (p:=fun k=>∃s,a s/\μ s=k) ⟨s,c,rfl⟩).1
structure OkT (M m n:Nat) (sc:Nat->Nat) (top:Nat) (q:Dic) (t:TB):Prop where
 inv:TInv M m n t
 eqv:Eqv m n q (K7 sc top m n t)
section
variable {M m n top : Nat} {sc : Nat → Nat} {q : Dic} {t v : TB}
theorem yrm (b:∀o,0<sc o) (l:0<top) (h:TInv M m n t) {r c:Nat} (hr:r<=m) (hc:c<=n) (k:t.A r c≠0):(K7 sc top m n t).D r c≠0:=by
 show(if r<=m/\c<=n then _ else _)≠_;rw[if_pos ⟨hr,hc⟩];have d:((t.A r c:Int):Rat)≠0:=(by simpa using k);have e:=ycb (zwn h.d0);have f:=zz1458 b n (fun j=>t.oth.getD j 0) c;have g:=ycb (zz1461 b l m (fun i=>t.bas.getD i 0) r);intro a;rcases Rat.mul_eq_zero.1 a with a|a
 ·rcases Rat.mul_eq_zero.1 a with a|a
  ·rcases Rat.mul_eq_zero.1 a with a|a
   ·exact d a
   ·exact e a
  ·exact f a
 ·exact g a
theorem OkT.piv (b:∀e,0<sc e) (d:0<top) (h:OkT M m n sc top q t) {r c:Nat} (hr:r<m) (hc:c<n) (a:t.A r c≠0):OkT M m n sc top q (U4 t r c) where
 inv:=h.inv.piv hr hc a
 eqv:=by rw[h.inv.dic b d hr hc a];exact h.eqv.piv hr hc (yrm b d h.inv og og a)
theorem OkT.rep (b:∀e,0<sc e) (d:0<top) (h:OkT M m n sc top q t) (hst:zkv m n t=some v):OkT M m n sc top q v:=by obtain⟨r,c,rfl,hr,hc,a,_⟩:=ybf h.inv hst;exact h.piv b d hr hc a
theorem OkT.step (e:∀g,0<sc g) (f:0<top) (h:OkT M m n sc top q t) (a:∀i,i<m->0<=t.A i n) (hst:zko m n t=some v):OkT M m n sc top q v/\∀i,i<m->0<=v.A i n:=by obtain⟨r,c,rfl,d,b⟩:=ybg h.inv a hst;exact⟨h.piv e f b.hr b.hc d,(restT h.inv a hst).2⟩
theorem ydk (a:∀f,0<sc f) (e:0<top) (h:TInv M m n t) (i j:Nat):0<((t.d:Int):Rat)⁻¹*uc sc n (fun j=>t.oth.getD j 0) j*(ur sc top m (fun i=>t.bas.getD i 0) i)⁻¹:=by
 have p:∀x:Nat,0<x->(0:Rat)<((x:Nat):Rat):=fun x g=>(by have:=Rat.intCast_lt_intCast.2 (show(0:Int)<(x:Int) by omega);exact this);have b:=zuj h.d0
 have c:0<uc sc n (fun j=>t.oth.getD j 0) j:=by
  unfold uc;split
  ·exact p _ (a _)
  ·decide
 have d:0<ur sc top m (fun i=>t.bas.getD i 0) i:=by
  unfold ur;split
  ·exact p _ (a _)
  ·exact p _ e
 exact Rat.mul_pos (Rat.mul_pos b c) (inv_pos d)
theorem ybl (a:i<=m) (b:j<=n):(K7 sc top m n t).D i j=(t.A i j:Rat)*(((t.d:Int):Rat)⁻¹*uc sc n (fun j=>t.oth.getD j 0) j*(ur sc top m (fun i=>t.bas.getD i 0) i)⁻¹):=by show(if i<=m/\j<=n then _ else _)=_;rw[if_pos ⟨a,b⟩,Rat.mul_assoc,Rat.mul_assoc,Rat.mul_assoc]
theorem zxt (c:∀e,0<sc e) (d:0<top) (h:TInv M m n t) (a:i<=m) (b:j<=n):0<=(K7 sc top m n t).D i j↔0<=t.A i j:=by rw[ybl a b];exact zzu (ydk c d h i j)
theorem ygk (c:∀e,0<sc e) (d:0<top) (h:TInv M m n t) (a:i<=m) (b:j<=n):(K7 sc top m n t).D i j<0↔t.A i j<0:=by rw[ybl a b];exact zrv (ydk c d h i j)
theorem yxe (h:zom m n t=none):∀i,i<m->0<=t.A i n:=fun i a=>by
 have:=zvs h i a
 rw[decide_eq_false_iff_not] at this
 omega
end
section
variable {M m n top : Nat} {sc : Nat → Nat} {t : TB} {A : List (List Rat)} {b c : List Rat}
theorem ysk (d:∀s,0<sc s) (e:0<top) (k:A.length=m) (l:b.length=m) (hc:c.length=n) (q:∀r∈A,r.length=n) (h:OkT M m n sc top (U3 m n (aF A) (lF b) (lF c)) t) (g:∀i,i<m->0<=t.A i n) (o:zlq m n t=none):
 CertOpt A b c (ztz m n (K7 sc top m n t)) (zwp m n (K7 sc top m n t)) ((K7 sc top m n t).D m n):=
 yqc k l hc q (h.inv.distD _ _) h.eqv (fun j a=>by have:=h.inv.ltD.2 j a;show t.oth.getD j 0<n+m;omega) (fun i p=>(zxt d e h.inv og (f _)).2 (g i p)) fun j a=>(zxt d e h.inv (f _) og).2 (by
  have:=zvs o j a
  rw[decide_eq_false_iff_not] at this
  omega)
theorem ysj (e:∀p,0<sc p) (g:0<top) (l:A.length=m) (o:b.length=m) (hc:c.length=n) (h:OkT M m n sc top (U3 m n (aF A) (lF b) (lF c)) t) {r:Nat} (i:zom m n t=some r) (k:zpc n t r=none):CertNone A b c (zwo m n (K7 sc top m n t) r):=by obtain⟨hr,d,_⟩:=zmq i;have d:t.A r n<0:=of_decide_eq_true d;exact yqb l o hc h.eqv (fun j a=>by have:=h.inv.ltD.2 j a;show t.oth.getD j 0<n+m;omega) hr (by have:=h.inv.ltD.1 r hr;show t.bas.getD r 0<n+m;omega) ((ygk e g h.inv og (f _)).2 d) fun j a=>(zxt e g h.inv og og).2 (by have:=zvs k j a;rw[decide_eq_false_iff_not] at this;omega)
theorem ysl (e:∀y,0<sc y) (g:0<top) (u:A.length=m) (v:b.length=m) (hc:c.length=n) (x:∀r∈A,r.length=n) (h:OkT M m n sc top (U3 m n (aF A) (lF b) (lF c)) t) (j:∀i,i<m->0<=t.A i n) (l:zlq m n t=some k) (o:znk m n t k=none):
 CertRay A b c (ztz m n (K7 sc top m n t)) (zwt m n (K7 sc top m n t) k):=by obtain⟨w,d,_⟩:=zmq l;have d:t.A m k<0:=of_decide_eq_true d;exact yqd u v hc x (h.inv.distD _ _) h.eqv w (fun i a=>(zxt e g h.inv og (f _)).2 (j i a)) ((ygk e g h.inv (f _) og).2 d) fun i a=>by have z:=ycl o i a;have p:=ybl (sc:=sc) (top:=top) (m:=m) (n:=n) (t:=t) (show i<=m by omega) (show k<=n by omega);have q:=(zzv (z:=t.A i k) (ydk e g h.inv i k));rw[p];exact Rat.not_lt.1 fun s=>by have:=q.1 s;omega
end
theorem yxf {w:World} {S:Nat->Prop} {lo0 lo g m n top:Nat} {L:Lay} {sc:Nat->Nat} {t:TB} {st e steps:Int} (h:T3 w S lo0 lo g L m n sc top t st e steps) (a5:m<=100) (a6:n<=100):
 Calls Tryz.prog 148 #[.pointer (some ⟨g,0,none⟩)] w fun au w'=>au= .returned (.int .i64 (N7 (zom m n t)))/\Below w.heap.size w w':=by
 have T:=a h;obtain⟨aM,a9,aN,bd,aL,aR,aP,aT,-,⟨Z,ay,az,aa,aA⟩,-,-,-⟩:=h.open;obtain⟨p,M⟩:=nm (fun i=>decide (t.A i n<0));obtain⟨key,l⟩:=nm (fun i=>t.bas.getD i 0);have an:Hid (zom m n t=V8 p key m):=(by rw[Hid,M,l];rfl);rw[an.out];obtain⟨ak,R⟩:=C7 M l;have A:=h.cap m og;rw[Y2] at A;have aX:=A.1;have aY:L.cp m<=9223372036854775807:=(by have:=A.2;unfold maxLen at this;omega);have K:=h.caps;have a3:m<=L.bc:=og;have a4:L.bc<=9223372036854775807:=(by unfold maxLen at K;omega);have a7:m<=L.rc:=og;have a8:L.rc<=9223372036854775807:=(by unfold maxLen at K;omega);clear h M l K A;have aS:=N9;clear ay az aA;obtain⟨aQ,J⟩:=nm (L.ha m);rw[<-J] at aa;have aj:=a J;clear J;have ao:=a Z;go_in;go_wp2_with fail;clear aa Z;go_loopw [12,3,4,5] (fun P best _ _ wr=>∃k:Nat,k<=m/\P= .int .i64 (k:Int)/\best= .int .i64 (N7 (V8 p key k))/\Below w.heap.size w wr) (fun P _ _ _ _=>m-(intOf P).toNat);case atStart=>exact⟨0,B _,rfl,rfl,Below.refl _ _⟩
 case round=>
  obtain⟨k,a2,rfl,rfl,ac⟩:=hrel;have q:=a ac;clear ac;rcases y k m with C|aZ
  ·obtain⟨aq,aG,ar,aI,ea,G,H,Y,eq⟩:=(T.out.next q.out).el (l:=m) (j:=k) og (by rw[Y2];exact C);rw[zus] at G H eq;obtain⟨aH,hI⟩:=(T.out.next q.out).basW og;have Q:=A9 q.out ao.out;rw[aH] at Q;have X:=hI.el k C;have al:=a C;have a0:(0:Int)<=(k:Int):=og;have a1:(k:Int)<(m:Int):=og;have u:=a eq;obtain⟨E,O⟩:=nm (decide (t.A k n<0));obtain⟨aK,af⟩:=nm ((A8 (t.A k n).natAbs).length);obtain⟨aJ,ae⟩:=nm ((A8 1).length);rw[<-O] at G u;rw[<-af] at H u;rw[<-ae] at Y u;obtain⟨ah,aD,j,ag,aE⟩:=J9 wr #[.bool E,.slice aq aK aG,.slice ar aJ aI] 30;obtain⟨v,x,b2⟩:=C0 ag;have ai:=a j;have s:=nB q j;have D:=A9 j Q;have f:=A9 j X;have l:∀i,(fun i=>t.bas.getD i 0) i=key i:=fun i=>(by rw[R.out]);have r:t.bas.getD k 0=key k:=l k;have f:ah.cell? ⟨L.bb,k,none⟩=some (.int .i64 ((key k:Nat):Int)):=(by rw[<-r];exact f);have aO:=nQ u j;have U:Hid (p k=E):=(by rw[Hid,ak.out,O]);have av:=aj.out.trans ea;subst av;clear O af ae ag aE j eq Q X r l C;go_wp2_with fail;clear aD G H Y;have c:Hid (k+1<=m):=al.out;cases o:p k with
   |false=>have N:E=false:=U.out.symm.trans o;subst N;have d:=hs5 v x b2 D f;refine wp_region_noPanic ?_;refine zld d fun I=> ?_;refine sT 0 17 ?_;refine sT 1 18 ?_;refine sT 2 19 ?_;refine sU 3 20 ?_;refine sU 4 21 ?_;refine sU 5 22 ?_;refine sU 6 23 ?_;refine sU 7 24 ?_;refine sU 8 25 ?_;refine sU 9 26 ?_;refine sU 10 27 ?_;refine sU 11 28 ?_;refine sU 12 29 ?_;refine sU 13 30 ?_;refine sU 14 31 ?_;refine sU 15 32 ?_;refine sU 16 33 ?_;refine sU 17 34 ?_;refine sU 18 35 ?_;refine sU 19 36 ?_;refine sU 20 37 ?_;refine sU 21 38 ?_;refine sU 22 39 ?_;refine sU 23 40 ?_;refine sT 24 41 ?_;refine wpAnyH_done kr ?_ _;refine NoPanic.normal ?_;go_wp2_with fail;have F:=s.out;go_roundw;(case rel=>exact⟨k+1,c.out,by go_num,by rw[ydg o],bel⟩);case measure=>simp[intOf];have:=c.out;omega
   |true=>
    have N:E=true:=U.out.symm.trans o;subst N;cases z:V8 p key k with
    |none=>have ab:N7 (none:Option Nat)= -1:=rfl;rw[ab];have d:=hs5 v x b2 D f;refine wp_region_noPanic ?_;refine zld d fun I=> ?_;refine sT 0 17 ?_;refine sT 1 18 ?_;refine sT 2 19 ?_;refine sT 3 20 ?_;refine sT 4 21 ?_;refine sT 5 22 ?_;refine sU 6 23 ?_;refine sU 7 24 ?_;refine sU 8 25 ?_;refine sU 9 26 ?_;refine sU 10 27 ?_;refine sU 11 28 ?_;refine sU 12 29 ?_;refine sU 13 30 ?_;refine sU 14 31 ?_;refine sU 15 32 ?_;refine sU 16 33 ?_;refine sU 17 34 ?_;refine sU 18 35 ?_;refine sU 19 36 ?_;refine sU 20 37 ?_;refine sU 21 38 ?_;refine sU 22 39 ?_;refine sT 23 40 ?_;refine sT 24 41 ?_;refine wpAnyH_done kr ?_ _;refine NoPanic.normal ?_;go_wp2_with fail;have F:=s.out;go_roundw;(case rel=>exact⟨k+1,c.out,by go_num,by rw[ydf o z],bel⟩);case measure=>simp[intOf];have:=c.out;omega
    |some b=>
     have aW:b<k:=(zmq z).1;have V:=hI.el b (oh c);have r:t.bas.getD b 0=key b:=(by rw[R.out]);have W:ah.cell? ⟨L.bb,b,none⟩=some (.int .i64 ((key b:Nat):Int)):=(by rw[<-r];exact A9 ai.out V);clear r;have aU:(0:Int)<=(b:Int):=og;have aV:(b:Int)<(m:Int):=oh c;have aB:N7 (some b)=(b:Int):=rfl;rw[aB];have ab:decide ((b:Int)<0)=false:=decide_eq_false og;clear V;by_cases ad:key k<key b
     ·have aC:decide (((key k:Nat):Int)<((key b:Nat):Int))=true:=decide_eq_true og;have d:=znz v x b2 D f W;refine wp_region_noPanic ?_;refine zld d fun I=> ?_;refine sT 0 17 ?_;refine sT 1 18 ?_;refine sT 2 19 ?_;refine sT 3 20 ?_;refine sT 4 21 ?_;refine sT 5 22 ?_;refine sT 6 23 ?_;refine sT 7 24 ?_;refine sT 8 25 ?_;refine sT 9 26 ?_;refine sT 10 27 ?_;refine sT 11 28 ?_;refine sT 12 29 ?_;refine sT 13 30 ?_;refine sT 14 31 ?_;refine sT 15 32 ?_;refine sT 16 33 ?_;refine sT 17 34 ?_;refine sT 18 35 ?_;refine sT 19 36 ?_;refine sT 20 37 ?_;refine sT 21 38 ?_;refine sT 22 39 ?_;refine sT 23 40 ?_;refine sT 24 41 ?_;refine wpAnyH_done kr ?_ _;refine NoPanic.normal ?_;go_wp2_with fail;have F:=s.out;go_roundw;(case rel=>exact⟨k+1,c.out,by go_num,by rw[yde o z ad],bel⟩);case measure=>simp[intOf];have:=c.out;omega
     ·have aC:decide (((key k:Nat):Int)<((key b:Nat):Int))=false:=decide_eq_false og;have d:=znz v x b2 D f W;refine wp_region_noPanic ?_;refine zld d fun I=> ?_;refine sT 0 17 ?_;refine sT 1 18 ?_;refine sT 2 19 ?_;refine sT 3 20 ?_;refine sT 4 21 ?_;refine sT 5 22 ?_;refine sT 6 23 ?_;refine sT 7 24 ?_;refine sT 8 25 ?_;refine sT 9 26 ?_;refine sT 10 27 ?_;refine sT 11 28 ?_;refine sT 12 29 ?_;refine sT 13 30 ?_;refine sT 14 31 ?_;refine sT 15 32 ?_;refine sT 16 33 ?_;refine sT 17 34 ?_;refine sT 18 35 ?_;refine sT 19 36 ?_;refine sT 20 37 ?_;refine sT 21 38 ?_;refine sT 22 39 ?_;refine sT 23 40 ?_;refine sT 24 41 ?_;refine wpAnyH_done kr ?_ _;refine NoPanic.normal ?_;go_wp2_with fail;have F:=s.out;go_roundw;(case rel=>exact⟨k+1,c.out,by go_num,by rw[ydh o z ad],bel⟩);case measure=>simp[intOf];have:=c.out;omega
  ·obtain rfl:k=m:=og;go_wp2_with fail;go_ret;exact⟨rfl,q.out⟩
theorem yug {w:World} {S:Nat->Prop} {lo0 lo g m n top:Nat} {L:Lay} {sc:Nat->Nat} {t:TB} {st e steps:Int} {r:Nat} (hr:r<m) (h:T3 w S lo0 lo g L m n sc top t st e steps) (be:m<=100) (bf:n<=100):
 Calls Tryz.prog 149 #[.pointer (some ⟨g,0,none⟩),.int .i64 (r:Int)] w fun aB w'=>aB= .returned (.int .i64 (N7 (zpc n t r)))/\Below w.heap.size w w':=by
 obtain⟨V,au⟩:=C7 h hr;have bg:(0:Int)<=(r:Int):=og;have bh:(r:Int)<(m:Int):=og;obtain⟨aS,bm,aT,bn,aR,aX,aV,aZ,-,⟨aD,ad,ae,aE,aG⟩,-,-,-⟩:=h.open;obtain⟨p,O⟩:=nm (fun j=>decide (t.A r j<0));obtain⟨key,o⟩:=nm (fun i=>t.oth.getD i 0);have av:Hid (zpc n t r=V8 p key n):=(by rw[Hid,O,o];rfl);rw[av.out];obtain⟨aq,U⟩:=C7 O o;have D:=h.cap r og;rw[K3 og] at D;have a3:=D.1;have a4:L.cp r<=9223372036854775807:=(by have:=D.2;unfold maxLen at this;omega);have N:=h.caps;have a9:n<=L.oc:=og;have bd:L.oc<=9223372036854775807:=(by unfold maxLen at N;omega);have bi:m<=L.rc:=og;have bj:L.rc<=9223372036854775807:=(by unfold maxLen at N;omega);obtain⟨ac,aH,aa⟩:=h.hd r hr;rw[ac] at ae;clear h O o N D hr ac aH;have aY:=N9;clear aD aE aG;obtain⟨aW,M⟩:=nm (L.ha r);rw[<-M] at aa;have ao:=a M;clear M;have ay:=a ad;go_in;go_wp2_with fail;clear ae ad aa;go_loopw [17,5,6,7] (fun R best _ _ wr=>∃k:Nat,k<=n/\R= .int .i64 (k:Int)/\best= .int .i64 (N7 (V8 p key k))/\Below w.heap.size w wr) (fun R _ _ _ _=>n-(intOf R).toNat);case atStart=>exact⟨0,B _,rfl,rfl,Below.refl _ _⟩
 case round=>
  obtain⟨k,a8,rfl,rfl,ag⟩:=hrel;have s:=a ag;clear ag;rcases y k n with E|a5
  ·obtain⟨az,aM,aA,aO,ea,I,J,ab,eq⟩:=(V.out.next s.out).el (l:=r) (j:=k) og (by rw[K3 og];exact E);rw[zrp au.out] at I J eq;obtain⟨aN,hI⟩:=(V.out.next s.out).othW og;have T:=A9 s.out ay.out;rw[aN] at T;have Z:=hI.el k E;have ar:=a E;have a6:(0:Int)<=(k:Int):=og;have a7:(k:Int)<(n:Int):=og;have x:=a eq;obtain⟨G,Q⟩:=nm (decide (t.A r k<0));obtain⟨aQ,aj⟩:=nm ((A8 (t.A r k).natAbs).length);obtain⟨aP,ai⟩:=nm ((A8 1).length);rw[<-Q] at I x;rw[<-aj] at J x;rw[<-ai] at ab x;obtain⟨al,aK,l,ak,aL⟩:=J9 wr #[.bool G,.slice az aQ aM,.slice aA aP aO] 30;obtain⟨z,A,b2⟩:=C0 ak;have an:=a l;have v:=nB s l;have F:=A9 l T;have f:=A9 l Z;have o:∀i,(fun i=>t.oth.getD i 0) i=key i:=fun i=>(by rw[U.out]);have u:t.oth.getD k 0=key k:=o k;have f:al.cell? ⟨L.ob,k,none⟩=some (.int .i64 ((key k:Nat):Int)):=(by rw[<-u];exact f);have aU:=nQ x l;have W:Hid (p k=G):=(by rw[Hid,aq.out,Q]);have aC:=ao.out.trans ea;subst aC;clear Q aj ai ak aL l eq T Z u o E;go_wp2_with fail;clear aK I J ab;have c:Hid (k+1<=n):=ar.out;cases q:p k with
   |false=>have P:G=false:=W.out.symm.trans q;subst P;have d:=hs5 z A b2 F f;refine wp_region_noPanic ?_;refine zld d fun K=> ?_;refine sT 0 22 ?_;refine sT 1 23 ?_;refine sT 2 24 ?_;refine sU 3 25 ?_;refine sU 4 26 ?_;refine sU 5 27 ?_;refine sU 6 28 ?_;refine sU 7 29 ?_;refine sU 8 30 ?_;refine sU 9 31 ?_;refine sU 10 32 ?_;refine sU 11 33 ?_;refine sU 12 34 ?_;refine sU 13 35 ?_;refine sU 14 36 ?_;refine sU 15 37 ?_;refine sU 16 38 ?_;refine sU 17 39 ?_;refine sU 18 40 ?_;refine sU 19 41 ?_;refine sU 20 42 ?_;refine sU 21 43 ?_;refine sU 22 44 ?_;refine sU 23 45 ?_;refine sT 24 46 ?_;refine wpAnyH_done kr ?_ _;refine NoPanic.normal ?_;go_wp2_with fail;have H:=v.out;go_roundw;(case rel=>exact⟨k+1,c.out,by go_num,by rw[ydg q],bel⟩);case measure=>simp[intOf];have:=c.out;omega
   |true=>
    have P:G=true:=W.out.symm.trans q;subst P;cases C:V8 p key k with
    |none=>have af:N7 (none:Option Nat)= -1:=rfl;rw[af];have d:=hs5 z A b2 F f;refine wp_region_noPanic ?_;refine zld d fun K=> ?_;refine sT 0 22 ?_;refine sT 1 23 ?_;refine sT 2 24 ?_;refine sT 3 25 ?_;refine sT 4 26 ?_;refine sT 5 27 ?_;refine sU 6 28 ?_;refine sU 7 29 ?_;refine sU 8 30 ?_;refine sU 9 31 ?_;refine sU 10 32 ?_;refine sU 11 33 ?_;refine sU 12 34 ?_;refine sU 13 35 ?_;refine sU 14 36 ?_;refine sU 15 37 ?_;refine sU 16 38 ?_;refine sU 17 39 ?_;refine sU 18 40 ?_;refine sU 19 41 ?_;refine sU 20 42 ?_;refine sU 21 43 ?_;refine sU 22 44 ?_;refine sT 23 45 ?_;refine sT 24 46 ?_;refine wpAnyH_done kr ?_ _;refine NoPanic.normal ?_;go_wp2_with fail;have H:=v.out;go_roundw;(case rel=>exact⟨k+1,c.out,by go_num,by rw[ydf q C],bel⟩);case measure=>simp[intOf];have:=c.out;omega
    |some b=>
     have a2:b<k:=(zmq C).1;have X:=hI.el b (oh c);have u:t.oth.getD b 0=key b:=(by rw[U.out]);have Y:al.cell? ⟨L.ob,b,none⟩=some (.int .i64 ((key b:Nat):Int)):=(by rw[<-u];exact A9 an.out X);clear u;have a0:(0:Int)<=(b:Int):=og;have a1:(b:Int)<(n:Int):=oh c;have aI:N7 (some b)=(b:Int):=rfl;rw[aI];have af:decide ((b:Int)<0)=false:=decide_eq_false og;clear X;by_cases ah:key k<key b
     ·have aJ:decide (((key k:Nat):Int)<((key b:Nat):Int))=true:=decide_eq_true og;have d:=znz z A b2 F f Y;refine wp_region_noPanic ?_;refine zld d fun K=> ?_;refine sT 0 22 ?_;refine sT 1 23 ?_;refine sT 2 24 ?_;refine sT 3 25 ?_;refine sT 4 26 ?_;refine sT 5 27 ?_;refine sT 6 28 ?_;refine sT 7 29 ?_;refine sT 8 30 ?_;refine sT 9 31 ?_;refine sT 10 32 ?_;refine sT 11 33 ?_;refine sT 12 34 ?_;refine sT 13 35 ?_;refine sT 14 36 ?_;refine sT 15 37 ?_;refine sT 16 38 ?_;refine sT 17 39 ?_;refine sT 18 40 ?_;refine sT 19 41 ?_;refine sT 20 42 ?_;refine sT 21 43 ?_;refine sT 22 44 ?_;refine sT 23 45 ?_;refine sT 24 46 ?_;refine wpAnyH_done kr ?_ _;refine NoPanic.normal ?_;go_wp2_with fail;have H:=v.out;go_roundw;(case rel=>exact⟨k+1,c.out,by go_num,by rw[yde q C ah],bel⟩);case measure=>simp[intOf];have:=c.out;omega
     ·have aJ:decide (((key k:Nat):Int)<((key b:Nat):Int))=false:=decide_eq_false og;have d:=znz z A b2 F f Y;refine wp_region_noPanic ?_;refine zld d fun K=> ?_;refine sT 0 22 ?_;refine sT 1 23 ?_;refine sT 2 24 ?_;refine sT 3 25 ?_;refine sT 4 26 ?_;refine sT 5 27 ?_;refine sT 6 28 ?_;refine sT 7 29 ?_;refine sT 8 30 ?_;refine sT 9 31 ?_;refine sT 10 32 ?_;refine sT 11 33 ?_;refine sT 12 34 ?_;refine sT 13 35 ?_;refine sT 14 36 ?_;refine sT 15 37 ?_;refine sT 16 38 ?_;refine sT 17 39 ?_;refine sT 18 40 ?_;refine sT 19 41 ?_;refine sT 20 42 ?_;refine sT 21 43 ?_;refine sT 22 44 ?_;refine sT 23 45 ?_;refine sT 24 46 ?_;refine wpAnyH_done kr ?_ _;refine NoPanic.normal ?_;go_wp2_with fail;have H:=v.out;go_roundw;(case rel=>exact⟨k+1,c.out,by go_num,by rw[ydh q C ah],bel⟩);case measure=>simp[intOf];have:=c.out;omega
  ·obtain rfl:k=n:=og;go_wp2_with fail;go_ret;exact⟨rfl,s.out⟩
theorem yut {w:World} {S:Nat->Prop} {a:Value} {x:Raw} (h:IsR w S a x):∀u∈a.cells,u.oneCell'=true:=by obtain⟨A,c,B,d,rfl,_,_⟩:=h;intro u b;simp[Value.cells] at b;rcases b with rfl|rfl|rfl<;>rfl
end Go.Proofs.YtlhhbccgfkhflaaGreatDoor
