/-
 Contracts of package simplex's zeros and lift.
-/
import Derived.Test.YtlhhbccgfkhflaaGreatDoorProofSimplexPivots09
namespace Go.Proofs.YtlhhbccgfkhflaaGreatDoor
open Go.RowKit
set_option linter.unusedVariables false
set_option maxRecDepth 100000
set_option maxHeartbeats 8000000
open _root_.Nat renaming le_trans → I, lt_of_lt_of_le → ah, lt_or_ge → ai, zero_le → aj
open _root_.Go.World renaming cell?_of_block → ag
open _root_.Go renaming World → e, Value → c, Addr → C
variable {N K M app b Y base hi i m R A : Nat} {P J L : Option C} {z : Nat → Int} {o : Oper} {ops : Array Oper} {ad rest ae u v O : c} {r : Option Nat} {sc : Nat → Nat} {af : List c} {x : List Nat}
def OwnV (w w':e) (v:c) (l:List Rat):Prop:=∃S:Nat->Prop,OwnS 3 30 IsR w' w.heap.size S v (C2 l)/\∀b,S b->w.heap.size<=b
theorem zz1376 (a:Nat):C2 (List.replicate (a+1) (0:Rat))=C2 (List.replicate a 0)++[C7 0]:=by unfold C2;rw[List.replicate_succ',List.map_append];rfl
theorem yoi (w:e) {n:Nat} (N:n<=1000):
 Calls Tryz.prog 183 #[.int .i64 (n:Int)] w fun q w'=>(∃v,q= .returned v/\OwnV w w' v (List.replicate n 0))/\Below w.heap.size w w':=by
 have K:=T3;go_in;go_wp2_with (at_make;refine zxc zlv rfl _ _ rfl IsR n rfl rfl rfl og (base:=w.heap.size) (S:=fun _=>False) (Nat.le_refl _) (fun b h=>h.elim) ?_;intro T V y s P);obtain⟨B,A⟩:=C5 y s;clear y s;go_loopw [7,3] (fun l out wr=>∃(a:Nat) (c:Nat->Prop),a<=n/\l= .int .i64 (a:Int)/\Below w.heap.size w wr/\OwnS 3 30 IsR wr w.heap.size c out (C2 (List.replicate a 0))/\Hid (∀b,c b->w.heap.size<=b)) (fun l _ _=>n-(intOf l).toNat);case atStart=>exact⟨0,fun _=>False,aj _,rfl,A.out,B.out,fun b h=>h.elim⟩
 case round=>
  obtain⟨a,c,L,rfl,t,x,r⟩:=hrel;obtain⟨g,p⟩:=C5 t x;clear t x;rcases ai a n with j|j
  ·have o:=Lib.hid j;clear j;have M:=o.out;go_wp2_with fail;refine(zsl wr).mono ?_;rintro q d ⟨⟨H,rfl,k⟩,i⟩;obtain⟨I,R,J,S,rfl⟩:=zlx (show IsQ d (G4 wr.heap.size d) H (((0:Int)):Rat) from k);have F:=OwnS.step IsR.stb (T:=fun b=>c b\/(wr.heap.size<=b/\b<d.heap.size)) p.out i (fun b h=> .inl h) (fun b h=>h);have E:=IsQ.stb.to k (F7 (T:=fun b=>c b\/(wr.heap.size<=b/\b<d.heap.size)) fun b h=> .inr h);have m:=nB g i;have D:w.heap.size<=d.heap.size:=m.out.size;have O:=g.out.size;clear i k;go_wp2_with (at_builtin;refine zpz zlv rfl _ _ rfl IsR.stb rfl rfl rfl F E rfl (by intro u z;simp[Value.cells] at z;rcases z with rfl|rfl|rfl<;>rfl) (by rw[show(C2 (List.replicate a (0:Rat))).length=a by simp[C2]];omega) D ?_;intro U W G C Q);go_roundw;(case rel=>exact⟨a+1,fun b=>c b\/(wr.heap.size<=b/\b<d.heap.size),o.out,by go_num,m.out.trans C,by rw[zz1376];exact G,fun b f=>by rcases f with f|f;exact r.out b f;omega⟩);case measure=>simp[intOf];omega
  ·obtain rfl:a=n:=og;go_wp2_with fail;go_ret;exact⟨⟨_,rfl,c,p.out,r.out⟩,g.out⟩
def zqi (l:List Rat) (N:Nat) (a:Nat):Int:=(l.getD a 0).num*((N/(l.getD a 0).den:Nat):Int)
theorem yix {w:e} {l:List Rat} (h:IsV w (C3 w) v (C2 l)) (s:IsN w 0 w.heap.size O N) (t:l.length=m) (a8:m<=1000) (an:∀q∈l,Sz q 100000) (aa:(A9 N).length<=1000000) (hd:∀q∈l,0<N/q.den):
 Calls Tryz.prog 166 #[v,O] w fun W w'=>(∃av,W= .returned av/\OwnV w w' av (ints m (zqi l N)))/\Below w.heap.size w w':=by
 obtain⟨o,aD,aC,aA,az,P⟩:=hd6 h an t hd aa (zud s);obtain⟨A,aN,rfl,aV⟩:=X8 h;obtain⟨C,a1,rfl,_,_,_⟩:=id s;obtain⟨bh,ag⟩:=nm ((A9 N).length);have el:(C2 l).length=m:=(by simp[C2,t]);rw[el] at o aV⊢;rw[<-ag] at P⊢;obtain⟨aX,r,a3,f,aQ,af,_⟩:=id o.out;simp only[Value.slice.injEq] at f;obtain⟨-,-,rfl⟩:=f;have a4:aN<=9223372036854775807:=(by unfold maxLen at af;omega);rw[el] at aQ;clear h s t an aa hd el ag af;have a2:=T3;go_in;go_wp2_with (at_make;refine zxc zlv rfl _ _ rfl IsR m rfl rfl rfl og (base:=w.heap.size) (S:=fun _=>False) (Nat.le_refl _) (fun b h=>h.elim) ?_;intro bi bn ak ac bd);obtain⟨aG,ay⟩:=C5 ak ac;clear ak ac;go_loopw [13,5,7] (fun B out _ wr=>∃(a:Nat) (c:Nat->Prop),a<=m/\B= .int .i64 (a:Int)/\Below w.heap.size w wr/\OwnS 3 30 IsR wr w.heap.size c out (C2 (ints a (zqi l N)))/\Hid (∀b,c b->w.heap.size<=b)) (fun B _ _ _=>m-(intOf B).toNat);case atStart=>exact⟨0,fun _=>False,aj _,rfl,ay.out,aG.out,fun b h=>h.elim⟩
 case round=>
  obtain⟨a,c,a5,rfl,ae,ah,ab⟩:=hrel;obtain⟨g,T⟩:=C5 ae ah;clear ae ah;rcases ai a m with d|d
  ·obtain⟨x,f,al⟩:=zry (l:=l) (j:=a) (by rw[aC.out];exact d);obtain⟨a0,R,J,K,L,M,rfl,_,i,U,r,V⟩:=zml (IsV.stb.to o.out (E7 g.out)) al;obtain⟨aK,X⟩:=nm ((C7 x).neg);obtain⟨aL,Y⟩:=nm ((C7 x).num.length);obtain⟨aM,Z⟩:=nm ((C7 x).den.length);rw[<-X] at U i;rw[<-Y] at r i;rw[<-Z] at V i;obtain⟨aH,S⟩:=C5 (zrr i) (List.mem_of_getElem? f);have ar:zqi l N a=x.num*((N/x.den:Nat):Int):=(by unfold zqi;rw[List.getD_eq_getElem?_getD,f];rfl);have aE:=Lib.hid ar;have a6:(0:Int)<=(a:Int):=og;have a7:(a:Int)<(m:Int):=og;obtain⟨bq,aU,k,au,aW⟩:=J5 wr #[.bool aK,.slice J aL K,.slice L aM M] 30;have F:=Lib.hid k;have aI:=nQ aH k;have aJ:=Lib.hid (E9 (IsK.stb.next (IsK.stb.next P.out g.out) k));obtain⟨p,E,H⟩:=B9 au;have aB:=Lib.hid d;obtain⟨z,aq⟩:=nm (x.num*((N/x.den:Nat):Int));have Q:=Lib.hid aq;clear f al i X Y Z au aW k d aq ar;go_wp2_with fail;clear aU U r V;refine(yca aI.out aJ.out (aD.out x S.out) az.out (aA.out x S.out)).mono ?_;rw[<-Q.out];rintro W n ⟨⟨bj,rfl,y⟩,ad⟩;obtain⟨aY,bf,aZ,bg,rfl⟩:=zlx y;have D:=nB F ad;have aS:=OwnS.step IsR.stb (T:=fun b=>c b\/(wr.heap.size<=b/\b<n.heap.size)) T.out D.out (fun b h=> .inl h) (fun b h=>h);have aR:=IsQ.stb.to y (F7 (T:=fun b=>c b\/(wr.heap.size<=b/\b<n.heap.size)) fun b h=> .inr ⟨I F.out.size h.1,h.2⟩);have G:=Lib.hid (C6 g.out D.out);have aP:w.heap.size<=n.heap.size:=G.out.size;have a9:=g.out.size;have d:=aB.out;clear ad y p E H;go_wp2_with (at_builtin;refine zpz zlv rfl _ _ rfl IsR.stb rfl rfl rfl aS aR rfl (by intro u ao;simp[Value.cells] at ao;rcases ao with rfl|rfl|rfl<;>rfl) (by rw[show(C2 (ints a (zqi l N))).length=a by simp[C2,zqs]];omega) aP ?_;intro bm bp aT aO be);go_roundw;(case rel=>refine⟨a+1,fun b=>c b\/(wr.heap.size<=b/\b<n.heap.size),d,by go_num,G.out.trans aO,?_,fun b j=>by rcases j with j|j;exact ab.out b j;omega⟩;rw[yid,C2,List.map_append,aE.out,<-Q.out];exact aT);case measure=>simp[intOf];omega
  ·obtain rfl:a=m:=og;go_wp2_with fail;go_ret;exact⟨⟨_,rfl,c,T.out,ab.out⟩,g.out⟩
def zni (a:List c) (b:Nat->c):List Nat->List c
 |[]=>a
 |t::x=>(zni a b x).set t (b t)
theorem ymd (a:List c) (b:Nat->c) (x:List Nat):(zni a b x).length=a.length:=by
 induction x with
 |nil=>rfl
 |cons t x ih=>rw[zni,List.length_set,ih]
theorem zz1406 (a:List c) (d:Nat->c) (x:List Nat) (hi:i<a.length):(zni a d x)[i]? =if i∈x then some (d i) else a[i]? :=by
 induction x with
 |nil=>simp[zni]
 |cons t x ih=>
  rw[zni,List.getElem?_set];by_cases b:t=i
  ·subst b;rw[if_pos rfl,if_pos (by rw[ymd];exact hi),if_pos (by simp)]
  ·rw[if_neg b,ih];have:i∈t::x↔i∈x:=(by simp[Ne.symm b]);simp only[this]
theorem zrl {l a:List c} {d:Nat->Bool} (x:List Nat) (f:∀t,t∉x->d t=false) (g:l.length=a.length) (h:∀t,d t=false->(Array.mk l)[t]? =(Array.mk a)[t]?):∃e:Nat->c,l=zni a e x:=by
 refine⟨fun t=>l.getD t undef,List.ext_getElem? fun i=> ?_⟩;rcases ai i a.length with hi|hi
 ·rw[zz1406 _ _ _ hi];by_cases b:i∈x
  ·rw[if_pos b,List.getD_eq_getElem?_getD,List.getElem?_eq_getElem og];rfl
  ·rw[if_neg b];have:=h i (f i b);simpa using this
 ·rw[List.getElem?_eq_none og,List.getElem?_eq_none (by rw[ymd];exact hi)]
def ygw (ops:Array Oper) (x:List Nat):Bool:=ops.toList.all fun o=>match o.dst with|none=>true|some d=>x.contains d
theorem ysp (h:ygw ops x=true) {t:Nat} (d:ops[i]? =some o) (hd:(o.dst==some t)=true):t∈x:=by have c:o∈ops.toList:=(by have:=Array.getElem?_eq_some_iff.1 d;obtain⟨a,b⟩:=this;rw[<-b];simp);have a:=List.all_eq_true.1 h o c;have b:o.dst=some t:=(by simpa using hd);rw[b] at a;simpa using a
theorem ydw (h:ygw ops x=true):∀t,t∉x->zms ops t=false:=fun t d=>by
 rcases Bool.eq_false_or_eq_true (zms ops t) with a|a
 ·unfold zms at a
  obtain⟨o,b,c⟩:=List.any_eq_true.1 a
  obtain⟨i,hi⟩:=List.getElem?_of_mem b
  exact absurd (ysp h (i:=i) (by simpa using hi) c) d
 ·exact a
theorem ysy:ElT Tryz.prog 94 28 (.slice none 0 0) 24:=
 ⟨Tryz.underlying94,by obtain⟨i,a,b,c,d⟩:=info_parts (show(Tryz.prog.info? 28).map (fun i=>(i.zero,i.size,i.bytes))=some (some (.slice none 0 0),1,24) by kernel_rfl);exact⟨i,a,b,c,d⟩,rfl⟩
structure ScW (w:e) (S:Nat->Prop) (sb len:Nat) (f:Nat->Nat):Prop where
 blk:∃cur,w.heap[sb]? =some (.cells cur 28 (0,0))
 el:∀v,v<len->∃P k,w.cell? ⟨sb,v,none⟩=some (.slice P (A9 (f v)).length k)/\NumS w S (.slice P (A9 (f v)).length k) (f v)
section
variable {w w' : e} {S T : Nat → Prop} {sb len : Nat} {f : Nat → Nat}
theorem ScW.zero (h:Row w sb 28 (List.replicate len (.slice none 0 0))):ScW w S sb len (fun _=>0) where
 blk:=⟨_,h⟩
 el v hv:=by
  refine⟨none,0,?_,?_⟩
  ·rw[h.cell v,List.getElem?_replicate,if_pos hv,N6];rfl
  ·rw[N6];exact zyv
theorem ScW.lt (h:ScW w S sb len f):sb<w.heap.size:=by obtain⟨b,a⟩:=h.blk;exact(Array.getElem?_eq_some_iff.1 a).1
theorem ScW.free (h:ScW w S sb len f) (o:Nat):w.frozen? ⟨sb,o,none⟩=false:=by obtain⟨b,a⟩:=h.blk;simp[World.frozen?,a]
theorem ScW.keep (h:ScW w S sb len f) (a:w'.heap[sb]? =w.heap[sb]?) (d:K6 S T w w'):ScW w' T sb len f where
 blk:=by rw[a];exact h.blk
 el v hv:=by obtain⟨P,k,b,c⟩:=h.el v hv;exact⟨P,k,(ag a).trans b,IsK.stb.to c d⟩
theorem ScW.put (h:ScW w S sb len f) (m:¬S sb) {v x k:Nat} (hv:v<len) (n:NumS w S (.slice P (A9 x).length k) x):ScW (w.setCell ⟨sb,v,none⟩ (.slice P (A9 x).length k)) S sb len (N5 f v x) where
 blk:=by obtain⟨p,c⟩:=h.blk;exact zsc c
 el u hu:=by
  have j:K6 S S w (w.setCell ⟨sb,v,none⟩ (.slice P (A9 x).length k)):=fun b i=>⟨i,fun o=>World.cell?_setCell_other _ _ _ _ (fun e=>by injection e with a d;exact m (a▸i))⟩;by_cases c:u=v
  ·subst c;rw[zoo];obtain⟨g,l,a,d⟩:=h.el u hu;exact⟨P,k,World.cell?_setCell_same _ _ _ a,IsK.stb.to n j⟩
  ·rw[zop _ _ c];obtain⟨g,l,a,d⟩:=h.el u hu;exact⟨g,l,(World.cell?_setCell_other _ _ _ _ (fun e=>by injection e with a d;exact c d.symm)).trans a,IsK.stb.to d j⟩
end
structure TblW (a w:e) (G sb:Nat) (S:Nat->Prop) (B:Nat->Option Nat) (k l n len:Nat) (hd:Nat->c) (j d q s one:c) (F:Nat->Nat->Int) (Q:Nat->Int) (f:Nat->Nat) (bas oth:List Nat) (tc:List c):Prop where
 below:Below a.heap.size a w
 row:Row w G 96 tc
 tab:TabO w a.heap.size S B k l n hd j d F Q
 basO:OwnS 1 3 IsIV w a.heap.size (fun _=>False) q (bas.map fun(x:Nat)=>(x:Int))/\q.ownBlock=B 0
 othO:OwnS 1 3 IsIV w a.heap.size (fun _=>False) s (oth.map fun(x:Nat)=>(x:Int))/\s.ownBlock=B 1
 scl:ScW w S sb len f
 den:NumS w S one 1
 b2:B 2=some sb
 b6:B 6=some G
 quiet:∀b,S b->a.heap.size<=b
section
variable {a w w' : e} {G sb : Nat} {S T : Nat → Prop} {B y : Nat → Option Nat} {k l n len : Nat} {hd : Nat → c} {j d q s one : c} {F : Nat → Nat → Int} {Q : Nat → Int} {f : Nat → Nat} {bas oth : List Nat} {tc : List c}
theorem TblW.gb (h:TblW a w G sb S B k l n len hd j d q s one F Q f bas oth tc):a.heap.size<=G/\G<w.heap.size/\¬S G/\a.heap.size<=sb/\sb<w.heap.size/\¬S sb/\G≠sb:=
 ⟨(h.tab.sep.lt _ _ h.b6).1,(h.tab.sep.lt _ _ h.b6).2.1,(h.tab.sep.lt _ _ h.b6).2.2,(h.tab.sep.lt _ _ h.b2).1,(h.tab.sep.lt _ _ h.b2).2.1,(h.tab.sep.lt _ _ h.b2).2.2,fun b=>h.tab.sep.ne 6 2 G og h.b6 (by rw[h.b2,b])⟩
theorem TblW.step (h:TblW a w G sb S B k l n len hd j d q s one F Q f bas oth tc) (hg:w.grownBy w' r) (hr:∀b,r=some b->b=G\/b=sb) {p:Nat->Nat} (A:Row w' G 96 af) (C:ScW w' S sb len p):
 TblW a w' G sb S B k l n len hd j d q s one F Q p bas oth af:=by
 have t:=h.gb
 have i:∀b,r=some b->∃c,B c=some b/\c≠3/\c≠4/\c<7/\c≠0/\c≠1:=fun b e=>by
  rcases hr b e with rfl|rfl
  ·exact⟨6,h.b6,by omega,by omega,by omega,by omega,by omega⟩
  ·exact⟨2,h.b2,by omega,by omega,by omega,by omega,by omega⟩
 have nS:∀b,r=some b->¬S b:=fun b e=>by obtain⟨c,g,_⟩:=i b e;exact(h.tab.sep.lt c b g).2.2
 refine⟨h.below.grown hg h.below.size fun b e=>by rcases hr b e with rfl|rfl;exact t.1;exact t.2.2.2.1,A,h.tab.grown hg fun b e=>by obtain⟨c,g,v,y,z,_⟩:=i b e;exact .inr ⟨c,g,v,y,z⟩,
  ⟨h.basO.1.grown IsIV.stb hg fun b e=>⟨fun m=>by obtain⟨c,g,_,_,_,o,_⟩:=i b e;exact h.tab.sep.ne c 0 b o g (h.basO.2▸m),fun x=>x⟩,h.basO.2⟩,
  ⟨h.othO.1.grown IsIV.stb hg fun b e=>⟨fun m=>by obtain⟨c,g,_,_,_,_,o⟩:=i b e;exact h.tab.sep.ne c 1 b o g (h.othO.2▸m),fun x=>x⟩,h.othO.2⟩,
  C,IsK.stb.to h.den (znx hg fun b u=>⟨h.tab.sep.q b u,fun e=>nS b e.symm u⟩),h.b2,h.b6,h.quiet⟩
theorem TblW.next (h:TblW a w G sb S B k l n len hd j d q s one F Q f bas oth tc) (c:Below w.heap.size w w'):TblW a w' G sb S B k l n len hd j d q s one F Q f bas oth tc:=
 h.step (r:=none) (K0 c) (fun b e=>by cases e) (h.row.next c) (h.scl.keep (c.block _ h.scl.lt) (zqy c fun b g=>h.tab.sep.q b g))
theorem TblW.setG (h:TblW a w G sb S B k l n len hd j d q s one F Q f bas oth tc) (hg:w.grownBy w' (some G)) (g:Row w' G 96 af):TblW a w' G sb S B k l n len hd j d q s one F Q f bas oth af:=
 h.step hg (fun b c=>by cases c;exact .inl rfl) g (h.scl.keep (hg.block _ h.scl.lt fun c=>h.gb.2.2.2.2.2.2 (by injection c with c;exact c.symm)) (znx hg fun b e=>⟨h.tab.sep.q b e,fun c=>by injection c with c;exact h.gb.2.2.1 (c▸e)⟩))
theorem TblW.setS (h:TblW a w G sb S B k l n len hd j d q s one F Q f bas oth tc) {v x e:Nat} (hv:v<len) (g:NumS w S (.slice P (A9 x).length e) x):TblW a (w.setCell ⟨sb,v,none⟩ (.slice P (A9 x).length e)) G sb S B k l n len hd j d q s one F Q (N5 f v x) bas oth tc:=
 h.step (r:=some sb) (I9 _ _ _ _) (fun b c=>by cases c;exact .inr rfl) (h.row.far (p:=⟨sb,v,none⟩) (fun c=>h.gb.2.2.2.2.2.2 c) _) (h.scl.put h.gb.2.2.2.2.2.1 hv g)
theorem TblW.more (h:TblW a w G sb S B k l n len hd j d q s one F Q f bas oth tc) (m:Below w.heap.size w w') (g:∀b,S b->T b) (i:∀b,T b->S b\/(w.heap.size<=b/\b<w'.heap.size)):TblW a w' G sb T B k l n len hd j d q s one F Q f bas oth tc:=by
 have c:=h.next m
 exact {c with
  tab:=h.tab.more m g i
  scl:=c.scl.keep rfl (F7 g)
  den:=IsK.stb.to c.den (F7 g)
  quiet:=fun b o=>by
   rcases i b o with e|e
   ·exact h.quiet b e
   ·exact I h.below.size e.1}
theorem TblW.swap (h:TblW a w G sb S B k l n len hd j d q s one F Q f bas oth tc) {g:Nat} (J:g=3\/g=4) (hg:w.grownBy w' (B g)) {t u:Nat} {p:Nat->c} (E:TabO w' a.heap.size T y t u n p ae ad F Q) (v:y 0=B 0) (z:y 1=B 1) (A:y 2=B 2) (C:y 6=B 6)
 (I:Row w' G 96 tc) (D:∀b,S b->T b) (H:∀b,T b->a.heap.size<=b):TblW a w' G sb T y t u n len p ae ad q s one F Q f bas oth tc:=by
 have nS:∀b,B g=some b->¬S b:=fun b e=>(h.tab.sep.lt g b e).2.2;have r:K6 S T w w':=fun b m=>⟨D b m,fun o=>ag (hg.block b (h.tab.sep.q b m) fun e=>nS b e.symm m)⟩
 refine⟨h.below.grown hg h.below.size fun b e=>(h.tab.sep.lt g b e).1,I,E,⟨h.basO.1.grown IsIV.stb hg fun b e=>⟨fun i=>h.tab.sep.ne g 0 b og e (h.basO.2▸i),fun x=>x⟩,by rw[v];exact h.basO.2⟩,
  ⟨h.othO.1.grown IsIV.stb hg fun b e=>⟨fun i=>h.tab.sep.ne g 1 b og e (h.othO.2▸i),fun x=>x⟩,by rw[z];exact h.othO.2⟩,
  h.scl.keep (hg.block _ h.scl.lt fun e=>h.tab.sep.ne g 2 sb og e.symm h.b2) r,IsK.stb.to h.den r,by rw[A];exact h.b2,by rw[C];exact h.b6,H⟩
end
def LinP (w:e) (n0 n:Nat) (z:Nat->Int) (hi:Nat) (u:c):Prop:=
 (n0<=hi/\hi<=w.heap.size)/\OwnS 3 30 IsR w n0 (fun b=>n0<=b/\b<hi/\u.ownBlock≠some b) u (C2 (ints n z))/\∀b,u.ownBlock=some b->b<hi
theorem LinP.grown {w w':e} {n0 n:Nat} (h:LinP w n0 n z hi u) (hg:w.grownBy w' r) (hr:∀b,r=some b->b<n0):LinP w' n0 n z hi u:=
 ⟨⟨h.1.1,I h.1.2 hg.size⟩,h.2.1.grown IsR.stb hg fun b a=>⟨fun c=>by have:=(h.2.1.own_lt b c).1;have:=hr b a;omega,fun d=>by have:=hr b a;have:=d.1;omega⟩,h.2.2⟩
theorem LinP.mk {w w':e} {n0 n:Nat} (h:OwnV w w' u (ints n z)) (f:n0<=w.heap.size) (a:w.heap.size<=w'.heap.size):LinP w' n0 n z w'.heap.size u:=by obtain⟨S,d,i⟩:=h;have j:=d.own_lt;refine⟨⟨by omega,Nat.le_refl _⟩,d.higher IsR.stb f (fun b a=> ?_) fun b a=>⟨a.2.1,fun c=>a.2.2 c.symm⟩,fun b c=>(j b c).2⟩;obtain⟨_,_,_,_,g⟩:=d;have:=g b a;exact⟨I f (i b a),this.1,fun c=>this.2 c.symm⟩
def QinP (w:e) (n0 lo hi:Nat) (q:Rat) (v:c):Prop:=(n0<=lo/\lo<=hi/\hi<=w.heap.size)/\IsQ w (O7 lo hi) v q
theorem QinP.grown {w w':e} {n0 lo:Nat} {q:Rat} (h:QinP w n0 lo hi q v) (hg:w.grownBy w' r) (hr:∀b,r=some b->b<n0):QinP w' n0 lo hi q v:=
 ⟨⟨h.1.1,h.1.2.1,I h.1.2.2 hg.size⟩,h.2.rngG hg h.1.2.2 fun b a=>ah (hr b a) h.1.1⟩
def NinP (w:e) (n0 lo hi x:Nat) (v:c):Prop:=(n0<=lo/\lo<=hi/\hi<=w.heap.size)/\NumS w (O7 lo hi) v x
theorem NinP.grown {w w':e} {n0 lo x:Nat} (h:NinP w n0 lo hi x v) (hg:w.grownBy w' r) (hr:∀b,r=some b->b<n0):NinP w' n0 lo hi x v:=
 ⟨⟨h.1.1,h.1.2.1,I h.1.2.2 hg.size⟩,IsK.stb.to h.2 (znx hg fun b a=>⟨ah a.2 h.1.2.2,fun c=>by have:=hr b c.symm;have:=a.1;have:=h.1.1;omega⟩)⟩
def ysq (ops:Array Oper) (n:Nat) (x:List Nat):Bool:=(List.range n).all fun i=>(ops[i]?).all fun o=>match o.dst with|none=>true|some d=>x.contains d
theorem zwu {n:Nat} (h:ysq ops n x=true):∀t,t∉x->zpv ops n t=false:=fun t g=>by
 rcases Bool.eq_false_or_eq_true (zpv ops n t) with a|a
 ·unfold zpv at a
  obtain⟨i,e,b⟩:=List.any_eq_true.1 a
  have c:=List.all_eq_true.1 h i e
  cases d:ops[i]? with
  |none=>rw[d] at b;cases b
  |some o=>
   rw[d] at b c
   have f:o.dst=some t:=by simpa using b
   simp only[Option.all_some,f] at c
   exact absurd (by simpa using c) g
 ·exact a
theorem zz1421 {P:Program} {w:e} {a:Act} {f:Act->e->Prop} {Q:Exit->Act->e->Prop} {t b:TypeId} {z:c} {bytes:Nat} (d:ElT P t b z bytes) (F:z.cells= #[z]) (l j:Operand) (E:o.op=Op.makeSlice t l j) {m k:IntKind} {g C:Int} (n:Nat)
 (B:a.eval l= .int m g) (hc:a.eval j= .int k C) (v:g=(n:Int)) (s:C=(n:Int)) (x:n*(bytes+1)<=140737488355328)
 (u:∀w',Row w' w.heap.size b (List.replicate n z)->Below w.heap.size w w'->f (a.put o.dst (.slice (some ⟨w.heap.size,0,none⟩) n n)) w'):o.wp P a w f Q:=by obtain⟨i,p,q,r,A⟩:=d.info;rw[Nat.mul_add,Nat.mul_one] at x;have b2:i.bytes*n<=281474976710656:=(by rw[A,Nat.mul_comm];omega);have y:(i.bytes:Int)*(n:Int)<=281474976710656:=(by have h:((i.bytes*n:Nat):Int)<=281474976710656:=og;rwa[Int.natCast_mul] at h);have hr:=run_make (P:=P) w t b i z d.und p q m k n n og (Int.le_refl _) y og;simp only[Int.toNat_natCast] at hr;subst v;subst s;unfold Oper.wp;simp[execOp,E,B,hc,hr,Result.andThen];refine u _ ?_ ((Below.refl _ _).alloc (Nat.le_refl _) _);unfold Row;(have D:(List.replicate n z).toArray=madeCells z.cells (n*i.size):=by apply Array.ext';rw[r,Nat.mul_one,F];show _=(madeCells #[z] n).toList;rw[toList_madeCells_one]);rw[D];exact heap_alloc_new w _
def zux (app n0 k:Nat) (w w':e):Prop:=∃r,w.grownBy w' r/\(r=none\/(k=app/\∀b,r=some b->n0<=b))
theorem zmu {n0 k:Nat} {w w':e} (h:w.grownBy w' none):zux app n0 k w w':=⟨none,h,.inl rfl⟩
theorem ymt {n0 k:Nat} {a w w':e} (h:Below n0 a w) (f:n0<=w.heap.size) (d:zux app n0 k w w'):Below n0 a w':=by
 obtain⟨r,hg,hr⟩:=d;refine h.grown hg f fun b c=> ?_;rcases hr with rfl|⟨_,h⟩
 ·cases c
 ·exact h b c
theorem yyb {w:e} {S:Nat->Prop} {x:Nat} (h:NumS w S v x) (d:1<=(A9 x).length):∃b o a,v= .slice (some ⟨b,o,none⟩) (A9 x).length a/\S b/\NumS w (fun y=>y=b) v x:=by obtain⟨A,a,hv,g,i,j⟩:=h;obtain⟨b,off,c,k,hc⟩:=j (fun f=>by have:(C8 .u32 (A9 x)).length=0:=(by rw[f];rfl);simp[C8] at this;rw[this] at d;simp at d);exact⟨b,off,a,by rw[hv,c],k,A,a,hv,g,i,fun _=>⟨b,off,c,rfl,hc⟩⟩
theorem yju {w:e} {g x:Nat} {t:TypeId} {n:List c} (h:NumS w (fun y=>y=b) v x) (m:1<=(A9 x).length) (hr:Row w g t n) (q:∀u∈n,∀i:Int,u≠.int .u32 i):b≠g:=fun a=>by
 obtain⟨A,r,hv,s,z,p⟩:=h
 have k:C8 .u32 (A9 x)≠[]:=fun a=>by
  have:(C8 .u32 (A9 x)).length=0:=by rw[a];rfl
  simp[C8] at this
  rw[this] at m
  simp at m
 obtain⟨o,off,B,d,hc⟩:=p k
 obtain⟨u,C,l⟩:=List.exists_cons_of_ne_nil k
 have f:=hc 0 u (by rw[l];rfl)
 have d:o=g:=d.trans a
 rw[d,Nat.add_zero,hr.cell] at f
 have j:u∈C8 .u32 (A9 x):=by rw[l];simp
 unfold C8 at j
 obtain⟨y,_,rfl⟩:=List.mem_map.1 j
 exact q _ (List.mem_of_getElem? f) _ rfl
def yaf (D:Nat) (a:Option C) (m d:Nat) (g:Option C) (n h n0:Nat) (i:Nat) (v:c) (w:e) (X:Nat->Option c):Prop:=
 match i with
 |0=>(∃b o f,v= .slice (some ⟨b,o,none⟩) (A9 1).length f/\n0<=b/\NumS w (fun x=>x=b) v 1)
 |1=>v= .pointer (some ⟨D,0,none⟩)
 |2=>v= .slice a m d
 |3=>v= .int .i64 (m:Int)
 |4=>v= .pointer (some ⟨D,1,none⟩)
 |5=>v= .slice g n h
 |6=>v= .int .i64 (n:Int)
 |7=>v= .int .i64 (((m+n:Nat)):Int)
 |8=>(∃sb,v= .slice (some ⟨sb,0,none⟩) (m+n) (m+n)/\n0<=sb/\Row w sb 28 (List.replicate (m+n) (.slice none 0 0)))
 |9=>(∃u s,X 0=some u/\X 8=some s/\v= .agg #[.slice none 0 0,.slice none 0 0,.slice none 0 0,.slice none 0 0,.slice none 0 0,.bool false,.slice none 0 0,.slice none 0 0,u,s,.slice none 0 0])
 |10=>(∃G,v= .pointer (some ⟨G,0,none⟩)/\n0<=G/\Row w G 96 [.slice none 0 0,.slice none 0 0,.slice none 0 0,.slice none 0 0,.slice none 0 0,.bool false,.slice none 0 0,.slice none 0 0,.slice none 0 0,.slice none 0 0,.slice none 0 0])
 |_=>True
def yag (D:Nat) (row rest:c) (A Y R:Nat) (p:Bool) (J:Option C) (E K:Nat) (L:Option C) (H M:Nat) (l:List Raw) (y:Raw) (N n0:Nat) (i:Nat) (v:c) (w:e) (X:Nat->Option c):Prop:=
 match i with
 |0=>v=row
 |1=>(∃hi,(n0<=hi/\hi<=w.heap.size)/\(X 8=none->OwnS 3 30 IsR w n0 (fun b=>b<hi) v l)/\∀b,v.ownBlock=some b->hi<=b)
 |2=>v= .pointer (some ⟨D,3,none⟩)
 |3=>v=rest
 |4=>v= .int .i64 (A:Int)
 |5=>v= .pointer (some ⟨Y,(R+A*3),none⟩)
 |6=>v= .agg #[.bool p,.slice J E K,.slice L H M]
 |7=>(X 8=none->NewRow w n0 30 [.bool p,.slice J E K,.slice L H M] v)
 |8=>(∃hi,(n0<=hi/\hi<=w.heap.size)/\OwnS 3 30 IsR w n0 (fun b=>b<hi) v (l++[y]))
 |9=>(∃q,X 8=some q/\∃lo hi,NinP w n0 lo hi N v)
 |_=>True
def yah (G:Nat) (j row O:c) (n:Nat) (z:Nat->Int) (a:List c) (n0 base:Nat) (i:Nat) (v:c) (w:e) (X:Nat->Option c):Prop:=
 match i with
 |0=>v= .pointer (some ⟨G,0,none⟩)
 |1=>v= .pointer (some ⟨G,2,none⟩)
 |2=>v=j
 |3=>v=row
 |4=>v=O
 |5=>(∃hi,LinP w n0 n z hi v)
 |6=>(∃hi u,LinP w n0 n z hi u/\NewRow w n0 26 [u] v)
 |7=>(∃hi u,LinP w n0 n z hi u/\OwnS 1 26 IsVal w base (fun _=>False) v (a++[u])/\(v.ownBlock=j.ownBlock\/∃b,v.ownBlock=some b/\hi<=b))
 |8=>v= .pointer (some ⟨G,0,none⟩)
 |9=>v= .pointer (some ⟨G,2,none⟩)
 |_=>True
def yai (D G:Nat) (d rest O:c) (A Y R:Nat) (p:Bool) (J:Option C) (E K:Nat) (L:Option C) (H M:Nat) (z:Rat) (f:Nat->Prop) (l:List Raw) (n0 base:Nat) (i:Nat) (v:c) (w:e) (X:Nat->Option c):Prop:=
 match i with
 |0=>v= .pointer (some ⟨G,0,none⟩)
 |1=>v= .pointer (some ⟨G,3,none⟩)
 |2=>v=d
 |3=>v= .pointer (some ⟨D,3,none⟩)
 |4=>v=rest
 |5=>v= .int .i64 (A:Int)
 |6=>v= .pointer (some ⟨Y,(R+A*3),none⟩)
 |7=>v= .agg #[.bool p,.slice J E K,.slice L H M]
 |8=>v=O
 |9=>(∃lo hi,QinP w n0 lo hi z v)
 |10=>(∃lo hi a,QinP w n0 lo hi z a/\NewRow w n0 30 a.cells.toList v)
 |11=>(∃lo hi,(n0<=lo/\lo<=hi/\hi<=w.heap.size)/\OwnS 3 30 IsR w base (fun b=>f b\/O7 lo hi b) v (l++[C7 z])/\(v.ownBlock=d.ownBlock\/∃b,v.ownBlock=some b/\hi<=b))
 |12=>v= .pointer (some ⟨G,0,none⟩)
 |13=>v= .pointer (some ⟨G,3,none⟩)
 |_=>True
def yaj (D G:Nat) (row:c) (p:Bool) (J:Option C) (E K:Nat) (L:Option C) (H M:Nat) (l:List Raw) (y:Raw) (N n0:Nat) (i:Nat) (v:c) (w:e) (X:Nat->Option c):Prop:=
 match i with
 |0=>v= .pointer (some ⟨D,4,none⟩)
 |1=>v=row
 |2=>(∃hi,(n0<=hi/\hi<=w.heap.size)/\(X 6=none->OwnS 3 30 IsR w n0 (fun b=>b<hi) v l)/\∀b,v.ownBlock=some b->hi<=b)
 |3=>v= .pointer (some ⟨D,5,none⟩)
 |4=>v= .agg #[.bool p,.slice J E K,.slice L H M]
 |5=>(X 6=none->NewRow w n0 30 [.bool p,.slice J E K,.slice L H M] v)
 |6=>(∃hi,(n0<=hi/\hi<=w.heap.size)/\OwnS 3 30 IsR w n0 (fun b=>b<hi) v (l++[y]))
 |7=>(∃q,X 6=some q/\∃lo hi,NinP w n0 lo hi N v)
 |8=>v= .pointer (some ⟨G,10,none⟩)
 |_=>True
theorem yys {D:Nat} {p:Option C} {q:Nat} {t:Option C} {n z n0:Nat}:∀i k v w w' X u,i≠k->X k=none->yaf D p m q t n z n0 i v w X->w.grownBy w' none->yaf D p m q t n z n0 i v w' (Y9 X k u):=fun i k v w w' X u H r h j=>by
 match i,H,h with
 |0,_,h=>
  obtain⟨b,o,E,d,f,a⟩:=h
  have L:b<w.heap.size\/True:= .inr trivial
  exact⟨b,o,E,d,f,IsK.stb.to a fun x s=>⟨s,fun M=>ag (j.block x (by obtain⟨A,K,hv,_,_,F⟩:=a;obtain⟨B,off,_,l,hc⟩:=F (by rw[zkf];simp[C8]);have J:x=b:=s;have l:B=b:=l;rw[J,<-l];exact World.block_lt_of_cell? w _ (hc 0 _ (by rw[zkf];rfl))) (by simp))⟩⟩
 |1,_,h=>exact h
 |2,_,h=>exact h
 |3,_,h=>exact h
 |4,_,h=>exact h
 |5,_,h=>exact h
 |6,_,h=>exact h
 |7,_,h=>exact h
 |8,_,h=>
  obtain⟨sb,d,f,a⟩:=h
  exact⟨sb,d,f,a.grownN j fun b g=>by cases g⟩
 |9,_,h=>
  obtain⟨x,y,d,f,a⟩:=h
  exact⟨x,y,zrd d r,zrd f r,a⟩
 |10,_,h=>
  obtain⟨G,d,f,a⟩:=h
  exact⟨G,d,f,a.grownN j fun b g=>by cases g⟩
 |_+11,_,_=>exact trivial
theorem yyo {D:Nat} {row:c} {p:Bool} {E:Nat} {H:Nat} {l:List Raw} {y:Raw} {n0:Nat}:∀i g v w w' X u,i≠g->X g=none->yag D row rest A Y R p J E K L H M l y N n0 i v w X->zux 8 n0 g w w'->yag D row rest A Y R p J E K L H M l y N n0 i v w' (Y9 X g u):=fun i g v w w' X u j t h s=>by
 obtain⟨r,hg,hr⟩:=s
 have m:g≠8->r=none:=fun h=>hr.elim id fun o=>absurd o.1 h
 match i,j,h with
 |0,_,h=>exact h
 |1,j,h=>
  obtain⟨hi,d,k,n⟩:=h
  by_cases f:g=8
  ·subst f
   exact⟨hi,⟨d.1,I d.2 hg.size⟩,fun a=>(by rw[Y9,if_pos rfl] at a;cases a),n⟩
  ·have:=m f
   subst this
   exact⟨hi,⟨d.1,I d.2 hg.size⟩,fun a=>(k (by rw[zsh (Ne.symm f)] at a;exact a)).grown IsR.stb hg (fun b a=>by cases a),n⟩
 |2,_,h=>exact h
 |3,_,h=>exact h
 |4,_,h=>exact h
 |5,_,h=>exact h
 |6,_,h=>exact h
 |7,j,h=>
  by_cases f:g=8
  ·subst f
   exact fun a=>(by rw[Y9,if_pos rfl] at a;cases a)
  ·have:=m f
   subst this
   exact fun a=>(h (by rw[zsh (Ne.symm f)] at a;exact a)).grown hg (fun b a=>by cases a)
 |8,j,h=>
  have:=m (Ne.symm j)
  subst this
  obtain⟨hi,d,k⟩:=h
  exact⟨hi,⟨d.1,I d.2 hg.size⟩,k.grown IsR.stb hg (fun b a=>by cases a)⟩
 |9,j,h=>
  obtain⟨q,d,lo,hi,k⟩:=h
  by_cases f:g=8
  ·subst f
   rw[t] at d
   cases d
  ·have:=m f
   subst this
   exact⟨q,by rw[zsh (Ne.symm f)];exact d,lo,hi,k.grown hg (fun b a=>by cases a)⟩
 |_+10,_,_=>exact trivial
theorem yyr {D G:Nat} {row:c} {p:Bool} {E:Nat} {H:Nat} {l:List Raw} {y:Raw} {n0:Nat}:∀i g v w w' X u,i≠g->X g=none->yaj D G row p J E K L H M l y N n0 i v w X->zux 6 n0 g w w'->yaj D G row p J E K L H M l y N n0 i v w' (Y9 X g u):=fun i g v w w' X u j t h s=>by
 obtain⟨r,hg,hr⟩:=s
 have m:g≠6->r=none:=fun h=>hr.elim id fun o=>absurd o.1 h
 match i,j,h with
 |0,_,h=>exact h
 |1,_,h=>exact h
 |2,j,h=>
  obtain⟨hi,d,k,n⟩:=h
  by_cases f:g=6
  ·subst f
   exact⟨hi,⟨d.1,I d.2 hg.size⟩,fun a=>(by rw[Y9,if_pos rfl] at a;cases a),n⟩
  ·have:=m f
   subst this
   exact⟨hi,⟨d.1,I d.2 hg.size⟩,fun a=>(k (by rw[zsh (Ne.symm f)] at a;exact a)).grown IsR.stb hg (fun b a=>by cases a),n⟩
 |3,_,h=>exact h
 |4,_,h=>exact h
 |5,j,h=>
  by_cases f:g=6
  ·subst f
   exact fun a=>(by rw[Y9,if_pos rfl] at a;cases a)
  ·have:=m f
   subst this
   exact fun a=>(h (by rw[zsh (Ne.symm f)] at a;exact a)).grown hg (fun b a=>by cases a)
 |6,j,h=>
  have:=m (Ne.symm j)
  subst this
  obtain⟨hi,d,k⟩:=h
  exact⟨hi,⟨d.1,I d.2 hg.size⟩,k.grown IsR.stb hg (fun b a=>by cases a)⟩
 |7,j,h=>
  obtain⟨q,d,lo,hi,k⟩:=h
  by_cases f:g=6
  ·subst f
   rw[t] at d
   cases d
  ·have:=m f
   subst this
   exact⟨q,by rw[zsh (Ne.symm f)];exact d,lo,hi,k.grown hg (fun b a=>by cases a)⟩
 |8,_,h=>exact h
 |_+9,_,_=>exact trivial
def zsp (j:c):Nat->Option Nat:=fun k=>match k with|7=>j.ownBlock|_=>none
theorem yyp {G:Nat} {j row:c} {n:Nat} {p:List c} {n0:Nat} (r:∀b,j.ownBlock=some b->b<n0):∀i k v w w' X u,i≠k->X k=none->yah G j row O n z p n0 base i v w X->w.grownBy w' (zsp j k)->yah G j row O n z p n0 base i v w' (Y9 X k u):=fun i k v w w' X u m s h f=>by
 have o:∀b,zsp j k=some b->k=7/\j.ownBlock=some b:=fun b a=>by
  unfold zsp at a
  split at a
  ·exact⟨rfl,a⟩
  ·cases a
 have g:∀b,zsp j k=some b->b<n0:=fun b a=>r b (o b a).2
 match i,m,h with
 |0,_,h=>exact h
 |1,_,h=>exact h
 |2,_,h=>exact h
 |3,_,h=>exact h
 |4,_,h=>exact h
 |5,_,h=>
  obtain⟨hi,d⟩:=h
  exact⟨hi,d.grown f g⟩
 |6,_,h=>
  obtain⟨hi,x,d,l⟩:=h
  exact⟨hi,x,d.grown f g,l.grown f g⟩
 |7,m,h=>
  obtain⟨hi,x,d,l,q⟩:=h
  exact⟨hi,x,d.grown f g,l.grown IsVal.stb f fun b a=>absurd (o b a).1 (Ne.symm m),q⟩
 |8,_,h=>exact h
 |9,_,h=>exact h
 |_+10,_,_=>exact trivial
def zsq (d:c):Nat->Option Nat:=fun k=>match k with|11=>d.ownBlock|_=>none
theorem yyq {D G:Nat} {d:c} {p:Bool} {E:Nat} {H:Nat} {z:Rat} {o:Nat->Prop} {l:List Raw} {n0:Nat} (s:∀b,d.ownBlock=some b->b<n0):∀i k v w w' X u,i≠k->X k=none->yai D G d rest O A Y R p J E K L H M z o l n0 base i v w X->w.grownBy w' (zsq d k)->yai D G d rest O A Y R p J E K L H M z o l n0 base i v w' (Y9 X k u):=fun i k v w w' X u m t h g=>by
 have q:∀b,zsq d k=some b->k=11/\d.ownBlock=some b:=fun b a=>by
  unfold zsq at a
  split at a
  ·exact⟨rfl,a⟩
  ·cases a
 have n:∀b,zsq d k=some b->b<n0:=fun b a=>s b (q b a).2
 match i,m,h with
 |0,_,h=>exact h
 |1,_,h=>exact h
 |2,_,h=>exact h
 |3,_,h=>exact h
 |4,_,h=>exact h
 |5,_,h=>exact h
 |6,_,h=>exact h
 |7,_,h=>exact h
 |8,_,h=>exact h
 |9,_,h=>
  obtain⟨lo,hi,f⟩:=h
  exact⟨lo,hi,f.grown g n⟩
 |10,_,h=>
  obtain⟨lo,hi,x,f,j⟩:=h
  exact⟨lo,hi,x,f.grown g n,j.grown g n⟩
 |11,m,h=>
  obtain⟨lo,hi,f,j,r⟩:=h
  exact⟨lo,hi,⟨f.1,f.2.1,I f.2.2 g.size⟩,j.grown IsR.stb g fun b a=>absurd (q b a).1 (Ne.symm m),r⟩
 |12,_,h=>exact h
 |13,_,h=>exact h
 |_+14,_,_=>exact trivial
def yoo (base:Nat) (j:c) (a:List c) (i:Nat) (w:e):Prop:=i=7->OwnS 1 26 IsVal w base (fun _=>False) j a
def yop (base:Nat) (a:Nat->Prop) (d:c) (l:List Raw) (i:Nat) (w:e):Prop:=i=11->OwnS 3 30 IsR w base a d l
def JT (a:e) (G:Nat) (tc:List c) (r1:Option Nat) (b w:e):Prop:=Row w G 96 tc/\Kept r1 none none b w/\Below a.heap.size a w
theorem JT.step {a:e} {G:Nat} {tc:List c} {r1:Option Nat} {g w w':e} (h:JT a G tc r1 g w) (f:w.grownBy w' r) (hr:r=none\/r=r1) (hg:∀b,r1=some b->G≠b/\a.heap.size<=b):JT a G tc r1 g w':=by (have key:∀b,r=some b->r1=some b:=fun b d=>by rcases hr with h|h;rw[h] at d;cases d;rw[<-h];exact d);exact⟨h.1.grownN f fun b d=>(hg b (key b d)).1,h.2.1.step f (by rcases hr with h|h;exact .inl h;exact .inr (.inl h)),h.2.2.grown f h.2.2.size fun b d=>(hg b (key b d)).2⟩
theorem Kept.grown1 {w w':e} (h:Kept r none none w w'):w.grownBy w' r:=⟨h.os,h.tape,h.output,h.size,fun k a hr=>h.block k a hr (by simp) (by simp)⟩
theorem ynh:Tryz.prog.cellsOf 96=11:=by kernel_rfl
theorem zox:Tryz.prog.cellsOf 32=8:=by kernel_rfl
section
variable {w ac : e} {g : Nat} {t : TypeId} {p E H D U V W X aa ab Z : c}
abbrev put11 (ac:e) (g:Nat) (a b f h i j k l m n d:c):e:=((((((((((ac.setCell ⟨g,0,none⟩ a).setCell ⟨g,1,none⟩ b).setCell ⟨g,2,none⟩ f).setCell ⟨g,3,none⟩ h).setCell ⟨g,4,none⟩ i).setCell ⟨g,5,none⟩ j).setCell ⟨g,6,none⟩ k).setCell ⟨g,7,none⟩ l).setCell ⟨g,8,none⟩ m).setCell ⟨g,9,none⟩ n).setCell ⟨g,10,none⟩ d
theorem Row.put11 (h:Row ac g t [p,E,H,D,U,V,W,X,aa,ab,Z]) (a b e f i j k l m n d:c):Row (Go.Proofs.YtlhhbccgfkhflaaGreatDoor.put11 ac g a b e f i j k l m n d) g t [a,b,e,f,i,j,k,l,m,n,d]:=((((((((((h.set_ 0 a).set_ 1 b).set_ 2 e).set_ 3 f).set_ 4 i).set_ 5 j).set_ 6 k).set_ 7 l).set_ 8 m).set_ 9 n).set_ 10 d
theorem ybj (ac:e) (g:Nat) (a b f h i j k l m n d:c):ac.grownBy (put11 ac g a b f h i j k l m n d) (some g):=J7 (J7 (J7 (J7 (J7 (J7 (J7 (J7 (J7 (J7 (I9 _ _ _ _) (I9 _ _ _ _)) (I9 _ _ _ _)) (I9 _ _ _ _)) (I9 _ _ _ _)) (I9 _ _ _ _)) (I9 _ _ _ _)) (I9 _ _ _ _)) (I9 _ _ _ _)) (I9 _ _ _ _)) (I9 _ _ _ _)
theorem znd (h:Row w g t [p,E,H,D,U,V,W,X,aa,ab,Z]):w.cell? ⟨g,0,none⟩=some p/\w.cell? ⟨g,1,none⟩=some E/\w.cell? ⟨g,2,none⟩=some H/\w.cell? ⟨g,3,none⟩=some D/\w.cell? ⟨g,4,none⟩=some U/\w.cell? ⟨g,5,none⟩=some V/\w.cell? ⟨g,6,none⟩=some W/\w.cell? ⟨g,7,none⟩=some X/\w.cell? ⟨g,8,none⟩=some aa/\w.cell? ⟨g,9,none⟩=some ab/\w.cell? ⟨g,10,none⟩=some Z:=⟨h.cell 0,h.cell 1,h.cell 2,h.cell 3,h.cell 4,h.cell 5,h.cell 6,h.cell 7,h.cell 8,h.cell 9,h.cell 10⟩
theorem zxz (h:Row w g t [p,E,H,D,U,V,W,X,aa,ab,Z]):w.frozen? ⟨g,0,none⟩=false/\w.frozen? ⟨g,1,none⟩=false/\w.frozen? ⟨g,2,none⟩=false/\w.frozen? ⟨g,3,none⟩=false/\w.frozen? ⟨g,4,none⟩=false/\w.frozen? ⟨g,5,none⟩=false/\w.frozen? ⟨g,6,none⟩=false/\w.frozen? ⟨g,7,none⟩=false/\w.frozen? ⟨g,8,none⟩=false/\w.frozen? ⟨g,9,none⟩=false/\w.frozen? ⟨g,10,none⟩=false:=⟨h.frozen 0,h.frozen 1,h.frozen 2,h.frozen 3,h.frozen 4,h.frozen 5,h.frozen 6,h.frozen 7,h.frozen 8,h.frozen 9,h.frozen 10⟩
theorem K8 (h:Row w g t [p,E,H,D,U,V,W,X]):w.cell? ⟨g,0,none⟩=some p/\w.cell? ⟨g,1,none⟩=some E/\w.cell? ⟨g,2,none⟩=some H/\w.cell? ⟨g,3,none⟩=some D/\w.cell? ⟨g,4,none⟩=some U/\w.cell? ⟨g,5,none⟩=some V/\w.cell? ⟨g,6,none⟩=some W/\w.cell? ⟨g,7,none⟩=some X:=⟨h.cell 0,h.cell 1,h.cell 2,h.cell 3,h.cell 4,h.cell 5,h.cell 6,h.cell 7⟩
end
theorem zz1382 {fn:Func} {slot:Tmp} {R:Ending->e->Prop} {a:Act} {w:e} {g:Nat} {p E H D U V W X aa ab Z:c} (hr:fn.results= #[.cell slot 96]) (ha:a.tmps.getD slot undef= .pointer (some ⟨g,0,none⟩)) (hd:a.defers=[])
 (h:Row w g 96 [p,E,H,D,U,V,W,X,aa,ab,Z]) (r:R (.returned (.agg #[p,E,H,D,U,V,W,X,aa,ab,Z])) w):bodyPost Tryz.prog fn R .ret a w:=by refine bodyPost_ret (v:= .agg #[p,E,H,D,U,V,W,X,aa,ab,Z]) ?_ hd r;obtain⟨b,d,i,j,k,l,m,n,o,q,f⟩:=znd h;have s:a.tmps[slot]?.getD undef= .pointer (some ⟨g,0,none⟩):=(by simpa using ha);simp[results,hr,s,asAddr,go_sem,b,d,i,j,k,l,m,n,o,q,f]
theorem TabO.nil {w:e} {S:Nat->Prop} {B:Nat->Option Nat} {n:Nat} {hd:Nat->c} {F:Nat->Nat->Int} {Q:Nat->Int} (h:Sep w base S B) (a:B 3=none) (d:B 4=none):TabO w base S B 0 0 n hd (.slice none 0 0) (.slice none 0 0) F Q:=
 ⟨fun i hi=>absurd hi og,⟨OwnS.nil h.q,d.symm⟩,⟨OwnS.nil fun b h=>h.elim,a.symm⟩,h⟩
def B0 (sb G:Nat):Nat->Option Nat:=fun a=>if a=2 then some sb else if a=6 then some G else none
theorem zz1405 {w:e} {d sb G:Nat} (j:base<=d/\d<w.heap.size) (f:base<=sb/\sb<w.heap.size) (g:base<=G/\G<w.heap.size) (l:d≠sb) (m:d≠G) (h:sb≠G):Sep w base (fun b=>b=d) (B0 sb G):=by
 refine⟨fun i b a=> ?_,fun i o b n a c=> ?_,fun b k=>by rw[k];exact j.2⟩
 ·unfold B0 at a;split at a
  ·cases a;exact⟨f.1,f.2,fun a=>l a.symm⟩
  ·split at a
   ·cases a;exact⟨g.1,g.2,fun a=>m a.symm⟩
   ·cases a
 ·unfold B0 at a c;split at a
  ·cases a;rw[if_neg og] at c;split at c
   ·cases c;exact h rfl
   ·cases c
  ·split at a
   ·cases a;split at c
    ·cases c;exact h rfl
    ·rw[if_neg og] at c;cases c
   ·cases a
section
variable {a w w' : e} {G sb : Nat} {S : Nat → Prop} {B : Nat → Option Nat} {k l n len : Nat} {hd : Nat → c} {j d q s one : c} {F : Nat → Nat → Int} {Q : Nat → Int} {f : Nat → Nat} {bas oth : List Nat} {tc : List c}
theorem TblW.copied (h:TblW a w G sb S B 0 0 n len hd (.slice none 0 0) (.slice none 0 0) (.slice none 0 0) (.slice none 0 0) one F Q f [] [] tc) (c:Below w.heap.size w w') {mid:Nat} (k:w.heap.size<=mid) (p:mid<=w'.heap.size)
 (e:OwnS 1 3 IsIV w' w.heap.size (fun _=>False) q (bas.map fun(x:Nat)=>(x:Int))) (m:∀b,q.ownBlock=some b->b<mid) (g:OwnS 1 3 IsIV w' mid (fun _=>False) s (oth.map fun(x:Nat)=>(x:Int))):
 TblW a w' G sb S (U0 (U0 B 0 q.ownBlock) 1 s.ownBlock) 0 0 n len hd (.slice none 0 0) (.slice none 0 0) q s one F Q f bas oth tc:=by
 have j:=h.next c
 have r:Sep w' a.heap.size S (U0 (U0 B 0 q.ownBlock) 1 s.ownBlock):=h.tab.sep.two (hi:=mid) og c.size h.below.size p k (fun b c=> .inl c) (fun b d=>⟨(e.own_lt b d).1,m b d,fun o=>by have:=h.tab.sep.q b o;have:=(e.own_lt b d).1;omega⟩) (by
  rcases l:s.ownBlock with _|b
  ·exact .inl (h.othO.2.symm▸rfl)
  ·exact .inr ⟨b,rfl,(g.own_lt b l).1,(g.own_lt b l).2⟩)
 exact {j with
  tab:=j.tab.place r (by rw[J8 og,J8 og]) (by rw[J8 og,J8 og]) (fun i=>by rw[J8 og,J8 og])
  basO:=⟨e.higher IsIV.stb h.below.size (fun b h=>h) fun b h=>h.elim,by rw[J8 og,zkn]⟩
  othO:=⟨g.higher IsIV.stb (I h.below.size k) (fun b h=>h) fun b h=>h.elim,by rw[zkn]⟩
  b2:=by rw[J8 og,J8 og];exact h.b2
  b6:=by rw[J8 og,J8 og];exact h.b6}
theorem TblW.rowT (h:TblW a w G sb S B k l n len hd j d q s one F Q f bas oth tc) (m:w.grownBy w' j.ownBlock) (o:Row w' G 96 tc) (e:LinP w' w.heap.size n (F k) hi u) (hv:OwnS 1 26 IsVal w' a.heap.size (fun _=>False) ae ((List.range k).map hd++[u])) (p:ae.ownBlock=j.ownBlock\/∃b,ae.ownBlock=some b/\hi<=b):
 ∃g y,(∀b,S b->g b)/\TblW a w' G sb g y (k+1) l n len (zph hd k u) ae d q s one F Q f bas oth tc:=by
 have i:w.grownBy w' (B 3):=by rw[<-h.tab.heads.2];exact m
 exact⟨_,_,fun b c=> .inl c,h.swap (.inl rfl) i (h.tab.row h.below.size i e.1.1 e.1.2 e.2.1 e.2.2 hv p) (by rw[J8 og,J8 og]) (by rw[J8 og,J8 og]) (by rw[J8 og,J8 og]) (by rw[J8 og,J8 og]) o (fun b c=> .inl c) fun b c=>by
  rcases c with c|c
  ·exact h.quiet b c
  ·exact I h.below.size c.1⟩
theorem TblW.restT (h:TblW a w G sb S B k l n len hd j d q s one F Q f bas oth tc) (r:w.grownBy w' d.ownBlock) (t:Row w' G 96 tc) {lo:Nat} (i:w.heap.size<=lo/\lo<=hi/\hi<=w'.heap.size) (hv:OwnS 3 30 IsR w' a.heap.size (fun b=>S b\/O7 lo hi b) ad (C2 (ints l Q)++[C7 ((Q l:Int):Rat)])) (u:ad.ownBlock=d.ownBlock\/∃b,ad.ownBlock=some b/\hi<=b):
 ∃m y,(∀b,S b->m b)/\TblW a w' G sb m y k (l+1) n len hd j ad q s one F Q f bas oth tc:=by
 have o:w.grownBy w' (B 4):=(by rw[<-h.tab.rests.2];exact r);have e:C2 (ints (l+1) Q)=C2 (ints l Q)++[C7 ((Q l:Int):Rat)]:=(by rw[yid];simp[C2]);have p:∀b,(S b\/O7 lo hi b)->S b\/(w.heap.size<=b/\b<w'.heap.size):=fun b c=>c.imp id fun c=>⟨I i.1 c.1,ah c.2 i.2.2⟩
 exact⟨_,_,fun b c=> .inl c,h.swap (.inr rfl) o (h.tab.rest (T:=fun b=>S b\/O7 lo hi b) h.below.size o (fun b c=> .inl c) p (by rw[e];exact hv) fun b e=>by
  rcases u with g|⟨v,g,x⟩
  ·exact .inl (by rw[<-h.tab.rests.2,<-g];exact e)
  ·rw[g] at e;cases e;exact .inr og) (J8 og) (J8 og) (J8 og) (J8 og) t (fun b c=> .inl c) fun b c=>by
  rcases c with c|c
  ·exact h.quiet b c
  ·exact I h.below.size (I i.1 c.1)⟩
theorem TblW.fin (h:TblW a w G sb S B m m n len hd j d q s one F Q f bas oth tc) (hf:∀v,v∈bas++oth->v<len/\f v=sc v) {vz top:c} {C:Nat->Int} {z:Int} {t lo J:Nat} (A:Below w.heap.size w w') (r:LinP w' w.heap.size n C hi u) (M:QinP w' w.heap.size lo J ((z:Int):Rat) vz) (R:hi<=lo) (O:NumS w S top t):
 ∃l y,TabE w' a.heap.size l y m n hd j d u q s sb F Q C sc bas oth/\NumS w' l one 1/\NumS w' l top t/\IsQ w' l vz ((z:Int):Rat)/\(∀b,l b->a.heap.size<=b)/\y 6=some G:=by
 obtain⟨T,p⟩:∃T:Nat->Prop,T=fun b=>S b\/(w.heap.size<=b/\b<J/\u.ownBlock≠some b):=⟨_,rfl⟩;have H:∀b,S b->T b:=fun b e=>(by rw[p];exact .inl e);have U:=M.1;have I:∀b,T b->S b\/(w.heap.size<=b/\b<w'.heap.size):=fun b e=>(by rw[p] at e;exact e.imp id fun h=>⟨h.1,by omega⟩);have x:=r.2.1.own_lt;have k:=h.more A H I
 have K:∀b,u.ownBlock=some b->¬T b:=fun b g e=>by
  rw[p] at e;rcases e with e|e
  ·have:=h.tab.sep.q b e;have:=(x b g).1;omega
  ·exact e.2.2 g
 have L:Sep w' a.heap.size T (U0 B 5 u.ownBlock):=h.tab.sep.upd A.size h.below.size I fun b g=> .inr ⟨(x b g).1,(x b g).2,K b g⟩;refine⟨T,U0 B 5 u.ownBlock,⟨k.tab.place L (J8 og) (J8 og) (fun i=>J8 og),⟨r.2.1.higher IsR.stb h.below.size (fun b e=> ?_) fun b e=>⟨L.q b e,fun g=>K b g.symm e⟩,(zkn _ _ _).symm⟩,⟨k.basO.1,by rw[J8 og];exact k.basO.2⟩,⟨k.othO.1,by rw[J8 og];exact k.othO.2⟩,⟨by rw[J8 og];exact k.b2,fun v hv=> ?_⟩⟩,k.den,IsK.stb.to O fun b e=>⟨H b e,fun o=>A.cell (p:=⟨b,o,none⟩) (h.tab.sep.q b e)⟩,IsQ.stb.to M.2 (F7 fun b e=> ?_),k.quiet,(J8 og).trans h.b6⟩
 ·rw[p];exact .inr ⟨e.1,by have:=e.2.1;omega,e.2.2⟩
 ·obtain⟨P,N,D,E⟩:=k.scl.el v (hf v hv).1;rw[(hf v hv).2] at D E;exact⟨P,N,D,E⟩
 ·rw[p];exact .inr ⟨by have:=e.1;omega,e.2,fun g=>by have:=r.2.2 b g;have:=e.1;omega⟩
end
theorem TabE.far {w w':e} {n sb z:Nat} {S:Nat->Prop} {B:Nat->Option Nat} {hd:Nat->c} {j d x q s:c} {F:Nat->Nat->Int} {Q C:Nat->Int} {bas oth:List Nat} (h:TabE w base S B m n hd j d x q s sb F Q C sc bas oth) (K:∀b,S b->base<=b) (hg:w.grownBy w' (some z)) (f:z<base\/B 6=some z):
 TabE w' base S B m n hd j d x q s sb F Q C sc bas oth:=by
 have y:∀b,some z=some b->¬S b:=fun b a g=>by
  cases a;rcases f with f|f
  ·have:=K z g;omega
  ·exact(h.tab.sep.lt _ _ f).2.2 g
 have G:∀(v:c) (p:Nat),v.ownBlock=B p->p≠6->v.ownBlock≠some z:=fun v p a r o=>by
  rcases f with f|f
  ·have:=(h.tab.sep.lt p z (a▸o)).1;omega
  ·exact h.tab.sep.ne 6 p z (Ne.symm r) f (a▸o)
 have key:∀{A:Type} {u:Nat} {t:TypeId} {R:e->(Nat->Prop)->c->A->Prop} {T:Nat->Prop} {v:c} {l:List A} (p:Nat),Stb R->(∀b,T b->S b\/False)->v.ownBlock=B p->p≠6->OwnS u t R w base T v l->OwnS u t R w' base T v l:=fun p H I a r J=>J.grown H hg fun b o=>⟨by cases o;exact G _ p a r,fun g=>(I b g).elim (y b o) id⟩
 refine⟨⟨fun i hi=>⟨key (7+i) IsR.stb (fun b h=> .inl h) (h.tab.rows i hi).2 og (h.tab.rows i hi).1,(h.tab.rows i hi).2⟩,⟨key 4 IsR.stb (fun b h=> .inl h) h.tab.rests.2 og h.tab.rests.1,h.tab.rests.2⟩,⟨key 3 IsVal.stb (fun b h=> .inr h) h.tab.heads.2 og h.tab.heads.1,h.tab.heads.2⟩,h.tab.sep.size hg.size⟩,
  ⟨key 5 IsR.stb (fun b h=> .inl h) h.cost.2 og h.cost.1,h.cost.2⟩,⟨key 0 IsIV.stb (fun b h=> .inr h) h.basO.2 og h.basO.1,h.basO.2⟩,⟨key 1 IsIV.stb (fun b h=> .inr h) h.othO.2 og h.othO.1,h.othO.2⟩,⟨h.scl.1,fun v hv=> ?_⟩⟩
 obtain⟨P,k,D,E⟩:=h.scl.2 v hv;have L:=h.tab.sep.lt _ _ h.scl.1
 exact⟨P,k,(ag (hg.block sb L.2.1 fun a=>by
  injection a with a;rcases f with f|f
  ·omega
  ·exact h.tab.sep.ne 6 2 z og f (by rw[h.scl.1,a]))).trans D,IsK.stb.to E (znx hg fun b g=>⟨h.tab.sep.q b g,fun a=>y b a.symm g⟩)⟩
theorem yqc {j:c} {k:Nat} (h:zsp j k=some b):k=7:=by
 unfold zsp at h;split at h
 ·rfl
 ·cases h
theorem yqd {d:c} {k:Nat} (h:zsq d k=some b):k=11:=by
 unfold zsq at h;split at h
 ·rfl
 ·cases h
end Go.Proofs.YtlhhbccgfkhflaaGreatDoor
