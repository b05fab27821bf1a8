/-
 A table while package simplex's newTable builds it.
-/
import Derived.Test.YtlhhbccgfkhflaaGreatDoorProofDualWeak16
namespace Go.Proofs.YtlhhbccgfkhflaaGreatDoor
open Go.RowKit
set_option linter.unusedVariables false
set_option maxRecDepth 100000
set_option maxHeartbeats 8000000
open _root_.Nat renaming le_trans → E, lt_of_lt_of_le → aj
open _root_.Go.World renaming cell?_of_block → ah
open _root_.Go renaming World → e, Value → c, TypeId → aa, undef → H, Addr → I
variable {N R V app b b3 base hi lo m ab Z : Nat} {O U : Option I} {Y : Nat → Int} {af rest ag u v ac : c} {r : Option Nat} {sc : Nat → Nat} {ai xs : List c}
theorem ysh:ElT Tryz.prog 94 28 (.slice none 0 0) 24:=
 ⟨Tryz.underlying94,by obtain⟨i,a,b,c,d⟩:=info_parts (show(Tryz.prog.info? 28).map (fun i=>(i.zero,i.size,i.bytes))=some (some (.slice none 0 0),1,24) by kernel_rfl);exact⟨i,a,b,c,d⟩,rfl⟩
structure ScW (w:e) (S:Nat->Prop) (sb len:Nat) (f:Nat->Nat):Prop where
 blk:∃cur,w.heap[sb]? =some (.cells cur 28 (0,0))
 el:∀v,v<len->∃P k,w.cell? ⟨sb,v,none⟩=some (.slice P (A8 (f v)).length k)/\NumS w S (.slice P (A8 (f v)).length k) (f v)
section
variable {w w' : e} {S T : Nat → Prop} {sb len : Nat} {f : Nat → Nat}
theorem ScW.zero (h:Row w sb 28 (List.replicate len (.slice none 0 0))):ScW w S sb len (fun _=>0) where
 blk:=⟨_,h⟩
 el v hv:=by
  refine⟨none,0,?_,?_⟩
  ·rw[h.cell v,List.getElem?_replicate,if_pos hv,T6];rfl
  ·rw[T6];exact yjt
theorem ScW.lt (h:ScW w S sb len f):sb<w.heap.size:=by obtain⟨b,a⟩:=h.blk;exact(Array.getElem?_eq_some_iff.1 a).1
theorem ScW.free (h:ScW w S sb len f) (o:Nat):w.frozen? ⟨sb,o,none⟩=false:=by obtain⟨b,a⟩:=h.blk;simp[World.frozen?,a]
theorem ScW.keep (h:ScW w S sb len f) (a:w'.heap[sb]? =w.heap[sb]?) (d:L6 S T w w'):ScW w' T sb len f where
 blk:=by rw[a];exact h.blk
 el v hv:=by obtain⟨P,k,b,c⟩:=h.el v hv;exact⟨P,k,(ah a).trans b,IsK.stb.to c d⟩
theorem ScW.put (h:ScW w S sb len f) (m:¬S sb) {v x k:Nat} (hv:v<len) {P:Option I} (n:NumS w S (.slice P (A8 x).length k) x):ScW (w.setCell ⟨sb,v,none⟩ (.slice P (A8 x).length k)) S sb len (O7 f v x) where
 blk:=by obtain⟨p,c⟩:=h.blk;exact zwx c
 el u hu:=by
  have j:L6 S S w (w.setCell ⟨sb,v,none⟩ (.slice P (A8 x).length k)):=fun b i=>⟨i,fun o=>World.cell?_setCell_other _ _ _ _ (fun e=>by injection e with a d;exact m (a▸i))⟩;by_cases c:u=v
  ·subst c;rw[zoq];obtain⟨g,l,a,d⟩:=h.el u hu;exact⟨P,k,World.cell?_setCell_same _ _ _ a,IsK.stb.to n j⟩
  ·rw[zor _ _ c];obtain⟨g,l,a,d⟩:=h.el u hu;exact⟨g,l,(World.cell?_setCell_other _ _ _ _ (fun e=>by injection e with a d;exact c d.symm)).trans a,IsK.stb.to d j⟩
end
structure TblW (d w:e) (G sb:Nat) (S:Nat->Prop) (B:Nat->Option Nat) (k l n len:Nat) (hd:Nat->c) (q j y D one:c) (F:Nat->Nat->Int) (Q:Nat->Int) (f:Nat->Nat) (bas oth:List Nat) (tc:List c):Prop where
 below:Below d.heap.size d w
 row:Row w G 96 tc
 tab:TabO w d.heap.size S B k l n hd q j F Q
 basO:OwnS 1 3 IsIV w d.heap.size (fun _=>False) y (bas.map fun(x:Nat)=>(x:Int))/\y.ownBlock=B 0
 othO:OwnS 1 3 IsIV w d.heap.size (fun _=>False) D (oth.map fun(x:Nat)=>(x:Int))/\D.ownBlock=B 1
 scl:ScW w S sb len f
 den:NumS w S one 1
 b2:B 2=some sb
 b6:B 6=some G
 quiet:∀b,S b->d.heap.size<=b
section
variable {d w w' : e} {G sb : Nat} {S T : Nat → Prop} {B W : Nat → Option Nat} {k l n len : Nat} {hd : Nat → c} {q j y D one : c} {F : Nat → Nat → Int} {Q : Nat → Int} {f : Nat → Nat} {bas oth : List Nat} {tc : List c}
theorem TblW.gb (h:TblW d w G sb S B k l n len hd q j y D one F Q f bas oth tc):d.heap.size<=G/\G<w.heap.size/\¬S G/\d.heap.size<=sb/\sb<w.heap.size/\¬S sb/\G≠sb:=
 ⟨(h.tab.sep.lt _ _ h.b6).1,(h.tab.sep.lt _ _ h.b6).2.1,(h.tab.sep.lt _ _ h.b6).2.2,(h.tab.sep.lt _ _ h.b2).1,(h.tab.sep.lt _ _ h.b2).2.1,(h.tab.sep.lt _ _ h.b2).2.2,fun a=>h.tab.sep.ne 6 2 G og h.b6 (by rw[h.b2,a])⟩
theorem TblW.step (h:TblW d w G sb S B k l n len hd q j y D one F Q f bas oth tc) (g:w.grownBy w' r) (hr:∀b,r=some b->b=G\/b=sb) {p:Nat->Nat} (A:Row w' G 96 ai) (C:ScW w' S sb len p):
 TblW d w' G sb S B k l n len hd q j y D one F Q p bas oth ai:=by
 have s:=h.gb
 have i:∀b,r=some b->∃a,B a=some b/\a≠3/\a≠4/\a<7/\a≠0/\a≠1:=fun b c=>by
  rcases hr b c with rfl|rfl
  ·exact⟨6,h.b6,by omega,by omega,by omega,by omega,by omega⟩
  ·exact⟨2,h.b2,by omega,by omega,by omega,by omega,by omega⟩
 have nS:∀b,r=some b->¬S b:=fun b c=>by obtain⟨a,e,_⟩:=i b c;exact(h.tab.sep.lt a b e).2.2
 refine⟨h.below.grown g h.below.size fun b c=>by rcases hr b c with rfl|rfl;exact s.1;exact s.2.2.2.1,A,h.tab.grown g fun b c=>by obtain⟨a,e,u,v,z,_⟩:=i b c;exact .inr ⟨a,e,u,v,z⟩,
  ⟨h.basO.1.grown IsIV.stb g fun b c=>⟨fun m=>by obtain⟨a,e,_,_,_,o,_⟩:=i b c;exact h.tab.sep.ne a 0 b o e (h.basO.2▸m),fun x=>x⟩,h.basO.2⟩,
  ⟨h.othO.1.grown IsIV.stb g fun b c=>⟨fun m=>by obtain⟨a,e,_,_,_,_,o⟩:=i b c;exact h.tab.sep.ne a 1 b o e (h.othO.2▸m),fun x=>x⟩,h.othO.2⟩,
  C,IsK.stb.to h.den (zml g fun b t=>⟨h.tab.sep.q b t,fun c=>nS b c.symm t⟩),h.b2,h.b6,h.quiet⟩
theorem TblW.next (h:TblW d w G sb S B k l n len hd q j y D one F Q f bas oth tc) (a:Below w.heap.size w w'):TblW d w' G sb S B k l n len hd q j y D one F Q f bas oth tc:=
 h.step (r:=none) (K9 a) (fun b c=>by cases c) (h.row.next a) (h.scl.keep (a.block _ h.scl.lt) (zqg a fun b e=>h.tab.sep.q b e))
theorem TblW.setG (h:TblW d w G sb S B k l n len hd q j y D one F Q f bas oth tc) (c:w.grownBy w' (some G)) (g:Row w' G 96 ai):TblW d w' G sb S B k l n len hd q j y D one F Q f bas oth ai:=
 h.step c (fun b a=>by cases a;exact .inl rfl) g (h.scl.keep (c.block _ h.scl.lt fun a=>h.gb.2.2.2.2.2.2 (by injection a with a;exact a.symm)) (zml c fun b e=>⟨h.tab.sep.q b e,fun a=>by injection a with a;exact h.gb.2.2.1 (a▸e)⟩))
theorem TblW.setS (h:TblW d w G sb S B k l n len hd q j y D one F Q f bas oth tc) {v x c:Nat} (hv:v<len) {P:Option I} (e:NumS w S (.slice P (A8 x).length c) x):TblW d (w.setCell ⟨sb,v,none⟩ (.slice P (A8 x).length c)) G sb S B k l n len hd q j y D one F Q (O7 f v x) bas oth tc:=
 h.step (r:=some sb) (K0 _ _ _ _) (fun b a=>by cases a;exact .inr rfl) (h.row.far (p:=⟨sb,v,none⟩) (fun a=>h.gb.2.2.2.2.2.2 a) _) (h.scl.put h.gb.2.2.2.2.2.1 hv e)
theorem TblW.more (h:TblW d w G sb S B k l n len hd q j y D one F Q f bas oth tc) (i:Below w.heap.size w w') (e:∀b,S b->T b) (g:∀b,T b->S b\/(w.heap.size<=b/\b<w'.heap.size)):TblW d w' G sb T B k l n len hd q j y D one F Q f bas oth tc:=by
 have a:=h.next i
 exact {a with
  tab:=h.tab.more i e g
  scl:=a.scl.keep rfl (G4 e)
  den:=IsK.stb.to a.den (G4 e)
  quiet:=fun b m=>by
   rcases g b m with c|c
   ·exact h.quiet b c
   ·exact E h.below.size c.1}
theorem TblW.swap (h:TblW d w G sb S B k l n len hd q j y D one F Q f bas oth tc) {e:Nat} (J:e=3\/e=4) (g:w.grownBy w' (B e)) {s t:Nat} {p:Nat->c} (E:TabO w' d.heap.size T W s t n p ag af F Q) (u:W 0=B 0) (v:W 1=B 1) (z:W 2=B 2) (A:W 6=B 6)
 (I:Row w' G 96 tc) (C:∀b,S b->T b) (H:∀b,T b->d.heap.size<=b):TblW d w' G sb T W s t n len p ag af y D one F Q f bas oth tc:=by
 have nS:∀b,B e=some b->¬S b:=fun b a=>(h.tab.sep.lt e b a).2.2;have r:L6 S T w w':=fun b m=>⟨C b m,fun o=>ah (g.block b (h.tab.sep.q b m) fun a=>nS b a.symm m)⟩
 refine⟨h.below.grown g h.below.size fun b a=>(h.tab.sep.lt e b a).1,I,E,⟨h.basO.1.grown IsIV.stb g fun b a=>⟨fun i=>h.tab.sep.ne e 0 b og a (h.basO.2▸i),fun x=>x⟩,by rw[u];exact h.basO.2⟩,
  ⟨h.othO.1.grown IsIV.stb g fun b a=>⟨fun i=>h.tab.sep.ne e 1 b og a (h.othO.2▸i),fun x=>x⟩,by rw[v];exact h.othO.2⟩,
  h.scl.keep (g.block _ h.scl.lt fun a=>h.tab.sep.ne e 2 sb og a.symm h.b2) r,IsK.stb.to h.den r,by rw[z];exact h.b2,by rw[A];exact h.b6,H⟩
end
def LinP (w:e) (n0 n:Nat) (Y:Nat->Int) (hi:Nat) (u:c):Prop:=
 (n0<=hi/\hi<=w.heap.size)/\OwnS 3 30 IsR w n0 (fun b=>n0<=b/\b<hi/\u.ownBlock≠some b) u (C4 (ints n Y))/\∀b,u.ownBlock=some b->b<hi
theorem LinP.grown {w w':e} {n0 n:Nat} (h:LinP w n0 n Y hi u) (c:w.grownBy w' r) (hr:∀b,r=some b->b<n0):LinP w' n0 n Y hi u:=
 ⟨⟨h.1.1,E h.1.2 c.size⟩,h.2.1.grown IsR.stb c fun b a=>⟨fun d=>by have:=(h.2.1.own_lt b d).1;have:=hr b a;omega,fun f=>by have:=hr b a;have:=f.1;omega⟩,h.2.2⟩
theorem LinP.mk {w w':e} {n0 n:Nat} (h:zrc w w' u (ints n Y)) (f:n0<=w.heap.size) (a:w.heap.size<=w'.heap.size):LinP w' n0 n Y w'.heap.size u:=by obtain⟨S,d,i⟩:=h;have j:=d.own_lt;refine⟨⟨by omega,Nat.le_refl _⟩,d.higher IsR.stb f (fun b a=> ?_) fun b a=>⟨a.2.1,fun c=>a.2.2 c.symm⟩,fun b c=>(j b c).2⟩;obtain⟨_,_,_,_,g⟩:=d;have:=g b a;exact⟨E f (i b a),this.1,fun c=>this.2 c.symm⟩
def QinP (w:e) (n0 lo hi:Nat) (q:Rat) (v:c):Prop:=(n0<=lo/\lo<=hi/\hi<=w.heap.size)/\IsQ w (G6 lo hi) v q
theorem QinP.grown {w w':e} {n0:Nat} {q:Rat} (h:QinP w n0 lo hi q v) (a:w.grownBy w' r) (hr:∀b,r=some b->b<n0):QinP w' n0 lo hi q v:=
 ⟨⟨h.1.1,h.1.2.1,E h.1.2.2 a.size⟩,h.2.rngG a h.1.2.2 fun b c=>aj (hr b c) h.1.1⟩
def NinP (w:e) (n0 lo hi x:Nat) (v:c):Prop:=(n0<=lo/\lo<=hi/\hi<=w.heap.size)/\NumS w (G6 lo hi) v x
theorem NinP.grown {w w':e} {n0 x:Nat} (h:NinP w n0 lo hi x v) (c:w.grownBy w' r) (hr:∀b,r=some b->b<n0):NinP w' n0 lo hi x v:=
 ⟨⟨h.1.1,h.1.2.1,E h.1.2.2 c.size⟩,IsK.stb.to h.2 (zml c fun b a=>⟨aj a.2 h.1.2.2,fun d=>by have:=hr b d.symm;have:=a.1;have:=h.1.1;omega⟩)⟩
def yse (ops:Array Oper) (n:Nat) (a:List Nat):Bool:=(List.range n).all fun i=>(ops[i]?).all fun o=>match o.dst with|none=>true|some d=>a.contains d
theorem zvh {ops:Array Oper} {n:Nat} {e:List Nat} (h:yse ops n e=true):∀t,t∉e->zmn ops n t=false:=fun t j=>by
 rcases Bool.eq_false_or_eq_true (zmn ops n t) with a|a
 ·unfold zmn at a
  obtain⟨i,f,b⟩:=List.any_eq_true.1 a
  have c:=List.all_eq_true.1 h i f
  cases d:ops[i]? with
  |none=>rw[d] at b;cases b
  |some o=>
   rw[d] at b c
   have g:o.dst=some t:=by simpa using b
   simp only[Option.all_some,g] at c
   exact absurd (by simpa using c) j
 ·exact a
theorem zz1419 {P:Program} {w:e} {o:Oper} {a:Act} {f:Act->e->Prop} {Q:Exit->Act->e->Prop} {t b:aa} {z:c} {bytes:Nat} (d:ElT P t b z bytes) (F:z.cells= #[z]) (l j:Operand) (E:o.op=Op.makeSlice t l j) {m k:IntKind} {g C:Int} (n:Nat)
 (B:a.eval l= .int m g) (hc:a.eval j= .int k C) (v:g=(n:Int)) (s:C=(n:Int)) (x:n*(bytes+1)<=140737488355328)
 (u:∀w',Row w' w.heap.size b (List.replicate n z)->Below w.heap.size w w'->f (a.put o.dst (.slice (some ⟨w.heap.size,0,none⟩) n n)) w'):o.wp P a w f Q:=by obtain⟨i,p,q,r,A⟩:=d.info;rw[Nat.mul_add,Nat.mul_one] at x;have b2:i.bytes*n<=281474976710656:=(by rw[A,Nat.mul_comm];omega);have y:(i.bytes:Int)*(n:Int)<=281474976710656:=(by have h:((i.bytes*n:Nat):Int)<=281474976710656:=og;rwa[Int.natCast_mul] at h);have hr:=run_make (P:=P) w t b i z d.und p q m k n n og (Int.le_refl _) y og;simp only[Int.toNat_natCast] at hr;subst v;subst s;unfold Oper.wp;simp[execOp,E,B,hc,hr,Result.andThen];refine u _ ?_ ((Below.refl _ _).alloc (Nat.le_refl _) _);unfold Row;(have D:(List.replicate n z).toArray=madeCells z.cells (n*i.size):=by apply Array.ext';rw[r,Nat.mul_one,F];show _=(madeCells #[z] n).toList;rw[toList_madeCells_one]);rw[D];exact heap_alloc_new w _
def zvi (app n0 k:Nat) (w w':e):Prop:=∃r,w.grownBy w' r/\(r=none\/(k=app/\∀b,r=some b->n0<=b))
theorem zmo {n0 k:Nat} {w w':e} (h:w.grownBy w' none):zvi app n0 k w w':=⟨none,h,.inl rfl⟩
theorem ymk {n0 k:Nat} {d w w':e} (h:Below n0 d w) (g:n0<=w.heap.size) (c:zvi app n0 k w w'):Below n0 d w':=by
 obtain⟨r,f,hr⟩:=c;refine h.grown f g fun b a=> ?_;rcases hr with rfl|⟨_,h⟩
 ·cases a
 ·exact h b a
theorem yxw {w:e} {S:Nat->Prop} {x:Nat} (h:NumS w S v x) (d:1<=(A8 x).length):∃b o a,v= .slice (some ⟨b,o,none⟩) (A8 x).length a/\S b/\NumS w (fun y=>y=b) v x:=by obtain⟨A,a,hv,g,i,j⟩:=h;obtain⟨b,off,c,k,hc⟩:=j (fun f=>by have:(F6 .u32 (A8 x)).length=0:=(by rw[f];rfl);simp[F6] at this;rw[this] at d;simp at d);exact⟨b,off,a,by rw[hv,c],k,A,a,hv,g,i,fun _=>⟨b,off,c,rfl,hc⟩⟩
theorem yjx {w:e} {g x:Nat} {t:aa} (h:NumS w (fun y=>y=b) v x) (l:1<=(A8 x).length) (hr:Row w g t xs) (o:∀u∈xs,∀i:Int,u≠.int .u32 i):b≠g:=fun a=>by
 obtain⟨A,p,hv,q,r,n⟩:=h
 have j:F6 .u32 (A8 x)≠[]:=fun a=>by
  have:(F6 .u32 (A8 x)).length=0:=by rw[a];rfl
  simp[F6] at this
  rw[this] at l
  simp at l
 obtain⟨m,off,s,c,hc⟩:=n j
 obtain⟨u,z,k⟩:=List.exists_cons_of_ne_nil j
 have d:=hc 0 u (by rw[k];rfl)
 have c:m=g:=c.trans a
 rw[c,Nat.add_zero,hr.cell] at d
 have f:u∈F6 .u32 (A8 x):=by rw[k];simp
 unfold F6 at f
 obtain⟨y,_,rfl⟩:=List.mem_map.1 f
 exact o _ (List.mem_of_getElem? d) _ rfl
def yas (D:Nat) (a:Option I) (m d:Nat) (g:Option I) (n h n0:Nat) (i:Nat) (v:c) (w:e) (X:Nat->Option c):Prop:=
 match i with
 |0=>(∃b o f,v= .slice (some ⟨b,o,none⟩) (A8 1).length f/\n0<=b/\NumS w (fun x=>x=b) v 1)
 |1=>v= .pointer (some ⟨D,0,none⟩)
 |2=>v= .slice a m d
 |3=>v= .int .i64 (m:Int)
 |4=>v= .pointer (some ⟨D,1,none⟩)
 |5=>v= .slice g n h
 |6=>v= .int .i64 (n:Int)
 |7=>v= .int .i64 (((m+n:Nat)):Int)
 |8=>(∃sb,v= .slice (some ⟨sb,0,none⟩) (m+n) (m+n)/\n0<=sb/\Row w sb 28 (List.replicate (m+n) (.slice none 0 0)))
 |9=>(∃u s,X 0=some u/\X 8=some s/\v= .agg #[.slice none 0 0,.slice none 0 0,.slice none 0 0,.slice none 0 0,.slice none 0 0,.bool false,.slice none 0 0,.slice none 0 0,u,s,.slice none 0 0])
 |10=>(∃G,v= .pointer (some ⟨G,0,none⟩)/\n0<=G/\Row w G 96 [.slice none 0 0,.slice none 0 0,.slice none 0 0,.slice none 0 0,.slice none 0 0,.bool false,.slice none 0 0,.slice none 0 0,.slice none 0 0,.slice none 0 0,.slice none 0 0])
 |_=>True
def yat (D:Nat) (row rest:c) (Z b3 ab:Nat) (p:Bool) (O:Option I) (s R:Nat) (U:Option I) (A V:Nat) (l:List Raw) (y:Raw) (N n0:Nat) (i:Nat) (v:c) (w:e) (X:Nat->Option c):Prop:=
 match i with
 |0=>v=row
 |1=>(∃hi,(n0<=hi/\hi<=w.heap.size)/\(X 8=none->OwnS 3 30 IsR w n0 (fun b=>b<hi) v l)/\∀b,v.ownBlock=some b->hi<=b)
 |2=>v= .pointer (some ⟨D,3,none⟩)
 |3=>v=rest
 |4=>v= .int .i64 (Z:Int)
 |5=>v= .pointer (some ⟨b3,(ab+Z*3),none⟩)
 |6=>v= .agg #[.bool p,.slice O s R,.slice U A V]
 |7=>(X 8=none->NewRow w n0 30 [.bool p,.slice O s R,.slice U A V] v)
 |8=>(∃hi,(n0<=hi/\hi<=w.heap.size)/\OwnS 3 30 IsR w n0 (fun b=>b<hi) v (l++[y]))
 |9=>(∃q,X 8=some q/\∃lo hi,NinP w n0 lo hi N v)
 |_=>True
def yau (G:Nat) (q row ac:c) (n:Nat) (Y:Nat->Int) (a:List c) (n0 base:Nat) (i:Nat) (v:c) (w:e) (X:Nat->Option c):Prop:=
 match i with
 |0=>v= .pointer (some ⟨G,0,none⟩)
 |1=>v= .pointer (some ⟨G,2,none⟩)
 |2=>v=q
 |3=>v=row
 |4=>v=ac
 |5=>(∃hi,LinP w n0 n Y hi v)
 |6=>(∃hi u,LinP w n0 n Y hi u/\NewRow w n0 26 [u] v)
 |7=>(∃hi u,LinP w n0 n Y hi u/\OwnS 1 26 IsVal w base (fun _=>False) v (a++[u])/\(v.ownBlock=q.ownBlock\/∃b,v.ownBlock=some b/\hi<=b))
 |8=>v= .pointer (some ⟨G,0,none⟩)
 |9=>v= .pointer (some ⟨G,2,none⟩)
 |_=>True
def yav (D G:Nat) (j rest ac:c) (Z b3 ab:Nat) (p:Bool) (O:Option I) (s R:Nat) (U:Option I) (A V:Nat) (z:Rat) (d:Nat->Prop) (l:List Raw) (n0 base:Nat) (i:Nat) (v:c) (w:e) (X:Nat->Option c):Prop:=
 match i with
 |0=>v= .pointer (some ⟨G,0,none⟩)
 |1=>v= .pointer (some ⟨G,3,none⟩)
 |2=>v=j
 |3=>v= .pointer (some ⟨D,3,none⟩)
 |4=>v=rest
 |5=>v= .int .i64 (Z:Int)
 |6=>v= .pointer (some ⟨b3,(ab+Z*3),none⟩)
 |7=>v= .agg #[.bool p,.slice O s R,.slice U A V]
 |8=>v=ac
 |9=>(∃lo hi,QinP w n0 lo hi z v)
 |10=>(∃lo hi a,QinP w n0 lo hi z a/\NewRow w n0 30 a.cells.toList v)
 |11=>(∃lo hi,(n0<=lo/\lo<=hi/\hi<=w.heap.size)/\OwnS 3 30 IsR w base (fun b=>d b\/G6 lo hi b) v (l++[E0 z])/\(v.ownBlock=j.ownBlock\/∃b,v.ownBlock=some b/\hi<=b))
 |12=>v= .pointer (some ⟨G,0,none⟩)
 |13=>v= .pointer (some ⟨G,3,none⟩)
 |_=>True
def yaw (D G:Nat) (row:c) (p:Bool) (O:Option I) (s R:Nat) (U:Option I) (A V:Nat) (l:List Raw) (y:Raw) (N n0:Nat) (i:Nat) (v:c) (w:e) (X:Nat->Option c):Prop:=
 match i with
 |0=>v= .pointer (some ⟨D,4,none⟩)
 |1=>v=row
 |2=>(∃hi,(n0<=hi/\hi<=w.heap.size)/\(X 6=none->OwnS 3 30 IsR w n0 (fun b=>b<hi) v l)/\∀b,v.ownBlock=some b->hi<=b)
 |3=>v= .pointer (some ⟨D,5,none⟩)
 |4=>v= .agg #[.bool p,.slice O s R,.slice U A V]
 |5=>(X 6=none->NewRow w n0 30 [.bool p,.slice O s R,.slice U A V] v)
 |6=>(∃hi,(n0<=hi/\hi<=w.heap.size)/\OwnS 3 30 IsR w n0 (fun b=>b<hi) v (l++[y]))
 |7=>(∃q,X 6=some q/\∃lo hi,NinP w n0 lo hi N v)
 |8=>v= .pointer (some ⟨G,10,none⟩)
 |_=>True
theorem yyq {D:Nat} {p:Option I} {q:Nat} {t:Option I} {n z n0:Nat}:∀i k v w w' X u,i≠k->X k=none->yas D p m q t n z n0 i v w X->w.grownBy w' none->yas D p m q t n z n0 i v w' (K6 X k u):=fun i k v w w' X u J r h j=>by
 match i,J,h with
 |0,_,h=>
  obtain⟨b,o,C,d,f,a⟩:=h
  have M:b<w.heap.size\/True:= .inr trivial
  exact⟨b,o,C,d,f,IsK.stb.to a fun x s=>⟨s,fun N=>ah (j.block x (by obtain⟨A,L,hv,_,_,F⟩:=a;obtain⟨B,off,_,l,hc⟩:=F (by rw[zlg];simp[F6]);have K:x=b:=s;have l:B=b:=l;rw[K,<-l];exact World.block_lt_of_cell? w _ (hc 0 _ (by rw[zlg];rfl))) (by simp))⟩⟩
 |1,_,h=>exact h
 |2,_,h=>exact h
 |3,_,h=>exact h
 |4,_,h=>exact h
 |5,_,h=>exact h
 |6,_,h=>exact h
 |7,_,h=>exact h
 |8,_,h=>
  obtain⟨sb,d,f,a⟩:=h
  exact⟨sb,d,f,a.grownN j fun b g=>by cases g⟩
 |9,_,h=>
  obtain⟨x,y,d,f,a⟩:=h
  exact⟨x,y,zra d r,zra f r,a⟩
 |10,_,h=>
  obtain⟨G,d,f,a⟩:=h
  exact⟨G,d,f,a.grownN j fun b g=>by cases g⟩
 |_+11,_,_=>exact trivial
theorem yym {D:Nat} {row:c} {p:Bool} {s:Nat} {A:Nat} {l:List Raw} {y:Raw} {n0:Nat}:∀i g v w w' X u,i≠g->X g=none->yat D row rest Z b3 ab p O s R U A V l y N n0 i v w X->zvi 8 n0 g w w'->yat D row rest Z b3 ab p O s R U A V l y N n0 i v w' (K6 X g u):=fun i g v w w' X u k z h x=>by
 obtain⟨r,j,hr⟩:=x
 have n:g≠8->r=none:=fun h=>hr.elim id fun t=>absurd t.1 h
 match i,k,h with
 |0,_,h=>exact h
 |1,k,h=>
  obtain⟨hi,d,m,o⟩:=h
  by_cases f:g=8
  ·subst f
   exact⟨hi,⟨d.1,E d.2 j.size⟩,fun a=>(by rw[K6,if_pos rfl] at a;cases a),o⟩
  ·have:=n f
   subst this
   exact⟨hi,⟨d.1,E d.2 j.size⟩,fun a=>(m (by rw[zpj (Ne.symm f)] at a;exact a)).grown IsR.stb j (fun b a=>by cases a),o⟩
 |2,_,h=>exact h
 |3,_,h=>exact h
 |4,_,h=>exact h
 |5,_,h=>exact h
 |6,_,h=>exact h
 |7,k,h=>
  by_cases f:g=8
  ·subst f
   exact fun a=>(by rw[K6,if_pos rfl] at a;cases a)
  ·have:=n f
   subst this
   exact fun a=>(h (by rw[zpj (Ne.symm f)] at a;exact a)).grown j (fun b a=>by cases a)
 |8,k,h=>
  have:=n (Ne.symm k)
  subst this
  obtain⟨hi,d,m⟩:=h
  exact⟨hi,⟨d.1,E d.2 j.size⟩,m.grown IsR.stb j (fun b a=>by cases a)⟩
 |9,k,h=>
  obtain⟨q,d,lo,hi,m⟩:=h
  by_cases f:g=8
  ·subst f
   rw[z] at d
   cases d
  ·have:=n f
   subst this
   exact⟨q,by rw[zpj (Ne.symm f)];exact d,lo,hi,m.grown j (fun b a=>by cases a)⟩
 |_+10,_,_=>exact trivial
theorem yyp {D G:Nat} {row:c} {p:Bool} {s:Nat} {A:Nat} {l:List Raw} {y:Raw} {n0:Nat}:∀i g v w w' X u,i≠g->X g=none->yaw D G row p O s R U A V l y N n0 i v w X->zvi 6 n0 g w w'->yaw D G row p O s R U A V l y N n0 i v w' (K6 X g u):=fun i g v w w' X u k z h x=>by
 obtain⟨r,j,hr⟩:=x
 have n:g≠6->r=none:=fun h=>hr.elim id fun t=>absurd t.1 h
 match i,k,h with
 |0,_,h=>exact h
 |1,_,h=>exact h
 |2,k,h=>
  obtain⟨hi,d,m,o⟩:=h
  by_cases f:g=6
  ·subst f
   exact⟨hi,⟨d.1,E d.2 j.size⟩,fun a=>(by rw[K6,if_pos rfl] at a;cases a),o⟩
  ·have:=n f
   subst this
   exact⟨hi,⟨d.1,E d.2 j.size⟩,fun a=>(m (by rw[zpj (Ne.symm f)] at a;exact a)).grown IsR.stb j (fun b a=>by cases a),o⟩
 |3,_,h=>exact h
 |4,_,h=>exact h
 |5,k,h=>
  by_cases f:g=6
  ·subst f
   exact fun a=>(by rw[K6,if_pos rfl] at a;cases a)
  ·have:=n f
   subst this
   exact fun a=>(h (by rw[zpj (Ne.symm f)] at a;exact a)).grown j (fun b a=>by cases a)
 |6,k,h=>
  have:=n (Ne.symm k)
  subst this
  obtain⟨hi,d,m⟩:=h
  exact⟨hi,⟨d.1,E d.2 j.size⟩,m.grown IsR.stb j (fun b a=>by cases a)⟩
 |7,k,h=>
  obtain⟨q,d,lo,hi,m⟩:=h
  by_cases f:g=6
  ·subst f
   rw[z] at d
   cases d
  ·have:=n f
   subst this
   exact⟨q,by rw[zpj (Ne.symm f)];exact d,lo,hi,m.grown j (fun b a=>by cases a)⟩
 |8,_,h=>exact h
 |_+9,_,_=>exact trivial
def ztb (q:c):Nat->Option Nat:=fun k=>match k with|7=>q.ownBlock|_=>none
theorem yyn {G:Nat} {q row:c} {n:Nat} {o:List c} {n0:Nat} (r:∀b,q.ownBlock=some b->b<n0):∀i k v w w' X u,i≠k->X k=none->yau G q row ac n Y o n0 base i v w X->w.grownBy w' (ztb q k)->yau G q row ac n Y o n0 base i v w' (K6 X k u):=fun i k v w w' X u l s h f=>by
 have m:∀b,ztb q k=some b->k=7/\q.ownBlock=some b:=fun b a=>by
  unfold ztb at a
  split at a
  ·exact⟨rfl,a⟩
  ·cases a
 have g:∀b,ztb q k=some b->b<n0:=fun b a=>r b (m b a).2
 match i,l,h with
 |0,_,h=>exact h
 |1,_,h=>exact h
 |2,_,h=>exact h
 |3,_,h=>exact h
 |4,_,h=>exact h
 |5,_,h=>
  obtain⟨hi,d⟩:=h
  exact⟨hi,d.grown f g⟩
 |6,_,h=>
  obtain⟨hi,x,d,j⟩:=h
  exact⟨hi,x,d.grown f g,j.grown f g⟩
 |7,l,h=>
  obtain⟨hi,x,d,j,p⟩:=h
  exact⟨hi,x,d.grown f g,j.grown IsVal.stb f fun b a=>absurd (m b a).1 (Ne.symm l),p⟩
 |8,_,h=>exact h
 |9,_,h=>exact h
 |_+10,_,_=>exact trivial
def ztc (j:c):Nat->Option Nat:=fun k=>match k with|11=>j.ownBlock|_=>none
theorem yyo {D G:Nat} {j:c} {p:Bool} {s:Nat} {A:Nat} {z:Rat} {o:Nat->Prop} {l:List Raw} {n0:Nat} (t:∀b,j.ownBlock=some b->b<n0):∀i k v w w' X u,i≠k->X k=none->yav D G j rest ac Z b3 ab p O s R U A V z o l n0 base i v w X->w.grownBy w' (ztc j k)->yav D G j rest ac Z b3 ab p O s R U A V z o l n0 base i v w' (K6 X k u):=fun i k v w w' X u m y h f=>by
 have q:∀b,ztc j k=some b->k=11/\j.ownBlock=some b:=fun b a=>by
  unfold ztc at a
  split at a
  ·exact⟨rfl,a⟩
  ·cases a
 have n:∀b,ztc j k=some b->b<n0:=fun b a=>t b (q b a).2
 match i,m,h with
 |0,_,h=>exact h
 |1,_,h=>exact h
 |2,_,h=>exact h
 |3,_,h=>exact h
 |4,_,h=>exact h
 |5,_,h=>exact h
 |6,_,h=>exact h
 |7,_,h=>exact h
 |8,_,h=>exact h
 |9,_,h=>
  obtain⟨lo,hi,d⟩:=h
  exact⟨lo,hi,d.grown f n⟩
 |10,_,h=>
  obtain⟨lo,hi,x,d,g⟩:=h
  exact⟨lo,hi,x,d.grown f n,g.grown f n⟩
 |11,m,h=>
  obtain⟨lo,hi,d,g,r⟩:=h
  exact⟨lo,hi,⟨d.1,d.2.1,E d.2.2 f.size⟩,g.grown IsR.stb f fun b a=>absurd (q b a).1 (Ne.symm m),r⟩
 |12,_,h=>exact h
 |13,_,h=>exact h
 |_+14,_,_=>exact trivial
def yoc (base:Nat) (q:c) (a:List c) (i:Nat) (w:e):Prop:=i=7->OwnS 1 26 IsVal w base (fun _=>False) q a
def yod (base:Nat) (a:Nat->Prop) (j:c) (l:List Raw) (i:Nat) (w:e):Prop:=i=11->OwnS 3 30 IsR w base a j l
def JT (d:e) (G:Nat) (tc:List c) (a:Option Nat) (b w:e):Prop:=Row w G 96 tc/\Kept a none none b w/\Below d.heap.size d w
theorem JT.step {d:e} {G:Nat} {tc:List c} {f:Option Nat} {j w w':e} (h:JT d G tc f j w) (g:w.grownBy w' r) (hr:r=none\/r=f) (i:∀b,f=some b->G≠b/\d.heap.size<=b):JT d G tc f j w':=by (have key:∀b,r=some b->f=some b:=fun b a=>by rcases hr with h|h;rw[h] at a;cases a;rw[<-h];exact a);exact⟨h.1.grownN g fun b a=>(i b (key b a)).1,h.2.1.step g (by rcases hr with h|h;exact .inl h;exact .inr (.inl h)),h.2.2.grown g h.2.2.size fun b a=>(i b (key b a)).2⟩
theorem Kept.grown1 {w w':e} (h:Kept r none none w w'):w.grownBy w' r:=⟨h.os,h.tape,h.output,h.size,fun k a hr=>h.block k a hr (by simp) (by simp)⟩
theorem ymz:Tryz.prog.cellsOf 96=11:=by kernel_rfl
theorem ybm:Tryz.prog.cellsOf 32=8:=by kernel_rfl
section
variable {w z : e} {g : Nat} {t : aa} {p s A C J K L M ad ae X : c}
abbrev put11 (z:e) (g:Nat) (a b f h i j k l m n d:c):e:=((((((((((z.setCell ⟨g,0,none⟩ a).setCell ⟨g,1,none⟩ b).setCell ⟨g,2,none⟩ f).setCell ⟨g,3,none⟩ h).setCell ⟨g,4,none⟩ i).setCell ⟨g,5,none⟩ j).setCell ⟨g,6,none⟩ k).setCell ⟨g,7,none⟩ l).setCell ⟨g,8,none⟩ m).setCell ⟨g,9,none⟩ n).setCell ⟨g,10,none⟩ d
theorem Row.put11 (h:Row z g t [p,s,A,C,J,K,L,M,ad,ae,X]) (a b e f i j k l m n d:c):Row (Go.Proofs.YtlhhbccgfkhflaaGreatDoor.put11 z g a b e f i j k l m n d) g t [a,b,e,f,i,j,k,l,m,n,d]:=((((((((((h.set_ 0 a).set_ 1 b).set_ 2 e).set_ 3 f).set_ 4 i).set_ 5 j).set_ 6 k).set_ 7 l).set_ 8 m).set_ 9 n).set_ 10 d
theorem ybx (z:e) (g:Nat) (a b f h i j k l m n d:c):z.grownBy (put11 z g a b f h i j k l m n d) (some g):=L5 (L5 (L5 (L5 (L5 (L5 (L5 (L5 (L5 (L5 (K0 _ _ _ _) (K0 _ _ _ _)) (K0 _ _ _ _)) (K0 _ _ _ _)) (K0 _ _ _ _)) (K0 _ _ _ _)) (K0 _ _ _ _)) (K0 _ _ _ _)) (K0 _ _ _ _)) (K0 _ _ _ _)) (K0 _ _ _ _)
theorem znd (h:Row w g t [p,s,A,C,J,K,L,M,ad,ae,X]):w.cell? ⟨g,0,none⟩=some p/\w.cell? ⟨g,1,none⟩=some s/\w.cell? ⟨g,2,none⟩=some A/\w.cell? ⟨g,3,none⟩=some C/\w.cell? ⟨g,4,none⟩=some J/\w.cell? ⟨g,5,none⟩=some K/\w.cell? ⟨g,6,none⟩=some L/\w.cell? ⟨g,7,none⟩=some M/\w.cell? ⟨g,8,none⟩=some ad/\w.cell? ⟨g,9,none⟩=some ae/\w.cell? ⟨g,10,none⟩=some X:=⟨h.cell 0,h.cell 1,h.cell 2,h.cell 3,h.cell 4,h.cell 5,h.cell 6,h.cell 7,h.cell 8,h.cell 9,h.cell 10⟩
theorem zxz (h:Row w g t [p,s,A,C,J,K,L,M,ad,ae,X]):w.frozen? ⟨g,0,none⟩=false/\w.frozen? ⟨g,1,none⟩=false/\w.frozen? ⟨g,2,none⟩=false/\w.frozen? ⟨g,3,none⟩=false/\w.frozen? ⟨g,4,none⟩=false/\w.frozen? ⟨g,5,none⟩=false/\w.frozen? ⟨g,6,none⟩=false/\w.frozen? ⟨g,7,none⟩=false/\w.frozen? ⟨g,8,none⟩=false/\w.frozen? ⟨g,9,none⟩=false/\w.frozen? ⟨g,10,none⟩=false:=⟨h.frozen 0,h.frozen 1,h.frozen 2,h.frozen 3,h.frozen 4,h.frozen 5,h.frozen 6,h.frozen 7,h.frozen 8,h.frozen 9,h.frozen 10⟩
theorem zne (h:Row w g t [p,s,A,C,J,K,L,M]):w.cell? ⟨g,0,none⟩=some p/\w.cell? ⟨g,1,none⟩=some s/\w.cell? ⟨g,2,none⟩=some A/\w.cell? ⟨g,3,none⟩=some C/\w.cell? ⟨g,4,none⟩=some J/\w.cell? ⟨g,5,none⟩=some K/\w.cell? ⟨g,6,none⟩=some L/\w.cell? ⟨g,7,none⟩=some M:=⟨h.cell 0,h.cell 1,h.cell 2,h.cell 3,h.cell 4,h.cell 5,h.cell 6,h.cell 7⟩
end
theorem zz1381 {fn:Func} {slot:Tmp} {R:Ending->e->Prop} {a:Act} {w:e} {g:Nat} {p s A C J K L M ad ae X:c} (hr:fn.results= #[.cell slot 96]) (ha:a.tmps.getD slot H= .pointer (some ⟨g,0,none⟩)) (hd:a.defers=[])
 (h:Row w g 96 [p,s,A,C,J,K,L,M,ad,ae,X]) (r:R (.returned (.agg #[p,s,A,C,J,K,L,M,ad,ae,X])) w):bodyPost Tryz.prog fn R .ret a w:=by refine bodyPost_ret (v:= .agg #[p,s,A,C,J,K,L,M,ad,ae,X]) ?_ hd r;obtain⟨b,d,i,j,k,l,m,n,o,q,f⟩:=znd h;have t:a.tmps[slot]?.getD H= .pointer (some ⟨g,0,none⟩):=(by simpa using ha);simp[results,hr,t,asAddr,go_sem,b,d,i,j,k,l,m,n,o,q,f]
theorem TabO.nil {w:e} {S:Nat->Prop} {B:Nat->Option Nat} {n:Nat} {hd:Nat->c} {F:Nat->Nat->Int} {Q:Nat->Int} (h:Sep w base S B) (a:B 3=none) (d:B 4=none):TabO w base S B 0 0 n hd (.slice none 0 0) (.slice none 0 0) F Q:=
 ⟨fun i hi=>absurd hi og,⟨OwnS.nil h.q,d.symm⟩,⟨OwnS.nil fun b h=>h.elim,a.symm⟩,h⟩
def B0 (sb G:Nat):Nat->Option Nat:=fun a=>if a=2 then some sb else if a=6 then some G else none
theorem zz1397 {w:e} {d sb G:Nat} (j:base<=d/\d<w.heap.size) (f:base<=sb/\sb<w.heap.size) (g:base<=G/\G<w.heap.size) (l:d≠sb) (m:d≠G) (h:sb≠G):Sep w base (fun b=>b=d) (B0 sb G):=by
 refine⟨fun i b a=> ?_,fun i o b n a c=> ?_,fun b k=>by rw[k];exact j.2⟩
 ·unfold B0 at a;split at a
  ·cases a;exact⟨f.1,f.2,fun a=>l a.symm⟩
  ·split at a
   ·cases a;exact⟨g.1,g.2,fun a=>m a.symm⟩
   ·cases a
 ·unfold B0 at a c;split at a
  ·cases a;rw[if_neg og] at c;split at c
   ·cases c;exact h rfl
   ·cases c
  ·split at a
   ·cases a;split at c
    ·cases c;exact h rfl
    ·rw[if_neg og] at c;cases c
   ·cases a
section
variable {d w w' : e} {G sb : Nat} {S : Nat → Prop} {B : Nat → Option Nat} {k l n len : Nat} {hd : Nat → c} {q j y D one : c} {F : Nat → Nat → Int} {Q : Nat → Int} {f : Nat → Nat} {bas oth : List Nat} {tc : List c}
theorem TblW.copied (h:TblW d w G sb S B 0 0 n len hd (.slice none 0 0) (.slice none 0 0) (.slice none 0 0) (.slice none 0 0) one F Q f [] [] tc) (a:Below w.heap.size w w') {mid:Nat} (k:w.heap.size<=mid) (p:mid<=w'.heap.size)
 (e:OwnS 1 3 IsIV w' w.heap.size (fun _=>False) y (bas.map fun(x:Nat)=>(x:Int))) (m:∀b,y.ownBlock=some b->b<mid) (g:OwnS 1 3 IsIV w' mid (fun _=>False) D (oth.map fun(x:Nat)=>(x:Int))):
 TblW d w' G sb S (zlm (zlm B 0 y.ownBlock) 1 D.ownBlock) 0 0 n len hd (.slice none 0 0) (.slice none 0 0) y D one F Q f bas oth tc:=by
 have j:=h.next a
 have q:Sep w' d.heap.size S (zlm (zlm B 0 y.ownBlock) 1 D.ownBlock):=h.tab.sep.two (hi:=mid) og a.size h.below.size p k (fun b a=> .inl a) (fun b c=>⟨(e.own_lt b c).1,m b c,fun o=>by have:=h.tab.sep.q b o;have:=(e.own_lt b c).1;omega⟩) (by
  rcases l:D.ownBlock with _|b
  ·exact .inl (h.othO.2.symm▸rfl)
  ·exact .inr ⟨b,rfl,(g.own_lt b l).1,(g.own_lt b l).2⟩)
 exact {j with
  tab:=j.tab.place q (by rw[M0 og,M0 og]) (by rw[M0 og,M0 og]) (fun i=>by rw[M0 og,M0 og])
  basO:=⟨e.higher IsIV.stb h.below.size (fun b h=>h) fun b h=>h.elim,by rw[M0 og,zou]⟩
  othO:=⟨g.higher IsIV.stb (E h.below.size k) (fun b h=>h) fun b h=>h.elim,by rw[zou]⟩
  b2:=by rw[M0 og,M0 og];exact h.b2
  b6:=by rw[M0 og,M0 og];exact h.b6}
theorem TblW.rowT (h:TblW d w G sb S B k l n len hd q j y D one F Q f bas oth tc) (i:w.grownBy w' q.ownBlock) (m:Row w' G 96 tc) (c:LinP w' w.heap.size n (F k) hi u) (hv:OwnS 1 26 IsVal w' d.heap.size (fun _=>False) ag ((List.range k).map hd++[u])) (o:ag.ownBlock=q.ownBlock\/∃b,ag.ownBlock=some b/\hi<=b):
 ∃e W,(∀b,S b->e b)/\TblW d w' G sb e W (k+1) l n len (zru hd k u) ag j y D one F Q f bas oth tc:=by
 have g:w.grownBy w' (B 3):=by rw[<-h.tab.heads.2];exact i
 exact⟨_,_,fun b a=> .inl a,h.swap (.inl rfl) g (h.tab.row h.below.size g c.1.1 c.1.2 c.2.1 c.2.2 hv o) (by rw[M0 og,M0 og]) (by rw[M0 og,M0 og]) (by rw[M0 og,M0 og]) (by rw[M0 og,M0 og]) m (fun b a=> .inl a) fun b a=>by
  rcases a with a|a
  ·exact h.quiet b a
  ·exact E h.below.size a.1⟩
theorem TblW.restT (h:TblW d w G sb S B k l n len hd q j y D one F Q f bas oth tc) (p:w.grownBy w' j.ownBlock) (r:Row w' G 96 tc) (g:w.heap.size<=lo/\lo<=hi/\hi<=w'.heap.size) (hv:OwnS 3 30 IsR w' d.heap.size (fun b=>S b\/G6 lo hi b) af (C4 (ints l Q)++[E0 ((Q l:Int):Rat)])) (s:af.ownBlock=j.ownBlock\/∃b,af.ownBlock=some b/\hi<=b):
 ∃i W,(∀b,S b->i b)/\TblW d w' G sb i W k (l+1) n len hd q af y D one F Q f bas oth tc:=by
 have m:w.grownBy w' (B 4):=(by rw[<-h.tab.rests.2];exact p);have c:C4 (ints (l+1) Q)=C4 (ints l Q)++[E0 ((Q l:Int):Rat)]:=(by rw[yig];simp[C4]);have o:∀b,(S b\/G6 lo hi b)->S b\/(w.heap.size<=b/\b<w'.heap.size):=fun b a=>a.imp id fun a=>⟨E g.1 a.1,aj a.2 g.2.2⟩
 exact⟨_,_,fun b a=> .inl a,h.swap (.inr rfl) m (h.tab.rest (T:=fun b=>S b\/G6 lo hi b) h.below.size m (fun b a=> .inl a) o (by rw[c];exact hv) fun b c=>by
  rcases s with e|⟨t,e,u⟩
  ·exact .inl (by rw[<-h.tab.rests.2,<-e];exact c)
  ·rw[e] at c;cases c;exact .inr og) (M0 og) (M0 og) (M0 og) (M0 og) r (fun b a=> .inl a) fun b a=>by
  rcases a with a|a
  ·exact h.quiet b a
  ·exact E h.below.size (E g.1 a.1)⟩
theorem TblW.fin (h:TblW d w G sb S B m m n len hd q j y D one F Q f bas oth tc) (hf:∀v,v∈bas++oth->v<len/\f v=sc v) {M top:c} {C:Nat->Int} {z:Int} {t I:Nat} (s:Below w.heap.size w w') (p:LinP w' w.heap.size n C hi u) (L:QinP w' w.heap.size lo I ((z:Int):Rat) M) (R:hi<=lo) (O:NumS w S top t):
 ∃k W,TabE w' d.heap.size k W m n hd q j u y D sb F Q C sc bas oth/\NumS w' k one 1/\NumS w' k top t/\IsQ w' k M ((z:Int):Rat)/\(∀b,k b->d.heap.size<=b)/\W 6=some G:=by
 obtain⟨T,l⟩:∃T:Nat->Prop,T=fun b=>S b\/(w.heap.size<=b/\b<I/\u.ownBlock≠some b):=⟨_,rfl⟩;have E:∀b,S b->T b:=fun b a=>(by rw[l];exact .inl a);have U:=L.1;have H:∀b,T b->S b\/(w.heap.size<=b/\b<w'.heap.size):=fun b a=>(by rw[l] at a;exact a.imp id fun h=>⟨h.1,by omega⟩);have r:=p.2.1.own_lt;have g:=h.more s E H
 have J:∀b,u.ownBlock=some b->¬T b:=fun b e a=>by
  rw[l] at a;rcases a with a|a
  ·have:=h.tab.sep.q b a;have:=(r b e).1;omega
  ·exact a.2.2 e
 have K:Sep w' d.heap.size T (zlm B 5 u.ownBlock):=h.tab.sep.upd s.size h.below.size H fun b e=> .inr ⟨(r b e).1,(r b e).2,J b e⟩;refine⟨T,zlm B 5 u.ownBlock,⟨g.tab.place K (M0 og) (M0 og) (fun i=>M0 og),⟨p.2.1.higher IsR.stb h.below.size (fun b a=> ?_) fun b a=>⟨K.q b a,fun e=>J b e.symm a⟩,(zou _ _ _).symm⟩,⟨g.basO.1,by rw[M0 og];exact g.basO.2⟩,⟨g.othO.1,by rw[M0 og];exact g.othO.2⟩,⟨by rw[M0 og];exact g.b2,fun v hv=> ?_⟩⟩,g.den,IsK.stb.to O fun b a=>⟨E b a,fun o=>s.cell (p:=⟨b,o,none⟩) (h.tab.sep.q b a)⟩,IsQ.stb.to L.2 (G4 fun b a=> ?_),g.quiet,(M0 og).trans h.b6⟩
 ·rw[l];exact .inr ⟨a.1,by have:=a.2.1;omega,a.2.2⟩
 ·obtain⟨P,N,x,A⟩:=g.scl.el v (hf v hv).1;rw[(hf v hv).2] at x A;exact⟨P,N,x,A⟩
 ·rw[l];exact .inr ⟨by have:=a.1;omega,a.2,fun e=>by have:=p.2.2 b e;have:=a.1;omega⟩
end
theorem TabE.far {w w':e} {n sb z:Nat} {S:Nat->Prop} {B:Nat->Option Nat} {hd:Nat->c} {q j u y D:c} {F:Nat->Nat->Int} {Q C:Nat->Int} {bas oth:List Nat} (h:TabE w base S B m n hd q j u y D sb F Q C sc bas oth) (L:∀b,S b->base<=b) (o:w.grownBy w' (some z)) (d:z<base\/B 6=some z):
 TabE w' base S B m n hd q j u y D sb F Q C sc bas oth:=by
 have x:∀b,some z=some b->¬S b:=fun b a f=>by
  cases a;rcases d with d|d
  ·have:=L z f;omega
  ·exact(h.tab.sep.lt _ _ d).2.2 f
 have H:∀(v:c) (p:Nat),v.ownBlock=B p->p≠6->v.ownBlock≠some z:=fun v p a r g=>by
  rcases d with d|d
  ·have:=(h.tab.sep.lt p z (a▸g)).1;omega
  ·exact h.tab.sep.ne 6 p z (Ne.symm r) d (a▸g)
 have key:∀{A:Type} {s:Nat} {t:aa} {R:e->(Nat->Prop)->c->A->Prop} {T:Nat->Prop} {v:c} {l:List A} (p:Nat),Stb R->(∀b,T b->S b\/False)->v.ownBlock=B p->p≠6->OwnS s t R w base T v l->OwnS s t R w' base T v l:=fun p I J a r K=>K.grown I o fun b g=>⟨by cases g;exact H _ p a r,fun f=>(J b f).elim (x b g) id⟩
 refine⟨⟨fun i hi=>⟨key (7+i) IsR.stb (fun b h=> .inl h) (h.tab.rows i hi).2 og (h.tab.rows i hi).1,(h.tab.rows i hi).2⟩,⟨key 4 IsR.stb (fun b h=> .inl h) h.tab.rests.2 og h.tab.rests.1,h.tab.rests.2⟩,⟨key 3 IsVal.stb (fun b h=> .inr h) h.tab.heads.2 og h.tab.heads.1,h.tab.heads.2⟩,h.tab.sep.size o.size⟩,
  ⟨key 5 IsR.stb (fun b h=> .inl h) h.cost.2 og h.cost.1,h.cost.2⟩,⟨key 0 IsIV.stb (fun b h=> .inr h) h.basO.2 og h.basO.1,h.basO.2⟩,⟨key 1 IsIV.stb (fun b h=> .inr h) h.othO.2 og h.othO.1,h.othO.2⟩,⟨h.scl.1,fun v hv=> ?_⟩⟩
 obtain⟨P,k,E,G⟩:=h.scl.2 v hv;have M:=h.tab.sep.lt _ _ h.scl.1
 exact⟨P,k,(ah (o.block sb M.2.1 fun a=>by
  injection a with a;rcases d with d|d
  ·omega
  ·exact h.tab.sep.ne 6 2 z og d (by rw[h.scl.1,a]))).trans E,IsK.stb.to G (zml o fun b f=>⟨h.tab.sep.q b f,fun a=>x b a.symm f⟩)⟩
theorem ypp {q:c} {k:Nat} (h:ztb q k=some b):k=7:=by
 unfold ztb at h;split at h
 ·rfl
 ·cases h
theorem ypq {j:c} {k:Nat} (h:ztc j k=some b):k=11:=by
 unfold ztc at h;split at h
 ·rfl
 ·cases h
abbrev put8 (z:e) (g:Nat) (a b d f h i j k:c):e:=(((((((z.setCell ⟨g,0,none⟩ a).setCell ⟨g,1,none⟩ b).setCell ⟨g,2,none⟩ d).setCell ⟨g,3,none⟩ f).setCell ⟨g,4,none⟩ h).setCell ⟨g,5,none⟩ i).setCell ⟨g,6,none⟩ j).setCell ⟨g,7,none⟩ k
theorem Row.put8 {z:e} {g:Nat} {t:aa} {p s A C J K L M:c} (h:Row z g t [p,s,A,C,J,K,L,M]) (a b d f i j k l:c):Row (Go.Proofs.YtlhhbccgfkhflaaGreatDoor.put8 z g a b d f i j k l) g t [a,b,d,f,i,j,k,l]:=(((((((h.set_ 0 a).set_ 1 b).set_ 2 d).set_ 3 f).set_ 4 i).set_ 5 j).set_ 6 k).set_ 7 l
theorem yby (z:e) (g:Nat) (a b d f h i j k:c):z.grownBy (put8 z g a b d f h i j k) (some g):=L5 (L5 (L5 (L5 (L5 (L5 (L5 (K0 _ _ _ _) (K0 _ _ _ _)) (K0 _ _ _ _)) (K0 _ _ _ _)) (K0 _ _ _ _)) (K0 _ _ _ _)) (K0 _ _ _ _)) (K0 _ _ _ _)
theorem ymh (z:e) (g:Nat) (a b d f h i j k:c):(put8 z g a b d f h i j k).heap.size=z.heap.size:=by simp[put8,World.setCell]
theorem zz1384 {z:e} {g:Nat} {a b d f i j k l:c} {t:aa} (h:Row z g t xs):∃m,Row (put8 z g a b d f i j k l) g t m/\m.length=xs.length:=⟨_,(((((((h.set_ 0 a).set_ 1 b).set_ 2 d).set_ 3 f).set_ 4 i).set_ 5 j).set_ 6 k).set_ 7 l,by simp⟩
theorem yhh {w:e} {g:Nat} {t:aa} (h:Row w g t xs):w.frozen? ⟨g,0,none⟩=false/\w.frozen? ⟨g,1,none⟩=false/\w.frozen? ⟨g,2,none⟩=false/\w.frozen? ⟨g,3,none⟩=false/\w.frozen? ⟨g,4,none⟩=false/\w.frozen? ⟨g,5,none⟩=false/\w.frozen? ⟨g,6,none⟩=false/\w.frozen? ⟨g,7,none⟩=false:=⟨h.frozen 0,h.frozen 1,h.frozen 2,h.frozen 3,h.frozen 4,h.frozen 5,h.frozen 6,h.frozen 7⟩
theorem ywh (h:xs.length=8):∃p s A C J K L M,xs=[p,s,A,C,J,K,L,M]:=by
 match xs,h with
 |[p,s,A,C,J,K,L,M],_=>exact⟨_,_,_,_,_,_,_,_,rfl⟩
def vE (n m:Nat) (w w':e) (x:Option c):Prop:=if m=n then∃g,x=some (W8 g)/\w.grownBy w' (some g)/\w'.heap.size=w.heap.size/\∀t xs,Row w g t xs->∃a,Row w' g t a/\a.length=xs.length else Below w.heap.size w w'
def vR (t:aa) (k:Nat) (v:c) (w:e) (x:Option c):Prop:=∃g xs,v=W8 g/\x=some v/\Row w g t xs/\xs.length=k
theorem zqv {f:Type} {R:e->(Nat->Prop)->c->f->Prop} (i:Stb R) {n0 g:Nat} {w w':e} {y:f} (h:R w (NX n0 w (some (W8 g))) v y) (j:w.grownBy w' (some g)) (k:w'.heap.size=w.heap.size):R w' (NX n0 w' (some (W8 g))) v y:=
 i.to h fun b a=>⟨⟨a.1,by rw[k];exact a.2.1,a.2.2⟩,fun o=>ah (j.block b a.2.1 fun d=>a.2.2 g rfl (by injection d with d))⟩
theorem ynj {t:aa} {k:Nat} {w w':e} {x:Option c} (h:vR t k v w x) (d:Below w.heap.size w w'):vR t k v w' x:=by obtain⟨g,xs,a,b,r,l⟩:=h;exact⟨g,xs,a,b,r.next d,l⟩
theorem ynk {t:aa} {k g:Nat} {w w':e} (h:vR t k v w (some (W8 g))) (hr:∀t xs,Row w g t xs->∃a,Row w' g t a/\a.length=xs.length):vR t k v w' (some (W8 g)):=by obtain⟨f,xs,rfl,b,r,l⟩:=h;cases b;obtain⟨a,c,d⟩:=hr _ _ r;exact⟨g,a,rfl,rfl,c,d.trans l⟩
section
variable {P : Program} {o : Oper} {a : Act} {w d : e} {Φ : Nat → c → e → Option c → Prop} {Q : Exit → Act → e → Prop} {n0 i k n : Nat} {x : Option c}
theorem Z5 (j:i≠k) (p:i≠n) (hd:o.dst.isSome=true) (b:zoz n0 d w x) (h:∀l:Act->e->Prop,(∀v w',Below w.heap.size w w'->Φ i v w' x->l (a.put o.dst v) w')->o.wp P a w l Q):
 o.wp P a w (fun m w'=>∃v,m=a.put o.dst v/\vE n i w w' x/\zoz n0 d w' (if i=k then some (if o.dst.isSome then v else H) else x)/\Φ i (if o.dst.isSome then v else H) w' (if i=k then some (if o.dst.isSome then v else H) else x)/\(i=k->zsf w (if o.dst.isSome then v else H) w')) Q:=by
 refine h _ fun v w' f hv=>⟨v,rfl,?_,?_,?_,fun c=>absurd c j⟩
 ·unfold vE;rw[if_neg p];exact f
 ·rw[if_neg j];exact⟨b.1.trans (f.mono b.2.1),E b.2.1 f.size,fun g c=>⟨(b.2.2 g c).1,aj (b.2.2 g c).2 f.size⟩⟩
 ·rw[if_neg j,if_pos hd];exact hv
theorem ydz {ob:Obj} (l:k≠n) (hd:o.dst.isSome=true) (b:zoz n0 d w x) (p:x=none) (m:Φ k (W8 w.heap.size) (w.alloc ob) (some (W8 w.heap.size)))
 (h:∀f:Act->e->Prop,f (a.put o.dst (W8 w.heap.size)) (w.alloc ob)->o.wp P a w f Q):
 o.wp P a w (fun j w'=>∃v,j=a.put o.dst v/\vE n k w w' x/\zoz n0 d w' (if k=k then some (if o.dst.isSome then v else H) else x)/\Φ k (if o.dst.isSome then v else H) w' (if k=k then some (if o.dst.isSome then v else H) else x)/\(k=k->zsf w (if o.dst.isSome then v else H) w')) Q:=by
 have c:=L7 w ob;refine h _ ⟨W8 w.heap.size,rfl,?_,?_,?_,fun i=> ?_⟩
 ·unfold vE;rw[if_neg l];exact c
 ·rw[if_pos rfl,if_pos hd];exact⟨b.1.trans (c.mono b.2.1),E b.2.1 c.size,fun g i=>by cases i;exact⟨b.2.1,by rw[World.size_alloc];omega⟩⟩
 ·rw[if_pos rfl,if_pos hd];exact m
 ·rw[if_pos hd];rfl
theorem yea (i:n≠k) (hd:o.dst.isSome=false) (f:zoz n0 d w x) {g:Nat} {w':e} (p:x=some (W8 g)) (m:w.grownBy w' (some g)) (j:w'.heap.size=w.heap.size) (hr:∀t xs,Row w g t xs->∃q,Row w' g t q/\q.length=xs.length) (u:Φ n H w' x)
 (h:∀l:Act->e->Prop,l (a.put o.dst H) w'->o.wp P a w l Q):
 o.wp P a w (fun r w'=>∃v,r=a.put o.dst v/\vE n n w w' x/\zoz n0 d w' (if n=k then some (if o.dst.isSome then v else H) else x)/\Φ n (if o.dst.isSome then v else H) w' (if n=k then some (if o.dst.isSome then v else H) else x)/\(n=k->zsf w (if o.dst.isSome then v else H) w')) Q:=by
 refine h _ ⟨H,rfl,?_,?_,?_,fun c=>absurd c i⟩
 ·unfold vE;rw[if_pos rfl];exact⟨g,p,m,j,hr⟩
 ·rw[if_neg i];exact⟨f.1.grown m f.2.1 fun b c=>by cases c;exact(f.2.2 g p).1,by rw[j];exact f.2.1,fun s c=>by rw[j];exact f.2.2 s c⟩
 ·rw[if_neg i,if_neg (by rw[hd];simp)];exact u
end
def IsD8 (w:e) (S:Nat->Prop) (v:c) (a:ProgQ):Prop:=∃b i d j f k p g n l h o m,v= .agg #[.slice none 0 0,.slice none 0 0,.slice b (I0 a.A).length i,.slice d (C4 a.B).length j,.slice f (C4 a.C).length k,.bool p,.slice g n l,.slice h o m]/\
 IsM w S (.slice b (I0 a.A).length i) (I0 a.A)/\IsV w S (.slice d (C4 a.B).length j) (C4 a.B)/\IsV w S (.slice f (C4 a.C).length k) (C4 a.C)/\IsQ w S (.agg #[.bool p,.slice g n l,.slice h o m]) 0
theorem IsD8.stb:Stb IsD8:=by rintro w w' S T v s ⟨b,k,c,l,d,m,r,e,p,n,f,q,o,rfl,g,h,i,j⟩ a;exact⟨b,k,c,l,d,m,r,e,p,n,f,q,o,rfl,IsM.stb.to g a,IsV.stb.to h a,IsV.stb.to i a,IsQ.stb.to j a⟩
def zlu (P:Nat) (A B C:Option I) (m n p q r:Nat) (a:ProgQ) (n0:Nat) (i:Nat) (v:c) (w:e) (x:Option c):Prop:=
 match i with
 |0=>v= .pointer (some ⟨P,0,none⟩)
 |1=>v= .slice A m p
 |2=>IsM w (NX n0 w x) v (I0 a.A)
 |3=>v= .pointer (some ⟨P,1,none⟩)
 |4=>v= .slice B m q
 |5=>IsV w (NX n0 w x) v (C4 a.B)
 |6=>v= .pointer (some ⟨P,2,none⟩)
 |7=>v= .slice C n r
 |8=>IsV w (NX n0 w x) v (C4 a.C)
 |9=>IsQ w (NX n0 w x) v 0
 |10=>IsD8 w (NX n0 w x) v a
 |11=>vR 32 8 v w x
 |12=>∃g b d f h j k l o,x=some (W8 g)/\Row w g 32 [b,d,f,h,j,k,l,o]/\IsD8 w (NX n0 w (x)) (.agg #[b,d,f,h,j,k,l,o]) a
 |_=>True
theorem yys (P:Nat) (A B C:Option I) (m n k l o:Nat) (p:ProgQ) (n0:Nat):∀(i j:Nat) (v:c) (w w':e) (x:Option c),i≠j->zlu P A B C m n k l o p n0 i v w x->vE 12 j w w' x->zlu P A B C m n k l o p n0 i v w' x:=by
 intro i j v w w' x f h a;unfold vE at a;split at a
 ·rename_i K;subst K;obtain⟨g,rfl,b,d,hr⟩:=a;match i,f,h with
  |0,_,h=>exact h
  |1,_,h=>exact h
  |2,_,h=>exact zqv IsM.stb h b d
  |3,_,h=>exact h
  |4,_,h=>exact h
  |5,_,h=>exact zqv IsV.stb h b d
  |6,_,h=>exact h
  |7,_,h=>exact h
  |8,_,h=>exact zqv IsV.stb h b d
  |9,_,h=>exact zqv IsQ.stb h b d
  |10,_,h=>exact zqv IsD8.stb h b d
  |11,_,h=>exact ynk h hr
  |12,f,_=>exact absurd rfl f
  |_+13,_,_=>trivial
 ·match i,h with
  |0,h=>exact h
  |1,h=>exact h
  |2,h=>exact zrr IsM.stb h a
  |3,h=>exact h
  |4,h=>exact h
  |5,h=>exact zrr IsV.stb h a
  |6,h=>exact h
  |7,h=>exact h
  |8,h=>exact zrr IsV.stb h a
  |9,h=>exact zrr IsQ.stb h a
  |10,h=>exact zrr IsD8.stb h a
  |11,h=>exact ynj h a
  |12,h=>obtain⟨g,s,t,u,y,z,D,F,G,J,r,q⟩:=h;exact⟨g,s,t,u,y,z,D,F,G,J,r.next a,zrr IsD8.stb q a⟩
  |_+13,_=>trivial
theorem yyr (P:Nat) (A B C:Option I) (m n d f j:Nat) (k:ProgQ) (n0:Nat):∀(i:Nat) (v:c) (w w':e) (u:c),i≠11->zlu P A B C m n d f j k n0 i v w none->vE 12 11 w w' none->zsf w u w'->zlu P A B C m n d f j k n0 i v w' (some u):=by
 intro i v w w' u b h a o;unfold vE at a;rw[if_neg og] at a;obtain rfl:u=W8 w.heap.size:=o;match i,b,h with
 |0,_,h=>exact h
 |1,_,h=>exact h
 |2,_,h=>exact ztw IsM.stb h a
 |3,_,h=>exact h
 |4,_,h=>exact h
 |5,_,h=>exact ztw IsV.stb h a
 |6,_,h=>exact h
 |7,_,h=>exact h
 |8,_,h=>exact ztw IsV.stb h a
 |9,_,h=>exact ztw IsQ.stb h a
 |10,_,h=>exact ztw IsD8.stb h a
 |11,b,_=>exact absurd rfl b
 |12,_,h=>obtain⟨g,p,q,r,s,t,x,y,z,l,_⟩:=h;cases l
 |_+13,_,_=>trivial
end Go.Proofs.YtlhhbccgfkhflaaGreatDoor
