/-
 A table while package simplex's newTable builds it.
-/
import Derived.Test.YtpbilanpeioonaaGreatDoorProofDualProves17
namespace Go.Proofs.YtpbilanpeioonaaGreatDoor
open Go.RowKit
set_option linter.unusedVariables false
set_option maxRecDepth 100000
set_option maxHeartbeats 8000000
open _root_.Nat renaming le_trans → C, lt_of_lt_of_le → aj
open _root_.Go.World renaming cell?_of_block → ah
open _root_.Go renaming World → d, Value → c, TypeId → X, undef → E, Addr → H
variable {N R V app b b3 base hi lo m aa Z : Nat} {O U : Option H} {Y : Nat → Int} {af rest ag u v ab : c} {r : Option Nat} {sc : Nat → Nat} {ai xs : List c}
theorem yug:ElT Tryz.prog 95 35 (.slice none 0 0) 24:=
 ⟨Tryz.underlying95,by obtain⟨i,a,b,c,d⟩:=info_parts (show(Tryz.prog.info? 35).map (fun i=>(i.zero,i.size,i.bytes))=some (some (.slice none 0 0),1,24) by kernel_rfl);exact⟨i,a,b,c,d⟩,rfl⟩
structure ScW (w:d) (S:Nat->Prop) (sb len:Nat) (f:Nat->Nat):Prop where
 blk:∃cur,w.heap[sb]? =some (.cells cur 35 (0,0))
 el:∀v,v<len->∃P k,w.cell? ⟨sb,v,none⟩=some (.slice P (A9 (f v)).length k)/\NumS w S (.slice P (A9 (f v)).length k) (f v)
section
variable {w w' : d} {S T : Nat → Prop} {sb len : Nat} {f : Nat → Nat}
theorem ScW.zero (h:Row w sb 35 (List.replicate len (.slice none 0 0))):ScW w S sb len (fun _=>0) where
 blk:=⟨_,h⟩
 el v hv:=by
  refine⟨none,0,?_,?_⟩
  ·rw[h.cell v,List.getElem?_replicate,if_pos hv,O7];rfl
  ·rw[O7];exact yeh
theorem ScW.lt (h:ScW w S sb len f):sb<w.heap.size:=by obtain⟨b,a⟩:=h.blk;exact(Array.getElem?_eq_some_iff.1 a).1
theorem ScW.free (h:ScW w S sb len f) (o:Nat):w.frozen? ⟨sb,o,none⟩=false:=by obtain⟨b,a⟩:=h.blk;simp[World.frozen?,a]
theorem ScW.keep (h:ScW w S sb len f) (a:w'.heap[sb]? =w.heap[sb]?) (d:L8 S T w w'):ScW w' T sb len f where
 blk:=by rw[a];exact h.blk
 el v hv:=by obtain⟨P,k,b,c⟩:=h.el v hv;exact⟨P,k,(ah a).trans b,IsK.stb.to c d⟩
theorem ScW.put (h:ScW w S sb len f) (m:¬S sb) {v x k:Nat} (hv:v<len) {P:Option H} (n:NumS w S (.slice P (A9 x).length k) x):ScW (w.setCell ⟨sb,v,none⟩ (.slice P (A9 x).length k)) S sb len (U1 f v x) where
 blk:=by obtain⟨p,c⟩:=h.blk;exact zxy c
 el u hu:=by
  have j:L8 S S w (w.setCell ⟨sb,v,none⟩ (.slice P (A9 x).length k)):=fun b i=>⟨i,fun o=>World.cell?_setCell_other _ _ _ _ (fun e=>by injection e with a d;exact m (a▸i))⟩;by_cases c:u=v
  ·subst c;rw[zoy];obtain⟨g,l,a,d⟩:=h.el u hu;exact⟨P,k,World.cell?_setCell_same _ _ _ a,IsK.stb.to n j⟩
  ·rw[zoz _ _ c];obtain⟨g,l,a,d⟩:=h.el u hu;exact⟨g,l,(World.cell?_setCell_other _ _ _ _ (fun e=>by injection e with a d;exact c d.symm)).trans a,IsK.stb.to d j⟩
end
structure TblW (e w:d) (G sb:Nat) (S:Nat->Prop) (B:Nat->Option Nat) (k l n len:Nat) (hd:Nat->c) (q j y D one:c) (F:Nat->Nat->Int) (Q:Nat->Int) (f:Nat->Nat) (bas oth:List Nat) (tc:List c):Prop where
 below:Below e.heap.size e w
 row:Row w G 97 tc
 tab:TabO w e.heap.size S B k l n hd q j F Q
 basO:OwnS 1 3 IsIV w e.heap.size (fun _=>False) y (bas.map fun(x:Nat)=>(x:Int))/\y.ownBlock=B 0
 othO:OwnS 1 3 IsIV w e.heap.size (fun _=>False) D (oth.map fun(x:Nat)=>(x:Int))/\D.ownBlock=B 1
 scl:ScW w S sb len f
 den:NumS w S one 1
 b2:B 2=some sb
 b6:B 6=some G
 quiet:∀b,S b->e.heap.size<=b
section
variable {e w w' : d} {G sb : Nat} {S T : Nat → Prop} {B W : Nat → Option Nat} {k l n len : Nat} {hd : Nat → c} {q j y D one : c} {F : Nat → Nat → Int} {Q : Nat → Int} {f : Nat → Nat} {bas oth : List Nat} {tc : List c}
theorem TblW.gb (h:TblW e w G sb S B k l n len hd q j y D one F Q f bas oth tc):e.heap.size<=G/\G<w.heap.size/\¬S G/\e.heap.size<=sb/\sb<w.heap.size/\¬S sb/\G≠sb:=
 ⟨(h.tab.sep.lt _ _ h.b6).1,(h.tab.sep.lt _ _ h.b6).2.1,(h.tab.sep.lt _ _ h.b6).2.2,(h.tab.sep.lt _ _ h.b2).1,(h.tab.sep.lt _ _ h.b2).2.1,(h.tab.sep.lt _ _ h.b2).2.2,fun a=>h.tab.sep.ne 6 2 G og h.b6 (by rw[h.b2,a])⟩
theorem TblW.step (h:TblW e w G sb S B k l n len hd q j y D one F Q f bas oth tc) (g:w.grownBy w' r) (hr:∀b,r=some b->b=G\/b=sb) {p:Nat->Nat} (A:Row w' G 97 ai) (C:ScW w' S sb len p):
 TblW e w' G sb S B k l n len hd q j y D one F Q p bas oth ai:=by
 have s:=h.gb
 have i:∀b,r=some b->∃a,B a=some b/\a≠3/\a≠4/\a<7/\a≠0/\a≠1:=fun b c=>by
  rcases hr b c with rfl|rfl
  ·exact⟨6,h.b6,by omega,by omega,by omega,by omega,by omega⟩
  ·exact⟨2,h.b2,by omega,by omega,by omega,by omega,by omega⟩
 have nS:∀b,r=some b->¬S b:=fun b c=>by obtain⟨a,d,_⟩:=i b c;exact(h.tab.sep.lt a b d).2.2
 refine⟨h.below.grown g h.below.size fun b c=>by rcases hr b c with rfl|rfl;exact s.1;exact s.2.2.2.1,A,h.tab.grown g fun b c=>by obtain⟨a,d,u,v,z,_⟩:=i b c;exact .inr ⟨a,d,u,v,z⟩,
  ⟨h.basO.1.grown IsIV.stb g fun b c=>⟨fun m=>by obtain⟨a,d,_,_,_,o,_⟩:=i b c;exact h.tab.sep.ne a 0 b o d (h.basO.2▸m),fun x=>x⟩,h.basO.2⟩,
  ⟨h.othO.1.grown IsIV.stb g fun b c=>⟨fun m=>by obtain⟨a,d,_,_,_,_,o⟩:=i b c;exact h.tab.sep.ne a 1 b o d (h.othO.2▸m),fun x=>x⟩,h.othO.2⟩,
  C,IsK.stb.to h.den (zks g fun b t=>⟨h.tab.sep.q b t,fun c=>nS b c.symm t⟩),h.b2,h.b6,h.quiet⟩
theorem TblW.next (h:TblW e w G sb S B k l n len hd q j y D one F Q f bas oth tc) (a:Below w.heap.size w w'):TblW e w' G sb S B k l n len hd q j y D one F Q f bas oth tc:=
 h.step (r:=none) (K7 a) (fun b c=>by cases c) (h.row.next a) (h.scl.keep (a.block _ h.scl.lt) (zqs a fun b d=>h.tab.sep.q b d))
theorem TblW.setG (h:TblW e w G sb S B k l n len hd q j y D one F Q f bas oth tc) (c:w.grownBy w' (some G)) (g:Row w' G 97 ai):TblW e w' G sb S B k l n len hd q j y D one F Q f bas oth ai:=
 h.step c (fun b a=>by cases a;exact .inl rfl) g (h.scl.keep (c.block _ h.scl.lt fun a=>h.gb.2.2.2.2.2.2 (by injection a with a;exact a.symm)) (zks c fun b d=>⟨h.tab.sep.q b d,fun a=>by injection a with a;exact h.gb.2.2.1 (a▸d)⟩))
theorem TblW.setS (h:TblW e w G sb S B k l n len hd q j y D one F Q f bas oth tc) {v x c:Nat} (hv:v<len) {P:Option H} (d:NumS w S (.slice P (A9 x).length c) x):TblW e (w.setCell ⟨sb,v,none⟩ (.slice P (A9 x).length c)) G sb S B k l n len hd q j y D one F Q (U1 f v x) bas oth tc:=
 h.step (r:=some sb) (I0 _ _ _ _) (fun b a=>by cases a;exact .inr rfl) (h.row.far (p:=⟨sb,v,none⟩) (fun a=>h.gb.2.2.2.2.2.2 a) _) (h.scl.put h.gb.2.2.2.2.2.1 hv d)
theorem TblW.more (h:TblW e w G sb S B k l n len hd q j y D one F Q f bas oth tc) (i:Below w.heap.size w w') (d:∀b,S b->T b) (g:∀b,T b->S b\/(w.heap.size<=b/\b<w'.heap.size)):TblW e w' G sb T B k l n len hd q j y D one F Q f bas oth tc:=by
 have a:=h.next i
 exact {a with
  tab:=h.tab.more i d g
  scl:=a.scl.keep rfl (G6 d)
  den:=IsK.stb.to a.den (G6 d)
  quiet:=fun b m=>by
   rcases g b m with c|c
   ·exact h.quiet b c
   ·exact C h.below.size c.1}
theorem TblW.swap (h:TblW e w G sb S B k l n len hd q j y D one F Q f bas oth tc) {d:Nat} (J:d=3\/d=4) (g:w.grownBy w' (B d)) {s t:Nat} {p:Nat->c} (E:TabO w' e.heap.size T W s t n p ag af F Q) (u:W 0=B 0) (v:W 1=B 1) (z:W 2=B 2) (A:W 6=B 6)
 (I:Row w' G 97 tc) (C:∀b,S b->T b) (H:∀b,T b->e.heap.size<=b):TblW e w' G sb T W s t n len p ag af y D one F Q f bas oth tc:=by
 have nS:∀b,B d=some b->¬S b:=fun b a=>(h.tab.sep.lt d b a).2.2;have r:L8 S T w w':=fun b m=>⟨C b m,fun o=>ah (g.block b (h.tab.sep.q b m) fun a=>nS b a.symm m)⟩
 refine⟨h.below.grown g h.below.size fun b a=>(h.tab.sep.lt d b a).1,I,E,⟨h.basO.1.grown IsIV.stb g fun b a=>⟨fun i=>h.tab.sep.ne d 0 b og a (h.basO.2▸i),fun x=>x⟩,by rw[u];exact h.basO.2⟩,
  ⟨h.othO.1.grown IsIV.stb g fun b a=>⟨fun i=>h.tab.sep.ne d 1 b og a (h.othO.2▸i),fun x=>x⟩,by rw[v];exact h.othO.2⟩,
  h.scl.keep (g.block _ h.scl.lt fun a=>h.tab.sep.ne d 2 sb og a.symm h.b2) r,IsK.stb.to h.den r,by rw[z];exact h.b2,by rw[A];exact h.b6,H⟩
end
def LinP (w:d) (n0 n:Nat) (Y:Nat->Int) (hi:Nat) (u:c):Prop:=
 (n0<=hi/\hi<=w.heap.size)/\OwnS 3 37 IsR w n0 (fun b=>n0<=b/\b<hi/\u.ownBlock≠some b) u (C5 (ints n Y))/\∀b,u.ownBlock=some b->b<hi
theorem LinP.grown {w w':d} {n0 n:Nat} (h:LinP w n0 n Y hi u) (c:w.grownBy w' r) (hr:∀b,r=some b->b<n0):LinP w' n0 n Y hi u:=
 ⟨⟨h.1.1,C h.1.2 c.size⟩,h.2.1.grown IsR.stb c fun b a=>⟨fun e=>by have:=(h.2.1.own_lt b e).1;have:=hr b a;omega,fun f=>by have:=hr b a;have:=f.1;omega⟩,h.2.2⟩
theorem LinP.mk {w w':d} {n0 n:Nat} (h:zrp w w' u (ints n Y)) (f:n0<=w.heap.size) (a:w.heap.size<=w'.heap.size):LinP w' n0 n Y w'.heap.size u:=by obtain⟨S,e,i⟩:=h;have j:=e.own_lt;refine⟨⟨by omega,Nat.le_refl _⟩,e.higher IsR.stb f (fun b a=> ?_) fun b a=>⟨a.2.1,fun c=>a.2.2 c.symm⟩,fun b c=>(j b c).2⟩;obtain⟨_,_,_,_,g⟩:=e;have:=g b a;exact⟨C f (i b a),this.1,fun c=>this.2 c.symm⟩
def QinP (w:d) (n0 lo hi:Nat) (q:Rat) (v:c):Prop:=(n0<=lo/\lo<=hi/\hi<=w.heap.size)/\IsQ w (K4 lo hi) v q
theorem QinP.grown {w w':d} {n0:Nat} {q:Rat} (h:QinP w n0 lo hi q v) (a:w.grownBy w' r) (hr:∀b,r=some b->b<n0):QinP w' n0 lo hi q v:=
 ⟨⟨h.1.1,h.1.2.1,C h.1.2.2 a.size⟩,h.2.rngG a h.1.2.2 fun b c=>aj (hr b c) h.1.1⟩
def NinP (w:d) (n0 lo hi x:Nat) (v:c):Prop:=(n0<=lo/\lo<=hi/\hi<=w.heap.size)/\NumS w (K4 lo hi) v x
theorem NinP.grown {w w':d} {n0 x:Nat} (h:NinP w n0 lo hi x v) (c:w.grownBy w' r) (hr:∀b,r=some b->b<n0):NinP w' n0 lo hi x v:=
 ⟨⟨h.1.1,h.1.2.1,C h.1.2.2 c.size⟩,IsK.stb.to h.2 (zks c fun b a=>⟨aj a.2 h.1.2.2,fun e=>by have:=hr b e.symm;have:=a.1;have:=h.1.1;omega⟩)⟩
def yud (ops:Array Oper) (n:Nat) (a:List Nat):Bool:=(List.range n).all fun i=>(ops[i]?).all fun o=>match o.dst with|none=>true|some d=>a.contains d
theorem zuv {ops:Array Oper} {n:Nat} {e:List Nat} (h:yud ops n e=true):∀t,t∉e->zqw ops n t=false:=fun t j=>by
 rcases Bool.eq_false_or_eq_true (zqw ops n t) with a|a
 ·unfold zqw at a
  obtain⟨i,f,b⟩:=List.any_eq_true.1 a
  have c:=List.all_eq_true.1 h i f
  cases d:ops[i]? with
  |none=>rw[d] at b;cases b
  |some o=>
   rw[d] at b c
   have g:o.dst=some t:=by simpa using b
   simp only[Option.all_some,g] at c
   exact absurd (by simpa using c) j
 ·exact a
theorem zz1465 {P:Program} {w:d} {o:Oper} {a:Act} {f:Act->d->Prop} {Q:Exit->Act->d->Prop} {t b:X} {z:c} {bytes:Nat} (e:ElT P t b z bytes) (F:z.cells= #[z]) (l j:Operand) (E:o.op=Op.makeSlice t l j) {m k:IntKind} {g C:Int} (n:Nat)
 (B:a.eval l= .int m g) (hc:a.eval j= .int k C) (v:g=(n:Int)) (s:C=(n:Int)) (x:n*(bytes+1)<=140737488355328)
 (u:∀w',Row w' w.heap.size b (List.replicate n z)->Below w.heap.size w w'->f (a.put o.dst (.slice (some ⟨w.heap.size,0,none⟩) n n)) w'):o.wp P a w f Q:=by obtain⟨i,p,q,r,A⟩:=e.info;rw[Nat.mul_add,Nat.mul_one] at x;have b2:i.bytes*n<=281474976710656:=(by rw[A,Nat.mul_comm];omega);have y:(i.bytes:Int)*(n:Int)<=281474976710656:=(by have h:((i.bytes*n:Nat):Int)<=281474976710656:=og;rwa[Int.natCast_mul] at h);have hr:=run_make (P:=P) w t b i z e.und p q m k n n og (Int.le_refl _) y og;simp only[Int.toNat_natCast] at hr;subst v;subst s;unfold Oper.wp;simp[execOp,E,B,hc,hr,Result.andThen];refine u _ ?_ ((Below.refl _ _).alloc (Nat.le_refl _) _);unfold Row;(have D:(List.replicate n z).toArray=madeCells z.cells (n*i.size):=by apply Array.ext';rw[r,Nat.mul_one,F];show _=(madeCells #[z] n).toList;rw[toList_madeCells_one]);rw[D];exact heap_alloc_new w _
def zwh (app n0 k:Nat) (w w':d):Prop:=∃r,w.grownBy w' r/\(r=none\/(k=app/\∀b,r=some b->n0<=b))
theorem zna {n0 k:Nat} {w w':d} (h:w.grownBy w' none):zwh app n0 k w w':=⟨none,h,.inl rfl⟩
theorem yoj {n0 k:Nat} {e w w':d} (h:Below n0 e w) (g:n0<=w.heap.size) (c:zwh app n0 k w w'):Below n0 e w':=by
 obtain⟨r,f,hr⟩:=c;refine h.grown f g fun b a=> ?_;rcases hr with rfl|⟨_,h⟩
 ·cases a
 ·exact h b a
theorem yzp {w:d} {S:Nat->Prop} {x:Nat} (h:NumS w S v x) (e:1<=(A9 x).length):∃b o a,v= .slice (some ⟨b,o,none⟩) (A9 x).length a/\S b/\NumS w (fun y=>y=b) v x:=by obtain⟨A,a,hv,g,i,j⟩:=h;obtain⟨b,off,c,k,hc⟩:=j (fun f=>by have:(E7 .u32 (A9 x)).length=0:=(by rw[f];rfl);simp[E7] at this;rw[this] at e;simp at e);exact⟨b,off,a,by rw[hv,c],k,A,a,hv,g,i,fun _=>⟨b,off,c,rfl,hc⟩⟩
theorem ylu {w:d} {g x:Nat} {t:X} (h:NumS w (fun y=>y=b) v x) (l:1<=(A9 x).length) (hr:Row w g t xs) (o:∀u∈xs,∀i:Int,u≠.int .u32 i):b≠g:=fun a=>by
 obtain⟨A,p,hv,q,r,n⟩:=h
 have j:E7 .u32 (A9 x)≠[]:=fun a=>by
  have:(E7 .u32 (A9 x)).length=0:=by rw[a];rfl
  simp[E7] at this
  rw[this] at l
  simp at l
 obtain⟨m,off,s,c,hc⟩:=n j
 obtain⟨u,z,k⟩:=List.exists_cons_of_ne_nil j
 have e:=hc 0 u (by rw[k];rfl)
 have c:m=g:=c.trans a
 rw[c,Nat.add_zero,hr.cell] at e
 have f:u∈E7 .u32 (A9 x):=by rw[k];simp
 unfold E7 at f
 obtain⟨y,_,rfl⟩:=List.mem_map.1 f
 exact o _ (List.mem_of_getElem? e) _ rfl
def ybu (D:Nat) (a:Option H) (m e:Nat) (g:Option H) (n h n0:Nat) (i:Nat) (v:c) (w:d) (X:Nat->Option c):Prop:=
 match i with
 |0=>(∃b o f,v= .slice (some ⟨b,o,none⟩) (A9 1).length f/\n0<=b/\NumS w (fun x=>x=b) v 1)
 |1=>v= .pointer (some ⟨D,0,none⟩)
 |2=>v= .slice a m e
 |3=>v= .int .i64 (m:Int)
 |4=>v= .pointer (some ⟨D,1,none⟩)
 |5=>v= .slice g n h
 |6=>v= .int .i64 (n:Int)
 |7=>v= .int .i64 (((m+n:Nat)):Int)
 |8=>(∃sb,v= .slice (some ⟨sb,0,none⟩) (m+n) (m+n)/\n0<=sb/\Row w sb 35 (List.replicate (m+n) (.slice none 0 0)))
 |9=>(∃u s,X 0=some u/\X 8=some s/\v= .agg #[.slice none 0 0,.slice none 0 0,.slice none 0 0,.slice none 0 0,.slice none 0 0,.bool false,.slice none 0 0,.slice none 0 0,u,s,.slice none 0 0])
 |10=>(∃G,v= .pointer (some ⟨G,0,none⟩)/\n0<=G/\Row w G 97 [.slice none 0 0,.slice none 0 0,.slice none 0 0,.slice none 0 0,.slice none 0 0,.bool false,.slice none 0 0,.slice none 0 0,.slice none 0 0,.slice none 0 0,.slice none 0 0])
 |_=>True
def ybv (D:Nat) (row rest:c) (Z b3 aa:Nat) (p:Bool) (O:Option H) (s R:Nat) (U:Option H) (A V:Nat) (l:List Raw) (y:Raw) (N n0:Nat) (i:Nat) (v:c) (w:d) (X:Nat->Option c):Prop:=
 match i with
 |0=>v=row
 |1=>(∃hi,(n0<=hi/\hi<=w.heap.size)/\(X 8=none->OwnS 3 37 IsR w n0 (fun b=>b<hi) v l)/\∀b,v.ownBlock=some b->hi<=b)
 |2=>v= .pointer (some ⟨D,3,none⟩)
 |3=>v=rest
 |4=>v= .int .i64 (Z:Int)
 |5=>v= .pointer (some ⟨b3,(aa+Z*3),none⟩)
 |6=>v= .agg #[.bool p,.slice O s R,.slice U A V]
 |7=>(X 8=none->NewRow w n0 37 [.bool p,.slice O s R,.slice U A V] v)
 |8=>(∃hi,(n0<=hi/\hi<=w.heap.size)/\OwnS 3 37 IsR w n0 (fun b=>b<hi) v (l++[y]))
 |9=>(∃q,X 8=some q/\∃lo hi,NinP w n0 lo hi N v)
 |_=>True
def ybw (G:Nat) (q row ab:c) (n:Nat) (Y:Nat->Int) (a:List c) (n0 base:Nat) (i:Nat) (v:c) (w:d) (X:Nat->Option c):Prop:=
 match i with
 |0=>v= .pointer (some ⟨G,0,none⟩)
 |1=>v= .pointer (some ⟨G,2,none⟩)
 |2=>v=q
 |3=>v=row
 |4=>v=ab
 |5=>(∃hi,LinP w n0 n Y hi v)
 |6=>(∃hi u,LinP w n0 n Y hi u/\NewRow w n0 30 [u] v)
 |7=>(∃hi u,LinP w n0 n Y hi u/\OwnS 1 30 IsVal w base (fun _=>False) v (a++[u])/\(v.ownBlock=q.ownBlock\/∃b,v.ownBlock=some b/\hi<=b))
 |8=>v= .pointer (some ⟨G,0,none⟩)
 |9=>v= .pointer (some ⟨G,2,none⟩)
 |_=>True
def ybx (D G:Nat) (j rest ab:c) (Z b3 aa:Nat) (p:Bool) (O:Option H) (s R:Nat) (U:Option H) (A V:Nat) (z:Rat) (e:Nat->Prop) (l:List Raw) (n0 base:Nat) (i:Nat) (v:c) (w:d) (X:Nat->Option c):Prop:=
 match i with
 |0=>v= .pointer (some ⟨G,0,none⟩)
 |1=>v= .pointer (some ⟨G,3,none⟩)
 |2=>v=j
 |3=>v= .pointer (some ⟨D,3,none⟩)
 |4=>v=rest
 |5=>v= .int .i64 (Z:Int)
 |6=>v= .pointer (some ⟨b3,(aa+Z*3),none⟩)
 |7=>v= .agg #[.bool p,.slice O s R,.slice U A V]
 |8=>v=ab
 |9=>(∃lo hi,QinP w n0 lo hi z v)
 |10=>(∃lo hi a,QinP w n0 lo hi z a/\NewRow w n0 37 a.cells.toList v)
 |11=>(∃lo hi,(n0<=lo/\lo<=hi/\hi<=w.heap.size)/\OwnS 3 37 IsR w base (fun b=>e b\/K4 lo hi b) v (l++[E9 z])/\(v.ownBlock=j.ownBlock\/∃b,v.ownBlock=some b/\hi<=b))
 |12=>v= .pointer (some ⟨G,0,none⟩)
 |13=>v= .pointer (some ⟨G,3,none⟩)
 |_=>True
def yby (D G:Nat) (row:c) (p:Bool) (O:Option H) (s R:Nat) (U:Option H) (A V:Nat) (l:List Raw) (y:Raw) (N n0:Nat) (i:Nat) (v:c) (w:d) (X:Nat->Option c):Prop:=
 match i with
 |0=>v= .pointer (some ⟨D,4,none⟩)
 |1=>v=row
 |2=>(∃hi,(n0<=hi/\hi<=w.heap.size)/\(X 6=none->OwnS 3 37 IsR w n0 (fun b=>b<hi) v l)/\∀b,v.ownBlock=some b->hi<=b)
 |3=>v= .pointer (some ⟨D,5,none⟩)
 |4=>v= .agg #[.bool p,.slice O s R,.slice U A V]
 |5=>(X 6=none->NewRow w n0 37 [.bool p,.slice O s R,.slice U A V] v)
 |6=>(∃hi,(n0<=hi/\hi<=w.heap.size)/\OwnS 3 37 IsR w n0 (fun b=>b<hi) v (l++[y]))
 |7=>(∃q,X 6=some q/\∃lo hi,NinP w n0 lo hi N v)
 |8=>v= .pointer (some ⟨G,10,none⟩)
 |_=>True
theorem zz1361 {D:Nat} {j:Option H} {l:Nat} {r:Option H} {n s n0:Nat}:∀i k v w w' X u,i≠k->X k=none->ybu D j m l r n s n0 i v w X->w.grownBy w' none->ybu D j m l r n s n0 i v w' (Z4 X k u):=fun i k v w w' X u C p h f=>by
 match i,C,h with
 |0,_,h=>
  obtain⟨b,o,z,c,d,a⟩:=h
  have I:b<w.heap.size\/True:= .inr trivial
  exact⟨b,o,z,c,d,IsK.stb.to a fun x q=>⟨q,fun J=>ah (f.block x (by obtain⟨A,F,hv,_,_,B⟩:=a;obtain⟨t,off,_,g,hc⟩:=B (by rw[zkv];simp[E7]);have E:x=b:=q;have g:t=b:=g;rw[E,<-g];exact World.block_lt_of_cell? w _ (hc 0 _ (by rw[zkv];rfl))) (by simp))⟩⟩
 |1,_,h=>exact h
 |2,_,h=>exact h
 |3,_,h=>exact h
 |4,_,h=>exact h
 |5,_,h=>exact h
 |6,_,h=>exact h
 |7,_,h=>exact h
 |8,_,h=>
  obtain⟨sb,c,d,a⟩:=h
  exact⟨sb,c,d,a.grownN f fun b e=>by cases e⟩
 |9,_,h=>
  obtain⟨x,y,c,d,a⟩:=h
  exact⟨x,y,zsp c p,zsp d p,a⟩
 |10,_,h=>
  obtain⟨G,c,d,a⟩:=h
  exact⟨G,c,d,a.grownN f fun b e=>by cases e⟩
 |_+11,_,_=>exact trivial
theorem zz1357 {D:Nat} {row:c} {p:Bool} {s:Nat} {A:Nat} {l:List Raw} {y:Raw} {n0:Nat}:∀i f v w w' X u,i≠f->X f=none->ybv D row rest Z b3 aa p O s R U A V l y N n0 i v w X->zwh 8 n0 f w w'->ybv D row rest Z b3 aa p O s R U A V l y N n0 i v w' (Z4 X f u):=fun i f v w w' X u j x h t=>by
 obtain⟨r,g,hr⟩:=t
 have m:f≠8->r=none:=fun h=>hr.elim id fun o=>absurd o.1 h
 match i,j,h with
 |0,_,h=>exact h
 |1,j,h=>
  obtain⟨hi,d,k,n⟩:=h
  by_cases e:f=8
  ·subst e
   exact⟨hi,⟨d.1,C d.2 g.size⟩,fun a=>(by rw[Z4,if_pos rfl] at a;cases a),n⟩
  ·have:=m e
   subst this
   exact⟨hi,⟨d.1,C d.2 g.size⟩,fun a=>(k (by rw[ztl (Ne.symm e)] at a;exact a)).grown IsR.stb g (fun b a=>by cases a),n⟩
 |2,_,h=>exact h
 |3,_,h=>exact h
 |4,_,h=>exact h
 |5,_,h=>exact h
 |6,_,h=>exact h
 |7,j,h=>
  by_cases e:f=8
  ·subst e
   exact fun a=>(by rw[Z4,if_pos rfl] at a;cases a)
  ·have:=m e
   subst this
   exact fun a=>(h (by rw[ztl (Ne.symm e)] at a;exact a)).grown g (fun b a=>by cases a)
 |8,j,h=>
  have:=m (Ne.symm j)
  subst this
  obtain⟨hi,d,k⟩:=h
  exact⟨hi,⟨d.1,C d.2 g.size⟩,k.grown IsR.stb g (fun b a=>by cases a)⟩
 |9,j,h=>
  obtain⟨q,d,lo,hi,k⟩:=h
  by_cases e:f=8
  ·subst e
   rw[x] at d
   cases d
  ·have:=m e
   subst this
   exact⟨q,by rw[ztl (Ne.symm e)];exact d,lo,hi,k.grown g (fun b a=>by cases a)⟩
 |_+10,_,_=>exact trivial
theorem zz1360 {D G:Nat} {row:c} {p:Bool} {s:Nat} {A:Nat} {l:List Raw} {y:Raw} {n0:Nat}:∀i f v w w' X u,i≠f->X f=none->yby D G row p O s R U A V l y N n0 i v w X->zwh 6 n0 f w w'->yby D G row p O s R U A V l y N n0 i v w' (Z4 X f u):=fun i f v w w' X u j x h t=>by
 obtain⟨r,g,hr⟩:=t
 have m:f≠6->r=none:=fun h=>hr.elim id fun o=>absurd o.1 h
 match i,j,h with
 |0,_,h=>exact h
 |1,_,h=>exact h
 |2,j,h=>
  obtain⟨hi,d,k,n⟩:=h
  by_cases e:f=6
  ·subst e
   exact⟨hi,⟨d.1,C d.2 g.size⟩,fun a=>(by rw[Z4,if_pos rfl] at a;cases a),n⟩
  ·have:=m e
   subst this
   exact⟨hi,⟨d.1,C d.2 g.size⟩,fun a=>(k (by rw[ztl (Ne.symm e)] at a;exact a)).grown IsR.stb g (fun b a=>by cases a),n⟩
 |3,_,h=>exact h
 |4,_,h=>exact h
 |5,j,h=>
  by_cases e:f=6
  ·subst e
   exact fun a=>(by rw[Z4,if_pos rfl] at a;cases a)
  ·have:=m e
   subst this
   exact fun a=>(h (by rw[ztl (Ne.symm e)] at a;exact a)).grown g (fun b a=>by cases a)
 |6,j,h=>
  have:=m (Ne.symm j)
  subst this
  obtain⟨hi,d,k⟩:=h
  exact⟨hi,⟨d.1,C d.2 g.size⟩,k.grown IsR.stb g (fun b a=>by cases a)⟩
 |7,j,h=>
  obtain⟨q,d,lo,hi,k⟩:=h
  by_cases e:f=6
  ·subst e
   rw[x] at d
   cases d
  ·have:=m e
   subst this
   exact⟨q,by rw[ztl (Ne.symm e)];exact d,lo,hi,k.grown g (fun b a=>by cases a)⟩
 |8,_,h=>exact h
 |_+9,_,_=>exact trivial
def zts (q:c):Nat->Option Nat:=fun k=>match k with|7=>q.ownBlock|_=>none
theorem zz1358 {G:Nat} {q row:c} {n:Nat} {m:List c} {n0:Nat} (p:∀b,q.ownBlock=some b->b<n0):∀i k v w w' X u,i≠k->X k=none->ybw G q row ab n Y m n0 base i v w X->w.grownBy w' (zts q k)->ybw G q row ab n Y m n0 base i v w' (Z4 X k u):=fun i k v w w' X u j r h e=>by
 have l:∀b,zts q k=some b->k=7/\q.ownBlock=some b:=fun b a=>by
  unfold zts at a
  split at a
  ·exact⟨rfl,a⟩
  ·cases a
 have f:∀b,zts q k=some b->b<n0:=fun b a=>p b (l b a).2
 match i,j,h with
 |0,_,h=>exact h
 |1,_,h=>exact h
 |2,_,h=>exact h
 |3,_,h=>exact h
 |4,_,h=>exact h
 |5,_,h=>
  obtain⟨hi,d⟩:=h
  exact⟨hi,d.grown e f⟩
 |6,_,h=>
  obtain⟨hi,x,d,g⟩:=h
  exact⟨hi,x,d.grown e f,g.grown e f⟩
 |7,j,h=>
  obtain⟨hi,x,d,g,o⟩:=h
  exact⟨hi,x,d.grown e f,g.grown IsVal.stb e fun b a=>absurd (l b a).1 (Ne.symm j),o⟩
 |8,_,h=>exact h
 |9,_,h=>exact h
 |_+10,_,_=>exact trivial
def ztt (j:c):Nat->Option Nat:=fun k=>match k with|11=>j.ownBlock|_=>none
theorem zz1359 {D G:Nat} {j:c} {p:Bool} {s:Nat} {A:Nat} {z:Rat} {n:Nat->Prop} {l:List Raw} {n0:Nat} (r:∀b,j.ownBlock=some b->b<n0):∀i k v w w' X u,i≠k->X k=none->ybx D G j rest ab Z b3 aa p O s R U A V z n l n0 base i v w X->w.grownBy w' (ztt j k)->ybx D G j rest ab Z b3 aa p O s R U A V z n l n0 base i v w' (Z4 X k u):=fun i k v w w' X u g t h e=>by
 have o:∀b,ztt j k=some b->k=11/\j.ownBlock=some b:=fun b a=>by
  unfold ztt at a
  split at a
  ·exact⟨rfl,a⟩
  ·cases a
 have m:∀b,ztt j k=some b->b<n0:=fun b a=>r b (o b a).2
 match i,g,h with
 |0,_,h=>exact h
 |1,_,h=>exact h
 |2,_,h=>exact h
 |3,_,h=>exact h
 |4,_,h=>exact h
 |5,_,h=>exact h
 |6,_,h=>exact h
 |7,_,h=>exact h
 |8,_,h=>exact h
 |9,_,h=>
  obtain⟨lo,hi,d⟩:=h
  exact⟨lo,hi,d.grown e m⟩
 |10,_,h=>
  obtain⟨lo,hi,x,d,f⟩:=h
  exact⟨lo,hi,x,d.grown e m,f.grown e m⟩
 |11,g,h=>
  obtain⟨lo,hi,d,f,q⟩:=h
  exact⟨lo,hi,⟨d.1,d.2.1,C d.2.2 e.size⟩,f.grown IsR.stb e fun b a=>absurd (o b a).1 (Ne.symm g),q⟩
 |12,_,h=>exact h
 |13,_,h=>exact h
 |_+14,_,_=>exact trivial
def ypz (base:Nat) (q:c) (a:List c) (i:Nat) (w:d):Prop:=i=7->OwnS 1 30 IsVal w base (fun _=>False) q a
def yqa (base:Nat) (a:Nat->Prop) (j:c) (l:List Raw) (i:Nat) (w:d):Prop:=i=11->OwnS 3 37 IsR w base a j l
def JT (e:d) (G:Nat) (tc:List c) (a:Option Nat) (b w:d):Prop:=Row w G 97 tc/\Kept a none none b w/\Below e.heap.size e w
theorem JT.step {e:d} {G:Nat} {tc:List c} {f:Option Nat} {j w w':d} (h:JT e G tc f j w) (g:w.grownBy w' r) (hr:r=none\/r=f) (i:∀b,f=some b->G≠b/\e.heap.size<=b):JT e G tc f j w':=by (have key:∀b,r=some b->f=some b:=fun b a=>by rcases hr with h|h;rw[h] at a;cases a;rw[<-h];exact a);exact⟨h.1.grownN g fun b a=>(i b (key b a)).1,h.2.1.step g (by rcases hr with h|h;exact .inl h;exact .inr (.inl h)),h.2.2.grown g h.2.2.size fun b a=>(i b (key b a)).2⟩
theorem Kept.grown1 {w w':d} (h:Kept r none none w w'):w.grownBy w' r:=⟨h.os,h.tape,h.output,h.size,fun k a hr=>h.block k a hr (by simp) (by simp)⟩
theorem yow:Tryz.prog.cellsOf 97=11:=by kernel_rfl
theorem ycr:Tryz.prog.cellsOf 59=8:=by kernel_rfl
section
variable {w z : d} {g : Nat} {t : X} {p s A I J K L M ad ae ac : c}
abbrev put11 (z:d) (g:Nat) (a b f h i j k l m n e:c):d:=((((((((((z.setCell ⟨g,0,none⟩ a).setCell ⟨g,1,none⟩ b).setCell ⟨g,2,none⟩ f).setCell ⟨g,3,none⟩ h).setCell ⟨g,4,none⟩ i).setCell ⟨g,5,none⟩ j).setCell ⟨g,6,none⟩ k).setCell ⟨g,7,none⟩ l).setCell ⟨g,8,none⟩ m).setCell ⟨g,9,none⟩ n).setCell ⟨g,10,none⟩ e
theorem Row.put11 (h:Row z g t [p,s,A,I,J,K,L,M,ad,ae,ac]) (a b e f i j k l m n d:c):Row (Go.Proofs.YtpbilanpeioonaaGreatDoor.put11 z g a b e f i j k l m n d) g t [a,b,e,f,i,j,k,l,m,n,d]:=((((((((((h.set_ 0 a).set_ 1 b).set_ 2 e).set_ 3 f).set_ 4 i).set_ 5 j).set_ 6 k).set_ 7 l).set_ 8 m).set_ 9 n).set_ 10 d
theorem yde (z:d) (g:Nat) (a b f h i j k l m n e:c):z.grownBy (put11 z g a b f h i j k l m n e) (some g):=K1 (K1 (K1 (K1 (K1 (K1 (K1 (K1 (K1 (K1 (I0 _ _ _ _) (I0 _ _ _ _)) (I0 _ _ _ _)) (I0 _ _ _ _)) (I0 _ _ _ _)) (I0 _ _ _ _)) (I0 _ _ _ _)) (I0 _ _ _ _)) (I0 _ _ _ _)) (I0 _ _ _ _)) (I0 _ _ _ _)
theorem znn (h:Row w g t [p,s,A,I,J,K,L,M,ad,ae,ac]):w.cell? ⟨g,0,none⟩=some p/\w.cell? ⟨g,1,none⟩=some s/\w.cell? ⟨g,2,none⟩=some A/\w.cell? ⟨g,3,none⟩=some I/\w.cell? ⟨g,4,none⟩=some J/\w.cell? ⟨g,5,none⟩=some K/\w.cell? ⟨g,6,none⟩=some L/\w.cell? ⟨g,7,none⟩=some M/\w.cell? ⟨g,8,none⟩=some ad/\w.cell? ⟨g,9,none⟩=some ae/\w.cell? ⟨g,10,none⟩=some ac:=⟨h.cell 0,h.cell 1,h.cell 2,h.cell 3,h.cell 4,h.cell 5,h.cell 6,h.cell 7,h.cell 8,h.cell 9,h.cell 10⟩
theorem zzd (h:Row w g t [p,s,A,I,J,K,L,M,ad,ae,ac]):w.frozen? ⟨g,0,none⟩=false/\w.frozen? ⟨g,1,none⟩=false/\w.frozen? ⟨g,2,none⟩=false/\w.frozen? ⟨g,3,none⟩=false/\w.frozen? ⟨g,4,none⟩=false/\w.frozen? ⟨g,5,none⟩=false/\w.frozen? ⟨g,6,none⟩=false/\w.frozen? ⟨g,7,none⟩=false/\w.frozen? ⟨g,8,none⟩=false/\w.frozen? ⟨g,9,none⟩=false/\w.frozen? ⟨g,10,none⟩=false:=⟨h.frozen 0,h.frozen 1,h.frozen 2,h.frozen 3,h.frozen 4,h.frozen 5,h.frozen 6,h.frozen 7,h.frozen 8,h.frozen 9,h.frozen 10⟩
theorem zno (h:Row w g t [p,s,A,I,J,K,L,M]):w.cell? ⟨g,0,none⟩=some p/\w.cell? ⟨g,1,none⟩=some s/\w.cell? ⟨g,2,none⟩=some A/\w.cell? ⟨g,3,none⟩=some I/\w.cell? ⟨g,4,none⟩=some J/\w.cell? ⟨g,5,none⟩=some K/\w.cell? ⟨g,6,none⟩=some L/\w.cell? ⟨g,7,none⟩=some M:=⟨h.cell 0,h.cell 1,h.cell 2,h.cell 3,h.cell 4,h.cell 5,h.cell 6,h.cell 7⟩
end
theorem zz1425 {b:Func} {slot:Tmp} {R:Ending->d->Prop} {a:Act} {w:d} {g:Nat} {p s A I J K L M ad ae ac:c} (hr:b.results= #[.cell slot 97]) (ha:a.tmps.getD slot E= .pointer (some ⟨g,0,none⟩)) (hd:a.defers=[])
 (h:Row w g 97 [p,s,A,I,J,K,L,M,ad,ae,ac]) (t:R (.returned (.agg #[p,s,A,I,J,K,L,M,ad,ae,ac])) w):bodyPost Tryz.prog b R .ret a w:=by refine bodyPost_ret (v:= .agg #[p,s,A,I,J,K,L,M,ad,ae,ac]) ?_ hd t;obtain⟨e,f,j,k,l,m,n,o,q,r,i⟩:=znn h;have u:a.tmps[slot]?.getD E= .pointer (some ⟨g,0,none⟩):=(by simpa using ha);simp[results,hr,u,asAddr,go_sem,e,f,j,k,l,m,n,o,q,r,i]
theorem TabO.nil {w:d} {S:Nat->Prop} {B:Nat->Option Nat} {n:Nat} {hd:Nat->c} {F:Nat->Nat->Int} {Q:Nat->Int} (h:Sep w base S B) (a:B 3=none) (e:B 4=none):TabO w base S B 0 0 n hd (.slice none 0 0) (.slice none 0 0) F Q:=
 ⟨fun i hi=>absurd hi og,⟨OwnS.nil h.q,e.symm⟩,⟨OwnS.nil fun b h=>h.elim,a.symm⟩,h⟩
def B0 (sb G:Nat):Nat->Option Nat:=fun a=>if a=2 then some sb else if a=6 then some G else none
theorem zz1449 {w:d} {e sb G:Nat} (j:base<=e/\e<w.heap.size) (f:base<=sb/\sb<w.heap.size) (g:base<=G/\G<w.heap.size) (l:e≠sb) (m:e≠G) (h:sb≠G):Sep w base (fun b=>b=e) (B0 sb G):=by
 refine⟨fun i b a=> ?_,fun i o b n a c=> ?_,fun b k=>by rw[k];exact j.2⟩
 ·unfold B0 at a;split at a
  ·cases a;exact⟨f.1,f.2,fun a=>l a.symm⟩
  ·split at a
   ·cases a;exact⟨g.1,g.2,fun a=>m a.symm⟩
   ·cases a
 ·unfold B0 at a c;split at a
  ·cases a;rw[if_neg og] at c;split at c
   ·cases c;exact h rfl
   ·cases c
  ·split at a
   ·cases a;split at c
    ·cases c;exact h rfl
    ·rw[if_neg og] at c;cases c
   ·cases a
section
variable {e w w' : d} {G sb : Nat} {S : Nat → Prop} {B : Nat → Option Nat} {k l n len : Nat} {hd : Nat → c} {q j y D one : c} {F : Nat → Nat → Int} {Q : Nat → Int} {f : Nat → Nat} {bas oth : List Nat} {tc : List c}
theorem TblW.copied (h:TblW e w G sb S B 0 0 n len hd (.slice none 0 0) (.slice none 0 0) (.slice none 0 0) (.slice none 0 0) one F Q f [] [] tc) (a:Below w.heap.size w w') {mid:Nat} (k:w.heap.size<=mid) (p:mid<=w'.heap.size)
 (d:OwnS 1 3 IsIV w' w.heap.size (fun _=>False) y (bas.map fun(x:Nat)=>(x:Int))) (m:∀b,y.ownBlock=some b->b<mid) (g:OwnS 1 3 IsIV w' mid (fun _=>False) D (oth.map fun(x:Nat)=>(x:Int))):
 TblW e w' G sb S (zlx (zlx B 0 y.ownBlock) 1 D.ownBlock) 0 0 n len hd (.slice none 0 0) (.slice none 0 0) y D one F Q f bas oth tc:=by
 have j:=h.next a
 have q:Sep w' e.heap.size S (zlx (zlx B 0 y.ownBlock) 1 D.ownBlock):=h.tab.sep.two (hi:=mid) og a.size h.below.size p k (fun b a=> .inl a) (fun b c=>⟨(d.own_lt b c).1,m b c,fun o=>by have:=h.tab.sep.q b o;have:=(d.own_lt b c).1;omega⟩) (by
  rcases l:D.ownBlock with _|b
  ·exact .inl (h.othO.2.symm▸rfl)
  ·exact .inr ⟨b,rfl,(g.own_lt b l).1,(g.own_lt b l).2⟩)
 exact {j with
  tab:=j.tab.place q (by rw[M3 og,M3 og]) (by rw[M3 og,M3 og]) (fun i=>by rw[M3 og,M3 og])
  basO:=⟨d.higher IsIV.stb h.below.size (fun b h=>h) fun b h=>h.elim,by rw[M3 og,zpe]⟩
  othO:=⟨g.higher IsIV.stb (C h.below.size k) (fun b h=>h) fun b h=>h.elim,by rw[zpe]⟩
  b2:=by rw[M3 og,M3 og];exact h.b2
  b6:=by rw[M3 og,M3 og];exact h.b6}
theorem TblW.rowT (h:TblW e w G sb S B k l n len hd q j y D one F Q f bas oth tc) (i:w.grownBy w' q.ownBlock) (m:Row w' G 97 tc) (c:LinP w' w.heap.size n (F k) hi u) (hv:OwnS 1 30 IsVal w' e.heap.size (fun _=>False) ag ((List.range k).map hd++[u])) (o:ag.ownBlock=q.ownBlock\/∃b,ag.ownBlock=some b/\hi<=b):
 ∃d W,(∀b,S b->d b)/\TblW e w' G sb d W (k+1) l n len (zsi hd k u) ag j y D one F Q f bas oth tc:=by
 have g:w.grownBy w' (B 3):=by rw[<-h.tab.heads.2];exact i
 exact⟨_,_,fun b a=> .inl a,h.swap (.inl rfl) g (h.tab.row h.below.size g c.1.1 c.1.2 c.2.1 c.2.2 hv o) (by rw[M3 og,M3 og]) (by rw[M3 og,M3 og]) (by rw[M3 og,M3 og]) (by rw[M3 og,M3 og]) m (fun b a=> .inl a) fun b a=>by
  rcases a with a|a
  ·exact h.quiet b a
  ·exact C h.below.size a.1⟩
theorem TblW.restT (h:TblW e w G sb S B k l n len hd q j y D one F Q f bas oth tc) (p:w.grownBy w' j.ownBlock) (r:Row w' G 97 tc) (g:w.heap.size<=lo/\lo<=hi/\hi<=w'.heap.size) (hv:OwnS 3 37 IsR w' e.heap.size (fun b=>S b\/K4 lo hi b) af (C5 (ints l Q)++[E9 ((Q l:Int):Rat)])) (s:af.ownBlock=j.ownBlock\/∃b,af.ownBlock=some b/\hi<=b):
 ∃i W,(∀b,S b->i b)/\TblW e w' G sb i W k (l+1) n len hd q af y D one F Q f bas oth tc:=by
 have m:w.grownBy w' (B 4):=(by rw[<-h.tab.rests.2];exact p);have c:C5 (ints (l+1) Q)=C5 (ints l Q)++[E9 ((Q l:Int):Rat)]:=(by rw[ykd];simp[C5]);have o:∀b,(S b\/K4 lo hi b)->S b\/(w.heap.size<=b/\b<w'.heap.size):=fun b a=>a.imp id fun a=>⟨C g.1 a.1,aj a.2 g.2.2⟩
 exact⟨_,_,fun b a=> .inl a,h.swap (.inr rfl) m (h.tab.rest (T:=fun b=>S b\/K4 lo hi b) h.below.size m (fun b a=> .inl a) o (by rw[c];exact hv) fun b c=>by
  rcases s with d|⟨t,d,u⟩
  ·exact .inl (by rw[<-h.tab.rests.2,<-d];exact c)
  ·rw[d] at c;cases c;exact .inr og) (M3 og) (M3 og) (M3 og) (M3 og) r (fun b a=> .inl a) fun b a=>by
  rcases a with a|a
  ·exact h.quiet b a
  ·exact C h.below.size (C g.1 a.1)⟩
theorem TblW.fin (h:TblW e w G sb S B m m n len hd q j y D one F Q f bas oth tc) (hf:∀v,v∈bas++oth->v<len/\f v=sc v) {M top:c} {C:Nat->Int} {z:Int} {t I:Nat} (s:Below w.heap.size w w') (p:LinP w' w.heap.size n C hi u) (L:QinP w' w.heap.size lo I ((z:Int):Rat) M) (R:hi<=lo) (O:NumS w S top t):
 ∃k W,TabE w' e.heap.size k W m n hd q j u y D sb F Q C sc bas oth/\NumS w' k one 1/\NumS w' k top t/\IsQ w' k M ((z:Int):Rat)/\(∀b,k b->e.heap.size<=b)/\W 6=some G:=by
 obtain⟨T,l⟩:∃T:Nat->Prop,T=fun b=>S b\/(w.heap.size<=b/\b<I/\u.ownBlock≠some b):=⟨_,rfl⟩;have E:∀b,S b->T b:=fun b a=>(by rw[l];exact .inl a);have U:=L.1;have H:∀b,T b->S b\/(w.heap.size<=b/\b<w'.heap.size):=fun b a=>(by rw[l] at a;exact a.imp id fun h=>⟨h.1,by omega⟩);have r:=p.2.1.own_lt;have g:=h.more s E H
 have J:∀b,u.ownBlock=some b->¬T b:=fun b d a=>by
  rw[l] at a;rcases a with a|a
  ·have:=h.tab.sep.q b a;have:=(r b d).1;omega
  ·exact a.2.2 d
 have K:Sep w' e.heap.size T (zlx B 5 u.ownBlock):=h.tab.sep.upd s.size h.below.size H fun b d=> .inr ⟨(r b d).1,(r b d).2,J b d⟩;refine⟨T,zlx B 5 u.ownBlock,⟨g.tab.place K (M3 og) (M3 og) (fun i=>M3 og),⟨p.2.1.higher IsR.stb h.below.size (fun b a=> ?_) fun b a=>⟨K.q b a,fun d=>J b d.symm a⟩,(zpe _ _ _).symm⟩,⟨g.basO.1,by rw[M3 og];exact g.basO.2⟩,⟨g.othO.1,by rw[M3 og];exact g.othO.2⟩,⟨by rw[M3 og];exact g.b2,fun v hv=> ?_⟩⟩,g.den,IsK.stb.to O fun b a=>⟨E b a,fun o=>s.cell (p:=⟨b,o,none⟩) (h.tab.sep.q b a)⟩,IsQ.stb.to L.2 (G6 fun b a=> ?_),g.quiet,(M3 og).trans h.b6⟩
 ·rw[l];exact .inr ⟨a.1,by have:=a.2.1;omega,a.2.2⟩
 ·obtain⟨P,N,x,A⟩:=g.scl.el v (hf v hv).1;rw[(hf v hv).2] at x A;exact⟨P,N,x,A⟩
 ·rw[l];exact .inr ⟨by have:=a.1;omega,a.2,fun d=>by have:=p.2.2 b d;have:=a.1;omega⟩
end
theorem TabE.far {w w':d} {n sb z:Nat} {S:Nat->Prop} {B:Nat->Option Nat} {hd:Nat->c} {q j u y D:c} {F:Nat->Nat->Int} {Q C:Nat->Int} {bas oth:List Nat} (h:TabE w base S B m n hd q j u y D sb F Q C sc bas oth) (L:∀b,S b->base<=b) (o:w.grownBy w' (some z)) (e:z<base\/B 6=some z):
 TabE w' base S B m n hd q j u y D sb F Q C sc bas oth:=by
 have x:∀b,some z=some b->¬S b:=fun b a f=>by
  cases a;rcases e with e|e
  ·have:=L z f;omega
  ·exact(h.tab.sep.lt _ _ e).2.2 f
 have H:∀(v:c) (p:Nat),v.ownBlock=B p->p≠6->v.ownBlock≠some z:=fun v p a r g=>by
  rcases e with e|e
  ·have:=(h.tab.sep.lt p z (a▸g)).1;omega
  ·exact h.tab.sep.ne 6 p z (Ne.symm r) e (a▸g)
 have key:∀{A:Type} {s:Nat} {t:X} {R:d->(Nat->Prop)->c->A->Prop} {T:Nat->Prop} {v:c} {l:List A} (p:Nat),Stb R->(∀b,T b->S b\/False)->v.ownBlock=B p->p≠6->OwnS s t R w base T v l->OwnS s t R w' base T v l:=fun p I J a r K=>K.grown I o fun b g=>⟨by cases g;exact H _ p a r,fun f=>(J b f).elim (x b g) id⟩
 refine⟨⟨fun i hi=>⟨key (7+i) IsR.stb (fun b h=> .inl h) (h.tab.rows i hi).2 og (h.tab.rows i hi).1,(h.tab.rows i hi).2⟩,⟨key 4 IsR.stb (fun b h=> .inl h) h.tab.rests.2 og h.tab.rests.1,h.tab.rests.2⟩,⟨key 3 IsVal.stb (fun b h=> .inr h) h.tab.heads.2 og h.tab.heads.1,h.tab.heads.2⟩,h.tab.sep.size o.size⟩,
  ⟨key 5 IsR.stb (fun b h=> .inl h) h.cost.2 og h.cost.1,h.cost.2⟩,⟨key 0 IsIV.stb (fun b h=> .inr h) h.basO.2 og h.basO.1,h.basO.2⟩,⟨key 1 IsIV.stb (fun b h=> .inr h) h.othO.2 og h.othO.1,h.othO.2⟩,⟨h.scl.1,fun v hv=> ?_⟩⟩
 obtain⟨P,k,E,G⟩:=h.scl.2 v hv;have M:=h.tab.sep.lt _ _ h.scl.1
 exact⟨P,k,(ah (o.block sb M.2.1 fun a=>by
  injection a with a;rcases e with e|e
  ·omega
  ·exact h.tab.sep.ne 6 2 z og e (by rw[h.scl.1,a]))).trans E,IsK.stb.to G (zks o fun b f=>⟨h.tab.sep.q b f,fun a=>x b a.symm f⟩)⟩
theorem yrp {q:c} {k:Nat} (h:zts q k=some b):k=7:=by
 unfold zts at h;split at h
 ·rfl
 ·cases h
theorem yrq {j:c} {k:Nat} (h:ztt j k=some b):k=11:=by
 unfold ztt at h;split at h
 ·rfl
 ·cases h
abbrev put8 (z:d) (g:Nat) (a b e f h i j k:c):d:=(((((((z.setCell ⟨g,0,none⟩ a).setCell ⟨g,1,none⟩ b).setCell ⟨g,2,none⟩ e).setCell ⟨g,3,none⟩ f).setCell ⟨g,4,none⟩ h).setCell ⟨g,5,none⟩ i).setCell ⟨g,6,none⟩ j).setCell ⟨g,7,none⟩ k
theorem Row.put8 {z:d} {g:Nat} {t:X} {p s A I J K L M:c} (h:Row z g t [p,s,A,I,J,K,L,M]) (a b e f i j k l:c):Row (Go.Proofs.YtpbilanpeioonaaGreatDoor.put8 z g a b e f i j k l) g t [a,b,e,f,i,j,k,l]:=(((((((h.set_ 0 a).set_ 1 b).set_ 2 e).set_ 3 f).set_ 4 i).set_ 5 j).set_ 6 k).set_ 7 l
theorem ydf (z:d) (g:Nat) (a b e f h i j k:c):z.grownBy (put8 z g a b e f h i j k) (some g):=K1 (K1 (K1 (K1 (K1 (K1 (K1 (I0 _ _ _ _) (I0 _ _ _ _)) (I0 _ _ _ _)) (I0 _ _ _ _)) (I0 _ _ _ _)) (I0 _ _ _ _)) (I0 _ _ _ _)) (I0 _ _ _ _)
theorem yoi (z:d) (g:Nat) (a b e f h i j k:c):(put8 z g a b e f h i j k).heap.size=z.heap.size:=by simp[put8,World.setCell]
theorem zz1434 {z:d} {g:Nat} {a b e f i j k l:c} {t:X} (h:Row z g t xs):∃m,Row (put8 z g a b e f i j k l) g t m/\m.length=xs.length:=⟨_,(((((((h.set_ 0 a).set_ 1 b).set_ 2 e).set_ 3 f).set_ 4 i).set_ 5 j).set_ 6 k).set_ 7 l,by simp⟩
theorem yjg {w:d} {g:Nat} {t:X} (h:Row w g t xs):w.frozen? ⟨g,0,none⟩=false/\w.frozen? ⟨g,1,none⟩=false/\w.frozen? ⟨g,2,none⟩=false/\w.frozen? ⟨g,3,none⟩=false/\w.frozen? ⟨g,4,none⟩=false/\w.frozen? ⟨g,5,none⟩=false/\w.frozen? ⟨g,6,none⟩=false/\w.frozen? ⟨g,7,none⟩=false:=⟨h.frozen 0,h.frozen 1,h.frozen 2,h.frozen 3,h.frozen 4,h.frozen 5,h.frozen 6,h.frozen 7⟩
theorem yyb (h:xs.length=8):∃p s A I J K L M,xs=[p,s,A,I,J,K,L,M]:=by
 match xs,h with
 |[p,s,A,I,J,K,L,M],_=>exact⟨_,_,_,_,_,_,_,_,rfl⟩
def vE (n m:Nat) (w w':d) (x:Option c):Prop:=if m=n then∃g,x=some (Y7 g)/\w.grownBy w' (some g)/\w'.heap.size=w.heap.size/\∀t xs,Row w g t xs->∃a,Row w' g t a/\a.length=xs.length else Below w.heap.size w w'
def vR (t:X) (k:Nat) (v:c) (w:d) (x:Option c):Prop:=∃g xs,v=Y7 g/\x=some v/\Row w g t xs/\xs.length=k
theorem zri {f:Type} {R:d->(Nat->Prop)->c->f->Prop} (i:Stb R) {n0 g:Nat} {w w':d} {y:f} (h:R w (NX n0 w (some (Y7 g))) v y) (j:w.grownBy w' (some g)) (k:w'.heap.size=w.heap.size):R w' (NX n0 w' (some (Y7 g))) v y:=
 i.to h fun b a=>⟨⟨a.1,by rw[k];exact a.2.1,a.2.2⟩,fun o=>ah (j.block b a.2.1 fun e=>a.2.2 g rfl (by injection e with e))⟩
theorem ypg {t:X} {k:Nat} {w w':d} {x:Option c} (h:vR t k v w x) (e:Below w.heap.size w w'):vR t k v w' x:=by obtain⟨g,xs,a,b,r,l⟩:=h;exact⟨g,xs,a,b,r.next e,l⟩
theorem yph {t:X} {k g:Nat} {w w':d} (h:vR t k v w (some (Y7 g))) (hr:∀t xs,Row w g t xs->∃a,Row w' g t a/\a.length=xs.length):vR t k v w' (some (Y7 g)):=by obtain⟨f,xs,rfl,b,r,l⟩:=h;cases b;obtain⟨a,c,e⟩:=hr _ _ r;exact⟨g,a,rfl,rfl,c,e.trans l⟩
section
variable {P : Program} {o : Oper} {a : Act} {w e : d} {Φ : Nat → c → d → Option c → Prop} {Q : Exit → Act → d → Prop} {n0 i k n : Nat} {x : Option c}
theorem zke (j:i≠k) (p:i≠n) (hd:o.dst.isSome=true) (b:zpk n0 e w x) (h:∀l:Act->d->Prop,(∀v w',Below w.heap.size w w'->Φ i v w' x->l (a.put o.dst v) w')->o.wp P a w l Q):
 o.wp P a w (fun m w'=>∃v,m=a.put o.dst v/\vE n i w w' x/\zpk n0 e w' (if i=k then some (if o.dst.isSome then v else E) else x)/\Φ i (if o.dst.isSome then v else E) w' (if i=k then some (if o.dst.isSome then v else E) else x)/\(i=k->zsv w (if o.dst.isSome then v else E) w')) Q:=by
 refine h _ fun v w' f hv=>⟨v,rfl,?_,?_,?_,fun c=>absurd c j⟩
 ·unfold vE;rw[if_neg p];exact f
 ·rw[if_neg j];exact⟨b.1.trans (f.mono b.2.1),C b.2.1 f.size,fun g c=>⟨(b.2.2 g c).1,aj (b.2.2 g c).2 f.size⟩⟩
 ·rw[if_neg j,if_pos hd];exact hv
theorem yfk {ob:Obj} (l:k≠n) (hd:o.dst.isSome=true) (b:zpk n0 e w x) (p:x=none) (m:Φ k (Y7 w.heap.size) (w.alloc ob) (some (Y7 w.heap.size)))
 (h:∀f:Act->d->Prop,f (a.put o.dst (Y7 w.heap.size)) (w.alloc ob)->o.wp P a w f Q):
 o.wp P a w (fun j w'=>∃v,j=a.put o.dst v/\vE n k w w' x/\zpk n0 e w' (if k=k then some (if o.dst.isSome then v else E) else x)/\Φ k (if o.dst.isSome then v else E) w' (if k=k then some (if o.dst.isSome then v else E) else x)/\(k=k->zsv w (if o.dst.isSome then v else E) w')) Q:=by
 have c:=N6 w ob;refine h _ ⟨Y7 w.heap.size,rfl,?_,?_,?_,fun i=> ?_⟩
 ·unfold vE;rw[if_neg l];exact c
 ·rw[if_pos rfl,if_pos hd];exact⟨b.1.trans (c.mono b.2.1),C b.2.1 c.size,fun g i=>by cases i;exact⟨b.2.1,by rw[World.size_alloc];omega⟩⟩
 ·rw[if_pos rfl,if_pos hd];exact m
 ·rw[if_pos hd];rfl
theorem yfl (i:n≠k) (hd:o.dst.isSome=false) (f:zpk n0 e w x) {g:Nat} {w':d} (p:x=some (Y7 g)) (m:w.grownBy w' (some g)) (j:w'.heap.size=w.heap.size) (hr:∀t xs,Row w g t xs->∃q,Row w' g t q/\q.length=xs.length) (u:Φ n E w' x)
 (h:∀l:Act->d->Prop,l (a.put o.dst E) w'->o.wp P a w l Q):
 o.wp P a w (fun r w'=>∃v,r=a.put o.dst v/\vE n n w w' x/\zpk n0 e w' (if n=k then some (if o.dst.isSome then v else E) else x)/\Φ n (if o.dst.isSome then v else E) w' (if n=k then some (if o.dst.isSome then v else E) else x)/\(n=k->zsv w (if o.dst.isSome then v else E) w')) Q:=by
 refine h _ ⟨E,rfl,?_,?_,?_,fun c=>absurd c i⟩
 ·unfold vE;rw[if_pos rfl];exact⟨g,p,m,j,hr⟩
 ·rw[if_neg i];exact⟨f.1.grown m f.2.1 fun b c=>by cases c;exact(f.2.2 g p).1,by rw[j];exact f.2.1,fun s c=>by rw[j];exact f.2.2 s c⟩
 ·rw[if_neg i,if_neg (by rw[hd];simp)];exact u
end
def IsD8 (w:d) (S:Nat->Prop) (v:c) (a:ProgQ):Prop:=∃b i e j f k p g n l h o m,v= .agg #[.slice none 0 0,.slice none 0 0,.slice b (J4 a.A).length i,.slice e (C5 a.B).length j,.slice f (C5 a.C).length k,.bool p,.slice g n l,.slice h o m]/\
 IsM w S (.slice b (J4 a.A).length i) (J4 a.A)/\IsV w S (.slice e (C5 a.B).length j) (C5 a.B)/\IsV w S (.slice f (C5 a.C).length k) (C5 a.C)/\IsQ w S (.agg #[.bool p,.slice g n l,.slice h o m]) 0
theorem IsD8.stb:Stb IsD8:=by rintro w w' S T v s ⟨b,k,c,l,d,m,r,e,p,n,f,q,o,rfl,g,h,i,j⟩ a;exact⟨b,k,c,l,d,m,r,e,p,n,f,q,o,rfl,IsM.stb.to g a,IsV.stb.to h a,IsV.stb.to i a,IsQ.stb.to j a⟩
def zmh (P:Nat) (A B C:Option H) (m n p q r:Nat) (a:ProgQ) (n0:Nat) (i:Nat) (v:c) (w:d) (x:Option c):Prop:=
 match i with
 |0=>v= .pointer (some ⟨P,0,none⟩)
 |1=>v= .slice A m p
 |2=>IsM w (NX n0 w x) v (J4 a.A)
 |3=>v= .pointer (some ⟨P,1,none⟩)
 |4=>v= .slice B m q
 |5=>IsV w (NX n0 w x) v (C5 a.B)
 |6=>v= .pointer (some ⟨P,2,none⟩)
 |7=>v= .slice C n r
 |8=>IsV w (NX n0 w x) v (C5 a.C)
 |9=>IsQ w (NX n0 w x) v 0
 |10=>IsD8 w (NX n0 w x) v a
 |11=>vR 59 8 v w x
 |12=>∃g b e f h j k l o,x=some (Y7 g)/\Row w g 59 [b,e,f,h,j,k,l,o]/\IsD8 w (NX n0 w (x)) (.agg #[b,e,f,h,j,k,l,o]) a
 |_=>True
theorem zz1363 (P:Nat) (A B C:Option H) (m n k l o:Nat) (p:ProgQ) (n0:Nat):∀(i j:Nat) (v:c) (w w':d) (x:Option c),i≠j->zmh P A B C m n k l o p n0 i v w x->vE 12 j w w' x->zmh P A B C m n k l o p n0 i v w' x:=by
 intro i j v w w' x f h a;unfold vE at a;split at a
 ·rename_i I;subst I;obtain⟨g,rfl,b,e,hr⟩:=a;match i,f,h with
  |0,_,h=>exact h
  |1,_,h=>exact h
  |2,_,h=>exact zri IsM.stb h b e
  |3,_,h=>exact h
  |4,_,h=>exact h
  |5,_,h=>exact zri IsV.stb h b e
  |6,_,h=>exact h
  |7,_,h=>exact h
  |8,_,h=>exact zri IsV.stb h b e
  |9,_,h=>exact zri IsQ.stb h b e
  |10,_,h=>exact zri IsD8.stb h b e
  |11,_,h=>exact yph h hr
  |12,f,_=>exact absurd rfl f
  |_+13,_,_=>trivial
 ·match i,h with
  |0,h=>exact h
  |1,h=>exact h
  |2,h=>exact zsd IsM.stb h a
  |3,h=>exact h
  |4,h=>exact h
  |5,h=>exact zsd IsV.stb h a
  |6,h=>exact h
  |7,h=>exact h
  |8,h=>exact zsd IsV.stb h a
  |9,h=>exact zsd IsQ.stb h a
  |10,h=>exact zsd IsD8.stb h a
  |11,h=>exact ypg h a
  |12,h=>obtain⟨g,s,t,u,y,z,D,E,F,G,r,q⟩:=h;exact⟨g,s,t,u,y,z,D,E,F,G,r.next a,zsd IsD8.stb q a⟩
  |_+13,_=>trivial
theorem zz1362 (P:Nat) (A B C:Option H) (m n e f j:Nat) (k:ProgQ) (n0:Nat):∀(i:Nat) (v:c) (w w':d) (u:c),i≠11->zmh P A B C m n e f j k n0 i v w none->vE 12 11 w w' none->zsv w u w'->zmh P A B C m n e f j k n0 i v w' (some u):=by
 intro i v w w' u b h a o;unfold vE at a;rw[if_neg og] at a;obtain rfl:u=Y7 w.heap.size:=o;match i,b,h with
 |0,_,h=>exact h
 |1,_,h=>exact h
 |2,_,h=>exact zuq IsM.stb h a
 |3,_,h=>exact h
 |4,_,h=>exact h
 |5,_,h=>exact zuq IsV.stb h a
 |6,_,h=>exact h
 |7,_,h=>exact h
 |8,_,h=>exact zuq IsV.stb h a
 |9,_,h=>exact zuq IsQ.stb h a
 |10,_,h=>exact zuq IsD8.stb h a
 |11,b,_=>exact absurd rfl b
 |12,_,h=>obtain⟨g,p,q,r,s,t,x,y,z,l,_⟩:=h;cases l
 |_+13,_,_=>trivial
end Go.Proofs.YtpbilanpeioonaaGreatDoor
