/-
 The frame behind a region b draws:what it was,but for c d b c region writes.
-/
import Derived.Test.YtdgilbgdkmhcmaaGreatDoorProofSimplexProves16
namespace Go.Proofs.YtdgilbgdkmhcmaaGreatDoor
open Go.RowKit
set_option linter.unusedVariables false
set_option maxRecDepth 100000
set_option maxHeartbeats 8000000
open _root_.Nat renaming le_trans → H, lt_of_lt_of_le → ah
open _root_.Go.World renaming cell?_of_block → ag
open _root_.Go renaming World → j, Value → c, Addr → M
variable {N J L app b R base hi i lo m Y O : Nat} {P I K : Option M} {z : Nat → Int} {o : Oper} {ops : Array Oper} {ad rest ae u v Z : c} {r : Option Nat} {sc : Nat → Nat} {af : List c} {p : List Nat}
def zmx (a:List c) (b:Nat->c):List Nat->List c
 |[]=>a
 |t::p=>(zmx a b p).set t (b t)
theorem yjq (a:List c) (b:Nat->c) (p:List Nat):(zmx a b p).length=a.length:=by
 induction p with
 |nil=>rfl
 |cons t p ih=>rw[zmx,List.length_set,ih]
theorem yzd (a:List c) (d:Nat->c) (p:List Nat) (hi:i<a.length):(zmx a d p)[i]? =if i∈p then some (d i) else a[i]? :=by
 induction p with
 |nil=>simp[zmx]
 |cons t p ih=>
  rw[zmx,List.getElem?_set];by_cases b:t=i
  ·subst b;rw[if_pos rfl,if_pos (by rw[yjq];exact hi),if_pos (by simp)]
  ·rw[if_neg b,ih];have:i∈t::p↔i∈p:=(by simp[Ne.symm b]);simp only[this]
theorem zqw {l a:List c} {d:Nat->Bool} (p:List Nat) (f:∀t,t∉p->d t=false) (g:l.length=a.length) (h:∀t,d t=false->(Array.mk l)[t]? =(Array.mk a)[t]?):∃e:Nat->c,l=zmx a e p:=by
 refine⟨fun t=>l.getD t undef,List.ext_getElem? fun i=> ?_⟩;rcases Nat.lt_or_ge i a.length with hi|hi
 ·rw[yzd _ _ _ hi];by_cases b:i∈p
  ·rw[if_pos b,List.getD_eq_getElem?_getD,List.getElem?_eq_getElem og];rfl
  ·rw[if_neg b];have:=h i (f i b);simpa using this
 ·rw[List.getElem?_eq_none og,List.getElem?_eq_none (by rw[yjq];exact hi)]
def yfd (ops:Array Oper) (p:List Nat):Bool:=ops.toList.all fun o=>match o.dst with|none=>true|some d=>p.contains d
theorem yqa (h:yfd ops p=true) {t:Nat} (d:ops[i]? =some o) (hd:(o.dst==some t)=true):t∈p:=by have c:o∈ops.toList:=(by have:=Array.getElem?_eq_some_iff.1 d;obtain⟨a,b⟩:=this;rw[<-b];simp);have a:=List.all_eq_true.1 h o c;have b:o.dst=some t:=(by simpa using hd);rw[b] at a;simpa using a
theorem ycf (h:yfd ops p=true):∀t,t∉p->zmc ops t=false:=fun t d=>by
 rcases Bool.eq_false_or_eq_true (zmc ops t) with a|a
 ·unfold zmc at a
  obtain⟨o,b,c⟩:=List.any_eq_true.1 a
  obtain⟨i,hi⟩:=List.getElem?_of_mem b
  exact absurd (yqa h (i:=i) (by simpa using hi) c) d
 ·exact a
theorem yqe:ElT Tryz.prog 92 35 (.slice none 0 0) 24:=
 ⟨Tryz.underlying92,by obtain⟨i,a,b,c,d⟩:=info_parts (show(Tryz.prog.info? 35).map (fun i=>(i.zero,i.size,i.bytes))=some (some (.slice none 0 0),1,24) by kernel_rfl);exact⟨i,a,b,c,d⟩,rfl⟩
structure ScW (w:j) (S:Nat->Prop) (sb len:Nat) (f:Nat->Nat):Prop where
 blk:∃cur,w.heap[sb]? =some (.cells cur 35 (0,0))
 el:∀v,v<len->∃P k,w.cell? ⟨sb,v,none⟩=some (.slice P (A9 (f v)).length k)/\G0 w S (.slice P (A9 (f v)).length k) (f v)
section
variable {w w' : j} {S T : Nat → Prop} {sb len : Nat} {f : Nat → Nat}
theorem ScW.zero (h:Row w sb 35 (List.replicate len (.slice none 0 0))):ScW w S sb len (fun _=>0) where
 blk:=⟨_,h⟩
 el v hv:=by
  refine⟨none,0,?_,?_⟩
  ·rw[h.cell v,List.getElem?_replicate,if_pos hv,M6];rfl
  ·rw[M6];exact zxz
theorem ScW.lt (h:ScW w S sb len f):sb<w.heap.size:=by obtain⟨b,a⟩:=h.blk;exact(Array.getElem?_eq_some_iff.1 a).1
theorem ScW.free (h:ScW w S sb len f) (o:Nat):w.frozen? ⟨sb,o,none⟩=false:=by obtain⟨b,a⟩:=h.blk;simp[World.frozen?,a]
theorem ScW.keep (h:ScW w S sb len f) (a:w'.heap[sb]? =w.heap[sb]?) (d:L1 S T w w'):ScW w' T sb len f where
 blk:=by rw[a];exact h.blk
 el v hv:=by obtain⟨P,k,b,c⟩:=h.el v hv;exact⟨P,k,(ag a).trans b,IsK.stb.to c d⟩
theorem ScW.put (h:ScW w S sb len f) (m:¬S sb) {v x k:Nat} (hv:v<len) (n:G0 w S (.slice P (A9 x).length k) x):ScW (w.setCell ⟨sb,v,none⟩ (.slice P (A9 x).length k)) S sb len (O0 f v x) where
 blk:=by obtain⟨p,c⟩:=h.blk;exact zvy c
 el u hu:=by
  have j:L1 S S w (w.setCell ⟨sb,v,none⟩ (.slice P (A9 x).length k)):=fun b i=>⟨i,fun o=>World.cell?_setCell_other _ _ _ _ (fun e=>by injection e with a d;exact m (a▸i))⟩;by_cases c:u=v
  ·subst c;rw[znp];obtain⟨g,l,a,d⟩:=h.el u hu;exact⟨P,k,World.cell?_setCell_same _ _ _ a,IsK.stb.to n j⟩
  ·rw[znq _ _ c];obtain⟨g,l,a,d⟩:=h.el u hu;exact⟨g,l,(World.cell?_setCell_other _ _ _ _ (fun e=>by injection e with a d;exact c d.symm)).trans a,IsK.stb.to d j⟩
end
structure TblW (a w:j) (G sb:Nat) (S:Nat->Prop) (B:Nat->Option Nat) (k l n len:Nat) (hd:Nat->c) (e d q s one:c) (F:Nat->Nat->Int) (Q:Nat->Int) (f:Nat->Nat) (bas oth:List Nat) (tc:List c):Prop where
 below:Below a.heap.size a w
 row:Row w G 94 tc
 tab:TabO w a.heap.size S B k l n hd e d F Q
 basO:OwnS 1 3 IsIV w a.heap.size (fun _=>False) q (bas.map fun(x:Nat)=>(x:Int))/\q.ownBlock=B 0
 othO:OwnS 1 3 IsIV w a.heap.size (fun _=>False) s (oth.map fun(x:Nat)=>(x:Int))/\s.ownBlock=B 1
 scl:ScW w S sb len f
 den:G0 w S one 1
 b2:B 2=some sb
 b6:B 6=some G
 quiet:∀b,S b->a.heap.size<=b
section
variable {a w w' : j} {G sb : Nat} {S T : Nat → Prop} {B y : Nat → Option Nat} {k l n len : Nat} {hd : Nat → c} {e d q s one : c} {F : Nat → Nat → Int} {Q : Nat → Int} {f : Nat → Nat} {bas oth : List Nat} {tc : List c}
theorem TblW.gb (h:TblW a w G sb S B k l n len hd e d q s one F Q f bas oth tc):a.heap.size<=G/\G<w.heap.size/\¬S G/\a.heap.size<=sb/\sb<w.heap.size/\¬S sb/\G≠sb:=
 ⟨(h.tab.sep.lt _ _ h.b6).1,(h.tab.sep.lt _ _ h.b6).2.1,(h.tab.sep.lt _ _ h.b6).2.2,(h.tab.sep.lt _ _ h.b2).1,(h.tab.sep.lt _ _ h.b2).2.1,(h.tab.sep.lt _ _ h.b2).2.2,fun b=>h.tab.sep.ne 6 2 G og h.b6 (by rw[h.b2,b])⟩
theorem TblW.step (h:TblW a w G sb S B k l n len hd e d q s one F Q f bas oth tc) (hg:w.grownBy w' r) (hr:∀b,r=some b->b=G\/b=sb) {p:Nat->Nat} (A:Row w' G 94 af) (C:ScW w' S sb len p):
 TblW a w' G sb S B k l n len hd e d q s one F Q p bas oth af:=by
 have t:=h.gb
 have j:∀b,r=some b->∃c,B c=some b/\c≠3/\c≠4/\c<7/\c≠0/\c≠1:=fun b g=>by
  rcases hr b g with rfl|rfl
  ·exact⟨6,h.b6,by omega,by omega,by omega,by omega,by omega⟩
  ·exact⟨2,h.b2,by omega,by omega,by omega,by omega,by omega⟩
 have nS:∀b,r=some b->¬S b:=fun b g=>by obtain⟨c,i,_⟩:=j b g;exact(h.tab.sep.lt c b i).2.2
 refine⟨h.below.grown hg h.below.size fun b g=>by rcases hr b g with rfl|rfl;exact t.1;exact t.2.2.2.1,A,h.tab.grown hg fun b g=>by obtain⟨c,i,v,y,z,_⟩:=j b g;exact .inr ⟨c,i,v,y,z⟩,
  ⟨h.basO.1.grown IsIV.stb hg fun b g=>⟨fun m=>by obtain⟨c,i,_,_,_,o,_⟩:=j b g;exact h.tab.sep.ne c 0 b o i (h.basO.2▸m),fun x=>x⟩,h.basO.2⟩,
  ⟨h.othO.1.grown IsIV.stb hg fun b g=>⟨fun m=>by obtain⟨c,i,_,_,_,_,o⟩:=j b g;exact h.tab.sep.ne c 1 b o i (h.othO.2▸m),fun x=>x⟩,h.othO.2⟩,
  C,IsK.stb.to h.den (zni hg fun b u=>⟨h.tab.sep.q b u,fun g=>nS b g.symm u⟩),h.b2,h.b6,h.quiet⟩
theorem TblW.next (h:TblW a w G sb S B k l n len hd e d q s one F Q f bas oth tc) (c:Below w.heap.size w w'):TblW a w' G sb S B k l n len hd e d q s one F Q f bas oth tc:=
 h.step (r:=none) (K7 c) (fun b g=>by cases g) (h.row.next c) (h.scl.keep (c.block _ h.scl.lt) (zqg c fun b i=>h.tab.sep.q b i))
theorem TblW.setG (h:TblW a w G sb S B k l n len hd e d q s one F Q f bas oth tc) (hg:w.grownBy w' (some G)) (i:Row w' G 94 af):TblW a w' G sb S B k l n len hd e d q s one F Q f bas oth af:=
 h.step hg (fun b c=>by cases c;exact .inl rfl) i (h.scl.keep (hg.block _ h.scl.lt fun c=>h.gb.2.2.2.2.2.2 (by injection c with c;exact c.symm)) (zni hg fun b g=>⟨h.tab.sep.q b g,fun c=>by injection c with c;exact h.gb.2.2.1 (c▸g)⟩))
theorem TblW.setS (h:TblW a w G sb S B k l n len hd e d q s one F Q f bas oth tc) {v x g:Nat} (hv:v<len) (i:G0 w S (.slice P (A9 x).length g) x):TblW a (w.setCell ⟨sb,v,none⟩ (.slice P (A9 x).length g)) G sb S B k l n len hd e d q s one F Q (O0 f v x) bas oth tc:=
 h.step (r:=some sb) (I9 _ _ _ _) (fun b c=>by cases c;exact .inr rfl) (h.row.far (p:=⟨sb,v,none⟩) (fun c=>h.gb.2.2.2.2.2.2 c) _) (h.scl.put h.gb.2.2.2.2.2.1 hv i)
theorem TblW.more (h:TblW a w G sb S B k l n len hd e d q s one F Q f bas oth tc) (m:Below w.heap.size w w') (i:∀b,S b->T b) (j:∀b,T b->S b\/(w.heap.size<=b/\b<w'.heap.size)):TblW a w' G sb T B k l n len hd e d q s one F Q f bas oth tc:=by
 have c:=h.next m
 exact {c with
  tab:=h.tab.more m i j
  scl:=c.scl.keep rfl (E0 i)
  den:=IsK.stb.to c.den (E0 i)
  quiet:=fun b o=>by
   rcases j b o with g|g
   ·exact h.quiet b g
   ·exact H h.below.size g.1}
theorem TblW.swap (h:TblW a w G sb S B k l n len hd e d q s one F Q f bas oth tc) {i:Nat} (J:i=3\/i=4) (hg:w.grownBy w' (B i)) {t u:Nat} {p:Nat->c} (E:TabO w' a.heap.size T y t u n p ae ad F Q) (v:y 0=B 0) (z:y 1=B 1) (A:y 2=B 2) (C:y 6=B 6)
 (I:Row w' G 94 tc) (D:∀b,S b->T b) (H:∀b,T b->a.heap.size<=b):TblW a w' G sb T y t u n len p ae ad q s one F Q f bas oth tc:=by
 have nS:∀b,B i=some b->¬S b:=fun b g=>(h.tab.sep.lt i b g).2.2;have r:L1 S T w w':=fun b m=>⟨D b m,fun o=>ag (hg.block b (h.tab.sep.q b m) fun g=>nS b g.symm m)⟩
 refine⟨h.below.grown hg h.below.size fun b g=>(h.tab.sep.lt i b g).1,I,E,⟨h.basO.1.grown IsIV.stb hg fun b g=>⟨fun j=>h.tab.sep.ne i 0 b og g (h.basO.2▸j),fun x=>x⟩,by rw[v];exact h.basO.2⟩,
  ⟨h.othO.1.grown IsIV.stb hg fun b g=>⟨fun j=>h.tab.sep.ne i 1 b og g (h.othO.2▸j),fun x=>x⟩,by rw[z];exact h.othO.2⟩,
  h.scl.keep (hg.block _ h.scl.lt fun g=>h.tab.sep.ne i 2 sb og g.symm h.b2) r,IsK.stb.to h.den r,by rw[A];exact h.b2,by rw[C];exact h.b6,H⟩
end
def LinP (w:j) (n0 n:Nat) (z:Nat->Int) (hi:Nat) (u:c):Prop:=
 (n0<=hi/\hi<=w.heap.size)/\OwnS 3 37 IsR w n0 (fun b=>n0<=b/\b<hi/\u.ownBlock≠some b) u (C0 (ints n z))/\∀b,u.ownBlock=some b->b<hi
theorem LinP.grown {w w':j} {n0 n:Nat} (h:LinP w n0 n z hi u) (hg:w.grownBy w' r) (hr:∀b,r=some b->b<n0):LinP w' n0 n z hi u:=
 ⟨⟨h.1.1,H h.1.2 hg.size⟩,h.2.1.grown IsR.stb hg fun b a=>⟨fun c=>by have:=(h.2.1.own_lt b c).1;have:=hr b a;omega,fun d=>by have:=hr b a;have:=d.1;omega⟩,h.2.2⟩
theorem LinP.mk {w w':j} {n0 n:Nat} (h:OwnV w w' u (ints n z)) (e:n0<=w.heap.size) (a:w.heap.size<=w'.heap.size):LinP w' n0 n z w'.heap.size u:=by obtain⟨S,d,g⟩:=h;have i:=d.own_lt;refine⟨⟨by omega,Nat.le_refl _⟩,d.higher IsR.stb e (fun b a=> ?_) fun b a=>⟨a.2.1,fun c=>a.2.2 c.symm⟩,fun b c=>(i b c).2⟩;obtain⟨_,_,_,_,f⟩:=d;have:=f b a;exact⟨H e (g b a),this.1,fun c=>this.2 c.symm⟩
def QinP (w:j) (n0 lo hi:Nat) (q:Rat) (v:c):Prop:=(n0<=lo/\lo<=hi/\hi<=w.heap.size)/\IsQ w (N5 lo hi) v q
theorem QinP.grown {w w':j} {n0:Nat} {q:Rat} (h:QinP w n0 lo hi q v) (hg:w.grownBy w' r) (hr:∀b,r=some b->b<n0):QinP w' n0 lo hi q v:=
 ⟨⟨h.1.1,h.1.2.1,H h.1.2.2 hg.size⟩,h.2.rngG hg h.1.2.2 fun b a=>ah (hr b a) h.1.1⟩
def NinP (w:j) (n0 lo hi x:Nat) (v:c):Prop:=(n0<=lo/\lo<=hi/\hi<=w.heap.size)/\G0 w (N5 lo hi) v x
theorem NinP.grown {w w':j} {n0 x:Nat} (h:NinP w n0 lo hi x v) (hg:w.grownBy w' r) (hr:∀b,r=some b->b<n0):NinP w' n0 lo hi x v:=
 ⟨⟨h.1.1,h.1.2.1,H h.1.2.2 hg.size⟩,IsK.stb.to h.2 (zni hg fun b a=>⟨ah a.2 h.1.2.2,fun c=>by have:=hr b c.symm;have:=a.1;have:=h.1.1;omega⟩)⟩
def yqb (ops:Array Oper) (n:Nat) (p:List Nat):Bool:=(List.range n).all fun i=>(ops[i]?).all fun o=>match o.dst with|none=>true|some d=>p.contains d
theorem zwc {n:Nat} (h:yqb ops n p=true):∀t,t∉p->zov ops n t=false:=fun t g=>by
 rcases Bool.eq_false_or_eq_true (zov ops n t) with a|a
 ·unfold zov at a
  obtain⟨i,e,b⟩:=List.any_eq_true.1 a
  have c:=List.all_eq_true.1 h i e
  cases d:ops[i]? with
  |none=>rw[d] at b;cases b
  |some o=>
   rw[d] at b c
   have f:o.dst=some t:=by simpa using b
   simp only[Option.all_some,f] at c
   exact absurd (by simpa using c) g
 ·exact a
theorem yzx {P:Program} {w:j} {a:Act} {e:Act->j->Prop} {Q:Exit->Act->j->Prop} {t b:TypeId} {z:c} {bytes:Nat} (d:ElT P t b z bytes) (F:z.cells= #[z]) (l g:Operand) (E:o.op=Op.makeSlice t l g) {m k:IntKind} {f C:Int} (n:Nat)
 (B:a.eval l= .int m f) (hc:a.eval g= .int k C) (v:f=(n:Int)) (s:C=(n:Int)) (x:n*(bytes+1)<=140737488355328)
 (u:∀w',Row w' w.heap.size b (List.replicate n z)->Below w.heap.size w w'->e (a.put o.dst (.slice (some ⟨w.heap.size,0,none⟩) n n)) w'):o.wp P a w e Q:=by obtain⟨i,p,q,r,A⟩:=d.info;rw[Nat.mul_add,Nat.mul_one] at x;have b2:i.bytes*n<=281474976710656:=(by rw[A,Nat.mul_comm];omega);have y:(i.bytes:Int)*(n:Int)<=281474976710656:=(by have h:((i.bytes*n:Nat):Int)<=281474976710656:=og;rwa[Int.natCast_mul] at h);have hr:=run_make (P:=P) w t b i z d.und p q m k n n og (Int.le_refl _) y og;simp only[Int.toNat_natCast] at hr;subst v;subst s;unfold Oper.wp;simp[execOp,E,B,hc,hr,Result.andThen];refine u _ ?_ ((Below.refl _ _).alloc (Nat.le_refl _) _);unfold Row;(have D:(List.replicate n z).toArray=madeCells z.cells (n*i.size):=by apply Array.ext';rw[r,Nat.mul_one,F];show _=(madeCells #[z] n).toList;rw[toList_madeCells_one]);rw[D];exact heap_alloc_new w _
def zuf (app n0 k:Nat) (w w':j):Prop:=∃r,w.grownBy w' r/\(r=none\/(k=app/\∀b,r=some b->n0<=b))
theorem zmd {n0 k:Nat} {w w':j} (h:w.grownBy w' none):zuf app n0 k w w':=⟨none,h,.inl rfl⟩
theorem ykk {n0 k:Nat} {a w w':j} (h:Below n0 a w) (e:n0<=w.heap.size) (d:zuf app n0 k w w'):Below n0 a w':=by
 obtain⟨r,hg,hr⟩:=d;refine h.grown hg e fun b c=> ?_;rcases hr with rfl|⟨_,h⟩
 ·cases c
 ·exact h b c
theorem yvj {w:j} {S:Nat->Prop} {x:Nat} (h:G0 w S v x) (d:1<=(A9 x).length):∃b o a,v= .slice (some ⟨b,o,none⟩) (A9 x).length a/\S b/\G0 w (fun y=>y=b) v x:=by obtain⟨A,a,hv,f,g,i⟩:=h;obtain⟨b,off,c,k,hc⟩:=i (fun e=>by have:(C8 .u32 (A9 x)).length=0:=(by rw[e];rfl);simp[C8] at this;rw[this] at d;simp at d);exact⟨b,off,a,by rw[hv,c],k,A,a,hv,f,g,fun _=>⟨b,off,c,rfl,hc⟩⟩
theorem yhx {w:j} {g x:Nat} {t:TypeId} {n:List c} (h:G0 w (fun y=>y=b) v x) (m:1<=(A9 x).length) (hr:Row w g t n) (q:∀u∈n,∀i:Int,u≠.int .u32 i):b≠g:=fun a=>by
 obtain⟨A,r,hv,s,z,p⟩:=h
 have k:C8 .u32 (A9 x)≠[]:=fun a=>by
  have:(C8 .u32 (A9 x)).length=0:=by rw[a];rfl
  simp[C8] at this
  rw[this] at m
  simp at m
 obtain⟨o,off,B,d,hc⟩:=p k
 obtain⟨u,C,l⟩:=List.exists_cons_of_ne_nil k
 have e:=hc 0 u (by rw[l];rfl)
 have d:o=g:=d.trans a
 rw[d,Nat.add_zero,hr.cell] at e
 have f:u∈C8 .u32 (A9 x):=by rw[l];simp
 unfold C8 at f
 obtain⟨y,_,rfl⟩:=List.mem_map.1 f
 exact q _ (List.mem_of_getElem? e) _ rfl
def zzn (D:Nat) (a:Option M) (m d:Nat) (f:Option M) (n g n0:Nat) (i:Nat) (v:c) (w:j) (X:Nat->Option c):Prop:=
 match i with
 |0=>(∃b o e,v= .slice (some ⟨b,o,none⟩) (A9 1).length e/\n0<=b/\G0 w (fun x=>x=b) v 1)
 |1=>v= .pointer (some ⟨D,0,none⟩)
 |2=>v= .slice a m d
 |3=>v= .int .i64 (m:Int)
 |4=>v= .pointer (some ⟨D,1,none⟩)
 |5=>v= .slice f n g
 |6=>v= .int .i64 (n:Int)
 |7=>v= .int .i64 (((m+n:Nat)):Int)
 |8=>(∃sb,v= .slice (some ⟨sb,0,none⟩) (m+n) (m+n)/\n0<=sb/\Row w sb 35 (List.replicate (m+n) (.slice none 0 0)))
 |9=>(∃u s,X 0=some u/\X 8=some s/\v= .agg #[.slice none 0 0,.slice none 0 0,.slice none 0 0,.slice none 0 0,.slice none 0 0,.bool false,.slice none 0 0,.slice none 0 0,u,s,.slice none 0 0])
 |10=>(∃G,v= .pointer (some ⟨G,0,none⟩)/\n0<=G/\Row w G 94 [.slice none 0 0,.slice none 0 0,.slice none 0 0,.slice none 0 0,.slice none 0 0,.bool false,.slice none 0 0,.slice none 0 0,.slice none 0 0,.slice none 0 0,.slice none 0 0])
 |_=>True
def zzo (D:Nat) (row rest:c) (O R Y:Nat) (A:Bool) (I:Option M) (C J:Nat) (K:Option M) (E L:Nat) (l:List Raw) (y:Raw) (N n0:Nat) (i:Nat) (v:c) (w:j) (X:Nat->Option c):Prop:=
 match i with
 |0=>v=row
 |1=>(∃hi,(n0<=hi/\hi<=w.heap.size)/\(X 8=none->OwnS 3 37 IsR w n0 (fun b=>b<hi) v l)/\∀b,v.ownBlock=some b->hi<=b)
 |2=>v= .pointer (some ⟨D,3,none⟩)
 |3=>v=rest
 |4=>v= .int .i64 (O:Int)
 |5=>v= .pointer (some ⟨R,(Y+O*3),none⟩)
 |6=>v= .agg #[.bool A,.slice I C J,.slice K E L]
 |7=>(X 8=none->NewRow w n0 37 [.bool A,.slice I C J,.slice K E L] v)
 |8=>(∃hi,(n0<=hi/\hi<=w.heap.size)/\OwnS 3 37 IsR w n0 (fun b=>b<hi) v (l++[y]))
 |9=>(∃q,X 8=some q/\∃lo hi,NinP w n0 lo hi N v)
 |_=>True
def zzp (G:Nat) (e row Z:c) (n:Nat) (z:Nat->Int) (a:List c) (n0 base:Nat) (i:Nat) (v:c) (w:j) (X:Nat->Option c):Prop:=
 match i with
 |0=>v= .pointer (some ⟨G,0,none⟩)
 |1=>v= .pointer (some ⟨G,2,none⟩)
 |2=>v=e
 |3=>v=row
 |4=>v=Z
 |5=>(∃hi,LinP w n0 n z hi v)
 |6=>(∃hi u,LinP w n0 n z hi u/\NewRow w n0 30 [u] v)
 |7=>(∃hi u,LinP w n0 n z hi u/\OwnS 1 30 IsVal w base (fun _=>False) v (a++[u])/\(v.ownBlock=e.ownBlock\/∃b,v.ownBlock=some b/\hi<=b))
 |8=>v= .pointer (some ⟨G,0,none⟩)
 |9=>v= .pointer (some ⟨G,2,none⟩)
 |_=>True
def zzq (D G:Nat) (d rest Z:c) (O R Y:Nat) (A:Bool) (I:Option M) (C J:Nat) (K:Option M) (E L:Nat) (z:Rat) (e:Nat->Prop) (l:List Raw) (n0 base:Nat) (i:Nat) (v:c) (w:j) (X:Nat->Option c):Prop:=
 match i with
 |0=>v= .pointer (some ⟨G,0,none⟩)
 |1=>v= .pointer (some ⟨G,3,none⟩)
 |2=>v=d
 |3=>v= .pointer (some ⟨D,3,none⟩)
 |4=>v=rest
 |5=>v= .int .i64 (O:Int)
 |6=>v= .pointer (some ⟨R,(Y+O*3),none⟩)
 |7=>v= .agg #[.bool A,.slice I C J,.slice K E L]
 |8=>v=Z
 |9=>(∃lo hi,QinP w n0 lo hi z v)
 |10=>(∃lo hi a,QinP w n0 lo hi z a/\NewRow w n0 37 a.cells.toList v)
 |11=>(∃lo hi,(n0<=lo/\lo<=hi/\hi<=w.heap.size)/\OwnS 3 37 IsR w base (fun b=>e b\/N5 lo hi b) v (l++[D8 z])/\(v.ownBlock=d.ownBlock\/∃b,v.ownBlock=some b/\hi<=b))
 |12=>v= .pointer (some ⟨G,0,none⟩)
 |13=>v= .pointer (some ⟨G,3,none⟩)
 |_=>True
def zzr (D G:Nat) (row:c) (A:Bool) (I:Option M) (C J:Nat) (K:Option M) (E L:Nat) (l:List Raw) (y:Raw) (N n0:Nat) (i:Nat) (v:c) (w:j) (X:Nat->Option c):Prop:=
 match i with
 |0=>v= .pointer (some ⟨D,4,none⟩)
 |1=>v=row
 |2=>(∃hi,(n0<=hi/\hi<=w.heap.size)/\(X 6=none->OwnS 3 37 IsR w n0 (fun b=>b<hi) v l)/\∀b,v.ownBlock=some b->hi<=b)
 |3=>v= .pointer (some ⟨D,5,none⟩)
 |4=>v= .agg #[.bool A,.slice I C J,.slice K E L]
 |5=>(X 6=none->NewRow w n0 37 [.bool A,.slice I C J,.slice K E L] v)
 |6=>(∃hi,(n0<=hi/\hi<=w.heap.size)/\OwnS 3 37 IsR w n0 (fun b=>b<hi) v (l++[y]))
 |7=>(∃q,X 6=some q/\∃lo hi,NinP w n0 lo hi N v)
 |8=>v= .pointer (some ⟨G,10,none⟩)
 |_=>True
theorem ywd {D:Nat} {p:Option M} {q:Nat} {t:Option M} {n z n0:Nat}:∀i k v w w' X u,i≠k->X k=none->zzn D p m q t n z n0 i v w X->w.grownBy w' none->zzn D p m q t n z n0 i v w' (W7 X k u):=fun i k v w w' X u F r h g=>by
 match i,F,h with
 |0,_,h=>
  obtain⟨b,o,C,d,e,a⟩:=h
  have K:b<w.heap.size\/True:= .inr trivial
  exact⟨b,o,C,d,e,IsK.stb.to a fun x s=>⟨s,fun L=>ag (g.block x (by obtain⟨A,J,hv,_,_,E⟩:=a;obtain⟨B,off,_,l,hc⟩:=E (by rw[zka];simp[C8]);have I:x=b:=s;have l:B=b:=l;rw[I,<-l];exact World.block_lt_of_cell? w _ (hc 0 _ (by rw[zka];rfl))) (by simp))⟩⟩
 |1,_,h=>exact h
 |2,_,h=>exact h
 |3,_,h=>exact h
 |4,_,h=>exact h
 |5,_,h=>exact h
 |6,_,h=>exact h
 |7,_,h=>exact h
 |8,_,h=>
  obtain⟨sb,d,e,a⟩:=h
  exact⟨sb,d,e,a.grownN g fun b f=>by cases f⟩
 |9,_,h=>
  obtain⟨x,y,d,e,a⟩:=h
  exact⟨x,y,zqm d r,zqm e r,a⟩
 |10,_,h=>
  obtain⟨G,d,e,a⟩:=h
  exact⟨G,d,e,a.grownN g fun b f=>by cases f⟩
 |_+11,_,_=>exact trivial
theorem yvz {D:Nat} {row:c} {A:Bool} {C:Nat} {E:Nat} {l:List Raw} {y:Raw} {n0:Nat}:∀i f v w w' X u,i≠f->X f=none->zzo D row rest O R Y A I C J K E L l y N n0 i v w X->zuf 8 n0 f w w'->zzo D row rest O R Y A I C J K E L l y N n0 i v w' (W7 X f u):=fun i f v w w' X u g s h p=>by
 obtain⟨r,hg,hr⟩:=p
 have m:f≠8->r=none:=fun h=>hr.elim id fun o=>absurd o.1 h
 match i,g,h with
 |0,_,h=>exact h
 |1,g,h=>
  obtain⟨hi,d,k,n⟩:=h
  by_cases e:f=8
  ·subst e
   exact⟨hi,⟨d.1,H d.2 hg.size⟩,fun a=>(by rw[W7,if_pos rfl] at a;cases a),n⟩
  ·have:=m e
   subst this
   exact⟨hi,⟨d.1,H d.2 hg.size⟩,fun a=>(k (by rw[zrs (Ne.symm e)] at a;exact a)).grown IsR.stb hg (fun b a=>by cases a),n⟩
 |2,_,h=>exact h
 |3,_,h=>exact h
 |4,_,h=>exact h
 |5,_,h=>exact h
 |6,_,h=>exact h
 |7,g,h=>
  by_cases e:f=8
  ·subst e
   exact fun a=>(by rw[W7,if_pos rfl] at a;cases a)
  ·have:=m e
   subst this
   exact fun a=>(h (by rw[zrs (Ne.symm e)] at a;exact a)).grown hg (fun b a=>by cases a)
 |8,g,h=>
  have:=m (Ne.symm g)
  subst this
  obtain⟨hi,d,k⟩:=h
  exact⟨hi,⟨d.1,H d.2 hg.size⟩,k.grown IsR.stb hg (fun b a=>by cases a)⟩
 |9,g,h=>
  obtain⟨q,d,lo,hi,k⟩:=h
  by_cases e:f=8
  ·subst e
   rw[s] at d
   cases d
  ·have:=m e
   subst this
   exact⟨q,by rw[zrs (Ne.symm e)];exact d,lo,hi,k.grown hg (fun b a=>by cases a)⟩
 |_+10,_,_=>exact trivial
theorem ywc {D G:Nat} {row:c} {A:Bool} {C:Nat} {E:Nat} {l:List Raw} {y:Raw} {n0:Nat}:∀i f v w w' X u,i≠f->X f=none->zzr D G row A I C J K E L l y N n0 i v w X->zuf 6 n0 f w w'->zzr D G row A I C J K E L l y N n0 i v w' (W7 X f u):=fun i f v w w' X u g s h p=>by
 obtain⟨r,hg,hr⟩:=p
 have m:f≠6->r=none:=fun h=>hr.elim id fun o=>absurd o.1 h
 match i,g,h with
 |0,_,h=>exact h
 |1,_,h=>exact h
 |2,g,h=>
  obtain⟨hi,d,k,n⟩:=h
  by_cases e:f=6
  ·subst e
   exact⟨hi,⟨d.1,H d.2 hg.size⟩,fun a=>(by rw[W7,if_pos rfl] at a;cases a),n⟩
  ·have:=m e
   subst this
   exact⟨hi,⟨d.1,H d.2 hg.size⟩,fun a=>(k (by rw[zrs (Ne.symm e)] at a;exact a)).grown IsR.stb hg (fun b a=>by cases a),n⟩
 |3,_,h=>exact h
 |4,_,h=>exact h
 |5,g,h=>
  by_cases e:f=6
  ·subst e
   exact fun a=>(by rw[W7,if_pos rfl] at a;cases a)
  ·have:=m e
   subst this
   exact fun a=>(h (by rw[zrs (Ne.symm e)] at a;exact a)).grown hg (fun b a=>by cases a)
 |6,g,h=>
  have:=m (Ne.symm g)
  subst this
  obtain⟨hi,d,k⟩:=h
  exact⟨hi,⟨d.1,H d.2 hg.size⟩,k.grown IsR.stb hg (fun b a=>by cases a)⟩
 |7,g,h=>
  obtain⟨q,d,lo,hi,k⟩:=h
  by_cases e:f=6
  ·subst e
   rw[s] at d
   cases d
  ·have:=m e
   subst this
   exact⟨q,by rw[zrs (Ne.symm e)];exact d,lo,hi,k.grown hg (fun b a=>by cases a)⟩
 |8,_,h=>exact h
 |_+9,_,_=>exact trivial
def zsa (e:c):Nat->Option Nat:=fun k=>match k with|7=>e.ownBlock|_=>none
theorem ywa {G:Nat} {e row:c} {n:Nat} {p:List c} {n0:Nat} (r:∀b,e.ownBlock=some b->b<n0):∀i k v w w' X u,i≠k->X k=none->zzp G e row Z n z p n0 base i v w X->w.grownBy w' (zsa e k)->zzp G e row Z n z p n0 base i v w' (W7 X k u):=fun i k v w w' X u m s h f=>by
 have o:∀b,zsa e k=some b->k=7/\e.ownBlock=some b:=fun b a=>by
  unfold zsa at a
  split at a
  ·exact⟨rfl,a⟩
  ·cases a
 have g:∀b,zsa e k=some b->b<n0:=fun b a=>r b (o b a).2
 match i,m,h with
 |0,_,h=>exact h
 |1,_,h=>exact h
 |2,_,h=>exact h
 |3,_,h=>exact h
 |4,_,h=>exact h
 |5,_,h=>
  obtain⟨hi,d⟩:=h
  exact⟨hi,d.grown f g⟩
 |6,_,h=>
  obtain⟨hi,x,d,l⟩:=h
  exact⟨hi,x,d.grown f g,l.grown f g⟩
 |7,m,h=>
  obtain⟨hi,x,d,l,q⟩:=h
  exact⟨hi,x,d.grown f g,l.grown IsVal.stb f fun b a=>absurd (o b a).1 (Ne.symm m),q⟩
 |8,_,h=>exact h
 |9,_,h=>exact h
 |_+10,_,_=>exact trivial
def zsb (d:c):Nat->Option Nat:=fun k=>match k with|11=>d.ownBlock|_=>none
theorem ywb {D G:Nat} {d:c} {A:Bool} {C:Nat} {E:Nat} {z:Rat} {o:Nat->Prop} {l:List Raw} {n0:Nat} (r:∀b,d.ownBlock=some b->b<n0):∀i k v w w' X u,i≠k->X k=none->zzq D G d rest Z O R Y A I C J K E L z o l n0 base i v w X->w.grownBy w' (zsb d k)->zzq D G d rest Z O R Y A I C J K E L z o l n0 base i v w' (W7 X k u):=fun i k v w w' X u m s h f=>by
 have p:∀b,zsb d k=some b->k=11/\d.ownBlock=some b:=fun b a=>by
  unfold zsb at a
  split at a
  ·exact⟨rfl,a⟩
  ·cases a
 have n:∀b,zsb d k=some b->b<n0:=fun b a=>r b (p b a).2
 match i,m,h with
 |0,_,h=>exact h
 |1,_,h=>exact h
 |2,_,h=>exact h
 |3,_,h=>exact h
 |4,_,h=>exact h
 |5,_,h=>exact h
 |6,_,h=>exact h
 |7,_,h=>exact h
 |8,_,h=>exact h
 |9,_,h=>
  obtain⟨lo,hi,e⟩:=h
  exact⟨lo,hi,e.grown f n⟩
 |10,_,h=>
  obtain⟨lo,hi,x,e,g⟩:=h
  exact⟨lo,hi,x,e.grown f n,g.grown f n⟩
 |11,m,h=>
  obtain⟨lo,hi,e,g,q⟩:=h
  exact⟨lo,hi,⟨e.1,e.2.1,H e.2.2 f.size⟩,g.grown IsR.stb f fun b a=>absurd (p b a).1 (Ne.symm m),q⟩
 |12,_,h=>exact h
 |13,_,h=>exact h
 |_+14,_,_=>exact trivial
def ylx (base:Nat) (e:c) (a:List c) (i:Nat) (w:j):Prop:=i=7->OwnS 1 30 IsVal w base (fun _=>False) e a
def yly (base:Nat) (a:Nat->Prop) (d:c) (l:List Raw) (i:Nat) (w:j):Prop:=i=11->OwnS 3 37 IsR w base a d l
def JT (a:j) (G:Nat) (tc:List c) (r1:Option Nat) (b w:j):Prop:=Row w G 94 tc/\Kept r1 none none b w/\Below a.heap.size a w
theorem JT.step {a:j} {G:Nat} {tc:List c} {r1:Option Nat} {f w w':j} (h:JT a G tc r1 f w) (e:w.grownBy w' r) (hr:r=none\/r=r1) (hg:∀b,r1=some b->G≠b/\a.heap.size<=b):JT a G tc r1 f w':=by (have key:∀b,r=some b->r1=some b:=fun b d=>by rcases hr with h|h;rw[h] at d;cases d;rw[<-h];exact d);exact⟨h.1.grownN e fun b d=>(hg b (key b d)).1,h.2.1.step e (by rcases hr with h|h;exact .inl h;exact .inr (.inl h)),h.2.2.grown e h.2.2.size fun b d=>(hg b (key b d)).2⟩
theorem Kept.grown1 {w w':j} (h:Kept r none none w w'):w.grownBy w' r:=⟨h.os,h.tape,h.output,h.size,fun k a hr=>h.block k a hr (by simp) (by simp)⟩
theorem ykv:Tryz.prog.cellsOf 94=11:=by kernel_rfl
theorem zqv:Tryz.prog.cellsOf 59=8:=by kernel_rfl
section
variable {w ac : j} {g : Nat} {t : TypeId} {A C E x D U V W aa ab X : c}
abbrev put11 (ac:j) (g:Nat) (a b e f h i k l m n d:c):j:=((((((((((ac.setCell ⟨g,0,none⟩ a).setCell ⟨g,1,none⟩ b).setCell ⟨g,2,none⟩ e).setCell ⟨g,3,none⟩ f).setCell ⟨g,4,none⟩ h).setCell ⟨g,5,none⟩ i).setCell ⟨g,6,none⟩ k).setCell ⟨g,7,none⟩ l).setCell ⟨g,8,none⟩ m).setCell ⟨g,9,none⟩ n).setCell ⟨g,10,none⟩ d
theorem Row.put11 (h:Row ac g t [A,C,E,x,D,U,V,W,aa,ab,X]) (a b e f i j k l m n d:c):Row (Go.Proofs.YtdgilbgdkmhcmaaGreatDoor.put11 ac g a b e f i j k l m n d) g t [a,b,e,f,i,j,k,l,m,n,d]:=((((((((((h.set_ 0 a).set_ 1 b).set_ 2 e).set_ 3 f).set_ 4 i).set_ 5 j).set_ 6 k).set_ 7 l).set_ 8 m).set_ 9 n).set_ 10 d
theorem yam (ac:j) (g:Nat) (a b e f h i k l m n d:c):ac.grownBy (put11 ac g a b e f h i k l m n d) (some g):=J6 (J6 (J6 (J6 (J6 (J6 (J6 (J6 (J6 (J6 (I9 _ _ _ _) (I9 _ _ _ _)) (I9 _ _ _ _)) (I9 _ _ _ _)) (I9 _ _ _ _)) (I9 _ _ _ _)) (I9 _ _ _ _)) (I9 _ _ _ _)) (I9 _ _ _ _)) (I9 _ _ _ _)) (I9 _ _ _ _)
theorem zmp (h:Row w g t [A,C,E,x,D,U,V,W,aa,ab,X]):w.cell? ⟨g,0,none⟩=some A/\w.cell? ⟨g,1,none⟩=some C/\w.cell? ⟨g,2,none⟩=some E/\w.cell? ⟨g,3,none⟩=some x/\w.cell? ⟨g,4,none⟩=some D/\w.cell? ⟨g,5,none⟩=some U/\w.cell? ⟨g,6,none⟩=some V/\w.cell? ⟨g,7,none⟩=some W/\w.cell? ⟨g,8,none⟩=some aa/\w.cell? ⟨g,9,none⟩=some ab/\w.cell? ⟨g,10,none⟩=some X:=⟨h.cell 0,h.cell 1,h.cell 2,h.cell 3,h.cell 4,h.cell 5,h.cell 6,h.cell 7,h.cell 8,h.cell 9,h.cell 10⟩
theorem zwz (h:Row w g t [A,C,E,x,D,U,V,W,aa,ab,X]):w.frozen? ⟨g,0,none⟩=false/\w.frozen? ⟨g,1,none⟩=false/\w.frozen? ⟨g,2,none⟩=false/\w.frozen? ⟨g,3,none⟩=false/\w.frozen? ⟨g,4,none⟩=false/\w.frozen? ⟨g,5,none⟩=false/\w.frozen? ⟨g,6,none⟩=false/\w.frozen? ⟨g,7,none⟩=false/\w.frozen? ⟨g,8,none⟩=false/\w.frozen? ⟨g,9,none⟩=false/\w.frozen? ⟨g,10,none⟩=false:=⟨h.frozen 0,h.frozen 1,h.frozen 2,h.frozen 3,h.frozen 4,h.frozen 5,h.frozen 6,h.frozen 7,h.frozen 8,h.frozen 9,h.frozen 10⟩
theorem zkj (h:Row w g t [A,C,E,x,D,U,V,W]):w.cell? ⟨g,0,none⟩=some A/\w.cell? ⟨g,1,none⟩=some C/\w.cell? ⟨g,2,none⟩=some E/\w.cell? ⟨g,3,none⟩=some x/\w.cell? ⟨g,4,none⟩=some D/\w.cell? ⟨g,5,none⟩=some U/\w.cell? ⟨g,6,none⟩=some V/\w.cell? ⟨g,7,none⟩=some W:=⟨h.cell 0,h.cell 1,h.cell 2,h.cell 3,h.cell 4,h.cell 5,h.cell 6,h.cell 7⟩
end
theorem yye {fn:Func} {slot:Tmp} {R:Ending->j->Prop} {a:Act} {w:j} {g:Nat} {A C E x D U V W aa ab X:c} (hr:fn.results= #[.cell slot 94]) (ha:a.tmps.getD slot undef= .pointer (some ⟨g,0,none⟩)) (hd:a.defers=[])
 (h:Row w g 94 [A,C,E,x,D,U,V,W,aa,ab,X]) (q:R (.returned (.agg #[A,C,E,x,D,U,V,W,aa,ab,X])) w):bodyPost Tryz.prog fn R .ret a w:=by refine bodyPost_ret (v:= .agg #[A,C,E,x,D,U,V,W,aa,ab,X]) ?_ hd q;obtain⟨b,d,f,i,k,l,m,n,o,p,e⟩:=zmp h;have r:a.tmps[slot]?.getD undef= .pointer (some ⟨g,0,none⟩):=(by simpa using ha);simp[results,hr,r,asAddr,go_sem,b,d,f,i,k,l,m,n,o,p,e]
theorem TabO.nil {w:j} {S:Nat->Prop} {B:Nat->Option Nat} {n:Nat} {hd:Nat->c} {F:Nat->Nat->Int} {Q:Nat->Int} (h:Sep w base S B) (a:B 3=none) (d:B 4=none):TabO w base S B 0 0 n hd (.slice none 0 0) (.slice none 0 0) F Q:=
 ⟨fun i hi=>absurd hi og,⟨OwnS.nil h.q,d.symm⟩,⟨OwnS.nil fun b h=>h.elim,a.symm⟩,h⟩
def B0 (sb G:Nat):Nat->Option Nat:=fun a=>if a=2 then some sb else if a=6 then some G else none
theorem yzc {w:j} {d sb G:Nat} (h:base<=d/\d<w.heap.size) (e:base<=sb/\sb<w.heap.size) (f:base<=G/\G<w.heap.size) (l:d≠sb) (m:d≠G) (g:sb≠G):Sep w base (fun b=>b=d) (B0 sb G):=by
 refine⟨fun i b a=> ?_,fun i o b n a c=> ?_,fun b k=>by rw[k];exact h.2⟩
 ·unfold B0 at a;split at a
  ·cases a;exact⟨e.1,e.2,fun a=>l a.symm⟩
  ·split at a
   ·cases a;exact⟨f.1,f.2,fun a=>m a.symm⟩
   ·cases a
 ·unfold B0 at a c;split at a
  ·cases a;rw[if_neg og] at c;split at c
   ·cases c;exact g rfl
   ·cases c
  ·split at a
   ·cases a;split at c
    ·cases c;exact g rfl
    ·rw[if_neg og] at c;cases c
   ·cases a
section
variable {a w w' : j} {G sb : Nat} {S : Nat → Prop} {B : Nat → Option Nat} {k l n len : Nat} {hd : Nat → c} {e d q s one : c} {F : Nat → Nat → Int} {Q : Nat → Int} {f : Nat → Nat} {bas oth : List Nat} {tc : List c}
theorem TblW.copied (h:TblW a w G sb S B 0 0 n len hd (.slice none 0 0) (.slice none 0 0) (.slice none 0 0) (.slice none 0 0) one F Q f [] [] tc) (c:Below w.heap.size w w') {mid:Nat} (k:w.heap.size<=mid) (p:mid<=w'.heap.size)
 (e:OwnS 1 3 IsIV w' w.heap.size (fun _=>False) q (bas.map fun(x:Nat)=>(x:Int))) (m:∀b,q.ownBlock=some b->b<mid) (g:OwnS 1 3 IsIV w' mid (fun _=>False) s (oth.map fun(x:Nat)=>(x:Int))):
 TblW a w' G sb S (zky (zky B 0 q.ownBlock) 1 s.ownBlock) 0 0 n len hd (.slice none 0 0) (.slice none 0 0) q s one F Q f bas oth tc:=by
 have j:=h.next c
 have r:Sep w' a.heap.size S (zky (zky B 0 q.ownBlock) 1 s.ownBlock):=h.tab.sep.two (hi:=mid) og c.size h.below.size p k (fun b c=> .inl c) (fun b d=>⟨(e.own_lt b d).1,m b d,fun o=>by have:=h.tab.sep.q b o;have:=(e.own_lt b d).1;omega⟩) (by
  rcases l:s.ownBlock with _|b
  ·exact .inl (h.othO.2.symm▸rfl)
  ·exact .inr ⟨b,rfl,(g.own_lt b l).1,(g.own_lt b l).2⟩)
 exact {j with
  tab:=j.tab.place r (by rw[K9 og,K9 og]) (by rw[K9 og,K9 og]) (fun i=>by rw[K9 og,K9 og])
  basO:=⟨e.higher IsIV.stb h.below.size (fun b h=>h) fun b h=>h.elim,by rw[K9 og,znv]⟩
  othO:=⟨g.higher IsIV.stb (H h.below.size k) (fun b h=>h) fun b h=>h.elim,by rw[znv]⟩
  b2:=by rw[K9 og,K9 og];exact h.b2
  b6:=by rw[K9 og,K9 og];exact h.b6}
theorem TblW.rowT (h:TblW a w G sb S B k l n len hd e d q s one F Q f bas oth tc) (m:w.grownBy w' e.ownBlock) (o:Row w' G 94 tc) (g:LinP w' w.heap.size n (F k) hi u) (hv:OwnS 1 30 IsVal w' a.heap.size (fun _=>False) ae ((List.range k).map hd++[u])) (p:ae.ownBlock=e.ownBlock\/∃b,ae.ownBlock=some b/\hi<=b):
 ∃i y,(∀b,S b->i b)/\TblW a w' G sb i y (k+1) l n len (zqh hd k u) ae d q s one F Q f bas oth tc:=by
 have j:w.grownBy w' (B 3):=by rw[<-h.tab.heads.2];exact m
 exact⟨_,_,fun b c=> .inl c,h.swap (.inl rfl) j (h.tab.row h.below.size j g.1.1 g.1.2 g.2.1 g.2.2 hv p) (by rw[K9 og,K9 og]) (by rw[K9 og,K9 og]) (by rw[K9 og,K9 og]) (by rw[K9 og,K9 og]) o (fun b c=> .inl c) fun b c=>by
  rcases c with c|c
  ·exact h.quiet b c
  ·exact H h.below.size c.1⟩
theorem TblW.restT (h:TblW a w G sb S B k l n len hd e d q s one F Q f bas oth tc) (r:w.grownBy w' d.ownBlock) (t:Row w' G 94 tc) (j:w.heap.size<=lo/\lo<=hi/\hi<=w'.heap.size) (hv:OwnS 3 37 IsR w' a.heap.size (fun b=>S b\/N5 lo hi b) ad (C0 (ints l Q)++[D8 ((Q l:Int):Rat)])) (u:ad.ownBlock=d.ownBlock\/∃b,ad.ownBlock=some b/\hi<=b):
 ∃m y,(∀b,S b->m b)/\TblW a w' G sb m y k (l+1) n len hd e ad q s one F Q f bas oth tc:=by
 have o:w.grownBy w' (B 4):=(by rw[<-h.tab.rests.2];exact r);have g:C0 (ints (l+1) Q)=C0 (ints l Q)++[D8 ((Q l:Int):Rat)]:=(by rw[ygm];simp[C0]);have p:∀b,(S b\/N5 lo hi b)->S b\/(w.heap.size<=b/\b<w'.heap.size):=fun b c=>c.imp id fun c=>⟨H j.1 c.1,ah c.2 j.2.2⟩
 exact⟨_,_,fun b c=> .inl c,h.swap (.inr rfl) o (h.tab.rest (T:=fun b=>S b\/N5 lo hi b) h.below.size o (fun b c=> .inl c) p (by rw[g];exact hv) fun b g=>by
  rcases u with i|⟨v,i,x⟩
  ·exact .inl (by rw[<-h.tab.rests.2,<-i];exact g)
  ·rw[i] at g;cases g;exact .inr og) (K9 og) (K9 og) (K9 og) (K9 og) t (fun b c=> .inl c) fun b c=>by
  rcases c with c|c
  ·exact h.quiet b c
  ·exact H h.below.size (H j.1 c.1)⟩
theorem TblW.fin (h:TblW a w G sb S B m m n len hd e d q s one F Q f bas oth tc) (hf:∀v,v∈bas++oth->v<len/\f v=sc v) {N top:c} {C:Nat->Int} {z:Int} {t J:Nat} (A:Below w.heap.size w w') (r:LinP w' w.heap.size n C hi u) (M:QinP w' w.heap.size lo J ((z:Int):Rat) N) (U:hi<=lo) (R:G0 w S top t):
 ∃l y,TabE w' a.heap.size l y m n hd e d u q s sb F Q C sc bas oth/\G0 w' l one 1/\G0 w' l top t/\IsQ w' l N ((z:Int):Rat)/\(∀b,l b->a.heap.size<=b)/\y 6=some G:=by
 obtain⟨T,p⟩:∃T:Nat->Prop,T=fun b=>S b\/(w.heap.size<=b/\b<J/\u.ownBlock≠some b):=⟨_,rfl⟩;have H:∀b,S b->T b:=fun b g=>(by rw[p];exact .inl g);have V:=M.1;have I:∀b,T b->S b\/(w.heap.size<=b/\b<w'.heap.size):=fun b g=>(by rw[p] at g;exact g.imp id fun h=>⟨h.1,by omega⟩);have x:=r.2.1.own_lt;have k:=h.more A H I
 have K:∀b,u.ownBlock=some b->¬T b:=fun b j g=>by
  rw[p] at g;rcases g with g|g
  ·have:=h.tab.sep.q b g;have:=(x b j).1;omega
  ·exact g.2.2 j
 have L:Sep w' a.heap.size T (zky B 5 u.ownBlock):=h.tab.sep.upd A.size h.below.size I fun b j=> .inr ⟨(x b j).1,(x b j).2,K b j⟩;refine⟨T,zky B 5 u.ownBlock,⟨k.tab.place L (K9 og) (K9 og) (fun i=>K9 og),⟨r.2.1.higher IsR.stb h.below.size (fun b g=> ?_) fun b g=>⟨L.q b g,fun j=>K b j.symm g⟩,(znv _ _ _).symm⟩,⟨k.basO.1,by rw[K9 og];exact k.basO.2⟩,⟨k.othO.1,by rw[K9 og];exact k.othO.2⟩,⟨by rw[K9 og];exact k.b2,fun v hv=> ?_⟩⟩,k.den,IsK.stb.to R fun b g=>⟨H b g,fun o=>A.cell (p:=⟨b,o,none⟩) (h.tab.sep.q b g)⟩,IsQ.stb.to M.2 (E0 fun b g=> ?_),k.quiet,(K9 og).trans h.b6⟩
 ·rw[p];exact .inr ⟨g.1,by have:=g.2.1;omega,g.2.2⟩
 ·obtain⟨P,O,D,E⟩:=k.scl.el v (hf v hv).1;rw[(hf v hv).2] at D E;exact⟨P,O,D,E⟩
 ·rw[p];exact .inr ⟨by have:=g.1;omega,g.2,fun j=>by have:=r.2.2 b j;have:=g.1;omega⟩
end
theorem TabE.far {w w':j} {n sb z:Nat} {S:Nat->Prop} {B:Nat->Option Nat} {hd:Nat->c} {e d x q s:c} {F:Nat->Nat->Int} {Q C:Nat->Int} {bas oth:List Nat} (h:TabE w base S B m n hd e d x q s sb F Q C sc bas oth) (K:∀b,S b->base<=b) (hg:w.grownBy w' (some z)) (f:z<base\/B 6=some z):
 TabE w' base S B m n hd e d x q s sb F Q C sc bas oth:=by
 have y:∀b,some z=some b->¬S b:=fun b a g=>by
  cases a;rcases f with f|f
  ·have:=K z g;omega
  ·exact(h.tab.sep.lt _ _ f).2.2 g
 have G:∀(v:c) (p:Nat),v.ownBlock=B p->p≠6->v.ownBlock≠some z:=fun v p a r o=>by
  rcases f with f|f
  ·have:=(h.tab.sep.lt p z (a▸o)).1;omega
  ·exact h.tab.sep.ne 6 p z (Ne.symm r) f (a▸o)
 have key:∀{A:Type} {u:Nat} {t:TypeId} {R:j->(Nat->Prop)->c->A->Prop} {T:Nat->Prop} {v:c} {l:List A} (p:Nat),Stb R->(∀b,T b->S b\/False)->v.ownBlock=B p->p≠6->OwnS u t R w base T v l->OwnS u t R w' base T v l:=fun p H I a r J=>J.grown H hg fun b o=>⟨by cases o;exact G _ p a r,fun g=>(I b g).elim (y b o) id⟩
 refine⟨⟨fun i hi=>⟨key (7+i) IsR.stb (fun b h=> .inl h) (h.tab.rows i hi).2 og (h.tab.rows i hi).1,(h.tab.rows i hi).2⟩,⟨key 4 IsR.stb (fun b h=> .inl h) h.tab.rests.2 og h.tab.rests.1,h.tab.rests.2⟩,⟨key 3 IsVal.stb (fun b h=> .inr h) h.tab.heads.2 og h.tab.heads.1,h.tab.heads.2⟩,h.tab.sep.size hg.size⟩,
  ⟨key 5 IsR.stb (fun b h=> .inl h) h.cost.2 og h.cost.1,h.cost.2⟩,⟨key 0 IsIV.stb (fun b h=> .inr h) h.basO.2 og h.basO.1,h.basO.2⟩,⟨key 1 IsIV.stb (fun b h=> .inr h) h.othO.2 og h.othO.1,h.othO.2⟩,⟨h.scl.1,fun v hv=> ?_⟩⟩
 obtain⟨P,k,D,E⟩:=h.scl.2 v hv;have L:=h.tab.sep.lt _ _ h.scl.1
 exact⟨P,k,(ag (hg.block sb L.2.1 fun a=>by
  injection a with a;rcases f with f|f
  ·omega
  ·exact h.tab.sep.ne 6 2 z og f (by rw[h.scl.1,a]))).trans D,IsK.stb.to E (zni hg fun b g=>⟨h.tab.sep.q b g,fun a=>y b a.symm g⟩)⟩
theorem ynn {e:c} {k:Nat} (h:zsa e k=some b):k=7:=by
 unfold zsa at h;split at h
 ·rfl
 ·cases h
theorem yno {d:c} {k:Nat} (h:zsb d k=some b):k=11:=by
 unfold zsb at h;split at h
 ·rfl
 ·cases h
end Go.Proofs.YtdgilbgdkmhcmaaGreatDoor
