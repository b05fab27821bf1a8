/-
 Words for memory:what a value reads as,in blocks of b a h j b m g e;i of c;rows of l f own k d filled by append.
-/
import Derived.Test.YtdgilbgdkmhcmaaGreatDoorSdv01
import Derived.Test.YtdgilbgdkmhcmaaGreatDoorChecked
import Derived.Lib.TrailingZeros
import Derived.Laws.Bits64b
import Derived.Deep.RegionHeld3
import Derived.Test.YtdgilbgdkmhcmaaGreatDoorProg
namespace Go.Proofs.YtdgilbgdkmhcmaaGreatDoor
open Go.RowKit
set_option linter.unusedVariables false
set_option maxRecDepth 100000
set_option maxHeartbeats 8000000
open _root_.Go.Lib renaming hid → C
open _root_.Nat renaming le_refl → q, le_trans → R, lt_of_lt_of_le → M, zero_le → aa
open _root_.Go.World renaming cell?_setCell_other → O, size_alloc → V, block_lt_of_cell? → Z
open _root_.Go.RowKit.Below renaming refl → J
open _root_.Go renaming World → f, Value → r, Calls → I, TypeId → d, Program → W, undef → B, Oper → L, Addr → K
open _root_.Go.RowKit renaming Below → D, Hid → z
open _root_.Go.Proofs.Tryz renaming prog → E
variable {T : Nat → Prop} {b u N F H : r} {base bytes c g hi i j k lo m : Nat} {es xs : List r} {l : List Nat} {p : K} {s h wB : f}
def L2 (S T:Nat->Prop) (w w':f):Prop:=∀b,S b->T b/\∀o,w'.cell? ⟨b,o,none⟩=w.cell? ⟨b,o,none⟩
def Stb {a:Type} (R:f->(Nat->Prop)->r->a->Prop):Prop:=∀(w w':f) (S T:Nat->Prop) (v:r) (x:a),R w S v x->L2 S T w w'->R w' T v x
theorem Stb.to {a:Type} {R:f->(Nat->Prop)->r->a->Prop} (b:Stb R) {w w':f} {S:Nat->Prop} {v:r} {x:a} (h:R w S v x) (c:L2 S T w w'):R w' T v x:=b w w' S T v x h c
def SVS (w:f) (S:Nat->Prop) (A:Option K) (xs:List r):Prop:=
 xs≠[]->∃b off,A=some ⟨b,off,none⟩/\S b/\∀j v,xs[j]? =some v->w.cell? ⟨b,off+j,none⟩=some v
theorem SVS.same {w w':f} {S:Nat->Prop} {A:Option K} (h:SVS w S A xs) (c:L2 S T w w'):SVS w' T A xs:=fun e=>by
 obtain⟨b,off,d,a,hc⟩:=h e
 exact⟨b,off,d,(c b a).1,fun j v hv=>((c b a).2 _).trans (hc j v hv)⟩
theorem SVS.nil {w:f} {S:Nat->Prop} {A:Option K}:SVS w S A []:=fun h=>absurd rfl h
def All2 {c d:Type} (R:c->d->Prop) (a:List c) (b:List d):Prop:=a.length=b.length/\∀(j:Nat) (x:c) (y:d),a[j]? =some x->b[j]? =some y->R x y
theorem All2.nil {a b:Type} {R:a->b->Prop}:All2 R [] []:=⟨rfl,fun j x y h=>by simp at h⟩
theorem All2.snoc {e f:Type} {R:e->f->Prop} {a:List e} {b:List f} {x:e} {y:f} (h:All2 R a b) (hr:R x y):All2 R (a++[x]) (b++[y]):=by
 refine⟨by simp[h.1],fun j u v c hv=> ?_⟩;rw[List.getElem?_append] at c hv;by_cases d:j<a.length
 ·rw[if_pos d] at c;rw[if_pos (by rw[<-h.1];exact d)] at hv;exact h.2 j u v c hv
 ·rw[if_neg d] at c;rw[if_neg (by rw[<-h.1];exact d)] at hv
  have g:j-a.length=0:=by
   rcases Nat.eq_zero_or_pos (j-a.length) with i|i
   ·exact i
   ·rw[List.getElem?_eq_none (by simp;omega)] at c;cases c
  rw[g] at c;rw[<-h.1,g] at hv;simp at c hv;rw[<-c,<-hv];exact hr
theorem All2.imp {c d:Type} {R Q:c->d->Prop} {a:List c} {b:List d} (h:All2 R a b) (hr:∀x y,R x y->Q x y):All2 Q a b:=⟨h.1,fun j x y e f=>hr x y (h.2 j x y e f)⟩
theorem All2.get {f c:Type} {R:f->c->Prop} {a:List f} {b:List c} (h:All2 R a b) {y:c} (e:b[j]? =some y):∃x,a[j]? =some x/\R x y:=by have g:j<b.length:=(List.getElem?_eq_some_iff.1 e).1;have d:j<a.length:=(by rw[h.1];exact g);exact⟨a[j],List.getElem?_eq_getElem d,h.2 j _ _ (List.getElem?_eq_getElem d) e⟩
theorem All2.take {e f:Type} {R:e->f->Prop} {a:List e} {b:List f} (h:All2 R a b) (n:Nat):All2 R (a.take n) (b.take n):=by
 refine⟨by simp[h.1],fun j x y c d=> ?_⟩;rw[List.getElem?_take] at c d;split at c
 ·rename_i g;rw[if_pos g] at d;exact h.2 j x y c d
 ·cases c
theorem All2.drop {e f:Type} {R:e->f->Prop} {a:List e} {b:List f} (h:All2 R a b) (n:Nat):All2 R (a.drop n) (b.drop n):=by refine⟨by simp[h.1],fun j x y c d=> ?_⟩;rw[List.getElem?_drop] at c d;exact h.2 _ x y c d
theorem All2.set {d e:Type} {R:d->e->Prop} {a:List d} {b:List e} {x:d} {y:e} (h:All2 R a b) (hr:R x y) (n:Nat):All2 R (a.set n x) (b.set n y):=by
 refine⟨by simp[h.1],fun j u v c hv=> ?_⟩;rw[List.getElem?_set] at c hv;by_cases f:n=j
 ·rw[if_pos f] at c hv;split at c
  ·split at hv
   ·cases c;cases hv;exact hr
   ·cases hv
  ·cases c
 ·rw[if_neg f] at c hv;exact h.2 j u v c hv
def cellsOf (es:List r):List r:=es.flatMap fun v=>v.cells.toList
theorem ydj (a b:List r):cellsOf (a++b)=cellsOf a++cellsOf b:=by simp[cellsOf]
theorem ynp (v:r):cellsOf [v]=v.cells.toList:=by simp[cellsOf]
def Wid (n:Nat) (es:List r):Prop:=∀v∈es,v.cells.size=n
theorem Wid.nil {n:Nat}:Wid n []:=by intro v hv;cases hv
theorem Wid.snoc {n:Nat} {v:r} (h:Wid n es) (hv:v.cells.size=n):Wid n (es++[v]):=by
 intro u b;rcases List.mem_append.1 b with a|a
 ·exact h u a
 ·simp at a;subst a;exact hv
theorem Wid.cons {n:Nat} {v:r} (h:Wid n (v::es)):v.cells.size=n/\Wid n es:=⟨h v (by simp),fun u a=>h u (by simp[a])⟩
theorem Wid.take {n:Nat} (h:Wid n es) (k:Nat):Wid n (es.take k):=fun v hv=>h v (List.mem_of_mem_take hv)
theorem Wid.drop {n:Nat} (h:Wid n es) (k:Nat):Wid n (es.drop k):=fun v hv=>h v (List.mem_of_mem_drop hv)
theorem zrf {n:Nat} (h:Wid n es):(cellsOf es).length=es.length*n:=by
 induction es with
 |nil=>simp[cellsOf]
 |cons v es ih=>obtain⟨a,b⟩:=h.cons;have:=ih b;simp only[cellsOf,List.flatMap_cons,List.length_append,Array.length_toList,a] at this⊢;rw[this,List.length_cons,Nat.add_mul];omega
theorem zop {n:Nat} (h:Wid n es) {e:r} (a:es[j]? =some e) (b:e.cells[i]? =some u):(cellsOf es)[j*n+i]? =some u:=by
 induction es generalizing j with
 |nil=>simp at a
 |cons v es ih=>
  obtain⟨g,k⟩:=h.cons;have c:cellsOf (v::es)=v.cells.toList++cellsOf es:=(by simp[cellsOf]);rw[c,List.getElem?_append,Array.length_toList,g];cases j with
  |zero=>simp at a;subst a;have hi:i<v.cells.size:=(Array.getElem?_eq_some_iff.1 b).1;rw[if_pos og];simpa using b
  |succ j=>rw[if_neg (by rw[Nat.add_mul];omega),show(j+1)*n+i-n=j*n+i by rw[Nat.add_mul];omega];exact ih k (by simpa using a)
def IsS {a:Type} (n:Nat) (R:f->(Nat->Prop)->r->a->Prop) (w:f) (S:Nat->Prop) (v:r) (l:List a):Prop:=
 ∃A c es,v= .slice A l.length c/\l.length<=c/\c<=maxLen/\SVS w S A (cellsOf es)/\Wid n es/\All2 (R w S) es l
theorem IsS.stb {k:Type} {n:Nat} {R:f->(Nat->Prop)->r->k->Prop} (j:Stb R):Stb (IsS n R):=by rintro w w' S T v l ⟨A,c,es,hv,b,d,e,g,i⟩ a;exact⟨A,c,es,hv,b,d,e.same a,g,i.imp fun x y h=>j.to h a⟩
theorem IsS.nil {a:Type} {n:Nat} {R:f->(Nat->Prop)->r->a->Prop} {w:f} {S:Nat->Prop}:IsS n R w S (.slice none 0 0) ([]:List a):=
 ⟨none,0,[],rfl,q _,by unfold maxLen;omega,SVS.nil,Wid.nil,All2.nil⟩
theorem IsS.get {g:Type} {n:Nat} {R:f->(Nat->Prop)->r->g->Prop} {w:f} {S:Nat->Prop} {A:Option K} {l:List g} (h:IsS n R w S (.slice A m c) l) (y:0<n) {x:g} (v:l[j]? =some x):
 ∃b off e,A=some ⟨b,off,none⟩/\S b/\R w S e x/\e.cells.size=n/\∀i u,e.cells[i]? =some u->w.cell? ⟨b,off+(j*n+i),none⟩=some u:=by obtain⟨D,E,es,hv,F,G,p,a,q⟩:=h;simp only[Value.slice.injEq] at hv;obtain⟨rfl,rfl,rfl⟩:=hv;obtain⟨e,d,hr⟩:=q.get v;have B:=a e (List.mem_of_getElem? d);have z:cellsOf es≠[]:=(by intro o;have k:=zrf a;rw[o] at k;have:j<es.length:=(List.getElem?_eq_some_iff.1 d).1;have:=Nat.mul_pos (by omega:0<es.length) y;simp at k;omega);obtain⟨b,off,s,t,hc⟩:=p z;exact⟨b,off,e,s,t,hr,B,fun i u C=>hc _ u (zop a d C)⟩
def IsK (k:IntKind) (w:f) (S:Nat->Prop) (v:r) (l:List Nat):Prop:=
 ∃A c,v= .slice A l.length c/\l.length<=c/\c<=maxLen/\SVS w S A (C8 k l)
theorem IsK.stb {k:IntKind}:Stb (IsK k):=by rintro w w' S T v l ⟨A,c,hv,a,b,d⟩ e;exact⟨A,c,hv,a,b,d.same e⟩
theorem IsK.isL {k:IntKind} {w:f} {S:Nat->Prop} {v:r} (h:IsK k w S v l) (a:∀b,S b->lo<=b/\b<hi):IsL k w lo hi v l:=by obtain⟨A,c,hv,e,g,i⟩:=h;refine⟨A,c,hv,e,g,fun m=> ?_⟩;obtain⟨b,off,j,d,hc⟩:=i m;exact⟨b,off,j,(a b d).1,(a b d).2,hc⟩
theorem IsL.isK {k:IntKind} {w:f} {S:Nat->Prop} {v:r} (h:IsL k w lo hi v l) (i:∀b,lo<=b->b<hi->S b):IsK k w S v l:=by obtain⟨A,c,hv,a,d,e⟩:=h;refine⟨A,c,hv,a,d,fun n=> ?_⟩;obtain⟨b,off,g,j,m,hc⟩:=e n;exact⟨b,off,g,i b j m,hc⟩
def IsR (w:f) (S:Nat->Prop) (v:r) (a:Raw):Prop:=
 ∃A c B d,v= .agg #[.bool a.neg,.slice A a.num.length c,.slice B a.den.length d]/\IsK .u32 w S (.slice A a.num.length c) a.num/\IsK .u32 w S (.slice B a.den.length d) a.den
theorem IsR.stb:Stb IsR:=by rintro w w' S T v r ⟨A,c,B,d,hv,b,e⟩ a;exact⟨A,c,B,d,hv,IsK.stb.to b a,IsK.stb.to e a⟩
def IsQ (w:f) (S:Nat->Prop) (v:r) (q:Rat):Prop:=IsR w S v (E7 q)
theorem IsQ.stb:Stb IsQ:=fun _ _ _ _ _ _ h a=>IsR.stb.to h a
def IsV:f->(Nat->Prop)->r->List Raw->Prop:=IsS 3 IsR
def IsM:f->(Nat->Prop)->r->List (List Raw)->Prop:=IsS 1 IsV
theorem IsV.stb:Stb IsV:=IsS.stb IsR.stb
theorem IsM.stb:Stb IsM:=IsS.stb IsV.stb
def C2 (w:f):Nat->Prop:=fun b=>b<w.heap.size
def G4 (n:Nat) (w:f):Nat->Prop:=fun b=>n<=b/\b<w.heap.size
theorem F7 {w w':f} (h:D w.heap.size w w'):L2 (C2 w) (C2 w') w w':=fun b a=>⟨M a h.size,fun o=>h.cell (p:=⟨b,o,none⟩) a⟩
theorem V7 {w w':f} {n:Nat} (h:D w.heap.size w w'):L2 (G4 n w) (G4 n w') w w':=fun b a=>⟨⟨a.1,M a.2 h.size⟩,fun o=>h.cell (p:=⟨b,o,none⟩) a.2⟩
theorem F6 {w:f} {S:Nat->Prop} (h:∀b,S b->T b):L2 S T w w:=fun b a=>⟨h b a,fun _=>rfl⟩
theorem zpo {w w':f} {S:Nat->Prop} {B:Nat} (h:D B w w') (c:∀b,S b->b<B):L2 S S w w':=fun b a=>⟨a,fun o=>h.cell (p:=⟨b,o,none⟩) (c b a)⟩
theorem yhq {w:f} {n:Nat}:∀b,G4 n w b->C2 w b:=fun b h=>h.2
theorem yuy {w:f} {n:Nat} (h:m<=n):∀b,G4 n w b->G4 m w b:=fun b a=>⟨R h a.1,a.2⟩
def OwnS {a:Type} (n:Nat) (t:d) (R:f->(Nat->Prop)->r->a->Prop) (w:f) (base:Nat) (S:Nat->Prop) (v:r) (l:List a):Prop:=
 ∃es,w.ownsRow base t n v l.length (cellsOf es)/\Wid n es/\All2 (R w S) es l/\∀b,S b->b<w.heap.size/\some b≠v.ownBlock
theorem OwnS.nil {a:Type} {n:Nat} {t:d} {R:f->(Nat->Prop)->r->a->Prop} {w:f} {S:Nat->Prop} (c:∀b,S b->b<w.heap.size):OwnS n t R w base S (.slice none 0 0) ([]:List a):=
 ⟨[],by simpa[cellsOf] using World.ownsRow_nil w base t n,Wid.nil,All2.nil,fun b e=>⟨c b e,by simp[Value.ownBlock]⟩⟩
theorem OwnS.step {j:Type} {n:Nat} {t:d} {R:f->(Nat->Prop)->r->j->Prop} (q:Stb R) {w w':f} {S:Nat->Prop} {v:r} {l:List j} (h:OwnS n t R w base S v l)
 (a:D w.heap.size w w') (s:∀b,S b->T b) (u:∀b,T b->S b\/(w.heap.size<=b/\b<w'.heap.size)):OwnS n t R w' base T v l:=by
 obtain⟨es,g,m,p,i⟩:=h;have hg:w.grownBy w' none:=⟨a.os,a.tape,a.output,a.size,fun k z _=>a.block k z⟩;refine⟨es,g.kept hg (by cases v.ownBlock<;>simp),m,p.imp fun x y h=>q.to h fun b c=>⟨s b c,fun o=>a.cell (p:=⟨b,o,none⟩) (i b c).1⟩,fun b c=> ?_⟩;rcases u b c with h|h
 ·have:=i b h;exact⟨M this.1 a.size,this.2⟩
 ·refine⟨h.2,fun e=> ?_⟩;have:=(g.lt b e.symm).2;omega
theorem OwnS.app {j:Type} {n:Nat} {t:d} {R:f->(Nat->Prop)->r->j->Prop} (k:Stb R) {w w':f} {S:Nat->Prop} {v i e:r} {l:List j} {x:j}
 (p:Wid n es) (q:All2 (R w S) es l) (g:∀b,S b->b<w.heap.size/\some b≠v.ownBlock) (s:R w S e x) (u:e.cells.size=n)
 (A:w'.ownsRow base t n i (l.length+1) (cellsOf es++e.cells.toList)) (hg:w.grownBy w' v.ownBlock) (z:i.ownBlock=v.ownBlock\/i.ownBlock=some w.heap.size):
 OwnS n t R w' base S i (l++[x]):=by
 have m:L2 S S w w':=fun b a=>⟨a,fun o=>World.cell?_of_block (hg.block b (g b a).1 (g b a).2)⟩;refine⟨es++[e],?_,p.snoc u,(q.imp fun x y h=>k.to h m).snoc (k.to s m),fun b a=>⟨M (g b a).1 hg.size,fun c=> ?_⟩⟩
 ·rw[ydj,ynp,List.length_append];exact A
 ·have:=g b a;rcases z with h|h
  ·rw[h] at c;exact this.2 c
  ·rw[h] at c;simp at c;omega
theorem OwnS.isS {e:Type} {n:Nat} {t:d} {R:f->(Nat->Prop)->r->e->Prop} (m:Stb R) {w:f} {S:Nat->Prop} {v:r} {l:List e} (h:OwnS n t R w base S v l)
 (o:∀b,S b->T b) (p:∀b,base<=b->b<w.heap.size->T b):IsS n R w T v l:=by
 obtain⟨es,c,i,k,F⟩:=h;have C:L2 S T w w:=fun b a=>⟨o b a,fun _=>rfl⟩;rcases c.2 with⟨rfl,A⟩|⟨g,cap,E,rfl,a,s,B,q,G,H⟩
 ·have z:l=[]:=List.eq_nil_of_length_eq_zero A;subst z;exact IsS.nil
 ·refine⟨some ⟨g,0,none⟩,cap,es,rfl,B,q,fun _=>⟨g,0,rfl,p g a (Array.getElem?_eq_some_iff.1 s).1,fun j u D=> ?_⟩,i,k.imp fun x y h=>m.to h C⟩;have:=c.cells (g:=g) rfl j u D;rw[Addr.add_lit] at this;exact this
section
variable {P : W} {w : f} {ops : Array L} {rest : List L} {o : L} {a : Act} {Q : Exit → Act → f → Prop} {t e : d}
structure ElN (P:W) (t e:d) (n bytes:Nat):Prop where
 und:P.underlying t=some (.slice e)
 info:∃i z,P.info? e=some i/\i.zero=some z/\i.size=n/\i.bytes=bytes/\z.cells.size=n
 pos:0<n
theorem zpx {n:Nat} (A:ElN P t e n bytes) (aa:o.guard=none) (s x:Operand) (ad:o.op= .call {callee:= .builtin .append,args:= #[s,x],argTypes:= #[t,t]})
 {G:Type} {R:f->(Nat->Prop)->r->G->Prop} (E:Stb R) {S:Nat->Prop} {v c:r} {l:List G} {y:G} {F:d} {H:Array r}
 (af:a.eval s=v) (ai:a.eval x= .slice (some ⟨w.heap.size,0,none⟩) 1 1) (Y:H=c.cells) (ae:OwnS n e R w base S v l) (Z:R w S c y) (L:c.cells.size=n)
 (T:∀u∈c.cells,u.oneCell'=true) (m:(l.length+1)*(bytes+1)<=140737488355328) (W:base<=w.heap.size)
 (h:∀p w',OwnS n e R w' base S p (l++[y])->D base w w'->w.heap.size<=w'.heap.size->wpList P ops Q rest (a.put o.dst p) w'):wpList P ops Q (o::rest) a (w.alloc (.cells H F)):=by
 subst Y
 obtain⟨i,z,hi,aj,ag,X,ak⟩:=A.info
 obtain⟨es,I,U,V,C⟩:=ae
 rw[Nat.mul_add,Nat.mul_one] at m
 have K:=(J w.heap.size w).alloc (q _) (.cells c.cells F)
 have hst:L2 S S w (w.alloc (.cells c.cells F)):=zpo K (fun b m=>(C b m).1)
 refine wpList_append_own_at _ aa s x t ad base e i z n bytes A.und hi aj ag X ak A.pos v l.length (cellsOf es) af (I.alloc _) ⟨w.heap.size,0,none⟩ 1 1 c.cells.toList ai (by simp[L]) (fun j u ah=> ?_) (by simpa using T)
  (by unfold maxLen;omega) og (by simp;omega) fun p w' N B _ O=>h p w' ?_ ?_ ?_
 ·rw[Addr.add_lit,Nat.zero_add,cell_of_row _ _ _ _ _ _ (heap_alloc_new w _)]
  simpa using ah
 ·refine OwnS.app E U (V.imp fun x y h=>E.to h hst) (fun b m=>⟨M (C b m).1 K.size,(C b m).2⟩) (E.to Z hst) L N B ?_
  rcases O with g|g
  ·exact .inl g
  ·exact .inr g
 ·exact((J base w).alloc W _).grown B (by simp;omega) (fun k ac=>(I.lt k ac).1)
 ·have:=B.size
  simp at this
  omega
theorem zyr {n:Nat} (p:ElN P t e n bytes) (hg:o.guard=none) (l c:Operand) (I:o.op=Op.makeSlice t l c) {y:Type} (R:f->(Nat->Prop)->r->y->Prop) {x u:IntKind} {C:Int} (m:Nat)
 (H:a.eval l= .int x 0) (hc:a.eval c= .int u C) (E:C=(m:Int)) (d:m*(bytes+1)<=140737488355328) {S:Nat->Prop} (O:base<=w.heap.size) (s:∀b,S b->b<w.heap.size)
 (F:∀v w',OwnS n e R w' base S v ([]:List y)->D w.heap.size w w'->w.heap.size<=w'.heap.size->wpList P ops Q rest (a.put o.dst v) w'):
 wpList P ops Q (o::rest) a w:=by
 obtain⟨i,z,hi,L,K,G,T⟩:=p.info;rw[Nat.mul_add,Nat.mul_one] at d
 refine wpList_make_own w hg l c t I w.heap.size e i z n p.und hi L K x u C m H hc E (by rw[G,Nat.mul_comm];omega) (by unfold maxLen;omega) (q _)
  fun w' j k=>F _ w' ⟨[],⟨j.1,?_⟩,Wid.nil,All2.nil,fun b d=>⟨M (s b d) k.size,fun B=> ?_⟩⟩ ((J _ _).grown k (q _) (by simp)) k.size
 ·rcases j.2 with h|⟨g,cap,A,hv,N,rest⟩
  ·exact .inl h
  ·exact .inr ⟨g,cap,A,hv,by omega,rest⟩
 ·have:=(j.lt b B.symm).1;have:=s b d;omega
end
section
variable {A U : Rat} {X Y neg : Bool} {n G : Nat}
theorem yju {q:Rat} {s:Bool} (h:s=decide (q.num<0)):sg s q.num.natAbs=q.num:=by rw[h];exact zvj _
theorem zz1361 (a:X=decide (A.num<0)) (b:Y=decide (U.num<0)):mkRat (sg (X !=Y) (A.num.natAbs*U.num.natAbs)) (A.den*U.den)=A*U:=by rw[ybv,yju a,yju b,Rat.mul_def']
end
def zoy (q:Rat):Int:=if q=0 then 0 else if q<0 then -1 else 1
def bruT:List Nat:=Lib.deBruijn64tab
def Bru (w:f):Prop:=0<w.heap.size/\∀i,i<64->w.cell? ⟨0,i,none⟩=some (.int .u8 (bruT.getD i 0:Nat))
theorem Bru.below {w w':f} (h:Bru w) (a:D w.heap.size w w'):Bru w':=
 ⟨M h.1 a.size,fun i hi=>(a.cell (p:=⟨0,i,none⟩) h.1).trans (h.2 i hi)⟩
theorem Bru.alloc {w:f} (h:Bru w) (o:Obj):Bru (w.alloc o):=h.below ((J _ _).alloc (q _) o)
theorem Bru.drewN {w:f} (h:Bru w) (n:Nat):Bru (w.drewN n):=h
theorem zz1368 (x a:Nat) (d:x<18446744073709551616) (e:x≠0) (c:x&&&(18446744073709551616-x)=a):
 IntKind.u64.wrap (bits BinOp.and IntKind.u64 (x:Int) (IntKind.u64.wrap (-(x:Int)))*285870213051353865)/288230376151711744=((a*285870213051353865%18446744073709551616/288230376151711744:Nat):Int):=by have b:IntKind.u64.wrap (-(x:Int))=((18446744073709551616-x:Nat):Int):=(by rw[IntKind.wrap_u64];omega);rw[b,bits_and_u64_nat x _ d og,c,IntKind.wrap_u64];omega
theorem zz1367 (x k a:Nat) (w:f) (d:((x:Int)==0)=false)
 (key:IntKind.u64.wrap (bits BinOp.and IntKind.u64 (x:Int) (IntKind.u64.wrap (-(x:Int)))*285870213051353865)/288230376151711744=(a:Int))
 (hi:a<64) (c:k<64) (b:w.cell? ⟨0,a,none⟩=some (.int .u8 k)):
 I E 201 #[.int .u64 x] w fun e w'=>e= .returned (.int .i64 k)/\w=w':=by go_in;go_wp2_with (simp only[key]);go_ret;exact⟨rfl,rfl⟩
theorem ych (x:Nat) (w:f) (g:Bru w) (d:x≠0) (c:x<18446744073709551616):
 ∃k m:Nat,k<64/\x=2^k*(2*m+1)/\I E 201 #[.int .u64 (x:Int)] w fun e w'=>e= .returned (.int .i64 (k:Int))/\w=w':=by obtain⟨h,b⟩:=Lib.lowest_bit 64 x d c;obtain⟨hi,j⟩:=Lib.deBruijn64_at _ b;have a:=g.2 _ hi;unfold bruT at a;rw[j] at a;obtain⟨m,i,_⟩:=Lib.ctzFrom_spec 64 x og c;refine⟨Lib.ctz 64 x,m,b,?_,zz1367 x _ _ w (by simp;omega) (zz1368 x _ c d h) hi b a⟩;unfold Lib.ctz;rw[if_neg d];exact i
abbrev NumS (w:f) (S:Nat->Prop) (v:r) (n:Nat):Prop:=IsK .u32 w S v (A9 n)
theorem yag {w:f} {S:Nat->Prop} {q:Rat} {neg:Bool} {n d:Nat} (h:E7 q=⟨neg,A9 n,A9 d⟩) (l:NumS w S H n) (hd:NumS w S F d):IsQ w S (.agg #[.bool neg,H,F]) q:=by obtain⟨A,c,rfl,b,g,j⟩:=l;obtain⟨B,a,rfl,e,i,k⟩:=hd;unfold IsQ;rw[h];exact⟨A,c,B,a,rfl,⟨A,c,rfl,b,g,j⟩,⟨B,a,rfl,e,i,k⟩⟩
theorem K6 {w:f} {S:Nat->Prop} {v:r} {q:Rat} (h:IsQ w S v q):∃neg A c B d,v= .agg #[.bool neg,.slice A (A9 q.num.natAbs).length c,.slice B (A9 q.den).length d]/\z (neg=decide (q.num<0))/\
 z (NumS w S (.slice A (A9 q.num.natAbs).length c) q.num.natAbs)/\z (NumS w S (.slice B (A9 q.den).length d) q.den):=by obtain⟨A,c,B,d,rfl,a,b⟩:=h;exact⟨_,A,c,B,d,rfl,rfl,a,b⟩
theorem I7 {w:f} {v:r} {n:Nat} (h:NumS w (C2 w) v n):IsN w 0 w.heap.size v n:=h.isL fun b a=>⟨aa _,a⟩
theorem zof {w:f} {v:r} {n:Nat} (h:IsN w lo w.heap.size v n):NumS w (G4 lo w) v n:=h.isK fun b a c=>⟨a,c⟩
theorem znc {w:f} {v:r} {n:Nat} (h:IsN w lo w.heap.size v n):NumS w (C2 w) v n:=h.isK fun b c a=>a
theorem Stb.next {a:Type} {R:f->(Nat->Prop)->r->a->Prop} (b:Stb R) {w w':f} {v:r} {x:a} (h:R w (C2 w) v x) (c:D w.heap.size w w'):R w' (C2 w') v x:=b.to h (F7 c)
theorem Stb.fresh {a:Type} {R:f->(Nat->Prop)->r->a->Prop} (b:Stb R) {w w':f} {n:Nat} {v:r} {x:a} (h:R w (G4 n w) v x) (c:D w.heap.size w w'):R w' (G4 n w') v x:=b.to h (V7 c)
theorem Stb.old {a:Type} {R:f->(Nat->Prop)->r->a->Prop} (b:Stb R) {w:f} {n:Nat} {v:r} {x:a} (h:R w (G4 n w) v x):R w (C2 w) v x:=b.to h (F6 yhq)
theorem Stb.le {a:Type} {R:f->(Nat->Prop)->r->a->Prop} (b:Stb R) {w:f} {n:Nat} {v:r} {x:a} (h:R w (G4 n w) v x) (c:m<=n):R w (G4 m w) v x:=b.to h (F6 (yuy c))
theorem yay {w:f} {S:Nat->Prop}:NumS w S (.slice none 0 0) 0:=by unfold NumS;rw[N5];exact⟨none,0,rfl,q _,by unfold maxLen;omega,SVS.nil⟩
def Y0 (w:f) (q:Rat) (e:Ending) (w':f):Prop:=(∃v,e= .returned v/\IsQ w' (G4 w.heap.size w') v q)/\D w.heap.size w w'
theorem Row.next {w w':f} {t:d} (h:Row w g t xs) (a:D w.heap.size w w'):Row w' g t xs:=h.below a h.lt
theorem C9 {w a:f} (h:D w.heap.size w s) (b:D s.heap.size s a):D w.heap.size w a:=h.trans (b.mono h.size)
theorem yna {w:f} {n:Nat} (h:D n w s) (o:Obj) (a:n<=s.heap.size:=by first|exact Below.size ‹_›|simp):D n w (s.alloc o):=h.alloc a o
abbrev put3 (w:f) (g:Nat) (a b c:r):f:=((w.setCell ⟨g,0,none⟩ a).setCell ⟨g,1,none⟩ b).setCell ⟨g,2,none⟩ c
theorem Row.put3 {w:f} {t:d} {x y z:r} (h:Row w g t [x,y,z]) (a b c:r):Row (put3 w g a b c) g t [a,b,c]:=((h.set_ 0 a).set_ 1 b).set_ 2 c
theorem zrb {w:f} {n:Nat} (h:D n w s) (hg:n<=g) (a b c:r):D n w (put3 s g a b c):=((h.setCell (p:=⟨g,0,none⟩) hg a).setCell (p:=⟨g,1,none⟩) hg b).setCell (p:=⟨g,2,none⟩) hg c
theorem ztr (w:f) (g:Nat) (a b c:r):(put3 w g a b c).heap.size=w.heap.size:=by simp[put3,World.setCell]
theorem zox {w:f} {S:Nat->Prop} {a c:r} (h:∀x,S x->x≠g/\T x):L2 S T w (put3 w g a b c):=fun x d=>by
 have:=h x d
 refine⟨this.2,fun o=> ?_⟩
 rw[O _ _ _ _ (fun e=>this.1 (by cases e;rfl)),O _ _ _ _ (fun e=>this.1 (by cases e;rfl)),O _ _ _ _ (fun e=>this.1 (by cases e;rfl))]
theorem C5 {w:f} {t:d} {x y z:r} (h:Row w g t [x,y,z]):w.cell? ⟨g,0,none⟩=some x/\w.cell? ⟨g,1,none⟩=some y/\w.cell? ⟨g,2,none⟩=some z:=⟨h.cell 0,h.cell 1,h.cell 2⟩
theorem H5 {w:f} {t:d} {x y z:r} (h:Row w g t [x,y,z]):w.frozen? ⟨g,0,none⟩=false/\w.frozen? ⟨g,1,none⟩=false/\w.frozen? ⟨g,2,none⟩=false:=⟨h.frozen 0,h.frozen 1,h.frozen 2⟩
theorem B9 {w w':f} {v:r} (a:D w.heap.size w w') (h:w.cell? p=some v):w'.cell? p=some v:=(a.cell (Z w p h)).trans h
theorem H8 {w w':f} {v:r} (a:D w.heap.size w w') (h:w.cell? p=some v) (hf:w.frozen? p=false):w'.frozen? p=false:=(a.frozen (Z w p h)).trans hf
theorem zne {w:f} {b o:Nat} {v x y z:r} (h:w.cell? ⟨b,o,none⟩=some v) (hg:b≠g):(put3 w g x y z).cell? ⟨b,o,none⟩=some v:=by rw[O _ _ _ _ (fun e=>hg (by cases e;rfl)),O _ _ _ _ (fun e=>hg (by cases e;rfl)),O _ _ _ _ (fun e=>hg (by cases e;rfl))];exact h
theorem Y6 {fn:Func} {slot:Tmp} {R:Ending->f->Prop} {a:Act} {w:f} {x y z:r} (hr:fn.results= #[.cell slot 37]) (ha:a.tmps.getD slot B= .pointer (some ⟨g,0,none⟩)) (hd:a.defers=[])
 (h:Row w g 37 [x,y,z]) (e:R (.returned (.agg #[x,y,z])) w):bodyPost E fn R .ret a w:=by refine bodyPost_ret (v:= .agg #[x,y,z]) ?_ hd e;obtain⟨b,c,d⟩:=C5 h;have i:a.tmps[slot]?.getD B= .pointer (some ⟨g,0,none⟩):=(by simpa using ha);simp[results,hr,i,asAddr,go_sem,b,c,d]
theorem zmw {w:f} {b c:Nat} {q:Rat} {neg:Bool} {n d:Nat} (h:E7 q=⟨neg,A9 n,A9 d⟩) (i:D w.heap.size w s) (hg:w.heap.size<=g)
 (e:NumS s (G4 b s) H n) (hd:NumS s (G4 c s) F d) (j:g<b) (k:g<c):Y0 w q (.returned (.agg #[.bool neg,H,F])) (put3 s g (.bool neg) H F):=by
 refine⟨⟨_,rfl,yag h (IsK.stb.to e (zox fun x a=> ?_)) (IsK.stb.to hd (zox fun x a=> ?_))⟩,zrb i hg _ _ _⟩
 ·exact⟨by have:=a.1;omega,by have:=a.1;omega,by rw[ztr];exact a.2⟩
 ·exact⟨by have:=a.1;omega,by have:=a.1;omega,by rw[ztr];exact a.2⟩
theorem zvd {w:f} {x:r} {q:Rat} (h:IsQ s (G4 lo s) (.agg #[x,H,F]) q) (c:D w.heap.size w s) (hg:w.heap.size<=g) (hlo:g<lo):Y0 w q (.returned (.agg #[x,H,F])) (put3 s g x H F):=
 ⟨⟨_,rfl,IsQ.stb.to h (zox fun b a=>⟨by have:=a.1;omega,by have:=a.1;omega,by rw[ztr];exact a.2⟩)⟩,zrb c hg _ _ _⟩
theorem znd {w:f} {S:Nat->Prop} {q:Rat} {neg:Bool} (h:IsQ w S (.agg #[.bool neg,H,F]) q):NumS w S H q.num.natAbs:=by obtain⟨A,c,B,d,hv,a,b⟩:=h;simp only[Value.agg.injEq] at hv;injection hv with hv;simp only[List.cons.injEq] at hv;obtain⟨_,rfl,rfl,_⟩:=hv;exact a
theorem zuo {w:f} {S:Nat->Prop} {q:Rat} {neg:Bool} (h:IsQ w S (.agg #[.bool neg,H,F]) q):NumS w S F q.den:=by obtain⟨A,c,B,d,hv,b,a⟩:=h;simp only[Value.agg.injEq] at hv;injection hv with hv;simp only[List.cons.injEq] at hv;obtain⟨_,rfl,rfl,_⟩:=hv;exact a
theorem zxm {w:f} {S:Nat->Prop} {A:Option K} {n x:Nat} (h:NumS w S (.slice A n c) x) (a:(A9 x).length=1):∃b o,A=some ⟨b,o,none⟩/\w.cell? ⟨b,o,none⟩=some (.int .u32 (x:Int))/\1<=(x:Int)/\(x:Int)<=999999999:=by obtain⟨k,l,hv,m,p,d⟩:=h;simp only[Value.slice.injEq] at hv;obtain⟨rfl,rfl,rfl⟩:=hv;have j:x≠0:=(by rintro rfl;rw[N5] at a;simp at a);have i:x<1000000000:=(by have:=lim_len_le.1 (Nat.le_of_eq a);rw[ztj] at this;exact this);have e:=zqk i j;rw[e] at d;obtain⟨b,o,g,_,hc⟩:=d (by simp[C8]);have:=hc 0 (.int .u32 (x:Int)) (by simp[C8]);exact⟨b,o,g,this,by omega,by omega⟩
theorem K7 (w:f) (b:Array r) (c:d):∃a,w.alloc (.cells b c)=a/\D w.heap.size w a/\Row a w.heap.size c b.toList/\z (a.heap.size=w.heap.size+1):=
 ⟨_,rfl,(J _ w).alloc (q _) _,heap_alloc_new w _,by simp[z]⟩
theorem zko (w:f) (a e:Array r) (c g:d):∃b,(w.alloc (.cells a c)).alloc (.cells e g)=b/\D w.heap.size w b/\Row b w.heap.size c a.toList/\Row b (w.heap.size+1) g e.toList/\z (b.heap.size=w.heap.size+2):=by refine⟨_,rfl,((J _ w).alloc (q _) _).alloc (by simp) _,Row.alloc (xs:=a.toList) (heap_alloc_new w (.cells a c)) _,?_,by simp[z]⟩;have:=heap_alloc_new (w.alloc (.cells a c)) (.cells e g);rw[V] at this;exact this
theorem zvz (w:f) (b c h:Array r) (e g i:d):∃a,((w.alloc (.cells b e)).alloc (.cells c g)).alloc (.cells h i)=a/\D w.heap.size w a/\Row a w.heap.size e b.toList/\Row a (w.heap.size+1) g c.toList/\Row a (w.heap.size+1+1) i h.toList/\z (a.heap.size=w.heap.size+3):=by obtain⟨s,rfl,j,k,l,m⟩:=zko w b c e g;refine⟨_,rfl,j.alloc j.size _,k.alloc _,l.alloc _,?_,by simp[z]⟩;have:=heap_alloc_new ((w.alloc (.cells b e)).alloc (.cells c g)) (.cells h i);rw[m.out] at this;exact this
theorem O0 (w:f) (o:Obj):D w.heap.size w (w.alloc o):=(J _ w).alloc (q _) o
theorem Z8 (w:f):D w.heap.size w w.drew:=⟨rfl,rfl,rfl,q _,fun _ _=>rfl⟩
def Rd (w:f) (v:r) (n:Nat):Prop:=∀w',D w.heap.size w w'->IsN w' 0 w'.heap.size v n
theorem Rd.to {w w':f} {v:r} {n:Nat} (h:Rd w v n) (a:D w.heap.size w w'):IsN w' 0 w'.heap.size v n:=h w' a
theorem NumS.rd {w:f} {v:r} {n:Nat} (h:NumS w (C2 w) v n):Rd w v n:=fun w' a=>I7 (IsK.stb.next h a)
theorem zzs (x:Nat) {y:Nat} (h:y≠0):0<Nat.gcd x y:=Nat.gcd_pos_of_pos_right _ og
theorem zzq (x:Nat) {y:Nat} (h:y≠0) (a:(A9 y).length<=k):(A9 (Nat.gcd x y)).length<=k:=R (U1 (Nat.le_of_dvd og (Nat.gcd_dvd_right _ _))) a
theorem zrl {x y:Nat} (a:(A9 x).length<=k):(A9 (x/y)).length<=k:=R (U1 (Nat.div_le_self _ _)) a
theorem IsN.next {w w':f} {v:r} {n:Nat} (h:IsN w 0 w.heap.size v n) (a:D w.heap.size w w'):IsN w' 0 w'.heap.size v n:=(h.below a (q _)).wide (q _) a.size
theorem Bru.next {w w':f} (h:Bru w) (a:D w.heap.size w w'):Bru w':=h.below a
theorem ykc {w w':f} {n:Nat} (h:n<=w.heap.size) (a:D w.heap.size w w'):n<=w'.heap.size:=R h a.size
theorem X7 {w:f} {v:r} {n:Nat} (h:IsN w lo w.heap.size v n) (a:m<=lo):NumS w (G4 m w) v n:=IsK.stb.le (zof h) a
theorem zrq {w:f} {v:r} {n:Nat} (h:IsN w lo w.heap.size v n):NumS w (C2 w) v n:=znc h
theorem nQ {w w':f} {v:r} {q:Rat} (h:z (IsQ w (C2 w) v q)) (a:D w.heap.size w w'):z (IsQ w' (C2 w') v q):=IsQ.stb.next h.out a
theorem nV {w w':f} {v:r} {l:List Raw} (h:z (IsV w (C2 w) v l)) (a:D w.heap.size w w'):z (IsV w' (C2 w') v l):=IsV.stb.next h.out a
theorem nM {w w':f} {v:r} {l:List (List Raw)} (h:z (IsM w (C2 w) v l)) (a:D w.heap.size w w'):z (IsM w' (C2 w') v l):=IsM.stb.next h.out a
theorem nR {w w':f} {t:d} (h:z (Row w g t xs)) (a:D w.heap.size w w'):z (Row w' g t xs):=Row.next h.out a
theorem nB {w a w':f} (h:z (D w.heap.size w a)) (b:D a.heap.size a w'):z (D w.heap.size w w'):=C9 h.out b
theorem nS {n:Nat} {w w':f} (h:z (n<=w.heap.size)) (a:D w.heap.size w w'):z (n<=w'.heap.size):=ykc h.out a
theorem nU {w w':f} (h:z (Bru w)) (a:D w.heap.size w w'):z (Bru w'):=Bru.next h.out a
theorem zue {w X:f} (h:D w.heap.size w X) (o:Obj):D w.heap.size w (X.alloc o):=h.alloc h.size o
theorem ymw {w X:f} (h:D w.heap.size w X):D w.heap.size w X.drew:=C9 h (Z8 X)
theorem ydb {w X:f} (h:D w.heap.size w s) (d:D w.heap.size w X) (a b c:r):D w.heap.size w (put3 s X.heap.size a b c):=zrb h d.size a b c
theorem ymz {w:f} {o:Nat} (h:D w.heap.size w s) (hg:w.heap.size<=g):D w.heap.size w (s.setCell ⟨g,o,none⟩ u):=h.setCell (p:=⟨g,o,none⟩) hg u
theorem yhf {X a:f} {o:Obj} (h:D (X.alloc o).heap.size (X.alloc o) a):X.heap.size<a.heap.size:=by have:=h.size;rw[V] at this;omega
abbrev zsi:Obj:= .cells #[.bool false,.slice none 0 0,.slice none 0 0] 37
theorem yfe {X:f} {a c:r} {q:Rat} (hv:IsQ h (G4 lo h) (.agg #[a,b,c]) q) (j:D wB.heap.size wB h) (e:D wB.heap.size wB X) (hr:D (X.alloc zsi).heap.size (X.alloc zsi) h)
 (hlo:X.heap.size<lo) (m:wB.heap.size<=lo) (hg:X.heap.size=g):
 ∃d,put3 h g a b c=d/\D wB.heap.size wB d/\Row d g 37 [a,b,c]/\IsQ d (fun b=>G4 wB.heap.size d b/\b≠g) (.agg #[a,b,c]) q/\z (wB.heap.size<=g):=by subst hg;refine⟨_,rfl,ydb j e a b c,Row.put3 (Row.next (heap_alloc_new X zsi) hr) a b c,?_,e.size⟩;refine IsQ.stb.to hv (zox fun x i=> ?_);have k:=i.1;have l:=i.2;refine⟨by omega,⟨by omega,by rw[ztr];omega⟩,by omega⟩
theorem yqr {a c:r} {q:Rat} (hv:IsQ h (G4 lo h) (.agg #[a,b,c]) q) (f:D wB.heap.size wB h) (g:wB.heap.size<=lo):
 ∃d,h.alloc (.cells #[a,b,c] 37)=d/\D wB.heap.size wB d/\Row d h.heap.size 37 [a,b,c]/\IsQ d (fun b=>G4 wB.heap.size d b/\b≠h.heap.size) (.agg #[a,b,c]) q/\z (wB.heap.size<=h.heap.size):=by refine⟨_,rfl,zue f _,heap_alloc_new h _,?_,f.size⟩;refine IsQ.stb.to hv fun x e=>⟨⟨⟨by have:=e.1;omega,by have:=e.2;rw[V];omega⟩,by have:=e.2;omega⟩,fun o=> ?_⟩;exact(O0 h _).cell (p:=⟨x,o,none⟩) e.2
section
variable {P : W} {ops : Array L} {Q : Exit → Act → f → Prop} {md : Region.Mode} {S : f → Prop}
theorem ykt {x:L} {v:r} (d:Option Tmp) {y:Nat} {listed:Array Bool} {a:Act} {w:f} (hi:ops[i]? =some x) (hd:x.dst=d) (g:Region.noSelect ops=true) (hf:Region.free md ops listed i=true) (hr:(Region.ready md ops listed).contains i=true)
 (j:Region.wanted x (yielded ops a.tmps)=true) (b:∀c a w,Q (.panic c) (a.put d v) w->Q (.panic c) a w) (k:∀w,S w->(execOp a.eval x).run P w= .ok (.value v) w) (e:S w)
 (h:wpAnyH P md ops Q S y (listed.setIfInBounds i true) (a.put d v) w):wpAnyH P md ops Q S (y+1) listed a w:=by subst hd;exact wpAnyH_take hi g hf hr b (Or.inl ⟨j,k⟩) e h
theorem yku {x:L} (d:Option Tmp) {y:Nat} {listed:Array Bool} {a:Act} {w:f} (hi:ops[i]? =some x) (hd:x.dst=d) (g:Region.noSelect ops=true) (hf:Region.free md ops listed i=true) (hr:(Region.ready md ops listed).contains i=true)
 (j:Region.wanted x (yielded ops a.tmps)=false) (b:∀c a w,Q (.panic c) (a.put d B) w->Q (.panic c) a w) (e:S w)
 (h:wpAnyH P md ops Q S y (listed.setIfInBounds i true) (a.put d B) w):wpAnyH P md ops Q S (y+1) listed a w:=by subst hd;exact wpAnyH_take hi g hf hr b (Or.inr ⟨j,rfl⟩) e h
end
theorem bel {p:Prop} (h:p:=by(repeat(first|exact _root_.Go.RowKit.Below.refl _ _|assumption|refine zue ?_ _|refine ymw ?_|refine ydb ?_ ?_ _ _ _|refine ymz ?_ (by omega)|refine C9 ?_ (by assumption)));(first|done|fail)):p:=h
theorem bW (w w':f) (h:D w.heap.size w w':=by exact bel):z (D w.heap.size w w'):=h
section
variable {P : W} {ops : Array L} {Q : Exit → Act → f → Prop} {md : Region.Mode} {S : f → Prop} {x : L} {v : r} {y : Nat} {listed : Array Bool} {a : Act} {w : f}
theorem tT (i:Nat) (s:Tmp) (h:wpAnyH P md ops Q S y (listed.setIfInBounds i true) (a.put (some s) v) w) (hi:ops[i]? =some x:=by rfl) (hd:x.dst=some s:=by rfl) (f:Region.noSelect ops=true:=by kernel_rfl) (hf:Region.free md ops listed i=true:=by kernel_rfl)
 (hr:(Region.ready md ops listed).contains i=true:=by kernel_rfl) (g:Region.wanted x (yielded ops a.tmps)=true:=by rfl) (b:∀c a w,Q (.panic c) (a.put (some s) v) w->Q (.panic c) a w:=by exact fun _ _ _ h=>h)
 (j:∀w,S w->(execOp a.eval x).run P w= .ok (.value v) w:=by(intro w e;(try dsimp only at e);go_simp;(try(with_reducible rfl)))) (d:S w:=by assumption):wpAnyH P md ops Q S (y+1) listed a w:=ykt (some s) hi hd f hf hr g b j d h
theorem tU (i:Nat) (s:Tmp) (h:wpAnyH P md ops Q S y (listed.setIfInBounds i true) (a.put (some s) B) w) (hi:ops[i]? =some x:=by rfl) (hd:x.dst=some s:=by rfl) (e:Region.noSelect ops=true:=by kernel_rfl) (hf:Region.free md ops listed i=true:=by kernel_rfl)
 (hr:(Region.ready md ops listed).contains i=true:=by kernel_rfl) (f:Region.wanted x (yielded ops a.tmps)=false:=by rfl) (b:∀c a w,Q (.panic c) (a.put (some s) B) w->Q (.panic c) a w:=by exact fun _ _ _ h=>h) (d:S w:=by assumption):wpAnyH P md ops Q S (y+1) listed a w:=yku (some s) hi hd e hf hr f b d h
theorem sT (i:Nat) (s:Tmp) {q:Prop} (k:q) (hi:ops[i]? =some x:=by rfl) (hd:x.dst=some s:=by rfl) (g:Region.noSelect ops=true:=by kernel_rfl) (hf:Region.free md ops listed i=true:=by kernel_rfl)
 (hr:(Region.ready md ops listed).contains i=true:=by kernel_rfl) (j:Region.wanted x (yielded ops a.tmps)=true:=by rfl) (b:∀c a w,Q (.panic c) (a.put (some s) v) w->Q (.panic c) a w:=by exact fun _ _ _ h=>h)
 (l:∀w,S w->(execOp a.eval x).run P w= .ok (.value v) w:=by(intro w e;(try dsimp only at e);go_simp;(try(with_reducible rfl)))) (d:S w:=by assumption)
 (h:q->wpAnyH P md ops Q S y (listed.setIfInBounds i true) (a.put (some s) v) w:=by(intro f;simp only[Act.put,_root_.List.setIfInBounds_toArray,_root_.List.set_cons_zero,_root_.List.set_cons_succ];exact f)):wpAnyH P md ops Q S (y+1) listed a w:=ykt (some s) hi hd g hf hr j b l d (h k)
theorem sU (i:Nat) (s:Tmp) {q:Prop} (k:q) (hi:ops[i]? =some x:=by rfl) (hd:x.dst=some s:=by rfl) (f:Region.noSelect ops=true:=by kernel_rfl) (hf:Region.free md ops listed i=true:=by kernel_rfl)
 (hr:(Region.ready md ops listed).contains i=true:=by kernel_rfl) (g:Region.wanted x (yielded ops a.tmps)=false:=by rfl) (b:∀c a w,Q (.panic c) (a.put (some s) B) w->Q (.panic c) a w:=by exact fun _ _ _ h=>h) (d:S w:=by assumption)
 (h:q->wpAnyH P md ops Q S y (listed.setIfInBounds i true) (a.put (some s) B) w:=by(intro e;simp only[Act.put,_root_.List.setIfInBounds_toArray,_root_.List.set_cons_zero,_root_.List.set_cons_succ];exact e)):wpAnyH P md ops Q S (y+1) listed a w:=yku (some s) hi hd f hf hr g b d (h k)
end
theorem zz1369:(Tryz.prog.info? 115).map (fun i=>(i.zero,i.size,i.bytes))=some (some (.int .u32 0),1,4):=by kernel_rfl
theorem U0:ElT E 35 115 (.int .u32 0) 4:=⟨Tryz.underlying35,info_parts zz1369,rfl⟩
theorem yod (A B:Option K) (c d:Nat) (a b:List Nat) (w:f) (lo hi S P:Nat) (ha:Lo a) (v:Lo b) (N:a.length<=maxLen) (O:b.length<=maxLen) (L:SV w lo hi A (C8 .u32 a)) (M:SV w S P B (C8 .u32 b))
 (o:Int) (l:a.length<b.length->o= -1) (m:b.length<a.length->o=1) (H:a.length=b.length->o=T7 (val a) (val b)):
 I E 167 #[.slice A a.length c,.slice B b.length d] w fun e w'=>e= .returned (.int .i64 o)/\Dr w w':=by
 unfold maxLen at N O;have s:=C ha;clear ha;have t:=C v;clear v;have u:=C H;clear H;rcases Nat.lt_trichotomy a.length b.length with h|h|h
 ·have g:=C (l h);clear l m;go_in;go_wp2;go_ret;exact⟨H6 g.out.symm,Dr.refl w⟩
 ·have g:=C (u.out h);clear l m u;have W:(((a.length:Int)) !=(b.length:Int))=false:=(by simp[h]);have j:=C h;have J:a.length<=b.length:=og;have V:b.length<=a.length:=og;clear h;go_in;go_wp2;go_loopw [5] (fun i wr=>∃k:Nat,k<=a.length/\i= .int .i64 ((k:Int)-1)/\Dr w wr/\z (a.drop k=b.drop k)) (fun i _=>(intOf i+1).toNat);case atStart=>exact⟨a.length,q _,rfl,Dr.refl w,by rw[List.drop_length,j.out,List.drop_length];rfl⟩
  case round=>
   obtain⟨k,G,rfl,⟨n,rfl⟩,hd⟩:=hrel;rcases k with _|k
   ·go_wp2;go_ret;refine⟨H6 ?_,(Dr.refl w).drewN n⟩;have:=hd.out;simp only[List.drop_zero] at this;rw[g.out,ybx (by rw[this])]
   ·obtain⟨ba,oa,rfl,_,_,D⟩:=L (L8 G);obtain⟨bb,ob,rfl,_,_,F⟩:=M (L8 (R G J));obtain⟨x,p,X,Y⟩:=zmn (j:=k) D og;obtain⟨y,r,Z,aa⟩:=zmn (j:=k) F og;clear D F;rw[show(((k+1:Nat):Int)-1)=(k:Int) from by omega];go_wp2;go_quiet (fail);go_wp2
    ·go_ret;refine⟨H6 ?_,((Dr.refl w).drewN n).drewN _⟩;have Q:x<y:=(by assumption);rw[g.out,zqu (zyk s.out t.out j.out og hd.out (zkb p r))]
    ·go_quiet (fail);go_wp2
     ·go_ret;refine⟨H6 ?_,(((Dr.refl w).drewN n).drewN _).drewN _⟩;have Q:y<x:=(by assumption);rw[g.out,ztq (zyk t.out s.out j.out.symm og hd.out.symm (zkb p r))]
     ·go_roundw;(case rel=>have T:y<=x:=(by assumption);have U:x<=y:=(by assumption);exact⟨k,by omega,rfl,⟨_,rfl⟩,C (yex j.out og hd.out (zkb p r))⟩);case measure=>simp[intOf]
 ·have g:=C (m h);clear l m;go_in;go_wp2;go_ret;exact⟨H6 g.out.symm,Dr.refl w⟩
theorem zrj {w:f} {b:r} {x y m l:Nat} (ha:IsN w lo hi N x) (a:IsN w m l b y):
 I E 167 #[N,b] w fun e w'=>e= .returned (.int .i64 (T7 x y))/\Dr w w':=by
 have g:=ha.length_le;have i:=a.length_le;obtain⟨A,c,rfl,_,_,j⟩:=ha;obtain⟨B,d,rfl,_,_,k⟩:=a;refine yod A B c d (A9 x) (A9 y) w _ _ _ _ (L6 x) (L6 y) g i j k _ ?_ ?_ ?_
 ·intro h;exact zqu (zxe h)
 ·intro h;exact ztq (zxe h)
 ·intro _;rw[N8,N8]
theorem ylb {w:f} {A:Option K} (d:Lo l) (k:l.length<=c) (g:c<=maxLen) (a:m<=l.length) (i:∀j,m<=j->j<l.length->l.getD j 0=0)
 (e:m=0\/l.getD (m-1) 0≠0) (b:SV w lo hi A (C8 .u32 l)):IsN w lo hi (.slice A m c) (val l):=by
 have h:=ycf d a i e;refine⟨A,c,?_,?_,g,?_⟩
 ·rw[h,List.length_take,Nat.min_eq_left a]
 ·rw[h,List.length_take];omega
 ·rw[h,zwa];exact b.take m
theorem zvn (A:Option K) (c:Nat) (l:List Nat) (w:f) (lo hi:Nat) (t:Lo l) (y:l.length<=c) (u:c<=maxLen) (b:SV w lo hi A (C8 .u32 l)):
 I E 191 #[.slice A l.length c] w fun e w'=>(∃v,e= .returned v/\IsN w lo hi v (val l))/\w=w':=by
 have i:=C u;unfold maxLen at u;have h:=C t;clear t;go_in;go_wp2;go_loop [0] (fun s=>∃m:Nat,m<=l.length/\s= .slice A m c/\z (∀j,m<=j->j<l.length->l.getD j 0=0)) (fun s=>match s with| .slice _ m _=>m|_=>0);case atStart=>exact⟨l.length,q _,rfl,C (by intro j n o;omega)⟩
 case round=>
  obtain⟨m,F,rfl,g⟩:=hrel;rcases m with _|m
  ·go_wp2;go_ret;exact⟨⟨_,rfl,ylb h.out y i.out (aa _) g.out (.inl rfl) b⟩,rfl⟩
  ·obtain⟨ba,oa,rfl,_,_,p⟩:=b (L8 F);obtain⟨x,G,N,P⟩:=zmn (j:=m) p og;clear p;by_cases k:x=0
   ·subst k;go_wp2;go_round
    case rel=>exact⟨m,by omega,rfl,C (by
     intro j n o;rcases Nat.eq_or_lt_of_le n with a|a
     ·subst a;have:=G.out;omega
     ·exact g.out j a o)⟩
    case measure=>simp
   ·have H:(x==0)=false:=(by simpa using k);go_wp2;go_ret;exact⟨⟨_,rfl,ylb h.out y i.out F g.out (.inr (by have:=G.out;simp only[Nat.add_sub_cancel];omega)) b⟩,rfl⟩
theorem ylc {w:f} (ha:IsL .u32 w lo hi N l) (d:Lo l):
 I E 191 #[N] w fun e w'=>(∃v,e= .returned v/\IsN w lo hi v (val l))/\w=w':=by obtain⟨A,c,rfl,hc,b,a⟩:=ha;exact zvn A c l w lo hi d hc b a
theorem zmh (w:f):
 I E 136 #[] w fun e w'=>(∃v,e= .returned v/\IsN w' w.heap.size w'.heap.size v 1)/\D w.heap.size w w':=by go_in;go_wp2;go_ret;refine⟨⟨_,rfl,?_⟩,(J _ _).alloc (q _) _⟩;have h:=yaf .u32 w 115 [1] (by simp[maxLen]);unfold IsN;rw[Y5,V];exact h
theorem zph {w:f} {x:Nat} (ha:IsN w lo hi N x) (h:(A9 x).length<=4294967296):
 I E 155 #[N] w fun e w'=>(∃v,e= .returned v/\IsN w' w.heap.size w'.heap.size v x)/\D w.heap.size w w':=by obtain⟨A,c,rfl,hc,g,a⟩:=ha;go_in;go_wp2_with (at_builtin;refine yco U0 rfl _ _ rfl rfl (Own.nil _ _ _) rfl (zlr _ _) a (zzf _ _) (by simp only[List.length_nil];omega) (q _) ?_;intro j s d b i);go_ret;exact⟨⟨_,rfl,Own.isL (by simpa using d)⟩,b⟩
theorem zls (k:IntKind) (l:List Nat) (x:Nat) (y:Int) (h:y=(x:Int)):C8 k l++[.int k y]=C8 k (l++[x]):=by subst h;simp[C8]
theorem ybc (w:f) (n:Nat) (t:n<=18446744073709551615):
 I E 197 #[.int .u64 (n:Int)] w fun e w'=>(∃v,e= .returned v/\IsN w' w.heap.size w'.heap.size v n)/\D w.heap.size w w':=by
 generalize d:w.heap.size=B;have k:=C d;clear d;go_in;go_wp2;go_loopw [0,3] (fun x v wr=>∃m:Nat,∃l:List Nat,x= .int .u64 (m:Int)/\m<=n/\Own wr B 115 v (C8 .u32 l)/\D B w wr/\l.length+(A9 m).length<=5/\z (l++A9 m=A9 n)) (fun x _ _=>(intOf x).toNat);case atStart=>refine⟨n,[],rfl,q _,Own.nil _ _ _,J _ _,?_,rfl⟩;rw[List.length_nil,Nat.zero_add,lim_len_le];simp[pw];omega
 case round=>
  obtain⟨m,l,rfl,r,i,a,h,g⟩:=hrel;have o:B<=wr.heap.size:=(by have:=a.size;have:=k.out;omega);by_cases b:m=0
  ·subst b;go_wp2;go_ret;have:=g.out;rw[N5,List.append_nil] at this;subst this;exact⟨⟨_,rfl,Own.isL i⟩,a⟩
  ·go_wp2_with (at_builtin;refine zmb U0 rfl _ _ rfl rfl i rfl rfl (by rw[zlr];omega) o ?_;intro y s j p u);go_roundw
   case rel=>
    rw[zls .u32 l (m%1000000000) _ og] at j;have c:=znt b;refine⟨m/1000000000,l++[m%1000000000],by go_num,by omega,j,a.trans p,?_,?_⟩
    ·rw[c] at h;simp only[List.length_append,List.length_cons,List.length_nil] at h⊢;omega
    ·have:=g.out;rw[c] at this;rw[<-this,List.append_assoc];rfl
   case measure=>simp[intOf];omega
theorem ybb (w:f) (n:Int) (a:0<=n) (b:n<=18446744073709551615):
 I E 197 #[.int .u64 n] w fun e w'=>(∃v,e= .returned v/\IsN w' w.heap.size w'.heap.size v n.toNat)/\D w.heap.size w w':=by obtain⟨m,rfl⟩:=Int.eq_ofNat_of_zero_le a;exact ybc w m og
end Go.Proofs.YtdgilbgdkmhcmaaGreatDoor
