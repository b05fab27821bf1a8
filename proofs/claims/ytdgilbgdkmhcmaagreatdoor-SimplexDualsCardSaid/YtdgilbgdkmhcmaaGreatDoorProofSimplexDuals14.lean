/-
 Contracts of b.Grow (a nil slice) and b.Concat (two b) of ints.
-/
import Derived.Test.YtdgilbgdkmhcmaaGreatDoorProofSimplexDuals08
import Derived.Test.YtdgilbgdkmhcmaaGreatDoorProofSimplexDuals07
import Derived.Test.YtdgilbgdkmhcmaaGreatDoorProofSimplexDuals03
import Derived.Lib.AppendZerosOnto
import Derived.Laws.AppendOwnNone
namespace Go.Proofs.YtdgilbgdkmhcmaaGreatDoor
open Go.RowKit
set_option linter.unusedVariables false
set_option maxRecDepth 100000
set_option maxHeartbeats 8000000
open _root_.Nat renaming le_refl → E, le_trans → N, lt_of_lt_of_le → K, lt_or_ge → X
open _root_.List renaming getElem?_eq_getElem → U, length_append → R, getElem?_map → V
open _root_.Go.World renaming cell?_of_block → J
open _root_.Go renaming World → D, Value → j
variable {L : Int} {P : Program} {bytes c g hi i M lo p : Nat} {e t : TypeId} {x : Nat → Int} {o : Oper} {ops : Array Oper} {I H u v : j} {r : Option Nat} {O : List j} {a : List Nat}
theorem yrm (w:D) {k:Nat} (p:k<=100):Calls Tryz.prog 164 #[.slice none 0 0,.int .i64 (k:Int)] w fun e w'=>(∃v,e= .returned v/\OwnS 1 3 IsIV w' w.heap.size (fun _=>False) v ([]:List Int))/\Below w.heap.size w w':=by
 obtain⟨i,hi,n,s,d⟩:=info_parts ygf;have r:¬((k:Int)<0):=og;rcases Nat.eq_zero_or_pos k with rfl|l
 ·go_in;go_wp2_with fail;go_ret;exact⟨⟨_,rfl,OwnS.nil fun j h=>h.elim⟩,Below.refl _ _⟩
 ·have f:∀b,(Builtin.append_ #[22,3] b #[.slice none 0 0,.int .i64 (k:Int)]).run Tryz.prog w= .ok (.slice (some ⟨w.heap.size,0,none⟩) k (grownCap w k 0 3)) (w.drew.alloc (.cells (Builtin.zeroCells (Value.int .i64 0).cells k++Builtin.zeroCells (Value.int .i64 0).cells (grownCap w k 0 3-k)) 3)):=fun b=>(by have h:=Lib.run_append_grow_zeros w 22 3 b 3 i (.int .i64 0) .i64 .i64 Tryz.underlying22 Tryz.underlying3 hi n none 0 0 [] (run_firstCells_none w.drew i.size 0 0 0) k l og og og (by rw[d];omega) (by rw[d];exact growslice_fits og og);simpa using h);have m:=grownCap_ge w k 0 3;have a:=grownCap_le_maxLen w k 0 3 (by unfold maxLen;omega);obtain⟨G,c⟩:=nm (grownCap w k 0 3);rw[<-c] at f m a;have o:G<=9223372036854775807:=(by unfold maxLen at a;omega);have g:=Lib.hid a;have q:(0:Int)<(k:Int):=og;have zka:IntKind.i64.wrap ((k:Int)-0)=(k:Int):=(by rw[IntKind.wrap_i64];omega);clear c a;go_in;go_wp2_with (at_builtin;refine Lib.wpList_append_run _ rfl _ _ _ _ rfl _ _ rfl rfl _ _ (f _) ?_);go_ret;refine⟨⟨_,rfl,[],?_,Wid.nil,All2.nil,fun j h=>h.elim⟩,zue (ydc (Below.refl _ _)) _⟩;exact World.ownsRow_made w.drew _ G (E _) g.out (by rw[Array.size_append,size_zeroCells,size_zeroCells];show k*1+(G-k)*1=G*1;omega)
theorem ylo {w:D} {ops:Array Oper} {rest:List Oper} {a:Act} {Q:Exit->Act->D->Prop} (F:ElN P t e 1 bytes) (W:o.guard=none) (s x:Operand) (Z:o.op= .call {callee:= .builtin .append,args:= #[s,x],argTypes:= #[t,t]})
 {base:Nat} {A:Option Addr} {m:Nat} {l r:List Int} (ac:a.eval s=v) (d:a.eval x= .slice A m c) (aa:OwnS 1 e IsIV w base (fun _=>False) v l) (hv:IsS 1 IsIV w (C2 w) (.slice A m c) r) (ai:(l.length+r.length)*(bytes+1)<=140737488355328) (T:base<=w.heap.size) (ar:A=none->c=0)
 (h:∀C w',OwnS 1 e IsIV w' base (fun _=>False) C (l++r)->Below base w w'->w.heap.size<=w'.heap.size->wpList P ops Q rest (a.put o.dst C) w'):wpList P ops Q (o::rest) a w:=by
 obtain⟨i,z,hi,ay,av,aj,az⟩:=F.info
 obtain⟨aA,aB,f,ad,aE,aG,O,S,q⟩:=id hv
 simp only[Value.slice.injEq] at ad
 obtain⟨rfl,rfl,rfl⟩:=ad
 obtain⟨p,I,ae,B,aI⟩:=id aa
 have H:=zrf S
 have aH:=zrf ae
 rw[Nat.mul_add,Nat.mul_one] at ai
 cases A with
 |none=>
  have aq:cellsOf f=[]:=Classical.byContradiction fun e=>by obtain⟨L,off,G,_⟩:=O e;cases G
  have ao:r=[]:=by
   have:f.length=0:=by rw[aq] at H;simpa using H.symm
   exact List.length_eq_zero_iff.1 (by rw[<-q.1];exact this)
  subst ao
  have ak:c=0:=ar rfl
  subst ak
  exact wpList_append_own_none W s x t Z base e i 1 F.und hi v l.length (cellsOf p) ac I d (h _ _ (by rw[List.append_nil];exact aa) (Below.refl _ _) (E _))
 |some af=>
  refine wpList_append_own _ W s x t Z base e i z 1 bytes F.und hi ay av aj az (Nat.one_pos) v l.length (cellsOf p) ac I af r.length c (cellsOf f) d (by rw[H,q.1]) (fun n u b=> ?_) (fun u b=> ?_) (by unfold maxLen;omega) og T
   fun C w' ah M aC=>h C w' ?_ ?_ M.size
  ·have au:cellsOf f≠[]:=fun e=>by rw[e] at b;simp at b
   obtain⟨L,off,G,aD,al⟩:=O au
   cases G
   rw[Addr.add_lit]
   exact al n u b
  ·unfold cellsOf at b
   obtain⟨x,d,b⟩:=List.mem_flatMap.1 b
   obtain⟨n,Y⟩:=List.getElem?_of_mem d
   obtain⟨y,g⟩:∃y,r[n]? =some y:=⟨_,U (by rw[<-q.1];exact(List.getElem?_eq_some_iff.1 Y).1)⟩
   have e:=q.2 n _ _ Y g
   rw[e] at b
   simp[Value.cells] at b
   rw[b];rfl
  ·refine⟨p++f,?_,fun v hv=> ?_,?_,fun L h=>h.elim⟩
   ·rw[R]
    have ag:cellsOf (p++f)=cellsOf p++cellsOf f:=by unfold cellsOf;rw[List.flatMap_append]
    rw[ag];exact ah
   ·rcases List.mem_append.1 hv with h|h
    ·exact ae v h
    ·exact S v h
   ·exact⟨by rw[R,R,B.1,q.1],fun n x y d g=>by
     rcases X n p.length with h|h
     ·rw[List.getElem?_append_left h] at d
      rw[List.getElem?_append_left (by rw[<-B.1];exact h)] at g
      exact B.2 n x y d g
     ·rw[List.getElem?_append_right h] at d
      rw[List.getElem?_append_right (by rw[<-B.1];exact h)] at g
      rw[<-B.1] at g
      exact q.2 _ x y d g⟩
  ·exact(Below.refl base w).grown M T (fun k an=>(I.lt k an).1)
theorem yol {w:D} {A B:Option Addr} {m n f j:Nat} {c d:List Int} (hr:Row w g t [.slice A m f,.slice B n j]) (ha:IsS 1 IsIV w (C2 w) (.slice A m f) c) (y:IsS 1 IsIV w (C2 w) (.slice B n j) d) (lA:c.length=m) (lB:d.length=n) (nA:A=none->f=0) (nB:B=none->j=0) (U:m<=45) (V:n<=45):
 Calls Tryz.prog 104 #[.slice (some ⟨g,0,none⟩) 2 2] w fun e w'=>(∃v,e= .returned v/\IsS 1 IsIV w' (G4 w.heap.size w') v (c++d))/\Below w.heap.size w w':=by
 obtain⟨r,E,F,H,I,s,G⟩:=hd7 hr ha y nA nB lA lB;obtain⟨u,x⟩:w.cell? ⟨g,0,none⟩=some (.slice A m f)/\w.cell? ⟨g,1,none⟩=some (.slice B n j):=⟨hr.cell 0,hr.cell 1⟩;clear ha y nA nB lA lB hr;go_in;go_wp2_with fail;go_loopw [3,11,5] (fun q i _ wr=>w=wr/\((i= .int .i64 0/\q= .int .i64 0)\/(i= .int .i64 1/\q= .int .i64 (m:Int))\/(i= .int .i64 2/\q= .int .i64 ((m+n:Nat):Int)))) (fun _ i _ _=>2-(intOf i).toNat);case atStart=>exact⟨rfl,.inl ⟨rfl,rfl⟩⟩
 case round=>
  obtain⟨rfl,⟨rfl,rfl⟩|⟨rfl,rfl⟩|⟨rfl,rfl⟩⟩:=hrel
  ·have L:IntKind.i64.wrap ((0:Int)+(m:Int))=(m:Int):=(by rw[IntKind.wrap_i64];omega);have M:¬((m:Int)<0):=og;go_wp2_with fail;go_roundw;(case rel=>exact⟨trivial,.inr (.inl ⟨rfl,rfl⟩)⟩);case measure=>simp[intOf]
  ·have L:IntKind.i64.wrap ((m:Int)+(n:Int))=((m+n:Nat):Int):=(by rw[IntKind.wrap_i64];omega);have M:¬(((m+n:Nat):Int)<0):=og;go_wp2_with fail;go_roundw;(case rel=>exact⟨trivial,.inr (.inr ⟨rfl,rfl⟩)⟩);case measure=>simp[intOf]
  ·go_wp2_with fail;refine(yrm w (k:=m+n) og).mono ?_;rintro e X ⟨⟨W,rfl,b⟩,z⟩;obtain⟨J,C⟩:=C4 b z;clear u x b z;go_wp2_with fail;go_loopw [6,27,8] (fun v i _ wr=>Below w.heap.size w wr/\((i= .int .i64 0/\OwnS 1 3 IsIV wr w.heap.size (fun _=>False) v ([]:List Int))\/(i= .int .i64 1/\OwnS 1 3 IsIV wr w.heap.size (fun _=>False) v c)\/(i= .int .i64 2/\OwnS 1 3 IsIV wr w.heap.size (fun _=>False) v (c++d)))) (fun _ i _ _=>2-(intOf i).toNat);case atStart=>exact⟨C.out,.inl ⟨rfl,J.out⟩⟩
   case round=>
    obtain⟨a,⟨rfl,b⟩|⟨rfl,b⟩|⟨rfl,b⟩⟩:=hrel
    ·have u:=(Row.next r.out a).cell 0;have P:=(IsS.stb IsIV.stb).to E.out (F7 a);have p:=a.size;have l:((([]:List Int)).length+c.length)*(8+1)<=140737488355328:=(by rw[s.out];simp;omega);go_wp2_with (at_builtin;refine ylo zui rfl _ _ rfl rfl rfl b P l p H.out ?_;intro S T o k R);go_roundw;(case rel=>exact⟨a.trans k,.inr (.inl ⟨rfl,o⟩)⟩);case measure=>simp[intOf]
    ·have x:=(Row.next r.out a).cell 1;have Q:=(IsS.stb IsIV.stb).to F.out (F7 a);have p:=a.size;have l:(c.length+d.length)*(8+1)<=140737488355328:=(by rw[s.out,G.out];omega);go_wp2_with (at_builtin;refine ylo zui rfl _ _ rfl rfl rfl b Q l p I.out ?_;intro S T o k R);go_roundw;(case rel=>exact⟨a.trans k,.inr (.inr ⟨rfl,o⟩)⟩);case measure=>simp[intOf]
    ·go_wp2_with fail;go_ret;exact⟨⟨_,rfl,b.isS IsIV.stb (fun K h=>h.elim) (fun K N O=>⟨N,O⟩)⟩,a⟩
def zkm (B:Nat->Option Nat) (i:Nat) (o:Option Nat):Nat->Option Nat:=fun a=>if a=i then o else B a
theorem zno (B:Nat->Option Nat) (i:Nat) (o:Option Nat):zkm B i o i=o:=if_pos rfl
theorem L1 {B:Nat->Option Nat} {a:Nat} {o:Option Nat} (h:a≠i):zkm B i o a=B a:=if_neg h
structure Sep (w:D) (base:Nat) (S:Nat->Prop) (B:Nat->Option Nat):Prop where
 lt:∀i b,B i=some b->base<=b/\b<w.heap.size/\¬S b
 ne:∀i j b,i≠j->B i=some b->B j≠some b
 q:∀b,S b->b<w.heap.size
section
variable {w w' : D} {base : Nat} {S T : Nat → Prop} {B : Nat → Option Nat}
theorem Sep.upd (h:Sep w base S B) (q:w.heap.size<=w'.heap.size) (r:base<=w.heap.size) (n:∀a,T a->S a\/(w.heap.size<=a/\a<w'.heap.size)) {o:Option Nat}
 (l:∀a,o=some a->B i=some a\/(w.heap.size<=a/\a<w'.heap.size/\¬T a)):Sep w' base T (zkm B i o):=by
 have old:∀d a,B d=some a->base<=a/\a<w'.heap.size/\¬T a:=fun d a e=>by
  have b:=h.lt d a e;refine⟨b.1,by omega,fun j=> ?_⟩;rcases n a j with m|m
  ·exact b.2.2 m
  ·omega
 refine⟨fun d a e=> ?_,fun d k a g e c=> ?_,fun a j=> ?_⟩
 ·by_cases f:d=i
  ·subst f;rw[zno] at e;rcases l a e with b|b
   ·exact old _ _ b
   ·exact⟨by omega,b.2⟩
  ·rw[L1 f] at e;exact old _ _ e
 ·by_cases f:d=i
  ·subst f;rw[zno] at e;rw[L1 (Ne.symm g)] at c;rcases l a e with b|b
   ·exact h.ne _ _ _ g b c
   ·have:=(h.lt _ _ c).2.1;omega
  ·rw[L1 f] at e;by_cases p:k=i
   ·subst p;rw[zno] at c;rcases l a c with b|b
    ·exact h.ne _ _ _ g e b
    ·have:=(h.lt _ _ e).2.1;omega
   ·rw[L1 p] at c;exact h.ne _ _ _ g e c
 ·rcases n a j with b|b
  ·exact K (h.q a b) q
  ·exact b.2
theorem Sep.more (h:Sep w base S B) (g:w.heap.size<=w'.heap.size) (f:∀a,T a->S a\/(w.heap.size<=a/\a<w'.heap.size)):Sep w' base T B where
 lt i a e:=by
  have b:=h.lt i a e
  refine⟨b.1,by omega,fun c=> ?_⟩
  rcases f a c with d|d
  ·exact b.2.2 d
  ·omega
 ne:=h.ne
 q a c:=by
  rcases f a c with b|b
  ·exact K (h.q a b) g
  ·exact b.2
theorem Sep.size (h:Sep w base S B) (b:w.heap.size<=w'.heap.size):Sep w' base S B:=h.more b fun c a=> .inl a
end
theorem OwnS.head {f:Type} {n:Nat} {R:D->(Nat->Prop)->j->f->Prop} {w:D} {base:Nat} {S:Nat->Prop} {l:List f} (h:OwnS n t R w base S v l):
 ∃a c,v= .slice a l.length c/\l.length<=c/\c<=maxLen/\(1<=l.length->∃d,a=some ⟨d,0,none⟩/\v.ownBlock=some d):=by
 obtain⟨p,i,_⟩:=h;rcases i.2 with⟨e,b⟩|⟨g,cap,o,b,s,u,k,m,q,r⟩
 ·rw[b];exact⟨none,0,e,E _,by unfold maxLen;omega,fun h=>by omega⟩
 ·exact⟨_,_,b,k,m,fun _=>⟨g,rfl,by rw[b];rfl⟩⟩
theorem OwnS.bare {a:Type} {n:Nat} {R:D->(Nat->Prop)->j->a->Prop} (g:∀w S T e x,R w S e x->R w T e x) {w:D} {base:Nat} {S:Nat->Prop} {l:List a} (h:OwnS n t R w base S v l):OwnS n t R w base (fun _=>False) v l:=by obtain⟨b,c,d,f,k⟩:=h;exact⟨b,c,d,f.imp fun x y h=>g _ _ _ _ _ h,fun i h=>h.elim⟩
theorem OwnS.intW {w:D} {base:Nat} {S:Nat->Prop} {l:List Nat} (h:OwnS 1 3 IsIV w base S v (l.map fun(x:Nat)=>(x:Int))) (t:1<=l.length):
 ∃a c,v= .slice (some ⟨a,0,none⟩) l.length c/\IntW w a l.length (fun i=>l.getD i 0):=by have d:(l.map fun(x:Nat)=>(x:Int)).length=l.length:=(by simp);obtain⟨a,c,g,o,rfl,p,f,q,r,j,k,m,s,_⟩:=h.shape (fun e=>by rw[e] at d;simp at d;omega);refine⟨a,c,by rw[d],⟨g,f⟩,fun i hi=> ?_⟩;have hr:(l.map fun(x:Nat)=>(x:Int))[i]? =some ((l.getD i 0:Nat):Int):=(by rw[V,List.getD_eq_getElem?_getD,U hi];rfl);obtain⟨e,n,b⟩:=m.get hr;have b:e=_:=b;subst b;have:=zpi f j (zop k (i:=0) n rfl);rwa[Nat.mul_one,Nat.add_zero] at this
structure TabO (w:D) (base:Nat) (S:Nat->Prop) (B:Nat->Option Nat) (k l n:Nat) (hd:Nat->j) (q d:j) (F:Nat->Nat->Int) (Q:Nat->Int):Prop where
 rows:∀i,i<k->OwnS 3 37 IsR w base S (hd i) (C0 (ints n (F i)))/\(hd i).ownBlock=B (7+i)
 rests:OwnS 3 37 IsR w base S d (C0 (ints l Q))/\d.ownBlock=B 4
 heads:OwnS 1 30 IsVal w base (fun _=>False) q ((List.range k).map hd)/\q.ownBlock=B 3
 sep:Sep w base S B
def zpp (hd:Nat->j) (k:Nat) (u:j):Nat->j:=fun i=>if i=k then u else hd i
theorem yzb (hd:Nat->j) (k:Nat) (u:j):(List.range (k+1)).map (zpp hd k u)=(List.range k).map hd++[u]:=by
 rw[List.range_succ,List.map_append];congr 1
 ·refine List.map_congr_left fun i hi=> ?_;have:=List.mem_range.1 hi;unfold zpp;rw[if_neg og]
 ·show[zpp hd k u k]=_;unfold zpp;rw[if_pos rfl]
section
variable {w w' : D} {base : Nat} {S T : Nat → Prop} {B : Nat → Option Nat} {k l n : Nat} {hd : Nat → j} {q d : j} {F : Nat → Nat → Int} {Q : Nat → Int}
theorem zyq {f:List Raw} (c:Sep w base S B) (j:w.heap.size<=w'.heap.size) (i:∀a,T a->S a\/(w.heap.size<=a/\a<w'.heap.size)) (h:∀a,S a->T a) (d:v.ownBlock=B p) (g:OwnS 3 37 IsR w' base S v f):OwnS 3 37 IsR w' base T v f:=by
 refine g.wider IsR.stb h fun a b=> ?_;rcases i a b with b|b
 ·exact⟨K (c.q a b) j,fun e=>(c.lt p a (d▸e.symm)).2.2 b⟩
 ·exact⟨by omega,fun e=>by have:=(c.lt p a (d▸e.symm)).2.1;omega⟩
theorem TabO.grown (h:TabO w base S B k l n hd q d F Q) (hg:w.grownBy w' r) (hr:∀a,r=some a->w.heap.size<=a\/∃p,B p=some a/\p≠3/\p≠4/\p<7):TabO w' base S B k l n hd q d F Q:=by
 have key:∀p o,o=B p->(p=3\/p=4\/7<=p)->∀a,r=some a->o≠some a/\¬S a:=fun p o f u a e=>by
  rcases hr a e with c|⟨g,c,m,s,t⟩
  ·exact⟨fun b=>by have:=(h.sep.lt p a (f▸b)).2.1;omega,fun j=>by have:=h.sep.q a j;omega⟩
  ·exact⟨fun b=>h.sep.ne g p a og c (f▸b),(h.sep.lt g a c).2.2⟩
 exact⟨fun i hi=>⟨(h.rows i hi).1.grown IsR.stb hg (key (7+i) _ (h.rows i hi).2 og),(h.rows i hi).2⟩,⟨h.rests.1.grown IsR.stb hg (key 4 _ h.rests.2 og),h.rests.2⟩,
  ⟨h.heads.1.grown IsVal.stb hg fun a e=>⟨(key 3 _ h.heads.2 og a e).1,fun x=>x⟩,h.heads.2⟩,h.sep.size hg.size⟩
theorem TabO.next (h:TabO w base S B k l n hd q d F Q) (a:Below w.heap.size w w'):TabO w' base S B k l n hd q d F Q:=h.grown (r:=none) (K8 a) fun b e=>by cases e
theorem TabO.more (h:TabO w base S B k l n hd q d F Q) (b:Below w.heap.size w w') (f:∀a,S a->T a) (e:∀a,T a->S a\/(w.heap.size<=a/\a<w'.heap.size)):TabO w' base T B k l n hd q d F Q:=by have c:=h.next b;exact⟨fun i hi=>⟨zyq h.sep b.size e f (h.rows i hi).2 (c.rows i hi).1,(h.rows i hi).2⟩,⟨zyq h.sep b.size e f h.rests.2 c.rests.1,h.rests.2⟩,c.heads,h.sep.more b.size e⟩
theorem Sep.two {u v:Option Nat} {q:Nat} (t:q≠p) (h:Sep w base S B) (z:w.heap.size<=w'.heap.size) (y:base<=w.heap.size) (D:hi<=w'.heap.size) (E:w.heap.size<=hi) (r:∀a,T a->S a\/(w.heap.size<=a/\a<hi))
 (m:∀a,u=some a->w.heap.size<=a/\a<hi/\¬T a) (hv:v=B q\/∃a,v=some a/\hi<=a/\a<w'.heap.size):Sep w' base T (zkm (zkm B p u) q v):=by
 have k:Sep w' base T (zkm B p u):=h.upd z y (fun a d=>(r a d).imp id fun d=>⟨d.1,by omega⟩) fun a e=> .inr ⟨(m a e).1,by have:=(m a e).2.1;omega,(m a e).2.2⟩
 have new:∀b a,b≠q->zkm B p u b=some a->v=some a->False:=fun b a f c i=>by
  rcases hv with j|⟨x,j,A,C⟩
  ·rw[j] at i;exact k.ne q b a (Ne.symm f) (by rw[L1 t];exact i) c
  ·rw[j] at i;cases i;by_cases o:b=p
   ·subst o;rw[zno] at c;have:=(m a c).2.1;omega
   ·rw[L1 o] at c;have:=(h.lt b a c).2.1;omega
 refine⟨fun b a e=> ?_,fun b l a n e g=> ?_,k.q⟩
 ·by_cases f:b=q
  ·subst f;rw[zno] at e;rcases hv with c|⟨x,c,i,j⟩
   ·rw[c] at e;exact k.lt b a (by rw[L1 t];exact e)
   ·rw[c] at e;cases e;refine⟨by omega,j,fun d=> ?_⟩;rcases r a d with d|d
    ·have:=h.q a d;omega
    ·omega
  ·rw[L1 f] at e;exact k.lt b a e
 ·by_cases f:b=q
  ·subst f;rw[zno] at e;rw[L1 (Ne.symm n)] at g;exact(new l a (Ne.symm n) g e).elim
  ·rw[L1 f] at e;by_cases s:l=q
   ·subst s;rw[zno] at g;exact(new b a f e g).elim
   ·rw[L1 s] at g;exact k.ne _ _ _ n e g
theorem OwnS.higher {i:Type} {R:D->(Nat->Prop)->j->i->Prop} (p:Stb R) {d b:Nat->Prop} {f:List i} (h:OwnS c t R w lo d v f) (A:base<=lo) (q:∀a,d a->b a) (r:∀a,b a->a<w.heap.size/\some a≠v.ownBlock):OwnS c t R w base b v f:=by
 obtain⟨n,e,k,l,u⟩:=h;refine⟨n,⟨e.1,?_⟩,k,l.imp fun x y h=>p.to h fun a s=>⟨q a s,fun o=>rfl⟩,r⟩;rcases e.2 with h|⟨g,cap,m,hv,z,rest⟩
 ·exact .inl h
 ·exact .inr ⟨g,cap,m,hv,by omega,rest⟩
theorem TabO.row (h:TabO w base S B k l n hd q d F Q) (r:base<=w.heap.size) (s:w.grownBy w' (B 3)) (A:w.heap.size<=hi) (C:hi<=w'.heap.size)
 (x:OwnS 3 37 IsR w' w.heap.size (fun a=>w.heap.size<=a/\a<hi/\u.ownBlock≠some a) u (C0 (ints n (F k)))) (I:∀a,u.ownBlock=some a->a<hi)
 (hv:OwnS 1 30 IsVal w' base (fun _=>False) H ((List.range k).map hd++[u])) (J:H.ownBlock=q.ownBlock\/∃a,H.ownBlock=some a/\hi<=a):
 TabO w' base (fun a=>S a\/(w.heap.size<=a/\a<hi/\u.ownBlock≠some a)) (zkm (zkm B (7+k) u.ownBlock) 3 H.ownBlock) (k+1) l n (zpp hd k u) H d F Q:=by
 have f:∀a,S a->a<w.heap.size:=h.sep.q;have g:=s.size;have E:∀a,(S a\/(w.heap.size<=a/\a<hi/\u.ownBlock≠some a))->S a\/(w.heap.size<=a/\a<w'.heap.size):=fun a b=>b.imp id fun b=>⟨b.1,by omega⟩
 have old:∀(v:j) (p:Nat) (o:List Raw),v.ownBlock=B p->p≠3->OwnS 3 37 IsR w base S v o->OwnS 3 37 IsR w' base (fun a=>S a\/(w.heap.size<=a/\a<hi/\u.ownBlock≠some a)) v o:=fun v p o t G D=>
  zyq h.sep g E (fun a b=> .inl b) t (D.grown IsR.stb s fun a e=>⟨fun y=>h.sep.ne 3 p a (Ne.symm G) e (t▸y),(h.sep.lt 3 a e).2.2⟩)
 have m:=x.own_lt;refine⟨fun i L=> ?_,⟨old _ 4 _ h.rests.2 og h.rests.1,?_⟩,⟨?_,zno _ _ _▸rfl⟩,?_⟩
 ·by_cases e:i=k
  ·subst e;have c:zpp hd i u i=u:=if_pos rfl;rw[c];refine⟨x.higher IsR.stb r (fun a b=> .inr b) fun a b=> ?_,?_⟩
   ·rcases b with b|b
    ·exact⟨K (f a b) g,fun e=>by have:=(m a e.symm).1;have:=f a b;omega⟩
    ·exact⟨by omega,fun e=>b.2.2 e.symm⟩
   ·rw[L1 og,zno]
  ·have c:zpp hd k u i=hd i:=if_neg e;rw[c];refine⟨old _ _ _ (h.rows i og).2 og (h.rows i og).1,?_⟩;rw[L1 og,L1 og];exact(h.rows i og).2
 ·rw[L1 og,L1 og];exact h.rests.2
 ·rw[yzb];exact hv
 ·exact h.sep.two og g r C A (fun a b=>b.imp id fun b=>⟨b.1,b.2.1⟩) (fun a e=>⟨(m a e).1,I a e,fun b=>by
   rcases b with b|b
   ·have:=f a b;have:=(m a e).1;omega
   ·exact b.2.2 e⟩) (by
   rcases J with e|⟨a,c,z⟩
   ·exact .inl (e.trans h.heads.2)
   ·exact .inr ⟨a,c,z,(hv.own_lt a c).2⟩)
theorem TabO.rest {T:Nat->Prop} (h:TabO w base S B k l n hd q d F Q) (s:base<=w.heap.size) (c:w.grownBy w' (B 4)) (p:∀a,S a->T a) (f:∀a,T a->S a\/(w.heap.size<=a/\a<w'.heap.size))
 (hv:OwnS 3 37 IsR w' base T I (C0 (ints (l+1) Q))) (t:∀a,I.ownBlock=some a->B 4=some a\/w.heap.size<=a):
 TabO w' base T (zkm B 4 I.ownBlock) k (l+1) n hd q I F Q:=by
 have g:=c.size;refine⟨fun i hi=>⟨?_,?_⟩,⟨hv,(zno _ _ _).symm⟩,⟨h.heads.1.grown IsVal.stb c fun a e=>⟨fun b=>h.sep.ne 4 3 a og e (h.heads.2▸b),fun x=>x⟩,?_⟩,?_⟩
 ·exact zyq h.sep g f p (h.rows i hi).2 ((h.rows i hi).1.grown IsR.stb c fun a e=>⟨fun b=>h.sep.ne 4 (7+i) a og e ((h.rows i hi).2▸b),(h.sep.lt 4 a e).2.2⟩)
 ·rw[L1 og];exact(h.rows i hi).2
 ·rw[L1 og];exact h.heads.2
 ·obtain⟨y,j,u,v,m⟩:=hv;exact h.sep.upd g s f fun a e=>(t a e).imp id fun o=>⟨o,(j.lt a e).2,fun r=>(m a r).2 e.symm⟩
theorem TabO.place (h:TabO w base S B k l n hd q d F Q) {z:Nat->Option Nat} (e:Sep w base S z) (a:z 3=B 3) (b:z 4=B 4) (c:∀i,z (7+i)=B (7+i)):TabO w base S z k l n hd q d F Q:=
 ⟨fun i hi=>⟨(h.rows i hi).1,by rw[c];exact(h.rows i hi).2⟩,⟨h.rests.1,by rw[b];exact h.rests.2⟩,⟨h.heads.1,by rw[a];exact h.heads.2⟩,e⟩
end
structure TabE (w:D) (base:Nat) (S:Nat->Prop) (B:Nat->Option Nat) (m n:Nat) (hd:Nat->j) (q d b s A:j) (sb:Nat) (F:Nat->Nat->Int) (Q C:Nat->Int) (sc:Nat->Nat) (bas oth:List Nat):Prop where
 tab:TabO w base S B m m n hd q d F Q
 cost:OwnS 3 37 IsR w base S b (C0 (ints n C))/\b.ownBlock=B 5
 basO:OwnS 1 3 IsIV w base (fun _=>False) s (bas.map fun(x:Nat)=>(x:Int))/\s.ownBlock=B 0
 othO:OwnS 1 3 IsIV w base (fun _=>False) A (oth.map fun(x:Nat)=>(x:Int))/\A.ownBlock=B 1
 scl:B 2=some sb/\∀v,v∈bas++oth->∃P k,w.cell? ⟨sb,v,none⟩=some (.slice P (A9 (sc v)).length k)/\NumS w S (.slice P (A9 (sc v)).length k) (sc v)
def zod:j->Option Addr
 | .slice a _ _=>a
 |_=>none
def zpe:j->Nat
 | .slice _ _ c=>c
 |_=>0
def T6 (hd:Nat->j) (d b:j) (m l:Nat):j:=if l=m then d else if l=m+1 then b else hd l
def zmu (m l:Nat):Nat:=if l=m then 4 else if l=m+1 then 5 else 7+l
def zms (F:Nat->Nat->Int) (Q C:Nat->Int) (m l a:Nat):Int:=if l=m then Q a else if l=m+1 then C a else F l a
theorem ywq {m l k:Nat} (d:l<m+2) (c:k<m+2) (h:zmu m l=zmu m k):l=k:=by
 have key:∀l,(l=m/\zmu m l=4)\/(l=m+1/\zmu m l=5)\/(l≠m/\l≠m+1/\zmu m l=7+l):=fun l=>by
  unfold zmu;by_cases a:l=m
  ·exact .inl ⟨a,if_pos a⟩
  ·by_cases b:l=m+1
   ·exact .inr (.inl ⟨b,by rw[if_neg a,if_pos b]⟩)
   ·exact .inr (.inr ⟨a,b,by rw[if_neg a,if_neg b]⟩)
 rcases key l with a|a|a<;>rcases key k with b|b|b<;>omega
theorem yik {m l:Nat}:zmu m l=4\/zmu m l=5\/7<=zmu m l:=by
 unfold zmu;split
 ·exact .inl rfl
 ·split
  ·exact .inr (.inl rfl)
  ·exact .inr (.inr og)
section
variable {w W : D} {base m n sb : Nat} {S : Nat → Prop} {B : Nat → Option Nat} {hd : Nat → j} {q d b s A : j} {F : Nat → Nat → Int} {Q C : Nat → Int} {sc : Nat → Nat} {bas oth : List Nat}
theorem TabE.line (h:TabE w base S B m n hd q d b s A sb F Q C sc bas oth) {l:Nat} (f:l<m+2):
 OwnS 3 37 IsR w base S (T6 hd d b m l) (C0 (ints (L4 m n l) (zms F Q C m l)))/\(T6 hd d b m l).ownBlock=B (zmu m l):=by
 unfold T6 zmu;by_cases a:l=m
 ·subst a;rw[if_pos rfl,if_pos rfl,U5];have e:zms F Q C l l=Q:=(by funext j;unfold zms;rw[if_pos rfl]);rw[e];exact h.tab.rests
 ·rw[if_neg a,if_neg a];by_cases c:l=m+1
  ·subst c;rw[if_pos rfl,if_pos rfl,X8];have e:zms F Q C m (m+1)=C:=(by funext j;unfold zms;rw[if_neg a,if_pos rfl]);rw[e];exact h.cost
  ·rw[if_neg c,if_neg c,J4 og];have e:zms F Q C m l=F l:=(by funext j;unfold zms;rw[if_neg a,if_neg c]);rw[e];exact h.tab.rows l og
theorem TabE.shape (h:TabE w base S B m n hd q d b s A sb F Q C sc bas oth) {l:Nat} (u:l<m+2):
 T6 hd d b m l= .slice (zod (T6 hd d b m l)) (L4 m n l) (zpe (T6 hd d b m l))/\L4 m n l<=zpe (T6 hd d b m l)/\zpe (T6 hd d b m l)<=maxLen/\
 (1<=L4 m n l->∃f,zod (T6 hd d b m l)=some ⟨f,0,none⟩/\B (zmu m l)=some f):=by obtain⟨o,p⟩:=h.line u;obtain⟨a,c,e,i,r,g⟩:=o.head;have v:(C0 (ints (L4 m n l) (zms F Q C m l))).length=L4 m n l:=(by simp[C0,zqg]);rw[v] at e i g;rw[p] at g;refine⟨by rw[e];rfl,by rw[e];exact i,by rw[e];exact r,fun t=> ?_⟩;obtain⟨f,j,k⟩:=g t;exact⟨f,by rw[e];exact j,k⟩
def M4 (v:j):Nat:=match zod v with
 |some a=>a.block
 |none=>0
theorem yyx (h:TabE w base S B m n hd q d b s A sb F Q C sc bas oth) (Z:bas.length=m) (aa:oth.length=n) (bd:m+n<=1000) {lo0 top:Nat} {z:Int} {D T P ad:Option Addr} {af ag k:Nat}
 (aC:Below w.heap.size w W) (hg:(lo0<=g/\g<base)\/w.heap.size<=g) (hlo:lo0<=base) (a8:base<=w.heap.size) (aO:∀a,S a->base<=a)
 (aQ:NumS w S (.slice D (A9 1).length af) 1) (aX:NumS w S (.slice T (A9 top).length ag) top) (aY:IsQ w S (.agg #[.bool (decide (z<0)),.slice P (A9 z.natAbs).length k,.slice ad (A9 1).length M]) ((z:Int):Rat))
 (aB:Row W g 96 [s,A,q,d,b,.bool (decide (z<0)),.slice P (A9 z.natAbs).length k,.slice ad (A9 1).length M,.slice D (A9 1).length af,.slice (some ⟨sb,0,none⟩) (m+n) (m+n),.slice T (A9 top).length ag,.int .i64 0,.int .i64 (-1),.int .i64 0]):
 ∃(G:Nat->Prop) (L:Lay),SchG W G lo0 W.heap.size g L m n sc top (zms F Q C m) z 1 bas oth 0 (-1) 0:=by
 obtain⟨ra,rc,ak,r1,r2,r3⟩:=h.tab.heads.1.head;have ao:((List.range m).map hd).length=m:=(by simp);rw[ao] at ak r1 r3;rw[h.tab.heads.2] at r3;obtain⟨ba,bc,eb,ay,b2,ae⟩:=h.basO.1.head;have aP:(bas.map fun(x:Nat)=>(x:Int)).length=m:=(by simp[Z]);rw[aP] at eb ay ae;rw[h.basO.2] at ae;obtain⟨oa,oc,aj,aH,a0,ar⟩:=h.othO.1.head;have aU:(oth.map fun(x:Nat)=>(x:Int)).length=n:=(by simp[aa]);rw[aU] at aj aH ar;rw[h.othO.2] at ar;obtain⟨L,aM⟩:=nm (⟨fun l=>M4 (T6 hd d b m l),fun l=>zpe (T6 hd d b m l),fun l=>zod (T6 hd d b m l),M4 q,rc,ra,M4 s,bc,ba,M4 A,oc,oa,sb,m+n,some ⟨sb,0,none⟩⟩:Lay);have sep:=h.tab.sep;have aS:g<W.heap.size:=aB.lt;have a9:=aC.size;have aA:=h.scl.1;have U:∀p a,B p=some a->a≠g:=fun p a e az=>(by have:=sep.lt p a e;omega);have X:∀l,l<m+2->1<=L4 m n l->zod (T6 hd d b m l)=some ⟨M4 (T6 hd d b m l),0,none⟩/\B (zmu m l)=some (M4 (T6 hd d b m l)):=fun l t f=>(by obtain⟨_,_,_,aW⟩:=h.shape t;obtain⟨a,r,u⟩:=aW f;unfold M4;rw[r];exact⟨rfl,u⟩);have aI:1<=m->ra=some ⟨M4 q,0,none⟩/\B 3=some (M4 q):=fun f=>(by obtain⟨a,r,u⟩:=r3 f;unfold M4 zod;rw[ak,r];exact⟨rfl,u⟩);have K:1<=m->ba=some ⟨M4 s,0,none⟩/\B 0=some (M4 s):=fun f=>(by obtain⟨a,r,u⟩:=ae f;unfold M4 zod;rw[eb,r];exact⟨rfl,u⟩);have N:1<=n->oa=some ⟨M4 A,0,none⟩/\B 1=some (M4 A):=fun f=>(by obtain⟨a,r,u⟩:=ar f;unfold M4 zod;rw[aj,r];exact⟨rfl,u⟩);obtain⟨G,R⟩:∃G:Nat->Prop,G=fun a=>S a\/B 3=some a\/B 2=some a:=⟨_,rfl⟩;have sS:∀a,S a->G a:=fun a j=>by rw[R];exact .inl j
 have av:∀a,G a->base<=a/\a<w.heap.size:=fun a j=>by
  rw[R] at j;rcases j with j|j|j
  ·exact⟨aO a j,sep.q a j⟩
  ·exact⟨(sep.lt _ a j).1,(sep.lt _ a j).2.1⟩
  ·exact⟨(sep.lt _ a j).1,(sep.lt _ a j).2.1⟩
 have aq:∀p a,p≠3->p≠2->B p=some a->¬G a:=fun p a Y O e j=>by
  rw[R] at j;rcases j with j|j|j
  ·exact(sep.lt p a e).2.2 j
  ·exact sep.ne 3 p a (Ne.symm Y) j e
  ·exact sep.ne 2 p a (Ne.symm O) j e
 have I:∀a,a<w.heap.size->W.heap[a]? =w.heap[a]? :=fun a j=>aC.block a j;have au:L2 S (SN G W.heap.size W) w W:=fun a j=>⟨.inl (sS a j),fun o=>J (I a (sep.q a j))⟩;have a5:L2 S G w W:=fun a j=>⟨sS a j,fun o=>J (I a (sep.q a j))⟩;have aG:∀l,l<m+2->1<=L4 m n l->LineW w S (M4 (T6 hd d b m l)) (zpe (T6 hd d b m l)) (L4 m n l) (zms F Q C m l):=fun l t f=>(by obtain⟨a,c,e,_,_,_,aN⟩:=(h.line t).1.line f;have r:M4 (T6 hd d b m l)=a:=(by unfold M4;rw[e];rfl);have u:zpe (T6 hd d b m l)=c:=(by rw[e];rfl);rw[r,u];exact aN);refine⟨G,L,?_⟩;subst aM
 refine⟨⟨fun l t f=>(aG l t f).keep (I _ (aG l t f).lt) fun x ac=>⟨.inl (sS x ac),I x (sep.q x ac)⟩,fun l k t aD f O e=> ?_,fun l t f=> ?_,fun a j=>by have:=(av a j).2;omega,E _⟩,
  fun l t f=>(X l t f).1,fun l t=>⟨(h.shape t).2.1,(h.shape t).2.2.1⟩,⟨P,k,ad,M,D,af,T,ag,?_,IsQ.stb.to aY au,IsK.stb.to aQ au,IsK.stb.to aX au⟩,fun i hi=> ?_,⟨r1,r2,ay,b2,aH,a0,E _,by show m+n<=maxLen;unfold maxLen;omega⟩,
  fun f=>⟨(K f).1,?_⟩,fun f=>⟨(N f).1,?_⟩,fun v hv=> ?_,⟨by omega,aS,fun j=>by have:=av g j;omega⟩,fun f=> ?_,fun f=> ?_,fun f O=> ?_,fun l t f=> ?_,⟨Z,aa⟩⟩
 ·have H:=(X l t f).2;have aT:=(X k aD O).2;exact Classical.byContradiction fun U=>sep.ne _ _ _ (fun az=>U (ywq t aD az)) H (by rw[aT];exact congrArg some e.symm)
 ·have H:=(X l t f).2;have:=sep.lt _ _ H;have aV:=yik (m:=m) (l:=l);exact⟨by show M4 _<_;omega,aq _ _ og og H⟩
 ·show Row W g _ [.slice ba m bc,.slice oa n oc,.slice ra m rc,.slice (zod (T6 hd d b m m)) m (zpe (T6 hd d b m m)),.slice (zod (T6 hd d b m (m+1))) n (zpe (T6 hd d b m (m+1))),_,_,_,_,_,_,_,_,_];have r:=(h.shape (l:=m) og).1;have u:=(h.shape (l:=m+1) og).1;rw[U5] at r;rw[X8] at u;have ah:T6 hd d b m m=d:=if_pos rfl;have ai:T6 hd d b m (m+1)=b:=(by unfold T6;rw[if_neg og,if_pos rfl]);rw[<-r,<-u,ah,ai,<-eb,<-aj,<-ak];exact aB
 ·have f:1<=m:=og;have aE:=(aI f).2;refine⟨(aI f).1,by rw[R];exact .inr (.inl aE),?_⟩;show W.cell? ⟨M4 q,i,none⟩=some (.slice (zod (T6 hd d b m i)) n (zpe (T6 hd d b m i)));have r:=(h.shape (l:=i) og).1;rw[J4 hi] at r;have u:T6 hd d b m i=hd i:=(by unfold T6;rw[if_neg og,if_neg og]);have hc:(hd i).cells[0]? =some (hd i):=(by obtain⟨x,y,z,ac⟩:∃x y z,hd i= .slice x y z:=⟨_,_,_,u▸r⟩;rw[ac];rfl);rw[<-r,u,J (I _ (sep.lt _ _ aE).2.1)];obtain⟨a,c,a6,a7,ah,_,a1,_,_,a2,a3,a4,_,_⟩:=h.tab.heads.1.shape (fun e=>by rw[e] at ao;simp at ao;omega);have ai:M4 q=a:=(by unfold M4;rw[ah];rfl);rw[ai];have hr:((List.range m).map hd)[i]? =some (hd i):=(by rw[V,List.getElem?_range hi];rfl);obtain⟨e,aR,an⟩:=a4.get hr;have an:e=_:=an;subst an;have:=zpi a1 a2 (zop a3 (i:=0) aR hc);rwa[Nat.mul_one,Nat.add_zero] at this
 ·obtain⟨a,c,e,hi⟩:=h.basO.1.intW (by rw[Z];exact f);have r:M4 s=a:=(by unfold M4;rw[e];rfl);rw[Z] at hi;show IntW W (M4 s) m _;rw[r];exact hi.keep (I _ hi.lt)
 ·obtain⟨a,c,e,hi⟩:=h.othO.1.intW (by rw[aa];exact f);have r:M4 A=a:=(by unfold M4;rw[e];rfl);rw[aa] at hi;show IntW W (M4 A) n _;rw[r];exact hi.keep (I _ hi.lt)
 ·obtain⟨aJ,aZ,aK,aL⟩:=h.scl.2 v hv;refine⟨rfl,by rw[R];exact .inr (.inr aA),aJ,aZ,?_,IsK.stb.to aL a5⟩;rw[<-aK];exact J (I _ (sep.lt _ _ aA).2.1)
 ·have Y:=sep.lt _ _ (K f).2;exact⟨by show lo0<=M4 s;omega,by show M4 s<_;omega,aq 0 _ og og (K f).2,U 0 _ (K f).2⟩
 ·have Y:=sep.lt _ _ (N f).2;exact⟨by show lo0<=M4 A;omega,by show M4 A<_;omega,aq 1 _ og og (N f).2,U 1 _ (N f).2⟩
 ·exact fun e=>sep.ne 0 1 _ og (K f).2 (by rw[(N O).2];exact congrArg some (show M4 A=M4 s from e.symm))
 ·have H:=(X l t f).2;have Y:=sep.lt _ _ H;have aV:=yik (m:=m) (l:=l);exact⟨by show lo0<=M4 _;omega,U _ _ H,fun al e=>sep.ne _ 0 _ og H (by rw[(K al).2];exact congrArg some (show M4 s=M4 _ from e.symm)),fun al e=>sep.ne _ 1 _ og H (by rw[(N al).2];exact congrArg some (show M4 A=M4 _ from e.symm))⟩
end
theorem zz1388 {w:D} {rest:List Oper} {a:Act} {Q:Exit->Act->D->Prop} {z:j} (b:ElT P t e z bytes) (F:z.cells= #[z]) (hg:o.guard=none) (l c:Operand) (B:o.op=Op.makeSlice t l c) {f d:IntKind} {C:Int} (n:Nat)
 (y:a.eval l= .int f L) (hc:a.eval c= .int d C) (s:L=(n:Int)) (p:C=(n:Int)) (u:n*(bytes+1)<=140737488355328)
 (q:∀w',Row w' w.heap.size e (List.replicate n z)->Below w.heap.size w w'->Hid (w'.heap.size=w.heap.size+1)->wpList P ops Q rest (a.put o.dst (.slice (some ⟨w.heap.size,0,none⟩) n n)) w'):
 wpList P ops Q (o::rest) a w:=by obtain⟨i,g,k,m,x⟩:=b.info;rw[Nat.mul_add,Nat.mul_one] at u;refine wpList_plain hg fun G r=> ?_;have b2:i.bytes*n<=281474976710656:=(by rw[x,Nat.mul_comm];omega);have v:(i.bytes:Int)*(n:Int)<=281474976710656:=(by have h:((i.bytes*n:Nat):Int)<=281474976710656:=og;rwa[Int.natCast_mul] at h);have hr:=run_make (P:=P) w t e i z b.und g k f d n n og (Int.le_refl _) v og;simp only[Int.toNat_natCast] at hr;subst s;subst p;unfold Oper.wp;simp[execOp,B,y,hc,hr,Result.andThen];refine r _ _ (q _ ?_ ((Below.refl _ _).alloc (E _) _) (by simp[Hid]));unfold Row;(have A:(List.replicate n z).toArray=madeCells z.cells (n*i.size):=by apply Array.ext';rw[m,Nat.mul_one,F];show _=(madeCells #[z] n).toList;rw[toList_madeCells_one]);rw[A];exact heap_alloc_new w _
def zmm (b:List j) (c:Nat->j):List Nat->List j
 |[]=>b
 |t::a=>(zmm b c a).set t (c t)
theorem yjp (b:List j) (c:Nat->j) (a:List Nat):(zmm b c a).length=b.length:=by
 induction a with
 |nil=>rfl
 |cons t a ih=>rw[zmm,List.length_set,ih]
theorem yza (b:List j) (c:Nat->j) (a:List Nat) (hi:i<b.length):(zmm b c a)[i]? =if i∈a then some (c i) else b[i]? :=by
 induction a with
 |nil=>simp[zmm]
 |cons t a ih=>
  rw[zmm,List.getElem?_set];by_cases e:t=i
  ·subst e;rw[if_pos rfl,if_pos (by rw[yjp];exact hi),if_pos (by simp)]
  ·rw[if_neg e,ih];have:i∈t::a↔i∈a:=(by simp[Ne.symm e]);simp only[this]
theorem zqd {l b:List j} {p:Nat->Bool} (a:List Nat) (e:∀t,t∉a->p t=false) (f:l.length=b.length) (h:∀t,p t=false->(Array.mk l)[t]? =(Array.mk b)[t]?):∃d:Nat->j,l=zmm b d a:=by
 refine⟨fun t=>l.getD t undef,List.ext_getElem? fun i=> ?_⟩;rcases X i b.length with hi|hi
 ·rw[yza _ _ _ hi];by_cases c:i∈a
  ·rw[if_pos c,List.getD_eq_getElem?_getD,U og];rfl
  ·rw[if_neg c];have:=h i (e i c);simpa using this
 ·rw[List.getElem?_eq_none og,List.getElem?_eq_none (by rw[yjp];exact hi)]
def yey (ops:Array Oper) (a:List Nat):Bool:=ops.toList.all fun o=>match o.dst with|none=>true|some d=>a.contains d
theorem ypr (h:yey ops a=true) {t:Nat} (e:ops[i]? =some o) (hd:(o.dst==some t)=true):t∈a:=by have d:o∈ops.toList:=(by have:=Array.getElem?_eq_some_iff.1 e;obtain⟨b,c⟩:=this;rw[<-c];simp);have b:=List.all_eq_true.1 h o d;have c:o.dst=some t:=(by simpa using hd);rw[c] at b;simpa using b
theorem ybz (h:yey ops a=true):∀t,t∉a->zlm ops t=false:=fun t d=>by
 rcases Bool.eq_false_or_eq_true (zlm ops t) with e|e
 ·unfold zlm at e
  obtain⟨o,b,c⟩:=List.any_eq_true.1 e
  obtain⟨i,hi⟩:=List.getElem?_of_mem b
  exact absurd (ypr h (i:=i) (by simpa using hi) c) d
 ·exact e
theorem ypz:ElT Tryz.prog 92 35 (.slice none 0 0) 24:=
 ⟨Tryz.underlying92,by obtain⟨i,a,b,c,d⟩:=info_parts (show(Tryz.prog.info? 35).map (fun i=>(i.zero,i.size,i.bytes))=some (some (.slice none 0 0),1,24) by kernel_rfl);exact⟨i,a,b,c,d⟩,rfl⟩
structure ScW (w:D) (S:Nat->Prop) (sb len:Nat) (f:Nat->Nat):Prop where
 blk:∃cur,w.heap[sb]? =some (.cells cur 35 (0,0))
 el:∀v,v<len->∃P k,w.cell? ⟨sb,v,none⟩=some (.slice P (A9 (f v)).length k)/\NumS w S (.slice P (A9 (f v)).length k) (f v)
section
variable {w w' : D} {S T : Nat → Prop} {sb len : Nat} {f : Nat → Nat}
theorem ScW.zero (h:Row w sb 35 (List.replicate len (.slice none 0 0))):ScW w S sb len (fun _=>0) where
 blk:=⟨_,h⟩
 el v hv:=by
  refine⟨none,0,?_,?_⟩
  ·rw[h.cell v,List.getElem?_replicate,if_pos hv,N5];rfl
  ·rw[N5];exact yay
theorem ScW.lt (h:ScW w S sb len f):sb<w.heap.size:=by obtain⟨a,e⟩:=h.blk;exact(Array.getElem?_eq_some_iff.1 e).1
theorem ScW.free (h:ScW w S sb len f) (o:Nat):w.frozen? ⟨sb,o,none⟩=false:=by obtain⟨a,e⟩:=h.blk;simp[World.frozen?,e]
theorem ScW.keep (h:ScW w S sb len f) (a:w'.heap[sb]? =w.heap[sb]?) (d:L2 S T w w'):ScW w' T sb len f where
 blk:=by rw[a];exact h.blk
 el v hv:=by obtain⟨P,k,b,c⟩:=h.el v hv;exact⟨P,k,(J a).trans b,IsK.stb.to c d⟩
theorem ScW.put (h:ScW w S sb len f) (l:¬S sb) {v x k:Nat} (hv:v<len) {P:Option Addr} (m:NumS w S (.slice P (A9 x).length k) x):ScW (w.setCell ⟨sb,v,none⟩ (.slice P (A9 x).length k)) S sb len (N6 f v x) where
 blk:=by obtain⟨p,e⟩:=h.blk;exact zvi e
 el u hu:=by
  have i:L2 S S w (w.setCell ⟨sb,v,none⟩ (.slice P (A9 x).length k)):=fun n g=>⟨g,fun o=>World.cell?_setCell_other _ _ _ _ (fun c=>by injection c with a b;exact l (a▸g))⟩;by_cases e:u=v
  ·subst e;rw[znh];obtain⟨d,j,a,b⟩:=h.el u hu;exact⟨P,k,World.cell?_setCell_same _ _ _ a,IsK.stb.to m i⟩
  ·rw[zni _ _ e];obtain⟨d,j,a,b⟩:=h.el u hu;exact⟨d,j,(World.cell?_setCell_other _ _ _ _ (fun c=>by injection c with a b;exact e b.symm)).trans a,IsK.stb.to b i⟩
end
structure TblW (y w:D) (G sb:Nat) (S:Nat->Prop) (B:Nat->Option Nat) (k l n len:Nat) (hd:Nat->j) (q d s A one:j) (F:Nat->Nat->Int) (Q:Nat->Int) (f:Nat->Nat) (bas oth:List Nat) (tc:List j):Prop where
 below:Below y.heap.size y w
 row:Row w G 94 tc
 tab:TabO w y.heap.size S B k l n hd q d F Q
 basO:OwnS 1 3 IsIV w y.heap.size (fun _=>False) s (bas.map fun(x:Nat)=>(x:Int))/\s.ownBlock=B 0
 othO:OwnS 1 3 IsIV w y.heap.size (fun _=>False) A (oth.map fun(x:Nat)=>(x:Int))/\A.ownBlock=B 1
 scl:ScW w S sb len f
 den:NumS w S one 1
 b2:B 2=some sb
 b6:B 6=some G
 quiet:∀b,S b->y.heap.size<=b
section
variable {y w w' : D} {G sb : Nat} {S T : Nat → Prop} {B z : Nat → Option Nat} {k l n len : Nat} {hd : Nat → j} {q d s A one : j} {F : Nat → Nat → Int} {Q : Nat → Int} {f : Nat → Nat} {bas oth : List Nat} {tc : List j}
theorem TblW.gb (h:TblW y w G sb S B k l n len hd q d s A one F Q f bas oth tc):y.heap.size<=G/\G<w.heap.size/\¬S G/\y.heap.size<=sb/\sb<w.heap.size/\¬S sb/\G≠sb:=
 ⟨(h.tab.sep.lt _ _ h.b6).1,(h.tab.sep.lt _ _ h.b6).2.1,(h.tab.sep.lt _ _ h.b6).2.2,(h.tab.sep.lt _ _ h.b2).1,(h.tab.sep.lt _ _ h.b2).2.1,(h.tab.sep.lt _ _ h.b2).2.2,fun e=>h.tab.sep.ne 6 2 G og h.b6 (by rw[h.b2,e])⟩
theorem TblW.step (h:TblW y w G sb S B k l n len hd q d s A one F Q f bas oth tc) (hg:w.grownBy w' r) (hr:∀a,r=some a->a=G\/a=sb) {j:Nat->Nat} (z:Row w' G 94 O) (C:ScW w' S sb len j):
 TblW y w' G sb S B k l n len hd q d s A one F Q j bas oth O:=by
 have m:=h.gb
 have c:∀a,r=some a->∃p,B p=some a/\p≠3/\p≠4/\p<7/\p≠0/\p≠1:=fun a e=>by
  rcases hr a e with rfl|rfl
  ·exact⟨6,h.b6,by omega,by omega,by omega,by omega,by omega⟩
  ·exact⟨2,h.b2,by omega,by omega,by omega,by omega,by omega⟩
 have nS:∀a,r=some a->¬S a:=fun a e=>by obtain⟨p,b,_⟩:=c a e;exact(h.tab.sep.lt p a b).2.2
 refine⟨h.below.grown hg h.below.size fun a e=>by rcases hr a e with rfl|rfl;exact m.1;exact m.2.2.2.1,z,h.tab.grown hg fun a e=>by obtain⟨p,b,t,u,v,_⟩:=c a e;exact .inr ⟨p,b,t,u,v⟩,
  ⟨h.basO.1.grown IsIV.stb hg fun a e=>⟨fun g=>by obtain⟨p,b,_,_,_,i,_⟩:=c a e;exact h.tab.sep.ne p 0 a i b (h.basO.2▸g),fun x=>x⟩,h.basO.2⟩,
  ⟨h.othO.1.grown IsIV.stb hg fun a e=>⟨fun g=>by obtain⟨p,b,_,_,_,_,i⟩:=c a e;exact h.tab.sep.ne p 1 a i b (h.othO.2▸g),fun x=>x⟩,h.othO.2⟩,
  C,IsK.stb.to h.den (zll hg fun a o=>⟨h.tab.sep.q a o,fun e=>nS a e.symm o⟩),h.b2,h.b6,h.quiet⟩
theorem TblW.next (h:TblW y w G sb S B k l n len hd q d s A one F Q f bas oth tc) (a:Below w.heap.size w w'):TblW y w' G sb S B k l n len hd q d s A one F Q f bas oth tc:=
 h.step (r:=none) (K8 a) (fun b e=>by cases e) (h.row.next a) (h.scl.keep (a.block _ h.scl.lt) (zpo a fun b c=>h.tab.sep.q b c))
theorem TblW.setG (h:TblW y w G sb S B k l n len hd q d s A one F Q f bas oth tc) (hg:w.grownBy w' (some G)) (c:Row w' G 94 O):TblW y w' G sb S B k l n len hd q d s A one F Q f bas oth O:=
 h.step hg (fun a e=>by cases e;exact .inl rfl) c (h.scl.keep (hg.block _ h.scl.lt fun e=>h.gb.2.2.2.2.2.2 (by injection e with e;exact e.symm)) (zll hg fun a b=>⟨h.tab.sep.q a b,fun e=>by injection e with e;exact h.gb.2.2.1 (e▸b)⟩))
theorem TblW.setS (h:TblW y w G sb S B k l n len hd q d s A one F Q f bas oth tc) {v x:Nat} (hv:v<len) {P:Option Addr} (a:NumS w S (.slice P (A9 x).length c) x):TblW y (w.setCell ⟨sb,v,none⟩ (.slice P (A9 x).length c)) G sb S B k l n len hd q d s A one F Q (N6 f v x) bas oth tc:=
 h.step (r:=some sb) (I0 _ _ _ _) (fun b e=>by cases e;exact .inr rfl) (h.row.far (p:=⟨sb,v,none⟩) (fun e=>h.gb.2.2.2.2.2.2 e) _) (h.scl.put h.gb.2.2.2.2.2.1 hv a)
theorem TblW.more (h:TblW y w G sb S B k l n len hd q d s A one F Q f bas oth tc) (i:Below w.heap.size w w') (e:∀a,S a->T a) (g:∀a,T a->S a\/(w.heap.size<=a/\a<w'.heap.size)):TblW y w' G sb T B k l n len hd q d s A one F Q f bas oth tc:=by
 have b:=h.next i
 exact {b with
  tab:=h.tab.more i e g
  scl:=b.scl.keep rfl (F6 e)
  den:=IsK.stb.to b.den (F6 e)
  quiet:=fun a j=>by
   rcases g a j with c|c
   ·exact h.quiet a c
   ·exact N h.below.size c.1}
theorem TblW.swap (h:TblW y w G sb S B k l n len hd q d s A one F Q f bas oth tc) (L:p=3\/p=4) (hg:w.grownBy w' (B p)) {m:Nat} {g:Nat->j} (D:TabO w' y.heap.size T z m M n g H I F Q) (r:z 0=B 0) (t:z 1=B 1) (u:z 2=B 2) (v:z 6=B 6)
 (K:Row w' G 94 tc) (C:∀a,S a->T a) (E:∀a,T a->y.heap.size<=a):TblW y w' G sb T z m M n len g H I s A one F Q f bas oth tc:=by
 have nS:∀a,B p=some a->¬S a:=fun a e=>(h.tab.sep.lt p a e).2.2;have i:L2 S T w w':=fun a c=>⟨C a c,fun o=>J (hg.block a (h.tab.sep.q a c) fun e=>nS a e.symm c)⟩
 refine⟨h.below.grown hg h.below.size fun a e=>(h.tab.sep.lt p a e).1,K,D,⟨h.basO.1.grown IsIV.stb hg fun a e=>⟨fun b=>h.tab.sep.ne p 0 a og e (h.basO.2▸b),fun x=>x⟩,by rw[r];exact h.basO.2⟩,
  ⟨h.othO.1.grown IsIV.stb hg fun a e=>⟨fun b=>h.tab.sep.ne p 1 a og e (h.othO.2▸b),fun x=>x⟩,by rw[t];exact h.othO.2⟩,
  h.scl.keep (hg.block _ h.scl.lt fun e=>h.tab.sep.ne p 2 sb og e.symm h.b2) i,IsK.stb.to h.den i,by rw[u];exact h.b2,by rw[v];exact h.b6,E⟩
end
def LinP (w:D) (n0 n:Nat) (x:Nat->Int) (hi:Nat) (u:j):Prop:=
 (n0<=hi/\hi<=w.heap.size)/\OwnS 3 37 IsR w n0 (fun a=>n0<=a/\a<hi/\u.ownBlock≠some a) u (C0 (ints n x))/\∀a,u.ownBlock=some a->a<hi
theorem LinP.grown {w w':D} {n0 n:Nat} (h:LinP w n0 n x hi u) (hg:w.grownBy w' r) (hr:∀a,r=some a->a<n0):LinP w' n0 n x hi u:=
 ⟨⟨h.1.1,N h.1.2 hg.size⟩,h.2.1.grown IsR.stb hg fun a e=>⟨fun b=>by have:=(h.2.1.own_lt a b).1;have:=hr a e;omega,fun c=>by have:=hr a e;have:=c.1;omega⟩,h.2.2⟩
theorem LinP.mk {w w':D} {n0 n:Nat} (h:zpd w w' u (ints n x)) (d:n0<=w.heap.size) (a:w.heap.size<=w'.heap.size):LinP w' n0 n x w'.heap.size u:=by obtain⟨S,c,g⟩:=h;have i:=c.own_lt;refine⟨⟨by omega,E _⟩,c.higher IsR.stb d (fun b a=> ?_) fun b a=>⟨a.2.1,fun e=>a.2.2 e.symm⟩,fun b e=>(i b e).2⟩;obtain⟨_,_,_,_,f⟩:=c;have:=f b a;exact⟨N d (g b a),this.1,fun e=>this.2 e.symm⟩
def QinP (w:D) (n0 lo hi:Nat) (q:Rat) (v:j):Prop:=(n0<=lo/\lo<=hi/\hi<=w.heap.size)/\IsQ w (G0 lo hi) v q
theorem QinP.grown {w w':D} {n0:Nat} {q:Rat} (h:QinP w n0 lo hi q v) (hg:w.grownBy w' r) (hr:∀a,r=some a->a<n0):QinP w' n0 lo hi q v:=
 ⟨⟨h.1.1,h.1.2.1,N h.1.2.2 hg.size⟩,h.2.rngG hg h.1.2.2 fun a e=>K (hr a e) h.1.1⟩
def NinP (w:D) (n0 lo hi x:Nat) (v:j):Prop:=(n0<=lo/\lo<=hi/\hi<=w.heap.size)/\NumS w (G0 lo hi) v x
theorem NinP.grown {w w':D} {n0 x:Nat} (h:NinP w n0 lo hi x v) (hg:w.grownBy w' r) (hr:∀a,r=some a->a<n0):NinP w' n0 lo hi x v:=
 ⟨⟨h.1.1,h.1.2.1,N h.1.2.2 hg.size⟩,IsK.stb.to h.2 (zll hg fun a b=>⟨K b.2 h.1.2.2,fun e=>by have:=hr a e.symm;have:=b.1;have:=h.1.1;omega⟩)⟩
def yps (ops:Array Oper) (n:Nat) (a:List Nat):Bool:=(List.range n).all fun i=>(ops[i]?).all fun o=>match o.dst with|none=>true|some d=>a.contains d
theorem zvl {n:Nat} (h:yps ops n a=true):∀t,t∉a->zol ops n t=false:=fun t j=>by
 rcases Bool.eq_false_or_eq_true (zol ops n t) with e|e
 ·unfold zol at e
  obtain⟨i,f,b⟩:=List.any_eq_true.1 e
  have c:=List.all_eq_true.1 h i f
  cases d:ops[i]? with
  |none=>rw[d] at b;cases b
  |some o=>
   rw[d] at b c
   have g:o.dst=some t:=by simpa using b
   simp only[Option.all_some,g] at c
   exact absurd (by simpa using c) j
 ·exact e
theorem yzs {w:D} {a:Act} {d:Act->D->Prop} {Q:Exit->Act->D->Prop} {z:j} (b:ElT P t e z bytes) (F:z.cells= #[z]) (l c:Operand) (B:o.op=Op.makeSlice t l c) {g f:IntKind} {C:Int} (n:Nat)
 (y:a.eval l= .int g L) (hc:a.eval c= .int f C) (s:L=(n:Int)) (q:C=(n:Int)) (u:n*(bytes+1)<=140737488355328)
 (r:∀w',Row w' w.heap.size e (List.replicate n z)->Below w.heap.size w w'->d (a.put o.dst (.slice (some ⟨w.heap.size,0,none⟩) n n)) w'):o.wp P a w d Q:=by obtain⟨i,k,m,p,x⟩:=b.info;rw[Nat.mul_add,Nat.mul_one] at u;have b2:i.bytes*n<=281474976710656:=(by rw[x,Nat.mul_comm];omega);have v:(i.bytes:Int)*(n:Int)<=281474976710656:=(by have h:((i.bytes*n:Nat):Int)<=281474976710656:=og;rwa[Int.natCast_mul] at h);have hr:=run_make (P:=P) w t e i z b.und k m g f n n og (Int.le_refl _) v og;simp only[Int.toNat_natCast] at hr;subst s;subst q;unfold Oper.wp;simp[execOp,B,y,hc,hr,Result.andThen];refine r _ ?_ ((Below.refl _ _).alloc (E _) _);unfold Row;(have A:(List.replicate n z).toArray=madeCells z.cells (n*i.size):=by apply Array.ext';rw[p,Nat.mul_one,F];show _=(madeCells #[z] n).toList;rw[toList_madeCells_one]);rw[A];exact heap_alloc_new w _
end Go.Proofs.YtdgilbgdkmhcmaaGreatDoor
