/-
 A search stays where what is no cells changes;a maker in memory;what is ready for the certificate.
-/
import Derived.Test.YtdgilbgdkmhcmaaGreatDoorProofSimplexDuals18
import Derived.Test.YtdgilbgdkmhcmaaGreatDoorProofSimplexDuals15
namespace Go.Proofs.YtdgilbgdkmhcmaaGreatDoor
open Go.RowKit
set_option linter.unusedVariables false
set_option maxRecDepth 100000
set_option maxHeartbeats 8000000
open _root_.Go.World renaming cell?_of_block → Y, block_lt_of_cell? → ae
open _root_.Array renaming getElem?_eq_getElem → F, getD_eq_getD_getElem? → ad
open _root_.Go renaming World → f, Value → e, TypeId → X, undef → j
variable {T : Nat → Prop} {d q s u z A G H I K O V W : e} {b c m top : Nat} {sc : Nat → Nat} {B : f} {xs : List e}
def zty (w:f) (b:Nat):Prop:=∃o:Obj,w.heap[b]? =some o/\o.isCells=true
theorem IsK.atCells {k:IntKind} {w:f} {S:Nat->Prop} {v:e} {d:List Nat} (h:IsK k w S v d):IsK k w (fun b=>S b/\zty w b) v d:=by obtain⟨A,c,hv,g,i,j⟩:=h;refine⟨A,c,hv,g,i,fun a=> ?_⟩;obtain⟨b,off,l,m,hc⟩:=j a;obtain⟨o,p,n⟩:=List.exists_cons_of_ne_nil a;exact⟨b,off,l,⟨m,zwb (hc 0 o (by rw[n];rfl))⟩,hc⟩
theorem IsQ.atCells {w:f} {S:Nat->Prop} {v:e} {q:Rat} (h:IsQ w S v q):IsQ w (fun b=>S b/\zty w b) v q:=by obtain⟨A,c,B,d,hv,a,g⟩:=h;exact⟨A,c,B,d,hv,a.atCells,g.atCells⟩
section
variable {w w' : f} {r : Option Nat}
theorem zrh (hg:w.grownBy w' r) (hr:∀x,r=some x->∃o:Obj,w.heap[x]? =some o/\o.isCells=false) (f:zty w b):w'.heap[b]? =w.heap[b]? :=by obtain⟨o,c,hc⟩:=f;refine hg.block b (Array.getElem?_eq_some_iff.1 c).1 fun e=> ?_;obtain⟨g,d,a⟩:=hr b e.symm;rw[c] at d;cases d;rw[hc] at a;cases a
theorem Row.cellB {g:Nat} {t:X} (h:Row w g t xs):zty w g:=⟨_,h,rfl⟩
theorem Row.stays {g:Nat} {t:X} (h:Row w g t xs) (hg:w.grownBy w' r) (hr:∀x,r=some x->∃o:Obj,w.heap[x]? =some o/\o.isCells=false):Row w' g t xs:=(zrh hg hr h.cellB).trans h
theorem zvf {S:Nat->Prop} (hg:w.grownBy w' r) (hr:∀x,r=some x->∃o:Obj,w.heap[x]? =some o/\o.isCells=false) (c:∀b,S b->T b):L2 (fun b=>S b/\zty w b) T w w':=fun b a=>⟨c b a.1,fun o=>Y (zrh hg hr a.2)⟩
theorem LineW.stays {S:Nat->Prop} {d:Nat->Int} (h:LineW w S b c m d) (hg:w.grownBy w' r) (hr:∀x,r=some x->∃o:Obj,w.heap[x]? =some o/\o.isCells=false) (l:∀b,S b->T b):LineW w' T b c m d:=by have a:w'.heap[b]? =w.heap[b]? :=zrh hg hr (by obtain⟨s,e⟩:=h.blk;exact⟨_,e,rfl⟩);refine⟨by rw[a];exact h.blk,h.cap,fun p n=> ?_⟩;obtain⟨P,k,Q,q,f,g,i,j⟩:=h.el p n;exact⟨P,k,Q,q,(Y a).trans f,(Y a).trans g,(Y a).trans i,IsQ.stb.to j.atCells (zvf hg hr l)⟩
theorem SchG.stays {S:Nat->Prop} {lo0 lo g n:Nat} {L:Lay} {q:Nat->Nat->Int} {z:Int} {d:Nat} {bas oth:List Nat} {st Z steps:Int} (h:SchG w S lo0 lo g L m n sc top q z d bas oth st Z steps) (hg:w.grownBy w' r) (hr:∀x,r=some x->∃o:Obj,w.heap[x]? =some o/\o.isCells=false):
 SchG w' S lo0 lo g L m n sc top q z d bas oth st Z steps:=by
 have f:∀b,SN S lo w b->SN S lo w' b:=zps hg.size
 refine {h with
  tab:=⟨fun p B a=>(h.tab.line p B a).stays hg hr f,h.tab.inj,h.tab.sep,h.tab.sS,Nat.le_trans h.tab.hlo hg.size⟩
  row:= ?_
  hd:=fun i A=> ?_
  basW:=fun a=>⟨(h.basW a).1,(h.basW a).2.keep (zrh hg hr (by obtain⟨u,j⟩:=(h.basW a).2.blk;exact⟨_,j,rfl⟩))⟩
  othW:=fun a=>⟨(h.othW a).1,(h.othW a).2.keep (zrh hg hr (by obtain⟨u,j⟩:=(h.othW a).2.blk;exact⟨_,j,rfl⟩))⟩
  scl:=fun v hv=> ?_}
 ·obtain⟨P,k,Q,p,D,s,T,t,a,e,c,l⟩:=h.row;exact⟨P,k,Q,p,D,s,T,t,a.stays hg hr,IsQ.stb.to e.atCells (zvf hg hr f),IsK.stb.to (IsK.atCells c) (zvf hg hr f),IsK.stb.to (IsK.atCells l) (zvf hg hr f)⟩
 ·obtain⟨a,e,c⟩:=h.hd i A;exact⟨a,e,(Y (zrh hg hr (zwb c))).trans c⟩
 ·obtain⟨a,e,P,k,c,l⟩:=h.scl v hv;exact⟨a,e,P,k,(Y (zrh hg hr (zwb c))).trans c,IsK.stb.to (IsK.atCells l) (zvf hg hr fun b y=>y)⟩
end
def IsMk (w:f) (S:Nat->Prop) (v:e) (q:(Nat×Int)×(Nat×Nat)):Prop:=∃bs a mk,v= .agg #[.int .i64 (q.2.2:Int),.int .i64 (q.2.1:Int),.func (.func 134) #[] #[.pointer (some ⟨bs,0,none⟩),.pointer (some ⟨mk,0,none⟩)],.func (.func 139) #[] #[.pointer (some ⟨bs,0,none⟩),.pointer (some ⟨a,0,none⟩),.pointer (some ⟨mk,0,none⟩)],.func (.func 141) #[] #[.pointer (some ⟨bs,0,none⟩),.pointer (some ⟨mk,0,none⟩)]]/\(S bs/\S a/\S mk)/\
 w.cell? ⟨bs,0,none⟩=some (.pointer (some ⟨q.1.1,0,none⟩))/\w.cell? ⟨a,0,none⟩=some (.int .i64 q.1.2)/\w.cell? ⟨mk,0,none⟩=some (.int .i64 (q.2.2:Int))/\w.cell? ⟨mk,1,none⟩=some (.int .i64 (q.2.1:Int))
theorem IsMk.stb:Stb IsMk:=by rintro w w' S T v q ⟨bs,e,mk,hv,⟨c,d,b⟩,f,g,h,i⟩ a;exact⟨bs,e,mk,hv,⟨(a _ c).1,(a _ d).1,(a _ b).1⟩,((a _ c).2 _).trans f,((a _ d).2 _).trans g,((a _ b).2 _).trans h,((a _ b).2 _).trans i⟩
structure Ready (p:ProgQ) (k m n g:Nat) (row:Int) (w:f) (st:Int) (s:Sol):Prop where
 cell:w.cell? ⟨g,11,none⟩=some (.int .i64 st)
 maker:∀W:f,Below w.heap.size w W->Calls Tryz.prog 61 #[.pointer (some ⟨g,0,none⟩),.int .i64 row] W fun e w'=>(∃v,e= .returned v/\IsMk w' (G4 W.heap.size w') v ((g,row),(m,n)))/\Below W.heap.size W w'
 make:∀W:f,Below w.heap.size w W->∀v,IsMk W (C2 W) v ((g,row),(m,n))->Calls Tryz.prog 62 #[v,.int .i64 st] W (zob W s)
 ans:zlb p k s
section
variable {w : f} {S : Nat → Prop} {lo0 lo g : Nat} {L : Lay} {t : TB} {st Z steps : Int} {p : ProgQ} {N M k : Nat}
theorem yav {n:Nat} {row:Int} (h:N7 w S lo0 lo g L m n sc top t st Z steps):∀a:f,Below w.heap.size w a->Calls Tryz.prog 61 #[.pointer (some ⟨g,0,none⟩),.int .i64 row] a fun b w'=>(∃v,b= .returned v/\IsMk w' (G4 a.heap.size w') v ((g,row),(m,n)))/\Below a.heap.size a w':=fun a k=>by
 refine(yus (row:=row) (h.next k)).mono ?_
 rintro b w' ⟨⟨bs,i,mk,rfl,⟨o,p,q⟩,c,d,e,j⟩,l⟩
 exact⟨⟨_,rfl,bs,i,mk,rfl,⟨⟨o,ae _ _ c⟩,⟨p,ae _ _ d⟩,⟨q,ae _ _ e⟩⟩,c,d,e,j⟩,l⟩
theorem yxs (b:FineP p N M) (m:(A9 N).length<=100000) (o:(A9 (K0 (M*N) (p.B.length+1)*N)).length<=k) (j:1<=k) (hF:(A9 (K0 (M*N) (p.B.length+1))).length<=100000) (l:Bru w) (h:N7 w S lo0 lo g L p.B.length p.C.length (V8 p) (Y9 p) t 1 Z steps) (d:OkT (M*N) p.B.length p.C.length (V8 p) (Y9 p) (O9 p.B.length p.C.length (aF p.A) (lF p.B) (lF p.C)) t) (f:∀i,i<p.B.length->0<=t.A i p.C.length) (n:Z9 p.B.length p.C.length t=none) (row:Int):
 ∃s,Ready p k p.B.length p.C.length g row w 1 s:=by obtain⟨_,_,_,_,_,_,_,_,_,_,_,_,e,_,_⟩:=h.open;have A:=b.good.nB;have B:=b.good.nC;refine⟨_,e,yav h,fun x c v hv=> ?_,ymq b o j d f n⟩;obtain⟨bs,z,mk,rfl,_,q,C,r,u⟩:=hv;exact yts fun y a=>ytw ((h.next c).next a) d.inv (Bru.next (Bru.next l c) a) og og hF (b.scok m) (B9 a q) (B9 a r) (B9 a u)
theorem yxp (b:FineP p N M) (l:(A9 N).length<=100000) (n:(A9 (K0 (M*N) (p.B.length+1)*N)).length<=k) (i:1<=k) (hF:(A9 (K0 (M*N) (p.B.length+1))).length<=100000) (j:Bru w) (h:N7 w S lo0 lo g L p.B.length p.C.length (V8 p) (Y9 p) t 2 Z steps) (e:OkT (M*N) p.B.length p.C.length (V8 p) (Y9 p) (O9 p.B.length p.C.length (aF p.A) (lF p.B) (lF p.C)) t) {r:Nat} (d:znf p.B.length p.C.length t=some r) (m:zns p.C.length t r=none):
 ∃s,Ready p k p.B.length p.C.length g (r:Int) w 2 s:=by obtain⟨_,_,_,_,_,_,_,_,_,_,_,_,f,_,_⟩:=h.open;have B:=b.good.nB;have C:=b.good.nC;refine⟨_,f,yav h,fun y c v hv=> ?_,ymp b n i e d m⟩;obtain⟨bs,A,mk,rfl,_,o,q,u,x⟩:=hv;exact ytt fun z a=>ytv (zlq d).1 ((h.next c).next a) e.inv (Bru.next (Bru.next j c) a) og og hF (b.scok l) (B9 a o) (B9 a q) (B9 a u) (B9 a x)
theorem yxt (b:FineP p N M) (o:(A9 N).length<=100000) (q:(A9 (K0 (M*N) (p.B.length+1)*N)).length<=k) (m:1<=k) (hF:(A9 (K0 (M*N) (p.B.length+1))).length<=100000) (n:Bru w) (h:N7 w S lo0 lo g L p.B.length p.C.length (V8 p) (Y9 p) t 3 (c:Int) steps) (f:OkT (M*N) p.B.length p.C.length (V8 p) (Y9 p) (O9 p.B.length p.C.length (aF p.A) (lF p.B) (lF p.C)) t) (l:∀i,i<p.B.length->0<=t.A i p.C.length) (e:Z9 p.B.length p.C.length t=some c) (r:zlg p.B.length p.C.length t c=none) (row:Int):
 ∃s,Ready p k p.B.length p.C.length g row w 3 s:=by obtain⟨_,_,_,_,_,_,_,_,_,_,_,_,j,_,_⟩:=h.open;have B:=b.good.nB;have C:=b.good.nC;refine⟨_,j,yav h,fun y d v hv=> ?_,ymr b q m f l e r⟩;obtain⟨bs,A,mk,rfl,_,u,D,x,E⟩:=hv;exact ytu fun z a=>ytx (zlq e).1 ((h.next d).next a) f.inv (Bru.next (Bru.next n d) a) og og hF (b.scok o) (B9 a u) (B9 a x)
end
theorem ycy {p:ProgQ} {k:Nat} {s:Sol} (h:zlb p k s) (b:k<=1024):∃v X D R,s=⟨s.st,E7 v,C0 X,C0 D,C0 R⟩/\zld v=true/\(∀q∈X,zld q=true)/\(∀q∈D,zld q=true)/\∀q∈R,zld q=true:=by
 have f:zld 0=true:=zsc (zpc (k:=1) og) og;have nil:∀q∈([]:List Rat),zld q=true:=fun q a=>(by cases a);rcases h with⟨X,d,v,rfl,_,c,e,i⟩|⟨d,rfl,_,c⟩|⟨X,g,rfl,_,c,e⟩
 ·exact⟨v,X,d,[],rfl,zsc c b,fun q a=>zsc (e q a) b,fun q a=>zsc (i q a) b,nil⟩
 ·exact⟨0,[],d,[],rfl,f,nil,fun q a=>zsc (c q a) b,nil⟩
 ·exact⟨0,X,[],g,rfl,f,fun q a=>zsc (c q a) b,nil,fun q a=>zsc (e q a) b⟩
section
variable {P : Program} {ops : Array Oper} {Q : Exit → Act → f → Prop} {Φ : Nat → e → f → Option e → Prop} {U : f → e → f → Prop} {k : Nat} {D : Nat → f → Prop} {J : f → Option e → Prop} {E : Nat → f → f → Option e → Prop} {l : Act} {C : f}
def zlo (ops:Array Oper) (k:Nat) (listed:Array Bool) (T:Array e):Option e:=if listed[k]? =some true then(ops[k]?).map (M6 T) else none
structure GrowInvX (ops:Array Oper) (k:Nat) (Φ:Nat->e->f->Option e->Prop) (D:Nat->f->Prop) (J:f->Option e->Prop) (l:Act) (listed:Array Bool) (a:Act) (w:f):Prop where
 size:a.tmps.size=l.tmps.size
 defers:a.defers=l.defers
 inv:J w (zlo ops k listed a.tmps)
 pre:∀i,listed[i]? =some false->D i w
 free:∀t,zlm ops t=false->a.tmps[t]? =l.tmps[t]?
 holds:∀j oj,ops[j]? =some oj->listed[j]? =some true->Φ j (M6 a.tmps oj) w (zlo ops k listed a.tmps)
theorem zz1384 (hPs:∀i m w w' x,i≠m->D i w->J w x->E m w w' x->D i w') (hst:∀i m v w w' x,i≠m->m≠k->Φ i v w x->J w x->E m w w' x->Φ i v w' x) (az:∀i v w w' al,i≠k->Φ i v w none->J w none->E k w w' none->U w al w'->Φ i v w' (some al)) (hg:zwu ops l.tmps.size=true)
 (aA:∀i o x,ops[i]? =some o->(i=k->x=none)->∀(a:Act) (w:f),a.tmps.size=l.tmps.size->a.defers=l.defers->J w x->D i w->(∀t,zlm ops t=false->a.tmps[t]? =l.tmps[t]?)->
   (∀b c,b∈U9 o->ops[b]? =some c->Φ b (M6 a.tmps c) w x)->
   if Region.wanted o (yielded ops a.tmps)=true then o.wp P a w (fun V w'=>∃v,V=a.put o.dst v/\E i w w' x/\J w' (if i=k then some (if o.dst.isSome then v else j) else x)/\Φ i (if o.dst.isSome then v else j) w' (if i=k then some (if o.dst.isSome then v else j) else x)/\(i=k->U w (if o.dst.isSome then v else j) w')) Q else i≠k/\Φ i j w x/\E i w w x)
 (av:∀(a:Act) (w:f),a.tmps.size=l.tmps.size->a.defers=l.defers->J w ((ops[k]?).map (M6 a.tmps))->(∀t,zlm ops t=false->a.tmps[t]? =l.tmps[t]?)->
   (∀b c,ops[b]? =some c->Φ b (M6 a.tmps c) w ((ops[k]?).map (M6 a.tmps)))->Q .normal a w):
 ∀(H:Nat) (listed:Array Bool) (a:Act) (w:f),listed.size=ops.size->Z3 listed.toList<=H->GrowInvX ops k Φ D J l listed a w->wpAny P .any ops Q H listed a w:=by
 have done:∀(listed:Array Bool) (a:Act) (w:f),listed.size=ops.size->Region.ready .any ops listed=[]->GrowInvX ops k Φ D J l listed a w->Q .normal a w:=by
  intro listed a w M hr inv
  have all:∀n i,i<n->i<ops.size->listed[i]? =some true:=by
   intro n;induction n with
   |zero=>intro i q;omega
   |succ n ih=>
    intro i q G;rcases Nat.lt_or_ge i n with h|h
    ·exact ih i h G
    ·obtain rfl:i=n:=og;have p:i<listed.size:=og;cases B:listed[i] with
     |true=>rw[F p,B]
     |false=>
      exfalso
      have s:i∈Region.ready .any ops listed:=by
       unfold Region.ready;refine List.mem_filter.2 ⟨List.mem_range.2 G,?_⟩;have q:ops[i]? =some ops[i]:=F G;obtain⟨_,ay⟩:=yfy hg q;rw[q];simp only[Option.map_some,Option.getD_some,Bool.and_eq_true,Bool.not_eq_true'];refine⟨by simp[ad,F p,B],Array.all_eq_true'.2 fun r au=> ?_⟩;cases ao:Region.binds .any r with
       |false=>rfl
       |true=>have g:=ay r.on (List.mem_map.2 ⟨r,List.mem_filter.2 ⟨by simpa using au,ao⟩,rfl⟩);have:=ih r.on g og;simp[ad,this]
      rw[hr] at s;cases s
  have K:zlo ops k listed a.tmps=(ops[k]?).map (M6 a.tmps):=by
   unfold zlo;cases z:ops[k]? with
   |none=>split<;>rfl
   |some ok=>rw[if_pos (all (k+1) k og (Array.getElem?_eq_some_iff.1 z).1)]
  have u:=inv.inv;rw[K] at u;refine av a w inv.size inv.defers u inv.free fun b c g=> ?_;have I:=inv.holds b c g (all (b+1) b og (Array.getElem?_eq_some_iff.1 g).1);rw[K] at I;exact I
 intro H;induction H with
 |zero=>
  intro listed a w M hc inv
  have hr:Region.ready .any ops listed=[]:=by
   cases hr:Region.ready .any ops listed with
   |nil=>rfl
   |cons i aB=>exfalso;have s:i∈Region.ready .any ops listed:=(by rw[hr];simp);have G:i<ops.size:=(by unfold Region.ready at s;exact List.mem_range.1 (List.mem_filter.1 s).1);have I:=(zvc (F G) s).1;have p:i<listed.size:=og;have K:=zwg (l:=listed.toList) (i:=i) (b:=listed[i]) og (by simp[p]);simp[ad,F p,K] at I
  exact⟨hr,done listed a w M hr inv⟩
 |succ H ih=>
  intro listed a w M hc inv;refine⟨fun hr=>done listed a w M hr inv,fun i s=> ?_⟩;have G:i<ops.size:=(by unfold Region.ready at s;exact List.mem_range.1 (List.mem_filter.1 s).1);have q:ops[i]? =some ops[i]:=F G;obtain⟨I,K⟩:=zvc q s;have p:i<listed.size:=og;have B:listed[i]=false:=(by simpa[ad,F p] using I);obtain⟨Z,_⟩:=yfy hg q;have A:=aA i ops[i] (zlo ops k listed a.tmps) q (fun r=>by unfold zlo;rw[<-r,F p,B];simp) a w inv.size inv.defers inv.inv (inv.pre i (by rw[F p,B])) inv.free fun b c g af=>inv.holds b c af (by have u:=K b g;have aa:b<listed.size:=(by have:=(Array.getElem?_eq_some_iff.1 af).1;omega);rw[F aa];simp only[ad,F aa,Option.getD_some] at u;rw[u])
  have next:∀(v:e) (w':f),E i w w' (zlo ops k listed a.tmps)->J w' (if i=k then some (if ops[i].dst.isSome then v else j) else zlo ops k listed a.tmps)->Φ i (if ops[i].dst.isSome then v else j) w' (if i=k then some (if ops[i].dst.isSome then v else j) else zlo ops k listed a.tmps)->(i=k->U w (if ops[i].dst.isSome then v else j) w')->wpAny P .any ops Q H (listed.setIfInBounds i true) (a.put ops[i].dst v) w':=by
   intro v w' N O hv R
   have ah:∀t,(∀d,ops[i].dst=some d->t≠d)->(a.put ops[i].dst v).tmps[t]? =a.tmps[t]? :=by
    intro t L;cases hd:ops[i].dst with
    |none=>rfl
    |some d=>exact zxr _ _ (L d hd)
   have ai:M6 (a.put ops[i].dst v).tmps ops[i]=(if ops[i].dst.isSome then v else j):=by
    unfold M6;cases hd:ops[i].dst with
    |none=>rfl
    |some d=>simp only;exact ybm _ _ (by rw[inv.size];exact(Z d hd).1)
   have ag:∀b c,ops[b]? =some c->b≠i->M6 (a.put ops[i].dst v).tmps c=M6 a.tmps c:=by
    intro b c g C;unfold M6;cases ar:c.dst with
    |none=>rfl
    |some an=>exact zzu (ah an fun d hd r=>C ((Z d hd).2 b c g (by rw[ar,r])))
   have aj:zlo ops k (listed.setIfInBounds i true) (a.put ops[i].dst v).tmps=(if i=k then some (if ops[i].dst.isSome then v else j) else zlo ops k listed a.tmps):=by
    by_cases y:i=k
    ·subst y;unfold zlo;rw[if_pos rfl,Array.getElem?_setIfInBounds_self_of_lt p,if_pos rfl,q];simp only[Option.map_some,ai]
    ·rw[if_neg y];unfold zlo;rw[Array.getElem?_setIfInBounds_ne y];cases z:ops[k]? with
     |none=>rfl
     |some ok=>simp only[Option.map_some,ag k ok z (Ne.symm y)]
   refine ih _ _ _ (by simp[M]) ?_ ⟨?_,?_,by rw[aj];exact O,fun m z=> ?_,fun t L=> ?_,fun b c g S=> ?_⟩
   ·have:=zwf (l:=listed.toList) (i:=i) (by simp[p,B]);simp only[Array.toList_setIfInBounds];omega
   ·cases hd:ops[i].dst with
    |none=>exact inv.size
    |some d=>rw[ybn];exact inv.size
   ·cases hd:ops[i].dst with
    |none=>exact inv.defers
    |some d=>exact inv.defers
   ·have ac:m≠i:=(by rintro rfl;rw[Array.getElem?_setIfInBounds_self_of_lt p] at z;cases z);rw[Array.getElem?_setIfInBounds_ne (Ne.symm ac)] at z;exact hPs m i w w' _ ac (inv.pre m z) inv.inv N
   ·rw[ah t (by rintro d hd rfl;unfold zlm at L;rw[List.any_eq_false] at L;exact L ops[i] (by simp) (by rw[hd];simp))];exact inv.free t L
   ·rw[aj];by_cases C:b=i
    ·subst C;rw[q] at g;cases g;rw[ai];exact hv
    ·rw[ag b c g C];rw[Array.getElem?_setIfInBounds_ne (Ne.symm C)] at S;by_cases y:i=k
     ·subst y;rw[if_pos rfl];have W:=inv.holds b c g S;have ak:zlo ops i listed a.tmps=none:=(by unfold zlo;rw[F p,B];simp);rw[ak] at W;have u:=inv.inv;rw[ak] at N u;exact az b _ _ _ _ C W u N (R rfl)
     ·rw[if_neg y];exact hst b i _ _ _ _ C y (inv.holds b c g S) inv.inv N
  unfold wpOp;rw[q];simp only;split
  ·rename_i T;rw[if_pos T] at A;exact .inl (Oper.wp_mono (fun V w' ⟨v,ha,aq,O,hv,R⟩=>by rw[ha];exact next v w' aq O hv R) A)
  ·rename_i T;rw[if_neg T] at A;exact next j w A.2.2 (by rw[if_neg A.1];exact inv.inv) (by rw[if_neg A.1];have:=A.2.1;split<;>exact this) (fun r=>absurd r A.1)
theorem ycq {id:Nat} (k:Nat) (U:f->e->f->Prop) (Φ:Nat->e->f->Option e->Prop) (D:Nat->f->Prop) (J:f->Option e->Prop) (E:Nat->f->f->Option e->Prop) (q:P.follows .mixedOrders=true) (hJ0:J C.drew none) (hP0:∀i,D i C.drew)
 (hPs:∀i m w w' x,i≠m->D i w->J w x->E m w w' x->D i w') (hst:∀i m v w w' x,i≠m->m≠k->Φ i v w x->J w x->E m w w' x->Φ i v w' x) (r:∀i v w w' g,i≠k->Φ i v w none->J w none->E k w w' none->U w g w'->Φ i v w' (some g)) (hg:zwu ops l.tmps.size=true)
 (s:∀i o x,ops[i]? =some o->(i=k->x=none)->∀(a:Act) (w:f),a.tmps.size=l.tmps.size->a.defers=l.defers->J w x->D i w->(∀t,zlm ops t=false->a.tmps[t]? =l.tmps[t]?)->
   (∀b c,b∈U9 o->ops[b]? =some c->Φ b (M6 a.tmps c) w x)->
   if Region.wanted o (yielded ops a.tmps)=true then o.wp P a w (fun n w'=>∃v,n=a.put o.dst v/\E i w w' x/\J w' (if i=k then some (if o.dst.isSome then v else j) else x)/\Φ i (if o.dst.isSome then v else j) w' (if i=k then some (if o.dst.isSome then v else j) else x)/\(i=k->U w (if o.dst.isSome then v else j) w')) Q else i≠k/\Φ i j w x/\E i w w x)
 (p:∀(a:Act) (w:f),a.tmps.size=l.tmps.size->a.defers=l.defers->J w ((ops[k]?).map (M6 a.tmps))->(∀t,zlm ops t=false->a.tmps[t]? =l.tmps[t]?)->
   (∀b c,ops[b]? =some c->Φ b (M6 a.tmps c) w ((ops[k]?).map (M6 a.tmps)))->Q .normal a w):
 (Code.region id ops true).wp P Q l C:=by
 refine wp_region_any q (zz1384 hPs hst r hg s p _ _ _ _ (by simp) (by simp[zwe]) ⟨rfl,rfl,?_,fun i _=>hP0 i,fun _ _=>rfl,fun b c u d=> ?_⟩)
 ·have h:zlo ops k (Array.replicate ops.size false) l.tmps=none:=(by unfold zlo;rw[if_neg];rw[Array.getElem?_replicate];split<;>simp);rw[h];exact hJ0
 ·rw[Array.getElem?_replicate] at d;split at d<;>cases d
end
abbrev S4 (g:Nat):e:= .pointer (some ⟨g,0,none⟩)
def NX (n0:Nat) (w:f) (x:Option e) (b:Nat):Prop:=n0<=b/\b<w.heap.size/\∀g,x=some (S4 g)->b≠g
def znq (n0:Nat) (C w:f) (x:Option e):Prop:=Below n0 C w/\n0<=w.heap.size/\∀g,x=some (S4 g)->n0<=g/\g<w.heap.size
def zqa (w:f) (a:e) (w':f):Prop:=a=S4 w.heap.size
section
variable {ac : Type} {R : f → (Nat → Prop) → e → ac → Prop} (aa : Stb R) {n0 : Nat} {w w' : f} {x : Option e} {v : e} {y : ac}
include aa
theorem zpm (h:R w (NX n0 w x) v y) (c:Below w.heap.size w w'):R w' (NX n0 w' x) v y:=aa.to h fun b a=>⟨⟨a.1,Nat.lt_of_lt_of_le a.2.1 c.size,a.2.2⟩,fun o=>c.cell (p:=⟨b,o,none⟩) a.2.1⟩
theorem zrw (h:R w (NX n0 w none) v y) (c:Below w.heap.size w w'):R w' (NX n0 w' (some (S4 w.heap.size))) v y:=aa.to h fun b a=>⟨⟨a.1,Nat.lt_of_lt_of_le a.2.1 c.size,fun g d hg=>by cases d;have:=a.2.1;omega⟩,fun o=>c.cell (p:=⟨b,o,none⟩) a.2.1⟩
theorem zqp (h:R w' (G4 w.heap.size w') v y) (d:n0<=w.heap.size) (e:∀g,x=some (S4 g)->n0<=g/\g<w.heap.size):R w' (NX n0 w' x) v y:=aa.to h (F6 fun b a=>⟨Nat.le_trans d a.1,a.2,fun g c hg=>by have:=(e g c).2;have:=a.1;omega⟩)
end
section
variable {P : Program} {o : Oper} {a : Act} {w C : f} {Φ : Nat → e → f → Option e → Prop} {Q : Exit → Act → f → Prop} {n0 i k n : Nat} {x : Option e}
end
abbrev put8 (B:f) (g:Nat) (l d q s u z A a:e):f:=(((((((B.setCell ⟨g,0,none⟩ l).setCell ⟨g,1,none⟩ d).setCell ⟨g,2,none⟩ q).setCell ⟨g,3,none⟩ s).setCell ⟨g,4,none⟩ u).setCell ⟨g,5,none⟩ z).setCell ⟨g,6,none⟩ A).setCell ⟨g,7,none⟩ a
theorem Row.put8 {g:Nat} {t:X} {b:e} (h:Row B g t [G,H,I,K,O,V,W,b]) (l d q s u z A a:e):Row (Go.Proofs.YtdgilbgdkmhcmaaGreatDoor.put8 B g l d q s u z A a) g t [l,d,q,s,u,z,A,a]:=(((((((h.set_ 0 l).set_ 1 d).set_ 2 q).set_ 3 s).set_ 4 u).set_ 5 z).set_ 6 A).set_ 7 a
theorem zun (B:f) (g:Nat) (l d q s u z A a:e):B.grownBy (put8 B g l d q s u z A a) (some g):=J5 (J5 (J5 (J5 (J5 (J5 (J5 (I0 _ _ _ _) (I0 _ _ _ _)) (I0 _ _ _ _)) (I0 _ _ _ _)) (I0 _ _ _ _)) (I0 _ _ _ _)) (I0 _ _ _ _)) (I0 _ _ _ _)
theorem yby (B:f) (g:Nat) (l d q s u z A a:e):(put8 B g l d q s u z A a).heap.size=B.heap.size:=by simp[put8,World.setCell]
theorem yym {g:Nat} {l a:e} {t:X} (h:Row B g t xs):∃b,Row (put8 B g l d q s u z A a) g t b/\b.length=xs.length:=⟨_,(((((((h.set_ 0 l).set_ 1 d).set_ 2 q).set_ 3 s).set_ 4 u).set_ 5 z).set_ 6 A).set_ 7 a,by simp⟩
theorem zzp {w:f} {g:Nat} {t:X} (h:Row w g t xs):w.frozen? ⟨g,0,none⟩=false/\w.frozen? ⟨g,1,none⟩=false/\w.frozen? ⟨g,2,none⟩=false/\w.frozen? ⟨g,3,none⟩=false/\w.frozen? ⟨g,4,none⟩=false/\w.frozen? ⟨g,5,none⟩=false/\w.frozen? ⟨g,6,none⟩=false/\w.frozen? ⟨g,7,none⟩=false:=⟨h.frozen 0,h.frozen 1,h.frozen 2,h.frozen 3,h.frozen 4,h.frozen 5,h.frozen 6,h.frozen 7⟩
theorem yto (h:xs.length=8):∃G H I K O V W a,xs=[G,H,I,K,O,V,W,a]:=by
 match xs,h with
 |[G,H,I,K,O,V,W,a],_=>exact⟨_,_,_,_,_,_,_,_,rfl⟩
def vE (n m:Nat) (w w':f) (x:Option e):Prop:=if m=n then∃g,x=some (S4 g)/\w.grownBy w' (some g)/\w'.heap.size=w.heap.size/\∀t xs,Row w g t xs->∃a,Row w' g t a/\a.length=xs.length else Below w.heap.size w w'
def vR (t:X) (k:Nat) (v:e) (w:f) (x:Option e):Prop:=∃g xs,v=S4 g/\x=some v/\Row w g t xs/\xs.length=k
theorem zou {ac:Type} {R:f->(Nat->Prop)->e->ac->Prop} (aa:Stb R) {n0 g:Nat} {w w':f} {v:e} {y:ac} (h:R w (NX n0 w (some (S4 g))) v y) (hg:w.grownBy w' (some g)) (d:w'.heap.size=w.heap.size):R w' (NX n0 w' (some (S4 g))) v y:=
 aa.to h fun b a=>⟨⟨a.1,by rw[d];exact a.2.1,a.2.2⟩,fun o=>Y (hg.block b a.2.1 fun c=>a.2.2 g rfl (by injection c with c))⟩
theorem yle {t:X} {k:Nat} {v:e} {w w':f} {x:Option e} (h:vR t k v w x) (c:Below w.heap.size w w'):vR t k v w' x:=by obtain⟨g,xs,a,b,r,d⟩:=h;exact⟨g,xs,a,b,r.next c,d⟩
theorem ylf {t:X} {k g:Nat} {v:e} {w w':f} (h:vR t k v w (some (S4 g))) (hr:∀t xs,Row w g t xs->∃a,Row w' g t a/\a.length=xs.length):vR t k v w' (some (S4 g)):=by obtain⟨j,xs,rfl,b,r,i⟩:=h;cases b;obtain⟨a,c,d⟩:=hr _ _ r;exact⟨g,a,rfl,rfl,c,d.trans i⟩
section
variable {P : Program} {o : Oper} {a : Act} {w C : f} {Φ : Nat → e → f → Option e → Prop} {Q : Exit → Act → f → Prop} {n0 i k n : Nat} {x : Option e}
theorem V9 (e:i≠k) (p:i≠n) (hd:o.dst.isSome=true) (b:znq n0 C w x) (h:∀l:Act->f->Prop,(∀v w',Below w.heap.size w w'->Φ i v w' x->l (a.put o.dst v) w')->o.wp P a w l Q):
 o.wp P a w (fun m w'=>∃v,m=a.put o.dst v/\vE n i w w' x/\znq n0 C w' (if i=k then some (if o.dst.isSome then v else j) else x)/\Φ i (if o.dst.isSome then v else j) w' (if i=k then some (if o.dst.isSome then v else j) else x)/\(i=k->zqa w (if o.dst.isSome then v else j) w')) Q:=by
 refine h _ fun v w' d hv=>⟨v,rfl,?_,?_,?_,fun c=>absurd c e⟩
 ·unfold vE;rw[if_neg p];exact d
 ·rw[if_neg e];exact⟨b.1.trans (d.mono b.2.1),Nat.le_trans b.2.1 d.size,fun g c=>⟨(b.2.2 g c).1,Nat.lt_of_lt_of_le (b.2.2 g c).2 d.size⟩⟩
 ·rw[if_neg e,if_pos hd];exact hv
theorem ycc {ob:Obj} (l:k≠n) (hd:o.dst.isSome=true) (b:znq n0 C w x) (p:x=none) (m:Φ k (S4 w.heap.size) (w.alloc ob) (some (S4 w.heap.size)))
 (h:∀d:Act->f->Prop,d (a.put o.dst (S4 w.heap.size)) (w.alloc ob)->o.wp P a w d Q):
 o.wp P a w (fun i w'=>∃v,i=a.put o.dst v/\vE n k w w' x/\znq n0 C w' (if k=k then some (if o.dst.isSome then v else j) else x)/\Φ k (if o.dst.isSome then v else j) w' (if k=k then some (if o.dst.isSome then v else j) else x)/\(k=k->zqa w (if o.dst.isSome then v else j) w')) Q:=by
 have c:=O0 w ob;refine h _ ⟨S4 w.heap.size,rfl,?_,?_,?_,fun e=> ?_⟩
 ·unfold vE;rw[if_neg l];exact c
 ·rw[if_pos rfl,if_pos hd];exact⟨b.1.trans (c.mono b.2.1),Nat.le_trans b.2.1 c.size,fun g e=>by cases e;exact⟨b.2.1,by rw[World.size_alloc];omega⟩⟩
 ·rw[if_pos rfl,if_pos hd];exact m
 ·rw[if_pos hd];rfl
theorem ycd (e:n≠k) (hd:o.dst.isSome=false) (d:znq n0 C w x) {g:Nat} {w':f} (m:x=some (S4 g)) (hg:w.grownBy w' (some g)) (i:w'.heap.size=w.heap.size) (hr:∀t xs,Row w g t xs->∃p,Row w' g t p/\p.length=xs.length) (s:Φ n j w' x)
 (h:∀l:Act->f->Prop,l (a.put o.dst j) w'->o.wp P a w l Q):
 o.wp P a w (fun q w'=>∃v,q=a.put o.dst v/\vE n n w w' x/\znq n0 C w' (if n=k then some (if o.dst.isSome then v else j) else x)/\Φ n (if o.dst.isSome then v else j) w' (if n=k then some (if o.dst.isSome then v else j) else x)/\(n=k->zqa w (if o.dst.isSome then v else j) w')) Q:=by
 refine h _ ⟨j,rfl,?_,?_,?_,fun c=>absurd c e⟩
 ·unfold vE;rw[if_pos rfl];exact⟨g,m,hg,i,hr⟩
 ·rw[if_neg e];exact⟨d.1.grown hg d.2.1 fun b c=>by cases c;exact(d.2.2 g m).1,by rw[i];exact d.2.1,fun r c=>by rw[i];exact d.2.2 r c⟩
 ·rw[if_neg e,if_neg (by rw[hd];simp)];exact s
end
def IsD8 (w:f) (S:Nat->Prop) (v:e) (p:ProgQ):Prop:=∃d a q b s c k u i g z j h,v= .agg #[.slice none 0 0,.slice none 0 0,.slice d (E9 p.A).length a,.slice q (C0 p.B).length b,.slice s (C0 p.C).length c,.bool k,.slice u i g,.slice z j h]/\
 IsM w S (.slice d (E9 p.A).length a) (E9 p.A)/\IsV w S (.slice q (C0 p.B).length b) (C0 p.B)/\IsV w S (.slice s (C0 p.C).length c) (C0 p.C)/\IsQ w S (.agg #[.bool k,.slice u i g,.slice z j h]) 0
theorem IsD8.stb:Stb IsD8:=by rintro w w' S T v p ⟨d,g,q,h,s,i,n,u,l,j,z,m,k,rfl,b,c,e,f⟩ a;exact⟨d,g,q,h,s,i,n,u,l,j,z,m,k,rfl,IsM.stb.to b a,IsV.stb.to c a,IsV.stb.to e a,IsQ.stb.to f a⟩
def zkr (P:Nat) (A B C:Option Addr) (m n q r s:Nat) (p:ProgQ) (n0:Nat) (i:Nat) (v:e) (w:f) (x:Option e):Prop:=
 match i with
 |0=>v= .pointer (some ⟨P,0,none⟩)
 |1=>v= .slice A m q
 |2=>IsM w (NX n0 w x) v (E9 p.A)
 |3=>v= .pointer (some ⟨P,1,none⟩)
 |4=>v= .slice B m r
 |5=>IsV w (NX n0 w x) v (C0 p.B)
 |6=>v= .pointer (some ⟨P,2,none⟩)
 |7=>v= .slice C n s
 |8=>IsV w (NX n0 w x) v (C0 p.C)
 |9=>IsQ w (NX n0 w x) v 0
 |10=>IsD8 w (NX n0 w x) v p
 |11=>vR 59 8 v w x
 |12=>∃g a b c d h k l o,x=some (S4 g)/\Row w g 59 [a,b,c,d,h,k,l,o]/\IsD8 w (NX n0 w (x)) (.agg #[a,b,c,d,h,k,l,o]) p
 |_=>True
theorem ywe (P:Nat) (A B C:Option Addr) (m n k l o:Nat) (p:ProgQ) (n0:Nat):∀(i d:Nat) (v:e) (w w':f) (x:Option e),i≠d->zkr P A B C m n k l o p n0 i v w x->vE 12 d w w' x->zkr P A B C m n k l o p n0 i v w' x:=by
 intro i d v w w' x c h a;unfold vE at a;split at a
 ·rename_i I;subst I;obtain⟨g,rfl,hg,b,hr⟩:=a;match i,c,h with
  |0,_,h=>exact h
  |1,_,h=>exact h
  |2,_,h=>exact zou IsM.stb h hg b
  |3,_,h=>exact h
  |4,_,h=>exact h
  |5,_,h=>exact zou IsV.stb h hg b
  |6,_,h=>exact h
  |7,_,h=>exact h
  |8,_,h=>exact zou IsV.stb h hg b
  |9,_,h=>exact zou IsQ.stb h hg b
  |10,_,h=>exact zou IsD8.stb h hg b
  |11,_,h=>exact ylf h hr
  |12,c,_=>exact absurd rfl c
  |_+13,_,_=>trivial
 ·match i,h with
  |0,h=>exact h
  |1,h=>exact h
  |2,h=>exact zpm IsM.stb h a
  |3,h=>exact h
  |4,h=>exact h
  |5,h=>exact zpm IsV.stb h a
  |6,h=>exact h
  |7,h=>exact h
  |8,h=>exact zpm IsV.stb h a
  |9,h=>exact zpm IsQ.stb h a
  |10,h=>exact zpm IsD8.stb h a
  |11,h=>exact yle h a
  |12,h=>obtain⟨g,s,t,u,y,z,D,E,G,H,r,q⟩:=h;exact⟨g,s,t,u,y,z,D,E,G,H,r.next a,zpm IsD8.stb q a⟩
  |_+13,_=>trivial
theorem ywd (P:Nat) (A B C:Option Addr) (m n d k l:Nat) (p:ProgQ) (n0:Nat):∀(i:Nat) (v:e) (w w':f) (b:e),i≠11->zkr P A B C m n d k l p n0 i v w none->vE 12 11 w w' none->zqa w b w'->zkr P A B C m n d k l p n0 i v w' (some b):=by
 intro i v w w' b c h a q;unfold vE at a;rw[if_neg og] at a;obtain rfl:b=S4 w.heap.size:=q;match i,c,h with
 |0,_,h=>exact h
 |1,_,h=>exact h
 |2,_,h=>exact zrw IsM.stb h a
 |3,_,h=>exact h
 |4,_,h=>exact h
 |5,_,h=>exact zrw IsV.stb h a
 |6,_,h=>exact h
 |7,_,h=>exact h
 |8,_,h=>exact zrw IsV.stb h a
 |9,_,h=>exact zrw IsQ.stb h a
 |10,_,h=>exact zrw IsD8.stb h a
 |11,c,_=>exact absurd rfl c
 |12,_,h=>obtain⟨g,r,s,t,u,x,y,z,D,o,_⟩:=h;cases o
 |_+13,_,_=>trivial
theorem yjf {g:Nat} {l:e} {t:X} (h:Row B g t xs):∃a,Row (pt7 B g l d q s u z A) g t a/\a.length=xs.length:=⟨_,((((((h.set_ 0 l).set_ 1 d).set_ 2 q).set_ 3 s).set_ 4 u).set_ 5 z).set_ 6 A,by simp⟩
theorem yhc (h:xs.length=7):∃G H I K O V W,xs=[G,H,I,K,O,V,W]:=by
 match xs,h with
 |[G,H,I,K,O,V,W],_=>exact⟨_,_,_,_,_,_,_,rfl⟩
theorem yiz {fn:Func} {slot t:Tmp} {tmps:Array e} {w:f} {g:Nat} (hr:fn.results= #[.cell slot 39,.tmp t]) (ha:tmps.getD slot j= .pointer (some ⟨g,0,none⟩))
 (h:Row w g 39 [G,H,I,K,O,V,W]):(results fn tmps).run Tryz.prog w= .ok (.tuple #[.agg #[G,H,I,K,O,V,W],tmps.getD t j]) w:=by obtain⟨a,b,c,d,i,k,l⟩:=W5 h;have m:tmps[slot]?.getD j= .pointer (some ⟨g,0,none⟩):=(by simpa using ha);simp[results,hr,m,asAddr,go_sem,a,b,c,d,i,k,l]
def W4 (g:Nat) (row st:Int) (m n:Nat) (s:Sol) (n0:Nat) (i:Nat) (v:e) (w:f) (x:Option e):Prop:=
 match i with
 |0=>v= .pointer (some ⟨g,0,none⟩)
 |1=>v= .int .i64 row
 |2=>IsMk w (NX n0 w x) v ((g,row),(m,n))
 |3=>v= .pointer (some ⟨g,0,none⟩)
 |4=>v= .pointer (some ⟨g,0,none⟩)
 |5=>v= .pointer (some ⟨g,11,none⟩)
 |6=>v= .int .i64 st
 |7=>IsSol w (NX n0 w x) v s
 |8=>vR 39 7 v w x
 |9=>∃g a b c d h k l,x=some (S4 g)/\Row w g 39 [a,b,c,d,h,k,l]/\IsSol w (NX n0 w (x)) (.agg #[a,b,c,d,h,k,l]) s
 |_=>True
theorem yih (g:Nat) (row st:Int) (m n:Nat) (s:Sol) (n0:Nat):∀(i c:Nat) (v:e) (w w':f) (x:Option e),i≠c->W4 g row st m n s n0 i v w x->vE 9 c w w' x->W4 g row st m n s n0 i v w' x:=by
 intro i c v w w' x b h a;unfold vE at a;split at a
 ·rename_i A;subst A;obtain⟨g,rfl,hg,d,hr⟩:=a;match i,b,h with
  |0,_,h=>exact h
  |1,_,h=>exact h
  |2,_,h=>exact zou IsMk.stb h hg d
  |3,_,h=>exact h
  |4,_,h=>exact h
  |5,_,h=>exact h
  |6,_,h=>exact h
  |7,_,h=>exact zou IsSol.stb h hg d
  |8,_,h=>exact ylf h hr
  |9,b,_=>exact absurd rfl b
  |_+10,_,_=>trivial
 ·match i,h with
  |0,h=>exact h
  |1,h=>exact h
  |2,h=>exact zpm IsMk.stb h a
  |3,h=>exact h
  |4,h=>exact h
  |5,h=>exact h
  |6,h=>exact h
  |7,h=>exact zpm IsSol.stb h a
  |8,h=>exact yle h a
  |9,h=>obtain⟨g,k,l,o,p,t,u,y,z,r,q⟩:=h;exact⟨g,k,l,o,p,t,u,y,z,r.next a,zpm IsSol.stb q a⟩
  |_+10,_=>trivial
theorem yig (g:Nat) (row st:Int) (m n:Nat) (s:Sol) (n0:Nat):∀(i:Nat) (v:e) (w w':f) (b:e),i≠8->W4 g row st m n s n0 i v w none->vE 9 8 w w' none->zqa w b w'->W4 g row st m n s n0 i v w' (some b):=by
 intro i v w w' b c h a k;unfold vE at a;rw[if_neg og] at a;obtain rfl:b=S4 w.heap.size:=k;match i,c,h with
 |0,_,h=>exact h
 |1,_,h=>exact h
 |2,_,h=>exact zrw IsMk.stb h a
 |3,_,h=>exact h
 |4,_,h=>exact h
 |5,_,h=>exact h
 |6,_,h=>exact h
 |7,_,h=>exact zrw IsSol.stb h a
 |8,c,_=>exact absurd rfl c
 |9,_,h=>obtain⟨g,l,o,p,q,r,t,u,d,_⟩:=h;cases d
 |_+10,_,_=>trivial
end Go.Proofs.YtdgilbgdkmhcmaaGreatDoor
