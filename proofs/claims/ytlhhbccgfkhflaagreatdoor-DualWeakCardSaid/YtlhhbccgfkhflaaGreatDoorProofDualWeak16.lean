/-
 As the law of text GrowR;besides,one f (number k) c yield g new (a h block) of i all others e,once b d there:so that what they say c hold apart from b.
-/
import Derived.Test.YtlhhbccgfkhflaaGreatDoorProofDualWeak07
namespace Go.Proofs.YtlhhbccgfkhflaaGreatDoor
open Go.RowKit
set_option linter.unusedVariables false
set_option maxRecDepth 100000
set_option maxHeartbeats 8000000
open _root_.Nat renaming lt_of_lt_of_le → I, lt_or_ge → M
open _root_.Go.World renaming cell?_of_block → L
open _root_.Array renaming getElem?_eq_getElem → A, getD_eq_getD_getElem? → K
open _root_.Go renaming World → e, Value → b, undef → j, Oper → G
variable {hi p : Nat} {t : TypeId} {g : List Nat}
section
variable {P : Program} {ops : Array G} {Q : Exit → Act → e → Prop} {Φ : Nat → b → e → Option b → Prop} {U : e → b → e → Prop} {k : Nat} {z : Nat → e → Prop} {J : e → Option b → Prop} {E : Nat → e → e → Option b → Prop} {q : Act} {H : e}
def zmp (ops:Array G) (k:Nat) (listed:Array Bool) (T:Array b):Option b:=if listed[k]? =some true then(ops[k]?).map (K4 T) else none
structure GrowInvX (ops:Array G) (k:Nat) (Φ:Nat->b->e->Option b->Prop) (z:Nat->e->Prop) (J:e->Option b->Prop) (q:Act) (listed:Array Bool) (a:Act) (w:e):Prop where
 size:a.tmps.size=q.tmps.size
 defers:a.defers=q.defers
 inv:J w (zmp ops k listed a.tmps)
 pre:∀i,listed[i]? =some false->z i w
 free:∀t,zmm ops t=false->a.tmps[t]? =q.tmps[t]?
 holds:∀j oj,ops[j]? =some oj->listed[j]? =some true->Φ j (K4 a.tmps oj) w (zmp ops k listed a.tmps)
theorem zz1472 (hPs:∀i m w w' x,i≠m->z i w->J w x->E m w w' x->z i w') (hst:∀i m v w w' x,i≠m->m≠k->Φ i v w x->J w x->E m w w' x->Φ i v w' x) (aA:∀i v w w' an,i≠k->Φ i v w none->J w none->E k w w' none->U w an w'->Φ i v w' (some an)) (ad:zyg ops q.tmps.size=true)
 (aB:∀i o x,ops[i]? =some o->(i=k->x=none)->∀(a:Act) (w:e),a.tmps.size=q.tmps.size->a.defers=q.defers->J w x->z i w->(∀t,zmm ops t=false->a.tmps[t]? =q.tmps[t]?)->
   (∀c f,c∈W7 o->ops[c]? =some f->Φ c (K4 a.tmps f) w x)->
   if Region.wanted o (yielded ops a.tmps)=true then o.wp P a w (fun aa w'=>∃v,aa=a.put o.dst v/\E i w w' x/\J w' (if i=k then some (if o.dst.isSome then v else j) else x)/\Φ i (if o.dst.isSome then v else j) w' (if i=k then some (if o.dst.isSome then v else j) else x)/\(i=k->U w (if o.dst.isSome then v else j) w')) Q else i≠k/\Φ i j w x/\E i w w x)
 (ay:∀(a:Act) (w:e),a.tmps.size=q.tmps.size->a.defers=q.defers->J w ((ops[k]?).map (K4 a.tmps))->(∀t,zmm ops t=false->a.tmps[t]? =q.tmps[t]?)->
   (∀c f,ops[c]? =some f->Φ c (K4 a.tmps f) w ((ops[k]?).map (K4 a.tmps)))->Q .normal a w):
 ∀(N:Nat) (listed:Array Bool) (a:Act) (w:e),listed.size=ops.size->zkg listed.toList<=N->GrowInvX ops k Φ z J q listed a w->wpAny P .any ops Q N listed a w:=by
 have done:∀(listed:Array Bool) (a:Act) (w:e),listed.size=ops.size->Region.ready .any ops listed=[]->GrowInvX ops k Φ z J q listed a w->Q .normal a w:=by
  intro listed a w T hr inv
  have all:∀n i,i<n->i<ops.size->listed[i]? =some true:=by
   intro n;induction n with
   |zero=>intro i hi;omega
   |succ n ih=>
    intro i hi H;rcases M i n with h|h
    ·exact ih i h H
    ·obtain rfl:i=n:=og;have p:i<listed.size:=og;cases D:listed[i] with
     |true=>rw[A p,D]
     |false=>
      exfalso
      have s:i∈Region.ready .any ops listed:=by
       unfold Region.ready;refine List.mem_filter.2 ⟨List.mem_range.2 H,?_⟩;have hi:ops[i]? =some ops[i]:=A H;obtain⟨_,az⟩:=yhx ad hi;rw[hi];simp only[Option.map_some,Option.getD_some,Bool.and_eq_true,Bool.not_eq_true'];refine⟨by simp[K,A p,D],Array.all_eq_true'.2 fun r av=> ?_⟩;cases aq:Region.binds .any r with
       |false=>rfl
       |true=>have g:=az r.on (List.mem_map.2 ⟨r,List.mem_filter.2 ⟨by simpa using av,aq⟩,rfl⟩);have:=ih r.on g og;simp[K,this]
      rw[hr] at s;cases s
  have R:zmp ops k listed a.tmps=(ops[k]?).map (K4 a.tmps):=by
   unfold zmp;cases B:ops[k]? with
   |none=>split<;>rfl
   |some ok=>rw[if_pos (all (k+1) k og (Array.getElem?_eq_some_iff.1 B).1)]
  have u:=inv.inv;rw[R] at u;refine ay a w inv.size inv.defers u inv.free fun c f g=> ?_;have O:=inv.holds c f g (all (c+1) c og (Array.getElem?_eq_some_iff.1 g).1);rw[R] at O;exact O
 intro N;induction N with
 |zero=>
  intro listed a w T hc inv
  have hr:Region.ready .any ops listed=[]:=by
   cases hr:Region.ready .any ops listed with
   |nil=>rfl
   |cons i l=>exfalso;have s:i∈Region.ready .any ops listed:=(by rw[hr];simp);have H:i<ops.size:=(by unfold Region.ready at s;exact List.mem_range.1 (List.mem_filter.1 s).1);have O:=(zvb (A H) s).1;have p:i<listed.size:=og;have R:=zwa (l:=listed.toList) (i:=i) (b:=listed[i]) og (by simp[p]);simp[K,A p,R] at O
  exact⟨hr,done listed a w T hr inv⟩
 |succ N ih=>
  intro listed a w T hc inv;refine⟨fun hr=>done listed a w T hr inv,fun i s=> ?_⟩;have H:i<ops.size:=(by unfold Region.ready at s;exact List.mem_range.1 (List.mem_filter.1 s).1);have hi:ops[i]? =some ops[i]:=A H;obtain⟨O,R⟩:=zvb hi s;have p:i<listed.size:=og;have D:listed[i]=false:=(by simpa[K,A p] using O);obtain⟨ac,_⟩:=yhx ad hi;have C:=aB i ops[i] (zmp ops k listed a.tmps) hi (fun r=>by unfold zmp;rw[<-r,A p,D];simp) a w inv.size inv.defers inv.inv (inv.pre i (by rw[A p,D])) inv.free fun c f g ag=>inv.holds c f ag (by have u:=R c g;have ae:c<listed.size:=(by have:=(Array.getElem?_eq_some_iff.1 ag).1;omega);rw[A ae];simp only[K,A ae,Option.getD_some] at u;rw[u])
  have next:∀(v:b) (w':e),E i w w' (zmp ops k listed a.tmps)->J w' (if i=k then some (if ops[i].dst.isSome then v else j) else zmp ops k listed a.tmps)->Φ i (if ops[i].dst.isSome then v else j) w' (if i=k then some (if ops[i].dst.isSome then v else j) else zmp ops k listed a.tmps)->(i=k->U w (if ops[i].dst.isSome then v else j) w')->wpAny P .any ops Q N (listed.setIfInBounds i true) (a.put ops[i].dst v) w':=by
   intro v w' V W hv X
   have ai:∀t,(∀d,ops[i].dst=some d->t≠d)->(a.put ops[i].dst v).tmps[t]? =a.tmps[t]? :=by
    intro t S;cases hd:ops[i].dst with
    |none=>rfl
    |some d=>exact zwr _ _ (S d hd)
   have aj:K4 (a.put ops[i].dst v).tmps ops[i]=(if ops[i].dst.isSome then v else j):=by
    unfold K4;cases hd:ops[i].dst with
    |none=>rfl
    |some d=>simp only;exact zzi _ _ (by rw[inv.size];exact(ac d hd).1)
   have ah:∀c f,ops[c]? =some f->c≠i->K4 (a.put ops[i].dst v).tmps f=K4 a.tmps f:=by
    intro c f g F;unfold K4;cases au:f.dst with
    |none=>rfl
    |some ao=>exact zye (ai ao fun d hd r=>F ((ac d hd).2 c f g (by rw[au,r])))
   have ak:zmp ops k (listed.setIfInBounds i true) (a.put ops[i].dst v).tmps=(if i=k then some (if ops[i].dst.isSome then v else j) else zmp ops k listed a.tmps):=by
    by_cases y:i=k
    ·subst y;unfold zmp;rw[if_pos rfl,Array.getElem?_setIfInBounds_self_of_lt p,if_pos rfl,hi];simp only[Option.map_some,aj]
    ·rw[if_neg y];unfold zmp;rw[Array.getElem?_setIfInBounds_ne y];cases B:ops[k]? with
     |none=>rfl
     |some ok=>simp only[Option.map_some,ah k ok B (Ne.symm y)]
   refine ih _ _ _ (by simp[T]) ?_ ⟨?_,?_,by rw[ak];exact W,fun m B=> ?_,fun t S=> ?_,fun c f g Y=> ?_⟩
   ·have:=zvz (l:=listed.toList) (i:=i) (by simp[p,D]);simp only[Array.toList_setIfInBounds];omega
   ·cases hd:ops[i].dst with
    |none=>exact inv.size
    |some d=>rw[zzj];exact inv.size
   ·cases hd:ops[i].dst with
    |none=>exact inv.defers
    |some d=>exact inv.defers
   ·have af:m≠i:=(by rintro rfl;rw[Array.getElem?_setIfInBounds_self_of_lt p] at B;cases B);rw[Array.getElem?_setIfInBounds_ne (Ne.symm af)] at B;exact hPs m i w w' _ af (inv.pre m B) inv.inv V
   ·rw[ai t (by rintro d hd rfl;unfold zmm at S;rw[List.any_eq_false] at S;exact S ops[i] (by simp) (by rw[hd];simp))];exact inv.free t S
   ·rw[ak];by_cases F:c=i
    ·subst F;rw[hi] at g;cases g;rw[aj];exact hv
    ·rw[ah c f g F];rw[Array.getElem?_setIfInBounds_ne (Ne.symm F)] at Y;by_cases y:i=k
     ·subst y;rw[if_pos rfl];have ab:=inv.holds c f g Y;have al:zmp ops i listed a.tmps=none:=(by unfold zmp;rw[A p,D];simp);rw[al] at ab;have u:=inv.inv;rw[al] at V u;exact aA c _ _ _ _ F ab u V (X rfl)
     ·rw[if_neg y];exact hst c i _ _ _ _ F y (inv.holds c f g Y) inv.inv V
  unfold wpOp;rw[hi];simp only;split
  ·rename_i Z;rw[if_pos Z] at C;exact .inl (Oper.wp_mono (fun aa w' ⟨v,ha,ar,W,hv,X⟩=>by rw[ha];exact next v w' ar W hv X) C)
  ·rename_i Z;rw[if_neg Z] at C;exact next j w C.2.2 (by rw[if_neg C.1];exact inv.inv) (by rw[if_neg C.1];have:=C.2.1;split<;>exact this) (fun r=>absurd r C.1)
theorem yeq {id:Nat} (k:Nat) (U:e->b->e->Prop) (Φ:Nat->b->e->Option b->Prop) (z:Nat->e->Prop) (J:e->Option b->Prop) (E:Nat->e->e->Option b->Prop) (r:P.follows .mixedOrders=true) (hJ0:J H.drew none) (hP0:∀i,z i H.drew)
 (hPs:∀i m w w' x,i≠m->z i w->J w x->E m w w' x->z i w') (hst:∀i m v w w' x,i≠m->m≠k->Φ i v w x->J w x->E m w w' x->Φ i v w' x) (s:∀i v w w' g,i≠k->Φ i v w none->J w none->E k w w' none->U w g w'->Φ i v w' (some g)) (p:zyg ops q.tmps.size=true)
 (u:∀i o x,ops[i]? =some o->(i=k->x=none)->∀(a:Act) (w:e),a.tmps.size=q.tmps.size->a.defers=q.defers->J w x->z i w->(∀t,zmm ops t=false->a.tmps[t]? =q.tmps[t]?)->
   (∀c d,c∈W7 o->ops[c]? =some d->Φ c (K4 a.tmps d) w x)->
   if Region.wanted o (yielded ops a.tmps)=true then o.wp P a w (fun l w'=>∃v,l=a.put o.dst v/\E i w w' x/\J w' (if i=k then some (if o.dst.isSome then v else j) else x)/\Φ i (if o.dst.isSome then v else j) w' (if i=k then some (if o.dst.isSome then v else j) else x)/\(i=k->U w (if o.dst.isSome then v else j) w')) Q else i≠k/\Φ i j w x/\E i w w x)
 (n:∀(a:Act) (w:e),a.tmps.size=q.tmps.size->a.defers=q.defers->J w ((ops[k]?).map (K4 a.tmps))->(∀t,zmm ops t=false->a.tmps[t]? =q.tmps[t]?)->
   (∀c d,ops[c]? =some d->Φ c (K4 a.tmps d) w ((ops[k]?).map (K4 a.tmps)))->Q .normal a w):
 (Code.region id ops true).wp P Q q H:=by
 refine wp_region_any r (zz1472 hPs hst s p u n _ _ _ _ (by simp) (by simp[zvy]) ⟨rfl,rfl,?_,fun i _=>hP0 i,fun _ _=>rfl,fun c d y f=> ?_⟩)
 ·have h:zmp ops k (Array.replicate ops.size false) q.tmps=none:=(by unfold zmp;rw[if_neg];rw[Array.getElem?_replicate];split<;>simp);rw[h];exact hJ0
 ·rw[Array.getElem?_replicate] at f;split at f<;>cases f
end
abbrev W8 (a:Nat):b:= .pointer (some ⟨a,0,none⟩)
def NX (n0:Nat) (w:e) (x:Option b) (a:Nat):Prop:=n0<=a/\a<w.heap.size/\∀c,x=some (W8 c)->a≠c
def zoz (n0:Nat) (H w:e) (x:Option b):Prop:=Below n0 H w/\n0<=w.heap.size/\∀a,x=some (W8 a)->n0<=a/\a<w.heap.size
def zsf (w:e) (a:b) (w':e):Prop:=a=W8 w.heap.size
section
variable {D : Type} {R : e → (Nat → Prop) → b → D → Prop} (u : Stb R) {n0 : Nat} {w w' : e} {x : Option b} {v : b} {y : D}
include u
theorem zrr (h:R w (NX n0 w x) v y) (b:Below w.heap.size w w'):R w' (NX n0 w' x) v y:=u.to h fun c a=>⟨⟨a.1,I a.2.1 b.size,a.2.2⟩,fun o=>b.cell (p:=⟨c,o,none⟩) a.2.1⟩
theorem ztw (h:R w (NX n0 w none) v y) (b:Below w.heap.size w w'):R w' (NX n0 w' (some (W8 w.heap.size))) v y:=u.to h fun c a=>⟨⟨a.1,I a.2.1 b.size,fun e d f=>by cases d;have:=a.2.1;omega⟩,fun o=>b.cell (p:=⟨c,o,none⟩) a.2.1⟩
theorem zso (h:R w' (I7 w.heap.size w') v y) (d:n0<=w.heap.size) (e:∀a,x=some (W8 a)->n0<=a/\a<w.heap.size):R w' (NX n0 w' x) v y:=u.to h (G4 fun f b=>⟨Nat.le_trans d b.1,b.2,fun a c g=>by have:=(e a c).2;have:=b.1;omega⟩)
end
section
variable {P : Program} {o : G} {a : Act} {w H : e} {Φ : Nat → b → e → Option b → Prop} {Q : Exit → Act → e → Prop} {n0 i k n : Nat} {x : Option b}
end
def zlm (B:Nat->Option Nat) (i:Nat) (o:Option Nat):Nat->Option Nat:=fun a=>if a=i then o else B a
theorem zou (B:Nat->Option Nat) (i:Nat) (o:Option Nat):zlm B i o i=o:=if_pos rfl
theorem M0 {B:Nat->Option Nat} {i a:Nat} {o:Option Nat} (h:a≠i):zlm B i o a=B a:=if_neg h
structure Sep (w:e) (base:Nat) (S:Nat->Prop) (B:Nat->Option Nat):Prop where
 lt:∀i b,B i=some b->base<=b/\b<w.heap.size/\¬S b
 ne:∀i j b,i≠j->B i=some b->B j≠some b
 q:∀b,S b->b<w.heap.size
section
variable {w w' : e} {base : Nat} {S T : Nat → Prop} {B : Nat → Option Nat}
theorem Sep.upd (h:Sep w base S B) (q:w.heap.size<=w'.heap.size) (r:base<=w.heap.size) (n:∀a,T a->S a\/(w.heap.size<=a/\a<w'.heap.size)) {i:Nat} {o:Option Nat}
 (l:∀a,o=some a->B i=some a\/(w.heap.size<=a/\a<w'.heap.size/\¬T a)):Sep w' base T (zlm B i o):=by
 have old:∀e a,B e=some a->base<=a/\a<w'.heap.size/\¬T a:=fun e a c=>by
  have b:=h.lt e a c;refine⟨b.1,by omega,fun j=> ?_⟩;rcases n a j with m|m
  ·exact b.2.2 m
  ·omega
 refine⟨fun e a c=> ?_,fun e k a g c d=> ?_,fun a j=> ?_⟩
 ·by_cases f:e=i
  ·subst f;rw[zou] at c;rcases l a c with b|b
   ·exact old _ _ b
   ·exact⟨by omega,b.2⟩
  ·rw[M0 f] at c;exact old _ _ c
 ·by_cases f:e=i
  ·subst f;rw[zou] at c;rw[M0 (Ne.symm g)] at d;rcases l a c with b|b
   ·exact h.ne _ _ _ g b d
   ·have:=(h.lt _ _ d).2.1;omega
  ·rw[M0 f] at c;by_cases p:k=i
   ·subst p;rw[zou] at d;rcases l a d with b|b
    ·exact h.ne _ _ _ g c b
    ·have:=(h.lt _ _ c).2.1;omega
   ·rw[M0 p] at d;exact h.ne _ _ _ g c d
 ·rcases n a j with b|b
  ·exact I (h.q a b) q
  ·exact b.2
theorem Sep.more (h:Sep w base S B) (g:w.heap.size<=w'.heap.size) (f:∀a,T a->S a\/(w.heap.size<=a/\a<w'.heap.size)):Sep w' base T B where
 lt i a e:=by
  have b:=h.lt i a e
  refine⟨b.1,by omega,fun c=> ?_⟩
  rcases f a c with d|d
  ·exact b.2.2 d
  ·omega
 ne:=h.ne
 q a c:=by
  rcases f a c with b|b
  ·exact I (h.q a b) g
  ·exact b.2
theorem Sep.size (h:Sep w base S B) (b:w.heap.size<=w'.heap.size):Sep w' base S B:=h.more b fun c a=> .inl a
end
theorem OwnS.head {D:Type} {n:Nat} {R:e->(Nat->Prop)->b->D->Prop} {w:e} {base:Nat} {S:Nat->Prop} {v:b} {l:List D} (h:OwnS n t R w base S v l):
 ∃a d,v= .slice a l.length d/\l.length<=d/\d<=maxLen/\(1<=l.length->∃f,a=some ⟨f,0,none⟩/\v.ownBlock=some f):=by
 obtain⟨p,j,_⟩:=h;rcases j.2 with⟨g,c⟩|⟨i,cap,o,c,s,u,k,m,q,r⟩
 ·rw[c];exact⟨none,0,g,Nat.le_refl _,by unfold maxLen;omega,fun h=>by omega⟩
 ·exact⟨_,_,c,k,m,fun _=>⟨i,rfl,by rw[c];rfl⟩⟩
theorem OwnS.bare {D:Type} {n:Nat} {R:e->(Nat->Prop)->b->D->Prop} (u:∀w S T a x,R w S a x->R w T a x) {w:e} {base:Nat} {S:Nat->Prop} {v:b} {l:List D} (h:OwnS n t R w base S v l):OwnS n t R w base (fun _=>False) v l:=by obtain⟨c,d,f,g,j⟩:=h;exact⟨c,d,f,g.imp fun x y h=>u _ _ _ _ _ h,fun i h=>h.elim⟩
theorem OwnS.intW {w:e} {base:Nat} {S:Nat->Prop} {v:b} {l:List Nat} (h:OwnS 1 3 IsIV w base S v (l.map fun(x:Nat)=>(x:Int))) (y:1<=l.length):
 ∃a c,v= .slice (some ⟨a,0,none⟩) l.length c/\IntW w a l.length (fun i=>l.getD i 0):=by have f:(l.map fun(x:Nat)=>(x:Int)).length=l.length:=(by simp);obtain⟨a,c,j,p,rfl,q,g,r,s,k,m,n,t,_⟩:=h.shape (fun d=>by rw[d] at f;simp at f;omega);refine⟨a,c,by rw[f],⟨j,g⟩,fun i hi=> ?_⟩;have hr:(l.map fun(x:Nat)=>(x:Int))[i]? =some ((l.getD i 0:Nat):Int):=(by rw[List.getElem?_map,List.getD_eq_getElem?_getD,List.getElem?_eq_getElem hi];rfl);obtain⟨d,o,u⟩:=n.get hr;have u:d=_:=u;subst u;have:=zrh g k (znv m (i:=0) o rfl);rwa[Nat.mul_one,Nat.add_zero] at this
structure TabO (w:e) (base:Nat) (S:Nat->Prop) (B:Nat->Option Nat) (k l n:Nat) (hd:Nat->b) (f c:b) (F:Nat->Nat->Int) (Q:Nat->Int):Prop where
 rows:∀i,i<k->OwnS 3 30 IsR w base S (hd i) (C4 (ints n (F i)))/\(hd i).ownBlock=B (7+i)
 rests:OwnS 3 30 IsR w base S c (C4 (ints l Q))/\c.ownBlock=B 4
 heads:OwnS 1 26 IsVal w base (fun _=>False) f ((List.range k).map hd)/\f.ownBlock=B 3
 sep:Sep w base S B
def zru (hd:Nat->b) (k:Nat) (a:b):Nat->b:=fun i=>if i=k then a else hd i
theorem zz1399 (hd:Nat->b) (k:Nat) (a:b):(List.range (k+1)).map (zru hd k a)=(List.range k).map hd++[a]:=by
 rw[List.range_succ,List.map_append];congr 1
 ·refine List.map_congr_left fun i hi=> ?_;have:=List.mem_range.1 hi;unfold zru;rw[if_neg og]
 ·show[zru hd k a k]=_;unfold zru;rw[if_pos rfl]
section
variable {w w' : e} {base : Nat} {S T : Nat → Prop} {B : Nat → Option Nat} {k l n : Nat} {hd : Nat → b} {f c : b} {F : Nat → Nat → Int} {Q : Nat → Int}
theorem yai {v:b} {g:List Raw} (e:Sep w base S B) (k:w.heap.size<=w'.heap.size) (j:∀a,T a->S a\/(w.heap.size<=a/\a<w'.heap.size)) (i:∀a,S a->T a) (f:v.ownBlock=B p) (h:OwnS 3 30 IsR w' base S v g):OwnS 3 30 IsR w' base T v g:=by
 refine h.wider IsR.stb i fun a c=> ?_;rcases j a c with c|c
 ·exact⟨I (e.q a c) k,fun d=>(e.lt p a (f▸d.symm)).2.2 c⟩
 ·exact⟨by omega,fun d=>by have:=(e.lt p a (f▸d.symm)).2.1;omega⟩
theorem TabO.grown (h:TabO w base S B k l n hd f c F Q) {r:Option Nat} (b:w.grownBy w' r) (hr:∀a,r=some a->w.heap.size<=a\/∃p,B p=some a/\p≠3/\p≠4/\p<7):TabO w' base S B k l n hd f c F Q:=by
 have key:∀p o,o=B p->(p=3\/p=4\/7<=p)->∀a,r=some a->o≠some a/\¬S a:=fun p o j v a d=>by
  rcases hr a d with g|⟨m,g,s,t,u⟩
  ·exact⟨fun e=>by have:=(h.sep.lt p a (j▸e)).2.1;omega,fun q=>by have:=h.sep.q a q;omega⟩
  ·exact⟨fun e=>h.sep.ne m p a og g (j▸e),(h.sep.lt m a g).2.2⟩
 exact⟨fun i hi=>⟨(h.rows i hi).1.grown IsR.stb b (key (7+i) _ (h.rows i hi).2 og),(h.rows i hi).2⟩,⟨h.rests.1.grown IsR.stb b (key 4 _ h.rests.2 og),h.rests.2⟩,
  ⟨h.heads.1.grown IsVal.stb b fun a d=>⟨(key 3 _ h.heads.2 og a d).1,fun x=>x⟩,h.heads.2⟩,h.sep.size b.size⟩
theorem TabO.next (h:TabO w base S B k l n hd f c F Q) (b:Below w.heap.size w w'):TabO w' base S B k l n hd f c F Q:=h.grown (r:=none) (K9 b) fun d a=>by cases a
theorem TabO.more (h:TabO w base S B k l n hd f c F Q) (b:Below w.heap.size w w') (g:∀a,S a->T a) (e:∀a,T a->S a\/(w.heap.size<=a/\a<w'.heap.size)):TabO w' base T B k l n hd f c F Q:=by have d:=h.next b;exact⟨fun i hi=>⟨yai h.sep b.size e g (h.rows i hi).2 (d.rows i hi).1,(h.rows i hi).2⟩,⟨yai h.sep b.size e g h.rests.2 d.rests.1,h.rests.2⟩,d.heads,h.sep.more b.size e⟩
theorem Sep.two {n v:Option Nat} {q:Nat} (u:q≠p) (h:Sep w base S B) (z:w.heap.size<=w'.heap.size) (y:base<=w.heap.size) (D:hi<=w'.heap.size) (E:w.heap.size<=hi) (s:∀a,T a->S a\/(w.heap.size<=a/\a<hi))
 (m:∀a,n=some a->w.heap.size<=a/\a<hi/\¬T a) (hv:v=B q\/∃a,v=some a/\hi<=a/\a<w'.heap.size):Sep w' base T (zlm (zlm B p n) q v):=by
 have k:Sep w' base T (zlm B p n):=h.upd z y (fun a e=>(s a e).imp id fun e=>⟨e.1,by omega⟩) fun a b=> .inr ⟨(m a b).1,by have:=(m a b).2.1;omega,(m a b).2.2⟩
 have new:∀c a,c≠q->zlm B p n c=some a->v=some a->False:=fun c a f d i=>by
  rcases hv with j|⟨x,j,A,C⟩
  ·rw[j] at i;exact k.ne q c a (Ne.symm f) (by rw[M0 u];exact i) d
  ·rw[j] at i;cases i;by_cases r:c=p
   ·subst r;rw[zou] at d;have:=(m a d).2.1;omega
   ·rw[M0 r] at d;have:=(h.lt c a d).2.1;omega
 refine⟨fun c a b=> ?_,fun c l a o b g=> ?_,k.q⟩
 ·by_cases f:c=q
  ·subst f;rw[zou] at b;rcases hv with d|⟨x,d,i,j⟩
   ·rw[d] at b;exact k.lt c a (by rw[M0 u];exact b)
   ·rw[d] at b;cases b;refine⟨by omega,j,fun e=> ?_⟩;rcases s a e with e|e
    ·have:=h.q a e;omega
    ·omega
  ·rw[M0 f] at b;exact k.lt c a b
 ·by_cases f:c=q
  ·subst f;rw[zou] at b;rw[M0 (Ne.symm o)] at g;exact(new l a (Ne.symm o) g b).elim
  ·rw[M0 f] at b;by_cases t:l=q
   ·subst t;rw[zou] at g;exact(new c a f b g).elim
   ·rw[M0 t] at g;exact k.ne _ _ _ o b g
theorem OwnS.higher {D:Type} {f:Nat} {R:e->(Nat->Prop)->b->D->Prop} (u:Stb R) {g:Nat} {U c:Nat->Prop} {v:b} {i:List D} (h:OwnS f t R w g U v i) (A:base<=g) (p:∀a,U a->c a) (q:∀a,c a->a<w.heap.size/\some a≠v.ownBlock):OwnS f t R w base c v i:=by
 obtain⟨m,d,j,k,s⟩:=h;refine⟨m,⟨d.1,?_⟩,j,k.imp fun x y h=>u.to h fun a r=>⟨p a r,fun o=>rfl⟩,q⟩;rcases d.2 with h|⟨n,cap,l,hv,z,rest⟩
 ·exact .inl h
 ·exact .inr ⟨n,cap,l,hv,by omega,rest⟩
theorem TabO.row {m g:b} (h:TabO w base S B k l n hd f c F Q) (t:base<=w.heap.size) (u:w.grownBy w' (B 3)) (C:w.heap.size<=hi) (D:hi<=w'.heap.size)
 (y:OwnS 3 30 IsR w' w.heap.size (fun a=>w.heap.size<=a/\a<hi/\g.ownBlock≠some a) g (C4 (ints n (F k)))) (J:∀a,g.ownBlock=some a->a<hi)
 (hv:OwnS 1 26 IsVal w' base (fun _=>False) m ((List.range k).map hd++[g])) (K:m.ownBlock=f.ownBlock\/∃a,m.ownBlock=some a/\hi<=a):
 TabO w' base (fun a=>S a\/(w.heap.size<=a/\a<hi/\g.ownBlock≠some a)) (zlm (zlm B (7+k) g.ownBlock) 3 m.ownBlock) (k+1) l n (zru hd k g) m c F Q:=by
 have o:∀a,S a->a<w.heap.size:=h.sep.q;have q:=u.size;have G:∀a,(S a\/(w.heap.size<=a/\a<hi/\g.ownBlock≠some a))->S a\/(w.heap.size<=a/\a<w'.heap.size):=fun a d=>d.imp id fun d=>⟨d.1,by omega⟩
 have old:∀(v:b) (p:Nat) (s:List Raw),v.ownBlock=B p->p≠3->OwnS 3 30 IsR w base S v s->OwnS 3 30 IsR w' base (fun a=>S a\/(w.heap.size<=a/\a<hi/\g.ownBlock≠some a)) v s:=fun v p s x H E=>
  yai h.sep q G (fun a d=> .inl d) x (E.grown IsR.stb u fun a e=>⟨fun z=>h.sep.ne 3 p a (Ne.symm H) e (x▸z),(h.sep.lt 3 a e).2.2⟩)
 have r:=y.own_lt;refine⟨fun i L=> ?_,⟨old _ 4 _ h.rests.2 og h.rests.1,?_⟩,⟨?_,zou _ _ _▸rfl⟩,?_⟩
 ·by_cases e:i=k
  ·subst e;have j:zru hd i g i=g:=if_pos rfl;rw[j];refine⟨y.higher IsR.stb t (fun a d=> .inr d) fun a d=> ?_,?_⟩
   ·rcases d with d|d
    ·exact⟨I (o a d) q,fun e=>by have:=(r a e.symm).1;have:=o a d;omega⟩
    ·exact⟨by omega,fun e=>d.2.2 e.symm⟩
   ·rw[M0 og,zou]
  ·have j:zru hd k g i=hd i:=if_neg e;rw[j];refine⟨old _ _ _ (h.rows i og).2 og (h.rows i og).1,?_⟩;rw[M0 og,M0 og];exact(h.rows i og).2
 ·rw[M0 og,M0 og];exact h.rests.2
 ·rw[zz1399];exact hv
 ·exact h.sep.two og q t D C (fun a d=>d.imp id fun d=>⟨d.1,d.2.1⟩) (fun a e=>⟨(r a e).1,J a e,fun d=>by
   rcases d with d|d
   ·have:=o a d;have:=(r a e).1;omega
   ·exact d.2.2 e⟩) (by
   rcases K with e|⟨a,j,A⟩
   ·exact .inl (e.trans h.heads.2)
   ·exact .inr ⟨a,j,A,(hv.own_lt a j).2⟩)
theorem TabO.rest {e:b} {T:Nat->Prop} (h:TabO w base S B k l n hd f c F Q) (u:base<=w.heap.size) (j:w.grownBy w' (B 4)) (s:∀a,S a->T a) (m:∀a,T a->S a\/(w.heap.size<=a/\a<w'.heap.size))
 (hv:OwnS 3 30 IsR w' base T e (C4 (ints (l+1) Q))) (v:∀a,e.ownBlock=some a->B 4=some a\/w.heap.size<=a):
 TabO w' base T (zlm B 4 e.ownBlock) k (l+1) n hd f e F Q:=by
 have o:=j.size;refine⟨fun i hi=>⟨?_,?_⟩,⟨hv,(zou _ _ _).symm⟩,⟨h.heads.1.grown IsVal.stb j fun a d=>⟨fun g=>h.sep.ne 4 3 a og d (h.heads.2▸g),fun x=>x⟩,?_⟩,?_⟩
 ·exact yai h.sep o m s (h.rows i hi).2 ((h.rows i hi).1.grown IsR.stb j fun a d=>⟨fun g=>h.sep.ne 4 (7+i) a og d ((h.rows i hi).2▸g),(h.sep.lt 4 a d).2.2⟩)
 ·rw[M0 og];exact(h.rows i hi).2
 ·rw[M0 og];exact h.heads.2
 ·obtain⟨A,p,y,z,q⟩:=hv;exact h.sep.upd o u m fun a d=>(v a d).imp id fun r=>⟨r,(p.lt a d).2,fun t=>(q a t).2 d.symm⟩
theorem TabO.place (h:TabO w base S B k l n hd f c F Q) {a:Nat->Option Nat} (g:Sep w base S a) (b:a 3=B 3) (d:a 4=B 4) (e:∀i,a (7+i)=B (7+i)):TabO w base S a k l n hd f c F Q:=
 ⟨fun i hi=>⟨(h.rows i hi).1,by rw[e];exact(h.rows i hi).2⟩,⟨h.rests.1,by rw[d];exact h.rests.2⟩,⟨h.heads.1,by rw[b];exact h.heads.2⟩,g⟩
end
structure TabE (w:e) (base:Nat) (S:Nat->Prop) (B:Nat->Option Nat) (m n:Nat) (hd:Nat->b) (f c d r s:b) (sb:Nat) (F:Nat->Nat->Int) (Q C:Nat->Int) (sc:Nat->Nat) (bas oth:List Nat):Prop where
 tab:TabO w base S B m m n hd f c F Q
 cost:OwnS 3 30 IsR w base S d (C4 (ints n C))/\d.ownBlock=B 5
 basO:OwnS 1 3 IsIV w base (fun _=>False) r (bas.map fun(x:Nat)=>(x:Int))/\r.ownBlock=B 0
 othO:OwnS 1 3 IsIV w base (fun _=>False) s (oth.map fun(x:Nat)=>(x:Int))/\s.ownBlock=B 1
 scl:B 2=some sb/\∀v,v∈bas++oth->∃P k,w.cell? ⟨sb,v,none⟩=some (.slice P (A8 (sc v)).length k)/\NumS w S (.slice P (A8 (sc v)).length k) (sc v)
def zpq:b->Option Addr
 | .slice a _ _=>a
 |_=>none
def zrd:b->Nat
 | .slice _ _ a=>a
 |_=>0
def X8 (hd:Nat->b) (c d:b) (m l:Nat):b:=if l=m then c else if l=m+1 then d else hd l
def zoe (m l:Nat):Nat:=if l=m then 4 else if l=m+1 then 5 else 7+l
def zoc (F:Nat->Nat->Int) (Q C:Nat->Int) (m l a:Nat):Int:=if l=m then Q a else if l=m+1 then C a else F l a
theorem yzg {m l k:Nat} (d:l<m+2) (c:k<m+2) (h:zoe m l=zoe m k):l=k:=by
 have key:∀l,(l=m/\zoe m l=4)\/(l=m+1/\zoe m l=5)\/(l≠m/\l≠m+1/\zoe m l=7+l):=fun l=>by
  unfold zoe;by_cases a:l=m
  ·exact .inl ⟨a,if_pos a⟩
  ·by_cases b:l=m+1
   ·exact .inr (.inl ⟨b,by rw[if_neg a,if_pos b]⟩)
   ·exact .inr (.inr ⟨a,b,by rw[if_neg a,if_neg b]⟩)
 rcases key l with a|a|a<;>rcases key k with b|b|b<;>omega
theorem ykq {m l:Nat}:zoe m l=4\/zoe m l=5\/7<=zoe m l:=by
 unfold zoe;split
 ·exact .inl rfl
 ·split
  ·exact .inr (.inl rfl)
  ·exact .inr (.inr og)
section
variable {w W : e} {base m n sb : Nat} {S : Nat → Prop} {B : Nat → Option Nat} {hd : Nat → b} {f c d r s : b} {F : Nat → Nat → Int} {Q C : Nat → Int} {sc : Nat → Nat} {bas oth : List Nat}
theorem TabE.line (h:TabE w base S B m n hd f c d r s sb F Q C sc bas oth) {l:Nat} (g:l<m+2):
 OwnS 3 30 IsR w base S (X8 hd c d m l) (C4 (ints (M4 m n l) (zoc F Q C m l)))/\(X8 hd c d m l).ownBlock=B (zoe m l):=by
 unfold X8 zoe;by_cases b:l=m
 ·subst b;rw[if_pos rfl,if_pos rfl,Y2];have a:zoc F Q C l l=Q:=(by funext j;unfold zoc;rw[if_pos rfl]);rw[a];exact h.tab.rests
 ·rw[if_neg b,if_neg b];by_cases e:l=m+1
  ·subst e;rw[if_pos rfl,if_pos rfl,zke];have a:zoc F Q C m (m+1)=C:=(by funext j;unfold zoc;rw[if_neg b,if_pos rfl]);rw[a];exact h.cost
  ·rw[if_neg e,if_neg e,K3 og];have a:zoc F Q C m l=F l:=(by funext j;unfold zoc;rw[if_neg b,if_neg e]);rw[a];exact h.tab.rows l og
theorem TabE.shape (h:TabE w base S B m n hd f c d r s sb F Q C sc bas oth) {l:Nat} (u:l<m+2):
 X8 hd c d m l= .slice (zpq (X8 hd c d m l)) (M4 m n l) (zrd (X8 hd c d m l))/\M4 m n l<=zrd (X8 hd c d m l)/\zrd (X8 hd c d m l)<=maxLen/\
 (1<=M4 m n l->∃e,zpq (X8 hd c d m l)=some ⟨e,0,none⟩/\B (zoe m l)=some e):=by obtain⟨o,p⟩:=h.line u;obtain⟨a,x,b,i,q,g⟩:=o.head;have v:(C4 (ints (M4 m n l) (zoc F Q C m l))).length=M4 m n l:=(by simp[C4,zsl]);rw[v] at b i g;rw[p] at g;refine⟨by rw[b];rfl,by rw[b];exact i,by rw[b];exact q,fun t=> ?_⟩;obtain⟨e,j,k⟩:=g t;exact⟨e,by rw[b];exact j,k⟩
def N2 (v:b):Nat:=match zpq v with
 |some a=>a.block
 |none=>0
theorem zz1396 (h:TabE w base S B m n hd f c d r s sb F Q C sc bas oth) (V:bas.length=m) (X:oth.length=n) (be:m+n<=1000) {E lo0 top:Nat} {z:Int} {D T P aa:Option Addr} {ac ad k al:Nat}
 (aA:Below w.heap.size w W) (a9:(lo0<=E/\E<base)\/w.heap.size<=E) (hlo:lo0<=base) (a8:base<=w.heap.size) (aN:∀a,S a->base<=a)
 (aP:NumS w S (.slice D (A8 1).length ac) 1) (aW:NumS w S (.slice T (A8 top).length ad) top) (aX:IsQ w S (.agg #[.bool (decide (z<0)),.slice P (A8 z.natAbs).length k,.slice aa (A8 1).length al]) ((z:Int):Rat))
 (u:Row W E 98 [r,s,f,c,d,.bool (decide (z<0)),.slice P (A8 z.natAbs).length k,.slice aa (A8 1).length al,.slice D (A8 1).length ac,.slice (some ⟨sb,0,none⟩) (m+n) (m+n),.slice T (A8 top).length ad,.int .i64 0,.int .i64 (-1),.int .i64 0]):
 ∃(A:Nat->Prop) (Z:Lay),SchG W A lo0 W.heap.size E Z m n sc top (zoc F Q C m) z 1 bas oth 0 (-1) 0:=by
 obtain⟨ra,rc,ah,aG,a4,aq⟩:=h.tab.heads.1.head;have ak:((List.range m).map hd).length=m:=(by simp);rw[ak] at ah aG aq;rw[h.tab.heads.2] at aq;obtain⟨ba,bc,eb,av,b2,ab⟩:=h.basO.1.head;have aO:(bas.map fun(x:Nat)=>(x:Int)).length=m:=(by simp[V]);rw[aO] at eb av ab;rw[h.basO.2] at ab;obtain⟨oa,oc,ag,aE,aZ,ao⟩:=h.othO.1.head;have aT:(oth.map fun(x:Nat)=>(x:Int)).length=n:=(by simp[X]);rw[aT] at ag aE ao;rw[h.othO.2] at ao;obtain⟨Z,aL⟩:=nm (⟨fun l=>N2 (X8 hd c d m l),fun l=>zrd (X8 hd c d m l),fun l=>zpq (X8 hd c d m l),N2 f,rc,ra,N2 r,bc,ba,N2 s,oc,oa,sb,m+n,some ⟨sb,0,none⟩⟩:Lay);have sep:=h.tab.sep;have aR:E<W.heap.size:=u.lt;have bd:=aA.size;have az:=h.scl.1;have N:∀p a,B p=some a->a≠E:=fun p a g ay=>(by have:=sep.lt p a g;omega);have O:∀l,l<m+2->1<=M4 m n l->zpq (X8 hd c d m l)=some ⟨N2 (X8 hd c d m l),0,none⟩/\B (zoe m l)=some (N2 (X8 hd c d m l)):=fun l q b=>(by obtain⟨_,_,_,aV⟩:=h.shape q;obtain⟨a,j,t⟩:=aV b;unfold N2;rw[j];exact⟨rfl,t⟩);have aH:1<=m->ra=some ⟨N2 f,0,none⟩/\B 3=some (N2 f):=fun b=>(by obtain⟨a,j,t⟩:=aq b;unfold N2 zpq;rw[ah,j];exact⟨rfl,t⟩);have I:1<=m->ba=some ⟨N2 r,0,none⟩/\B 0=some (N2 r):=fun b=>(by obtain⟨a,j,t⟩:=ab b;unfold N2 zpq;rw[eb,j];exact⟨rfl,t⟩);have J:1<=n->oa=some ⟨N2 s,0,none⟩/\B 1=some (N2 s):=fun b=>(by obtain⟨a,j,t⟩:=ao b;unfold N2 zpq;rw[ag,j];exact⟨rfl,t⟩);obtain⟨A,M⟩:∃A:Nat->Prop,A=fun a=>S a\/B 3=some a\/B 2=some a:=⟨_,rfl⟩;have sS:∀a,S a->A a:=fun a e=>by rw[M];exact .inl e
 have au:∀a,A a->base<=a/\a<w.heap.size:=fun a e=>by
  rw[M] at e;rcases e with e|e|e
  ·exact⟨aN a e,sep.q a e⟩
  ·exact⟨(sep.lt _ a e).1,(sep.lt _ a e).2.1⟩
  ·exact⟨(sep.lt _ a e).1,(sep.lt _ a e).2.1⟩
 have an:∀p a,p≠3->p≠2->B p=some a->¬A a:=fun p a U K g e=>by
  rw[M] at e;rcases e with e|e|e
  ·exact(sep.lt p a g).2.2 e
  ·exact sep.ne 3 p a (Ne.symm U) e g
  ·exact sep.ne 2 p a (Ne.symm K) e g
 have H:∀a,a<w.heap.size->W.heap[a]? =w.heap[a]? :=fun a e=>aA.block a e;have ar:L6 S (SN A W.heap.size W) w W:=fun a e=>⟨.inl (sS a e),fun o=>L (H a (sep.q a e))⟩;have a5:L6 S A w W:=fun a e=>⟨sS a e,fun o=>L (H a (sep.q a e))⟩;have aD:∀l,l<m+2->1<=M4 m n l->LineW w S (N2 (X8 hd c d m l)) (zrd (X8 hd c d m l)) (M4 m n l) (zoc F Q C m l):=fun l q b=>(by obtain⟨a,R,g,_,_,_,aM⟩:=(h.line q).1.line b;have j:N2 (X8 hd c d m l)=a:=(by unfold N2;rw[g];rfl);have t:zrd (X8 hd c d m l)=R:=(by rw[g];rfl);rw[j,t];exact aM);refine⟨A,Z,?_⟩;subst aL
 refine⟨⟨fun l q b=>(aD l q b).keep (H _ (aD l q b).lt) fun x Y=>⟨.inl (sS x Y),H x (sep.q x Y)⟩,fun l k q aB b K g=> ?_,fun l q b=> ?_,fun a e=>by have:=(au a e).2;omega,Nat.le_refl _⟩,
  fun l q b=>(O l q b).1,fun l q=>⟨(h.shape q).2.1,(h.shape q).2.2.1⟩,⟨P,k,aa,al,D,ac,T,ad,?_,IsQ.stb.to aX ar,IsK.stb.to aP ar,IsK.stb.to aW ar⟩,fun i hi=> ?_,⟨aG,a4,av,b2,aE,aZ,Nat.le_refl _,by show m+n<=maxLen;unfold maxLen;omega⟩,
  fun b=>⟨(I b).1,?_⟩,fun b=>⟨(J b).1,?_⟩,fun v hv=> ?_,⟨by omega,aR,fun e=>by have:=au E e;omega⟩,fun b=> ?_,fun b=> ?_,fun b K=> ?_,fun l q b=> ?_,⟨V,X⟩⟩
 ·have G:=(O l q b).2;have aS:=(O k aB K).2;exact Classical.byContradiction fun N=>sep.ne _ _ _ (fun ay=>N (yzg q aB ay)) G (by rw[aS];exact congrArg some g.symm)
 ·have G:=(O l q b).2;have:=sep.lt _ _ G;have aU:=ykq (m:=m) (l:=l);exact⟨by show N2 _<_;omega,an _ _ og og G⟩
 ·show Row W E _ [.slice ba m bc,.slice oa n oc,.slice ra m rc,.slice (zpq (X8 hd c d m m)) m (zrd (X8 hd c d m m)),.slice (zpq (X8 hd c d m (m+1))) n (zrd (X8 hd c d m (m+1))),_,_,_,_,_,_,_,_,_];have j:=(h.shape (l:=m) og).1;have t:=(h.shape (l:=m+1) og).1;rw[Y2] at j;rw[zke] at t;have ae:X8 hd c d m m=c:=if_pos rfl;have af:X8 hd c d m (m+1)=d:=(by unfold X8;rw[if_neg og,if_pos rfl]);rw[<-j,<-t,ae,af,<-eb,<-ag,<-ah];exact u
 ·have b:1<=m:=og;have aC:=(aH b).2;refine⟨(aH b).1,by rw[M];exact .inr (.inl aC),?_⟩;show W.cell? ⟨N2 f,i,none⟩=some (.slice (zpq (X8 hd c d m i)) n (zrd (X8 hd c d m i)));have j:=(h.shape (l:=i) og).1;rw[K3 hi] at j;have t:X8 hd c d m i=hd i:=(by unfold X8;rw[if_neg og,if_neg og]);have hc:(hd i).cells[0]? =some (hd i):=(by obtain⟨x,y,z,Y⟩:∃x y z,hd i= .slice x y z:=⟨_,_,_,t▸j⟩;rw[Y];rfl);rw[<-j,t,L (H _ (sep.lt _ _ aC).2.1)];obtain⟨a,R,a6,a7,ae,_,a0,_,_,a1,a2,a3,_,_⟩:=h.tab.heads.1.shape (fun g=>by rw[g] at ak;simp at ak;omega);have af:N2 f=a:=(by unfold N2;rw[ae];rfl);rw[af];have hr:((List.range m).map hd)[i]? =some (hd i):=(by rw[List.getElem?_map,List.getElem?_range hi];rfl);obtain⟨g,aQ,aj⟩:=a3.get hr;have aj:g=_:=aj;subst aj;have:=zrh a0 a1 (znv a2 (i:=0) aQ hc);rwa[Nat.mul_one,Nat.add_zero] at this
 ·obtain⟨a,R,g,hi⟩:=h.basO.1.intW (by rw[V];exact b);have j:N2 r=a:=(by unfold N2;rw[g];rfl);rw[V] at hi;show IntW W (N2 r) m _;rw[j];exact hi.keep (H _ hi.lt)
 ·obtain⟨a,R,g,hi⟩:=h.othO.1.intW (by rw[X];exact b);have j:N2 s=a:=(by unfold N2;rw[g];rfl);rw[X] at hi;show IntW W (N2 s) n _;rw[j];exact hi.keep (H _ hi.lt)
 ·obtain⟨aI,aY,aJ,aK⟩:=h.scl.2 v hv;refine⟨rfl,by rw[M];exact .inr (.inr az),aI,aY,?_,IsK.stb.to aK a5⟩;rw[<-aJ];exact L (H _ (sep.lt _ _ az).2.1)
 ·have U:=sep.lt _ _ (I b).2;exact⟨by show lo0<=N2 r;omega,by show N2 r<_;omega,an 0 _ og og (I b).2,N 0 _ (I b).2⟩
 ·have U:=sep.lt _ _ (J b).2;exact⟨by show lo0<=N2 s;omega,by show N2 s<_;omega,an 1 _ og og (J b).2,N 1 _ (J b).2⟩
 ·exact fun g=>sep.ne 0 1 _ og (I b).2 (by rw[(J K).2];exact congrArg some (show N2 s=N2 r from g.symm))
 ·have G:=(O l q b).2;have U:=sep.lt _ _ G;have aU:=ykq (m:=m) (l:=l);exact⟨by show lo0<=N2 _;omega,N _ _ G,fun ai g=>sep.ne _ 0 _ og G (by rw[(I ai).2];exact congrArg some (show N2 r=N2 _ from g.symm)),fun ai g=>sep.ne _ 1 _ og G (by rw[(J ai).2];exact congrArg some (show N2 s=N2 _ from g.symm))⟩
end
def zmy (a:List b) (c:Nat->b):List Nat->List b
 |[]=>a
 |t::g=>(zmy a c g).set t (c t)
theorem ylt (a:List b) (c:Nat->b) (g:List Nat):(zmy a c g).length=a.length:=by
 induction g with
 |nil=>rfl
 |cons t g ih=>rw[zmy,List.length_set,ih]
theorem zz1398 (a:List b) (d:Nat->b) (g:List Nat) {i:Nat} (hi:i<a.length):(zmy a d g)[i]? =if i∈g then some (d i) else a[i]? :=by
 induction g with
 |nil=>simp[zmy]
 |cons t g ih=>
  rw[zmy,List.getElem?_set];by_cases c:t=i
  ·subst c;rw[if_pos rfl,if_pos (by rw[ylt];exact hi),if_pos (by simp)]
  ·rw[if_neg c,ih];have:i∈t::g↔i∈g:=(by simp[Ne.symm c]);simp only[this]
theorem zrj {l a:List b} {p:Nat->Bool} (g:List Nat) (e:∀t,t∉g->p t=false) (f:l.length=a.length) (h:∀t,p t=false->(Array.mk l)[t]? =(Array.mk a)[t]?):∃d:Nat->b,l=zmy a d g:=by
 refine⟨fun t=>l.getD t j,List.ext_getElem? fun i=> ?_⟩;rcases M i a.length with hi|hi
 ·rw[zz1398 _ _ _ hi];by_cases c:i∈g
  ·rw[if_pos c,List.getD_eq_getElem?_getD,List.getElem?_eq_getElem og];rfl
  ·rw[if_neg c];have:=h i (e i c);simpa using this
 ·rw[List.getElem?_eq_none og,List.getElem?_eq_none (by rw[ylt];exact hi)]
def ygv (ops:Array G) (g:List Nat):Bool:=ops.toList.all fun o=>match o.dst with|none=>true|some d=>g.contains d
theorem ysd {ops:Array G} (h:ygv ops g=true) {i t:Nat} {o:G} (d:ops[i]? =some o) (hd:(o.dst==some t)=true):t∈g:=by have c:o∈ops.toList:=(by have:=Array.getElem?_eq_some_iff.1 d;obtain⟨a,b⟩:=this;rw[<-b];simp);have a:=List.all_eq_true.1 h o c;have b:o.dst=some t:=(by simpa using hd);rw[b] at a;simpa using a
theorem ydx {ops:Array G} (h:ygv ops g=true):∀t,t∉g->zmm ops t=false:=fun t d=>by
 rcases Bool.eq_false_or_eq_true (zmm ops t) with a|a
 ·unfold zmm at a
  obtain⟨o,b,c⟩:=List.any_eq_true.1 a
  obtain⟨i,hi⟩:=List.getElem?_of_mem b
  exact absurd (ysd h (i:=i) (by simpa using hi) c) d
 ·exact a
end Go.Proofs.YtlhhbccgfkhflaaGreatDoor
