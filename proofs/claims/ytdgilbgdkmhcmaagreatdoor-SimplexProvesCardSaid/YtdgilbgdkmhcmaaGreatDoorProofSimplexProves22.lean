/-
 As the law of text GrowR;besides,one f (number k) c yield g new (a h block) of i all others e,once b d there:so that what they say c hold apart from b.
-/
import Derived.Test.YtdgilbgdkmhcmaaGreatDoorProofSimplexProves21
namespace Go.Proofs.YtdgilbgdkmhcmaaGreatDoor
open Go.RowKit
set_option linter.unusedVariables false
set_option maxRecDepth 100000
set_option maxHeartbeats 8000000
open _root_.Array renaming getElem?_eq_getElem → z, getD_eq_getD_getElem? → L
open _root_.Go renaming World → b, Value → c, undef → f
variable {d j l m p q A B C D F G H : c} {g : Nat} {t : TypeId} {r : b} {xs : List c}
section
variable {P : Program} {ops : Array Oper} {Q : Exit → Act → b → Prop} {Φ : Nat → c → b → Option c → Prop} {U : b → c → b → Prop} {k : Nat} {u : Nat → b → Prop} {J : b → Option c → Prop} {E : Nat → b → b → Option c → Prop} {e : Act} {s : b}
def zmf (ops:Array Oper) (k:Nat) (listed:Array Bool) (a:Array c):Option c:=if listed[k]? =some true then(ops[k]?).map (M4 a) else none
structure GrowInvX (ops:Array Oper) (k:Nat) (Φ:Nat->c->b->Option c->Prop) (u:Nat->b->Prop) (J:b->Option c->Prop) (e:Act) (listed:Array Bool) (a:Act) (w:b):Prop where
 size:a.tmps.size=e.tmps.size
 defers:a.defers=e.defers
 inv:J w (zmf ops k listed a.tmps)
 pre:∀i,listed[i]? =some false->u i w
 free:∀t,zmc ops t=false->a.tmps[t]? =e.tmps[t]?
 holds:∀j oj,ops[j]? =some oj->listed[j]? =some true->Φ j (M4 a.tmps oj) w (zmf ops k listed a.tmps)
theorem zz1395 (hPs:∀i s w w' x,i≠s->u i w->J w x->E s w w' x->u i w') (hst:∀i s v w w' x,i≠s->s≠k->Φ i v w x->J w x->E s w w' x->Φ i v w' x) (ar:∀i v w w' ah,i≠k->Φ i v w none->J w none->E k w w' none->U w ah w'->Φ i v w' (some ah)) (hg:zxg ops e.tmps.size=true)
 (au:∀i o x,ops[i]? =some o->(i=k->x=none)->∀(a:Act) (w:b),a.tmps.size=e.tmps.size->a.defers=e.defers->J w x->u i w->(∀t,zmc ops t=false->a.tmps[t]? =e.tmps[t]?)->
   (∀g j,g∈M7 o->ops[g]? =some j->Φ g (M4 a.tmps j) w x)->
   if Region.wanted o (yielded ops a.tmps)=true then o.wp P a w (fun W w'=>∃v,W=a.put o.dst v/\E i w w' x/\J w' (if i=k then some (if o.dst.isSome then v else f) else x)/\Φ i (if o.dst.isSome then v else f) w' (if i=k then some (if o.dst.isSome then v else f) else x)/\(i=k->U w (if o.dst.isSome then v else f) w')) Q else i≠k/\Φ i f w x/\E i w w x)
 (ao:∀(a:Act) (w:b),a.tmps.size=e.tmps.size->a.defers=e.defers->J w ((ops[k]?).map (M4 a.tmps))->(∀t,zmc ops t=false->a.tmps[t]? =e.tmps[t]?)->
   (∀g j,ops[g]? =some j->Φ g (M4 a.tmps j) w ((ops[k]?).map (M4 a.tmps)))->Q .normal a w):
 ∀(H:Nat) (listed:Array Bool) (a:Act) (w:b),listed.size=ops.size->zke listed.toList<=H->GrowInvX ops k Φ u J e listed a w->wpAny P .any ops Q H listed a w:=by
 have done:∀(listed:Array Bool) (a:Act) (w:b),listed.size=ops.size->Region.ready .any ops listed=[]->GrowInvX ops k Φ u J e listed a w->Q .normal a w:=by
  intro listed a w N hr inv
  have all:∀n i,i<n->i<ops.size->listed[i]? =some true:=by
   intro n;induction n with
   |zero=>intro i p;omega
   |succ n ih=>
    intro i p G;rcases Nat.lt_or_ge i n with h|h
    ·exact ih i h G
    ·obtain rfl:i=n:=og;have m:i<listed.size:=og;cases D:listed[i] with
     |true=>rw[z m,D]
     |false=>
      exfalso
      have r:i∈Region.ready .any ops listed:=by
       unfold Region.ready;refine List.mem_filter.2 ⟨List.mem_range.2 G,?_⟩;have p:ops[i]? =some ops[i]:=z G;obtain⟨_,aq⟩:=ygc hg p;rw[p];simp only[Option.map_some,Option.getD_some,Bool.and_eq_true,Bool.not_eq_true'];refine⟨by simp[L,z m,D],Array.all_eq_true'.2 fun q an=> ?_⟩;cases aj:Region.binds .any q with
       |false=>rfl
       |true=>have l:=aq q.on (List.mem_map.2 ⟨q,List.mem_filter.2 ⟨by simpa using an,aj⟩,rfl⟩);have:=ih q.on l og;simp[L,this]
      rw[hr] at r;cases r
  have K:zmf ops k listed a.tmps=(ops[k]?).map (M4 a.tmps):=by
   unfold zmf;cases B:ops[k]? with
   |none=>split<;>rfl
   |some ok=>rw[if_pos (all (k+1) k og (Array.getElem?_eq_some_iff.1 B).1)]
  have y:=inv.inv;rw[K] at y;refine ao a w inv.size inv.defers y inv.free fun g j l=> ?_;have I:=inv.holds g j l (all (g+1) g og (Array.getElem?_eq_some_iff.1 l).1);rw[K] at I;exact I
 intro H;induction H with
 |zero=>
  intro listed a w N hc inv
  have hr:Region.ready .any ops listed=[]:=by
   cases hr:Region.ready .any ops listed with
   |nil=>rfl
   |cons i av=>exfalso;have r:i∈Region.ready .any ops listed:=(by rw[hr];simp);have G:i<ops.size:=(by unfold Region.ready at r;exact List.mem_range.1 (List.mem_filter.1 r).1);have I:=(zri (z G) r).1;have m:i<listed.size:=og;have K:=zuw (l:=listed.toList) (i:=i) (b:=listed[i]) og (by simp[m]);simp[L,z m,K] at I
  exact⟨hr,done listed a w N hr inv⟩
 |succ H ih=>
  intro listed a w N hc inv;refine⟨fun hr=>done listed a w N hr inv,fun i r=> ?_⟩;have G:i<ops.size:=(by unfold Region.ready at r;exact List.mem_range.1 (List.mem_filter.1 r).1);have p:ops[i]? =some ops[i]:=z G;obtain⟨I,K⟩:=zri p r;have m:i<listed.size:=og;have D:listed[i]=false:=(by simpa[L,z m] using I);obtain⟨Y,_⟩:=ygc hg p;have C:=au i ops[i] (zmf ops k listed a.tmps) p (fun q=>by unfold zmf;rw[<-q,z m,D];simp) a w inv.size inv.defers inv.inv (inv.pre i (by rw[z m,D])) inv.free fun g j l ab=>inv.holds g j ab (by have y:=K g l;have Z:g<listed.size:=(by have:=(Array.getElem?_eq_some_iff.1 ab).1;omega);rw[z Z];simp only[L,z Z,Option.getD_some] at y;rw[y])
  have next:∀(v:c) (w':b),E i w w' (zmf ops k listed a.tmps)->J w' (if i=k then some (if ops[i].dst.isSome then v else f) else zmf ops k listed a.tmps)->Φ i (if ops[i].dst.isSome then v else f) w' (if i=k then some (if ops[i].dst.isSome then v else f) else zmf ops k listed a.tmps)->(i=k->U w (if ops[i].dst.isSome then v else f) w')->wpAny P .any ops Q H (listed.setIfInBounds i true) (a.put ops[i].dst v) w':=by
   intro v w' O R hv S
   have ad:∀t,(∀d,ops[i].dst=some d->t≠d)->(a.put ops[i].dst v).tmps[t]? =a.tmps[t]? :=by
    intro t M;cases hd:ops[i].dst with
    |none=>rfl
    |some d=>exact zty _ _ (M d hd)
   have ae:M4 (a.put ops[i].dst v).tmps ops[i]=(if ops[i].dst.isSome then v else f):=by
    unfold M4;cases hd:ops[i].dst with
    |none=>rfl
    |some d=>simp only;exact zyg _ _ (by rw[inv.size];exact(Y d hd).1)
   have ac:∀g j,ops[g]? =some j->g≠i->M4 (a.put ops[i].dst v).tmps j=M4 a.tmps j:=by
    intro g j l F;unfold M4;cases al:j.dst with
    |none=>rfl
    |some ai=>exact zxe (ad ai fun d hd q=>F ((Y d hd).2 g j l (by rw[al,q])))
   have af:zmf ops k (listed.setIfInBounds i true) (a.put ops[i].dst v).tmps=(if i=k then some (if ops[i].dst.isSome then v else f) else zmf ops k listed a.tmps):=by
    by_cases A:i=k
    ·subst A;unfold zmf;rw[if_pos rfl,Array.getElem?_setIfInBounds_self_of_lt m,if_pos rfl,p];simp only[Option.map_some,ae]
    ·rw[if_neg A];unfold zmf;rw[Array.getElem?_setIfInBounds_ne A];cases B:ops[k]? with
     |none=>rfl
     |some ok=>simp only[Option.map_some,ac k ok B (Ne.symm A)]
   refine ih _ _ _ (by simp[N]) ?_ ⟨?_,?_,by rw[af];exact R,fun s B=> ?_,fun t M=> ?_,fun g j l T=> ?_⟩
   ·have:=zuv (l:=listed.toList) (i:=i) (by simp[m,D]);simp only[Array.toList_setIfInBounds];omega
   ·cases hd:ops[i].dst with
    |none=>exact inv.size
    |some d=>rw[zyh];exact inv.size
   ·cases hd:ops[i].dst with
    |none=>exact inv.defers
    |some d=>exact inv.defers
   ·have aa:s≠i:=(by rintro rfl;rw[Array.getElem?_setIfInBounds_self_of_lt m] at B;cases B);rw[Array.getElem?_setIfInBounds_ne (Ne.symm aa)] at B;exact hPs s i w w' _ aa (inv.pre s B) inv.inv O
   ·rw[ad t (by rintro d hd rfl;unfold zmc at M;rw[List.any_eq_false] at M;exact M ops[i] (by simp) (by rw[hd];simp))];exact inv.free t M
   ·rw[af];by_cases F:g=i
    ·subst F;rw[p] at l;cases l;rw[ae];exact hv
    ·rw[ac g j l F];rw[Array.getElem?_setIfInBounds_ne (Ne.symm F)] at T;by_cases A:i=k
     ·subst A;rw[if_pos rfl];have X:=inv.holds g j l T;have ag:zmf ops i listed a.tmps=none:=(by unfold zmf;rw[z m,D];simp);rw[ag] at X;have y:=inv.inv;rw[ag] at O y;exact ar g _ _ _ _ F X y O (S rfl)
     ·rw[if_neg A];exact hst g i _ _ _ _ F A (inv.holds g j l T) inv.inv O
  unfold wpOp;rw[p];simp only;split
  ·rename_i V;rw[if_pos V] at C;exact .inl (Oper.wp_mono (fun W w' ⟨v,ha,ak,R,hv,S⟩=>by rw[ha];exact next v w' ak R hv S) C)
  ·rename_i V;rw[if_neg V] at C;exact next f w C.2.2 (by rw[if_neg C.1];exact inv.inv) (by rw[if_neg C.1];have:=C.2.1;split<;>exact this) (fun q=>absurd q C.1)
theorem ycx {id:Nat} (k:Nat) (U:b->c->b->Prop) (Φ:Nat->c->b->Option c->Prop) (u:Nat->b->Prop) (J:b->Option c->Prop) (E:Nat->b->b->Option c->Prop) (q:P.follows .mixedOrders=true) (hJ0:J s.drew none) (hP0:∀i,u i s.drew)
 (hPs:∀i g w w' x,i≠g->u i w->J w x->E g w w' x->u i w') (hst:∀i g v w w' x,i≠g->g≠k->Φ i v w x->J w x->E g w w' x->Φ i v w' x) (r:∀i v w w' m,i≠k->Φ i v w none->J w none->E k w w' none->U w m w'->Φ i v w' (some m)) (hg:zxg ops e.tmps.size=true)
 (y:∀i o x,ops[i]? =some o->(i=k->x=none)->∀(a:Act) (w:b),a.tmps.size=e.tmps.size->a.defers=e.defers->J w x->u i w->(∀t,zmc ops t=false->a.tmps[t]? =e.tmps[t]?)->
   (∀d j,d∈M7 o->ops[d]? =some j->Φ d (M4 a.tmps j) w x)->
   if Region.wanted o (yielded ops a.tmps)=true then o.wp P a w (fun n w'=>∃v,n=a.put o.dst v/\E i w w' x/\J w' (if i=k then some (if o.dst.isSome then v else f) else x)/\Φ i (if o.dst.isSome then v else f) w' (if i=k then some (if o.dst.isSome then v else f) else x)/\(i=k->U w (if o.dst.isSome then v else f) w')) Q else i≠k/\Φ i f w x/\E i w w x)
 (p:∀(a:Act) (w:b),a.tmps.size=e.tmps.size->a.defers=e.defers->J w ((ops[k]?).map (M4 a.tmps))->(∀t,zmc ops t=false->a.tmps[t]? =e.tmps[t]?)->
   (∀d j,ops[d]? =some j->Φ d (M4 a.tmps j) w ((ops[k]?).map (M4 a.tmps)))->Q .normal a w):
 (Code.region id ops true).wp P Q e s:=by
 refine wp_region_any q (zz1395 hPs hst r hg y p _ _ _ _ (by simp) (by simp[zuu]) ⟨rfl,rfl,?_,fun i _=>hP0 i,fun _ _=>rfl,fun d j z l=> ?_⟩)
 ·have h:zmf ops k (Array.replicate ops.size false) e.tmps=none:=(by unfold zmf;rw[if_neg];rw[Array.getElem?_replicate];split<;>simp);rw[h];exact hJ0
 ·rw[Array.getElem?_replicate] at l;split at l<;>cases l
end
abbrev U2 (g:Nat):c:= .pointer (some ⟨g,0,none⟩)
def NX (n0:Nat) (w:b) (x:Option c) (a:Nat):Prop:=n0<=a/\a<w.heap.size/\∀g,x=some (U2 g)->a≠g
def znx (n0:Nat) (s w:b) (x:Option c):Prop:=Below n0 s w/\n0<=w.heap.size/\∀g,x=some (U2 g)->n0<=g/\g<w.heap.size
def zqr (w:b) (a:c) (w':b):Prop:=a=U2 w.heap.size
section
variable {K : Type} {R : b → (Nat → Prop) → c → K → Prop} (I : Stb R) {n0 : Nat} {w w' : b} {x : Option c} {v : c} {y : K}
include I
theorem zqb (h:R w (NX n0 w x) v y) (b:Below w.heap.size w w'):R w' (NX n0 w' x) v y:=I.to h fun c a=>⟨⟨a.1,Nat.lt_of_lt_of_le a.2.1 b.size,a.2.2⟩,fun o=>b.cell (p:=⟨c,o,none⟩) a.2.1⟩
theorem zst (h:R w (NX n0 w none) v y) (b:Below w.heap.size w w'):R w' (NX n0 w' (some (U2 w.heap.size))) v y:=I.to h fun c a=>⟨⟨a.1,Nat.lt_of_lt_of_le a.2.1 b.size,fun g d hg=>by cases d;have:=a.2.1;omega⟩,fun o=>b.cell (p:=⟨c,o,none⟩) a.2.1⟩
theorem zrg (h:R w' (F6 w.heap.size w') v y) (c:n0<=w.heap.size) (d:∀g,x=some (U2 g)->n0<=g/\g<w.heap.size):R w' (NX n0 w' x) v y:=I.to h (E0 fun e a=>⟨Nat.le_trans c a.1,a.2,fun g b hg=>by have:=(d g b).2;have:=a.1;omega⟩)
end
section
variable {P : Program} {o : Oper} {a : Act} {w s : b} {Φ : Nat → c → b → Option c → Prop} {Q : Exit → Act → b → Prop} {n0 i k n : Nat} {x : Option c}
end
abbrev put8 (r:b) (g:Nat) (e d j l m p q a:c):b:=(((((((r.setCell ⟨g,0,none⟩ e).setCell ⟨g,1,none⟩ d).setCell ⟨g,2,none⟩ j).setCell ⟨g,3,none⟩ l).setCell ⟨g,4,none⟩ m).setCell ⟨g,5,none⟩ p).setCell ⟨g,6,none⟩ q).setCell ⟨g,7,none⟩ a
theorem Row.put8 {b:c} (h:Row r g t [A,B,C,D,F,G,H,b]) (e d j l m p q a:c):Row (Go.Proofs.YtdgilbgdkmhcmaaGreatDoor.put8 r g e d j l m p q a) g t [e,d,j,l,m,p,q,a]:=(((((((h.set_ 0 e).set_ 1 d).set_ 2 j).set_ 3 l).set_ 4 m).set_ 5 p).set_ 6 q).set_ 7 a
theorem zvc (r:b) (g:Nat) (e d j l m p q a:c):r.grownBy (put8 r g e d j l m p q a) (some g):=J6 (J6 (J6 (J6 (J6 (J6 (J6 (I9 _ _ _ _) (I9 _ _ _ _)) (I9 _ _ _ _)) (I9 _ _ _ _)) (I9 _ _ _ _)) (I9 _ _ _ _)) (I9 _ _ _ _)) (I9 _ _ _ _)
theorem yce (r:b) (g:Nat) (e d j l m p q a:c):(put8 r g e d j l m p q a).heap.size=r.heap.size:=by simp[put8,World.setCell]
theorem yyo {e a:c} (h:Row r g t xs):∃b,Row (put8 r g e d j l m p q a) g t b/\b.length=xs.length:=⟨_,(((((((h.set_ 0 e).set_ 1 d).set_ 2 j).set_ 3 l).set_ 4 m).set_ 5 p).set_ 6 q).set_ 7 a,by simp⟩
theorem yag {w:b} (h:Row w g t xs):w.frozen? ⟨g,0,none⟩=false/\w.frozen? ⟨g,1,none⟩=false/\w.frozen? ⟨g,2,none⟩=false/\w.frozen? ⟨g,3,none⟩=false/\w.frozen? ⟨g,4,none⟩=false/\w.frozen? ⟨g,5,none⟩=false/\w.frozen? ⟨g,6,none⟩=false/\w.frozen? ⟨g,7,none⟩=false:=⟨h.frozen 0,h.frozen 1,h.frozen 2,h.frozen 3,h.frozen 4,h.frozen 5,h.frozen 6,h.frozen 7⟩
theorem ytu (h:xs.length=8):∃A B C D F G H a,xs=[A,B,C,D,F,G,H,a]:=by
 match xs,h with
 |[A,B,C,D,F,G,H,a],_=>exact⟨_,_,_,_,_,_,_,_,rfl⟩
def vE (n d:Nat) (w w':b) (x:Option c):Prop:=if d=n then∃g,x=some (U2 g)/\w.grownBy w' (some g)/\w'.heap.size=w.heap.size/\∀t xs,Row w g t xs->∃a,Row w' g t a/\a.length=xs.length else Below w.heap.size w w'
def vR (t:TypeId) (k:Nat) (v:c) (w:b) (x:Option c):Prop:=∃g xs,v=U2 g/\x=some v/\Row w g t xs/\xs.length=k
theorem zpj {K:Type} {R:b->(Nat->Prop)->c->K->Prop} (I:Stb R) {n0:Nat} {w w':b} {v:c} {y:K} (h:R w (NX n0 w (some (U2 g))) v y) (hg:w.grownBy w' (some g)) (f:w'.heap.size=w.heap.size):R w' (NX n0 w' (some (U2 g))) v y:=
 I.to h fun e a=>⟨⟨a.1,by rw[f];exact a.2.1,a.2.2⟩,fun o=>World.cell?_of_block (hg.block e a.2.1 fun d=>a.2.2 g rfl (by injection d with d))⟩
theorem ylh {k:Nat} {v:c} {w w':b} {x:Option c} (h:vR t k v w x) (e:Below w.heap.size w w'):vR t k v w' x:=by obtain⟨g,xs,a,d,i,f⟩:=h;exact⟨g,xs,a,d,i.next e,f⟩
theorem yli {k:Nat} {v:c} {w w':b} (h:vR t k v w (some (U2 g))) (hr:∀t xs,Row w g t xs->∃a,Row w' g t a/\a.length=xs.length):vR t k v w' (some (U2 g)):=by obtain⟨l,xs,rfl,d,j,i⟩:=h;cases d;obtain⟨a,e,f⟩:=hr _ _ j;exact⟨g,a,rfl,rfl,e,f.trans i⟩
section
variable {P : Program} {o : Oper} {a : Act} {w s : b} {Φ : Nat → c → b → Option c → Prop} {Q : Exit → Act → b → Prop} {n0 i k n : Nat} {x : Option c}
theorem X8 (j:i≠k) (p:i≠n) (hd:o.dst.isSome=true) (c:znx n0 s w x) (h:∀l:Act->b->Prop,(∀v w',Below w.heap.size w w'->Φ i v w' x->l (a.put o.dst v) w')->o.wp P a w l Q):
 o.wp P a w (fun m w'=>∃v,m=a.put o.dst v/\vE n i w w' x/\znx n0 s w' (if i=k then some (if o.dst.isSome then v else f) else x)/\Φ i (if o.dst.isSome then v else f) w' (if i=k then some (if o.dst.isSome then v else f) else x)/\(i=k->zqr w (if o.dst.isSome then v else f) w')) Q:=by
 refine h _ fun v w' e hv=>⟨v,rfl,?_,?_,?_,fun d=>absurd d j⟩
 ·unfold vE;rw[if_neg p];exact e
 ·rw[if_neg j];exact⟨c.1.trans (e.mono c.2.1),Nat.le_trans c.2.1 e.size,fun g d=>⟨(c.2.2 g d).1,Nat.lt_of_lt_of_le (c.2.2 g d).2 e.size⟩⟩
 ·rw[if_neg j,if_pos hd];exact hv
theorem ych {ob:Obj} (l:k≠n) (hd:o.dst.isSome=true) (c:znx n0 s w x) (p:x=none) (m:Φ k (U2 w.heap.size) (w.alloc ob) (some (U2 w.heap.size)))
 (h:∀e:Act->b->Prop,e (a.put o.dst (U2 w.heap.size)) (w.alloc ob)->o.wp P a w e Q):
 o.wp P a w (fun j w'=>∃v,j=a.put o.dst v/\vE n k w w' x/\znx n0 s w' (if k=k then some (if o.dst.isSome then v else f) else x)/\Φ k (if o.dst.isSome then v else f) w' (if k=k then some (if o.dst.isSome then v else f) else x)/\(k=k->zqr w (if o.dst.isSome then v else f) w')) Q:=by
 have d:=N8 w ob;refine h _ ⟨U2 w.heap.size,rfl,?_,?_,?_,fun i=> ?_⟩
 ·unfold vE;rw[if_neg l];exact d
 ·rw[if_pos rfl,if_pos hd];exact⟨c.1.trans (d.mono c.2.1),Nat.le_trans c.2.1 d.size,fun g i=>by cases i;exact⟨c.2.1,by rw[World.size_alloc];omega⟩⟩
 ·rw[if_pos rfl,if_pos hd];exact m
 ·rw[if_pos hd];rfl
theorem yci (e:n≠k) (hd:o.dst.isSome=false) (d:znx n0 s w x) {w':b} (l:x=some (U2 g)) (hg:w.grownBy w' (some g)) (i:w'.heap.size=w.heap.size) (hr:∀t xs,Row w g t xs->∃m,Row w' g t m/\m.length=xs.length) (r:Φ n f w' x)
 (h:∀j:Act->b->Prop,j (a.put o.dst f) w'->o.wp P a w j Q):
 o.wp P a w (fun p w'=>∃v,p=a.put o.dst v/\vE n n w w' x/\znx n0 s w' (if n=k then some (if o.dst.isSome then v else f) else x)/\Φ n (if o.dst.isSome then v else f) w' (if n=k then some (if o.dst.isSome then v else f) else x)/\(n=k->zqr w (if o.dst.isSome then v else f) w')) Q:=by
 refine h _ ⟨f,rfl,?_,?_,?_,fun c=>absurd c e⟩
 ·unfold vE;rw[if_pos rfl];exact⟨g,l,hg,i,hr⟩
 ·rw[if_neg e];exact⟨d.1.grown hg d.2.1 fun u c=>by cases c;exact(d.2.2 g l).1,by rw[i];exact d.2.1,fun q c=>by rw[i];exact d.2.2 q c⟩
 ·rw[if_neg e,if_neg (by rw[hd];simp)];exact r
end
def IsD8 (w:b) (e:Nat->Prop) (v:c) (a:ProgQ):Prop:=∃d f j g l h q m n i p o k,v= .agg #[.slice none 0 0,.slice none 0 0,.slice d (F9 a.A).length f,.slice j (C0 a.B).length g,.slice l (C0 a.C).length h,.bool q,.slice m n i,.slice p o k]/\
 IsM w e (.slice d (F9 a.A).length f) (F9 a.A)/\IsV w e (.slice j (C0 a.B).length g) (C0 a.B)/\IsV w e (.slice l (C0 a.C).length h) (C0 a.C)/\IsQ w e (.agg #[.bool q,.slice m n i,.slice p o k]) 0
theorem IsD8.stb:Stb IsD8:=by rintro w w' s T v t ⟨d,g,j,h,l,i,r,m,o,k,p,q,n,rfl,b,c,e,f⟩ a;exact⟨d,g,j,h,l,i,r,m,o,k,p,q,n,rfl,IsM.stb.to b a,IsV.stb.to c a,IsV.stb.to e a,IsQ.stb.to f a⟩
def zle (P:Nat) (A B C:Option Addr) (p n q r s:Nat) (a:ProgQ) (n0:Nat) (i:Nat) (v:c) (w:b) (x:Option c):Prop:=
 match i with
 |0=>v= .pointer (some ⟨P,0,none⟩)
 |1=>v= .slice A p q
 |2=>IsM w (NX n0 w x) v (F9 a.A)
 |3=>v= .pointer (some ⟨P,1,none⟩)
 |4=>v= .slice B p r
 |5=>IsV w (NX n0 w x) v (C0 a.B)
 |6=>v= .pointer (some ⟨P,2,none⟩)
 |7=>v= .slice C n s
 |8=>IsV w (NX n0 w x) v (C0 a.C)
 |9=>IsQ w (NX n0 w x) v 0
 |10=>IsD8 w (NX n0 w x) v a
 |11=>vR 59 8 v w x
 |12=>∃g d e h j k l m o,x=some (U2 g)/\Row w g 59 [d,e,h,j,k,l,m,o]/\IsD8 w (NX n0 w (x)) (.agg #[d,e,h,j,k,l,m,o]) a
 |_=>True
theorem ywf (P:Nat) (A B C:Option Addr) (o n k l m:Nat) (p:ProgQ) (n0:Nat):∀(i j:Nat) (v:c) (w w':b) (x:Option c),i≠j->zle P A B C o n k l m p n0 i v w x->vE 12 j w w' x->zle P A B C o n k l m p n0 i v w' x:=by
 intro i j v w w' x e h a;unfold vE at a;split at a
 ·rename_i H;subst H;obtain⟨g,rfl,hg,d,hr⟩:=a;match i,e,h with
  |0,_,h=>exact h
  |1,_,h=>exact h
  |2,_,h=>exact zpj IsM.stb h hg d
  |3,_,h=>exact h
  |4,_,h=>exact h
  |5,_,h=>exact zpj IsV.stb h hg d
  |6,_,h=>exact h
  |7,_,h=>exact h
  |8,_,h=>exact zpj IsV.stb h hg d
  |9,_,h=>exact zpj IsQ.stb h hg d
  |10,_,h=>exact zpj IsD8.stb h hg d
  |11,_,h=>exact yli h hr
  |12,e,_=>exact absurd rfl e
  |_+13,_,_=>trivial
 ·match i,h with
  |0,h=>exact h
  |1,h=>exact h
  |2,h=>exact zqb IsM.stb h a
  |3,h=>exact h
  |4,h=>exact h
  |5,h=>exact zqb IsV.stb h a
  |6,h=>exact h
  |7,h=>exact h
  |8,h=>exact zqb IsV.stb h a
  |9,h=>exact zqb IsQ.stb h a
  |10,h=>exact zqb IsD8.stb h a
  |11,h=>exact ylh h a
  |12,h=>obtain⟨g,r,s,t,u,y,D,E,F,G,I,q⟩:=h;exact⟨g,r,s,t,u,y,D,E,F,G,I.next a,zqb IsD8.stb q a⟩
  |_+13,_=>trivial
theorem ywe (P:Nat) (A B C:Option Addr) (m n j k l:Nat) (o:ProgQ) (n0:Nat):∀(i:Nat) (v:c) (w w':b) (d:c),i≠11->zle P A B C m n j k l o n0 i v w none->vE 12 11 w w' none->zqr w d w'->zle P A B C m n j k l o n0 i v w' (some d):=by
 intro i v w w' d e h a q;unfold vE at a;rw[if_neg og] at a;obtain rfl:d=U2 w.heap.size:=q;match i,e,h with
 |0,_,h=>exact h
 |1,_,h=>exact h
 |2,_,h=>exact zst IsM.stb h a
 |3,_,h=>exact h
 |4,_,h=>exact h
 |5,_,h=>exact zst IsV.stb h a
 |6,_,h=>exact h
 |7,_,h=>exact h
 |8,_,h=>exact zst IsV.stb h a
 |9,_,h=>exact zst IsQ.stb h a
 |10,_,h=>exact zst IsD8.stb h a
 |11,e,_=>exact absurd rfl e
 |12,_,h=>obtain⟨g,r,s,t,u,x,y,D,E,p,_⟩:=h;cases p
 |_+13,_,_=>trivial
theorem yjf {e:c} (h:Row r g t xs):∃a,Row (pt7 r g e d j l m p q) g t a/\a.length=xs.length:=⟨_,((((((h.set_ 0 e).set_ 1 d).set_ 2 j).set_ 3 l).set_ 4 m).set_ 5 p).set_ 6 q,by simp⟩
theorem yhg (h:xs.length=7):∃A B C D F G H,xs=[A,B,C,D,F,G,H]:=by
 match xs,h with
 |[A,B,C,D,F,G,H],_=>exact⟨_,_,_,_,_,_,_,rfl⟩
theorem yja {fn:Func} {slot t:Tmp} {tmps:Array c} {w:b} (hr:fn.results= #[.cell slot 39,.tmp t]) (ha:tmps.getD slot f= .pointer (some ⟨g,0,none⟩))
 (h:Row w g 39 [A,B,C,D,F,G,H]):(results fn tmps).run Tryz.prog w= .ok (.tuple #[.agg #[A,B,C,D,F,G,H],tmps.getD t f]) w:=by obtain⟨a,d,e,i,j,k,l⟩:=U8 h;have m:tmps[slot]?.getD f= .pointer (some ⟨g,0,none⟩):=(by simpa using ha);simp[results,hr,m,asAddr,go_sem,a,d,e,i,j,k,l]
def Y0 (g:Nat) (row st:Int) (m n:Nat) (s:Sol) (n0:Nat) (i:Nat) (v:c) (w:b) (x:Option c):Prop:=
 match i with
 |0=>v= .pointer (some ⟨g,0,none⟩)
 |1=>v= .int .i64 row
 |2=>IsMk w (NX n0 w x) v ((g,row),(m,n))
 |3=>v= .pointer (some ⟨g,0,none⟩)
 |4=>v= .pointer (some ⟨g,0,none⟩)
 |5=>v= .pointer (some ⟨g,11,none⟩)
 |6=>v= .int .i64 st
 |7=>IsSol w (NX n0 w x) v s
 |8=>vR 39 7 v w x
 |9=>∃g a d e h j k l,x=some (U2 g)/\Row w g 39 [a,d,e,h,j,k,l]/\IsSol w (NX n0 w (x)) (.agg #[a,d,e,h,j,k,l]) s
 |_=>True
theorem yij (g:Nat) (row st:Int) (k n:Nat) (s:Sol) (n0:Nat):∀(i e:Nat) (v:c) (w w':b) (x:Option c),i≠e->Y0 g row st k n s n0 i v w x->vE 9 e w w' x->Y0 g row st k n s n0 i v w' x:=by
 intro i e v w w' x d h a;unfold vE at a;split at a
 ·rename_i A;subst A;obtain⟨g,rfl,hg,j,hr⟩:=a;match i,d,h with
  |0,_,h=>exact h
  |1,_,h=>exact h
  |2,_,h=>exact zpj IsMk.stb h hg j
  |3,_,h=>exact h
  |4,_,h=>exact h
  |5,_,h=>exact h
  |6,_,h=>exact h
  |7,_,h=>exact zpj IsSol.stb h hg j
  |8,_,h=>exact yli h hr
  |9,d,_=>exact absurd rfl d
  |_+10,_,_=>trivial
 ·match i,h with
  |0,h=>exact h
  |1,h=>exact h
  |2,h=>exact zqb IsMk.stb h a
  |3,h=>exact h
  |4,h=>exact h
  |5,h=>exact h
  |6,h=>exact h
  |7,h=>exact zqb IsSol.stb h a
  |8,h=>exact ylh h a
  |9,h=>obtain⟨g,l,m,o,p,r,t,u,y,B,q⟩:=h;exact⟨g,l,m,o,p,r,t,u,y,B.next a,zqb IsSol.stb q a⟩
  |_+10,_=>trivial
theorem yii (g:Nat) (row st:Int) (j n:Nat) (s:Sol) (n0:Nat):∀(i:Nat) (v:c) (w w':b) (d:c),i≠8->Y0 g row st j n s n0 i v w none->vE 9 8 w w' none->zqr w d w'->Y0 g row st j n s n0 i v w' (some d):=by
 intro i v w w' d e h a l;unfold vE at a;rw[if_neg og] at a;obtain rfl:d=U2 w.heap.size:=l;match i,e,h with
 |0,_,h=>exact h
 |1,_,h=>exact h
 |2,_,h=>exact zst IsMk.stb h a
 |3,_,h=>exact h
 |4,_,h=>exact h
 |5,_,h=>exact h
 |6,_,h=>exact h
 |7,_,h=>exact zst IsSol.stb h a
 |8,e,_=>exact absurd rfl e
 |9,_,h=>obtain⟨g,m,o,p,q,r,t,u,k,_⟩:=h;cases k
 |_+10,_,_=>trivial
end Go.Proofs.YtdgilbgdkmhcmaaGreatDoor
