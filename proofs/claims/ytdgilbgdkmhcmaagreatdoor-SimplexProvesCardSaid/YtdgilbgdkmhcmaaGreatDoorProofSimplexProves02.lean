/-
 A region c draws b order,d g but a last make memory and write none c i there,and d last one waits for all others:whatever a order,a last one comes where each slot holds j b f h of e.
-/
import Derived.Test.YtdgilbgdkmhcmaaGreatDoorProofSimplexProves01
import Derived.StillTail
namespace Go.Proofs.YtdgilbgdkmhcmaaGreatDoor
open Go.RowKit
set_option linter.unusedVariables false
set_option maxRecDepth 100000
set_option maxHeartbeats 8000000
open _root_.Nat renaming le_refl → G, le_trans → H, lt_of_lt_of_le → F, lt_or_ge → B
open _root_.Go.World renaming cell?_of_block → d
open _root_.Array renaming getElem?_eq_getElem → u, getD_eq_getD_getElem? → z
open _root_.Bool renaming and_eq_true → x
open _root_.Option renaming getD_some → D
open _root_.Go renaming World → e, Value → p, Program → C, undef → k, Oper → s
variable {S : Nat → Prop} {T : Array p} {b base c g i id j lo m : Nat} {f : Nat → Int} {lit : Array s} {o l : s} {r : Option Nat} {a : Nat → Nat} {t : TypeId} {v : p} {want : Bool} {xs : List p}
def zsl (ops:Array s) (n m:Nat):Bool:=
 decide (ops.size=n+1)&&(ops[n]?).any (fun o=>o.guard.isNone&&(M7 o).all fun j=>decide (j<n))&&(List.range n).all fun i=>(ops[i]?).any fun o=>
  (o.dst.any fun d=>decide (d<m)&&(List.range n).all fun j=>decide (j=i)|| !((ops[j]?).any fun l=>l.dst==some d))&&((M7 o).all fun j=>decide (j<i))&&
   (List.range (n+1)).any fun a=>decide (i<a)&&(ops[a]?).any fun ok=>(M7 ok).contains i
def zrl (ops:Array s) (n:Nat) (t:Nat):Bool:=(List.range n).any fun i=>(ops[i]?).any fun o=>o.dst==some t
section
variable {P : C} {ops : Array s} {Q : Exit → Act → e → Prop} {Φ : Nat → p → e → Prop} {q : Act} {y : e} {n : Nat}
theorem zxh (h:zsl ops n m=true) (w:i<n) (v:ops[i]? =some o):
 ∃d,o.dst=some d/\d<m/\(∀j l,j<n->ops[j]? =some l->l.dst=some d->j=i)/\(∀j∈M7 o,j<i)/\∃c ok,i<c/\c<=n/\ops[c]? =some ok/\i∈M7 ok:=by
 unfold zsl at h;rw[x,x] at h;have g:=List.all_eq_true.1 h.2 i (List.mem_range.2 w);rw[v] at g;simp only[Option.any_some,x] at g;obtain⟨⟨a,t⟩,f⟩:=g;cases hd:o.dst with
 |none=>rw[hd] at a;simp at a
 |some d=>
  rw[hd] at a;simp only[Option.any_some,x,decide_eq_true_eq] at a;refine⟨d,rfl,a.1,fun j l y q E=> ?_,fun j q=>by simpa using List.all_eq_true.1 t j q,?_⟩
  ·have f:=List.all_eq_true.1 a.2 j (List.mem_range.2 y);rw[q] at f;simp only[Option.any_some,E,beq_self_eq_true,Bool.not_true,Bool.or_false,decide_eq_true_eq] at f;exact f
  ·obtain⟨c,A,b⟩:=List.any_eq_true.1 f;rw[x,decide_eq_true_eq] at b;cases r:ops[c]? with
   |none=>rw[r] at b;simp at b
   |some ok=>rw[r] at b;exact⟨c,ok,b.1,Nat.lt_succ_iff.1 (List.mem_range.1 A),r,by simpa using b.2⟩
theorem yao (h:zsl ops n m=true):ops.size=n+1/\∃o,ops[n]? =some o/\o.guard=none/\∀j∈M7 o,j<n:=by
 unfold zsl at h;rw[x,x,decide_eq_true_eq] at h;refine⟨h.1.1,?_⟩;cases a:ops[n]? with
 |none=>have:=h.1.2;rw[a] at this;simp at this
 |some o=>have:=h.1.2;rw[a] at this;simp only[Option.any_some,x,Option.isNone_iff_eq_none] at this;exact⟨o,rfl,this.1,fun j b=>by simpa using List.all_eq_true.1 this.2 j b⟩
structure GrowInvS (ops:Array s) (n:Nat) (Φ:Nat->p->e->Prop) (q:Act) (y:e) (listed:Array Bool) (a:Act) (w:e):Prop where
 size:a.tmps.size=q.tmps.size
 defers:a.defers=q.defers
 below:Below y.heap.size y w
 free:∀t,zrl ops n t=false->a.tmps[t]? =q.tmps[t]?
 holds:∀j l d,j<n->ops[j]? =some l->listed[j]? =some true->l.dst=some d->Φ j (a.tmps.getD d k) w
 down:∀(i:Nat) (o:s),ops[i]? =some o->listed[i]? =some true->∀j∈M7 o,listed[j]? =some true
 last:listed[n]? =some false
theorem ymk {listed:Array Bool} (hg:zsl ops n m=true) (q:∀o,ops[n]? =some o->∀j∈M7 o,listed[j]? =some true) (l:∀(i:Nat) (o:s),ops[i]? =some o->listed[i]? =some true->∀j∈M7 o,listed[j]? =some true):
 ∀j,j<n->listed[j]? =some true:=by
 have key:∀a j,n-a<=j->j<n->listed[j]? =some true:=by
  intro a;induction a with
  |zero=>intro j k b;omega
  |succ a ih=>
   intro j k b;rcases B j (n-a) with h|h
   ·obtain⟨w,_⟩:=yao hg;have r:j<ops.size:=og;obtain⟨d,_,_,_,_,i,g,v,t,f,e⟩:=zxh hg b (u r);rcases B i n with c|c
    ·exact l i g f (ih i og c) j e
    ·obtain rfl:i=n:=og;exact q g f j e
   ·exact ih j h b
 exact fun j p=>key n j og p
theorem zz1394 (hst:∀i v w w',Φ i v w->Below w.heap.size w w'->Φ i v w') (hg:zsl ops n q.tmps.size=true)
 (aC:∀i o,i<n->ops[i]? =some o->∀(a:Act) (w:e),a.tmps.size=q.tmps.size->a.defers=q.defers->Below y.heap.size y w->(∀t,zrl ops n t=false->a.tmps[t]? =q.tmps[t]?)->
   (∀j l d,j∈M7 o->ops[j]? =some l->l.dst=some d->Φ j (a.tmps.getD d k) w)->
   if Region.wanted o (yielded ops a.tmps)=true then o.wp P a w (fun N w'=>∃v,N=a.put o.dst v/\Below w.heap.size w w'/\Φ i v w') Q else Φ i k w)
 (aq:∀o,ops[n]? =some o->∀(a:Act) (w:e),a.tmps.size=q.tmps.size->a.defers=q.defers->Below y.heap.size y w->(∀t,zrl ops n t=false->a.tmps[t]? =q.tmps[t]?)->
   (∀j l d,j<n->ops[j]? =some l->l.dst=some d->Φ j (a.tmps.getD d k) w)->o.wp P a w (fun N w'=>Q .normal N w') Q):
 ∀(m:Nat) (listed:Array Bool) (a:Act) (w:e),listed.size=ops.size->zke listed.toList<=m->GrowInvS ops n Φ q y listed a w->wpAny P .any ops Q m listed a w:=by
 obtain⟨aG,aE,af,ar,az⟩:=yao hg
 have stuck:∀(listed:Array Bool) (a:Act) (w:e),listed.size=ops.size->Region.ready .any ops listed=[]->GrowInvS ops n Φ q y listed a w->False:=by
  intro listed a w K hr inv
  have all:∀I i,i<I->i<n->listed[i]? =some true:=by
   intro I;induction I with
   |zero=>intro i f;omega
   |succ I ih=>
    intro i f E;rcases B i I with h|h
    ·exact ih i h E
    ·obtain rfl:i=I:=og;have hlo:i<ops.size:=og;have r:i<listed.size:=og;cases W:listed[i] with
     |true=>rw[u r,W]
     |false=>
      exfalso
      have b:i∈Region.ready .any ops listed:=by
       unfold Region.ready;refine List.mem_filter.2 ⟨List.mem_range.2 hlo,?_⟩;have f:ops[i]? =some ops[i]:=u hlo;obtain⟨d,hd,_,_,ay,_⟩:=zxh hg E f;rw[f];simp only[Option.map_some,D,x,Bool.not_eq_true'];refine⟨by simp[z,u r,W],Array.all_eq_true'.2 fun g ad=> ?_⟩;cases ac:Region.binds .any g with
       |false=>rfl
       |true=>have c:=ay g.on (List.mem_map.2 ⟨g,List.mem_filter.2 ⟨by simpa using ad,ac⟩,rfl⟩);have:=ih g.on c og;simp[z,this]
      rw[hr] at b;cases b
  have b:n∈Region.ready .any ops listed:=by
   unfold Region.ready;refine List.mem_filter.2 ⟨List.mem_range.2 og,?_⟩;rw[af];simp only[Option.map_some,D,x,Bool.not_eq_true'];refine⟨by rw[z,inv.last];rfl,Array.all_eq_true'.2 fun g ad=> ?_⟩;cases ac:Region.binds .any g with
   |false=>rfl
   |true=>have c:=az g.on (List.mem_map.2 ⟨g,List.mem_filter.2 ⟨by simpa using ad,ac⟩,rfl⟩);have:=all (g.on+1) g.on og c;simp[z,this]
  rw[hr] at b;cases b
 have ended:∀(m:Nat) (listed:Array Bool) (a:Act) (w:e),listed.size=ops.size->(∀j,j<ops.size->listed[j]? =some true)->Q .normal a w->wpAny P .any ops Q m listed a w:=by
  intro m listed a w K V U
  have hr:Region.ready .any ops listed=[]:=by
   cases hr:Region.ready .any ops listed with
   |nil=>rfl
   |cons i aD=>exfalso;have b:i∈Region.ready .any ops listed:=(by rw[hr];simp);have E:i<ops.size:=(by unfold Region.ready at b;exact List.mem_range.1 (List.mem_filter.1 b).1);have O:=(zri (u E) b).1;simp[z,V i E] at O
  cases m with
  |zero=>exact⟨hr,U⟩
  |succ m=>exact⟨fun _=>U,fun i b=>by rw[hr] at b;cases b⟩
 intro m;induction m with
 |zero=>
  intro listed a w K hc inv
  have hr:Region.ready .any ops listed=[]:=by
   cases hr:Region.ready .any ops listed with
   |nil=>rfl
   |cons i aD=>exfalso;have b:i∈Region.ready .any ops listed:=(by rw[hr];simp);have E:i<ops.size:=(by unfold Region.ready at b;exact List.mem_range.1 (List.mem_filter.1 b).1);have O:=(zri (u E) b).1;have r:i<listed.size:=og;have aa:=zuw (l:=listed.toList) (i:=i) (b:=listed[i]) og (by simp[r]);simp[z,u r,aa] at O
  exact(stuck listed a w K hr inv).elim
 |succ m ih=>
  intro listed a w K hc inv;refine⟨fun hr=>(stuck listed a w K hr inv).elim,fun i b=> ?_⟩;have E:i<ops.size:=(by unfold Region.ready at b;exact List.mem_range.1 (List.mem_filter.1 b).1);have f:ops[i]? =some ops[i]:=u E;obtain⟨O,aa⟩:=zri f b;have r:i<listed.size:=og;have W:listed[i]=false:=by simpa[z,u r] using O
  have ah:∀j∈M7 ops[i],listed[j]? =some true:=by
   intro j c;have ab:=aa j c;rcases B j listed.size with Y|Y
   ·rw[u Y];simp only[z,u Y,D] at ab;rw[ab]
   ·simp[z,Array.getElem?_eq_none Y] at ab
  rcases B i n with R|R
  ·obtain⟨d,hd,an,ao,_,_⟩:=zxh hg R f;have M:=aC i ops[i] R f a w inv.size inv.defers inv.below inv.free fun j l L c ag J=>inv.holds j l L (by have:=zxh hg R f;obtain⟨_,_,_,_,al,_⟩:=this;have:=al j c;omega) ag (ah j c) J
   have next:∀(v:p) (w':e),Below w.heap.size w w'->Φ i v w'->wpAny P .any ops Q m (listed.setIfInBounds i true) (a.put ops[i].dst v) w':=by
    intro v w' X hv;rw[hd];refine ih _ _ _ (by simp[K]) ?_ ⟨by rw[zyh];exact inv.size,inv.defers,inv.below.trans (X.mono inv.below.size),fun t Z=> ?_,fun j l L S c av J=> ?_,fun I o ae aj j c=> ?_,?_⟩
    ·have:=zuv (l:=listed.toList) (i:=i) (by simp[r,W]);simp only[Array.toList_setIfInBounds];omega
    ·rw[zty _ _ (by rintro rfl;unfold zrl at Z;rw[List.any_eq_false] at Z;have:=Z i (List.mem_range.2 R);rw[f] at this;simp[hd] at this)];exact inv.free t Z
    ·by_cases A:j=i
     ·subst A;rw[f] at c;cases c;rw[hd] at J;cases J;rw[zyg _ _ (by rw[inv.size];exact an)];exact hv
     ·have aA:L≠d:=fun g=>A (ao j l S c (by rw[J,g]));rw[zxe (zty a v aA)];refine hst _ _ _ _ (inv.holds j l L S c ?_ J) X;rwa[Array.getElem?_setIfInBounds_ne (Ne.symm A)] at av
    ·have au:listed[j]? =some true:=by
      by_cases ai:I=i
      ·subst ai;rw[f] at ae;cases ae;exact ah j c
      ·rw[Array.getElem?_setIfInBounds_ne (Ne.symm ai)] at aj;exact inv.down I o ae aj j c
     by_cases A:j=i
     ·subst A;rw[Array.getElem?_setIfInBounds_self_of_lt r]
     ·rw[Array.getElem?_setIfInBounds_ne (Ne.symm A)];exact au
    ·rw[Array.getElem?_setIfInBounds_ne og];exact inv.last
   unfold wpOp;rw[f];simp only;split
   ·rename_i T;rw[if_pos T] at M;exact .inl (Oper.wp_mono (fun N w' ⟨v,ha,X,hv⟩=>by rw[ha];exact next v w' X hv) M)
   ·rename_i T;rw[if_neg T] at M;exact next k w (Below.refl _ _) M
  ·obtain rfl:i=n:=og;have aB:ops[i]=aE:=(by rw[f] at af;exact Option.some.inj af);have V:=ymk hg (fun o ak j c=>by rw[f] at ak;cases ak;exact ah j c) inv.down;have M:=aq ops[i] f a w inv.size inv.defers inv.below inv.free fun j l L S ag J=>inv.holds j l L S ag (V j S) J;unfold wpOp;rw[f];simp only;have T:Region.wanted ops[i] (yielded ops a.tmps)=true:=(by rw[aB];unfold Region.wanted;rw[ar]);rw[if_pos T];refine .inl (Oper.wp_mono (fun N w' U=>ended _ _ _ _ (by simp[K]) (fun j c=> ?_) U) M);by_cases A:j=i
   ·subst A;rw[Array.getElem?_setIfInBounds_self_of_lt r]
   ·rw[Array.getElem?_setIfInBounds_ne (Ne.symm A)];exact V j og
theorem zz1401 (n:Nat) (Φ:Nat->p->e->Prop) (h:P.follows .mixedOrders=true) (hst:∀i v w w',Φ i v w->Below w.heap.size w w'->Φ i v w') (hg:zsl ops n q.tmps.size=true)
 (m:∀i o,i<n->ops[i]? =some o->∀(a:Act) (w:e),a.tmps.size=q.tmps.size->a.defers=q.defers->Below y.heap.size y w->(∀t,zrl ops n t=false->a.tmps[t]? =q.tmps[t]?)->
   (∀j l d,j∈M7 o->ops[j]? =some l->l.dst=some d->Φ j (a.tmps.getD d k) w)->
   if Region.wanted o (yielded ops a.tmps)=true then o.wp P a w (fun b w'=>∃v,b=a.put o.dst v/\Below w.heap.size w w'/\Φ i v w') Q else Φ i k w)
 (g:∀o,ops[n]? =some o->∀(a:Act) (w:e),a.tmps.size=q.tmps.size->a.defers=q.defers->Below y.heap.size y w->(∀t,zrl ops n t=false->a.tmps[t]? =q.tmps[t]?)->
   (∀j l d,j<n->ops[j]? =some l->l.dst=some d->Φ j (a.tmps.getD d k) w)->o.wp P a w (fun b w'=>Q .normal b w') Q):
 (Code.region id ops true).wp P Q q y:=by
 have x:=(yao hg).1;refine wp_region_any h (zz1394 hst hg m g _ _ _ _ (by simp) (by simp[zuu]) ⟨rfl,rfl,⟨rfl,rfl,rfl,G _,fun _ _=>rfl⟩,fun _ _=>rfl,fun j l d u s f hd=> ?_,fun i o r c=> ?_,?_⟩)
 ·rw[Array.getElem?_replicate] at f;split at f<;>cases f
 ·rw[Array.getElem?_replicate] at c;split at c<;>cases c
 ·rw[Array.getElem?_replicate,if_pos og]
end
theorem I8 {t:Nat} (h:t<T.size) (hv:T.getD t k=v):T[t]? =some v:=by rw[u h];simp only[z,u h,D] at hv;rw[hv]
theorem L6 {t:Nat} (h:t<T.size):∃v,T[t]? =some v/\T.getD t k=v:=⟨_,I8 h rfl,rfl⟩
theorem yrv {ops:Array s} {d:Nat} {A B:Prop} (hg:o.guard=some (j,want)) (b:ops[j]? =some l) (hd:l.dst=some d) (a:T[d]? =some (.bool want)) (h:A):
 if Region.wanted o (yielded ops T)=true then A else B:=by rw[if_pos (by simp[Region.wanted,yielded,hg,b,hd,a])];exact h
theorem yrt {ops:Array s} {d:Nat} {b:Bool} {A B:Prop} (hg:o.guard=some (j,want)) (c:ops[j]? =some l) (hd:l.dst=some d) (a:T[d]? =some (.bool b)) (e:b≠want) (h:B):
 if Region.wanted o (yielded ops T)=true then A else B:=by rw[if_neg (by simp[Region.wanted,yielded,hg,c,hd,a];exact e)];exact h
theorem F0 {ops:Array s} {A B:Prop} (hg:o.guard=none) (h:A):
 if Region.wanted o (yielded ops T)=true then A else B:=by rw[if_pos (by simp[Region.wanted,hg])];exact h
theorem zof {P:C} {d:Bool} {Q:Exit->Act->e->Prop} {a:Act} {w:e} (h:∀ops,ops=lit->(Code.region id ops d).wp P Q a w):(Code.region id lit d).wp P Q a w:=h lit rfl
theorem C6 {ops:Array s} (h:ops=lit) (a:lit[j]? =some o):ops[j]? =some o:=by rw[h];exact a
theorem zyv {ops:Array s} (h:ops=lit) (t:Nat) (a:zmc lit t=false):zmc ops t=false:=by rw[h];exact a
theorem yzl {ops:Array s} {n:Nat} (h:ops=lit) (t:Nat) (a:zrl lit n t=false):zrl ops n t=false:=by rw[h];exact a
theorem C7 {a:Prop} [Decidable a] (h:decide a=true):a:=of_decide_eq_true h
theorem T8 {ops:Array s} {d:Nat} {C:Bool} {A B:Prop} (hg:o.guard=some (j,want)) (b:ops[j]? =some l) (hd:l.dst=some d) (c:T.getD d k= .bool C) (g:d<T.size)
 (f:C=want->T[d]? =some (.bool want)->A) (e:C= !want->B):if Region.wanted o (yielded ops T)=true then A else B:=by
 have a:=I8 g c;by_cases hc:C=want
 ·subst hc;exact yrv hg b hd a (f rfl a)
 ·exact yrt hg b hd a hc (e (by cases C<;>cases want<;>simp_all))
theorem J4 {P:C} {a:Act} {w:e} {Φ:p->e->Prop} {Q:Exit->Act->e->Prop} (h:∀b:Act->e->Prop,(∀v w',Below w.heap.size w w'->Φ v w'->b (a.put o.dst v) w')->o.wp P a w b Q):o.wp P a w (fun c w'=>∃v,c=a.put o.dst v/\Below w.heap.size w w'/\Φ v w') Q:=
 h _ fun v w' d hv=>⟨v,rfl,d,hv⟩
theorem yaz {P:C} {a:Act} {w:e} {Q:Exit->Act->e->Prop} (h:∀b:Act->e->Prop,(∀a w,Q .normal a w->b a w)->o.wp P a w b Q):o.wp P a w (fun c w'=>Q .normal c w') Q:=h _ fun _ _ h=>h
def M4 (T:Array p) (o:s):p:=match o.dst with|some d=>T.getD d k|none=>k
def zxg (ops:Array s) (n:Nat):Bool:=
 (List.range ops.size).all fun i=>(ops[i]?).any fun o=>
  (o.dst.all fun d=>decide (d<n)&&(List.range ops.size).all fun j=>decide (j=i)|| !((ops[j]?).any fun l=>l.dst==some d))&&(M7 o).all fun j=>decide (j<i)
section
variable {ops : Array s}
theorem ygc {n:Nat} (h:zxg ops n=true) (f:ops[i]? =some o):
 (∀d,o.dst=some d->d<n/\∀j l,ops[j]? =some l->l.dst=some d->j=i)/\∀j∈M7 o,j<i:=by unfold zxg at h;have m:i<ops.size:=(Array.getElem?_eq_some_iff.1 f).1;have c:=List.all_eq_true.1 h i (List.mem_range.2 m);rw[f] at c;simp only[Option.any_some,x] at c;obtain⟨a,g⟩:=c;refine⟨fun d hd=> ?_,fun j b=>by simpa using List.all_eq_true.1 g j b⟩;rw[hd] at a;simp only[Option.all_some,x,decide_eq_true_eq] at a;refine⟨a.1,fun j l b p=> ?_⟩;have k:j<ops.size:=(Array.getElem?_eq_some_iff.1 b).1;have e:=List.all_eq_true.1 a.2 j (List.mem_range.2 k);rw[b] at e;simp only[Option.any_some,p,beq_self_eq_true,Bool.not_true,Bool.or_false,decide_eq_true_eq] at e;exact e
end
def zpv (ops:Array s) (n m:Nat):Bool:=
 decide (n<ops.size)&&((List.range n).all fun i=>(ops[i]?).any fun o=>
  (o.dst.all fun d=>decide (d<m)&&(List.range n).all fun j=>decide (j=i)|| !((ops[j]?).any fun l=>l.dst==some d))&&((M7 o).all fun j=>decide (j<i))&&
   (List.range (n+1)).any fun a=>decide (i<a)&&(ops[a]?).any fun ok=>(M7 ok).contains i)&&
 (List.range ops.size).all fun a=>decide (a<=n)||(ops[a]?).any fun ok=>(M7 ok).contains n
def zov (ops:Array s) (n:Nat) (t:Nat):Bool:=(List.range n).any fun i=>(ops[i]?).any fun o=>o.dst==some t
theorem zsz {ops:Array s} {n:Nat} (h:ops=lit) (t:Nat) (a:zov lit n t=false):zov ops n t=false:=by rw[h];exact a
def zsj (n m:Nat):Array Bool:=Array.replicate n true++Array.replicate (m-n) false
def W7 (X:Nat->Option p) (i:Nat) (v:p):Nat->Option p:=fun j=>if j=i then some v else X j
theorem zrs {X:Nat->Option p} (h:j≠i):W7 X i v j=X j:=if_neg h
theorem zqm {X:Nat->Option p} {a:p} (h:X j=some a) (c:X i=none):W7 X i v j=some a:=by rw[zrs (fun b=>by rw[b,c] at h;cases h)];exact h
section
variable {P : C} {ops : Array s} {Q : Exit → Act → e → Prop} {Φ : Nat → p → e → (Nat → Option p) → Prop} {A : Nat → e → Prop} {J : e → Prop} {E : Nat → e → e → Prop} {q : Act} {y : e} {n : Nat}
theorem yap (h:zpv ops n m=true) (r:i<n) (q:ops[i]? =some o):
 (∀d,o.dst=some d->d<m/\∀j l,j<n->ops[j]? =some l->l.dst=some d->j=i)/\(∀j∈M7 o,j<i)/\∃b ok,i<b/\b<=n/\ops[b]? =some ok/\i∈M7 ok:=by
 unfold zpv at h;rw[x,x] at h;have f:=List.all_eq_true.1 h.1.2 i (List.mem_range.2 r);rw[q] at f;simp only[Option.any_some,x] at f;obtain⟨⟨e,p⟩,c⟩:=f;refine⟨fun d hd=> ?_,fun j g=>by simpa using List.all_eq_true.1 p j g,?_⟩
 ·rw[hd] at e;simp only[Option.all_some,x,decide_eq_true_eq] at e;refine⟨e.1,fun j l s g u=> ?_⟩;have c:=List.all_eq_true.1 e.2 j (List.mem_range.2 s);rw[g] at c;simp only[Option.any_some,u,beq_self_eq_true,Bool.not_true,Bool.or_false,decide_eq_true_eq] at c;exact c
 ·obtain⟨b,t,a⟩:=List.any_eq_true.1 c;rw[x,decide_eq_true_eq] at a;cases k:ops[b]? with
  |none=>rw[k] at a;simp at a
  |some ok=>rw[k] at a;exact⟨b,ok,a.1,Nat.lt_succ_iff.1 (List.mem_range.1 t),k,by simpa using a.2⟩
theorem yaq (h:zpv ops n m=true):n<ops.size:=by unfold zpv at h;rw[x,x,decide_eq_true_eq] at h;exact h.1.1
theorem yrx {b:Nat} (h:zpv ops n m=true) (d:n<b) (c:ops[b]? =some o):n∈M7 o:=by
 unfold zpv at h;rw[x] at h;have a:=List.all_eq_true.1 h.2 b (List.mem_range.2 (Array.getElem?_eq_some_iff.1 c).1);rw[c,Bool.or_eq_true,decide_eq_true_eq] at a;rcases a with a|a
 ·omega
 ·simpa using a
structure GrowInvZ (ops:Array s) (n:Nat) (Φ:Nat->p->e->(Nat->Option p)->Prop) (A:Nat->e->Prop) (J:e->Prop) (q:Act) (X:Nat->Option p) (listed:Array Bool) (a:Act) (w:e):Prop where
 size:a.tmps.size=q.tmps.size
 defers:a.defers=q.defers
 inv:J w
 pre:∀i,listed[i]? =some false->A i w
 free:∀t,zov ops n t=false->a.tmps[t]? =q.tmps[t]?
 holds:∀j l,j<n->ops[j]? =some l->listed[j]? =some true->Φ j (M4 a.tmps l) w X
 known:∀j l,ops[j]? =some l->X j=if listed[j]? =some true then some (M4 a.tmps l) else none
 down:∀(i:Nat) (o:s),ops[i]? =some o->listed[i]? =some true->∀j∈M7 o,listed[j]? =some true
 last:∀k,n<=k->k<ops.size->listed[k]? =some false
theorem yml {listed:Array Bool} (hg:zpv ops n m=true) (p:∀o,ops[n]? =some o->∀j∈M7 o,listed[j]? =some true) (k:∀(i:Nat) (o:s),ops[i]? =some o->listed[i]? =some true->∀j∈M7 o,listed[j]? =some true):
 ∀j,j<n->listed[j]? =some true:=by
 have key:∀a j,n-a<=j->j<n->listed[j]? =some true:=by
  intro a;induction a with
  |zero=>intro j g b;omega
  |succ a ih=>
   intro j g b;rcases B j (n-a) with h|h
   ·have v:=yaq hg;have q:j<ops.size:=og;obtain⟨_,_,i,f,t,r,e,d⟩:=yap hg b (u q);rcases B i n with c|c
    ·exact k i f e (ih i og c) j d
    ·obtain rfl:i=n:=og;exact p f e j d
   ·exact ih j h b
 exact fun j l=>key n j og l
theorem yqx {listed:Array Bool} (f:listed.size=ops.size) (e:n<ops.size) (c:∀j,j<n->listed[j]? =some true) (d:∀a,n<=a->a<ops.size->listed[a]? =some false):listed=zsj n ops.size:=by
 apply Array.ext_getElem?;intro i;unfold zsj;rw[Array.getElem?_append];simp only[Array.size_replicate];rcases B i n with h|h
 ·rw[if_pos h,c i h,Array.getElem?_replicate,if_pos h]
 ·rw[if_neg og,Array.getElem?_replicate];rcases B i ops.size with b|b
  ·rw[if_pos og,d i h b]
  ·rw[if_neg og,Array.getElem?_eq_none og]
theorem yor (a b:List Bool):zke (a++b)=zke a+zke b:=by
 induction a with
 |nil=>simp[zke]
 |cons x a ih=>simp only[List.cons_append,zke,ih];omega
theorem yot (a:Nat):zke (List.replicate a true)=0:=by
 induction a with
 |zero=>rfl
 |succ a ih=>rw[List.replicate_succ,zke,ih];simp
theorem yos (a m:Nat):zke (zsj a m).toList=m-a:=by unfold zsj;rw[Array.toList_append,Array.toList_replicate,Array.toList_replicate,yor,yot,zuu,Nat.zero_add]
theorem zz1396 (hPs:∀i c w w',i≠c->A i w->J w->E c w w'->A i w') (hst:∀i c v w w' X ac,i≠c->X c=none->Φ i v w X->J w->E c w w'->Φ i v w' (W7 X c ac)) (hg:zpv ops n q.tmps.size=true)
 (aK:Region.seqB .any ops (ops.toList.drop n).length n (zsj n ops.size)=true)
 (aL:∀i o,i<n->ops[i]? =some o->∀(a:Act) (w:e) (X:Nat->Option p),a.tmps.size=q.tmps.size->a.defers=q.defers->J w->A i w->X i=none->(∀t,zov ops n t=false->a.tmps[t]? =q.tmps[t]?)->
   (∀j l,j∈M7 o->ops[j]? =some l->X j=some (M4 a.tmps l)/\Φ j (M4 a.tmps l) w X)->
   if Region.wanted o (yielded ops a.tmps)=true then o.wp P a w (fun ah w'=>∃v,ah=a.put o.dst v/\E i w w'/\J w'/\Φ i (if o.dst.isSome then v else k) w' (W7 X i (if o.dst.isSome then v else k))) Q else∀ac,Φ i ac w (W7 X i ac)/\E i w w)
 (aD:∀(a:Act) (w:e) (X:Nat->Option p),a.tmps.size=q.tmps.size->a.defers=q.defers->J w->(∀t,zov ops n t=false->a.tmps[t]? =q.tmps[t]?)->
   (∀j l,j<n->ops[j]? =some l->X j=some (M4 a.tmps l)/\Φ j (M4 a.tmps l) w X)->wpList P ops Q (ops.toList.drop n) a w):
 ∀(m:Nat) (listed:Array Bool) (a:Act) (w:e) (X:Nat->Option p),listed.size=ops.size->zke listed.toList=m->GrowInvZ ops n Φ A J q X listed a w->wpAny P .any ops Q m listed a w:=by
 have af:=yaq hg;have fin:∀(m:Nat) (listed:Array Bool) (a:Act) (w:e) (X:Nat->Option p),listed.size=ops.size->zke listed.toList=m->GrowInvZ ops n Φ A J q X listed a w->(∀j,j<n->listed[j]? =some true)->wpAny P .any ops Q m listed a w:=by intro m listed a w X O hc inv M;obtain rfl:=yqx O af M inv.last;rw[yos] at hc;have U:=aD a w X inv.size inv.defers inv.inv inv.free fun j l r b=>⟨by rw[inv.known j l b,if_pos (M j r)],inv.holds j l r b (M j r)⟩;have V:=wpAny_of_seq (md:= .any) (Q':=Q) (ops.toList.drop n) n (zsj n ops.size) a w (fun j=>by rw[List.getElem?_drop,Array.getElem?_toList]) aK U;have L:(ops.toList.drop n).length=m:=(by rw[List.length_drop,Array.length_toList];exact hc);rwa[L] at V
 have stuck:∀(listed:Array Bool) (a:Act) (w:e) (X:Nat->Option p),listed.size=ops.size->Region.ready .any ops listed=[]->GrowInvZ ops n Φ A J q X listed a w->∀j,j<n->listed[j]? =some true:=by
  intro listed a w X O hr inv
  have all:∀c i,i<c->i<n->listed[i]? =some true:=by
   intro c;induction c with
   |zero=>intro i f;omega
   |succ c ih=>
    intro i f ab;rcases B i c with h|h
    ·exact ih i h ab
    ·obtain rfl:i=c:=og;have hlo:i<ops.size:=og;have K:i<listed.size:=og;cases R:listed[i] with
     |true=>rw[u K,R]
     |false=>
      exfalso
      have S:i∈Region.ready .any ops listed:=by
       unfold Region.ready;refine List.mem_filter.2 ⟨List.mem_range.2 hlo,?_⟩;have f:ops[i]? =some ops[i]:=u hlo;obtain⟨_,aH,_⟩:=yap hg ab f;rw[f];simp only[Option.map_some,D,x,Bool.not_eq_true'];refine⟨by simp[z,u K,R],Array.all_eq_true'.2 fun y aC=> ?_⟩;cases az:Region.binds .any y with
       |false=>rfl
       |true=>have b:=aH y.on (List.mem_map.2 ⟨y,List.mem_filter.2 ⟨by simpa using aC,az⟩,rfl⟩);have:=ih y.on b og;simp[z,this]
      rw[hr] at S;cases S
  exact fun j b=>all (j+1) j og b
 intro m;induction m with
 |zero=>intro listed a w X O hc inv;exfalso;have U:=inv.last n (G _) af;have V:=zuw (l:=listed.toList) (i:=n) (b:=false) hc (by rw[Array.getElem?_toList];exact U);cases V
 |succ m ih=>
  intro listed a w X O hc inv;by_cases M:∀j,j<n->listed[j]? =some true
  ·exact fin (m+1) listed a w X O hc inv M
  refine⟨fun hr=>absurd (stuck listed a w X O hr inv) M,fun i S=> ?_⟩;have ab:i<ops.size:=(by unfold Region.ready at S;exact List.mem_range.1 (List.mem_filter.1 S).1);have f:ops[i]? =some ops[i]:=u ab;obtain⟨U,V⟩:=zri f S;have K:i<listed.size:=og;have R:listed[i]=false:=by simpa[z,u K] using U
  have Z:∀j∈M7 ops[i],listed[j]? =some true:=by
   intro j b;have L:=V j b;rcases B j listed.size with aa|aa
   ·rw[u aa];simp only[z,u aa,D] at L;rw[L]
   ·simp[z,Array.getElem?_eq_none aa] at L
  have N:i<n:=by
   rcases B i n with N|N
   ·exact N
   ·exfalso;rcases Nat.eq_or_lt_of_le N with L|L
    ·subst L;exact M (yml hg (fun o ao j b=>by rw[f] at ao;cases ao;exact Z j b) inv.down)
    ·have ai:=Z n (yrx hg L f);rw[inv.last n (G _) af] at ai;cases ai
  obtain⟨ae,aI,_⟩:=yap hg N f;have aj:X i=none:=(by rw[inv.known i _ f,if_neg (by rw[u K,R];simp)]);have Y:=aL i ops[i] N f a w X inv.size inv.defers inv.inv (inv.pre i (by rw[u K,R])) aj inv.free fun j l b aq=>⟨by rw[inv.known j l aq,if_pos (Z j b)],inv.holds j l (by have:=aI j b;omega) aq (Z j b)⟩
  have next:∀(v:p) (w':e),E i w w'->J w'->Φ i (if ops[i].dst.isSome then v else k) w' (W7 X i (if ops[i].dst.isSome then v else k))->wpAny P .any ops Q m (listed.setIfInBounds i true) (a.put ops[i].dst v) w':=by
   intro v w' ak ad hv
   have ar:∀t,(∀d,ops[i].dst=some d->t≠d)->(a.put ops[i].dst v).tmps[t]? =a.tmps[t]? :=by
    intro t T;cases hd:ops[i].dst with
    |none=>rfl
    |some d=>exact zty _ _ (T d hd)
   have av:∀j l,j<n\/l.dst=none\/True->j≠i->ops[j]? =some l->(∀d,ops[i].dst=some d->l.dst≠some d)->M4 (a.put ops[i].dst v).tmps l=M4 a.tmps l:=by
    intro j l _ g b aJ;unfold M4;cases aB:l.dst with
    |none=>rfl
    |some ay=>exact zxe (ar ay fun d hd y=>aJ d hd (by rw[aB,y]))
   have au:M4 (a.put ops[i].dst v).tmps ops[i]=if ops[i].dst.isSome then v else k:=by
    unfold M4;cases hd:ops[i].dst with
    |none=>rfl
    |some d=>simp only;rw[zyg _ _ (by rw[inv.size];exact(ae d hd).1)];rfl
   refine ih _ _ _ (W7 X i (if ops[i].dst.isSome then v else k)) (by simp[O]) ?_ ⟨?_,?_,ad,fun c I=> ?_,fun t T=> ?_,fun j l r b al=> ?_,fun j l b=> ?_,fun c o I an j b=> ?_,fun c I aG=> ?_⟩
   ·have:=zuv (l:=listed.toList) (i:=i) (by simp[K,R]);simp only[Array.toList_setIfInBounds];omega
   ·cases hd:ops[i].dst with
    |none=>exact inv.size
    |some d=>rw[zyh];exact inv.size
   ·cases hd:ops[i].dst with
    |none=>exact inv.defers
    |some d=>exact inv.defers
   ·have W:c≠i:=(by rintro rfl;rw[Array.getElem?_setIfInBounds_self_of_lt K] at I;cases I);rw[Array.getElem?_setIfInBounds_ne (Ne.symm W)] at I;exact hPs c i w w' W (inv.pre c I) inv.inv ak
   ·rw[ar t (by rintro d hd rfl;unfold zov at T;rw[List.any_eq_false] at T;have:=T i (List.mem_range.2 N);rw[f] at this;simp[hd] at this)];exact inv.free t T
   ·by_cases g:j=i
    ·subst g;rw[f] at b;cases b;rw[au];exact hv
    ·rw[av j l (.inl r) g b fun d hd y=>g ((ae d hd).2 j l r b y)];rw[Array.getElem?_setIfInBounds_ne (Ne.symm g)] at al;exact hst j i _ _ _ X _ g aj (inv.holds j l r b al) inv.inv ak
   ·by_cases g:j=i
    ·subst g;rw[f] at b;cases b;rw[au,Array.getElem?_setIfInBounds_self_of_lt K,if_pos rfl,W7,if_pos rfl]
    ·rw[zrs g,Array.getElem?_setIfInBounds_ne (Ne.symm g),inv.known j l b];rcases B j n with r|r
     ·rw[av j l (.inl r) g b fun d hd y=>g ((ae d hd).2 j l r b y)]
     ·rw[inv.last j r (Array.getElem?_eq_some_iff.1 b).1];rfl
   ·have aE:listed[j]? =some true:=by
     by_cases W:c=i
     ·subst W;rw[f] at I;cases I;exact Z j b
     ·rw[Array.getElem?_setIfInBounds_ne (Ne.symm W)] at an;exact inv.down c o I an j b
    by_cases g:j=i
    ·subst g;rw[Array.getElem?_setIfInBounds_self_of_lt K]
    ·rw[Array.getElem?_setIfInBounds_ne (Ne.symm g)];exact aE
   ·rw[Array.getElem?_setIfInBounds_ne og];exact inv.last c I aG
  unfold wpOp;rw[f];simp only;split
  ·rename_i ag;rw[if_pos ag] at Y;exact .inl (Oper.wp_mono (fun ah w' ⟨v,ha,aA,ad,hv⟩=>by rw[ha];exact next v w' aA ad hv) Y)
  ·rename_i ag;rw[if_neg ag] at Y;exact next k w (Y k).2 inv.inv (by split<;>exact(Y k).1)
theorem ztd (n:Nat) (Φ:Nat->p->e->(Nat->Option p)->Prop) (A:Nat->e->Prop) (J:e->Prop) (E:Nat->e->e->Prop) (s:P.follows .mixedOrders=true) (hJ0:J y.drew) (hP0:∀i,A i y.drew)
 (hPs:∀i b w w',i≠b->A i w->J w->E b w w'->A i w') (hst:∀i b v w w' X c,i≠b->X b=none->Φ i v w X->J w->E b w w'->Φ i v w' (W7 X b c)) (hg:zpv ops n q.tmps.size=true)
 (u:Region.seqB .any ops (ops.toList.drop n).length n (zsj n ops.size)=true)
 (x:∀i o,i<n->ops[i]? =some o->∀(a:Act) (w:e) (X:Nat->Option p),a.tmps.size=q.tmps.size->a.defers=q.defers->J w->A i w->X i=none->(∀t,zov ops n t=false->a.tmps[t]? =q.tmps[t]?)->
   (∀j l,j∈M7 o->ops[j]? =some l->X j=some (M4 a.tmps l)/\Φ j (M4 a.tmps l) w X)->
   if Region.wanted o (yielded ops a.tmps)=true then o.wp P a w (fun g w'=>∃v,g=a.put o.dst v/\E i w w'/\J w'/\Φ i (if o.dst.isSome then v else k) w' (W7 X i (if o.dst.isSome then v else k))) Q else∀c,Φ i c w (W7 X i c)/\E i w w)
 (h:∀(a:Act) (w:e) (X:Nat->Option p),a.tmps.size=q.tmps.size->a.defers=q.defers->J w->(∀t,zov ops n t=false->a.tmps[t]? =q.tmps[t]?)->
   (∀j l,j<n->ops[j]? =some l->X j=some (M4 a.tmps l)/\Φ j (M4 a.tmps l) w X)->wpList P ops Q (ops.toList.drop n) a w):
 (Code.region id ops true).wp P Q q y:=by
 have D:=yaq hg;refine wp_region_any s (zz1396 hPs hst hg u x h _ _ _ _ (fun _=>none) (by simp) (by simp[zuu]) ⟨rfl,rfl,hJ0,fun i _=>hP0 i,fun _ _=>rfl,fun j l B m f=> ?_,fun j l m=> ?_,fun i o z d=> ?_,fun b C r=> ?_⟩)
 ·rw[Array.getElem?_replicate] at f;split at f<;>cases f
 ·rw[if_neg];rw[Array.getElem?_replicate];split<;>simp
 ·rw[Array.getElem?_replicate] at d;split at d<;>cases d
 ·rw[Array.getElem?_replicate,if_pos r]
end
theorem Y8 {P:C} {a:Act} {w:e} {J:e->Prop} {E:e->Prop} {Φ:p->e->(Nat->Option p)->Prop} {X:Nat->Option p} {Q:Exit->Act->e->Prop}
 (h:∀b:Act->e->Prop,(∀v w',E w'->J w'->Φ (if o.dst.isSome then v else k) w' (W7 X i (if o.dst.isSome then v else k))->b (a.put o.dst v) w')->o.wp P a w b Q):
 o.wp P a w (fun c w'=>∃v,c=a.put o.dst v/\E w'/\J w'/\Φ (if o.dst.isSome then v else k) w' (W7 X i (if o.dst.isSome then v else k))) Q:=
 h _ fun v w' f d hv=>⟨v,rfl,f,d,hv⟩
theorem H8 (w:e) (r:Option Nat):w.grownBy w r:=⟨rfl,rfl,rfl,G _,fun _ _ _=>rfl⟩
theorem J6 {a b c:e} (h:a.grownBy b r) (d:b.grownBy c r):a.grownBy c r:=
 ⟨d.os.trans h.os,d.tape.trans h.tape,d.output.trans h.output,H h.size d.size,fun j f hr=>(d.block j (F f h.size) hr).trans (h.block j f hr)⟩
theorem zla (w:e) (o:Obj) (r:Option Nat):w.grownBy (w.alloc o) r:=K7 (N8 w o)
theorem zni {w w':e} (hg:w.grownBy w' r) (c:∀b,S b->b<w.heap.size/\some b≠r):L1 S S w w':=fun b a=>⟨a,fun o=>d (hg.block b (c b a).1 (c b a).2)⟩
theorem OwnS.own_lt {a:Type} {n:Nat} {R:e->(Nat->Prop)->p->a->Prop} {w:e} {f:List a} (h:OwnS n t R w base S v f):∀b,v.ownBlock=some b->base<=b/\b<w.heap.size:=by obtain⟨g,c,_⟩:=h;exact fun b d=>c.lt b d
theorem OwnS.grown {g:Type} {n:Nat} {R:e->(Nat->Prop)->p->g->Prop} (o:Stb R) {w w':e} {f:List g} (h:OwnS n t R w base S v f)
 (d:w.grownBy w' r) (hr:∀b,r=some b->v.ownBlock≠some b/\¬S b):OwnS n t R w' base S v f:=by
 obtain⟨j,k,l,m,c⟩:=h
 have q:v.ownBlock=none\/v.ownBlock≠r:=by
  cases r with
  |none=>cases v.ownBlock<;>simp
  |some b=>exact .inr (hr b rfl).1
 refine⟨j,k.kept d q,l,m.imp fun x y h=>o.to h (zni d fun b a=>⟨(c b a).1,fun i=>(hr b i.symm).2 a⟩),fun b a=>⟨F (c b a).1 d.size,(c b a).2⟩⟩
theorem OwnS.wider {c:Type} {n:Nat} {R:e->(Nat->Prop)->p->c->Prop} (j:Stb R) {w:e} {T:Nat->Prop} {a:List c} (h:OwnS n t R w base S v a)
 (k:∀b,S b->T b) (l:∀b,T b->b<w.heap.size/\some b≠v.ownBlock):OwnS n t R w base T v a:=by obtain⟨d,f,g,i,q⟩:=h;exact⟨d,f,g,i.imp fun x y h=>j.to h fun b m=>⟨k b m,fun o=>rfl⟩,l⟩
theorem Row.grownN {w w':e} (h:Row w g t xs) (c:w.grownBy w' r) (hr:∀b,r=some b->g≠b):Row w' g t xs:=h.grown c (fun a=>hr g a.symm rfl)
theorem IsD.grownN {w w':e} {f:List Int} (h:IsD w g f) (a:w.grownBy w' r) (hr:∀b,r=some b->g<b):IsD w' g f:=by
 cases r with
 |none=>have o:=h.lt;obtain⟨A,c,m,i,j,l⟩:=h;exact⟨A,c,m,i.grown a (by simp),IsIL.stb.to j (zni a fun b n=>⟨by omega,by simp⟩),l⟩
 |some b=>exact h.grown a (hr b rfl)
structure Kept (r1 r2 r3:Option Nat) (w w':e):Prop where
 os:w'.os=w.os
 tape:w'.tape=w.tape
 output:w'.output=w.output
 size:w.heap.size<=w'.heap.size
 block:∀k,k<w.heap.size->some k≠r1->some k≠r2->some k≠r3->w'.heap[k]? =w.heap[k]?
theorem Kept.refl (r1 r2 r3:Option Nat) (w:e):Kept r1 r2 r3 w w:=⟨rfl,rfl,rfl,G _,fun _ _ _ _ _=>rfl⟩
theorem Kept.step {r1 r2 r3:Option Nat} {a b c:e} (h:Kept r1 r2 r3 a b) (d:b.grownBy c r) (hr:r=none\/r=r1\/r=r2\/r=r3):Kept r1 r2 r3 a c:=
 ⟨d.os.trans h.os,d.tape.trans h.tape,d.output.trans h.output,H h.size d.size,fun j f g i k=>(d.block j (F f h.size) (by rcases hr with rfl|rfl|rfl|rfl;simp;exact g;exact i;exact k)).trans (h.block j f g i k)⟩
theorem zxk {r1 r2 r3:Option Nat} {w w':e} (h:Kept r1 r2 r3 w w') (c:∀b,S b->b<w.heap.size/\some b≠r1/\some b≠r2/\some b≠r3):L1 S S w w':=fun b a=>⟨a,fun o=>d (h.block b (c b a).1 (c b a).2.1 (c b a).2.2.1 (c b a).2.2.2)⟩
def N5 (lo a:Nat):Nat->Prop:=fun b=>lo<=b/\b<a
theorem IsQ.rngG {w w':e} {q:Rat} {a:Nat} (h:IsQ w (N5 lo a) v q) (f:w.grownBy w' r) (g:a<=w.heap.size) (hr:∀b,r=some b->b<lo):IsQ w' (N5 lo a) v q:=
 IsQ.stb.to h (zni f fun b c=>⟨F c.2 g,fun d=>by have:=hr b d.symm;have:=c.1;omega⟩)
theorem zrn {P:C} {w:e} {a:Act} {g:Act->e->Prop} {Q:Exit->Act->e->Prop} {c:TypeId} {n bytes:Nat} (d:ElN P t c n bytes) (s x:Operand) (O:o.op= .call {callee:= .builtin .append,args:= #[s,x],argTypes:= #[t,t]})
 {f:Type} {R:e->(Nat->Prop)->p->f->Prop} (I:Stb R) {h:Nat} {ev:p} {l:List f} {y:f} {te:TypeId}
 (V:a.eval s=v) (Y:a.eval x= .slice (some ⟨h,0,none⟩) 1 1) (hr:Row w h te ev.cells.toList) (T:OwnS n c R w base S v l) (M:R w S ev y) (q:ev.cells.size=n)
 (B:∀r∈ev.cells,r.oneCell'=true) (J:(l.length+1)*(bytes+1)<=140737488355328) (K:base<=w.heap.size)
 (H:∀b w',OwnS n c R w' base S b (l++[y])->w.grownBy w' v.ownBlock->(b.ownBlock=v.ownBlock\/b.ownBlock=some w.heap.size)->g (a.put o.dst b) w'):o.wp P a w g Q:=by
 obtain⟨i,z,N,Z,W,L,aa⟩:=d.info
 obtain⟨u,D,E,F,G⟩:=T
 rw[Nat.mul_add,Nat.mul_one] at J
 obtain⟨b,w',U,A,k,_,m⟩:=run_append_own_at (P:=P) w base t o.type c i z n bytes d.und N Z W L aa d.pos v l.length (cellsOf u) D ⟨h,0,none⟩ 1 1 ev.cells.toList (by simp[q])
  (fun j r X=>by rw[Addr.add_lit,Nat.zero_add,hr.cell j];exact X) (by simpa using B) (by unfold maxLen;omega) og K
 unfold Oper.wp execOp
 simp only[O,resolve,invoke,builtin,Sem.run_bind,Sem.run_pure,Result.andThen_ok,List.map_toArray,List.map_cons,List.map_nil,V,Y,U]
 exact H b w' (OwnS.app I E F G M q A k m) k m
def NewRow (w:e) (n0:Nat) (t:TypeId) (xs:List p) (v:p):Prop:=∃h,v= .slice (some ⟨h,0,none⟩) 1 1/\n0<=h/\Row w h t xs
theorem NewRow.grown {w w':e} {n0:Nat} (h:NewRow w n0 t xs v) (f:w.grownBy w' r) (hr:∀b,r=some b->b<n0):NewRow w' n0 t xs v:=by obtain⟨g,a,c,d⟩:=h;exact⟨g,a,c,d.grownN f fun b a=>by have:=hr b a;omega⟩
theorem zmo {t:Nat} (h:T[t]? =some v):T.getD t k=v:=by simp[z,h]
theorem ygr {w i d:e} {r1 r2:Option Nat} (h:w.grownBy i (some g)) (a:Kept (some g) r1 r2 i d) (k:∀b,r1=some b->w.heap.size<=b) (l:∀b,r2=some b->w.heap.size<=b):w.grownBy d (some g):=
 ⟨a.os.trans h.os,a.tape.trans h.tape,a.output.trans h.output,H h.size a.size,fun j f hr=>(a.block j (F f h.size) hr (fun c=>by have:=k j c.symm;omega) (fun c=>by have:=l j c.symm;omega)).trans (h.block j f hr)⟩
theorem Row.kept {w w':e} {r1 r2 r3:Option Nat} (h:Row w g t xs) (d:Kept r1 r2 r3 w w') (a:r1≠some g) (b:r2≠some g) (c:r3≠some g):Row w' g t xs:=(d.block g h.lt (Ne.symm a) (Ne.symm b) (Ne.symm c)).trans h
theorem ztm {w w':e} {n:Nat} (h:w.grownBy w' (some g)) (f:w.heap.size<=n) (o:Nat) (b:p):w.grownBy (w'.setCell ⟨n,o,none⟩ b) (some g):=
 ⟨h.os,h.tape,h.output,by rw[show(w'.setCell ⟨n,o,none⟩ b).heap.size=w'.heap.size by simp[World.setCell]];exact h.size,fun a d hr=>(Below.heap_setCell w' ⟨n,o,none⟩ b a (fun c=>by have:n=a:=c.symm;omega)).trans (h.block a d hr)⟩
theorem yay {w:e} {o:Nat} {x y z:p} (h:w.cell? ⟨b,o,none⟩=some v) (a:b≠c):(L9 w c j x y z).cell? ⟨b,o,none⟩=some v:=(zos (.inl a)).trans h
theorem zlk {w w':e} {x y z:p} (h:w.grownBy w' (some c)):w.grownBy (L9 w' c j x y z) (some c):=J6 (J6 (J6 h (I9 _ _ _ _)) (I9 _ _ _ _)) (I9 _ _ _ _)
def SN (S:Nat->Prop) (lo:Nat) (w:e):Nat->Prop:=fun b=>S b\/(lo<=b/\b<w.heap.size)
theorem MatW.grow {w w':e} {r0:Nat} {cp:Nat->Nat} {n:Nat} {A:Nat->Nat->Int} (h:MatW w (SN S lo w) r0 a cp n m A) (hlo:lo<=w.heap.size) (g:Below w.heap.size w w'):MatW w' (SN S lo w') r0 a cp n m A:=
 h.next g (fun b f=>by rcases f with c|c;exact .inl c;exact .inr ⟨c.1,F c.2 g.size⟩) fun b f=>by
  rcases f with c|c
  ·exact .inl (.inl c)
  ·rcases B b w.heap.size with d|d
   ·exact .inl (.inr ⟨c.1,d⟩)
   ·exact .inr ⟨d,c.2⟩
theorem MatW.start {w:e} {r0:Nat} {cp:Nat->Nat} {n:Nat} {A:Nat->Nat->Int} (h:MatW w S r0 a cp n m A):MatW w (SN S w.heap.size w) r0 a cp n m A:=
 h.next (Below.refl _ _) (fun b c=> .inl c) fun b c=>by
  rcases c with d|d
  ·exact .inl d
  ·omega
theorem MatW.same {w:e} {r0:Nat} {cp:Nat->Nat} {n:Nat} {A B:Nat->Nat->Int} (h:MatW w S r0 a cp n m A) (d:∀i j,i<n->j<m->A i j=B i j):MatW w S r0 a cp n m B:=
 ⟨h.hd,h.hf,h.cap,fun i j b c=>by rw[<-d i j b c];exact h.el i j b c,h.ef,h.inj,h.sep,h.s0,h.sS⟩
theorem zku {w:e} {z:Int} (h:IsQ w S v ((z:Int):Rat)):∃P b Q f,v= .agg #[.bool (decide (z<0)),.slice P (A9 z.natAbs).length b,.slice Q (A9 1).length f]:=by obtain⟨A,c,B,d,a,_,_⟩:=h;rw[zyk] at a;exact⟨A,c,B,d,a⟩
theorem ygh (z:Int):((z:Rat)<0)↔z<0:=by have:=yhw (z:Rat);rw[Rat.num_intCast,decide_eq_decide] at this;exact this.symm
theorem yjy (z:Int):(decide (0<zpn (z:Rat)))=decide (0<z):=by
 unfold zpn;rw[decide_eq_decide];rcases Int.lt_trichotomy z 0 with h|h|h
 ·have a:¬((z:Rat)=0):=(by simpa using(show z≠0 by omega));have b:(z:Rat)<0:=(ygh z).2 h;rw[if_neg a,if_pos b];omega
 ·subst h;rw[if_pos (by simp)]
 ·have a:¬((z:Rat)=0):=(by simpa using(show z≠0 by omega));have b:¬((z:Rat)<0):=fun c=>(by have:=(ygh z).1 c;omega);rw[if_neg a,if_neg b];omega
def ints (m:Nat) (f:Nat->Int):List Rat:=(List.range m).map fun j=>((f j:Int):Rat)
theorem zpx (m:Nat) (f:Nat->Int):(ints m f).length=m:=by unfold ints;simp
theorem ygk (h:j<m):(ints m f)[j]? =some ((f j:Int):Rat):=by unfold ints;rw[List.getElem?_map,List.getElem?_range h];rfl
theorem ygm (m:Nat) (f:Nat->Int):ints (m+1) f=ints m f++[((f m:Int):Rat)]:=by unfold ints;rw[List.range_succ,List.map_append];rfl
structure LineW (w:e) (S:Nat->Prop) (b c m:Nat) (f:Nat->Int):Prop where
 blk:∃cur,w.heap[b]? =some (.cells cur 37 (0,0))
 cap:m<=c/\c<=maxLen
 el:∀j,j<m->∃P k Q l,w.cell? ⟨b,j*3,none⟩=some (.bool (decide (f j<0)))/\w.cell? ⟨b,j*3+1,none⟩=some (.slice P (A9 (f j).natAbs).length k)/\w.cell? ⟨b,j*3+2,none⟩=some (.slice Q (A9 1).length l)/\
  IsQ w S (.agg #[.bool (decide (f j<0)),.slice P (A9 (f j).natAbs).length k,.slice Q (A9 1).length l]) ((f j:Int):Rat)
theorem OwnS.shape {j:Type} {n:Nat} {R:e->(Nat->Prop)->p->j->Prop} {w:e} {l:List j} (h:OwnS n t R w base S v l) (A:l≠[]):
 ∃b c d a,v= .slice (some ⟨b,0,none⟩) l.length c/\base<=b/\w.heap[b]? =some (.cells d t (0,0))/\l.length<=c/\c<=maxLen/\d.toList.take (l.length*n)=cellsOf a/\Wid n a/\All2 (R w S) a l/\¬S b/\(∀x,S x->x<w.heap.size):=by
 obtain⟨a,k,o,q,i⟩:=h;rcases k.2 with⟨_,f⟩|⟨g,cap,d,f,r,s,u,y,C,m⟩
 ·exact absurd (List.eq_nil_of_length_eq_zero f) A
 ·exact⟨g,cap,d,a,f,r,s,u,y,m,o,q,fun z=>(i g z).2 (by rw[f];rfl),fun x B=>(i x B).1⟩
theorem zpu {w:e} {a:Array p} {n:Nat} {o:Nat} (h:w.heap[b]? =some (.cells a t (0,0))) (c:a.toList.take n=xs) (hv:xs[o]? =some v):w.cell? ⟨b,o,none⟩=some v:=by
 rw[cell_of_row w b o _ t (0,0) h];rw[<-c,List.getElem?_take] at hv;split at hv
 ·simpa using hv
 ·cases hv
theorem OwnS.line {w:e} (h:OwnS 3 37 IsR w base S v (C0 (ints m f))) (A:1<=m):
 ∃b c,v= .slice (some ⟨b,0,none⟩) m c/\base<=b/\b<w.heap.size/\¬S b/\LineW w S b c m f:=by have g:(C0 (ints m f)).length=m:=(by simp[C0,zpx]);obtain⟨b,c,p,z,rfl,q,a,n,r,d,k,s,t,_⟩:=h.shape (fun i=>by rw[i] at g;simp at g;omega);rw[g] at n d;refine⟨b,c,by rw[g],q,(Array.getElem?_eq_some_iff.1 a).1,t,⟨p,a⟩,⟨n,r⟩,fun j u=> ?_⟩;have hr:(C0 (ints m f))[j]? =some (D8 ((f j:Int):Rat)):=(by unfold C0;rw[List.getElem?_map,ygk u];rfl);obtain⟨i,l,o⟩:=s.get hr;obtain⟨P,x,Q,y,rfl⟩:=zku (show IsQ w S i ((f j:Int):Rat) from o);exact⟨P,x,Q,y,zpu a d (zoo k (i:=0) l rfl),zpu a d (zoo k (i:=1) l rfl),zpu a d (zoo k (i:=2) l rfl),o⟩
theorem LineW.keep {w w':e} {T:Nat->Prop} (h:LineW w S b c m f) (a:w'.heap[b]? =w.heap[b]?) (g:∀x,S x->T x/\w'.heap[x]? =w.heap[x]?):LineW w' T b c m f where
 blk:=by rw[a];exact h.blk
 cap:=h.cap
 el j hj:=by obtain⟨P,q,Q,r,k,l,n,p⟩:=h.el j hj;exact⟨P,q,Q,r,(d a).trans k,(d a).trans l,(d a).trans n,IsQ.stb.to p fun x i=>⟨(g x i).1,fun o=>d (g x i).2⟩⟩
def IsVal (w:e) (S:Nat->Prop) (v x:p):Prop:=v=x
theorem IsVal.stb:Stb IsVal:=fun _ _ _ _ _ _ h _=>h
def heads (b m:Nat) (a cp:Nat->Nat):List p:=(List.range b).map fun i=> .slice (some ⟨a i,0,none⟩) m (cp i)
end Go.Proofs.YtdgilbgdkmhcmaaGreatDoor
