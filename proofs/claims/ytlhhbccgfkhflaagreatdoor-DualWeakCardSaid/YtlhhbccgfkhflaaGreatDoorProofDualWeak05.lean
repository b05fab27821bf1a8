/-
 A region e draws d order,f first h make memory and g change m k there,each in d own l,and f last b c behind all others in a j order:whatever a order,a last b c where all holds e a first b i.
-/
import Derived.Test.YtlhhbccgfkhflaaGreatDoorProofDualWeak04
import Derived.StillTail
namespace Go.Proofs.YtlhhbccgfkhflaaGreatDoor
open Go.RowKit
set_option linter.unusedVariables false
set_option maxRecDepth 100000
set_option maxHeartbeats 8000000
open _root_.Nat renaming le_trans → M, lt_of_lt_of_le → G, lt_or_ge → H
open _root_.Go.World renaming cell?_of_block → K
open _root_.Array renaming getElem?_eq_getElem → B, getD_eq_getD_getElem? → L
open _root_.Bool renaming and_eq_true → D
open _root_.Go renaming World → e, Value → p, undef → s, Oper → C
variable {T : Nat → Prop} {b base c g i j k l m o : Nat} {a : Array p} {f : Nat → Int} {r d y z : Option Nat} {I : Nat → Nat} {t : TypeId} {u v : p} {xs : List p}
def zpt (ops:Array C) (n m:Nat):Bool:=
 decide (n<ops.size)&&((List.range n).all fun i=>(ops[i]?).any fun o=>
  (o.dst.all fun d=>decide (d<m)&&(List.range n).all fun j=>decide (j=i)|| !((ops[j]?).any fun a=>a.dst==some d))&&((W7 o).all fun j=>decide (j<i))&&
   (List.range (n+1)).any fun k=>decide (i<k)&&(ops[k]?).any fun ok=>(W7 ok).contains i)&&
 (List.range ops.size).all fun k=>decide (k<=n)||(ops[k]?).any fun ok=>(W7 ok).contains n
def zmn (ops:Array C) (n:Nat) (t:Nat):Bool:=(List.range n).any fun i=>(ops[i]?).any fun o=>o.dst==some t
theorem zsw {ops lit:Array C} {n:Nat} (h:ops=lit) (t:Nat) (a:zmn lit n t=false):zmn ops n t=false:=by rw[h];exact a
def zqq (n m:Nat):Array Bool:=Array.replicate n true++Array.replicate (m-n) false
def K6 (X:Nat->Option p) (i:Nat) (v:p):Nat->Option p:=fun j=>if j=i then some v else X j
theorem zpj {X:Nat->Option p} (h:j≠i):K6 X i v j=X j:=if_neg h
theorem zra {X:Nat->Option p} (h:X j=some u) (b:X i=none):K6 X i v j=some u:=by rw[zpj (fun a=>by rw[a,b] at h;cases h)];exact h
section
variable {P : Program} {ops : Array C} {Q : Exit → Act → e → Prop} {Φ : Nat → p → e → (Nat → Option p) → Prop} {x : Nat → e → Prop} {J : e → Prop} {E : Nat → e → e → Prop} {q : Act} {h : e} {n : Nat}
theorem zwg {o:C} (h:zpt ops n m=true) (r:i<n) (q:ops[i]? =some o):
 (∀d,o.dst=some d->d<m/\∀j l,j<n->ops[j]? =some l->l.dst=some d->j=i)/\(∀j∈W7 o,j<i)/\∃k ok,i<k/\k<=n/\ops[k]? =some ok/\i∈W7 ok:=by
 unfold zpt at h;rw[D,D] at h;have e:=List.all_eq_true.1 h.1.2 i (List.mem_range.2 r);rw[q] at e;simp only[Option.any_some,D] at e;obtain⟨⟨c,p⟩,b⟩:=e;refine⟨fun d hd=> ?_,fun j f=>by simpa using List.all_eq_true.1 p j f,?_⟩
 ·rw[hd] at c;simp only[Option.all_some,D,decide_eq_true_eq] at c;refine⟨c.1,fun j l s f u=> ?_⟩;have b:=List.all_eq_true.1 c.2 j (List.mem_range.2 s);rw[f] at b;simp only[Option.any_some,u,beq_self_eq_true,Bool.not_true,Bool.or_false,decide_eq_true_eq] at b;exact b
 ·obtain⟨k,t,a⟩:=List.any_eq_true.1 b;rw[D,decide_eq_true_eq] at a;cases g:ops[k]? with
  |none=>rw[g] at a;simp at a
  |some ok=>rw[g] at a;exact⟨k,ok,a.1,Nat.lt_succ_iff.1 (List.mem_range.1 t),g,by simpa using a.2⟩
theorem zwh (h:zpt ops n m=true):n<ops.size:=by unfold zpt at h;rw[D,D,decide_eq_true_eq] at h;exact h.1.1
theorem yhy {o:C} (h:zpt ops n m=true) (c:n<k) (b:ops[k]? =some o):n∈W7 o:=by
 unfold zpt at h;rw[D] at h;have a:=List.all_eq_true.1 h.2 k (List.mem_range.2 (Array.getElem?_eq_some_iff.1 b).1);rw[b,Bool.or_eq_true,decide_eq_true_eq] at a;rcases a with a|a
 ·omega
 ·simpa using a
structure GrowInvZ (ops:Array C) (n:Nat) (Φ:Nat->p->e->(Nat->Option p)->Prop) (x:Nat->e->Prop) (J:e->Prop) (q:Act) (X:Nat->Option p) (listed:Array Bool) (a:Act) (w:e):Prop where
 size:a.tmps.size=q.tmps.size
 defers:a.defers=q.defers
 inv:J w
 pre:∀i,listed[i]? =some false->x i w
 free:∀t,zmn ops n t=false->a.tmps[t]? =q.tmps[t]?
 holds:∀j oj,j<n->ops[j]? =some oj->listed[j]? =some true->Φ j (K4 a.tmps oj) w X
 known:∀j oj,ops[j]? =some oj->X j=if listed[j]? =some true then some (K4 a.tmps oj) else none
 down:∀(i:Nat) (o:C),ops[i]? =some o->listed[i]? =some true->∀j∈W7 o,listed[j]? =some true
 last:∀k,n<=k->k<ops.size->listed[k]? =some false
theorem yfc {listed:Array Bool} (c:zpt ops n m=true) (q:∀o,ops[n]? =some o->∀j∈W7 o,listed[j]? =some true) (l:∀(i:Nat) (o:C),ops[i]? =some o->listed[i]? =some true->∀j∈W7 o,listed[j]? =some true):
 ∀j,j<n->listed[j]? =some true:=by
 have key:∀k j,n-k<=j->j<n->listed[j]? =some true:=by
  intro k;induction k with
  |zero=>intro j g a;omega
  |succ k ih=>
   intro j g a;rcases H j (n-k) with h|h
   ·have u:=zwh c;have r:j<ops.size:=og;obtain⟨_,_,i,f,t,s,e,d⟩:=zwg c a (B r);rcases H i n with b|b
    ·exact l i f e (ih i og b) j d
    ·obtain rfl:i=n:=og;exact q f e j d
   ·exact ih j h a
 exact fun j p=>key n j og p
theorem yhc {listed:Array Bool} (e:listed.size=ops.size) (d:n<ops.size) (b:∀j,j<n->listed[j]? =some true) (c:∀k,n<=k->k<ops.size->listed[k]? =some false):listed=zqq n ops.size:=by
 apply Array.ext_getElem?;intro i;unfold zqq;rw[Array.getElem?_append];simp only[Array.size_replicate];rcases H i n with h|h
 ·rw[if_pos h,b i h,Array.getElem?_replicate,if_pos h]
 ·rw[if_neg og,Array.getElem?_replicate];rcases H i ops.size with a|a
  ·rw[if_pos og,c i h a]
  ·rw[if_neg og,Array.getElem?_eq_none og]
theorem yqu (a b:List Bool):zkg (a++b)=zkg a+zkg b:=by
 induction a with
 |nil=>simp[zkg]
 |cons x a ih=>simp only[List.cons_append,zkg,ih];omega
theorem yqv (k:Nat):zkg (List.replicate k true)=0:=by
 induction k with
 |zero=>rfl
 |succ k ih=>rw[List.replicate_succ,zkg,ih];simp
theorem ygc (k m:Nat):zkg (zqq k m).toList=m-k:=by unfold zqq;rw[Array.toList_append,Array.toList_replicate,Array.toList_replicate,yqu,yqv,zvy,Nat.zero_add]
theorem zz1473 (hPs:∀i k w w',i≠k->x i w->J w->E k w w'->x i w') (hst:∀i k v w w' X u,i≠k->X k=none->Φ i v w X->J w->E k w w'->Φ i v w' (K6 X k u)) (V:zpt ops n q.tmps.size=true)
 (aJ:Region.seqB .any ops (ops.toList.drop n).length n (zqq n ops.size)=true)
 (aK:∀i o,i<n->ops[i]? =some o->∀(a:Act) (w:e) (X:Nat->Option p),a.tmps.size=q.tmps.size->a.defers=q.defers->J w->x i w->X i=none->(∀t,zmn ops n t=false->a.tmps[t]? =q.tmps[t]?)->
   (∀j c,j∈W7 o->ops[j]? =some c->X j=some (K4 a.tmps c)/\Φ j (K4 a.tmps c) w X)->
   if Region.wanted o (yielded ops a.tmps)=true then o.wp P a w (fun ag w'=>∃v,ag=a.put o.dst v/\E i w w'/\J w'/\Φ i (if o.dst.isSome then v else s) w' (K6 X i (if o.dst.isSome then v else s))) Q else∀u,Φ i u w (K6 X i u)/\E i w w)
 (aC:∀(a:Act) (w:e) (X:Nat->Option p),a.tmps.size=q.tmps.size->a.defers=q.defers->J w->(∀t,zmn ops n t=false->a.tmps[t]? =q.tmps[t]?)->
   (∀j c,j<n->ops[j]? =some c->X j=some (K4 a.tmps c)/\Φ j (K4 a.tmps c) w X)->wpList P ops Q (ops.toList.drop n) a w):
 ∀(l:Nat) (listed:Array Bool) (a:Act) (w:e) (X:Nat->Option p),listed.size=ops.size->zkg listed.toList=l->GrowInvZ ops n Φ x J q X listed a w->wpAny P .any ops Q l listed a w:=by
 have ae:=zwh V;have fin:∀(l:Nat) (listed:Array Bool) (a:Act) (w:e) (X:Nat->Option p),listed.size=ops.size->zkg listed.toList=l->GrowInvZ ops n Φ x J q X listed a w->(∀j,j<n->listed[j]? =some true)->wpAny P .any ops Q l listed a w:=by intro l listed a w X N hc inv F;obtain rfl:=yhc N ae F inv.last;rw[ygc] at hc;have T:=aC a w X inv.size inv.defers inv.inv inv.free fun j c m b=>⟨by rw[inv.known j c b,if_pos (F j m)],inv.holds j c m b (F j m)⟩;have U:=wpAny_of_seq (md:= .any) (Q':=Q) (ops.toList.drop n) n (zqq n ops.size) a w (fun j=>by rw[List.getElem?_drop,Array.getElem?_toList]) aJ T;have A:(ops.toList.drop n).length=l:=(by rw[List.length_drop,Array.length_toList];exact hc);rwa[A] at U
 have stuck:∀(listed:Array Bool) (a:Act) (w:e) (X:Nat->Option p),listed.size=ops.size->Region.ready .any ops listed=[]->GrowInvZ ops n Φ x J q X listed a w->∀j,j<n->listed[j]? =some true:=by
  intro listed a w X N hr inv
  have all:∀k i,i<k->i<n->listed[i]? =some true:=by
   intro k;induction k with
   |zero=>intro i f;omega
   |succ k ih=>
    intro i f ab;rcases H i k with h|h
    ·exact ih i h ab
    ·obtain rfl:i=k:=og;have hlo:i<ops.size:=og;have z:i<listed.size:=og;cases O:listed[i] with
     |true=>rw[B z,O]
     |false=>
      exfalso
      have R:i∈Region.ready .any ops listed:=by
       unfold Region.ready;refine List.mem_filter.2 ⟨List.mem_range.2 hlo,?_⟩;have f:ops[i]? =some ops[i]:=B hlo;obtain⟨_,aG,_⟩:=zwg V ab f;rw[f];simp only[Option.map_some,Option.getD_some,D,Bool.not_eq_true'];refine⟨by simp[L,B z,O],Array.all_eq_true'.2 fun r aB=> ?_⟩;cases ay:Region.binds .any r with
       |false=>rfl
       |true=>have b:=aG r.on (List.mem_map.2 ⟨r,List.mem_filter.2 ⟨by simpa using aB,ay⟩,rfl⟩);have:=ih r.on b og;simp[L,this]
      rw[hr] at R;cases R
  exact fun j b=>all (j+1) j og b
 intro l;induction l with
 |zero=>intro listed a w X N hc inv;exfalso;have T:=inv.last n (Nat.le_refl _) ae;have U:=zwa (l:=listed.toList) (i:=n) (b:=false) hc (by rw[Array.getElem?_toList];exact T);cases U
 |succ l ih=>
  intro listed a w X N hc inv;by_cases F:∀j,j<n->listed[j]? =some true
  ·exact fin (l+1) listed a w X N hc inv F
  refine⟨fun hr=>absurd (stuck listed a w X N hr inv) F,fun i R=> ?_⟩;have ab:i<ops.size:=(by unfold Region.ready at R;exact List.mem_range.1 (List.mem_filter.1 R).1);have f:ops[i]? =some ops[i]:=B ab;obtain⟨T,U⟩:=zvb f R;have z:i<listed.size:=og;have O:listed[i]=false:=by simpa[L,B z] using T
  have Z:∀j∈W7 ops[i],listed[j]? =some true:=by
   intro j b;have A:=U j b;rcases H j listed.size with aa|aa
   ·rw[B aa];simp only[L,B aa,Option.getD_some] at A;rw[A]
   ·simp[L,Array.getElem?_eq_none aa] at A
  have I:i<n:=by
   rcases H i n with I|I
   ·exact I
   ·exfalso;rcases Nat.eq_or_lt_of_le I with A|A
    ·subst A;exact F (yfc V (fun o an j b=>by rw[f] at an;cases an;exact Z j b) inv.down)
    ·have ah:=Z n (yhy V A f);rw[inv.last n (Nat.le_refl _) ae] at ah;cases ah
  obtain⟨ad,aH,_⟩:=zwg V I f;have ai:X i=none:=(by rw[inv.known i _ f,if_neg (by rw[B z,O];simp)]);have Y:=aK i ops[i] I f a w X inv.size inv.defers inv.inv (inv.pre i (by rw[B z,O])) ai inv.free fun j c b ao=>⟨by rw[inv.known j c ao,if_pos (Z j b)],inv.holds j c (by have:=aH j b;omega) ao (Z j b)⟩
  have next:∀(v:p) (w':e),E i w w'->J w'->Φ i (if ops[i].dst.isSome then v else s) w' (K6 X i (if ops[i].dst.isSome then v else s))->wpAny P .any ops Q l (listed.setIfInBounds i true) (a.put ops[i].dst v) w':=by
   intro v w' aj ac hv
   have aq:∀t,(∀d,ops[i].dst=some d->t≠d)->(a.put ops[i].dst v).tmps[t]? =a.tmps[t]? :=by
    intro t S;cases hd:ops[i].dst with
    |none=>rfl
    |some d=>exact zwr _ _ (S d hd)
   have au:∀j c,j<n\/c.dst=none\/True->j≠i->ops[j]? =some c->(∀d,ops[i].dst=some d->c.dst≠some d)->K4 (a.put ops[i].dst v).tmps c=K4 a.tmps c:=by
    intro j c _ g b aI;unfold K4;cases aA:c.dst with
    |none=>rfl
    |some av=>exact zye (aq av fun d hd r=>aI d hd (by rw[aA,r]))
   have ar:K4 (a.put ops[i].dst v).tmps ops[i]=if ops[i].dst.isSome then v else s:=by
    unfold K4;cases hd:ops[i].dst with
    |none=>rfl
    |some d=>simp only;rw[zzi _ _ (by rw[inv.size];exact(ad d hd).1)];rfl
   refine ih _ _ _ (K6 X i (if ops[i].dst.isSome then v else s)) (by simp[N]) ?_ ⟨?_,?_,ac,fun k y=> ?_,fun t S=> ?_,fun j c m b ak=> ?_,fun j c b=> ?_,fun k o y al j b=> ?_,fun k y aE=> ?_⟩
   ·have:=zvz (l:=listed.toList) (i:=i) (by simp[z,O]);simp only[Array.toList_setIfInBounds];omega
   ·cases hd:ops[i].dst with
    |none=>exact inv.size
    |some d=>rw[zzj];exact inv.size
   ·cases hd:ops[i].dst with
    |none=>exact inv.defers
    |some d=>exact inv.defers
   ·have W:k≠i:=(by rintro rfl;rw[Array.getElem?_setIfInBounds_self_of_lt z] at y;cases y);rw[Array.getElem?_setIfInBounds_ne (Ne.symm W)] at y;exact hPs k i w w' W (inv.pre k y) inv.inv aj
   ·rw[aq t (by rintro d hd rfl;unfold zmn at S;rw[List.any_eq_false] at S;have:=S i (List.mem_range.2 I);rw[f] at this;simp[hd] at this)];exact inv.free t S
   ·by_cases g:j=i
    ·subst g;rw[f] at b;cases b;rw[ar];exact hv
    ·rw[au j c (.inl m) g b fun d hd r=>g ((ad d hd).2 j c m b r)];rw[Array.getElem?_setIfInBounds_ne (Ne.symm g)] at ak;exact hst j i _ _ _ X _ g ai (inv.holds j c m b ak) inv.inv aj
   ·by_cases g:j=i
    ·subst g;rw[f] at b;cases b;rw[ar,Array.getElem?_setIfInBounds_self_of_lt z,if_pos rfl,K6,if_pos rfl]
    ·rw[zpj g,Array.getElem?_setIfInBounds_ne (Ne.symm g),inv.known j c b];rcases H j n with m|m
     ·rw[au j c (.inl m) g b fun d hd r=>g ((ad d hd).2 j c m b r)]
     ·rw[inv.last j m (Array.getElem?_eq_some_iff.1 b).1];rfl
   ·have aD:listed[j]? =some true:=by
     by_cases W:k=i
     ·subst W;rw[f] at y;cases y;exact Z j b
     ·rw[Array.getElem?_setIfInBounds_ne (Ne.symm W)] at al;exact inv.down k o y al j b
    by_cases g:j=i
    ·subst g;rw[Array.getElem?_setIfInBounds_self_of_lt z]
    ·rw[Array.getElem?_setIfInBounds_ne (Ne.symm g)];exact aD
   ·rw[Array.getElem?_setIfInBounds_ne og];exact inv.last k y aE
  unfold wpOp;rw[f];simp only;split
  ·rename_i af;rw[if_pos af] at Y;exact .inl (Oper.wp_mono (fun ag w' ⟨v,ha,az,ac,hv⟩=>by rw[ha];exact next v w' az ac hv) Y)
  ·rename_i af;rw[if_neg af] at Y;exact next s w (Y s).2 inv.inv (by split<;>exact(Y s).1)
theorem zud {id:Nat} (n:Nat) (Φ:Nat->p->e->(Nat->Option p)->Prop) (x:Nat->e->Prop) (J:e->Prop) (E:Nat->e->e->Prop) (y:P.follows .mixedOrders=true) (hJ0:J h.drew) (hP0:∀i,x i h.drew)
 (hPs:∀i k w w',i≠k->x i w->J w->E k w w'->x i w') (hst:∀i k v w w' X u,i≠k->X k=none->Φ i v w X->J w->E k w w'->Φ i v w' (K6 X k u)) (f:zpt ops n q.tmps.size=true)
 (z:Region.seqB .any ops (ops.toList.drop n).length n (zqq n ops.size)=true)
 (A:∀i o,i<n->ops[i]? =some o->∀(a:Act) (w:e) (X:Nat->Option p),a.tmps.size=q.tmps.size->a.defers=q.defers->J w->x i w->X i=none->(∀t,zmn ops n t=false->a.tmps[t]? =q.tmps[t]?)->
   (∀j b,j∈W7 o->ops[j]? =some b->X j=some (K4 a.tmps b)/\Φ j (K4 a.tmps b) w X)->
   if Region.wanted o (yielded ops a.tmps)=true then o.wp P a w (fun g w'=>∃v,g=a.put o.dst v/\E i w w'/\J w'/\Φ i (if o.dst.isSome then v else s) w' (K6 X i (if o.dst.isSome then v else s))) Q else∀u,Φ i u w (K6 X i u)/\E i w w)
 (l:∀(a:Act) (w:e) (X:Nat->Option p),a.tmps.size=q.tmps.size->a.defers=q.defers->J w->(∀t,zmn ops n t=false->a.tmps[t]? =q.tmps[t]?)->
   (∀j b,j<n->ops[j]? =some b->X j=some (K4 a.tmps b)/\Φ j (K4 a.tmps b) w X)->wpList P ops Q (ops.toList.drop n) a w):
 (Code.region id ops true).wp P Q q h:=by
 have F:=zwh f;refine wp_region_any y (zz1473 hPs hst f z A l _ _ _ _ (fun _=>none) (by simp) (by simp[zvy]) ⟨rfl,rfl,hJ0,fun i _=>hP0 i,fun _ _=>rfl,fun j b C m d=> ?_,fun j b m=> ?_,fun i o B c=> ?_,fun k D r=> ?_⟩)
 ·rw[Array.getElem?_replicate] at d;split at d<;>cases d
 ·rw[if_neg];rw[Array.getElem?_replicate];split<;>simp
 ·rw[Array.getElem?_replicate] at c;split at c<;>cases c
 ·rw[Array.getElem?_replicate,if_pos r]
end
theorem zz1420 {P:Program} {o:C} {a:Act} {w:e} {J:e->Prop} {E:e->Prop} {Φ:p->e->(Nat->Option p)->Prop} {X:Nat->Option p} {Q:Exit->Act->e->Prop}
 (h:∀b:Act->e->Prop,(∀v w',E w'->J w'->Φ (if o.dst.isSome then v else s) w' (K6 X i (if o.dst.isSome then v else s))->b (a.put o.dst v) w')->o.wp P a w b Q):
 o.wp P a w (fun c w'=>∃v,c=a.put o.dst v/\E w'/\J w'/\Φ (if o.dst.isSome then v else s) w' (K6 X i (if o.dst.isSome then v else s))) Q:=
 h _ fun v w' f d hv=>⟨v,rfl,f,d,hv⟩
theorem J0 (w:e) (r:Option Nat):w.grownBy w r:=⟨rfl,rfl,rfl,Nat.le_refl _,fun _ _ _=>rfl⟩
theorem L5 {a b c:e} (h:a.grownBy b r) (k:b.grownBy c r):a.grownBy c r:=
 ⟨k.os.trans h.os,k.tape.trans h.tape,k.output.trans h.output,M h.size k.size,fun j d hr=>(k.block j (G d h.size) hr).trans (h.block j d hr)⟩
theorem zkm (w:e) (o:Obj) (r:Option Nat):w.grownBy (w.alloc o) r:=K9 (L7 w o)
theorem zml {w w':e} {S:Nat->Prop} (d:w.grownBy w' r) (c:∀b,S b->b<w.heap.size/\some b≠r):L6 S S w w':=fun b a=>⟨a,fun o=>K (d.block b (c b a).1 (c b a).2)⟩
theorem OwnS.own_lt {a:Type} {n:Nat} {R:e->(Nat->Prop)->p->a->Prop} {w:e} {S:Nat->Prop} {l:List a} (h:OwnS n t R w base S v l):∀b,v.ownBlock=some b->base<=b/\b<w.heap.size:=by obtain⟨f,c,_⟩:=h;exact fun b d=>c.lt b d
theorem OwnS.grown {f:Type} {n:Nat} {R:e->(Nat->Prop)->p->f->Prop} (o:Stb R) {w w':e} {S:Nat->Prop} {l:List f} (h:OwnS n t R w base S v l)
 (d:w.grownBy w' r) (hr:∀b,r=some b->v.ownBlock≠some b/\¬S b):OwnS n t R w' base S v l:=by
 obtain⟨i,j,k,m,c⟩:=h
 have q:v.ownBlock=none\/v.ownBlock≠r:=by
  cases r with
  |none=>cases v.ownBlock<;>simp
  |some b=>exact .inr (hr b rfl).1
 refine⟨i,j.kept d q,k,m.imp fun x y h=>o.to h (zml d fun b a=>⟨(c b a).1,fun g=>(hr b g.symm).2 a⟩),fun b a=>⟨G (c b a).1 d.size,(c b a).2⟩⟩
theorem OwnS.wider {a:Type} {n:Nat} {R:e->(Nat->Prop)->p->a->Prop} (i:Stb R) {w:e} {S:Nat->Prop} {l:List a} (h:OwnS n t R w base S v l)
 (j:∀b,S b->T b) (k:∀b,T b->b<w.heap.size/\some b≠v.ownBlock):OwnS n t R w base T v l:=by obtain⟨c,d,f,g,q⟩:=h;exact⟨c,d,f,g.imp fun x y h=>i.to h fun b m=>⟨j b m,fun o=>rfl⟩,k⟩
theorem Row.grownN {w w':e} (h:Row w g t xs) (c:w.grownBy w' r) (hr:∀b,r=some b->g≠b):Row w' g t xs:=h.grown c (fun a=>hr g a.symm rfl)
theorem IsD.grownN {w w':e} {l:List Int} (h:IsD w g l) (a:w.grownBy w' r) (hr:∀b,r=some b->g<b):IsD w' g l:=by
 cases r with
 |none=>have m:=h.lt;obtain⟨A,c,k,d,f,i⟩:=h;exact⟨A,c,k,d.grown a (by simp),IsIL.stb.to f (zml a fun b j=>⟨by omega,by simp⟩),i⟩
 |some b=>exact h.grown a (hr b rfl)
structure Kept (d y z:Option Nat) (w w':e):Prop where
 os:w'.os=w.os
 tape:w'.tape=w.tape
 output:w'.output=w.output
 size:w.heap.size<=w'.heap.size
 block:∀k,k<w.heap.size->some k≠d->some k≠y->some k≠z->w'.heap[k]? =w.heap[k]?
theorem Kept.refl (d y z:Option Nat) (w:e):Kept d y z w w:=⟨rfl,rfl,rfl,Nat.le_refl _,fun _ _ _ _ _=>rfl⟩
theorem Kept.step {a b c:e} (h:Kept d y z a b) (k:b.grownBy c r) (hr:r=none\/r=d\/r=y\/r=z):Kept d y z a c:=
 ⟨k.os.trans h.os,k.tape.trans h.tape,k.output.trans h.output,M h.size k.size,fun j f g i l=>(k.block j (G f h.size) (by rcases hr with rfl|rfl|rfl|rfl;simp;exact g;exact i;exact l)).trans (h.block j f g i l)⟩
theorem zyk {w w':e} {S:Nat->Prop} (h:Kept d y z w w') (c:∀b,S b->b<w.heap.size/\some b≠d/\some b≠y/\some b≠z):L6 S S w w':=fun b a=>⟨a,fun o=>K (h.block b (c b a).1 (c b a).2.1 (c b a).2.2.1 (c b a).2.2.2)⟩
def G6 (lo a:Nat):Nat->Prop:=fun b=>lo<=b/\b<a
theorem IsQ.rngG {w w':e} {q:Rat} {lo a:Nat} (h:IsQ w (G6 lo a) v q) (f:w.grownBy w' r) (g:a<=w.heap.size) (hr:∀b,r=some b->b<lo):IsQ w' (G6 lo a) v q:=
 IsQ.stb.to h (zml f fun b c=>⟨G c.2 g,fun d=>by have:=hr b d.symm;have:=c.1;omega⟩)
theorem zry {P:Program} {w:e} {o:C} {a:Act} {g:Act->e->Prop} {Q:Exit->Act->e->Prop} {c:TypeId} {n bytes:Nat} (d:ElN P t c n bytes) (s x:Operand) (O:o.op= .call {callee:= .builtin .append,args:= #[s,x],argTypes:= #[t,t]})
 {f:Type} {R:e->(Nat->Prop)->p->f->Prop} (I:Stb R) {h:Nat} {S:Nat->Prop} {ev:p} {l:List f} {y:f} {ab:TypeId}
 (V:a.eval s=v) (Y:a.eval x= .slice (some ⟨h,0,none⟩) 1 1) (hr:Row w h ab ev.cells.toList) (T:OwnS n c R w base S v l) (M:R w S ev y) (q:ev.cells.size=n)
 (B:∀u∈ev.cells,u.oneCell'=true) (J:(l.length+1)*(bytes+1)<=140737488355328) (K:base<=w.heap.size)
 (H:∀b w',OwnS n c R w' base S b (l++[y])->w.grownBy w' v.ownBlock->(b.ownBlock=v.ownBlock\/b.ownBlock=some w.heap.size)->g (a.put o.dst b) w'):o.wp P a w g Q:=by
 obtain⟨i,z,N,Z,W,L,aa⟩:=d.info
 obtain⟨r,D,E,F,G⟩:=T
 rw[Nat.mul_add,Nat.mul_one] at J
 obtain⟨b,w',U,A,k,_,m⟩:=run_append_own_at (P:=P) w base t o.type c i z n bytes d.und N Z W L aa d.pos v l.length (cellsOf r) D ⟨h,0,none⟩ 1 1 ev.cells.toList (by simp[q])
  (fun j u X=>by rw[Addr.add_lit,Nat.zero_add,hr.cell j];exact X) (by simpa using B) (by unfold maxLen;omega) og K
 unfold Oper.wp execOp
 simp only[O,resolve,invoke,builtin,Sem.run_bind,Sem.run_pure,Result.andThen_ok,List.map_toArray,List.map_cons,List.map_nil,V,Y,U]
 exact H b w' (OwnS.app I E F G M q A k m) k m
def NewRow (w:e) (n0:Nat) (t:TypeId) (xs:List p) (v:p):Prop:=∃h,v= .slice (some ⟨h,0,none⟩) 1 1/\n0<=h/\Row w h t xs
theorem NewRow.grown {w w':e} {n0:Nat} (h:NewRow w n0 t xs v) (f:w.grownBy w' r) (hr:∀b,r=some b->b<n0):NewRow w' n0 t xs v:=by obtain⟨g,a,c,d⟩:=h;exact⟨g,a,c,d.grownN f fun b a=>by have:=hr b a;omega⟩
theorem zll {T:Array p} {t:Nat} (h:T[t]? =some v):T.getD t s=v:=by simp[L,h]
theorem yio {w i c:e} (h:w.grownBy i (some g)) (k:Kept (some g) d y i c) (l:∀b,d=some b->w.heap.size<=b) (m:∀b,y=some b->w.heap.size<=b):w.grownBy c (some g):=
 ⟨k.os.trans h.os,k.tape.trans h.tape,k.output.trans h.output,M h.size k.size,fun j f hr=>(k.block j (G f h.size) hr (fun a=>by have:=l j a.symm;omega) (fun a=>by have:=m j a.symm;omega)).trans (h.block j f hr)⟩
theorem Row.kept {w w':e} (h:Row w g t xs) (k:Kept d y z w w') (a:d≠some g) (b:y≠some g) (c:z≠some g):Row w' g t xs:=(k.block g h.lt (Ne.symm a) (Ne.symm b) (Ne.symm c)).trans h
theorem zuo {w w':e} {n:Nat} (h:w.grownBy w' (some g)) (c:w.heap.size<=n) (o:Nat) (u:p):w.grownBy (w'.setCell ⟨n,o,none⟩ u) (some g):=
 ⟨h.os,h.tape,h.output,by rw[show(w'.setCell ⟨n,o,none⟩ u).heap.size=w'.heap.size by simp[World.setCell]];exact h.size,fun k b hr=>(Below.heap_setCell w' ⟨n,o,none⟩ u k (fun a=>by have:n=k:=a.symm;omega)).trans (h.block k b hr)⟩
theorem ycg {w:e} {x y z:p} (h:w.cell? ⟨b,o,none⟩=some v) (a:b≠c):(N8 w c j x y z).cell? ⟨b,o,none⟩=some v:=(zqc (.inl a)).trans h
theorem zmr {w w':e} {x y z:p} (h:w.grownBy w' (some c)):w.grownBy (N8 w' c j x y z) (some c):=L5 (L5 (L5 h (K0 _ _ _ _)) (K0 _ _ _ _)) (K0 _ _ _ _)
def SN (S:Nat->Prop) (lo:Nat) (w:e):Nat->Prop:=fun b=>S b\/(lo<=b/\b<w.heap.size)
theorem MatW.grow {w w':e} {S:Nat->Prop} {lo r0:Nat} {cp:Nat->Nat} {n:Nat} {A:Nat->Nat->Int} (h:MatW w (SN S lo w) r0 I cp n m A) (hlo:lo<=w.heap.size) (f:Below w.heap.size w w'):MatW w' (SN S lo w') r0 I cp n m A:=
 h.next f (fun b d=>by rcases d with a|a;exact .inl a;exact .inr ⟨a.1,G a.2 f.size⟩) fun b d=>by
  rcases d with a|a
  ·exact .inl (.inl a)
  ·rcases H b w.heap.size with c|c
   ·exact .inl (.inr ⟨a.1,c⟩)
   ·exact .inr ⟨c,a.2⟩
theorem MatW.start {w:e} {S:Nat->Prop} {r0:Nat} {cp:Nat->Nat} {n:Nat} {A:Nat->Nat->Int} (h:MatW w S r0 I cp n m A):MatW w (SN S w.heap.size w) r0 I cp n m A:=
 h.next (Below.refl _ _) (fun b a=> .inl a) fun b a=>by
  rcases a with c|c
  ·exact .inl c
  ·omega
theorem MatW.same {w:e} {S:Nat->Prop} {r0:Nat} {cp:Nat->Nat} {n:Nat} {A B:Nat->Nat->Int} (h:MatW w S r0 I cp n m A) (c:∀i j,i<n->j<m->A i j=B i j):MatW w S r0 I cp n m B:=
 ⟨h.hd,h.hf,h.cap,fun i j a b=>by rw[<-c i j a b];exact h.el i j a b,h.ef,h.inj,h.sep,h.s0,h.sS⟩
theorem zle {w:e} {S:Nat->Prop} {z:Int} (h:IsQ w S v ((z:Int):Rat)):∃P k Q l,v= .agg #[.bool (decide (z<0)),.slice P (A8 z.natAbs).length k,.slice Q (A8 1).length l]:=by obtain⟨A,c,B,d,a,_,_⟩:=h;rw[zzl] at a;exact⟨A,c,B,d,a⟩
theorem yid (z:Int):((z:Rat)<0)↔z<0:=by have:=yjw (z:Rat);rw[Rat.num_intCast,decide_eq_decide] at this;exact this.symm
theorem ymc (z:Int):(decide (0<T7 (z:Rat)))=decide (0<z):=by
 unfold T7;rw[decide_eq_decide];rcases Int.lt_trichotomy z 0 with h|h|h
 ·have a:¬((z:Rat)=0):=(by simpa using(show z≠0 by omega));have b:(z:Rat)<0:=(yid z).2 h;rw[if_neg a,if_pos b];omega
 ·subst h;rw[if_pos (by simp)]
 ·have a:¬((z:Rat)=0):=(by simpa using(show z≠0 by omega));have b:¬((z:Rat)<0):=fun c=>(by have:=(yid z).1 c;omega);rw[if_neg a,if_neg b];omega
def ints (m:Nat) (f:Nat->Int):List Rat:=(List.range m).map fun j=>((f j:Int):Rat)
theorem zsl (m:Nat) (f:Nat->Int):(ints m f).length=m:=by unfold ints;simp
theorem yum (h:j<m):(ints m f)[j]? =some ((f j:Int):Rat):=by unfold ints;rw[List.getElem?_map,List.getElem?_range h];rfl
theorem yig (m:Nat) (f:Nat->Int):ints (m+1) f=ints m f++[((f m:Int):Rat)]:=by unfold ints;rw[List.range_succ,List.map_append];rfl
structure LineW (w:e) (S:Nat->Prop) (b c m:Nat) (f:Nat->Int):Prop where
 blk:∃a,w.heap[b]? =some (.cells a 30 (0,0))
 cap:m<=c/\c<=maxLen
 el:∀j,j<m->∃P k Q l,w.cell? ⟨b,j*3,none⟩=some (.bool (decide (f j<0)))/\w.cell? ⟨b,j*3+1,none⟩=some (.slice P (A8 (f j).natAbs).length k)/\w.cell? ⟨b,j*3+2,none⟩=some (.slice Q (A8 1).length l)/\
  IsQ w S (.agg #[.bool (decide (f j<0)),.slice P (A8 (f j).natAbs).length k,.slice Q (A8 1).length l]) ((f j:Int):Rat)
theorem OwnS.shape {j:Type} {n:Nat} {R:e->(Nat->Prop)->p->j->Prop} {w:e} {S:Nat->Prop} {l:List j} (h:OwnS n t R w base S v l) (A:l≠[]):
 ∃b c a d,v= .slice (some ⟨b,0,none⟩) l.length c/\base<=b/\w.heap[b]? =some (.cells a t (0,0))/\l.length<=c/\c<=maxLen/\a.toList.take (l.length*n)=cellsOf d/\Wid n d/\All2 (R w S) d l/\¬S b/\(∀x,S x->x<w.heap.size):=by
 obtain⟨d,k,o,q,i⟩:=h;rcases k.2 with⟨_,f⟩|⟨g,cap,a,f,r,s,u,y,C,m⟩
 ·exact absurd (List.eq_nil_of_length_eq_zero f) A
 ·exact⟨g,cap,a,d,f,r,s,u,y,m,o,q,fun z=>(i g z).2 (by rw[f];rfl),fun x B=>(i x B).1⟩
theorem zrh {w:e} {n:Nat} (h:w.heap[b]? =some (.cells a t (0,0))) (c:a.toList.take n=xs) (hv:xs[o]? =some v):w.cell? ⟨b,o,none⟩=some v:=by
 rw[cell_of_row w b o _ t (0,0) h];rw[<-c,List.getElem?_take] at hv;split at hv
 ·simpa using hv
 ·cases hv
theorem OwnS.line {w:e} {S:Nat->Prop} (h:OwnS 3 30 IsR w base S v (C4 (ints m f))) (A:1<=m):
 ∃b c,v= .slice (some ⟨b,0,none⟩) m c/\base<=b/\b<w.heap.size/\¬S b/\LineW w S b c m f:=by have i:(C4 (ints m f)).length=m:=(by simp[C4,zsl]);obtain⟨b,c,a,z,rfl,s,d,q,t,g,o,u,x,_⟩:=h.shape (fun n=>by rw[n] at i;simp at i;omega);rw[i] at q g;refine⟨b,c,by rw[i],s,(Array.getElem?_eq_some_iff.1 d).1,x,⟨a,d⟩,⟨q,t⟩,fun j y=> ?_⟩;have hr:(C4 (ints m f))[j]? =some (E0 ((f j:Int):Rat)):=(by unfold C4;rw[List.getElem?_map,yum y];rfl);obtain⟨n,p,r⟩:=u.get hr;obtain⟨P,k,Q,l,rfl⟩:=zle (show IsQ w S n ((f j:Int):Rat) from r);exact⟨P,k,Q,l,zrh d g (znv o (i:=0) p rfl),zrh d g (znv o (i:=1) p rfl),zrh d g (znv o (i:=2) p rfl),r⟩
theorem LineW.keep {w w':e} {S:Nat->Prop} (h:LineW w S b c m f) (a:w'.heap[b]? =w.heap[b]?) (d:∀x,S x->T x/\w'.heap[x]? =w.heap[x]?):LineW w' T b c m f where
 blk:=by rw[a];exact h.blk
 cap:=h.cap
 el j hj:=by obtain⟨P,k,Q,l,i,n,p,q⟩:=h.el j hj;exact⟨P,k,Q,l,(K a).trans i,(K a).trans n,(K a).trans p,IsQ.stb.to q fun x g=>⟨(d x g).1,fun o=>K (d x g).2⟩⟩
def IsVal (w:e) (S:Nat->Prop) (v x:p):Prop:=v=x
theorem IsVal.stb:Stb IsVal:=fun _ _ _ _ _ _ h _=>h
def heads (k m:Nat) (I cp:Nat->Nat):List p:=(List.range k).map fun i=> .slice (some ⟨I i,0,none⟩) m (cp i)
theorem LineW.same {w:e} {S:Nat->Prop} {g:Nat->Int} (h:LineW w S b c m f) (d:∀j,j<m->f j=g j):LineW w S b c m g:=
 ⟨h.blk,h.cap,fun j a=>by rw[<-d j a];exact h.el j a⟩
theorem LineW.lt {w:e} {S:Nat->Prop} (h:LineW w S b c m f):b<w.heap.size:=by obtain⟨a,d⟩:=h.blk;exact(Array.getElem?_eq_some_iff.1 d).1
theorem LineW.free {w:e} {S:Nat->Prop} (h:LineW w S b c m f):w.frozen? ⟨b,o,none⟩=false:=by obtain⟨a,d⟩:=h.blk;simp[World.frozen?,d]
theorem zwx {w:e} (h:w.heap[b]? =some (.cells a t (0,0))):∃d,(w.setCell ⟨b,o,none⟩ u).heap[b]? =some (.cells d t (0,0)):=by have c:=(Array.getElem?_eq_some_iff.1 h).1;have f:w.heap[b]= .cells a t (0,0):=(by have:=B c;rw[h] at this;exact(Option.some.inj this).symm);refine⟨a.setIfInBounds o u,?_⟩;simp[World.setCell,c,Array.getElem_modify,f]
theorem LineW.put {w:e} {S:Nat->Prop} (h:LineW w S b c m f) (H:∀x,S x->x≠b) (L:j<m) {z:Int} {P Q:Option Addr}
 (I:IsQ w S (.agg #[.bool (decide (z<0)),.slice P (A8 z.natAbs).length k,.slice Q (A8 1).length l]) ((z:Int):Rat)):
 LineW (N8 w b j (.bool (decide (z<0))) (.slice P (A8 z.natAbs).length k) (.slice Q (A8 1).length l)) S b c m (fun i=>if i=j then z else f i) where
 blk:=by
  obtain⟨a,g⟩:=h.blk
  obtain⟨J,B⟩:=zwx (o:=j*3) (u:= .bool (decide (z<0))) g
  obtain⟨K,C⟩:=zwx (o:=j*3+1) (u:= .slice P (A8 z.natAbs).length k) B
  exact zwx (o:=j*3+2) (u:= .slice Q (A8 1).length l) C
 cap:=h.cap
 el i hi:=by
  have u:L6 S S w (N8 w b j (.bool (decide (z<0))) (.slice P (A8 z.natAbs).length k) (.slice Q (A8 1).length l)):=fun x v=>⟨v,fun o=>zqc (.inl (H x v))⟩;by_cases g:i=j
  ·subst g;simp only[if_pos];obtain⟨s,y,t,A,n,p,q,_⟩:=h.el i hi;obtain⟨D,E,F⟩:=yky (x:= .bool (decide (z<0))) (y:= .slice P (A8 z.natAbs).length k) (z:= .slice Q (A8 1).length l) n p q;exact⟨P,k,Q,l,D,E,F,IsQ.stb.to I u⟩
  ·simp only[if_neg g];obtain⟨s,y,t,A,n,p,q,G⟩:=h.el i hi;have r:∀d,d<3->i*3+d<j*3\/j*3+3<=i*3+d:=fun d hd=>(by omega);exact⟨s,y,t,A,(zqc (.inr (r 0 og))).trans n,(zqc (.inr (r 1 og))).trans p,(zqc (.inr (r 2 og))).trans q,IsQ.stb.to G u⟩
structure IntW (w:e) (b len:Nat) (f:Nat->Nat):Prop where
 blk:∃a,w.heap[b]? =some (.cells a 3 (0,0))
 el:∀i,i<len->w.cell? ⟨b,i,none⟩=some (.int .i64 ((f i:Nat):Int))
theorem IntW.lt {w:e} {len:Nat} {f:Nat->Nat} (h:IntW w b len f):b<w.heap.size:=by obtain⟨a,c⟩:=h.blk;exact(Array.getElem?_eq_some_iff.1 c).1
theorem IntW.free {w:e} {len:Nat} {f:Nat->Nat} (h:IntW w b len f):w.frozen? ⟨b,o,none⟩=false:=by obtain⟨a,c⟩:=h.blk;simp[World.frozen?,c]
theorem IntW.keep {w w':e} {len:Nat} {f:Nat->Nat} (h:IntW w b len f) (a:w'.heap[b]? =w.heap[b]?):IntW w' b len f:=
 ⟨by rw[a];exact h.blk,fun i c=>(K a).trans (h.el i c)⟩
theorem IntW.same {w:e} {len:Nat} {f g:Nat->Nat} (h:IntW w b len f) (c:∀i,i<len->f i=g i):IntW w b len g:=⟨h.blk,fun i a=>by rw[<-c i a];exact h.el i a⟩
theorem IntW.put {w:e} {len:Nat} {f:Nat->Nat} (h:IntW w b len f) (m:i<len) (v:Nat):IntW (w.setCell ⟨b,i,none⟩ (.int .i64 (v:Int))) b len (O7 f i v) where
 blk:=by obtain⟨a,c⟩:=h.blk;exact zwx c
 el k d:=by
  by_cases c:k=i
  ·subst c;rw[zoq];exact World.cell?_setCell_same _ _ _ (h.el k d)
  ·rw[zor _ _ c,World.cell?_setCell_other _ _ _ _ (fun g=>by injection g with l j;exact c j.symm)];exact h.el k d
structure TabW (w:e) (S:Nat->Prop) (lo:Nat) (bk cp:Nat->Nat) (N:Nat) (len:Nat->Nat) (F:Nat->Nat->Int):Prop where
 line:∀l,l<N->1<=len l->LineW w (SN S lo w) (bk l) (cp l) (len l) (F l)
 inj:∀l k,l<N->k<N->1<=len l->1<=len k->bk l=bk k->l=k
 sep:∀l,l<N->1<=len l->bk l<lo/\¬S (bk l)
 sS:∀b,S b->b<lo
 hlo:lo<=w.heap.size
section
variable {w w' : e} {S : Nat → Prop} {lo N : Nat} {bk cp len : Nat → Nat} {F : Nat → Nat → Int}
theorem TabW.same {a:Nat->Nat->Int} (h:TabW w S lo bk cp N len F) (c:∀l j,l<N->j<len l->F l j=a l j):TabW w S lo bk cp N len a:=
 ⟨fun l b d=>(h.line l b d).same fun j e=>c l j b e,h.inj,h.sep,h.sS,h.hlo⟩
theorem zrx {S:Nat->Prop} {lo:Nat} {w w':e} (c:w.heap.size<=w'.heap.size):∀b,SN S lo w b->SN S lo w' b:=fun b a=>by
 rcases a with h|h
 ·exact .inl h
 ·exact .inr ⟨h.1,G h.2 c⟩
theorem TabW.grown (h:TabW w S lo bk cp N len F) (c:w.grownBy w' r) (hr:∀b,r=some b->b<lo/\¬S b/\∀l,l<N->1<=len l->bk l≠b):TabW w' S lo bk cp N len F where
 line l f e:=by
  refine(h.line l f e).keep (c.block _ (h.line l f e).lt fun d=>(hr _ d.symm).2.2 l f e rfl) fun x a=>⟨zrx c.size x a,c.block _ ?_ fun d=> ?_⟩
  ·rcases a with a|a
   ·exact G (h.sS x a) h.hlo
   ·exact a.2
  ·have:=hr _ d.symm
   rcases a with a|a
   ·exact this.2.1 a
   ·have:=a.1;omega
 inj:=h.inj;sep:=h.sep;sS:=h.sS;hlo:=M h.hlo c.size
theorem TabW.upd (h:TabW w S lo bk cp N len F) (j:l<N) (i:1<=len l) (c:w.grownBy w' (some (bk l))) (n:LineW w' (SN S lo w') (bk l) (cp l) (len l) f):
 TabW w' S lo bk cp N len (fun k=>if k=l then f else F k) where
 line k g e:=by
  by_cases d:k=l
  ·subst d;simp only[if_pos];exact n
  ·simp only[if_neg d]
   refine(h.line k g e).keep (c.block _ (h.line k g e).lt fun b=>d (h.inj _ _ g j e i (by injection b))) fun x a=>⟨zrx c.size x a,c.block _ ?_ fun b=> ?_⟩
   ·rcases a with a|a
    ·exact G (h.sS x a) h.hlo
    ·exact a.2
   ·have m:=h.sep l j i
    injection b with b
    rcases a with a|a
    ·exact m.2 (by rw[<-b];exact a)
    ·have:=a.1;omega
 inj:=h.inj;sep:=h.sep;sS:=h.sS;hlo:=M h.hlo c.size
end
end Go.Proofs.YtlhhbccgfkhflaaGreatDoor
