/-
 A region a draws its order,as in d;c holds all b n k f m of b values a there h e,and c g l i of b value a j o.
-/
import Derived.Test.YtlhhbccgfkhflaaGreatDoorProofDualWeak22
namespace Go.Proofs.YtlhhbccgfkhflaaGreatDoor
open Go.RowKit
set_option linter.unusedVariables false
set_option maxRecDepth 100000
set_option maxHeartbeats 8000000
open _root_.Array renaming getElem?_eq_getElem → aa, getD_eq_getD_getElem? → ad
open _root_.Go renaming World → c, Value → e, TypeId → ab, undef → f
variable {hi lo : Nat}
section
variable {P : Program} {ops : Array Oper} {Q : Exit → Act → c → Prop} {Φ : Nat → e → c → (Nat → Option e) → Prop} {Y : Nat → c → Prop} {J : c → (Nat → Option e) → Prop} {E : Nat → c → e → c → Prop} {m : Act} {h : c} {n : Nat}
structure GrowInvV (ops:Array Oper) (n:Nat) (Φ:Nat->e->c->(Nat->Option e)->Prop) (Y:Nat->c->Prop) (J:c->(Nat->Option e)->Prop) (m:Act) (X:Nat->Option e) (listed:Array Bool) (a:Act) (w:c):Prop where
 size:a.tmps.size=m.tmps.size
 defers:a.defers=m.defers
 inv:J w X
 pre:∀i,listed[i]? =some false->Y i w
 free:∀t,zmn ops n t=false->a.tmps[t]? =m.tmps[t]?
 holds:∀j oj,j<n->ops[j]? =some oj->listed[j]? =some true->Φ j (K4 a.tmps oj) w X
 known:∀j oj,ops[j]? =some oj->X j=if listed[j]? =some true then some (K4 a.tmps oj) else none
 down:∀(i:Nat) (o:Oper),ops[i]? =some o->listed[i]? =some true->∀j∈W7 o,listed[j]? =some true
 last:∀k,n<=k->k<ops.size->listed[k]? =some false
theorem zz1471 (hPs:∀i k w w' X u,i≠k->Y i w->J w X->E k w u w'->Y i w') (hst:∀i k v w w' X u,i≠k->X k=none->Φ i v w X->J w X->E k w u w'->Φ i v w' (K6 X k u)) (K:zpt ops n m.tmps.size=true)
 (aC:Region.seqB .any ops (ops.toList.drop n).length n (zqq n ops.size)=true)
 (aD:∀i o,i<n->ops[i]? =some o->∀(a:Act) (w:c) (X:Nat->Option e),a.tmps.size=m.tmps.size->a.defers=m.defers->J w X->Y i w->X i=none->(∀p,zmn ops n p=false->a.tmps[p]? =m.tmps[p]?)->
   (∀b j,b∈W7 o->ops[b]? =some j->X b=some (K4 a.tmps j)/\Φ b (K4 a.tmps j) w X)->
   if Region.wanted o (yielded ops a.tmps)=true then o.wp P a w (fun V w'=>∃v,V=a.put o.dst v/\E i w (if o.dst.isSome then v else f) w'/\J w' (K6 X i (if o.dst.isSome then v else f))/\Φ i (if o.dst.isSome then v else f) w' (K6 X i (if o.dst.isSome then v else f))) Q else∀u,Φ i u w (K6 X i u)/\E i w u w/\J w (K6 X i u))
 (au:∀(a:Act) (w:c) (X:Nat->Option e),a.tmps.size=m.tmps.size->a.defers=m.defers->J w X->(∀p,zmn ops n p=false->a.tmps[p]? =m.tmps[p]?)->
   (∀b j,b<n->ops[b]? =some j->X b=some (K4 a.tmps j)/\Φ b (K4 a.tmps j) w X)->wpList P ops Q (ops.toList.drop n) a w):
 ∀(q:Nat) (listed:Array Bool) (a:Act) (w:c) (X:Nat->Option e),listed.size=ops.size->zkg listed.toList=q->GrowInvV ops n Φ Y J m X listed a w->wpAny P .any ops Q q listed a w:=by
 have T:=zwh K;have fin:∀(q:Nat) (listed:Array Bool) (a:Act) (w:c) (X:Nat->Option e),listed.size=ops.size->zkg listed.toList=q->GrowInvV ops n Φ Y J m X listed a w->(∀b,b<n->listed[b]? =some true)->wpAny P .any ops Q q listed a w:=by intro q listed a w X B hc inv z;obtain rfl:=yhc B T z inv.last;rw[ygc] at hc;have H:=au a w X inv.size inv.defers inv.inv inv.free fun b j r g=>⟨by rw[inv.known b j g,if_pos (z b r)],inv.holds b j r g (z b r)⟩;have I:=wpAny_of_seq (md:= .any) (Q':=Q) (ops.toList.drop n) n (zqq n ops.size) a w (fun b=>by rw[List.getElem?_drop,Array.getElem?_toList]) aC H;have y:(ops.toList.drop n).length=q:=(by rw[List.length_drop,Array.length_toList];exact hc);rwa[y] at I
 have stuck:∀(listed:Array Bool) (a:Act) (w:c) (X:Nat->Option e),listed.size=ops.size->Region.ready .any ops listed=[]->GrowInvV ops n Φ Y J m X listed a w->∀b,b<n->listed[b]? =some true:=by
  intro listed a w X B hr inv
  have all:∀k i,i<k->i<n->listed[i]? =some true:=by
   intro k;induction k with
   |zero=>intro i hi;omega
   |succ k ih=>
    intro i hi O;rcases Nat.lt_or_ge i k with h|h
    ·exact ih i h O
    ·obtain rfl:i=k:=(by omega);have hlo:i<ops.size:=(by omega);have x:i<listed.size:=(by omega);cases C:listed[i] with
     |true=>rw[aa x,C]
     |false=>
      exfalso
      have D:i∈Region.ready .any ops listed:=by
       unfold Region.ready;refine List.mem_filter.2 ⟨List.mem_range.2 hlo,?_⟩;have hi:ops[i]? =some ops[i]:=aa hlo;obtain⟨_,az,_⟩:=zwg K O hi;rw[hi];simp only[Option.map_some,Option.getD_some,Bool.and_eq_true,Bool.not_eq_true'];refine⟨by simp[ad,aa x,C],Array.all_eq_true'.2 fun s ar=> ?_⟩;cases an:Region.binds .any s with
       |false=>rfl
       |true=>have g:=az s.on (List.mem_map.2 ⟨s,List.mem_filter.2 ⟨by simpa using ar,an⟩,rfl⟩);have:=ih s.on g og;simp[ad,this]
      rw[hr] at D;cases D
  exact fun b g=>all (b+1) b og g
 intro q;induction q with
 |zero=>intro listed a w X B hc inv;exfalso;have H:=inv.last n (Nat.le_refl _) T;have I:=zwa (l:=listed.toList) (i:=n) (b:=false) hc (by rw[Array.getElem?_toList];exact H);cases I
 |succ q ih=>
  intro listed a w X B hc inv;by_cases z:∀b,b<n->listed[b]? =some true
  ·exact fin (q+1) listed a w X B hc inv z
  refine⟨fun hr=>absurd (stuck listed a w X B hr inv) z,fun i D=> ?_⟩;have O:i<ops.size:=(by unfold Region.ready at D;exact List.mem_range.1 (List.mem_filter.1 D).1);have hi:ops[i]? =some ops[i]:=aa O;obtain⟨H,I⟩:=zvb hi D;have x:i<listed.size:=(by omega);have C:listed[i]=false:=by simpa[ad,aa x] using H
  have M:∀b∈W7 ops[i],listed[b]? =some true:=by
   intro b g;have y:=I b g;rcases Nat.lt_or_ge b listed.size with N|N
   ·rw[aa N];simp only[ad,aa N,Option.getD_some] at y;rw[y]
   ·simp[ad,Array.getElem?_eq_none N] at y
  have A:i<n:=by
   rcases Nat.lt_or_ge i n with A|A
   ·exact A
   ·exfalso;rcases Nat.eq_or_lt_of_le A with y|y
    ·subst y;exact z (yfc K (fun o ag b g=>by rw[hi] at ag;cases ag;exact M b g) inv.down)
    ·have W:=M n (yhy K y hi);rw[inv.last n (Nat.le_refl _) T] at W;cases W
  obtain⟨S,aA,_⟩:=zwg K A hi;have Z:X i=none:=(by rw[inv.known i _ hi,if_neg (by rw[aa x,C];simp)]);have F:=aD i ops[i] A hi a w X inv.size inv.defers inv.inv (inv.pre i (by rw[aa x,C])) Z inv.free fun b j g ah=>⟨by rw[inv.known b j ah,if_pos (M b g)],inv.holds b j (by have:=aA b g;omega) ah (M b g)⟩
  have next:∀(v:e) (w':c),E i w (if ops[i].dst.isSome then v else f) w'->J w' (K6 X i (if ops[i].dst.isSome then v else f))->Φ i (if ops[i].dst.isSome then v else f) w' (K6 X i (if ops[i].dst.isSome then v else f))->wpAny P .any ops Q q (listed.setIfInBounds i true) (a.put ops[i].dst v) w':=by
   intro v w' ac R hv
   have ai:∀p,(∀d,ops[i].dst=some d->p≠d)->(a.put ops[i].dst v).tmps[p]? =a.tmps[p]? :=by
    intro p G;cases hd:ops[i].dst with
    |none=>rfl
    |some d=>exact zwr _ _ (G d hd)
   have ak:∀b j,b<n\/j.dst=none\/True->b≠i->ops[b]? =some j->(∀d,ops[i].dst=some d->j.dst≠some d)->K4 (a.put ops[i].dst v).tmps j=K4 a.tmps j:=by
    intro b j _ l g aB;unfold K4;cases aq:j.dst with
    |none=>rfl
    |some al=>exact zye (ai al fun d hd s=>aB d hd (by rw[aq,s]))
   have aj:K4 (a.put ops[i].dst v).tmps ops[i]=if ops[i].dst.isSome then v else f:=by
    unfold K4;cases hd:ops[i].dst with
    |none=>rfl
    |some d=>simp only;rw[zzi _ _ (by rw[inv.size];exact(S d hd).1)];rfl
   refine ih _ _ _ (K6 X i (if ops[i].dst.isSome then v else f)) (by simp[B]) ?_ ⟨?_,?_,R,fun k t=> ?_,fun p G=> ?_,fun b j r g ae=> ?_,fun b j g=> ?_,fun k o t af b g=> ?_,fun k t ay=> ?_⟩
   ·have:=zvz (l:=listed.toList) (i:=i) (by simp[x,C]);simp only[Array.toList_setIfInBounds];omega
   ·cases hd:ops[i].dst with
    |none=>exact inv.size
    |some d=>rw[zzj];exact inv.size
   ·cases hd:ops[i].dst with
    |none=>exact inv.defers
    |some d=>exact inv.defers
   ·have L:k≠i:=(by rintro rfl;rw[Array.getElem?_setIfInBounds_self_of_lt x] at t;cases t);rw[Array.getElem?_setIfInBounds_ne (Ne.symm L)] at t;exact hPs k i w w' X _ L (inv.pre k t) inv.inv ac
   ·rw[ai p (by rintro d hd rfl;unfold zmn at G;rw[List.any_eq_false] at G;have:=G i (List.mem_range.2 A);rw[hi] at this;simp[hd] at this)];exact inv.free p G
   ·by_cases l:b=i
    ·subst l;rw[hi] at g;cases g;rw[aj];exact hv
    ·rw[ak b j (.inl r) l g fun d hd s=>l ((S d hd).2 b j r g s)];rw[Array.getElem?_setIfInBounds_ne (Ne.symm l)] at ae;exact hst b i _ _ _ X _ l Z (inv.holds b j r g ae) inv.inv ac
   ·by_cases l:b=i
    ·subst l;rw[hi] at g;cases g;rw[aj,Array.getElem?_setIfInBounds_self_of_lt x,if_pos rfl,K6,if_pos rfl]
    ·rw[zpj l,Array.getElem?_setIfInBounds_ne (Ne.symm l),inv.known b j g];rcases Nat.lt_or_ge b n with r|r
     ·rw[ak b j (.inl r) l g fun d hd s=>l ((S d hd).2 b j r g s)]
     ·rw[inv.last b r (Array.getElem?_eq_some_iff.1 g).1];rfl
   ·have av:listed[b]? =some true:=by
     by_cases L:k=i
     ·subst L;rw[hi] at t;cases t;exact M b g
     ·rw[Array.getElem?_setIfInBounds_ne (Ne.symm L)] at af;exact inv.down k o t af b g
    by_cases l:b=i
    ·subst l;rw[Array.getElem?_setIfInBounds_self_of_lt x]
    ·rw[Array.getElem?_setIfInBounds_ne (Ne.symm l)];exact av
   ·rw[Array.getElem?_setIfInBounds_ne og];exact inv.last k t ay
  unfold wpOp;rw[hi];simp only;split
  ·rename_i U;rw[if_pos U] at F;exact .inl (Oper.wp_mono (fun V w' ⟨v,ha,ao,R,hv⟩=>by rw[ha];exact next v w' ao R hv) F)
  ·rename_i U;rw[if_neg U] at F;exact next f w (by split<;>exact(F f).2.1) (by split<;>exact(F f).2.2) (by split<;>exact(F f).1)
theorem zz1483 {id:Nat} (n:Nat) (Φ:Nat->e->c->(Nat->Option e)->Prop) (Y:Nat->c->Prop) (J:c->(Nat->Option e)->Prop) (E:Nat->c->e->c->Prop) (x:P.follows .mixedOrders=true) (hJ0:J h.drew (fun _=>none)) (hP0:∀i,Y i h.drew)
 (hPs:∀i k w w' X u,i≠k->Y i w->J w X->E k w u w'->Y i w') (hst:∀i k v w w' X u,i≠k->X k=none->Φ i v w X->J w X->E k w u w'->Φ i v w' (K6 X k u)) (p:zpt ops n m.tmps.size=true)
 (y:Region.seqB .any ops (ops.toList.drop n).length n (zqq n ops.size)=true)
 (z:∀i o,i<n->ops[i]? =some o->∀(a:Act) (w:c) (X:Nat->Option e),a.tmps.size=m.tmps.size->a.defers=m.defers->J w X->Y i w->X i=none->(∀g,zmn ops n g=false->a.tmps[g]? =m.tmps[g]?)->
   (∀b d,b∈W7 o->ops[b]? =some d->X b=some (K4 a.tmps d)/\Φ b (K4 a.tmps d) w X)->
   if Region.wanted o (yielded ops a.tmps)=true then o.wp P a w (fun q w'=>∃v,q=a.put o.dst v/\E i w (if o.dst.isSome then v else f) w'/\J w' (K6 X i (if o.dst.isSome then v else f))/\Φ i (if o.dst.isSome then v else f) w' (K6 X i (if o.dst.isSome then v else f))) Q else∀u,Φ i u w (K6 X i u)/\E i w u w/\J w (K6 X i u))
 (r:∀(a:Act) (w:c) (X:Nat->Option e),a.tmps.size=m.tmps.size->a.defers=m.defers->J w X->(∀g,zmn ops n g=false->a.tmps[g]? =m.tmps[g]?)->
   (∀b d,b<n->ops[b]? =some d->X b=some (K4 a.tmps d)/\Φ b (K4 a.tmps d) w X)->wpList P ops Q (ops.toList.drop n) a w):
 (Code.region id ops true).wp P Q m h:=by
 have C:=zwh p;refine wp_region_any x (zz1471 hPs hst p y z r _ _ _ _ (fun _=>none) (by simp) (by simp[zvy]) ⟨rfl,rfl,hJ0,fun i _=>hP0 i,fun _ _=>rfl,fun b d A s l=> ?_,fun b d s=> ?_,fun i o hi j=> ?_,fun k B t=> ?_⟩)
 ·rw[Array.getElem?_replicate] at l;split at l<;>cases l
 ·rw[if_neg];rw[Array.getElem?_replicate];split<;>simp
 ·rw[Array.getElem?_replicate] at j;split at j<;>cases j
 ·rw[Array.getElem?_replicate,if_pos t]
end
theorem ynx {P:Program} {w:c} {ops:Array Oper} {rest:List Oper} {o:Oper} {a:Act} {Q:Exit->Act->c->Prop} {f d:ab} {n bytes:Nat} (E:ElN P f d n bytes) (J:o.guard=none) (s x:Operand) (K:o.op= .call {callee:= .builtin .append,args:= #[s,x],argTypes:= #[f,f]})
 {Z:Type} {R:c->(Nat->Prop)->e->Z->Prop} (D:Stb R) {base h:Nat} {S:Nat->Prop} {v ev:e} {l:List Z} {y:Z} {X:ab}
 (M:a.eval s=v) (T:a.eval x= .slice (some ⟨h,0,none⟩) 1 1) (hr:Row w h X ev.cells.toList) (L:OwnS n d R w base S v l) (I:R w S ev y) (k:ev.cells.size=n)
 (q:∀u∈ev.cells,u.oneCell'=true) (F:(l.length+1)*(bytes+1)<=140737488355328) (G:base<=w.heap.size)
 (C:∀b w',OwnS n d R w' base S b (l++[y])->w.grownBy w' v.ownBlock->(b.ownBlock=v.ownBlock\/b.ownBlock=some w.heap.size)->wpList P ops Q rest (a.put o.dst b) w'):wpList P ops Q (o::rest) a w:=by
 obtain⟨i,z,hi,U,N,H,V⟩:=E.info
 obtain⟨m,r,t,A,B⟩:=L
 rw[Nat.mul_add,Nat.mul_one] at F
 exact wpList_append_own_at _ J s x f K base d i z n bytes E.und hi U N H V E.pos v l.length (cellsOf m) M r ⟨h,0,none⟩ 1 1 ev.cells.toList T (by simp[k])
  (fun W u O=>by rw[Addr.add_lit,Nat.zero_add,hr.cell W];exact O) (by simpa using q) (by unfold maxLen;omega) og G fun b w' p g _ j=>C b w' (OwnS.app D t A B I k p g j) g j
def twU (r:Option Nat) (w:c) (u:e) (w':c):Prop:=∀a,u.ownBlock=some a->a<w'.heap.size/\(r=some a\/w.heap.size<=a)
def twX (w:c) (x:Option e):Prop:=∀u,x=some u->∀a,u.ownBlock=some a->a<w.heap.size
theorem twX.grown {w w':c} {x:Option e} {r:Option Nat} (h:twX w x) (d:w.grownBy w' r):twX w' x:=fun u b a f=>Nat.lt_of_lt_of_le (h u b a f) d.size
theorem twX.none (w:c):twX w none:=fun u a=>by cases a
section
variable {Z : Type} {n : Nat} {T : ab} {R : c → (Nat → Prop) → e → Z → Prop} {w w' : c} {base n0 : Nat} {S : Nat → Prop} {va b v u : e} {l : List Z} {x : Option e} {r : Option Nat}
def AppK (n:Nat) (T:ab) (R:c->(Nat->Prop)->e->Z->Prop) (w:c) (base n0:Nat) (S:Nat->Prop) (va v:e) (l:List Z) (x:Option e):Prop:=
 OwnS n T R w base S v l/\x=some v/\(v.ownBlock=va.ownBlock\/∃a,v.ownBlock=some a/\n0<=a)
def App2 (n:Nat) (T:ab) (R:c->(Nat->Prop)->e->Z->Prop) (w:c) (base n0:Nat) (S:Nat->Prop) (b v:e) (l:List Z) (x:Option e):Prop:=
 OwnS n T R w base S v l/\(v.ownBlock=b.ownBlock\/∃a,v.ownBlock=some a/\n0<=a/\a<w.heap.size/\∀u,x=some u->u.ownBlock≠some a)
theorem yni {a:Nat} (h:v.ownBlock=va.ownBlock\/∃a,v.ownBlock=some a/\n0<=a) (e:a<n0) (c:va.ownBlock≠some a):v.ownBlock≠some a:=by
 rcases h with h|⟨d,h,hc⟩
 ·rw[h];exact c
 ·rw[h];intro b;cases b;omega
theorem AppK.grown (d:Stb R) (h:AppK n T R w base n0 S va v l x) (c:w.grownBy w' r) (hr:∀a,r=some a->a<n0/\va.ownBlock≠some a/\¬S a):AppK n T R w' base n0 S va v l x:=
 ⟨h.1.grown d c fun a b=>⟨yni h.2.2 (hr a b).1 (hr a b).2.1,(hr a b).2.2⟩,h.2⟩
theorem App2.grown (p:Stb R) (h:App2 n T R w base n0 S b v l x) (m:w.grownBy w' r) (hr:∀i,r=some i->i<n0/\b.ownBlock≠some i/\¬S i):App2 n T R w' base n0 S b v l x:=
 ⟨h.1.grown p m fun i k=>⟨yni (n0:=n0) (h.2.imp id fun⟨j,a,d,_⟩=>⟨j,a,d⟩) (hr i k).1 (hr i k).2.1,(hr i k).2.2⟩,h.2.imp id fun⟨j,a,d,o,g⟩=>⟨j,a,d,Nat.lt_of_lt_of_le o m.size,g⟩⟩
theorem App2.other (q:Stb R) (h:App2 n T R w base n0 S b v l none) (j:w.grownBy w' va.ownBlock) (hr:∀g,va.ownBlock=some g->g<n0/\b.ownBlock≠some g/\¬S g) (r:twU va.ownBlock w u w'):App2 n T R w' base n0 S b v l (some u):=by
 have p:=h.grown q j hr;refine⟨p.1,h.2.imp id fun⟨i,a,d,o,_⟩=>⟨i,a,d,Nat.lt_of_lt_of_le o j.size,fun t m s=> ?_⟩⟩;cases m;rcases(r i s).2 with k|k
 ·have:=(hr i k).1;omega
 ·omega
theorem zz1453 {p:Type} {A:Nat} {s:ab} {q:c->(Nat->Prop)->e->p->Prop} {r:Nat->Prop} {z:List p} {m o:e} {t:Nat} (i:AppK n T R w base n0 S va m l (some u)) (k:App2 A s q w t n0 r b o z (some u)) (ha:∀a,va.ownBlock=some a->a<n0/\b.ownBlock≠some a) (x:∀a,b.ownBlock=some a->a<n0):∀a,m.ownBlock=some a->o.ownBlock≠some a:=by
 obtain⟨_,v,i⟩:=i;cases v;intro a h f;rcases i with j|⟨B,j,C⟩
 ·rw[j] at h;rcases k.2 with g|⟨d,g,D,_⟩
  ·rw[g] at f;exact(ha a h).2 f
  ·rw[g] at f;cases f;have:=(ha a h).1;omega
 ·rcases k.2 with g|⟨d,g,_,_,y⟩
  ·rw[g] at f;rw[j] at h;cases h;have:=x a f;omega
  ·rw[g] at f;cases f;exact y _ rfl h
end
def twJ (ac:c->Prop) (k:Nat) (w:c) (X:Nat->Option e):Prop:=ac w/\twX w (X k)
def twE (blk:Nat->Option Nat) (k a:Nat) (w:c) (u:e) (w':c):Prop:=w.grownBy w' (blk a)/\(a=k->twU (blk k) w u w')
section
variable {P : Program} {o : Oper} {a : Act} {w : c} {Φ : Nat → e → c → (Nat → Option e) → Prop} {blk : Nat → Option Nat} {ac : c → Prop} {Q : Exit → Act → c → Prop} {i k : Nat} {X : Nat → Option e}
theorem zrz (e:i≠k) (hd:o.dst.isSome=true) (m:twX w (X k)) (h:∀b:Act->c->Prop,(∀v w',w.grownBy w' (blk i)->ac w'->Φ i v w' (K6 X i v)->b (a.put o.dst v) w')->o.wp P a w b Q):
 o.wp P a w (fun g w'=>∃v,g=a.put o.dst v/\twE blk k i w (if o.dst.isSome then v else f) w'/\twJ ac k w' (K6 X i (if o.dst.isSome then v else f))/\Φ i (if o.dst.isSome then v else f) w' (K6 X i (if o.dst.isSome then v else f))) Q:=by
 refine h _ fun v w' d l hv=>⟨v,rfl,⟨d,fun j=>absurd j e⟩,⟨l,?_⟩,?_⟩
 ·rw[zpj (Ne.symm e)];exact m.grown d
 ·rw[if_pos hd];exact hv
theorem zz1421 (hd:o.dst.isSome=true) (h:∀b:Act->c->Prop,(∀v w',w.grownBy w' (blk k)->ac w'->twU (blk k) w v w'->Φ k v w' (K6 X k v)->b (a.put o.dst v) w')->o.wp P a w b Q):
 o.wp P a w (fun e w'=>∃v,e=a.put o.dst v/\twE blk k k w (if o.dst.isSome then v else f) w'/\twJ ac k w' (K6 X k (if o.dst.isSome then v else f))/\Φ k (if o.dst.isSome then v else f) w' (K6 X k (if o.dst.isSome then v else f))) Q:=by
 refine h _ fun v w' j m d hv=>⟨v,rfl,⟨j,fun _=> ?_⟩,⟨m,?_⟩,?_⟩
 ·rw[if_pos hd];exact d
 ·rw[if_pos hd,K6,if_pos rfl];intro u i g l;cases i;exact(d g l).1
 ·rw[if_pos hd];exact hv
theorem zz1460 {v:e}:K6 X k v k=some v:=if_pos rfl
end
structure LSt (w W:c) (g j sb:Nat) (l:List Int) (I B d C:Nat) (K L M H t y z D F G:e) (q:ProgQ) (s:Sol) (N V:e) (SP U:Nat->Prop) (p A:List (List Rat)):Prop where
 s:DSt w W g j sb l I B d C K L M H t y z D F G q s
 pl:OwnS 1 26 IsV W (j+1) SP N (I0 p)
 ml:OwnS 1 26 IsV W (j+1) U V (I0 A)
 oP:∀b,N.ownBlock=some b->(b<d\/sb<b)/\¬U b/\V.ownBlock≠some b
 oM:∀b,V.ownBlock=some b->(b<d\/sb<b)/\¬SP b/\N.ownBlock≠some b
 sP:∀b,SP b->d<=b
 sM:∀b,U b->d<=b
section
variable {w W O : c} {g j sb : Nat} {l : List Int} {I B d C : Nat} {K L M H t y z D F G : e} {q : ProgQ} {s : Sol} {N V : e} {SP U : Nat → Prop} {p A : List (List Rat)}
theorem DSt.far (h:DSt w W g j sb l I B d C K L M H t y z D F G q s) {r:Option Nat} (c:W.grownBy O r) (hr:∀a,r=some a->j<a/\(a<d\/sb<a)):DSt w O g j sb l I B d C K L M H t y z D F G q s:=by have o:=h.ord;have f:∀lo hi,(hi<=j\/(d<=lo/\hi<=sb))->L6 (G6 lo hi) (G6 lo hi) W O:=fun lo hi i=>zml c fun a e=>⟨by have:=e.2;omega,fun b=>by have:=hr a b.symm;have:=e.1;have:=e.2;omega⟩;exact⟨h.bel.grown c h.bel.size fun a b=>by have:=hr a b;omega,h.d.grownN c fun a b=>by have:=hr a b;omega,h.rp.grownN c fun a b=>by have:=hr a b;omega,IsP.stb.to h.vp (f _ _ og),h.rs.grownN c fun a b=>by have:=hr a b;omega,IsSol.stb.to h.vs (f _ _ og),by have:=c.size;omega⟩
theorem LSt.swap (h:LSt w W g j sb l I B d C K L M H t y z D F G q s N V SP U p A):LSt w W g j sb l I B d C K L M H t y z D F G q s V N U SP A p:=⟨h.s,h.ml,h.pl,h.oM,h.oP,h.sM,h.sP⟩
theorem LSt.next (h:LSt w W g j sb l I B d C K L M H t y z D F G q s N V SP U p A) (b:Below W.heap.size W O):LSt w O g j sb l I B d C K L M H t y z D F G q s N V SP U p A:=
 ⟨h.s.next b,h.pl.grown IsV.stb (r:=none) (K9 b) (fun c a=>by cases a),h.ml.grown IsV.stb (r:=none) (K9 b) (fun c a=>by cases a),h.oP,h.oM,h.sP,h.sM⟩
theorem LSt.draw (h:LSt w W g j sb l I B d C K L M H t y z D F G q s N V SP U p A) (b:W.grownBy O (some g)) (hd:IsD O g l):LSt w O g j sb l I B d C K L M H t y z D F G q s N V SP U p A:=by have o:=h.s.ord;exact⟨h.s.draw b hd,h.pl.grown IsV.stb b (fun c a=>by cases a;exact⟨fun k=>by have:=(h.pl.own_lt _ k).1;omega,fun k=>by have:=h.sP _ k;omega⟩),h.ml.grown IsV.stb b (fun c a=>by cases a;exact⟨fun k=>by have:=(h.ml.own_lt _ k).1;omega,fun k=>by have:=h.sM _ k;omega⟩),h.oP,h.oM,h.sP,h.sM⟩
theorem LSt.addP (h:LSt w W g j sb l I B d C K L M H t y z D F G q s N V SP U p A) {c:e} {r:List Rat} (E:OwnS 1 26 IsV O (j+1) (fun a=>SP a\/G6 lo hi a) c (I0 p++[C4 r])) (i:W.grownBy O N.ownBlock) (m:c.ownBlock=N.ownBlock\/c.ownBlock=some W.heap.size)
 (n:d<=lo) (P:hi<=W.heap.size) (u:∀a,V.ownBlock=some a->a<lo):LSt w O g j sb l I B d C K L M H t y z D F G q s c V (fun a=>SP a\/G6 lo hi a) U (p++[r]) A:=by
 have o:=h.s.ord;have J:∀a,U a->a<W.heap.size:=fun a x=>(by obtain⟨_,_,_,_,v⟩:=h.ml;exact(v a x).1);refine⟨h.s.far i fun a b=>⟨by have:=(h.pl.own_lt a b).1;omega,(h.oP a b).1⟩,by rw[yle];exact E,h.ml.grown IsV.stb i fun a b=>⟨(h.oP a b).2.2,(h.oP a b).2.1⟩,fun a b=> ?_,fun a b=>⟨(h.oM a b).1,fun k=> ?_,fun k=> ?_⟩,fun a k=> ?_,h.sM⟩
 ·rcases m with k|k
  ·rw[k] at b;exact h.oP a b
  ·rw[k] at b;cases b;exact⟨.inr o.2.2.2.2.2.2.2,fun k=>by have:=J _ k;omega,fun k=>by have:=(h.ml.own_lt _ k).2;omega⟩
 ·rcases k with k|k
  ·exact(h.oM a b).2.1 k
  ·have:=u a b;have:=k.1;omega
 ·rcases m with f|f
  ·rw[f] at k;exact(h.oM a b).2.2 k
  ·rw[f] at k;cases k;have:=(h.ml.own_lt _ b).2;omega
 ·rcases k with k|k
  ·exact h.sP a k
  ·exact Nat.le_trans n k.1
theorem LSt.preP (h:LSt w W g j sb l I B d C K L M H t y z D F G q s N V SP U p A) (c:∀a,N.ownBlock=some a->a<lo) (f:hi<=W.heap.size):OwnS 1 26 IsV W (j+1) (fun a=>SP a\/G6 lo hi a) N (I0 p):=
 h.pl.wider IsV.stb (fun a k=> .inl k) fun a k=>by
  rcases k with k|k
  ·obtain⟨_,_,_,_,e⟩:=h.pl;exact e a k
  ·exact⟨by have:=k.2;omega,fun b=>by have:=c a b.symm;have:=k.1;omega⟩
end
theorem zzz {w:c} {S:Nat->Prop} {H t y z D F G:e} {s:Sol} (h:IsSol w S (.agg #[H,t,y,z,D,F,G]) s):IsR w S (.agg #[t,y,z]) s.val/\IsV w S D s.X/\IsV w S F s.D/\IsV w S G s.R:=by obtain⟨P,k,Q,l,A,a,B,j,C,m,b,d,f,g,i⟩:=h;simp only[Value.agg.injEq,Array.mk.injEq,List.cons.injEq,and_true] at b;obtain⟨rfl,rfl,rfl,rfl,rfl,rfl,rfl⟩:=b;exact⟨d,f,g,i⟩
theorem yzw {w:c} {g:Nat} {l:List Int} (hD:IsD w g l) {a b:Int} (ha:0<=a/\a<=40) (i:0<=b/\b<=40):
 Calls Tryz.prog 39 #[.pointer (some ⟨g,0,none⟩),.int .i64 a,.int .i64 b] w fun d w'=>yay a.toNat b.toNat w.heap.size d w'/\IsD w' g l/\w.grownBy w' (some g):=by have e:a=((a.toNat:Nat):Int):=(by omega);have f:b=((b.toNat:Nat):Int):=(by omega);have h:=yzx hD (n:=a.toNat) (m0:=b.toNat) og og;rw[<-e,<-f] at h;exact h
theorem ykw {w:c} {g:Nat} {l:List Int} (hD:IsD w g l) {a:Int} (ha:0<=a/\a<=40):
 Calls Tryz.prog 41 #[.pointer (some ⟨g,0,none⟩),.int .i64 a] w fun b w'=>(∃v r,b= .returned v/\IsV w' (I7 w.heap.size w') v (C4 r)/\r.length=a.toNat/\(∀q∈r,Sz q 3)/\∀q∈r,0<=q)/\IsD w' g l/\w.grownBy w' (some g):=by have d:a=((a.toNat:Nat):Int):=(by omega);have h:=yzr hD (n:=a.toNat) og;rw[<-d] at h;exact h
def yoa (a:Bool) (b:Int) (r:Raw) (sl:Bool):Prop:=(a=false/\b=13)\/(a=true/\b=0/\r.neg=false/\0<r.den.length/\sl=decide (r.num.length=0))
theorem yud {w:c} {vp vx vy:e} {q:ProgQ} {X b:List Rat} (l:IsP w (C5 w) vp (I8 q)) (m:IsV w (C5 w) vx (C4 X)) (n:IsV w (C5 w) vy (C4 b)) (k:Bru w) (d:FineP q 2 8) (D:q.B.length<=4) (E:q.C.length<=4) (i:X.length=q.C.length) (y:∀a∈X,Sz a 3) (j:b.length=q.B.length) (z:∀a∈b,Sz a 3):
 ∃(a:Int) (r:Raw) (sl:Bool),yoa (W6 q.A q.B X&&Y4 q.A q.C b) a r sl/\(∀W,Below w.heap.size w W->Calls Tryz.prog 44 #[vp,vx,vy] W fun s w'=>(∃A,s= .returned (.tuple #[A,.int .i64 a])/\IsR w' (C5 w') A r)/\Below W.heap.size W w')/\
  ∀W,Below w.heap.size w W->Calls Tryz.prog 40 #[vp,vx,vy] W fun s w'=>s= .returned (.tuple #[.bool sl,.int .i64 a])/\Below W.heap.size W w':=by
 have o:∀a∈X,Sz a 1024:=fun a h=>(y a h).le (by decide);have p:∀a∈b,Sz a 1024:=fun a h=>(z a h).le (by decide);cases g:(W6 q.A q.B X&&Y4 q.A q.C b) with
 |false=>
  refine⟨13,nilRaw,false,.inl ⟨rfl,rfl⟩,fun W h=> ?_,fun W h=> ?_⟩
  ·exact(ytn (IsP.stb.to l (C9 h)) (IsV.stb.to m (C9 h)) (IsV.stb.to n (C9 h)) (Bru.next k h) d.good i o j p g).mono fun a w' ⟨t,u⟩=>⟨⟨_,t,yik⟩,u⟩
  ·exact zz1413 (IsP.stb.to l (C9 h)) (IsV.stb.to m (C9 h)) (IsV.stb.to n (C9 h)) (Bru.next k h) d.good i o j p g
 |true=>
  obtain⟨B,b2⟩:=Bool.and_eq_true_iff.1 g;obtain⟨G,H⟩:=yno d.good B b2 i j;have F:=ytq d D E y z;refine⟨0,E0 (H7 q.B b-H7 q.C X),zqy q.A q.B q.C X b,.inr ⟨rfl,rfl,?_,?_,?_⟩,fun W h=> ?_,fun W h=> ?_⟩
  ·rw[ydq];exact decide_eq_false (Rat.not_lt.2 G)
  ·exact ycn (Rat.den_nz _)
  ·rw[H];refine decide_eq_decide.2 ⟨fun h=> ?_,fun h=> ?_⟩
   ·rw[h];show(A8 0).length=0;rw[T6];rfl
   ·have:(A8 (H7 q.B b-H7 q.C X).num.natAbs).length=0:=h;rcases Nat.eq_zero_or_pos (H7 q.B b-H7 q.C X).num.natAbs with x|x
    ·exact Rat.num_eq_zero.1 (Int.natAbs_eq_zero.1 x)
    ·have:=ycn (n:=(H7 q.B b-H7 q.C X).num.natAbs) og;omega
  ·exact(yto (IsP.stb.to l (C9 h)) (IsV.stb.to m (C9 h)) (IsV.stb.to n (C9 h)) (Bru.next k h) d.good i o j p g rfl F).mono fun a w' ⟨⟨v,t,u⟩,C⟩=>⟨⟨v,t,u⟩,C⟩
  ·exact ymi (IsP.stb.to l (C9 h)) (IsV.stb.to m (C9 h)) (IsV.stb.to n (C9 h)) (Bru.next k h) d.good i o j p g
def PtsOk (q:ProgQ) (k:Nat) (p A:List (List Rat)):Prop:=p.length=k/\A.length=k/\(∀x∈p,x.length=q.C.length/\∀a∈x,Sz a 3)/\∀x∈A,x.length=q.B.length/\∀a∈x,Sz a 3
theorem PtsOk.nil {q:ProgQ}:PtsOk q 0 [] []:=⟨rfl,rfl,fun x h=>(by cases h),fun x h=>(by cases h)⟩
theorem PtsOk.add {q:ProgQ} {k:Nat} {p A:List (List Rat)} {x y:List Rat} (h:PtsOk q k p A) (g:x.length=q.C.length) (sx:∀b∈x,Sz b 3) (i:y.length=q.B.length) (sy:∀b∈y,Sz b 3):PtsOk q (k+1) (p++[x]) (A++[y]):=by
 obtain⟨c,d,e,f⟩:=h;refine⟨by rw[List.length_append,c];rfl,by rw[List.length_append,d];rfl,fun z a=> ?_,fun z a=> ?_⟩
 ·rcases List.mem_append.1 a with a|a
  ·exact e z a
  ·rw[List.mem_singleton] at a;subst a;exact⟨g,sx⟩
 ·rcases List.mem_append.1 a with a|a
  ·exact f z a
  ·rw[List.mem_singleton] at a;subst a;exact⟨i,sy⟩
theorem yox {q:ProgQ} {s:Sol} {v:Rat} {X D R:List Rat} {k:Nat} (ha:zsd q k s) (i:s=ymj s.st v X D R) (b:s.st=1):CertOpt q.A q.B q.C X D v:=by
 rcases ha with⟨d,e,l,a,c,_⟩|⟨e,a,c,_⟩|⟨d,j,a,c,_⟩
 ·rw[i] at a;simp only[Sol.mk.injEq] at a;obtain⟨_,h,g,f,_⟩:=a;rw[ylg h,rawV_inj' g,rawV_inj' f];exact c
 ·rw[a] at b;cases b
 ·rw[a] at b;cases b
theorem zxy:ElN Tryz.prog 23 26 1 24:=
 ⟨Tryz.underlying23,by obtain⟨i,a,b,c,d⟩:=info_parts ynn;exact⟨i,_,a,b,c,d,rfl⟩,by omega⟩
theorem yyh (w:c) (a:ab) (base:Nat) (b:base<=w.heap.size):(w.alloc (.cells #[] a)).ownsRow base a 1 (.slice (some ⟨w.heap.size,0,none⟩) 0 0) 0 []:=World.ownsRow_made w #[] 0 b (Nat.zero_le _) (by simp)
theorem OwnS.new0 {Z:Type} {R:c->(Nat->Prop)->e->Z->Prop} (w:c) (b:ab) (base:Nat) (a:base<=w.heap.size):OwnS 1 b R (w.alloc (.cells #[] b)) base (fun _=>False) (.slice (some ⟨w.heap.size,0,none⟩) 0 0) ([]:List Z):=
 ⟨[],by simpa[cellsOf] using yyh w b base a,Wid.nil,All2.nil,fun d a=>a.elim⟩
def zoi (sb:Nat) (S3 a:Option Addr) (d h g j:Nat) (va b:e) (base n0:Nat) (l m:Nat->Prop) (n k:List Rat) (i:Nat) (v:e) (w:c) (X:Nat->Option e):Prop:=
 match i with
 |0=>v=va
 |1=>v= .pointer (some ⟨sb,4,none⟩)
 |2=>v= .slice S3 d h
 |3=>NewRow w n0 26 [.slice S3 d h] v
 |4=>AppK 1 26 IsV w base n0 l va v ([C4 n]) (X 4)
 |5=>v=b
 |6=>v= .pointer (some ⟨sb,5,none⟩)
 |7=>v= .slice a g j
 |8=>NewRow w n0 26 [.slice a g j] v
 |9=>App2 1 26 IsV w base n0 m b v ([C4 k]) (X 4)
 |_=>True
def zmd (va b:e):Nat->Option Nat:=fun a=>match a with|4=>va.ownBlock|9=>b.ownBlock|_=>none
theorem yyj (sb:Nat) (S3 t:Option Addr) (B D C E:Nat) (va b:e) (base n0:Nat) (q k:Nat->Prop) (x m:List Rat) (y:∀a,va.ownBlock=some a->a<n0/\b.ownBlock≠some a/\¬(k) a) (z:∀a,b.ownBlock=some a->a<n0/\va.ownBlock≠some a/\¬(q) a):∀i g v w w' X u,i≠g->X g=none->zoi sb S3 t B D C E va b base n0 q k x m i v w X->twE (zmd va b) 4 g w u w'->zoi sb S3 t B D C E va b base n0 q k x m i v w' (K6 X g u):=fun i g v w w' X u n A h l=>by
 obtain⟨l,F⟩:=l
 have r:∀a,zmd va b g=some a->(g=4/\va.ownBlock=some a)\/(g=9/\b.ownBlock=some a):=fun a d=>by
  unfold zmd at d
  split at d
  ·exact .inl ⟨rfl,d⟩
  ·exact .inr ⟨rfl,d⟩
  ·cases d
 have lt:∀a,zmd va b g=some a->a<n0:=fun a d=>by rcases r a d with⟨_,h⟩|⟨_,h⟩;exact(y a h).1;exact(z a h).1
 match i,n,h with
 |0,_,h=>exact h
 |1,_,h=>exact h
 |2,_,h=>exact h
 |3,_,h=>exact h.grown l lt
 |4,n,h=>
  have o:=h.grown IsV.stb l fun a d=>by
   rcases r a d with⟨j,_⟩|⟨_,j⟩
   ·exact absurd j.symm n
   ·exact z a j
  exact⟨o.1,zra h.2.1 A,o.2.2⟩
 |5,_,h=>exact h
 |6,_,h=>exact h
 |7,_,h=>exact h
 |8,_,h=>exact h.grown l lt
 |9,n,h=>
  by_cases s:g=4
  ·subst s
   have p:App2 1 26 IsV w base n0 k b v ([C4 m]) (X 4):=h
   rw[A] at p
   have j:=App2.other (va:=va) (u:=u) IsV.stb p l y (F rfl)
   show App2 1 26 IsV w' base n0 k b v ([C4 m]) (K6 X 4 u 4)
   rw[show K6 X 4 u 4=some u from if_pos rfl]
   exact j
  ·have p:App2 1 26 IsV w base n0 k b v ([C4 m]) (X 4):=h
   have o:=p.grown IsV.stb l fun a d=>by
    rcases r a d with⟨j,_⟩|⟨j,_⟩
    ·exact absurd j s
    ·exact absurd j.symm n
   show App2 1 26 IsV w' base n0 k b v ([C4 m]) (K6 X g u 4)
   rw[zpj (Ne.symm s)]
   exact o
 |_+10,_,_=>exact trivial
def yax (base:Nat) (a d:Nat->Prop) (va b:e) (i:Nat) (w:c):Prop:=(i=4->OwnS 1 26 IsV w base a va ([]:List (List Raw)))/\(i=9->OwnS 1 26 IsV w base d b ([]:List (List Raw)))
theorem yzu {base n0:Nat} {g j:Nat->Prop} {va b:e} (m:∀a,va.ownBlock=some a->a<n0/\b.ownBlock≠some a/\¬(j) a) (n:∀a,b.ownBlock=some a->a<n0/\va.ownBlock≠some a/\¬(g) a):∀i d w w' u,i≠d->yax base g j va b i w->twE (zmd va b) 4 d w u w'->yax base g j va b i w':=fun i d w w' u o h l=>by
 have k:∀a,zmd va b d=some a->(d=4/\va.ownBlock=some a)\/(d=9/\b.ownBlock=some a):=fun a c=>by
  unfold zmd at c
  split at c
  ·exact .inl ⟨rfl,c⟩
  ·exact .inr ⟨rfl,c⟩
  ·cases c
 refine⟨fun c=>(h.1 c).grown IsV.stb l.1 fun a eb=> ?_,fun c=>(h.2 c).grown IsV.stb l.1 fun a eb=> ?_⟩
 ·rcases k a eb with⟨f,_⟩|⟨_,f⟩
  ·omega
  ·exact(n a f).2
 ·rcases k a eb with⟨_,f⟩|⟨f,_⟩
  ·exact(m a f).2
  ·omega
theorem zxx {w W O:c} {g j sb:Nat} {l:List Int} {I B d C:Nat} {K L M H t y z D F G:e} {q:ProgQ} {s:Sol} {n0:Nat} {r:Option Nat} (h:DSt w W g j sb l I B d C K L M H t y z D F G q s/\n0<=W.heap.size) (b:W.grownBy O r) (hr:∀a,r=some a->j<a/\(a<d\/sb<a)):DSt w O g j sb l I B d C K L M H t y z D F G q s/\n0<=O.heap.size:=⟨h.1.far b hr,Nat.le_trans h.2 b.size⟩
end Go.Proofs.YtlhhbccgfkhflaaGreatDoor
