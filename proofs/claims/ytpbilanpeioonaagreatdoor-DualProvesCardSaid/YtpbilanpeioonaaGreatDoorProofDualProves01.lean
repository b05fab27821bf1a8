/-
 Lists of ints in memory,and c b a in.
-/
import Derived.Test.YtpbilanpeioonaaGreatDoorDpv14
import Derived.StillTail
namespace Go.Proofs.YtpbilanpeioonaaGreatDoor
open Go.RowKit Go.WideShapes Go.ChangeShapes Go.Deep
set_option linter.unusedVariables false
open Go.RowKit
set_option maxRecDepth 100000
set_option maxHeartbeats 8000000
open _root_.Nat renaming lt_or_ge → z, zero_le → G
open _root_.Array renaming getElem?_eq_getElem → u, getD_eq_getD_getElem? → y
open _root_.Bool renaming and_eq_true → x
open _root_.Option renaming getD_some → B
open _root_.Go renaming World → c, Value → f, Program → A, undef → l, Oper → g
open _root_.Go.RowKit renaming Below → a, Hid → r
open _root_.Go.Proofs.Tryz renaming prog → F
variable {i id j k m t : Nat} {p : Prog}
def zva (n:Int):Prop:= -9223372036854775808<=n/\n<=9223372036854775807
theorem zzl {n:Int} (h:(Lit.int .i64 n).wf=true):zva n:=by rw[Lit.wf,x,decide_eq_true_eq,decide_eq_true_eq] at h;exact h
def IsIL (w:c) (d:Nat->Prop) (v:f) (a:List Int):Prop:=
 ∃A b,v= .slice A a.length b/\a.length<=b/\b<=maxLen/\SVS w d A (a.map fun x=> .int .i64 x)/\∀x∈a,zva x
theorem IsIL.stb:Stb IsIL:=by rintro w w' g T v h ⟨A,a,hv,b,c,d,e⟩ f;exact⟨A,a,hv,b,c,d.same f,e⟩
theorem ywj {w:c} {d:Nat->Prop} {A:Option Addr} {n g:Nat} {f:List Int} (h:IsIL w d (.slice A n g) f) {x:Int} (b:f[j]? =some x):
 zva x/\∃a off,A=some ⟨a,off,none⟩/\d a/\w.cell? ⟨a,off+j,none⟩=some (.int .i64 x):=by obtain⟨p,q,hv,r,s,k,l⟩:=h;simp only[Value.slice.injEq] at hv;obtain⟨rfl,rfl,rfl⟩:=hv;have e:=(List.getElem?_eq_some_iff.1 b).1;obtain⟨a,off,m,o,hc⟩:=k (fun i=>by have:=congrArg List.length i;simp at this;rw[this] at e;simp at e);exact⟨l x (List.mem_of_getElem? b),a,off,m,o,hc j _ (by rw[List.getElem?_map,b];rfl)⟩
section
variable {H : Type} {enc : TypeId × f → H} {w : c} {base C : Nat} {sp : Nat → Bool} {held : Bool}
theorem yzs {v:f} {d:DataW H} {n:List MemPlace} (E:∀x∈n,x.block<w.heap.size) (t:Value.okWide F w .any C 22 v) (h:DataW.Trod enc F w base sp held 22 v d n):∃z:List Int,IsIL w (C6 w) v z:=by
 obtain⟨a,len,cap,rfl⟩:=okWide_slice Tryz.underlying22 t;obtain⟨A,hf⟩:=h;rcases open_ints Tryz.underlying22 Tryz.underlying3 kr hf with⟨hv,_⟩|⟨a,len,cap,c,hv,_,q,r,y,e,p,u⟩
 ·simp only[Value.cells,List.cons.injEq,and_true] at hv;rw[hv];exact⟨[],none,0,rfl,Nat.le_refl _,G _,SVS.nil,fun x e=>by cases e⟩
 ·simp only[Value.cells,List.cons.injEq,and_true] at hv;rw[hv];have I:len<=c.length:=(by rw[y];split<;>omega);have l:(c.take len).length=len:=(by simp;omega);refine⟨c.take len,some a,cap,by rw[l],by rw[l];exact q,r,fun s=> ?_,fun x e=>zzl (u x (List.mem_of_mem_take e))⟩
  have m:0<c.length:=by
   rcases Nat.eq_zero_or_pos c.length with g|g
   ·exact absurd (by rw[List.length_eq_zero_iff.1 g];simp) s
   ·exact g
  obtain⟨o,off,rfl,k⟩:=ints_at p m;refine⟨o,off,rfl,World.block_lt_of_cell? w _ (k 0 m),fun j J b=> ?_⟩;rw[List.getElem?_map,List.getElem?_take] at b;split at b;(case isFalse=>simp at b);case isTrue D=>have i:j<c.length:=og;rw[List.getElem?_eq_getElem i] at b;simp only[Option.map_some,Option.some.injEq] at b;subst b;rw[k j i,List.getD_eq_getElem?_getD,List.getElem?_eq_getElem i,B]
end
section
variable {P : A} {ops : Array g} {Q : Exit → Act → c → Prop} {Φ : Nat → f → c → Prop} {q : Act} {e : c} {n : Nat}
end
theorem zlv {T:Array f} {v:f} (h:t<T.size) (hv:T.getD t l=v):T[t]? =some v:=by rw[u h];simp only[y,u h,B] at hv;rw[hv]
theorem zpz {T:Array f} (h:t<T.size):∃v,T[t]? =some v/\T.getD t l=v:=⟨_,zlv h rfl,rfl⟩
theorem V7 {o:g} {ops:Array g} {T:Array f} {A B:Prop} (a:o.guard=none) (h:A):
 if Region.wanted o (yielded ops T)=true then A else B:=by rw[if_pos (by simp[Region.wanted,a])];exact h
theorem zpw {P:A} {lit:Array g} {d:Bool} {Q:Exit->Act->c->Prop} {a:Act} {w:c} (h:∀ops,ops=lit->(Code.region id ops d).wp P Q a w):(Code.region id lit d).wp P Q a w:=h lit rfl
theorem J0 {ops lit:Array g} {o:g} (h:ops=lit) (a:lit[j]? =some o):ops[j]? =some o:=by rw[h];exact a
theorem yfi {ops lit:Array g} (h:ops=lit) (t:Nat) (a:zmz lit t=false):zmz ops t=false:=by rw[h];exact a
theorem U5 {p:Prop} [Decidable p] (h:decide p=true):p:=of_decide_eq_true h
def O9 (T:Array f) (o:g):f:=match o.dst with|some d=>T.getD d l|none=>l
def zzi (ops:Array g) (n:Nat):Bool:=
 (List.range ops.size).all fun i=>(ops[i]?).any fun o=>
  (o.dst.all fun d=>decide (d<n)&&(List.range ops.size).all fun j=>decide (j=i)|| !((ops[j]?).any fun b=>b.dst==some d))&&(zkb o).all fun j=>decide (j<i)
section
variable {ops : Array g}
theorem yjv {n:Nat} {o:g} (h:zzi ops n=true) (k:ops[i]? =some o):
 (∀d,o.dst=some d->d<n/\∀j b,ops[j]? =some b->b.dst=some d->j=i)/\∀j∈zkb o,j<i:=by unfold zzi at h;have p:i<ops.size:=(Array.getElem?_eq_some_iff.1 k).1;have e:=List.all_eq_true.1 h i (List.mem_range.2 p);rw[k] at e;simp only[Option.any_some,x] at e;obtain⟨a,l⟩:=e;refine⟨fun d hd=> ?_,fun j c=>by simpa using List.all_eq_true.1 l j c⟩;rw[hd] at a;simp only[Option.all_some,x,decide_eq_true_eq] at a;refine⟨a.1,fun j b c q=> ?_⟩;have m:j<ops.size:=(Array.getElem?_eq_some_iff.1 c).1;have f:=List.all_eq_true.1 a.2 j (List.mem_range.2 m);rw[c] at f;simp only[Option.any_some,q,beq_self_eq_true,Bool.not_true,Bool.or_false,decide_eq_true_eq] at f;exact f
end
def zry (ops:Array g) (n m:Nat):Bool:=
 decide (n<ops.size)&&((List.range n).all fun i=>(ops[i]?).any fun o=>
  (o.dst.all fun d=>decide (d<m)&&(List.range n).all fun j=>decide (j=i)|| !((ops[j]?).any fun b=>b.dst==some d))&&((zkb o).all fun j=>decide (j<i))&&
   (List.range (n+1)).any fun k=>decide (i<k)&&(ops[k]?).any fun ok=>(zkb ok).contains i)&&
 (List.range ops.size).all fun k=>decide (k<=n)||(ops[k]?).any fun ok=>(zkb ok).contains n
def zqw (ops:Array g) (n:Nat) (t:Nat):Bool:=(List.range n).any fun i=>(ops[i]?).any fun o=>o.dst==some t
theorem zsm {ops lit:Array g} {n:Nat} (h:ops=lit) (t:Nat) (a:zqw lit n t=false):zqw ops n t=false:=by rw[h];exact a
def zuc (n m:Nat):Array Bool:=Array.replicate n true++Array.replicate (m-n) false
def Z4 (X:Nat->Option f) (i:Nat) (v:f):Nat->Option f:=fun j=>if j=i then some v else X j
theorem ztl {X:Nat->Option f} {v:f} (h:j≠i):Z4 X i v j=X j:=if_neg h
theorem zsp {X:Nat->Option f} {a v:f} (h:X j=some a) (c:X i=none):Z4 X i v j=some a:=by rw[ztl (fun b=>by rw[b,c] at h;cases h)];exact h
section
variable {P : A} {ops : Array g} {Q : Exit → Act → c → Prop} {Φ : Nat → f → c → (Nat → Option f) → Prop} {s : Nat → c → Prop} {J : c → Prop} {E : Nat → c → c → Prop} {q : Act} {e : c} {n : Nat}
theorem ydh {o:g} (h:zry ops n m=true) (s:i<n) (r:ops[i]? =some o):
 (∀d,o.dst=some d->d<m/\∀j b,j<n->ops[j]? =some b->b.dst=some d->j=i)/\(∀j∈zkb o,j<i)/\∃k ok,i<k/\k<=n/\ops[k]? =some ok/\i∈zkb ok:=by
 unfold zry at h;rw[x,x] at h;have f:=List.all_eq_true.1 h.1.2 i (List.mem_range.2 s);rw[r] at f;simp only[Option.any_some,x] at f;obtain⟨⟨e,q⟩,c⟩:=f;refine⟨fun d hd=> ?_,fun j l=>by simpa using List.all_eq_true.1 q j l,?_⟩
 ·rw[hd] at e;simp only[Option.all_some,x,decide_eq_true_eq] at e;refine⟨e.1,fun j b t l v=> ?_⟩;have c:=List.all_eq_true.1 e.2 j (List.mem_range.2 t);rw[l] at c;simp only[Option.any_some,v,beq_self_eq_true,Bool.not_true,Bool.or_false,decide_eq_true_eq] at c;exact c
 ·obtain⟨k,u,a⟩:=List.any_eq_true.1 c;rw[x,decide_eq_true_eq] at a;cases p:ops[k]? with
  |none=>rw[p] at a;simp at a
  |some ok=>rw[p] at a;exact⟨k,ok,a.1,Nat.lt_succ_iff.1 (List.mem_range.1 u),p,by simpa using a.2⟩
theorem ydi (h:zry ops n m=true):n<ops.size:=by unfold zry at h;rw[x,x,decide_eq_true_eq] at h;exact h.1.1
theorem yvs {o:g} (h:zry ops n m=true) (c:n<k) (b:ops[k]? =some o):n∈zkb o:=by
 unfold zry at h;rw[x] at h;have a:=List.all_eq_true.1 h.2 k (List.mem_range.2 (Array.getElem?_eq_some_iff.1 b).1);rw[b,Bool.or_eq_true,decide_eq_true_eq] at a;rcases a with a|a
 ·omega
 ·simpa using a
structure GrowInvZ (ops:Array g) (n:Nat) (Φ:Nat->f->c->(Nat->Option f)->Prop) (s:Nat->c->Prop) (J:c->Prop) (q:Act) (X:Nat->Option f) (listed:Array Bool) (a:Act) (w:c):Prop where
 size:a.tmps.size=q.tmps.size
 defers:a.defers=q.defers
 inv:J w
 pre:∀i,listed[i]? =some false->s i w
 free:∀t,zqw ops n t=false->a.tmps[t]? =q.tmps[t]?
 holds:∀j b,j<n->ops[j]? =some b->listed[j]? =some true->Φ j (O9 a.tmps b) w X
 known:∀j b,ops[j]? =some b->X j=if listed[j]? =some true then some (O9 a.tmps b) else none
 down:∀(i:Nat) (o:g),ops[i]? =some o->listed[i]? =some true->∀j∈zkb o,listed[j]? =some true
 last:∀k,n<=k->k<ops.size->listed[k]? =some false
theorem yqm {listed:Array Bool} (c:zry ops n m=true) (r:∀o,ops[n]? =some o->∀j∈zkb o,listed[j]? =some true) (p:∀(i:Nat) (o:g),ops[i]? =some o->listed[i]? =some true->∀j∈zkb o,listed[j]? =some true):
 ∀j,j<n->listed[j]? =some true:=by
 have key:∀k j,n-k<=j->j<n->listed[j]? =some true:=by
  intro k;induction k with
  |zero=>intro j l a;omega
  |succ k ih=>
   intro j l a;rcases z j (n-k) with h|h
   ·have w:=ydi c;have s:j<ops.size:=og;obtain⟨_,_,i,f,v,t,e,d⟩:=ydh c a (u s);rcases z i n with b|b
    ·exact p i f e (ih i og b) j d
    ·obtain rfl:i=n:=og;exact r f e j d
   ·exact ih j h a
 exact fun j q=>key n j og q
theorem yvd {listed:Array Bool} (e:listed.size=ops.size) (d:n<ops.size) (b:∀j,j<n->listed[j]? =some true) (c:∀k,n<=k->k<ops.size->listed[k]? =some false):listed=zuc n ops.size:=by
 apply Array.ext_getElem?;intro i;unfold zuc;rw[Array.getElem?_append];simp only[Array.size_replicate];rcases z i n with h|h
 ·rw[if_pos h,b i h,Array.getElem?_replicate,if_pos h]
 ·rw[if_neg og,Array.getElem?_replicate];rcases z i ops.size with a|a
  ·rw[if_pos og,c i h a]
  ·rw[if_neg og,Array.getElem?_eq_none og]
theorem ysq (a b:List Bool):zla (a++b)=zla a+zla b:=by
 induction a with
 |nil=>simp[zla]
 |cons x a ih=>simp only[List.cons_append,zla,ih];omega
theorem yss (k:Nat):zla (List.replicate k true)=0:=by
 induction k with
 |zero=>rfl
 |succ k ih=>rw[List.replicate_succ,zla,ih];simp
theorem ysr (k m:Nat):zla (zuc k m).toList=m-k:=by unfold zuc;rw[Array.toList_append,Array.toList_replicate,Array.toList_replicate,ysq,yss,zyu,Nat.zero_add]
theorem zz1515 (hPs:∀i k w w',i≠k->s i w->J w->E k w w'->s i w') (hst:∀i k v w w' X Y,i≠k->X k=none->Φ i v w X->J w->E k w w'->Φ i v w' (Z4 X k Y)) (R:zry ops n q.tmps.size=true)
 (aG:Region.seqB .any ops (ops.toList.drop n).length n (zuc n ops.size)=true)
 (aH:∀i o,i<n->ops[i]? =some o->∀(a:Act) (w:c) (X:Nat->Option f),a.tmps.size=q.tmps.size->a.defers=q.defers->J w->s i w->X i=none->(∀t,zqw ops n t=false->a.tmps[t]? =q.tmps[t]?)->
   (∀j b,j∈zkb o->ops[j]? =some b->X j=some (O9 a.tmps b)/\Φ j (O9 a.tmps b) w X)->
   if Region.wanted o (yielded ops a.tmps)=true then o.wp P a w (fun ad w'=>∃v,ad=a.put o.dst v/\E i w w'/\J w'/\Φ i (if o.dst.isSome then v else l) w' (Z4 X i (if o.dst.isSome then v else l))) Q else∀Y,Φ i Y w (Z4 X i Y)/\E i w w)
 (az:∀(a:Act) (w:c) (X:Nat->Option f),a.tmps.size=q.tmps.size->a.defers=q.defers->J w->(∀t,zqw ops n t=false->a.tmps[t]? =q.tmps[t]?)->
   (∀j b,j<n->ops[j]? =some b->X j=some (O9 a.tmps b)/\Φ j (O9 a.tmps b) w X)->wpList P ops Q (ops.toList.drop n) a w):
 ∀(p:Nat) (listed:Array Bool) (a:Act) (w:c) (X:Nat->Option f),listed.size=ops.size->zla listed.toList=p->GrowInvZ ops n Φ s J q X listed a w->wpAny P .any ops Q p listed a w:=by
 have ab:=ydi R;have fin:∀(p:Nat) (listed:Array Bool) (a:Act) (w:c) (X:Nat->Option f),listed.size=ops.size->zla listed.toList=p->GrowInvZ ops n Φ s J q X listed a w->(∀j,j<n->listed[j]? =some true)->wpAny P .any ops Q p listed a w:=by intro p listed a w X I hc inv G;obtain rfl:=yvd I ab G inv.last;rw[ysr] at hc;have N:=az a w X inv.size inv.defers inv.inv inv.free fun j b r e=>⟨by rw[inv.known j b e,if_pos (G j r)],inv.holds j b r e (G j r)⟩;have O:=wpAny_of_seq (md:= .any) (Q':=Q) (ops.toList.drop n) n (zuc n ops.size) a w (fun j=>by rw[List.getElem?_drop,Array.getElem?_toList]) aG N;have F:(ops.toList.drop n).length=p:=(by rw[List.length_drop,Array.length_toList];exact hc);rwa[F] at O
 have stuck:∀(listed:Array Bool) (a:Act) (w:c) (X:Nat->Option f),listed.size=ops.size->Region.ready .any ops listed=[]->GrowInvZ ops n Φ s J q X listed a w->∀j,j<n->listed[j]? =some true:=by
  intro listed a w X I hr inv
  have all:∀k i,i<k->i<n->listed[i]? =some true:=by
   intro k;induction k with
   |zero=>intro i g;omega
   |succ k ih=>
    intro i g W;rcases z i k with h|h
    ·exact ih i h W
    ·obtain rfl:i=k:=og;have hlo:i<ops.size:=og;have D:i<listed.size:=og;cases K:listed[i] with
     |true=>rw[u D,K]
     |false=>
      exfalso
      have L:i∈Region.ready .any ops listed:=by
       unfold Region.ready;refine List.mem_filter.2 ⟨List.mem_range.2 hlo,?_⟩;have g:ops[i]? =some ops[i]:=u hlo;obtain⟨_,aC,_⟩:=ydh R W g;rw[g];simp only[Option.map_some,B,x,Bool.not_eq_true'];refine⟨by simp[y,u D,K],Array.all_eq_true'.2 fun A ay=> ?_⟩;cases ar:Region.binds .any A with
       |false=>rfl
       |true=>have e:=aC A.on (List.mem_map.2 ⟨A,List.mem_filter.2 ⟨by simpa using ay,ar⟩,rfl⟩);have:=ih A.on e og;simp[y,this]
      rw[hr] at L;cases L
  exact fun j e=>all (j+1) j og e
 intro p;induction p with
 |zero=>intro listed a w X I hc inv;exfalso;have N:=inv.last n (Nat.le_refl _) ab;have O:=zyw (l:=listed.toList) (i:=n) (b:=false) hc (by rw[Array.getElem?_toList];exact N);cases O
 |succ p ih=>
  intro listed a w X I hc inv;by_cases G:∀j,j<n->listed[j]? =some true
  ·exact fin (p+1) listed a w X I hc inv G
  refine⟨fun hr=>absurd (stuck listed a w X I hr inv) G,fun i L=> ?_⟩;have W:i<ops.size:=(by unfold Region.ready at L;exact List.mem_range.1 (List.mem_filter.1 L).1);have g:ops[i]? =some ops[i]:=u W;obtain⟨N,O⟩:=zxt g L;have D:i<listed.size:=og;have K:listed[i]=false:=by simpa[y,u D] using N
  have U:∀j∈zkb ops[i],listed[j]? =some true:=by
   intro j e;have F:=O j e;rcases z j listed.size with V|V
   ·rw[u V];simp only[y,u V,B] at F;rw[F]
   ·simp[y,Array.getElem?_eq_none V] at F
  have H:i<n:=by
   rcases z i n with H|H
   ·exact H
   ·exfalso;rcases Nat.eq_or_lt_of_le H with F|F
    ·subst F;exact G (yqm R (fun o aj j e=>by rw[g] at aj;cases aj;exact U j e) inv.down)
    ·have ae:=U n (yvs R F g);rw[inv.last n (Nat.le_refl _) ab] at ae;cases ae
  obtain⟨aa,aD,_⟩:=ydh R H g;have af:X i=none:=(by rw[inv.known i _ g,if_neg (by rw[u D,K];simp)]);have T:=aH i ops[i] H g a w X inv.size inv.defers inv.inv (inv.pre i (by rw[u D,K])) af inv.free fun j b e ak=>⟨by rw[inv.known j b ak,if_pos (U j e)],inv.holds j b (by have:=aD j e;omega) ak (U j e)⟩
  have next:∀(v:f) (w':c),E i w w'->J w'->Φ i (if ops[i].dst.isSome then v else l) w' (Z4 X i (if ops[i].dst.isSome then v else l))->wpAny P .any ops Q p (listed.setIfInBounds i true) (a.put ops[i].dst v) w':=by
   intro v w' ag Z hv
   have al:∀t,(∀d,ops[i].dst=some d->t≠d)->(a.put ops[i].dst v).tmps[t]? =a.tmps[t]? :=by
    intro t M;cases hd:ops[i].dst with
    |none=>rfl
    |some d=>exact yaj _ _ (M d hd)
   have ao:∀j b,j<n\/b.dst=none\/True->j≠i->ops[j]? =some b->(∀d,ops[i].dst=some d->b.dst≠some d)->O9 (a.put ops[i].dst v).tmps b=O9 a.tmps b:=by
    intro j b _ m e aE;unfold O9;cases av:b.dst with
    |none=>rfl
    |some aq=>exact ydd (al aq fun d hd A=>aE d hd (by rw[av,A]))
   have an:O9 (a.put ops[i].dst v).tmps ops[i]=if ops[i].dst.isSome then v else l:=by
    unfold O9;cases hd:ops[i].dst with
    |none=>rfl
    |some d=>simp only;rw[yew _ _ (by rw[inv.size];exact(aa d hd).1)];rfl
   refine ih _ _ _ (Z4 X i (if ops[i].dst.isSome then v else l)) (by simp[I]) ?_ ⟨?_,?_,Z,fun k C=> ?_,fun t M=> ?_,fun j b r e ah=> ?_,fun j b e=> ?_,fun k o C ai j e=> ?_,fun k C aB=> ?_⟩
   ·have:=zyv (l:=listed.toList) (i:=i) (by simp[D,K]);simp only[Array.toList_setIfInBounds];omega
   ·cases hd:ops[i].dst with
    |none=>exact inv.size
    |some d=>rw[yex];exact inv.size
   ·cases hd:ops[i].dst with
    |none=>exact inv.defers
    |some d=>exact inv.defers
   ·have S:k≠i:=(by rintro rfl;rw[Array.getElem?_setIfInBounds_self_of_lt D] at C;cases C);rw[Array.getElem?_setIfInBounds_ne (Ne.symm S)] at C;exact hPs k i w w' S (inv.pre k C) inv.inv ag
   ·rw[al t (by rintro d hd rfl;unfold zqw at M;rw[List.any_eq_false] at M;have:=M i (List.mem_range.2 H);rw[g] at this;simp[hd] at this)];exact inv.free t M
   ·by_cases m:j=i
    ·subst m;rw[g] at e;cases e;rw[an];exact hv
    ·rw[ao j b (.inl r) m e fun d hd A=>m ((aa d hd).2 j b r e A)];rw[Array.getElem?_setIfInBounds_ne (Ne.symm m)] at ah;exact hst j i _ _ _ X _ m af (inv.holds j b r e ah) inv.inv ag
   ·by_cases m:j=i
    ·subst m;rw[g] at e;cases e;rw[an,Array.getElem?_setIfInBounds_self_of_lt D,if_pos rfl,Z4,if_pos rfl]
    ·rw[ztl m,Array.getElem?_setIfInBounds_ne (Ne.symm m),inv.known j b e];rcases z j n with r|r
     ·rw[ao j b (.inl r) m e fun d hd A=>m ((aa d hd).2 j b r e A)]
     ·rw[inv.last j r (Array.getElem?_eq_some_iff.1 e).1];rfl
   ·have aA:listed[j]? =some true:=by
     by_cases S:k=i
     ·subst S;rw[g] at C;cases C;exact U j e
     ·rw[Array.getElem?_setIfInBounds_ne (Ne.symm S)] at ai;exact inv.down k o C ai j e
    by_cases m:j=i
    ·subst m;rw[Array.getElem?_setIfInBounds_self_of_lt D]
    ·rw[Array.getElem?_setIfInBounds_ne (Ne.symm m)];exact aA
   ·rw[Array.getElem?_setIfInBounds_ne og];exact inv.last k C aB
  unfold wpOp;rw[g];simp only;split
  ·rename_i ac;rw[if_pos ac] at T;exact .inl (Oper.wp_mono (fun ad w' ⟨v,ha,au,Z,hv⟩=>by rw[ha];exact next v w' au Z hv) T)
  ·rename_i ac;rw[if_neg ac] at T;exact next l w (T l).2 inv.inv (by split<;>exact(T l).1)
theorem zsq (n:Nat) (Φ:Nat->f->c->(Nat->Option f)->Prop) (s:Nat->c->Prop) (J:c->Prop) (E:Nat->c->c->Prop) (y:P.follows .mixedOrders=true) (hJ0:J e.drew) (hP0:∀i,s i e.drew)
 (hPs:∀i k w w',i≠k->s i w->J w->E k w w'->s i w') (hst:∀i k v w w' X d,i≠k->X k=none->Φ i v w X->J w->E k w w'->Φ i v w' (Z4 X k d)) (m:zry ops n q.tmps.size=true)
 (z:Region.seqB .any ops (ops.toList.drop n).length n (zuc n ops.size)=true)
 (A:∀i o,i<n->ops[i]? =some o->∀(a:Act) (w:c) (X:Nat->Option f),a.tmps.size=q.tmps.size->a.defers=q.defers->J w->s i w->X i=none->(∀t,zqw ops n t=false->a.tmps[t]? =q.tmps[t]?)->
   (∀j b,j∈zkb o->ops[j]? =some b->X j=some (O9 a.tmps b)/\Φ j (O9 a.tmps b) w X)->
   if Region.wanted o (yielded ops a.tmps)=true then o.wp P a w (fun p w'=>∃v,p=a.put o.dst v/\E i w w'/\J w'/\Φ i (if o.dst.isSome then v else l) w' (Z4 X i (if o.dst.isSome then v else l))) Q else∀d,Φ i d w (Z4 X i d)/\E i w w)
 (r:∀(a:Act) (w:c) (X:Nat->Option f),a.tmps.size=q.tmps.size->a.defers=q.defers->J w->(∀t,zqw ops n t=false->a.tmps[t]? =q.tmps[t]?)->
   (∀j b,j<n->ops[j]? =some b->X j=some (O9 a.tmps b)/\Φ j (O9 a.tmps b) w X)->wpList P ops Q (ops.toList.drop n) a w):
 (Code.region id ops true).wp P Q q e:=by
 have F:=ydi m;refine wp_region_any y (zz1515 hPs hst m z A r _ _ _ _ (fun _=>none) (by simp) (by simp[zyu]) ⟨rfl,rfl,hJ0,fun i _=>hP0 i,fun _ _=>rfl,fun j b C u h=> ?_,fun j b u=> ?_,fun i o B g=> ?_,fun k D x=> ?_⟩)
 ·rw[Array.getElem?_replicate] at h;split at h<;>cases h
 ·rw[if_neg];rw[Array.getElem?_replicate];split<;>simp
 ·rw[Array.getElem?_replicate] at g;split at g<;>cases g
 ·rw[Array.getElem?_replicate,if_pos x]
end
theorem zz1466 {P:A} {o:g} {a:Act} {w:c} {J:c->Prop} {E:c->Prop} {Φ:f->c->(Nat->Option f)->Prop} {X:Nat->Option f} {Q:Exit->Act->c->Prop}
 (h:∀b:Act->c->Prop,(∀v w',E w'->J w'->Φ (if o.dst.isSome then v else l) w' (Z4 X i (if o.dst.isSome then v else l))->b (a.put o.dst v) w')->o.wp P a w b Q):
 o.wp P a w (fun d w'=>∃v,d=a.put o.dst v/\E w'/\J w'/\Φ (if o.dst.isSome then v else l) w' (Z4 X i (if o.dst.isSome then v else l))) Q:=
 h _ fun v w' j e hv=>⟨v,rfl,j,e,hv⟩
theorem F9 {ops lit:Array g} (h:ops=lit) {o b:g} (a:ops[j]? =some b) (c:lit[j]? =some o:=by rfl):o=b:=by rw[h,c] at a;exact Option.some.inj a
theorem N8 {T A:Array f} {v:f} (h:T[t]? =A[t]?) (hv:A[t]? =some v:=by rfl):T[t]? =some v:=h.trans hv
section
variable {P : A} {ops lit : Array g} {o b : g} {T : Array f} {X : Nat → Option f} {Φ : Nat → f → c → (Nat → Option f) → Prop} {W : c} {v : f}
theorem Z8 (c:∀j b,j∈zkb o->ops[j]? =some b->X j=some (O9 T b)/\Φ j (O9 T b) W X) (f:ops=lit) (j t:Nat) (d:decide (j∈zkb o)=true:=by kernel_rfl) (e:lit[j]? =some b:=by rfl) (hd:b.dst=some t:=by rfl) (g:t<T.size:=by(try dsimp only);omega):
 ∃v,T[t]? =some v/\Φ j v W X:=by have h:=(c j b (U5 d) (by rw[f];exact e)).2;have a:O9 T b=T.getD t l:=(by unfold O9;rw[hd]);rw[a] at h;exact⟨_,zlv g rfl,h⟩
theorem slY (c:∀j b,j∈zkb o->ops[j]? =some b->X j=some (O9 T b)/\Φ j (O9 T b) W X) (f:ops=lit) (j:Nat) (a:T[t]? =some v) (d:decide (j∈zkb o)=true:=by kernel_rfl) (e:lit[j]? =some b:=by rfl) (hd:b.dst=some t:=by rfl):X j=some v:=by have h:=(c j b (U5 d) (by rw[f];exact e)).1;rw[h];unfold O9;rw[hd];simp[y,a]
theorem K6 (e:∀j b,j∈zkb o->ops[j]? =some b->X j=some (O9 T b)/\Φ j (O9 T b) W X) (i:ops=lit) (j t:Nat) (f:decide (j∈zkb o)=true:=by kernel_rfl) (g:lit[j]? =some b:=by rfl) (hd:b.dst=some t:=by rfl) (k:t<T.size:=by(try dsimp only);omega)
 (hv:∀a,Φ j a W X->a=v:=by exact fun _ h=>h):T[t]? =some v:=by obtain⟨a,c,d⟩:=Z8 e i j t f g hd k;rw[c,hv a d]
theorem H8 {a:Act} {w:c} {J:c->Prop} {E:c->Prop} {d:f->c->(Nat->Option f)->Prop} {Q:Exit->Act->c->Prop} {B:Prop} (h:∀b:Act->c->Prop,(∀v w',E w'->J w'->d (if o.dst.isSome then v else l) w' (Z4 X i (if o.dst.isSome then v else l))->b (a.put o.dst v) w')->o.wp P a w b Q) (g:o.guard=none:=by rfl):
 if Region.wanted o (yielded ops T)=true then o.wp P a w (fun e w'=>∃v,e=a.put o.dst v/\E w'/\J w'/\d (if o.dst.isSome then v else l) w' (Z4 X i (if o.dst.isSome then v else l))) Q else B:=V7 g (zz1466 h)
end
def znf (p:Prog) (s:Sol):Bool:=M8 s.D p.B.length&&decide (s.X.length=0)&&decide (s.R.length=0)&&zlr s.val
theorem ywc {w:c} {v:f} {s:Sol} (h:IsPS w (C6 w) v p s) (aa:Bru w):Calls F 232 #[v] w fun x w'=>x= .returned (.bool (znf p s))/\a w.heap.size w w':=by
 obtain⟨A,af,B,ag,C,ah,P,aj,Q,ak,X,an,D,ai,R,al,rfl,Z,K,L,ab,N,hD,M⟩:=h;obtain⟨aq,ar,au,V,ay,z,av,y⟩:=zmc Z K L ab N hD M aa;have H:=M6 K;have aB:=M6 L;have aE:=M6 N;have aC:=M6 hD;have aD:=M6 M;clear Z K L ab N hD M aa;unfold znf;obtain⟨ad,O⟩:=nm (M8 s.D p.B.length);obtain⟨b2,S⟩:=nm (decide (s.X.length=0));obtain⟨Y,T⟩:=nm (decide (s.R.length=0));obtain⟨ae,U⟩:=nm (zlr s.val);have aG:((s.X.length:Int)==0)=b2:=len_eq0.trans S.symm;have aH:((s.R.length:Int)==0)=Y:=len_eq0.trans T.symm;rw[<-O,<-S,<-T,<-U];obtain⟨E,W⟩:=C7 O U;clear O S T U;obtain⟨e,G,ac,u,az⟩:=J7 w #[.slice A p.A.length af,.slice B p.B.length ag,.slice C p.C.length ah,.int .i64 s.st,.bool s.val.neg,.slice P s.val.num.length aj,.slice Q s.val.den.length ak,.slice X s.X.length an,.slice D s.D.length ai,.slice R s.R.length al] 146;obtain⟨d,aA⟩:=C7 ac u;have g:=(u.cell 0:e.cell? ⟨w.heap.size,0,none⟩=some _);have i:=(u.cell 1:e.cell? ⟨w.heap.size,1,none⟩=some _);have j:=(u.cell 2:e.cell? ⟨w.heap.size,2,none⟩=some _);have k:=(u.cell 3:e.cell? ⟨w.heap.size,3,none⟩=some _);have l:=(u.cell 4:e.cell? ⟨w.heap.size,4,none⟩=some _);have m:=(u.cell 5:e.cell? ⟨w.heap.size,5,none⟩=some _);have n:=(u.cell 6:e.cell? ⟨w.heap.size,6,none⟩=some _);have o:=(u.cell 7:e.cell? ⟨w.heap.size,7,none⟩=some _);have q:=(u.cell 8:e.cell? ⟨w.heap.size,8,none⟩=some _);have r:=(u.cell 9:e.cell? ⟨w.heap.size,9,none⟩=some _);clear ac u;cases ad with
 |false=>go_in;go_wp2_with fail;clear G;refine(zkw (IsV.stb.to z.out (E0 d.out)) (Bru.next y.out d.out) H).mono ?_;rw[show M8 s.D p.B.length=false from E.out.symm];rintro x I ⟨rfl,b⟩;have t:=nB d b;replace g:=C0 b g;replace i:=C0 b i;replace j:=C0 b j;replace k:=C0 b k;replace l:=C0 b l;replace m:=C0 b m;replace n:=C0 b n;replace o:=C0 b o;replace q:=C0 b q;replace r:=C0 b r;clear b;go_wp2_with fail;go_ret;exact⟨rfl,t.out⟩
 |true=>
  cases b2 with
  |false=>go_in;go_wp2_with fail;clear G;refine(zkw (IsV.stb.to z.out (E0 d.out)) (Bru.next y.out d.out) H).mono ?_;rw[show M8 s.D p.B.length=true from E.out.symm];rintro x I ⟨rfl,b⟩;have t:=nB d b;replace g:=C0 b g;replace i:=C0 b i;replace j:=C0 b j;replace k:=C0 b k;replace l:=C0 b l;replace m:=C0 b m;replace n:=C0 b n;replace o:=C0 b o;replace q:=C0 b q;replace r:=C0 b r;clear b;go_wp2_with fail;go_ret;exact⟨rfl,t.out⟩
  |true=>
   cases Y with
   |false=>go_in;go_wp2_with fail;clear G;refine(zkw (IsV.stb.to z.out (E0 d.out)) (Bru.next y.out d.out) H).mono ?_;rw[show M8 s.D p.B.length=true from E.out.symm];rintro x I ⟨rfl,b⟩;have t:=nB d b;replace g:=C0 b g;replace i:=C0 b i;replace j:=C0 b j;replace k:=C0 b k;replace l:=C0 b l;replace m:=C0 b m;replace n:=C0 b n;replace o:=C0 b o;replace q:=C0 b q;replace r:=C0 b r;clear b;go_wp2_with fail;go_ret;exact⟨rfl,t.out⟩
   |true=>
    cases ae with
    |false=>go_in;go_wp2_with fail;clear G;refine(zkw (IsV.stb.to z.out (E0 d.out)) (Bru.next y.out d.out) H).mono ?_;rw[show M8 s.D p.B.length=true from E.out.symm];rintro x I ⟨rfl,b⟩;have t:=nB d b;replace g:=C0 b g;replace i:=C0 b i;replace j:=C0 b j;replace k:=C0 b k;replace l:=C0 b l;replace m:=C0 b m;replace n:=C0 b n;replace o:=C0 b o;replace q:=C0 b q;replace r:=C0 b r;clear b;go_wp2_with fail;refine(yaa (IsR.stb.to V.out (E0 t.out)) (Bru.next y.out t.out)).mono ?_;rw[show zlr s.val=false from W.out.symm];rintro x ao ⟨rfl,b⟩;have J:=nB t b;replace g:=C0 b g;replace i:=C0 b i;replace j:=C0 b j;replace k:=C0 b k;replace l:=C0 b l;replace m:=C0 b m;replace n:=C0 b n;replace o:=C0 b o;replace q:=C0 b q;replace r:=C0 b r;clear b;go_wp2_with fail;go_ret;exact⟨rfl,J.out⟩
    |true=>go_in;go_wp2_with fail;clear G;refine(zkw (IsV.stb.to z.out (E0 d.out)) (Bru.next y.out d.out) H).mono ?_;rw[show M8 s.D p.B.length=true from E.out.symm];rintro x I ⟨rfl,b⟩;have t:=nB d b;replace g:=C0 b g;replace i:=C0 b i;replace j:=C0 b j;replace k:=C0 b k;replace l:=C0 b l;replace m:=C0 b m;replace n:=C0 b n;replace o:=C0 b o;replace q:=C0 b q;replace r:=C0 b r;clear b;go_wp2_with fail;refine(yaa (IsR.stb.to V.out (E0 t.out)) (Bru.next y.out t.out)).mono ?_;rw[show zlr s.val=true from W.out.symm];rintro x ao ⟨rfl,b⟩;have J:=nB t b;replace g:=C0 b g;replace i:=C0 b i;replace j:=C0 b j;replace k:=C0 b k;replace l:=C0 b l;replace m:=C0 b m;replace n:=C0 b n;replace o:=C0 b o;replace q:=C0 b q;replace r:=C0 b r;clear b;go_wp2_with fail;go_ret;exact⟨rfl,J.out⟩
structure InfQ (p:Prog) (s:Sol) (q:ProgQ) (y:List Rat):Prop where
 prog:p=J6 q
 good:Good q 1024
 D:s.D=C5 y
 ly:y.length=q.B.length
 sy:∀e∈y,Sz e 1024
def zod (n:Nat):List Rat:=List.replicate n 0
def zsy (q:ProgQ) (y:List Rat):Bool:=zme q.A (zod q.C.length) y
def zsx (q:ProgQ) (y:List Rat):Bool:=decide ((K9 q.B y).num<0)
theorem ypw (n:Nat):(zod n).length=n:=List.length_replicate
theorem ypv {n:Nat} (h:k<n):(zod n).getD k 0=0:=by rw[List.getD_eq_getElem?_getD,zod,List.getElem?_replicate,if_pos h];rfl
theorem ymx (a:Bool) (x y:f) (w:c):(Instr.field 37 (.agg #[.bool a,x,y]) 0).run F w= .ok (.bool a) w:=by kernel_rfl
theorem ylt {q:Rat}:decide (q.num<0)= !decide (0<=q):=by rw[Bool.eq_iff_iff,Bool.not_eq_true',decide_eq_true_eq,decide_eq_false_iff_not,<-Rat.num_nonneg];omega
theorem ywa {w:c} {v:f} {s:Sol} {q:ProgQ} {y:List Rat} (h:IsPS w (C6 w) v p s) (z:Bru w) (I:InfQ p s q y):Calls F 230 #[v] w fun g w'=>g= .returned (.bool (zsx q y))/\a w.heap.size w w':=by obtain⟨A,o,B,t,C,U,P,V,Q,Y,X,aa,D,u,R,Z,rfl,x,k,l,E,n,hD,m⟩:=h;obtain⟨J,M,ad,af,ag,N,ae,K⟩:=zmc x k l E n hD m z;have aE:=M6 k;have aG:=M6 l;have aJ:=M6 n;have aH:=M6 hD;have aI:=M6 m;clear x k l E n hD m z;have d:=Lib.hid I;have ac:r (∀W:c,a w.heap.size w W->IsM W (C6 W) (.slice A p.A.length o) (J4 q.A)):=fun W i=>(by have g:p.A=J4 q.A:=(by rw[d.out.prog];rfl);rw[<-g];exact IsM.stb.to J.out (E0 i));have L:r (∀W:c,a w.heap.size w W->IsV W (C6 W) (.slice B p.B.length t) (C5 q.B)):=fun W i=>(by have g:p.B=C5 q.B:=(by rw[d.out.prog];rfl);rw[<-g];exact IsV.stb.to M.out (E0 i));have O:r (∀W:c,a w.heap.size w W->IsV W (C6 W) (.slice D s.D.length u) (C5 y)):=fun W i=>(by rw[<-d.out.D];exact IsV.stb.to N.out (E0 i));unfold zsx;clear I;obtain⟨e,ab,H,b,ah⟩:=J7 w #[.slice A p.A.length o,.slice B p.B.length t,.slice C p.C.length U,.int .i64 s.st,.bool s.val.neg,.slice P s.val.num.length V,.slice Q s.val.den.length Y,.slice X s.X.length aa,.slice D s.D.length u,.slice R s.R.length Z] 146;obtain⟨j,ak⟩:=C7 H b;have al:=(b.cell 0:e.cell? ⟨w.heap.size,0,none⟩=some _);have an:=(b.cell 1:e.cell? ⟨w.heap.size,1,none⟩=some _);have ao:=(b.cell 2:e.cell? ⟨w.heap.size,2,none⟩=some _);have aq:=(b.cell 3:e.cell? ⟨w.heap.size,3,none⟩=some _);have ar:=(b.cell 4:e.cell? ⟨w.heap.size,4,none⟩=some _);have au:=(b.cell 5:e.cell? ⟨w.heap.size,5,none⟩=some _);have av:=(b.cell 6:e.cell? ⟨w.heap.size,6,none⟩=some _);have ay:=(b.cell 7:e.cell? ⟨w.heap.size,7,none⟩=some _);have az:=(b.cell 8:e.cell? ⟨w.heap.size,8,none⟩=some _);have aA:=(b.cell 9:e.cell? ⟨w.heap.size,9,none⟩=some _);clear b;clear H;go_in;go_wp2_with fail;clear ab;refine(znr (M:=q.B.length) (L.out _ j.out) (O.out _ j.out) (Bru.next K.out j.out) rfl d.out.ly d.out.good.nB d.out.good.szB d.out.sy).mono ?_;rintro g aM ⟨⟨aL,rfl,hv⟩,G⟩;obtain⟨aK,aj,aC,ai,aD,rfl,T,_,_⟩:=G4 hv;have S:=nB j G;clear G hv;have aB:=ymx;go_wp2_with fail;go_ret;exact⟨by show Ending.returned (.bool _)=_;rw[T.out],S.out⟩
theorem ywb {w:c} {v:f} {s:Sol} {q:ProgQ} {y:List Rat} (h:IsPS w (C6 w) v p s) (aq:Bru w) (E:InfQ p s q y):Calls F 233 #[v] w fun l w'=>l= .returned (.bool (zsy q y))/\a w.heap.size w w':=by
 obtain⟨A,al,B,an,C,aR,P,aS,Q,aT,X,aV,D,S,R,aU,rfl,ao,T,U,au,Z,hD,Y⟩:=h;obtain⟨aC,aG,a9,be,bf,aH,bd,aE⟩:=zmc ao T U au Z hD Y aq;have bu:=M6 T;have a5:=M6 U;have bx:=M6 Z;have bv:=M6 hD;have bw:=M6 Y;clear ao T U au Z hD Y aq;have g:=Lib.hid E;have aD:r (∀W:c,a w.heap.size w W->IsM W (C6 W) (.slice A p.A.length al) (J4 q.A)):=fun W m=>(by have l:p.A=J4 q.A:=(by rw[g.out.prog];rfl);rw[<-l];exact IsM.stb.to aC.out (E0 m));have a8:r (∀W:c,a w.heap.size w W->IsV W (C6 W) (.slice B p.B.length an) (C5 q.B)):=fun W m=>(by have l:p.B=C5 q.B:=(by rw[g.out.prog];rfl);rw[<-l];exact IsV.stb.to aG.out (E0 m));have ae:r (∀W:c,a w.heap.size w W->IsV W (C6 W) (.slice D s.D.length S) (C5 y)):=fun W m=>(by rw[<-g.out.D];exact IsV.stb.to aH.out (E0 m));have V:p.C.length=q.C.length:=(by rw[E.prog];exact zkr _);have a1:q.C.length<=40:=E.good.nC;have aX:q.B.length<=40:=E.good.nB;unfold zsy;clear E;obtain⟨e,a3,av,b,bg⟩:=J7 w #[.slice A p.A.length al,.slice B p.B.length an,.slice C p.C.length aR,.int .i64 s.st,.bool s.val.neg,.slice P s.val.num.length aS,.slice Q s.val.den.length aT,.slice X s.X.length aV,.slice D s.D.length S,.slice R s.R.length aU] 146;obtain⟨ad,ai⟩:=C7 av b;have x:=(b.cell 0:e.cell? ⟨w.heap.size,0,none⟩=some _);have aK:=(b.cell 1:e.cell? ⟨w.heap.size,1,none⟩=some _);have ak:=(b.cell 2:e.cell? ⟨w.heap.size,2,none⟩=some _);have aL:=(b.cell 3:e.cell? ⟨w.heap.size,3,none⟩=some _);have aM:=(b.cell 4:e.cell? ⟨w.heap.size,4,none⟩=some _);have aN:=(b.cell 5:e.cell? ⟨w.heap.size,5,none⟩=some _);have aO:=(b.cell 6:e.cell? ⟨w.heap.size,6,none⟩=some _);have aP:=(b.cell 7:e.cell? ⟨w.heap.size,7,none⟩=some _);have I:=(b.cell 8:e.cell? ⟨w.heap.size,8,none⟩=some _);have aQ:=(b.cell 9:e.cell? ⟨w.heap.size,9,none⟩=some _);clear b;clear av;obtain⟨n,K⟩:=nm (p.C.length);have H:=Lib.hid (K.trans V);rw[<-K] at ak a5;rw[<-V,<-K] at a1;clear K V;go_in;go_wp2_with fail;clear a3 x aK ak aL aM aN aO aP I aQ;go_loopw [9,3] (fun i br wr=>∃k:Nat,k<=n/\i= .int .i64 (k:Int)/\a e.heap.size e wr/\r (∀j,j<k->0<=K9 (zkh q.A j) y)) (fun i _ _=>n-(intOf i).toNat);case atStart=>exact⟨0,G _,rfl,Below.refl _ _,fun i J=>by omega⟩
 case round=>
  obtain⟨k,bp,rfl,o,hrel⟩:=hrel;have aI:=Lib.hid o;have t:=nB ad o;have ah:=Lib.hid hrel.out;have x:wr.cell? ⟨w.heap.size,0,none⟩=some _:=(ai.out.next o).cell 0;have I:wr.cell? ⟨w.heap.size,8,none⟩=some _:=(ai.out.next o).cell 8;clear hrel;rcases z k n with az|bn
  ·obtain⟨d,hd⟩:=nm (K9 (zkh q.A k) y);obtain⟨M,u⟩:=C7 hd az;obtain⟨bj,ay⟩:=nm (decide (d.num<0));have N:=Lib.hid ay;clear hd ay o az;have bm:=ymx;go_wp2_with fail;have L:=zpp x I;have ab:=Lib.hid fun W (m:a wr.heap.size wr W)=>zyx (n:=n) (aD.out _ (C8 t.out (show a wr.heap.size wr W from bel))) (by rw[g.out.good.rows];omega) (fun row h=>(g.out.good.cols row h).trans H.out.symm) u.out og
   go_region_held3 (SH.mk _ L).s
    (exact L.out _ bel)
    (first
      |(go_at_call 118;(with_reducible refine Calls.mono (ab.out _ bel) ?_);rintro l aB ⟨⟨bA,rfl,aa⟩,aZ⟩;have aj:=Lib.hid aa;obtain⟨aJ,a4,rfl,_⟩:=K3 aa;have ac:r (∀W:c,a aB.heap.size aB W->Calls F 117 #[.slice aJ (C5 (zkh q.A k)).length a4,.slice D s.D.length S] W (L5 W d)):=fun W m=>by rw[M.out];exact znr (M:=q.B.length) (IsV.stb.next aj.out m) (ae.out _ (C8 t.out (show a wr.heap.size wr W from bel))) (Bru.next aE.out (C8 t.out (show a wr.heap.size wr W from bel))) (by rw[zwu,g.out.good.rows]) g.out.ly aX (zwv g.out.good.szA og) g.out.sy)
      |(go_at_call 117;(with_reducible refine Calls.mono (ac.out _ bel) ?_);rintro l a7 ⟨⟨bB,rfl,aA⟩,a0⟩;obtain⟨a6,bi,bq,bh,bt,rfl,ag,_,_⟩:=G4 aA))
   have ar:a wr.heap.size wr a7:=bel;have af:=nB aI ar;have aW:=ag.out.trans N.out.symm;subst aW;clear L ab ac aa aA aj aZ a0 ar ag x I;cases a6 with
   |true=>have O:r (zme q.A (zod q.C.length) y=false):=(by have a2:¬0<=d:=(by have h:=N.out.symm;rw[ylt] at h;simpa using h);rw[r,zme,ypw,yce (k:=k) (by rw[<-H.out];exact u.out) (by rw[ypv (by rw[<-H.out];exact u.out),<-M.out];exact decide_eq_false a2)];rfl);go_wp2_with fail;go_ret;exact⟨by show Ending.returned (.bool _)=_;rw[O.out],C8 ad.out af.out⟩
   |false=>
    go_wp2_with fail;go_roundw
    case rel=>
     refine⟨k+1,by have:=u.out;omega,by go_num,af.out,fun i J=> ?_⟩;rcases z i k with h|h
     ·exact ah.out i h
     ·obtain rfl:i=k:=og;have h:=N.out.symm;rw[ylt] at h;rw[<-M.out];simpa using h
    case measure=>have:=u.out;simp[intOf];omega
  ·obtain rfl:k=n:=og;have O:r (zme q.A (zod q.C.length) y= !zlz (C5 y)):=(by rw[r,zme,ypw,ycf (fun i J=>by rw[ypv J];exact decide_eq_true (ah.out i (by rw[H.out];exact J))),Bool.true_and]);clear o x;go_wp2_with fail;refine(zxk (ae.out _ t.out)).mono ?_;rintro l bC ⟨rfl,aY⟩;go_wp2_with fail;go_ret;exact⟨by show Ending.returned (.bool _)=_;rw[O.out],C8 t.out aY⟩
theorem ywd {w:c} {v:f} {s:Sol} {b2 E:Bool} (h:IsPS w (C6 w) v p s) (M:Bru w) (L:znf p s=true->∃q y,InfQ p s q y/\b2=zsy q y/\E=zsx q y):
 Calls F 231 #[v] w fun K w'=>K= .returned (.bool (znf p s&&b2&&E))/\a w.heap.size w w':=by obtain⟨H,G,J⟩:=H7 h M L;obtain⟨A,j,B,k,C,l,P,n,Q,o,X,u,D,m,R,t,rfl,_⟩:=h;clear M L;have T:r (∀b,a w.heap.size w b->zpi b 232 (.agg #[.slice A p.A.length j,.slice B p.B.length k,.slice C p.C.length l,.int .i64 s.st,.bool s.val.neg,.slice P s.val.num.length n,.slice Q s.val.den.length o,.slice X s.X.length u,.slice D s.D.length m,.slice R s.R.length t]) (znf p s)):=fun b g W i=>ywc (IsPS.to H.out (E0 (C8 g i))) (Bru.next G.out (C8 g i));have U:r (znf p s=true->∀b,a w.heap.size w b->zpi b 233 (.agg #[.slice A p.A.length j,.slice B p.B.length k,.slice C p.C.length l,.int .i64 s.st,.bool s.val.neg,.slice P s.val.num.length n,.slice Q s.val.den.length o,.slice X s.X.length u,.slice D s.D.length m,.slice R s.R.length t]) b2):=fun x b g W i=>(by obtain⟨q,y,I,Z,_⟩:=J.out x;rw[Z];exact ywb (IsPS.to H.out (E0 (C8 g i))) (Bru.next G.out (C8 g i)) I);have V:r (znf p s=true->∀b,a w.heap.size w b->zpi b 230 (.agg #[.slice A p.A.length j,.slice B p.B.length k,.slice C p.C.length l,.int .i64 s.st,.bool s.val.neg,.slice P s.val.num.length n,.slice Q s.val.den.length o,.slice X s.X.length u,.slice D s.D.length m,.slice R s.R.length t]) E):=fun x b g W i=>(by obtain⟨q,y,I,_,aa⟩:=J.out x;rw[aa];exact ywa (IsPS.to H.out (E0 (C8 g i))) (Bru.next G.out (C8 g i)) I);obtain⟨e,ac,N,d,ae⟩:=J7 w #[.slice A p.A.length j,.slice B p.B.length k,.slice C p.C.length l,.int .i64 s.st,.bool s.val.neg,.slice P s.val.num.length n,.slice Q s.val.den.length o,.slice X s.X.length u,.slice D s.D.length m,.slice R s.R.length t] 146;have ag:=(d.cell 0:e.cell? ⟨w.heap.size,0,none⟩=some _);have ah:=(d.cell 1:e.cell? ⟨w.heap.size,1,none⟩=some _);have ai:=(d.cell 2:e.cell? ⟨w.heap.size,2,none⟩=some _);have aj:=(d.cell 3:e.cell? ⟨w.heap.size,3,none⟩=some _);have ak:=(d.cell 4:e.cell? ⟨w.heap.size,4,none⟩=some _);have al:=(d.cell 5:e.cell? ⟨w.heap.size,5,none⟩=some _);have an:=(d.cell 6:e.cell? ⟨w.heap.size,6,none⟩=some _);have ao:=(d.cell 7:e.cell? ⟨w.heap.size,7,none⟩=some _);have aq:=(d.cell 8:e.cell? ⟨w.heap.size,8,none⟩=some _);have ar:=(d.cell 9:e.cell? ⟨w.heap.size,9,none⟩=some _);obtain⟨au,ad,O,S,af⟩:=J7 e #[.func (.func 232) #[.agg #[.slice A p.A.length j,.slice B p.B.length k,.slice C p.C.length l,.int .i64 s.st,.bool s.val.neg,.slice P s.val.num.length n,.slice Q s.val.den.length o,.slice X s.X.length u,.slice D s.D.length m,.slice R s.R.length t]] #[],.func (.func 233) #[.agg #[.slice A p.A.length j,.slice B p.B.length k,.slice C p.C.length l,.int .i64 s.st,.bool s.val.neg,.slice P s.val.num.length n,.slice Q s.val.den.length o,.slice X s.X.length u,.slice D s.D.length m,.slice R s.R.length t]] #[],.func (.func 230) #[.agg #[.slice A p.A.length j,.slice B p.B.length k,.slice C p.C.length l,.int .i64 s.st,.bool s.val.neg,.slice P s.val.num.length n,.slice Q s.val.den.length o,.slice X s.X.length u,.slice D s.D.length m,.slice R s.R.length t]] #[]] 239;obtain⟨z,Y⟩:=C7 (C8 N O) S;clear N d O S;go_in;go_wp2_with fail;refine(ycd (b2:=b2) (b3:=E) Y.out (fun _=>by kernel_rfl) (fun _=>by kernel_rfl) (fun _=>by kernel_rfl) (T.out _ z.out) (fun x=>U.out x _ z.out) (fun x _=>V.out x _ z.out)).mono ?_;rintro K av ⟨rfl,ab⟩;clear ac ad;go_wp2_with fail;go_ret;exact⟨rfl,C8 z.out ab⟩
end Go.Proofs.YtpbilanpeioonaaGreatDoor
