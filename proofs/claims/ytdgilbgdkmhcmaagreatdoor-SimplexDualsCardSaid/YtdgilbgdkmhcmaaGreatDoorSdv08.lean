/-
 Contracts of the verifier's kit:whether two lists,b,c a equal.
-/
import Derived.Test.YtdgilbgdkmhcmaaGreatDoorSdv07
import Derived.OrdersHeld
import Derived.Below
import Derived.ProofKit
import Derived.OpenShut
import Derived.ChangeSame
import Derived.Carry
import Derived.Deep.DeepHandedRow
import Derived.Deep.Slices
namespace Go.Proofs.YtdgilbgdkmhcmaaGreatDoor
open Go.RowKit
set_option linter.unusedVariables false
open Go.RowKit Go.WideShapes Go.ChangeShapes
open Go.RowKit Go.WideShapes Go.ChangeShapes Go.Deep
set_option maxRecDepth 100000
set_option maxHeartbeats 8000000
open _root_.Array renaming getElem?_eq_getElem → j, getD_eq_getD_getElem? → m
open _root_.Bool renaming and_eq_true → n
open _root_.Go renaming World → e, Value → g, undef → k
open _root_.Go.RowKit renaming Below → f
variable {i t : Nat} {o : Oper} {v : g}
theorem yhd {e:Type} {a c:List e} (f:a.length=c.length) (h:∀b,b<a.length->a[b]? =c[b]?):a=c:=by
 apply List.ext_getElem?;intro b;rcases Nat.lt_or_ge b a.length with d|d
 ·exact h b d
 ·rw[List.getElem?_eq_none d,List.getElem?_eq_none og]
theorem yjk {w:e} {an ao:g} {a l:List (Raw)} (ha:IsV w (C2 w) an a) (C:IsV w (C2 w) ao l):
 Calls Tryz.prog 47 #[an,ao] w fun d w'=>d= .returned (.bool (decide (a=l)))/\f w.heap.size w w':=by
 obtain⟨L,M⟩:=C4 ha C;obtain⟨A,aA,rfl,au⟩:=T4 ha;obtain⟨B,aB,rfl,av⟩:=T4 C;clear ha C;obtain⟨k,G⟩:=nm (a.length);obtain⟨al,H⟩:=nm (l.length);rw[<-G] at L au⊢;rw[<-H] at M av⊢;obtain⟨s,z⟩:=C4 G H;clear G H;by_cases F:k=al;(case neg=>have aq:((k:Int) !=(al:Int))=true:=bne_iff_ne.2 og;have o:Hid (decide (a=l)=false):=decide_eq_false (fun d=>F (by rw[s.out,z.out,d]));clear F;go_in;go_wp2_with fail;go_ret;exact⟨by show Ending.returned (.bool _)=_;rw[o.out],Below.refl _ _⟩);subst F;have aq:((k:Int) !=(k:Int))=false:=(by simp);go_in;go_wp2_with fail;go_loopw [5] (fun i wr=>∃b:Nat,b<=k/\i= .int .i64 (b:Int)/\f w.heap.size w wr/\Hid (∀j,j<b->a[j]? =l[j]?)) (fun i _=>k-(intOf i).toNat);case atStart=>exact⟨0,Nat.zero_le _,rfl,Below.refl _ _,fun j E=>by omega⟩
 case round=>
  obtain⟨b,aH,rfl,r,hrel⟩:=hrel;have v:=Lib.hid r;have N:=Lib.hid hrel.out;clear hrel;rcases Nat.lt_or_ge b k with af|aG
  ·obtain⟨x,I⟩:=zmx (l:=a) (j:=b) (by rw[<-s.out];exact af);obtain⟨y,J⟩:=zmx (l:=l) (j:=b) (by rw[<-z.out];exact af);obtain⟨ay,aK,P,ah,Q,aj,rfl,aD,ad,W,X,Y⟩:=zmd (IsV.stb.to L.out (F7 r)) I;obtain⟨az,aL,S,ai,T,ak,rfl,aE,ae,d0,Z,aa⟩:=zmd (IsV.stb.to M.out (F7 r)) J;obtain⟨O,R,U,V⟩:=X6 I J ad ae;have aC:=R4;have aI:(0:Int)<=(b:Int):=og;have aJ:(b:Int)<(k:Int):=og;obtain⟨q,ag⟩:=nm (decide (x=y));have t:=Lib.hid ag;clear I J ad ae r ag;cases q with
   |false=>
    go_wp2_with fail;have m:=zmq W X Y d0 Z aa;have n:Hid (∀c:e,f wr.heap.size wr c->Calls Tryz.prog 26 #[.agg #[.bool x.neg,.slice P x.num.length ah,.slice Q x.den.length aj],.agg #[.bool y.neg,.slice S y.num.length ai,.slice T y.den.length ak]] c (fun d w'=>d= .returned (.bool false)/\f c.heap.size c w')):=fun c p=>by rw[t.out];exact zve (IsR.stb.next U.out p) (IsR.stb.next V.out p)
    go_region_held3 (SH.mk _ m).s
     (exact m.out _ bel)
     (first
       |(go_at_call 26;(with_reducible refine Calls.mono (n.out _ bel) ?_);rintro d K ⟨rfl,D⟩))
    have u:=nB v (show f wr.heap.size wr K from bel);clear D m n;go_wp2_with fail;have o:Hid (decide (a=l)=false):=decide_eq_false (fun d=>by have ac:=O.out;rw[d,R.out] at ac;cases ac;have ar:=t.out;simp at ar);go_ret;exact⟨by show Ending.returned (.bool _)=_;rw[o.out],u.out⟩
   |true=>
    go_wp2_with fail;have m:=zmq W X Y d0 Z aa;have n:Hid (∀c:e,f wr.heap.size wr c->Calls Tryz.prog 26 #[.agg #[.bool x.neg,.slice P x.num.length ah,.slice Q x.den.length aj],.agg #[.bool y.neg,.slice S y.num.length ai,.slice T y.den.length ak]] c (fun d w'=>d= .returned (.bool true)/\f c.heap.size c w')):=fun c p=>by rw[t.out];exact zve (IsR.stb.next U.out p) (IsR.stb.next V.out p)
    go_region_held3 (SH.mk _ m).s
     (exact m.out _ bel)
     (first
       |(go_at_call 26;(with_reducible refine Calls.mono (n.out _ bel) ?_);rintro d K ⟨rfl,D⟩))
    have u:=nB v (show f wr.heap.size wr K from bel);clear D m n;go_wp2_with fail;go_roundw
    case rel=>
     refine⟨b+1,by omega,by go_num,u.out,fun j E=> ?_⟩;rcases Nat.lt_or_ge j b with h|h
     ·exact N.out j h
     ·obtain rfl:j=b:=og;rw[O.out,R.out,of_decide_eq_true t.out.symm]
    case measure=>simp[intOf];omega
  ·obtain rfl:b=k:=og;have o:Hid (decide (a=l)=true):=decide_eq_true (yhd (by rw[<-s.out,<-z.out]) (fun j E=>N.out j (by rw[s.out];exact E)));clear r;go_wp2_with fail;go_ret;exact⟨by show Ending.returned (.bool _)=_;rw[o.out],v.out⟩
instance:DecidableEq Prog:=fun a b=>if h:a.A=b.A/\a.B=b.B/\a.C=b.C then isTrue (by cases a;cases b;simp only at h;obtain⟨rfl,rfl,rfl⟩:=h;rfl) else isFalse (fun c=>h (by rw[c];exact⟨rfl,rfl,rfl⟩))
def IsPS (w:e) (b:Nat->Prop) (v:g) (a:Prog) (s:Sol):Prop:=
 ∃A c B d C f P i Q j X l D h R k,v= .agg #[.slice A a.A.length c,.slice B a.B.length d,.slice C a.C.length f,.int .i64 s.st,.bool s.val.neg,.slice P s.val.num.length i,.slice Q s.val.den.length j,.slice X s.X.length l,.slice D s.D.length h,.slice R s.R.length k]/\IsM w b (.slice A a.A.length c) a.A/\IsV w b (.slice B a.B.length d) a.B/\IsV w b (.slice C a.C.length f) a.C/\
  IsR w b (.agg #[.bool s.val.neg,.slice P s.val.num.length i,.slice Q s.val.den.length j]) s.val/\IsV w b (.slice X s.X.length l) s.X/\IsV w b (.slice D s.D.length h) s.D/\IsV w b (.slice R s.R.length k) s.R
theorem IsPS.to {w w':e} {b T:Nat->Prop} {c:Prog} {s:Sol} (h:IsPS w b v c s) (a:L2 b T w w'):IsPS w' T v c s:=by obtain⟨A,d,B,f,C,g,P,j,Q,k,X,m,D,i,R,l,hv,n,o,p,q,r,t,u⟩:=h;exact⟨A,d,B,f,C,g,P,j,Q,k,X,m,D,i,R,l,hv,IsM.stb.to n a,IsV.stb.to o a,IsV.stb.to p a,IsR.stb.to q a,IsV.stb.to r a,IsV.stb.to t a,IsV.stb.to u a⟩
def Z3:List Bool->Nat
 |[]=>0
 |b::l=>(if b then 0 else 1)+Z3 l
theorem zwf:∀{l:List Bool} {i:Nat},l[i]? =some false->Z3 (l.set i true)+1=Z3 l
 |b::l,0,h=>by simp at h;subst h;simp[Z3];omega
 |b::l,i+1,h=>by
  have:=zwf (l:=l) (i:=i) (by simpa using h)
  simp only[List.set_cons_succ,Z3]
  omega
theorem zwg:∀{l:List Bool} {i:Nat} {b:Bool},Z3 l=0->l[i]? =some b->b=true
 |c::l,0,b,h,a=>by
  simp at a
  subst a
  cases c
  ·simp[Z3] at h
  ·rfl
 |c::l,i+1,b,h,a=>by
  refine zwg (l:=l) (i:=i) ?_ (by simpa using a)
  simp only[Z3] at h
  omega
theorem zwe (a:Nat):Z3 (List.replicate a false)=a:=by
 induction a with
 |zero=>rfl
 |succ a ih=>rw[List.replicate_succ,Z3,ih];simp;omega
def U9 (o:Oper):List Nat:=(o.after.toList.filter (Region.binds .any)).map (·.on)
def zlm (ops:Array Oper) (t:Nat):Bool:=ops.toList.any fun o=>o.dst==some t
def zwt (ops:Array Oper) (b:Nat):Bool:=
 (List.range ops.size).all fun i=>(ops[i]?).any fun o=>
  (o.dst.any fun d=>decide (d<b)&&(List.range ops.size).all fun a=>decide (a=i)|| !((ops[a]?).any fun c=>c.dst==some d))&&(U9 o).all fun a=>decide (a<i)
section
variable {P : Program} {ops : Array Oper} {Q : Exit → Act → e → Prop} {Φ : Nat → g → e → Prop} {b : Act} {c : e}
theorem yfx {s:Nat} (h:zwt ops s=true) (r:ops[i]? =some o):
 ∃d,o.dst=some d/\d<s/\(∀a q,ops[a]? =some q->q.dst=some d->a=i)/\∀a∈U9 o,a<i:=by
 unfold zwt at h;have v:i<ops.size:=(Array.getElem?_eq_some_iff.1 r).1;have l:=List.all_eq_true.1 h i (List.mem_range.2 v);rw[r] at l;simp only[Option.any_some,n] at l;obtain⟨b,t⟩:=l;cases hd:o.dst with
 |none=>rw[hd] at b;simp at b
 |some d=>rw[hd] at b;simp only[Option.any_some,n,decide_eq_true_eq] at b;refine⟨d,rfl,b.1,fun a q c w=> ?_,fun a c=>by simpa using List.all_eq_true.1 t a c⟩;have u:a<ops.size:=(Array.getElem?_eq_some_iff.1 c).1;have p:=List.all_eq_true.1 b.2 a (List.mem_range.2 u);rw[c] at p;simp only[Option.any_some,w,beq_self_eq_true,Bool.not_true,Bool.or_false,decide_eq_true_eq] at p;exact p
structure GrowInv (ops:Array Oper) (Φ:Nat->g->e->Prop) (b:Act) (c:e) (listed:Array Bool) (a:Act) (w:e):Prop where
 size:a.tmps.size=b.tmps.size
 defers:a.defers=b.defers
 below:f c.heap.size c w
 free:∀t,zlm ops t=false->a.tmps[t]? =b.tmps[t]?
 holds:∀j oj d,ops[j]? =some oj->listed[j]? =some true->oj.dst=some d->Φ j (a.tmps.getD d k) w
theorem ybn (a:Act) (d:Tmp) (v:g):(a.put (some d) v).tmps.size=a.tmps.size:=by simp[Act.put]
theorem zxr (a:Act) {d:Nat} (v:g) (h:t≠d):(a.put (some d) v).tmps[t]? =a.tmps[t]? :=by simp only[Act.put];rw[Array.getElem?_setIfInBounds_ne (Ne.symm h)]
theorem ybm (a:Act) {d:Nat} (v:g) (h:d<a.tmps.size):(a.put (some d) v).tmps.getD d k=v:=by simp[Act.put,h]
theorem zzu {a b:Array g} (h:a[t]? =b[t]?):a.getD t k=b.getD t k:=by simp only[m,h]
theorem zvc {listed:Array Bool} (g:ops[i]? =some o) (hr:i∈Region.ready .any ops listed):listed.getD i true=false/\∀d∈U9 o,listed.getD d false=true:=by unfold Region.ready at hr;have a:=(List.mem_filter.1 hr).2;rw[g] at a;simp only[Option.map_some,Option.getD_some,n,Bool.not_eq_true'] at a;refine⟨a.1,fun d h=> ?_⟩;obtain⟨e,b,rfl⟩:=List.mem_map.1 h;obtain⟨b,f⟩:=List.mem_filter.1 b;have c:=(Array.all_eq_true'.1 a.2) e (by simpa using b);rw[f] at c;simpa using c
theorem zz1383 (hst:∀i v w w',Φ i v w->f w.heap.size w w'->Φ i v w') (hg:zwt ops b.tmps.size=true)
 (aa:∀i o,ops[i]? =some o->∀(a:Act) (w:e),a.tmps.size=b.tmps.size->a.defers=b.defers->f c.heap.size c w->(∀t,zlm ops t=false->a.tmps[t]? =b.tmps[t]?)->
   (∀l p d,l∈U9 o->ops[l]? =some p->p.dst=some d->Φ l (a.tmps.getD d k) w)->
   if Region.wanted o (yielded ops a.tmps)=true then o.wp P a w (fun M w'=>∃v,M=a.put o.dst v/\f w.heap.size w w'/\Φ i v w') Q else Φ i k w)
 (W:∀(a:Act) (w:e),a.tmps.size=b.tmps.size->a.defers=b.defers->f c.heap.size c w->(∀t,zlm ops t=false->a.tmps[t]? =b.tmps[t]?)->
   (∀l p d,ops[l]? =some p->p.dst=some d->Φ l (a.tmps.getD d k) w)->Q .normal a w):
 ∀(z:Nat) (listed:Array Bool) (a:Act) (w:e),listed.size=ops.size->Z3 listed.toList<=z->GrowInv ops Φ b c listed a w->wpAny P .any ops Q z listed a w:=by
 have done:∀(listed:Array Bool) (a:Act) (w:e),listed.size=ops.size->Region.ready .any ops listed=[]->GrowInv ops Φ b c listed a w->Q .normal a w:=by
  intro listed a w C hr inv
  have all:∀B i,i<B->i<ops.size->listed[i]? =some true:=by
   intro B;induction B with
   |zero=>intro i r;omega
   |succ B ih=>
    intro i r x;rcases Nat.lt_or_ge i B with h|h
    ·exact ih i h x
    ·obtain rfl:i=B:=og;have u:i<listed.size:=og;cases E:listed[i] with
     |true=>rw[j u,E]
     |false=>
      exfalso
      have s:i∈Region.ready .any ops listed:=by
       unfold Region.ready;refine List.mem_filter.2 ⟨List.mem_range.2 x,?_⟩;have r:ops[i]? =some ops[i]:=j x;obtain⟨d,hd,_,_,Y⟩:=yfx hg r;rw[r];simp only[Option.map_some,Option.getD_some,n,Bool.not_eq_true'];refine⟨by simp[m,j u,E],Array.all_eq_true'.2 fun y V=> ?_⟩;cases S:Region.binds .any y with
       |false=>rfl
       |true=>have q:=Y y.on (List.mem_map.2 ⟨y,List.mem_filter.2 ⟨by simpa using V,S⟩,rfl⟩);have:=ih y.on q og;simp[m,this]
      rw[hr] at s;cases s
  exact W a w inv.size inv.defers inv.below inv.free fun l p d q hd=>inv.holds l p d q (all (l+1) l og (Array.getElem?_eq_some_iff.1 q).1) hd
 intro z;induction z with
 |zero=>
  intro listed a w C hc inv
  have hr:Region.ready .any ops listed=[]:=by
   cases hr:Region.ready .any ops listed with
   |nil=>rfl
   |cons i ac=>exfalso;have s:i∈Region.ready .any ops listed:=(by rw[hr];simp);have x:i<ops.size:=(by unfold Region.ready at s;exact List.mem_range.1 (List.mem_filter.1 s).1);have I:=(zvc (j x) s).1;have u:i<listed.size:=og;have J:=zwg (l:=listed.toList) (i:=i) (b:=listed[i]) og (by simp[u]);simp[m,j u,J] at I
  exact⟨hr,done listed a w C hr inv⟩
 |succ z ih=>
  intro listed a w C hc inv;refine⟨fun hr=>done listed a w C hr inv,fun i s=> ?_⟩;have x:i<ops.size:=(by unfold Region.ready at s;exact List.mem_range.1 (List.mem_filter.1 s).1);have r:ops[i]? =some ops[i]:=j x;obtain⟨I,J⟩:=zvc r s;have u:i<listed.size:=og;have E:listed[i]=false:=(by simpa[m,j u] using I);obtain⟨d,hd,T,U,_⟩:=yfx hg r;have G:=aa i ops[i] r a w inv.size inv.defers inv.below inv.free fun l p D q R A=>inv.holds l p D R (by have N:=J l q;have O:l<listed.size:=(by have:=(Array.getElem?_eq_some_iff.1 R).1;omega);rw[j O];simp only[m,j O,Option.getD_some] at N;rw[N]) A
  have next:∀(v:g) (w':e),f w.heap.size w w'->Φ i v w'->wpAny P .any ops Q z (listed.setIfInBounds i true) (a.put ops[i].dst v) w':=by
   intro v w' F hv;rw[hd];refine ih _ _ _ (by simp[C]) ?_ ⟨by rw[ybn];exact inv.size,inv.defers,inv.below.trans (F.mono inv.below.size),fun t H=> ?_,fun l p D q X A=> ?_⟩
   ·have:=zwf (l:=listed.toList) (i:=i) (by simp[u,E]);simp only[Array.toList_setIfInBounds];omega
   ·rw[zxr _ _ (by rintro rfl;unfold zlm at H;rw[List.any_eq_false] at H;exact H ops[i] (by simp) (by rw[hd];simp))];exact inv.free t H
   ·by_cases K:l=i
    ·subst K;rw[r] at q;cases q;rw[hd] at A;cases A;rw[ybm _ _ (by rw[inv.size];exact T)];exact hv
    ·have Z:D≠d:=fun y=>K (U l p q (by rw[A,y]));rw[zzu (zxr a v Z)];refine hst _ _ _ _ (inv.holds l p D q ?_ A) F;rwa[Array.getElem?_setIfInBounds_ne (Ne.symm K)] at X
  unfold wpOp;rw[r];simp only;split
  ·rename_i L;rw[if_pos L] at G;exact .inl (Oper.wp_mono (fun M w' ⟨v,ha,F,hv⟩=>by rw[ha];exact next v w' F hv) G)
  ·rename_i L;rw[if_neg L] at G;exact next k w (Below.refl _ _) G
theorem zz1389 {id:Nat} (Φ:Nat->g->e->Prop) (p:P.follows .mixedOrders=true) (hst:∀i v w w',Φ i v w->f w.heap.size w w'->Φ i v w') (hg:zwt ops b.tmps.size=true)
 (q:∀i o,ops[i]? =some o->∀(a:Act) (w:e),a.tmps.size=b.tmps.size->a.defers=b.defers->f c.heap.size c w->(∀t,zlm ops t=false->a.tmps[t]? =b.tmps[t]?)->
   (∀h j d,h∈U9 o->ops[h]? =some j->j.dst=some d->Φ h (a.tmps.getD d k) w)->
   if Region.wanted o (yielded ops a.tmps)=true then o.wp P a w (fun m w'=>∃v,m=a.put o.dst v/\f w.heap.size w w'/\Φ i v w') Q else Φ i k w)
 (n:∀(a:Act) (w:e),a.tmps.size=b.tmps.size->a.defers=b.defers->f c.heap.size c w->(∀t,zlm ops t=false->a.tmps[t]? =b.tmps[t]?)->
   (∀h j d,ops[h]? =some j->j.dst=some d->Φ h (a.tmps.getD d k) w)->Q .normal a w):
 (Code.region id ops true).wp P Q b c:=by refine wp_region_any p (zz1383 hst hg q n _ _ _ _ (by simp) (by simp[zwe]) ⟨rfl,rfl,⟨rfl,rfl,rfl,Nat.le_refl _,fun _ _=>rfl⟩,fun _ _=>rfl,fun h j d r l hd=> ?_⟩);rw[Array.getElem?_replicate] at l;split at l<;>cases l
end
theorem M5:ownKnob Tryz.prog.godebug=none:=by kernel_rfl
theorem ysj:laidOutB Tryz.prog=true:=by kernel_rfl
section
variable {H : Type} {enc : TypeId × g → H} {P : Program}
theorem ywt {c:Func} {s:ChangeSpec} {apart fresh handsOn again:Bool} {d h:e} {args:Array g} {j k:List (DataW H)} {before pa pv:List MemPlace}
 (m:DataW.Whole enc P c.params.toList s.vars apart d args.toList j k before)
 (u:∀(i:Nat) (sp:Nat->Bool) (hd:Bool),DataW.TrodAll enc P h i sp hd c.resultTypes.toList (v.resultList c.resultTypes.size) (s.fn H (j++k)).results [])
 (n:∀sp:Nat->Bool,(∀a∈before,sp a.block=true)->DataW.TrodAll enc P h 0 sp true c.params.toList args.toList (s.fn H (j++k)).args pa)
 (w:∀sp:Nat->Bool,(∀a∈before,sp a.block=true)->DataW.TrodVars enc P h sp s.vars (s.fn H (j++k)).vars pv)
 (l:before=pa++pv) (o:f d.heap.size d h)
 (A:∀(x:Nat) (t:TypeId) (y:g),c.resultTypes[x]? =some t->(v.resultList c.resultTypes.size)[x]? =some y->Value.okWide P h .any 0 t y):
 s.post enc P c apart fresh handsOn again d args v h:=by
 have q:∀a∈before,a.block<d.heap.size:=fun a b=>m.lt a b;have r:∀a∈before,(fun i=>decide (i<d.heap.size)) a.block=true:=fun a b=>(by simpa using q a b);refine⟨j,k,before,[],pa,pv,m,u _ _ _,n _ r,w _ r,World.keptBut_mono (fun a b=>⟨b,?_⟩) (o.frame (·∈before)),fun _=> ?_⟩
 ·rw[l,List.mem_append] at b;exact Or.inr b
 ·obtain⟨_,_,_,_,_,B,z⟩:=m;refine⟨A,_,_,([]++pa)++pv,⟨[]++pa,pv,trodAll_append (n _ (fun _ _=>rfl)) (u _ _ _),w _ (fun _ _=>rfl),rfl,?_,?_⟩,?_⟩
  ·intro i off b;have p:MemPlace.cell i off∈before:=(by rw[l];simpa using b);rw[o.frozen (q _ p)];exact B i off p
  ·intro ha;have:=z ha;rw[l] at this;simpa using this
  ·intro a b _;rw[l];simpa using b
end
section
variable {H : Type} {enc : TypeId × g → H} {w : e} {base : Nat} {sp : Nat → Bool} {held : Bool}
end
section
variable {H : Type} {enc : TypeId × g → H} {w : e} {base a : Nat} {sp : Nat → Bool} {held : Bool}
end
end Go.Proofs.YtdgilbgdkmhcmaaGreatDoor
