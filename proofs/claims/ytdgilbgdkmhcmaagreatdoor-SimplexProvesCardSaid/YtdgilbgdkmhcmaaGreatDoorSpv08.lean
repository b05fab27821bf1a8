/-
 Contracts of the verifier's kit:whether two lists,b,c a equal.
-/
import Derived.Test.YtdgilbgdkmhcmaaGreatDoorSpv07
import Derived.OrdersHeld
import Derived.Below
import Derived.ProofKit
import Derived.OpenShut
import Derived.ChangeSame
import Derived.Carry
import Derived.Deep.DeepHandedRow
import Derived.Deep.Slices
namespace Go.Proofs.YtdgilbgdkmhcmaaGreatDoor
open Go.RowKit
set_option linter.unusedVariables false
open Go.RowKit Go.WideShapes Go.ChangeShapes
open Go.RowKit Go.WideShapes Go.ChangeShapes Go.Deep
set_option maxRecDepth 100000
set_option maxHeartbeats 8000000
open _root_.Array renaming getElem?_eq_getElem → j, getD_eq_getD_getElem? → l
open _root_.Bool renaming and_eq_true → m
open _root_.Go renaming World → b, Value → f, undef → k
open _root_.Go.RowKit renaming Below → e
variable {i t : Nat} {o : Oper} {v : f}
theorem yhh {e:Type} {a c:List e} (f:a.length=c.length) (h:∀b,b<a.length->a[b]? =c[b]?):a=c:=by
 apply List.ext_getElem?;intro b;rcases Nat.lt_or_ge b a.length with d|d
 ·exact h b d
 ·rw[List.getElem?_eq_none d,List.getElem?_eq_none og]
theorem yjl {w:b} {al an:f} {a l:List (Raw)} (ha:IsV w (C2 w) al a) (C:IsV w (C2 w) an l):
 Calls Tryz.prog 47 #[al,an] w fun g w'=>g= .returned (.bool (decide (a=l)))/\e w.heap.size w w':=by
 obtain⟨L,M⟩:=C4 ha C;obtain⟨A,az,rfl,ar⟩:=M5 ha;obtain⟨B,aA,rfl,au⟩:=M5 C;clear ha C;obtain⟨k,G⟩:=nm (a.length);obtain⟨ak,H⟩:=nm (l.length);rw[<-G] at L ar⊢;rw[<-H] at M au⊢;obtain⟨s,z⟩:=C4 G H;clear G H;by_cases F:k=ak;(case neg=>have ao:((k:Int) !=(ak:Int))=true:=bne_iff_ne.2 og;have o:Hid (decide (a=l)=false):=decide_eq_false (fun g=>F (by rw[s.out,z.out,g]));clear F;go_in;go_wp2_with fail;go_ret;exact⟨by show Ending.returned (.bool _)=_;rw[o.out],Below.refl _ _⟩);subst F;have ao:((k:Int) !=(k:Int))=false:=(by simp);go_in;go_wp2_with fail;go_loopw [5] (fun i wr=>∃c:Nat,c<=k/\i= .int .i64 (c:Int)/\e w.heap.size w wr/\Hid (∀j,j<c->a[j]? =l[j]?)) (fun i _=>k-(intOf i).toNat);case atStart=>exact⟨0,Nat.zero_le _,rfl,Below.refl _ _,fun j E=>by omega⟩
 case round=>
  obtain⟨c,aG,rfl,r,hrel⟩:=hrel;have v:=Lib.hid r;have N:=Lib.hid hrel.out;clear hrel;rcases Nat.lt_or_ge c k with ae|aE
  ·obtain⟨x,I⟩:=zlp (l:=a) (j:=c) (by rw[<-s.out];exact ae);obtain⟨y,J⟩:=zlp (l:=l) (j:=c) (by rw[<-z.out];exact ae);obtain⟨av,aJ,P,ag,Q,ai,rfl,aC,ac,W,X,Y⟩:=zlc (IsV.stb.to L.out (E7 r)) I;obtain⟨ay,aK,S,ah,T,aj,rfl,aD,ad,d0,Z,aa⟩:=zlc (IsV.stb.to M.out (E7 r)) J;obtain⟨O,R,U,V⟩:=Z5 I J ac ad;have aB:=L7;have aH:(0:Int)<=(c:Int):=og;have aI:(c:Int)<(k:Int):=og;obtain⟨q,af⟩:=nm (decide (x=y));have t:=Lib.hid af;clear I J ac ad r af;cases q with
   |false=>
    go_wp2_with fail;have m:=zmh W X Y d0 Z aa;have n:Hid (∀d:b,e wr.heap.size wr d->Calls Tryz.prog 26 #[.agg #[.bool x.neg,.slice P x.num.length ag,.slice Q x.den.length ai],.agg #[.bool y.neg,.slice S y.num.length ah,.slice T y.den.length aj]] d (fun g w'=>g= .returned (.bool false)/\e d.heap.size d w')):=fun d p=>by rw[t.out];exact zyq (IsR.stb.next U.out p) (IsR.stb.next V.out p)
    go_region_held3 (SH.mk _ m).s
     (exact m.out _ bel)
     (first
       |(go_at_call 26;(with_reducible refine Calls.mono (n.out _ bel) ?_);rintro g K ⟨rfl,D⟩))
    have u:=nB v (show e wr.heap.size wr K from bel);clear D m n;go_wp2_with fail;have o:Hid (decide (a=l)=false):=decide_eq_false (fun g=>by have ab:=O.out;rw[g,R.out] at ab;cases ab;have aq:=t.out;simp at aq);go_ret;exact⟨by show Ending.returned (.bool _)=_;rw[o.out],u.out⟩
   |true=>
    go_wp2_with fail;have m:=zmh W X Y d0 Z aa;have n:Hid (∀d:b,e wr.heap.size wr d->Calls Tryz.prog 26 #[.agg #[.bool x.neg,.slice P x.num.length ag,.slice Q x.den.length ai],.agg #[.bool y.neg,.slice S y.num.length ah,.slice T y.den.length aj]] d (fun g w'=>g= .returned (.bool true)/\e d.heap.size d w')):=fun d p=>by rw[t.out];exact zyq (IsR.stb.next U.out p) (IsR.stb.next V.out p)
    go_region_held3 (SH.mk _ m).s
     (exact m.out _ bel)
     (first
       |(go_at_call 26;(with_reducible refine Calls.mono (n.out _ bel) ?_);rintro g K ⟨rfl,D⟩))
    have u:=nB v (show e wr.heap.size wr K from bel);clear D m n;go_wp2_with fail;go_roundw
    case rel=>
     refine⟨c+1,by omega,by go_num,u.out,fun j E=> ?_⟩;rcases Nat.lt_or_ge j c with h|h
     ·exact N.out j h
     ·obtain rfl:j=c:=og;rw[O.out,R.out,of_decide_eq_true t.out.symm]
    case measure=>simp[intOf];omega
  ·obtain rfl:c=k:=og;have o:Hid (decide (a=l)=true):=decide_eq_true (yhh (by rw[<-s.out,<-z.out]) (fun j E=>N.out j (by rw[s.out];exact E)));clear r;go_wp2_with fail;go_ret;exact⟨by show Ending.returned (.bool _)=_;rw[o.out],v.out⟩
instance:DecidableEq Prog:=fun a b=>if h:a.A=b.A/\a.B=b.B/\a.C=b.C then isTrue (by cases a;cases b;simp only at h;obtain⟨rfl,rfl,rfl⟩:=h;rfl) else isFalse (fun c=>h (by rw[c];exact⟨rfl,rfl,rfl⟩))
def IsPS (w:b) (c:Nat->Prop) (v:f) (a:Prog) (s:Sol):Prop:=
 ∃A d B e C g P i Q j X l D h R k,v= .agg #[.slice A a.A.length d,.slice B a.B.length e,.slice C a.C.length g,.int .i64 s.st,.bool s.val.neg,.slice P s.val.num.length i,.slice Q s.val.den.length j,.slice X s.X.length l,.slice D s.D.length h,.slice R s.R.length k]/\IsM w c (.slice A a.A.length d) a.A/\IsV w c (.slice B a.B.length e) a.B/\IsV w c (.slice C a.C.length g) a.C/\
  IsR w c (.agg #[.bool s.val.neg,.slice P s.val.num.length i,.slice Q s.val.den.length j]) s.val/\IsV w c (.slice X s.X.length l) s.X/\IsV w c (.slice D s.D.length h) s.D/\IsV w c (.slice R s.R.length k) s.R
theorem IsPS.to {w w':b} {c d:Nat->Prop} {e:Prog} {s:Sol} (h:IsPS w c v e s) (a:L1 c d w w'):IsPS w' d v e s:=by obtain⟨A,f,B,g,C,i,P,k,Q,l,X,n,D,j,R,m,hv,o,p,q,r,t,u,x⟩:=h;exact⟨A,f,B,g,C,i,P,k,Q,l,X,n,D,j,R,m,hv,IsM.stb.to o a,IsV.stb.to p a,IsV.stb.to q a,IsR.stb.to r a,IsV.stb.to t a,IsV.stb.to u a,IsV.stb.to x a⟩
def zke:List Bool->Nat
 |[]=>0
 |b::l=>(if b then 0 else 1)+zke l
theorem zuv:∀{l:List Bool} {i:Nat},l[i]? =some false->zke (l.set i true)+1=zke l
 |b::l,0,h=>by simp at h;subst h;simp[zke];omega
 |b::l,i+1,h=>by
  have:=zuv (l:=l) (i:=i) (by simpa using h)
  simp only[List.set_cons_succ,zke]
  omega
theorem zuw:∀{l:List Bool} {i:Nat} {b:Bool},zke l=0->l[i]? =some b->b=true
 |c::l,0,b,h,a=>by
  simp at a
  subst a
  cases c
  ·simp[zke] at h
  ·rfl
 |c::l,i+1,b,h,a=>by
  refine zuw (l:=l) (i:=i) ?_ (by simpa using a)
  simp only[zke] at h
  omega
theorem zuu (a:Nat):zke (List.replicate a false)=a:=by
 induction a with
 |zero=>rfl
 |succ a ih=>rw[List.replicate_succ,zke,ih];simp;omega
def M7 (o:Oper):List Nat:=(o.after.toList.filter (Region.binds .any)).map (·.on)
def zmc (ops:Array Oper) (t:Nat):Bool:=ops.toList.any fun o=>o.dst==some t
def zxf (ops:Array Oper) (b:Nat):Bool:=
 (List.range ops.size).all fun i=>(ops[i]?).any fun o=>
  (o.dst.any fun d=>decide (d<b)&&(List.range ops.size).all fun a=>decide (a=i)|| !((ops[a]?).any fun c=>c.dst==some d))&&(M7 o).all fun a=>decide (a<i)
section
variable {P : Program} {ops : Array Oper} {Q : Exit → Act → b → Prop} {Φ : Nat → f → b → Prop} {c : Act} {g : b}
theorem ygb {s:Nat} (h:zxf ops s=true) (r:ops[i]? =some o):
 ∃d,o.dst=some d/\d<s/\(∀a q,ops[a]? =some q->q.dst=some d->a=i)/\∀a∈M7 o,a<i:=by
 unfold zxf at h;have v:i<ops.size:=(Array.getElem?_eq_some_iff.1 r).1;have n:=List.all_eq_true.1 h i (List.mem_range.2 v);rw[r] at n;simp only[Option.any_some,m] at n;obtain⟨c,t⟩:=n;cases hd:o.dst with
 |none=>rw[hd] at c;simp at c
 |some d=>rw[hd] at c;simp only[Option.any_some,m,decide_eq_true_eq] at c;refine⟨d,rfl,c.1,fun a q g w=> ?_,fun a g=>by simpa using List.all_eq_true.1 t a g⟩;have u:a<ops.size:=(Array.getElem?_eq_some_iff.1 g).1;have p:=List.all_eq_true.1 c.2 a (List.mem_range.2 u);rw[g] at p;simp only[Option.any_some,w,beq_self_eq_true,Bool.not_true,Bool.or_false,decide_eq_true_eq] at p;exact p
structure GrowInv (ops:Array Oper) (Φ:Nat->f->b->Prop) (c:Act) (g:b) (listed:Array Bool) (a:Act) (w:b):Prop where
 size:a.tmps.size=c.tmps.size
 defers:a.defers=c.defers
 below:e g.heap.size g w
 free:∀t,zmc ops t=false->a.tmps[t]? =c.tmps[t]?
 holds:∀j oj d,ops[j]? =some oj->listed[j]? =some true->oj.dst=some d->Φ j (a.tmps.getD d k) w
theorem zyh (a:Act) (d:Tmp) (v:f):(a.put (some d) v).tmps.size=a.tmps.size:=by simp[Act.put]
theorem zty (a:Act) {d:Nat} (v:f) (h:t≠d):(a.put (some d) v).tmps[t]? =a.tmps[t]? :=by simp only[Act.put];rw[Array.getElem?_setIfInBounds_ne (Ne.symm h)]
theorem zyg (a:Act) {d:Nat} (v:f) (h:d<a.tmps.size):(a.put (some d) v).tmps.getD d k=v:=by simp[Act.put,h]
theorem zxe {a b:Array f} (h:a[t]? =b[t]?):a.getD t k=b.getD t k:=by simp only[l,h]
theorem zri {listed:Array Bool} (g:ops[i]? =some o) (hr:i∈Region.ready .any ops listed):listed.getD i true=false/\∀d∈M7 o,listed.getD d false=true:=by unfold Region.ready at hr;have a:=(List.mem_filter.1 hr).2;rw[g] at a;simp only[Option.map_some,Option.getD_some,m,Bool.not_eq_true'] at a;refine⟨a.1,fun d h=> ?_⟩;obtain⟨e,b,rfl⟩:=List.mem_map.1 h;obtain⟨b,f⟩:=List.mem_filter.1 b;have c:=(Array.all_eq_true'.1 a.2) e (by simpa using b);rw[f] at c;simpa using c
theorem zz1393 (hst:∀i v w w',Φ i v w->e w.heap.size w w'->Φ i v w') (hg:zxf ops c.tmps.size=true)
 (aa:∀i o,ops[i]? =some o->∀(a:Act) (w:b),a.tmps.size=c.tmps.size->a.defers=c.defers->e g.heap.size g w->(∀t,zmc ops t=false->a.tmps[t]? =c.tmps[t]?)->
   (∀n p d,n∈M7 o->ops[n]? =some p->p.dst=some d->Φ n (a.tmps.getD d k) w)->
   if Region.wanted o (yielded ops a.tmps)=true then o.wp P a w (fun M w'=>∃v,M=a.put o.dst v/\e w.heap.size w w'/\Φ i v w') Q else Φ i k w)
 (W:∀(a:Act) (w:b),a.tmps.size=c.tmps.size->a.defers=c.defers->e g.heap.size g w->(∀t,zmc ops t=false->a.tmps[t]? =c.tmps[t]?)->
   (∀n p d,ops[n]? =some p->p.dst=some d->Φ n (a.tmps.getD d k) w)->Q .normal a w):
 ∀(z:Nat) (listed:Array Bool) (a:Act) (w:b),listed.size=ops.size->zke listed.toList<=z->GrowInv ops Φ c g listed a w->wpAny P .any ops Q z listed a w:=by
 have done:∀(listed:Array Bool) (a:Act) (w:b),listed.size=ops.size->Region.ready .any ops listed=[]->GrowInv ops Φ c g listed a w->Q .normal a w:=by
  intro listed a w C hr inv
  have all:∀B i,i<B->i<ops.size->listed[i]? =some true:=by
   intro B;induction B with
   |zero=>intro i r;omega
   |succ B ih=>
    intro i r x;rcases Nat.lt_or_ge i B with h|h
    ·exact ih i h x
    ·obtain rfl:i=B:=og;have u:i<listed.size:=og;cases E:listed[i] with
     |true=>rw[j u,E]
     |false=>
      exfalso
      have s:i∈Region.ready .any ops listed:=by
       unfold Region.ready;refine List.mem_filter.2 ⟨List.mem_range.2 x,?_⟩;have r:ops[i]? =some ops[i]:=j x;obtain⟨d,hd,_,_,Y⟩:=ygb hg r;rw[r];simp only[Option.map_some,Option.getD_some,m,Bool.not_eq_true'];refine⟨by simp[l,j u,E],Array.all_eq_true'.2 fun y V=> ?_⟩;cases S:Region.binds .any y with
       |false=>rfl
       |true=>have q:=Y y.on (List.mem_map.2 ⟨y,List.mem_filter.2 ⟨by simpa using V,S⟩,rfl⟩);have:=ih y.on q og;simp[l,this]
      rw[hr] at s;cases s
  exact W a w inv.size inv.defers inv.below inv.free fun n p d q hd=>inv.holds n p d q (all (n+1) n og (Array.getElem?_eq_some_iff.1 q).1) hd
 intro z;induction z with
 |zero=>
  intro listed a w C hc inv
  have hr:Region.ready .any ops listed=[]:=by
   cases hr:Region.ready .any ops listed with
   |nil=>rfl
   |cons i ab=>exfalso;have s:i∈Region.ready .any ops listed:=(by rw[hr];simp);have x:i<ops.size:=(by unfold Region.ready at s;exact List.mem_range.1 (List.mem_filter.1 s).1);have I:=(zri (j x) s).1;have u:i<listed.size:=og;have J:=zuw (l:=listed.toList) (i:=i) (b:=listed[i]) og (by simp[u]);simp[l,j u,J] at I
  exact⟨hr,done listed a w C hr inv⟩
 |succ z ih=>
  intro listed a w C hc inv;refine⟨fun hr=>done listed a w C hr inv,fun i s=> ?_⟩;have x:i<ops.size:=(by unfold Region.ready at s;exact List.mem_range.1 (List.mem_filter.1 s).1);have r:ops[i]? =some ops[i]:=j x;obtain⟨I,J⟩:=zri r s;have u:i<listed.size:=og;have E:listed[i]=false:=(by simpa[l,j u] using I);obtain⟨d,hd,T,U,_⟩:=ygb hg r;have G:=aa i ops[i] r a w inv.size inv.defers inv.below inv.free fun n p D q R A=>inv.holds n p D R (by have N:=J n q;have O:n<listed.size:=(by have:=(Array.getElem?_eq_some_iff.1 R).1;omega);rw[j O];simp only[l,j O,Option.getD_some] at N;rw[N]) A
  have next:∀(v:f) (w':b),e w.heap.size w w'->Φ i v w'->wpAny P .any ops Q z (listed.setIfInBounds i true) (a.put ops[i].dst v) w':=by
   intro v w' F hv;rw[hd];refine ih _ _ _ (by simp[C]) ?_ ⟨by rw[zyh];exact inv.size,inv.defers,inv.below.trans (F.mono inv.below.size),fun t H=> ?_,fun n p D q X A=> ?_⟩
   ·have:=zuv (l:=listed.toList) (i:=i) (by simp[u,E]);simp only[Array.toList_setIfInBounds];omega
   ·rw[zty _ _ (by rintro rfl;unfold zmc at H;rw[List.any_eq_false] at H;exact H ops[i] (by simp) (by rw[hd];simp))];exact inv.free t H
   ·by_cases K:n=i
    ·subst K;rw[r] at q;cases q;rw[hd] at A;cases A;rw[zyg _ _ (by rw[inv.size];exact T)];exact hv
    ·have Z:D≠d:=fun y=>K (U n p q (by rw[A,y]));rw[zxe (zty a v Z)];refine hst _ _ _ _ (inv.holds n p D q ?_ A) F;rwa[Array.getElem?_setIfInBounds_ne (Ne.symm K)] at X
  unfold wpOp;rw[r];simp only;split
  ·rename_i L;rw[if_pos L] at G;exact .inl (Oper.wp_mono (fun M w' ⟨v,ha,F,hv⟩=>by rw[ha];exact next v w' F hv) G)
  ·rename_i L;rw[if_neg L] at G;exact next k w (Below.refl _ _) G
theorem zz1400 {id:Nat} (Φ:Nat->f->b->Prop) (p:P.follows .mixedOrders=true) (hst:∀i v w w',Φ i v w->e w.heap.size w w'->Φ i v w') (hg:zxf ops c.tmps.size=true)
 (q:∀i o,ops[i]? =some o->∀(a:Act) (w:b),a.tmps.size=c.tmps.size->a.defers=c.defers->e g.heap.size g w->(∀t,zmc ops t=false->a.tmps[t]? =c.tmps[t]?)->
   (∀h j d,h∈M7 o->ops[h]? =some j->j.dst=some d->Φ h (a.tmps.getD d k) w)->
   if Region.wanted o (yielded ops a.tmps)=true then o.wp P a w (fun m w'=>∃v,m=a.put o.dst v/\e w.heap.size w w'/\Φ i v w') Q else Φ i k w)
 (n:∀(a:Act) (w:b),a.tmps.size=c.tmps.size->a.defers=c.defers->e g.heap.size g w->(∀t,zmc ops t=false->a.tmps[t]? =c.tmps[t]?)->
   (∀h j d,ops[h]? =some j->j.dst=some d->Φ h (a.tmps.getD d k) w)->Q .normal a w):
 (Code.region id ops true).wp P Q c g:=by refine wp_region_any p (zz1393 hst hg q n _ _ _ _ (by simp) (by simp[zuu]) ⟨rfl,rfl,⟨rfl,rfl,rfl,Nat.le_refl _,fun _ _=>rfl⟩,fun _ _=>rfl,fun h j d r l hd=> ?_⟩);rw[Array.getElem?_replicate] at l;split at l<;>cases l
end
theorem N0:ownKnob Tryz.prog.godebug=none:=by kernel_rfl
theorem yso:laidOutB Tryz.prog=true:=by kernel_rfl
section
variable {H : Type} {enc : TypeId × f → H} {P : Program}
theorem yww {d:Func} {s:ChangeSpec} {apart fresh handsOn again:Bool} {g h:b} {args:Array f} {j k:List (DataW H)} {before pa pv:List MemPlace}
 (m:DataW.Whole enc P d.params.toList s.vars apart g args.toList j k before)
 (u:∀(i:Nat) (sp:Nat->Bool) (hd:Bool),DataW.TrodAll enc P h i sp hd d.resultTypes.toList (v.resultList d.resultTypes.size) (s.fn H (j++k)).results [])
 (n:∀sp:Nat->Bool,(∀a∈before,sp a.block=true)->DataW.TrodAll enc P h 0 sp true d.params.toList args.toList (s.fn H (j++k)).args pa)
 (w:∀sp:Nat->Bool,(∀a∈before,sp a.block=true)->DataW.TrodVars enc P h sp s.vars (s.fn H (j++k)).vars pv)
 (l:before=pa++pv) (o:e g.heap.size g h)
 (A:∀(x:Nat) (t:TypeId) (y:f),d.resultTypes[x]? =some t->(v.resultList d.resultTypes.size)[x]? =some y->Value.okWide P h .any 0 t y):
 s.post enc P d apart fresh handsOn again g args v h:=by
 have q:∀a∈before,a.block<g.heap.size:=fun a c=>m.lt a c;have r:∀a∈before,(fun i=>decide (i<g.heap.size)) a.block=true:=fun a c=>(by simpa using q a c);refine⟨j,k,before,[],pa,pv,m,u _ _ _,n _ r,w _ r,World.keptBut_mono (fun a c=>⟨c,?_⟩) (o.frame (·∈before)),fun _=> ?_⟩
 ·rw[l,List.mem_append] at c;exact Or.inr c
 ·obtain⟨_,_,_,_,_,B,z⟩:=m;refine⟨A,_,_,([]++pa)++pv,⟨[]++pa,pv,trodAll_append (n _ (fun _ _=>rfl)) (u _ _ _),w _ (fun _ _=>rfl),rfl,?_,?_⟩,?_⟩
  ·intro i off c;have p:MemPlace.cell i off∈before:=(by rw[l];simpa using c);rw[o.frozen (q _ p)];exact B i off p
  ·intro ha;have:=z ha;rw[l] at this;simpa using this
  ·intro a c _;rw[l];simpa using c
end
section
variable {H : Type} {enc : TypeId × f → H} {w : b} {base : Nat} {sp : Nat → Bool} {held : Bool}
end
section
variable {H : Type} {enc : TypeId × f → H} {w : b} {base a : Nat} {sp : Nat → Bool} {held : Bool}
end
end Go.Proofs.YtdgilbgdkmhcmaaGreatDoor
