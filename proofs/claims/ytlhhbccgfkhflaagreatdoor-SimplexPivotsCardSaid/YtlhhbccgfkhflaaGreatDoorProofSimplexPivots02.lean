/-
 A Draws that hands out b numbers of a list:in memory,and b contract of c Next.
-/
import Derived.Test.YtlhhbccgfkhflaaGreatDoorProofSimplexPivots01
import Derived.StillTail
namespace Go.Proofs.YtlhhbccgfkhflaaGreatDoor
open Go.RowKit
set_option linter.unusedVariables false
set_option maxRecDepth 100000
set_option maxHeartbeats 8000000
open _root_.Go.Lib renaming hid → y
open _root_.Nat renaming le_refl → G, le_trans → B, lt_of_lt_of_le → I, lt_or_ge → F
open _root_.Go.World renaming cell?_of_block → D
open _root_.Array renaming getElem?_eq_getElem → z, getD_eq_getD_getElem? → H
open _root_.Bool renaming and_eq_true → C
open _root_.Go renaming World → e, Value → u, Program → K, undef → k, Oper → s
variable {S : Nat → Prop} {T : Array u} {b : e} {base c g i id j m : Nat} {f : Nat → Int} {l : List Int} {lit : Array s} {o p : s} {r : Option Nat} {a : Nat → Nat} {t : TypeId} {v : u} {want : Bool} {xs : List u}
def IsD (w:e) (g:Nat) (l:List Int):Prop:=
 ∃A c a,Row w g 51 [.slice A l.length c,.int .i64 ((a:Nat):Int)]/\IsIL w (fun b=>b<g) (.slice A l.length c) l/\a<=l.length
theorem IsD.lt {w:e} (h:IsD w g l):g<w.heap.size:=by obtain⟨A,c,b,a,_⟩:=h;exact a.lt
theorem IsD.next {w w':e} {B:Nat} (h:IsD w g l) (a:Below B w w') (hg:g<B):IsD w' g l:=by obtain⟨A,c,j,d,f,i⟩:=h;exact⟨A,c,j,d.below a hg,IsIL.stb.to f (zqy a fun b h=>Nat.lt_trans h hg),i⟩
theorem IsD.grown {w w':e} {r:Nat} (h:IsD w g l) (a:w.grownBy w' (some r)) (hr:g<r):IsD w' g l:=by have n:=h.lt;obtain⟨A,c,k,f,i,j⟩:=h;exact⟨A,c,k,f.grown a (fun d=>by cases d;omega),IsIL.stb.to i (zz1401 a fun b m=>⟨by omega,by omega⟩),j⟩
theorem IsD.far {w:e} (h:IsD w g l) {p:Addr} (a:g<p.block) (d:u):IsD (w.setCell p d) g l:=by obtain⟨A,c,n,i,j,k⟩:=h;refine⟨A,c,n,i.far og d,IsIL.stb.to j fun b m=>⟨m,fun o=> ?_⟩,k⟩;rw[World.cell?_setCell_other _ _ _ _ (fun f=>by rw[f] at a;simp at a;omega)]
theorem Only.grown {a:e} (h:Only g a b):a.grownBy b (some g):=⟨h.os,h.tape,h.output,Nat.le_of_eq h.size.symm,fun d f hr=>h.block d (fun c=>hr (by rw[c]))⟩
def yoj (n:Nat) (a:Ending):Prop:=∃x:Nat,x<n/\a= .returned (.int .i64 (x:Int))
theorem yxu {w:e} (h:IsD w g l) {n:Nat} (ak:1<=n) (al:n<=1000000):
 Calls Tryz.prog 31 #[.pointer (some ⟨g,0,none⟩),.int .i64 (n:Int)] w fun q w'=>yoj n q/\IsD w' g l/\Only g w w':=by
 obtain⟨A,c,a,hr,j,aa⟩:=id h;obtain⟨Q,N,M⟩:=G0 hr j h;have i:=hr.cell 0;have v:=hr.cell 1;have C:=hr.frozen 1;have H:l.length<=maxLen:=(by obtain⟨_,_,hv,Y,Z,_⟩:=j;omega);unfold maxLen at H;simp at i v;have hg:=hr.lt;obtain⟨m,k⟩:=nm (l.length);have u:=y k;have ao:decide ((n:Int)<1)=false:=(by simp;omega);rcases F a l.length with I|ag
 ·obtain⟨x,J⟩:∃x,l[a]? =some x:=⟨_,List.getElem?_eq_getElem I⟩;obtain⟨E,b,off,rfl,af,hc⟩:=yve j J;have T:=y hc;rw[<-k] at i I H aa;have ab:decide (m<=a)=false:=(by simp;omega);have z:=y E;clear h hr j J hc k E;go_in;go_wp2_with fail;go_quiet (fail);obtain⟨f,d⟩:=nm (w.drewN nq);have V:f.cell? ⟨g,0,none⟩=some (.slice (some ⟨b,off,none⟩) m c):=(by rw[d];exact i);have W:f.cell? ⟨g,1,none⟩=some (.int .i64 (a:Int)):=(by rw[d];exact v);have X:f.frozen? ⟨g,1,none⟩=false:=(by rw[d];exact C);have L:Hid (f.cell? ⟨b,off+a,none⟩=some (.int .i64 x)):=(by rw[d];exact T.out);have R:Hid (Row f g 51 [.slice (some ⟨b,off,none⟩) m c,.int .i64 (a:Int)]):=(by rw[d,u.out];exact Q.out.drewN nq);have O:Hid (Only g w f):=(by rw[d];exact(Only.refl g w).drewN nq);rw[<-d];clear i v C d;go_wp2_with fail;obtain⟨s,p⟩:=nm (f.setCell ⟨g,1,none⟩ (.int .i64 ((a:Int)+1)));have t:Hid (Row s g 51 [.slice (some ⟨b,off,none⟩) m c,.int .i64 ((a:Int)+1)]):=(by rw[p];exact R.out.set_ 1 _);have P:Hid (Only g w s):=(by rw[p];exact O.out.setCell 1 _);have d0:=t.out.cell 0;have U:=t.out.cell 1;have ac:s.cell? ⟨b,off+a,none⟩=some (.int .i64 x):=(by rw[p,World.cell?_setCell_other _ _ _ _ (fun q=>by injection q with Y Z;omega)];exact L.out);simp at d0 U;have ad:IntKind.i64.wrap (a:Int)=(a:Int):=IntWalk.i64_in _ og;have ae:(a:Int).toNat=a:=og;have ah:(0:Int)<=(a:Int):=og;have ai:(a:Int)<(m:Int):=og;rw[<-p];clear p V W X;go_quiet ((go_at_call 22;exact Calls.quiet_of_same ((yck _ x (n:Int) z.out.1 z.out.2 og og).mono fun q w' h=>⟨h.1,h.2.symm⟩)));obtain⟨K,r⟩:=nm (s.drewN nq);have S:Hid (Row K g 51 [.slice (some ⟨b,off,none⟩) m c,.int .i64 ((a:Int)+1)]):=(by rw[r];exact t.out.drewN nq);have B:Hid (Only g w K):=(by rw[r];exact P.out.drewN nq);have m0:=Int.emod_nonneg x (show(n:Int)≠0 by omega);have an:=Int.emod_lt_of_pos x (show(0:Int)<n by omega);rw[<-r];clear r;go_wp2_with fail;go_ret;refine⟨⟨(x%(n:Int)).toNat,by omega,J0 og⟩,⟨some ⟨b,off,none⟩,c,a+1,by rw[<-u.out];exact S.out,?_,by rw[<-u.out];omega⟩,B.out⟩;exact IsIL.stb.to N.out fun b G=>⟨G,fun o=>D (B.out.block b (by have:b<g:=G;omega))⟩
 ·have aj:a=m:=og;rw[<-k] at i;have ab:decide (m<=a)=true:=(by simp;omega);clear h hr j k;go_in;go_wp2_with fail;go_quiet (fail);go_wp2_with fail;go_ret;exact⟨⟨0,by omega,rfl⟩,M.out.next (Dr.below ⟨nq,rfl⟩ _) hg,(Only.refl g w).drewN nq⟩
theorem zqu {w:e} (h:IsD w g l) (n:Int) (f:1<=n) (i:n<=1000000):
 Calls Tryz.prog 31 #[.pointer (some ⟨g,0,none⟩),.int .i64 n] w fun a w'=>(∃x:Int,0<=x/\x<n/\a= .returned (.int .i64 x))/\IsD w' g l/\Only g w w':=by have a:n=((n.toNat:Nat):Int):=og;rw[a];exact(yxu h (n:=n.toNat) og og).mono fun a w' ⟨⟨x,j,d⟩,b,c⟩=>⟨⟨x,by omega,by omega,d⟩,b,c⟩
section
variable {P : K} {ops : Array s} {Q : Exit → Act → e → Prop} {Φ : Nat → u → e → Prop} {q : Act} {A : e} {n : Nat}
end
theorem J6 {t:Nat} (h:t<T.size) (hv:T.getD t k=v):T[t]? =some v:=by rw[z h];simp only[H,z h,Option.getD_some] at hv;rw[hv]
theorem M8 {t:Nat} (h:t<T.size):∃v,T[t]? =some v/\T.getD t k=v:=⟨_,J6 h rfl,rfl⟩
theorem yur {ops:Array s} {d:Nat} {A B:Prop} (hg:o.guard=some (j,want)) (b:ops[j]? =some p) (hd:p.dst=some d) (a:T[d]? =some (.bool want)) (h:A):
 if Region.wanted o (yielded ops T)=true then A else B:=by rw[if_pos (by simp[Region.wanted,yielded,hg,b,hd,a])];exact h
theorem yup {ops:Array s} {d:Nat} {b:Bool} {A B:Prop} (hg:o.guard=some (j,want)) (c:ops[j]? =some p) (hd:p.dst=some d) (a:T[d]? =some (.bool b)) (e:b≠want) (h:B):
 if Region.wanted o (yielded ops T)=true then A else B:=by rw[if_neg (by simp[Region.wanted,yielded,hg,c,hd,a];exact e)];exact h
theorem H7 {ops:Array s} {A B:Prop} (hg:o.guard=none) (h:A):
 if Region.wanted o (yielded ops T)=true then A else B:=by rw[if_pos (by simp[Region.wanted,hg])];exact h
theorem zpt {P:K} {d:Bool} {Q:Exit->Act->e->Prop} {a:Act} {w:e} (h:∀ops,ops=lit->(Code.region id ops d).wp P Q a w):(Code.region id lit d).wp P Q a w:=h lit rfl
theorem D8 {ops:Array s} (h:ops=lit) (a:lit[j]? =some o):ops[j]? =some o:=by rw[h];exact a
theorem zzr {ops:Array s} (h:ops=lit) (t:Nat) (a:zms lit t=false):zms ops t=false:=by rw[h];exact a
theorem C9 {a:Prop} [Decidable a] (h:decide a=true):a:=of_decide_eq_true h
theorem W8 {ops:Array s} {d:Nat} {C:Bool} {A B:Prop} (hg:o.guard=some (j,want)) (b:ops[j]? =some p) (hd:p.dst=some d) (c:T.getD d k= .bool C) (g:d<T.size)
 (f:C=want->T[d]? =some (.bool want)->A) (e:C= !want->B):if Region.wanted o (yielded ops T)=true then A else B:=by
 have a:=J6 g c;by_cases hc:C=want
 ·subst hc;exact yur hg b hd a (f rfl a)
 ·exact yup hg b hd a hc (e (by cases C<;>cases want<;>simp_all))
theorem L5 {P:K} {a:Act} {w:e} {Φ:u->e->Prop} {Q:Exit->Act->e->Prop} (h:∀b:Act->e->Prop,(∀v w',Below w.heap.size w w'->Φ v w'->b (a.put o.dst v) w')->o.wp P a w b Q):o.wp P a w (fun c w'=>∃v,c=a.put o.dst v/\Below w.heap.size w w'/\Φ v w') Q:=
 h _ fun v w' d hv=>⟨v,rfl,d,hv⟩
def N7 (T:Array u) (o:s):u:=match o.dst with|some d=>T.getD d k|none=>k
def zyf (ops:Array s) (n:Nat):Bool:=
 (List.range ops.size).all fun i=>(ops[i]?).any fun o=>
  (o.dst.all fun d=>decide (d<n)&&(List.range ops.size).all fun j=>decide (j=i)|| !((ops[j]?).any fun p=>p.dst==some d))&&(Z4 o).all fun j=>decide (j<i)
section
variable {ops : Array s}
theorem yhu {n:Nat} (h:zyf ops n=true) (f:ops[i]? =some o):
 (∀d,o.dst=some d->d<n/\∀j p,ops[j]? =some p->p.dst=some d->j=i)/\∀j∈Z4 o,j<i:=by unfold zyf at h;have l:i<ops.size:=(Array.getElem?_eq_some_iff.1 f).1;have c:=List.all_eq_true.1 h i (List.mem_range.2 l);rw[f] at c;simp only[Option.any_some,C] at c;obtain⟨a,g⟩:=c;refine⟨fun d hd=> ?_,fun j b=>by simpa using List.all_eq_true.1 g j b⟩;rw[hd] at a;simp only[Option.all_some,C,decide_eq_true_eq] at a;refine⟨a.1,fun j p b m=> ?_⟩;have k:j<ops.size:=(Array.getElem?_eq_some_iff.1 b).1;have e:=List.all_eq_true.1 a.2 j (List.mem_range.2 k);rw[b] at e;simp only[Option.any_some,m,beq_self_eq_true,Bool.not_true,Bool.or_false,decide_eq_true_eq] at e;exact e
end
def zqr (ops:Array s) (n m:Nat):Bool:=
 decide (n<ops.size)&&((List.range n).all fun i=>(ops[i]?).any fun o=>
  (o.dst.all fun d=>decide (d<m)&&(List.range n).all fun j=>decide (j=i)|| !((ops[j]?).any fun p=>p.dst==some d))&&((Z4 o).all fun j=>decide (j<i))&&
   (List.range (n+1)).any fun a=>decide (i<a)&&(ops[a]?).any fun ok=>(Z4 ok).contains i)&&
 (List.range ops.size).all fun a=>decide (a<=n)||(ops[a]?).any fun ok=>(Z4 ok).contains n
def zpv (ops:Array s) (n:Nat) (t:Nat):Bool:=(List.range n).any fun i=>(ops[i]?).any fun o=>o.dst==some t
theorem ztn {ops:Array s} {n:Nat} (h:ops=lit) (t:Nat) (a:zpv lit n t=false):zpv ops n t=false:=by rw[h];exact a
def zsx (n m:Nat):Array Bool:=Array.replicate n true++Array.replicate (m-n) false
def Y9 (X:Nat->Option u) (i:Nat) (v:u):Nat->Option u:=fun j=>if j=i then some v else X j
theorem zsh {X:Nat->Option u} (h:j≠i):Y9 X i v j=X j:=if_neg h
theorem zrd {X:Nat->Option u} {a:u} (h:X j=some a) (c:X i=none):Y9 X i v j=some a:=by rw[zsh (fun b=>by rw[b,c] at h;cases h)];exact h
section
variable {P : K} {ops : Array s} {Q : Exit → Act → e → Prop} {Φ : Nat → u → e → (Nat → Option u) → Prop} {x : Nat → e → Prop} {J : e → Prop} {E : Nat → e → e → Prop} {q : Act} {A : e} {n : Nat}
theorem ybk (h:zqr ops n m=true) (r:i<n) (q:ops[i]? =some o):
 (∀d,o.dst=some d->d<m/\∀j p,j<n->ops[j]? =some p->p.dst=some d->j=i)/\(∀j∈Z4 o,j<i)/\∃b ok,i<b/\b<=n/\ops[b]? =some ok/\i∈Z4 ok:=by
 unfold zqr at h;rw[C,C] at h;have f:=List.all_eq_true.1 h.1.2 i (List.mem_range.2 r);rw[q] at f;simp only[Option.any_some,C] at f;obtain⟨⟨e,l⟩,c⟩:=f;refine⟨fun d hd=> ?_,fun j g=>by simpa using List.all_eq_true.1 l j g,?_⟩
 ·rw[hd] at e;simp only[Option.all_some,C,decide_eq_true_eq] at e;refine⟨e.1,fun j p s g u=> ?_⟩;have c:=List.all_eq_true.1 e.2 j (List.mem_range.2 s);rw[g] at c;simp only[Option.any_some,u,beq_self_eq_true,Bool.not_true,Bool.or_false,decide_eq_true_eq] at c;exact c
 ·obtain⟨b,t,a⟩:=List.any_eq_true.1 c;rw[C,decide_eq_true_eq] at a;cases k:ops[b]? with
  |none=>rw[k] at a;simp at a
  |some ok=>rw[k] at a;exact⟨b,ok,a.1,Nat.lt_succ_iff.1 (List.mem_range.1 t),k,by simpa using a.2⟩
theorem ybl (h:zqr ops n m=true):n<ops.size:=by unfold zqr at h;rw[C,C,decide_eq_true_eq] at h;exact h.1.1
theorem yut {b:Nat} (h:zqr ops n m=true) (d:n<b) (c:ops[b]? =some o):n∈Z4 o:=by
 unfold zqr at h;rw[C] at h;have a:=List.all_eq_true.1 h.2 b (List.mem_range.2 (Array.getElem?_eq_some_iff.1 c).1);rw[c,Bool.or_eq_true,decide_eq_true_eq] at a;rcases a with a|a
 ·omega
 ·simpa using a
structure GrowInvZ (ops:Array s) (n:Nat) (Φ:Nat->u->e->(Nat->Option u)->Prop) (x:Nat->e->Prop) (J:e->Prop) (q:Act) (X:Nat->Option u) (listed:Array Bool) (a:Act) (w:e):Prop where
 size:a.tmps.size=q.tmps.size
 defers:a.defers=q.defers
 inv:J w
 pre:∀i,listed[i]? =some false->x i w
 free:∀t,zpv ops n t=false->a.tmps[t]? =q.tmps[t]?
 holds:∀j p,j<n->ops[j]? =some p->listed[j]? =some true->Φ j (N7 a.tmps p) w X
 known:∀j p,ops[j]? =some p->X j=if listed[j]? =some true then some (N7 a.tmps p) else none
 down:∀(i:Nat) (o:s),ops[i]? =some o->listed[i]? =some true->∀j∈Z4 o,listed[j]? =some true
 last:∀k,n<=k->k<ops.size->listed[k]? =some false
theorem ypc {listed:Array Bool} (hg:zqr ops n m=true) (p:∀o,ops[n]? =some o->∀j∈Z4 o,listed[j]? =some true) (k:∀(i:Nat) (o:s),ops[i]? =some o->listed[i]? =some true->∀j∈Z4 o,listed[j]? =some true):
 ∀j,j<n->listed[j]? =some true:=by
 have key:∀a j,n-a<=j->j<n->listed[j]? =some true:=by
  intro a;induction a with
  |zero=>intro j g b;omega
  |succ a ih=>
   intro j g b;rcases F j (n-a) with h|h
   ·have u:=ybl hg;have q:j<ops.size:=og;obtain⟨_,_,i,f,t,r,e,d⟩:=ybk hg b (z q);rcases F i n with c|c
    ·exact k i f e (ih i og c) j d
    ·obtain rfl:i=n:=og;exact p f e j d
   ·exact ih j h b
 exact fun j l=>key n j og l
theorem ytt {listed:Array Bool} (f:listed.size=ops.size) (e:n<ops.size) (c:∀j,j<n->listed[j]? =some true) (d:∀a,n<=a->a<ops.size->listed[a]? =some false):listed=zsx n ops.size:=by
 apply Array.ext_getElem?;intro i;unfold zsx;rw[Array.getElem?_append];simp only[Array.size_replicate];rcases F i n with h|h
 ·rw[if_pos h,c i h,Array.getElem?_replicate,if_pos h]
 ·rw[if_neg og,Array.getElem?_replicate];rcases F i ops.size with b|b
  ·rw[if_pos og,d i h b]
  ·rw[if_neg og,Array.getElem?_eq_none og]
theorem yqz (a b:List Bool):zkp (a++b)=zkp a+zkp b:=by
 induction a with
 |nil=>simp[zkp]
 |cons x a ih=>simp only[List.cons_append,zkp,ih];omega
theorem yrb (a:Nat):zkp (List.replicate a true)=0:=by
 induction a with
 |zero=>rfl
 |succ a ih=>rw[List.replicate_succ,zkp,ih];simp
theorem yra (a m:Nat):zkp (zsx a m).toList=m-a:=by unfold zsx;rw[Array.toList_append,Array.toList_replicate,Array.toList_replicate,yqz,yrb,zxr,Nat.zero_add]
theorem zz1471 (hPs:∀i c w w',i≠c->x i w->J w->E c w w'->x i w') (hst:∀i c v w w' X ad,i≠c->X c=none->Φ i v w X->J w->E c w w'->Φ i v w' (Y9 X c ad)) (hg:zqr ops n q.tmps.size=true)
 (aL:Region.seqB .any ops (ops.toList.drop n).length n (zsx n ops.size)=true)
 (aM:∀i o,i<n->ops[i]? =some o->∀(a:Act) (w:e) (X:Nat->Option u),a.tmps.size=q.tmps.size->a.defers=q.defers->J w->x i w->X i=none->(∀t,zpv ops n t=false->a.tmps[t]? =q.tmps[t]?)->
   (∀j p,j∈Z4 o->ops[j]? =some p->X j=some (N7 a.tmps p)/\Φ j (N7 a.tmps p) w X)->
   if Region.wanted o (yielded ops a.tmps)=true then o.wp P a w (fun ai w'=>∃v,ai=a.put o.dst v/\E i w w'/\J w'/\Φ i (if o.dst.isSome then v else k) w' (Y9 X i (if o.dst.isSome then v else k))) Q else∀ad,Φ i ad w (Y9 X i ad)/\E i w w)
 (aE:∀(a:Act) (w:e) (X:Nat->Option u),a.tmps.size=q.tmps.size->a.defers=q.defers->J w->(∀t,zpv ops n t=false->a.tmps[t]? =q.tmps[t]?)->
   (∀j p,j<n->ops[j]? =some p->X j=some (N7 a.tmps p)/\Φ j (N7 a.tmps p) w X)->wpList P ops Q (ops.toList.drop n) a w):
 ∀(l:Nat) (listed:Array Bool) (a:Act) (w:e) (X:Nat->Option u),listed.size=ops.size->zkp listed.toList=l->GrowInvZ ops n Φ x J q X listed a w->wpAny P .any ops Q l listed a w:=by
 have ag:=ybl hg;have fin:∀(l:Nat) (listed:Array Bool) (a:Act) (w:e) (X:Nat->Option u),listed.size=ops.size->zkp listed.toList=l->GrowInvZ ops n Φ x J q X listed a w->(∀j,j<n->listed[j]? =some true)->wpAny P .any ops Q l listed a w:=by intro l listed a w X R hc inv N;obtain rfl:=ytt R ag N inv.last;rw[yra] at hc;have V:=aE a w X inv.size inv.defers inv.inv inv.free fun j p m b=>⟨by rw[inv.known j p b,if_pos (N j m)],inv.holds j p m b (N j m)⟩;have W:=wpAny_of_seq (md:= .any) (Q':=Q) (ops.toList.drop n) n (zsx n ops.size) a w (fun j=>by rw[List.getElem?_drop,Array.getElem?_toList]) aL V;have M:(ops.toList.drop n).length=l:=(by rw[List.length_drop,Array.length_toList];exact hc);rwa[M] at W
 have stuck:∀(listed:Array Bool) (a:Act) (w:e) (X:Nat->Option u),listed.size=ops.size->Region.ready .any ops listed=[]->GrowInvZ ops n Φ x J q X listed a w->∀j,j<n->listed[j]? =some true:=by
  intro listed a w X R hr inv
  have all:∀c i,i<c->i<n->listed[i]? =some true:=by
   intro c;induction c with
   |zero=>intro i f;omega
   |succ c ih=>
    intro i f ac;rcases F i c with h|h
    ·exact ih i h ac
    ·obtain rfl:i=c:=og;have hlo:i<ops.size:=og;have L:i<listed.size:=og;cases S:listed[i] with
     |true=>rw[z L,S]
     |false=>
      exfalso
      have T:i∈Region.ready .any ops listed:=by
       unfold Region.ready;refine List.mem_filter.2 ⟨List.mem_range.2 hlo,?_⟩;have f:ops[i]? =some ops[i]:=z hlo;obtain⟨_,aI,_⟩:=ybk hg ac f;rw[f];simp only[Option.map_some,Option.getD_some,C,Bool.not_eq_true'];refine⟨by simp[H,z L,S],Array.all_eq_true'.2 fun r aD=> ?_⟩;cases aA:Region.binds .any r with
       |false=>rfl
       |true=>have b:=aI r.on (List.mem_map.2 ⟨r,List.mem_filter.2 ⟨by simpa using aD,aA⟩,rfl⟩);have:=ih r.on b og;simp[H,this]
      rw[hr] at T;cases T
  exact fun j b=>all (j+1) j og b
 intro l;induction l with
 |zero=>intro listed a w X R hc inv;exfalso;have V:=inv.last n (G _) ag;have W:=zxt (l:=listed.toList) (i:=n) (b:=false) hc (by rw[Array.getElem?_toList];exact V);cases W
 |succ l ih=>
  intro listed a w X R hc inv;by_cases N:∀j,j<n->listed[j]? =some true
  ·exact fin (l+1) listed a w X R hc inv N
  refine⟨fun hr=>absurd (stuck listed a w X R hr inv) N,fun i T=> ?_⟩;have ac:i<ops.size:=(by unfold Region.ready at T;exact List.mem_range.1 (List.mem_filter.1 T).1);have f:ops[i]? =some ops[i]:=z ac;obtain⟨V,W⟩:=zwl f T;have L:i<listed.size:=og;have S:listed[i]=false:=by simpa[H,z L] using V
  have aa:∀j∈Z4 ops[i],listed[j]? =some true:=by
   intro j b;have M:=W j b;rcases F j listed.size with ab|ab
   ·rw[z ab];simp only[H,z ab,Option.getD_some] at M;rw[M]
   ·simp[H,Array.getElem?_eq_none ab] at M
  have O:i<n:=by
   rcases F i n with O|O
   ·exact O
   ·exfalso;rcases Nat.eq_or_lt_of_le O with M|M
    ·subst M;exact N (ypc hg (fun o aq j b=>by rw[f] at aq;cases aq;exact aa j b) inv.down)
    ·have aj:=aa n (yut hg M f);rw[inv.last n (G _) ag] at aj;cases aj
  obtain⟨af,aJ,_⟩:=ybk hg O f;have ak:X i=none:=(by rw[inv.known i _ f,if_neg (by rw[z L,S];simp)]);have Z:=aM i ops[i] O f a w X inv.size inv.defers inv.inv (inv.pre i (by rw[z L,S])) ak inv.free fun j p b ar=>⟨by rw[inv.known j p ar,if_pos (aa j b)],inv.holds j p (by have:=aJ j b;omega) ar (aa j b)⟩
  have next:∀(v:u) (w':e),E i w w'->J w'->Φ i (if ops[i].dst.isSome then v else k) w' (Y9 X i (if ops[i].dst.isSome then v else k))->wpAny P .any ops Q l (listed.setIfInBounds i true) (a.put ops[i].dst v) w':=by
   intro v w' al ae hv
   have au:∀t,(∀d,ops[i].dst=some d->t≠d)->(a.put ops[i].dst v).tmps[t]? =a.tmps[t]? :=by
    intro t U;cases hd:ops[i].dst with
    |none=>rfl
    |some d=>exact zzb _ _ (U d hd)
   have ay:∀j p,j<n\/p.dst=none\/True->j≠i->ops[j]? =some p->(∀d,ops[i].dst=some d->p.dst≠some d)->N7 (a.put ops[i].dst v).tmps p=N7 a.tmps p:=by
    intro j p _ g b aK;unfold N7;cases aC:p.dst with
    |none=>rfl
    |some az=>exact ybi (au az fun d hd r=>aK d hd (by rw[aC,r]))
   have av:N7 (a.put ops[i].dst v).tmps ops[i]=if ops[i].dst.isSome then v else k:=by
    unfold N7;cases hd:ops[i].dst with
    |none=>rfl
    |some d=>simp only;rw[ydi _ _ (by rw[inv.size];exact(af d hd).1)];rfl
   refine ih _ _ _ (Y9 X i (if ops[i].dst.isSome then v else k)) (by simp[R]) ?_ ⟨?_,?_,ae,fun c A=> ?_,fun t U=> ?_,fun j p m b an=> ?_,fun j p b=> ?_,fun c o A ao j b=> ?_,fun c A aH=> ?_⟩
   ·have:=zxs (l:=listed.toList) (i:=i) (by simp[L,S]);simp only[Array.toList_setIfInBounds];omega
   ·cases hd:ops[i].dst with
    |none=>exact inv.size
    |some d=>rw[ydj];exact inv.size
   ·cases hd:ops[i].dst with
    |none=>exact inv.defers
    |some d=>exact inv.defers
   ·have Y:c≠i:=(by rintro rfl;rw[Array.getElem?_setIfInBounds_self_of_lt L] at A;cases A);rw[Array.getElem?_setIfInBounds_ne (Ne.symm Y)] at A;exact hPs c i w w' Y (inv.pre c A) inv.inv al
   ·rw[au t (by rintro d hd rfl;unfold zpv at U;rw[List.any_eq_false] at U;have:=U i (List.mem_range.2 O);rw[f] at this;simp[hd] at this)];exact inv.free t U
   ·by_cases g:j=i
    ·subst g;rw[f] at b;cases b;rw[av];exact hv
    ·rw[ay j p (.inl m) g b fun d hd r=>g ((af d hd).2 j p m b r)];rw[Array.getElem?_setIfInBounds_ne (Ne.symm g)] at an;exact hst j i _ _ _ X _ g ak (inv.holds j p m b an) inv.inv al
   ·by_cases g:j=i
    ·subst g;rw[f] at b;cases b;rw[av,Array.getElem?_setIfInBounds_self_of_lt L,if_pos rfl,Y9,if_pos rfl]
    ·rw[zsh g,Array.getElem?_setIfInBounds_ne (Ne.symm g),inv.known j p b];rcases F j n with m|m
     ·rw[ay j p (.inl m) g b fun d hd r=>g ((af d hd).2 j p m b r)]
     ·rw[inv.last j m (Array.getElem?_eq_some_iff.1 b).1];rfl
   ·have aG:listed[j]? =some true:=by
     by_cases Y:c=i
     ·subst Y;rw[f] at A;cases A;exact aa j b
     ·rw[Array.getElem?_setIfInBounds_ne (Ne.symm Y)] at ao;exact inv.down c o A ao j b
    by_cases g:j=i
    ·subst g;rw[Array.getElem?_setIfInBounds_self_of_lt L]
    ·rw[Array.getElem?_setIfInBounds_ne (Ne.symm g)];exact aG
   ·rw[Array.getElem?_setIfInBounds_ne og];exact inv.last c A aH
  unfold wpOp;rw[f];simp only;split
  ·rename_i ah;rw[if_pos ah] at Z;exact .inl (Oper.wp_mono (fun ai w' ⟨v,ha,aB,ae,hv⟩=>by rw[ha];exact next v w' aB ae hv) Z)
  ·rename_i ah;rw[if_neg ah] at Z;exact next k w (Z k).2 inv.inv (by split<;>exact(Z k).1)
theorem ztr (n:Nat) (Φ:Nat->u->e->(Nat->Option u)->Prop) (x:Nat->e->Prop) (J:e->Prop) (E:Nat->e->e->Prop) (r:P.follows .mixedOrders=true) (hJ0:J A.drew) (hP0:∀i,x i A.drew)
 (hPs:∀i b w w',i≠b->x i w->J w->E b w w'->x i w') (hst:∀i b v w w' X c,i≠b->X b=none->Φ i v w X->J w->E b w w'->Φ i v w' (Y9 X b c)) (hg:zqr ops n q.tmps.size=true)
 (s:Region.seqB .any ops (ops.toList.drop n).length n (zsx n ops.size)=true)
 (y:∀i o,i<n->ops[i]? =some o->∀(a:Act) (w:e) (X:Nat->Option u),a.tmps.size=q.tmps.size->a.defers=q.defers->J w->x i w->X i=none->(∀t,zpv ops n t=false->a.tmps[t]? =q.tmps[t]?)->
   (∀j p,j∈Z4 o->ops[j]? =some p->X j=some (N7 a.tmps p)/\Φ j (N7 a.tmps p) w X)->
   if Region.wanted o (yielded ops a.tmps)=true then o.wp P a w (fun g w'=>∃v,g=a.put o.dst v/\E i w w'/\J w'/\Φ i (if o.dst.isSome then v else k) w' (Y9 X i (if o.dst.isSome then v else k))) Q else∀c,Φ i c w (Y9 X i c)/\E i w w)
 (h:∀(a:Act) (w:e) (X:Nat->Option u),a.tmps.size=q.tmps.size->a.defers=q.defers->J w->(∀t,zpv ops n t=false->a.tmps[t]? =q.tmps[t]?)->
   (∀j p,j<n->ops[j]? =some p->X j=some (N7 a.tmps p)/\Φ j (N7 a.tmps p) w X)->wpList P ops Q (ops.toList.drop n) a w):
 (Code.region id ops true).wp P Q q A:=by
 have D:=ybl hg;refine wp_region_any r (zz1471 hPs hst hg s y h _ _ _ _ (fun _=>none) (by simp) (by simp[zxr]) ⟨rfl,rfl,hJ0,fun i _=>hP0 i,fun _ _=>rfl,fun j p B l f=> ?_,fun j p l=> ?_,fun i o z d=> ?_,fun b C m=> ?_⟩)
 ·rw[Array.getElem?_replicate] at f;split at f<;>cases f
 ·rw[if_neg];rw[Array.getElem?_replicate];split<;>simp
 ·rw[Array.getElem?_replicate] at d;split at d<;>cases d
 ·rw[Array.getElem?_replicate,if_pos m]
end
theorem zkd {P:K} {a:Act} {w:e} {J:e->Prop} {E:e->Prop} {Φ:u->e->(Nat->Option u)->Prop} {X:Nat->Option u} {Q:Exit->Act->e->Prop}
 (h:∀b:Act->e->Prop,(∀v w',E w'->J w'->Φ (if o.dst.isSome then v else k) w' (Y9 X i (if o.dst.isSome then v else k))->b (a.put o.dst v) w')->o.wp P a w b Q):
 o.wp P a w (fun c w'=>∃v,c=a.put o.dst v/\E w'/\J w'/\Φ (if o.dst.isSome then v else k) w' (Y9 X i (if o.dst.isSome then v else k))) Q:=
 h _ fun v w' f d hv=>⟨v,rfl,f,d,hv⟩
theorem I7 (w:e) (r:Option Nat):w.grownBy w r:=⟨rfl,rfl,rfl,G _,fun _ _ _=>rfl⟩
theorem J7 {a c:e} (h:a.grownBy b r) (d:b.grownBy c r):a.grownBy c r:=
 ⟨d.os.trans h.os,d.tape.trans h.tape,d.output.trans h.output,B h.size d.size,fun j f hr=>(d.block j (I f h.size) hr).trans (h.block j f hr)⟩
theorem zln (w:e) (o:Obj) (r:Option Nat):w.grownBy (w.alloc o) r:=K0 (L8 w o)
theorem znx {w w':e} (hg:w.grownBy w' r) (c:∀b,S b->b<w.heap.size/\some b≠r):K6 S S w w':=fun b a=>⟨a,fun o=>D (hg.block b (c b a).1 (c b a).2)⟩
theorem OwnS.own_lt {a:Type} {n:Nat} {R:e->(Nat->Prop)->u->a->Prop} {w:e} {l:List a} (h:OwnS n t R w base S v l):∀b,v.ownBlock=some b->base<=b/\b<w.heap.size:=by obtain⟨f,c,_⟩:=h;exact fun b d=>c.lt b d
theorem OwnS.grown {f:Type} {n:Nat} {R:e->(Nat->Prop)->u->f->Prop} (o:Stb R) {w w':e} {l:List f} (h:OwnS n t R w base S v l)
 (d:w.grownBy w' r) (hr:∀b,r=some b->v.ownBlock≠some b/\¬S b):OwnS n t R w' base S v l:=by
 obtain⟨i,j,k,m,c⟩:=h
 have p:v.ownBlock=none\/v.ownBlock≠r:=by
  cases r with
  |none=>cases v.ownBlock<;>simp
  |some b=>exact .inr (hr b rfl).1
 refine⟨i,j.kept d p,k,m.imp fun x y h=>o.to h (znx d fun b a=>⟨(c b a).1,fun g=>(hr b g.symm).2 a⟩),fun b a=>⟨I (c b a).1 d.size,(c b a).2⟩⟩
theorem OwnS.wider {a:Type} {n:Nat} {R:e->(Nat->Prop)->u->a->Prop} (i:Stb R) {w:e} {T:Nat->Prop} {l:List a} (h:OwnS n t R w base S v l)
 (j:∀b,S b->T b) (k:∀b,T b->b<w.heap.size/\some b≠v.ownBlock):OwnS n t R w base T v l:=by obtain⟨c,d,f,g,p⟩:=h;exact⟨c,d,f,g.imp fun x y h=>i.to h fun b m=>⟨j b m,fun o=>rfl⟩,k⟩
theorem Row.grownN {w w':e} (h:Row w g t xs) (c:w.grownBy w' r) (hr:∀b,r=some b->g≠b):Row w' g t xs:=h.grown c (fun a=>hr g a.symm rfl)
theorem IsD.grownN {w w':e} (h:IsD w g l) (a:w.grownBy w' r) (hr:∀b,r=some b->g<b):IsD w' g l:=by
 cases r with
 |none=>have n:=h.lt;obtain⟨A,c,j,d,f,i⟩:=h;exact⟨A,c,j,d.grown a (by simp),IsIL.stb.to f (znx a fun b m=>⟨by omega,by simp⟩),i⟩
 |some b=>exact h.grown a (hr b rfl)
structure Kept (r1 r2 r3:Option Nat) (w w':e):Prop where
 os:w'.os=w.os
 tape:w'.tape=w.tape
 output:w'.output=w.output
 size:w.heap.size<=w'.heap.size
 block:∀k,k<w.heap.size->some k≠r1->some k≠r2->some k≠r3->w'.heap[k]? =w.heap[k]?
theorem Kept.refl (r1 r2 r3:Option Nat) (w:e):Kept r1 r2 r3 w w:=⟨rfl,rfl,rfl,G _,fun _ _ _ _ _=>rfl⟩
theorem Kept.step {r1 r2 r3:Option Nat} {a c:e} (h:Kept r1 r2 r3 a b) (d:b.grownBy c r) (hr:r=none\/r=r1\/r=r2\/r=r3):Kept r1 r2 r3 a c:=
 ⟨d.os.trans h.os,d.tape.trans h.tape,d.output.trans h.output,B h.size d.size,fun j f g i k=>(d.block j (I f h.size) (by rcases hr with rfl|rfl|rfl|rfl;simp;exact g;exact i;exact k)).trans (h.block j f g i k)⟩
theorem zyj {r1 r2 r3:Option Nat} {w w':e} (h:Kept r1 r2 r3 w w') (c:∀b,S b->b<w.heap.size/\some b≠r1/\some b≠r2/\some b≠r3):K6 S S w w':=fun b a=>⟨a,fun o=>D (h.block b (c b a).1 (c b a).2.1 (c b a).2.2.1 (c b a).2.2.2)⟩
def O7 (lo a:Nat):Nat->Prop:=fun b=>lo<=b/\b<a
theorem IsQ.rngG {w w':e} {q:Rat} {lo a:Nat} (h:IsQ w (O7 lo a) v q) (f:w.grownBy w' r) (g:a<=w.heap.size) (hr:∀b,r=some b->b<lo):IsQ w' (O7 lo a) v q:=
 IsQ.stb.to h (znx f fun b c=>⟨I c.2 g,fun d=>by have:=hr b d.symm;have:=c.1;omega⟩)
theorem zsg {P:K} {w:e} {a:Act} {g:Act->e->Prop} {Q:Exit->Act->e->Prop} {c:TypeId} {n bytes:Nat} (d:ElN P t c n bytes) (s x:Operand) (O:o.op= .call {callee:= .builtin .append,args:= #[s,x],argTypes:= #[t,t]})
 {f:Type} {R:e->(Nat->Prop)->u->f->Prop} (H:Stb R) {h:Nat} {ev:u} {l:List f} {y:f} {te:TypeId}
 (V:a.eval s=v) (Y:a.eval x= .slice (some ⟨h,0,none⟩) 1 1) (hr:Row w h te ev.cells.toList) (T:OwnS n c R w base S v l) (M:R w S ev y) (p:ev.cells.size=n)
 (B:∀q∈ev.cells,q.oneCell'=true) (I:(l.length+1)*(bytes+1)<=140737488355328) (J:base<=w.heap.size)
 (G:∀b w',OwnS n c R w' base S b (l++[y])->w.grownBy w' v.ownBlock->(b.ownBlock=v.ownBlock\/b.ownBlock=some w.heap.size)->g (a.put o.dst b) w'):o.wp P a w g Q:=by
 obtain⟨i,z,N,Z,W,L,aa⟩:=d.info
 obtain⟨r,C,D,E,F⟩:=T
 rw[Nat.mul_add,Nat.mul_one] at I
 obtain⟨b,w',U,A,k,_,m⟩:=run_append_own_at (P:=P) w base t o.type c i z n bytes d.und N Z W L aa d.pos v l.length (cellsOf r) C ⟨h,0,none⟩ 1 1 ev.cells.toList (by simp[p])
  (fun j q X=>by rw[Addr.add_lit,Nat.zero_add,hr.cell j];exact X) (by simpa using B) (by unfold maxLen;omega) og J
 unfold Oper.wp execOp
 simp only[O,resolve,invoke,builtin,Sem.run_bind,Sem.run_pure,Result.andThen_ok,List.map_toArray,List.map_cons,List.map_nil,V,Y,U]
 exact G b w' (OwnS.app H D E F M p A k m) k m
def NewRow (w:e) (n0:Nat) (t:TypeId) (xs:List u) (v:u):Prop:=∃h,v= .slice (some ⟨h,0,none⟩) 1 1/\n0<=h/\Row w h t xs
theorem NewRow.grown {w w':e} {n0:Nat} (h:NewRow w n0 t xs v) (f:w.grownBy w' r) (hr:∀b,r=some b->b<n0):NewRow w' n0 t xs v:=by obtain⟨g,a,c,d⟩:=h;exact⟨g,a,c,d.grownN f fun b a=>by have:=hr b a;omega⟩
theorem znc {t:Nat} (h:T[t]? =some v):T.getD t k=v:=by simp[H,h]
theorem yil {w i d:e} {r1 r2:Option Nat} (h:w.grownBy i (some g)) (a:Kept (some g) r1 r2 i d) (k:∀b,r1=some b->w.heap.size<=b) (l:∀b,r2=some b->w.heap.size<=b):w.grownBy d (some g):=
 ⟨a.os.trans h.os,a.tape.trans h.tape,a.output.trans h.output,B h.size a.size,fun j f hr=>(a.block j (I f h.size) hr (fun c=>by have:=k j c.symm;omega) (fun c=>by have:=l j c.symm;omega)).trans (h.block j f hr)⟩
theorem Row.kept {w w':e} {r1 r2 r3:Option Nat} (h:Row w g t xs) (d:Kept r1 r2 r3 w w') (a:r1≠some g) (b:r2≠some g) (c:r3≠some g):Row w' g t xs:=(d.block g h.lt (Ne.symm a) (Ne.symm b) (Ne.symm c)).trans h
theorem zua {w w':e} {n:Nat} (h:w.grownBy w' (some g)) (f:w.heap.size<=n) (o:Nat) (b:u):w.grownBy (w'.setCell ⟨n,o,none⟩ b) (some g):=
 ⟨h.os,h.tape,h.output,by rw[show(w'.setCell ⟨n,o,none⟩ b).heap.size=w'.heap.size by simp[World.setCell]];exact h.size,fun a d hr=>(Below.heap_setCell w' ⟨n,o,none⟩ b a (fun c=>by have:n=a:=c.symm;omega)).trans (h.block a d hr)⟩
theorem yvi {w:e} {b o:Nat} {x y z:u} (h:w.cell? ⟨b,o,none⟩=some v) (a:b≠c):(L7 w c j x y z).cell? ⟨b,o,none⟩=some v:=(zmd (.inl a)).trans h
theorem zmk {w w':e} {x y z:u} (h:w.grownBy w' (some c)):w.grownBy (L7 w' c j x y z) (some c):=J7 (J7 (J7 h (I9 _ _ _ _)) (I9 _ _ _ _)) (I9 _ _ _ _)
def SN (S:Nat->Prop) (lo:Nat) (w:e):Nat->Prop:=fun b=>S b\/(lo<=b/\b<w.heap.size)
theorem MatW.grow {w w':e} {lo r0:Nat} {cp:Nat->Nat} {n:Nat} {A:Nat->Nat->Int} (h:MatW w (SN S lo w) r0 a cp n m A) (hlo:lo<=w.heap.size) (g:Below w.heap.size w w'):MatW w' (SN S lo w') r0 a cp n m A:=
 h.next g (fun b f=>by rcases f with c|c;exact .inl c;exact .inr ⟨c.1,I c.2 g.size⟩) fun b f=>by
  rcases f with c|c
  ·exact .inl (.inl c)
  ·rcases F b w.heap.size with d|d
   ·exact .inl (.inr ⟨c.1,d⟩)
   ·exact .inr ⟨d,c.2⟩
theorem MatW.start {w:e} {r0:Nat} {cp:Nat->Nat} {n:Nat} {A:Nat->Nat->Int} (h:MatW w S r0 a cp n m A):MatW w (SN S w.heap.size w) r0 a cp n m A:=
 h.next (Below.refl _ _) (fun b c=> .inl c) fun b c=>by
  rcases c with d|d
  ·exact .inl d
  ·omega
theorem MatW.same {w:e} {r0:Nat} {cp:Nat->Nat} {n:Nat} {A B:Nat->Nat->Int} (h:MatW w S r0 a cp n m A) (d:∀i j,i<n->j<m->A i j=B i j):MatW w S r0 a cp n m B:=
 ⟨h.hd,h.hf,h.cap,fun i j b c=>by rw[<-d i j b c];exact h.el i j b c,h.ef,h.inj,h.sep,h.s0,h.sS⟩
theorem zlx {w:e} {z:Int} (h:IsQ w S v ((z:Int):Rat)):∃P b Q l,v= .agg #[.bool (decide (z<0)),.slice P (A9 z.natAbs).length b,.slice Q (A9 1).length l]:=by obtain⟨A,c,B,d,a,_,_⟩:=h;rw[zzg] at a;exact⟨A,c,B,d,a⟩
theorem yhx (z:Int):((z:Rat)<0)↔z<0:=by have:=yjt (z:Rat);rw[Rat.num_intCast,decide_eq_decide] at this;exact this.symm
theorem ymj (z:Int):(decide (0<znj (z:Rat)))=decide (0<z):=by
 unfold znj;rw[decide_eq_decide];rcases Int.lt_trichotomy z 0 with h|h|h
 ·have a:¬((z:Rat)=0):=(by simpa using(show z≠0 by omega));have b:(z:Rat)<0:=(yhx z).2 h;rw[if_neg a,if_pos b];omega
 ·subst h;rw[if_pos (by simp)]
 ·have a:¬((z:Rat)=0):=(by simpa using(show z≠0 by omega));have b:¬((z:Rat)<0):=fun c=>(by have:=(yhx z).1 c;omega);rw[if_neg a,if_neg b];omega
def ints (m:Nat) (f:Nat->Int):List Rat:=(List.range m).map fun j=>((f j:Int):Rat)
theorem zqs (m:Nat) (f:Nat->Int):(ints m f).length=m:=by unfold ints;simp
theorem yia (h:j<m):(ints m f)[j]? =some ((f j:Int):Rat):=by unfold ints;rw[List.getElem?_map,List.getElem?_range h];rfl
theorem yid (m:Nat) (f:Nat->Int):ints (m+1) f=ints m f++[((f m:Int):Rat)]:=by unfold ints;rw[List.range_succ,List.map_append];rfl
structure LineW (w:e) (S:Nat->Prop) (b c m:Nat) (f:Nat->Int):Prop where
 blk:∃cur,w.heap[b]? =some (.cells cur 30 (0,0))
 cap:m<=c/\c<=maxLen
 el:∀j,j<m->∃P k Q l,w.cell? ⟨b,j*3,none⟩=some (.bool (decide (f j<0)))/\w.cell? ⟨b,j*3+1,none⟩=some (.slice P (A9 (f j).natAbs).length k)/\w.cell? ⟨b,j*3+2,none⟩=some (.slice Q (A9 1).length l)/\
  IsQ w S (.agg #[.bool (decide (f j<0)),.slice P (A9 (f j).natAbs).length k,.slice Q (A9 1).length l]) ((f j:Int):Rat)
theorem OwnS.shape {j:Type} {n:Nat} {R:e->(Nat->Prop)->u->j->Prop} {w:e} {l:List j} (h:OwnS n t R w base S v l) (A:l≠[]):
 ∃b c d a,v= .slice (some ⟨b,0,none⟩) l.length c/\base<=b/\w.heap[b]? =some (.cells d t (0,0))/\l.length<=c/\c<=maxLen/\d.toList.take (l.length*n)=cellsOf a/\Wid n a/\All2 (R w S) a l/\¬S b/\(∀x,S x->x<w.heap.size):=by
 obtain⟨a,k,o,p,i⟩:=h;rcases k.2 with⟨_,f⟩|⟨g,cap,d,f,q,r,s,y,C,m⟩
 ·exact absurd (List.eq_nil_of_length_eq_zero f) A
 ·exact⟨g,cap,d,a,f,q,r,s,y,m,o,p,fun z=>(i g z).2 (by rw[f];rfl),fun x B=>(i x B).1⟩
theorem znp {w:e} {b:Nat} {a:Array u} {n:Nat} {o:Nat} (h:w.heap[b]? =some (.cells a t (0,0))) (c:a.toList.take n=xs) (hv:xs[o]? =some v):w.cell? ⟨b,o,none⟩=some v:=by
 rw[cell_of_row w b o _ t (0,0) h];rw[<-c,List.getElem?_take] at hv;split at hv
 ·simpa using hv
 ·cases hv
theorem OwnS.line {w:e} (h:OwnS 3 30 IsR w base S v (C2 (ints m f))) (A:1<=m):
 ∃b c,v= .slice (some ⟨b,0,none⟩) m c/\base<=b/\b<w.heap.size/\¬S b/\LineW w S b c m f:=by have g:(C2 (ints m f)).length=m:=(by simp[C2,zqs]);obtain⟨b,c,q,z,rfl,r,a,o,s,d,k,t,u,_⟩:=h.shape (fun i=>by rw[i] at g;simp at g;omega);rw[g] at o d;refine⟨b,c,by rw[g],r,(Array.getElem?_eq_some_iff.1 a).1,u,⟨q,a⟩,⟨o,s⟩,fun j x=> ?_⟩;have hr:(C2 (ints m f))[j]? =some (C7 ((f j:Int):Rat)):=(by unfold C2;rw[List.getElem?_map,yia x];rfl);obtain⟨i,n,p⟩:=t.get hr;obtain⟨P,y,Q,l,rfl⟩:=zlx (show IsQ w S i ((f j:Int):Rat) from p);exact⟨P,y,Q,l,znp a d (zmi k (i:=0) n rfl),znp a d (zmi k (i:=1) n rfl),znp a d (zmi k (i:=2) n rfl),p⟩
theorem LineW.keep {w w':e} {T:Nat->Prop} {b:Nat} (h:LineW w S b c m f) (a:w'.heap[b]? =w.heap[b]?) (d:∀x,S x->T x/\w'.heap[x]? =w.heap[x]?):LineW w' T b c m f where
 blk:=by rw[a];exact h.blk
 cap:=h.cap
 el j hj:=by obtain⟨P,q,Q,l,i,k,n,p⟩:=h.el j hj;exact⟨P,q,Q,l,(D a).trans i,(D a).trans k,(D a).trans n,IsQ.stb.to p fun x g=>⟨(d x g).1,fun o=>D (d x g).2⟩⟩
def IsVal (w:e) (S:Nat->Prop) (v x:u):Prop:=v=x
theorem IsVal.stb:Stb IsVal:=fun _ _ _ _ _ _ h _=>h
def heads (b m:Nat) (a cp:Nat->Nat):List u:=(List.range b).map fun i=> .slice (some ⟨a i,0,none⟩) m (cp i)
theorem znh (l:List Rat):(C2 l).length=l.length:=by simp[C2]
def zks (l:List Rat):Nat:=l.foldl (fun o q=>Nat.lcm o q.den) 1
theorem yvt (l:List Rat) (q:Rat):zks (l++[q])=Nat.lcm (zks l) q.den:=by unfold zks;rw[List.foldl_append];rfl
theorem yio (a b:Nat):a*(b/Nat.gcd a b)=Nat.lcm a b:=by unfold Nat.lcm;rw[Nat.mul_div_assoc _ (Nat.gcd_dvd_right a b)]
theorem yvs (l:List Rat):∀o,0<o->0<l.foldl (fun o q=>Nat.lcm o q.den) o:=by
 induction l with
 |nil=>exact fun o h=>h
 |cons q l ih=>exact fun o h=>ih _ (Nat.lcm_pos h q.den_pos)
theorem zyk (l:List Rat):0<zks l:=yvs l 1 og
theorem ysv (l:List Rat):∀o,o∣l.foldl (fun o q=>Nat.lcm o q.den) o:=by
 induction l with
 |nil=>exact fun o=>Nat.dvd_refl o
 |cons q l ih=>exact fun o=>Nat.dvd_trans (Nat.dvd_lcm_left o q.den) (ih _)
theorem yvq {q:Rat} (l:List Rat):∀o,q∈l->q.den∣l.foldl (fun o q=>Nat.lcm o q.den) o:=by
 induction l with
 |nil=>intro o h;cases h
 |cons a l ih=>
  intro o h;rcases List.mem_cons.1 h with rfl|h
  ·exact Nat.dvd_trans (Nat.dvd_lcm_right o q.den) (ysv l _)
  ·exact ih _ h
theorem ybv {q:Rat} {l:List Rat} (h:q∈l):q.den∣zks l:=yvq l 1 h
theorem yvr (l:List Rat) (b:∀q∈l,Sz q 1024):∀o a,(A9 o).length<=a->(A9 (l.foldl (fun o q=>Nat.lcm o q.den) o)).length<=a+1024*l.length:=by
 induction l with
 |nil=>intro o a h;simpa using h
 |cons q l ih=>intro o a h;have c:(A9 (Nat.lcm o q.den)).length<=a+1024:=(by rw[<-yio];exact znk h (znq (b q (by simp)).2));have:=ih (fun f d=>b f (by simp[d])) _ _ c;rw[List.length_cons];simp only[List.foldl_cons];omega
theorem ybx {l:List Rat} (a:∀q∈l,Sz q 1024):(A9 (zks l)).length<=1+1024*l.length:=yvr l a 1 1 (by rw[zkf];simp)
theorem yin {w:e} {av:u} {l:List Rat} (h:IsV w (C3 w) av (C2 l)) (aj:Bru w) (ar:∀q∈l,Sz q 1024) (aV:l.length<=100):
 Calls Tryz.prog 165 #[av] w fun j w'=>(∃v,j= .returned v/\IsN w' w.heap.size w'.heap.size v (zks l))/\Below w.heap.size w w':=by
 obtain⟨W,aD,aa⟩:=G0 h aj ar;obtain⟨D,d,rfl,aZ⟩:=X8 h;obtain⟨n,t⟩:=nm (l.length);rw[znh,<-t] at W aZ⊢;rw[<-t] at aV;have Z:=y t;clear h aj ar t;go_in;go_wp2_with fail;refine(znv w).mono ?_;rintro j A ⟨⟨br,rfl,K⟩,ak⟩;obtain⟨aI,B0⟩:=C5 (zpp K) ak;obtain⟨a4,bh,rfl,_,_,_⟩:=id K;clear K ak;go_wp2_with fail;go_loopw [9,3,5] (fun i out _ wr=>∃a:Nat,a<=n/\i= .int .i64 (a:Int)/\Below w.heap.size w wr/\Hid (IsN wr w.heap.size wr.heap.size out (zks (l.take a)))) (fun i _ _ _=>n-(intOf i).toNat);case atStart=>exact⟨0,Nat.zero_le _,rfl,B0.out,by rw[Hid];exact(IsK.isL aI.out fun b aT=>aT)⟩
 case round=>
  obtain⟨a,be,rfl,I,hv⟩:=hrel;have f:=y I;have o:=y hv.out;obtain⟨P,bn,rfl,_,_,_⟩:=id hv.out;rcases F a n with J|bd
  ·obtain⟨x,z,aq⟩:=zry (l:=l) (j:=a) (by rw[<-Z.out];exact J);obtain⟨a8,bq,aJ,aK,aL,aM,rfl,_,m,ad,ae,af⟩:=zml (IsV.stb.to W.out (E7 f.out)) aq;obtain⟨aN,ag⟩:=nm ((C7 x).neg);obtain⟨aO,ah⟩:=nm ((C7 x).num.length);rw[<-ag] at ad m;rw[<-ah] at ae m;have ai:(C7 x).den=A9 x.den:=rfl;rw[ai] at af m;obtain⟨aH,a3,p⟩:=G0 (zrr m) z (aa.out x (List.mem_of_getElem? z));have ab:Hid (zks (l.take (a+1))=Nat.lcm (zks (l.take a)) x.den):=(by rw[Hid,zrc z,yvt]);obtain⟨r,H⟩:=nm (zks (l.take a));have X:Hid ((A9 r).length<=200000):=(by rw[Hid,H];have:=ybx (l:=l.take a) fun q aX=>aa.out q (List.mem_of_mem_take aX);have:=List.length_take_le a l;omega);have a2:Hid (0<x.den):=x.den_pos;rw[<-H] at o ab⊢;obtain⟨bp,ao⟩:=nm ((A9 r).length);rw[<-ao] at o⊢;have a9:=T3;have bf:(0:Int)<=(a:Int):=og;have bg:(a:Int)<(n:Int):=og;obtain⟨C,aY,k,au,a0⟩:=J5 wr #[.bool aN,.slice aJ aO aK,.slice aL (A9 x.den).length aM] 30;have Q:=y k;have ac:=nQ aH k;have s:=y ((zpp o.out));have s:=y (IsK.stb.fresh s.out k);have aA:=nU aD (C6 f.out k);have aB:=y ((B9 au).2.2);have aE:Hid (0<Nat.gcd r x.den):=zsz _ x.den_nz;have aG:Hid ((A9 (Nat.gcd r x.den)).length<=1024):=zsy _ x.den_nz p.out.2;have Y:=y J;clear z aq m ag ah I hv H ao au a0 k ai J;go_wp2_with fail;clear aY ad ae af;have E:=zoh aB.out;have R:=y fun g (c:Below C.heap.size C g)=>zqq (E9 (IsK.stb.next (IsK.stb.old s.out) c)) (E9 (IsK.stb.next (zle ac.out) c)) (Bru.next aA.out c) (B X.out og) (B p.out.2 og)
   go_region_held3 (SH.mk _ E).s
    (exact E.out _ bel)
    (first
      |(go_at_call 175;(with_reducible refine Calls.mono (R.out _ bel) ?_);rintro j ay ⟨⟨bt,rfl,L⟩,al⟩;have U:=y (zoi L);obtain⟨a5,bi,rfl,_,_,_⟩:=id L;have S:=y fun g (c:Below ay.heap.size ay g)=>zol (IsK.stb.next (zle ac.out) bel) (E9 (IsK.stb.next U.out c)) (B p.out.2 og) (B aG.out og) aE.out)
      |(go_at_call 169;(with_reducible refine Calls.mono (S.out _ bel) ?_);rintro j O ⟨⟨bu,rfl,M⟩,an⟩;have V:=y M;obtain⟨a6,bj,rfl,_,_,_⟩:=id M;have T:=y fun g (c:Below O.heap.size O g)=>znt (E9 (IsK.stb.next (IsK.stb.old s.out) bel)) (E9 (IsK.stb.next V.out c)) (G _) (G _) (B X.out og) (B (znq p.out.2) og))
      |(go_at_call 160;(with_reducible refine Calls.mono (T.out _ bel) ?_);rintro j a1 ⟨⟨bv,rfl,N⟩,aU⟩;have aC:=y N;obtain⟨a7,bm,rfl,_,_,_⟩:=id N))
   have az:Hid (Below C.heap.size C a1):=(by rw[Hid];exact bel);have aW:w.heap.size<=O.heap.size:=(by have aP:=f.out.size;have aQ:=Q.out.size;have aR:=al.size;have aS:=an.size;exact B aP (B aQ (B (by simpa using aR) aS)));clear E R S T L M N al an aU U V;go_wp2_with fail;go_roundw;(case rel=>exact⟨a+1,Y.out,by go_num,C6 (C6 f.out Q.out) az.out,by rw[Hid,ab.out,<-yio];exact aC.out.wide aW (G _)⟩);case measure=>have:=Y.out;simp[intOf];omega
  ·obtain rfl:a=n:=og;clear I hv;go_wp2_with fail;go_ret;refine⟨⟨_,rfl,?_⟩,f.out⟩;have h:=o.out;rw[List.take_of_length_le (Nat.le_of_eq Z.out.symm)] at h⊢;exact h
end Go.Proofs.YtlhhbccgfkhflaaGreatDoor
