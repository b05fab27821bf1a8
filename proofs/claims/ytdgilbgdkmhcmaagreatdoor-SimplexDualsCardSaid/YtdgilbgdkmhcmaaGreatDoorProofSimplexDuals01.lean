/-
 Lists of ints in memory,and c b a in.
-/
import Derived.Test.YtdgilbgdkmhcmaaGreatDoorSdv08
import Derived.StillTail
namespace Go.Proofs.YtdgilbgdkmhcmaaGreatDoor
open Go.RowKit Go.WideShapes Go.ChangeShapes Go.Deep
set_option linter.unusedVariables false
open Go.RowKit
set_option maxRecDepth 100000
set_option maxHeartbeats 8000000
open _root_.Nat renaming le_refl → N, le_trans → I, lt_of_lt_of_le → L, lt_or_ge → D
open _root_.List renaming getElem?_eq_getElem → U, getElem?_map → V
open _root_.Array renaming getElem?_eq_getElem → z, getD_eq_getD_getElem? → G
open _root_.Bool renaming and_eq_true → B
open _root_.Option renaming getD_some → O
open _root_.Go renaming World → f, Value → u, TypeId → C, Program → M, undef → k, Oper → q
open _root_.Go.Proofs.Tryz renaming prog → F
variable {b c : f} {g i id j m : Nat} {lit : Array q} {p : q} {r : Option Nat} {want : Bool} {xs : List u}
def zua (n:Int):Prop:= -9223372036854775808<=n/\n<=9223372036854775807
theorem yad {n:Int} (h:(Lit.int .i64 n).wf=true):zua n:=by rw[Lit.wf,B,decide_eq_true_eq,decide_eq_true_eq] at h;exact h
def IsIL (w:f) (S:Nat->Prop) (v:u) (l:List Int):Prop:=
 ∃A c,v= .slice A l.length c/\l.length<=c/\c<=maxLen/\SVS w S A (l.map fun x=> .int .i64 x)/\∀x∈l,zua x
theorem IsIL.stb:Stb IsIL:=by rintro w w' S T v l ⟨A,c,hv,a,b,d,e⟩ f;exact⟨A,c,hv,a,b,d.same f,e⟩
theorem ysb {w:f} {S:Nat->Prop} {A:Option Addr} {n c:Nat} {l:List Int} (h:IsIL w S (.slice A n c) l) {x:Int} (a:l[j]? =some x):
 zua x/\∃b off,A=some ⟨b,off,none⟩/\S b/\w.cell? ⟨b,off+j,none⟩=some (.int .i64 x):=by obtain⟨o,p,hv,q,r,g,i⟩:=h;simp only[Value.slice.injEq] at hv;obtain⟨rfl,rfl,rfl⟩:=hv;have d:=(List.getElem?_eq_some_iff.1 a).1;obtain⟨b,off,k,m,hc⟩:=g (fun e=>by have:=congrArg List.length e;simp at this;rw[this] at d;simp at d);exact⟨i x (List.mem_of_getElem? a),b,off,k,m,hc j _ (by rw[V,a];rfl)⟩
section
variable {H : Type} {enc : C × u → H} {w : f} {base A : Nat} {sp : Nat → Bool} {held : Bool}
theorem yvm {v:u} {d:DataW H} {o:List MemPlace} (D:∀x∈o,x.block<w.heap.size) (t:Value.okWide F w .any A 22 v) (h:DataW.Trod enc F w base sp held 22 v d o):∃l:List Int,IsIL w (C2 w) v l:=by
 obtain⟨a,len,cap,rfl⟩:=okWide_slice Tryz.underlying22 t;obtain⟨B,hf⟩:=h;rcases open_ints Tryz.underlying22 Tryz.underlying3 kr hf with⟨hv,_⟩|⟨a,len,cap,e,hv,_,q,r,z,f,p,y⟩
 ·simp only[Value.cells,List.cons.injEq,and_true] at hv;rw[hv];exact⟨[],none,0,rfl,N _,Nat.zero_le _,SVS.nil,fun x f=>by cases f⟩
 ·simp only[Value.cells,List.cons.injEq,and_true] at hv;rw[hv];have E:len<=e.length:=(by rw[z];split<;>omega);have m:(e.take len).length=len:=(by simp;omega);refine⟨e.take len,some a,cap,by rw[m],by rw[m];exact q,r,fun s=> ?_,fun x f=>yad (y x (List.mem_of_mem_take f))⟩
  have n:0<e.length:=by
   rcases Nat.eq_zero_or_pos e.length with g|g
   ·exact absurd (by rw[List.length_eq_zero_iff.1 g];simp) s
   ·exact g
  obtain⟨b,off,rfl,k⟩:=ints_at p n;refine⟨b,off,rfl,World.block_lt_of_cell? w _ (k 0 n),fun j G c=> ?_⟩;rw[V,List.getElem?_take] at c;split at c;(case isFalse=>simp at c);case isTrue C=>have i:j<e.length:=og;rw[U i] at c;simp only[Option.map_some,Option.some.injEq] at c;subst c;rw[k j i,List.getD_eq_getElem?_getD,U i,O]
end
theorem yaw (w:f) (a n:Int) (l: -9223372036854775808<=a) (m:a<=9223372036854775807) (p:1<=n) (q:n<=1000000000):
 Calls F 10 #[.int .i64 a,.int .i64 n] w fun e w'=>e= .returned (.int .i64 (a%n))/\w=w':=by
 have j:=Int.emod_nonneg a (show n≠0 by omega);have k:=Int.emod_lt_of_pos a (show 0<n by omega)
 have b:(a.tmod n=a%n/\(a<0->a%n=0))\/a.tmod n=a%n-n:=by
  rw[Int.tmod_eq_emod];split
  ·rename_i hd;refine .inl ⟨by omega,fun s=> ?_⟩;rcases hd with hd|hd
   ·omega
   ·exact Int.emod_eq_zero_of_dvd hd
  ·exact .inr og
 rcases Int.lt_or_le a 0 with h|h
 ·have r:(n==0)=false:=beq_eq_false_iff_ne.2 og;rcases Int.lt_or_le (a.tmod n) 0 with g|g
  ·(have c:Hid (a.tmod n+n=a%n):=by unfold Hid;rcases b with⟨d,i⟩|d<;>omega);have o: -1000000000<=a.tmod n:=oh c;clear b;go_in;go_wp2;go_ret;exact⟨H6 c.out,rfl⟩
  ·(have c:Hid (a.tmod n=a%n):=by unfold Hid;rcases b with⟨d,i⟩|d<;>omega);clear b;go_in;go_wp2;go_ret;exact⟨H6 c.out,rfl⟩
 ·clear b;go_in;go_wp2;go_ret;exact⟨rfl,rfl⟩
def IsD (w:f) (g:Nat) (l:List Int):Prop:=
 ∃A c a,Row w g 25 [.slice A l.length c,.int .i64 ((a:Nat):Int)]/\IsIL w (fun b=>b<g) (.slice A l.length c) l/\a<=l.length
theorem IsD.lt {w:f} {l:List Int} (h:IsD w g l):g<w.heap.size:=by obtain⟨A,c,b,a,_⟩:=h;exact a.lt
theorem IsD.next {w w':f} {B:Nat} {l:List Int} (h:IsD w g l) (a:Below B w w') (hg:g<B):IsD w' g l:=by obtain⟨A,c,j,d,e,i⟩:=h;exact⟨A,c,j,d.below a hg,IsIL.stb.to e (zpo a fun b h=>Nat.lt_trans h hg),i⟩
theorem IsD.grown {w w':f} {r:Nat} {l:List Int} (h:IsD w g l) (a:w.grownBy w' (some r)) (hr:g<r):IsD w' g l:=by have n:=h.lt;obtain⟨A,c,k,d,i,j⟩:=h;exact⟨A,c,k,d.grown a (fun e=>by cases e;omega),IsIL.stb.to i (yyv a fun b m=>⟨by omega,by omega⟩),j⟩
theorem IsD.far {w:f} {l:List Int} (h:IsD w g l) {p:Addr} (a:g<p.block) (d:u):IsD (w.setCell p d) g l:=by obtain⟨A,c,n,i,j,k⟩:=h;refine⟨A,c,n,i.far og d,IsIL.stb.to j fun b m=>⟨m,fun o=> ?_⟩,k⟩;rw[World.cell?_setCell_other _ _ _ _ (fun e=>by rw[e] at a;simp at a;omega)]
theorem Only.grown {a:f} (h:Only g a b):a.grownBy b (some g):=⟨h.os,h.tape,h.output,Nat.le_of_eq h.size.symm,fun c d hr=>h.block c (fun e=>hr (by rw[e]))⟩
def ylq (n:Nat) (e:Ending):Prop:=∃x:Nat,x<n/\e= .returned (.int .i64 (x:Int))
theorem yva {w:f} {l:List Int} (h:IsD w g l) {n:Nat} (al:1<=n) (an:n<=1000000):
 Calls F 25 #[.pointer (some ⟨g,0,none⟩),.int .i64 (n:Int)] w fun e w'=>ylq n e/\IsD w' g l/\Only g w w':=by
 obtain⟨A,c,a,hr,k,aa⟩:=id h;obtain⟨P,M,L⟩:=G6 hr k h;have j:=hr.cell 0;have v:=hr.cell 1;have B:=hr.frozen 1;have G:l.length<=maxLen:=(by obtain⟨_,_,hv,Y,Z,_⟩:=k;omega);unfold maxLen at G;simp at j v;have hg:=hr.lt;obtain⟨m,p⟩:=nm (l.length);have u:=Lib.hid p;have aq:decide ((n:Int)<1)=false:=(by simp;omega);rcases D a l.length with H|ah
 ·obtain⟨x,I⟩:∃x,l[a]? =some x:=⟨_,U H⟩;obtain⟨C,b,off,rfl,ag,hc⟩:=ysb k I;have S:=Lib.hid hc;rw[<-p] at j H G aa;have ac:decide (m<=a)=false:=(by simp;omega);have y:=Lib.hid C;clear h hr k I hc p C;go_in;go_wp2_with fail;go_quiet (fail);obtain⟨i,d⟩:=nm (w.drewN nq);have V:i.cell? ⟨g,0,none⟩=some (.slice (some ⟨b,off,none⟩) m c):=(by rw[d];exact j);have W:i.cell? ⟨g,1,none⟩=some (.int .i64 (a:Int)):=(by rw[d];exact v);have X:i.frozen? ⟨g,1,none⟩=false:=(by rw[d];exact B);have K:Hid (i.cell? ⟨b,off+a,none⟩=some (.int .i64 x)):=(by rw[d];exact S.out);have Q:Hid (Row i g 25 [.slice (some ⟨b,off,none⟩) m c,.int .i64 (a:Int)]):=(by rw[d,u.out];exact P.out.drewN nq);have N:Hid (Only g w i):=(by rw[d];exact(Only.refl g w).drewN nq);rw[<-d];clear j v B d;go_wp2_with fail;obtain⟨s,q⟩:=nm (i.setCell ⟨g,1,none⟩ (.int .i64 ((a:Int)+1)));have t:Hid (Row s g 25 [.slice (some ⟨b,off,none⟩) m c,.int .i64 ((a:Int)+1)]):=(by rw[q];exact Q.out.set_ 1 _);have O:Hid (Only g w s):=(by rw[q];exact N.out.setCell 1 _);have d0:=t.out.cell 0;have T:=t.out.cell 1;have ad:s.cell? ⟨b,off+a,none⟩=some (.int .i64 x):=(by rw[q,World.cell?_setCell_other _ _ _ _ (fun e=>by injection e with Y Z;omega)];exact K.out);simp at d0 T;have ae:IntKind.i64.wrap (a:Int)=(a:Int):=IntWalk.i64_in _ og;have af:(a:Int).toNat=a:=og;have ai:(0:Int)<=(a:Int):=og;have aj:(a:Int)<(m:Int):=og;rw[<-q];clear q V W X;go_quiet ((go_at_call 10;exact Calls.quiet_of_same ((yaw _ x (n:Int) y.out.1 y.out.2 og og).mono fun e w' h=>⟨h.1,h.2.symm⟩)));obtain⟨J,r⟩:=nm (s.drewN nq);have R:Hid (Row J g 25 [.slice (some ⟨b,off,none⟩) m c,.int .i64 ((a:Int)+1)]):=(by rw[r];exact t.out.drewN nq);have z:Hid (Only g w J):=(by rw[r];exact O.out.drewN nq);have m0:=Int.emod_nonneg x (show(n:Int)≠0 by omega);have ao:=Int.emod_lt_of_pos x (show(0:Int)<n by omega);rw[<-r];clear r;go_wp2_with fail;go_ret;refine⟨⟨(x%(n:Int)).toNat,by omega,H6 og⟩,⟨some ⟨b,off,none⟩,c,a+1,by rw[<-u.out];exact R.out,?_,by rw[<-u.out];omega⟩,z.out⟩;exact IsIL.stb.to M.out fun b E=>⟨E,fun o=>World.cell?_of_block (z.out.block b (by have:b<g:=E;omega))⟩
 ·have ak:a=m:=og;rw[<-p] at j;have ac:decide (m<=a)=true:=(by simp;omega);clear h hr k p;go_in;go_wp2_with fail;go_quiet (fail);go_wp2_with fail;go_ret;exact⟨⟨0,by omega,rfl⟩,L.out.next (Dr.below ⟨nq,rfl⟩ _) hg,(Only.refl g w).drewN nq⟩
theorem zru {w:f} {l:List Int} (h:IsD w g l) (n:Int) (d:1<=n) (i:n<=1000000):
 Calls F 25 #[.pointer (some ⟨g,0,none⟩),.int .i64 n] w fun e w'=>(∃x:Int,0<=x/\x<n/\e= .returned (.int .i64 x))/\IsD w' g l/\Only g w w':=by have e:n=((n.toNat:Nat):Int):=og;rw[e];exact(yva h (n:=n.toNat) og og).mono fun e w' ⟨⟨x,j,c⟩,a,b⟩=>⟨⟨x,by omega,by omega,c⟩,a,b⟩
section
variable {P : M} {ops : Array q} {Q : Exit → Act → f → Prop} {Φ : Nat → u → f → Prop} {s : Act} {h : f} {n : Nat}
end
theorem I8 {T:Array u} {t:Nat} {v:u} (h:t<T.size) (hv:T.getD t k=v):T[t]? =some v:=by rw[z h];simp only[G,z h,O] at hv;rw[hv]
theorem L7 {T:Array u} {t:Nat} (h:t<T.size):∃v,T[t]? =some v/\T.getD t k=v:=⟨_,I8 h rfl,rfl⟩
theorem yrp {o:q} {ops:Array q} {T:Array u} {d:Nat} {A B:Prop} (hg:o.guard=some (j,want)) (b:ops[j]? =some p) (hd:p.dst=some d) (a:T[d]? =some (.bool want)) (h:A):
 if Region.wanted o (yielded ops T)=true then A else B:=by rw[if_pos (by simp[Region.wanted,yielded,hg,b,hd,a])];exact h
theorem yrn {o:q} {ops:Array q} {T:Array u} {d:Nat} {b:Bool} {A B:Prop} (hg:o.guard=some (j,want)) (c:ops[j]? =some p) (hd:p.dst=some d) (a:T[d]? =some (.bool b)) (e:b≠want) (h:B):
 if Region.wanted o (yielded ops T)=true then A else B:=by rw[if_neg (by simp[Region.wanted,yielded,hg,c,hd,a];exact e)];exact h
theorem F9 {o:q} {ops:Array q} {T:Array u} {A B:Prop} (hg:o.guard=none) (h:A):
 if Region.wanted o (yielded ops T)=true then A else B:=by rw[if_pos (by simp[Region.wanted,hg])];exact h
theorem zoj {P:M} {d:Bool} {Q:Exit->Act->f->Prop} {a:Act} {w:f} (h:∀ops,ops=lit->(Code.region id ops d).wp P Q a w):(Code.region id lit d).wp P Q a w:=h lit rfl
theorem C7 {ops:Array q} {o:q} (h:ops=lit) (a:lit[j]? =some o):ops[j]? =some o:=by rw[h];exact a
theorem zyd {ops:Array q} (h:ops=lit) (t:Nat) (a:zlm lit t=false):zlm ops t=false:=by rw[h];exact a
theorem C6 {a:Prop} [Decidable a] (h:decide a=true):a:=of_decide_eq_true h
theorem R9 {o:q} {ops:Array q} {T:Array u} {d:Nat} {C:Bool} {A B:Prop} (hg:o.guard=some (j,want)) (a:ops[j]? =some p) (hd:p.dst=some d) (b:T.getD d k= .bool C) (g:d<T.size)
 (f:C=want->T[d]? =some (.bool want)->A) (c:C= !want->B):if Region.wanted o (yielded ops T)=true then A else B:=by
 have e:=I8 g b;by_cases hc:C=want
 ·subst hc;exact yrp hg a hd e (f rfl e)
 ·exact yrn hg a hd e hc (c (by cases C<;>cases want<;>simp_all))
theorem J8 {P:M} {o:q} {a:Act} {w:f} {Φ:u->f->Prop} {Q:Exit->Act->f->Prop} (h:∀K:Act->f->Prop,(∀v w',Below w.heap.size w w'->Φ v w'->K (a.put o.dst v) w')->o.wp P a w K Q):o.wp P a w (fun b w'=>∃v,b=a.put o.dst v/\Below w.heap.size w w'/\Φ v w') Q:=
 h _ fun v w' c hv=>⟨v,rfl,c,hv⟩
def M6 (T:Array u) (o:q):u:=match o.dst with|some d=>T.getD d k|none=>k
def zwu (ops:Array q) (n:Nat):Bool:=
 (List.range ops.size).all fun i=>(ops[i]?).any fun o=>
  (o.dst.all fun d=>decide (d<n)&&(List.range ops.size).all fun j=>decide (j=i)|| !((ops[j]?).any fun p=>p.dst==some d))&&(U9 o).all fun j=>decide (j<i)
section
variable {ops : Array q}
theorem yfy {n:Nat} {o:q} (h:zwu ops n=true) (f:ops[i]? =some o):
 (∀d,o.dst=some d->d<n/\∀j p,ops[j]? =some p->p.dst=some d->j=i)/\∀j∈U9 o,j<i:=by unfold zwu at h;have l:i<ops.size:=(Array.getElem?_eq_some_iff.1 f).1;have c:=List.all_eq_true.1 h i (List.mem_range.2 l);rw[f] at c;simp only[Option.any_some,B] at c;obtain⟨a,g⟩:=c;refine⟨fun d hd=> ?_,fun j b=>by simpa using List.all_eq_true.1 g j b⟩;rw[hd] at a;simp only[Option.all_some,B,decide_eq_true_eq] at a;refine⟨a.1,fun j p b m=> ?_⟩;have k:j<ops.size:=(Array.getElem?_eq_some_iff.1 b).1;have e:=List.all_eq_true.1 a.2 j (List.mem_range.2 k);rw[b] at e;simp only[Option.any_some,m,beq_self_eq_true,Bool.not_true,Bool.or_false,decide_eq_true_eq] at e;exact e
end
def zpj (ops:Array q) (n m:Nat):Bool:=
 decide (n<ops.size)&&((List.range n).all fun i=>(ops[i]?).any fun o=>
  (o.dst.all fun d=>decide (d<m)&&(List.range n).all fun j=>decide (j=i)|| !((ops[j]?).any fun p=>p.dst==some d))&&((U9 o).all fun j=>decide (j<i))&&
   (List.range (n+1)).any fun a=>decide (i<a)&&(ops[a]?).any fun ok=>(U9 ok).contains i)&&
 (List.range ops.size).all fun a=>decide (a<=n)||(ops[a]?).any fun ok=>(U9 ok).contains n
def zol (ops:Array q) (n:Nat) (t:Nat):Bool:=(List.range n).any fun i=>(ops[i]?).any fun o=>o.dst==some t
theorem zsb {ops:Array q} {n:Nat} (h:ops=lit) (t:Nat) (a:zol lit n t=false):zol ops n t=false:=by rw[h];exact a
def zrn (n m:Nat):Array Bool:=Array.replicate n true++Array.replicate (m-n) false
def U6 (X:Nat->Option u) (i:Nat) (v:u):Nat->Option u:=fun j=>if j=i then some v else X j
theorem zqx {X:Nat->Option u} {v:u} (h:j≠i):U6 X i v j=X j:=if_neg h
theorem zpv {X:Nat->Option u} {a v:u} (h:X j=some a) (b:X i=none):U6 X i v j=some a:=by rw[zqx (fun e=>by rw[e,b] at h;cases h)];exact h
section
variable {P : M} {ops : Array q} {Q : Exit → Act → f → Prop} {Φ : Nat → u → f → (Nat → Option u) → Prop} {x : Nat → f → Prop} {J : f → Prop} {E : Nat → f → f → Prop} {s : Act} {h : f} {n : Nat}
theorem yaa {o:q} (h:zpj ops n m=true) (s:i<n) (r:ops[i]? =some o):
 (∀d,o.dst=some d->d<m/\∀j p,j<n->ops[j]? =some p->p.dst=some d->j=i)/\(∀j∈U9 o,j<i)/\∃b ok,i<b/\b<=n/\ops[b]? =some ok/\i∈U9 ok:=by
 unfold zpj at h;rw[B,B] at h;have f:=List.all_eq_true.1 h.1.2 i (List.mem_range.2 s);rw[r] at f;simp only[Option.any_some,B] at f;obtain⟨⟨e,l⟩,c⟩:=f;refine⟨fun d hd=> ?_,fun j g=>by simpa using List.all_eq_true.1 l j g,?_⟩
 ·rw[hd] at e;simp only[Option.all_some,B,decide_eq_true_eq] at e;refine⟨e.1,fun j p t g v=> ?_⟩;have c:=List.all_eq_true.1 e.2 j (List.mem_range.2 t);rw[g] at c;simp only[Option.any_some,v,beq_self_eq_true,Bool.not_true,Bool.or_false,decide_eq_true_eq] at c;exact c
 ·obtain⟨b,u,a⟩:=List.any_eq_true.1 c;rw[B,decide_eq_true_eq] at a;cases k:ops[b]? with
  |none=>rw[k] at a;simp at a
  |some ok=>rw[k] at a;exact⟨b,ok,a.1,Nat.lt_succ_iff.1 (List.mem_range.1 u),k,by simpa using a.2⟩
theorem yab (h:zpj ops n m=true):n<ops.size:=by unfold zpj at h;rw[B,B,decide_eq_true_eq] at h;exact h.1.1
theorem yrr {b:Nat} {o:q} (h:zpj ops n m=true) (d:n<b) (c:ops[b]? =some o):n∈U9 o:=by
 unfold zpj at h;rw[B] at h;have a:=List.all_eq_true.1 h.2 b (List.mem_range.2 (Array.getElem?_eq_some_iff.1 c).1);rw[c,Bool.or_eq_true,decide_eq_true_eq] at a;rcases a with a|a
 ·omega
 ·simpa using a
structure GrowInvZ (ops:Array q) (n:Nat) (Φ:Nat->u->f->(Nat->Option u)->Prop) (x:Nat->f->Prop) (J:f->Prop) (s:Act) (X:Nat->Option u) (listed:Array Bool) (a:Act) (w:f):Prop where
 size:a.tmps.size=s.tmps.size
 defers:a.defers=s.defers
 inv:J w
 pre:∀i,listed[i]? =some false->x i w
 free:∀t,zol ops n t=false->a.tmps[t]? =s.tmps[t]?
 holds:∀j p,j<n->ops[j]? =some p->listed[j]? =some true->Φ j (M6 a.tmps p) w X
 known:∀j p,ops[j]? =some p->X j=if listed[j]? =some true then some (M6 a.tmps p) else none
 down:∀(i:Nat) (o:q),ops[i]? =some o->listed[i]? =some true->∀j∈U9 o,listed[j]? =some true
 last:∀k,n<=k->k<ops.size->listed[k]? =some false
theorem ymg {listed:Array Bool} (hg:zpj ops n m=true) (p:∀o,ops[n]? =some o->∀j∈U9 o,listed[j]? =some true) (k:∀(i:Nat) (o:q),ops[i]? =some o->listed[i]? =some true->∀j∈U9 o,listed[j]? =some true):
 ∀j,j<n->listed[j]? =some true:=by
 have key:∀a j,n-a<=j->j<n->listed[j]? =some true:=by
  intro a;induction a with
  |zero=>intro j g b;omega
  |succ a ih=>
   intro j g b;rcases D j (n-a) with h|h
   ·have u:=yab hg;have r:j<ops.size:=og;obtain⟨_,_,i,f,t,s,e,d⟩:=yaa hg b (z r);rcases D i n with c|c
    ·exact k i f e (ih i og c) j d
    ·obtain rfl:i=n:=og;exact p f e j d
   ·exact ih j h b
 exact fun j l=>key n j og l
theorem yqv {listed:Array Bool} (f:listed.size=ops.size) (e:n<ops.size) (c:∀j,j<n->listed[j]? =some true) (d:∀a,n<=a->a<ops.size->listed[a]? =some false):listed=zrn n ops.size:=by
 apply Array.ext_getElem?;intro i;unfold zrn;rw[Array.getElem?_append];simp only[Array.size_replicate];rcases D i n with h|h
 ·rw[if_pos h,c i h,Array.getElem?_replicate,if_pos h]
 ·rw[if_neg og,Array.getElem?_replicate];rcases D i ops.size with b|b
  ·rw[if_pos og,d i h b]
  ·rw[if_neg og,Array.getElem?_eq_none og]
theorem yoe (a b:List Bool):Z3 (a++b)=Z3 a+Z3 b:=by
 induction a with
 |nil=>simp[Z3]
 |cons x a ih=>simp only[List.cons_append,Z3,ih];omega
theorem yog (a:Nat):Z3 (List.replicate a true)=0:=by
 induction a with
 |zero=>rfl
 |succ a ih=>rw[List.replicate_succ,Z3,ih];simp
theorem yof (a m:Nat):Z3 (zrn a m).toList=m-a:=by unfold zrn;rw[Array.toList_append,Array.toList_replicate,Array.toList_replicate,yoe,yog,zwe,Nat.zero_add]
theorem zz1385 (hPs:∀i c w w',i≠c->x i w->J w->E c w w'->x i w') (hst:∀i c v w w' X ah,i≠c->X c=none->Φ i v w X->J w->E c w w'->Φ i v w' (U6 X c ah)) (hg:zpj ops n s.tmps.size=true)
 (aP:Region.seqB .any ops (ops.toList.drop n).length n (zrn n ops.size)=true)
 (aQ:∀i o,i<n->ops[i]? =some o->∀(a:Act) (w:f) (X:Nat->Option u),a.tmps.size=s.tmps.size->a.defers=s.defers->J w->x i w->X i=none->(∀t,zol ops n t=false->a.tmps[t]? =s.tmps[t]?)->
   (∀j p,j∈U9 o->ops[j]? =some p->X j=some (M6 a.tmps p)/\Φ j (M6 a.tmps p) w X)->
   if Region.wanted o (yielded ops a.tmps)=true then o.wp P a w (fun an w'=>∃v,an=a.put o.dst v/\E i w w'/\J w'/\Φ i (if o.dst.isSome then v else k) w' (U6 X i (if o.dst.isSome then v else k))) Q else∀ah,Φ i ah w (U6 X i ah)/\E i w w)
 (aJ:∀(a:Act) (w:f) (X:Nat->Option u),a.tmps.size=s.tmps.size->a.defers=s.defers->J w->(∀t,zol ops n t=false->a.tmps[t]? =s.tmps[t]?)->
   (∀j p,j<n->ops[j]? =some p->X j=some (M6 a.tmps p)/\Φ j (M6 a.tmps p) w X)->wpList P ops Q (ops.toList.drop n) a w):
 ∀(m:Nat) (listed:Array Bool) (a:Act) (w:f) (X:Nat->Option u),listed.size=ops.size->Z3 listed.toList=m->GrowInvZ ops n Φ x J s X listed a w->wpAny P .any ops Q m listed a w:=by
 have ak:=yab hg;have fin:∀(m:Nat) (listed:Array Bool) (a:Act) (w:f) (X:Nat->Option u),listed.size=ops.size->Z3 listed.toList=m->GrowInvZ ops n Φ x J s X listed a w->(∀j,j<n->listed[j]? =some true)->wpAny P .any ops Q m listed a w:=by intro m listed a w X S hc inv K;obtain rfl:=yqv S ak K inv.last;rw[yof] at hc;have Z:=aJ a w X inv.size inv.defers inv.inv inv.free fun j p r b=>⟨by rw[inv.known j p b,if_pos (K j r)],inv.holds j p r b (K j r)⟩;have aa:=wpAny_of_seq (md:= .any) (Q':=Q) (ops.toList.drop n) n (zrn n ops.size) a w (fun j=>by rw[List.getElem?_drop,Array.getElem?_toList]) aP Z;have H:(ops.toList.drop n).length=m:=(by rw[List.length_drop,Array.length_toList];exact hc);rwa[H] at aa
 have stuck:∀(listed:Array Bool) (a:Act) (w:f) (X:Nat->Option u),listed.size=ops.size->Region.ready .any ops listed=[]->GrowInvZ ops n Φ x J s X listed a w->∀j,j<n->listed[j]? =some true:=by
  intro listed a w X S hr inv
  have all:∀c i,i<c->i<n->listed[i]? =some true:=by
   intro c;induction c with
   |zero=>intro i g;omega
   |succ c ih=>
    intro i g ag;rcases D i c with h|h
    ·exact ih i h ag
    ·obtain rfl:i=c:=og;have hlo:i<ops.size:=og;have A:i<listed.size:=og;cases T:listed[i] with
     |true=>rw[z A,T]
     |false=>
      exfalso
      have W:i∈Region.ready .any ops listed:=by
       unfold Region.ready;refine List.mem_filter.2 ⟨List.mem_range.2 hlo,?_⟩;have g:ops[i]? =some ops[i]:=z hlo;obtain⟨_,aM,_⟩:=yaa hg ag g;rw[g];simp only[Option.map_some,O,B,Bool.not_eq_true'];refine⟨by simp[G,z A,T],Array.all_eq_true'.2 fun e aI=> ?_⟩;cases aE:Region.binds .any e with
       |false=>rfl
       |true=>have b:=aM e.on (List.mem_map.2 ⟨e,List.mem_filter.2 ⟨by simpa using aI,aE⟩,rfl⟩);have:=ih e.on b og;simp[G,this]
      rw[hr] at W;cases W
  exact fun j b=>all (j+1) j og b
 intro m;induction m with
 |zero=>intro listed a w X S hc inv;exfalso;have Z:=inv.last n (N _) ak;have aa:=zwg (l:=listed.toList) (i:=n) (b:=false) hc (by rw[Array.getElem?_toList];exact Z);cases aa
 |succ m ih=>
  intro listed a w X S hc inv;by_cases K:∀j,j<n->listed[j]? =some true
  ·exact fin (m+1) listed a w X S hc inv K
  refine⟨fun hr=>absurd (stuck listed a w X S hr inv) K,fun i W=> ?_⟩;have ag:i<ops.size:=(by unfold Region.ready at W;exact List.mem_range.1 (List.mem_filter.1 W).1);have g:ops[i]? =some ops[i]:=z ag;obtain⟨Z,aa⟩:=zvc g W;have A:i<listed.size:=og;have T:listed[i]=false:=by simpa[G,z A] using Z
  have ae:∀j∈U9 ops[i],listed[j]? =some true:=by
   intro j b;have H:=aa j b;rcases D j listed.size with af|af
   ·rw[z af];simp only[G,z af,O] at H;rw[H]
   ·simp[G,Array.getElem?_eq_none af] at H
  have R:i<n:=by
   rcases D i n with R|R
   ·exact R
   ·exfalso;rcases Nat.eq_or_lt_of_le R with H|H
    ·subst H;exact K (ymg hg (fun o ay j b=>by rw[g] at ay;cases ay;exact ae j b) inv.down)
    ·have ao:=ae n (yrr hg H g);rw[inv.last n (N _) ak] at ao;cases ao
  obtain⟨aj,aN,_⟩:=yaa hg R g;have aq:X i=none:=(by rw[inv.known i _ g,if_neg (by rw[z A,T];simp)]);have ad:=aQ i ops[i] R g a w X inv.size inv.defers inv.inv (inv.pre i (by rw[z A,T])) aq inv.free fun j p b az=>⟨by rw[inv.known j p az,if_pos (ae j b)],inv.holds j p (by have:=aN j b;omega) az (ae j b)⟩
  have next:∀(v:u) (w':f),E i w w'->J w'->Φ i (if ops[i].dst.isSome then v else k) w' (U6 X i (if ops[i].dst.isSome then v else k))->wpAny P .any ops Q m (listed.setIfInBounds i true) (a.put ops[i].dst v) w':=by
   intro v w' ar ai hv
   have aA:∀t,(∀d,ops[i].dst=some d->t≠d)->(a.put ops[i].dst v).tmps[t]? =a.tmps[t]? :=by
    intro t Y;cases hd:ops[i].dst with
    |none=>rfl
    |some d=>exact zxr _ _ (Y d hd)
   have aC:∀j p,j<n\/p.dst=none\/True->j≠i->ops[j]? =some p->(∀d,ops[i].dst=some d->p.dst≠some d)->M6 (a.put ops[i].dst v).tmps p=M6 a.tmps p:=by
    intro j p _ l b aO;unfold M6;cases aH:p.dst with
    |none=>rfl
    |some aD=>exact zzu (aA aD fun d hd e=>aO d hd (by rw[aH,e]))
   have aB:M6 (a.put ops[i].dst v).tmps ops[i]=if ops[i].dst.isSome then v else k:=by
    unfold M6;cases hd:ops[i].dst with
    |none=>rfl
    |some d=>simp only;rw[ybm _ _ (by rw[inv.size];exact(aj d hd).1)];rfl
   refine ih _ _ _ (U6 X i (if ops[i].dst.isSome then v else k)) (by simp[S]) ?_ ⟨?_,?_,ai,fun c y=> ?_,fun t Y=> ?_,fun j p r b au=> ?_,fun j p b=> ?_,fun c o y av j b=> ?_,fun c y aL=> ?_⟩
   ·have:=zwf (l:=listed.toList) (i:=i) (by simp[A,T]);simp only[Array.toList_setIfInBounds];omega
   ·cases hd:ops[i].dst with
    |none=>exact inv.size
    |some d=>rw[ybn];exact inv.size
   ·cases hd:ops[i].dst with
    |none=>exact inv.defers
    |some d=>exact inv.defers
   ·have ac:c≠i:=(by rintro rfl;rw[Array.getElem?_setIfInBounds_self_of_lt A] at y;cases y);rw[Array.getElem?_setIfInBounds_ne (Ne.symm ac)] at y;exact hPs c i w w' ac (inv.pre c y) inv.inv ar
   ·rw[aA t (by rintro d hd rfl;unfold zol at Y;rw[List.any_eq_false] at Y;have:=Y i (List.mem_range.2 R);rw[g] at this;simp[hd] at this)];exact inv.free t Y
   ·by_cases l:j=i
    ·subst l;rw[g] at b;cases b;rw[aB];exact hv
    ·rw[aC j p (.inl r) l b fun d hd e=>l ((aj d hd).2 j p r b e)];rw[Array.getElem?_setIfInBounds_ne (Ne.symm l)] at au;exact hst j i _ _ _ X _ l aq (inv.holds j p r b au) inv.inv ar
   ·by_cases l:j=i
    ·subst l;rw[g] at b;cases b;rw[aB,Array.getElem?_setIfInBounds_self_of_lt A,if_pos rfl,U6,if_pos rfl]
    ·rw[zqx l,Array.getElem?_setIfInBounds_ne (Ne.symm l),inv.known j p b];rcases D j n with r|r
     ·rw[aC j p (.inl r) l b fun d hd e=>l ((aj d hd).2 j p r b e)]
     ·rw[inv.last j r (Array.getElem?_eq_some_iff.1 b).1];rfl
   ·have aK:listed[j]? =some true:=by
     by_cases ac:c=i
     ·subst ac;rw[g] at y;cases y;exact ae j b
     ·rw[Array.getElem?_setIfInBounds_ne (Ne.symm ac)] at av;exact inv.down c o y av j b
    by_cases l:j=i
    ·subst l;rw[Array.getElem?_setIfInBounds_self_of_lt A]
    ·rw[Array.getElem?_setIfInBounds_ne (Ne.symm l)];exact aK
   ·rw[Array.getElem?_setIfInBounds_ne og];exact inv.last c y aL
  unfold wpOp;rw[g];simp only;split
  ·rename_i al;rw[if_pos al] at ad;exact .inl (Oper.wp_mono (fun an w' ⟨v,ha,aG,ai,hv⟩=>by rw[ha];exact next v w' aG ai hv) ad)
  ·rename_i al;rw[if_neg al] at ad;exact next k w (ad k).2 inv.inv (by split<;>exact(ad k).1)
theorem zsh (n:Nat) (Φ:Nat->u->f->(Nat->Option u)->Prop) (x:Nat->f->Prop) (J:f->Prop) (E:Nat->f->f->Prop) (r:P.follows .mixedOrders=true) (hJ0:J h.drew) (hP0:∀i,x i h.drew)
 (hPs:∀i b w w',i≠b->x i w->J w->E b w w'->x i w') (hst:∀i b v w w' X c,i≠b->X b=none->Φ i v w X->J w->E b w w'->Φ i v w' (U6 X b c)) (hg:zpj ops n s.tmps.size=true)
 (y:Region.seqB .any ops (ops.toList.drop n).length n (zrn n ops.size)=true)
 (z:∀i o,i<n->ops[i]? =some o->∀(a:Act) (w:f) (X:Nat->Option u),a.tmps.size=s.tmps.size->a.defers=s.defers->J w->x i w->X i=none->(∀t,zol ops n t=false->a.tmps[t]? =s.tmps[t]?)->
   (∀j p,j∈U9 o->ops[j]? =some p->X j=some (M6 a.tmps p)/\Φ j (M6 a.tmps p) w X)->
   if Region.wanted o (yielded ops a.tmps)=true then o.wp P a w (fun g w'=>∃v,g=a.put o.dst v/\E i w w'/\J w'/\Φ i (if o.dst.isSome then v else k) w' (U6 X i (if o.dst.isSome then v else k))) Q else∀c,Φ i c w (U6 X i c)/\E i w w)
 (l:∀(a:Act) (w:f) (X:Nat->Option u),a.tmps.size=s.tmps.size->a.defers=s.defers->J w->(∀t,zol ops n t=false->a.tmps[t]? =s.tmps[t]?)->
   (∀j p,j<n->ops[j]? =some p->X j=some (M6 a.tmps p)/\Φ j (M6 a.tmps p) w X)->wpList P ops Q (ops.toList.drop n) a w):
 (Code.region id ops true).wp P Q s h:=by
 have D:=yab hg;refine wp_region_any r (zz1385 hPs hst hg y z l _ _ _ _ (fun _=>none) (by simp) (by simp[zwe]) ⟨rfl,rfl,hJ0,fun i _=>hP0 i,fun _ _=>rfl,fun j p B m e=> ?_,fun j p m=> ?_,fun i o A d=> ?_,fun b C q=> ?_⟩)
 ·rw[Array.getElem?_replicate] at e;split at e<;>cases e
 ·rw[if_neg];rw[Array.getElem?_replicate];split<;>simp
 ·rw[Array.getElem?_replicate] at d;split at d<;>cases d
 ·rw[Array.getElem?_replicate,if_pos q]
end
theorem W9 {P:M} {o:q} {a:Act} {w:f} {J:f->Prop} {E:f->Prop} {Φ:u->f->(Nat->Option u)->Prop} {X:Nat->Option u} {Q:Exit->Act->f->Prop}
 (h:∀K:Act->f->Prop,(∀v w',E w'->J w'->Φ (if o.dst.isSome then v else k) w' (U6 X i (if o.dst.isSome then v else k))->K (a.put o.dst v) w')->o.wp P a w K Q):
 o.wp P a w (fun b w'=>∃v,b=a.put o.dst v/\E w'/\J w'/\Φ (if o.dst.isSome then v else k) w' (U6 X i (if o.dst.isSome then v else k))) Q:=
 h _ fun v w' d c hv=>⟨v,rfl,d,c,hv⟩
theorem H7 (w:f) (r:Option Nat):w.grownBy w r:=⟨rfl,rfl,rfl,N _,fun _ _ _=>rfl⟩
theorem J5 {a:f} (h:a.grownBy b r) (d:b.grownBy c r):a.grownBy c r:=
 ⟨d.os.trans h.os,d.tape.trans h.tape,d.output.trans h.output,I h.size d.size,fun j e hr=>(d.block j (L e h.size) hr).trans (h.block j e hr)⟩
theorem zkp (w:f) (o:Obj) (r:Option Nat):w.grownBy (w.alloc o) r:=K8 (O0 w o)
theorem zll {w w':f} {S:Nat->Prop} (hg:w.grownBy w' r) (c:∀b,S b->b<w.heap.size/\some b≠r):L2 S S w w':=fun b a=>⟨a,fun o=>World.cell?_of_block (hg.block b (c b a).1 (c b a).2)⟩
theorem OwnS.own_lt {d:Type} {n:Nat} {t:C} {R:f->(Nat->Prop)->u->d->Prop} {w:f} {base:Nat} {S:Nat->Prop} {v:u} {l:List d} (h:OwnS n t R w base S v l):∀b,v.ownBlock=some b->base<=b/\b<w.heap.size:=by obtain⟨e,a,_⟩:=h;exact fun b c=>a.lt b c
theorem OwnS.grown {d:Type} {n:Nat} {t:C} {R:f->(Nat->Prop)->u->d->Prop} (o:Stb R) {w w':f} {base:Nat} {S:Nat->Prop} {v:u} {l:List d} (h:OwnS n t R w base S v l)
 (g:w.grownBy w' r) (hr:∀b,r=some b->v.ownBlock≠some b/\¬S b):OwnS n t R w' base S v l:=by
 obtain⟨i,j,k,m,c⟩:=h
 have p:v.ownBlock=none\/v.ownBlock≠r:=by
  cases r with
  |none=>cases v.ownBlock<;>simp
  |some b=>exact .inr (hr b rfl).1
 refine⟨i,j.kept g p,k,m.imp fun x y h=>o.to h (zll g fun b a=>⟨(c b a).1,fun e=>(hr b e.symm).2 a⟩),fun b a=>⟨L (c b a).1 g.size,(c b a).2⟩⟩
theorem OwnS.wider {d:Type} {n:Nat} {t:C} {R:f->(Nat->Prop)->u->d->Prop} (i:Stb R) {w:f} {base:Nat} {S T:Nat->Prop} {v:u} {l:List d} (h:OwnS n t R w base S v l)
 (j:∀b,S b->T b) (k:∀b,T b->b<w.heap.size/\some b≠v.ownBlock):OwnS n t R w base T v l:=by obtain⟨a,c,e,g,p⟩:=h;exact⟨a,c,e,g.imp fun x y h=>i.to h fun b m=>⟨j b m,fun o=>rfl⟩,k⟩
theorem Row.grownN {w w':f} {t:C} (h:Row w g t xs) (a:w.grownBy w' r) (hr:∀b,r=some b->g≠b):Row w' g t xs:=h.grown a (fun e=>hr g e.symm rfl)
theorem IsD.grownN {w w':f} {l:List Int} (h:IsD w g l) (a:w.grownBy w' r) (hr:∀b,r=some b->g<b):IsD w' g l:=by
 cases r with
 |none=>have n:=h.lt;obtain⟨A,c,j,d,e,i⟩:=h;exact⟨A,c,j,d.grown a (by simp),IsIL.stb.to e (zll a fun b m=>⟨by omega,by simp⟩),i⟩
 |some b=>exact h.grown a (hr b rfl)
structure Kept (r1 r2 r3:Option Nat) (w w':f):Prop where
 os:w'.os=w.os
 tape:w'.tape=w.tape
 output:w'.output=w.output
 size:w.heap.size<=w'.heap.size
 block:∀k,k<w.heap.size->some k≠r1->some k≠r2->some k≠r3->w'.heap[k]? =w.heap[k]?
theorem Kept.refl (r1 r2 r3:Option Nat) (w:f):Kept r1 r2 r3 w w:=⟨rfl,rfl,rfl,N _,fun _ _ _ _ _=>rfl⟩
theorem Kept.step {r1 r2 r3:Option Nat} {a:f} (h:Kept r1 r2 r3 a b) (d:b.grownBy c r) (hr:r=none\/r=r1\/r=r2\/r=r3):Kept r1 r2 r3 a c:=
 ⟨d.os.trans h.os,d.tape.trans h.tape,d.output.trans h.output,I h.size d.size,fun j e g i k=>(d.block j (L e h.size) (by rcases hr with rfl|rfl|rfl|rfl;simp;exact g;exact i;exact k)).trans (h.block j e g i k)⟩
theorem zsy {r1 r2 r3:Option Nat} {w w':f} {S:Nat->Prop} (h:Kept r1 r2 r3 w w') (c:∀b,S b->b<w.heap.size/\some b≠r1/\some b≠r2/\some b≠r3):L2 S S w w':=fun b a=>⟨a,fun o=>World.cell?_of_block (h.block b (c b a).1 (c b a).2.1 (c b a).2.2.1 (c b a).2.2.2)⟩
def G0 (c a:Nat):Nat->Prop:=fun b=>c<=b/\b<a
theorem IsQ.rngG {w w':f} {v:u} {q:Rat} {c a:Nat} (h:IsQ w (G0 c a) v q) (g:w.grownBy w' r) (i:a<=w.heap.size) (hr:∀b,r=some b->b<c):IsQ w' (G0 c a) v q:=
 IsQ.stb.to h (zll g fun b d=>⟨L d.2 i,fun e=>by have:=hr b e.symm;have:=d.1;omega⟩)
theorem zpt {P:M} {w:f} {o:q} {a:Act} {K:Act->f->Prop} {Q:Exit->Act->f->Prop} {t e:C} {n bytes:Nat} (c:ElN P t e n bytes) (s x:Operand) (U:o.op= .call {callee:= .builtin .append,args:= #[s,x],argTypes:= #[t,t]})
 {d:Type} {R:f->(Nat->Prop)->u->d->Prop} (I:Stb R) {base h:Nat} {S:Nat->Prop} {v ev:u} {l:List d} {y:d} {te:C}
 (X:a.eval s=v) (aa:a.eval x= .slice (some ⟨h,0,none⟩) 1 1) (hr:Row w h te ev.cells.toList) (V:OwnS n e R w base S v l) (O:R w S ev y) (m:ev.cells.size=n)
 (B:∀p∈ev.cells,p.oneCell'=true) (J:(l.length+1)*(bytes+1)<=140737488355328) (L:base<=w.heap.size)
 (H:∀b w',OwnS n e R w' base S b (l++[y])->w.grownBy w' v.ownBlock->(b.ownBlock=v.ownBlock\/b.ownBlock=some w.heap.size)->K (a.put o.dst b) w'):o.wp P a w K Q:=by
 obtain⟨i,z,T,ac,Y,N,ad⟩:=c.info
 obtain⟨r,D,E,F,G⟩:=V
 rw[Nat.mul_add,Nat.mul_one] at J
 obtain⟨b,w',W,A,g,_,k⟩:=run_append_own_at (P:=P) w base t o.type e i z n bytes c.und T ac Y N ad c.pos v l.length (cellsOf r) D ⟨h,0,none⟩ 1 1 ev.cells.toList (by simp[m])
  (fun j p Z=>by rw[Addr.add_lit,Nat.zero_add,hr.cell j];exact Z) (by simpa using B) (by unfold maxLen;omega) og L
 unfold Oper.wp execOp
 simp only[U,resolve,invoke,builtin,Sem.run_bind,Sem.run_pure,Result.andThen_ok,List.map_toArray,List.map_cons,List.map_nil,X,aa,W]
 exact H b w' (OwnS.app I E F G O m A g k) g k
def NewRow (w:f) (n0:Nat) (t:C) (xs:List u) (v:u):Prop:=∃h,v= .slice (some ⟨h,0,none⟩) 1 1/\n0<=h/\Row w h t xs
theorem NewRow.grown {w w':f} {n0:Nat} {t:C} {v:u} (h:NewRow w n0 t xs v) (d:w.grownBy w' r) (hr:∀b,r=some b->b<n0):NewRow w' n0 t xs v:=by obtain⟨g,e,a,c⟩:=h;exact⟨g,e,a,c.grownN d fun b e=>by have:=hr b e;omega⟩
theorem zma {T:Array u} {t:Nat} {v:u} (h:T[t]? =some v):T.getD t k=v:=by simp[G,h]
theorem ygl {w i c:f} {r1 r2:Option Nat} (h:w.grownBy i (some g)) (a:Kept (some g) r1 r2 i c) (k:∀b,r1=some b->w.heap.size<=b) (l:∀b,r2=some b->w.heap.size<=b):w.grownBy c (some g):=
 ⟨a.os.trans h.os,a.tape.trans h.tape,a.output.trans h.output,I h.size a.size,fun j d hr=>(a.block j (L d h.size) hr (fun e=>by have:=k j e.symm;omega) (fun e=>by have:=l j e.symm;omega)).trans (h.block j d hr)⟩
theorem Row.kept {w w':f} {t:C} {r1 r2 r3:Option Nat} (h:Row w g t xs) (d:Kept r1 r2 r3 w w') (a:r1≠some g) (b:r2≠some g) (c:r3≠some g):Row w' g t xs:=(d.block g h.lt (Ne.symm a) (Ne.symm b) (Ne.symm c)).trans h
theorem zst {w w':f} {n:Nat} (h:w.grownBy w' (some g)) (d:w.heap.size<=n) (o:Nat) (b:u):w.grownBy (w'.setCell ⟨n,o,none⟩ b) (some g):=
 ⟨h.os,h.tape,h.output,by rw[show(w'.setCell ⟨n,o,none⟩ b).heap.size=w'.heap.size by simp[World.setCell]];exact h.size,fun a c hr=>(Below.heap_setCell w' ⟨n,o,none⟩ b a (fun e=>by have:n=a:=e.symm;omega)).trans (h.block a c hr)⟩
section
variable {d : Type} {n bytes : Nat} {t e : C} {R : f → (Nat → Prop) → u → d → Prop} {o : q} {a : Act} {K : Act → f → Prop} {Q : Exit → Act → f → Prop} {wr w4 : f} {base : Nat} {S T : Nat → Prop} {v ev : u} {l : List d} {y : d} {te : C} {cs : Array u}
def Y1 (S:Nat->Prop) (wr w4:f):Nat->Prop:=fun b=>S b\/(wr.heap.size<=b/\b<w4.heap.size)
theorem yzr (r:ElN F t e n bytes) (i:Stb R) (s x:Operand) (G:o.op= .call {callee:= .builtin .append,args:= #[s,x],argTypes:= #[t,t]})
 (H:a.eval s=v) (J:a.eval x= .slice (some ⟨w4.heap.size,0,none⟩) 1 1) (B:cs=ev.cells) (p:OwnS n e R wr base S v l) (j:Below wr.heap.size wr w4) (C:R w4 T ev y) (m:∀b,T b->wr.heap.size<=b/\b<w4.heap.size)
 (E:ev.cells.size=n) (u:∀N∈ev.cells,N.oneCell'=true) (D:(l.length+1)*(bytes+1)<=140737488355328) (A:base<=wr.heap.size)
 (z:∀c w',OwnS n e R w' base (Y1 S wr w4) c (l++[y])->wr.grownBy w' v.ownBlock->(c.ownBlock=v.ownBlock\/∃g,c.ownBlock=some g/\w4.heap.size<=g/\g<w'.heap.size)->w4.heap.size<=w'.heap.size->K (a.put o.dst c) w'):
 o.wp F a (w4.alloc (.cells cs te)) K Q:=by
 subst B
 have d:=O0 w4 (.cells ev.cells te)
 have f:=d.size
 have P:∀b,v.ownBlock=some b->b<wr.heap.size:=fun b e=>(p.own_lt b e).2
 refine zpt (h:=w4.heap.size) (te:=te) (S:=Y1 S wr w4) (base:=base) (l:=l) (y:=y) (ev:=ev) r s x G i H J ?_ ?_ ?_ E u D (I A (I j.size f)) fun c w' q k M=>z c w' q ?_ ?_ (I f k.size)
 ·exact heap_alloc_new w4 _
 ·exact OwnS.step i p (C9 j d) (fun b h=> .inl h) fun b h=>h.imp id fun h=>⟨h.1,L h.2 f⟩
 ·exact i.to C fun b h=>⟨.inr (m b h),fun o=>d.cell (p:=⟨b,o,none⟩) (m b h).2⟩
 ·exact J5 (K8 (C9 j d)) k
 ·refine M.imp id fun h=>⟨_,h,?_,?_⟩
  ·exact f
  ·have:=k.size
   obtain⟨O,w,_⟩:=q
   exact(w.lt _ h).2
theorem yzq {l:List Rat} {q:Rat} (s x:Operand) (C:o.op= .call {callee:= .builtin .append,args:= #[s,x],argTypes:= #[30,30]})
 (E:a.eval s=v) {f:Bool} {d e:Option Addr} {j k h i:Nat} (G:a.eval x= .slice (some ⟨w4.heap.size,0,none⟩) 1 1) (A:cs= #[.bool f,.slice d j h,.slice e k i]) (D:Hid (OwnS 3 37 IsR wr base S v (C0 l))) (y:Below wr.heap.size wr w4) (B:Hid (IsQ w4 T (.agg #[.bool f,.slice d j h,.slice e k i]) q)) (w:∀b,T b->wr.heap.size<=b/\b<w4.heap.size)
 (H:l.length<=1000) (z:base<=wr.heap.size)
 (u:∀c w',OwnS 3 37 IsR w' base (Y1 S wr w4) c (C0 (l++[q]))->wr.grownBy w' v.ownBlock->(c.ownBlock=v.ownBlock\/∃g,c.ownBlock=some g/\w4.heap.size<=g/\g<w'.heap.size)->w4.heap.size<=w'.heap.size->K (a.put o.dst c) w'):
 o.wp F a (w4.alloc (.cells cs te)) K Q:=
 yzr zlc IsR.stb s x C E G (ev:= .agg #[.bool f,.slice d j h,.slice e k i]) (y:=E7 q) A D.out y B.out w rfl (by intro I m;simp[Value.cells] at m;rcases m with rfl|rfl|rfl<;>rfl) (by rw[show(C0 l).length=l.length by simp[C0]];omega) z fun c w' n p r t=>u c w' (by rw[show C0 (l++[q])=C0 l++[E7 q] by simp[C0]];exact n) p r t
end
end Go.Proofs.YtdgilbgdkmhcmaaGreatDoor
