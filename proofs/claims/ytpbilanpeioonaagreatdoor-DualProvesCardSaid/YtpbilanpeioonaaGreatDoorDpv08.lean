/-
 What the walks ask of the type of lists of numbers;small facts on lists.
-/
import Derived.Test.YtpbilanpeioonaaGreatDoorDpv07
import Derived.StillTailTactics
import Derived.OrdersIn
import Derived.TacticsIn
import Derived.RangeFuncNested
import Derived.RangeFuncBox
import Derived.RangeFuncBound
import Derived.RangeFuncCalls
import Derived.RangeFuncLeaves
import Derived.Shelf.Abstract
import Derived.Shelf.RegionOpen
import Derived.OwnWalkIn
import Derived.TacticsInMore
import Derived.LoopNIn
import Derived.LoopIn
namespace Go.Proofs.YtpbilanpeioonaaGreatDoor
open Go.RowKit
set_option linter.unusedVariables false
open Go.RowKit Go.Shelf
set_option maxRecDepth 100000
set_option maxHeartbeats 8000000
open _root_.Go.Lib renaming hid → g
open _root_.Nat renaming le_refl → t, lt_or_ge → x, zero_le → y
open _root_.List renaming getElem?_eq_getElem → s, mem_of_getElem? → z, length_map → B, take_of_length_le → h, getElem?_map → C
open _root_.Go.World renaming size_alloc → u
open _root_.Go renaming World → b, Value → o, Calls → r, Addr → i
open _root_.Go.Proofs.Tryz renaming prog → p
variable {q : Act → b → Prop} {Q' : Exit → Act → b → Prop} {W d Y Z : b} {c j k n a : Nat} {es : List o} {l : List Raw} {v e f : o}
theorem zz1399:(Tryz.prog.info? 37).map (fun a=>(a.zero,a.size,a.bytes))=some (some (.agg #[.bool false,.slice none 0 0,.slice none 0 0]),3,56):=by kernel_rfl
theorem zlf:ElN p 30 37 3 56:=
 ⟨Tryz.underlying30,by obtain⟨e,a,b,c,d⟩:=info_parts zz1399;exact⟨e,_,a,b,c,d,rfl⟩,by omega⟩
def zlz (l:List Raw):Bool:=l.any (·.neg)
theorem yrb (h:∀j,j<l.length->∀a,l[j]? =some a->a.neg=false):zlz l=false:=by unfold zlz;rw[List.any_eq_false];intro a hr;obtain⟨j,b,rfl⟩:=List.getElem_of_mem hr;simp[h j b _ (s b)]
theorem yqz {a:Raw} (h:l[j]? =some a) (b:a.neg=true):zlz l=true:=by unfold zlz;rw[List.any_eq_true];exact⟨a,z h,b⟩
theorem zrl {l:List Rat} (h:j<l.length):∃q,l[j]? =some q/\(C5 l)[j]? =some (E9 q):=⟨l[j],s h,by simp[C5,s h]⟩
theorem zpc {a:Type} {l:List a} {x:a} (h:l[k]? =some x):l.take (k+1)=l.take k++[x]:=by obtain⟨b,rfl⟩:=List.getElem?_eq_some_iff.1 h;exact List.take_succ_eq_append_getElem b
theorem zqj {w:b} {a:Nat->Prop} {q:Rat} (h:IsR w a v (E9 q)):IsQ w a v q:=h
def zkh (m:List (List Rat)) (k:Nat):List Rat:=m.map fun row=>row.getD k 0
theorem yam {m:List (List Rat)} (h:j<m.length):∃row,m[j]? =some row/\(J4 m)[j]? =some (C5 row):=⟨m[j],s h,by simp[J4,s h]⟩
theorem zxk {w:b} (h:IsV w (C6 w) v l):
 r p 172 #[v] w fun B w'=>B= .returned (.bool (zlz l))/\Below w.heap.size w w':=by
 have u:=g h;obtain⟨A,c,rfl,O⟩:=K3 h;clear h;go_in;go_wp2_with fail;go_loopw [7] (fun n wr=>∃k:Nat,k<=l.length/\n= .int .i64 (k:Int)/\Below w.heap.size w wr/\Hid (∀j,j<k->∀d,l[j]? =some d->d.neg=false)) (fun n _=>l.length-(intOf n).toNat);case atStart=>exact⟨0,y _,rfl,Below.refl _ _,fun j D=>by omega⟩
 case round=>
  obtain⟨k,N,rfl,a,hrel⟩:=hrel;have e:=g a;have o:=g hrel.out;clear hrel;rcases x k l.length with E|M
  ·obtain⟨d,hr⟩:=zob E;obtain⟨H,off,P,Q,G,R,rfl,L,C,z,I,J⟩:=znt (IsV.stb.next u.out a) hr;have q:=g hr;have K:=U0;obtain⟨s,m⟩:=nm (d.neg);rw[<-m] at z;have t:=g m;clear C hr a m;cases s with
   |true=>have f:Hid (zlz l=true):=yqz q.out t.out.symm;go_wp2_with fail;go_ret;exact⟨zpx f.out.symm,C8 e.out (N6 _ _)⟩
   |false=>
    go_wp2_with fail;go_roundw
    case rel=>
     refine⟨k+1,by omega,by go_num,C8 e.out (N6 _ _),fun j D F i=> ?_⟩;rcases x j k with h|h
     ·exact o.out j h F i
     ·obtain rfl:j=k:=og;rw[q.out] at i;cases i;exact t.out.symm
    case measure=>simp[intOf];omega
  ·obtain rfl:k=l.length:=og;have f:Hid (zlz l=false):=yrb o.out;clear a;go_wp2_with fail;go_ret;exact⟨zpx f.out.symm,e.out⟩
theorem yef {w:b} {l:List Rat} (h:IsV w (C6 w) v (C5 l)) (L:∀q∈l,Sz q 100000) (au:l.length<=1000):
 r p 119 #[v] w fun F w'=>(∃N,F= .returned N/\IsV w' (I8 w.heap.size w') N (C5 (l.map fun q=> -q)))/\Below w.heap.size w w':=by
 obtain⟨O,T⟩:=C7 h L;obtain⟨A,c,rfl,ar⟩:=K3 h;have el:(C5 l).length=l.length:=(by simp[C5]);rw[el] at*;clear h L el;go_in;go_wp2_with (at_make;refine zwl zlf rfl _ _ rfl IsR l.length rfl rfl rfl og (base:=w.heap.size) (S:=fun _=>False) (t _) (fun _ h=>False.elim h) ?_;intro aG aJ J H ae);go_loopw [3,11] (fun v B wr=>∃(k:Nat) (S:Nat->Prop),k<=l.length/\B= .int .i64 (k:Int)/\Below w.heap.size w wr/\OwnS 3 37 IsR wr w.heap.size S v (C5 ((l.take k).map fun q=> -q))/\Hid (∀a,S a->w.heap.size<=a)) (fun _ B _=>l.length-(intOf B).toNat);case atStart=>exact⟨0,fun _=>False,y _,rfl,H,by simpa[C5] using J,fun _ h=>False.elim h⟩
 case round=>
  obtain⟨k,S,aq,rfl,n,i,G⟩:=hrel;have m:=g n;clear H J ae;rcases x k l.length with ab|ao
  ·obtain⟨q,o,hr⟩:=zrl ab;obtain⟨a,off,P,az,ah,aA,rfl,an,I,ai,aj,ak⟩:=znt (IsV.stb.next O.out n) hr;obtain⟨Q,R,U⟩:=H7 (zqj I) o (T.out q (z o));have al:=U0;obtain⟨aC,K⟩:=nm (-q);obtain⟨E,e⟩:=C7 K i;clear I hr n o K i;go_wp2_with fail;refine(zsb (IsQ.stb.next Q.out (N6 _ _)) U.out E.out).mono ?_;rintro F j ⟨⟨aH,rfl,s⟩,d⟩;obtain⟨C,V⟩:=C7 (C8 (N6 _ _) d) s;have D:=g (C8 m.out C.out);have Z:w.heap.size<=j.heap.size:=D.out.size;obtain⟨aD,ag,ay,af,aB,rfl,_,_,_⟩:=G4 s;have ac:=OwnS.step IsR.stb (T:=fun a=>S a\/(wr.heap.size<=a/\a<j.heap.size)) e.out C.out (fun a h=> .inl h) (fun a h=>h);have aa:=IsQ.stb.to V.out (G6 (T:=fun a=>S a\/(wr.heap.size<=a/\a<j.heap.size)) fun a h=> .inr ⟨by have:=h.1;rw[u] at this;omega,h.2⟩);clear d s;go_wp2_with (at_builtin;refine zqb zlf rfl _ _ rfl IsR.stb rfl rfl rfl ac aa rfl (by intro aE M;simp[Value.cells] at M;rcases M with rfl|rfl|rfl<;>rfl) (by simp[C5];omega) Z ?_;intro aI aK ad Y av);go_roundw
   case rel=>
    refine⟨k+1,fun a=>S a\/(wr.heap.size<=a/\a<j.heap.size),by omega,by go_num,D.out.trans Y,?_,fun a d=> ?_⟩
    ·rw[zpc R.out,List.map_append,C5,List.map_append];simp only[List.map_cons,List.map_nil];rw[<-E.out];exact ad
    ·rcases d with h|h
     ·exact G.out a h
     ·have:=m.out.size;omega
   case measure=>simp[intOf];omega
  ·obtain rfl:k=l.length:=og;have e:=g i;clear i;go_wp2_with fail;go_ret;refine⟨⟨_,rfl,?_⟩,m.out⟩;have f:=OwnS.isS IsR.stb (T:=I8 w.heap.size wr) e.out (fun a d=>⟨G.out a d,by obtain⟨_,_,_,_,X⟩:=e.out;exact(X a d).1⟩) (fun a f W=>⟨f,W⟩);rw[List.take_length] at f;exact f
theorem zyx {w:b} {m:List (List Rat)} (h:IsM w (C6 w) v (J4 m)) (an:m.length<=1000) (hr:∀row∈m,row.length=n) (aj:k<n) (ao:n<=1000):
 r p 118 #[v,.int .i64 (k:Int)] w fun O w'=>(∃I,O= .returned I/\IsV w' (C6 w') I (C5 (zkh m k)))/\Below w.heap.size w w':=by
 obtain⟨J,M⟩:=C7 h hr;obtain⟨A,c,rfl,al⟩:=zqh h;have el:(J4 m).length=m.length:=(by simp[J4]);rw[el] at*;clear h hr el;go_in;go_wp2_with (at_make;refine zwl zlf rfl _ _ rfl IsR m.length rfl rfl rfl og (base:=w.heap.size) (S:=C6 w) (t _) (fun _ h=>h) ?_;intro aA aC D u Y);go_loopw [5,13] (fun v s wr=>∃j:Nat,j<=m.length/\s= .int .i64 (j:Int)/\Below w.heap.size w wr/\OwnS 3 37 IsR wr w.heap.size (C6 w) v (C5 (zkh (m.take j) k))) (fun _ s _=>m.length-(intOf s).toNat);case atStart=>exact⟨0,y _,rfl,u,by simpa[C5,zkh] using D⟩
 case round=>
  obtain⟨j,ai,rfl,a,d⟩:=hrel;have e:=g a;clear u D Y;rcases x j m.length with V|ah
  ·obtain⟨row,o,F⟩:=yam V;obtain⟨i,off,P,ar,rfl,af,B,ab⟩:=zrf (IsM.stb.to J.out (zqs a fun i h=>h)) F;have X:row.length=n:=M.out row (z o);obtain⟨q,E,G⟩:=zrl (l:=row) (j:=k) og;obtain⟨b2,ay,Z,au,aa,av,rfl,ag,C,d0,ad,ae⟩:=znt B G;have Q:(C5 row).length=row.length:=(by simp[C5]);have ak:k<(C5 row).length:=og;obtain⟨K,N,L⟩:=H7 C o E;have ac:=U0;have f:=g d;have U:w.heap.size<=wr.heap.size:=a.size;clear B o F a E G C d Q X;go_wp2_with (at_builtin;refine zqb zlf rfl _ _ rfl IsR.stb rfl rfl rfl f.out K.out rfl (by intro az H;simp[Value.cells] at H;rcases H with rfl|rfl|rfl<;>rfl) (by simp[C5,zkh];omega) U ?_;intro aB aD W T aq);go_roundw;(case rel=>refine⟨j+1,by omega,by go_num,e.out.trans T,?_⟩;rw[zpc N.out,zkh,List.map_append,C5,List.map_append];simp only[List.map_cons,List.map_nil];rw[List.getD_eq_getElem?_getD,L.out];exact W);case measure=>simp[intOf];omega
  ·obtain rfl:j=m.length:=og;have f:=g d;clear d;go_wp2_with fail;go_ret;refine⟨⟨_,rfl,?_⟩,e.out⟩;have l:=OwnS.isS IsR.stb (T:=C6 wr) f.out (fun i S=>Nat.lt_of_lt_of_le S e.out.size) (fun i l R=>R);rw[List.take_length] at l;exact l
section
variable {P : Program} {ops : Array Oper} {md : Region.Mode} {w : b} {m : Nat}
theorem ypo (a:FuncId):Fence.wide.fn a:=trivial
theorem zz1512:Fence.wide.round=none:=rfl
theorem zz1516 {c:Oper} {a:Act} {d:Act->Prop} (h:∀a,d a->q a w) (b:c.still P a w d):c.wpIn Fence.wide m P a w q Q':=by
 refine⟨fun e _=>ypo e,?_⟩;rw[zz1512,Oper.semAt_none];unfold Oper.still at b;generalize (execOp a.eval c).run P w=l at*;cases l with
 |ok n w'=>cases n<;>simp only[Oper.stillUpon] at b<;>simp only[Oper.uponIn];(case enter e args=>obtain⟨rfl,v,hc,j⟩:=b;exact⟨(fun f=>by cases f),callsIn_wide.2 (hc.mono fun o p ⟨i,k⟩=>by subst i;subst k;exact h _ j)⟩);all_goals(obtain⟨rfl,g⟩:=b;exact h _ g)
 |halt x w'=>simp only[Oper.stillUpon] at b
theorem zz1521 {f:Nat} {a:Act} {e:Act->Prop} (h:∀a,e a->q a w) (b:stOp P ops w f e a):wpOpIn Fence.wide m P ops Q' f q a w:=by
 unfold stOp at b;unfold wpOpIn;split
 ·rename_i c;simp only[c] at b;exact h _ b
 ·rename_i i c;simp only[c] at b;split
  ·rename_i d;simp only[d,if_true] at b;exact zz1516 h b
  ·rename_i d;simp only[d] at b;exact⟨fun g _=>ypo g,h _ b⟩
theorem ypq {g:Nat} {c:Array Bool->Act->Prop} (d:∀listed a,c listed a->wpAnyIn Fence.wide m P md ops Q' g listed a w):
 ∀(b:Nat) (listed:Array Bool) (a:Act),wpAnyL P md ops w n c b listed a->wpAnyIn Fence.wide m P md ops Q' (b+g) listed a w
 |0,listed,a,h=>by rw[Nat.zero_add];exact d _ _ h
 |b+1,listed,a,h=>by
  rw[show b+1+g=(b+g)+1 by omega]
  exact⟨fun i=>absurd i h.1,fun k j=>zz1521 (fun e f=>ypq d b _ e f) (h.2 k j).2⟩
theorem ypr:∀(l:List Oper) (k:Nat) (listed:Array Bool) (a:Act) (w:b),(∀j,l[j]? =ops[k+j]?)->
 Region.seqB md ops l.length k listed=true->wpListIn Fence.wide m P ops Q' l a w->wpAnyIn Fence.wide m P md ops Q' l.length listed a w
 |[],_,_,_,_,_,c,h=>⟨by simpa[Region.seqB] using c,h⟩
 |o::l,k,listed,a,w,g,c,h=>by
  have p:ops[k]? =some o:=by simpa using(g 0).symm
  simp only[List.length_cons,Region.seqB,Bool.and_eq_true,decide_eq_true_eq] at c
  refine⟨fun e=>(by rw[c.1] at e;cases e),fun d f=> ?_⟩
  rw[c.1] at f
  have q:d=k:=by simpa using f
  subst q
  have r:wpOpIn Fence.wide m P ops Q' d (wpListIn Fence.wide m P ops Q' l) a w:=by unfold wpOpIn;simp only[p];exact h
  exact wpOpIn_mono (fun i w' n=>ypr l (d+1) _ i w' (fun j=>by have:=g (j+1);simpa[Nat.add_assoc,Nat.add_comm 1 j] using this) c.2 n) r
theorem yps {id:Nat} {c:Exit->Act->b->Prop} {a:Act} {w:b} {l:List Oper} (n:Nat) (t:P.follows .mixedOrders=true) (f:Region.lexTailB .any l.toArray n=true)
 (h:wpStill P l.toArray {w with drawn:=w.drawn+1} (fun e=>wpListIn Fence.wide m P l.toArray c (l.drop n) e {w with drawn:=w.drawn+1}) (l.take n) a):(Code.region id l.toArray true).wpIn Fence.wide m P c a w:=by
 simp only[Region.lexTailB,Bool.and_eq_true,decide_eq_true_eq] at f;obtain⟨⟨⟨⟨v,p⟩,u⟩,hc⟩,s⟩:=f;have z:n<l.length:=(by simpa using p);have d:(l.take n).length=n:=(by simp;omega);have i:(l.drop n).length=l.toArray.size-n:=by simp
 have y:HeadInv .any l.toArray n (Array.replicate l.toArray.size false):=
  ⟨by simp,fun j A _ o=>(by rw[getD_replicate_false] at o;cases o),fun B _ x=>getD_in (by simpa using x) (getD_replicate_false _ _)⟩
 have q:=wpAnyL_lex (md:= .any) (g:=l.toArray.size-n) v u hc p (l.take n) 0 _ a (fun j k=>by have r:j<n:=(by rw[d] at k;exact k);simp[r]) (by simpa using d) y (by rw[d];exact s) h;refine wpIn_region_any t ?_;have:=ypq (m:=m) (Q':=c) (g:=l.toArray.size-n) (fun listed e g=>by have:=ypr (m:=m) (md:= .any) (Q':=c) (l.drop n) n listed e {w with drawn:=w.drawn+1} (fun j=>by simp[List.getElem?_drop]) (by rw[i];exact g.1) g.2;rwa[i] at this) _ _ _ q;rw[d,show n+(l.toArray.size-n)=l.toArray.size by omega] at this;exact this
end
attribute [local go_sem] Oper.semAt_some
set_option linter.unusedVariables false
abbrev S3:=Option i×Nat×Nat
abbrev Q3:=Bool×S3×S3
def q3 (x:Q3):o:= .agg #[.bool x.1,.slice x.2.1.1 x.2.1.2.1 x.2.1.2.2,.slice x.2.2.1 x.2.2.2.1 x.2.2.2.2]
theorem zyn {B l:Nat} {d:TypeId} {b c:Obj} (h:Boxed W B d v) (a:W.heap[l]? =some b) (f:b.isCells=false):Boxed (W.putObj l c) B d v:=by refine h.kept (grownBy_putObj' W l c) (fun e=> ?_);obtain rfl:B=l:=(by simpa using e);rw[show W.heap[B]? =_ from h] at a;cases a;cases f
theorem znu {w w':b} {a c:Nat} (d:Below n w w') (e:a<n) (h:w.cell? ⟨a,c,none⟩=some v):w'.cell? ⟨a,c,none⟩=some v:=(d.cell (p:=⟨a,c,none⟩) e).trans h
def Els3 (w:b) (a:Nat) (A:Option i) (es:List Q3):Prop:=∀(j:Nat) (c:Q3),es[j]? =some c->∃d off,A=some ⟨d,off,none⟩/\d<a/\
 w.cell? ⟨d,off+j*3,none⟩=some (.bool c.1)/\w.cell? ⟨d,off+j*3+1,none⟩=some (.slice c.2.1.1 c.2.1.2.1 c.2.1.2.2)/\w.cell? ⟨d,off+j*3+2,none⟩=some (.slice c.2.2.1 c.2.2.2.1 c.2.2.2.2)
def Els1 (w:b) (a:Nat) (A:Option i) (es:List o):Prop:=∀(j:Nat) (d:o),es[j]? =some d->∃c off,A=some ⟨c,off,none⟩/\c<a/\w.cell? ⟨c,off+j,none⟩=some d
theorem Els3.below {w w':b} {A:Option i} {es:List Q3} (h:Els3 w a A es) (c:Below w.heap.size w w') (o:a<=w.heap.size):Els3 w' a A es:=fun j e n=>by
 obtain⟨d,off,f,g,k,l,m⟩:=h j e n
 exact⟨d,off,f,g,znu c og k,znu c og l,znu c og m⟩
theorem Els1.below {w w':b} {A:Option i} (h:Els1 w a A es) (k:Below w.heap.size w w') (m:a<=w.heap.size):Els1 w' a A es:=fun j d l=>by
 obtain⟨c,off,e,f,g⟩:=h j d l
 exact⟨c,off,e,f,znu k og g⟩
theorem yux:(∀(j:Nat) (a:o),es[j]? =some a->∃x,a=q3 x)->∃l:List Q3,l.map q3=es:=by
 induction es with
 |nil=>exact fun _=>⟨[],rfl⟩
 |cons a es ih=>intro h;obtain⟨x,rfl⟩:=h 0 a rfl;obtain⟨l,rfl⟩:=ih fun j a b=>h (j+1) a b;exact⟨x::l,rfl⟩
theorem ydn {w:b} {A:Option i} (h:IsV w (C6 w) (.slice A n c) l):∃es,Els3 w w.heap.size A es/\es.length=l.length/\All2 (fun x J=>IsR w (C6 w) (q3 x) J) es l:=by have t:=h;obtain⟨K,M,es,hv,N,O,D,g,e⟩:=h;simp only[Value.slice.injEq] at hv;obtain⟨rfl,rfl,rfl⟩:=hv;have G:∀(j:Nat) (a:o),es[j]? =some a->∃x,a=q3 x:=fun j a m=>(by have q:j<l.length:=(by rw[<-e.1];exact(List.getElem?_eq_some_iff.1 m).1);obtain⟨P,k,L,d,rfl,_,_⟩:=e.2 j a _ m (s q);exact⟨(_,(_,_,_),(_,_,_)),rfl⟩);obtain⟨f,rfl⟩:=yux G;have u:∀{j:Nat} {x:Q3},f[j]? =some x->(f.map q3)[j]? =some (q3 x):=fun r=>(by rw[C,r];rfl);refine⟨f,fun j a m=> ?_,by rw[<-e.1,B],by rw[<-e.1,B],fun j x y r I=>e.2 j _ _ (u r) I⟩;have p:=u m;have H:cellsOf (f.map q3)≠[]:=(by intro t;have v:=ztv g;rw[t] at v;have q:=(List.getElem?_eq_some_iff.1 p).1;simp at v;simp at q;omega);obtain⟨z,off,E,F,hc⟩:=D H;exact⟨z,off,E,F,hc _ _ (zof g (i:=0) p rfl),hc _ _ (zof g (i:=1) p rfl),hc _ _ (zof g (i:=2) p rfl)⟩
theorem ywk {w:b} {A:Option i} {m:List (List Raw)} (h:IsM w (C6 w) (.slice A n c) m):∃es,Els1 w w.heap.size A es/\es.length=m.length/\All2 (IsV w (C6 w)) es m:=by have e:=h;obtain⟨v,x,es,hv,z,B,p,f,a⟩:=h;simp only[Value.slice.injEq] at hv;obtain⟨rfl,rfl,rfl⟩:=hv;refine⟨es,fun j o d=> ?_,a.1,a⟩;have t:j<m.length:=(by rw[<-a.1];exact(List.getElem?_eq_some_iff.1 d).1);have hr:=a.2 j o _ d (s t);obtain⟨P,k,y,rfl,_⟩:=hr;have u:cellsOf es≠[]:=(by intro e;have g:=ztv f;rw[e] at g;have:=a.1;simp at g;omega);obtain⟨l,off,q,r,hc⟩:=p u;refine⟨l,off,q,r,?_⟩;have:=hc _ _ (zof f (i:=0) d rfl);rw[Nat.mul_one,Nat.add_zero] at this;exact this
def zpj (a B:Nat) (e f:o) (W d:b):Prop:=
 Below a W d/\(Boxed W B 29 e->Boxed d B 29 e)/\(Boxed W (B+1) 29 f->Boxed d (B+1) 29 f)
theorem yds {B:Nat} {X:b} (h:zpj a B e f X Y) (k:zpj a B e f Y Z):zpj a B e f X Z:=
 ⟨h.1.trans k.1,fun x=>k.2.1 (h.2.1 x),fun x=>k.2.2 (h.2.2 x)⟩
theorem ywp {B:Nat} {w:b} (k:a<=w.heap.size) (W:b) (l:Nat) (c g:Obj) (j:w.heap.size<=l) (h:W.heap[l]? =some c) (d:c.isCells=false) (i:c.isWalk=false):zpj a B e f W (W.putObj l g):=
 ⟨belowK_b k W l c g j h d i,fun x=>zyn x h d,fun x=>zyn x h d⟩
theorem yws {B:Nat} (W:b):zpj a B e f W W:=⟨Below.refl _ _,id,id⟩
theorem ywq {B:Nat} {X:b} (h:zpj a B e f X Y):zpj a B e f X Y.drew:=⟨below_drewN h.1 1,h.2.1,h.2.2⟩
theorem ykm {B:Nat} (h:Below W.heap.size W d) (b:a<=W.heap.size):zpj a B e f W d:=
 ⟨h.mono b,fun x=>(h.block _ x.lt).trans x,fun x=>(h.block _ x.lt).trans x⟩
theorem zz1529 {Z:Type} (o q:Z->Q3) (z:List Z) (n:Nat) (aP:1<=n) (a B:Nat) (A f:Option i) (c m d:Nat) (V:z.length=d) (aL:d<=1000) (w:b) (aK:B+1<w.heap.size)
 (N:Boxed w B 29 (.slice A d c)) (O:Boxed w (B+1) 29 (.slice f d m)) (P:Els3 w a A (z.map o)) (Q:Els3 w a f (z.map q)) (U:a<=w.heap.size):
 SeqStopsK Fence.wide n p 193 #[.pointer (some ⟨B,0,none⟩),.pointer (some ⟨B+1,0,none⟩)] (fun x=> #[q3 (o x),q3 (q x)]) (zpj a B (.slice A d c) (.slice f d m)) (fun au=>au=z) (fun _=>True) d w:=fun l ae ay W r R _ T af=>by
 have G:Boxed W B 29 (.slice A d c):=(r.block B og).trans N
 have H:Boxed W (B+1) 29 (.slice f d m):=(r.block (B+1) og).trans O
 obtain⟨aa,ab⟩:=C7 (P.below r U) (Q.below r U)
 have aj:=G.cell
 have ak:=H.cell
 obtain⟨ac,ad,L,s⟩:=U2 R T (And.intro G H) V
 clear R T G H N O P Q V
 refine callsIn_of_wp Tryz.func193 rfl trivial ?_ rfl
 simp only[Tryz.ntmps193,List.size_toArray,List.length_cons,List.length_nil,Nat.reduceAdd,Nat.reduceSub,Array.replicate_succ,Array.replicate_zero,List.push_toArray,List.append_toArray,List.nil_append,List.cons_append]
 gi_wp2
 gi_loopw [10] (fun K wr=>∃k:Nat,k<=d/\K= .int .i64 k/\ae (z.take k) wr/\zpj a B (.slice A d c) (.slice f d m) W wr) (fun K _=>d-(intOf K).toNat)
 case atStart=>exact⟨0,y _,rfl,af,yws _⟩
 case round=>
  obtain⟨k,aM,rfl,S,e⟩:=hrel
  clear aj ak
  by_cases ao:k<d
  ·obtain⟨x,j⟩:=zob (l:=z) (j:=k) (by rw[s.out];exact ao)
   obtain⟨aA,aQ,rfl,I,u,v,D⟩:=aa.out k (o x) (by rw[C,j];rfl)
   obtain⟨b2,aR,rfl,J,d0,E,F⟩:=ab.out k (q x) (by rw[C,j];rfl)
   have an:(z.take k).length<d:=by rw[List.length_take,s.out];omega
   obtain⟨aJ,tmps,assign,body,ar,ai⟩:=ad.out _ x wr.drew (ac.out _ _ _ none S ⟨rfl,rfl,rfl,t _,fun _ _ _=>rfl⟩ (fun aS M=>by cases M)) an
   have aN:=(e.2.1 L.out.1).cell
   have aO:=(e.2.2 L.out.2).cell
   have aq:Hid (z.take (k+1)=z.take k++[x]):=zpc j
   have av:=g j
   generalize o x=X at*
   generalize q x=Y at*
   obtain⟨X,⟨aT,aU,aV⟩,⟨aW,aX,aY⟩⟩:=X
   obtain⟨Y,⟨aZ,a0,a1⟩,⟨a2,a3,a4⟩⟩:=Y
   dsimp only[q3] at ar u v D d0 E F
   have aG:=znu e.1 I u
   have aH:=znu e.1 I v
   have aI:=znu e.1 I D
   have aC:=znu e.1 J d0
   have aD:=znu e.1 J E
   have aE:=znu e.1 J F
   have aB:=U0
   clear j u v D d0 E F
   gi_wp2
   refine yps 9 kr kr ?_
   change wpStill _ _ wr.drew _ _ _
   simp only[List.take_succ_cons,List.take_zero,List.drop_succ_cons,List.drop_zero]
   still_step
   still_step
   still_step
   still_step
   still_step
   still_step
   still_step
   still_step
   still_step
   refine wpStill_nil ?_
   gi_wp2
   refine ai.mono ?_
   rintro M az (⟨rfl,ag,al⟩|⟨rfl,ah⟩)
   ·gi_wp2
    go_roundw
    case rel=>exact⟨k+1,by omega,by go_num,by rw[aq.out];exact ag,yds (ywq e) al⟩
    case measure=>simp[intOf];omega
   ·gi_wp2
    refine bodyPost_ret (results_none rfl _ _ _) rfl ?_
    exact⟨⟨_,rfl⟩,.inr ⟨_,trivial,ah⟩⟩
  ·obtain rfl:k=d:=og
   gi_wp2
   go_end0
   exact⟨⟨_,rfl⟩,.inl ⟨_,(h (by rw[s.out];omega)),S⟩⟩
theorem zz1528 (w:b) (A B:Option i) (a e c d:Nat):
 r p 170 #[.slice A a c,.slice B e d] w fun g w'=>g= .returned (.func (.func 193) #[] #[.pointer (some ⟨w.heap.size,0,none⟩),.pointer (some ⟨w.heap.size+1,0,none⟩)])/\
  Below w.heap.size w w'/\Boxed w' w.heap.size 29 (.slice A a c)/\Boxed w' (w.heap.size+1) 29 (.slice B e d)/\w'.heap.size=w.heap.size+2:=by go_in;go_wp2;go_ret;have f:=(Boxed.new w 29 (.slice A a c)).alloc (.cells #[.slice B e d] 29);have b2:=Boxed.new (w.alloc (.cells #[.slice A a c] 29)) 29 (.slice B e d);rw[u] at b2;exact⟨rfl,((Below.refl _ w).alloc (t _) _).alloc (by simp) _,f,b2,by simp only[u]⟩
def zrc (a B:Nat) (e f:o) (W d:b):Prop:=
 Below a W d/\(Boxed W B 27 e->Boxed d B 27 e)/\(Boxed W (B+1) 29 f->Boxed d (B+1) 29 f)
theorem yko {B:Nat} {X:b} (h:zrc a B e f X Y) (k:zrc a B e f Y Z):zrc a B e f X Z:=
 ⟨h.1.trans k.1,fun x=>k.2.1 (h.2.1 x),fun x=>k.2.2 (h.2.2 x)⟩
theorem ywt {B:Nat} {w:b} (k:a<=w.heap.size) (W:b) (l:Nat) (c g:Obj) (j:w.heap.size<=l) (h:W.heap[l]? =some c) (d:c.isCells=false) (i:c.isWalk=false):zrc a B e f W (W.putObj l g):=
 ⟨belowK_b k W l c g j h d i,fun x=>zyn x h d,fun x=>zyn x h d⟩
theorem ywv {B:Nat} (W:b):zrc a B e f W W:=⟨Below.refl _ _,id,id⟩
theorem ywu {B:Nat} {X:b} (h:zrc a B e f X Y):zrc a B e f X Y.drew:=⟨below_drewN h.1 1,h.2.1,h.2.2⟩
theorem ykn {B:Nat} (h:Below W.heap.size W d) (b:a<=W.heap.size):zrc a B e f W d:=
 ⟨h.mono b,fun x=>(h.block _ x.lt).trans x,fun x=>(h.block _ x.lt).trans x⟩
theorem zz1531 {I:Type} (q:I->o) (r:I->Q3) (z:List I) (n:Nat) (aL:1<=n) (a B:Nat) (A f:Option i) (c m d:Nat) (V:z.length=d) (aH:d<=1000) (w:b) (aG:B+1<w.heap.size)
 (M:Boxed w B 27 (.slice A d c)) (N:Boxed w (B+1) 29 (.slice f d m)) (O:Els1 w a A (z.map q)) (P:Els3 w a f (z.map r)) (T:a<=w.heap.size):
 SeqStopsK Fence.wide n p 194 #[.pointer (some ⟨B,0,none⟩),.pointer (some ⟨B+1,0,none⟩)] (fun x=> #[q x,q3 (r x)]) (zrc a B (.slice A d c) (.slice f d m)) (fun aq=>aq=z) (fun pre=>∃k,pre=z.take k) d w:=fun l ac au W s Q _ S ad=>by
 have E:Boxed W B 27 (.slice A d c):=(s.block B og).trans M
 have F:Boxed W (B+1) 29 (.slice f d m):=(s.block (B+1) og).trans N
 obtain⟨Y,Z⟩:=C7 (O.below s T) (P.below s T)
 have ai:=E.cell
 have aj:=F.cell
 obtain⟨aa,ab,J,u⟩:=U2 Q S (And.intro E F) V
 clear Q S E F M N O P V
 refine callsIn_of_wp Tryz.func194 rfl trivial ?_ rfl
 simp only[Tryz.ntmps194,List.size_toArray,List.length_cons,List.length_nil,Nat.reduceAdd,Nat.reduceSub,Array.replicate_succ,Array.replicate_zero,List.push_toArray,List.append_toArray,List.nil_append,List.cons_append]
 gi_wp2
 gi_loopw [10] (fun H wr=>∃k:Nat,k<=d/\H= .int .i64 k/\ac (z.take k) wr/\zrc a B (.slice A d c) (.slice f d m) W wr) (fun H _=>d-(intOf H).toNat)
 case atStart=>exact⟨0,y _,rfl,ad,ywv _⟩
 case round=>
  obtain⟨k,aI,rfl,R,e⟩:=hrel
  clear ai aj
  by_cases an:k<d
  ·obtain⟨x,j⟩:=zob (l:=z) (j:=k) (by rw[u.out];exact an)
   obtain⟨ay,aM,rfl,ah,K⟩:=Y.out k (q x) (by rw[C,j];rfl)
   obtain⟨b2,aN,rfl,G,d0,v,D⟩:=Z.out k (r x) (by rw[C,j];rfl)
   have al:(z.take k).length<d:=by rw[List.length_take,u.out];omega
   obtain⟨aE,tmps,assign,body,ao,ag⟩:=ab.out _ x wr.drew (aa.out _ _ _ none R ⟨rfl,rfl,rfl,t _,fun _ _ _=>rfl⟩ (fun aO L=>by cases L)) al
   have aJ:=(e.2.1 J.out.1).cell
   have aK:=(e.2.2 J.out.2).cell
   have U:Hid (z.take (k+1)=z.take k++[x]):=zpc j
   have ar:=g j
   generalize q x=aP at*
   generalize r x=X at*
   obtain⟨X,⟨aQ,aR,aS⟩,⟨aT,aU,aV⟩⟩:=X
   dsimp only[q3] at ao d0 v D
   have aD:=znu e.1 ah K
   have aA:=znu e.1 G d0
   have aB:=znu e.1 G v
   have aC:=znu e.1 G D
   have az:=U0
   clear j K d0 v D
   gi_wp2
   refine yps 9 kr kr ?_
   change wpStill _ _ wr.drew _ _ _
   simp only[List.take_succ_cons,List.take_zero,List.drop_succ_cons,List.drop_zero]
   still_step
   still_step
   still_step
   still_step
   still_step
   still_step
   still_step
   still_step
   still_step
   refine wpStill_nil ?_
   gi_wp2
   refine ag.mono ?_
   rintro L av (⟨rfl,ae,ak⟩|⟨rfl,af⟩)
   ·gi_wp2
    go_roundw
    case rel=>exact⟨k+1,by omega,by go_num,by rw[U.out];exact ae,yko (ywu e) ak⟩
    case measure=>simp[intOf];omega
   ·gi_wp2
    refine bodyPost_ret (results_none rfl _ _ _) rfl ?_
    exact⟨⟨_,rfl⟩,.inr ⟨_,⟨k+1,U.out.symm⟩,af⟩⟩
  ·obtain rfl:k=d:=og
   gi_wp2
   go_end0
   exact⟨⟨_,rfl⟩,.inl ⟨_,(h (by rw[u.out];omega)),R⟩⟩
theorem zz1530 (w:b) (A B:Option i) (a e c d:Nat):
 r p 171 #[.slice A a c,.slice B e d] w fun g w'=>g= .returned (.func (.func 194) #[] #[.pointer (some ⟨w.heap.size,0,none⟩),.pointer (some ⟨w.heap.size+1,0,none⟩)])/\
  Below w.heap.size w w'/\Boxed w' w.heap.size 27 (.slice A a c)/\Boxed w' (w.heap.size+1) 29 (.slice B e d)/\w'.heap.size=w.heap.size+2:=by go_in;go_wp2;go_ret;have f:=(Boxed.new w 27 (.slice A a c)).alloc (.cells #[.slice B e d] 29);have b2:=Boxed.new (w.alloc (.cells #[.slice A a c] 27)) 29 (.slice B e d);rw[u] at b2;exact⟨rfl,((Below.refl _ w).alloc (t _) _).alloc (by simp) _,f,b2,by simp only[u]⟩
theorem ybm (w:b) (neg:Bool) (n d:Int) (q:Rat) (a:Bru w) (g:1<=n) (e:1<=d) (f:n<=18446744073709551615) (hd:d<=18446744073709551615) (c:q=mkRat (sg neg n.toNat) d.toNat):
 r p 185 #[.bool neg,.int .u64 n,.int .u64 d] w (L5 w q):=by obtain⟨m,rfl⟩:=Int.eq_ofNat_of_zero_le (by omega:0<=n);obtain⟨k,rfl⟩:=Int.eq_ofNat_of_zero_le (by omega:0<=d);rw[c];exact ypp w neg m k a og og og og
theorem zxn {x y:Int} (a:1<=x) (b:x<=999999999) (c:1<=y) (d:y<=999999999):1<=x*y/\x*y<=999999998000000001:=by refine⟨?_,(zql og b og d).2⟩;have:=Int.mul_le_mul a c og og;omega
theorem zz1378 {w:b} {c i m:Rat} (ha:IsQ w (C6 w) e c) (t:IsQ w (C6 w) f i) (av:Bru w) (aP:zoq c i) (hc:m=c+i):r p 187 #[e,f] w (L5 w m):=by
 have ah:=g ha;obtain⟨k,a2,aI,a4,aK,rfl,ao,al,aj⟩:=G4 ha;have ai:=g t;obtain⟨l,a3,aJ,a5,aL,rfl,aq,an,ak⟩:=G4 t;obtain⟨o,K,L,M⟩:=aP;obtain⟨aE,aS,rfl,u1,aN,E⟩:=zpu al.out o;obtain⟨b2,aT,rfl,u2,ar,aB⟩:=zpu aj.out K;obtain⟨aG,aU,rfl,u3,aO,aW⟩:=zpu an.out L;obtain⟨aH,aV,rfl,u4,au,aC⟩:=zpu ak.out M;have aQ:= @yer c i k l;have F:Hid (∀(neg:Bool) (n:Nat),sg neg n=sg k (c.num.natAbs*i.den)+sg l (i.num.natAbs*c.den)->mkRat (sg neg n) (c.den*i.den)=m):=fun neg n h=>(by rw[hc];exact yer ao.out aq.out h);have a6:=g hc;rw[o] at ah;rw[K] at ah;rw[L] at ai;rw[M] at ai;rw[o,K,L,M];clear ha t aQ hc al aj an ak ao aq o K L M;obtain⟨aX,aR,u,ra,aA,az,aD⟩:=znd w #[.bool k,.slice (some ⟨aE,aS,none⟩) 1 aI,.slice (some ⟨b2,aT,none⟩) 1 aK] #[.bool l,.slice (some ⟨aG,aU,none⟩) 1 aJ,.slice (some ⟨aH,aV,none⟩) 1 aL] #[.bool false,.slice none 0 0,.slice none 0 0] 37 37 37;have O:=C0 u u1;have bx:=C0 u u2;have bA:=C0 u u3;have bB:=C0 u u4;clear u1 u2 u3 u4;obtain⟨A,B,j,I⟩:=U2 (ra) (aA) (az) (u);have N:Hid (w.heap.size+3<=aX.heap.size):=g (Nat.le_of_eq aD.out.symm);have P:=g (Bru.next av u);clear ra aA az u av;obtain⟨a8,a9,bd⟩:=C4 A.out;obtain⟨be,bf,bg⟩:=C4 B.out;obtain⟨bh,bi,bj⟩:=C4 j.out;obtain⟨br,bt,bu⟩:=F6 j.out;obtain⟨x,C⟩:=nm ((c.num.natAbs:Int)*(i.den:Int):Int);obtain⟨y,D⟩:=nm ((i.num.natAbs:Int)*(c.den:Int):Int);obtain⟨d,hd⟩:=nm ((c.den:Int)*(i.den:Int):Int);obtain⟨aY,aZ⟩:=zxn aN E au aC;obtain⟨a0,a1⟩:=zxn aO aW ar aB;obtain⟨d0,aM⟩:=zxn ar aB au aC;rw[<-C] at aY aZ;rw[<-D] at a0 a1;rw[<-hd] at d0 aM;have G:Hid (x.toNat=c.num.natAbs*i.den):=(by rw[C];exact Int.toNat_natCast _);have H:Hid (y.toNat=i.num.natAbs*c.den):=(by rw[D];exact Int.toNat_natCast _);have Q:Hid (d.toNat=c.den*i.den):=(by rw[hd];exact Int.toNat_natCast _);have bm:IntKind.u64.wrap (c.num.natAbs:Int)=(c.num.natAbs:Int):=IntWalk.u64_in _ og;have bn:IntKind.u64.wrap (c.den:Int)=(c.den:Int):=IntWalk.u64_in _ og;have bp:IntKind.u64.wrap (i.num.natAbs:Int)=(i.num.natAbs:Int):=IntWalk.u64_in _ og;have bq:IntKind.u64.wrap (i.den:Int)=(i.den:Int):=IntWalk.u64_in _ og;have J:IntKind.u64.wrap ((c.num.natAbs:Int)*(i.den:Int))=x:=(by rw[C];exact IntWalk.u64_in _ (by rw[<-C];omega));have bv:IntKind.u64.wrap ((i.num.natAbs:Int)*(c.den:Int))=y:=(by rw[D];exact IntWalk.u64_in _ (by rw[<-D];omega));have bw:IntKind.u64.wrap ((c.den:Int)*(i.den:Int))=d:=(by rw[hd];exact IntWalk.u64_in _ (by rw[<-hd];omega));clear C D hd;go_in;go_wp2_with fail;clear aR;rcases(by cases k<;>cases l<;>simp:(k==l)=true\/(k==l)=false) with ag|ag
 ·have z:Hid (l=k):=(by unfold Hid;cases k<;>cases l<;>simp at ag⊢);have q:Hid (m=mkRat (sg k (x+y).toNat) d.toNat):=(by rw[Hid,Q.out];refine(F.out _ _ ?_).symm;rw[z.out,<-yfe,<-G.out,<-H.out];congr 1;omega);go_quiet (fail);go_wp2_with fail;go_quiet (fail);go_wp2_with fail;refine(ybm _ k (x+y) d m (Bru.drewN P.out _) og og og og q.out).mono ?_;rintro ac a ⟨⟨O,rfl,hv⟩,t⟩;have s:=g (IsQ.stb.le hv N.out);obtain⟨E,S,J,R,o,rfl,_,_,_⟩:=G4 hv;obtain⟨T,U,V⟩:=C4 (uR a A);obtain⟨W,X,Y⟩:=C4 (uR a B);obtain⟨Z,aa,ab⟩:=C4 (uR a j);obtain⟨ad,ae,af⟩:=F6 (uR a j);go_wp2_with fail;refine T6 Tryz.results187 rfl rfl (Row.put3 (uR a j) _ _ _) (zlu s.out (uB a I) og og)
 ·have z:Hid (l= !k):=(by unfold Hid;cases k<;>cases l<;>simp at ag⊢);rcases Int.lt_trichotomy x y with v|v|v
  ·have q:Hid (m=mkRat (sg l (y-x).toNat) d.toNat):=(by rw[Hid,Q.out];refine(F.out _ _ ?_).symm;rw[z.out,<-G.out,<-H.out,show(y-x).toNat=y.toNat-x.toNat from by omega,sg_sub' og];simp);have ay:(x==y)=false:=beq_eq_false_iff_ne.2 og;go_quiet (fail);go_wp2_with fail;go_quiet (fail);go_wp2_with fail;refine(ybm _ l (y-x) d m (Bru.drewN P.out _) og og og og q.out).mono ?_;rintro ac a ⟨⟨O,rfl,hv⟩,t⟩;have s:=g (IsQ.stb.le hv N.out);obtain⟨E,S,J,R,o,rfl,_,_,_⟩:=G4 hv;obtain⟨T,U,V⟩:=C4 (uR a A);obtain⟨W,X,Y⟩:=C4 (uR a B);obtain⟨Z,aa,ab⟩:=C4 (uR a j);obtain⟨ad,ae,af⟩:=F6 (uR a j);go_wp2_with fail;refine T6 Tryz.results187 rfl rfl (Row.put3 (uR a j) _ _ _) (zlu s.out (uB a I) og og)
  ·have q:Hid (m=0):=(by rw[Hid,<-F.out true 0 (by rw[z.out,<-G.out,<-H.out,v,ynz];simp[sg];omega)];simp[sg]);have ay:(x==y)=true:=beq_iff_eq.2 v;have a7:=g v;clear v;go_quiet (fail);go_wp2_with fail;go_quiet (fail);go_wp2_with fail;refine(zro _).mono ?_;rintro ac a ⟨⟨O,rfl,hv⟩,t⟩;have s:=g (IsQ.stb.le hv N.out);obtain⟨E,S,J,R,o,rfl,_,_,_⟩:=G4 hv;obtain⟨T,U,V⟩:=C4 (uR a A);obtain⟨W,X,Y⟩:=C4 (uR a B);obtain⟨Z,aa,ab⟩:=C4 (uR a j);obtain⟨ad,ae,af⟩:=F6 (uR a j);go_wp2_with fail;rw[q.out];refine T6 Tryz.results187 rfl rfl (Row.put3 (uR a j) _ _ _) (zlu s.out (uB a I) og og)
  ·have q:Hid (m=mkRat (sg k (x-y).toNat) d.toNat):=(by rw[Hid,Q.out];refine(F.out _ _ ?_).symm;rw[z.out,<-G.out,<-H.out,show(x-y).toNat=x.toNat-y.toNat from by omega,yff og]);have ay:(x==y)=false:=beq_eq_false_iff_ne.2 og;go_quiet (fail);go_wp2_with fail;go_quiet (fail);go_wp2_with fail;refine(ybm _ k (x-y) d m (Bru.drewN P.out _) og og og og q.out).mono ?_;rintro ac a ⟨⟨O,rfl,hv⟩,t⟩;have s:=g (IsQ.stb.le hv N.out);obtain⟨E,S,J,R,o,rfl,_,_,_⟩:=G4 hv;obtain⟨T,U,V⟩:=C4 (uR a A);obtain⟨W,X,Y⟩:=C4 (uR a B);obtain⟨Z,aa,ab⟩:=C4 (uR a j);obtain⟨ad,ae,af⟩:=F6 (uR a j);go_wp2_with fail;refine T6 Tryz.results187 rfl rfl (Row.put3 (uR a j) _ _ _) (zlu s.out (uB a I) og og)
end Go.Proofs.YtpbilanpeioonaaGreatDoor
