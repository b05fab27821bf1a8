/-
 What the walks ask of the type of lists of numbers;small facts on lists.
-/
import Derived.Test.YtlhhbccgfkhflaaGreatDoorDwv07
import Derived.StillTailTactics
import Derived.OrdersIn
import Derived.TacticsIn
import Derived.RangeFuncNested
import Derived.RangeFuncBox
import Derived.RangeFuncBound
import Derived.RangeFuncCalls
import Derived.RangeFuncLeaves
import Derived.Shelf.Abstract
import Derived.Shelf.RegionOpen
import Derived.OwnWalkIn
import Derived.TacticsInMore
import Derived.LoopNIn
import Derived.LoopIn
namespace Go.Proofs.YtlhhbccgfkhflaaGreatDoor
open Go.RowKit
set_option linter.unusedVariables false
open Go.RowKit Go.Shelf
set_option maxRecDepth 100000
set_option maxHeartbeats 8000000
open _root_.Go.Lib renaming hid → f
open _root_.Nat renaming le_refl → u, lt_or_ge → z, zero_le → C
open _root_.List renaming getElem?_eq_getElem → s, mem_of_getElem? → B, length_map → D, take_of_length_le → E, getElem?_map → q
open _root_.Go.World renaming size_alloc → y
open _root_.Go renaming World → b, Value → p, Calls → t, Addr → i
open _root_.Go.Proofs.Tryz renaming prog → r
variable {g : Act → b → Prop} {Q' : Exit → Act → b → Prop} {W d Y Z : b} {c j k n a : Nat} {es : List p} {l : List Raw} {v va e : p}
theorem zz1354:(Tryz.prog.info? 30).map (fun a=>(a.zero,a.size,a.bytes))=some (some (.agg #[.bool false,.slice none 0 0,.slice none 0 0]),3,56):=by kernel_rfl
theorem zlp:ElN r 26 30 3 56:=
 ⟨Tryz.underlying26,by obtain⟨e,a,b,c,d⟩:=info_parts zz1354;exact⟨e,_,a,b,c,d,rfl⟩,by omega⟩
def zlv (l:List Raw):Bool:=l.any (·.neg)
theorem ypb (h:∀j,j<l.length->∀a,l[j]? =some a->a.neg=false):zlv l=false:=by unfold zlv;rw[List.any_eq_false];intro a hr;obtain⟨j,b,rfl⟩:=List.getElem_of_mem hr;simp[h j b _ (s b)]
theorem ypa {a:Raw} (h:l[j]? =some a) (b:a.neg=true):zlv l=true:=by unfold zlv;rw[List.any_eq_true];exact⟨a,B h,b⟩
theorem zph {l:List Rat} (h:j<l.length):∃q,l[j]? =some q/\(C4 l)[j]? =some (E0 q):=⟨l[j],s h,by simp[C4,s h]⟩
theorem zql {a:Type} {l:List a} {x:a} (h:l[k]? =some x):l.take (k+1)=l.take k++[x]:=by obtain⟨b,rfl⟩:=List.getElem?_eq_some_iff.1 h;exact List.take_succ_eq_append_getElem b
theorem zpd {w:b} {a:Nat->Prop} {q:Rat} (h:IsR w a v (E0 q)):IsQ w a v q:=h
def U1 (m:List (List Rat)) (k:Nat):List Rat:=m.map fun row=>row.getD k 0
theorem zsu {m:List (List Rat)} (h:j<m.length):∃row,m[j]? =some row/\(I0 m)[j]? =some (C4 row):=⟨m[j],s h,by simp[I0,s h]⟩
theorem yjq {w:b} (h:IsV w (C5 w) v l):
 t r 163 #[v] w fun y w'=>y= .returned (.bool (zlv l))/\Below w.heap.size w w':=by
 have u:=f h;obtain⟨A,c,rfl,O⟩:=J6 h;clear h;go_in;go_wp2_with fail;go_loopw [7] (fun n wr=>∃k:Nat,k<=l.length/\n= .int .i64 (k:Int)/\Below w.heap.size w wr/\Hid (∀j,j<k->∀d,l[j]? =some d->d.neg=false)) (fun n _=>l.length-(intOf n).toNat);case atStart=>exact⟨0,C _,rfl,Below.refl _ _,fun j D=>by omega⟩
 case round=>
  obtain⟨k,N,rfl,a,hrel⟩:=hrel;have e:=f a;have o:=f hrel.out;clear hrel;rcases z k l.length with E|M
  ·obtain⟨d,hr⟩:=znt E;obtain⟨H,off,P,Q,G,R,rfl,L,B,x,I,J⟩:=zmt (IsV.stb.next u.out a) hr;have p:=f hr;have K:=N9;obtain⟨s,m⟩:=nm (d.neg);rw[<-m] at x;have q:=f m;clear B hr a m;cases s with
   |true=>have g:Hid (zlv l=true):=ypa p.out q.out.symm;go_wp2_with fail;go_ret;exact⟨zpi g.out.symm,C8 e.out (L7 _ _)⟩
   |false=>
    go_wp2_with fail;go_roundw
    case rel=>
     refine⟨k+1,by omega,by go_num,C8 e.out (L7 _ _),fun j D F i=> ?_⟩;rcases z j k with h|h
     ·exact o.out j h F i
     ·obtain rfl:j=k:=og;rw[p.out] at i;cases i;exact q.out.symm
    case measure=>simp[intOf];omega
  ·obtain rfl:k=l.length:=og;have g:Hid (zlv l=false):=ypb o.out;clear a;go_wp2_with fail;go_ret;exact⟨zpi g.out.symm,e.out⟩
theorem yda {w:b} {l:List Rat} (h:IsV w (C5 w) v (C4 l)) (L:∀q∈l,Sz q 100000) (au:l.length<=1000):
 t r 99 #[v] w fun F w'=>(∃N,F= .returned N/\IsV w' (I7 w.heap.size w') N (C4 (l.map fun q=> -q)))/\Below w.heap.size w w':=by
 obtain⟨O,T⟩:=C7 h L;obtain⟨A,c,rfl,ar⟩:=J6 h;have el:(C4 l).length=l.length:=(by simp[C4]);rw[el] at*;clear h L el;go_in;go_wp2_with (at_make;refine zvp zlp rfl _ _ rfl IsR l.length rfl rfl rfl og (base:=w.heap.size) (S:=fun _=>False) (u _) (fun _ h=>False.elim h) ?_;intro aG aJ J H ae);go_loopw [3,11] (fun v s wr=>∃(k:Nat) (S:Nat->Prop),k<=l.length/\s= .int .i64 (k:Int)/\Below w.heap.size w wr/\OwnS 3 30 IsR wr w.heap.size S v (C4 ((l.take k).map fun q=> -q))/\Hid (∀a,S a->w.heap.size<=a)) (fun _ s _=>l.length-(intOf s).toNat);case atStart=>exact⟨0,fun _=>False,C _,rfl,H,by simpa[C4] using J,fun _ h=>False.elim h⟩
 case round=>
  obtain⟨k,S,aq,rfl,n,i,G⟩:=hrel;have m:=f n;clear H J ae;rcases z k l.length with ab|ao
  ·obtain⟨q,o,hr⟩:=zph ab;obtain⟨a,off,P,az,ah,aA,rfl,an,I,ai,aj,ak⟩:=zmt (IsV.stb.next O.out n) hr;obtain⟨Q,R,U⟩:=F0 (zpd I) o (T.out q (B o));have al:=N9;obtain⟨aC,K⟩:=nm (-q);obtain⟨E,e⟩:=C7 K i;clear I hr n o K i;go_wp2_with fail;refine(zrq (IsQ.stb.next Q.out (L7 _ _)) U.out E.out).mono ?_;rintro F j ⟨⟨aH,rfl,p⟩,d⟩;obtain⟨x,V⟩:=C7 (C8 (L7 _ _) d) p;have D:=f (C8 m.out x.out);have Z:w.heap.size<=j.heap.size:=D.out.size;obtain⟨aD,ag,ay,af,aB,rfl,_,_,_⟩:=F9 p;have ac:=OwnS.step IsR.stb (T:=fun a=>S a\/(wr.heap.size<=a/\a<j.heap.size)) e.out x.out (fun a h=> .inl h) (fun a h=>h);have aa:=IsQ.stb.to V.out (G4 (T:=fun a=>S a\/(wr.heap.size<=a/\a<j.heap.size)) fun a h=> .inr ⟨by have:=h.1;rw[y] at this;omega,h.2⟩);clear d p;go_wp2_with (at_builtin;refine zpn zlp rfl _ _ rfl IsR.stb rfl rfl rfl ac aa rfl (by intro aE M;simp[Value.cells] at M;rcases M with rfl|rfl|rfl<;>rfl) (by simp[C4];omega) Z ?_;intro aI aK ad Y av);go_roundw
   case rel=>
    refine⟨k+1,fun a=>S a\/(wr.heap.size<=a/\a<j.heap.size),by omega,by go_num,D.out.trans Y,?_,fun a d=> ?_⟩
    ·rw[zql R.out,List.map_append,C4,List.map_append];simp only[List.map_cons,List.map_nil];rw[<-E.out];exact ad
    ·rcases d with h|h
     ·exact G.out a h
     ·have:=m.out.size;omega
   case measure=>simp[intOf];omega
  ·obtain rfl:k=l.length:=og;have e:=f i;clear i;go_wp2_with fail;go_ret;refine⟨⟨_,rfl,?_⟩,m.out⟩;have g:=OwnS.isS IsR.stb (T:=I7 w.heap.size wr) e.out (fun a d=>⟨G.out a d,by obtain⟨_,_,_,_,X⟩:=e.out;exact(X a d).1⟩) (fun a g W=>⟨g,W⟩);rw[List.take_length] at g;exact g
theorem zwb {w:b} {m:List (List Rat)} (h:IsM w (C5 w) v (I0 m)) (an:m.length<=1000) (hr:∀row∈m,row.length=n) (aj:k<n) (ao:n<=1000):
 t r 98 #[v,.int .i64 (k:Int)] w fun O w'=>(∃I,O= .returned I/\IsV w' (C5 w') I (C4 (U1 m k)))/\Below w.heap.size w w':=by
 obtain⟨J,M⟩:=C7 h hr;obtain⟨A,c,rfl,al⟩:=zpw h;have el:(I0 m).length=m.length:=(by simp[I0]);rw[el] at*;clear h hr el;go_in;go_wp2_with (at_make;refine zvp zlp rfl _ _ rfl IsR m.length rfl rfl rfl og (base:=w.heap.size) (S:=C5 w) (u _) (fun _ h=>h) ?_;intro aA aC D s Y);go_loopw [5,13] (fun v p wr=>∃j:Nat,j<=m.length/\p= .int .i64 (j:Int)/\Below w.heap.size w wr/\OwnS 3 30 IsR wr w.heap.size (C5 w) v (C4 (U1 (m.take j) k))) (fun _ p _=>m.length-(intOf p).toNat);case atStart=>exact⟨0,C _,rfl,s,by simpa[C4,U1] using D⟩
 case round=>
  obtain⟨j,ai,rfl,a,d⟩:=hrel;have e:=f a;clear s D Y;rcases z j m.length with V|ah
  ·obtain⟨row,o,F⟩:=zsu V;obtain⟨i,off,P,ar,rfl,af,x,ab⟩:=zoa (IsM.stb.to J.out (zqg a fun i h=>h)) F;have X:row.length=n:=M.out row (B o);obtain⟨q,E,G⟩:=zph (l:=row) (j:=k) og;obtain⟨b2,ay,Z,au,aa,av,rfl,ag,y,d0,ad,ae⟩:=zmt x G;have Q:(C4 row).length=row.length:=(by simp[C4]);have ak:k<(C4 row).length:=og;obtain⟨K,N,L⟩:=F0 y o E;have ac:=N9;have g:=f d;have U:w.heap.size<=wr.heap.size:=a.size;clear x o F a E G y d Q X;go_wp2_with (at_builtin;refine zpn zlp rfl _ _ rfl IsR.stb rfl rfl rfl g.out K.out rfl (by intro az H;simp[Value.cells] at H;rcases H with rfl|rfl|rfl<;>rfl) (by simp[C4,U1];omega) U ?_;intro aB aD W T aq);go_roundw;(case rel=>refine⟨j+1,by omega,by go_num,e.out.trans T,?_⟩;rw[zql N.out,U1,List.map_append,C4,List.map_append];simp only[List.map_cons,List.map_nil];rw[List.getD_eq_getElem?_getD,L.out];exact W);case measure=>simp[intOf];omega
  ·obtain rfl:j=m.length:=og;have g:=f d;clear d;go_wp2_with fail;go_ret;refine⟨⟨_,rfl,?_⟩,e.out⟩;have l:=OwnS.isS IsR.stb (T:=C5 wr) g.out (fun i S=>Nat.lt_of_lt_of_le S e.out.size) (fun i l R=>R);rw[List.take_length] at l;exact l
section
variable {P : Program} {ops : Array Oper} {md : Region.Mode} {w : b} {m : Nat}
theorem ynr (a:FuncId):Fence.wide.fn a:=trivial
theorem zz1469:Fence.wide.round=none:=rfl
theorem zz1474 {d:Oper} {a:Act} {e:Act->Prop} (h:∀a,e a->g a w) (c:d.still P a w e):d.wpIn Fence.wide m P a w g Q':=by
 refine⟨fun j _=>ynr j,?_⟩;rw[zz1469,Oper.semAt_none];unfold Oper.still at c;generalize (execOp a.eval d).run P w=G at*;cases G with
 |ok n w'=>cases n<;>simp only[Oper.stillUpon] at c<;>simp only[Oper.uponIn];(case enter j args=>obtain⟨rfl,v,hc,A⟩:=c;exact⟨(fun k=>by cases k),callsIn_wide.2 (hc.mono fun H I ⟨o,F⟩=>by subst o;subst F;exact h _ A)⟩);all_goals(obtain⟨rfl,l⟩:=c;exact h _ l)
 |halt x w'=>simp only[Oper.stillUpon] at c
theorem zz1479 {f:Nat} {a:Act} {e:Act->Prop} (h:∀a,e a->g a w) (b:stOp P ops w f e a):wpOpIn Fence.wide m P ops Q' f g a w:=by
 unfold stOp at b;unfold wpOpIn;split
 ·rename_i c;simp only[c] at b;exact h _ b
 ·rename_i j c;simp only[c] at b;split
  ·rename_i d;simp only[d,if_true] at b;exact zz1474 h b
  ·rename_i d;simp only[d] at b;exact⟨fun i _=>ynr i,h _ b⟩
theorem ynt {g:Nat} {d:Array Bool->Act->Prop} (e:∀listed a,d listed a->wpAnyIn Fence.wide m P md ops Q' g listed a w):
 ∀(c:Nat) (listed:Array Bool) (a:Act),wpAnyL P md ops w n d c listed a->wpAnyIn Fence.wide m P md ops Q' (c+g) listed a w
 |0,listed,a,h=>by rw[Nat.zero_add];exact e _ _ h
 |c+1,listed,a,h=>by
  rw[show c+1+g=(c+g)+1 by omega]
  exact⟨fun l=>absurd l h.1,fun v o=>zz1479 (fun j k=>ynt e c _ j k) (h.2 v o).2⟩
theorem ynu:∀(l:List Oper) (k:Nat) (listed:Array Bool) (a:Act) (w:b),(∀j,l[j]? =ops[k+j]?)->
 Region.seqB md ops l.length k listed=true->wpListIn Fence.wide m P ops Q' l a w->wpAnyIn Fence.wide m P md ops Q' l.length listed a w
 |[],_,_,_,_,_,c,h=>⟨by simpa[Region.seqB] using c,h⟩
 |o::l,k,listed,a,w,n,c,h=>by
  have A:ops[k]? =some o:=by simpa using(n 0).symm
  simp only[List.length_cons,Region.seqB,Bool.and_eq_true,decide_eq_true_eq] at c
  refine⟨fun e=>(by rw[c.1] at e;cases e),fun d g=> ?_⟩
  rw[c.1] at g
  have F:d=k:=by simpa using g
  subst F
  have G:wpOpIn Fence.wide m P ops Q' d (wpListIn Fence.wide m P ops Q' l) a w:=by unfold wpOpIn;simp only[A];exact h
  exact wpOpIn_mono (fun v w' x=>ynu l (d+1) _ v w' (fun j=>by have:=n (j+1);simpa[Nat.add_assoc,Nat.add_comm 1 j] using this) c.2 x) G
theorem ynv {id:Nat} {c:Exit->Act->b->Prop} {a:Act} {w:b} {l:List Oper} (n:Nat) (t:P.follows .mixedOrders=true) (f:Region.lexTailB .any l.toArray n=true)
 (h:wpStill P l.toArray {w with drawn:=w.drawn+1} (fun e=>wpListIn Fence.wide m P l.toArray c (l.drop n) e {w with drawn:=w.drawn+1}) (l.take n) a):(Code.region id l.toArray true).wpIn Fence.wide m P c a w:=by
 simp only[Region.lexTailB,Bool.and_eq_true,decide_eq_true_eq] at f;obtain⟨⟨⟨⟨v,p⟩,u⟩,hc⟩,s⟩:=f;have z:n<l.length:=(by simpa using p);have d:(l.take n).length=n:=(by simp;omega);have i:(l.drop n).length=l.toArray.size-n:=by simp
 have y:HeadInv .any l.toArray n (Array.replicate l.toArray.size false):=
  ⟨by simp,fun j A _ o=>(by rw[getD_replicate_false] at o;cases o),fun B _ x=>getD_in (by simpa using x) (getD_replicate_false _ _)⟩
 have q:=wpAnyL_lex (md:= .any) (g:=l.toArray.size-n) v u hc p (l.take n) 0 _ a (fun j k=>by have r:j<n:=(by rw[d] at k;exact k);simp[r]) (by simpa using d) y (by rw[d];exact s) h;refine wpIn_region_any t ?_;have:=ynt (m:=m) (Q':=c) (g:=l.toArray.size-n) (fun listed e g=>by have:=ynu (m:=m) (md:= .any) (Q':=c) (l.drop n) n listed e {w with drawn:=w.drawn+1} (fun j=>by simp[List.getElem?_drop]) (by rw[i];exact g.1) g.2;rwa[i] at this) _ _ _ q;rw[d,show n+(l.toArray.size-n)=l.toArray.size by omega] at this;exact this
end
attribute [local go_sem] Oper.semAt_some
set_option linter.unusedVariables false
abbrev S3:=Option i×Nat×Nat
abbrev Q3:=Bool×S3×S3
def q3 (x:Q3):p:= .agg #[.bool x.1,.slice x.2.1.1 x.2.1.2.1 x.2.1.2.2,.slice x.2.2.1 x.2.2.2.1 x.2.2.2.2]
theorem zxk {B l:Nat} {d:TypeId} {b c:Obj} (h:Boxed W B d v) (a:W.heap[l]? =some b) (f:b.isCells=false):Boxed (W.putObj l c) B d v:=by refine h.kept (grownBy_putObj' W l c) (fun e=> ?_);obtain rfl:B=l:=(by simpa using e);rw[show W.heap[B]? =_ from h] at a;cases a;cases f
theorem zni {w w':b} {a c:Nat} (d:Below n w w') (e:a<n) (h:w.cell? ⟨a,c,none⟩=some v):w'.cell? ⟨a,c,none⟩=some v:=(d.cell (p:=⟨a,c,none⟩) e).trans h
def Els3 (w:b) (a:Nat) (A:Option i) (es:List Q3):Prop:=∀(j:Nat) (c:Q3),es[j]? =some c->∃d off,A=some ⟨d,off,none⟩/\d<a/\
 w.cell? ⟨d,off+j*3,none⟩=some (.bool c.1)/\w.cell? ⟨d,off+j*3+1,none⟩=some (.slice c.2.1.1 c.2.1.2.1 c.2.1.2.2)/\w.cell? ⟨d,off+j*3+2,none⟩=some (.slice c.2.2.1 c.2.2.2.1 c.2.2.2.2)
def Els1 (w:b) (a:Nat) (A:Option i) (es:List p):Prop:=∀(j:Nat) (d:p),es[j]? =some d->∃c off,A=some ⟨c,off,none⟩/\c<a/\w.cell? ⟨c,off+j,none⟩=some d
theorem Els3.below {w w':b} {A:Option i} {es:List Q3} (h:Els3 w a A es) (c:Below w.heap.size w w') (o:a<=w.heap.size):Els3 w' a A es:=fun j e n=>by
 obtain⟨d,off,f,g,k,l,m⟩:=h j e n
 exact⟨d,off,f,g,zni c og k,zni c og l,zni c og m⟩
theorem Els1.below {w w':b} {A:Option i} (h:Els1 w a A es) (k:Below w.heap.size w w') (m:a<=w.heap.size):Els1 w' a A es:=fun j d l=>by
 obtain⟨c,off,e,f,g⟩:=h j d l
 exact⟨c,off,e,f,zni k og g⟩
theorem ysy:(∀(j:Nat) (a:p),es[j]? =some a->∃x,a=q3 x)->∃l:List Q3,l.map q3=es:=by
 induction es with
 |nil=>exact fun _=>⟨[],rfl⟩
 |cons a es ih=>intro h;obtain⟨x,rfl⟩:=h 0 a rfl;obtain⟨l,rfl⟩:=ih fun j a c=>h (j+1) a c;exact⟨x::l,rfl⟩
theorem ycc {w:b} {A:Option i} (h:IsV w (C5 w) (.slice A n c) l):∃es,Els3 w w.heap.size A es/\es.length=l.length/\All2 (fun x J=>IsR w (C5 w) (q3 x) J) es l:=by have u:=h;obtain⟨K,M,es,hv,N,O,C,g,e⟩:=h;simp only[Value.slice.injEq] at hv;obtain⟨rfl,rfl,rfl⟩:=hv;have G:∀(j:Nat) (a:p),es[j]? =some a->∃x,a=q3 x:=fun j a m=>(by have r:j<l.length:=(by rw[<-e.1];exact(List.getElem?_eq_some_iff.1 m).1);obtain⟨P,k,L,d,rfl,_,_⟩:=e.2 j a _ m (s r);exact⟨(_,(_,_,_),(_,_,_)),rfl⟩);obtain⟨f,rfl⟩:=ysy G;have v:∀{j:Nat} {x:Q3},f[j]? =some x->(f.map q3)[j]? =some (q3 x):=fun t=>(by rw[q,t];rfl);refine⟨f,fun j a m=> ?_,by rw[<-e.1,D],by rw[<-e.1,D],fun j x y t I=>e.2 j _ _ (v t) I⟩;have o:=v m;have H:cellsOf (f.map q3)≠[]:=(by intro u;have z:=zte g;rw[u] at z;have r:=(List.getElem?_eq_some_iff.1 o).1;simp at z;simp at r;omega);obtain⟨B,off,E,F,hc⟩:=C H;exact⟨B,off,E,F,hc _ _ (znv g (i:=0) o rfl),hc _ _ (znv g (i:=1) o rfl),hc _ _ (znv g (i:=2) o rfl)⟩
theorem yuq {w:b} {A:Option i} {m:List (List Raw)} (h:IsM w (C5 w) (.slice A n c) m):∃es,Els1 w w.heap.size A es/\es.length=m.length/\All2 (IsV w (C5 w)) es m:=by have e:=h;obtain⟨v,x,es,hv,z,B,p,f,a⟩:=h;simp only[Value.slice.injEq] at hv;obtain⟨rfl,rfl,rfl⟩:=hv;refine⟨es,fun j o d=> ?_,a.1,a⟩;have t:j<m.length:=(by rw[<-a.1];exact(List.getElem?_eq_some_iff.1 d).1);have hr:=a.2 j o _ d (s t);obtain⟨P,k,y,rfl,_⟩:=hr;have u:cellsOf es≠[]:=(by intro e;have g:=zte f;rw[e] at g;have:=a.1;simp at g;omega);obtain⟨l,off,q,r,hc⟩:=p u;refine⟨l,off,q,r,?_⟩;have:=hc _ _ (znv f (i:=0) d rfl);rw[Nat.mul_one,Nat.add_zero] at this;exact this
def zox (a B:Nat) (va e:p) (W d:b):Prop:=
 Below a W d/\(Boxed W B 25 va->Boxed d B 25 va)/\(Boxed W (B+1) 25 e->Boxed d (B+1) 25 e)
theorem ych {B:Nat} {X:b} (h:zox a B va e X Y) (k:zox a B va e Y Z):zox a B va e X Z:=
 ⟨h.1.trans k.1,fun x=>k.2.1 (h.2.1 x),fun x=>k.2.2 (h.2.2 x)⟩
theorem yux {B:Nat} {w:b} (j:a<=w.heap.size) (W:b) (l:Nat) (c f:Obj) (i:w.heap.size<=l) (h:W.heap[l]? =some c) (d:c.isCells=false) (g:c.isWalk=false):zox a B va e W (W.putObj l f):=
 ⟨belowK_b j W l c f i h d g,fun x=>zxk x h d,fun x=>zxk x h d⟩
theorem yva {B:Nat} (W:b):zox a B va e W W:=⟨Below.refl _ _,id,id⟩
theorem yuy {B:Nat} {X:b} (h:zox a B va e X Y):zox a B va e X Y.drew:=⟨below_drewN h.1 1,h.2.1,h.2.2⟩
theorem yip {B:Nat} (h:Below W.heap.size W d) (b:a<=W.heap.size):zox a B va e W d:=
 ⟨h.mono b,fun x=>(h.block _ x.lt).trans x,fun x=>(h.block _ x.lt).trans x⟩
theorem zz1488 {Z:Type} (m o:Z->Q3) (z:List Z) (n:Nat) (aO:1<=n) (a B:Nat) (A g:Option i) (c j d:Nat) (V:z.length=d) (aK:d<=1000) (w:b) (aJ:B+1<w.heap.size)
 (N:Boxed w B 25 (.slice A d c)) (O:Boxed w (B+1) 25 (.slice g d j)) (P:Els3 w a A (z.map m)) (Q:Els3 w a g (z.map o)) (U:a<=w.heap.size):
 SeqStopsK Fence.wide n r 185 #[.pointer (some ⟨B,0,none⟩),.pointer (some ⟨B+1,0,none⟩)] (fun x=> #[q3 (m x),q3 (o x)]) (zox a B (.slice A d c) (.slice g d j)) (fun au=>au=z) (fun _=>True) d w:=fun l ae ay W p R _ T af=>by
 have G:Boxed W B 25 (.slice A d c):=(p.block B og).trans N
 have H:Boxed W (B+1) 25 (.slice g d j):=(p.block (B+1) og).trans O
 obtain⟨aa,ab⟩:=C7 (P.below p U) (Q.below p U)
 have aj:=G.cell
 have ak:=H.cell
 obtain⟨ac,ad,L,s⟩:=V7 R T (And.intro G H) V
 clear R T G H N O P Q V
 refine callsIn_of_wp Tryz.func185 rfl trivial ?_ rfl
 simp only[Tryz.ntmps185,List.size_toArray,List.length_cons,List.length_nil,Nat.reduceAdd,Nat.reduceSub,Array.replicate_succ,Array.replicate_zero,List.push_toArray,List.append_toArray,List.nil_append,List.cons_append]
 gi_wp2
 gi_loopw [10] (fun K wr=>∃k:Nat,k<=d/\K= .int .i64 k/\ae (z.take k) wr/\zox a B (.slice A d c) (.slice g d j) W wr) (fun K _=>d-(intOf K).toNat)
 case atStart=>exact⟨0,C _,rfl,af,yva _⟩
 case round=>
  obtain⟨k,aL,rfl,S,e⟩:=hrel
  clear aj ak
  by_cases ao:k<d
  ·obtain⟨x,h⟩:=znt (l:=z) (j:=k) (by rw[s.out];exact ao)
   obtain⟨aA,aP,rfl,I,t,v,y⟩:=aa.out k (m x) (by rw[q,h];rfl)
   obtain⟨b2,aQ,rfl,J,d0,D,F⟩:=ab.out k (o x) (by rw[q,h];rfl)
   have an:(z.take k).length<d:=by rw[List.length_take,s.out];omega
   obtain⟨fn,tmps,assign,body,ar,ai⟩:=ad.out _ x wr.drew (ac.out _ _ _ none S ⟨rfl,rfl,rfl,u _,fun _ _ _=>rfl⟩ (fun aR M=>by cases M)) an
   have aM:=(e.2.1 L.out.1).cell
   have aN:=(e.2.2 L.out.2).cell
   have aq:Hid (z.take (k+1)=z.take k++[x]):=zql h
   have av:=f h
   generalize m x=X at*
   generalize o x=Y at*
   obtain⟨X,⟨aS,aT,aU⟩,⟨aV,aW,aX⟩⟩:=X
   obtain⟨Y,⟨aY,aZ,a0⟩,⟨a1,a2,a3⟩⟩:=Y
   dsimp only[q3] at ar t v y d0 D F
   have aG:=zni e.1 I t
   have aH:=zni e.1 I v
   have aI:=zni e.1 I y
   have aC:=zni e.1 J d0
   have aD:=zni e.1 J D
   have aE:=zni e.1 J F
   have aB:=N9
   clear h t v y d0 D F
   gi_wp2
   refine ynv 9 kr kr ?_
   change wpStill _ _ wr.drew _ _ _
   simp only[List.take_succ_cons,List.take_zero,List.drop_succ_cons,List.drop_zero]
   still_step
   still_step
   still_step
   still_step
   still_step
   still_step
   still_step
   still_step
   still_step
   refine wpStill_nil ?_
   gi_wp2
   refine ai.mono ?_
   rintro M az (⟨rfl,ag,al⟩|⟨rfl,ah⟩)
   ·gi_wp2
    go_roundw
    case rel=>exact⟨k+1,by omega,by go_num,by rw[aq.out];exact ag,ych (yuy e) al⟩
    case measure=>simp[intOf];omega
   ·gi_wp2
    refine bodyPost_ret (results_none rfl _ _ _) rfl ?_
    exact⟨⟨_,rfl⟩,.inr ⟨_,trivial,ah⟩⟩
  ·obtain rfl:k=d:=og
   gi_wp2
   go_end0
   exact⟨⟨_,rfl⟩,.inl ⟨_,(E (by rw[s.out];omega)),S⟩⟩
theorem zz1487 (w:b) (A B:Option i) (a e c d:Nat):
 t r 161 #[.slice A a c,.slice B e d] w fun g w'=>g= .returned (.func (.func 185) #[] #[.pointer (some ⟨w.heap.size,0,none⟩),.pointer (some ⟨w.heap.size+1,0,none⟩)])/\
  Below w.heap.size w w'/\Boxed w' w.heap.size 25 (.slice A a c)/\Boxed w' (w.heap.size+1) 25 (.slice B e d)/\w'.heap.size=w.heap.size+2:=by go_in;go_wp2;go_ret;have f:=(Boxed.new w 25 (.slice A a c)).alloc (.cells #[.slice B e d] 25);have b2:=Boxed.new (w.alloc (.cells #[.slice A a c] 25)) 25 (.slice B e d);rw[y] at b2;exact⟨rfl,((Below.refl _ w).alloc (u _) _).alloc (by simp) _,f,b2,by simp only[y]⟩
def zqn (a B:Nat) (va e:p) (W d:b):Prop:=
 Below a W d/\(Boxed W B 23 va->Boxed d B 23 va)/\(Boxed W (B+1) 25 e->Boxed d (B+1) 25 e)
theorem yir {B:Nat} {X:b} (h:zqn a B va e X Y) (k:zqn a B va e Y Z):zqn a B va e X Z:=
 ⟨h.1.trans k.1,fun x=>k.2.1 (h.2.1 x),fun x=>k.2.2 (h.2.2 x)⟩
theorem yvb {B:Nat} {w:b} (j:a<=w.heap.size) (W:b) (l:Nat) (c f:Obj) (i:w.heap.size<=l) (h:W.heap[l]? =some c) (d:c.isCells=false) (g:c.isWalk=false):zqn a B va e W (W.putObj l f):=
 ⟨belowK_b j W l c f i h d g,fun x=>zxk x h d,fun x=>zxk x h d⟩
theorem yvd {B:Nat} (W:b):zqn a B va e W W:=⟨Below.refl _ _,id,id⟩
theorem yvc {B:Nat} {X:b} (h:zqn a B va e X Y):zqn a B va e X Y.drew:=⟨below_drewN h.1 1,h.2.1,h.2.2⟩
theorem yiq {B:Nat} (h:Below W.heap.size W d) (b:a<=W.heap.size):zqn a B va e W d:=
 ⟨h.mono b,fun x=>(h.block _ x.lt).trans x,fun x=>(h.block _ x.lt).trans x⟩
theorem zz1490 {I:Type} (m:I->p) (o:I->Q3) (z:List I) (n:Nat) (aK:1<=n) (a B:Nat) (A g:Option i) (c j d:Nat) (V:z.length=d) (aG:d<=1000) (w:b) (aE:B+1<w.heap.size)
 (M:Boxed w B 23 (.slice A d c)) (N:Boxed w (B+1) 25 (.slice g d j)) (O:Els1 w a A (z.map m)) (P:Els3 w a g (z.map o)) (T:a<=w.heap.size):
 SeqStopsK Fence.wide n r 186 #[.pointer (some ⟨B,0,none⟩),.pointer (some ⟨B+1,0,none⟩)] (fun x=> #[m x,q3 (o x)]) (zqn a B (.slice A d c) (.slice g d j)) (fun aq=>aq=z) (fun pre=>∃k,pre=z.take k) d w:=fun l ac au W s Q _ S ad=>by
 have D:Boxed W B 23 (.slice A d c):=(s.block B og).trans M
 have F:Boxed W (B+1) 25 (.slice g d j):=(s.block (B+1) og).trans N
 obtain⟨Y,Z⟩:=C7 (O.below s T) (P.below s T)
 have ai:=D.cell
 have aj:=F.cell
 obtain⟨aa,ab,J,t⟩:=V7 Q S (And.intro D F) V
 clear Q S D F M N O P V
 refine callsIn_of_wp Tryz.func186 rfl trivial ?_ rfl
 simp only[Tryz.ntmps186,List.size_toArray,List.length_cons,List.length_nil,Nat.reduceAdd,Nat.reduceSub,Array.replicate_succ,Array.replicate_zero,List.push_toArray,List.append_toArray,List.nil_append,List.cons_append]
 gi_wp2
 gi_loopw [10] (fun H wr=>∃k:Nat,k<=d/\H= .int .i64 k/\ac (z.take k) wr/\zqn a B (.slice A d c) (.slice g d j) W wr) (fun H _=>d-(intOf H).toNat)
 case atStart=>exact⟨0,C _,rfl,ad,yvd _⟩
 case round=>
  obtain⟨k,aH,rfl,R,e⟩:=hrel
  clear ai aj
  by_cases an:k<d
  ·obtain⟨x,h⟩:=znt (l:=z) (j:=k) (by rw[t.out];exact an)
   obtain⟨ay,aL,rfl,ah,K⟩:=Y.out k (m x) (by rw[q,h];rfl)
   obtain⟨b2,aM,rfl,G,d0,v,y⟩:=Z.out k (o x) (by rw[q,h];rfl)
   have al:(z.take k).length<d:=by rw[List.length_take,t.out];omega
   obtain⟨fn,tmps,assign,body,ao,ag⟩:=ab.out _ x wr.drew (aa.out _ _ _ none R ⟨rfl,rfl,rfl,u _,fun _ _ _=>rfl⟩ (fun aN L=>by cases L)) al
   have aI:=(e.2.1 J.out.1).cell
   have aJ:=(e.2.2 J.out.2).cell
   have U:Hid (z.take (k+1)=z.take k++[x]):=zql h
   have ar:=f h
   generalize m x=aO at*
   generalize o x=X at*
   obtain⟨X,⟨aP,aQ,aR⟩,⟨aS,aT,aU⟩⟩:=X
   dsimp only[q3] at ao d0 v y
   have aD:=zni e.1 ah K
   have aA:=zni e.1 G d0
   have aB:=zni e.1 G v
   have aC:=zni e.1 G y
   have az:=N9
   clear h K d0 v y
   gi_wp2
   refine ynv 9 kr kr ?_
   change wpStill _ _ wr.drew _ _ _
   simp only[List.take_succ_cons,List.take_zero,List.drop_succ_cons,List.drop_zero]
   still_step
   still_step
   still_step
   still_step
   still_step
   still_step
   still_step
   still_step
   still_step
   refine wpStill_nil ?_
   gi_wp2
   refine ag.mono ?_
   rintro L av (⟨rfl,ae,ak⟩|⟨rfl,af⟩)
   ·gi_wp2
    go_roundw
    case rel=>exact⟨k+1,by omega,by go_num,by rw[U.out];exact ae,yir (yvc e) ak⟩
    case measure=>simp[intOf];omega
   ·gi_wp2
    refine bodyPost_ret (results_none rfl _ _ _) rfl ?_
    exact⟨⟨_,rfl⟩,.inr ⟨_,⟨k+1,U.out.symm⟩,af⟩⟩
  ·obtain rfl:k=d:=og
   gi_wp2
   go_end0
   exact⟨⟨_,rfl⟩,.inl ⟨_,(E (by rw[t.out];omega)),R⟩⟩
theorem zz1489 (w:b) (A B:Option i) (a e c d:Nat):
 t r 162 #[.slice A a c,.slice B e d] w fun g w'=>g= .returned (.func (.func 186) #[] #[.pointer (some ⟨w.heap.size,0,none⟩),.pointer (some ⟨w.heap.size+1,0,none⟩)])/\
  Below w.heap.size w w'/\Boxed w' w.heap.size 23 (.slice A a c)/\Boxed w' (w.heap.size+1) 25 (.slice B e d)/\w'.heap.size=w.heap.size+2:=by go_in;go_wp2;go_ret;have f:=(Boxed.new w 23 (.slice A a c)).alloc (.cells #[.slice B e d] 25);have b2:=Boxed.new (w.alloc (.cells #[.slice A a c] 23)) 25 (.slice B e d);rw[y] at b2;exact⟨rfl,((Below.refl _ w).alloc (u _) _).alloc (by simp) _,f,b2,by simp only[y]⟩
theorem yaj (w:b) (neg:Bool) (n d:Int) (q:Rat) (a:Bru w) (g:1<=n) (e:1<=d) (f:n<=18446744073709551615) (hd:d<=18446744073709551615) (c:q=mkRat (sg neg n.toNat) d.toNat):
 t r 174 #[.bool neg,.int .u64 n,.int .u64 d] w (K8 w q):=by obtain⟨m,rfl⟩:=Int.eq_ofNat_of_zero_le (by omega:0<=n);obtain⟨k,rfl⟩:=Int.eq_ofNat_of_zero_le (by omega:0<=d);rw[c];exact yns w neg m k a og og og og
theorem zwq {x y:Int} (a:1<=x) (b:x<=999999999) (c:1<=y) (d:y<=999999999):1<=x*y/\x*y<=999999998000000001:=by refine⟨?_,(zqu og b og d).2⟩;have:=Int.mul_le_mul a c og og;omega
theorem yzh {w:b} {c g l:Rat} (ha:IsQ w (C5 w) va c) (q:IsQ w (C5 w) e g) (au:Bru w) (aO:zoh c g) (hc:l=c+g):t r 176 #[va,e] w (K8 w l):=by
 have ag:=f ha;obtain⟨j,a1,aH,a3,aJ,rfl,an,ak,ai⟩:=F9 ha;have ah:=f q;obtain⟨k,a2,aI,a4,aK,rfl,ao,al,aj⟩:=F9 q;obtain⟨m,J,K,L⟩:=aO;obtain⟨aD,aR,rfl,u1,aM,D⟩:=zsp ak.out m;obtain⟨b2,aS,rfl,u2,aq,aA⟩:=zsp ai.out J;obtain⟨aE,aT,rfl,u3,aN,aV⟩:=zsp al.out K;obtain⟨aG,aU,rfl,u4,ar,aB⟩:=zsp aj.out L;have aP:= @yks c g j k;have E:Hid (∀(neg:Bool) (n:Nat),sg neg n=sg j (c.num.natAbs*g.den)+sg k (g.num.natAbs*c.den)->mkRat (sg neg n) (c.den*g.den)=l):=fun neg n h=>(by rw[hc];exact yks an.out ao.out h);have a5:=f hc;rw[m] at ag;rw[J] at ag;rw[K] at ah;rw[L] at ah;rw[m,J,K,L];clear ha q aP hc ak ai al aj an ao m J K L;obtain⟨aW,aQ,s,ra,az,ay,aC⟩:=znc w #[.bool j,.slice (some ⟨aD,aR,none⟩) 1 aH,.slice (some ⟨b2,aS,none⟩) 1 aJ] #[.bool k,.slice (some ⟨aE,aT,none⟩) 1 aI,.slice (some ⟨aG,aU,none⟩) 1 aK] #[.bool false,.slice none 0 0,.slice none 0 0] 30 30 30;have N:=A9 s u1;have bw:=A9 s u2;have bx:=A9 s u3;have bA:=A9 s u4;clear u1 u2 u3 u4;obtain⟨z,A,i,H⟩:=V7 (ra) (az) (ay) (s);have M:Hid (w.heap.size+3<=aW.heap.size):=f (Nat.le_of_eq aC.out.symm);have O:=f (Bru.next au s);clear ra az ay s au;obtain⟨a7,a8,a9⟩:=C0 z.out;obtain⟨bd,be,bf⟩:=C0 A.out;obtain⟨bg,bh,bi⟩:=C0 i.out;obtain⟨bq,br,bt⟩:=E9 i.out;obtain⟨x,B⟩:=nm ((c.num.natAbs:Int)*(g.den:Int):Int);obtain⟨y,C⟩:=nm ((g.num.natAbs:Int)*(c.den:Int):Int);obtain⟨d,hd⟩:=nm ((c.den:Int)*(g.den:Int):Int);obtain⟨aX,aY⟩:=zwq aM D ar aB;obtain⟨aZ,a0⟩:=zwq aN aV aq aA;obtain⟨d0,aL⟩:=zwq aq aA ar aB;rw[<-B] at aX aY;rw[<-C] at aZ a0;rw[<-hd] at d0 aL;have F:Hid (x.toNat=c.num.natAbs*g.den):=(by rw[B];exact Int.toNat_natCast _);have G:Hid (y.toNat=g.num.natAbs*c.den):=(by rw[C];exact Int.toNat_natCast _);have P:Hid (d.toNat=c.den*g.den):=(by rw[hd];exact Int.toNat_natCast _);have bj:IntKind.u64.wrap (c.num.natAbs:Int)=(c.num.natAbs:Int):=IntWalk.u64_in _ og;have bm:IntKind.u64.wrap (c.den:Int)=(c.den:Int):=IntWalk.u64_in _ og;have bn:IntKind.u64.wrap (g.num.natAbs:Int)=(g.num.natAbs:Int):=IntWalk.u64_in _ og;have bp:IntKind.u64.wrap (g.den:Int)=(g.den:Int):=IntWalk.u64_in _ og;have I:IntKind.u64.wrap ((c.num.natAbs:Int)*(g.den:Int))=x:=(by rw[B];exact IntWalk.u64_in _ (by rw[<-B];omega));have bu:IntKind.u64.wrap ((g.num.natAbs:Int)*(c.den:Int))=y:=(by rw[C];exact IntWalk.u64_in _ (by rw[<-C];omega));have bv:IntKind.u64.wrap ((c.den:Int)*(g.den:Int))=d:=(by rw[hd];exact IntWalk.u64_in _ (by rw[<-hd];omega));clear B C hd;go_in;go_wp2_with fail;clear aQ;rcases(by cases j<;>cases k<;>simp:(j==k)=true\/(j==k)=false) with af|af
 ·have v:Hid (k=j):=(by unfold Hid;cases j<;>cases k<;>simp at af⊢);have o:Hid (l=mkRat (sg j (x+y).toNat) d.toNat):=(by rw[Hid,P.out];refine(E.out _ _ ?_).symm;rw[v.out,<-ylw,<-F.out,<-G.out];congr 1;omega);go_quiet (fail);go_wp2_with fail;go_quiet (fail);go_wp2_with fail;refine(yaj _ j (x+y) d l (Bru.drewN O.out _) og og og og o.out).mono ?_;rintro ab a ⟨⟨N,rfl,hv⟩,q⟩;have p:=f (IsQ.stb.le hv M.out);obtain⟨D,R,I,Q,m,rfl,_,_,_⟩:=F9 hv;obtain⟨S,T,U⟩:=C0 (uR a z);obtain⟨V,W,X⟩:=C0 (uR a A);obtain⟨Y,Z,aa⟩:=C0 (uR a i);obtain⟨ac,ad,ae⟩:=E9 (uR a i);go_wp2_with fail;refine U5 Tryz.results176 rfl rfl (Row.put3 (uR a i) _ _ _) (zmw p.out (uB a H) og og)
 ·have v:Hid (k= !j):=(by unfold Hid;cases j<;>cases k<;>simp at af⊢);rcases Int.lt_trichotomy x y with u|u|u
  ·have o:Hid (l=mkRat (sg k (y-x).toNat) d.toNat):=(by rw[Hid,P.out];refine(E.out _ _ ?_).symm;rw[v.out,<-F.out,<-G.out,show(y-x).toNat=y.toNat-x.toNat from by omega,sg_sub' og];simp);have av:(x==y)=false:=beq_eq_false_iff_ne.2 og;go_quiet (fail);go_wp2_with fail;go_quiet (fail);go_wp2_with fail;refine(yaj _ k (y-x) d l (Bru.drewN O.out _) og og og og o.out).mono ?_;rintro ab a ⟨⟨N,rfl,hv⟩,q⟩;have p:=f (IsQ.stb.le hv M.out);obtain⟨D,R,I,Q,m,rfl,_,_,_⟩:=F9 hv;obtain⟨S,T,U⟩:=C0 (uR a z);obtain⟨V,W,X⟩:=C0 (uR a A);obtain⟨Y,Z,aa⟩:=C0 (uR a i);obtain⟨ac,ad,ae⟩:=E9 (uR a i);go_wp2_with fail;refine U5 Tryz.results176 rfl rfl (Row.put3 (uR a i) _ _ _) (zmw p.out (uB a H) og og)
  ·have o:Hid (l=0):=(by rw[Hid,<-E.out true 0 (by rw[v.out,<-F.out,<-G.out,u,ylz];simp[sg];omega)];simp[sg]);have av:(x==y)=true:=beq_iff_eq.2 u;have a6:=f u;clear u;go_quiet (fail);go_wp2_with fail;go_quiet (fail);go_wp2_with fail;refine(zrb _).mono ?_;rintro ab a ⟨⟨N,rfl,hv⟩,q⟩;have p:=f (IsQ.stb.le hv M.out);obtain⟨D,R,I,Q,m,rfl,_,_,_⟩:=F9 hv;obtain⟨S,T,U⟩:=C0 (uR a z);obtain⟨V,W,X⟩:=C0 (uR a A);obtain⟨Y,Z,aa⟩:=C0 (uR a i);obtain⟨ac,ad,ae⟩:=E9 (uR a i);go_wp2_with fail;rw[o.out];refine U5 Tryz.results176 rfl rfl (Row.put3 (uR a i) _ _ _) (zmw p.out (uB a H) og og)
  ·have o:Hid (l=mkRat (sg j (x-y).toNat) d.toNat):=(by rw[Hid,P.out];refine(E.out _ _ ?_).symm;rw[v.out,<-F.out,<-G.out,show(x-y).toNat=x.toNat-y.toNat from by omega,yma og]);have av:(x==y)=false:=beq_eq_false_iff_ne.2 og;go_quiet (fail);go_wp2_with fail;go_quiet (fail);go_wp2_with fail;refine(yaj _ j (x-y) d l (Bru.drewN O.out _) og og og og o.out).mono ?_;rintro ab a ⟨⟨N,rfl,hv⟩,q⟩;have p:=f (IsQ.stb.le hv M.out);obtain⟨D,R,I,Q,m,rfl,_,_,_⟩:=F9 hv;obtain⟨S,T,U⟩:=C0 (uR a z);obtain⟨V,W,X⟩:=C0 (uR a A);obtain⟨Y,Z,aa⟩:=C0 (uR a i);obtain⟨ac,ad,ae⟩:=E9 (uR a i);go_wp2_with fail;refine U5 Tryz.results176 rfl rfl (Row.put3 (uR a i) _ _ _) (zmw p.out (uB a H) og og)
end Go.Proofs.YtlhhbccgfkhflaaGreatDoor
