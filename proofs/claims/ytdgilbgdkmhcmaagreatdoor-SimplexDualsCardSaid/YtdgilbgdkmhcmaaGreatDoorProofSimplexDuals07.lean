/-
 The contract of package simplex's (*table).number.
-/
import Derived.Test.YtdgilbgdkmhcmaaGreatDoorProofSimplexDuals06
namespace Go.Proofs.YtdgilbgdkmhcmaaGreatDoor
open Go.RowKit
set_option linter.unusedVariables false
set_option maxRecDepth 100000
set_option maxHeartbeats 8000000
open _root_.Nat renaming le_refl → l, le_trans → y
open _root_.List renaming getD_eq_getElem?_getD → d, getElem?_eq_getElem → z, mem_of_getElem? → w, getElem?_map → B
open _root_.And renaming intro → s
variable {N o : Nat → Nat} {T : Dic} {V al : Rat} {f g : Nat → Rat} {i j k r u : Nat} {p : Nat → Prop}
def G9 (z:Int) (u d v:Nat):Rat:=((z:Rat)*((u:Nat):Rat))/(((d:Nat):Rat)*((v:Nat):Rat))
theorem yhr {z:Int} {d v:Nat}:G9 z u d v=mkRat (sg (decide (z<0)) (z.natAbs*u)) (d*v):=by
 have a:sg (decide (z<0)) (z.natAbs*u)=z*(u:Int):=by
  rcases Int.lt_or_le z 0 with h|h
  ·rw[decide_eq_true h];unfold sg;have:((z.natAbs:Nat):Int)= -z:=og;simp only[if_true,Int.natCast_mul,this];rw[Int.neg_mul,Int.neg_neg]
  ·rw[decide_eq_false og];unfold sg;have:((z.natAbs:Nat):Int)=z:=og;simp[this]
 rw[a,Rat.mkRat_eq_div,Rat.intCast_mul];unfold G9;congr 1;exact(Rat.natCast_mul d v).symm
theorem zrv {w:World} {g d dn:Nat} {z:Int} {vx ak aj:Value} {D:Option Addr} {U:Nat} (hg:w.cell? ⟨g,8,none⟩=some (.slice D (A9 d).length U)) (hD:NumS w (C2 w) (.slice D (A9 d).length U) d) (H:IsQ w (C2 w) vx ((z:Int):Rat)) (F:NumS w (C2 w) ak u) (hv:NumS w (C2 w) aj dn) (aa:Bru w)
 (W:(A9 z.natAbs).length<=100000) (X:(A9 u).length<=100000) (Y:(A9 d).length<=100000) (Z:(A9 dn).length<=100000) (v:0<d) (x:0<dn):
 Calls Tryz.prog 135 #[.pointer (some ⟨g,0,none⟩),vx,ak,aj] w (Y0 w (G9 z u d dn)):=by
 obtain⟨N,aG,P,Q,aD,i⟩:=hd6 hD H F hv aa (s W (s X (s Y (s Z (s v x)))));obtain⟨aI,k,aJ,aT,rfl⟩:=zkh H;obtain⟨A,a4,rfl,aQ⟩:=zrr (I7 F);obtain⟨C,a5,rfl,aR⟩:=zrr (I7 hv);have o:=Lib.hid (znd aG.out);rw[Rat.num_intCast] at o;obtain⟨n,j⟩:=nm (decide (z<0));obtain⟨aX,I⟩:=nm ((A9 z.natAbs).length);obtain⟨aY,ah⟩:=nm ((A9 1).length);obtain⟨u1,G⟩:=nm ((A9 u).length);obtain⟨a7,ad⟩:=nm ((A9 d).length);obtain⟨bg,B⟩:=nm ((A9 dn).length);rw[<-j,<-I,<-ah,<-G,<-B];rw[<-I] at o;rw[<-G] at P;rw[<-ad] at N hg;rw[<-B] at Q;have aZ:=Lib.hid j;obtain⟨q,E⟩:=nm (G9 z u d dn);rw[<-E];have O:Hid (q=mkRat (sg n (z.natAbs*u)) (d*dn)):=(by rw[Hid,E,j];exact yhr);have e:Hid ((A9 (z.natAbs*u)).length<=1000000/\(A9 (d*dn)).length<=1000000/\d*dn≠0):=(by refine⟨y (zxd _ _) og,y (zxd _ _) og,?_⟩;have:=Nat.mul_pos v x;omega);clear hD H F hv aa W X Y Z v x j I ah G ad B aQ aR E;have a6:=R4;obtain⟨c,aS,b,ai,m,R⟩:=zko w #[.bool n,.slice aI aX k,.slice aJ aY aT] #[.bool false,.slice none 0 0,.slice none 0 0] 37 37;obtain⟨B0,aK⟩:=C4 b m;have aH:=Lib.hid R.out;obtain⟨aL,aM,b2⟩:=C5 ai;obtain⟨aq,ar,au⟩:=C5 m;obtain⟨al,an,ao⟩:=H5 m;have aN:=B9 b hg;obtain⟨aC,aA,az,aB⟩:=X6 (IsK.stb.next o.out b) (IsK.stb.next P.out b) (IsK.stb.next N.out b) (IsK.stb.next Q.out b);have M:=nU aD b;obtain⟨f,t⟩:=C4 (s aq (s ar au)) (s al (s an ao));have aP:Hid (g<w.heap.size):=World.block_lt_of_cell? w _ hg;clear b ai m R hg aq ar au al an ao;go_in;go_wp2_with fail;clear aS;have p:=zmp aL aM aN;have av:=Lib.hid fun r (h:Below c.heap.size c r)=>zqm (I7 (IsK.stb.next aC.out h)) (I7 (IsK.stb.next aA.out h)) (l _) (l _) (y i.out.1 og) (y i.out.2.1 og);have ay:=Lib.hid fun r (h:Below c.heap.size c r)=>zqm (I7 (IsK.stb.next az.out h)) (I7 (IsK.stb.next aB.out h)) (l _) (l _) (y i.out.2.2.1 og) (y i.out.2.2.2.1 og);have J:w.heap.size≠(w.heap.size+1):=og;have aE:=hp3 p (nA J (nA J (nZ (oh aP))));clear J
 go_region_held3 (SH.mk _ p).s
  (first|exact p.out _ bel|exact aE.out _ bel _ _ _)
  (first
    |(go_at_call 168;(with_reducible refine Calls.mono (av.out _ bel) ?_);rintro V aU ⟨⟨br,rfl,ae⟩,ac⟩;have K:=bW c aU;have S:=Lib.hid (zrq ae);obtain⟨a1,a9,rfl,_,_,_⟩:=id ae)
    |(go_at_call 168;(with_reducible refine Calls.mono (ay.out _ bel) ?_);rintro V aV ⟨⟨bt,rfl,af⟩,aO⟩;have L:=bW c aV;have T:=Lib.hid (zrq af);obtain⟨a2,bd,rfl,_,_,_⟩:=id af)
    |(go_at_call 178;(first|(with_reducible refine Calls.mono (yis (q:=q) n (I7 (IsK.stb.next S.out aO)) (I7 T.out) (Bru.next M.out L.out) e.out.1 e.out.2.1 e.out.2.2 O.out) ?_)|(with_reducible refine Calls.mono (yis (q:=q) n (I7 S.out) (I7 (IsK.stb.next T.out ac)) (Bru.next M.out K.out) e.out.1 e.out.2.1 e.out.2.2 O.out) ?_));rintro V aW ⟨⟨bu,rfl,ag⟩,a8⟩;have a:=bW c aW;obtain⟨bj,a3,be,a0,bf,rfl,_,_,_⟩:=K6 ag;have bm:=B9 a.out f.out.1;have bp:=B9 a.out f.out.2.1;have bq:=B9 a.out f.out.2.2;have s0:=H8 a.out f.out.1 t.out.1;have bh:=H8 a.out f.out.2.1 t.out.2.1;have bi:=H8 a.out f.out.2.2 t.out.2.2))
 all_goals
  go_wp2_with fail
  refine Y6 Tryz.results135 rfl rfl (Row.put3 (aK.out.next a.out) _ _ _) (zvd (lo:=c.heap.size) (IsQ.stb.le ag (by first|exact(by have:=L.out.size;have:=ac.size;simp at*;omega)|exact(by have:=K.out.size;simp at*;omega))) (C9 B0.out a.out) og (oh aH))
theorem ywg {D:Nat->Nat->Rat} {c:Nat} (k:D r c≠0):J7 (J7 D r c) r c=D:=by
 have l:=Rat.mul_inv_cancel _ k;have e:J7 D r c r c=(D r c)⁻¹:=(by unfold J7;rw[if_pos rfl,if_pos rfl]);have h:((D r c)⁻¹)⁻¹=D r c:=zsu (by rw[Rat.mul_comm];exact l);funext i j;show(if i=r then(if j=c then(J7 D r c r c)⁻¹ else(J7 D r c r c)⁻¹*J7 D r c r j) else if j=c then -((J7 D r c r c)⁻¹*J7 D r c i c) else J7 D r c i j-(J7 D r c r c)⁻¹*J7 D r c i c*J7 D r c r j)=D i j;rw[e,h];by_cases b:i=r
 ·subst b;rw[if_pos rfl];by_cases a:j=c
  ·subst a;rw[if_pos rfl]
  ·have:J7 D i c i j=(D i c)⁻¹*D i j:=(by unfold J7;rw[if_pos rfl,if_neg a]);rw[if_neg a,this];grind
 ·rw[if_neg b];have d:J7 D r c i c= -((D r c)⁻¹*D i c):=(by unfold J7;rw[if_neg b,if_pos rfl]);by_cases a:j=c
  ·subst a;rw[if_pos rfl,d];grind
  ·have f:J7 D r c r j=(D r c)⁻¹*D r j:=(by unfold J7;rw[if_pos rfl,if_neg a]);have g:J7 D r c i j=D i j-(D r c)⁻¹*D i c*D r j:=(by unfold J7;rw[if_neg b,if_neg a]);rw[if_neg a,d,f,g];grind
theorem yjq (f:Nat->Nat) (i v:Nat):N6 (N6 f i v) i (f i)=f:=by
 funext k;by_cases h:k=i
 ·subst h;rw[znh]
 ·rw[zni _ _ h,zni _ _ h]
theorem ywm {S:Dic} {c:Nat} (a:S.D r c≠0):zkc (zkc S r c) r c=S:=by obtain⟨b,o,D⟩:=S;show(⟨N6 (N6 b r (o c)) r (N6 o c (b r) c),N6 (N6 o c (b r)) c (N6 b r (o c) r),J7 (J7 D r c) r c⟩:Dic)=⟨b,o,D⟩;rw[znh,znh,yjq,yjq,ywg a]
theorem Fit1.back {m n c:Nat} {S:Dic} {x:Nat->Rat} {z t:Rat} (h:Fit1 m n (zkc S r c) x z t) (hr:r<m) (hc:c<n) (a:S.D r c≠0):Fit1 m n S x z t:=by (have b:(zkc S r c).D r c=(S.D r c)⁻¹:=by show J7 S.D r c r c=_;unfold J7;rw[if_pos rfl,if_pos rfl]);have:=h.piv hr hc (by rw[b];exact yae a);rwa[ywm a] at this
def Eqv (m n:Nat) (S T:Dic):Prop:=∀x z s,Fit1 m n S x z s↔Fit1 m n T x z s
theorem Eqv.refl (m n:Nat) (S:Dic):Eqv m n S S:=fun _ _ _=>Iff.rfl
theorem Eqv.piv {m n c:Nat} {S:Dic} (h:Eqv m n S T) (hr:r<m) (hc:c<n) (a:T.D r c≠0):Eqv m n S (zkc T r c):=fun x z s=>⟨fun k=>((h x z s).1 k).piv hr hc a,fun k=>(h x z s).2 (k.back hr hc a)⟩
def O9 (m n:Nat) (a:Nat->Nat->Rat) (b c:Nat->Rat):Dic:=⟨fun i=>n+i,fun j=>j,fun i j=>if i<m then(if j<n then a i j else b i) else if j<n then -(c j) else 0⟩
theorem yzv (n m:Nat) (f:Nat->Rat):C3 (n+m) f=C3 n f+C3 m fun i=>f (n+i):=by
 induction m with
 |zero=>simp only[C3,Nat.add_zero];grind
 |succ m ih=>rw[<-Nat.add_assoc,C3,ih,C3];grind
section
variable {m n : Nat} {a : Nat → Nat → Rat} {b c : Nat → Rat}
theorem yfh (X:Nat->Rat) (s:Rat):Fit1 m n (O9 m n a b c) (fun v=>if v<n then X v else b (v-n)*s-C3 n fun j=>a (v-n) j*X j) (C3 n fun j=>c j*X j) s where
 row i hi:=by
  show(if n+i<n then X (n+i) else b (n+i-n)*s-C3 n fun j=>a (n+i-n) j*X j)+C3 n (fun j=>(if i<m then(if j<n then a i j else b i) else if j<n then -(c j) else 0)*(if j<n then X j else _))=(if i<m then(if n<n then a i n else b i) else _)*s
  rw[if_neg og,if_pos hi,if_neg og,Nat.add_sub_cancel_left]
  have e:C3 n (fun j=>(if i<m then(if j<n then a i j else b i) else if j<n then -(c j) else 0)*(if j<n then X j else b (j-n)*s-C3 n fun k=>a (j-n) k*X k))=C3 n fun j=>a i j*X j:=N0 fun j d=>by rw[if_pos hi,if_pos d,if_pos d]
  have f:=Eq.trans (show C3 n (fun j=>(if i<m then(if j<n then a i j else b i) else if j<n then -(c j) else 0)*(if j<n then X j else b ((O9 m n a b c).oth j-n)*s-C3 n fun k=>a ((O9 m n a b c).oth j-n) k*X k))=_ from rfl) e
  rw[f];grind
 obj:=by show(C3 n fun j=>c j*X j)+C3 n (fun j=>(if m<m then(if j<n then a m j else b m) else if j<n then -(c j) else 0)*(if j<n then X j else _))=(if m<m then(if n<n then a m n else b m) else if n<n then -(c n) else 0)*s;rw[if_neg og,if_neg og];have e:C3 n (fun j=>(if m<m then(if j<n then a m j else b m) else if j<n then -(c j) else 0)*(if j<n then X j else b (j-n)*s-C3 n fun k=>a (j-n) k*X k))=(-1)*C3 n fun j=>c j*X j:=(by rw[<-znk];exact N0 fun j d=>by rw[if_neg og,if_pos d,if_pos d];grind);have f:=Eq.trans (show C3 n (fun j=>(if m<m then(if j<n then a m j else b m) else if j<n then -(c j) else 0)*(if j<n then X j else b ((O9 m n a b c).oth j-n)*s-C3 n fun k=>a ((O9 m n a b c).oth j-n) k*X k))=_ from rfl) e;rw[f];grind
theorem ysm {y:Nat->Rat} (h:∀x z s,Fit1 m n (O9 m n a b c) x z s->al*z+C3 (n+m) (fun v=>y v*x v)=V*s):
 (C3 m fun i=>b i*y (n+i))=V/\∀k,k<n->al*c k+y k=C3 m fun i=>a i k*y (n+i):=by
 have sp:∀x:Nat->Rat,(C3 (n+m) fun v=>y v*x v)=(C3 n fun v=>y v*x v)+C3 m fun i=>y (n+i)*x (n+i):=fun x=>yzv n m _;constructor
 ·have d:=h _ _ _ (yfh (fun _=>0) 1);rw[sp] at d;have e:(C3 n fun v=>y v*(if v<n then(0:Rat) else b (v-n)*1-C3 n fun j=>a (v-n) j*0))=0:=zkl fun v hv=>(by rw[if_pos hv];grind);have g:(C3 m fun i=>y (n+i)*(if n+i<n then(0:Rat) else b (n+i-n)*1-C3 n fun j=>a (n+i-n) j*0))=C3 m fun i=>b i*y (n+i):=N0 fun i o=>(by rw[if_neg og,Nat.add_sub_cancel_left,zkl fun j _=>by grind];grind);have l:(C3 n fun j=>c j*0)=0:=zkl fun j _=>(by grind);rw[e,g,l] at d;grind
 ·intro k q;have d:=h _ _ _ (yfh (fun v=>if v=k then 1 else 0) 0);rw[sp] at d;have one:∀f:Nat->Rat,(C3 n fun j=>f j*(if j=k then(1:Rat) else 0))=f k:=fun f=>(by rw[zlz q fun j _ p=>by rw[if_neg p];grind,if_pos rfl];grind);have e:(C3 n fun v=>y v*(if v<n then(if v=k then(1:Rat) else 0) else b (v-n)*0-C3 n fun j=>a (v-n) j*(if j=k then 1 else 0)))=y k:=(by rw[<-one y];exact N0 fun v hv=>by rw[if_pos hv]);have g:(C3 m fun i=>y (n+i)*(if n+i<n then(if n+i=k then(1:Rat) else 0) else b (n+i-n)*0-C3 n fun j=>a (n+i-n) j*(if j=k then 1 else 0)))=(-1)*C3 m fun i=>a i k*y (n+i):=(by rw[<-znk];exact N0 fun i o=>by rw[if_neg og,Nat.add_sub_cancel_left,one (a i)];grind);rw[e,g,one c] at d;grind
theorem yia {x:Nat->Rat} {z s:Rat} (h:Fit1 m n (O9 m n a b c) x z s):(∀i,i<m->x (n+i)+C3 n (fun j=>a i j*x j)=b i*s)/\z=C3 n fun j=>c j*x j:=by
 constructor
 ·intro i f;have:=h.row i f;(have d:(C3 n fun j=>(O9 m n a b c).D i j*x ((O9 m n a b c).oth j))=C3 n fun j=>a i j*x j:=N0 fun j g=>by show(if i<m then(if j<n then a i j else b i) else _)*x j=_;rw[if_pos f,if_pos g]);(have e:(O9 m n a b c).D i n=b i:=by show(if i<m then(if n<n then a i n else b i) else _)=_;rw[if_pos f,if_neg og]);rw[d,e] at this;exact this
 ·have:=h.obj;(have d:(C3 n fun j=>(O9 m n a b c).D m j*x ((O9 m n a b c).oth j))=(-1)*C3 n fun j=>c j*x j:=by rw[<-znk];exact N0 fun j g=>by show(if m<m then(if j<n then a m j else b m) else if j<n then -(c j) else 0)*x j=_;rw[if_neg og,if_pos g];grind);(have e:(O9 m n a b c).D m n=0:=by show(if m<m then(if n<n then a m n else b m) else if n<n then -(c n) else 0)=_;rw[if_neg og,if_neg og]);rw[d,e] at this;grind
end
def W0 (n:Nat) (o:Nat->Nat) (f:Nat->Rat) (v:Nat):Rat:=C3 n fun j=>if o j=v then f j else 0
theorem yli {n:Nat} (h:∀j,j<n->0<=f j) (v:Nat):0<=W0 n o f v:=by
 have:∀k,k<=n->0<=C3 k fun j=>if o j=v then f j else 0:=fun k=>by
  induction k with
  |zero=>intro _;exact Rat.le_refl
  |succ k ih=>
   intro c;have a:=ih og
   have b:0<=if o k=v then f k else 0:=by
    split
    ·exact h k og
    ·exact Rat.le_refl
   rw[C3];grind
 exact this n (l _)
theorem ylj {n a:Nat} (c:∀j,j<n->o j<a) (f x:Nat->Rat):(C3 a fun v=>W0 n o f v*x v)=C3 n fun j=>f j*x (o j):=by
 induction n with
 |zero=>exact zkl fun v _=>by show W0 0 o f v*x v=0;unfold W0;simp only[C3];grind
 |succ n ih=>
  have e:(C3 a fun v=>W0 (n+1) o f v*x v)=(C3 a fun v=>W0 n o f v*x v)+C3 a fun v=>if v=o n then f n*x v else 0:=by
   rw[<-zqv];refine N0 fun v _=> ?_;show W0 (n+1) o f v*x v=W0 n o f v*x v+_;have:W0 (n+1) o f v=W0 n o f v+if o n=v then f n else 0:=rfl;rw[this];by_cases h:v=o n
   ·rw[if_pos h,if_pos h.symm];grind
   ·rw[if_neg h,if_neg (Ne.symm h)];grind
  rw[e,ih fun j b=>c j og,zlz (c n og) fun j _ b=>if_neg b,if_pos rfl,C3]
section
variable {m n : Nat} {a : Nat → Nat → Rat} {b c : Nat → Rat} {S : Dic}
theorem yfo (f:Dist m n S) {X:Nat->Rat} {s:Rat} (g:∀j,j<n->0<=X j) (h:∀i,i<m->0<=W7 m n S X s (S.bas i)) (v:Nat):0<=W7 m n S X s v:=by
 by_cases d:∃i,i<m/\S.bas i=v
 ·obtain⟨i,c,rfl⟩:=d;exact h i c
 ·by_cases e:∃j,j<n/\S.oth j=v
  ·obtain⟨j,a,rfl⟩:=e;rw[zwr f X s a];exact g j a
  ·rw[yfp X s (fun i c b=>d ⟨i,c,b⟩) (fun j a b=>e ⟨j,a,b⟩)];exact Rat.le_refl
theorem ydk (e:Dist m n S) (p:Eqv m n (O9 m n a b c) S) (k:∀i,i<m->0<=S.D i n):
 (∀v,0<=W7 m n S (fun _=>0) 1 v)/\(∀i,i<m->C3 n (fun j=>a i j*W7 m n S (fun _=>0) 1 j)<=b i)/\(C3 n fun j=>c j*W7 m n S (fun _=>0) 1 j)=S.D m n:=by
 have h:∀f:Nat->Rat,(C3 n fun j=>f j*(0:Rat))=0:=fun f=>zkl fun j _=>(by grind);have g:∀v,0<=W7 m n S (fun _=>0) 1 v:=yfo e (fun _ _=>Rat.le_refl) fun i d=>(by rw[zuj e _ _ d,h];have:=k i d;grind);obtain⟨l,o⟩:=yia ((p _ _ _).2 (zwq e (fun _=>0) 1));refine⟨g,fun i d=> ?_,?_⟩
 ·have:=l i d;have:=g (n+i);grind
 ·rw[<-o,h];grind
theorem ydl (d:Eqv m n (O9 m n a b c) S) {y:Nat->Rat} (h:∀x z s,Fit1 m n S x z s->al*z+C3 (n+m) (fun v=>y v*x v)=V*s):
 (C3 m fun i=>b i*y (n+i))=V/\∀k,k<n->al*c k+y k=C3 m fun i=>a i k*y (n+i):=ysm fun x z s hf=>h x z s ((d x z s).1 hf)
theorem ynv (f:Eqv m n (O9 m n a b c) S) (h:∀j,j<n->S.oth j<n+m) (hc:∀j,j<n->0<=S.D m j):
 (C3 m fun i=>b i*W0 n S.oth (S.D m) (n+i))=S.D m n/\(∀k,k<n->c k<=C3 m fun i=>a i k*W0 n S.oth (S.D m) (n+i))/\∀v,0<=W0 n S.oth (S.D m) v:=by have d:=ydl (y:=W0 n S.oth (S.D m)) (al:=1) (V:=S.D m n) f fun x z s hf=>(by rw[ylj h];have:=hf.obj;grind);have e:=yli (o:=S.oth) hc;refine⟨d.1,fun k g=> ?_,e⟩;have:=d.2 k g;have:=e k;grind
theorem ynw (g:Eqv m n (O9 m n a b c) S) (q:∀j,j<n->S.oth j<n+m) (hr:r<m) (l:S.bas r<n+m) (hc:∀j,j<n->0<=S.D r j):
 (C3 m fun i=>b i*(W0 n S.oth (S.D r) (n+i)+if S.bas r=n+i then 1 else 0))=S.D r n/\(∀k,k<n->0<=C3 m fun i=>a i k*(W0 n S.oth (S.D r) (n+i)+if S.bas r=n+i then 1 else 0))/\∀v,0<=W0 n S.oth (S.D r) v+if S.bas r=v then 1 else 0:=by
 have d:=ydl (y:=fun v=>W0 n S.oth (S.D r) v+if S.bas r=v then 1 else 0) (al:=0) (V:=S.D r n) g fun x z s hf=>by
  have f:(C3 (n+m) fun v=>(W0 n S.oth (S.D r) v+if S.bas r=v then 1 else 0)*x v)=(C3 (n+m) fun v=>W0 n S.oth (S.D r) v*x v)+C3 (n+m) fun v=>if v=S.bas r then x v else 0:=by
   rw[<-zqv];refine N0 fun v _=> ?_;by_cases h:S.bas r=v
   ·rw[if_pos h,if_pos h.symm];grind
   ·rw[if_neg h,if_neg (Ne.symm h)];grind
  show 0*z+(C3 (n+m) fun v=>(W0 n S.oth (S.D r) v+if S.bas r=v then 1 else 0)*x v)=_;rw[f,ylj q,zlz l fun j _ o=>if_neg o,if_pos rfl];have:=hf.row r hr;grind
 have e:∀v,0<=W0 n S.oth (S.D r) v+if S.bas r=v then 1 else 0:=fun v=>(by have:=yli (o:=S.oth) hc v;split<;>grind);refine⟨d.1,fun k p=> ?_,e⟩;have t:=d.2 k p;have u:=e k;grind
theorem ynx (e:Dist m n S) (o:Eqv m n (O9 m n a b c) S) (q:k<n) (hc:S.D m k<0) (hr:∀i,i<m->S.D i k<=0):
 (∀v,0<=W7 m n S (fun j=>if j=k then 1 else 0) 0 v)/\(∀i,i<m->C3 n (fun j=>a i j*W7 m n S (fun j=>if j=k then 1 else 0) 0 j)<=0)/\0<C3 n fun j=>c j*W7 m n S (fun j=>if j=k then 1 else 0) 0 j:=by
 have one:∀f:Nat->Rat,(C3 n fun j=>f j*(if j=k then(1:Rat) else 0))=f k:=fun f=>(by rw[zlz q fun j _ p=>by rw[if_neg p];grind,if_pos rfl];grind);have g:∀v,0<=W7 m n S (fun j=>if j=k then 1 else 0) 0 v:=yfo e (fun j _=>by split<;>grind) fun i d=>(by rw[zuj e _ _ d,one];have:=hr i d;grind);obtain⟨h,l⟩:=yia ((o _ _ _).2 (zwq e (fun j=>if j=k then 1 else 0) 0));refine⟨g,fun i d=> ?_,?_⟩
 ·have:=h i d;have:=g (n+i);grind
 ·rw[<-l,one];grind
end
def zlh (R:List (List Rat)) (b c:List Rat) (v:Rat) (bas oth:List Nat) (m n:Nat):TB:=
 ⟨fun i j=>if i<m then zlf (ztx R b m) i j else if j<n then -(zlf [c++[v]] 0 j) else zlf [c++[v]] 0 j,1,bas,oth⟩
def zok (R:List (List Rat)) (b:List Rat) (i:Nat):Nat:=Z4 (R.getD i []++[b.getD i 0])
def zkd (c:List Rat) (v:Rat):Nat:=Z4 (c++[v])
def zng (bas:List Nat) (N:Nat->Nat):Nat->Nat->Nat
 |0,_=>1
 |k+1,v=>if bas.getD k 0=v then N k else zng bas N k v
theorem yjo {bas:List Nat} (h:∀i,0<N i):∀k v,0<zng bas N k v
 |0,_=>Nat.one_pos
 |k+1,v=>by
  rw[zng]
  split
  ·exact h k
  ·exact yjo h k v
theorem yjn {bas:List Nat} {v:Nat}:∀{k},(∀i,i<k->bas.getD i 0≠v)->zng bas N k v=1
 |0,_=>rfl
 |k+1,h=>by rw[zng,if_neg (h k og)];exact yjn fun i a=>h i og
theorem yjl {bas:List Nat}:∀{k},i<k->(∀j,j<k->bas.getD j 0=bas.getD i 0->j=i)->zng bas N k (bas.getD i 0)=N i
 |0,h,_=>by omega
 |k+1,h,hd=>by
  rw[zng]
  by_cases a:bas.getD k 0=bas.getD i 0
  ·rw[if_pos a,hd k og a]
  ·rw[if_neg a]
   have:i≠k:=fun b=>a (by rw[b])
   exact yjl og fun j c=>hd j og
def zly (R:List (List Rat)) (b:List Rat) (bas:List Nat) (m:Nat):Nat->Nat:=zng bas (zok R b) m
theorem yje (R:List (List Rat)) (b:List Rat) (i:Nat):0<zok R b i:=zwx _
theorem ykz (c:List Rat) (v:Rat):0<zkd c v:=zwx _
theorem yyw (R:List (List Rat)) (b:List Rat) (bas:List Nat) (m v:Nat):0<zly R b bas m v:=yjo (yje R b) m v
def znn (i:Nat):RV:=fun x=>if x=i then 1 else 0
theorem yei:∀a,R7 (List.range a) (U4 a znn)=1
 |0=>rfl
 |a+1=>by
  have b:U4 (a+1) znn=U4 a znn++[znn a]:=by unfold U4;rw[List.range_succ,List.map_append];rfl
  rw[List.range_succ,b,yot a (List.range a) (fun c hc=>by have:=List.mem_range.1 hc;unfold znn;rw[if_neg og]) (U4 a znn) (by unfold U4;simp),yei a]
  unfold znn
  rw[if_pos rfl];grind
theorem yrz {f:Nat->Int} [DecidablePred p]:zoo (fun x=>if p x then((f x:Int):Rat) else 0):=fun x=>by
 show∃z:Int,(if p x then((f x:Int):Rat) else 0)=(z:Rat)
 split
 ·exact⟨f x,rfl⟩
 ·exact⟨0,rfl⟩
theorem zxl {M:Nat} {z:Int} (h:z.natAbs<=M): -(M:Rat)<=(z:Rat)/\(z:Rat)<=(M:Rat):=by have a:((M:Nat):Rat)=((M:Int):Rat):=(Rat.intCast_natCast M).symm;rw[a,<-Rat.intCast_neg,Rat.intCast_le_intCast,Rat.intCast_le_intCast];omega
theorem yzo {M m n:Nat} {t:TB} (hd:t.d=1) (g:t.bas.length=m) (o:t.oth.length=n) (l:(t.bas++t.oth).Nodup) (k:∀v∈t.bas++t.oth,v<m+n) (e:1<=M) (f:∀i j,i<=m->j<=n->(t.A i j).natAbs<=M):TInv M m n t where
 cram:=by
  have c:(0:Rat)=((0:Int):Rat):=rfl
  refine⟨znn,fun j x=>if x<m+1 then((t.A x j:Int):Rat) else 0,⟨by rw[hd];exact Nat.one_pos,fun i _ x=> ?_,fun j _=>yrz,.inl ?_,fun j _ x=> ?_⟩,fun i _ x=> ?_,fun j h x=> ?_⟩
  ·unfold znn
   split
   ·exact⟨1,rfl⟩
   ·exact⟨0,rfl⟩
  ·rw[hd,yei];rfl
  ·rw[hd]
   show((1:Int):Rat)*(if x<m+1 then((t.A x j:Int):Rat) else 0)=_
   have d:((1:Int):Rat)=1:=rfl
   rw[d,Rat.one_mul]
   by_cases a:x<m+1
   ·rw[if_pos a,zlz a fun i _ b=>by unfold znn;rw[if_neg (Ne.symm b)];grind]
    unfold znn;rw[if_pos rfl];grind
   ·rw[if_neg a,zkl fun i b=>by unfold znn;rw[if_neg og];grind]
  ·unfold znn
   split
   ·exact zxl (z:=1) (by simpa using e)
   ·rw[c];exact zxl (by simp)
  ·show _<=(if x<m+1 then((t.A x j:Int):Rat) else 0)/\(if x<m+1 then((t.A x j:Int):Rat) else 0)<=_
   by_cases a:x<m+1
   ·rw[if_pos a];exact zxl (f x j og h)
   ·rw[if_neg a,c];exact zxl (by simp)
 bl:=g;ol:=o;dist:=l;lt:=k
section
variable {R : List (List Rat)} {b c : List Rat} {v : Rat} {bas oth : List Nat} {m n : Nat}
theorem yuw (k:R.length=m) (l:b.length=m) (g:∀r∈R,r.length=n) (a:i<m) (o:j<=n):
 (((zlh R b c v bas oth m n).A i j:Int):Rat)=(if j<n then(R.getD i []).getD j 0 else b.getD i 0)*((zok R b i:Nat):Rat):=by
 show((if i<m then zlf (ztx R b m) i j else _:Int):Rat)=_;rw[if_pos a];have hr:R[i]? =some (R.getD i []):=(by rw[d,z og];rfl);have f:=ycn (b:=b) (n:=m) (m:=n) a hr;have e:(R.getD i []).length=n:=g _ (w hr);by_cases h:j<n
 ·rw[if_pos h,zxc f (zws e h)];rfl
 ·obtain rfl:j=n:=og;rw[if_neg h,zxc f (zzt e)];rfl
theorem yut (hc:c.length=n) (a:j<=n):
 (((zlh R b c v bas oth m n).A m j:Int):Rat)=(if j<n then -(c.getD j 0) else v)*((zkd c v:Nat):Rat):=by
 show((if m<m then _ else if j<n then -(zlf [c++[v]] 0 j) else zlf [c++[v]] 0 j:Int):Rat)=_;rw[if_neg og];by_cases h:j<n
 ·rw[if_pos h,if_pos h,Rat.intCast_neg,zxc (b:=[c++[v]]) (i:=0) rfl (zws hc h)];show -(_*((zkd c v:Nat):Rat))=_;grind
 ·obtain rfl:j=n:=og;rw[if_neg h,if_neg h,zxc (b:=[c++[v]]) (i:=0) rfl (zzt hc)];rfl
theorem yho (x:Nat) (h:0<x):((x:Nat):Rat)*((x:Nat):Rat)⁻¹=1:=Rat.mul_inv_cancel _ (ztm h)
theorem yuu (o:R.length=m) (p:b.length=m) (u:∀r∈R,r.length=n) (hc:c.length=n) (w:bas.length=m) (x:oth.length=n) (t:(bas++oth).Nodup) (q:i<=m) (e:j<=n):
 (J9 (zly R b bas m) (zkd c v) m n (zlh R b c v bas oth m n)).D i j=if i<m then(if j<n then(R.getD i []).getD j 0 else b.getD i 0) else if j<n then -(c.getD j 0) else v:=by
 have f:=List.nodup_append.1 t;show(if i<=m/\j<=n then(((zlh R b c v bas oth m n).A i j:Int):Rat)*((1:Int):Rat)⁻¹*uc (zly R b bas m) n (fun j=>oth.getD j 0) j*(ur (zly R b bas m) (zkd c v) m (fun i=>bas.getD i 0) i)⁻¹ else 0)=_;rw[if_pos ⟨q,e⟩];have g:((1:Int):Rat)⁻¹=1:=zsu (Rat.mul_one 1)
 have l:uc (zly R b bas m) n (fun j=>oth.getD j 0) j=1:=by
  unfold uc;split
  ·rename_i h;have:zly R b bas m (oth.getD j 0)=1:=yjn fun k s a=>f.2.2 _ (Y3 og) _ (Y3 (l:=oth) (i:=j) og) a;rw[this];rfl
  ·rfl
 rw[g,l,Rat.mul_one,Rat.mul_one];by_cases h:i<m
 ·rw[if_pos h,yuw o p u h e];have d:ur (zly R b bas m) (zkd c v) m (fun i=>bas.getD i 0) i=((zok R b i:Nat):Rat):=(by unfold ur;rw[if_pos h];have:zly R b bas m (bas.getD i 0)=zok R b i:=yjl h fun k s a=>znw f.1 og og a;rw[this]);rw[d,Rat.mul_assoc,yho _ (yje R b i),Rat.mul_one]
 ·obtain rfl:i=m:=og;rw[if_neg h,yut hc e];have d:ur (zly R b bas i) (zkd c v) i (fun i=>bas.getD i 0) i=((zkd c v:Nat):Rat):=(by unfold ur;rw[if_neg h]);rw[d,Rat.mul_assoc,yho _ (ykz c v),Rat.mul_one]
end
theorem yfi {m n:Nat} {S:Dic} (c:∀i,i<m->S.bas i=T.bas i) (b:∀j,j<n->S.oth j=T.oth j) (hD:∀i j,i<=m->j<=n->S.D i j=T.D i j) {x:Nat->Rat} {z s:Rat} (h:Fit1 m n S x z s):Fit1 m n T x z s where
 row i hi:=by
  rw[<-c i hi,<-hD i n og (l _),<-h.row i hi]
  congr 1
  exact N0 fun j a=>by rw[<-hD i j og og,<-b j a]
 obj:=by rw[<-hD m n (l _) (l _),<-h.obj];congr 1;exact N0 fun j a=>by rw[<-hD m j (l _) og,<-b j a]
theorem yqh {m n:Nat} {S:Dic} (c:∀i,i<m->S.bas i=T.bas i) (d:∀j,j<n->S.oth j=T.oth j) (hD:∀i j,i<=m->j<=n->S.D i j=T.D i j):Eqv m n S T:=fun x z s=>
 ⟨yfi c d hD,yfi (fun i a=>(c i a).symm) (fun j b=>(d j b).symm) fun i j a b=>(hD i j a b).symm⟩
theorem yuv {R:List (List Rat)} {b c:List Rat} {m n:Nat} (s:R.length=m) (t:b.length=m) (v:∀r∈R,r.length=n) (hc:c.length=n) {bas oth:List Nat} (o:bas=(List.range m).map fun i=>n+i) (q:oth=List.range n):
 Eqv m n (O9 m n (fun i j=>(R.getD i []).getD j 0) (fun i=>b.getD i 0) fun j=>c.getD j 0) (J9 (zly R b bas m) (zkd c 0) m n (zlh R b c 0 bas oth m n)):=by
 have g:bas.length=m:=(by rw[o];simp);have p:oth.length=n:=(by rw[q];simp);have l:∀i,i<m->bas.getD i 0=n+i:=fun i a=>(by rw[o,d,B,List.getElem?_range a];rfl);have go:∀j,j<n->oth.getD j 0=j:=fun j e=>by rw[q,d,List.getElem?_range e];rfl
 have u:(bas++oth).Nodup:=zxk fun i j a e f=>by
  rw[List.length_append,g,p] at a e
  have key:∀k,k<m+n->(bas++oth).getD k 0=if k<m then n+k else k-m:=fun k w=>by
   rw[d,List.getElem?_append,g];split
   ·rename_i h;rw[<-d];exact l k h
   ·rename_i h;rw[<-d];exact go _ og
  rw[key i a,key j e] at f;split at f<;>split at f<;>omega
 refine yqh (fun i a=>(l i a).symm) (fun j e=>(go j e).symm) fun i j a e=> ?_;rw[yuu s t v hc g p u a e];show(if i<m then(if j<n then(R.getD i []).getD j 0 else b.getD i 0) else if j<n then -(c.getD j 0) else 0)=_;rfl
def L5 (n:Nat) (f:Nat->Rat):List Rat:=(List.range n).map f
theorem zkn (n:Nat) (f:Nat->Rat):(L5 n f).length=n:=by unfold L5;simp
theorem zse {n:Nat} (h:j<n):(L5 n f)[j]? =some (f j):=by unfold L5;rw[B,List.getElem?_range h];rfl
theorem zsf {n:Nat} (h:j<n):(L5 n f).getD j 0=f j:=by rw[d,zse h];rfl
theorem zpw {n:Nat} {q:Rat} (h:q∈L5 n f):∃j,j<n/\q=f j:=by unfold L5 at h;obtain⟨j,b,a⟩:=List.mem_map.1 h;exact⟨j,List.mem_range.1 b,a.symm⟩
def zpg (A:List (List Rat)) (Y:List Rat) (k:Nat):Rat:=C3 A.length fun i=>(A.getD i []).getD k 0*Y.getD i 0
structure Feas (A:List (List Rat)) (b:List Rat) (n:Nat) (X:List Rat):Prop where
 len:X.length=n
 nn:∀x∈X,0<=x
 le:∀i r,A[i]? =some r->L3 r X<=b.getD i 0
structure Mult (A:List (List Rat)) (b:List Rat) (n:Nat) (f:Nat->Rat) (Y:List Rat):Prop where
 len:Y.length=b.length
 nn:∀y∈Y,0<=y
 ge:∀k,k<n->f k<=zpg A Y k
structure RayQ (A:List (List Rat)) (n:Nat) (Z:List Rat):Prop where
 len:Z.length=n
 nn:∀x∈Z,0<=x
 le:∀r∈A,L3 r Z<=0
structure CertOpt (A:List (List Rat)) (b c X Y:List Rat) (V:Rat):Prop where
 x:Feas A b c.length X
 y:Mult A b c.length (fun k=>c.getD k 0) Y
 vx:L3 c X=V
 vy:L3 b Y=V
structure CertNone (A:List (List Rat)) (b c Y:List Rat):Prop where
 y:Mult A b c.length (fun _=>0) Y
 vy:L3 b Y<0
structure CertRay (A:List (List Rat)) (b c X Z:List Rat):Prop where
 x:Feas A b c.length X
 z:RayQ A c.length Z
 up:0<L3 c Z
section
variable {A : List (List Rat)} {b c : List Rat} {m n : Nat} {S : Dic}
abbrev aF (A:List (List Rat)) (i j:Nat):Rat:=(A.getD i []).getD j 0
abbrev lF (b:List Rat) (i:Nat):Rat:=b.getD i 0
theorem zsp {r:List Rat} {n:Nat} (hr:r.length=n) (f:Nat->Rat):L3 r (L5 n f)=C3 n fun j=>r.getD j 0*f j:=by rw[zso r _ (by rw[zkn,hr]),hr];exact N0 fun j a=>by rw[zsf a]
theorem zzv {A:List (List Rat)} {r:List Rat} (h:A[i]? =some r):A.getD i []=r:=by rw[d,h];rfl
theorem yfd (e:A.length=m) (h:∀r∈A,r.length=n) (c:∀v,0<=f v) (d:∀i,i<m->C3 n (fun j=>aF A i j*f j)<=lF b i):Feas A b n (L5 n f) where
 len:=zkn n f
 nn x hx:=by obtain⟨j,_,rfl⟩:=zpw hx;exact c j
 le i r hr:=by have g:i<m:=(by rw[<-e];exact(List.getElem?_eq_some_iff.1 hr).1);have:=d i g;rw[zsp (h r (w hr))];have a:aF A i=fun j=>r.getD j 0:=(by funext j;unfold aF;rw[zzv hr]);rw[show(fun j=>r.getD j 0*f j)=fun j=>aF A i j*f j by rw[a]];exact this
theorem yxm (g:A.length=m) (e:∀r∈A,r.length=n) (b:∀v,0<=f v) (c:∀i,i<m->C3 n (fun j=>aF A i j*f j)<=0):RayQ A n (L5 n f) where
 len:=zkn n f
 nn x hx:=by obtain⟨j,_,rfl⟩:=zpw hx;exact b j
 le r hr:=by obtain⟨i,d,rfl⟩:=List.getElem_of_mem hr;have:=c i og;rw[zsp (e _ hr)];have a:aF A i=fun j=>(A[i]).getD j 0:=(by funext j;unfold aF;rw[zzv (z d)]);rw[show(fun j=>(A[i]).getD j 0*f j)=fun j=>aF A i j*f j by rw[a]];exact this
theorem yhn (d:A.length=m) (e:b.length=m) {y:Nat->Rat} (a:∀v,0<=y v) (c:∀k,k<n->g k<=C3 m fun i=>aF A i k*y (n+i)):Mult A b n g (L5 m fun i=>y (n+i)) where
 len:=by rw[zkn,e]
 nn x hx:=by obtain⟨j,_,rfl⟩:=zpw hx;exact a _
 ge k hk:=by have:=c k hk;unfold zpg;rw[d];rw[show C3 m (fun i=>(A.getD i []).getD k 0*(L5 m fun i=>y (n+i)).getD i 0)=C3 m fun i=>aF A i k*y (n+i) from N0 fun i f=>by rw[zsf f]];exact this
def zry (m n:Nat) (S:Dic):List Rat:=L5 n (W7 m n S (fun _=>0) 1)
def zux (m n:Nat) (S:Dic):List Rat:=L5 m fun i=>W0 n S.oth (S.D m) (n+i)
def zuw (m n:Nat) (S:Dic) (r:Nat):List Rat:=L5 m fun i=>W0 n S.oth (S.D r) (n+i)+if S.bas r=n+i then 1 else 0
def zvb (m n:Nat) (S:Dic) (k:Nat):List Rat:=L5 n (W7 m n S (fun j=>if j=k then 1 else 0) 0)
theorem zwm {b:List Rat} (a:b.length=m) (f:Nat->Rat):L3 b (L5 m f)=C3 m fun i=>lF b i*f i:=zsp a f
theorem ynt (a:A.length=m) (e:b.length=m) (hc:c.length=n) (q:∀r∈A,r.length=n) (o:Dist m n S) (d:Eqv m n (O9 m n (aF A) (lF b) (lF c)) S) (p:∀j,j<n->S.oth j<n+m)
 (k:∀i,i<m->0<=S.D i n) (l:∀j,j<n->0<=S.D m j):CertOpt A b c (zry m n S) (zux m n S) (S.D m n):=by obtain⟨s,t,u⟩:=ydk o d k;obtain⟨f,g,h⟩:=ynv d p l;subst hc;exact⟨yfd a q s t,yhn a e h g,by rw[zry,zwm rfl];exact u,by rw[zux,zwm e];exact f⟩
theorem yns (i:A.length=m) (a:b.length=m) (hc:c.length=n) (k:Eqv m n (O9 m n (aF A) (lF b) (lF c)) S) (o:∀j,j<n->S.oth j<n+m) (hr:r<m) (l:S.bas r<n+m)
 (g:S.D r n<0) (h:∀j,j<n->0<=S.D r j):CertNone A b c (zuw m n S r):=by obtain⟨d,e,f⟩:=ynw k o hr l h;subst hc;exact⟨yhn (y:=fun v=>W0 c.length S.oth (S.D r) v+if S.bas r=v then 1 else 0) i a f e,by rw[zuw,zwm a,d];exact g⟩
theorem ynu (a:A.length=m) (t:b.length=m) (hc:c.length=n) (f:∀r∈A,r.length=n) (e:Dist m n S) (d:Eqv m n (O9 m n (aF A) (lF b) (lF c)) S) (l:k<n)
 (g:∀i,i<m->0<=S.D i n) (h:S.D m k<0) (j:∀i,i<m->S.D i k<=0):CertRay A b c (zry m n S) (zvb m n S k):=by obtain⟨o,p,_⟩:=ydk e d g;obtain⟨q,s,q3⟩:=ynx e d l h j;subst hc;exact⟨yfd a f o p,yxm a f q s,by rw[zvb,zwm rfl];exact q3⟩
end
theorem ykp {n:Nat} (h:∀i,i<n->f i<=g i):C3 n f<=C3 n g:=by
 induction n with
 |zero=>exact Rat.le_refl
 |succ n ih=>have a:=ih fun i c=>h i og;have b:=h n og;rw[C3,C3];grind
theorem zum {X:List Rat} (h:∀x∈X,0<=x) (k:Nat):0<=X.getD k 0:=by
 rw[d];cases e:X[k]? with
 |none=>exact Rat.le_refl
 |some x=>exact h x (w e)
section
variable {A : List (List Rat)} {b c X Y Z : List Rat} {n : Nat}
theorem zyo (a:Feas A b n X) (c:Mult A b n f Y) (o:A.length=b.length) (s:∀r∈A,r.length=n):(C3 n fun k=>f k*X.getD k 0)<=L3 b Y:=by have e:(C3 n fun k=>f k*X.getD k 0)<=C3 n fun k=>zpg A Y k*X.getD k 0:=ykp fun k q=>(by have:=Rat.mul_le_mul_of_nonneg_right (c.ge k q) (zum a.nn k);exact this);have j:(C3 n fun k=>zpg A Y k*X.getD k 0)=C3 A.length fun i=>(C3 n fun k=>(A.getD i []).getD k 0*X.getD k 0)*Y.getD i 0:=(by have h:(C3 n fun k=>zpg A Y k*X.getD k 0)=C3 n fun k=>C3 A.length fun i=>((A.getD i []).getD k 0*X.getD k 0)*Y.getD i 0:=N0 fun k _=>(by unfold zpg;have:X.getD k 0*(C3 A.length fun i=>(A.getD i []).getD k 0*Y.getD i 0)=C3 A.length fun i=>X.getD k 0*((A.getD i []).getD k 0*Y.getD i 0):=(znk _ _ _).symm;rw[Rat.mul_comm,this];exact N0 fun i _=>by grind);rw[h,yzx];refine N0 fun i _=> ?_;have:Y.getD i 0*(C3 n fun k=>(A.getD i []).getD k 0*X.getD k 0)=C3 n fun k=>Y.getD i 0*((A.getD i []).getD k 0*X.getD k 0):=(znk _ _ _).symm;rw[Rat.mul_comm,this];exact N0 fun k _=>by grind);have l:(C3 A.length fun i=>(C3 n fun k=>(A.getD i []).getD k 0*X.getD k 0)*Y.getD i 0)<=C3 A.length fun i=>b.getD i 0*Y.getD i 0:=ykp fun i p=>(by have hr:A[i]? =some (A.getD i []):=(by rw[d,z p];rfl);have:=a.le i _ hr;have g:(A.getD i []).length=n:=s _ (w hr);rw[zso _ _ (by rw[g,a.len]),g] at this;exact Rat.mul_le_mul_of_nonneg_right this (zum c.nn i));have m:L3 b Y=C3 A.length fun i=>b.getD i 0*Y.getD i 0:=(by rw[zso _ _ c.len.symm,o]);rw[m];rw[j] at e;exact Rat.le_trans e l
theorem zrm (h:c.length=n) (a:X.length=n):L3 c X=C3 n fun k=>c.getD k 0*X.getD k 0:=by rw[zso c X og,h]
theorem CertOpt.best (h:CertOpt A b c Y Z V) (d:A.length=b.length) (e:∀r∈A,r.length=c.length) (a:Feas A b c.length X):L3 c X<=V:=by have:=zyo a h.y d e;rw[zrm rfl a.len,<-h.vy];exact this
theorem CertNone.no (h:CertNone A b c Y) (e:A.length=b.length) (f:∀r∈A,r.length=c.length) (g:Feas A b c.length X):False:=by have a:=zyo g h.y e f;have d:(C3 c.length fun k=>(0:Rat)*X.getD k 0)=0:=zkl fun k _=>(by grind);have i:=h.vy;rw[d] at a;grind
def zvs (t:Rat) (X Z:List Rat) (n:Nat):List Rat:=L5 n fun k=>X.getD k 0+t*Z.getD k 0
theorem ycx {r:List Rat} (hr:r.length=n) (a:X.length=n) (b:Z.length=n) (t:Rat):L3 r (zvs t X Z n)=L3 r X+t*L3 r Z:=by rw[zvs,zsp hr,zrm hr a,zrm hr b,<-znk,<-zqv];exact N0 fun k _=>by grind
theorem RayQ.along (h:RayQ A n Z) (a:Feas A b n X) (g:∀r∈A,r.length=n) {t:Rat} (d:0<=t):Feas A b n (zvs t X Z n) where
 len:=zkn _ _
 nn x hx':=by
  obtain⟨k,_,rfl⟩:=zpw hx'
  have e:=zum a.nn k
  have f:=Rat.mul_nonneg d (zum h.nn k)
  grind
 le i r hr:=by have c:=w hr;rw[ycx (g r c) a.len h.len];have e:=a.le i r hr;have f:=Rat.mul_nonneg d (show 0<=-L3 r Z by have:=h.le r c;grind);grind
theorem CertRay.grows (h:CertRay A b c Y Z) (d:X.length=c.length) {t:Rat} (a:0<t):L3 c X<L3 c (zvs t X Z c.length):=by rw[ycx rfl d h.z.len];have:=Rat.mul_pos a h.up;grind
end
theorem ysy:∀k,p k->∃k,p k/\∀j,p j->k<=j:=by
 intro k;induction k using Nat.strongRecOn with
 |ind k ih=>
  intro h;by_cases b:∃j,j<k/\p j
  ·obtain⟨j,a,e⟩:=b;exact ih j a e
  ·exact⟨k,h,fun j a=>Nat.le_of_not_lt fun c=>b ⟨j,c,a⟩⟩
noncomputable def leastN (p:Nat->Prop):Nat:=open Classical in if h:∃k,p k/\∀j,p j->k<=j then Classical.choose h else 0
theorem zwy (h:p k):p (leastN p)/\leastN p<=k:=by have a:=ysy k h;unfold leastN;rw[dif_pos a];have:=Classical.choose_spec a;exact⟨this.1,this.2 k h⟩
noncomputable def leftO {b:Type} (f:b->Option b) (a:b):Nat:=leastN fun k=>f (N2 f k a)=none
theorem ygu {d:Type} {f:d->Option d} {a b:d} (h:zvq f a) (e:f a=some b):zvq f b/\leftO f b<leftO f a:=by have key:∀k,f (N2 f (k+1) a)=f (N2 f k b):=fun k=>(by rw[yaj e]);obtain⟨m,i⟩:=h;have c:=(zwy (p:=fun k=>f (N2 f k a)=none) i).1;have l:leftO f a≠0:=fun g=>(by have c:f (N2 f (leftO f a) a)=none:=c;rw[g] at c;have:f a=none:=c;rw[e] at this;cases this);obtain⟨k,j⟩:∃k,leftO f a=k+1:=⟨leftO f a-1,by omega⟩;have c:f (N2 f (leftO f a) a)=none:=c;rw[j,key] at c;refine⟨⟨k,c⟩,?_⟩;have:=(zwy (p:=fun k=>f (N2 f k b)=none) c).2;show leastN _<_;omega
noncomputable def leastM {a:Type} (b:a->Prop) (c:a->Nat):Nat:=leastN fun k=>∃s,b s/\c s=k
theorem ygr {a:Type} {J:a->Prop} {μ:a->Nat} {s:a} (h:J s):leastM J μ<=μ s:=(zwy (p:=fun k=>∃s,J s/\μ s=k) ⟨s,h,rfl⟩).2
theorem ygq {b:Type} {a:b->Prop} {μ:b->Nat} (h:∃s,a s):∃s,a s/\μ s=leastM a μ:=by obtain⟨s,c⟩:=h;exact(zwy (p:=fun k=>∃s,a s/\μ s=k) ⟨s,c,rfl⟩).1
structure OkT (M m n:Nat) (sc:Nat->Nat) (top:Nat) (e:Dic) (t:TB):Prop where
 inv:TInv M m n t
 eqv:Eqv m n e (J9 sc top m n t)
section
variable {M m n top : Nat} {sc : Nat → Nat} {e : Dic} {t q : TB}
theorem ypb (b:∀v,0<sc v) (l:0<top) (h:TInv M m n t) {c:Nat} (hr:r<=m) (hc:c<=n) (k:t.A r c≠0):(J9 sc top m n t).D r c≠0:=by
 show(if r<=m/\c<=n then _ else _)≠_;rw[if_pos ⟨hr,hc⟩];have d:((t.A r c:Int):Rat)≠0:=(by simpa using k);have e:=yae (zuv h.d0);have f:=zz1370 b n (fun j=>t.oth.getD j 0) c;have g:=yae (zz1372 b l m (fun i=>t.bas.getD i 0) r);intro a;rcases Rat.mul_eq_zero.1 a with a|a
 ·rcases Rat.mul_eq_zero.1 a with a|a
  ·rcases Rat.mul_eq_zero.1 a with a|a
   ·exact d a
   ·exact e a
  ·exact f a
 ·exact g a
theorem OkT.piv (b:∀v,0<sc v) (d:0<top) (h:OkT M m n sc top e t) {c:Nat} (hr:r<m) (hc:c<n) (a:t.A r c≠0):OkT M m n sc top e (P7 t r c) where
 inv:=h.inv.piv hr hc a
 eqv:=by rw[h.inv.dic b d hr hc a];exact h.eqv.piv hr hc (ypb b d h.inv og og a)
theorem OkT.rep (b:∀v,0<sc v) (d:0<top) (h:OkT M m n sc top e t) (hst:Z6 m n t=some q):OkT M m n sc top e q:=by obtain⟨r,c,rfl,hr,hc,a,_⟩:=zzd h.inv hst;exact h.piv b d hr hc a
theorem OkT.step (f:∀v,0<sc v) (g:0<top) (h:OkT M m n sc top e t) (a:∀i,i<m->0<=t.A i n) (hst:Y8 m n t=some q):OkT M m n sc top e q/\∀i,i<m->0<=q.A i n:=by obtain⟨r,c,rfl,d,b⟩:=zze h.inv a hst;exact⟨h.piv f g b.hr b.hc d,(restT h.inv a hst).2⟩
theorem ybk (a:∀v,0<sc v) (e:0<top) (h:TInv M m n t) (i j:Nat):0<((t.d:Int):Rat)⁻¹*uc sc n (fun j=>t.oth.getD j 0) j*(ur sc top m (fun i=>t.bas.getD i 0) i)⁻¹:=by
 have p:∀x:Nat,0<x->(0:Rat)<((x:Nat):Rat):=fun x f=>(by have:=Rat.intCast_lt_intCast.2 (show(0:Int)<(x:Int) by omega);exact this);have b:=zsq h.d0
 have c:0<uc sc n (fun j=>t.oth.getD j 0) j:=by
  unfold uc;split
  ·exact p _ (a _)
  ·decide
 have d:0<ur sc top m (fun i=>t.bas.getD i 0) i:=by
  unfold ur;split
  ·exact p _ (a _)
  ·exact p _ e
 exact Rat.mul_pos (Rat.mul_pos b c) (inv_pos d)
theorem zzm (a:i<=m) (b:j<=n):(J9 sc top m n t).D i j=(t.A i j:Rat)*(((t.d:Int):Rat)⁻¹*uc sc n (fun j=>t.oth.getD j 0) j*(ur sc top m (fun i=>t.bas.getD i 0) i)⁻¹):=by show(if i<=m/\j<=n then _ else _)=_;rw[if_pos ⟨a,b⟩,Rat.mul_assoc,Rat.mul_assoc,Rat.mul_assoc]
theorem zwi (c:∀v,0<sc v) (d:0<top) (h:TInv M m n t) (a:i<=m) (b:j<=n):0<=(J9 sc top m n t).D i j↔0<=t.A i j:=by rw[zzm a b];exact zyb (ybk c d h i j)
theorem yej (c:∀v,0<sc v) (d:0<top) (h:TInv M m n t) (a:i<=m) (b:j<=n):(J9 sc top m n t).D i j<0↔t.A i j<0:=by rw[zzm a b];exact zpq (ybk c d h i j)
theorem yuo (h:znf m n t=none):∀i,i<m->0<=t.A i n:=fun i a=>by
 have:=zuc h i a
 rw[decide_eq_false_iff_not] at this
 omega
end
section
variable {M m n top : Nat} {sc : Nat → Nat} {t : TB} {A : List (List Rat)} {b c : List Rat}
theorem yqc (d:∀v,0<sc v) (e:0<top) (g:A.length=m) (k:b.length=m) (hc:c.length=n) (q:∀r∈A,r.length=n) (h:OkT M m n sc top (O9 m n (aF A) (lF b) (lF c)) t) (f:∀i,i<m->0<=t.A i n) (o:Z9 m n t=none):
 CertOpt A b c (zry m n (J9 sc top m n t)) (zux m n (J9 sc top m n t)) ((J9 sc top m n t).D m n):=
 ynt g k hc q (h.inv.distD _ _) h.eqv (fun j a=>by have:=h.inv.ltD.2 j a;show t.oth.getD j 0<n+m;omega) (fun i p=>(zwi d e h.inv og (l _)).2 (f i p)) fun j a=>(zwi d e h.inv (l _) og).2 (by
  have:=zuc o j a
  rw[decide_eq_false_iff_not] at this
  omega)
theorem yqb (e:∀v,0<sc v) (f:0<top) (k:A.length=m) (o:b.length=m) (hc:c.length=n) (h:OkT M m n sc top (O9 m n (aF A) (lF b) (lF c)) t) (g:znf m n t=some r) (i:zns n t r=none):CertNone A b c (zuw m n (J9 sc top m n t) r):=by obtain⟨hr,d,_⟩:=zlq g;have d:t.A r n<0:=of_decide_eq_true d;exact yns k o hc h.eqv (fun j a=>by have:=h.inv.ltD.2 j a;show t.oth.getD j 0<n+m;omega) hr (by have:=h.inv.ltD.1 r hr;show t.bas.getD r 0<n+m;omega) ((yej e f h.inv og (l _)).2 d) fun j a=>(zwi e f h.inv og og).2 (by have:=zuc i j a;rw[decide_eq_false_iff_not] at this;omega)
theorem yqd (e:∀v,0<sc v) (f:0<top) (u:A.length=m) (w:b.length=m) (hc:c.length=n) (y:∀r∈A,r.length=n) (h:OkT M m n sc top (O9 m n (aF A) (lF b) (lF c)) t) (g:∀i,i<m->0<=t.A i n) (j:Z9 m n t=some k) (o:zlg m n t k=none):
 CertRay A b c (zry m n (J9 sc top m n t)) (zvb m n (J9 sc top m n t) k):=by obtain⟨x,d,_⟩:=zlq j;have d:t.A m k<0:=of_decide_eq_true d;exact ynu u w hc y (h.inv.distD _ _) h.eqv x (fun i a=>(zwi e f h.inv og (l _)).2 (g i a)) ((yej e f h.inv (l _) og).2 d) fun i a=>by have z:=yao o i a;have p:=zzm (sc:=sc) (top:=top) (m:=m) (n:=n) (t:=t) (show i<=m by omega) (show k<=n by omega);have q:=(zyc (z:=t.A i k) (ybk e f h.inv i k));rw[p];exact Rat.not_lt.1 fun s=>by have:=q.1 s;omega
end
end Go.Proofs.YtdgilbgdkmhcmaaGreatDoor
