/-
 Package dual's checks of a solution that has a greatest value.
-/
import Derived.Test.YtlhhbccgfkhflaaGreatDoorDwv11
import Derived.Maps.OwnSet
import Derived.OrdersHeld
import Derived.Below
namespace Go.Proofs.YtlhhbccgfkhflaaGreatDoor
open Go.RowKit
set_option linter.unusedVariables false
open Go.RowKit Go.Maps
set_option maxRecDepth 100000
set_option maxHeartbeats 8000000
open _root_.Go.Lib renaming hid → F
open _root_.Array renaming getElem?_eq_getElem → H, getD_eq_getD_getElem? → I
open _root_.Bool renaming and_eq_true → K
open _root_.Go renaming World → k, Value → m, Calls → u, TypeId → J, undef → E, Oper → G
open _root_.Go.RowKit renaming Below → f, Hid → r
open _root_.Go.Proofs.Tryz renaming prog → j
variable {S : Nat → Prop} {b c g i n : Nat} {o : G} {p : Prog} {t : J} {v : m}
def IsPS (w:k) (S:Nat->Prop) (v:m) (p:Prog) (s:Sol):Prop:=
 ∃A a B b C c P e Q f X h D d R g,v= .agg #[.slice A p.A.length a,.slice B p.B.length b,.slice C p.C.length c,.int .i64 s.st,.bool s.val.neg,.slice P s.val.num.length e,.slice Q s.val.den.length f,.slice X s.X.length h,.slice D s.D.length d,.slice R s.R.length g]/\IsM w S (.slice A p.A.length a) p.A/\IsV w S (.slice B p.B.length b) p.B/\IsV w S (.slice C p.C.length c) p.C/\
  IsR w S (.agg #[.bool s.val.neg,.slice P s.val.num.length e,.slice Q s.val.den.length f]) s.val/\IsV w S (.slice X s.X.length h) s.X/\IsV w S (.slice D s.D.length d) s.D/\IsV w S (.slice R s.R.length g) s.R
theorem IsPS.to {w w':k} {T:Nat->Prop} {s:Sol} (h:IsPS w S v p s) (a:L6 S T w w'):IsPS w' T v p s:=by obtain⟨A,b,B,c,C,d,P,f,Q,g,X,j,D,e,R,i,hv,l,m,n,o,q,r,t⟩:=h;exact⟨A,b,B,c,C,d,P,f,Q,g,X,j,D,e,R,i,hv,IsM.stb.to l a,IsV.stb.to m a,IsV.stb.to n a,IsR.stb.to o a,IsV.stb.to q a,IsV.stb.to r a,IsV.stb.to t a⟩
theorem znh {w:k} {A:Option Addr} {a:List Raw} (h:IsV w S (.slice A a.length c) a):a.length<=9223372036854775807:=by obtain⟨_,_,_,b⟩:=J6 h;exact b
theorem len_eq0:((n:Int)==0)=decide (n=0):=by rw[Bool.eq_iff_iff,beq_iff_eq,decide_eq_true_eq];omega
theorem yul {x:Int}:(x==0)=decide (x=0):=rfl
def zrs (p:Prog) (s:Sol):Bool:=zkt s.X p.C.length&&zkt s.D p.B.length&&decide (s.R.length=0)&&decide (zkl s.val=0)
theorem yyb {w:k} {s:Sol} (h:IsPS w (C5 w) v p s) (av:Bru w):u j 218 #[v] w fun L w'=>L= .returned (.bool (zrs p s))/\f w.heap.size w w':=by
 obtain⟨A,aB,B,aC,C,aD,P,aG,Q,aH,X,aJ,D,aE,R,aI,rfl,au,ac,ad,ay,af,hD,ae⟩:=h;obtain⟨aL,aM,aN,an,S,W,aO,N⟩:=zny au ac ad ay af hD ae av;have Z:=znh ac;have V:=znh ad;have aT:=znh af;have aR:=znh hD;have aS:=znh ae;clear au ac ad ay af hD ae av;unfold zrs;obtain⟨aA,ag⟩:=nm (zkt s.X p.C.length);obtain⟨b2,ah⟩:=nm (zkt s.D p.B.length);obtain⟨aq,ai⟩:=nm (decide (s.R.length=0));obtain⟨ar,aj⟩:=nm (decide (zkl s.val=0));obtain⟨x,ak⟩:=nm (zkl s.val);have aU:((s.R.length:Int)==0)=aq:=len_eq0.trans ai.symm;have aV:(x==0)=ar:=(by rw[aj,ak];exact yul);rw[<-ag,<-ah,<-ai,<-aj];obtain⟨T,Y,ao⟩:=F0 ag ah ak;clear ag ah ai aj ak;obtain⟨e,U,az,M,aP⟩:=J9 w #[.slice A p.A.length aB,.slice B p.B.length aC,.slice C p.C.length aD,.int .i64 s.st,.bool s.val.neg,.slice P s.val.num.length aG,.slice Q s.val.den.length aH,.slice X s.X.length aJ,.slice D s.D.length aE,.slice R s.R.length aI] 185;obtain⟨z,aQ⟩:=C7 az M;have b:=(M.cell 0:e.cell? ⟨w.heap.size,0,none⟩=some _);have c:=(M.cell 1:e.cell? ⟨w.heap.size,1,none⟩=some _);have d:=(M.cell 2:e.cell? ⟨w.heap.size,2,none⟩=some _);have g:=(M.cell 3:e.cell? ⟨w.heap.size,3,none⟩=some _);have i:=(M.cell 4:e.cell? ⟨w.heap.size,4,none⟩=some _);have l:=(M.cell 5:e.cell? ⟨w.heap.size,5,none⟩=some _);have n:=(M.cell 6:e.cell? ⟨w.heap.size,6,none⟩=some _);have o:=(M.cell 7:e.cell? ⟨w.heap.size,7,none⟩=some _);have q:=(M.cell 8:e.cell? ⟨w.heap.size,8,none⟩=some _);have t:=(M.cell 9:e.cell? ⟨w.heap.size,9,none⟩=some _);clear az M;cases aA with
 |false=>go_in;go_wp2_with fail;clear U;refine(zrt (IsV.stb.to S.out (C9 z.out)) (Bru.next N.out z.out) V).mono ?_;rw[show zkt s.X p.C.length=false from T.out.symm];rintro L aa ⟨rfl,a⟩;have y:=nB z a;replace b:=A9 a b;replace c:=A9 a c;replace d:=A9 a d;replace g:=A9 a g;replace i:=A9 a i;replace l:=A9 a l;replace n:=A9 a n;replace o:=A9 a o;replace q:=A9 a q;replace t:=A9 a t;clear a;go_wp2_with fail;go_ret;exact⟨rfl,y.out⟩
 |true=>
  cases b2 with
  |false=>go_in;go_wp2_with fail;clear U;refine(zrt (IsV.stb.to S.out (C9 z.out)) (Bru.next N.out z.out) V).mono ?_;rw[show zkt s.X p.C.length=true from T.out.symm];rintro L aa ⟨rfl,a⟩;have y:=nB z a;replace b:=A9 a b;replace c:=A9 a c;replace d:=A9 a d;replace g:=A9 a g;replace i:=A9 a i;replace l:=A9 a l;replace n:=A9 a n;replace o:=A9 a o;replace q:=A9 a q;replace t:=A9 a t;clear a;go_wp2_with fail;refine(zrt (IsV.stb.to W.out (C9 y.out)) (Bru.next N.out y.out) Z).mono ?_;rw[show zkt s.D p.B.length=false from Y.out.symm];rintro L al ⟨rfl,a⟩;have O:=nB y a;replace b:=A9 a b;replace c:=A9 a c;replace d:=A9 a d;replace g:=A9 a g;replace i:=A9 a i;replace l:=A9 a l;replace n:=A9 a n;replace o:=A9 a o;replace q:=A9 a q;replace t:=A9 a t;clear a;go_wp2_with fail;go_ret;exact⟨rfl,O.out⟩
  |true=>
   cases aq with
   |false=>go_in;go_wp2_with fail;clear U;refine(zrt (IsV.stb.to S.out (C9 z.out)) (Bru.next N.out z.out) V).mono ?_;rw[show zkt s.X p.C.length=true from T.out.symm];rintro L aa ⟨rfl,a⟩;have y:=nB z a;replace b:=A9 a b;replace c:=A9 a c;replace d:=A9 a d;replace g:=A9 a g;replace i:=A9 a i;replace l:=A9 a l;replace n:=A9 a n;replace o:=A9 a o;replace q:=A9 a q;replace t:=A9 a t;clear a;go_wp2_with fail;refine(zrt (IsV.stb.to W.out (C9 y.out)) (Bru.next N.out y.out) Z).mono ?_;rw[show zkt s.D p.B.length=true from Y.out.symm];rintro L al ⟨rfl,a⟩;have O:=nB y a;replace b:=A9 a b;replace c:=A9 a c;replace d:=A9 a d;replace g:=A9 a g;replace i:=A9 a i;replace l:=A9 a l;replace n:=A9 a n;replace o:=A9 a o;replace q:=A9 a q;replace t:=A9 a t;clear a;go_wp2_with fail;go_ret;exact⟨rfl,O.out⟩
   |true=>
    cases ar with
    |false=>go_in;go_wp2_with fail;clear U;refine(zrt (IsV.stb.to S.out (C9 z.out)) (Bru.next N.out z.out) V).mono ?_;rw[show zkt s.X p.C.length=true from T.out.symm];rintro L aa ⟨rfl,a⟩;have y:=nB z a;replace b:=A9 a b;replace c:=A9 a c;replace d:=A9 a d;replace g:=A9 a g;replace i:=A9 a i;replace l:=A9 a l;replace n:=A9 a n;replace o:=A9 a o;replace q:=A9 a q;replace t:=A9 a t;clear a;go_wp2_with fail;refine(zrt (IsV.stb.to W.out (C9 y.out)) (Bru.next N.out y.out) Z).mono ?_;rw[show zkt s.D p.B.length=true from Y.out.symm];rintro L al ⟨rfl,a⟩;have O:=nB y a;replace b:=A9 a b;replace c:=A9 a c;replace d:=A9 a d;replace g:=A9 a g;replace i:=A9 a i;replace l:=A9 a l;replace n:=A9 a n;replace o:=A9 a o;replace q:=A9 a q;replace t:=A9 a t;clear a;go_wp2_with fail;refine(zxm (IsR.stb.to an.out (C9 O.out)) (Bru.next N.out O.out)).mono ?_;rw[<-ao.out];rintro L aK ⟨rfl,a⟩;have ab:=nB O a;replace b:=A9 a b;replace c:=A9 a c;replace d:=A9 a d;replace g:=A9 a g;replace i:=A9 a i;replace l:=A9 a l;replace n:=A9 a n;replace o:=A9 a o;replace q:=A9 a q;replace t:=A9 a t;clear a;go_wp2_with fail;go_ret;exact⟨rfl,ab.out⟩
    |true=>go_in;go_wp2_with fail;clear U;refine(zrt (IsV.stb.to S.out (C9 z.out)) (Bru.next N.out z.out) V).mono ?_;rw[show zkt s.X p.C.length=true from T.out.symm];rintro L aa ⟨rfl,a⟩;have y:=nB z a;replace b:=A9 a b;replace c:=A9 a c;replace d:=A9 a d;replace g:=A9 a g;replace i:=A9 a i;replace l:=A9 a l;replace n:=A9 a n;replace o:=A9 a o;replace q:=A9 a q;replace t:=A9 a t;clear a;go_wp2_with fail;refine(zrt (IsV.stb.to W.out (C9 y.out)) (Bru.next N.out y.out) Z).mono ?_;rw[show zkt s.D p.B.length=true from Y.out.symm];rintro L al ⟨rfl,a⟩;have O:=nB y a;replace b:=A9 a b;replace c:=A9 a c;replace d:=A9 a d;replace g:=A9 a g;replace i:=A9 a i;replace l:=A9 a l;replace n:=A9 a n;replace o:=A9 a o;replace q:=A9 a q;replace t:=A9 a t;clear a;go_wp2_with fail;refine(zxm (IsR.stb.to an.out (C9 O.out)) (Bru.next N.out O.out)).mono ?_;rw[<-ao.out];rintro L aK ⟨rfl,a⟩;have ab:=nB O a;replace b:=A9 a b;replace c:=A9 a c;replace d:=A9 a d;replace g:=A9 a g;replace i:=A9 a i;replace l:=A9 a l;replace n:=A9 a n;replace o:=A9 a o;replace q:=A9 a q;replace t:=A9 a t;clear a;go_wp2_with fail;go_ret;exact⟨rfl,ab.out⟩
structure OptQ (p:Prog) (s:Sol) (q:ProgQ) (x y:List Rat) (z:Rat):Prop where
 prog:p=I8 q
 good:Good q 1024
 X:s.X=C4 x
 D:s.D=C4 y
 val:s.val=E0 z
 lx:x.length=q.C.length
 ly:y.length=q.B.length
 sx:∀e∈x,Sz e 1024
 sy:∀e∈y,Sz e 1024
 sz:Sz z 1024
theorem yus {w:k} {A B C:Option Addr} {a:Nat} (d:IsM w S (.slice A p.A.length a) p.A) (e:IsV w S (.slice B p.B.length b) p.B) (f:IsV w S (.slice C p.C.length c) p.C):IsP w S (.agg #[.slice A p.A.length a,.slice B p.B.length b,.slice C p.C.length c]) p:=⟨A,a,B,b,C,c,rfl,d,e,f⟩
def zzb (q:ProgQ) (x y:List Rat):Bool:=W6 q.A q.B x&&Y4 q.A q.C y
theorem yya {w:k} {s:Sol} {q:ProgQ} {x y:List Rat} {z:Rat} (h:IsPS w (C5 w) v p s) (av:Bru w) (aA:OptQ p s q x y z):u j 219 #[v] w fun U w'=>U= .returned (.bool (zzb q x y))/\f w.heap.size w w':=by
 obtain⟨A,al,B,an,C,ao,P,aJ,Q,aK,X,ar,D,aq,R,aL,rfl,au,ac,ad,ay,af,hD,ae⟩:=h;obtain⟨aC,aD,aE,aO,aH,aG,aN,W⟩:=zny au ac ad ay af hD ae av;have aR:=znh ac;have aS:=znh ad;have aV:=znh af;have aT:=znh hD;have aU:=znh ae;clear au ac ad ay af hD ae av;have b:=F aA;unfold zzb;obtain⟨aI,ag⟩:=nm (W6 q.A q.B x);obtain⟨b2,ah⟩:=nm (Y4 q.A q.C y);rw[<-ag,<-ah];obtain⟨ab,ak⟩:=C7 ag ah;have Y:r (∀c:k,f w.heap.size w c->IsP c (C5 c) (.agg #[.slice A p.A.length al,.slice B p.B.length an,.slice C p.C.length ao]) (I8 q)):=fun c V=>(by have h:=yus (IsM.stb.to aC.out (C9 V)) (IsV.stb.to aD.out (C9 V)) (IsV.stb.to aE.out (C9 V));have U:=b.out.prog;rw[<-U];exact h);have aa:r (∀c:k,f w.heap.size w c->IsV c (C5 c) (.slice X s.X.length ar) (C4 x)):=fun c V=>(by rw[<-b.out.X];exact IsV.stb.to aH.out (C9 V));have aj:r (∀c:k,f w.heap.size w c->IsV c (C5 c) (.slice D s.D.length aq) (C4 y)):=fun c V=>(by rw[<-b.out.D];exact IsV.stb.to aG.out (C9 V));clear ag ah aA;obtain⟨e,ai,az,g,aP⟩:=J9 w #[.slice A p.A.length al,.slice B p.B.length an,.slice C p.C.length ao,.int .i64 s.st,.bool s.val.neg,.slice P s.val.num.length aJ,.slice Q s.val.den.length aK,.slice X s.X.length ar,.slice D s.D.length aq,.slice R s.R.length aL] 185;obtain⟨d,aQ⟩:=C7 az g;have l:=(g.cell 0:e.cell? ⟨w.heap.size,0,none⟩=some _);have n:=(g.cell 1:e.cell? ⟨w.heap.size,1,none⟩=some _);have o:=(g.cell 2:e.cell? ⟨w.heap.size,2,none⟩=some _);have t:=(g.cell 3:e.cell? ⟨w.heap.size,3,none⟩=some _);have L:=(g.cell 4:e.cell? ⟨w.heap.size,4,none⟩=some _);have M:=(g.cell 5:e.cell? ⟨w.heap.size,5,none⟩=some _);have N:=(g.cell 6:e.cell? ⟨w.heap.size,6,none⟩=some _);have O:=(g.cell 7:e.cell? ⟨w.heap.size,7,none⟩=some _);have S:=(g.cell 8:e.cell? ⟨w.heap.size,8,none⟩=some _);have T:=(g.cell 9:e.cell? ⟨w.heap.size,9,none⟩=some _);clear az g;cases aI with
 |false=>go_in;go_wp2_with fail;clear ai;refine(zuk (Y.out _ d.out) (aa.out _ d.out) (Bru.next W.out d.out) b.out.good b.out.lx b.out.sx).mono ?_;rw[show W6 q.A q.B x=false from ab.out.symm];rintro U aB ⟨rfl,a⟩;have i:=nB d a;replace l:=A9 a l;replace n:=A9 a n;replace o:=A9 a o;replace t:=A9 a t;replace L:=A9 a L;replace M:=A9 a M;replace N:=A9 a N;replace O:=A9 a O;replace S:=A9 a S;replace T:=A9 a T;clear a;go_wp2_with fail;go_ret;exact⟨rfl,i.out⟩
 |true=>
  cases b2 with
  |false=>go_in;go_wp2_with fail;clear ai;refine(zuk (Y.out _ d.out) (aa.out _ d.out) (Bru.next W.out d.out) b.out.good b.out.lx b.out.sx).mono ?_;rw[show W6 q.A q.B x=true from ab.out.symm];rintro U aB ⟨rfl,a⟩;have i:=nB d a;replace l:=A9 a l;replace n:=A9 a n;replace o:=A9 a o;replace t:=A9 a t;replace L:=A9 a L;replace M:=A9 a M;replace N:=A9 a N;replace O:=A9 a O;replace S:=A9 a S;replace T:=A9 a T;clear a;go_wp2_with fail;refine(yab (Y.out _ i.out) (aj.out _ i.out) (Bru.next W.out i.out) b.out.good b.out.ly b.out.sy).mono ?_;rw[show Y4 q.A q.C y=false from ak.out.symm];rintro U aM ⟨rfl,a⟩;have Z:=nB i a;replace l:=A9 a l;replace n:=A9 a n;replace o:=A9 a o;replace t:=A9 a t;replace L:=A9 a L;replace M:=A9 a M;replace N:=A9 a N;replace O:=A9 a O;replace S:=A9 a S;replace T:=A9 a T;clear a;go_wp2_with fail;go_ret;exact⟨rfl,Z.out⟩
  |true=>go_in;go_wp2_with fail;clear ai;refine(zuk (Y.out _ d.out) (aa.out _ d.out) (Bru.next W.out d.out) b.out.good b.out.lx b.out.sx).mono ?_;rw[show W6 q.A q.B x=true from ab.out.symm];rintro U aB ⟨rfl,a⟩;have i:=nB d a;replace l:=A9 a l;replace n:=A9 a n;replace o:=A9 a o;replace t:=A9 a t;replace L:=A9 a L;replace M:=A9 a M;replace N:=A9 a N;replace O:=A9 a O;replace S:=A9 a S;replace T:=A9 a T;clear a;go_wp2_with fail;refine(yab (Y.out _ i.out) (aj.out _ i.out) (Bru.next W.out i.out) b.out.good b.out.ly b.out.sy).mono ?_;rw[show Y4 q.A q.C y=true from ak.out.symm];rintro U aM ⟨rfl,a⟩;have Z:=nB i a;replace l:=A9 a l;replace n:=A9 a n;replace o:=A9 a o;replace t:=A9 a t;replace L:=A9 a L;replace M:=A9 a M;replace N:=A9 a N;replace O:=A9 a O;replace S:=A9 a S;replace T:=A9 a T;clear a;go_wp2_with fail;go_ret;exact⟨rfl,Z.out⟩
theorem yga {a b:Rat}:(V6 a b==0)=decide (a=b):=by rw[Bool.eq_iff_iff,beq_iff_eq,decide_eq_true_eq];exact cmpQ_zero
def zza (q:ProgQ) (x y:List Rat) (z:Rat):Bool:=decide (H7 q.C x=z)&&decide (H7 q.B y=z)
theorem yxz {w:k} {s:Sol} {q:ProgQ} {x y:List Rat} {z:Rat} (h:IsPS w (C5 w) v p s) (a7:Bru w) (t:OptQ p s q x y z):u j 216 #[v] w fun b w'=>b= .returned (.bool (zza q x y z))/\f w.heap.size w w':=by
 obtain⟨A,bn,B,ak,C,ac,P,N,Q,O,X,ad,D,al,R,bp,rfl,a6,aN,aO,a9,aQ,hD,aP⟩:=h;obtain⟨bv,bg,bh,bj,bm,bi,bx,V⟩:=zny a6 aN aO a9 aQ hD aP a7;have bF:=znh aN;have bG:=znh aO;have bJ:=znh aQ;have bH:=znh hD;have bI:=znh aP;clear a6 aN aO a9 aQ hD aP a7;have c:=F t;unfold zza;obtain⟨i,an⟩:=nm (H7 q.C x);obtain⟨o,C7⟩:=nm (H7 q.B y);rw[<-an,<-C7];obtain⟨a5,aR⟩:=nm (decide (i=z));obtain⟨b2,aS⟩:=nm (decide (o=z));obtain⟨ao,aT⟩:=nm (V6 i z);obtain⟨aY,aU⟩:=nm (V6 o z);have bK:(ao==0)=a5:=(by rw[aT,aR];exact yga);have bL:(aY==0)=b2:=(by rw[aU,aS];exact yga);rw[<-aR,<-aS];obtain⟨ay,a2,az,a3⟩:=V7 an C7 aT aU;have aA:r (Sz i 100000):=(by rw[r,an];exact zsj t.good.szC t.sx t.good.nC);have a4:r (Sz o 100000):=(by rw[r,C7];exact zsj t.good.szB t.sy t.good.nB);have Y:r (Sz z 100000):=t.sz.le og;have a0:r (∀a:k,f w.heap.size w a->IsV a (C5 a) (.slice B p.B.length ak) (C4 q.B)):=fun a g=>(by have b:p.B=C4 q.B:=(by rw[c.out.prog];rfl);rw[<-b];exact IsV.stb.to bg.out (C9 g));have au:r (∀a:k,f w.heap.size w a->IsV a (C5 a) (.slice C p.C.length ac) (C4 q.C)):=fun a g=>(by have b:p.C=C4 q.C:=(by rw[c.out.prog];rfl);rw[<-b];exact IsV.stb.to bh.out (C9 g));have av:r (∀a:k,f w.heap.size w a->IsV a (C5 a) (.slice X s.X.length ad) (C4 x)):=fun a g=>(by rw[<-c.out.X];exact IsV.stb.to bm.out (C9 g));have a1:r (∀a:k,f w.heap.size w a->IsV a (C5 a) (.slice D s.D.length al) (C4 y)):=fun a g=>(by rw[<-c.out.D];exact IsV.stb.to bi.out (C9 g));have W:r (∀a:k,f w.heap.size w a->IsQ a (C5 a) (.agg #[.bool s.val.neg,.slice P s.val.num.length N,.slice Q s.val.den.length O]) z):=fun a g=>(by have h:=IsR.stb.to bj.out (C9 g);have b:=c.out.val;unfold IsQ;rw[<-b];exact h);clear aR aS t an C7 aT aU;obtain⟨e,aV,d,l,bA⟩:=J9 w #[.slice A p.A.length bn,.slice B p.B.length ak,.slice C p.C.length ac,.int .i64 s.st,.bool s.val.neg,.slice P s.val.num.length N,.slice Q s.val.den.length O,.slice X s.X.length ad,.slice D s.D.length al,.slice R s.R.length bp] 185;obtain⟨bw,bB⟩:=C7 d l;have bC:=(l.cell 0:e.cell? ⟨w.heap.size,0,none⟩=some _);have aG:=(l.cell 1:e.cell? ⟨w.heap.size,1,none⟩=some _);have aH:=(l.cell 2:e.cell? ⟨w.heap.size,2,none⟩=some _);have bD:=(l.cell 3:e.cell? ⟨w.heap.size,3,none⟩=some _);have aI:=(l.cell 4:e.cell? ⟨w.heap.size,4,none⟩=some _);have aJ:=(l.cell 5:e.cell? ⟨w.heap.size,5,none⟩=some _);have aK:=(l.cell 6:e.cell? ⟨w.heap.size,6,none⟩=some _);have aL:=(l.cell 7:e.cell? ⟨w.heap.size,7,none⟩=some _);have aM:=(l.cell 8:e.cell? ⟨w.heap.size,8,none⟩=some _);have bE:=(l.cell 9:e.cell? ⟨w.heap.size,9,none⟩=some _);clear l;cases a5 with
 |false=>
  go_in;go_wp2_with fail;clear aV;have n:=hs7 aG aH aI aJ aK aL aM;have T:r (∀a:k,f e.heap.size e a->u j 97 #[.slice C p.C.length ac,.slice X s.X.length ad] a (K8 a i)):=fun a g=>(by rw[ay.out];exact zng (M:=q.C.length) (au.out _ (C8 d (show f e.heap.size e a from bel))) (av.out _ (C8 d (show f e.heap.size e a from bel))) (Bru.next V.out (C8 d (show f e.heap.size e a from bel))) rfl c.out.lx c.out.good.nC c.out.good.szC c.out.sx);refine wp_region_noPanic ?_;refine zld n fun a8=> ?_;refine sT 0 3 ?_;refine sT 1 4 ?_;refine sT 2 5 ?_;refine sT 3 6 ?_;refine sT 4 7 ?_;refine sT 5 8 ?_;refine sT 6 9 ?_;refine sT 8 11 ?_;refine sT 9 12 ?_;refine sT 10 13 ?_;refine wpAnyH_ready (rs:=[7]) kr (by simp) ?_;refine AllReadyH.cons rfl (fun aB ae=> ?_) AllReadyH.nil;go_simp;go_at_call 97;(with_reducible refine Calls.mono (T.out _ bel) ?_)
  rintro b M ⟨⟨bf,rfl,L⟩,bd⟩;have ab:=F (IsQ.stb.old L);obtain⟨ai,aa,ag,Z,ah,rfl,_,_,_⟩:=F9 L;have U:r (∀a:k,f M.heap.size M a->u j 96 #[.agg #[.bool ai,.slice aa (A8 i.num.natAbs).length ag,.slice Z (A8 i.den).length ah],.agg #[.bool s.val.neg,.slice P s.val.num.length N,.slice Q s.val.den.length O]] a (fun b w'=>b= .returned (.int .i64 ao)/\f a.heap.size a w')):=fun a g=>(by rw[az.out];exact zon (IsQ.stb.next ab.out bel) (W.out _ (C8 d (show f e.heap.size e a from bel))) aA.out Y.out);go_wp2_with fail;refine ae.out _ _ (n.out _ bel) (fun a8=> ?_);clear ae aB;refine wpAnyH_ready (rs:=[11]) kr (by simp) ?_;refine AllReadyH.cons rfl (fun aB ae=> ?_) AllReadyH.nil;go_simp;go_at_call 96;(with_reducible refine Calls.mono (U.out _ bel) ?_)
  rintro b S ⟨rfl,be⟩;go_wp2_with fail;refine ae.out _ _ (n.out _ bel) (fun a8=> ?_);clear ae aB;refine sT 12 15 ?_;refine sT 13 16 ?_;refine sU 14 17 ?_;refine sU 15 18 ?_;refine sU 16 19 ?_;refine sU 17 20 ?_;refine sU 18 21 ?_;refine sU 19 22 ?_;refine sU 20 23 ?_;refine sU 21 24 ?_;refine sU 22 25 ?_;refine sU 23 26 ?_;refine sU 24 27 ?_;refine sU 25 28 ?_;refine sU 26 29 ?_;refine sT 27 30 ?_;refine sT 28 2 ?_;refine wpAnyH_done kr ?_ _;refine NoPanic.normal ?_
  all_goals
   go_wp2_with fail
   go_ret
   exact⟨rfl,C8 d (show f e.heap.size e _ from bel)⟩
 |true=>
  cases b2 with
  |false=>
   go_in;go_wp2_with fail;clear aV;have n:=hs7 aG aH aI aJ aK aL aM;have T:r (∀a:k,f e.heap.size e a->u j 97 #[.slice C p.C.length ac,.slice X s.X.length ad] a (K8 a i)):=fun a g=>by rw[ay.out];exact zng (M:=q.C.length) (au.out _ (C8 d (show f e.heap.size e a from bel))) (av.out _ (C8 d (show f e.heap.size e a from bel))) (Bru.next V.out (C8 d (show f e.heap.size e a from bel))) rfl c.out.lx c.out.good.nC c.out.good.szC c.out.sx
   go_region_held3 (SH.mk _ n).s
    (exact n.out _ bel)
    (first
      |(go_at_call 97;(with_reducible refine Calls.mono (T.out _ bel) ?_);rintro b M ⟨⟨bf,rfl,L⟩,bd⟩;have ab:=F (IsQ.stb.old L);obtain⟨ai,aa,ag,Z,ah,rfl,_,_,_⟩:=F9 L;have U:r (∀a:k,f M.heap.size M a->u j 96 #[.agg #[.bool ai,.slice aa (A8 i.num.natAbs).length ag,.slice Z (A8 i.den).length ah],.agg #[.bool s.val.neg,.slice P s.val.num.length N,.slice Q s.val.den.length O]] a (fun b w'=>b= .returned (.int .i64 ao)/\f a.heap.size a w')):=fun a g=>by rw[az.out];exact zon (IsQ.stb.next ab.out bel) (W.out _ (C8 d (show f e.heap.size e a from bel))) aA.out Y.out)
      |(go_at_call 96;(with_reducible refine Calls.mono (U.out _ bel) ?_);rintro b S ⟨rfl,be⟩;have aq:r (∀a:k,f S.heap.size S a->u j 97 #[.slice B p.B.length ak,.slice D s.D.length al] a (K8 a o)):=fun a g=>by rw[a2.out];exact zng (M:=q.B.length) (a0.out _ (C8 d (show f e.heap.size e a from bel))) (a1.out _ (C8 d (show f e.heap.size e a from bel))) (Bru.next V.out (C8 d (show f e.heap.size e a from bel))) rfl c.out.ly c.out.good.nB c.out.good.szB c.out.sy)
      |(go_at_call 97;(with_reducible refine Calls.mono (aq.out _ bel) ?_);rintro b aj ⟨⟨bt,rfl,af⟩,bq⟩;have aE:=F (IsQ.stb.old af);obtain⟨aZ,aD,aW,aC,aX,rfl,_,_,_⟩:=F9 af;have ar:r (∀a:k,f aj.heap.size aj a->u j 96 #[.agg #[.bool aZ,.slice aD (A8 o.num.natAbs).length aW,.slice aC (A8 o.den).length aX],.agg #[.bool s.val.neg,.slice P s.val.num.length N,.slice Q s.val.den.length O]] a (fun b w'=>b= .returned (.int .i64 aY)/\f a.heap.size a w')):=fun a g=>by rw[a3.out];exact zon (IsQ.stb.next aE.out bel) (W.out _ (C8 d (show f e.heap.size e a from bel))) a4.out Y.out)
      |(go_at_call 96;(with_reducible refine Calls.mono (ar.out _ bel) ?_);rintro b bu ⟨rfl,br⟩))
   all_goals
    go_wp2_with fail
    go_ret
    exact⟨rfl,C8 d (show f e.heap.size e _ from bel)⟩
  |true=>
   go_in;go_wp2_with fail;clear aV;have n:=hs7 aG aH aI aJ aK aL aM;have T:r (∀a:k,f e.heap.size e a->u j 97 #[.slice C p.C.length ac,.slice X s.X.length ad] a (K8 a i)):=fun a g=>by rw[ay.out];exact zng (M:=q.C.length) (au.out _ (C8 d (show f e.heap.size e a from bel))) (av.out _ (C8 d (show f e.heap.size e a from bel))) (Bru.next V.out (C8 d (show f e.heap.size e a from bel))) rfl c.out.lx c.out.good.nC c.out.good.szC c.out.sx
   go_region_held3 (SH.mk _ n).s
    (exact n.out _ bel)
    (first
      |(go_at_call 97;(with_reducible refine Calls.mono (T.out _ bel) ?_);rintro b M ⟨⟨bf,rfl,L⟩,bd⟩;have ab:=F (IsQ.stb.old L);obtain⟨ai,aa,ag,Z,ah,rfl,_,_,_⟩:=F9 L;have U:r (∀a:k,f M.heap.size M a->u j 96 #[.agg #[.bool ai,.slice aa (A8 i.num.natAbs).length ag,.slice Z (A8 i.den).length ah],.agg #[.bool s.val.neg,.slice P s.val.num.length N,.slice Q s.val.den.length O]] a (fun b w'=>b= .returned (.int .i64 ao)/\f a.heap.size a w')):=fun a g=>by rw[az.out];exact zon (IsQ.stb.next ab.out bel) (W.out _ (C8 d (show f e.heap.size e a from bel))) aA.out Y.out)
      |(go_at_call 96;(with_reducible refine Calls.mono (U.out _ bel) ?_);rintro b S ⟨rfl,be⟩;have aq:r (∀a:k,f S.heap.size S a->u j 97 #[.slice B p.B.length ak,.slice D s.D.length al] a (K8 a o)):=fun a g=>by rw[a2.out];exact zng (M:=q.B.length) (a0.out _ (C8 d (show f e.heap.size e a from bel))) (a1.out _ (C8 d (show f e.heap.size e a from bel))) (Bru.next V.out (C8 d (show f e.heap.size e a from bel))) rfl c.out.ly c.out.good.nB c.out.good.szB c.out.sy)
      |(go_at_call 97;(with_reducible refine Calls.mono (aq.out _ bel) ?_);rintro b aj ⟨⟨bt,rfl,af⟩,bq⟩;have aE:=F (IsQ.stb.old af);obtain⟨aZ,aD,aW,aC,aX,rfl,_,_,_⟩:=F9 af;have ar:r (∀a:k,f aj.heap.size aj a->u j 96 #[.agg #[.bool aZ,.slice aD (A8 o.num.natAbs).length aW,.slice aC (A8 o.den).length aX],.agg #[.bool s.val.neg,.slice P s.val.num.length N,.slice Q s.val.den.length O]] a (fun b w'=>b= .returned (.int .i64 aY)/\f a.heap.size a w')):=fun a g=>by rw[a3.out];exact zon (IsQ.stb.next aE.out bel) (W.out _ (C8 d (show f e.heap.size e a from bel))) a4.out Y.out)
      |(go_at_call 96;(with_reducible refine Calls.mono (ar.out _ bel) ?_);rintro b bu ⟨rfl,br⟩))
   all_goals
    go_wp2_with fail
    go_ret
    exact⟨rfl,C8 d (show f e.heap.size e _ from bel)⟩
theorem yyc {w:k} {s:Sol} {b2 b3:Bool} (h:IsPS w (C5 w) v p s) (O:Bru w) (N:zrs p s=true->∃q x y z,OptQ p s q x y z/\b2=zzb q x y/\b3=zza q x y z):
 u j 217 #[v] w fun M w'=>M= .returned (.bool (zrs p s&&b2&&b3))/\f w.heap.size w w':=by obtain⟨H,I,K⟩:=F0 h O N;obtain⟨A,g,B,i,C,l,P,n,Q,o,X,E,D,m,R,t,rfl,_⟩:=h;clear O N;have V:r (∀a,f w.heap.size w a->Chk a 218 (.agg #[.slice A p.A.length g,.slice B p.B.length i,.slice C p.C.length l,.int .i64 s.st,.bool s.val.neg,.slice P s.val.num.length n,.slice Q s.val.den.length o,.slice X s.X.length E,.slice D s.D.length m,.slice R s.R.length t]) (zrs p s)):=fun a c L d=>yyb (IsPS.to H.out (C9 (C8 c d))) (Bru.next I.out (C8 c d));have W:r (zrs p s=true->∀a,f w.heap.size w a->Chk a 219 (.agg #[.slice A p.A.length g,.slice B p.B.length i,.slice C p.C.length l,.int .i64 s.st,.bool s.val.neg,.slice P s.val.num.length n,.slice Q s.val.den.length o,.slice X s.X.length E,.slice D s.D.length m,.slice R s.R.length t]) b2):=fun F a c L d=>(by obtain⟨q,x,y,z,J,aa,_⟩:=K.out F;rw[aa];exact yya (IsPS.to H.out (C9 (C8 c d))) (Bru.next I.out (C8 c d)) J);have Y:r (zrs p s=true->∀a,f w.heap.size w a->Chk a 216 (.agg #[.slice A p.A.length g,.slice B p.B.length i,.slice C p.C.length l,.int .i64 s.st,.bool s.val.neg,.slice P s.val.num.length n,.slice Q s.val.den.length o,.slice X s.X.length E,.slice D s.D.length m,.slice R s.R.length t]) b3):=fun F a c L d=>(by obtain⟨q,x,y,z,J,_,ab⟩:=K.out F;rw[ab];exact yxz (IsPS.to H.out (C9 (C8 c d))) (Bru.next I.out (C8 c d)) J);obtain⟨e,ad,S,b,af⟩:=J9 w #[.slice A p.A.length g,.slice B p.B.length i,.slice C p.C.length l,.int .i64 s.st,.bool s.val.neg,.slice P s.val.num.length n,.slice Q s.val.den.length o,.slice X s.X.length E,.slice D s.D.length m,.slice R s.R.length t] 185;have ah:=(b.cell 0:e.cell? ⟨w.heap.size,0,none⟩=some _);have ai:=(b.cell 1:e.cell? ⟨w.heap.size,1,none⟩=some _);have aj:=(b.cell 2:e.cell? ⟨w.heap.size,2,none⟩=some _);have ak:=(b.cell 3:e.cell? ⟨w.heap.size,3,none⟩=some _);have al:=(b.cell 4:e.cell? ⟨w.heap.size,4,none⟩=some _);have an:=(b.cell 5:e.cell? ⟨w.heap.size,5,none⟩=some _);have ao:=(b.cell 6:e.cell? ⟨w.heap.size,6,none⟩=some _);have aq:=(b.cell 7:e.cell? ⟨w.heap.size,7,none⟩=some _);have ar:=(b.cell 8:e.cell? ⟨w.heap.size,8,none⟩=some _);have au:=(b.cell 9:e.cell? ⟨w.heap.size,9,none⟩=some _);obtain⟨av,ae,T,U,ag⟩:=J9 e #[.func (.func 218) #[.agg #[.slice A p.A.length g,.slice B p.B.length i,.slice C p.C.length l,.int .i64 s.st,.bool s.val.neg,.slice P s.val.num.length n,.slice Q s.val.den.length o,.slice X s.X.length E,.slice D s.D.length m,.slice R s.R.length t]] #[],.func (.func 219) #[.agg #[.slice A p.A.length g,.slice B p.B.length i,.slice C p.C.length l,.int .i64 s.st,.bool s.val.neg,.slice P s.val.num.length n,.slice Q s.val.den.length o,.slice X s.X.length E,.slice D s.D.length m,.slice R s.R.length t]] #[],.func (.func 216) #[.agg #[.slice A p.A.length g,.slice B p.B.length i,.slice C p.C.length l,.int .i64 s.st,.bool s.val.neg,.slice P s.val.num.length n,.slice Q s.val.den.length o,.slice X s.X.length E,.slice D s.D.length m,.slice R s.R.length t]] #[]] 236;obtain⟨G,Z⟩:=C7 (C8 S T) U;clear S b T U;go_in;go_wp2_with fail;refine(yon (b2:=b2) (b3:=b3) Z.out (fun _=>by kernel_rfl) (fun _=>by kernel_rfl) (fun _=>by kernel_rfl) (V.out _ G.out) (fun F=>W.out F _ G.out) (fun F _=>Y.out F _ G.out)).mono ?_;rintro M ay ⟨rfl,ac⟩;clear ad ae;go_wp2_with fail;go_ret;exact⟨rfl,C8 G.out ac⟩
def zue (v:m):Option (DataW m×List MemPlace):=some (.held v,[])
theorem yeo {e:Type} {P:Program} (w:k) {ops:Array G} {rest:List G} {a:Act} {Q:Exit->Act->k->Prop}
 (p:o.guard=none) (g x v:Operand) (t:J) (u:o.op=Op.insert t g x v)
 (c i:J) (h:Keyed P c) (A:P.underlying t=some (.map c i)) (R:m->Option (DataW e×List MemPlace)) (b n:Nat) (D:DataW e)
 (r:a.eval g= .map (some b)) (y:w.ownsMap P c R b n D) (s:n<maxLen) (key val:m) (f:Lit) (C:a.eval x=key) (hv:a.eval v=val) (q:keyOf P c key=some f)
 (d:DataW e) (F:List MemPlace) (B:R val=some (d,F))
 (j:∀w',w'.ownsMap P c R b (n+1) (D.put f d)->w.grownBy w' (some b)->wpList P ops Q rest (a.put o.dst E) w'):
 wpList P ops Q (o::rest) a w:=by refine wpList_plain p fun K l=> ?_;obtain⟨w',z,H,I⟩:=y.update h A s q B;unfold Oper.wp;simp[execOp,u,r,C,hv,z,Result.andThen];exact l _ _ (j w' H I)
theorem Row.grownB {w w':k} {a:List m} (h:Row w g t a) (d:w.grownBy w' (some b)) (e:g≠b):Row w' g t a:=(d.block g h.lt (fun c=>e (by cases c;rfl))).trans h
theorem zz1477 {P:Program} (w:k) {ops:Array G} {rest:List G} {a:Act} {Q:Exit->Act->k->Prop} (q:o.guard=none) (g x:Operand) (t:J) (u:o.op=Op.lookup t g x true)
 (d f:J) (i:Keyed P d) (z:P.underlying t=some (.map d f)) (B:(zeroValue f).run P w= .ok .nilIface w) (b n:Nat) (D:DataW m) (s:a.eval g= .map (some b)) (y:w.ownsMap P d zue b n D) (key:m) (e:Lit) (A:a.eval x=key) (r:keyOf P d key=some e)
 (v:m) (c:Bool) (j:D.atKey e (.held .nilIface)= .held v) (l:Maps.has D e=c) (p:wpList P ops Q rest (a.put o.dst (.tuple #[v,.bool c])) w):wpList P ops Q (o::rest) a w:=
 wpList_lookup_own_ok w q g x t u d f i z zue B (.held .nilIface) [] rfl b n D s y key e A r (fun C E hv=>by
  have h:DataW.held C=D.atKey e (.held .nilIface):=congrArg Prod.fst (Option.some.inj hv)
  rw[j] at h
  cases h
  rw[l]
  exact p)
theorem zym:Keyed j 3:=int_keyed Tryz.underlying3
theorem zyl {x:Int} (h:(Lit.int .i64 x).wf=true):keyOf j 3 (.int .i64 x)=some (.int .i64 x):=keyOf_int_mk Tryz.underlying3 h
theorem zz1484 (w:k):(zeroValue 190).run j w= .ok .nilIface w:=by kernel_rfl
theorem zvv {w:k} {a b c d f i h:m} (e:Row w g t [a,b,c,d,f,i,h]):w.cell? ⟨g,0,none⟩=some a/\w.cell? ⟨g,1,none⟩=some b/\w.cell? ⟨g,2,none⟩=some c/\w.cell? ⟨g,3,none⟩=some d/\w.cell? ⟨g,4,none⟩=some f/\w.cell? ⟨g,5,none⟩=some i/\w.cell? ⟨g,6,none⟩=some h:=
 ⟨e.cell 0,e.cell 1,e.cell 2,e.cell 3,e.cell 4,e.cell 5,e.cell 6⟩
abbrev yfa (v:m):DataW m:=(((DataW.map []).put (.int .i64 1) (.held (.iface 185 v))).put (.int .i64 2) (.held (.iface 186 v))).put (.int .i64 3) (.held (.iface 187 v))
theorem yoi {c:Int} {T t:Nat} {w:k} {vp vs:m} {s:Sol} {b:Bool} (ag:IsP w (C5 w) vp p) (aV:IsSol w (C5 w) vs s) (aL:Bru w) (aC:zok p=0) (hst:s.st=c) (aP:(Lit.int .i64 c).wf=true) (U:∀(v:m) (w:k),(method 295 T v "parlour/dual.proves").run j w= .ok (t,v) w/\(method 340 T v "parlour/dual.proves").run j w= .ok (t,v) w/\(method 343 T v "parlour/dual.proves").run j w= .ok (t,v) w)
 (hF:∀(a:Array m) (w:k),(callFunc t a).run j w= .ok (.enter t a) w) (aN:∀v:m,(yfa v).atKey (.int .i64 c) (.held .nilIface)= .held (.iface T v)) (aM:∀v:m,Maps.has (yfa v) (.int .i64 c)=true)
 (hD:∀v,IsPS w (C5 w) v p s->∀G,f w.heap.size w G->u j t #[v] G fun y w'=>y= .returned (.bool b)/\f G.heap.size G w'):
 u j 106 #[vp,vs] w fun y w'=>y= .returned (.tuple #[.bool b,.int .i64 0])/\f w.heap.size w w':=by
 have aU:∃A d B g C h P l Q n X q D i R o,vp= .agg #[.slice A p.A.length d,.slice B p.B.length g,.slice C p.C.length h]/\vs= .agg #[.int .i64 s.st,.bool s.val.neg,.slice P s.val.num.length l,.slice Q s.val.den.length n,.slice X s.X.length q,.slice D s.D.length i,.slice R s.R.length o]/\IsPS w (C5 w) (.agg #[.slice A p.A.length d,.slice B p.B.length g,.slice C p.C.length h,.int .i64 s.st,.bool s.val.neg,.slice P s.val.num.length l,.slice Q s.val.den.length n,.slice X s.X.length q,.slice D s.D.length i,.slice R s.R.length o]) p s:=(by obtain⟨A,d,B,g,C,h,rfl,aD,aE,aG⟩:=ag;obtain⟨P,l,Q,n,X,q,D,i,R,o,rfl,aH,aI,aJ,aK⟩:=aV;exact⟨A,d,B,g,C,h,P,l,Q,n,X,q,D,i,R,o,rfl,rfl,A,d,B,g,C,h,P,l,Q,n,X,q,D,i,R,o,rfl,aD,aE,aG,aH,aI,aJ,aK⟩);obtain⟨av,ar⟩:=C7 ag aL;obtain⟨A,d,B,g,C,h,P,l,Q,n,X,q,D,i,R,o,rfl,rfl,hv⟩:=aU;have ay:=F aC;rw[hst] at hv⊢;have au:=F (hD _ hv);obtain⟨e,a6,aO,ah,al,az⟩:=zkd w #[.slice A p.A.length d,.slice B p.B.length g,.slice C p.C.length h] #[.int .i64 c,.bool s.val.neg,.slice P s.val.num.length l,.slice Q s.val.den.length n,.slice X s.X.length q,.slice D s.D.length i,.slice R s.R.length o] 54 69;obtain⟨ab,aA,aB⟩:=F0 aO ah al;obtain⟨H,I,J⟩:=C0 ah;obtain⟨s0,K,L,M,N,O,S⟩:=zvv al;have a4:= @run_makeMap j;have a1:=fun w=>(U (.agg #[.slice A p.A.length d,.slice B p.B.length g,.slice C p.C.length h,.int .i64 c,.bool s.val.neg,.slice P s.val.num.length l,.slice Q s.val.den.length n,.slice X s.X.length q,.slice D s.D.length i,.slice R s.R.length o]) w).1;have a2:=fun w=>(U (.agg #[.slice A p.A.length d,.slice B p.B.length g,.slice C p.C.length h,.int .i64 c,.bool s.val.neg,.slice P s.val.num.length l,.slice Q s.val.den.length n,.slice X s.X.length q,.slice D s.D.length i,.slice R s.R.length o]) w).2.1;have a3:=fun w=>(U (.agg #[.slice A p.A.length d,.slice B p.B.length g,.slice C p.C.length h,.int .i64 c,.bool s.val.neg,.slice P s.val.num.length l,.slice Q s.val.den.length n,.slice X s.X.length q,.slice D s.D.length i,.slice R s.R.length o]) w).2.2;go_in;go_wp2_with fail;refine(zze av.out ar.out ab.out).mono ?_;rw[ay.out];rintro y r ⟨rfl,x⟩;have z:=C8 ab.out x;have a0:=F z;have aW:=aA.out.next x;have aY:=aB.out.next x;have a7:=az.out;have hs1:=x.size;have Z:w.heap.size≠r.heap.size:=og;have aa:w.heap.size+1≠r.heap.size:=og;have aQ:=World.ownsMap_made r j 3 zue;have ac:f w.heap.size w (r.alloc (.map #[] 0)):=T4 z _;have a5:(r.alloc (.map #[] 0)).heap.size=r.heap.size+1:=World.size_alloc _ _;have ai:=aW.alloc (.map #[] 0);have an:=aY.alloc (.map #[] 0);obtain⟨H,I,J⟩:=C0 ai;obtain⟨s0,K,L,M,N,O,S⟩:=zvv an
 go_wp2_with (first
  |(at_lookup;refine zz1477 _ rfl _ _ 188 rfl 3 190 zym Tryz.underlying188 (zz1484 _) r.heap.size 3 _ rfl aT _ _ rfl (zyl aP) (.iface T (.agg #[.slice A p.A.length d,.slice B p.B.length g,.slice C p.C.length h,.int .i64 c,.bool s.val.neg,.slice P s.val.num.length l,.slice Q s.val.den.length n,.slice X s.X.length q,.slice D s.D.length i,.slice R s.R.length o])) true (aN _) (aM _) ?_)
  |(refine yeo _ rfl _ _ _ 188 rfl 3 190 zym Tryz.underlying188 zue r.heap.size 2 _ rfl aS (by unfold maxLen;omega) (.int .i64 3) (.iface 187 (.agg #[.slice A p.A.length d,.slice B p.B.length g,.slice C p.C.length h,.int .i64 c,.bool s.val.neg,.slice P s.val.num.length l,.slice Q s.val.den.length n,.slice X s.X.length q,.slice D s.D.length i,.slice R s.R.length o])) _ rfl rfl (zyl (x:=3) (by decide)) _ [] rfl ?_;intro be aT Y;have aX:=Row.grownB ak Y Z;have aZ:=Row.grownB aq Y aa;have af:=Below.grown ae Y ae.size (fun c E=>by cases E;exact z.size);obtain⟨H,I,J⟩:=C0 aX;obtain⟨s0,K,L,M,N,O,S⟩:=zvv aZ)
  |(refine yeo _ rfl _ _ _ 188 rfl 3 190 zym Tryz.underlying188 zue r.heap.size 1 _ rfl aR (by unfold maxLen;omega) (.int .i64 2) (.iface 186 (.agg #[.slice A p.A.length d,.slice B p.B.length g,.slice C p.C.length h,.int .i64 c,.bool s.val.neg,.slice P s.val.num.length l,.slice Q s.val.den.length n,.slice X s.X.length q,.slice D s.D.length i,.slice R s.R.length o])) _ rfl rfl (zyl (x:=2) (by decide)) _ [] rfl ?_;intro bd aS W;have ak:=Row.grownB aj W Z;have aq:=Row.grownB ao W aa;have ae:=Below.grown ad W ad.size (fun c E=>by cases E;exact z.size);obtain⟨H,I,J⟩:=C0 ak;obtain⟨s0,K,L,M,N,O,S⟩:=zvv aq)
  |(refine yeo _ rfl _ _ _ 188 rfl 3 190 zym Tryz.underlying188 zue r.heap.size 0 _ rfl aQ (by unfold maxLen;omega) (.int .i64 1) (.iface 185 (.agg #[.slice A p.A.length d,.slice B p.B.length g,.slice C p.C.length h,.int .i64 c,.bool s.val.neg,.slice P s.val.num.length l,.slice Q s.val.den.length n,.slice X s.X.length q,.slice D s.D.length i,.slice R s.R.length o])) _ rfl rfl (zyl (x:=1) (by decide)) _ [] rfl ?_;intro a9 aR V;have aj:=Row.grownB ai V Z;have ao:=Row.grownB an V aa;have ad:=Below.grown ac V ac.size (fun c E=>by cases E;exact z.size);obtain⟨H,I,J⟩:=C0 aj;obtain⟨s0,K,L,M,N,O,S⟩:=zvv ao))
 refine(au.out _ af).mono ?_;rintro y a8 ⟨rfl,x⟩;go_wp2_with fail;go_ret2;exact⟨rfl,C8 af x⟩
theorem yoh {w:k} {vp vs:m} {s:Sol} {b:Bool} (g:IsP w (C5 w) vp p) (h:IsSol w (C5 w) vs s) (e:Bru w) (d:zok p=0) (hst:s.st=1)
 (hD:∀v,IsPS w (C5 w) v p s->∀a,f w.heap.size w a->u j 217 #[v] a fun c w'=>c= .returned (.bool b)/\f a.heap.size a w'):
 u j 106 #[vp,vs] w fun c w'=>c= .returned (.tuple #[.bool b,.int .i64 0])/\f w.heap.size w w':=
 yoi (T:=185) g h e d hst (by decide) (fun _ _=>⟨by kernel_rfl,by kernel_rfl,by kernel_rfl⟩) (fun _ _=>by kernel_rfl) (fun _=>rfl) (fun _=>rfl) hD
def zkg:List Bool->Nat
 |[]=>0
 |b::l=>(if b then 0 else 1)+zkg l
theorem zvz:∀{l:List Bool} {i:Nat},l[i]? =some false->zkg (l.set i true)+1=zkg l
 |b::l,0,h=>by simp at h;subst h;simp[zkg];omega
 |b::l,i+1,h=>by
  have:=zvz (l:=l) (i:=i) (by simpa using h)
  simp only[List.set_cons_succ,zkg]
  omega
theorem zwa:∀{l:List Bool} {i:Nat} {b:Bool},zkg l=0->l[i]? =some b->b=true
 |c::l,0,b,h,a=>by
  simp at a
  subst a
  cases c
  ·simp[zkg] at h
  ·rfl
 |c::l,i+1,b,h,a=>by
  refine zwa (l:=l) (i:=i) ?_ (by simpa using a)
  simp only[zkg] at h
  omega
theorem zvy (n:Nat):zkg (List.replicate n false)=n:=by
 induction n with
 |zero=>rfl
 |succ n ih=>rw[List.replicate_succ,zkg,ih];simp;omega
def W7 (o:G):List Nat:=(o.after.toList.filter (Region.binds .any)).map (·.on)
def zmm (ops:Array G) (t:Nat):Bool:=ops.toList.any fun o=>o.dst==some t
def zyf (ops:Array G) (n:Nat):Bool:=
 (List.range ops.size).all fun i=>(ops[i]?).any fun o=>
  (o.dst.any fun d=>decide (d<n)&&(List.range ops.size).all fun a=>decide (a=i)|| !((ops[a]?).any fun b=>b.dst==some d))&&(W7 o).all fun a=>decide (a<i)
section
variable {P : Program} {ops : Array G} {Q : Exit → Act → k → Prop} {Φ : Nat → m → k → Prop} {l : Act} {e : k}
theorem yhw (h:zyf ops n=true) (p:ops[i]? =some o):
 ∃d,o.dst=some d/\d<n/\(∀a l,ops[a]? =some l->l.dst=some d->a=i)/\∀a∈W7 o,a<i:=by
 unfold zyf at h;have t:i<ops.size:=(Array.getElem?_eq_some_iff.1 p).1;have e:=List.all_eq_true.1 h i (List.mem_range.2 t);rw[p] at e;simp only[Option.any_some,K] at e;obtain⟨b,q⟩:=e;cases hd:o.dst with
 |none=>rw[hd] at b;simp at b
 |some d=>rw[hd] at b;simp only[Option.any_some,K,decide_eq_true_eq] at b;refine⟨d,rfl,b.1,fun a l c v=> ?_,fun a c=>by simpa using List.all_eq_true.1 q a c⟩;have s:a<ops.size:=(Array.getElem?_eq_some_iff.1 c).1;have g:=List.all_eq_true.1 b.2 a (List.mem_range.2 s);rw[c] at g;simp only[Option.any_some,v,beq_self_eq_true,Bool.not_true,Bool.or_false,decide_eq_true_eq] at g;exact g
structure GrowInv (ops:Array G) (Φ:Nat->m->k->Prop) (l:Act) (e:k) (listed:Array Bool) (a:Act) (w:k):Prop where
 size:a.tmps.size=l.tmps.size
 defers:a.defers=l.defers
 below:f e.heap.size e w
 free:∀t,zmm ops t=false->a.tmps[t]? =l.tmps[t]?
 holds:∀j oj d,ops[j]? =some oj->listed[j]? =some true->oj.dst=some d->Φ j (a.tmps.getD d E) w
theorem zzj (a:Act) (d:Tmp) (v:m):(a.put (some d) v).tmps.size=a.tmps.size:=by simp[Act.put]
theorem zwr (a:Act) {d t:Nat} (v:m) (h:t≠d):(a.put (some d) v).tmps[t]? =a.tmps[t]? :=by simp only[Act.put];rw[Array.getElem?_setIfInBounds_ne (Ne.symm h)]
theorem zzi (a:Act) {d:Nat} (v:m) (h:d<a.tmps.size):(a.put (some d) v).tmps.getD d E=v:=by simp[Act.put,h]
theorem zye {a b:Array m} {t:Nat} (h:a[t]? =b[t]?):a.getD t E=b.getD t E:=by simp only[I,h]
theorem zvb {listed:Array Bool} (g:ops[i]? =some o) (hr:i∈Region.ready .any ops listed):listed.getD i true=false/\∀d∈W7 o,listed.getD d false=true:=by unfold Region.ready at hr;have a:=(List.mem_filter.1 hr).2;rw[g] at a;simp only[Option.map_some,Option.getD_some,K,Bool.not_eq_true'] at a;refine⟨a.1,fun d h=> ?_⟩;obtain⟨e,b,rfl⟩:=List.mem_map.1 h;obtain⟨b,f⟩:=List.mem_filter.1 b;have c:=(Array.all_eq_true'.1 a.2) e (by simpa using b);rw[f] at c;simpa using c
theorem zz1470 (hst:∀i v w w',Φ i v w->f w.heap.size w w'->Φ i v w') (W:zyf ops l.tmps.size=true)
 (ah:∀i o,ops[i]? =some o->∀(a:Act) (w:k),a.tmps.size=l.tmps.size->a.defers=l.defers->f e.heap.size e w->(∀t,zmm ops t=false->a.tmps[t]? =l.tmps[t]?)->
   (∀b c d,b∈W7 o->ops[b]? =some c->c.dst=some d->Φ b (a.tmps.getD d E) w)->
   if Region.wanted o (yielded ops a.tmps)=true then o.wp P a w (fun U w'=>∃v,U=a.put o.dst v/\f w.heap.size w w'/\Φ i v w') Q else Φ i E w)
 (ad:∀(a:Act) (w:k),a.tmps.size=l.tmps.size->a.defers=l.defers->f e.heap.size e w->(∀t,zmm ops t=false->a.tmps[t]? =l.tmps[t]?)->
   (∀b c d,ops[b]? =some c->c.dst=some d->Φ b (a.tmps.getD d E) w)->Q .normal a w):
 ∀(z:Nat) (listed:Array Bool) (a:Act) (w:k),listed.size=ops.size->zkg listed.toList<=z->GrowInv ops Φ l e listed a w->wpAny P .any ops Q z listed a w:=by
 have done:∀(listed:Array Bool) (a:Act) (w:k),listed.size=ops.size->Region.ready .any ops listed=[]->GrowInv ops Φ l e listed a w->Q .normal a w:=by
  intro listed a w B hr inv
  have all:∀n i,i<n->i<ops.size->listed[i]? =some true:=by
   intro n;induction n with
   |zero=>intro i p;omega
   |succ n ih=>
    intro i p x;rcases Nat.lt_or_ge i n with h|h
    ·exact ih i h x
    ·obtain rfl:i=n:=og;have s:i<listed.size:=og;cases D:listed[i] with
     |true=>rw[H s,D]
     |false=>
      exfalso
      have q:i∈Region.ready .any ops listed:=by
       unfold Region.ready;refine List.mem_filter.2 ⟨List.mem_range.2 x,?_⟩;have p:ops[i]? =some ops[i]:=H x;obtain⟨d,hd,_,_,af⟩:=yhw W p;rw[p];simp only[Option.map_some,Option.getD_some,K,Bool.not_eq_true'];refine⟨by simp[I,H s,D],Array.all_eq_true'.2 fun y ac=> ?_⟩;cases Z:Region.binds .any y with
       |false=>rfl
       |true=>have g:=af y.on (List.mem_map.2 ⟨y,List.mem_filter.2 ⟨by simpa using ac,Z⟩,rfl⟩);have:=ih y.on g og;simp[I,this]
      rw[hr] at q;cases q
  exact ad a w inv.size inv.defers inv.below inv.free fun b c d g hd=>inv.holds b c d g (all (b+1) b og (Array.getElem?_eq_some_iff.1 g).1) hd
 intro z;induction z with
 |zero=>
  intro listed a w B hc inv
  have hr:Region.ready .any ops listed=[]:=by
   cases hr:Region.ready .any ops listed with
   |nil=>rfl
   |cons i ai=>exfalso;have q:i∈Region.ready .any ops listed:=(by rw[hr];simp);have x:i<ops.size:=(by unfold Region.ready at q;exact List.mem_range.1 (List.mem_filter.1 q).1);have O:=(zvb (H x) q).1;have s:i<listed.size:=og;have R:=zwa (l:=listed.toList) (i:=i) (b:=listed[i]) og (by simp[s]);simp[I,H s,R] at O
  exact⟨hr,done listed a w B hr inv⟩
 |succ z ih=>
  intro listed a w B hc inv;refine⟨fun hr=>done listed a w B hr inv,fun i q=> ?_⟩;have x:i<ops.size:=(by unfold Region.ready at q;exact List.mem_range.1 (List.mem_filter.1 q).1);have p:ops[i]? =some ops[i]:=H x;obtain⟨O,R⟩:=zvb p q;have s:i<listed.size:=og;have D:listed[i]=false:=(by simpa[I,H s] using O);obtain⟨d,hd,aa,ab,_⟩:=yhw W p;have M:=ah i ops[i] p a w inv.size inv.defers inv.below inv.free fun b c C g Y A=>inv.holds b c C Y (by have V:=R b g;have X:b<listed.size:=(by have:=(Array.getElem?_eq_some_iff.1 Y).1;omega);rw[H X];simp only[I,H X,Option.getD_some] at V;rw[V]) A
  have next:∀(v:m) (w':k),f w.heap.size w w'->Φ i v w'->wpAny P .any ops Q z (listed.setIfInBounds i true) (a.put ops[i].dst v) w':=by
   intro v w' L hv;rw[hd];refine ih _ _ _ (by simp[B]) ?_ ⟨by rw[zzj];exact inv.size,inv.defers,inv.below.trans (L.mono inv.below.size),fun t N=> ?_,fun b c C g ae A=> ?_⟩
   ·have:=zvz (l:=listed.toList) (i:=i) (by simp[s,D]);simp only[Array.toList_setIfInBounds];omega
   ·rw[zwr _ _ (by rintro rfl;unfold zmm at N;rw[List.any_eq_false] at N;exact N ops[i] (by simp) (by rw[hd];simp))];exact inv.free t N
   ·by_cases S:b=i
    ·subst S;rw[p] at g;cases g;rw[hd] at A;cases A;rw[zzi _ _ (by rw[inv.size];exact aa)];exact hv
    ·have ag:C≠d:=fun y=>S (ab b c g (by rw[A,y]));rw[zye (zwr a v ag)];refine hst _ _ _ _ (inv.holds b c C g ?_ A) L;rwa[Array.getElem?_setIfInBounds_ne (Ne.symm S)] at ae
  unfold wpOp;rw[p];simp only;split
  ·rename_i T;rw[if_pos T] at M;exact .inl (Oper.wp_mono (fun U w' ⟨v,ha,L,hv⟩=>by rw[ha];exact next v w' L hv) M)
  ·rename_i T;rw[if_neg T] at M;exact next E w (Below.refl _ _) M
theorem zz1482 {id:Nat} (Φ:Nat->m->k->Prop) (p:P.follows .mixedOrders=true) (hst:∀i v w w',Φ i v w->f w.heap.size w w'->Φ i v w') (n:zyf ops l.tmps.size=true)
 (q:∀i o,ops[i]? =some o->∀(a:Act) (w:k),a.tmps.size=l.tmps.size->a.defers=l.defers->f e.heap.size e w->(∀t,zmm ops t=false->a.tmps[t]? =l.tmps[t]?)->
   (∀b c d,b∈W7 o->ops[b]? =some c->c.dst=some d->Φ b (a.tmps.getD d E) w)->
   if Region.wanted o (yielded ops a.tmps)=true then o.wp P a w (fun h w'=>∃v,h=a.put o.dst v/\f w.heap.size w w'/\Φ i v w') Q else Φ i E w)
 (j:∀(a:Act) (w:k),a.tmps.size=l.tmps.size->a.defers=l.defers->f e.heap.size e w->(∀t,zmm ops t=false->a.tmps[t]? =l.tmps[t]?)->
   (∀b c d,ops[b]? =some c->c.dst=some d->Φ b (a.tmps.getD d E) w)->Q .normal a w):
 (Code.region id ops true).wp P Q l e:=by refine wp_region_any p (zz1470 hst n q j _ _ _ _ (by simp) (by simp[zvy]) ⟨rfl,rfl,⟨rfl,rfl,rfl,Nat.le_refl _,fun _ _=>rfl⟩,fun _ _=>rfl,fun b c d r g hd=> ?_⟩);rw[Array.getElem?_replicate] at g;split at g<;>cases g
end
end Go.Proofs.YtlhhbccgfkhflaaGreatDoor
