/-
 The contract of package simplex's helping.
-/
import Derived.Test.YtlhhbccgfkhflaaGreatDoorProofSimplexPivots11
import Derived.Laws.OwnMore
namespace Go.Proofs.YtlhhbccgfkhflaaGreatDoor
open Go.RowKit
set_option linter.unusedVariables false
set_option maxRecDepth 100000
set_option maxHeartbeats 8000000
open _root_.Go.Lib renaming hid → e
open _root_.Nat renaming le_refl → i, le_trans → o, lt_of_lt_of_le → q, lt_or_ge → s, zero_le → v
open _root_.Go.World renaming cell?_setCell_other → p
open _root_.And renaming intro → d
open _root_.Go renaming World → f, Calls → u
open _root_.Go.RowKit renaming Hid → b
variable {L : Lay} {M c g j k lo0 m n r top : Nat} {S : Nat → Prop} {a steps : Int} {sc : Nat → Nat} {t : TB}
theorem yux {w:f} {lo:Nat} {st:Int} (hr:r<m) (h:U8 w S lo0 lo g L m n sc top t st a steps) (bg:m<=100) (bh:n<=100):
 u Tryz.prog 149 #[.pointer (some ⟨g,0,none⟩),.int .i64 (r:Int)] w fun aE w'=>aE= .returned (.int .i64 (O0 (zpa n t r)))/\Below w.heap.size w w':=by
 obtain⟨Y,az⟩:=C5 h hr;have bi:(0:Int)<=(r:Int):=og;have bj:(r:Int)<(m:Int):=og;obtain⟨aU,bp,aV,bq,D0,aZ,aX,a1,-,⟨aH,ag,ah,aI,aJ⟩,-,-,-⟩:=h.open;obtain⟨A,R⟩:=nm (fun j=>decide (t.A r j<0));obtain⟨key,q⟩:=nm (fun l=>t.oth.getD l 0);have aA:b (zpa n t r=W6 A key n):=(by rw[b,R,q];rfl);rw[aA.out];obtain⟨av,X⟩:=C5 R q;have G:=h.cap r og;rw[J4 og] at G;have a5:=G.1;have a6:L.cp r<=9223372036854775807:=(by have:=G.2;unfold maxLen at this;omega);have Q:=h.caps;have be:n<=L.oc:=og;have bf:L.oc<=9223372036854775807:=(by unfold maxLen at Q;omega);have bm:m<=L.rc:=og;have bn:L.rc<=9223372036854775807:=(by unfold maxLen at Q;omega);obtain⟨af,aK,ad⟩:=h.hd r hr;rw[af] at ah;clear h R q Q G hr af aK;have a0:=T3;clear aH aI aJ;obtain⟨aY,P⟩:=nm (L.ha r);rw[<-P] at ad;have au:=e P;clear P;have aB:=e ag;go_in;go_wp2_with fail;clear ah ag ad;go_loopw [17,5,6,7] (fun V best _ _ wr=>∃k:Nat,k<=n/\V= .int .i64 (k:Int)/\best= .int .i64 (O0 (W6 A key k))/\Below w.heap.size w wr) (fun V _ _ _ _=>n-(intOf V).toNat);case atStart=>exact⟨0,v _,rfl,rfl,Below.refl _ _⟩
 case round=>
  obtain⟨k,bd,rfl,rfl,aj⟩:=hrel;have y:=e aj;clear aj;rcases s k n with H|a7
  ·obtain⟨aC,aP,aD,aR,ea,M,N,ae,eq⟩:=(Y.out.next y.out).el (l:=r) (j:=k) og (by rw[J4 og];exact H);rw[zvu az.out] at M N eq;obtain⟨aQ,hI⟩:=(Y.out.next y.out).othW og;have W:=C0 y.out aB.out;rw[aQ] at W;have ac:=hI.el k H;have ay:=e H;have a8:(0:Int)<=(k:Int):=og;have a9:(k:Int)<(n:Int):=og;have C:=e eq;obtain⟨J,U⟩:=nm (decide (t.A r k<0));obtain⟨aT,an⟩:=nm ((A9 (t.A r k).natAbs).length);obtain⟨aS,al⟩:=nm ((A9 1).length);rw[<-U] at M C;rw[<-an] at N C;rw[<-al] at ae C;obtain⟨aq,aN,p,ao,aO⟩:=J5 wr #[.bool J,.slice aC aT aP,.slice aD aS aR] 30;obtain⟨D,E,b2⟩:=B9 ao;have ar:=e p;have B:=nB y p;have I:=C0 p W;have o:=C0 p ac;have q:∀l,(fun l=>t.oth.getD l 0) l=key l:=fun l=>(by rw[X.out]);have z:t.oth.getD k 0=key k:=q k;have o:aq.cell? ⟨L.ob,k,none⟩=some (.int .i64 ((key k:Nat):Int)):=(by rw[<-z];exact o);have aW:=nQ C p;have Z:b (A k=J):=(by rw[b,av.out,U]);have aG:=au.out.trans ea;subst aG;clear U an al ao aO p eq W ac z q H;go_wp2_with fail;clear aN M N ae;have d:b (k+1<=n):=ay.out;cases x:A k with
   |false=>have T:J=false:=Z.out.symm.trans x;subst T;have i:=hs5 D E b2 I o;refine wp_region_noPanic ?_;refine zkq i fun O=> ?_;refine sT 0 22 ?_;refine sT 1 23 ?_;refine sT 2 24 ?_;refine sU 3 25 ?_;refine sU 4 26 ?_;refine sU 5 27 ?_;refine sU 6 28 ?_;refine sU 7 29 ?_;refine sU 8 30 ?_;refine sU 9 31 ?_;refine sU 10 32 ?_;refine sU 11 33 ?_;refine sU 12 34 ?_;refine sU 13 35 ?_;refine sU 14 36 ?_;refine sU 15 37 ?_;refine sU 16 38 ?_;refine sU 17 39 ?_;refine sU 18 40 ?_;refine sU 19 41 ?_;refine sU 20 42 ?_;refine sU 21 43 ?_;refine sU 22 44 ?_;refine sU 23 45 ?_;refine sT 24 46 ?_;refine wpAnyH_done kr ?_ _;refine NoPanic.normal ?_;go_wp2_with fail;have K:=B.out;go_roundw;(case rel=>exact⟨k+1,d.out,by go_num,by rw[ycv x],bel⟩);case measure=>simp[intOf];have:=d.out;omega
   |true=>
    have T:J=true:=Z.out.symm.trans x;subst T;cases F:W6 A key k with
    |none=>have ai:O0 (none:Option Nat)= -1:=rfl;rw[ai];have i:=hs5 D E b2 I o;refine wp_region_noPanic ?_;refine zkq i fun O=> ?_;refine sT 0 22 ?_;refine sT 1 23 ?_;refine sT 2 24 ?_;refine sT 3 25 ?_;refine sT 4 26 ?_;refine sT 5 27 ?_;refine sU 6 28 ?_;refine sU 7 29 ?_;refine sU 8 30 ?_;refine sU 9 31 ?_;refine sU 10 32 ?_;refine sU 11 33 ?_;refine sU 12 34 ?_;refine sU 13 35 ?_;refine sU 14 36 ?_;refine sU 15 37 ?_;refine sU 16 38 ?_;refine sU 17 39 ?_;refine sU 18 40 ?_;refine sU 19 41 ?_;refine sU 20 42 ?_;refine sU 21 43 ?_;refine sU 22 44 ?_;refine sT 23 45 ?_;refine sT 24 46 ?_;refine wpAnyH_done kr ?_ _;refine NoPanic.normal ?_;go_wp2_with fail;have K:=B.out;go_roundw;(case rel=>exact⟨k+1,d.out,by go_num,by rw[ycu x F],bel⟩);case measure=>simp[intOf];have:=d.out;omega
    |some c=>
     have a4:c<k:=(znl F).1;have aa:=hI.el c (oh d);have z:t.oth.getD c 0=key c:=(by rw[X.out]);have ab:aq.cell? ⟨L.ob,c,none⟩=some (.int .i64 ((key c:Nat):Int)):=(by rw[<-z];exact C0 ar.out aa);clear z;have a2:(0:Int)<=(c:Int):=og;have a3:(c:Int)<(n:Int):=oh d;have aL:O0 (some c)=(c:Int):=rfl;rw[aL];have ai:decide ((c:Int)<0)=false:=decide_eq_false og;clear aa;by_cases ak:key k<key c
     ·have aM:decide (((key k:Nat):Int)<((key c:Nat):Int))=true:=decide_eq_true og;have i:=zmx D E b2 I o ab;refine wp_region_noPanic ?_;refine zkq i fun O=> ?_;refine sT 0 22 ?_;refine sT 1 23 ?_;refine sT 2 24 ?_;refine sT 3 25 ?_;refine sT 4 26 ?_;refine sT 5 27 ?_;refine sT 6 28 ?_;refine sT 7 29 ?_;refine sT 8 30 ?_;refine sT 9 31 ?_;refine sT 10 32 ?_;refine sT 11 33 ?_;refine sT 12 34 ?_;refine sT 13 35 ?_;refine sT 14 36 ?_;refine sT 15 37 ?_;refine sT 16 38 ?_;refine sT 17 39 ?_;refine sT 18 40 ?_;refine sT 19 41 ?_;refine sT 20 42 ?_;refine sT 21 43 ?_;refine sT 22 44 ?_;refine sT 23 45 ?_;refine sT 24 46 ?_;refine wpAnyH_done kr ?_ _;refine NoPanic.normal ?_;go_wp2_with fail;have K:=B.out;go_roundw;(case rel=>exact⟨k+1,d.out,by go_num,by rw[yct x F ak],bel⟩);case measure=>simp[intOf];have:=d.out;omega
     ·have aM:decide (((key k:Nat):Int)<((key c:Nat):Int))=false:=decide_eq_false og;have i:=zmx D E b2 I o ab;refine wp_region_noPanic ?_;refine zkq i fun O=> ?_;refine sT 0 22 ?_;refine sT 1 23 ?_;refine sT 2 24 ?_;refine sT 3 25 ?_;refine sT 4 26 ?_;refine sT 5 27 ?_;refine sT 6 28 ?_;refine sT 7 29 ?_;refine sT 8 30 ?_;refine sT 9 31 ?_;refine sT 10 32 ?_;refine sT 11 33 ?_;refine sT 12 34 ?_;refine sT 13 35 ?_;refine sT 14 36 ?_;refine sT 15 37 ?_;refine sT 16 38 ?_;refine sT 17 39 ?_;refine sT 18 40 ?_;refine sT 19 41 ?_;refine sT 20 42 ?_;refine sT 21 43 ?_;refine sT 22 44 ?_;refine sT 23 45 ?_;refine sT 24 46 ?_;refine wpAnyH_done kr ?_ _;refine NoPanic.normal ?_;go_wp2_with fail;have K:=B.out;go_roundw;(case rel=>exact⟨k+1,d.out,by go_num,by rw[ycw x F ak],bel⟩);case measure=>simp[intOf];have:=d.out;omega
  ·obtain rfl:k=n:=og;go_wp2_with fail;go_ret;exact⟨rfl,y.out⟩
theorem hpV {w:f} {c:Nat} {S:f->Prop} (h:b (∀a:f,Below w.heap.size w a->S a)) (r:NeL c S):b (∀a:f,Below w.heap.size w a->∀x y z,S (putVal a c x y z)):=fun a d x y z=>r (fun a=>putVal a c x y z) (fun e g i a n h=>yvj h n) a (h.out a d)
theorem zz1449 {w:f} {lo:Nat} {st:Int} (h:U8 w S lo0 lo g L m n sc top t st a steps) (hr:r<m) (hc:c<n) (fq:m<=100) (db:n<=100) (bB:∀A j,A<=m->j<=n->Sz ((t.A A j:Int):Rat) 100000)
 (znr:∀A j,A<=m->j<=n->Sz ((zng t.A t.d r c A j:Int):Rat) 100000) (eI:(A9 t.d).length<=100000) (eH:0<t.d):
 u Tryz.prog 55 #[.pointer (some ⟨g,0,none⟩),.int .i64 (r:Int),.int .i64 (c:Int)] w fun B w'=>B= .returned (.tuple #[])/\U8 w' S lo0 lo g L m n sc top (V9 t r c) st a steps/\Btw lo0 lo S w w':=by
 obtain⟨aX,V,e4,bu,bI,C,U⟩:=hd7 h bB znr eI eH hr hc;have aP:b (lo0<=w.heap.size/\lo<=w.heap.size):=⟨o h.gS.1 (Nat.le_of_lt h.g_lt),h.tab.hlo⟩;have eK:1<=m:=og;have dc:1<=n:=og;obtain⟨fF,gp,fH,gr,D,cx,fJ,ga,⟨-,-,hD,-⟩,⟨a1,a2,bA,aD,aE⟩,-,⟨aU,-,-⟩,-⟩:=h.open;have dL:=e hD;have dd:=(h.hd r hr).1;have c3:=(h.hd r hr).2.2;have dK:=h.hv r og (by rw[J4 hr];exact dc);have cQ:=h.hv m og (by rw[M9];exact eK);have cP:=h.hv (m+1) og (by rw[U6];exact dc);have cR:=(h.basW eK).1;have cS:=(h.othW dc).1;obtain⟨cU,dv,cX,dy,-,ab,ac,ar,bv⟩:=h.elS (l:=m) (j:=r) og (by rw[M9];exact hr);obtain⟨aZ,a9,cW,dx,-,ae,af,ak,dz⟩:=h.elS (l:=r) (j:=c) og (by rw[J4 hr];exact hc);rw[zuh] at ab ac bv;rw[zvu hr] at ae af dz;rw[dd] at bA;rw[cQ] at aD;rw[cP] at aE;rw[cR] at a1;rw[cS] at a2;rw[dK] at c3;have bD:=e (d cQ (d cP (d cR (d cS dd))));have eJ:=h.caps;have aV:∀l,l<m+2->F9 m n l<=L.cp l/\L.cp l<=9223372036854775807:=fun l aH=>(by have:=h.cap l aH;unfold maxLen at this;exact this);have ch:=e aV;have fM:n<=L.cp r:=(by have:=(aV r og).1;rwa[J4 hr] at this);have fQ:L.cp r<=9223372036854775807:=(aV r og).2;have fR:m<=L.cp m:=(by have:=(aV m og).1;rwa[M9] at this);have fS:L.cp m<=9223372036854775807:=(aV m og).2;have fT:n<=L.cp (m+1):=(by have:=(aV (m+1) og).1;rwa[U6] at this);have fU:L.cp (m+1)<=9223372036854775807:=(aV (m+1) og).2;have eo:m<=L.rc/\L.rc<=9223372036854775807/\m<=L.bc/\L.bc<=9223372036854775807/\n<=L.oc/\L.oc<=9223372036854775807:=(by unfold maxLen at eJ;omega);obtain⟨eo,fV,fW,fN,fO,fP⟩:=eo;have gm:(0:Int)<=(r:Int):=og;have gn:(r:Int)<(m:Int):=og;have gf:(0:Int)<=(c:Int):=og;have gg:(c:Int)<(n:Int):=og;have fZ:=T3;obtain⟨cv,cu⟩:=C5 bv dz;obtain⟨dE,eM⟩:=nm (decide (t.A r n<0));obtain⟨dF,eN⟩:=nm ((A9 (t.A r n).natAbs).length);obtain⟨cL,dp⟩:=nm (decide (t.A r c<0));obtain⟨bC,dq⟩:=nm ((A9 (t.A r c).natAbs).length);obtain⟨ao,dm⟩:=nm ((A9 1).length);obtain⟨eQ,da⟩:=nm ((A9 t.d).length);rw[<-eM] at ab cv;rw[<-eN] at ac cv;rw[<-dp] at ae cu;rw[<-dq] at af cu;rw[<-dm] at ar cv ak cu;rw[<-da] at dL aU;obtain⟨dU,cl,dV,dW,eZ,cq⟩:=hd6 dm da dp dq (d a1 (d a2 (d bA (d aD aE)))) (d ae (d af (d ak aU)));clear h bB znr eI eH hD dd dK cQ cP cR cS bv dz eJ aV eM eN dp dq dm da;clear a1 a2 aE;go_in;go_wp2_with fail;have K:=zmx bA aD c3 ab ac ar
 go_region_held3 (SH.mk _ K).s
  (exact K.out _ bel)
  (fail)
 obtain⟨dC,b0,ad,cb,-⟩:=J5 w #[.bool dE,.slice cU dF dv,.slice cX ao dy] 30;rw[b0];obtain⟨bg,cF⟩:=nm (dC.drew);have bj:b (Below w.heap.size w bg):=(by rw[b,cF];exact⟨ad.os,ad.tape,ad.output,ad.size,ad.block⟩);have cZ:b (Row bg w.heap.size 30 [.bool dE,.slice cU dF dv,.slice cX ao dy]):=(by rw[b,cF];exact cb.drew);rw[<-cF];clear cF ad cb K b0 bA aD c3 ab ac ar;obtain⟨c0,c6⟩:=nm (w.heap.size);have e1:=e c6;rw[<-c6] at cZ⊢;clear c6;have ae:=C0 bj.out cq.out.1;have af:=C0 bj.out cq.out.2.1;have ak:=C0 bj.out cq.out.2.2.1;have aU:=C0 bj.out cq.out.2.2.2;go_wp2_with fail;have K:=hs4 ae af ak aU
 go_region_held3 (SH.mk _ K).s
  (exact K.out _ bel)
  (fail)
 obtain⟨dC,b0,ad,cb,-⟩:=J5 bg #[.bool cL,.slice aZ bC a9,.slice cW ao dx] 30;rw[b0];obtain⟨aa,cG⟩:=nm (dC.drew);have cM:Below bg.heap.size bg aa:=(by rw[cG];exact⟨ad.os,ad.tape,ad.output,ad.size,ad.block⟩);have bm:=nB bj cM;have cY:b (Row aa bg.heap.size 30 [.bool cL,.slice aZ bC a9,.slice cW ao dx]):=(by rw[b,cG];exact cb.drew);have e9:=e (cZ.out.next cM);rw[<-cG];obtain⟨bw,a6⟩:=nm (bg.heap.size);have bq:b (lo<=bw/\lo<=c0):=(by rw[b,a6,e1.out];exact⟨o aP.out.2 bj.out.size,aP.out.2⟩);rw[<-a6] at cY⊢;clear cG ad cb K b0 ae af ak aU cM a6 cZ;have bA:=C0 bm.out eZ.out.2.2.1;have X:b (lo0<=aa.heap.size/\lo<=aa.heap.size):=⟨o aP.out.1 bm.out.size,o aP.out.2 bm.out.size⟩;have fa:b (SchG aa S lo0 lo g L m n sc top (L9 t r c m n 0) (t.A m n) t.d t.bas t.oth st a steps):=(aX.out.next bm.out).nums fun l j aH _=>yza aH;have cw:K6 (SN S lo w) (SN S lo aa) w aa:=(((Btw.refl lo0 lo S w).below bm.out aP.out.1).same fun x F=>q (aX.out.tab.sS x F) aP.out.2);obtain⟨cj,e7,dZ⟩:=G0 (IsK.stb.to dL.out cw) (IsQ.stb.to cv.out cw) (IsQ.stb.to cu.out cw);clear cw;go_wp2_with fail;clear bA;go_loopw [44,10,11,12] (fun ds _ _ _ wr=>∃A:Nat,A<=m/\ds= .int .i64 (A:Int)/\Btw lo0 lo S aa wr/\b (SchG wr S lo0 lo g L m n sc top (L9 t r c m n A) (t.A m n) t.d t.bas t.oth st a steps)) (fun ds _ _ _ _=>m-(intOf ds).toNat);case atStart=>exact⟨0,v _,rfl,Btw.refl _ _ _ _,fa.out⟩
 case round=>
  obtain⟨A,gi,rfl,c7,eL⟩:=hrel;have bE:=e c7;have M:=e eL.out;have bH:b (∀Q,SN S lo wr Q->C3 wr Q):=M.out.sn_lt;have cJ:K6 (SN S lo aa) (SN S lo wr) aa wr:=c7.same fun x F=>q (aX.out.tab.sS x F) X.out.2;obtain⟨dN,eh,eg,ee,ec⟩:=hd5 (IsK.stb.to cj.out cJ) (bE.out.row e9.out bq.out.2) (bE.out.row cY.out bq.out.1) (IsQ.stb.to (IsQ.stb.to e7.out cJ) (F7 bH.out)) (IsQ.stb.to (IsQ.stb.to dZ.out cJ) (F7 bH.out));clear c7 eL cJ;rcases s A m with N|gh
  ·have ep:=(M.out.hd A N).2.2;have e0:=M.out.hv A og (by rw[J4 N];omega);rw[e0] at ep;have gj:(0:Int)<=(A:Int):=og;have gl:(A:Int)<(m:Int):=og;have ff:n<=L.cp A:=(by have:=(ch.out A og).1;rwa[J4 N] at this);have fg:L.cp A<=9223372036854775807:=(ch.out A og).2;have bJ:=e N;obtain⟨bL,b9,bO,lF,-,aS,aT,bx,a0⟩:=M.out.el (l:=A) (j:=c) og (by rw[J4 N];exact U.out);obtain⟨dX,eO,dY,eP,-,u0,u1,u2,dA⟩:=M.out.el (l:=m) (j:=A) og (by rw[M9];exact N);rw[yda N] at aS aT a0;rw[yyx] at u0 u1 dA;have cE:=M.out.tab.line m og (by rw[M9];omega);have ag:wr.frozen? ⟨L.bk m,A*3,none⟩=false:=cE.free;have ah:wr.frozen? ⟨L.bk m,A*3+1,none⟩=false:=cE.free;have ai:wr.frozen? ⟨L.bk m,A*3+2,none⟩=false:=cE.free;obtain⟨-,-,-,-,-,-,-,-,-,⟨-,-,-,aD,-⟩,-,-,-⟩:=M.out.open;rw[bD.out.1] at aD;obtain⟨ab,ac,ar⟩:=B9 eh.out;obtain⟨ae,af,ak⟩:=B9 eg.out;obtain⟨aB,aA⟩:=C5 a0 dA;obtain⟨cd,b5⟩:=nm (decide (t.A A c<0));obtain⟨cf,b7⟩:=nm ((A9 (t.A A c).natAbs).length);obtain⟨er,bX⟩:=nm (decide (t.A A n<0));obtain⟨et,bY⟩:=nm ((A9 (t.A A n).natAbs).length);rw[<-b5] at aS aB;rw[<-b7] at aT aB;rw[<-bX] at u0 aA;rw[<-bY] at u1 aA;rw[<-dU.out] at bx aB u2 aA;clear a0 dA cE b5 b7 bX bY;by_cases c9:A=r
   ·subst c9;have fr:(((A:Int) !=(A:Int)):Bool)=false:=(by simp);clear ab ac ar ae af ak aS aT bx u0 u1 u2 ag ah ai aD;go_wp2_with fail;go_roundw;(case rel=>exact⟨A+1,bJ.out,by go_num,bE.out,M.out.nums fun l j _ _=>yyy t A c m n l j⟩);case measure=>simp[intOf];have:=bJ.out;omega
   ·have fr:(((A:Int) !=(r:Int)):Bool)=true:=(by simp;omega);have dT:=e c9;obtain⟨az,dk,E,cc,-⟩:=J5 wr #[.bool cd,.slice bL cf b9,.slice bO ao lF] 30;obtain⟨bT,bU,b2⟩:=B9 cc;have bn:=e E;have ct:=nQ aB E;have bN:=nQ aA E;have bQ:=nQ ee E;have bP:=nQ ec E;have bG:=e (IsK.stb.next (IsK.stb.to dN.out (F7 bH.out)) E);have aY:b (wr.heap.size≠L.bk m):=(by rw[b];have:=M.out.tab.sep m og (by rw[M9];omega);have:=M.out.tab.hlo;omega);have Z:b (bw≠L.bk m/\c0≠L.bk m/\g≠L.bk m):=(by rw[b];have J:=M.out.tab.sep m og (by rw[M9];omega);have:=bq.out;have au:=(M.out.lS m og (by rw[M9];omega)).2.1;exact⟨by omega,by omega,Ne.symm au⟩);obtain⟨O,H,al⟩:=G0 (d (C0 E aD) (d bT (d bU (d b2 (d (C0 E ae) (d (C0 E af) (d (C0 E ak) (d (C0 E ab) (d (C0 E ac) (C0 E ar)))))))))) (d (C0 E u0) (d (C0 E u1) (C0 E u2))) (d (I8 E u0 ag) (d (I8 E u1 ah) (I8 E u2 ai)));obtain⟨z,b4⟩:=nm (zld (t.A A n) (t.A r c) (t.A A c) (t.A r n) t.d);have bt:=e b4;clear b4 cc E u0 u1 u2 ag ah ai ab ac ar ae af ak bT bU b2 aD c9 N;go_wp2_with fail;clear dk ep aS aT bx;obtain⟨u0,u1,u2⟩:=H.out;have K:=yhv O.out.1 O.out.2.1 O.out.2.2.1 O.out.2.2.2.1 O.out.2.2.2.2.1 O.out.2.2.2.2.2.1 O.out.2.2.2.2.2.2.1 O.out.2.2.2.2.2.2.2.1 O.out.2.2.2.2.2.2.2.2.1 O.out.2.2.2.2.2.2.2.2.2;have bp:b (∀aC:f,Below az.heap.size az aC->u Tryz.prog 117 #[.agg #[.bool er,.slice dX et eO,.slice dY ao eP],.agg #[.bool cL,.slice aZ bC a9,.slice cW ao dx],.agg #[.bool cd,.slice bL cf b9,.slice bO ao lF],.agg #[.bool dE,.slice cU dF dv,.slice cX ao dy],.slice D eQ cx] aC (N8 aC (((z:Int)):Rat))):=fun aC a4=>(by have h:=zvm (IsQ.stb.next bN.out a4) (IsQ.stb.next bP.out a4) (IsQ.stb.next ct.out a4) (IsQ.stb.next bQ.out a4) (E9 (IsK.stb.next bG.out a4)) ((V.out A n (Nat.le_of_lt bJ.out) (i _)).le og) ((V.out r c (Nat.le_of_lt C.out) (Nat.le_of_lt U.out)).le og) ((V.out A c (Nat.le_of_lt bJ.out) (Nat.le_of_lt U.out)).le og) ((V.out r n (Nat.le_of_lt C.out) (i _)).le og) (o bu.out og) bI.out;rw[Rat.num_intCast,Rat.num_intCast,Rat.num_intCast,Rat.num_intCast,<-bt.out] at h;exact h);have br:=hpE A K (nA Z.out.2.2 (nA aY.out (nA aY.out (nA aY.out (nA Z.out.1 (nA Z.out.1 (nA Z.out.1 (nA Z.out.2.1 (nA Z.out.2.1 (nZ Z.out.2.1))))))))));refine wp_region_noPanic ?_;refine zkq K fun aj=> ?_;refine sT 0 56 ?_;refine sT 1 57 ?_;refine sT 2 58 ?_;refine sT 3 59 ?_;refine sT 4 60 ?_;refine sT 5 61 ?_;refine sT 6 62 ?_;refine sT 7 63 ?_;refine sT 8 64 ?_;refine sT 9 65 ?_;refine sT 10 66 ?_;refine sT 11 67 ?_;refine sT 12 68 ?_;refine sT 14 70 ?_;refine sT 15 71 ?_;refine sT 16 72 ?_;refine sT 17 73 ?_;refine wpAnyH_ready (rs:=[13]) kr (by simp) ?_;refine AllReadyH.cons rfl (fun P G=> ?_) AllReadyH.nil;go_simp;refine G.out _ _ (K.out _ bel) (fun aj=> ?_);clear G P;refine sP ?_;refine wpAnyH_ready (rs:=[18]) kr (by simp) ?_;refine AllReadyH.cons rfl (fun P G=> ?_) AllReadyH.nil;go_simp;go_at_call 117;(with_reducible refine Calls.mono (bp.out _ bel) ?_)
    rintro B aN ⟨⟨eV,rfl,av⟩,cB⟩;have T:=bW az aN;obtain⟨bK,b8,bM,ca,rfl⟩:=zlx av;have aK:=C0 T.out H.out.1;have aL:=C0 T.out H.out.2.1;have aM:=C0 T.out H.out.2.2;have ag:=I8 T.out H.out.1 al.out.1;have ah:=I8 T.out H.out.2.1 al.out.2.1;have ai:=I8 T.out H.out.2.2 al.out.2.2;(focus go_wp2_with fail)
    refine G.out _ _ (K.out _ bel) (fun aj=> ?_);clear G P;refine sP ?_;refine sT 19 75 ?_;refine wpAnyH_ready (rs:=[20]) kr (by simp) ?_;refine AllReadyH.cons rfl (fun P G=> ?_) AllReadyH.nil;go_simp;refine G.out _ _ (br.out _ bel _ _ _) (fun aj=> ?_);clear G P;refine sP ?_;refine wpAnyH_done kr ?_ _;refine NoPanic.normal ?_;have dG:=e (C6 bn.out T.out);have bR:=e (M.out.next dG.out);have dP:b (IsQ aN (SN S lo aN) (.agg #[.bool (decide (z<0)),.slice bK (A9 z.natAbs).length b8,.slice bM (A9 1).length ca]) ((z:Int):Rat)):=IsQ.stb.to av (F7 fun Q R=> .inr ⟨by have J:=M.out.tab.hlo;have au:=bn.out.size;have a3:=R.1;simp at a3;omega,R.2⟩);have N:=bJ.out;obtain⟨I,aq⟩:=C5 (bR.out.putL (l:=m) (j:=A) og (by rw[M9];exact N) dP.out) ((bE.out.below dG.out X.out.1).step (zmk (c:=L.bk m) (j:=A) (x:= .bool (decide (z<0))) (y:= .slice bK (A9 z.natAbs).length b8) (z:= .slice bM (A9 1).length ca) (I7 aN _)) X.out.1 fun x B=>by cases B;exact⟨(M.out.lS m og (by rw[M9];omega)).1,M.out.tab.sep m og (by rw[M9];omega)⟩);obtain⟨an,aJ⟩:=nm (((aN.setCell ⟨(L.bk m),A*3,none⟩ (.bool (decide (z<0)))).setCell ⟨(L.bk m),A*3+1,none⟩ (.slice bK (A9 z.natAbs).length b8)).setCell ⟨(L.bk m),A*3+2,none⟩ (.slice bM (A9 1).length ca));have I:b (SchG an S lo0 lo g L m n sc top (fun k=>if k=m then(fun x=>if x=A then z else L9 t r c m n A m x) else L9 t r c m n A k) (t.A m n) t.d t.bas t.oth st a steps):=(by rw[b,aJ];exact I.out);have aq:b (Btw lo0 lo S aa an):=(by rw[b,aJ];exact aq.out);rw[<-aJ];clear aJ K br bp av cB aK aL aM ag ah ai u0 u1 u2 dP bR;go_wp2_with fail;have bd:=I.out.tab.line A og (by rw[J4 N];omega);have be:=I.out.tab.line r (oh C) (by rw[J4 C.out];omega);rw[J4 N] at bd;rw[J4 C.out] at be;have fv:=I.out.tab.sep A og (by rw[J4 N];omega);have fw:=I.out.tab.sep r (oh C) (by rw[J4 C.out];omega)
    have nn:∀l,l<m->¬SN S lo an (L.bk l):=fun l aH F=>by
     have J:=I.out.tab.sep l og (by rw[J4 aH];omega);rcases F with F|F
     ·exact J.2 F
     ·have:=F.1;omega
    have bV:NumS an (SN S lo an) (.slice D (A9 t.d).length cx) t.d:=by have:=IsK.stb.to cj.out (aq.out.same fun x F=>q (aX.out.tab.sS x F) X.out.2);rw[cl.out] at this;exact this
    have a7:=yfk bd be (fun B=>dT.out (I.out.tab.inj r A (oh C) og (by rw[J4 C.out];omega) (by rw[J4 N];omega) B).symm) (fun Q R=>⟨I.out.sn_lt Q R,fun B=>nn A N (by rw[<-B];exact R),fun B=>nn r C.out (by rw[<-B];exact R)⟩) bV db U.out
     (fun j a8=>by
       refine⟨?_,?_⟩
       ·rw[zrs,if_neg og,yda N];exact V.out A j (Nat.le_of_lt N) (Nat.le_of_lt a8)
       ·rw[zrs,if_neg (oh C),zyz C.out];exact V.out r j (Nat.le_of_lt C.out) (Nat.le_of_lt a8)) bu.out bI.out
    rw[<-cl.out] at a7;refine a7.mono ?_;clear a7 bd be fv fw nn bV;rintro B dD ⟨rfl,eA,c8⟩
    have e2:=e (eA.mono (T:=SN S lo dD) fun x F=>by
     rcases F with F|F
     ·exact zmt c8.size x F
     ·exact .inr ⟨by have:=I.out.tab.hlo;have:=F.1;omega,F.2⟩)
    have dJ:=e c8;clear eA c8;go_wp2_with fail;go_roundw;(case rel=>have c4:LineW dD (SN S lo dD) (L.bk A) (L.cp A) (F9 m n A) (zod (if A=m then(fun x=>if x=A then z else L9 t r c m n A m x) else L9 t r c m n A A) (if r=m then(fun x=>if x=A then z else L9 t r c m n A m x) else L9 t r c m n A r) c t.d):=(by rw[J4 N];exact e2.out);have fl:=I.out.line og (by rw[J4 N];omega) dJ.out c4;refine⟨A+1,N,by go_num,aq.out.step dJ.out X.out.1 (fun x B=>by cases B;exact⟨(I.out.lS A og (by rw[J4 N];omega)).1,I.out.tab.sep A og (by rw[J4 N];omega)⟩),fl.nums fun l j _ _=> ?_⟩;rw[bt.out,zrs];exact yyz N dT.out C.out l j);case measure=>simp[intOf];omega
  ·obtain rfl:A=m:=og;obtain⟨bL,b9,bO,lF,-,aS,aT,bx,a0⟩:=M.out.el (l:=A+1) (j:=c) og (by rw[U6];exact U.out);rw[ycz] at aS aT a0;obtain⟨dX,eO,dY,eP,fD,fX,fK,gd,⟨cA,eE,-,-⟩,⟨-,-,-,-,aE⟩,⟨u0,u1,u2⟩,-,-⟩:=M.out.open;rw[bD.out.2.1] at aE;have ag:=cA.frozen 5;have ah:=cA.frozen 6;have ai:=cA.frozen 7;obtain⟨ab,ac,ar⟩:=B9 eh.out;obtain⟨ae,af,ak⟩:=B9 eg.out;obtain⟨aB,aA⟩:=C5 a0 (IsQ.stb.to eE (F7 bH.out));obtain⟨cd,b5⟩:=nm (decide (-(t.A A c)<0));obtain⟨cf,b7⟩:=nm ((A9 (-(t.A A c)).natAbs).length);obtain⟨er,bX⟩:=nm (decide (t.A A n<0));obtain⟨et,bY⟩:=nm ((A9 (t.A A n).natAbs).length);rw[<-b5] at aS aB;rw[<-b7] at aT aB;rw[<-bX] at u0 aA;rw[<-bY] at u1 aA;rw[<-dU.out] at bx aB u2 aA;have ff:n<=L.cp (A+1):=(by have:=(ch.out (A+1) og).1;rwa[U6] at this);have fg:L.cp (A+1)<=9223372036854775807:=(ch.out (A+1) og).2;obtain⟨az,dk,E,cc,-⟩:=J5 wr #[.bool cd,.slice bL cf b9,.slice bO ao lF] 30;obtain⟨bT,bU,b2⟩:=B9 cc;have bn:=e E;have ct:=nQ aB E;have bN:=nQ aA E;have bQ:=nQ ee E;have bP:=nQ ec E;have bG:=e (IsK.stb.next (IsK.stb.to dN.out (F7 bH.out)) E);have dS:b (g<lo/\g<wr.heap.size):=⟨M.out.gS.2.1,M.out.g_lt⟩;obtain⟨O,H,al⟩:=G0 (d bT (d bU (d b2 (d (C0 E ae) (d (C0 E af) (d (C0 E ak) (d (C0 E ab) (d (C0 E ac) (C0 E ar))))))))) (d (C0 E u0) (d (C0 E u1) (C0 E u2))) (d (I8 E u0 ag) (d (I8 E u1 ah) (I8 E u2 ai)));have aY:b (wr.heap.size≠g):=oH1 dS;have Z:b (bw≠g/\c0≠g):=oH2 dS bq;obtain⟨z,b4⟩:=nm (zld (t.A A n) (t.A r c) (t.A A c) (t.A r n) t.d);have bt:=e b4;clear b4 cc E u0 u1 u2 ag ah ai ab ac ar ae af ak bT bU b2 a0 cA eE b5 b7 bX bY;go_wp2_with fail;clear dk aS aT bx aE;obtain⟨u0,u1,u2⟩:=H.out;have K:=hs9 O.out.1 O.out.2.1 O.out.2.2.1 O.out.2.2.2.1 O.out.2.2.2.2.1 O.out.2.2.2.2.2.1 O.out.2.2.2.2.2.2.1 O.out.2.2.2.2.2.2.2.1 O.out.2.2.2.2.2.2.2.2;have bp:b (∀aC:f,Below az.heap.size az aC->u Tryz.prog 119 #[.agg #[.bool cd,.slice bL cf b9,.slice bO ao lF]] aC (N8 aC (((t.A A c:Int)):Rat))):=fun aC a4=>(by have h:=zul (IsQ.stb.next ct.out a4) (by rw[Rat.intCast_neg];exact(V.out A c (i _) (Nat.le_of_lt U.out)).neg) (show(((t.A A c:Int)):Rat)= -(((-(t.A A c):Int)):Rat) by rw[Rat.intCast_neg,Rat.neg_neg]);exact h);have br:=hpV K (nA aY.out (nA aY.out (nA aY.out (nA Z.out.1 (nA Z.out.1 (nA Z.out.1 (nA Z.out.2 (nA Z.out.2 (nZ Z.out.2)))))))));refine wp_region_noPanic ?_;refine zkq K fun aj=> ?_;refine sT 0 90 ?_;refine sT 1 91 ?_;refine sT 2 92 ?_;refine sT 3 93 ?_;refine sT 4 94 ?_;refine sT 6 96 ?_;refine sT 7 97 ?_;refine sT 9 99 ?_;refine sT 10 100 ?_;refine wpAnyH_ready (rs:=[5,8]) kr (by simp) ?_;refine AllReadyH.cons rfl (fun P G=> ?_) ?_;go_simp;refine G.out _ _ (K.out _ bel) (fun aj=> ?_);clear G P;refine sP ?_;refine wpAnyH_ready (rs:=[8]) kr (by simp) ?_;refine AllReadyH.cons rfl (fun P G=> ?_) AllReadyH.nil;go_simp;go_at_call 119;(with_reducible refine Calls.mono (bp.out _ bel) ?_)
   rintro B aN ⟨⟨eV,rfl,av⟩,cB⟩;have T:=bW az aN;obtain⟨bK,b8,bM,ca,rfl⟩:=zlx av;have cr:=e (IsQ.stb.old av);have n0:=C0 T.out H.out.1;have eR:=C0 T.out H.out.2.1;have eS:=C0 T.out H.out.2.2;(focus go_wp2_with fail)
   refine G.out _ _ (K.out _ bel) (fun aj=> ?_);clear G P;refine sP ?_;refine wpAnyH_ready (rs:=[11]) kr (by simp) ?_;refine AllReadyH.cons rfl (fun P G=> ?_) AllReadyH.nil;go_simp;have a5:=zvm (IsQ.stb.next bN.out bel) (IsQ.stb.next bP.out bel) cr.out (IsQ.stb.next bQ.out bel) (E9 (IsK.stb.next bG.out bel)) ((V.out A n (i _) (i _)).le og) ((V.out r c (Nat.le_of_lt C.out) (Nat.le_of_lt U.out)).le og) ((V.out A c (i _) (Nat.le_of_lt U.out)).le og) ((V.out r n (Nat.le_of_lt C.out) (i _)).le og) (o bu.out og) bI.out;rw[Rat.num_intCast,Rat.num_intCast,Rat.num_intCast,Rat.num_intCast,<-bt.out] at a5;(with_reducible refine Calls.mono a5 ?_)
   clear a5;rintro B bh ⟨⟨fx,rfl,bZ⟩,eG⟩;have W:=bW az bh;obtain⟨cn,cH,cs,cI,rfl⟩:=zlx bZ;have aK:=C0 W.out H.out.1;have aL:=C0 W.out H.out.2.1;have aM:=C0 W.out H.out.2.2;have ag:=I8 W.out H.out.1 al.out.1;have ah:=I8 W.out H.out.2.1 al.out.2.1;have ai:=I8 W.out H.out.2.2 al.out.2.2;(focus go_wp2_with fail)
   refine G.out _ _ (K.out _ bel) (fun aj=> ?_);clear G P;refine sP ?_;refine sT 12 102 ?_;refine sT 13 103 ?_;refine sT 14 104 ?_;refine wpAnyH_ready (rs:=[15]) kr (by simp) ?_;refine AllReadyH.cons rfl (fun P G=> ?_) AllReadyH.nil;go_simp;refine G.out _ _ (br.out _ bel _ _ _) (fun aj=> ?_);clear G P;refine sP ?_;refine wpAnyH_done kr ?_ _;refine NoPanic.normal ?_;rotate_left 1;refine AllReadyH.cons rfl (fun P G=> ?_) ?_;go_simp;go_at_call 119;(with_reducible refine Calls.mono (bp.out _ bel) ?_)
   rintro B aN ⟨⟨eV,rfl,av⟩,cB⟩;have T:=bW az aN;obtain⟨bK,b8,bM,ca,rfl⟩:=zlx av;have cr:=e (IsQ.stb.old av);have n0:=C0 T.out H.out.1;have eR:=C0 T.out H.out.2.1;have eS:=C0 T.out H.out.2.2;(focus go_wp2_with fail)
   refine G.out _ _ (K.out _ bel) (fun aj=> ?_);clear G P;refine sP ?_;refine wpAnyH_ready (rs:=[5]) kr (by simp) ?_;refine AllReadyH.cons rfl (fun P G=> ?_) AllReadyH.nil;go_simp;refine G.out _ _ (K.out _ bel) (fun aj=> ?_);clear G P;refine sP ?_;refine wpAnyH_ready (rs:=[11]) kr (by simp) ?_;refine AllReadyH.cons rfl (fun P G=> ?_) AllReadyH.nil;go_simp;have a5:=zvm (IsQ.stb.next bN.out bel) (IsQ.stb.next bP.out bel) cr.out (IsQ.stb.next bQ.out bel) (E9 (IsK.stb.next bG.out bel)) ((V.out A n (i _) (i _)).le og) ((V.out r c (Nat.le_of_lt C.out) (Nat.le_of_lt U.out)).le og) ((V.out A c (i _) (Nat.le_of_lt U.out)).le og) ((V.out r n (Nat.le_of_lt C.out) (i _)).le og) (o bu.out og) bI.out;rw[Rat.num_intCast,Rat.num_intCast,Rat.num_intCast,Rat.num_intCast,<-bt.out] at a5;(with_reducible refine Calls.mono a5 ?_)
   clear a5;rintro B bh ⟨⟨fx,rfl,bZ⟩,eG⟩;have W:=bW az bh;obtain⟨cn,cH,cs,cI,rfl⟩:=zlx bZ;have aK:=C0 W.out H.out.1;have aL:=C0 W.out H.out.2.1;have aM:=C0 W.out H.out.2.2;have ag:=I8 W.out H.out.1 al.out.1;have ah:=I8 W.out H.out.2.1 al.out.2.1;have ai:=I8 W.out H.out.2.2 al.out.2.2;(focus go_wp2_with fail)
   refine G.out _ _ (K.out _ bel) (fun aj=> ?_);clear G P;refine sP ?_;refine sT 12 102 ?_;refine sT 13 103 ?_;refine sT 14 104 ?_;refine wpAnyH_ready (rs:=[15]) kr (by simp) ?_;refine AllReadyH.cons rfl (fun P G=> ?_) AllReadyH.nil;go_simp;refine G.out _ _ (br.out _ bel _ _ _) (fun aj=> ?_);clear G P;refine sP ?_;refine wpAnyH_done kr ?_ _;refine NoPanic.normal ?_;rotate_left 1;exact AllReadyH.nil
   all_goals
    have bR:=e (M.out.next (C6 bn.out W.out))
    have dQ:b (IsQ bh (SN S lo bh) (.agg #[.bool (decide (z<0)),.slice cn (A9 z.natAbs).length cH,.slice cs (A9 1).length cI]) ((z:Int):Rat)):=IsQ.stb.to bZ (F7 fun Q R=> .inr ⟨by have J:=M.out.tab.hlo;have au:=bn.out.size;have a3:=T.out.size;have cy:=R.1;(try simp at cy);omega,R.2⟩)
    obtain⟨I,aq⟩:=C5 (bR.out.value dQ.out) ((bE.out.below (C6 bn.out W.out) X.out.1).step (ztz bh g (.bool (decide (z<0))) (.slice cn (A9 z.natAbs).length cH) (.slice cs (A9 1).length cI)) X.out.1 fun x B=>by cases B;exact M.out.gS)
    obtain⟨an,aJ⟩:=nm (((bh.setCell ⟨g,5,none⟩ (.bool (decide (z<0)))).setCell ⟨g,6,none⟩ (.slice cn (A9 z.natAbs).length cH)).setCell ⟨g,7,none⟩ (.slice cs (A9 1).length cI))
    have I:b (SchG an S lo0 lo g L A n sc top (L9 t r c A n A) z t.d t.bas t.oth st a steps):=by rw[b,aJ];exact I.out
    have aq:b (Btw lo0 lo S aa an):=by rw[b,aJ];exact aq.out
    rw[<-aJ]
    clear aJ K br bp av cB bZ eG aK aL aM ag ah ai u0 u1 u2 dQ bR cr T W n0 eR eS H al O ct bN bQ bP bG
    obtain⟨-,-,-,-,-,-,-,-,-,⟨-,-,-,-,aE⟩,-,-,-⟩:=I.out.open
    rw[bD.out.2.1] at aE
    go_wp2_with fail
    clear aE
    have bd:=I.out.tab.line (A+1) og (by rw[U6];omega)
    have be:=I.out.tab.line r (oh C) (by rw[J4 C.out];omega)
    rw[U6] at bd
    rw[J4 C.out] at be
    have nn:∀l,l<A+2->1<=F9 A n l->¬SN S lo an (L.bk l):=fun l aH fk F=>by
     have J:=I.out.tab.sep l aH fk
     rcases F with F|F
     ·exact J.2 F
     ·have:=F.1;omega
    have bV:NumS an (SN S lo an) (.slice D (A9 t.d).length cx) t.d:=by
     have:=IsK.stb.to cj.out (aq.out.same fun x F=>q (aX.out.tab.sS x F) X.out.2)
     rw[cl.out] at this
     exact this
    have a7:=yfk bd be (fun B=>by have:=I.out.tab.inj r (A+1) (oh C) og (by rw[J4 C.out];omega) (by rw[U6];omega) B;have:=C.out;omega) (fun Q R=>⟨I.out.sn_lt Q R,fun B=>nn (A+1) og (by rw[U6];omega) (by rw[<-B];exact R),fun B=>nn r (oh C) (by rw[J4 C.out];omega) (by rw[<-B];exact R)⟩) bV db U.out
     (fun j a8=>⟨by rw[ycz,Rat.intCast_neg];exact(V.out A j (i _) (Nat.le_of_lt a8)).neg,by rw[zyz C.out];exact V.out r j (Nat.le_of_lt C.out) (Nat.le_of_lt a8)⟩) bu.out bI.out
    rw[<-cl.out] at a7
    refine a7.mono ?_
    clear a7 bd be nn bV
    rintro B bi ⟨rfl,eB,cC⟩
    have dO:b (LineW bi (SN S lo bi) (L.bk (A+1)) (L.cp (A+1)) n (zod (L9 t r c A n A (A+1)) (L9 t r c A n A r) c t.d)):=eB.mono fun x F=>by
     rcases F with F|F
     ·exact zmt cC.size x F
     ·exact .inr ⟨by have:=I.out.tab.hlo;have:=F.1;omega,F.2⟩
    have aQ:b (SchG bi S lo0 lo g L A n sc top (fun k=>if k=A+1 then zod (L9 t r c A n A (A+1)) (L9 t r c A n A r) c t.d else L9 t r c A n A k) z t.d t.bas t.oth st a steps):=by
     have c4:LineW bi (SN S lo bi) (L.bk (A+1)) (L.cp (A+1)) (F9 A n (A+1)) (zod (L9 t r c A n A (A+1)) (L9 t r c A n A r) c t.d):=by rw[U6];exact dO.out
     exact I.out.line og (by rw[U6];omega) cC c4
    have cN:=e (aq.out.step cC X.out.1 (fun x B=>by cases B;exact⟨(I.out.lS (A+1) og (by rw[U6];omega)).1,I.out.tab.sep (A+1) og (by rw[U6];omega)⟩))
    clear eB cC dO I aq
    go_wp2_with fail
    have ez:IsN bi 0 bi.heap.size (.slice D eQ cx) t.d:=E9 (IsK.stb.to (IsK.stb.to cj.out (cN.out.same fun x F=>q (aX.out.tab.sS x F) X.out.2)) (F7 aQ.out.sn_lt))
    obtain⟨y,dn⟩:=nm (((t.d:Nat):Int):Int)
    have e3:=e dn
    have dj:=yoa ez (o bu.out og)
    rw[<-dn] at dj
    clear dn
    refine dj.mono ?_
    clear dj
    clear ez
    rintro B cK ⟨⟨gv,rfl,de⟩,aG⟩
    obtain⟨cT,du,cV,dw,rfl⟩:=zlx de
    obtain⟨fG,gq,fI,gu,-,aK,aL,aM,-⟩:=aQ.out.el (l:=r) (j:=c) (oh C) (by rw[J4 C.out];exact U.out)
    have cD:=aQ.out.tab.line r (oh C) (by rw[J4 C.out];omega)
    have ag:=I8 aG aK cD.free
    have ah:=I8 aG aL cD.free
    have ai:=I8 aG aM cD.free
    replace aK:=C0 aG aK
    replace aL:=C0 aG aL
    replace aM:=C0 aG aM
    have dR:b (IsQ cK (SN S lo cK) (.agg #[.bool (decide (y<0)),.slice cT (A9 y.natAbs).length du,.slice cV (A9 1).length dw]) ((y:Int):Rat)):=IsQ.stb.to de (F7 fun Q R=> .inr ⟨o aQ.out.tab.hlo R.1,R.2⟩)
    obtain⟨Y,bF⟩:=C5 ((aQ.out.next aG).putL (l:=r) (j:=c) (oh C) (by rw[J4 C.out];exact U.out) dR.out) ((cN.out.below aG X.out.1).step (zmk (c:=L.bk r) (j:=c) (x:= .bool (decide (y<0))) (y:= .slice cT (A9 y.natAbs).length du) (z:= .slice cV (A9 1).length dw) (I7 cK _)) X.out.1 fun x B=>by cases B;exact⟨(aQ.out.lS r (oh C) (by rw[J4 C.out];omega)).1,aQ.out.tab.sep r (oh C) (by rw[J4 C.out];omega)⟩)
    clear de aG cD aQ cN dR
    obtain⟨aO,b3⟩:=nm (((cK.setCell ⟨L.bk r,c*3,none⟩ (.bool (decide (y<0)))).setCell ⟨L.bk r,c*3+1,none⟩ (.slice cT (A9 y.natAbs).length du)).setCell ⟨L.bk r,c*3+2,none⟩ (.slice cV (A9 1).length dw))
    have Y:b (SchG aO S lo0 lo g L A n sc top (zkb (zpr t r c) A n) z t.d t.bas t.oth st a steps):=by
     rw[b,b3]
     exact Y.out.nums fun l j aH a8=>by
      rw[e3.out,zrs,zrs,zrs]
      exact yyw C.out U.out aH a8
    have bF:b (Btw lo0 lo S aa aO):=by rw[b,b3];exact bF.out
    have e8:=bF.out.row cY.out bq.out.1
    have ed:=e (IsQ.stb.to dZ.out (bF.out.same fun x F=>q (aX.out.tab.sS x F) X.out.2))
    obtain⟨e5,fs,e6,ft,fE,fY,fb,fe,⟨c5,eF,-,eD⟩,⟨a1,a2,-,-,-⟩,-,⟨aU,-,-⟩,-⟩:=Y.out.open
    have dI:=c5.frozen 8
    obtain⟨eT,eU,fu⟩:=B9 e8
    have dM:b (NumS aO (SN S lo aO) (.slice aZ bC a9) (t.A r c).natAbs):=by
     have:=zkx ed.out
     rwa[Rat.num_intCast] at this
    rw[bD.out.2.2.1] at a1
    rw[bD.out.2.2.2.1] at a2
    have dr:=(Y.out.basW og).2
    have dt:=(Y.out.othW og).2
    have c1:=dr.el r C.out
    have c2:=dt.el c U.out
    have eu:aO.frozen? ⟨L.bb,r,none⟩=false:=dr.free
    have ev:aO.frozen? ⟨L.ob,c,none⟩=false:=dt.free
    obtain⟨fy,df⟩:=nm (t.bas.getD r 0)
    obtain⟨dB,dh⟩:=nm (t.oth.getD c 0)
    rw[<-df] at c1
    rw[<-dh] at c2
    obtain⟨cm,ck⟩:=C5 (d df dh) (d c5 (d eF eD))
    have fo:g≠L.bb:=Ne.symm (Y.out.bS og).2.2.2
    have fp:g≠L.ob:=Ne.symm (Y.out.oS og).2.2.2
    have fm:L.bb≠L.ob:=Y.out.bo og og
    have a6:bw≠g/\bw≠L.bb/\bw≠L.ob:=by
     have J:=bq.out.1
     have au:=(Y.out.bS og).2.1
     have a3:=(Y.out.oS og).2.1
     have cy:=Y.out.gS.2.1
     exact⟨by omega,by omega,by omega⟩
    obtain⟨ay,aI⟩:=nm (aO.setCell ⟨g,8,none⟩ (.slice aZ bC a9))
    have cz:∀Q bf,Q≠g->ay.cell? ⟨Q,bf,none⟩=aO.cell? ⟨Q,bf,none⟩:=fun Q bf R=>by rw[aI];exact p _ _ _ _ (fun B=>by injection B with J au;exact R J.symm)
    have ab:ay.cell? ⟨g,0,none⟩=some (.slice (some ⟨L.bb,0,none⟩) A L.bc):=by rw[aI,p _ _ _ _ (fun B=>by injection B with J au;omega)];exact a1
    have ac:ay.cell? ⟨g,1,none⟩=some (.slice (some ⟨L.ob,0,none⟩) n L.oc):=by rw[aI,p _ _ _ _ (fun B=>by injection B with J au;omega)];exact a2
    have fc:=(cz _ r (Ne.symm fo)).trans c1
    have em:=(cz _ c (Ne.symm fp)).trans c2
    have bv:=(cz _ 0 a6.1).trans eT
    have fi:ay.frozen? ⟨L.bb,r,none⟩=false:=by rw[aI];simpa using eu
    have fj:ay.frozen? ⟨L.ob,c,none⟩=false:=by rw[aI];simpa using ev
    have cO:b (aO.grownBy ay (some g)):=by rw[b,aI];exact I9 _ _ _ _
    have aR:b (SchG ay S lo0 lo g L A n sc top (zkb (zpr t r c) A n) z (t.A r c).natAbs t.bas t.oth st a steps):=by
     have bB:=Y.out.same cO.out fun Q B=>by cases B;exact Y.out.gS.2
     refine Y.out.cells cO.out ⟨e5,fs,e6,ft,aZ,a9,fb,fe,?_,IsQ.stb.to ck.out.2.1 bB,?_,IsK.stb.to ck.out.2.2 bB⟩
     ·have J:=ck.out.1.set_ 8 (.slice aZ bC a9)
      rw[<-aI,dW.out] at J
      exact J
     ·have J:=IsK.stb.to dM.out bB
      rw[dW.out] at J
      exact J
    have eW:=e (bF.out.step cO.out X.out.1 fun x B=>by cases B;exact Y.out.gS)
    rw[b3] at eU aU dI
    clear c5 eF eD dr dt cz df dh c1 c2 eu ev dM ed ck a1 a2 eT fu
    go_wp2_with fail
    rw[<-b3,<-aI]
    clear b3 aI dI aU eU aK aL aM ag ah ai
    obtain⟨aW,b1⟩:=nm ((ay.setCell ⟨L.bb,r,none⟩ (.int .i64 ((dB:Nat):Int))).setCell ⟨L.ob,c,none⟩ (.int .i64 ((fy:Nat):Int)))
    have ej:b (U8 aW S lo0 lo g L A n sc top (zpr t r c) st a steps):=by
     have J:=aR.out.ints C.out U.out
     rw[<-cm.out.1,<-cm.out.2,<-b1] at J
     have B:z=(zpr t r c).A A n:=by
      rw[bt.out]
      show _=zlh t.A t.d r c A n
      unfold zlh
      rw[if_neg (oh C),if_neg (oh U)]
     rw[B] at J
     rw[cm.out.1,cm.out.2] at J
     exact J
    have ew:∀Q bf,Q≠L.bb->Q≠L.ob->aW.cell? ⟨Q,bf,none⟩=ay.cell? ⟨Q,bf,none⟩:=fun Q bf J au=>by
     rw[b1,p _ _ _ _ (fun B=>by injection B with a3 cy;exact au a3.symm),p _ _ _ _ (fun B=>by injection B with a3 cy;exact J a3.symm)]
    have en:=(ew _ 0 a6.2.1 a6.2.2).trans bv
    have eX:b (Btw lo0 lo S aa aW):=by
     rw[b,b1]
     refine(eW.out.step (I9 _ _ _ _) X.out.1 fun x B=> ?_).step (I9 _ _ _ _) X.out.1 fun x B=> ?_
     ·cases B;exact⟨(aR.out.bS og).1,(aR.out.bS og).2.1,(aR.out.bS og).2.2.1⟩
     ·cases B;exact⟨(aR.out.oS og).1,(aR.out.oS og).2.1,(aR.out.oS og).2.2.1⟩
    have eY:b (Btw lo0 lo S w aW):=(((Btw.refl lo0 lo S w).below bm.out aP.out.1).trans eX.out)
    have fh:(ay.setCell ⟨L.bb,r,none⟩ (.int .i64 ((dB:Nat):Int))).cell? ⟨L.ob,c,none⟩=some (.int .i64 ((dB:Nat):Int)):=by
     rw[p _ _ _ _ (fun B=>by injection B with J au;exact fm J)];exact em
    clear ew
    go_region
    rw[<-b1]
    obtain⟨fz,di⟩:=nm (aW.drew)
    have cg:Below aW.heap.size aW fz:=by rw[di];exact U4 aW
    obtain⟨ek,dH⟩:=C5 (ej.out.next cg) (eY.out.below cg aP.out.1)
    have fL:=C0 cg en
    rw[<-di]
    clear b1 di en cg ej aR fh bv fc em ab ac fi fj
    cases cL with
    |false=>
     go_wp2_with fail
     refine bodyPost_end (results_none rfl _ _ _) rfl ?_
     rw[<-yzd (of_decide_eq_false dV.out.symm)]
     exact⟨rfl,ek.out,dH.out⟩
    |true=>
     go_wp2_with fail
     refine(zz1439 ek.out fq db (yze e4.out)).mono ?_
     rintro B gw ⟨rfl,eC,ey⟩
     have ei:=e (d eC ey)
     clear eC ey
     go_wp2_with fail
     refine bodyPost_end (results_none rfl _ _ _) rfl ?_
     rw[<-yzc (of_decide_eq_true dV.out.symm)]
     exact⟨rfl,ei.out.1,dH.out.trans ei.out.2⟩
theorem zz1432 {z:Int} {a:Nat} (h:z.natAbs<=a) (hF:(A9 a).length<=k) (b:1<=k):Sz ((z:Int):Rat) k:=by
 refine⟨?_,?_⟩
 ·rw[Rat.num_intCast];exact o (W9 h) hF
 ·rw[Rat.den_intCast,zkf];exact b
theorem TInv.sz (h:TInv M m n t) (hF:(A9 (N9 M (m+1))).length<=k) (b:1<=k):(∀a j,a<=m->j<=n->Sz ((t.A a j:Int):Rat) k)/\(A9 t.d).length<=k:=
 ⟨fun a j c d=>zz1432 (h.small.2 a j c d) hF b,o (W9 h.small.1) hF⟩
theorem yjw {w:f} {lo:Nat} {st:Int} (h:U8 w S lo0 lo g L m n sc top t st a steps) (b:TInv M m n t) (hr:r<m) (hc:c<n) (j:t.A r c≠0) (e:m<=100) (i:n<=100) (hF:(A9 (N9 M (m+1))).length<=100000):
 u Tryz.prog 55 #[.pointer (some ⟨g,0,none⟩),.int .i64 (r:Int),.int .i64 (c:Int)] w fun d w'=>d= .returned (.tuple #[])/\U8 w' S lo0 lo g L m n sc top (V9 t r c) st a steps/\Btw lo0 lo S w w':=
 zz1449 h hr hc e i (b.sz hF og).1 ((b.piv hr hc j).sz hF og).1 (b.sz hF og).2 b.d0
def zrf (S:Nat->Prop) (lo0 lo g:Nat) (L:Lay) (m n:Nat) (sc:Nat->Nat) (top M:Nat) (b:Dic) (st a steps:Int) (c:f) (t:TB) (w:f):Prop:=
 U8 w S lo0 lo g L m n sc top t st a steps/\OkT M m n sc top b t/\Btw lo0 lo S c w
theorem ymu (a:zok m n t=some r) (g:zpa n t r=some c):zku m n t=some (V9 t r c):=by unfold zku;rw[a];show(match zpa n t r with|none=>none|some c=>some (V9 t r c))=_;rw[g]
theorem zz1377 {w:f} {lo:Nat} {k:Dic} {st:Int} (h:U8 w S lo0 lo g L m n sc top t st a steps) (K:OkT M m n sc top k t) (D:m<=100) (E:n<=100) (hF:(A9 (N9 M (m+1))).length<=100000) (P:∀aa,0<sc aa) (Q:0<top):
 u Tryz.prog 90 #[.pointer (some ⟨g,0,none⟩)] w fun z w'=>∃i,z= .returned (.int .i64 (O0 (zok m n i)))/\(zok m n i=none\/∃r,zok m n i=some r/\zpa n i r=none)/\zrf S lo0 lo g L m n sc top M k st a steps w i w':=by
 obtain⟨T,V,W⟩:=G0 hF P Q;have U:b (zrf S lo0 lo g L m n sc top M k st a steps w t w):=⟨h,K,Btw.refl _ _ _ _⟩;have F:b (lo0<=w.heap.size):=o h.gS.1 (Nat.le_of_lt h.g_lt);clear h K hF P Q;go_in;go_wp2_with fail;go_loopw [3,4] (fun _ _ wr=>∃i,zrf S lo0 lo g L m n sc top M k st a steps w i wr) (fun _ _ wr=>leastM (fun i=>zrf S lo0 lo g L m n sc top M k st a steps w i wr) (leftO (zku m n)));case atStart=>exact⟨t,U.out⟩
 case round=>
  obtain⟨s,O,J⟩:=yiq (μ:=leftO (zku m n)) hrel;obtain⟨x,X⟩:=C5 O J;clear hrel O J;have ad:=T3;go_wp2_with fail;refine(yxl x.out.1 D E).mono ?_;rintro z ab ⟨rfl,A⟩;have q:b (zrf S lo0 lo g L m n sc top M k st a steps w s ab):=⟨x.out.1.next A,x.out.2.1,x.out.2.2.below A F.out⟩;clear A;cases j:zok m n s with
  |none=>have C:O0 (none:Option Nat)= -1:=rfl;rw[C];have l:=e j;clear j;go_wp2_with fail;go_ret;exact⟨s,by rw[l.out];rfl,.inl l.out,q.out⟩
  |some r=>
   have N:r<m:=(znl j).1;have Y:O0 (some r)=(r:Int):=rfl;rw[Y];have ai:decide ((r:Int)<0)=false:=decide_eq_false og;obtain⟨l,G⟩:=C5 j N;clear j N;go_wp2_with fail;refine(yux G.out q.out.1 D E).mono ?_;rintro z ac ⟨rfl,B⟩;have v:b (zrf S lo0 lo g L m n sc top M k st a steps w s ac):=⟨q.out.1.next B,q.out.2.1,q.out.2.2.below B F.out⟩;clear B;cases y:zpa n s r with
   |none=>have C:O0 (none:Option Nat)= -1:=rfl;rw[C];have p:=e y;clear y;go_wp2_with fail;go_ret;exact⟨s,by rw[l.out];rfl,.inr ⟨r,l.out,p.out⟩,v.out⟩
   |some c=>obtain⟨I,j,_⟩:=znl y;have j:s.A r c<0:=of_decide_eq_true j;have Z:O0 (some c)=(c:Int):=rfl;rw[Z];have ah:decide ((c:Int)<0)=false:=decide_eq_false og;have p:=e (d y (d I j));clear y I j;go_wp2_with fail;refine(yjw v.out.1 v.out.2.1.inv G.out p.out.2.1 (by have:=p.out.2.2;omega) D E T.out).mono ?_;rintro z R ⟨rfl,zkr,H⟩;have S3:b (zrf S lo0 lo g L m n sc top M k st a steps w (V9 s r c) R):=⟨zkr,v.out.2.1.rep V.out W.out (ymu l.out p.out.1),v.out.2.2.trans H⟩;clear zkr H;go_wp2_with fail;go_roundw;(case rel=>exact⟨_,S3.out⟩);case measure=>have ae:=yir (J:=fun i=>zrf S lo0 lo g L m n sc top M k st a steps w i R) (μ:=leftO (zku m n)) S3.out;have af:=(yiu (yuv x.out.2.1.inv) (ymu l.out p.out.1)).2;have ag:=X.out;omega
theorem ywd {l:List Value} (h:l.length=3):∃a g c,l=[a,g,c]:=by
 match l,h with
 |[a,g,c],_=>exact⟨a,g,c,rfl⟩
theorem yql {g:List Value} (h:Wid 3 g) (n:j<g.length) (x y z:Value):cellsOf (g.set j (.agg #[x,y,z]))=(((cellsOf g).set (j*3) x).set (j*3+1) y).set (j*3+2) z:=by
 induction g generalizing j with
 |nil=>simp at n
 |cons k g ih=>
  obtain⟨t,w⟩:=h.cons;obtain⟨a,l,c,hv⟩:=ywd (l:=k.cells.toList) (by rw[Array.length_toList,t]);have m:cellsOf (k::g)=a::l::c::cellsOf g:=(by simp[cellsOf,hv]);cases j with
  |zero=>rw[m,List.set_cons_zero];simp[cellsOf,Value.cells]
  |succ j=>have r:cellsOf (k::g.set j (.agg #[x,y,z]))=a::l::c::cellsOf (g.set j (.agg #[x,y,z])):=(by simp[cellsOf,hv]);rw[List.set_cons_succ,m,r,ih w (by simpa using n),show(j+1)*3=j*3+1+1+1 by omega,show j*3+1+1+1+1=j*3+1+1+1+1 from rfl];simp only[List.set_cons_succ]
theorem OwnS.set3 {l:Type} {t:TypeId} {R:f->(Nat->Prop)->Value->l->Prop} (p:Stb R) {w:f} {base cap:Nat} {c:List l} (h:OwnS 3 t R w base S (.slice (some ⟨g,0,none⟩) c.length cap) c) (D:j<c.length) {x y z:Value} {r:l} (A:R w S (.agg #[x,y,z]) r):
 OwnS 3 t R (L7 w g j x y z) base S (.slice (some ⟨g,0,none⟩) (c.set j r).length cap) (c.set j r):=by
 obtain⟨m,v,n,o,k⟩:=h;have q:K6 S S w (L7 w g j x y z):=fun d b=>⟨b,fun F=>zmd (.inl fun e=>(k d b).2 (by rw[e];rfl))⟩;have E:(c.set j r).length=c.length:=List.length_set;have C:m.length=c.length:=o.1;refine⟨m.set j (.agg #[x,y,z]),?_,?_,⟨by rw[List.length_set,List.length_set];exact C,fun u a d ha b=> ?_⟩,fun d b=>⟨by rw[zom];exact(k d b).1,fun e=>(k d b).2 (by rw[e];rfl)⟩⟩
 ·rw[E,yql n og];exact(((v.stored (j*3) x).1.stored (j*3+1) y).1.stored (j*3+2) z).1
 ·intro e B;rcases List.mem_or_eq_of_mem_set B with i|i
  ·exact n e i
  ·rw[i];rfl
 ·by_cases s:j=u
  ·subst s;rw[List.getElem?_set_self og] at ha;rw[List.getElem?_set_self D] at b;cases ha;cases b;exact p.to A q
  ·rw[List.getElem?_set_ne s] at ha b;exact p.to (o.2 u a d ha b) q
end Go.Proofs.YtlhhbccgfkhflaaGreatDoor
