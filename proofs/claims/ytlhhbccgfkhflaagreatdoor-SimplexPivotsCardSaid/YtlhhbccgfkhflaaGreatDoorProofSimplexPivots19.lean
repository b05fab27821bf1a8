/-
 The contract of package simplex's leaving.
-/
import Derived.Test.YtlhhbccgfkhflaaGreatDoorProofSimplexPivots18
import Derived.RangeFuncFrom
import Derived.BigRegionIn
namespace Go.Proofs.YtlhhbccgfkhflaaGreatDoor
open Go.RowKit
set_option linter.unusedVariables false
open Go.RowKit Go.Shelf
set_option maxRecDepth 100000
set_option maxHeartbeats 8000000
open _root_.Go.Lib renaming hid → a
open _root_.Nat renaming le_refl → j, lt_succ_self → u
open _root_.Go.World renaming cell?_of_block → l, block_lt_of_cell? → o
open _root_.And renaming intro → i
open _root_.Go renaming World → f, Value → d
variable {T : Nat → Prop} {b c m top : Nat} {sc : Nat → Nat} {v : d} {xs : List d}
theorem ywb {A:Nat->Nat->Int} {bas:Nat->Nat} {n k:Nat} (h:A k c<=0):Z3 A bas n c (k+1)=Z3 A bas n c k:=by rw[Z3,if_pos h]
theorem ywa {A:Nat->Nat->Int} {bas:Nat->Nat} {n k:Nat} (h:¬A k c<=0) (a:Z3 A bas n c k=none):O0 (Z3 A bas n c (k+1))=(k:Int):=by rw[Z3,if_neg h,a];rfl
theorem yis {A:Nat->Nat->Int} {bas:Nat->Nat} {n k:Nat} (h:¬A k c<=0) (a:Z3 A bas n c k=some b) (d:zmm A bas n c k b=true):O0 (Z3 A bas n c (k+1))=(k:Int):=by rw[Z3,if_neg h,a];show O0 (if zmm A bas n c k b then some k else some b)=_;rw[if_pos d];rfl
theorem yit {A:Nat->Nat->Int} {bas:Nat->Nat} {n k:Nat} (h:¬A k c<=0) (a:Z3 A bas n c k=some b) (d:zmm A bas n c k b=false):O0 (Z3 A bas n c (k+1))=(b:Int):=by rw[Z3,if_neg h,a];show O0 (if zmm A bas n c k b then some k else some b)=_;rw[if_neg (by rw[d];decide)];rfl
theorem zym {A:Nat->Nat->Int} {bas:Nat->Nat} {n:Nat}:∀{k b:Nat},Z3 A bas n c k=some b->b<k
 |0,b,h=>by cases h
 |k+1,b,h=>by
  rw[Z3] at h
  split at h
  ·exact Nat.lt_succ_of_lt (zym h)
  ·cases e:Z3 A bas n c k with
   |none=>rw[e] at h;cases h;exact u _
   |some x=>
    rw[e] at h
    have h:(if zmm A bas n c k x then some k else some x)=some b:=h
    split at h
    ·cases h;exact u _
    ·cases h;exact Nat.lt_succ_of_lt (zym e)
theorem ywh {A:Nat->Nat->Int} {bas:Nat->Nat} {n k:Nat} (h:(A k n).natAbs*(A b c).natAbs<(A b n).natAbs*(A k c).natAbs):zmm A bas n c k b=true:=by unfold zmm;rw[decide_eq_true h];rfl
theorem ywf {A:Nat->Nat->Int} {bas:Nat->Nat} {n k:Nat} (h:(A b n).natAbs*(A k c).natAbs<(A k n).natAbs*(A b c).natAbs):zmm A bas n c k b=false:=by unfold zmm;rw[decide_eq_false og,decide_eq_false og];rfl
theorem yiw {A:Nat->Nat->Int} {bas:Nat->Nat} {n k:Nat} (h:(A k n).natAbs*(A b c).natAbs=(A b n).natAbs*(A k c).natAbs):zmm A bas n c k b=decide (bas k<bas b):=by unfold zmm;rw[decide_eq_false og,decide_eq_true h];simp
theorem zzv {z:Int} (h:Sz ((z:Int):Rat) 100000):(A9 z.natAbs).length<=4294967296:=by have a:=h.1;rw[Rat.num_intCast] at a;omega
theorem zz1410 (x y:Nat):(x<y/\X6 x y<0)\/(x=y/\X6 x y=0)\/(y<x/\0<X6 x y):=by
 unfold X6;rcases Nat.lt_trichotomy x y with h|h|h
 ·left;refine⟨h,?_⟩;grind
 ·right;left;refine⟨h,?_⟩;grind
 ·right;right;refine⟨h,?_⟩;grind
theorem yvu (z:Int):decide (znj (z:Rat)<=0)=decide (z<=0):=by have h:=ymj z;rw[decide_eq_decide] at h⊢;omega
theorem ywc {w:f} {S:Nat->Prop} {lo0 lo g n:Nat} {L:Lay} {t:TB} {st e steps:Int} (h:U8 w S lo0 lo g L m n sc top t st e steps) (hc:c<n) (cH:m<=100) (cI:n<=100) (bn:∀ar bt,ar<=m->bt<=n->Sz ((t.A ar bt:Int):Rat) 100000):
 Calls Tryz.prog 116 #[.pointer (some ⟨g,0,none⟩),.int .i64 (c:Int)] w fun Q w'=>Q= .returned (.int .i64 (O0 (zmo m n t c)))/\Below w.heap.size w w':=by
 obtain⟨bF,aj,B⟩:=G0 h bn hc;obtain⟨b8,cL,cc,cP,D0,cm,cj,cq,-,⟨C,bN,D,E,bO⟩,-,-,-⟩:=h.open;obtain⟨bas,aN⟩:=nm (fun ar=>t.bas.getD ar 0);have bG:Hid (zmo m n t c=Z3 t.A bas n c m):=(by rw[Hid,aN];rfl);rw[bG.out];have a0:=a aN;have bi:=h.caps;have bT:m<=L.bc/\L.bc<=9223372036854775807/\m<=L.rc/\L.rc<=9223372036854775807:=(by unfold maxLen at bi;omega);obtain⟨cF,cG,cJ,cK⟩:=bT;have aq:∀Z,Z<m+2->F9 m n Z<=L.cp Z/\L.cp Z<=9223372036854775807:=fun Z bV=>(by have:=h.cap Z bV;unfold maxLen at this;exact this);have ah:=a aq;have ck:m<=L.cp m:=(by have:=(aq m og).1;rwa[M9] at this);have cl:L.cp m<=9223372036854775807:=(aq m og).2;have cz:(0:Int)<=(c:Int):=og;have cA:(c:Int)<(n:Int):=og;have cn:=T3;obtain⟨ra,aR⟩:=nm (L.ra);rw[<-aR] at D;obtain⟨bE,ay⟩:=C5 aR (i C (i D E));clear h bn aN bi aq C bN E bO aR;go_in;go_wp2_with fail;clear D;go_loopw [17,5,6,7,8,9,10] (fun aV best _ _ _ _ _ wr=>∃k:Nat,k<=m/\aV= .int .i64 (k:Int)/\best= .int .i64 (O0 (Z3 t.A bas n c k))/\Below w.heap.size w wr) (fun aV _ _ _ _ _ _ _=>m-(intOf aV).toNat);case atStart=>exact⟨0,Nat.zero_le _,rfl,rfl,Below.refl _ _⟩
 case round=>
  obtain⟨k,cE,rfl,rfl,bf⟩:=hrel;have y:=a bf;clear bf;rcases Nat.lt_or_ge k m with x|cB
  ·have p:=a (bF.out.next y.out);have aO:=p.out.hd k x;have bY:=bE.out.trans aO.1;subst bY;have an:=aO.2.2;have bA:=p.out.hv k og (by rw[J4 x];have:=B.out;omega);have bB:=p.out.hv m og (by rw[M9];omega);rw[bA] at an;have C:=C0 y.out ay.out.1;have D:=C0 y.out ay.out.2.1;have E:=C0 y.out ay.out.2.2;rw[(p.out.basW og).1] at C;rw[bB] at E;obtain⟨bJ,b1,cf,lF,-,ac,R,ao,aI⟩:=p.out.el (l:=k) (j:=c) og (by rw[J4 x];exact B.out);obtain⟨b9,cM,cd,cQ,-,u0,u1,u2,aW⟩:=p.out.el (l:=m) (j:=k) og (by rw[M9];exact x);rw[zvu x] at ac R aI;rw[zuh] at u0 u1 aW;have V:=(p.out.basW og).2.el k x;have a6:t.bas.getD k 0=bas k:=(by rw[a0.out]);have V:wr.cell? ⟨L.bb,k,none⟩=some (.int .i64 ((bas k:Nat):Int)):=(by rw[<-a6];exact V);have cr:n<=L.cp k:=(by have:=(ah.out k og).1;rwa[J4 x] at this);have cs:L.cp k<=9223372036854775807:=(ah.out k og).2;have cC:(0:Int)<=(k:Int):=og;have cD:(k:Int)<(m:Int):=og;have ab:=a x;have o:Hid (k+1<=m):=x;obtain⟨I,ak⟩:=C5 aI aW;obtain⟨cW,bq⟩:=nm (decide (t.A k c<0));obtain⟨b4,br⟩:=nm ((A9 (t.A k c).natAbs).length);obtain⟨cv,bg⟩:=nm (decide (t.A k n<0));obtain⟨cw,bh⟩:=nm ((A9 (t.A k n).natAbs).length);obtain⟨cV,bp⟩:=nm ((A9 1).length);rw[<-bq] at ac I;rw[<-br] at R I;rw[<-bg] at u0 ak;rw[<-bh] at u1 ak;rw[<-bp] at ao I u2 ak;obtain⟨sg,aS⟩:=nm (znj ((t.A k c:Int):Rat));have az:=a aS;have bj:decide (sg<=0)=decide (t.A k c<=0):=(by rw[aS];exact yvu _);have bX:(wr.cell? ⟨L.bk k,c*3+1,none⟩=some (.slice bJ b4 b1)):=R;have T:=a (i C (i D (i E (i u1 (i R V)))));clear bq br bg bh bp aI aW aO a6 aS bX;by_cases Y:t.A k c<=0
   ·have H:=a Y;rw[decide_eq_true Y] at bj;clear Y u0 u1 u2 C E V;go_wp2_with fail;refine(zse I.out).mono ?_;rw[<-az.out];rintro Q v ⟨rfl,d⟩;have z:=nB y d;clear d an ac R ao D;go_wp2_with fail;go_roundw;(case rel=>exact⟨k+1,o.out,by go_num,by rw[ywb H.out],z.out⟩);case measure=>simp[intOf];have:=o.out;omega
   ·have H:=a Y;rw[decide_eq_false Y] at bj;clear Y;cases W:Z3 t.A bas n c k with
    |none=>have be:O0 (none:Option Nat)= -1:=rfl;rw[be];clear u0 u1 u2 C E V;go_wp2_with fail;refine(zse I.out).mono ?_;rw[<-az.out];rintro Q v ⟨rfl,d⟩;have z:=nB y d;clear d an ac R ao D;go_wp2_with fail;go_roundw;(case rel=>exact⟨k+1,o.out,by go_num,by rw[ywa (oh H) W],z.out⟩);case measure=>simp[intOf];have:=o.out;omega
    |some b=>
     have bQ:=zym W;have F:b<m:=oh ab;have bR:O0 (some b)=(b:Int):=rfl;rw[bR];have cx:(0:Int)<=(b:Int):=og;have d:(b:Int)<(m:Int):=og;have be:decide ((b:Int)<0)=false:=decide_eq_false og;have bx:=p.out.hv b og (by rw[J4 F];have:=B.out;omega);have aH:=(p.out.hd b F).2.2;rw[bx] at aH;obtain⟨ca,cN,cg,cR,-,-,au,-,aJ⟩:=p.out.el (l:=b) (j:=c) og (by rw[J4 F];exact B.out);obtain⟨cb,cO,ch,cS,-,-,av,-,aQ⟩:=p.out.el (l:=m) (j:=b) og (by rw[M9];exact F);rw[zvu F] at au aJ;rw[zuh] at av aQ;have al:=(p.out.basW og).2.el b F;have a5:t.bas.getD b 0=bas b:=(by rw[a0.out]);have al:wr.cell? ⟨L.bb,b,none⟩=some (.int .i64 ((bas b:Nat):Int)):=(by rw[<-a5];exact al);have ct:n<=L.cp b:=(by have:=(ah.out b og).1;rwa[J4 F] at this);have cu:L.cp b<=9223372036854775807:=(ah.out b og).2;obtain⟨aC,aD,a2,a1⟩:=X7 (zkx aJ) (zkx aQ) (zkx I.out) (zkx ak.out);obtain⟨b5,a8⟩:=nm ((A9 (t.A b c).natAbs).length);obtain⟨b7,a9⟩:=nm ((A9 (t.A b n).natAbs).length);rw[<-a8] at au aC;rw[<-a9] at av aD;rw[Rat.num_intCast] at aC aD a2 a1;obtain⟨ai,ag⟩:=C5 F (i aH (i au (i av al)));clear u0 u1 u2 C E V aH au av al aJ aQ a8 a9 a5 bQ;go_wp2_with fail;refine(zse I.out).mono ?_;rw[<-az.out];rintro Q v ⟨rfl,d⟩;have aa:=a d;have q:=C0 d T.out.1;have J:=C0 d T.out.2.1;have K:=C0 d T.out.2.2.1;have M:=C0 d T.out.2.2.2.1;have N:=C0 d T.out.2.2.2.2.1;have r:=C0 d T.out.2.2.2.2.2;have O:=C0 d ag.out.1;have b2:=C0 d ag.out.2.1;have P:=C0 d ag.out.2.2.1;have s:=C0 d ag.out.2.2.2;clear d an ac R ao D;go_wp2_with fail;have l:=yhv q J K M N r O b2 P s;have aY:=a fun aE (ad:Below v.heap.size v aE)=>znt (E9 (IsK.stb.next (IsK.stb.next a1.out aa.out) (ad))) (E9 (IsK.stb.next (IsK.stb.next aC.out aa.out) (ad))) (j _) (j _) (zzv (aj.out k n (znu ab ai) (oh B))) (zzv (aj.out b c (znu ab ai) (oh B)));clear q J K M N r O b2 P s
     go_region_held3 (SH.mk _ l).s
      (exact l.out _ bel)
       (first
         |(go_at_call 160;(with_reducible refine Calls.mono (aY.out _ bel) ?_);rintro Q b3 ⟨⟨cT,rfl,aT⟩,cy⟩;have bv:=bW v b3;have bK:=a (zoi aT);obtain⟨bH,bZ,rfl,_,_,_⟩:=id aT))
     clear aY aT;have bM:=bv.out;go_wp2_with fail;have aZ:=a fun aE (ad:Below v.heap.size v aE)=>znt (E9 (IsK.stb.next (IsK.stb.next aD.out aa.out) (ad))) (E9 (IsK.stb.next (IsK.stb.next a2.out aa.out) (ad))) (j _) (j _) (zzv (aj.out b n (znu ab ai) (oh B))) (zzv (aj.out k c (znu ab ai) (oh B)))
     go_region_held3 (SH.mk _ l).s
      (exact l.out _ bel)
       (first
         |(go_at_call 160;(with_reducible refine Calls.mono (aZ.out _ bel) ?_);rintro Q af ⟨⟨cU,rfl,aU⟩,bd⟩;have bw:=bW v af;have bL:=a (zoi aU);obtain⟨bI,b0,rfl,_,_,_⟩:=id aU))
     clear aZ aU;have a4:=bw.out;have aA:Hid (IsN af 0 af.heap.size (.slice bH (A9 ((t.A k n).natAbs*(t.A b c).natAbs)).length bZ) ((t.A k n).natAbs*(t.A b c).natAbs)):=E9 (IsK.stb.next bK.out (by first|exact bd|exact C6 (U4 _) bd));have aB:Hid (IsN af 0 af.heap.size (.slice bI (A9 ((t.A b n).natAbs*(t.A k c).natAbs)).length b0) ((t.A b n).natAbs*(t.A k c).natAbs)):=E9 bL.out;obtain⟨X,aL⟩:=nm ((t.A k n).natAbs*(t.A b c).natAbs);obtain⟨a3,aM⟩:=nm ((t.A b n).natAbs*(t.A k c).natAbs);rw[<-aL] at aA⊢;rw[<-aM] at aB⊢;have A:=a (i aL aM);obtain⟨ae,u⟩:=nm (X6 X a3);have bC:=a u;have aP:=zz1410 X a3;rw[<-u] at aP;have bD:=a aP;clear aL aM u aP;go_wp2_with fail;refine(zsu aA.out aB.out).mono ?_;rw[<-bC.out];rintro Q bu ⟨rfl,hd5⟩;have aX:Hid (Below v.heap.size v bu):=C6 a4 (hd5.below _);have z:=a (C6 (C6 y.out aa.out) aX.out);clear hd5 bM a4 aA aB;obtain⟨q,J,K,M,N,r,O,b2,P,s⟩:=l.out bu aX.out;clear l;rcases bD.out with⟨G,u⟩|⟨G,u⟩|⟨G,u⟩
     ·have U:=a G;have a7:decide (ae<0)=true:=decide_eq_true u;clear G u;have l:=zkr q r s;clear q J K M N r O b2 P s;go_wp2_with fail;refine wp_region_noPanic ?_;refine zkq l fun aK=> ?_;refine sT 0 71 ?_;refine sT 1 72 ?_;refine sT 2 73 ?_;refine sU 3 74 ?_;refine sU 4 75 ?_;refine sU 5 76 ?_;refine sU 6 77 ?_;refine sU 7 78 ?_;refine sU 8 79 ?_;refine sU 9 80 ?_;refine sU 10 81 ?_;refine sU 11 82 ?_;refine sU 12 83 ?_;refine sU 13 84 ?_;refine sU 14 85 ?_;refine sU 15 86 ?_;refine sU 16 87 ?_;refine sU 17 88 ?_;refine sU 18 89 ?_;refine sU 19 90 ?_;refine sU 20 91 ?_;refine sU 21 92 ?_;refine sU 22 93 ?_;refine sU 23 94 ?_;refine sT 24 95 ?_;refine wpAnyH_done kr ?_ _;refine NoPanic.normal ?_;clear l;go_wp2_with fail;have aG:=z.out;go_roundw;(case rel=>exact⟨k+1,o.out,by go_num,by rw[yis (oh H) W (ywh (by have h:=U.out;rw[A.out.1,A.out.2] at h;exact h))],bel⟩);case measure=>simp[intOf];have:=o.out;omega
     ·have U:=a G;have a7:decide (ae<0)=false:=decide_eq_false og;have bP:(ae==0)=true:=(by rw[u];rfl);clear G u;by_cases bm:bas k<bas b
      ·have bU:decide (((bas k:Nat):Int)<((bas b:Nat):Int))=true:=decide_eq_true og;have l:=zkr q r s;clear q J K M N r O b2 P s;go_wp2_with fail;refine wp_region_noPanic ?_;refine zkq l fun aK=> ?_;refine sT 0 71 ?_;refine sT 1 72 ?_;refine sT 2 73 ?_;refine sT 3 74 ?_;refine sT 4 75 ?_;refine sT 5 76 ?_;refine sT 6 77 ?_;refine sT 7 78 ?_;refine sT 8 79 ?_;refine sT 9 80 ?_;refine sT 10 81 ?_;refine sT 11 82 ?_;refine sT 12 83 ?_;refine sT 13 84 ?_;refine sT 14 85 ?_;refine sT 15 86 ?_;refine sT 16 87 ?_;refine sT 17 88 ?_;refine sT 18 89 ?_;refine sT 19 90 ?_;refine sT 20 91 ?_;refine sT 21 92 ?_;refine sT 22 93 ?_;refine sT 23 94 ?_;refine sT 24 95 ?_;refine wpAnyH_done kr ?_ _;refine NoPanic.normal ?_;clear l;go_wp2_with fail;have aG:=z.out;go_roundw;(case rel=>exact⟨k+1,o.out,by go_num,by rw[yis (oh H) W (by rw[yiw (by have h:=U.out;rw[A.out.1,A.out.2] at h;exact h)];exact decide_eq_true bm)],bel⟩);case measure=>simp[intOf];have:=o.out;omega
      ·have bU:decide (((bas k:Nat):Int)<((bas b:Nat):Int))=false:=decide_eq_false og;have l:=zkr q r s;clear q J K M N r O b2 P s;go_wp2_with fail;refine wp_region_noPanic ?_;refine zkq l fun aK=> ?_;refine sT 0 71 ?_;refine sT 1 72 ?_;refine sT 2 73 ?_;refine sT 3 74 ?_;refine sT 4 75 ?_;refine sT 5 76 ?_;refine sT 6 77 ?_;refine sT 7 78 ?_;refine sT 8 79 ?_;refine sT 9 80 ?_;refine sT 10 81 ?_;refine sT 11 82 ?_;refine sT 12 83 ?_;refine sT 13 84 ?_;refine sT 14 85 ?_;refine sT 15 86 ?_;refine sT 16 87 ?_;refine sT 17 88 ?_;refine sT 18 89 ?_;refine sT 19 90 ?_;refine sT 20 91 ?_;refine sT 21 92 ?_;refine sT 22 93 ?_;refine sT 23 94 ?_;refine sT 24 95 ?_;refine wpAnyH_done kr ?_ _;refine NoPanic.normal ?_;clear l;go_wp2_with fail;have aG:=z.out;go_roundw;(case rel=>exact⟨k+1,o.out,by go_num,by rw[yit (oh H) W (by rw[yiw (by have h:=U.out;rw[A.out.1,A.out.2] at h;exact h)];exact decide_eq_false bm)],bel⟩);case measure=>simp[intOf];have:=o.out;omega
     ·have U:=a G;have a7:decide (ae<0)=false:=decide_eq_false og;have bP:(ae==0)=false:=(by simp;omega);clear G u;have l:=zkr q r s;clear q J K M N r O b2 P s;go_wp2_with fail;refine wp_region_noPanic ?_;refine zkq l fun aK=> ?_;refine sT 0 71 ?_;refine sT 1 72 ?_;refine sT 2 73 ?_;refine sT 3 74 ?_;refine sT 4 75 ?_;refine sT 5 76 ?_;refine sU 6 77 ?_;refine sU 7 78 ?_;refine sU 8 79 ?_;refine sU 9 80 ?_;refine sU 10 81 ?_;refine sU 11 82 ?_;refine sU 12 83 ?_;refine sU 13 84 ?_;refine sU 14 85 ?_;refine sU 15 86 ?_;refine sU 16 87 ?_;refine sU 17 88 ?_;refine sU 18 89 ?_;refine sU 19 90 ?_;refine sU 20 91 ?_;refine sU 21 92 ?_;refine sU 22 93 ?_;refine sT 23 94 ?_;refine sT 24 95 ?_;refine wpAnyH_done kr ?_ _;refine NoPanic.normal ?_;clear l;go_wp2_with fail;have aG:=z.out;go_roundw;(case rel=>exact⟨k+1,o.out,by go_num,by rw[yit (oh H) W (ywf (by have h:=U.out;rw[A.out.1,A.out.2] at h;exact h))],bel⟩);case measure=>simp[intOf];have:=o.out;omega
  ·obtain rfl:k=m:=og;go_wp2_with fail;go_ret;exact⟨rfl,y.out⟩
def yeq {e:Type} (F:Fence) (n:Nat) (P:Program) (g:Nat) (lb:Array d) (q:e->Array d->Prop) (p:e->e->Prop) (Rd:e->f->Prop) (Fin:e->f->f->Prop) (w:f):Prop:=
 ∀(l:Nat) (c j:e->f->Prop) (k:f->Prop) (h:f),Below w.heap.size w h->AbidesFrom h.heap.size c->(∀s b,c s b->Rd s b)->
  (∀s o b,c s b->q s o->YieldAt F (n-1) P l o b fun i a=>(i= .returned (.bool true)/\∃m,p s m/\c m a)\/(i= .returned (.bool false)/\k a))->
  (∀s b a,c s b->Fin s b a->j s a)->(∃s,c s h)->
  CallsIn F n P g (#[.func (.yield l) #[] #[]]++lb) h fun i a=>(∃v,i= .returned v)/\((∃s,j s a)\/k a)
def ysz {e:Type} (B:Nat) (k:e->f->Prop) (g:Code->f->Prop) (m:e->e->Prop) (s:e) (c:f):Exit->Act->f->Prop
 | .normal,_,b=>KeepsFrom B c b/\∃h,m s h/\k h b
 | .ret,_,b=>KeepsFrom B c b/\g .ret b
 | .exit id,_,b=>KeepsFrom B c b/\g (.exit id) b
 | .goto t,_,b=>KeepsFrom B c b/\g (.goto t) b
 |_,_,_=>False
section
variable {F : Fence} {n : Nat} {P : Program}
theorem yoe {σ:Type} {g:Operand} {T:Array Tmp} {assign body:Code} {U:Exit->Act->f->Prop} {a:Act} {w:f}
 (aA:F.round=none) (ak:1<=n) {gf:Nat} {lb:Array d} (hg:a.eval g= .func (.func gf) #[] lb) (al:F.fn gf) (ah:∀args w,(callFunc gf args).run P w= .ok (.enter gf args) w)
 {S:σ->Array d->Prop} {Z:σ->σ->Prop} {Rd:σ->f->Prop} {Fin:σ->f->f->Prop} {O:f} (aC:yeq F (n-1) P gf lb S Z Rd Fin O) (ac:Below O.heap.size O w) (az:∀s e,S s e->e.size=T.size)
 (x Q:σ->f->Prop) (R:Code->f->Prop) (hI:OwnFrom w.heap.size x) (hI':OwnFrom w.heap.size Q) (hIx:OwnFrom w.heap.size R) (hRd:∀s b,x s b->Rd s b)
 (hfin:∀s b I,x s b->Fin s b I->Q s I/\KeepsFrom w.heap.size b I) (aj:∃s,x s w) (aa:Array d->Act)
 (hassign:∀(N:Nat) (s:σ) (e:Array d) (b:f) (Y:Act->f->Prop),S s e->Y (aa e) b->
   assign.wpIn (F.inRound N) (n-1-1) P (Exit.then Y (fun _ _ _=>False)) {tmps:=(T.zip e).foldl (fun t (p,v)=>t.setIfInBounds p v) a.tmps,defers:=[]} b)
 (hbody:∀(N:Nat) (s:σ) (e:Array d) (b:f),w.heap.size<=N->(∃r,b.heap[N]? =some (.loop r))->x s b->S s e->body.wpIn (F.inRound N) (n-1-1) P (ysz w.heap.size x R Z s b) (aa e) b)
 (hdone:∀(D:Nat) (s:σ) (b:f),w.heap.size<=D->Q s b->b.heap[D]? =some (.deferred (some []))->U .normal {a with defers:={target:= .collected D,args:= #[]}::a.defers} b)
 (hstop:∀(D:Nat) (c:Code) (b:f),w.heap.size<=D->R c b->b.heap[D]? =some (.deferred (some []))->c.wpIn F n P U {a with defers:={target:= .collected D,args:= #[]}::a.defers} b):
 (Code.rangeFunc g T assign body).wpIn F n P U a w:=by
 refine wpIn_rangeFunc fun fn aq=> ?_
 rw[aA]
 obtain⟨D,hD⟩:=nm (w.heap.size)
 obtain⟨rec,u⟩:∃rec:LoopState->Option Code->Loop,rec=fun st aE=>{state:=st,pending:=aE,fn,tmps:=a.tmps,params:=T,assign,body,defers:=D}:=⟨_,rfl⟩
 obtain⟨m,H⟩:=nm ((w.alloc (.deferred (some []))).alloc (.loop (rec .ready none)))
 have recAt:m.heap[D+1]? =some (.loop (rec .ready none)):=by
  have h:=World.alloc_heap_new (w.alloc (.deferred (some []))) (.loop (rec .ready none))
  rw[World.size_alloc] at h
  rw[H,hD]
  exact h
 have af:m.heap[D]? =some (.deferred (some [])):=by
  rw[H,hD]
  exact(Below.heap_alloc _ _ _ (by simp)).trans (World.alloc_heap_new w _)
 have an:∃s,x s m:=by
  obtain⟨s,M⟩:=aj
  exact⟨s,by rw[H];exact hI.alloc _ (hI.alloc _ M)⟩
 have aK:m.heap.size=D+2:=by rw[H,hD];simp
 have ao:Below O.heap.size O m:=by
  rw[H]
  exact ac.trans ((((Below.refl _ w).alloc (j _) _).alloc (by simp) _).mono ac.size)
 rw[<-hD] at hI hI' hIx hfin hbody hdone hstop
 refine⟨D+1,[{target:= .collected D,args:= #[]}],m,{target:= .fn (.func gf) lb,args:= #[.func (.yield (D+1)) #[] #[]]},m,gf,#[.func (.yield (D+1)) #[] #[]]++lb,m,?_,?_,?_,?_,fun _=>ak,?_⟩
 ·rw[H,u,hD]
  exact run_enterLoop_outer _ _ _ _ _
 ·simp only[resolve,hg]
  simp[go_sem]
 ·intro aJ ad
  simp[Target.leads] at ad
  subst ad
  exact al
 ·simp[invoke,go_sem,ah]
 have walk:∀{A B:f} {row:Option Nat},(∀r,row=some r->m.heap.size<=r/\∃G:Obj,A.heap[r]? =some G/\G.isWalk=true)->∀r,row=some r->D<=r/\∃G:Obj,A.heap[r]? =some G/\G.isCells=false:=fun hr r y=>by
  obtain⟨J,G,ay,aD⟩:=hr r y
  exact⟨by omega,G,ay,Obj.not_cells_of_walk aD⟩
 refine(aC (D+1) (fun p b=>x p b/\b.heap[D+1]? =some (.loop (rec .ready none))/\b.heap[D]? =some (.deferred (some [])))
  (fun p b=>Q p b/\b.heap[D+1]? =some (.loop (rec .ready none))/\b.heap[D]? =some (.deferred (some [])))
  (fun b=>∃c,R c b/\b.heap[D+1]? =some (.loop (rec .done (some c)))/\b.heap[D]? =some (.deferred (some []))) m ao
  (fun p A B row l W hr=>⟨hI p A B row l.1 W (walk (B:=B) hr),(grownBy_keeps W (fun r y=>(hr r y).2) l.2.1 rfl).trans l.2.1,(grownBy_keeps W (fun r y=>(hr r y).2) l.2.2 rfl).trans l.2.2⟩)
  (fun s V h=>hRd s V h.1) ?round (fun s V I h hf=>by
   obtain⟨ai,z⟩:=hfin s V I h.1 hf
   exact⟨ai,z.same _ _ og h.2.1 rfl,z.same _ _ (j _) h.2.2 rfl⟩) (by obtain⟨s,M⟩:=an;exact⟨s,M,recAt,af⟩)).mono ?behind
 case behind=>
  rintro y b ⟨⟨v,rfl⟩,h⟩
  rcases h with⟨s,M,q,z⟩|⟨c,hc,q,z⟩
  ·have K:=run_endLoop (P:=P) q (by rw[u];simp)
   rw[u] at K
   exact⟨none,_,K,hdone D s _ (j _) (hI'.putObj _ M og q rfl) ((World.putObj_heap_other og).trans z)⟩
  ·have K:=run_endLoop (P:=P) q (by rw[u];simp)
   rw[u] at K
   exact⟨some c,_,K,hstop D c _ (j _) (hIx.putObj _ hc og q rfl) ((World.putObj_heap_other og).trans z)⟩
 case round=>
  rintro s e b ⟨ar,q,z⟩ X
  have au:D+1<b.heap.size:=(Array.getElem?_eq_some_iff.1 q).1
  have ae:=run_yield (P:=P) (args:=e) q (by rw[u];exact az s e X)
  rw[u] at ae
  refine⟨fn,_,assign,body,ae,roundIn_of_wpIn aq (hassign _ s e b _ X ⟨_,run_beginRound q (by rw[u]),?_⟩)⟩
  obtain⟨B,J⟩:=nm (b.putObj (D+1) (.loop {rec .ready none with state:= .busy}))
  have ab:B.heap[D+1]? =some (.loop {rec .ready none with state:= .busy}):=by rw[J];exact World.putObj_heap_same au
  have ag:B.heap[D]? =some (.deferred (some [])):=by rw[J];exact(World.putObj_heap_other og).trans z
  rw[<-J]
  refine wpIn_mono (hbody (D+1) s e B og ⟨_,ab⟩ (by rw[J];exact hI.putObj _ ar og q rfl) X) ?_
  have fin:∀(jump:Option Code) (i:f),KeepsFrom D B i->
   (Instr.endRound (D+1) jump).run P i= .ok (.bool jump.isNone) (i.putObj (D+1) (.loop (rec (if jump.isNone then .ready else .done) jump)))/\
   i.heap[D+1]? =some (.loop {rec .ready none with state:= .busy})/\
   (i.putObj (D+1) (.loop (rec (if jump.isNone then .ready else .done) jump))).heap[D+1]? =some (.loop (rec (if jump.isNone then .ready else .done) jump))/\
   (i.putObj (D+1) (.loop (rec (if jump.isNone then .ready else .done) jump))).heap[D]? =some (.deferred (some [])):=fun jump i o=>by
   have k:=o.same _ _ og ab rfl
   have:=run_endRound (P:=P) jump k
   rw[u] at this⊢
   exact⟨this,by rw[u] at k;exact k,World.putObj_heap_same (Array.getElem?_eq_some_iff.1 k).1,(World.putObj_heap_other og).trans (o.same _ _ (j _) ag rfl)⟩
  rintro y aH i l
  cases y with
  |normal=>
   obtain⟨o,aG,av,aB⟩:=l
   obtain⟨hr,k,E,C⟩:=fin none i o
   exact⟨_,_,hr,.inl ⟨rfl,aG,av,hI.putObj _ aB og k rfl,E,C⟩⟩
  |ret=>
   obtain⟨o,L⟩:=l
   obtain⟨hr,k,E,C⟩:=fin (some .ret) i o
   exact⟨_,_,hr,.inr ⟨rfl,.ret,hIx.putObj _ L og k rfl,E,C⟩⟩
  |exit id=>
   obtain⟨o,L⟩:=l
   obtain⟨hr,k,E,C⟩:=fin (some (.exit id)) i o
   exact⟨_,_,hr,.inr ⟨rfl,.exit id,hIx.putObj _ L og k rfl,E,C⟩⟩
  |goto t=>
   obtain⟨o,L⟩:=l
   obtain⟨hr,k,E,C⟩:=fin (some (.goto t)) i o
   exact⟨_,_,hr,.inr ⟨rfl,.goto t,hIx.putObj _ L og k rfl,E,C⟩⟩
  |panic aI=>exact l.elim
  |outgrown=>exact l.elim
end
attribute [local go_sem] Oper.semAt_some
set_option linter.unusedVariables false
def you (m n:Nat) (t:TB) (a:Array d):Prop:=∃r c,zkw m n t=some c/\zmo m n t c=some r/\a= #[.int .i64 (r:Int),.int .i64 (c:Int)]
def RdS (S:Nat->Prop) (lo0 lo g:Nat) (L:Lay) (m n:Nat) (sc:Nat->Nat) (top M B:Nat) (t:TB) (a:f):Prop:=
 (∃st e steps,U8 a S lo0 lo g L m n sc top t st e steps)/\TInv M m n t/\(∀b,b<m->0<=t.A b n)/\Row a B 88 [.pointer (some ⟨g,0,none⟩)]
def FinS (g m n:Nat) (t:TB) (d b:f):Prop:=
 ∃a,Below d.heap.size d a/\a.grownBy b (some g)/\
  ((zkw m n t=none/\∀T xs,Row a g T xs->Row b g T (xs.set 11 (.int .i64 1)))\/
   ∃c,zkw m n t=some c/\zmo m n t c=none/\∀T xs,Row a g T xs->Row b g T ((xs.set 11 (.int .i64 3)).set 12 (.int .i64 (c:Int))))
theorem ymv {n r:Nat} {t:TB} (b:zkw m n t=some c) (e:zmo m n t c=some r):zkl m n t=some (V9 t r c):=by unfold zkl;rw[b];show(match zmo m n t c with|none=>none|some r=>some (V9 t r c))=_;rw[e]
theorem FinS.sch {S:Nat->Prop} {lo0 lo g n:Nat} {L:Lay} {t:TB} {st e steps:Int} {o i:f} (hf:FinS g m n t o i) (h:U8 o S lo0 lo g L m n sc top t st e steps):
 (zkw m n t=none/\U8 i S lo0 lo g L m n sc top t 1 e steps)\/(∃c,zkw m n t=some c/\zmo m n t c=none/\U8 i S lo0 lo g L m n sc top t 3 (c:Int) steps):=by
 obtain⟨A,y,hg,hf⟩:=hf;have d:=h.next y;obtain⟨P,k,l,w,D,u,T,v,p,q,r,s⟩:=d.row;have a:=d.same hg fun b x=>(by cases x;exact d.gS.2);rcases hf with⟨j,hr⟩|⟨c,j,z,hr⟩
 ·exact .inl ⟨j,d.cells hg ⟨P,k,l,w,D,u,T,v,hr _ _ p,IsQ.stb.to q a,IsK.stb.to r a,IsK.stb.to s a⟩⟩
 ·exact .inr ⟨c,j,z,d.cells hg ⟨P,k,l,w,D,u,T,v,hr _ _ p,IsQ.stb.to q a,IsK.stb.to r a,IsK.stb.to s a⟩⟩
theorem yex {p:Nat->Bool} {key:Nat->Nat} {n:Nat} (h:W6 p key n=some c):c<n:=(znl h).1
theorem ykp {σ:Type} (b:σ->TB) (q:Nat) (aM:1<=q) {S:Nat->Prop} {lo0 lo g n M B:Nat} {L:Lay} {w:f} (W:m<=100) (Y:n<=100) (hF:(A9 (N9 M (m+1))).length<=100000):
 yeq Fence.wide q Tryz.prog 114 #[.pointer (some ⟨B,0,none⟩)] (fun s=>you m n (b s)) (fun s F=>zkl m n (b s)=some (b F)) (fun s=>RdS S lo0 lo g L m n sc top M B (b s)) (fun s=>FinS g m n (b s)) w:=fun aP C aC aD aE aK P hRd U hfin x=>by
 obtain⟨H,ad,af,G,ac,ab⟩:=hd6 P hRd U hfin hF x
 clear P hRd U hfin x hF
 refine callsIn_of_wp Tryz.func114 rfl trivial ?_ rfl
 simp only[Tryz.ntmps114,List.size_toArray,List.length_cons,List.length_nil,Nat.reduceAdd,Nat.reduceSub,Array.replicate_succ,Array.replicate_zero,List.push_toArray,List.append_toArray,List.nil_append,List.cons_append]
 gi_wp2
 gi_loopw [3,4] (fun _ _ wr=>∃s,C s wr) (fun _ _ wr=>leastM (fun s=>C s wr) (fun s=>leftO (zkl m n) (b s)))
 case atStart=>exact ab.out
 case round=>
  obtain⟨s,x,X⟩:=yiq (μ:=fun s=>leftO (zkl m n) (b s)) hrel
  obtain⟨N,ag⟩:=C5 x X
  clear hrel x X
  obtain⟨⟨st,e,steps,R⟩,hI,Q,O⟩:=ad.out s wr N.out
  have o:=O.cell 0
  simp at o
  obtain⟨I,z⟩:=C5 R (i hI Q)
  clear R hI Q O
  gi_wp2
  refine⟨trivial,callsIn_wide.2 ((yte I.out W Y).mono ?_)⟩
  rintro j aA ⟨rfl,t⟩
  obtain⟨J,aB,D⟩:=G0 (H.out _ _ _ none N.out (K0 t) (fun r j=>by cases j)) t (I.out.next t)
  replace o:=C0 t o
  clear t
  cases u:zkw m n (b s) with
  |none=>
   have E:O0 (none:Option Nat)= -1:=rfl
   rw[E]
   have k:=a u
   obtain⟨ah,ay,ai,az,D0,an,ak,ao,⟨d,-,-,-⟩,-,-,-,⟨aq,-,-⟩⟩:=D.out.open
   have f11:=d.frozen 11
   clear u d
   gi_wp2
   exact⟨rfl,_,results_none rfl _ _ _,⟨_,rfl⟩,.inl ⟨s,G.out s _ _ J.out ⟨aA,Below.refl _ _,I9 _ _ _ _,.inl ⟨k.out,fun T xs h=>h.set_ 11 _⟩⟩⟩⟩
  |some c=>
   have V:c<n:=yex u
   have ar:O0 (some c)=(c:Int):=rfl
   rw[ar]
   have aL:decide ((c:Int)<0)=false:=decide_eq_false og
   have k:=a (i u V)
   clear u V
   gi_wp2
   refine⟨trivial,callsIn_wide.2 ((ywc D.out k.out.2 W Y (z.out.1.sz ac.out og).1).mono ?_)⟩
   rintro j aa ⟨rfl,y⟩
   obtain⟨K,aj⟩:=C5 (H.out _ _ _ none J.out (K0 y) (fun r j=>by cases j)) (D.out.next y)
   replace o:=C0 y o
   clear y
   cases v:zmo m n (b s) c with
   |none=>
    have E:O0 (none:Option Nat)= -1:=rfl
    rw[E]
    have A:=a v
    obtain⟨ah,ay,ai,az,D0,an,ak,ao,⟨d,-,-,-⟩,-,-,-,⟨aq,aG,-⟩⟩:=aj.out.open
    have f11:=d.frozen 11
    have f12:=d.frozen 12
    clear v d
    gi_wp2
    gi_region
    gi_wp2
    exact⟨rfl,_,results_none rfl _ _ _,⟨_,rfl⟩,.inl ⟨s,G.out s _ _ K.out ⟨aa,Below.refl _ _,J7 (J7 (I9 _ _ _ _) (I9 _ _ _ _)) (K0 (U4 _)),.inr ⟨c,k.out.1,A.out,fun T xs h=>((h.set_ 11 _).set_ 12 _).drew⟩⟩⟩⟩
   |some r=>
    have av:r<m:=zym v
    have au:O0 (some r)=(r:Int):=rfl
    rw[au]
    have aN:decide ((r:Int)<0)=false:=decide_eq_false og
    have A:=a v
    clear v av
    obtain⟨fn,tmps,assign,body,aO,d⟩:=af.out s #[.int .i64 (r:Int),.int .i64 (c:Int)] aa K.out ⟨r,c,k.out.1,A.out,rfl⟩
    have ae:=a d
    clear d
    gi_wp2
    refine ae.out.mono ?_
    rintro j al (⟨rfl,F,Z,p⟩|⟨rfl,p⟩)
    ·have l:=a (i Z p)
     clear Z p
     gi_wp2
     go_roundw
     case rel=>exact⟨F,l.out.2⟩
     case measure=>
      have aH:=yir (J:=fun s=>C s al) (μ:=fun s=>leftO (zkl m n) (b s)) l.out.2
      have aI:=(yiu (yuw z.out.1 z.out.2) l.out.1).2
      have aJ:=ag.out
      omega
    ·have l:=a p
     clear p
     gi_wp2
     exact⟨rfl,_,results_none rfl _ _ _,⟨_,rfl⟩,.inr l.out⟩
theorem yko (w:f) (g:Nat):
 Calls Tryz.prog 54 #[.pointer (some ⟨g,0,none⟩)] w fun a w'=>a= .returned (.func (.func 114) #[] #[.pointer (some ⟨w.heap.size,0,none⟩)])/\Below w.heap.size w w'/\Row w' w.heap.size 88 [.pointer (some ⟨g,0,none⟩)]:=by go_in;go_wp2_with fail;go_ret;obtain⟨h,d,b,c,e⟩:=J5 w #[.pointer (some ⟨g,0,none⟩)] 88;rw[d];exact⟨rfl,b,c⟩
def zvc (w:f) (b:Nat):Prop:=∃a:Obj,w.heap[b]? =some a/\a.isCells=true
theorem IsK.atCells {k:IntKind} {w:f} {S:Nat->Prop} {d:List Nat} (h:IsK k w S v d):IsK k w (fun b=>S b/\zvc w b) v d:=by obtain⟨A,c,hv,e,g,i⟩:=h;refine⟨A,c,hv,e,g,fun a=> ?_⟩;obtain⟨b,off,j,l,hc⟩:=i a;obtain⟨n,o,m⟩:=List.exists_cons_of_ne_nil a;exact⟨b,off,j,⟨l,zxl (hc 0 n (by rw[m];rfl))⟩,hc⟩
theorem IsQ.atCells {w:f} {S:Nat->Prop} {q:Rat} (h:IsQ w S v q):IsQ w (fun b=>S b/\zvc w b) v q:=by obtain⟨A,c,B,d,hv,a,e⟩:=h;exact⟨A,c,B,d,hv,a.atCells,e.atCells⟩
section
variable {w w' : f} {r : Option Nat}
theorem zss (hg:w.grownBy w' r) (hr:∀x,r=some x->∃a:Obj,w.heap[x]? =some a/\a.isCells=false) (g:zvc w b):w'.heap[b]? =w.heap[b]? :=by obtain⟨a,d,hc⟩:=g;refine hg.block b (Array.getElem?_eq_some_iff.1 d).1 fun f=> ?_;obtain⟨h,e,c⟩:=hr b f.symm;rw[d] at e;cases e;rw[hc] at c;cases c
theorem Row.cellB {g:Nat} {t:TypeId} (h:Row w g t xs):zvc w g:=⟨_,h,rfl⟩
theorem Row.stays {g:Nat} {t:TypeId} (h:Row w g t xs) (hg:w.grownBy w' r) (hr:∀x,r=some x->∃a:Obj,w.heap[x]? =some a/\a.isCells=false):Row w' g t xs:=(zss hg hr h.cellB).trans h
theorem zwn {S:Nat->Prop} (hg:w.grownBy w' r) (hr:∀x,r=some x->∃a:Obj,w.heap[x]? =some a/\a.isCells=false) (d:∀b,S b->T b):K6 (fun b=>S b/\zvc w b) T w w':=fun b c=>⟨d b c.1,fun a=>l (zss hg hr c.2)⟩
theorem LineW.stays {S:Nat->Prop} {d:Nat->Int} (h:LineW w S b c m d) (hg:w.grownBy w' r) (hr:∀x,r=some x->∃e:Obj,w.heap[x]? =some e/\e.isCells=false) (p:∀b,S b->T b):LineW w' T b c m d:=by have a:w'.heap[b]? =w.heap[b]? :=zss hg hr (by obtain⟨u,g⟩:=h.blk;exact⟨_,g,rfl⟩);refine⟨by rw[a];exact h.blk,h.cap,fun s q=> ?_⟩;obtain⟨P,k,f,t,i,j,n,o⟩:=h.el s q;exact⟨P,k,f,t,(l a).trans i,(l a).trans j,(l a).trans n,IsQ.stb.to o.atCells (zwn hg hr p)⟩
theorem SchG.stays {S:Nat->Prop} {lo0 lo g n:Nat} {L:Lay} {F:Nat->Nat->Int} {z:Int} {d:Nat} {bas oth:List Nat} {st e steps:Int} (h:SchG w S lo0 lo g L m n sc top F z d bas oth st e steps) (hg:w.grownBy w' r) (hr:∀x,r=some x->∃q:Obj,w.heap[x]? =some q/\q.isCells=false):
 SchG w' S lo0 lo g L m n sc top F z d bas oth st e steps:=by
 have i:∀b,SN S lo w b->SN S lo w' b:=zmt hg.size
 refine {h with
  tab:=⟨fun p C a=>(h.tab.line p C a).stays hg hr i,h.tab.inj,h.tab.sep,h.tab.sS,Nat.le_trans h.tab.hlo hg.size⟩
  row:= ?_
  hd:=fun E B=> ?_
  basW:=fun a=>⟨(h.basW a).1,(h.basW a).2.keep (zss hg hr (by obtain⟨y,j⟩:=(h.basW a).2.blk;exact⟨_,j,rfl⟩))⟩
  othW:=fun a=>⟨(h.othW a).1,(h.othW a).2.keep (zss hg hr (by obtain⟨y,j⟩:=(h.othW a).2.blk;exact⟨_,j,rfl⟩))⟩
  scl:=fun v hv=> ?_}
 ·obtain⟨P,k,s,p,D,t,T,u,a,f,c,o⟩:=h.row;exact⟨P,k,s,p,D,t,T,u,a.stays hg hr,IsQ.stb.to f.atCells (zwn hg hr i),IsK.stb.to (IsK.atCells c) (zwn hg hr i),IsK.stb.to (IsK.atCells o) (zwn hg hr i)⟩
 ·obtain⟨a,f,c⟩:=h.hd E B;exact⟨a,f,(l (zss hg hr (zxl c))).trans c⟩
 ·obtain⟨a,f,P,k,c,o⟩:=h.scl v hv;exact⟨a,f,P,k,(l (zss hg hr (zxl c))).trans c,IsK.stb.to (IsK.atCells o) (zwn hg hr fun b A=>A)⟩
end
def IsMk (w:f) (S:Nat->Prop) (v:d) (q:(Nat×Int)×(Nat×Nat)):Prop:=∃bs a mk,v= .agg #[.int .i64 (q.2.2:Int),.int .i64 (q.2.1:Int),.func (.func 150) #[] #[.pointer (some ⟨bs,0,none⟩),.pointer (some ⟨mk,0,none⟩)],.func (.func 153) #[] #[.pointer (some ⟨bs,0,none⟩),.pointer (some ⟨a,0,none⟩),.pointer (some ⟨mk,0,none⟩)],.func (.func 155) #[] #[.pointer (some ⟨bs,0,none⟩),.pointer (some ⟨mk,0,none⟩)]]/\(S bs/\S a/\S mk)/\
 w.cell? ⟨bs,0,none⟩=some (.pointer (some ⟨q.1.1,0,none⟩))/\w.cell? ⟨a,0,none⟩=some (.int .i64 q.1.2)/\w.cell? ⟨mk,0,none⟩=some (.int .i64 (q.2.2:Int))/\w.cell? ⟨mk,1,none⟩=some (.int .i64 (q.2.1:Int))
theorem IsMk.stb:Stb IsMk:=by rintro w w' S T v q ⟨bs,e,mk,hv,⟨c,d,b⟩,f,g,h,i⟩ a;exact⟨bs,e,mk,hv,⟨(a _ c).1,(a _ d).1,(a _ b).1⟩,((a _ c).2 _).trans f,((a _ d).2 _).trans g,((a _ b).2 _).trans h,((a _ b).2 _).trans i⟩
structure Ready (p:ProgQ) (k m n g:Nat) (row:Int) (w:f) (st:Int) (s:Sol):Prop where
 cell:w.cell? ⟨g,11,none⟩=some (.int .i64 st)
 maker:∀W:f,Below w.heap.size w W->Calls Tryz.prog 91 #[.pointer (some ⟨g,0,none⟩),.int .i64 row] W fun e w'=>(∃v,e= .returned v/\IsMk w' (G4 W.heap.size w') v ((g,row),(m,n)))/\Below W.heap.size W w'
 make:∀W:f,Below w.heap.size w W->∀v,IsMk W (C3 W) v ((g,row),(m,n))->Calls Tryz.prog 92 #[v,.int .i64 st] W (zve W s)
 ans:zqa p k s
section
variable {w : f} {S : Nat → Prop} {lo0 lo g : Nat} {L : Lay} {t : TB} {st e steps : Int} {p : ProgQ} {N M k : Nat}
theorem yww {n:Nat} {row:Int} (h:U8 w S lo0 lo g L m n sc top t st e steps):∀a:f,Below w.heap.size w a->Calls Tryz.prog 91 #[.pointer (some ⟨g,0,none⟩),.int .i64 row] a fun b w'=>(∃v,b= .returned v/\IsMk w' (G4 a.heap.size w') v ((g,row),(m,n)))/\Below a.heap.size a w':=fun a l=>by
 refine(yxm (row:=row) (h.next l)).mono ?_
 rintro b w' ⟨⟨bs,j,mk,rfl,⟨q,r,s⟩,c,d,i,k⟩,p⟩
 exact⟨⟨_,rfl,bs,j,mk,rfl,⟨⟨q,o _ _ c⟩,⟨r,o _ _ d⟩,⟨s,o _ _ i⟩⟩,c,d,i,k⟩,p⟩
theorem zz1371 (b:FineP p N M) (n:(A9 N).length<=100000) (q:(A9 (N9 (M*N) (p.B.length+1)*N)).length<=k) (l:1<=k) (hF:(A9 (N9 (M*N) (p.B.length+1))).length<=100000) (m:Bru w) (h:U8 w S lo0 lo g L p.B.length p.C.length (Z5 p) (zkm p) t 1 e steps) (d:OkT (M*N) p.B.length p.C.length (Z5 p) (zkm p) (M0 p.B.length p.C.length (aF p.A) (lF p.B) (lF p.C)) t) (j:∀f,f<p.B.length->0<=t.A f p.C.length) (o:zkw p.B.length p.C.length t=none) (row:Int):
 ∃s,Ready p k p.B.length p.C.length g row w 1 s:=by obtain⟨_,_,_,_,_,_,_,_,_,_,_,_,i,_,_⟩:=h.open;have B:=b.good.nB;have C:=b.good.nC;refine⟨_,i,yww h,fun y c v hv=> ?_,ypm b q l d j o⟩;obtain⟨bs,A,mk,rfl,_,r,D,u,x⟩:=hv;exact ywt fun z a=>ywu ((h.next c).next a) d.inv (Bru.next (Bru.next m c) a) og og hF (b.scok n) (C0 a r) (C0 a u) (C0 a x)
end
theorem yev {p:ProgQ} {k:Nat} {s:Sol} (h:zqa p k s) (b:k<=1024):∃v X D R,s=⟨s.st,C7 v,C2 X,C2 D,C2 R⟩/\zlm v=true/\(∀q∈X,zlm q=true)/\(∀q∈D,zlm q=true)/\∀q∈R,zlm q=true:=by
 have f:zlm 0=true:=ztp (zsm (k:=1) og) og;have nil:∀q∈([]:List Rat),zlm q=true:=fun q a=>(by cases a);rcases h with⟨X,d,v,rfl,_,c,e,i⟩|⟨d,rfl,_,c⟩|⟨X,g,rfl,_,c,e⟩
 ·exact⟨v,X,d,[],rfl,ztp c b,fun q a=>ztp (e q a) b,fun q a=>ztp (i q a) b,nil⟩
 ·exact⟨0,[],d,[],rfl,f,nil,fun q a=>ztp (c q a) b,nil⟩
 ·exact⟨0,X,[],g,rfl,f,fun q a=>ztp (c q a) b,nil,fun q a=>ztp (e q a) b⟩
theorem ylr {l:f} {g:Nat} {a b c e i j k:d} {t:TypeId} (h:Row l g t xs):∃m,Row (pt7 l g a b c e i j k) g t m/\m.length=xs.length:=⟨_,((((((h.set_ 0 a).set_ 1 b).set_ 2 c).set_ 3 e).set_ 4 i).set_ 5 j).set_ 6 k,by simp⟩
theorem yja (h:xs.length=7):∃b c e g k m n,xs=[b,c,e,g,k,m,n]:=by
 match xs,h with
 |[b,c,e,g,k,m,n],_=>exact⟨_,_,_,_,_,_,_,rfl⟩
theorem yll {fn:Func} {slot t:Tmp} {tmps:Array d} {w:f} {g:Nat} {a b c e i j k:d} (hr:fn.results= #[.cell slot 69,.tmp t]) (ha:tmps.getD slot undef= .pointer (some ⟨g,0,none⟩))
 (h:Row w g 69 [a,b,c,e,i,j,k]):(results fn tmps).run Tryz.prog w= .ok (.tuple #[.agg #[a,b,c,e,i,j,k],tmps.getD t undef]) w:=by obtain⟨l,m,n,o,p,q,r⟩:=zll h;have s:tmps[slot]?.getD undef= .pointer (some ⟨g,0,none⟩):=(by simpa using ha);simp[results,hr,s,asAddr,go_sem,l,m,n,o,p,q,r]
def Z8 (g:Nat) (row st:Int) (m n:Nat) (s:Sol) (n0:Nat) (r:Nat) (v:d) (w:f) (x:Option d):Prop:=
 match r with
 |0=>v= .pointer (some ⟨g,0,none⟩)
 |1=>v= .int .i64 row
 |2=>IsMk w (NX n0 w x) v ((g,row),(m,n))
 |3=>v= .pointer (some ⟨g,0,none⟩)
 |4=>v= .pointer (some ⟨g,0,none⟩)
 |5=>v= .pointer (some ⟨g,11,none⟩)
 |6=>v= .int .i64 st
 |7=>IsSol w (NX n0 w x) v s
 |8=>vR 69 7 v w x
 |9=>∃g b c e h k p q,x=some (X5 g)/\Row w g 69 [b,c,e,h,k,p,q]/\IsSol w (NX n0 w (x)) (.agg #[b,c,e,h,k,p,q]) s
 |_=>True
theorem ykm (g:Nat) (row st:Int) (m n:Nat) (s:Sol) (n0:Nat):∀(c k:Nat) (v:d) (w w':f) (x:Option d),c≠k->Z8 g row st m n s n0 c v w x->vE 9 k w w' x->Z8 g row st m n s n0 c v w' x:=by
 intro c k v w w' x e h b;unfold vE at b;split at b
 ·rename_i F;subst F;obtain⟨g,rfl,hg,p,hr⟩:=b;match c,e,h with
  |0,_,h=>exact h
  |1,_,h=>exact h
  |2,_,h=>exact zqk IsMk.stb h hg p
  |3,_,h=>exact h
  |4,_,h=>exact h
  |5,_,h=>exact h
  |6,_,h=>exact h
  |7,_,h=>exact zqk IsSol.stb h hg p
  |8,_,h=>exact ynt h hr
  |9,e,_=>exact absurd rfl e
  |_+10,_,_=>trivial
 ·match c,h with
  |0,h=>exact h
  |1,h=>exact h
  |2,h=>exact zqv IsMk.stb h b
  |3,h=>exact h
  |4,h=>exact h
  |5,h=>exact h
  |6,h=>exact h
  |7,h=>exact zqv IsSol.stb h b
  |8,h=>exact yns h b
  |9,h=>obtain⟨g,t,y,z,A,B,C,D,E,r,q⟩:=h;exact⟨g,t,y,z,A,B,C,D,E,r.next b,zqv IsSol.stb q b⟩
  |_+10,_=>trivial
theorem ykl (g:Nat) (row st:Int) (m n:Nat) (s:Sol) (n0:Nat):∀(b:Nat) (v:d) (w w':f) (e:d),b≠8->Z8 g row st m n s n0 b v w none->vE 9 8 w w' none->zrh w e w'->Z8 g row st m n s n0 b v w' (some e):=by
 intro b v w w' e k h c q;unfold vE at c;rw[if_neg og] at c;obtain rfl:e=X5 w.heap.size:=q;match b,k,h with
 |0,_,h=>exact h
 |1,_,h=>exact h
 |2,_,h=>exact zte IsMk.stb h c
 |3,_,h=>exact h
 |4,_,h=>exact h
 |5,_,h=>exact h
 |6,_,h=>exact h
 |7,_,h=>exact zte IsSol.stb h c
 |8,k,_=>exact absurd rfl k
 |9,_,h=>obtain⟨g,r,t,x,y,z,A,B,p,_⟩:=h;cases p
 |_+10,_,_=>trivial
end Go.Proofs.YtlhhbccgfkhflaaGreatDoor
