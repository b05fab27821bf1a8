/-
 The contract of package simplex's leaving.
-/
import Derived.Test.YtdgilbgdkmhcmaaGreatDoorProofSimplexProves20
import Derived.RangeFuncFrom
import Derived.BigRegionIn
namespace Go.Proofs.YtdgilbgdkmhcmaaGreatDoor
open Go.RowKit
set_option linter.unusedVariables false
open Go.RowKit Go.Shelf
set_option maxRecDepth 100000
set_option maxHeartbeats 8000000
open _root_.Go.Lib renaming hid → a
open _root_.Nat renaming le_refl → j, lt_succ_self → q
open _root_.Go.World renaming cell?_of_block → l, block_lt_of_cell? → o
open _root_.And renaming intro → d
open _root_.Go renaming World → f, Value → i
variable {T : Nat → Prop} {b c m top : Nat} {sc : Nat → Nat} {v : i} {xs : List i}
theorem ytf {A:Nat->Nat->Int} {bas:Nat->Nat} {n k:Nat} (h:A k c<=0):W9 A bas n c (k+1)=W9 A bas n c k:=by rw[W9,if_pos h]
theorem yte {A:Nat->Nat->Int} {bas:Nat->Nat} {n k:Nat} (h:¬A k c<=0) (a:W9 A bas n c k=none):M8 (W9 A bas n c (k+1))=(k:Int):=by rw[W9,if_neg h,a];rfl
theorem ygy {A:Nat->Nat->Int} {bas:Nat->Nat} {n k:Nat} (h:¬A k c<=0) (a:W9 A bas n c k=some b) (d:zlv A bas n c k b=true):M8 (W9 A bas n c (k+1))=(k:Int):=by rw[W9,if_neg h,a];show M8 (if zlv A bas n c k b then some k else some b)=_;rw[if_pos d];rfl
theorem ygz {A:Nat->Nat->Int} {bas:Nat->Nat} {n k:Nat} (h:¬A k c<=0) (a:W9 A bas n c k=some b) (d:zlv A bas n c k b=false):M8 (W9 A bas n c (k+1))=(b:Int):=by rw[W9,if_neg h,a];show M8 (if zlv A bas n c k b then some k else some b)=_;rw[if_neg (by rw[d];decide)];rfl
theorem zxn {A:Nat->Nat->Int} {bas:Nat->Nat} {n:Nat}:∀{k b:Nat},W9 A bas n c k=some b->b<k
 |0,b,h=>by cases h
 |k+1,b,h=>by
  rw[W9] at h
  split at h
  ·exact Nat.lt_succ_of_lt (zxn h)
  ·cases e:W9 A bas n c k with
   |none=>rw[e] at h;cases h;exact q _
   |some x=>
    rw[e] at h
    have h:(if zlv A bas n c k x then some k else some x)=some b:=h
    split at h
    ·cases h;exact q _
    ·cases h;exact Nat.lt_succ_of_lt (zxn e)
theorem ytl {A:Nat->Nat->Int} {bas:Nat->Nat} {n k:Nat} (h:(A k n).natAbs*(A b c).natAbs<(A b n).natAbs*(A k c).natAbs):zlv A bas n c k b=true:=by unfold zlv;rw[decide_eq_true h];rfl
theorem ytj {A:Nat->Nat->Int} {bas:Nat->Nat} {n k:Nat} (h:(A b n).natAbs*(A k c).natAbs<(A k n).natAbs*(A b c).natAbs):zlv A bas n c k b=false:=by unfold zlv;rw[decide_eq_false og,decide_eq_false og];rfl
theorem yhc {A:Nat->Nat->Int} {bas:Nat->Nat} {n k:Nat} (h:(A k n).natAbs*(A b c).natAbs=(A b n).natAbs*(A k c).natAbs):zlv A bas n c k b=decide (bas k<bas b):=by unfold zlv;rw[decide_eq_false og,decide_eq_true h];simp
theorem zyz {z:Int} (h:Sz ((z:Int):Rat) 100000):(A9 z.natAbs).length<=4294967296:=by have a:=h.1;rw[Rat.num_intCast] at a;omega
theorem yzi (x y:Nat):(x<y/\U4 x y<0)\/(x=y/\U4 x y=0)\/(y<x/\0<U4 x y):=by
 unfold U4;rcases Nat.lt_trichotomy x y with h|h|h
 ·left;refine⟨h,?_⟩;grind
 ·right;left;refine⟨h,?_⟩;grind
 ·right;right;refine⟨h,?_⟩;grind
theorem ysy (z:Int):decide (zpn (z:Rat)<=0)=decide (z<=0):=by have h:=yjy z;rw[decide_eq_decide] at h⊢;omega
theorem ytg {w:f} {S:Nat->Prop} {lo0 lo g n:Nat} {L:Lay} {t:TB} {st e steps:Int} (h:O7 w S lo0 lo g L m n sc top t st e steps) (hc:c<n) (cI:m<=100) (cJ:n<=100) (bn:∀ar bt,ar<=m->bt<=n->Sz ((t.A ar bt:Int):Rat) 100000):
 Calls Tryz.prog 128 #[.pointer (some ⟨g,0,none⟩),.int .i64 (c:Int)] w fun Q w'=>Q= .returned (.int .i64 (M8 (zlx m n t c)))/\Below w.heap.size w w':=by
 obtain⟨bF,aj,B⟩:=G4 h bn hc;obtain⟨b9,cM,cd,cQ,b5,cn,ck,cr,-,⟨C,bN,D,E,bO⟩,-,-,-⟩:=h.open;obtain⟨bas,aN⟩:=nm (fun ar=>t.bas.getD ar 0);have bG:Hid (zlx m n t c=W9 t.A bas n c m):=(by rw[Hid,aN];rfl);rw[bG.out];have a0:=a aN;have bi:=h.caps;have bT:m<=L.bc/\L.bc<=9223372036854775807/\m<=L.rc/\L.rc<=9223372036854775807:=(by unfold maxLen at bi;omega);obtain⟨cG,cH,cK,cL⟩:=bT;have aq:∀Z,Z<m+2->L4 m n Z<=L.cp Z/\L.cp Z<=9223372036854775807:=fun Z bV=>(by have:=h.cap Z bV;unfold maxLen at this;exact this);have ah:=a aq;have cl:m<=L.cp m:=(by have:=(aq m og).1;rwa[W4] at this);have cm:L.cp m<=9223372036854775807:=(aq m og).2;have cA:(0:Int)<=(c:Int):=og;have cB:(c:Int)<(n:Int):=og;have cq:=L7;obtain⟨ra,aR⟩:=nm (L.ra);rw[<-aR] at D;obtain⟨bE,ay⟩:=C4 aR (d C (d D E));clear h bn aN bi aq C bN E bO aR;go_in;go_wp2_with fail;clear D;go_loopw [17,5,6,7,8,9,10] (fun aV best _ _ _ _ _ wr=>∃k:Nat,k<=m/\aV= .int .i64 (k:Int)/\best= .int .i64 (M8 (W9 t.A bas n c k))/\Below w.heap.size w wr) (fun aV _ _ _ _ _ _ _=>m-(intOf aV).toNat);case atStart=>exact⟨0,Nat.zero_le _,rfl,rfl,Below.refl _ _⟩
 case round=>
  obtain⟨k,cF,rfl,rfl,bf⟩:=hrel;have y:=a bf;clear bf;rcases Nat.lt_or_ge k m with x|cC
  ·have p:=a (bF.out.next y.out);have aO:=p.out.hd k x;have bY:=bE.out.trans aO.1;subst bY;have an:=aO.2.2;have bA:=p.out.hv k og (by rw[J5 x];have:=B.out;omega);have bB:=p.out.hv m og (by rw[W4];omega);rw[bA] at an;have C:=B9 y.out ay.out.1;have D:=B9 y.out ay.out.2.1;have E:=B9 y.out ay.out.2.2;rw[(p.out.basW og).1] at C;rw[bB] at E;obtain⟨bJ,b1,cg,lF,-,ac,R,ao,aI⟩:=p.out.el (l:=k) (j:=c) og (by rw[J5 x];exact B.out);obtain⟨ca,cN,cf,cR,-,u0,u1,u2,aW⟩:=p.out.el (l:=m) (j:=k) og (by rw[W4];exact x);rw[zqa x] at ac R aI;rw[ztr] at u0 u1 aW;have V:=(p.out.basW og).2.el k x;have a6:t.bas.getD k 0=bas k:=(by rw[a0.out]);have V:wr.cell? ⟨L.bb,k,none⟩=some (.int .i64 ((bas k:Nat):Int)):=(by rw[<-a6];exact V);have cs:n<=L.cp k:=(by have:=(ah.out k og).1;rwa[J5 x] at this);have ct:L.cp k<=9223372036854775807:=(ah.out k og).2;have cD:(0:Int)<=(k:Int):=og;have cE:(k:Int)<(m:Int):=og;have ab:=a x;have o:Hid (k+1<=m):=x;obtain⟨I,ak⟩:=C4 aI aW;obtain⟨cX,bq⟩:=nm (decide (t.A k c<0));obtain⟨b4,br⟩:=nm ((A9 (t.A k c).natAbs).length);obtain⟨cw,bg⟩:=nm (decide (t.A k n<0));obtain⟨cx,bh⟩:=nm ((A9 (t.A k n).natAbs).length);obtain⟨cW,bp⟩:=nm ((A9 1).length);rw[<-bq] at ac I;rw[<-br] at R I;rw[<-bg] at u0 ak;rw[<-bh] at u1 ak;rw[<-bp] at ao I u2 ak;obtain⟨sg,aS⟩:=nm (zpn ((t.A k c:Int):Rat));have az:=a aS;have bj:decide (sg<=0)=decide (t.A k c<=0):=(by rw[aS];exact ysy _);have bX:(wr.cell? ⟨L.bk k,c*3+1,none⟩=some (.slice bJ b4 b1)):=R;have T:=a (d C (d D (d E (d u1 (d R V)))));clear bq br bg bh bp aI aW aO a6 aS bX;by_cases Y:t.A k c<=0
   ·have H:=a Y;rw[decide_eq_true Y] at bj;clear Y u0 u1 u2 C E V;go_wp2_with fail;refine(zsy I.out).mono ?_;rw[<-az.out];rintro Q v ⟨rfl,i⟩;have z:=nB y i;clear i an ac R ao D;go_wp2_with fail;go_roundw;(case rel=>exact⟨k+1,o.out,by go_num,by rw[ytf H.out],z.out⟩);case measure=>simp[intOf];have:=o.out;omega
   ·have H:=a Y;rw[decide_eq_false Y] at bj;clear Y;cases W:W9 t.A bas n c k with
    |none=>have be:M8 (none:Option Nat)= -1:=rfl;rw[be];clear u0 u1 u2 C E V;go_wp2_with fail;refine(zsy I.out).mono ?_;rw[<-az.out];rintro Q v ⟨rfl,i⟩;have z:=nB y i;clear i an ac R ao D;go_wp2_with fail;go_roundw;(case rel=>exact⟨k+1,o.out,by go_num,by rw[yte (oh H) W],z.out⟩);case measure=>simp[intOf];have:=o.out;omega
    |some b=>
     have bQ:=zxn W;have F:b<m:=oh ab;have bR:M8 (some b)=(b:Int):=rfl;rw[bR];have cy:(0:Int)<=(b:Int):=og;have i:(b:Int)<(m:Int):=og;have be:decide ((b:Int)<0)=false:=decide_eq_false og;have bx:=p.out.hv b og (by rw[J5 F];have:=B.out;omega);have aH:=(p.out.hd b F).2.2;rw[bx] at aH;obtain⟨cb,cO,ch,cS,-,-,au,-,aJ⟩:=p.out.el (l:=b) (j:=c) og (by rw[J5 F];exact B.out);obtain⟨cc,cP,cj,cT,-,-,av,-,aQ⟩:=p.out.el (l:=m) (j:=b) og (by rw[W4];exact F);rw[zqa F] at au aJ;rw[ztr] at av aQ;have al:=(p.out.basW og).2.el b F;have a5:t.bas.getD b 0=bas b:=(by rw[a0.out]);have al:wr.cell? ⟨L.bb,b,none⟩=some (.int .i64 ((bas b:Nat):Int)):=(by rw[<-a5];exact al);have cu:n<=L.cp b:=(by have:=(ah.out b og).1;rwa[J5 F] at this);have cv:L.cp b<=9223372036854775807:=(ah.out b og).2;obtain⟨aC,aD,a2,a1⟩:=Z5 (zmq aJ) (zmq aQ) (zmq I.out) (zmq ak.out);obtain⟨b7,a8⟩:=nm ((A9 (t.A b c).natAbs).length);obtain⟨b8,a9⟩:=nm ((A9 (t.A b n).natAbs).length);rw[<-a8] at au aC;rw[<-a9] at av aD;rw[Rat.num_intCast] at aC aD a2 a1;obtain⟨ai,ag⟩:=C4 F (d aH (d au (d av al)));clear u0 u1 u2 C E V aH au av al aJ aQ a8 a9 a5 bQ;go_wp2_with fail;refine(zsy I.out).mono ?_;rw[<-az.out];rintro Q v ⟨rfl,i⟩;have aa:=a i;have q:=B9 i T.out.1;have J:=B9 i T.out.2.1;have K:=B9 i T.out.2.2.1;have M:=B9 i T.out.2.2.2.1;have N:=B9 i T.out.2.2.2.2.1;have r:=B9 i T.out.2.2.2.2.2;have O:=B9 i ag.out.1;have b2:=B9 i ag.out.2.1;have P:=B9 i ag.out.2.2.1;have s:=B9 i ag.out.2.2.2;clear i an ac R ao D;go_wp2_with fail;have l:=zpw q J K M N r O b2 P s;have aY:=a fun aE (ad:Below v.heap.size v aE)=>zre (E9 (IsK.stb.next (IsK.stb.next a1.out aa.out) (ad))) (E9 (IsK.stb.next (IsK.stb.next aC.out aa.out) (ad))) (j _) (j _) (zyz (aj.out k n (zkn ab ai) (oh B))) (zyz (aj.out b c (zkn ab ai) (oh B)));clear q J K M N r O b2 P s
     go_region_held3 (SH.mk _ l).s
      (exact l.out _ bel)
       (first
         |(go_at_call 168;(with_reducible refine Calls.mono (aY.out _ bel) ?_);rintro Q b3 ⟨⟨cU,rfl,aT⟩,cz⟩;have bv:=bW v b3;have bK:=a (znm aT);obtain⟨bH,bZ,rfl,_,_,_⟩:=id aT))
     clear aY aT;have bM:=bv.out;go_wp2_with fail;have aZ:=a fun aE (ad:Below v.heap.size v aE)=>zre (E9 (IsK.stb.next (IsK.stb.next aD.out aa.out) (ad))) (E9 (IsK.stb.next (IsK.stb.next a2.out aa.out) (ad))) (j _) (j _) (zyz (aj.out b n (zkn ab ai) (oh B))) (zyz (aj.out k c (zkn ab ai) (oh B)))
     go_region_held3 (SH.mk _ l).s
      (exact l.out _ bel)
       (first
         |(go_at_call 168;(with_reducible refine Calls.mono (aZ.out _ bel) ?_);rintro Q af ⟨⟨cV,rfl,aU⟩,bd⟩;have bw:=bW v af;have bL:=a (znm aU);obtain⟨bI,b0,rfl,_,_,_⟩:=id aU))
     clear aZ aU;have a4:=bw.out;have aA:Hid (IsN af 0 af.heap.size (.slice bH (A9 ((t.A k n).natAbs*(t.A b c).natAbs)).length bZ) ((t.A k n).natAbs*(t.A b c).natAbs)):=E9 (IsK.stb.next bK.out (by first|exact bd|exact C9 (U7 _) bd));have aB:Hid (IsN af 0 af.heap.size (.slice bI (A9 ((t.A b n).natAbs*(t.A k c).natAbs)).length b0) ((t.A b n).natAbs*(t.A k c).natAbs)):=E9 bL.out;obtain⟨X,aL⟩:=nm ((t.A k n).natAbs*(t.A b c).natAbs);obtain⟨a3,aM⟩:=nm ((t.A b n).natAbs*(t.A k c).natAbs);rw[<-aL] at aA⊢;rw[<-aM] at aB⊢;have A:=a (d aL aM);obtain⟨ae,u⟩:=nm (U4 X a3);have bC:=a u;have aP:=yzi X a3;rw[<-u] at aP;have bD:=a aP;clear aL aM u aP;go_wp2_with fail;refine(zsf aA.out aB.out).mono ?_;rw[<-bC.out];rintro Q bu ⟨rfl,hd5⟩;have aX:Hid (Below v.heap.size v bu):=C9 a4 (hd5.below _);have z:=a (C9 (C9 y.out aa.out) aX.out);clear hd5 bM a4 aA aB;obtain⟨q,J,K,M,N,r,O,b2,P,s⟩:=l.out bu aX.out;clear l;rcases bD.out with⟨G,u⟩|⟨G,u⟩|⟨G,u⟩
     ·have U:=a G;have a7:decide (ae<0)=true:=decide_eq_true u;clear G u;have l:=zll q r s;clear q J K M N r O b2 P s;go_wp2_with fail;refine wp_region_noPanic ?_;refine zlb l fun aK=> ?_;refine sT 0 71 ?_;refine sT 1 72 ?_;refine sT 2 73 ?_;refine sU 3 74 ?_;refine sU 4 75 ?_;refine sU 5 76 ?_;refine sU 6 77 ?_;refine sU 7 78 ?_;refine sU 8 79 ?_;refine sU 9 80 ?_;refine sU 10 81 ?_;refine sU 11 82 ?_;refine sU 12 83 ?_;refine sU 13 84 ?_;refine sU 14 85 ?_;refine sU 15 86 ?_;refine sU 16 87 ?_;refine sU 17 88 ?_;refine sU 18 89 ?_;refine sU 19 90 ?_;refine sU 20 91 ?_;refine sU 21 92 ?_;refine sU 22 93 ?_;refine sU 23 94 ?_;refine sT 24 95 ?_;refine wpAnyH_done kr ?_ _;refine NoPanic.normal ?_;clear l;go_wp2_with fail;have aG:=z.out;go_roundw;(case rel=>exact⟨k+1,o.out,by go_num,by rw[ygy (oh H) W (ytl (by have h:=U.out;rw[A.out.1,A.out.2] at h;exact h))],bel⟩);case measure=>simp[intOf];have:=o.out;omega
     ·have U:=a G;have a7:decide (ae<0)=false:=decide_eq_false og;have bP:(ae==0)=true:=(by rw[u];rfl);clear G u;by_cases bm:bas k<bas b
      ·have bU:decide (((bas k:Nat):Int)<((bas b:Nat):Int))=true:=decide_eq_true og;have l:=zll q r s;clear q J K M N r O b2 P s;go_wp2_with fail;refine wp_region_noPanic ?_;refine zlb l fun aK=> ?_;refine sT 0 71 ?_;refine sT 1 72 ?_;refine sT 2 73 ?_;refine sT 3 74 ?_;refine sT 4 75 ?_;refine sT 5 76 ?_;refine sT 6 77 ?_;refine sT 7 78 ?_;refine sT 8 79 ?_;refine sT 9 80 ?_;refine sT 10 81 ?_;refine sT 11 82 ?_;refine sT 12 83 ?_;refine sT 13 84 ?_;refine sT 14 85 ?_;refine sT 15 86 ?_;refine sT 16 87 ?_;refine sT 17 88 ?_;refine sT 18 89 ?_;refine sT 19 90 ?_;refine sT 20 91 ?_;refine sT 21 92 ?_;refine sT 22 93 ?_;refine sT 23 94 ?_;refine sT 24 95 ?_;refine wpAnyH_done kr ?_ _;refine NoPanic.normal ?_;clear l;go_wp2_with fail;have aG:=z.out;go_roundw;(case rel=>exact⟨k+1,o.out,by go_num,by rw[ygy (oh H) W (by rw[yhc (by have h:=U.out;rw[A.out.1,A.out.2] at h;exact h)];exact decide_eq_true bm)],bel⟩);case measure=>simp[intOf];have:=o.out;omega
      ·have bU:decide (((bas k:Nat):Int)<((bas b:Nat):Int))=false:=decide_eq_false og;have l:=zll q r s;clear q J K M N r O b2 P s;go_wp2_with fail;refine wp_region_noPanic ?_;refine zlb l fun aK=> ?_;refine sT 0 71 ?_;refine sT 1 72 ?_;refine sT 2 73 ?_;refine sT 3 74 ?_;refine sT 4 75 ?_;refine sT 5 76 ?_;refine sT 6 77 ?_;refine sT 7 78 ?_;refine sT 8 79 ?_;refine sT 9 80 ?_;refine sT 10 81 ?_;refine sT 11 82 ?_;refine sT 12 83 ?_;refine sT 13 84 ?_;refine sT 14 85 ?_;refine sT 15 86 ?_;refine sT 16 87 ?_;refine sT 17 88 ?_;refine sT 18 89 ?_;refine sT 19 90 ?_;refine sT 20 91 ?_;refine sT 21 92 ?_;refine sT 22 93 ?_;refine sT 23 94 ?_;refine sT 24 95 ?_;refine wpAnyH_done kr ?_ _;refine NoPanic.normal ?_;clear l;go_wp2_with fail;have aG:=z.out;go_roundw;(case rel=>exact⟨k+1,o.out,by go_num,by rw[ygz (oh H) W (by rw[yhc (by have h:=U.out;rw[A.out.1,A.out.2] at h;exact h)];exact decide_eq_false bm)],bel⟩);case measure=>simp[intOf];have:=o.out;omega
     ·have U:=a G;have a7:decide (ae<0)=false:=decide_eq_false og;have bP:(ae==0)=false:=(by simp;omega);clear G u;have l:=zll q r s;clear q J K M N r O b2 P s;go_wp2_with fail;refine wp_region_noPanic ?_;refine zlb l fun aK=> ?_;refine sT 0 71 ?_;refine sT 1 72 ?_;refine sT 2 73 ?_;refine sT 3 74 ?_;refine sT 4 75 ?_;refine sT 5 76 ?_;refine sU 6 77 ?_;refine sU 7 78 ?_;refine sU 8 79 ?_;refine sU 9 80 ?_;refine sU 10 81 ?_;refine sU 11 82 ?_;refine sU 12 83 ?_;refine sU 13 84 ?_;refine sU 14 85 ?_;refine sU 15 86 ?_;refine sU 16 87 ?_;refine sU 17 88 ?_;refine sU 18 89 ?_;refine sU 19 90 ?_;refine sU 20 91 ?_;refine sU 21 92 ?_;refine sU 22 93 ?_;refine sT 23 94 ?_;refine sT 24 95 ?_;refine wpAnyH_done kr ?_ _;refine NoPanic.normal ?_;clear l;go_wp2_with fail;have aG:=z.out;go_roundw;(case rel=>exact⟨k+1,o.out,by go_num,by rw[ygz (oh H) W (ytj (by have h:=U.out;rw[A.out.1,A.out.2] at h;exact h))],bel⟩);case measure=>simp[intOf];have:=o.out;omega
  ·obtain rfl:k=m:=og;go_wp2_with fail;go_ret;exact⟨rfl,y.out⟩
def ydb {d:Type} (F:Fence) (n:Nat) (P:Program) (g:Nat) (q:Array i) (p:d->Array i->Prop) (o:d->d->Prop) (Rd:d->f->Prop) (Fin:d->f->f->Prop) (w:f):Prop:=
 ∀(l:Nat) (c j:d->f->Prop) (k:f->Prop) (e:f),Below w.heap.size w e->AbidesFrom e.heap.size c->(∀s b,c s b->Rd s b)->
  (∀s vs b,c s b->p s vs->YieldAt F (n-1) P l vs b fun h a=>(h= .returned (.bool true)/\∃m,o s m/\c m a)\/(h= .returned (.bool false)/\k a))->
  (∀s b a,c s b->Fin s b a->j s a)->(∃s,c s e)->
  CallsIn F n P g (#[.func (.yield l) #[] #[]]++q) e fun h a=>(∃v,h= .returned v)/\((∃s,j s a)\/k a)
def yqf {e:Type} (B:Nat) (k:e->f->Prop) (g:Code->f->Prop) (m:e->e->Prop) (s:e) (c:f):Exit->Act->f->Prop
 | .normal,_,b=>KeepsFrom B c b/\∃h,m s h/\k h b
 | .ret,_,b=>KeepsFrom B c b/\g .ret b
 | .exit id,_,b=>KeepsFrom B c b/\g (.exit id) b
 | .goto t,_,b=>KeepsFrom B c b/\g (.goto t) b
 |_,_,_=>False
section
variable {F : Fence} {n : Nat} {P : Program}
theorem ylp {σ:Type} {g:Operand} {S:Array Tmp} {assign body:Code} {T:Exit->Act->f->Prop} {a:Act} {w:f}
 (az:F.round=none) (aj:1<=n) {gf:Nat} {lb:Array i} (hg:a.eval g= .func (.func gf) #[] lb) (ak:F.fn gf) (ag:∀args w,(callFunc gf args).run P w= .ok (.enter gf args) w)
 {R:σ->Array i->Prop} {Y:σ->σ->Prop} {Rd:σ->f->Prop} {Fin:σ->f->f->Prop} {N:f} (aB:ydb F (n-1) P gf lb R Y Rd Fin N) (ab:Below N.heap.size N w) (ay:∀s vs,R s vs->vs.size=S.size)
 (u O:σ->f->Prop) (Q:Code->f->Prop) (hI:OwnFrom w.heap.size u) (hI':OwnFrom w.heap.size O) (hIx:OwnFrom w.heap.size Q) (hRd:∀s b,u s b->Rd s b)
 (hfin:∀s b H,u s b->Fin s b H->O s H/\KeepsFrom w.heap.size b H) (ai:∃s,u s w) (Z:Array i->Act)
 (hassign:∀(M:Nat) (s:σ) (vs:Array i) (b:f) (X:Act->f->Prop),R s vs->X (Z vs) b->
   assign.wpIn (F.inRound M) (n-1-1) P (Exit.then X (fun _ _ _=>False)) {tmps:=(S.zip vs).foldl (fun t (p,v)=>t.setIfInBounds p v) a.tmps,defers:=[]} b)
 (hbody:∀(M:Nat) (s:σ) (vs:Array i) (b:f),w.heap.size<=M->(∃r,b.heap[M]? =some (.loop r))->u s b->R s vs->body.wpIn (F.inRound M) (n-1-1) P (yqf w.heap.size u Q Y s b) (Z vs) b)
 (hdone:∀(D:Nat) (s:σ) (b:f),w.heap.size<=D->O s b->b.heap[D]? =some (.deferred (some []))->T .normal {a with defers:={target:= .collected D,args:= #[]}::a.defers} b)
 (hstop:∀(D:Nat) (c:Code) (b:f),w.heap.size<=D->Q c b->b.heap[D]? =some (.deferred (some []))->c.wpIn F n P T {a with defers:={target:= .collected D,args:= #[]}::a.defers} b):
 (Code.rangeFunc g S assign body).wpIn F n P T a w:=by
 refine wpIn_rangeFunc fun fn ao=> ?_
 rw[az]
 obtain⟨D,hD⟩:=nm (w.heap.size)
 obtain⟨rec,q⟩:∃rec:LoopState->Option Code->Loop,rec=fun st aD=>{state:=st,pending:=aD,fn,tmps:=a.tmps,params:=S,assign,body,defers:=D}:=⟨_,rfl⟩
 obtain⟨l,G⟩:=nm ((w.alloc (.deferred (some []))).alloc (.loop (rec .ready none)))
 have recAt:l.heap[D+1]? =some (.loop (rec .ready none)):=by
  have h:=World.alloc_heap_new (w.alloc (.deferred (some []))) (.loop (rec .ready none))
  rw[World.size_alloc] at h
  rw[G,hD]
  exact h
 have ae:l.heap[D]? =some (.deferred (some [])):=by
  rw[G,hD]
  exact(Below.heap_alloc _ _ _ (by simp)).trans (World.alloc_heap_new w _)
 have al:∃s,u s l:=by
  obtain⟨s,L⟩:=ai
  exact⟨s,by rw[G];exact hI.alloc _ (hI.alloc _ L)⟩
 have aJ:l.heap.size=D+2:=by rw[G,hD];simp
 have an:Below N.heap.size N l:=by
  rw[G]
  exact ab.trans ((((Below.refl _ w).alloc (j _) _).alloc (by simp) _).mono ab.size)
 rw[<-hD] at hI hI' hIx hfin hbody hdone hstop
 refine⟨D+1,[{target:= .collected D,args:= #[]}],l,{target:= .fn (.func gf) lb,args:= #[.func (.yield (D+1)) #[] #[]]},l,gf,#[.func (.yield (D+1)) #[] #[]]++lb,l,?_,?_,?_,?_,fun _=>aj,?_⟩
 ·rw[G,q,hD]
  exact run_enterLoop_outer _ _ _ _ _
 ·simp only[resolve,hg]
  simp[go_sem]
 ·intro aI ac
  simp[Target.leads] at ac
  subst ac
  exact ak
 ·simp[invoke,go_sem,ag]
 have walk:∀{A B:f} {row:Option Nat},(∀r,row=some r->l.heap.size<=r/\∃E:Obj,A.heap[r]? =some E/\E.isWalk=true)->∀r,row=some r->D<=r/\∃E:Obj,A.heap[r]? =some E/\E.isCells=false:=fun hr r x=>by
  obtain⟨I,E,av,aC⟩:=hr r x
  exact⟨by omega,E,av,Obj.not_cells_of_walk aC⟩
 refine(aB (D+1) (fun p b=>u p b/\b.heap[D+1]? =some (.loop (rec .ready none))/\b.heap[D]? =some (.deferred (some [])))
  (fun p b=>O p b/\b.heap[D+1]? =some (.loop (rec .ready none))/\b.heap[D]? =some (.deferred (some [])))
  (fun b=>∃c,Q c b/\b.heap[D+1]? =some (.loop (rec .done (some c)))/\b.heap[D]? =some (.deferred (some []))) l an
  (fun p A B row k V hr=>⟨hI p A B row k.1 V (walk (B:=B) hr),(grownBy_keeps V (fun r x=>(hr r x).2) k.2.1 rfl).trans k.2.1,(grownBy_keeps V (fun r x=>(hr r x).2) k.2.2 rfl).trans k.2.2⟩)
  (fun s U h=>hRd s U h.1) ?round (fun s U H h hf=>by
   obtain⟨ah,y⟩:=hfin s U H h.1 hf
   exact⟨ah,y.same _ _ og h.2.1 rfl,y.same _ _ (j _) h.2.2 rfl⟩) (by obtain⟨s,L⟩:=al;exact⟨s,L,recAt,ae⟩)).mono ?behind
 case behind=>
  rintro x b ⟨⟨v,rfl⟩,h⟩
  rcases h with⟨s,L,o,y⟩|⟨c,hc,o,y⟩
  ·have J:=run_endLoop (P:=P) o (by rw[q];simp)
   rw[q] at J
   exact⟨none,_,J,hdone D s _ (j _) (hI'.putObj _ L og o rfl) ((World.putObj_heap_other og).trans y)⟩
  ·have J:=run_endLoop (P:=P) o (by rw[q];simp)
   rw[q] at J
   exact⟨some c,_,J,hstop D c _ (j _) (hIx.putObj _ hc og o rfl) ((World.putObj_heap_other og).trans y)⟩
 case round=>
  rintro s vs b ⟨aq,o,y⟩ W
  have ar:D+1<b.heap.size:=(Array.getElem?_eq_some_iff.1 o).1
  have ad:=run_yield (P:=P) (args:=vs) o (by rw[q];exact ay s vs W)
  rw[q] at ad
  refine⟨fn,_,assign,body,ad,roundIn_of_wpIn ao (hassign _ s vs b _ W ⟨_,run_beginRound o (by rw[q]),?_⟩)⟩
  obtain⟨B,I⟩:=nm (b.putObj (D+1) (.loop {rec .ready none with state:= .busy}))
  have aa:B.heap[D+1]? =some (.loop {rec .ready none with state:= .busy}):=by rw[I];exact World.putObj_heap_same ar
  have af:B.heap[D]? =some (.deferred (some [])):=by rw[I];exact(World.putObj_heap_other og).trans y
  rw[<-I]
  refine wpIn_mono (hbody (D+1) s vs B og ⟨_,aa⟩ (by rw[I];exact hI.putObj _ aq og o rfl) W) ?_
  have fin:∀(jump:Option Code) (d:f),KeepsFrom D B d->
   (Instr.endRound (D+1) jump).run P d= .ok (.bool jump.isNone) (d.putObj (D+1) (.loop (rec (if jump.isNone then .ready else .done) jump)))/\
   d.heap[D+1]? =some (.loop {rec .ready none with state:= .busy})/\
   (d.putObj (D+1) (.loop (rec (if jump.isNone then .ready else .done) jump))).heap[D+1]? =some (.loop (rec (if jump.isNone then .ready else .done) jump))/\
   (d.putObj (D+1) (.loop (rec (if jump.isNone then .ready else .done) jump))).heap[D]? =some (.deferred (some [])):=fun jump d m=>by
   have e:=m.same _ _ og aa rfl
   have:=run_endRound (P:=P) jump e
   rw[q] at this⊢
   exact⟨this,by rw[q] at e;exact e,World.putObj_heap_same (Array.getElem?_eq_some_iff.1 e).1,(World.putObj_heap_other og).trans (m.same _ _ (j _) af rfl)⟩
  rintro x aG d k
  cases x with
  |normal=>
   obtain⟨m,aE,au,aA⟩:=k
   obtain⟨hr,e,C,z⟩:=fin none d m
   exact⟨_,_,hr,.inl ⟨rfl,aE,au,hI.putObj _ aA og e rfl,C,z⟩⟩
  |ret=>
   obtain⟨m,K⟩:=k
   obtain⟨hr,e,C,z⟩:=fin (some .ret) d m
   exact⟨_,_,hr,.inr ⟨rfl,.ret,hIx.putObj _ K og e rfl,C,z⟩⟩
  |exit id=>
   obtain⟨m,K⟩:=k
   obtain⟨hr,e,C,z⟩:=fin (some (.exit id)) d m
   exact⟨_,_,hr,.inr ⟨rfl,.exit id,hIx.putObj _ K og e rfl,C,z⟩⟩
  |goto t=>
   obtain⟨m,K⟩:=k
   obtain⟨hr,e,C,z⟩:=fin (some (.goto t)) d m
   exact⟨_,_,hr,.inr ⟨rfl,.goto t,hIx.putObj _ K og e rfl,C,z⟩⟩
  |panic aH=>exact k.elim
  |outgrown=>exact k.elim
end
attribute [local go_sem] Oper.semAt_some
set_option linter.unusedVariables false
def ymd (m n:Nat) (t:TB) (vs:Array i):Prop:=∃r c,zkm m n t=some c/\zlx m n t c=some r/\vs= #[.int .i64 (r:Int),.int .i64 (c:Int)]
def RdS (S:Nat->Prop) (lo0 lo g:Nat) (L:Lay) (m n:Nat) (sc:Nat->Nat) (top M B:Nat) (t:TB) (a:f):Prop:=
 (∃st e steps,O7 a S lo0 lo g L m n sc top t st e steps)/\TInv M m n t/\(∀b,b<m->0<=t.A b n)/\Row a B 88 [.pointer (some ⟨g,0,none⟩)]
def FinS (g m n:Nat) (t:TB) (d b:f):Prop:=
 ∃a,Below d.heap.size d a/\a.grownBy b (some g)/\
  ((zkm m n t=none/\∀T xs,Row a g T xs->Row b g T (xs.set 11 (.int .i64 1)))\/
   ∃c,zkm m n t=some c/\zlx m n t c=none/\∀T xs,Row a g T xs->Row b g T ((xs.set 11 (.int .i64 3)).set 12 (.int .i64 (c:Int))))
theorem ykm {n r:Nat} {t:TB} (b:zkm m n t=some c) (e:zlx m n t c=some r):zkh m n t=some (R7 t r c):=by unfold zkh;rw[b];show(match zlx m n t c with|none=>none|some r=>some (R7 t r c))=_;rw[e]
theorem FinS.sch {S:Nat->Prop} {lo0 lo g n:Nat} {L:Lay} {t:TB} {st e steps:Int} {o i:f} (hf:FinS g m n t o i) (h:O7 o S lo0 lo g L m n sc top t st e steps):
 (zkm m n t=none/\O7 i S lo0 lo g L m n sc top t 1 e steps)\/(∃c,zkm m n t=some c/\zlx m n t c=none/\O7 i S lo0 lo g L m n sc top t 3 (c:Int) steps):=by
 obtain⟨A,y,hg,hf⟩:=hf;have d:=h.next y;obtain⟨P,k,l,w,D,u,T,v,p,q,r,s⟩:=d.row;have a:=d.same hg fun b x=>(by cases x;exact d.gS.2);rcases hf with⟨j,hr⟩|⟨c,j,z,hr⟩
 ·exact .inl ⟨j,d.cells hg ⟨P,k,l,w,D,u,T,v,hr _ _ p,IsQ.stb.to q a,IsK.stb.to r a,IsK.stb.to s a⟩⟩
 ·exact .inr ⟨c,j,z,d.cells hg ⟨P,k,l,w,D,u,T,v,hr _ _ p,IsQ.stb.to q a,IsK.stb.to r a,IsK.stb.to s a⟩⟩
theorem ydg {p:Nat->Bool} {key:Nat->Nat} {n:Nat} (h:T6 p key n=some c):c<n:=(zmg h).1
theorem yil {σ:Type} (b:σ->TB) (q:Nat) (aN:1<=q) {S:Nat->Prop} {lo0 lo g n M B:Nat} {L:Lay} {w:f} (W:m<=100) (Y:n<=100) (hF:(A9 (K6 M (m+1))).length<=100000):
 ydb Fence.wide q Tryz.prog 126 #[.pointer (some ⟨B,0,none⟩)] (fun s=>ymd m n (b s)) (fun s F=>zkh m n (b s)=some (b F)) (fun s=>RdS S lo0 lo g L m n sc top M B (b s)) (fun s=>FinS g m n (b s)) w:=fun aQ C aD aE aG aL P hRd U hfin x=>by
 obtain⟨H,ae,ag,G,ad,ac⟩:=zpe P hRd U hfin hF x
 clear P hRd U hfin x hF
 refine callsIn_of_wp Tryz.func126 rfl trivial ?_ rfl
 simp only[Tryz.ntmps126,List.size_toArray,List.length_cons,List.length_nil,Nat.reduceAdd,Nat.reduceSub,Array.replicate_succ,Array.replicate_zero,List.push_toArray,List.append_toArray,List.nil_append,List.cons_append]
 gi_wp2
 gi_loopw [3,4] (fun _ _ wr=>∃s,C s wr) (fun _ _ wr=>leastM (fun s=>C s wr) (fun s=>leftO (zkh m n) (b s)))
 case atStart=>exact ac.out
 case round=>
  obtain⟨s,x,X⟩:=ygw (μ:=fun s=>leftO (zkh m n) (b s)) hrel
  obtain⟨N,ah⟩:=C4 x X
  clear hrel x X
  obtain⟨⟨st,e,steps,R⟩,hI,Q,O⟩:=ae.out s wr N.out
  have o:=O.cell 0
  simp at o
  obtain⟨I,z⟩:=C4 R (d hI Q)
  clear R hI Q O
  gi_wp2
  refine⟨trivial,callsIn_wide.2 ((yqk I.out W Y).mono ?_)⟩
  rintro j aB ⟨rfl,t⟩
  obtain⟨J,aC,D⟩:=G4 (H.out _ _ _ none N.out (K7 t) (fun r j=>by cases j)) t (I.out.next t)
  replace o:=B9 t o
  clear t
  cases u:zkm m n (b s) with
  |none=>
   have E:M8 (none:Option Nat)= -1:=rfl
   rw[E]
   have k:=a u
   obtain⟨ai,az,aj,aA,ab,ao,al,aq,⟨i,-,-,-⟩,-,-,-,⟨ar,-,-⟩⟩:=D.out.open
   have f11:=i.frozen 11
   clear u i
   gi_wp2
   exact⟨rfl,_,results_none rfl _ _ _,⟨_,rfl⟩,.inl ⟨s,G.out s _ _ J.out ⟨aB,Below.refl _ _,I9 _ _ _ _,.inl ⟨k.out,fun T xs h=>h.set_ 11 _⟩⟩⟩⟩
  |some c=>
   have V:c<n:=ydg u
   have au:M8 (some c)=(c:Int):=rfl
   rw[au]
   have aM:decide ((c:Int)<0)=false:=decide_eq_false og
   have k:=a (d u V)
   clear u V
   gi_wp2
   refine⟨trivial,callsIn_wide.2 ((ytg D.out k.out.2 W Y (z.out.1.sz ad.out og).1).mono ?_)⟩
   rintro j aa ⟨rfl,y⟩
   obtain⟨K,ak⟩:=C4 (H.out _ _ _ none J.out (K7 y) (fun r j=>by cases j)) (D.out.next y)
   replace o:=B9 y o
   clear y
   cases v:zlx m n (b s) c with
   |none=>
    have E:M8 (none:Option Nat)= -1:=rfl
    rw[E]
    have A:=a v
    obtain⟨ai,az,aj,aA,ab,ao,al,aq,⟨i,-,-,-⟩,-,-,-,⟨ar,aH,-⟩⟩:=ak.out.open
    have f11:=i.frozen 11
    have f12:=i.frozen 12
    clear v i
    gi_wp2
    gi_region
    gi_wp2
    exact⟨rfl,_,results_none rfl _ _ _,⟨_,rfl⟩,.inl ⟨s,G.out s _ _ K.out ⟨aa,Below.refl _ _,J6 (J6 (I9 _ _ _ _) (I9 _ _ _ _)) (K7 (U7 _)),.inr ⟨c,k.out.1,A.out,fun T xs h=>((h.set_ 11 _).set_ 12 _).drew⟩⟩⟩⟩
   |some r=>
    have ay:r<m:=zxn v
    have av:M8 (some r)=(r:Int):=rfl
    rw[av]
    have aO:decide ((r:Int)<0)=false:=decide_eq_false og
    have A:=a v
    clear v ay
    obtain⟨fn,tmps,assign,body,aP,i⟩:=ag.out s #[.int .i64 (r:Int),.int .i64 (c:Int)] aa K.out ⟨r,c,k.out.1,A.out,rfl⟩
    have af:=a i
    clear i
    gi_wp2
    refine af.out.mono ?_
    rintro j an (⟨rfl,F,Z,p⟩|⟨rfl,p⟩)
    ·have l:=a (d Z p)
     clear Z p
     gi_wp2
     go_roundw
     case rel=>exact⟨F,l.out.2⟩
     case measure=>
      have aI:=ygx (J:=fun s=>C s an) (μ:=fun s=>leftO (zkh m n) (b s)) l.out.2
      have aJ:=(yha (ysa z.out.1 z.out.2) l.out.1).2
      have aK:=ah.out
      omega
    ·have l:=a p
     clear p
     gi_wp2
     exact⟨rfl,_,results_none rfl _ _ _,⟨_,rfl⟩,.inr l.out⟩
theorem yik (w:f) (g:Nat):
 Calls Tryz.prog 59 #[.pointer (some ⟨g,0,none⟩)] w fun a w'=>a= .returned (.func (.func 126) #[] #[.pointer (some ⟨w.heap.size,0,none⟩)])/\Below w.heap.size w w'/\Row w' w.heap.size 88 [.pointer (some ⟨g,0,none⟩)]:=by go_in;go_wp2_with fail;go_ret;obtain⟨h,d,b,c,e⟩:=K0 w #[.pointer (some ⟨g,0,none⟩)] 88;rw[d];exact⟨rfl,b,c⟩
def zuk (w:f) (b:Nat):Prop:=∃a:Obj,w.heap[b]? =some a/\a.isCells=true
theorem IsK.atCells {k:IntKind} {w:f} {S:Nat->Prop} {d:List Nat} (h:IsK k w S v d):IsK k w (fun b=>S b/\zuk w b) v d:=by obtain⟨A,c,hv,e,g,i⟩:=h;refine⟨A,c,hv,e,g,fun a=> ?_⟩;obtain⟨b,off,j,l,hc⟩:=i a;obtain⟨n,o,m⟩:=List.exists_cons_of_ne_nil a;exact⟨b,off,j,⟨l,zwq (hc 0 n (by rw[m];rfl))⟩,hc⟩
theorem IsQ.atCells {w:f} {S:Nat->Prop} {q:Rat} (h:IsQ w S v q):IsQ w (fun b=>S b/\zuk w b) v q:=by obtain⟨A,c,B,d,hv,a,e⟩:=h;exact⟨A,c,B,d,hv,a.atCells,e.atCells⟩
section
variable {w w' : f} {r : Option Nat}
theorem zsd (hg:w.grownBy w' r) (hr:∀x,r=some x->∃a:Obj,w.heap[x]? =some a/\a.isCells=false) (g:zuk w b):w'.heap[b]? =w.heap[b]? :=by obtain⟨a,d,hc⟩:=g;refine hg.block b (Array.getElem?_eq_some_iff.1 d).1 fun f=> ?_;obtain⟨h,e,c⟩:=hr b f.symm;rw[d] at e;cases e;rw[hc] at c;cases c
theorem Row.cellB {g:Nat} {t:TypeId} (h:Row w g t xs):zuk w g:=⟨_,h,rfl⟩
theorem Row.stays {g:Nat} {t:TypeId} (h:Row w g t xs) (hg:w.grownBy w' r) (hr:∀x,r=some x->∃a:Obj,w.heap[x]? =some a/\a.isCells=false):Row w' g t xs:=(zsd hg hr h.cellB).trans h
theorem zvv {S:Nat->Prop} (hg:w.grownBy w' r) (hr:∀x,r=some x->∃a:Obj,w.heap[x]? =some a/\a.isCells=false) (d:∀b,S b->T b):L1 (fun b=>S b/\zuk w b) T w w':=fun b c=>⟨d b c.1,fun a=>l (zsd hg hr c.2)⟩
theorem LineW.stays {S:Nat->Prop} {d:Nat->Int} (h:LineW w S b c m d) (hg:w.grownBy w' r) (hr:∀x,r=some x->∃e:Obj,w.heap[x]? =some e/\e.isCells=false) (p:∀b,S b->T b):LineW w' T b c m d:=by have a:w'.heap[b]? =w.heap[b]? :=zsd hg hr (by obtain⟨u,g⟩:=h.blk;exact⟨_,g,rfl⟩);refine⟨by rw[a];exact h.blk,h.cap,fun s q=> ?_⟩;obtain⟨P,k,f,t,i,j,n,o⟩:=h.el s q;exact⟨P,k,f,t,(l a).trans i,(l a).trans j,(l a).trans n,IsQ.stb.to o.atCells (zvv hg hr p)⟩
theorem SchG.stays {S:Nat->Prop} {lo0 lo g n:Nat} {L:Lay} {F:Nat->Nat->Int} {z:Int} {d:Nat} {bas oth:List Nat} {st e steps:Int} (h:SchG w S lo0 lo g L m n sc top F z d bas oth st e steps) (hg:w.grownBy w' r) (hr:∀x,r=some x->∃q:Obj,w.heap[x]? =some q/\q.isCells=false):
 SchG w' S lo0 lo g L m n sc top F z d bas oth st e steps:=by
 have i:∀b,SN S lo w b->SN S lo w' b:=zql hg.size
 refine {h with
  tab:=⟨fun p C a=>(h.tab.line p C a).stays hg hr i,h.tab.inj,h.tab.sep,h.tab.sS,Nat.le_trans h.tab.hlo hg.size⟩
  row:= ?_
  hd:=fun E B=> ?_
  basW:=fun a=>⟨(h.basW a).1,(h.basW a).2.keep (zsd hg hr (by obtain⟨y,j⟩:=(h.basW a).2.blk;exact⟨_,j,rfl⟩))⟩
  othW:=fun a=>⟨(h.othW a).1,(h.othW a).2.keep (zsd hg hr (by obtain⟨y,j⟩:=(h.othW a).2.blk;exact⟨_,j,rfl⟩))⟩
  scl:=fun v hv=> ?_}
 ·obtain⟨P,k,s,p,D,t,T,u,a,f,c,o⟩:=h.row;exact⟨P,k,s,p,D,t,T,u,a.stays hg hr,IsQ.stb.to f.atCells (zvv hg hr i),IsK.stb.to (IsK.atCells c) (zvv hg hr i),IsK.stb.to (IsK.atCells o) (zvv hg hr i)⟩
 ·obtain⟨a,f,c⟩:=h.hd E B;exact⟨a,f,(l (zsd hg hr (zwq c))).trans c⟩
 ·obtain⟨a,f,P,k,c,o⟩:=h.scl v hv;exact⟨a,f,P,k,(l (zsd hg hr (zwq c))).trans c,IsK.stb.to (IsK.atCells o) (zvv hg hr fun b A=>A)⟩
end
def IsMk (w:f) (S:Nat->Prop) (v:i) (q:(Nat×Int)×(Nat×Nat)):Prop:=∃bs a mk,v= .agg #[.int .i64 (q.2.2:Int),.int .i64 (q.2.1:Int),.func (.func 134) #[] #[.pointer (some ⟨bs,0,none⟩),.pointer (some ⟨mk,0,none⟩)],.func (.func 139) #[] #[.pointer (some ⟨bs,0,none⟩),.pointer (some ⟨a,0,none⟩),.pointer (some ⟨mk,0,none⟩)],.func (.func 141) #[] #[.pointer (some ⟨bs,0,none⟩),.pointer (some ⟨mk,0,none⟩)]]/\(S bs/\S a/\S mk)/\
 w.cell? ⟨bs,0,none⟩=some (.pointer (some ⟨q.1.1,0,none⟩))/\w.cell? ⟨a,0,none⟩=some (.int .i64 q.1.2)/\w.cell? ⟨mk,0,none⟩=some (.int .i64 (q.2.2:Int))/\w.cell? ⟨mk,1,none⟩=some (.int .i64 (q.2.1:Int))
theorem IsMk.stb:Stb IsMk:=by rintro w w' S T v q ⟨bs,e,mk,hv,⟨c,d,b⟩,f,g,h,i⟩ a;exact⟨bs,e,mk,hv,⟨(a _ c).1,(a _ d).1,(a _ b).1⟩,((a _ c).2 _).trans f,((a _ d).2 _).trans g,((a _ b).2 _).trans h,((a _ b).2 _).trans i⟩
structure Ready (p:ProgQ) (k m n g:Nat) (row:Int) (w:f) (st:Int) (s:Sol):Prop where
 cell:w.cell? ⟨g,11,none⟩=some (.int .i64 st)
 maker:∀W:f,Below w.heap.size w W->Calls Tryz.prog 61 #[.pointer (some ⟨g,0,none⟩),.int .i64 row] W fun e w'=>(∃v,e= .returned v/\IsMk w' (F6 W.heap.size w') v ((g,row),(m,n)))/\Below W.heap.size W w'
 make:∀W:f,Below w.heap.size w W->∀v,IsMk W (C2 W) v ((g,row),(m,n))->Calls Tryz.prog 62 #[v,.int .i64 st] W (zoj W s)
 ans:zmy p k s
section
variable {w : f} {S : Nat → Prop} {lo0 lo g : Nat} {L : Lay} {t : TB} {st e steps : Int} {p : ProgQ} {N M k : Nat}
theorem ybj {n:Nat} {row:Int} (h:O7 w S lo0 lo g L m n sc top t st e steps):∀a:f,Below w.heap.size w a->Calls Tryz.prog 61 #[.pointer (some ⟨g,0,none⟩),.int .i64 row] a fun b w'=>(∃v,b= .returned v/\IsMk w' (F6 a.heap.size w') v ((g,row),(m,n)))/\Below a.heap.size a w':=fun a l=>by
 refine(yuu (row:=row) (h.next l)).mono ?_
 rintro b w' ⟨⟨bs,j,mk,rfl,⟨q,r,s⟩,c,d,i,k⟩,p⟩
 exact⟨⟨_,rfl,bs,j,mk,rfl,⟨⟨q,o _ _ c⟩,⟨r,o _ _ d⟩,⟨s,o _ _ i⟩⟩,c,d,i,k⟩,p⟩
theorem yxw (b:FineP p N M) (n:(A9 N).length<=100000) (q:(A9 (K6 (M*N) (p.B.length+1)*N)).length<=k) (l:1<=k) (hF:(A9 (K6 (M*N) (p.B.length+1))).length<=100000) (m:Bru w) (h:O7 w S lo0 lo g L p.B.length p.C.length (X7 p) (zki p) t 1 e steps) (d:OkT (M*N) p.B.length p.C.length (X7 p) (zki p) (R4 p.B.length p.C.length (aF p.A) (lF p.B) (lF p.C)) t) (j:∀f,f<p.B.length->0<=t.A f p.C.length) (o:zkm p.B.length p.C.length t=none) (row:Int):
 ∃s,Ready p k p.B.length p.C.length g row w 1 s:=by obtain⟨_,_,_,_,_,_,_,_,_,_,_,_,i,_,_⟩:=h.open;have B:=b.good.nB;have C:=b.good.nC;refine⟨_,i,ybj h,fun y c v hv=> ?_,ymx b q l d j o⟩;obtain⟨bs,A,mk,rfl,_,r,D,u,x⟩:=hv;exact ytw fun z a=>yua ((h.next c).next a) d.inv (Bru.next (Bru.next m c) a) og og hF (b.scok n) (B9 a r) (B9 a u) (B9 a x)
theorem yxu (b:FineP p N M) (m:(A9 N).length<=100000) (o:(A9 (K6 (M*N) (p.B.length+1)*N)).length<=k) (j:1<=k) (hF:(A9 (K6 (M*N) (p.B.length+1))).length<=100000) (l:Bru w) (h:O7 w S lo0 lo g L p.B.length p.C.length (X7 p) (zki p) t 2 e steps) (f:OkT (M*N) p.B.length p.C.length (X7 p) (zki p) (R4 p.B.length p.C.length (aF p.A) (lF p.B) (lF p.C)) t) {r:Nat} (d:znn p.B.length p.C.length t=some r) (n:znz p.C.length t r=none):
 ∃s,Ready p k p.B.length p.C.length g (r:Int) w 2 s:=by obtain⟨_,_,_,_,_,_,_,_,_,_,_,_,i,_,_⟩:=h.open;have C:=b.good.nB;have D:=b.good.nC;refine⟨_,i,ybj h,fun z c v hv=> ?_,ymw b o j f d n⟩;obtain⟨bs,B,mk,rfl,_,q,u,x,y⟩:=hv;exact ytx fun A a=>ytz (zmg d).1 ((h.next c).next a) f.inv (Bru.next (Bru.next l c) a) og og hF (b.scok m) (B9 a q) (B9 a u) (B9 a x) (B9 a y)
theorem yxx (b:FineP p N M) (o:(A9 N).length<=100000) (q:(A9 (K6 (M*N) (p.B.length+1)*N)).length<=k) (m:1<=k) (hF:(A9 (K6 (M*N) (p.B.length+1))).length<=100000) (n:Bru w) (h:O7 w S lo0 lo g L p.B.length p.C.length (X7 p) (zki p) t 3 (c:Int) steps) (f:OkT (M*N) p.B.length p.C.length (X7 p) (zki p) (R4 p.B.length p.C.length (aF p.A) (lF p.B) (lF p.C)) t) (l:∀i,i<p.B.length->0<=t.A i p.C.length) (e:zkm p.B.length p.C.length t=some c) (r:zlx p.B.length p.C.length t c=none) (row:Int):
 ∃s,Ready p k p.B.length p.C.length g row w 3 s:=by obtain⟨_,_,_,_,_,_,_,_,_,_,_,_,j,_,_⟩:=h.open;have B:=b.good.nB;have C:=b.good.nC;refine⟨_,j,ybj h,fun y d v hv=> ?_,ymy b q m f l e r⟩;obtain⟨bs,A,mk,rfl,_,u,D,x,E⟩:=hv;exact yty fun z a=>yub (zmg e).1 ((h.next d).next a) f.inv (Bru.next (Bru.next n d) a) og og hF (b.scok o) (B9 a u) (B9 a x)
end
theorem ydf {p:ProgQ} {k:Nat} {s:Sol} (h:zmy p k s) (b:k<=1024):∃v X D R,s=⟨s.st,D8 v,C0 X,C0 D,C0 R⟩/\zlt v=true/\(∀q∈X,zlt q=true)/\(∀q∈D,zlt q=true)/\∀q∈R,zlt q=true:=by
 have f:zlt 0=true:=zta (zqo (k:=1) og) og;have nil:∀q∈([]:List Rat),zlt q=true:=fun q a=>(by cases a);rcases h with⟨X,d,v,rfl,_,c,e,i⟩|⟨d,rfl,_,c⟩|⟨X,g,rfl,_,c,e⟩
 ·exact⟨v,X,d,[],rfl,zta c b,fun q a=>zta (e q a) b,fun q a=>zta (i q a) b,nil⟩
 ·exact⟨0,[],d,[],rfl,f,nil,fun q a=>zta (c q a) b,nil⟩
 ·exact⟨0,X,[],g,rfl,f,fun q a=>zta (c q a) b,nil,fun q a=>zta (e q a) b⟩
end Go.Proofs.YtdgilbgdkmhcmaaGreatDoor
