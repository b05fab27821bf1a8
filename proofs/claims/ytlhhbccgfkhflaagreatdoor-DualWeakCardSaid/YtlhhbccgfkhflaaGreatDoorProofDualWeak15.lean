/-
 The contract of package simplex's leaving.
-/
import Derived.Test.YtlhhbccgfkhflaaGreatDoorProofDualWeak14
import Derived.RangeFuncFrom
import Derived.BigRegionIn
namespace Go.Proofs.YtlhhbccgfkhflaaGreatDoor
open Go.RowKit
set_option linter.unusedVariables false
open Go.RowKit Go.Shelf
set_option maxRecDepth 100000
set_option maxHeartbeats 8000000
open _root_.Go.Lib renaming hid → a
open _root_.Nat renaming le_refl → j, lt_succ_self → q
open _root_.Go.World renaming cell?_of_block → l, block_lt_of_cell? → o
open _root_.And renaming intro → d
open _root_.Go renaming World → f, Value → i
variable {T : Nat → Prop} {b c m top : Nat} {sc : Nat → Nat} {v : i} {xs : List i}
theorem yvv {A:Nat->Nat->Int} {bas:Nat->Nat} {n k:Nat} (h:A k c<=0):Y7 A bas n c (k+1)=Y7 A bas n c k:=by rw[Y7,if_pos h]
theorem yvu {A:Nat->Nat->Int} {bas:Nat->Nat} {n k:Nat} (h:¬A k c<=0) (a:Y7 A bas n c k=none):N7 (Y7 A bas n c (k+1))=(k:Int):=by rw[Y7,if_neg h,a];rfl
theorem yix {A:Nat->Nat->Int} {bas:Nat->Nat} {n k:Nat} (h:¬A k c<=0) (a:Y7 A bas n c k=some b) (d:zmf A bas n c k b=true):N7 (Y7 A bas n c (k+1))=(k:Int):=by rw[Y7,if_neg h,a];show N7 (if zmf A bas n c k b then some k else some b)=_;rw[if_pos d];rfl
theorem yiy {A:Nat->Nat->Int} {bas:Nat->Nat} {n k:Nat} (h:¬A k c<=0) (a:Y7 A bas n c k=some b) (d:zmf A bas n c k b=false):N7 (Y7 A bas n c (k+1))=(b:Int):=by rw[Y7,if_neg h,a];show N7 (if zmf A bas n c k b then some k else some b)=_;rw[if_neg (by rw[d];decide)];rfl
theorem zyp {A:Nat->Nat->Int} {bas:Nat->Nat} {n:Nat}:∀{k b:Nat},Y7 A bas n c k=some b->b<k
 |0,b,h=>by cases h
 |k+1,b,h=>by
  rw[Y7] at h
  split at h
  ·exact Nat.lt_succ_of_lt (zyp h)
  ·cases e:Y7 A bas n c k with
   |none=>rw[e] at h;cases h;exact q _
   |some x=>
    rw[e] at h
    have h:(if zmf A bas n c k x then some k else some x)=some b:=h
    split at h
    ·cases h;exact q _
    ·cases h;exact Nat.lt_succ_of_lt (zyp e)
theorem ywa {A:Nat->Nat->Int} {bas:Nat->Nat} {n k:Nat} (h:(A k n).natAbs*(A b c).natAbs<(A b n).natAbs*(A k c).natAbs):zmf A bas n c k b=true:=by unfold zmf;rw[decide_eq_true h];rfl
theorem yvy {A:Nat->Nat->Int} {bas:Nat->Nat} {n k:Nat} (h:(A b n).natAbs*(A k c).natAbs<(A k n).natAbs*(A b c).natAbs):zmf A bas n c k b=false:=by unfold zmf;rw[decide_eq_false og,decide_eq_false og];rfl
theorem yjb {A:Nat->Nat->Int} {bas:Nat->Nat} {n k:Nat} (h:(A k n).natAbs*(A b c).natAbs=(A b n).natAbs*(A k c).natAbs):zmf A bas n c k b=decide (bas k<bas b):=by unfold zmf;rw[decide_eq_false og,decide_eq_true h];simp
theorem yad {z:Int} (h:Sz ((z:Int):Rat) 100000):(A8 z.natAbs).length<=4294967296:=by have a:=h.1;rw[Rat.num_intCast] at a;omega
theorem zz1402 (x y:Nat):(x<y/\zkf x y<0)\/(x=y/\zkf x y=0)\/(y<x/\0<zkf x y):=by
 unfold zkf;rcases Nat.lt_trichotomy x y with h|h|h
 ·left;refine⟨h,?_⟩;grind
 ·right;left;refine⟨h,?_⟩;grind
 ·right;right;refine⟨h,?_⟩;grind
theorem yvp (z:Int):decide (T7 (z:Rat)<=0)=decide (z<=0):=by have h:=ymc z;rw[decide_eq_decide] at h⊢;omega
theorem yvw {w:f} {S:Nat->Prop} {lo0 lo g n:Nat} {L:Lay} {t:TB} {st e steps:Int} (h:T3 w S lo0 lo g L m n sc top t st e steps) (hc:c<n) (cI:m<=100) (cJ:n<=100) (bn:∀ar bt,ar<=m->bt<=n->Sz ((t.A ar bt:Int):Rat) 100000):
 Calls Tryz.prog 116 #[.pointer (some ⟨g,0,none⟩),.int .i64 (c:Int)] w fun Q w'=>Q= .returned (.int .i64 (N7 (znk m n t c)))/\Below w.heap.size w w':=by
 obtain⟨bF,aj,B⟩:=F0 h bn hc;obtain⟨b9,cM,cd,cQ,b5,cn,ck,cr,-,⟨C,bN,D,E,bO⟩,-,-,-⟩:=h.open;obtain⟨bas,aN⟩:=nm (fun ar=>t.bas.getD ar 0);have bG:Hid (znk m n t c=Y7 t.A bas n c m):=(by rw[Hid,aN];rfl);rw[bG.out];have a0:=a aN;have bi:=h.caps;have bT:m<=L.bc/\L.bc<=9223372036854775807/\m<=L.rc/\L.rc<=9223372036854775807:=(by unfold maxLen at bi;omega);obtain⟨cG,cH,cK,cL⟩:=bT;have aq:∀Z,Z<m+2->M4 m n Z<=L.cp Z/\L.cp Z<=9223372036854775807:=fun Z bV=>(by have:=h.cap Z bV;unfold maxLen at this;exact this);have ah:=a aq;have cl:m<=L.cp m:=(by have:=(aq m og).1;rwa[Y2] at this);have cm:L.cp m<=9223372036854775807:=(aq m og).2;have cA:(0:Int)<=(c:Int):=og;have cB:(c:Int)<(n:Int):=og;have cq:=N9;obtain⟨ra,aR⟩:=nm (L.ra);rw[<-aR] at D;obtain⟨bE,ay⟩:=C7 aR (d C (d D E));clear h bn aN bi aq C bN E bO aR;go_in;go_wp2_with fail;clear D;go_loopw [17,5,6,7,8,9,10] (fun aV best _ _ _ _ _ wr=>∃k:Nat,k<=m/\aV= .int .i64 (k:Int)/\best= .int .i64 (N7 (Y7 t.A bas n c k))/\Below w.heap.size w wr) (fun aV _ _ _ _ _ _ _=>m-(intOf aV).toNat);case atStart=>exact⟨0,Nat.zero_le _,rfl,rfl,Below.refl _ _⟩
 case round=>
  obtain⟨k,cF,rfl,rfl,bf⟩:=hrel;have y:=a bf;clear bf;rcases Nat.lt_or_ge k m with x|cC
  ·have p:=a (bF.out.next y.out);have aO:=p.out.hd k x;have bY:=bE.out.trans aO.1;subst bY;have an:=aO.2.2;have bA:=p.out.hv k og (by rw[K3 x];have:=B.out;omega);have bB:=p.out.hv m og (by rw[Y2];omega);rw[bA] at an;have C:=A9 y.out ay.out.1;have D:=A9 y.out ay.out.2.1;have E:=A9 y.out ay.out.2.2;rw[(p.out.basW og).1] at C;rw[bB] at E;obtain⟨bJ,b1,cg,lF,-,ac,R,ao,aI⟩:=p.out.el (l:=k) (j:=c) og (by rw[K3 x];exact B.out);obtain⟨ca,cN,cf,cR,-,u0,u1,u2,aW⟩:=p.out.el (l:=m) (j:=k) og (by rw[Y2];exact x);rw[zrp x] at ac R aI;rw[zus] at u0 u1 aW;have V:=(p.out.basW og).2.el k x;have a6:t.bas.getD k 0=bas k:=(by rw[a0.out]);have V:wr.cell? ⟨L.bb,k,none⟩=some (.int .i64 ((bas k:Nat):Int)):=(by rw[<-a6];exact V);have cs:n<=L.cp k:=(by have:=(ah.out k og).1;rwa[K3 x] at this);have ct:L.cp k<=9223372036854775807:=(ah.out k og).2;have cD:(0:Int)<=(k:Int):=og;have cE:(k:Int)<(m:Int):=og;have ab:=a x;have o:Hid (k+1<=m):=x;obtain⟨I,ak⟩:=C7 aI aW;obtain⟨cX,bq⟩:=nm (decide (t.A k c<0));obtain⟨b4,br⟩:=nm ((A8 (t.A k c).natAbs).length);obtain⟨cw,bg⟩:=nm (decide (t.A k n<0));obtain⟨cx,bh⟩:=nm ((A8 (t.A k n).natAbs).length);obtain⟨cW,bp⟩:=nm ((A8 1).length);rw[<-bq] at ac I;rw[<-br] at R I;rw[<-bg] at u0 ak;rw[<-bh] at u1 ak;rw[<-bp] at ao I u2 ak;obtain⟨sg,aS⟩:=nm (T7 ((t.A k c:Int):Rat));have az:=a aS;have bj:decide (sg<=0)=decide (t.A k c<=0):=(by rw[aS];exact yvp _);have bX:(wr.cell? ⟨L.bk k,c*3+1,none⟩=some (.slice bJ b4 b1)):=R;have T:=a (d C (d D (d E (d u1 (d R V)))));clear bq br bg bh bp aI aW aO a6 aS bX;by_cases Y:t.A k c<=0
   ·have H:=a Y;rw[decide_eq_true Y] at bj;clear Y u0 u1 u2 C E V;go_wp2_with fail;refine(zns I.out).mono ?_;rw[<-az.out];rintro Q v ⟨rfl,i⟩;have z:=nB y i;clear i an ac R ao D;go_wp2_with fail;go_roundw;(case rel=>exact⟨k+1,o.out,by go_num,by rw[yvv H.out],z.out⟩);case measure=>simp[intOf];have:=o.out;omega
   ·have H:=a Y;rw[decide_eq_false Y] at bj;clear Y;cases W:Y7 t.A bas n c k with
    |none=>have be:N7 (none:Option Nat)= -1:=rfl;rw[be];clear u0 u1 u2 C E V;go_wp2_with fail;refine(zns I.out).mono ?_;rw[<-az.out];rintro Q v ⟨rfl,i⟩;have z:=nB y i;clear i an ac R ao D;go_wp2_with fail;go_roundw;(case rel=>exact⟨k+1,o.out,by go_num,by rw[yvu (oh H) W],z.out⟩);case measure=>simp[intOf];have:=o.out;omega
    |some b=>
     have bQ:=zyp W;have F:b<m:=oh ab;have bR:N7 (some b)=(b:Int):=rfl;rw[bR];have cy:(0:Int)<=(b:Int):=og;have i:(b:Int)<(m:Int):=og;have be:decide ((b:Int)<0)=false:=decide_eq_false og;have bx:=p.out.hv b og (by rw[K3 F];have:=B.out;omega);have aH:=(p.out.hd b F).2.2;rw[bx] at aH;obtain⟨cb,cO,ch,cS,-,-,au,-,aJ⟩:=p.out.el (l:=b) (j:=c) og (by rw[K3 F];exact B.out);obtain⟨cc,cP,cj,cT,-,-,av,-,aQ⟩:=p.out.el (l:=m) (j:=b) og (by rw[Y2];exact F);rw[zrp F] at au aJ;rw[zus] at av aQ;have al:=(p.out.basW og).2.el b F;have a5:t.bas.getD b 0=bas b:=(by rw[a0.out]);have al:wr.cell? ⟨L.bb,b,none⟩=some (.int .i64 ((bas b:Nat):Int)):=(by rw[<-a5];exact al);have cu:n<=L.cp b:=(by have:=(ah.out b og).1;rwa[K3 F] at this);have cv:L.cp b<=9223372036854775807:=(ah.out b og).2;obtain⟨aC,aD,a2,a1⟩:=V7 (zls aJ) (zls aQ) (zls I.out) (zls ak.out);obtain⟨b7,a8⟩:=nm ((A8 (t.A b c).natAbs).length);obtain⟨b8,a9⟩:=nm ((A8 (t.A b n).natAbs).length);rw[<-a8] at au aC;rw[<-a9] at av aD;rw[Rat.num_intCast] at aC aD a2 a1;obtain⟨ai,ag⟩:=C7 F (d aH (d au (d av al)));clear u0 u1 u2 C E V aH au av al aJ aQ a8 a9 a5 bQ;go_wp2_with fail;refine(zns I.out).mono ?_;rw[<-az.out];rintro Q v ⟨rfl,i⟩;have aa:=a i;have q:=A9 i T.out.1;have J:=A9 i T.out.2.1;have K:=A9 i T.out.2.2.1;have M:=A9 i T.out.2.2.2.1;have N:=A9 i T.out.2.2.2.2.1;have r:=A9 i T.out.2.2.2.2.2;have O:=A9 i ag.out.1;have b2:=A9 i ag.out.2.1;have P:=A9 i ag.out.2.2.1;have s:=A9 i ag.out.2.2.2;clear i an ac R ao D;go_wp2_with fail;have l:=zyi q J K M N r O b2 P s;have aY:=a fun aE (ad:Below v.heap.size v aE)=>zmv (F7 (IsK.stb.next (IsK.stb.next a1.out aa.out) (ad))) (F7 (IsK.stb.next (IsK.stb.next aC.out aa.out) (ad))) (j _) (j _) (yad (aj.out k n (zmb ab ai) (oh B))) (yad (aj.out b c (zmb ab ai) (oh B)));clear q J K M N r O b2 P s
     go_region_held3 (SH.mk _ l).s
      (exact l.out _ bel)
       (first
         |(go_at_call 160;(with_reducible refine Calls.mono (aY.out _ bel) ?_);rintro Q b3 ⟨⟨cU,rfl,aT⟩,cz⟩;have bv:=bW v b3;have bK:=a (zrn aT);obtain⟨bH,bZ,rfl,_,_,_⟩:=id aT))
     clear aY aT;have bM:=bv.out;go_wp2_with fail;have aZ:=a fun aE (ad:Below v.heap.size v aE)=>zmv (F7 (IsK.stb.next (IsK.stb.next aD.out aa.out) (ad))) (F7 (IsK.stb.next (IsK.stb.next a2.out aa.out) (ad))) (j _) (j _) (yad (aj.out b n (zmb ab ai) (oh B))) (yad (aj.out k c (zmb ab ai) (oh B)))
     go_region_held3 (SH.mk _ l).s
      (exact l.out _ bel)
       (first
         |(go_at_call 160;(with_reducible refine Calls.mono (aZ.out _ bel) ?_);rintro Q af ⟨⟨cV,rfl,aU⟩,bd⟩;have bw:=bW v af;have bL:=a (zrn aU);obtain⟨bI,b0,rfl,_,_,_⟩:=id aU))
     clear aZ aU;have a4:=bw.out;have aA:Hid (IsN af 0 af.heap.size (.slice bH (A8 ((t.A k n).natAbs*(t.A b c).natAbs)).length bZ) ((t.A k n).natAbs*(t.A b c).natAbs)):=F7 (IsK.stb.next bK.out (by first|exact bd|exact C8 (L8 _) bd));have aB:Hid (IsN af 0 af.heap.size (.slice bI (A8 ((t.A b n).natAbs*(t.A k c).natAbs)).length b0) ((t.A b n).natAbs*(t.A k c).natAbs)):=F7 bL.out;obtain⟨X,aL⟩:=nm ((t.A k n).natAbs*(t.A b c).natAbs);obtain⟨a3,aM⟩:=nm ((t.A b n).natAbs*(t.A k c).natAbs);rw[<-aL] at aA⊢;rw[<-aM] at aB⊢;have A:=a (d aL aM);obtain⟨ae,u⟩:=nm (zkf X a3);have bC:=a u;have aP:=zz1402 X a3;rw[<-u] at aP;have bD:=a aP;clear aL aM u aP;go_wp2_with fail;refine(zsh aA.out aB.out).mono ?_;rw[<-bC.out];rintro Q bu ⟨rfl,hd5⟩;have aX:Hid (Below v.heap.size v bu):=C8 a4 (hd5.below _);have z:=a (C8 (C8 y.out aa.out) aX.out);clear hd5 bM a4 aA aB;obtain⟨q,J,K,M,N,r,O,b2,P,s⟩:=l.out bu aX.out;clear l;rcases bD.out with⟨G,u⟩|⟨G,u⟩|⟨G,u⟩
     ·have U:=a G;have a7:decide (ae<0)=true:=decide_eq_true u;clear G u;have l:=zlz q r s;clear q J K M N r O b2 P s;go_wp2_with fail;refine wp_region_noPanic ?_;refine zld l fun aK=> ?_;refine sT 0 71 ?_;refine sT 1 72 ?_;refine sT 2 73 ?_;refine sU 3 74 ?_;refine sU 4 75 ?_;refine sU 5 76 ?_;refine sU 6 77 ?_;refine sU 7 78 ?_;refine sU 8 79 ?_;refine sU 9 80 ?_;refine sU 10 81 ?_;refine sU 11 82 ?_;refine sU 12 83 ?_;refine sU 13 84 ?_;refine sU 14 85 ?_;refine sU 15 86 ?_;refine sU 16 87 ?_;refine sU 17 88 ?_;refine sU 18 89 ?_;refine sU 19 90 ?_;refine sU 20 91 ?_;refine sU 21 92 ?_;refine sU 22 93 ?_;refine sU 23 94 ?_;refine sT 24 95 ?_;refine wpAnyH_done kr ?_ _;refine NoPanic.normal ?_;clear l;go_wp2_with fail;have aG:=z.out;go_roundw;(case rel=>exact⟨k+1,o.out,by go_num,by rw[yix (oh H) W (ywa (by have h:=U.out;rw[A.out.1,A.out.2] at h;exact h))],bel⟩);case measure=>simp[intOf];have:=o.out;omega
     ·have U:=a G;have a7:decide (ae<0)=false:=decide_eq_false og;have bP:(ae==0)=true:=(by rw[u];rfl);clear G u;by_cases bm:bas k<bas b
      ·have bU:decide (((bas k:Nat):Int)<((bas b:Nat):Int))=true:=decide_eq_true og;have l:=zlz q r s;clear q J K M N r O b2 P s;go_wp2_with fail;refine wp_region_noPanic ?_;refine zld l fun aK=> ?_;refine sT 0 71 ?_;refine sT 1 72 ?_;refine sT 2 73 ?_;refine sT 3 74 ?_;refine sT 4 75 ?_;refine sT 5 76 ?_;refine sT 6 77 ?_;refine sT 7 78 ?_;refine sT 8 79 ?_;refine sT 9 80 ?_;refine sT 10 81 ?_;refine sT 11 82 ?_;refine sT 12 83 ?_;refine sT 13 84 ?_;refine sT 14 85 ?_;refine sT 15 86 ?_;refine sT 16 87 ?_;refine sT 17 88 ?_;refine sT 18 89 ?_;refine sT 19 90 ?_;refine sT 20 91 ?_;refine sT 21 92 ?_;refine sT 22 93 ?_;refine sT 23 94 ?_;refine sT 24 95 ?_;refine wpAnyH_done kr ?_ _;refine NoPanic.normal ?_;clear l;go_wp2_with fail;have aG:=z.out;go_roundw;(case rel=>exact⟨k+1,o.out,by go_num,by rw[yix (oh H) W (by rw[yjb (by have h:=U.out;rw[A.out.1,A.out.2] at h;exact h)];exact decide_eq_true bm)],bel⟩);case measure=>simp[intOf];have:=o.out;omega
      ·have bU:decide (((bas k:Nat):Int)<((bas b:Nat):Int))=false:=decide_eq_false og;have l:=zlz q r s;clear q J K M N r O b2 P s;go_wp2_with fail;refine wp_region_noPanic ?_;refine zld l fun aK=> ?_;refine sT 0 71 ?_;refine sT 1 72 ?_;refine sT 2 73 ?_;refine sT 3 74 ?_;refine sT 4 75 ?_;refine sT 5 76 ?_;refine sT 6 77 ?_;refine sT 7 78 ?_;refine sT 8 79 ?_;refine sT 9 80 ?_;refine sT 10 81 ?_;refine sT 11 82 ?_;refine sT 12 83 ?_;refine sT 13 84 ?_;refine sT 14 85 ?_;refine sT 15 86 ?_;refine sT 16 87 ?_;refine sT 17 88 ?_;refine sT 18 89 ?_;refine sT 19 90 ?_;refine sT 20 91 ?_;refine sT 21 92 ?_;refine sT 22 93 ?_;refine sT 23 94 ?_;refine sT 24 95 ?_;refine wpAnyH_done kr ?_ _;refine NoPanic.normal ?_;clear l;go_wp2_with fail;have aG:=z.out;go_roundw;(case rel=>exact⟨k+1,o.out,by go_num,by rw[yiy (oh H) W (by rw[yjb (by have h:=U.out;rw[A.out.1,A.out.2] at h;exact h)];exact decide_eq_false bm)],bel⟩);case measure=>simp[intOf];have:=o.out;omega
     ·have U:=a G;have a7:decide (ae<0)=false:=decide_eq_false og;have bP:(ae==0)=false:=(by simp;omega);clear G u;have l:=zlz q r s;clear q J K M N r O b2 P s;go_wp2_with fail;refine wp_region_noPanic ?_;refine zld l fun aK=> ?_;refine sT 0 71 ?_;refine sT 1 72 ?_;refine sT 2 73 ?_;refine sT 3 74 ?_;refine sT 4 75 ?_;refine sT 5 76 ?_;refine sU 6 77 ?_;refine sU 7 78 ?_;refine sU 8 79 ?_;refine sU 9 80 ?_;refine sU 10 81 ?_;refine sU 11 82 ?_;refine sU 12 83 ?_;refine sU 13 84 ?_;refine sU 14 85 ?_;refine sU 15 86 ?_;refine sU 16 87 ?_;refine sU 17 88 ?_;refine sU 18 89 ?_;refine sU 19 90 ?_;refine sU 20 91 ?_;refine sU 21 92 ?_;refine sU 22 93 ?_;refine sT 23 94 ?_;refine sT 24 95 ?_;refine wpAnyH_done kr ?_ _;refine NoPanic.normal ?_;clear l;go_wp2_with fail;have aG:=z.out;go_roundw;(case rel=>exact⟨k+1,o.out,by go_num,by rw[yiy (oh H) W (yvy (by have h:=U.out;rw[A.out.1,A.out.2] at h;exact h))],bel⟩);case measure=>simp[intOf];have:=o.out;omega
  ·obtain rfl:k=m:=og;go_wp2_with fail;go_ret;exact⟨rfl,y.out⟩
def yex {d:Type} (F:Fence) (n:Nat) (P:Program) (g:Nat) (q:Array i) (p:d->Array i->Prop) (o:d->d->Prop) (Rd:d->f->Prop) (Fin:d->f->f->Prop) (w:f):Prop:=
 ∀(l:Nat) (c j:d->f->Prop) (k:f->Prop) (e:f),Below w.heap.size w e->AbidesFrom e.heap.size c->(∀s b,c s b->Rd s b)->
  (∀s vs b,c s b->p s vs->YieldAt F (n-1) P l vs b fun h a=>(h= .returned (.bool true)/\∃m,o s m/\c m a)\/(h= .returned (.bool false)/\k a))->
  (∀s b a,c s b->Fin s b a->j s a)->(∃s,c s e)->
  CallsIn F n P g (#[.func (.yield l) #[] #[]]++q) e fun h a=>(∃v,h= .returned v)/\((∃s,j s a)\/k a)
def ysi {e:Type} (B:Nat) (k:e->f->Prop) (g:Code->f->Prop) (m:e->e->Prop) (s:e) (c:f):Exit->Act->f->Prop
 | .normal,_,b=>KeepsFrom B c b/\∃h,m s h/\k h b
 | .ret,_,b=>KeepsFrom B c b/\g .ret b
 | .exit id,_,b=>KeepsFrom B c b/\g (.exit id) b
 | .goto t,_,b=>KeepsFrom B c b/\g (.goto t) b
 |_,_,_=>False
section
variable {F : Fence} {n : Nat} {P : Program}
theorem zz1475 {σ:Type} {g:Operand} {T:Array Tmp} {assign body:Code} {U:Exit->Act->f->Prop} {a:Act} {w:f}
 (aD:F.round=none) (al:1<=n) {gf:Nat} {lb:Array i} (av:a.eval g= .func (.func gf) #[] lb) (an:F.fn gf) (ai:∀args w,(callFunc gf args).run P w= .ok (.enter gf args) w)
 {S:σ->Array i->Prop} {Z:σ->σ->Prop} {Rd:σ->f->Prop} {Fin:σ->f->f->Prop} {O:f} (aG:yex F (n-1) P gf lb S Z Rd Fin O) (ac:Below O.heap.size O w) (aC:∀s vs,S s vs->vs.size=T.size)
 (u Q:σ->f->Prop) (R:Code->f->Prop) (hI:OwnFrom w.heap.size u) (hI':OwnFrom w.heap.size Q) (J:OwnFrom w.heap.size R) (aq:∀s b,u s b->Rd s b)
 (hfin:∀s b H,u s b->Fin s b H->Q s H/\KeepsFrom w.heap.size b H) (ak:∃s,u s w) (aa:Array i->Act)
 (hassign:∀(N:Nat) (s:σ) (vs:Array i) (b:f) (Y:Act->f->Prop),S s vs->Y (aa vs) b->
   assign.wpIn (F.inRound N) (n-1-1) P (Exit.then Y (fun _ _ _=>False)) {tmps:=(T.zip vs).foldl (fun t (p,v)=>t.setIfInBounds p v) a.tmps,defers:=[]} b)
 (hbody:∀(N:Nat) (s:σ) (vs:Array i) (b:f),w.heap.size<=N->(∃r,b.heap[N]? =some (.loop r))->u s b->S s vs->body.wpIn (F.inRound N) (n-1-1) P (ysi w.heap.size u R Z s b) (aa vs) b)
 (hdone:∀(D:Nat) (s:σ) (b:f),w.heap.size<=D->Q s b->b.heap[D]? =some (.deferred (some []))->U .normal {a with defers:={target:= .collected D,args:= #[]}::a.defers} b)
 (ae:∀(D:Nat) (c:Code) (b:f),w.heap.size<=D->R c b->b.heap[D]? =some (.deferred (some []))->c.wpIn F n P U {a with defers:={target:= .collected D,args:= #[]}::a.defers} b):
 (Code.rangeFunc g T assign body).wpIn F n P U a w:=by
 refine wpIn_rangeFunc fun fn au=> ?_
 rw[aD]
 obtain⟨D,hD⟩:=nm (w.heap.size)
 obtain⟨rec,q⟩:∃rec:LoopState->Option Code->Loop,rec=fun st aI=>{state:=st,pending:=aI,fn,tmps:=a.tmps,params:=T,assign,body,defers:=D}:=⟨_,rfl⟩
 obtain⟨l,G⟩:=nm ((w.alloc (.deferred (some []))).alloc (.loop (rec .ready none)))
 have recAt:l.heap[D+1]? =some (.loop (rec .ready none)):=by
  have h:=World.alloc_heap_new (w.alloc (.deferred (some []))) (.loop (rec .ready none))
  rw[World.size_alloc] at h
  rw[G,hD]
  exact h
 have ag:l.heap[D]? =some (.deferred (some [])):=by
  rw[G,hD]
  exact(Below.heap_alloc _ _ _ (by simp)).trans (World.alloc_heap_new w _)
 have ao:∃s,u s l:=by
  obtain⟨s,M⟩:=ak
  exact⟨s,by rw[G];exact hI.alloc _ (hI.alloc _ M)⟩
 have aN:l.heap.size=D+2:=by rw[G,hD];simp
 have ar:Below O.heap.size O l:=by
  rw[G]
  exact ac.trans ((((Below.refl _ w).alloc (j _) _).alloc (by simp) _).mono ac.size)
 rw[<-hD] at hI hI' J hfin hbody hdone ae
 refine⟨D+1,[{target:= .collected D,args:= #[]}],l,{target:= .fn (.func gf) lb,args:= #[.func (.yield (D+1)) #[] #[]]},l,gf,#[.func (.yield (D+1)) #[] #[]]++lb,l,?_,?_,?_,?_,fun _=>al,?_⟩
 ·rw[G,q,hD]
  exact run_enterLoop_outer _ _ _ _ _
 ·simp only[resolve,av]
  simp[go_sem]
 ·intro aM ad
  simp[Target.leads] at ad
  subst ad
  exact an
 ·simp[invoke,go_sem,ai]
 have walk:∀{A B:f} {row:Option Nat},(∀r,row=some r->l.heap.size<=r/\∃E:Obj,A.heap[r]? =some E/\E.isWalk=true)->∀r,row=some r->D<=r/\∃E:Obj,A.heap[r]? =some E/\E.isCells=false:=fun hr r x=>by
  obtain⟨I,E,aB,aH⟩:=hr r x
  exact⟨by omega,E,aB,Obj.not_cells_of_walk aH⟩
 refine(aG (D+1) (fun p b=>u p b/\b.heap[D+1]? =some (.loop (rec .ready none))/\b.heap[D]? =some (.deferred (some [])))
  (fun p b=>Q p b/\b.heap[D+1]? =some (.loop (rec .ready none))/\b.heap[D]? =some (.deferred (some [])))
  (fun b=>∃c,R c b/\b.heap[D+1]? =some (.loop (rec .done (some c)))/\b.heap[D]? =some (.deferred (some []))) l ar
  (fun p A B row k W hr=>⟨hI p A B row k.1 W (walk (B:=B) hr),(grownBy_keeps W (fun r x=>(hr r x).2) k.2.1 rfl).trans k.2.1,(grownBy_keeps W (fun r x=>(hr r x).2) k.2.2 rfl).trans k.2.2⟩)
  (fun s V h=>aq s V h.1) ?round (fun s V H h hf=>by
   obtain⟨aj,y⟩:=hfin s V H h.1 hf
   exact⟨aj,y.same _ _ og h.2.1 rfl,y.same _ _ (j _) h.2.2 rfl⟩) (by obtain⟨s,M⟩:=ao;exact⟨s,M,recAt,ag⟩)).mono ?behind
 case behind=>
  rintro x b ⟨⟨v,rfl⟩,h⟩
  rcases h with⟨s,M,o,y⟩|⟨c,hc,o,y⟩
  ·have K:=run_endLoop (P:=P) o (by rw[q];simp)
   rw[q] at K
   exact⟨none,_,K,hdone D s _ (j _) (hI'.putObj _ M og o rfl) ((World.putObj_heap_other og).trans y)⟩
  ·have K:=run_endLoop (P:=P) o (by rw[q];simp)
   rw[q] at K
   exact⟨some c,_,K,ae D c _ (j _) (J.putObj _ hc og o rfl) ((World.putObj_heap_other og).trans y)⟩
 case round=>
  rintro s vs b ⟨ay,o,y⟩ X
  have az:D+1<b.heap.size:=(Array.getElem?_eq_some_iff.1 o).1
  have af:=run_yield (P:=P) (args:=vs) o (by rw[q];exact aC s vs X)
  rw[q] at af
  refine⟨fn,_,assign,body,af,roundIn_of_wpIn au (hassign _ s vs b _ X ⟨_,run_beginRound o (by rw[q]),?_⟩)⟩
  obtain⟨B,I⟩:=nm (b.putObj (D+1) (.loop {rec .ready none with state:= .busy}))
  have ab:B.heap[D+1]? =some (.loop {rec .ready none with state:= .busy}):=by rw[I];exact World.putObj_heap_same az
  have ah:B.heap[D]? =some (.deferred (some [])):=by rw[I];exact(World.putObj_heap_other og).trans y
  rw[<-I]
  refine wpIn_mono (hbody (D+1) s vs B og ⟨_,ab⟩ (by rw[I];exact hI.putObj _ ay og o rfl) X) ?_
  have fin:∀(jump:Option Code) (d:f),KeepsFrom D B d->
   (Instr.endRound (D+1) jump).run P d= .ok (.bool jump.isNone) (d.putObj (D+1) (.loop (rec (if jump.isNone then .ready else .done) jump)))/\
   d.heap[D+1]? =some (.loop {rec .ready none with state:= .busy})/\
   (d.putObj (D+1) (.loop (rec (if jump.isNone then .ready else .done) jump))).heap[D+1]? =some (.loop (rec (if jump.isNone then .ready else .done) jump))/\
   (d.putObj (D+1) (.loop (rec (if jump.isNone then .ready else .done) jump))).heap[D]? =some (.deferred (some [])):=fun jump d m=>by
   have e:=m.same _ _ og ab rfl
   have:=run_endRound (P:=P) jump e
   rw[q] at this⊢
   exact⟨this,by rw[q] at e;exact e,World.putObj_heap_same (Array.getElem?_eq_some_iff.1 e).1,(World.putObj_heap_other og).trans (m.same _ _ (j _) ah rfl)⟩
  rintro x aK d k
  cases x with
  |normal=>
   obtain⟨m,aJ,aA,aE⟩:=k
   obtain⟨hr,e,C,z⟩:=fin none d m
   exact⟨_,_,hr,.inl ⟨rfl,aJ,aA,hI.putObj _ aE og e rfl,C,z⟩⟩
  |ret=>
   obtain⟨m,L⟩:=k
   obtain⟨hr,e,C,z⟩:=fin (some .ret) d m
   exact⟨_,_,hr,.inr ⟨rfl,.ret,J.putObj _ L og e rfl,C,z⟩⟩
  |exit id=>
   obtain⟨m,L⟩:=k
   obtain⟨hr,e,C,z⟩:=fin (some (.exit id)) d m
   exact⟨_,_,hr,.inr ⟨rfl,.exit id,J.putObj _ L og e rfl,C,z⟩⟩
  |goto t=>
   obtain⟨m,L⟩:=k
   obtain⟨hr,e,C,z⟩:=fin (some (.goto t)) d m
   exact⟨_,_,hr,.inr ⟨rfl,.goto t,J.putObj _ L og e rfl,C,z⟩⟩
  |panic aL=>exact k.elim
  |outgrown=>exact k.elim
end
attribute [local go_sem] Oper.semAt_some
set_option linter.unusedVariables false
def yog (m n:Nat) (t:TB) (vs:Array i):Prop:=∃r c,zlq m n t=some c/\znk m n t c=some r/\vs= #[.int .i64 (r:Int),.int .i64 (c:Int)]
def RdS (S:Nat->Prop) (lo0 lo g:Nat) (L:Lay) (m n:Nat) (sc:Nat->Nat) (top M B:Nat) (t:TB) (a:f):Prop:=
 (∃st e steps,T3 a S lo0 lo g L m n sc top t st e steps)/\TInv M m n t/\(∀b,b<m->0<=t.A b n)/\Row a B 88 [.pointer (some ⟨g,0,none⟩)]
def FinS (g m n:Nat) (t:TB) (d b:f):Prop:=
 ∃a,Below d.heap.size d a/\a.grownBy b (some g)/\
  ((zlq m n t=none/\∀T xs,Row a g T xs->Row b g T (xs.set 11 (.int .i64 1)))\/
   ∃c,zlq m n t=some c/\znk m n t c=none/\∀T xs,Row a g T xs->Row b g T ((xs.set 11 (.int .i64 3)).set 12 (.int .i64 (c:Int))))
theorem ymm {n r:Nat} {t:TB} (b:zlq m n t=some c) (e:znk m n t c=some r):zko m n t=some (U4 t r c):=by unfold zko;rw[b];show(match znk m n t c with|none=>none|some r=>some (U4 t r c))=_;rw[e]
theorem FinS.sch {S:Nat->Prop} {lo0 lo g n:Nat} {L:Lay} {t:TB} {st e steps:Int} {p i:f} (hf:FinS g m n t p i) (h:T3 p S lo0 lo g L m n sc top t st e steps):
 (zlq m n t=none/\T3 i S lo0 lo g L m n sc top t 1 e steps)\/(∃c,zlq m n t=some c/\znk m n t c=none/\T3 i S lo0 lo g L m n sc top t 3 (c:Int) steps):=by
 obtain⟨B,z,l,hf⟩:=hf;have d:=h.next z;obtain⟨P,k,o,x,D,v,T,w,q,r,s,u⟩:=d.row;have a:=d.same l fun b y=>(by cases y;exact d.gS.2);rcases hf with⟨j,hr⟩|⟨c,j,A,hr⟩
 ·exact .inl ⟨j,d.cells l ⟨P,k,o,x,D,v,T,w,hr _ _ q,IsQ.stb.to r a,IsK.stb.to s a,IsK.stb.to u a⟩⟩
 ·exact .inr ⟨c,j,A,d.cells l ⟨P,k,o,x,D,v,T,w,hr _ _ q,IsQ.stb.to r a,IsK.stb.to s a,IsK.stb.to u a⟩⟩
theorem yff {p:Nat->Bool} {key:Nat->Nat} {n:Nat} (h:V8 p key n=some c):c<n:=(zmq h).1
theorem yzf {σ:Type} (b:σ->TB) (q:Nat) (aO:1<=q) {S:Nat->Prop} {lo0 lo g n M B:Nat} {L:Lay} {w:f} (X:m<=100) (Z:n<=100) (hF:(A8 (M3 M (m+1))).length<=100000):
 yex Fence.wide q Tryz.prog 114 #[.pointer (some ⟨B,0,none⟩)] (fun s=>yog m n (b s)) (fun s F=>zko m n (b s)=some (b F)) (fun s=>RdS S lo0 lo g L m n sc top M B (b s)) (fun s=>FinS g m n (b s)) w:=fun aR C aE aG aH aM P R V hfin x=>by
 obtain⟨H,af,ah,G,ae,ad⟩:=zpu P R V hfin hF x
 clear P R V hfin x hF
 refine callsIn_of_wp Tryz.func114 rfl trivial ?_ rfl
 simp only[Tryz.ntmps114,List.size_toArray,List.length_cons,List.length_nil,Nat.reduceAdd,Nat.reduceSub,Array.replicate_succ,Array.replicate_zero,List.push_toArray,List.append_toArray,List.nil_append,List.cons_append]
 gi_wp2
 gi_loopw [3,4] (fun _ _ wr=>∃s,C s wr) (fun _ _ wr=>leastM (fun s=>C s wr) (fun s=>leftO (zko m n) (b s)))
 case atStart=>exact ad.out
 case round=>
  obtain⟨s,x,Y⟩:=yiv (μ:=fun s=>leftO (zko m n) (b s)) hrel
  obtain⟨N,ai⟩:=C7 x Y
  clear hrel x Y
  obtain⟨⟨st,e,steps,U⟩,hI,Q,O⟩:=af.out s wr N.out
  have o:=O.cell 0
  simp at o
  obtain⟨I,z⟩:=C7 U (d hI Q)
  clear U hI Q O
  gi_wp2
  refine⟨trivial,callsIn_wide.2 ((ysm I.out X Z).mono ?_)⟩
  rintro j aC ⟨rfl,t⟩
  obtain⟨J,aD,D⟩:=F0 (H.out _ _ _ none N.out (K9 t) (fun r j=>by cases j)) t (I.out.next t)
  replace o:=A9 t o
  clear t
  cases u:zlq m n (b s) with
  |none=>
   have E:N7 (none:Option Nat)= -1:=rfl
   rw[E]
   have k:=a u
   obtain⟨aj,aA,ak,aB,ac,aq,an,ar,⟨i,-,-,-⟩,-,-,-,⟨au,-,-⟩⟩:=D.out.open
   have f11:=i.frozen 11
   clear u i
   gi_wp2
   exact⟨rfl,_,results_none rfl _ _ _,⟨_,rfl⟩,.inl ⟨s,G.out s _ _ J.out ⟨aC,Below.refl _ _,K0 _ _ _ _,.inl ⟨k.out,fun T xs h=>h.set_ 11 _⟩⟩⟩⟩
  |some c=>
   have W:c<n:=yff u
   have av:N7 (some c)=(c:Int):=rfl
   rw[av]
   have aN:decide ((c:Int)<0)=false:=decide_eq_false og
   have k:=a (d u W)
   clear u W
   gi_wp2
   refine⟨trivial,callsIn_wide.2 ((yvw D.out k.out.2 X Z (z.out.1.sz ae.out og).1).mono ?_)⟩
   rintro j ab ⟨rfl,y⟩
   obtain⟨K,al⟩:=C7 (H.out _ _ _ none J.out (K9 y) (fun r j=>by cases j)) (D.out.next y)
   replace o:=A9 y o
   clear y
   cases v:znk m n (b s) c with
   |none=>
    have E:N7 (none:Option Nat)= -1:=rfl
    rw[E]
    have A:=a v
    obtain⟨aj,aA,ak,aB,ac,aq,an,ar,⟨i,-,-,-⟩,-,-,-,⟨au,aI,-⟩⟩:=al.out.open
    have f11:=i.frozen 11
    have f12:=i.frozen 12
    clear v i
    gi_wp2
    gi_region
    gi_wp2
    exact⟨rfl,_,results_none rfl _ _ _,⟨_,rfl⟩,.inl ⟨s,G.out s _ _ K.out ⟨ab,Below.refl _ _,L5 (L5 (K0 _ _ _ _) (K0 _ _ _ _)) (K9 (L8 _)),.inr ⟨c,k.out.1,A.out,fun T xs h=>((h.set_ 11 _).set_ 12 _).drew⟩⟩⟩⟩
   |some r=>
    have az:r<m:=zyp v
    have ay:N7 (some r)=(r:Int):=rfl
    rw[ay]
    have aP:decide ((r:Int)<0)=false:=decide_eq_false og
    have A:=a v
    clear v az
    obtain⟨fn,tmps,assign,body,aQ,i⟩:=ah.out s #[.int .i64 (r:Int),.int .i64 (c:Int)] ab K.out ⟨r,c,k.out.1,A.out,rfl⟩
    have ag:=a i
    clear i
    gi_wp2
    refine ag.out.mono ?_
    rintro j ao (⟨rfl,F,aa,p⟩|⟨rfl,p⟩)
    ·have l:=a (d aa p)
     clear aa p
     gi_wp2
     go_roundw
     case rel=>exact⟨F,l.out.2⟩
     case measure=>
      have aJ:=yiw (J:=fun s=>C s ao) (μ:=fun s=>leftO (zko m n) (b s)) l.out.2
      have aK:=(yiz (yuf z.out.1 z.out.2) l.out.1).2
      have aL:=ai.out
      omega
    ·have l:=a p
     clear p
     gi_wp2
     exact⟨rfl,_,results_none rfl _ _ _,⟨_,rfl⟩,.inr l.out⟩
theorem yze (w:f) (g:Nat):
 Calls Tryz.prog 54 #[.pointer (some ⟨g,0,none⟩)] w fun a w'=>a= .returned (.func (.func 114) #[] #[.pointer (some ⟨w.heap.size,0,none⟩)])/\Below w.heap.size w w'/\Row w' w.heap.size 88 [.pointer (some ⟨g,0,none⟩)]:=by go_in;go_wp2_with fail;go_ret;obtain⟨h,d,b,c,e⟩:=J9 w #[.pointer (some ⟨g,0,none⟩)] 88;rw[d];exact⟨rfl,b,c⟩
def zvq (w:f) (b:Nat):Prop:=∃a:Obj,w.heap[b]? =some a/\a.isCells=true
theorem IsK.atCells {k:IntKind} {w:f} {S:Nat->Prop} {d:List Nat} (h:IsK k w S v d):IsK k w (fun b=>S b/\zvq w b) v d:=by obtain⟨A,c,hv,e,g,i⟩:=h;refine⟨A,c,hv,e,g,fun a=> ?_⟩;obtain⟨b,off,j,l,hc⟩:=i a;obtain⟨n,o,m⟩:=List.exists_cons_of_ne_nil a;exact⟨b,off,j,⟨l,zxl (hc 0 n (by rw[m];rfl))⟩,hc⟩
theorem IsQ.atCells {w:f} {S:Nat->Prop} {q:Rat} (h:IsQ w S v q):IsQ w (fun b=>S b/\zvq w b) v q:=by obtain⟨A,c,B,d,hv,a,e⟩:=h;exact⟨A,c,B,d,hv,a.atCells,e.atCells⟩
section
variable {w w' : f} {r : Option Nat}
theorem ztf (h:w.grownBy w' r) (hr:∀x,r=some x->∃a:Obj,w.heap[x]? =some a/\a.isCells=false) (g:zvq w b):w'.heap[b]? =w.heap[b]? :=by obtain⟨a,d,hc⟩:=g;refine h.block b (Array.getElem?_eq_some_iff.1 d).1 fun f=> ?_;obtain⟨i,e,c⟩:=hr b f.symm;rw[d] at e;cases e;rw[hc] at c;cases c
theorem Row.cellB {g:Nat} {t:TypeId} (h:Row w g t xs):zvq w g:=⟨_,h,rfl⟩
theorem Row.stays {g:Nat} {t:TypeId} (h:Row w g t xs) (b:w.grownBy w' r) (hr:∀x,r=some x->∃a:Obj,w.heap[x]? =some a/\a.isCells=false):Row w' g t xs:=(ztf b hr h.cellB).trans h
theorem zwu {S:Nat->Prop} (e:w.grownBy w' r) (hr:∀x,r=some x->∃a:Obj,w.heap[x]? =some a/\a.isCells=false) (d:∀b,S b->T b):L6 (fun b=>S b/\zvq w b) T w w':=fun b c=>⟨d b c.1,fun a=>l (ztf e hr c.2)⟩
theorem LineW.stays {S:Nat->Prop} {d:Nat->Int} (h:LineW w S b c m d) (e:w.grownBy w' r) (hr:∀x,r=some x->∃f:Obj,w.heap[x]? =some f/\f.isCells=false) (q:∀b,S b->T b):LineW w' T b c m d:=by have a:w'.heap[b]? =w.heap[b]? :=ztf e hr (by obtain⟨v,i⟩:=h.blk;exact⟨_,i,rfl⟩);refine⟨by rw[a];exact h.blk,h.cap,fun t s=> ?_⟩;obtain⟨P,k,g,u,j,n,o,p⟩:=h.el t s;exact⟨P,k,g,u,(l a).trans j,(l a).trans n,(l a).trans o,IsQ.stb.to p.atCells (zwu e hr q)⟩
theorem SchG.stays {S:Nat->Prop} {lo0 lo g n:Nat} {L:Lay} {F:Nat->Nat->Int} {z:Int} {d:Nat} {bas oth:List Nat} {st e steps:Int} (h:SchG w S lo0 lo g L m n sc top F z d bas oth st e steps) (c:w.grownBy w' r) (hr:∀x,r=some x->∃s:Obj,w.heap[x]? =some s/\s.isCells=false):
 SchG w' S lo0 lo g L m n sc top F z d bas oth st e steps:=by
 have j:∀b,SN S lo w b->SN S lo w' b:=zrx c.size
 refine {h with
  tab:=⟨fun q E a=>(h.tab.line q E a).stays c hr j,h.tab.inj,h.tab.sep,h.tab.sS,Nat.le_trans h.tab.hlo c.size⟩
  row:= ?_
  hd:=fun G C=> ?_
  basW:=fun a=>⟨(h.basW a).1,(h.basW a).2.keep (ztf c hr (by obtain⟨A,o⟩:=(h.basW a).2.blk;exact⟨_,o,rfl⟩))⟩
  othW:=fun a=>⟨(h.othW a).1,(h.othW a).2.keep (ztf c hr (by obtain⟨A,o⟩:=(h.othW a).2.blk;exact⟨_,o,rfl⟩))⟩
  scl:=fun v hv=> ?_}
 ·obtain⟨P,k,t,q,D,u,T,y,a,i,f,p⟩:=h.row;exact⟨P,k,t,q,D,u,T,y,a.stays c hr,IsQ.stb.to i.atCells (zwu c hr j),IsK.stb.to (IsK.atCells f) (zwu c hr j),IsK.stb.to (IsK.atCells p) (zwu c hr j)⟩
 ·obtain⟨a,i,f⟩:=h.hd G C;exact⟨a,i,(l (ztf c hr (zxl f))).trans f⟩
 ·obtain⟨a,i,P,k,f,p⟩:=h.scl v hv;exact⟨a,i,P,k,(l (ztf c hr (zxl f))).trans f,IsK.stb.to (IsK.atCells p) (zwu c hr fun b B=>B)⟩
end
def IsMk (w:f) (S:Nat->Prop) (v:i) (q:(Nat×Int)×(Nat×Nat)):Prop:=∃bs a mk,v= .agg #[.int .i64 (q.2.2:Int),.int .i64 (q.2.1:Int),.func (.func 150) #[] #[.pointer (some ⟨bs,0,none⟩),.pointer (some ⟨mk,0,none⟩)],.func (.func 153) #[] #[.pointer (some ⟨bs,0,none⟩),.pointer (some ⟨a,0,none⟩),.pointer (some ⟨mk,0,none⟩)],.func (.func 155) #[] #[.pointer (some ⟨bs,0,none⟩),.pointer (some ⟨mk,0,none⟩)]]/\(S bs/\S a/\S mk)/\
 w.cell? ⟨bs,0,none⟩=some (.pointer (some ⟨q.1.1,0,none⟩))/\w.cell? ⟨a,0,none⟩=some (.int .i64 q.1.2)/\w.cell? ⟨mk,0,none⟩=some (.int .i64 (q.2.2:Int))/\w.cell? ⟨mk,1,none⟩=some (.int .i64 (q.2.1:Int))
theorem IsMk.stb:Stb IsMk:=by rintro w w' S T v q ⟨bs,e,mk,hv,⟨c,d,b⟩,f,g,h,i⟩ a;exact⟨bs,e,mk,hv,⟨(a _ c).1,(a _ d).1,(a _ b).1⟩,((a _ c).2 _).trans f,((a _ d).2 _).trans g,((a _ b).2 _).trans h,((a _ b).2 _).trans i⟩
structure Ready (p:ProgQ) (k m n g:Nat) (row:Int) (w:f) (st:Int) (s:Sol):Prop where
 cell:w.cell? ⟨g,11,none⟩=some (.int .i64 st)
 maker:∀W:f,Below w.heap.size w W->Calls Tryz.prog 91 #[.pointer (some ⟨g,0,none⟩),.int .i64 row] W fun e w'=>(∃v,e= .returned v/\IsMk w' (I7 W.heap.size w') v ((g,row),(m,n)))/\Below W.heap.size W w'
 make:∀W:f,Below w.heap.size w W->∀v,IsMk W (C5 W) v ((g,row),(m,n))->Calls Tryz.prog 92 #[v,.int .i64 st] W (zpo W s)
 ans:zsd p k s
section
variable {w : f} {S : Nat → Prop} {lo0 lo g : Nat} {L : Lay} {t : TB} {st e steps : Int} {p : ProgQ} {N M k : Nat}
theorem ycx {n:Nat} {row:Int} (h:T3 w S lo0 lo g L m n sc top t st e steps):∀a:f,Below w.heap.size w a->Calls Tryz.prog 91 #[.pointer (some ⟨g,0,none⟩),.int .i64 row] a fun b w'=>(∃v,b= .returned v/\IsMk w' (I7 a.heap.size w') v ((g,row),(m,n)))/\Below a.heap.size a w':=fun a l=>by
 refine(yxg (row:=row) (h.next l)).mono ?_
 rintro b w' ⟨⟨bs,j,mk,rfl,⟨q,r,s⟩,c,d,i,k⟩,p⟩
 exact⟨⟨_,rfl,bs,j,mk,rfl,⟨⟨q,o _ _ c⟩,⟨r,o _ _ d⟩,⟨s,o _ _ i⟩⟩,c,d,i,k⟩,p⟩
theorem zz1370 (b:FineP p N M) (n:(A8 N).length<=100000) (q:(A8 (M3 (M*N) (p.B.length+1)*N)).length<=k) (l:1<=k) (hF:(A8 (M3 (M*N) (p.B.length+1))).length<=100000) (m:Bru w) (h:T3 w S lo0 lo g L p.B.length p.C.length (Z0 p) (zkq p) t 1 e steps) (d:OkT (M*N) p.B.length p.C.length (Z0 p) (zkq p) (U3 p.B.length p.C.length (aF p.A) (lF p.B) (lF p.C)) t) (j:∀f,f<p.B.length->0<=t.A f p.C.length) (o:zlq p.B.length p.C.length t=none) (row:Int):
 ∃s,Ready p k p.B.length p.C.length g row w 1 s:=by obtain⟨_,_,_,_,_,_,_,_,_,_,_,_,i,_,_⟩:=h.open;have B:=b.good.nB;have C:=b.good.nC;refine⟨_,i,ycx h,fun y c v hv=> ?_,yow b q l d j o⟩;obtain⟨bs,A,mk,rfl,_,r,D,u,x⟩:=hv;exact ywj fun z a=>ywn ((h.next c).next a) d.inv (Bru.next (Bru.next m c) a) og og hF (b.scok n) (A9 a r) (A9 a u) (A9 a x)
theorem zz1369 (b:FineP p N M) (m:(A8 N).length<=100000) (o:(A8 (M3 (M*N) (p.B.length+1)*N)).length<=k) (j:1<=k) (hF:(A8 (M3 (M*N) (p.B.length+1))).length<=100000) (l:Bru w) (h:T3 w S lo0 lo g L p.B.length p.C.length (Z0 p) (zkq p) t 2 e steps) (f:OkT (M*N) p.B.length p.C.length (Z0 p) (zkq p) (U3 p.B.length p.C.length (aF p.A) (lF p.B) (lF p.C)) t) {r:Nat} (d:zom p.B.length p.C.length t=some r) (n:zpc p.C.length t r=none):
 ∃s,Ready p k p.B.length p.C.length g (r:Int) w 2 s:=by obtain⟨_,_,_,_,_,_,_,_,_,_,_,_,i,_,_⟩:=h.open;have C:=b.good.nB;have D:=b.good.nC;refine⟨_,i,ycx h,fun z c v hv=> ?_,yov b o j f d n⟩;obtain⟨bs,B,mk,rfl,_,q,u,x,y⟩:=hv;exact ywk fun A a=>ywm (zmq d).1 ((h.next c).next a) f.inv (Bru.next (Bru.next l c) a) og og hF (b.scok m) (A9 a q) (A9 a u) (A9 a x) (A9 a y)
theorem zz1371 (b:FineP p N M) (o:(A8 N).length<=100000) (q:(A8 (M3 (M*N) (p.B.length+1)*N)).length<=k) (m:1<=k) (hF:(A8 (M3 (M*N) (p.B.length+1))).length<=100000) (n:Bru w) (h:T3 w S lo0 lo g L p.B.length p.C.length (Z0 p) (zkq p) t 3 (c:Int) steps) (f:OkT (M*N) p.B.length p.C.length (Z0 p) (zkq p) (U3 p.B.length p.C.length (aF p.A) (lF p.B) (lF p.C)) t) (l:∀i,i<p.B.length->0<=t.A i p.C.length) (e:zlq p.B.length p.C.length t=some c) (r:znk p.B.length p.C.length t c=none) (row:Int):
 ∃s,Ready p k p.B.length p.C.length g row w 3 s:=by obtain⟨_,_,_,_,_,_,_,_,_,_,_,_,j,_,_⟩:=h.open;have B:=b.good.nB;have C:=b.good.nC;refine⟨_,j,ycx h,fun y d v hv=> ?_,yoy b q m f l e r⟩;obtain⟨bs,A,mk,rfl,_,u,D,x,E⟩:=hv;exact ywl fun z a=>ywo (zmq e).1 ((h.next d).next a) f.inv (Bru.next (Bru.next n d) a) og og hF (b.scok o) (A9 a u) (A9 a x)
end
theorem yfd {p:ProgQ} {k:Nat} {s:Sol} (h:zsd p k s) (b:k<=1024):∃v X D R,s=⟨s.st,E0 v,C4 X,C4 D,C4 R⟩/\zkz v=true/\(∀q∈X,zkz q=true)/\(∀q∈D,zkz q=true)/\∀q∈R,zkz q=true:=by
 have f:zkz 0=true:=zuc (zsc (k:=1) og) og;have nil:∀q∈([]:List Rat),zkz q=true:=fun q a=>(by cases a);rcases h with⟨X,d,v,rfl,_,c,e,i⟩|⟨d,rfl,_,c⟩|⟨X,g,rfl,_,c,e⟩
 ·exact⟨v,X,d,[],rfl,zuc c b,fun q a=>zuc (e q a) b,fun q a=>zuc (i q a) b,nil⟩
 ·exact⟨0,[],d,[],rfl,f,nil,fun q a=>zuc (c q a) b,nil⟩
 ·exact⟨0,X,[],g,rfl,f,fun q a=>zuc (c q a) b,nil,fun q a=>zuc (e q a) b⟩
end Go.Proofs.YtlhhbccgfkhflaaGreatDoor
