/-
 The contract of package long's digit.
-/
import Derived.Test.YtlhhbccgfkhflaaGreatDoorPvv03
namespace Go.Proofs.YtlhhbccgfkhflaaGreatDoor
open Go.RowKit
set_option linter.unusedVariables false
set_option maxRecDepth 100000
set_option maxHeartbeats 8000000
open _root_.Go.Lib renaming hid → j
open _root_.Nat renaming le_refl → o, le_trans → I, lt_or_ge → p, zero_le → C
open _root_.List renaming getD_eq_getElem?_getD → D, getElem?_eq_getElem → E, length_append → H
open _root_.And renaming intro → s
open _root_.Go renaming World → f, Calls → u
open _root_.Go.RowKit renaming Below → a, Hid → e
variable {M P S b l : List Nat} {c g hi G i k lo' m n : Nat} {t : TypeId} {v r F : Value}
theorem Row.mid {w:f} (h:Row w g t (C8 .u32 (P++M++S))) (a:Lo M) (hi:i<M.length):
 ∃x:Int,e (x=(M.getD i 0:Nat))/\0<=x/\x<=999999999/\w.cell? ⟨g,P.length+i,none⟩=some (.int .u32 x):=by refine⟨_,rfl,by omega,by have:=zpc a i;omega,?_⟩;rw[h.cell,zpl (by simp only[H];omega),yul hi]
theorem Row.setMid {w:f} (h:Row w g t (C8 .u32 (P++M++S))) (hi:i<M.length) (n:Nat) (x:Int) (a:x=(n:Int)):
 Row (w.setCell ⟨g,P.length+i,none⟩ (.int .u32 x)) g t (C8 .u32 (P++M.set i n++S)):=by rw[<-zz1407 hi];exact h.setNum _ n x a
theorem ysh (s:Nat) (P M S:List Nat) (B:Option Addr) (c d m:Nat) (v:List Nat) (w:f) (lo hi:Nat) (hv:Lo v) (bh:Lo M) (bD:v.length=m+2) (bi:M.length=m+3) (bJ:m<=8589934592)
 (bG:P.length<=8589934592) (hc:m+3<=c) (bU:1<=v.getD (m+1) 0) (ah:val M<val v*1000000000) (hr:Row w s 140 (C8 .u32 (P++M++S))) (ae:SV w lo hi B (C8 .u32 v)) (an:s<lo\/hi<=s):
 u Tryz.prog 197 #[.slice (some ⟨s,P.length,none⟩) (m+3) c,.slice B (m+2) d] w fun bg w'=>(∃b,bg= .returned (.int .u32 ((val M/val v:Nat):Int))/\Row w' s 140 (C8 .u32 (P++b++S))/\b.length=m+3/\Lo b/\val b=val M%val v)/\Only s w w':=by
 obtain⟨R,Z,J,ab,be⟩:=hd5 hv bh bD bi ah;obtain⟨bb,ob,rfl,_,_,a1⟩:=ae (M5 (j:=m+1) og);obtain⟨A,a5,bV,bX,bY⟩:=W4 (j:=m+1) R.out a1 og;obtain⟨Y,bC,ay,az,bZ⟩:=W4 (j:=m) R.out a1 og;obtain⟨u0,av,bM,bN,bO⟩:=hr.mid Z.out (i:=m+2) og;obtain⟨u1,bx,bP,bQ,bR⟩:=hr.mid Z.out (i:=m+1) og;obtain⟨u2,bB,a3,bA,bT⟩:=hr.mid Z.out (i:=m) og;have a4:1<=A:=oh a5;have aq:(val M:Int)=((u0*1000000000+u1)*1000000000+u2)*pw m+val (M.take m):=(by rw[zz1461 ab.out,av.out,bx.out,bB.out];simp only[Int.natCast_add,Int.natCast_mul];rfl);have ar:(val v:Int)=(A*1000000000+Y)*pw m+val (v.take m):=(by rw[zz1462 J.out,a5.out,bC.out];simp only[Int.natCast_add,Int.natCast_mul];rfl);have ao:(0:Int)<pw m:=(by have:=znw m;omega);have aZ:(val (M.take m):Int)<pw m:=(by have h:=zmf (zmy Z.out m);rw[List.length_take,Nat.min_eq_left (oh ab)] at h;omega);have a0:(val (v.take m):Int)<pw m:=(by have h:=zmf (zmy R.out m);rw[List.length_take,Nat.min_eq_left (oh J)] at h;omega);have a2:(val M:Int)<val v*1000000000:=oh be
 have a8:e (∀g a:Int,0<=g->g*A+a=u0*1000000000+u1->g*Y>a*1000000000+u2->(val M:Int)<g*val v):=
  fun g a aD G F=>ytm ao og aZ aD G og aq ar
 have a6:e (∀g:Int,1000000000<=g->(val M:Int)<g*val v):=fun g h=>yti og a2 h;have bf:e (∀g a:Int,g*A+a=u0*1000000000+u1->1000000000<=a->g<=999999999):=fun g a G F=>ytl ao a0 og az a3 a4 G F a2 aq ar
 have a9:e (∀g a:Int,0<=g->g<=999999999->g*A+a=u0*1000000000+u1->(1000000000<=a\/g*Y<=a*1000000000+u2)->g*val v<=val M+val v):=
  fun g a aD G F ad=>ytj ao a0 og og ay az a3 a4 aD G F ad aq ar
 have bd:e ((val M:Int)<((u0*1000000000+u1)/A+1)*val v):=
  ytk ao og aZ ay bA (Int.ediv_nonneg og og) (Int.lt_ediv_add_one_mul_self _ og) aq ar
 have a7:e ((u0*1000000000+u1)/A*A+(u0*1000000000+u1)%A=u0*1000000000+u1/\0<=(u0*1000000000+u1)/A/\(u0*1000000000+u1)/A<=999999999999999999/\0<=(u0*1000000000+u1)%A/\(u0*1000000000+u1)%A<A):=
  ⟨Int.ediv_mul_add_emod _ _,Int.ediv_nonneg og og,Int.le_trans (Int.ediv_le_self _ og) og,Int.emod_nonneg _ og,Int.emod_lt_of_pos _ og⟩
 have aa:e ((val M:Int)=val (M.take (m+2))+pw (m+2)*u0):=(by rw[zzy (n:=m+2) (oh ab),av.out];simp[e]);have ak:e ((val v:Int)<=pw (m+2)):=(by have h:=zmf R.out;rw[J.out] at h;unfold e;omega);have aX:e ((0:Int)<pw (m+2)):=(by have:=znw (m+2);unfold e;omega);go_in;go_wp2;go_quiet (fail);go_wp2;go_quiet (fail);go_wp2;go_loopw [7,8] (fun aW bE wr=>∃g a:Int,aW= .int .u64 g/\bE= .int .u64 a/\0<=g/\g<=999999999999999999/\0<=a/\a<=1999999999/\Dr w wr/\e (g*A+a=u0*1000000000+u1/\(val M:Int)<(g+1)*val v)) (fun aW _ _=>(intOf aW).toNat);case atStart=>have:=a7.out;exact⟨_,_,rfl,rfl,this.2.1,this.2.2.1,this.2.2.2.1,by omega,((Dr.refl w).drewN _).drewN _,this.1,bd.out⟩
 case round=>
  obtain⟨g,a,rfl,rfl,E,bH,bK,bL,⟨nn,rfl⟩,hrel⟩:=hrel
  have bj:(a<1000000000/\1000000000<=g)\/(a<1000000000/\g<=999999999/\a*1000000000+u2<g*Y)\/(1000000000<=a/\g<=999999999)\/(a<1000000000/\g<=999999999/\g*Y<=a*1000000000+u2):=by
   rcases Int.lt_or_le a 1000000000 with G|G
   ·rcases Int.lt_or_le g 1000000000 with F|F
    ·rcases Int.lt_or_le (a*1000000000+u2) (g*Y) with ad|ad
     ·exact .inr (.inl ⟨G,by omega,ad⟩)
     ·exact .inr (.inr (.inr ⟨G,by omega,ad⟩))
    ·exact .inl ⟨G,F⟩
   ·exact .inr (.inr (.inl ⟨G,bf.out g a hrel.out.1 G⟩))
  rcases bj with⟨aA,ac⟩|⟨aA,ac,aB⟩|hex
  ·go_wp2;go_quiet (fail);go_wp2;go_roundw;(case rel=>exact⟨g-1,a+A,by go_num,by go_num,by omega,by omega,by omega,by omega,⟨_,rfl⟩,by have:=hrel.out.1;rw[Int.sub_mul];omega,by have:=a6.out g ac;rw[Int.sub_add_cancel];exact this⟩);case measure=>simp[intOf];omega
  ·have af:=zpq E ac ay az;have bq:=af.1;have br:=af.2
   have bI:1<=g:=by
    rcases Int.lt_or_le g 1 with h|h
    ·have:g=0:=og;subst this;rw[Int.zero_mul] at aB;omega
    ·exact h
   have aY:decide ((1000000000:Int)<=g)=false:=(by simp;omega);go_wp2;go_quiet (fail);go_wp2;go_roundw;(case rel=>exact⟨g-1,a+A,by go_num,by go_num,by omega,by omega,by omega,by omega,⟨_,rfl⟩,by have:=hrel.out.1;rw[Int.sub_mul];omega,by have:=a8.out g a E hrel.out.1 aB;rw[Int.sub_add_cancel];exact this⟩);case measure=>simp[intOf];omega
  ·have au:g<=999999999:=og;have al:e (g*val v<=val M+val v/\(val M:Int)<(g+1)*val v):=⟨a9.out g a E au hrel.out.1 og,hrel.out.2⟩;have af:=zpq E au ay az;have bq:=af.1;have br:=af.2;rcases hex with⟨aA,ac⟩|⟨aA,ac,aB⟩
   ·have aY:decide (a<(1000000000:Int))=false:=(by simp;omega);go_wp2;go_quiet (fail);go_wp2;have aH:Only s w (w.drewN (nn+nq)):=(Only.refl s w).drewN _
    go_loopw [9,87] (fun aC i wr=>∃(k:Nat) (b:List Nat) (n:Int),k<=m+2/\i= .int .i64 (k:Int)/\aC= .int .u64 n/\0<=n/\n<=999999999/\Row wr s 140 (C8 .u32 (P++b++S))/\Only s w wr/\
     e (b.length=m+3/\Lo b/\(∀l,k<=l->b.getD l 0=M.getD l 0)/\(val (b.take k):Int)=val (M.take k)-g*val (v.take k)+n*pw k)) (fun _ i _=>m+2-(intOf i).toNat)
    case atStart=>exact⟨0,M,0,C _,rfl,rfl,by omega,by omega,hr,aH,ab.out,Z.out,fun _ _=>rfl,by simp[val]⟩
    case round=>
     obtain⟨i,b,n,hi,rfl,rfl,bm,bn,t,K,hrel⟩:=hrel;have aE:=ae.only K an;rcases p i (m+2) with ah|aI
     ·obtain⟨y,L,ai,aj,aQ⟩:=W4 (j:=i) R.out aE.at_ (oh J);obtain⟨x,Q,aL,aM,aN⟩:=t.mid hrel.out.2.1 (i:=i) (by have:=hrel.out.1;omega);have aP:=t.frozen (P.length+i);have ag:=zpq E au ai aj;have bt:=ag.1;have bu:=ag.2;rcases Int.lt_or_le (x-(g*y+n)%1000000000) 0 with aJ|aK
      ·go_wp2;go_roundw
       case rel=>
        exact⟨i+1,b.set i (x-(g*y+n)%1000000000+1000000000).toNat,(g*y+n)/1000000000+1,by omega,by go_num,rfl,by omega,by omega,t.setMid (by have:=hrel.out.1;omega) _ _ og,K.setCell _ _,
         by rw[List.length_set];exact hrel.out.1,W5 hrel.out.2.1 og,fun l W=>by rw[getD_set_ne og];exact hrel.out.2.2.1 l og,
         zxw (x:=x) (y:=y) (by have:=hrel.out.1;omega) (by rw[<-hrel.out.2.2.1 i (o _)];exact Q.out) L.out og og hrel.out.2.2.2⟩
       case measure=>simp[intOf];omega
      ·go_wp2;go_roundw
       case rel=>
        exact⟨i+1,b.set i (x-(g*y+n)%1000000000).toNat,(g*y+n)/1000000000,by omega,by go_num,rfl,by omega,by omega,t.setMid (by have:=hrel.out.1;omega) _ _ og,K.setCell _ _,
         by rw[List.length_set];exact hrel.out.1,W5 hrel.out.2.1 og,fun l W=>by rw[getD_set_ne og];exact hrel.out.2.2.1 l og,
         zxw (x:=x) (y:=y) (by have:=hrel.out.1;omega) (by rw[<-hrel.out.2.2.1 i (o _)];exact Q.out) L.out og og hrel.out.2.2.2⟩
       case measure=>simp[intOf];omega
     ·obtain rfl:i=m+2:=og;obtain⟨x,Q,aL,aM,aN⟩:=t.mid hrel.out.2.1 (i:=m+2) (by have:=hrel.out.1;omega);have aP:=t.frozen (P.length+(m+2));have V:e (x=u0):=(by unfold e;rw[Q.out,hrel.out.2.2.1 _ (o _),<-av.out]);have N:=j hrel.out.2.2.2;have H:=j hrel.out.1;have T:=j hrel.out.2.1;have U:e ((val (b.take (m+2)):Int)<pw (m+2)):=(by have h:=zmf (zmy T.out (m+2));rw[List.length_take,Nat.min_eq_left (oh H)] at h;unfold e;omega);rw[zki (l:=v) (Nat.le_of_eq J.out)] at N;rcases Int.lt_or_le x n with aO|aO
      ·have bp:1<=g:=ygo aa.out N.out U.out (oh V) aX.out E;go_wp2
       go_loopw [14,132] (fun aV i wr=>∃(k:Nat) (r:List Nat) (q:Int),k<=m+2/\i= .int .i64 (k:Int)/\aV= .int .u32 q/\0<=q/\q<=1/\Row wr s 140 (C8 .u32 (P++r++S))/\Only s w wr/\
        e (r.length=m+3/\Lo r/\(∀l,k<=l->r.getD l 0=b.getD l 0)/\(val (r.take k):Int)+q*pw k=val (b.take k)+val (v.take k))) (fun _ i _=>m+2-(intOf i).toNat)
       case atStart=>exact⟨0,b,0,C _,rfl,rfl,by omega,by omega,t,K,H.out,T.out,fun _ _=>rfl,by simp[val]⟩
       case round=>
        obtain⟨i,r,q,hi,rfl,rfl,bv,bw,D,O,hrel⟩:=hrel;have aG:=ae.only O an;rcases p i (m+2) with ah|aI
        ·obtain⟨y,L,ai,aj,aQ⟩:=W4 (j:=i) R.out aG.at_ (oh J);obtain⟨z,X,aR,aS,aT⟩:=D.mid hrel.out.2.1 (i:=i) (by have:=hrel.out.1;omega);have aU:=D.frozen (P.length+i);rcases Int.lt_or_le (z+y+q) 1000000000 with aJ|aK
         ·go_wp2;go_roundw
          case rel=>
           exact⟨i+1,r.set i (z+y+q).toNat,0,by omega,by go_num,rfl,by omega,by omega,D.setMid (by have:=hrel.out.1;omega) _ _ og,O.setCell _ _,
            by rw[List.length_set];exact hrel.out.1,W5 hrel.out.2.1 og,fun l W=>by rw[getD_set_ne og];exact hrel.out.2.2.1 l og,
            zxg (x:=z) (y:=y) (c:=q) (by have:=hrel.out.1;omega) (by rw[<-hrel.out.2.2.1 i (o _)];exact X.out) L.out og og hrel.out.2.2.2⟩
          case measure=>simp[intOf];omega
         ·go_wp2;go_roundw
          case rel=>
           exact⟨i+1,r.set i (z+y+q-1000000000).toNat,1,by omega,by go_num,rfl,by omega,by omega,D.setMid (by have:=hrel.out.1;omega) _ _ og,O.setCell _ _,
            by rw[List.length_set];exact hrel.out.1,W5 hrel.out.2.1 og,fun l W=>by rw[getD_set_ne og];exact hrel.out.2.2.1 l og,
            zxg (x:=z) (y:=y) (c:=q) (by have:=hrel.out.1;omega) (by rw[<-hrel.out.2.2.1 i (o _)];exact X.out) L.out og og hrel.out.2.2.2⟩
          case measure=>simp[intOf];omega
        ·obtain rfl:i=m+2:=og;obtain⟨z,X,aR,aS,aT⟩:=D.mid hrel.out.2.1 (i:=m+2) (by have:=hrel.out.1;omega);have aU:=D.frozen (P.length+(m+2));have F:=hrel.out.2.2.2;rw[zki (l:=v) (Nat.le_of_eq J.out)] at F
         have hd:=ygm aa.out N.out U.out (oh V) ak.out E al.out.1 F og
          (by have h:=zmf (zmy hrel.out.2.1 (m+2));rw[List.length_take,Nat.min_eq_left (by have:=hrel.out.1;omega)] at h;omega)
         have I:=j hd;go_wp2;go_ret;refine⟨⟨r.set (m+2) 0,?_,D.setMid (by have:=hrel.out.1;omega) _ _ og,by rw[List.length_set];exact hrel.out.1,W5 hrel.out.2.1 og,?_⟩,O.setCell _ _⟩
         ·rw[I.out.2.1,Int.toNat_of_nonneg og];rfl
         ·rw[zzx hrel.out.1];have:=I.out.2.2;omega
      ·have hd:=ygn aa.out N.out og U.out (oh V) ak.out E al.out.2;have I:=j hd;go_wp2;go_ret;refine⟨⟨b.set (m+2) 0,?_,t.setMid (oh H) _ _ og,by rw[List.length_set];exact H.out,W5 T.out og,?_⟩,K.setCell _ _⟩
       ·rw[I.out.1,Int.toNat_of_nonneg E];rfl
       ·rw[zzx H.out];have:=I.out.2;omega
   ·have aY:decide ((1000000000:Int)<=g)=false:=(by simp;omega);have bF:decide (a*1000000000+u2<g*Y)=false:=(by simp;omega);go_wp2;go_quiet (fail);go_wp2;have aH:Only s w (w.drewN (nn+nq)):=(Only.refl s w).drewN _
    go_loopw [9,87] (fun aC i wr=>∃(k:Nat) (b:List Nat) (n:Int),k<=m+2/\i= .int .i64 (k:Int)/\aC= .int .u64 n/\0<=n/\n<=999999999/\Row wr s 140 (C8 .u32 (P++b++S))/\Only s w wr/\
     e (b.length=m+3/\Lo b/\(∀l,k<=l->b.getD l 0=M.getD l 0)/\(val (b.take k):Int)=val (M.take k)-g*val (v.take k)+n*pw k)) (fun _ i _=>m+2-(intOf i).toNat)
    case atStart=>exact⟨0,M,0,C _,rfl,rfl,by omega,by omega,hr,aH,ab.out,Z.out,fun _ _=>rfl,by simp[val]⟩
    case round=>
     obtain⟨i,b,n,hi,rfl,rfl,bm,bn,t,K,hrel⟩:=hrel;have aE:=ae.only K an;rcases p i (m+2) with ah|aI
     ·obtain⟨y,L,ai,aj,aQ⟩:=W4 (j:=i) R.out aE.at_ (oh J);obtain⟨x,Q,aL,aM,aN⟩:=t.mid hrel.out.2.1 (i:=i) (by have:=hrel.out.1;omega);have aP:=t.frozen (P.length+i);have ag:=zpq E au ai aj;have bt:=ag.1;have bu:=ag.2;rcases Int.lt_or_le (x-(g*y+n)%1000000000) 0 with aJ|aK
      ·go_wp2;go_roundw
       case rel=>
        exact⟨i+1,b.set i (x-(g*y+n)%1000000000+1000000000).toNat,(g*y+n)/1000000000+1,by omega,by go_num,rfl,by omega,by omega,t.setMid (by have:=hrel.out.1;omega) _ _ og,K.setCell _ _,
         by rw[List.length_set];exact hrel.out.1,W5 hrel.out.2.1 og,fun l W=>by rw[getD_set_ne og];exact hrel.out.2.2.1 l og,
         zxw (x:=x) (y:=y) (by have:=hrel.out.1;omega) (by rw[<-hrel.out.2.2.1 i (o _)];exact Q.out) L.out og og hrel.out.2.2.2⟩
       case measure=>simp[intOf];omega
      ·go_wp2;go_roundw
       case rel=>
        exact⟨i+1,b.set i (x-(g*y+n)%1000000000).toNat,(g*y+n)/1000000000,by omega,by go_num,rfl,by omega,by omega,t.setMid (by have:=hrel.out.1;omega) _ _ og,K.setCell _ _,
         by rw[List.length_set];exact hrel.out.1,W5 hrel.out.2.1 og,fun l W=>by rw[getD_set_ne og];exact hrel.out.2.2.1 l og,
         zxw (x:=x) (y:=y) (by have:=hrel.out.1;omega) (by rw[<-hrel.out.2.2.1 i (o _)];exact Q.out) L.out og og hrel.out.2.2.2⟩
       case measure=>simp[intOf];omega
     ·obtain rfl:i=m+2:=og;obtain⟨x,Q,aL,aM,aN⟩:=t.mid hrel.out.2.1 (i:=m+2) (by have:=hrel.out.1;omega);have aP:=t.frozen (P.length+(m+2));have V:e (x=u0):=(by unfold e;rw[Q.out,hrel.out.2.2.1 _ (o _),<-av.out]);have N:=j hrel.out.2.2.2;have H:=j hrel.out.1;have T:=j hrel.out.2.1;have U:e ((val (b.take (m+2)):Int)<pw (m+2)):=(by have h:=zmf (zmy T.out (m+2));rw[List.length_take,Nat.min_eq_left (oh H)] at h;unfold e;omega);rw[zki (l:=v) (Nat.le_of_eq J.out)] at N;rcases Int.lt_or_le x n with aO|aO
      ·have bp:1<=g:=ygo aa.out N.out U.out (oh V) aX.out E;go_wp2
       go_loopw [14,132] (fun aV i wr=>∃(k:Nat) (r:List Nat) (q:Int),k<=m+2/\i= .int .i64 (k:Int)/\aV= .int .u32 q/\0<=q/\q<=1/\Row wr s 140 (C8 .u32 (P++r++S))/\Only s w wr/\
        e (r.length=m+3/\Lo r/\(∀l,k<=l->r.getD l 0=b.getD l 0)/\(val (r.take k):Int)+q*pw k=val (b.take k)+val (v.take k))) (fun _ i _=>m+2-(intOf i).toNat)
       case atStart=>exact⟨0,b,0,C _,rfl,rfl,by omega,by omega,t,K,H.out,T.out,fun _ _=>rfl,by simp[val]⟩
       case round=>
        obtain⟨i,r,q,hi,rfl,rfl,bv,bw,D,O,hrel⟩:=hrel;have aG:=ae.only O an;rcases p i (m+2) with ah|aI
        ·obtain⟨y,L,ai,aj,aQ⟩:=W4 (j:=i) R.out aG.at_ (oh J);obtain⟨z,X,aR,aS,aT⟩:=D.mid hrel.out.2.1 (i:=i) (by have:=hrel.out.1;omega);have aU:=D.frozen (P.length+i);rcases Int.lt_or_le (z+y+q) 1000000000 with aJ|aK
         ·go_wp2;go_roundw
          case rel=>
           exact⟨i+1,r.set i (z+y+q).toNat,0,by omega,by go_num,rfl,by omega,by omega,D.setMid (by have:=hrel.out.1;omega) _ _ og,O.setCell _ _,
            by rw[List.length_set];exact hrel.out.1,W5 hrel.out.2.1 og,fun l W=>by rw[getD_set_ne og];exact hrel.out.2.2.1 l og,
            zxg (x:=z) (y:=y) (c:=q) (by have:=hrel.out.1;omega) (by rw[<-hrel.out.2.2.1 i (o _)];exact X.out) L.out og og hrel.out.2.2.2⟩
          case measure=>simp[intOf];omega
         ·go_wp2;go_roundw
          case rel=>
           exact⟨i+1,r.set i (z+y+q-1000000000).toNat,1,by omega,by go_num,rfl,by omega,by omega,D.setMid (by have:=hrel.out.1;omega) _ _ og,O.setCell _ _,
            by rw[List.length_set];exact hrel.out.1,W5 hrel.out.2.1 og,fun l W=>by rw[getD_set_ne og];exact hrel.out.2.2.1 l og,
            zxg (x:=z) (y:=y) (c:=q) (by have:=hrel.out.1;omega) (by rw[<-hrel.out.2.2.1 i (o _)];exact X.out) L.out og og hrel.out.2.2.2⟩
          case measure=>simp[intOf];omega
        ·obtain rfl:i=m+2:=og;obtain⟨z,X,aR,aS,aT⟩:=D.mid hrel.out.2.1 (i:=m+2) (by have:=hrel.out.1;omega);have aU:=D.frozen (P.length+(m+2));have F:=hrel.out.2.2.2;rw[zki (l:=v) (Nat.le_of_eq J.out)] at F
         have hd:=ygm aa.out N.out U.out (oh V) ak.out E al.out.1 F og
          (by have h:=zmf (zmy hrel.out.2.1 (m+2));rw[List.length_take,Nat.min_eq_left (by have:=hrel.out.1;omega)] at h;omega)
         have I:=j hd;go_wp2;go_ret;refine⟨⟨r.set (m+2) 0,?_,D.setMid (by have:=hrel.out.1;omega) _ _ og,by rw[List.length_set];exact hrel.out.1,W5 hrel.out.2.1 og,?_⟩,O.setCell _ _⟩
         ·rw[I.out.2.1,Int.toNat_of_nonneg og];rfl
         ·rw[zzx hrel.out.1];have:=I.out.2.2;omega
      ·have hd:=ygn aa.out N.out og U.out (oh V) ak.out E al.out.2;have I:=j hd;go_wp2;go_ret;refine⟨⟨b.set (m+2) 0,?_,t.setMid (oh H) _ _ og,by rw[List.length_set];exact H.out,W5 T.out og,?_⟩,K.setCell _ _⟩
       ·rw[I.out.1,Int.toNat_of_nonneg E];rfl
       ·rw[zzx H.out];have:=I.out.2;omega
theorem yse (a off g e:Nat) (P M S:List Nat) (B:Option Addr) (c d m:Nat) (v:List Nat) (w:f) (lo hi:Nat) (s:P.length=off) (o:g=m+3) (n:e=m+2) (hv:Lo v) (k:Lo M) (x:v.length=m+2) (l:M.length=m+3) (r:m<=8589934592)
 (p:P.length<=8589934592) (hc:m+3<=c) (t:1<=v.getD (m+1) 0) (q:val M<val v*1000000000) (hr:Row w a 140 (C8 .u32 (P++M++S))) (i:SV w lo hi B (C8 .u32 v)) (j:a<lo\/hi<=a):
 u Tryz.prog 197 #[.slice (some ⟨a,off,none⟩) g c,.slice B e d] w fun h w'=>(∃b,h= .returned (.int .u32 ((val M/val v:Nat):Int))/\Row w' a 140 (C8 .u32 (P++b++S))/\b.length=m+3/\Lo b/\val b=val M%val v)/\Only a w w':=by subst s;subst o;subst n;exact ysh a P M S B c d m v w lo hi hv k x l r p hc t q hr i j
theorem yay {w:f} {x y lo:Nat} (ha:IsN w lo hi r x) (a1:IsN w lo' G F y) (a7:hi<=w.heap.size) (a8:G<=w.heap.size) (ab:(A9 x).length<=4294967296) (b4:(A9 y).length<=4294967296) (cv:0<y):
 u Tryz.prog 189 #[r,F] w fun g w'=>(∃q bu,g= .returned (.tuple #[q,bu])/\IsN w' w.heap.size w'.heap.size q (x/y)/\IsN w' w.heap.size w'.heap.size bu (x%y))/\a w.heap.size w w':=by
 obtain⟨P,X⟩:=C5 ha a1;obtain⟨A,c,rfl,bL,cm,cb⟩:=ha;obtain⟨B,d,rfl,bP,cn,aP⟩:=a1;rcases p x y with ac|ac
 ·have aL:e (x/y=0/\x%y=x):=⟨Nat.div_eq_of_lt ac,Nat.mod_eq_of_lt ac⟩;have ai:e (X6 x y= -1):=zqz ac;go_in;go_wp2_with fail;refine(zsu P.out X.out).mono ?_;rw[ai.out];rintro g bv ⟨rfl,n,rfl⟩;go_wp2_with fail;refine(zpm (P.out.drewN n) ab).mono ?_;rintro g an ⟨⟨v,rfl,hv⟩,U⟩;go_wp2_with fail;go_ret2;refine⟨⟨_,_,rfl,?_,?_⟩,((Below.refl _ w).trans (below_drewN (Below.refl _ _) n)).trans U⟩
  ·rw[aL.out.1];exact IsN.zero
  ·rw[aL.out.2];exact hv
 ·have ai:e (0<=X6 x y):=(by unfold e X6;split<;>(try split)<;>omega);by_cases aj:(A9 y).length=1
  ·obtain⟨bb,ob,rfl,_,_,Z⟩:=aP (M5 (j:=0) og);obtain⟨aG,bZ,cu,b0,b3⟩:=W4 (j:=0) (M4 y) Z og;clear Z;rw[Nat.add_zero] at b3
   have bn:aG=(y:Int):=by
    rw[bZ.out];have h:=R7 y;match bR:A9 y,aj with
    |[z],_=>rw[bR] at h;simp[val] at h;simp[h]
   have bx:=j bn;have b1:1<=aG:=og;clear bn;have ca:=j aj;have cj:(A9 y).length<=1:=og;have ck:1<=(A9 y).length:=og;clear aj;go_in;go_wp2_with fail;refine(zsu P.out X.out).mono ?_;generalize X6 x y=sg at*;have bY:=ai.out;rintro g bv ⟨rfl,n,rfl⟩;go_wp2_with fail;refine(ymm (P.out.drewN n) a7 ab b1 b0).mono ?_;rintro g an ⟨⟨v,cD,rfl,bX,ct,bV,hv⟩,U⟩;go_wp2_with fail;refine(ycq _ _ bX og).mono ?_;rintro g aE ⟨⟨cE,rfl,bh⟩,R⟩;go_wp2_with fail;go_ret2;have bp:aG.toNat=y:=oh bx;rw[bV.out,bp] at bh;rw[bp] at hv;have V:a w.heap.size w an:=(below_drewN (Below.refl _ w) n).trans U;have ad:=V.size;have bq:=R.size;exact⟨⟨_,_,rfl,(hv.below R (o _)).wide (o _) bq,bh.wide ad (o _)⟩,V.trans (R.mono ad)⟩
  ·obtain⟨m,aa⟩:∃m,(A9 y).length=m+2:=(by refine⟨(A9 y).length-2,?_⟩;have:(A9 y).length≠0:=(by rw[ne_eq,lim_nil_iff];omega);omega);obtain⟨k,al⟩:∃k,(A9 x).length=m+2+k:=⟨(A9 x).length-(m+2),by have:=W9 ac;omega⟩;rw[aa] at bP b4;rw[al] at bL ab;have cl:(((m:Int)+2)==1)=false:=beq_eq_false_iff_ne.2 og;obtain⟨bb,ob,rfl,_,_,Z⟩:=aP (M5 (j:=m+1) og);obtain⟨Y,a2,ch,bM,bO⟩:=W4 (j:=m+1) (M4 y) Z og;clear Z aj;have bN:1<=Y:=(by have:=ynn (M4 y) aa (by rw[R7];exact lim_len_lt.1 og);have:=a2.out;omega);have hF:=ytq (M4 y) aa a2.out bN bM;have bD:=hF.1;have au:=hF.2.1;have aH:=j hF.2.2;clear hF;have aK:e (val (A9 x)*(1000000000/(Y+1)).toNat<pw (m+2+k+1)):=(by have Q:=zqt x;rw[al] at Q;rw[R7,e,zkg,Nat.mul_comm 1000000000];exact Nat.lt_of_le_of_lt (Nat.mul_le_mul_left x (show(1000000000/(Y+1)).toNat<=1000000000 by omega)) (Nat.mul_lt_mul_of_pos_right Q og));obtain⟨aq,ah⟩:=C5 al aa;clear al aa;rw[aq.out] at P⊢;rw[ah.out] at X⊢;go_in;go_wp2_with fail;refine(zsu P.out X.out).mono ?_;generalize X6 x y=sg at*;have bY:=ai.out;rintro g bv ⟨rfl,n,rfl⟩;go_wp2_with fail;have aQ:0<=1000000000/(Y+1):=og;rw[R7] at aH aK;generalize aR:1000000000/(Y+1)=ae at*;have b9:=j aR;clear aR;refine(ynj (P.out.drewN n) a7 (m+2+k+1) og (by rw[aq.out];omega) og aQ au aK.out).mono ?_;rintro g an ⟨⟨L,bA,rfl,bG,M,aS,aT,aU⟩,U⟩;have W:=j (s aS (s aT aU));clear aS aT aU;have V:a w.heap.size w an:=(below_drewN (Below.refl _ w) n).trans U;have ad:=V.size;have bH:=M.lt;go_wp2_with fail;refine(ynj (X.out.below V a8) (I a8 ad) (m+2) og (by rw[ah.out];omega) og aQ au aH.out).mono ?_;rintro g aE ⟨⟨af,l,rfl,cf,S,aV,aW,aX⟩,R⟩;have N:=j (s aV (s aW aX));clear aV aW aX;have bf:=M.below R bH;clear M;have a4:a w.heap.size w aE:=V.trans (R.mono ad);have bq:=a4.size;have cg:=S.lt;go_wp2_with (at_make;refine ztq U9 rfl _ _ rfl (k+1) rfl rfl og og og ?_;intro K b5 bE T ak cy);have bI:w.heap.size<=L:=bG;have cc:aE.heap.size<=K:=oh bE;have a3:a w.heap.size w b5:=a4.trans (ak.mono og);have O:e (val l=y*ae.toNat/\0<val l/\val l<=pw (m+2)/\1<=l.getD (m+1) 0):=by have Q:=N.out.2.2;have bC:pw (m+1)<=y:=lim_len_lt.1 (by rw[ah.out];omega);have aO:y*1<=y*ae.toNat:=Nat.mul_le_mul_left y og;refine⟨Q,by omega,?_,ynn N.out.2.1 N.out.1 og⟩;have:=zmf N.out.2.1;rw[N.out.1] at this;omega
   go_loopw [12] (fun J wr=>∃(i:Nat) (b t:List Nat),i<=k+1/\J= .int .i64 ((i:Int)-1)/\Row wr L 140 (C8 .u32 b)/\Row wr af 140 (C8 .u32 l)/\Row wr K 140 (C8 .u32 t)/\a w.heap.size w wr/\
    e (b.length=m+2+k+1/\Lo b/\t.length=k+1/\Lo t/\(∀J,J<i->t.getD J 0=0)/\val (b.drop i)<val l/\val b+val l*val t=x*ae.toNat)) (fun J _=>(intOf J+1).toNat)
   case atStart=>
    refine⟨k+1,bA,_,o _,zrp og,bf.below ak og,S.below ak og,T,a3,W.out.1,W.out.2.1,by simp,zrw _,?_,?_,?_⟩
    ·intro J _;rw[D,List.getElem?_replicate];split<;>rfl
    ·rw[O.out.1];exact ysj W.out.1 W.out.2.2 (by have:=zqt x;rw[aq.out] at this;exact this) (lim_len_lt.1 (by rw[ah.out];omega)) og
    ·rw[W.out.2.2,zzz (l:=List.replicate (k+1) 0) (fun x ab=>(List.mem_replicate.1 ab).2),Nat.mul_zero,Nat.add_zero]
   case round=>
    clear bO bf S T U R ak a3;obtain⟨i,b,t,hi,rfl,M,S,T,aB,hrel⟩:=hrel;rcases i with _|i
    ·have ay:val b<val l:=(by have:=hrel.out.2.2.2.2.2.1;rw[List.drop_zero] at this;exact this);have az:val b+val l*val t=x*ae.toNat:=hrel.out.2.2.2.2.2.2;rw[O.out.1] at ay az;have a6:=ygp og ay az
     have aN:e (val (b.take (m+2))=val b):=by
      have Q:=zqm b (m+2) (by have:=hrel.out.1;omega);rcases Nat.eq_zero_or_pos (val (b.drop (m+2))) with ar|ar
      ·rw[ar,Nat.mul_zero,Nat.add_zero] at Q;exact Q.symm
      ·have:=Nat.mul_le_mul_left (pw (m+2)) ar;have bC:=O.out.2.2.1;have aO:=hrel.out.2.2.2.2.2.1;rw[List.drop_zero] at aO;omega
     have aJ:=j a6;clear ay az a6;go_wp2_with fail
     have bK:IsL .u32 wr L (L+1) (.slice (some ⟨L,0,none⟩) (m+2) (m+2+k+1)) (b.take (m+2)):=
      ⟨_,_,by rw[List.length_take,Nat.min_eq_left (by have:=hrel.out.1;omega)],by rw[List.length_take];omega,by unfold maxLen;omega,by rw[zxj];exact M.sv.take _⟩
     refine(ynp bK (zmy hrel.out.2.1 _)).mono ?_;rintro g b7 ⟨⟨cF,rfl,bi⟩,rfl⟩;rw[aN.out] at bi;have cd:=M.lt;go_wp2_with fail;refine(ymm bi og (by have:=ywm (zmy hrel.out.2.1 (m+2));rw[aN.out,List.length_take] at this;omega) bD au).mono ?_;rintro g b8 ⟨⟨cG,cC,rfl,_,_,_,bj⟩,aA⟩;rw[aJ.out.2] at bj;go_wp2_with fail;have bg:=T.below aA T.lt;have br:=aB.size;have cz:=aA.size;have bJ:IsL .u32 b8 K (K+1) (.slice (some ⟨K,0,none⟩) (k+1) (k+1)) t:=⟨_,_,by rw[hrel.out.2.2.1],by have:=hrel.out.2.2.1;omega,by unfold maxLen;omega,bg.sv⟩;refine(ynp bJ hrel.out.2.2.2.1).mono ?_;rintro g cI ⟨⟨cH,rfl,bm⟩,rfl⟩;rw[aJ.out.1] at bm;have bF:=bg.lt;go_wp2_with fail;go_ret2;exact⟨⟨_,_,rfl,bm.wide og bF,bj.wide br (o _)⟩,aB.trans (aA.mono br)⟩
    ·have a5:=ygq hrel.out.2.1 (j:=i) (n:=m+2) (by have:=hrel.out.1;omega) O.out.2.2.1 hrel.out.2.2.2.2.2.1;have aI:=j a5;clear a5;rw[show(((i+1:Nat):Int)-1)=(i:Int) from by omega];have be:Row wr L 140 (C8 .u32 (b.take i++(b.drop i).take (m+2+1)++b.drop (i+(m+2)+1))):=(by have g:b.take i++(b.drop i).take (m+2+1)++b.drop (i+(m+2)+1)=b:=(by rw[List.append_assoc,show i+(m+2)+1=i+(m+2+1) by omega,<-List.drop_drop,List.take_append_drop,List.take_append_drop]);rw[g];exact M);go_wp2_with fail
     refine(yse L i _ _ (b.take i) ((b.drop i).take (m+2+1)) (b.drop (i+(m+2)+1)) _ _ _ m l wr af (af+1) (by rw[List.length_take];have:=hrel.out.1;omega) og og N.out.2.1 (zmy (zvv hrel.out.2.1 _) _) N.out.1
      (by rw[List.length_take,List.length_drop];have:=hrel.out.1;omega) og (by rw[List.length_take];omega) og O.out.2.2.2 aI.out.1 be S.sv og).mono ?_
     rintro g b7 ⟨⟨bB,rfl,bT,aY,aZ,a0⟩,av⟩;have ag:=j (s aY (s aZ a0));clear aY aZ a0;have bU:=S.only av og;have aC:=T.only av og;have bQ:=aB.trans (av.below bI);have aM:e (val ((b.drop i).take (m+2+1))/val l<1000000000):=Nat.div_lt_of_lt_mul (by have:=aI.out.1;exact this);generalize a9:val ((b.drop i).take (m+2+1))/val l=aD at*;have bw:=j a9;clear a9;generalize bd:(aD:Int)=bt at*;have ao:=j bd;clear bd;have cr:0<=bt:=oh ao;have cs:bt<=999999999:=znu ao aM;obtain⟨z,cw,cx,cA⟩:=aC.num (i:=i) (by rw[hrel.out.2.2.1];exact hi);have cB:=aC.frozen i;clear M be S T;go_wp2;go_roundw
     case rel=>
      have hst:=ysk hrel.out.2.1 (j:=i) (n:=m+2) (M':=bB) (Lq:=t) (by have:=hrel.out.1;omega) O.out.2.2.1 O.out.2.1 hrel.out.2.2.2.2.2.1 ag.out.2.2 ag.out.1 (by rw[hrel.out.2.2.1];exact hi) (hrel.out.2.2.2.2.1 i og) hrel.out.2.2.2.2.2.2;rw[bw.out] at hst;refine⟨i,_,t.set i aD,by omega,rfl,bT.far (by show L≠K;omega) _,bU.far (by show af≠K;omega) _,aC.setNum i aD _ ao.out.symm,bQ.setCell (by show w.heap.size<=K;omega) _,?_,?_,?_,?_,?_,hst.1,hst.2⟩
      ·simp only[H,List.length_take,List.length_drop,ag.out.1];have:=hrel.out.1;omega
      ·rw[lo_append,lo_append];exact⟨⟨zmy hrel.out.2.1 _,ag.out.2.1⟩,zvv hrel.out.2.1 _⟩
      ·rw[List.length_set];exact hrel.out.2.2.1
      ·exact W5 hrel.out.2.2.2.1 aM.out
      ·intro J cq;rw[getD_set_ne og];exact hrel.out.2.2.2.2.1 J og
     case measure=>simp[intOf]
def N0 (l:List Nat):Int:=if 1024<l.length then 4 else if l.any (fun x=>decide (1000000000<=x)) then 3 else if l.getLastD 1=0 then 3 else 0
theorem yfw (h:1024<l.length):N0 l=4:=by unfold N0;rw[if_pos h]
theorem yfu (h:¬1024<l.length) {x:Nat} (b:x∈l) (a:1000000000<=x):N0 l=3:=by unfold N0;rw[if_neg h,if_pos];rw[List.any_eq_true];exact⟨x,b,by simpa using a⟩
theorem yat (h:¬1024<l.length) (b:Lo l):N0 l=if l.getLastD 1=0 then 3 else 0:=by unfold N0;rw[if_neg h,if_neg];rw[List.any_eq_true];rintro⟨x,c,a⟩;have:=b x c;simp at a;omega
theorem zri (h:N0 l=0):l.length<=1024/\Lo l/\l=A9 (val l):=by
 unfold N0 at h;split at h
 ·omega
 ·split at h
  ·omega
  ·rename_i f c;split at h
   ·omega
   ·rename_i d
    have b:Lo l:=by
     intro x e;rcases p x 1000000000 with a|a
     ·exact a
     ·exact absurd (List.any_eq_true.2 ⟨x,e,by simpa using a⟩) c
    exact⟨by omega,b,(ycb b d).symm⟩
theorem yfv (h:(A9 n).length<=1024):N0 (A9 n)=0:=by rw[yat og (M4 n),if_neg (yvm n)]
theorem yim (h:0<l.length):l.getLastD 1=l.getD (l.length-1) 0:=by rw[List.getLastD_eq_getLast?,List.getLast?_eq_getElem?,D,E og];rfl
theorem yho (h:k<l.length):l.getD k 0∈l:=by rw[D,E h];exact List.getElem_mem h
theorem yjc (h:∀a,a<l.length->l.getD a 0<1000000000):Lo l:=by intro x c;obtain⟨a,b,rfl⟩:=List.getElem_of_mem c;have:=h a b;rw[D,E b] at this;exact this
theorem zst {w:f} {lo:Nat} (ha:IsL .u32 w lo hi r l):
 u Tryz.prog 178 #[r] w fun o w'=>o= .returned (.int .i64 (N0 l))/\w=w':=by
 obtain⟨A,c,rfl,hc,I,v⟩:=ha;by_cases s:1024<l.length
 ·have a:=j (yfw s);go_in;go_wp2;go_ret;exact⟨J0 a.out.symm,rfl⟩
 ·go_in;go_wp2;go_loop [10] (fun i=>∃k:Nat,k<=l.length/\i= .int .i64 k/\e (∀d,d<k->l.getD d 0<1000000000)) (fun i=>l.length-(intOf i).toNat);case atStart=>exact⟨0,C _,rfl,fun d E=>by omega⟩
  case round=>
   obtain⟨k,J,rfl,q⟩:=hrel;by_cases n:k<l.length
   ·obtain⟨b,off,rfl,_,_,g⟩:=v (M5 (j:=k) n);obtain⟨x,m,F,D⟩:=znn (j:=k) g n;clear g;rcases Int.lt_or_le x 1000000000 with G|G
    ·go_wp2;go_round
     case rel=>
      refine⟨k+1,n,by go_num,?_⟩;intro d E;rcases p d k with h|h
      ·exact q.out d h
      ·obtain rfl:d=k:=og;have:=m.out;omega
     case measure=>simp[intOf];omega
    ·have a:=j (yfu s (yho n) (oh m));go_wp2;go_ret;exact⟨J0 a.out.symm,rfl⟩
   ·obtain rfl:k=l.length:=og;have y:=j (yat s (yjc q.out));clear q;by_cases B:0<l.length
    ·obtain⟨b,off,rfl,_,_,g⟩:=v (M5 (j:=l.length-1) og);obtain⟨x,m,F,D⟩:=znn (j:=l.length-1) g og;clear g;have z:=j (yim B);by_cases t:x=0
     ·subst t;have a:e (N0 l=3):=(by unfold e;rw[y.out,if_pos];rw[z.out];have:=m.out;omega);go_wp2;go_ret;exact⟨J0 a.out.symm,rfl⟩
     ·have H:(x==0)=false:=beq_eq_false_iff_ne.2 t;have a:e (N0 l=0):=(by unfold e;rw[y.out,if_neg];rw[z.out];have:=m.out;omega);clear t;go_wp2;go_ret;exact⟨J0 a.out.symm,rfl⟩
    ·have o:l=[]:=List.eq_nil_of_length_eq_zero og;subst o;(have a:e (N0 []=0):=by show N0 []=0;decide);go_wp2;go_ret;exact⟨J0 a.out.symm,rfl⟩
theorem IsL.alloc {k:IntKind} {w:f} {lo:Nat} (h:IsL k w lo hi v l) (b:hi<=w.heap.size) (a:Obj):IsL k (w.alloc a) lo hi v l:=
 h.below ((Below.refl _ _).alloc (o _) a) b
theorem IsN.alloc {w:f} {lo:Nat} (h:IsN w lo hi v n) (b:hi<=w.heap.size) (a:Obj):IsN (w.alloc a) lo hi v n:=IsL.alloc h b a
theorem IsL.isN {w:f} {lo:Nat} (h:IsL .u32 w lo hi v l) (hc:N0 l=0):IsN w lo hi v (val l):=by unfold IsN;rw[<-(zri hc).2.2];exact h
theorem zxn (hc:N0 l=0):(A9 (val l)).length<=1024:=by rw[<-(zri hc).2.2];exact(zri hc).1
theorem ytg {a:List Nat} (f:a.length=b.length) (h:∀c,c<a.length->a.getD c 0=b.getD c 0):a=b:=by apply List.ext_getElem f;intro c d e;have:=h c d;rw[D,D,E d,E e] at this;exact this
theorem yal {w:f} {a:List Nat} {lo:Nat} (ha:IsL .u32 w lo hi r a) (t:IsL .u32 w lo' G F b):
 u Tryz.prog 109 #[r,F] w fun L w'=>L= .returned (.bool (decide (a=b)))/\Dr w w':=by
 have P:=ha.length_le;have Q:=t.length_le;unfold maxLen at P Q;obtain⟨A,c,rfl,_,_,N⟩:=ha;obtain⟨B,d,rfl,_,_,O⟩:=t;by_cases o:a.length=b.length
 ·have M:a.length<=b.length:=og;have S:b.length<=a.length:=og;have J:=j o;clear o;go_in;go_wp2;go_loopw [5] (fun i wr=>∃k:Nat,k<=a.length/\i= .int .i64 (k:Int)/\Dr w wr/\e (∀g,g<k->a.getD g 0=b.getD g 0)) (fun i _=>a.length-(intOf i).toNat);case atStart=>exact⟨0,C _,rfl,Dr.refl _,fun g R=>by omega⟩
  case round=>
   obtain⟨k,U,rfl,⟨n,rfl⟩,s⟩:=hrel;rcases p k a.length with q|T
   ·obtain⟨ba,oa,rfl,_,_,z⟩:=N (M5 (j:=k) q);obtain⟨bb,ob,rfl,_,_,D⟩:=O (M5 (j:=k) (I q M));obtain⟨x,E,V,W⟩:=znn (j:=k) z q;obtain⟨y,H,X,Y⟩:=znn (j:=k) D og;clear z D;by_cases m:x=y
    ·have v:(x !=y)=false:=(by simp[m]);have K:=j m;clear m;go_wp2;go_quiet (fail);go_wp2;go_roundw
     case rel=>
      refine⟨k+1,by omega,by go_num,⟨_,rfl⟩,fun g R=> ?_⟩;rcases p g k with h|h
      ·exact s.out g h
      ·obtain rfl:g=k:=og;have:=E.out;have:=H.out;have:=K.out;omega
     case measure=>simp[intOf];omega
    ·have v:(x !=y)=true:=bne_iff_ne.2 m;have l:e (decide (a=b)=false):=(by simp only[e,decide_eq_false_iff_not];rintro rfl;have:=E.out;have:=H.out;omega);clear m;go_wp2;go_quiet (fail);go_wp2;go_ret;exact⟨zsb l.out.symm,((Dr.refl w).drewN n).drewN _⟩
   ·obtain rfl:k=a.length:=og;have l:e (decide (a=b)=true):=(by simp only[e,decide_eq_true_eq];exact ytg J.out s.out);go_wp2;go_ret;exact⟨zsb l.out.symm,⟨_,rfl⟩⟩
 ·have v:(((a.length:Int)) !=(b.length:Int))=true:=(by rw[bne_iff_ne];omega);have l:e (decide (a=b)=false):=(by simp only[e,decide_eq_false_iff_not];rintro rfl;exact o rfl);clear o;go_in;go_wp2;go_ret;exact⟨zsb l.out.symm,Dr.refl _⟩
theorem yez {w X:f} (h:a w.heap.size w X):a w.heap.size w X.drew:=C6 h (U4 X)
theorem bl {a:Prop} (h:a:=by(repeat(first|exact _root_.Go.RowKit.Below.refl _ _|assumption|refine yez ?_|refine below_drewN ?_ _|refine C6 ?_ asm));(first|done|fail)):a:=h
theorem uQ (w':f) {w:f} {q:Rat} (h:e (IsQ w (C3 w) v q)) (b:a w.heap.size w w':=by exact bl):IsQ w' (C3 w') v q:=IsQ.stb.next h.out b
theorem uV (w':f) {w:f} {l:List Raw} (h:e (IsV w (C3 w) v l)) (b:a w.heap.size w w':=by exact bl):IsV w' (C3 w') v l:=IsV.stb.next h.out b
theorem uM (w':f) {w:f} {l:List (List Raw)} (h:e (IsM w (C3 w) v l)) (b:a w.heap.size w w':=by exact bl):IsM w' (C3 w') v l:=IsM.stb.next h.out b
theorem uK (w':f) {w:f} {k:IntKind} (h:e (IsK k w (C3 w) v l)) (b:a w.heap.size w w':=by exact bl):IsK k w' (C3 w') v l:=IsK.stb.next h.out b
theorem uF (w':f) {w:f} {k:IntKind} (h:e (IsK k w (G4 n w) v l)) (b:a w.heap.size w w':=by exact bl):IsK k w' (G4 n w') v l:=IsK.stb.fresh h.out b
theorem uN (w':f) {w:f} (h:e (IsN w 0 w.heap.size v n)) (b:a w.heap.size w w':=by exact bl):IsN w' 0 w'.heap.size v n:=IsN.next h.out b
theorem uR (w':f) {w:f} {b:List Value} (h:e (Row w g t b)) (c:a w.heap.size w w':=by exact bl):Row w' g t b:=Row.next h.out c
theorem uB (w':f) {w b:f} (h:e (a w.heap.size w b)) (c:a b.heap.size b w':=by exact bl):a w.heap.size w w':=C6 h.out c
theorem uS (w':f) {w:f} (h:e (n<=w.heap.size)) (b:a w.heap.size w w':=by exact bl):n<=w'.heap.size:=ymp h.out b
theorem uU (w':f) {w:f} (h:e (Bru w)) (b:a w.heap.size w w':=by exact bl):Bru w':=Bru.next h.out b
theorem zqh {w:f} {x lo:Nat} (ha:IsN w lo hi r x):
 u Tryz.prog 177 #[r] w fun q w'=>q= .returned (.bool (decide (x=1)))/\w=w':=by
 obtain⟨A,c,rfl,hc,_,t⟩:=ha;generalize n:A9 x=l at*;have g:=j n;clear n;by_cases d:l.length=1
 ·obtain⟨ba,oa,rfl,_,_,m⟩:=t (M5 (j:=0) og);obtain⟨y,i,F,B⟩:=znn (j:=0) m og;clear m
  obtain⟨z,rfl⟩:∃z,l=[z]:=by
   match l,d with
   |[z],_=>exact⟨z,rfl⟩
  simp only[List.getD_cons_zero] at i;rw[Nat.add_zero] at B;by_cases k:y=1
  ·have b:e (decide (x=1)=true):=(by have:=i.out;obtain rfl:z=1:=og;have hv:=R7 x;rw[g.out] at hv;simp[val] at hv;simp[e,hv]);subst k;clear d;go_in;go_wp2;go_ret;exact⟨zsb b.out.symm,rfl⟩
  ·have b:e (decide (x=1)=false):=(by have:=i.out;have hv:=R7 x;rw[g.out] at hv;simp[val] at hv;simp[e];omega);have v:(y==1)=false:=(by simpa using k);clear d;go_in;go_wp2;go_ret;exact⟨zsb b.out.symm,rfl⟩
 ·have v:((l.length:Int)==1)=false:=(by simp;omega);have b:e (decide (x=1)=false):=(by simp only[e,decide_eq_false_iff_not];rintro rfl;have h:=g.out;rw[zkf] at h;subst h;simp at d);go_in;go_wp2;go_ret;exact⟨zsb b.out.symm,rfl⟩
theorem ybg {a:Nat} (c:a%2=1) (b v:Nat):Nat.gcd a (2^b*v)=Nat.gcd a v:=by have h:Nat.Coprime a (2^b):=(by apply Nat.Coprime.pow_right;unfold Nat.Coprime;rw[Nat.gcd_comm,Nat.gcd_rec,c];rfl);exact Nat.Coprime.gcd_mul_left_cancel_right v h.symm
theorem yyf {a b:Nat} (h:a|||b=2^k*(2*m+1)):∃c d,a=2^k*c/\b=2^k*d/\(c%2=1\/d%2=1):=by
 (have g:(a%2^k)|||(b%2^k)=0:=by rw[<-Nat.or_mod_two_pow,h];exact Nat.mul_mod_right _ _);have ha:a%2^k=0:=(by have:=Nat.left_le_or (n:=a%2^k) (m:=b%2^k);omega);have f:b%2^k=0:=(by have:=Nat.right_le_or (n:=a%2^k) (m:=b%2^k);omega);refine⟨a/2^k,b/2^k,?_,?_,?_⟩
 ·rw[Nat.mul_comm,Nat.div_mul_cancel (Nat.dvd_of_mod_eq_zero ha)]
 ·rw[Nat.mul_comm,Nat.div_mul_cancel (Nat.dvd_of_mod_eq_zero f)]
 ·have e:(a|||b).testBit k=true:=(by rw[h,Nat.testBit_eq_decide_div_mod_eq,Nat.mul_div_cancel_left _ (Nat.pow_pos og)];simp);rw[Nat.testBit_or,Nat.testBit_eq_decide_div_mod_eq,Nat.testBit_eq_decide_div_mod_eq] at e;simpa using e
theorem yzs {d:Nat} (h:2^i*(2*c+1)=2^k*d):(d%2=1->d=2*c+1)/\∃e,d=2^e*(2*c+1):=by
 rcases p i k with a|a
 ·exfalso;obtain⟨t,rfl⟩:∃t,k=i+(t+1):=⟨k-i-1,by omega⟩;rw[Nat.pow_add,Nat.mul_assoc] at h;have:=Nat.eq_of_mul_eq_mul_left (Nat.pow_pos og) h;rw[Nat.pow_succ] at this;have f:2^t*2*d=2*(2^t*d):=(by rw[Nat.mul_comm (2^t) 2,Nat.mul_assoc]);omega
 ·obtain⟨t,rfl⟩:∃t,i=k+t:=⟨i-k,by omega⟩;rw[Nat.pow_add,Nat.mul_assoc] at h;have hd:=(Nat.eq_of_mul_eq_mul_left (Nat.pow_pos og) h).symm;refine⟨fun b=> ?_,t,hd⟩;rcases t with _|t
  ·rw[hd];simp
  ·rw[hd,Nat.pow_succ,Nat.mul_comm (2^t) 2,Nat.mul_assoc] at b;omega
theorem ypz {a b:Nat} (h:a|||b=2^k*(2*m+1)) (ha:a=2^i*(2*c+1)):Nat.gcd a b=2^k*Nat.gcd (2*c+1) b:=by
 obtain⟨o,p,e,g,l⟩:=yyf h;have n:(2*c+1)%2=1:=og;have f:=yzs (ha.symm.trans e);rw[e,g,Nat.gcd_mul_left,ybg n];congr 1;rcases l with d|d
 ·rw[f.1 d]
 ·obtain⟨q,j⟩:=f.2;rw[j,Nat.gcd_comm,ybg d,Nat.gcd_comm]
theorem yqa {A B e a:Nat} (c:A%2=1) (d:B=2^e*(2*n+1)) (b:Nat.gcd A B=a):
 (2*n+1<A->Nat.gcd (2*n+1) (A-(2*n+1))=a)/\(A<=2*n+1->Nat.gcd A (2*n+1-A)=a):=by
 rw[d,ybg c] at b;refine⟨fun h=> ?_,fun h=> ?_⟩
 ·rw[Nat.gcd_sub_self_right og,Nat.gcd_comm];exact b
 ·rw[Nat.gcd_sub_self_right h];exact b
theorem zz1411 {x:Nat} (h:x=2^k*(2*m+1)):x/2^k=2*m+1:=by rw[h,Nat.mul_div_cancel_left _ (Nat.pow_pos og)]
theorem yjv {x:Nat} (h:x=2^k*(2*m+1)):2*m+1<=x:=by rw[h];exact Nat.le_mul_of_pos_left _ (Nat.pow_pos og)
end Go.Proofs.YtlhhbccgfkhflaaGreatDoor
