/-
 The contract of package long's digit.
-/
import Derived.Test.YtpbilanpeioonaaGreatDoorDpv03
namespace Go.Proofs.YtpbilanpeioonaaGreatDoor
open Go.RowKit
set_option linter.unusedVariables false
set_option maxRecDepth 100000
set_option maxHeartbeats 8000000
open _root_.Go.Lib renaming hid → j
open _root_.Nat renaming le_refl → o, le_trans → G, lt_or_ge → p, zero_le → q
open _root_.List renaming getD_eq_getElem?_getD → C, getElem?_eq_getElem → d, length_append → F
open _root_.And renaming intro → s
open _root_.Go renaming World → f, Calls → u
open _root_.Go.RowKit renaming Below → a, Hid → e
variable {M P S b l : List Nat} {c g hi E i k lo lo' m n : Nat} {t : TypeId} {v r D : Value}
theorem Row.mid {w:f} (h:Row w g t (E7 .u32 (P++M++S))) (a:Lo M) (hi:i<M.length):
 ∃x:Int,e (x=(M.getD i 0:Nat))/\0<=x/\x<=999999999/\w.cell? ⟨g,P.length+i,none⟩=some (.int .u32 x):=by refine⟨_,rfl,by omega,by have:=zpr a i;omega,?_⟩;rw[h.cell,zqf (by simp only[F];omega),yvo hi]
theorem Row.setMid {w:f} (h:Row w g t (E7 .u32 (P++M++S))) (hi:i<M.length) (n:Nat) (x:Int) (a:x=(n:Int)):
 Row (w.setCell ⟨g,P.length+i,none⟩ (.int .u32 x)) g t (E7 .u32 (P++M.set i n++S)):=by rw[<-zz1452 hi];exact h.setNum _ n x a
theorem yts (t:Nat) (P M S:List Nat) (B:Option Addr) (c d m:Nat) (v:List Nat) (w:f) (lo hi:Nat) (hv:Lo v) (bh:Lo M) (bD:v.length=m+2) (bi:M.length=m+3) (bJ:m<=8589934592)
 (bG:P.length<=8589934592) (hc:m+3<=c) (bU:1<=v.getD (m+1) 0) (ah:val M<val v*1000000000) (hr:Row w t 118 (E7 .u32 (P++M++S))) (ae:SV w lo hi B (E7 .u32 v)) (an:t<lo\/hi<=t):
 u Tryz.prog 205 #[.slice (some ⟨t,P.length,none⟩) (m+3) c,.slice B (m+2) d] w fun bg w'=>(∃b,bg= .returned (.int .u32 ((val M/val v:Nat):Int))/\Row w' t 118 (E7 .u32 (P++b++S))/\b.length=m+3/\Lo b/\val b=val M%val v)/\Only t w w':=by
 obtain⟨R,Z,J,ab,be⟩:=hd5 hv bh bD bi ah;obtain⟨bb,ob,rfl,_,_,a1⟩:=ae (N0 (j:=m+1) og);obtain⟨C,a5,bV,bX,bY⟩:=X7 (j:=m+1) R.out a1 og;obtain⟨Y,bC,ay,az,bZ⟩:=X7 (j:=m) R.out a1 og;obtain⟨u0,av,bM,bN,bO⟩:=hr.mid Z.out (i:=m+2) og;obtain⟨u1,bx,bP,bQ,bR⟩:=hr.mid Z.out (i:=m+1) og;obtain⟨u2,bB,a3,bA,bT⟩:=hr.mid Z.out (i:=m) og;have a4:1<=C:=oh a5;have aq:(val M:Int)=((u0*1000000000+u1)*1000000000+u2)*pw m+val (M.take m):=(by rw[zz1507 ab.out,av.out,bx.out,bB.out];simp only[Int.natCast_add,Int.natCast_mul];rfl);have ar:(val v:Int)=(C*1000000000+Y)*pw m+val (v.take m):=(by rw[zz1508 J.out,a5.out,bC.out];simp only[Int.natCast_add,Int.natCast_mul];rfl);have ao:(0:Int)<pw m:=(by have:=zon m;omega);have aZ:(val (M.take m):Int)<pw m:=(by have h:=zmo (znh Z.out m);rw[List.length_take,Nat.min_eq_left (oh ab)] at h;omega);have a0:(val (v.take m):Int)<pw m:=(by have h:=zmo (znh R.out m);rw[List.length_take,Nat.min_eq_left (oh J)] at h;omega);have a2:(val M:Int)<val v*1000000000:=oh be
 have a8:e (∀g a:Int,0<=g->g*C+a=u0*1000000000+u1->g*Y>a*1000000000+u2->(val M:Int)<g*val v):=
  fun g a aD G F=>yus ao og aZ aD G og aq ar
 have a6:e (∀g:Int,1000000000<=g->(val M:Int)<g*val v):=fun g h=>yuo og a2 h;have bf:e (∀g a:Int,g*C+a=u0*1000000000+u1->1000000000<=a->g<=999999999):=fun g a G F=>yur ao a0 og az a3 a4 G F a2 aq ar
 have a9:e (∀g a:Int,0<=g->g<=999999999->g*C+a=u0*1000000000+u1->(1000000000<=a\/g*Y<=a*1000000000+u2)->g*val v<=val M+val v):=
  fun g a aD G F ad=>yup ao a0 og og ay az a3 a4 aD G F ad aq ar
 have bd:e ((val M:Int)<((u0*1000000000+u1)/C+1)*val v):=
  yuq ao og aZ ay bA (Int.ediv_nonneg og og) (Int.lt_ediv_add_one_mul_self _ og) aq ar
 have a7:e ((u0*1000000000+u1)/C*C+(u0*1000000000+u1)%C=u0*1000000000+u1/\0<=(u0*1000000000+u1)/C/\(u0*1000000000+u1)/C<=999999999999999999/\0<=(u0*1000000000+u1)%C/\(u0*1000000000+u1)%C<C):=
  ⟨Int.ediv_mul_add_emod _ _,Int.ediv_nonneg og og,Int.le_trans (Int.ediv_le_self _ og) og,Int.emod_nonneg _ og,Int.emod_lt_of_pos _ og⟩
 have aa:e ((val M:Int)=val (M.take (m+2))+pw (m+2)*u0):=(by rw[ybh (n:=m+2) (oh ab),av.out];simp[e]);have ak:e ((val v:Int)<=pw (m+2)):=(by have h:=zmo R.out;rw[J.out] at h;unfold e;omega);have aX:e ((0:Int)<pw (m+2)):=(by have:=zon (m+2);unfold e;omega);go_in;go_wp2;go_quiet (fail);go_wp2;go_quiet (fail);go_wp2;go_loopw [7,8] (fun aW bE wr=>∃g a:Int,aW= .int .u64 g/\bE= .int .u64 a/\0<=g/\g<=999999999999999999/\0<=a/\a<=1999999999/\Dr w wr/\e (g*C+a=u0*1000000000+u1/\(val M:Int)<(g+1)*val v)) (fun aW _ _=>(intOf aW).toNat);case atStart=>have:=a7.out;exact⟨_,_,rfl,rfl,this.2.1,this.2.2.1,this.2.2.2.1,by omega,((Dr.refl w).drewN _).drewN _,this.1,bd.out⟩
 case round=>
  obtain⟨g,a,rfl,rfl,E,bH,bK,bL,⟨nn,rfl⟩,hrel⟩:=hrel
  have bj:(a<1000000000/\1000000000<=g)\/(a<1000000000/\g<=999999999/\a*1000000000+u2<g*Y)\/(1000000000<=a/\g<=999999999)\/(a<1000000000/\g<=999999999/\g*Y<=a*1000000000+u2):=by
   rcases Int.lt_or_le a 1000000000 with G|G
   ·rcases Int.lt_or_le g 1000000000 with F|F
    ·rcases Int.lt_or_le (a*1000000000+u2) (g*Y) with ad|ad
     ·exact .inr (.inl ⟨G,by omega,ad⟩)
     ·exact .inr (.inr (.inr ⟨G,by omega,ad⟩))
    ·exact .inl ⟨G,F⟩
   ·exact .inr (.inr (.inl ⟨G,bf.out g a hrel.out.1 G⟩))
  rcases bj with⟨aA,ac⟩|⟨aA,ac,aB⟩|hex
  ·go_wp2;go_quiet (fail);go_wp2;go_roundw;(case rel=>exact⟨g-1,a+C,by go_num,by go_num,by omega,by omega,by omega,by omega,⟨_,rfl⟩,by have:=hrel.out.1;rw[Int.sub_mul];omega,by have:=a6.out g ac;rw[Int.sub_add_cancel];exact this⟩);case measure=>simp[intOf];omega
  ·have af:=zql E ac ay az;have bq:=af.1;have br:=af.2
   have bI:1<=g:=by
    rcases Int.lt_or_le g 1 with h|h
    ·have:g=0:=og;subst this;rw[Int.zero_mul] at aB;omega
    ·exact h
   have aY:decide ((1000000000:Int)<=g)=false:=(by simp;omega);go_wp2;go_quiet (fail);go_wp2;go_roundw;(case rel=>exact⟨g-1,a+C,by go_num,by go_num,by omega,by omega,by omega,by omega,⟨_,rfl⟩,by have:=hrel.out.1;rw[Int.sub_mul];omega,by have:=a8.out g a E hrel.out.1 aB;rw[Int.sub_add_cancel];exact this⟩);case measure=>simp[intOf];omega
  ·have au:g<=999999999:=og;have al:e (g*val v<=val M+val v/\(val M:Int)<(g+1)*val v):=⟨a9.out g a E au hrel.out.1 og,hrel.out.2⟩;have af:=zql E au ay az;have bq:=af.1;have br:=af.2;rcases hex with⟨aA,ac⟩|⟨aA,ac,aB⟩
   ·have aY:decide (a<(1000000000:Int))=false:=(by simp;omega);go_wp2;go_quiet (fail);go_wp2;have aH:Only t w (w.drewN (nn+nq)):=(Only.refl t w).drewN _
    go_loopw [9,87] (fun aC i wr=>∃(k:Nat) (b:List Nat) (n:Int),k<=m+2/\i= .int .i64 (k:Int)/\aC= .int .u64 n/\0<=n/\n<=999999999/\Row wr t 118 (E7 .u32 (P++b++S))/\Only t w wr/\
     e (b.length=m+3/\Lo b/\(∀l,k<=l->b.getD l 0=M.getD l 0)/\(val (b.take k):Int)=val (M.take k)-g*val (v.take k)+n*pw k)) (fun _ i _=>m+2-(intOf i).toNat)
    case atStart=>exact⟨0,M,0,q _,rfl,rfl,by omega,by omega,hr,aH,ab.out,Z.out,fun _ _=>rfl,by simp[val]⟩
    case round=>
     obtain⟨i,b,n,hi,rfl,rfl,bm,bn,A,K,hrel⟩:=hrel;have aE:=ae.only K an;rcases p i (m+2) with ah|aI
     ·obtain⟨y,L,ai,aj,aQ⟩:=X7 (j:=i) R.out aE.at_ (oh J);obtain⟨x,Q,aL,aM,aN⟩:=A.mid hrel.out.2.1 (i:=i) (by have:=hrel.out.1;omega);have aP:=A.frozen (P.length+i);have ag:=zql E au ai aj;have bt:=ag.1;have bu:=ag.2;rcases Int.lt_or_le (x-(g*y+n)%1000000000) 0 with aJ|aK
      ·go_wp2;go_roundw
       case rel=>
        exact⟨i+1,b.set i (x-(g*y+n)%1000000000+1000000000).toNat,(g*y+n)/1000000000+1,by omega,by go_num,rfl,by omega,by omega,A.setMid (by have:=hrel.out.1;omega) _ _ og,K.setCell _ _,
         by rw[List.length_set];exact hrel.out.1,X8 hrel.out.2.1 og,fun l W=>by rw[zoi og];exact hrel.out.2.2.1 l og,
         zza (x:=x) (y:=y) (by have:=hrel.out.1;omega) (by rw[<-hrel.out.2.2.1 i (o _)];exact Q.out) L.out og og hrel.out.2.2.2⟩
       case measure=>simp[intOf];omega
      ·go_wp2;go_roundw
       case rel=>
        exact⟨i+1,b.set i (x-(g*y+n)%1000000000).toNat,(g*y+n)/1000000000,by omega,by go_num,rfl,by omega,by omega,A.setMid (by have:=hrel.out.1;omega) _ _ og,K.setCell _ _,
         by rw[List.length_set];exact hrel.out.1,X8 hrel.out.2.1 og,fun l W=>by rw[zoi og];exact hrel.out.2.2.1 l og,
         zza (x:=x) (y:=y) (by have:=hrel.out.1;omega) (by rw[<-hrel.out.2.2.1 i (o _)];exact Q.out) L.out og og hrel.out.2.2.2⟩
       case measure=>simp[intOf];omega
     ·obtain rfl:i=m+2:=og;obtain⟨x,Q,aL,aM,aN⟩:=A.mid hrel.out.2.1 (i:=m+2) (by have:=hrel.out.1;omega);have aP:=A.frozen (P.length+(m+2));have V:e (x=u0):=(by unfold e;rw[Q.out,hrel.out.2.2.1 _ (o _),<-av.out]);have N:=j hrel.out.2.2.2;have H:=j hrel.out.1;have T:=j hrel.out.2.1;have U:e ((val (b.take (m+2)):Int)<pw (m+2)):=(by have h:=zmo (znh T.out (m+2));rw[List.length_take,Nat.min_eq_left (oh H)] at h;unfold e;omega);rw[zkt (l:=v) (Nat.le_of_eq J.out)] at N;rcases Int.lt_or_le x n with aO|aO
      ·have bp:1<=g:=yir aa.out N.out U.out (oh V) aX.out E;go_wp2
       go_loopw [14,132] (fun aV i wr=>∃(k:Nat) (s:List Nat) (r:Int),k<=m+2/\i= .int .i64 (k:Int)/\aV= .int .u32 r/\0<=r/\r<=1/\Row wr t 118 (E7 .u32 (P++s++S))/\Only t w wr/\
        e (s.length=m+3/\Lo s/\(∀l,k<=l->s.getD l 0=b.getD l 0)/\(val (s.take k):Int)+r*pw k=val (b.take k)+val (v.take k))) (fun _ i _=>m+2-(intOf i).toNat)
       case atStart=>exact⟨0,b,0,q _,rfl,rfl,by omega,by omega,A,K,H.out,T.out,fun _ _=>rfl,by simp[val]⟩
       case round=>
        obtain⟨i,s,r,hi,rfl,rfl,bv,bw,D,O,hrel⟩:=hrel;have aG:=ae.only O an;rcases p i (m+2) with ah|aI
        ·obtain⟨y,L,ai,aj,aQ⟩:=X7 (j:=i) R.out aG.at_ (oh J);obtain⟨z,X,aR,aS,aT⟩:=D.mid hrel.out.2.1 (i:=i) (by have:=hrel.out.1;omega);have aU:=D.frozen (P.length+i);rcases Int.lt_or_le (z+y+r) 1000000000 with aJ|aK
         ·go_wp2;go_roundw
          case rel=>
           exact⟨i+1,s.set i (z+y+r).toNat,0,by omega,by go_num,rfl,by omega,by omega,D.setMid (by have:=hrel.out.1;omega) _ _ og,O.setCell _ _,
            by rw[List.length_set];exact hrel.out.1,X8 hrel.out.2.1 og,fun l W=>by rw[zoi og];exact hrel.out.2.2.1 l og,
            zyl (x:=z) (y:=y) (c:=r) (by have:=hrel.out.1;omega) (by rw[<-hrel.out.2.2.1 i (o _)];exact X.out) L.out og og hrel.out.2.2.2⟩
          case measure=>simp[intOf];omega
         ·go_wp2;go_roundw
          case rel=>
           exact⟨i+1,s.set i (z+y+r-1000000000).toNat,1,by omega,by go_num,rfl,by omega,by omega,D.setMid (by have:=hrel.out.1;omega) _ _ og,O.setCell _ _,
            by rw[List.length_set];exact hrel.out.1,X8 hrel.out.2.1 og,fun l W=>by rw[zoi og];exact hrel.out.2.2.1 l og,
            zyl (x:=z) (y:=y) (c:=r) (by have:=hrel.out.1;omega) (by rw[<-hrel.out.2.2.1 i (o _)];exact X.out) L.out og og hrel.out.2.2.2⟩
          case measure=>simp[intOf];omega
        ·obtain rfl:i=m+2:=og;obtain⟨z,X,aR,aS,aT⟩:=D.mid hrel.out.2.1 (i:=m+2) (by have:=hrel.out.1;omega);have aU:=D.frozen (P.length+(m+2));have F:=hrel.out.2.2.2;rw[zkt (l:=v) (Nat.le_of_eq J.out)] at F
         have hd:=yip aa.out N.out U.out (oh V) ak.out E al.out.1 F og
          (by have h:=zmo (znh hrel.out.2.1 (m+2));rw[List.length_take,Nat.min_eq_left (by have:=hrel.out.1;omega)] at h;omega)
         have I:=j hd;go_wp2;go_ret;refine⟨⟨s.set (m+2) 0,?_,D.setMid (by have:=hrel.out.1;omega) _ _ og,by rw[List.length_set];exact hrel.out.1,X8 hrel.out.2.1 og,?_⟩,O.setCell _ _⟩
         ·rw[I.out.2.1,Int.toNat_of_nonneg og];rfl
         ·rw[ybg hrel.out.1];have:=I.out.2.2;omega
      ·have hd:=yiq aa.out N.out og U.out (oh V) ak.out E al.out.2;have I:=j hd;go_wp2;go_ret;refine⟨⟨b.set (m+2) 0,?_,A.setMid (oh H) _ _ og,by rw[List.length_set];exact H.out,X8 T.out og,?_⟩,K.setCell _ _⟩
       ·rw[I.out.1,Int.toNat_of_nonneg E];rfl
       ·rw[ybg H.out];have:=I.out.2;omega
   ·have aY:decide ((1000000000:Int)<=g)=false:=(by simp;omega);have bF:decide (a*1000000000+u2<g*Y)=false:=(by simp;omega);go_wp2;go_quiet (fail);go_wp2;have aH:Only t w (w.drewN (nn+nq)):=(Only.refl t w).drewN _
    go_loopw [9,87] (fun aC i wr=>∃(k:Nat) (b:List Nat) (n:Int),k<=m+2/\i= .int .i64 (k:Int)/\aC= .int .u64 n/\0<=n/\n<=999999999/\Row wr t 118 (E7 .u32 (P++b++S))/\Only t w wr/\
     e (b.length=m+3/\Lo b/\(∀l,k<=l->b.getD l 0=M.getD l 0)/\(val (b.take k):Int)=val (M.take k)-g*val (v.take k)+n*pw k)) (fun _ i _=>m+2-(intOf i).toNat)
    case atStart=>exact⟨0,M,0,q _,rfl,rfl,by omega,by omega,hr,aH,ab.out,Z.out,fun _ _=>rfl,by simp[val]⟩
    case round=>
     obtain⟨i,b,n,hi,rfl,rfl,bm,bn,A,K,hrel⟩:=hrel;have aE:=ae.only K an;rcases p i (m+2) with ah|aI
     ·obtain⟨y,L,ai,aj,aQ⟩:=X7 (j:=i) R.out aE.at_ (oh J);obtain⟨x,Q,aL,aM,aN⟩:=A.mid hrel.out.2.1 (i:=i) (by have:=hrel.out.1;omega);have aP:=A.frozen (P.length+i);have ag:=zql E au ai aj;have bt:=ag.1;have bu:=ag.2;rcases Int.lt_or_le (x-(g*y+n)%1000000000) 0 with aJ|aK
      ·go_wp2;go_roundw
       case rel=>
        exact⟨i+1,b.set i (x-(g*y+n)%1000000000+1000000000).toNat,(g*y+n)/1000000000+1,by omega,by go_num,rfl,by omega,by omega,A.setMid (by have:=hrel.out.1;omega) _ _ og,K.setCell _ _,
         by rw[List.length_set];exact hrel.out.1,X8 hrel.out.2.1 og,fun l W=>by rw[zoi og];exact hrel.out.2.2.1 l og,
         zza (x:=x) (y:=y) (by have:=hrel.out.1;omega) (by rw[<-hrel.out.2.2.1 i (o _)];exact Q.out) L.out og og hrel.out.2.2.2⟩
       case measure=>simp[intOf];omega
      ·go_wp2;go_roundw
       case rel=>
        exact⟨i+1,b.set i (x-(g*y+n)%1000000000).toNat,(g*y+n)/1000000000,by omega,by go_num,rfl,by omega,by omega,A.setMid (by have:=hrel.out.1;omega) _ _ og,K.setCell _ _,
         by rw[List.length_set];exact hrel.out.1,X8 hrel.out.2.1 og,fun l W=>by rw[zoi og];exact hrel.out.2.2.1 l og,
         zza (x:=x) (y:=y) (by have:=hrel.out.1;omega) (by rw[<-hrel.out.2.2.1 i (o _)];exact Q.out) L.out og og hrel.out.2.2.2⟩
       case measure=>simp[intOf];omega
     ·obtain rfl:i=m+2:=og;obtain⟨x,Q,aL,aM,aN⟩:=A.mid hrel.out.2.1 (i:=m+2) (by have:=hrel.out.1;omega);have aP:=A.frozen (P.length+(m+2));have V:e (x=u0):=(by unfold e;rw[Q.out,hrel.out.2.2.1 _ (o _),<-av.out]);have N:=j hrel.out.2.2.2;have H:=j hrel.out.1;have T:=j hrel.out.2.1;have U:e ((val (b.take (m+2)):Int)<pw (m+2)):=(by have h:=zmo (znh T.out (m+2));rw[List.length_take,Nat.min_eq_left (oh H)] at h;unfold e;omega);rw[zkt (l:=v) (Nat.le_of_eq J.out)] at N;rcases Int.lt_or_le x n with aO|aO
      ·have bp:1<=g:=yir aa.out N.out U.out (oh V) aX.out E;go_wp2
       go_loopw [14,132] (fun aV i wr=>∃(k:Nat) (s:List Nat) (r:Int),k<=m+2/\i= .int .i64 (k:Int)/\aV= .int .u32 r/\0<=r/\r<=1/\Row wr t 118 (E7 .u32 (P++s++S))/\Only t w wr/\
        e (s.length=m+3/\Lo s/\(∀l,k<=l->s.getD l 0=b.getD l 0)/\(val (s.take k):Int)+r*pw k=val (b.take k)+val (v.take k))) (fun _ i _=>m+2-(intOf i).toNat)
       case atStart=>exact⟨0,b,0,q _,rfl,rfl,by omega,by omega,A,K,H.out,T.out,fun _ _=>rfl,by simp[val]⟩
       case round=>
        obtain⟨i,s,r,hi,rfl,rfl,bv,bw,D,O,hrel⟩:=hrel;have aG:=ae.only O an;rcases p i (m+2) with ah|aI
        ·obtain⟨y,L,ai,aj,aQ⟩:=X7 (j:=i) R.out aG.at_ (oh J);obtain⟨z,X,aR,aS,aT⟩:=D.mid hrel.out.2.1 (i:=i) (by have:=hrel.out.1;omega);have aU:=D.frozen (P.length+i);rcases Int.lt_or_le (z+y+r) 1000000000 with aJ|aK
         ·go_wp2;go_roundw
          case rel=>
           exact⟨i+1,s.set i (z+y+r).toNat,0,by omega,by go_num,rfl,by omega,by omega,D.setMid (by have:=hrel.out.1;omega) _ _ og,O.setCell _ _,
            by rw[List.length_set];exact hrel.out.1,X8 hrel.out.2.1 og,fun l W=>by rw[zoi og];exact hrel.out.2.2.1 l og,
            zyl (x:=z) (y:=y) (c:=r) (by have:=hrel.out.1;omega) (by rw[<-hrel.out.2.2.1 i (o _)];exact X.out) L.out og og hrel.out.2.2.2⟩
          case measure=>simp[intOf];omega
         ·go_wp2;go_roundw
          case rel=>
           exact⟨i+1,s.set i (z+y+r-1000000000).toNat,1,by omega,by go_num,rfl,by omega,by omega,D.setMid (by have:=hrel.out.1;omega) _ _ og,O.setCell _ _,
            by rw[List.length_set];exact hrel.out.1,X8 hrel.out.2.1 og,fun l W=>by rw[zoi og];exact hrel.out.2.2.1 l og,
            zyl (x:=z) (y:=y) (c:=r) (by have:=hrel.out.1;omega) (by rw[<-hrel.out.2.2.1 i (o _)];exact X.out) L.out og og hrel.out.2.2.2⟩
          case measure=>simp[intOf];omega
        ·obtain rfl:i=m+2:=og;obtain⟨z,X,aR,aS,aT⟩:=D.mid hrel.out.2.1 (i:=m+2) (by have:=hrel.out.1;omega);have aU:=D.frozen (P.length+(m+2));have F:=hrel.out.2.2.2;rw[zkt (l:=v) (Nat.le_of_eq J.out)] at F
         have hd:=yip aa.out N.out U.out (oh V) ak.out E al.out.1 F og
          (by have h:=zmo (znh hrel.out.2.1 (m+2));rw[List.length_take,Nat.min_eq_left (by have:=hrel.out.1;omega)] at h;omega)
         have I:=j hd;go_wp2;go_ret;refine⟨⟨s.set (m+2) 0,?_,D.setMid (by have:=hrel.out.1;omega) _ _ og,by rw[List.length_set];exact hrel.out.1,X8 hrel.out.2.1 og,?_⟩,O.setCell _ _⟩
         ·rw[I.out.2.1,Int.toNat_of_nonneg og];rfl
         ·rw[ybg hrel.out.1];have:=I.out.2.2;omega
      ·have hd:=yiq aa.out N.out og U.out (oh V) ak.out E al.out.2;have I:=j hd;go_wp2;go_ret;refine⟨⟨b.set (m+2) 0,?_,A.setMid (oh H) _ _ og,by rw[List.length_set];exact H.out,X8 T.out og,?_⟩,K.setCell _ _⟩
       ·rw[I.out.1,Int.toNat_of_nonneg E];rfl
       ·rw[ybg H.out];have:=I.out.2;omega
theorem ytp (a off g e:Nat) (P M S:List Nat) (B:Option Addr) (c d m:Nat) (v:List Nat) (w:f) (lo hi:Nat) (s:P.length=off) (o:g=m+3) (n:e=m+2) (hv:Lo v) (k:Lo M) (x:v.length=m+2) (l:M.length=m+3) (r:m<=8589934592)
 (p:P.length<=8589934592) (hc:m+3<=c) (t:1<=v.getD (m+1) 0) (q:val M<val v*1000000000) (hr:Row w a 118 (E7 .u32 (P++M++S))) (i:SV w lo hi B (E7 .u32 v)) (j:a<lo\/hi<=a):
 u Tryz.prog 205 #[.slice (some ⟨a,off,none⟩) g c,.slice B e d] w fun h w'=>(∃b,h= .returned (.int .u32 ((val M/val v:Nat):Int))/\Row w' a 118 (E7 .u32 (P++b++S))/\b.length=m+3/\Lo b/\val b=val M%val v)/\Only a w w':=by subst s;subst o;subst n;exact yts a P M S B c d m v w lo hi hv k x l r p hc t q hr i j
theorem yct {w:f} {x y:Nat} (ha:IsN w lo hi r x) (aZ:IsN w lo' E D y) (a5:hi<=w.heap.size) (a6:E<=w.heap.size) (Z:(A9 x).length<=4294967296) (b1:(A9 y).length<=4294967296) (ct:0<y):
 u Tryz.prog 197 #[r,D] w fun g w'=>(∃q br,g= .returned (.tuple #[q,br])/\IsN w' w.heap.size w'.heap.size q (x/y)/\IsN w' w.heap.size w'.heap.size br (x%y))/\a w.heap.size w w':=by
 obtain⟨N,V⟩:=C7 ha aZ;obtain⟨A,c,rfl,bJ,ck,b9⟩:=ha;obtain⟨B,d,rfl,bN,cl,aN⟩:=aZ;rcases p x y with aa|aa
 ·have aJ:e (x/y=0/\x%y=x):=⟨Nat.div_eq_of_lt aa,Nat.mod_eq_of_lt aa⟩;have ag:e (V8 x y= -1):=zqu aa;go_in;go_wp2_with fail;refine(zsw N.out V.out).mono ?_;rw[ag.out];rintro g bt ⟨rfl,n,rfl⟩;go_wp2_with fail;refine(zru (N.out.drewN n) Z).mono ?_;rintro g ak ⟨⟨v,rfl,hv⟩,S⟩;go_wp2_with fail;go_ret2;refine⟨⟨_,_,rfl,?_,?_⟩,((Below.refl _ w).trans (below_drewN (Below.refl _ _) n)).trans S⟩
  ·rw[aJ.out.1];exact IsN.zero
  ·rw[aJ.out.2];exact hv
 ·have ag:e (0<=V8 x y):=(by unfold e V8;split<;>(try split)<;>omega);by_cases ah:(A9 y).length=1
  ·obtain⟨bb,ob,rfl,_,_,X⟩:=aN (N0 (j:=0) og);obtain⟨aD,bX,cs,bY,b0⟩:=X7 (j:=0) (M5 y) X og;clear X;rw[Nat.add_zero] at b0
   have bj:aD=(y:Int):=by
    rw[bX.out];have h:=T7 y;match bP:A9 y,ah with
    |[z],_=>rw[bP] at h;simp[val] at h;simp[h]
   have bv:=j bj;have bZ:1<=aD:=og;clear bj;have b8:=j ah;have cg:(A9 y).length<=1:=og;have ch:1<=(A9 y).length:=og;clear ah;go_in;go_wp2_with fail;refine(zsw N.out V.out).mono ?_;generalize V8 x y=sg at*;have bV:=ag.out;rintro g bt ⟨rfl,n,rfl⟩;go_wp2_with fail;refine(yoe (N.out.drewN n) a5 Z bZ bY).mono ?_;rintro g ak ⟨⟨v,cB,rfl,bU,cr,bT,hv⟩,S⟩;go_wp2_with fail;refine(yej _ _ bU og).mono ?_;rintro g aC ⟨⟨cC,rfl,bf⟩,P⟩;go_wp2_with fail;go_ret2;have bm:aD.toNat=y:=oh bv;rw[bT.out,bm] at bf;rw[bm] at hv;have T:a w.heap.size w ak:=(below_drewN (Below.refl _ w) n).trans S;have ab:=T.size;have bn:=P.size;exact⟨⟨_,_,rfl,(hv.below P (o _)).wide (o _) bn,bf.wide ab (o _)⟩,T.trans (P.mono ab)⟩
  ·obtain⟨m,Y⟩:∃m,(A9 y).length=m+2:=(by refine⟨(A9 y).length-2,?_⟩;have:(A9 y).length≠0:=(by rw[ne_eq,lim_nil_iff];omega);omega);obtain⟨k,aj⟩:∃k,(A9 x).length=m+2+k:=⟨(A9 x).length-(m+2),by have:=Y5 aa;omega⟩;rw[Y] at bN b1;rw[aj] at bJ Z;have cj:(((m:Int)+2)==1)=false:=beq_eq_false_iff_ne.2 og;obtain⟨bb,ob,rfl,_,_,X⟩:=aN (N0 (j:=m+1) og);obtain⟨W,a0,cf,bK,bM⟩:=X7 (j:=m+1) (M5 y) X og;clear X ah;have bL:1<=W:=(by have:=ypc (M5 y) Y (by rw[T7];exact lim_len_lt.1 og);have:=a0.out;omega);have hF:=yva (M5 y) Y a0.out bL bK;have bB:=hF.1;have aq:=hF.2.1;have aE:=j hF.2.2;clear hF;have aI:e (val (A9 x)*(1000000000/(W+1)).toNat<pw (m+2+k+1)):=(by have O:=zrz x;rw[aj] at O;rw[T7,e,zkm,Nat.mul_comm 1000000000];exact Nat.lt_of_le_of_lt (Nat.mul_le_mul_left x (show(1000000000/(W+1)).toNat<=1000000000 by omega)) (Nat.mul_lt_mul_of_pos_right O og));obtain⟨an,af⟩:=C7 aj Y;clear aj Y;rw[an.out] at N⊢;rw[af.out] at V⊢;go_in;go_wp2_with fail;refine(zsw N.out V.out).mono ?_;generalize V8 x y=sg at*;have bV:=ag.out;rintro g bt ⟨rfl,n,rfl⟩;go_wp2_with fail;have aO:0<=1000000000/(W+1):=og;rw[T7] at aE aI;generalize aP:1000000000/(W+1)=ac at*;have b7:=j aP;clear aP;refine(yoy (N.out.drewN n) a5 (m+2+k+1) og (by rw[an.out];omega) og aO aq aI.out).mono ?_;rintro g ak ⟨⟨J,bw,rfl,bE,K,aQ,aR,aS⟩,S⟩;have U:=j (s aQ (s aR aS));clear aQ aR aS;have T:a w.heap.size w ak:=(below_drewN (Below.refl _ w) n).trans S;have ab:=T.size;have bF:=K.lt;go_wp2_with fail;refine(yoy (V.out.below T a6) (G a6 ab) (m+2) og (by rw[af.out];omega) og aO aq aE.out).mono ?_;rintro g aC ⟨⟨ad,l,rfl,cc,Q,aT,aU,aV⟩,P⟩;have L:=j (s aT (s aU aV));clear aT aU aV;have bd:=K.below P bF;clear K;have a2:a w.heap.size w aC:=T.trans (P.mono ab);have bn:=a2.size;have cd:=Q.lt;go_wp2_with (at_make;refine zuz W5 rfl _ _ rfl (k+1) rfl rfl og og og ?_;intro I b3 bC R ai cw);have bG:w.heap.size<=J:=bE;have ca:aC.heap.size<=I:=oh bC;have a1:a w.heap.size w b3:=a2.trans (ai.mono og);have M:e (val l=y*ac.toNat/\0<val l/\val l<=pw (m+2)/\1<=l.getD (m+1) 0):=by have O:=L.out.2.2;have bA:pw (m+1)<=y:=lim_len_lt.1 (by rw[af.out];omega);have aM:y*1<=y*ac.toNat:=Nat.mul_le_mul_left y og;refine⟨O,by omega,?_,ypc L.out.2.1 L.out.1 og⟩;have:=zmo L.out.2.1;rw[L.out.1] at this;omega
   go_loopw [12] (fun H wr=>∃(i:Nat) (b t:List Nat),i<=k+1/\H= .int .i64 ((i:Int)-1)/\Row wr J 118 (E7 .u32 b)/\Row wr ad 118 (E7 .u32 l)/\Row wr I 118 (E7 .u32 t)/\a w.heap.size w wr/\
    e (b.length=m+2+k+1/\Lo b/\t.length=k+1/\Lo t/\(∀H,H<i->t.getD H 0=0)/\val (b.drop i)<val l/\val b+val l*val t=x*ac.toNat)) (fun H _=>(intOf H+1).toNat)
   case atStart=>
    refine⟨k+1,bw,_,o _,zsz og,bd.below ai og,Q.below ai og,R,a1,U.out.1,U.out.2.1,by simp,ztd _,?_,?_,?_⟩
    ·intro H _;rw[C,List.getElem?_replicate];split<;>rfl
    ·rw[M.out.1];exact ytu U.out.1 U.out.2.2 (by have:=zrz x;rw[an.out] at this;exact this) (lim_len_lt.1 (by rw[af.out];omega)) og
    ·rw[U.out.2.2,ybi (l:=List.replicate (k+1) 0) (fun x Z=>(List.mem_replicate.1 Z).2),Nat.mul_zero,Nat.add_zero]
   case round=>
    clear bM bd Q R S P ai a1;obtain⟨i,b,t,hi,rfl,K,Q,R,az,hrel⟩:=hrel;rcases i with _|i
    ·have au:val b<val l:=(by have:=hrel.out.2.2.2.2.2.1;rw[List.drop_zero] at this;exact this);have av:val b+val l*val t=x*ac.toNat:=hrel.out.2.2.2.2.2.2;rw[M.out.1] at au av;have a4:=yis og au av
     have aL:e (val (b.take (m+2))=val b):=by
      have O:=zrn b (m+2) (by have:=hrel.out.1;omega);rcases Nat.eq_zero_or_pos (val (b.drop (m+2))) with ao|ao
      ·rw[ao,Nat.mul_zero,Nat.add_zero] at O;exact O.symm
      ·have:=Nat.mul_le_mul_left (pw (m+2)) ao;have bA:=M.out.2.2.1;have aM:=hrel.out.2.2.2.2.2.1;rw[List.drop_zero] at aM;omega
     have aH:=j a4;clear au av a4;go_wp2_with fail
     have bI:IsL .u32 wr J (J+1) (.slice (some ⟨J,0,none⟩) (m+2) (m+2+k+1)) (b.take (m+2)):=
      ⟨_,_,by rw[List.length_take,Nat.min_eq_left (by have:=hrel.out.1;omega)],by rw[List.length_take];omega,by unfold maxLen;omega,by rw[zyo];exact K.sv.take _⟩
     refine(ype bI (znh hrel.out.2.1 _)).mono ?_;rintro g b4 ⟨⟨cD,rfl,bg⟩,rfl⟩;rw[aL.out] at bg;have cb:=K.lt;go_wp2_with fail;refine(yoe bg og (by have:=yxx (znh hrel.out.2.1 (m+2));rw[aL.out,List.length_take] at this;omega) bB aq).mono ?_;rintro g b5 ⟨⟨cE,cA,rfl,_,_,_,bh⟩,ay⟩;rw[aH.out.2] at bh;go_wp2_with fail;have be:=R.below ay R.lt;have bp:=az.size;have cx:=ay.size;have bH:IsL .u32 b5 I (I+1) (.slice (some ⟨I,0,none⟩) (k+1) (k+1)) t:=⟨_,_,by rw[hrel.out.2.2.1],by have:=hrel.out.2.2.1;omega,by unfold maxLen;omega,be.sv⟩;refine(ype bH hrel.out.2.2.2.1).mono ?_;rintro g cG ⟨⟨cF,rfl,bi⟩,rfl⟩;rw[aH.out.1] at bi;have bD:=be.lt;go_wp2_with fail;go_ret2;exact⟨⟨_,_,rfl,bi.wide og bD,bh.wide bp (o _)⟩,az.trans (ay.mono bp)⟩
    ·have a3:=yit hrel.out.2.1 (j:=i) (n:=m+2) (by have:=hrel.out.1;omega) M.out.2.2.1 hrel.out.2.2.2.2.2.1;have aG:=j a3;clear a3;rw[show(((i+1:Nat):Int)-1)=(i:Int) from by omega];have a9:Row wr J 118 (E7 .u32 (b.take i++(b.drop i).take (m+2+1)++b.drop (i+(m+2)+1))):=(by have g:b.take i++(b.drop i).take (m+2+1)++b.drop (i+(m+2)+1)=b:=(by rw[List.append_assoc,show i+(m+2)+1=i+(m+2+1) by omega,<-List.drop_drop,List.take_append_drop,List.take_append_drop]);rw[g];exact K);go_wp2_with fail
     refine(ytp J i _ _ (b.take i) ((b.drop i).take (m+2+1)) (b.drop (i+(m+2)+1)) _ _ _ m l wr ad (ad+1) (by rw[List.length_take];have:=hrel.out.1;omega) og og L.out.2.1 (znh (zxe hrel.out.2.1 _) _) L.out.1
      (by rw[List.length_take,List.length_drop];have:=hrel.out.1;omega) og (by rw[List.length_take];omega) og M.out.2.2.2 aG.out.1 a9 Q.sv og).mono ?_
     rintro g b4 ⟨⟨bx,rfl,bQ,aW,aX,aY⟩,ar⟩;have ae:=j (s aW (s aX aY));clear aW aX aY;have bR:=Q.only ar og;have aA:=R.only ar og;have bO:=az.trans (ar.below bG);have aK:e (val ((b.drop i).take (m+2+1))/val l<1000000000):=Nat.div_lt_of_lt_mul (by have:=aG.out.1;exact this);generalize a7:val ((b.drop i).take (m+2+1))/val l=aB at*;have bu:=j a7;clear a7;generalize a8:(aB:Int)=bq at*;have al:=j a8;clear a8;have cn:0<=bq:=oh al;have cq:bq<=999999999:=zli al aK;obtain⟨z,cu,cv,cy⟩:=aA.num (i:=i) (by rw[hrel.out.2.2.1];exact hi);have cz:=aA.frozen i;clear K a9 Q R;go_wp2;go_roundw
     case rel=>
      have hst:=ytv hrel.out.2.1 (j:=i) (n:=m+2) (M':=bx) (Lq:=t) (by have:=hrel.out.1;omega) M.out.2.2.1 M.out.2.1 hrel.out.2.2.2.2.2.1 ae.out.2.2 ae.out.1 (by rw[hrel.out.2.2.1];exact hi) (hrel.out.2.2.2.2.1 i og) hrel.out.2.2.2.2.2.2;rw[bu.out] at hst;refine⟨i,_,t.set i aB,by omega,rfl,bQ.far (by show J≠I;omega) _,bR.far (by show ad≠I;omega) _,aA.setNum i aB _ al.out.symm,bO.setCell (by show w.heap.size<=I;omega) _,?_,?_,?_,?_,?_,hst.1,hst.2⟩
      ·simp only[F,List.length_take,List.length_drop,ae.out.1];have:=hrel.out.1;omega
      ·rw[lo_append,lo_append];exact⟨⟨znh hrel.out.2.1 _,ae.out.2.1⟩,zxe hrel.out.2.1 _⟩
      ·rw[List.length_set];exact hrel.out.2.2.1
      ·exact X8 hrel.out.2.2.2.1 aK.out
      ·intro H cm;rw[zoi og];exact hrel.out.2.2.2.2.1 H og
     case measure=>simp[intOf]
def N2 (l:List Nat):Int:=if 1024<l.length then 4 else if l.any (fun x=>decide (1000000000<=x)) then 3 else if l.getLastD 1=0 then 3 else 0
theorem yhx (h:1024<l.length):N2 l=4:=by unfold N2;rw[if_pos h]
theorem yhv (h:¬1024<l.length) {x:Nat} (b:x∈l) (a:1000000000<=x):N2 l=3:=by unfold N2;rw[if_neg h,if_pos];rw[List.any_eq_true];exact⟨x,b,by simpa using a⟩
theorem ycn (h:¬1024<l.length) (b:Lo l):N2 l=if l.getLastD 1=0 then 3 else 0:=by unfold N2;rw[if_neg h,if_neg];rw[List.any_eq_true];rintro⟨x,c,a⟩;have:=b x c;simp at a;omega
theorem zrt (h:N2 l=0):l.length<=1024/\Lo l/\l=A9 (val l):=by
 unfold N2 at h;split at h
 ·omega
 ·split at h
  ·omega
  ·rename_i f c;split at h
   ·omega
   ·rename_i d
    have b:Lo l:=by
     intro x e;rcases p x 1000000000 with a|a
     ·exact a
     ·exact absurd (List.any_eq_true.2 ⟨x,e,by simpa using a⟩) c
    exact⟨by omega,b,(yea b d).symm⟩
theorem yhw (h:(A9 n).length<=1024):N2 (A9 n)=0:=by rw[ycn og (M5 n),if_neg (ywy n)]
theorem ykp (h:0<l.length):l.getLastD 1=l.getD (l.length-1) 0:=by rw[List.getLastD_eq_getLast?,List.getLast?_eq_getElem?,C,d og];rfl
theorem yjo (h:k<l.length):l.getD k 0∈l:=by rw[C,d h];exact List.getElem_mem h
theorem ylf (h:∀a,a<l.length->l.getD a 0<1000000000):Lo l:=by intro x c;obtain⟨a,b,rfl⟩:=List.getElem_of_mem c;have:=h a b;rw[C,d b] at this;exact this
theorem ztx {w:f} (ha:IsL .u32 w lo hi r l):
 u Tryz.prog 189 #[r] w fun o w'=>o= .returned (.int .i64 (N2 l))/\w=w':=by
 obtain⟨A,c,rfl,hc,I,y⟩:=ha;by_cases t:1024<l.length
 ·have a:=j (yhx t);go_in;go_wp2;go_ret;exact⟨I9 a.out.symm,rfl⟩
 ·go_in;go_wp2;go_loop [10] (fun i=>∃k:Nat,k<=l.length/\i= .int .i64 k/\e (∀d,d<k->l.getD d 0<1000000000)) (fun i=>l.length-(intOf i).toNat);case atStart=>exact⟨0,q _,rfl,fun d E=>by omega⟩
  case round=>
   obtain⟨k,J,rfl,s⟩:=hrel;by_cases n:k<l.length
   ·obtain⟨b,off,rfl,_,_,g⟩:=y (N0 (j:=k) n);obtain⟨x,m,F,D⟩:=zoe (j:=k) g n;clear g;rcases Int.lt_or_le x 1000000000 with G|G
    ·go_wp2;go_round
     case rel=>
      refine⟨k+1,n,by go_num,?_⟩;intro d E;rcases p d k with h|h
      ·exact s.out d h
      ·obtain rfl:d=k:=og;have:=m.out;omega
     case measure=>simp[intOf];omega
    ·have a:=j (yhv t (yjo n) (oh m));go_wp2;go_ret;exact⟨I9 a.out.symm,rfl⟩
   ·obtain rfl:k=l.length:=og;have z:=j (ycn t (ylf s.out));clear s;by_cases C:0<l.length
    ·obtain⟨b,off,rfl,_,_,g⟩:=y (N0 (j:=l.length-1) og);obtain⟨x,m,F,D⟩:=zoe (j:=l.length-1) g og;clear g;have B:=j (ykp C);by_cases v:x=0
     ·subst v;have a:e (N2 l=3):=(by unfold e;rw[z.out,if_pos];rw[B.out];have:=m.out;omega);go_wp2;go_ret;exact⟨I9 a.out.symm,rfl⟩
     ·have H:(x==0)=false:=beq_eq_false_iff_ne.2 v;have a:e (N2 l=0):=(by unfold e;rw[z.out,if_neg];rw[B.out];have:=m.out;omega);clear v;go_wp2;go_ret;exact⟨I9 a.out.symm,rfl⟩
    ·have o:l=[]:=List.eq_nil_of_length_eq_zero og;subst o;(have a:e (N2 []=0):=by show N2 []=0;decide);go_wp2;go_ret;exact⟨I9 a.out.symm,rfl⟩
theorem IsL.alloc {k:IntKind} {w:f} (h:IsL k w lo hi v l) (b:hi<=w.heap.size) (a:Obj):IsL k (w.alloc a) lo hi v l:=
 h.below ((Below.refl _ _).alloc (o _) a) b
theorem IsN.alloc {w:f} (h:IsN w lo hi v n) (b:hi<=w.heap.size) (a:Obj):IsN (w.alloc a) lo hi v n:=IsL.alloc h b a
theorem IsL.isN {w:f} (h:IsL .u32 w lo hi v l) (hc:N2 l=0):IsN w lo hi v (val l):=by unfold IsN;rw[<-(zrt hc).2.2];exact h
theorem zyq (hc:N2 l=0):(A9 (val l)).length<=1024:=by rw[<-(zrt hc).2.2];exact(zrt hc).1
theorem yum {a:List Nat} (g:a.length=b.length) (h:∀c,c<a.length->a.getD c 0=b.getD c 0):a=b:=by apply List.ext_getElem g;intro c e f;have:=h c e;rw[C,C,d e,d f] at this;exact this
theorem ycc {w:f} {a:List Nat} (ha:IsL .u32 w lo hi r a) (v:IsL .u32 w lo' E D b):
 u Tryz.prog 79 #[r,D] w fun L w'=>L= .returned (.bool (decide (a=b)))/\Dr w w':=by
 have P:=ha.length_le;have Q:=v.length_le;unfold maxLen at P Q;obtain⟨A,c,rfl,_,_,N⟩:=ha;obtain⟨B,d,rfl,_,_,O⟩:=v;by_cases o:a.length=b.length
 ·have M:a.length<=b.length:=og;have S:b.length<=a.length:=og;have J:=j o;clear o;go_in;go_wp2;go_loopw [5] (fun i wr=>∃k:Nat,k<=a.length/\i= .int .i64 (k:Int)/\Dr w wr/\e (∀g,g<k->a.getD g 0=b.getD g 0)) (fun i _=>a.length-(intOf i).toNat);case atStart=>exact⟨0,q _,rfl,Dr.refl _,fun g R=>by omega⟩
  case round=>
   obtain⟨k,U,rfl,⟨n,rfl⟩,t⟩:=hrel;rcases p k a.length with s|T
   ·obtain⟨ba,oa,rfl,_,_,C⟩:=N (N0 (j:=k) s);obtain⟨bb,ob,rfl,_,_,F⟩:=O (N0 (j:=k) (G s M));obtain⟨x,H,V,W⟩:=zoe (j:=k) C s;obtain⟨y,I,X,Y⟩:=zoe (j:=k) F og;clear C F;by_cases m:x=y
    ·have z:(x !=y)=false:=(by simp[m]);have K:=j m;clear m;go_wp2;go_quiet (fail);go_wp2;go_roundw
     case rel=>
      refine⟨k+1,by omega,by go_num,⟨_,rfl⟩,fun g R=> ?_⟩;rcases p g k with h|h
      ·exact t.out g h
      ·obtain rfl:g=k:=og;have:=H.out;have:=I.out;have:=K.out;omega
     case measure=>simp[intOf];omega
    ·have z:(x !=y)=true:=bne_iff_ne.2 m;have l:e (decide (a=b)=false):=(by simp only[e,decide_eq_false_iff_not];rintro rfl;have:=H.out;have:=I.out;omega);clear m;go_wp2;go_quiet (fail);go_wp2;go_ret;exact⟨zpx l.out.symm,((Dr.refl w).drewN n).drewN _⟩
   ·obtain rfl:k=a.length:=og;have l:e (decide (a=b)=true):=(by simp only[e,decide_eq_true_eq];exact yum J.out t.out);go_wp2;go_ret;exact⟨zpx l.out.symm,⟨_,rfl⟩⟩
 ·have z:(((a.length:Int)) !=(b.length:Int))=true:=(by rw[bne_iff_ne];omega);have l:e (decide (a=b)=false):=(by simp only[e,decide_eq_false_iff_not];rintro rfl;exact o rfl);clear o;go_in;go_wp2;go_ret;exact⟨zpx l.out.symm,Dr.refl _⟩
theorem yro {w X:f} (h:a w.heap.size w X):a w.heap.size w X.drew:=C8 h (L9 X)
theorem bl {a:Prop} (h:a:=by(repeat(first|exact _root_.Go.RowKit.Below.refl _ _|assumption|refine yro ?_|refine below_drewN ?_ _|refine C8 ?_ Y0));(first|done|fail)):a:=h
theorem uQ (w':f) {w:f} {q:Rat} (h:e (IsQ w (C6 w) v q)) (b:a w.heap.size w w':=by exact bl):IsQ w' (C6 w') v q:=IsQ.stb.next h.out b
theorem uV (w':f) {w:f} {l:List Raw} (h:e (IsV w (C6 w) v l)) (b:a w.heap.size w w':=by exact bl):IsV w' (C6 w') v l:=IsV.stb.next h.out b
theorem uM (w':f) {w:f} {l:List (List Raw)} (h:e (IsM w (C6 w) v l)) (b:a w.heap.size w w':=by exact bl):IsM w' (C6 w') v l:=IsM.stb.next h.out b
theorem uK (w':f) {w:f} {k:IntKind} (h:e (IsK k w (C6 w) v l)) (b:a w.heap.size w w':=by exact bl):IsK k w' (C6 w') v l:=IsK.stb.next h.out b
theorem uF (w':f) {w:f} {k:IntKind} (h:e (IsK k w (I8 n w) v l)) (b:a w.heap.size w w':=by exact bl):IsK k w' (I8 n w') v l:=IsK.stb.fresh h.out b
theorem uN (w':f) {w:f} (h:e (IsN w 0 w.heap.size v n)) (b:a w.heap.size w w':=by exact bl):IsN w' 0 w'.heap.size v n:=IsN.next h.out b
theorem uR (w':f) {w:f} {b:List Value} (h:e (Row w g t b)) (c:a w.heap.size w w':=by exact bl):Row w' g t b:=Row.next h.out c
theorem uB (w':f) {w b:f} (h:e (a w.heap.size w b)) (c:a b.heap.size b w':=by exact bl):a w.heap.size w w':=C8 h.out c
theorem uS (w':f) {w:f} (h:e (n<=w.heap.size)) (b:a w.heap.size w w':=by exact bl):n<=w'.heap.size:=yaz h.out b
theorem uU (w':f) {w:f} (h:e (Bru w)) (b:a w.heap.size w w':=by exact bl):Bru w':=Bru.next h.out b
theorem zrg {w:f} {x:Nat} (ha:IsN w lo hi r x):
 u Tryz.prog 188 #[r] w fun n w'=>n= .returned (.bool (decide (x=1)))/\w=w':=by
 obtain⟨A,c,rfl,hc,_,o⟩:=ha;generalize m:A9 x=l at*;have d:=j m;clear m;by_cases b:l.length=1
 ·obtain⟨ba,oa,rfl,_,_,k⟩:=o (N0 (j:=0) og);obtain⟨y,g,s,q⟩:=zoe (j:=0) k og;clear k
  obtain⟨z,rfl⟩:∃z,l=[z]:=by
   match l,b with
   |[z],_=>exact⟨z,rfl⟩
  simp only[List.getD_cons_zero] at g;rw[Nat.add_zero] at q;by_cases i:y=1
  ·have a:e (decide (x=1)=true):=(by have:=g.out;obtain rfl:z=1:=og;have hv:=T7 x;rw[d.out] at hv;simp[val] at hv;simp[e,hv]);subst i;clear b;go_in;go_wp2;go_ret;exact⟨zpx a.out.symm,rfl⟩
  ·have a:e (decide (x=1)=false):=(by have:=g.out;have hv:=T7 x;rw[d.out] at hv;simp[val] at hv;simp[e];omega);have p:(y==1)=false:=(by simpa using i);clear b;go_in;go_wp2;go_ret;exact⟨zpx a.out.symm,rfl⟩
 ·have p:((l.length:Int)==1)=false:=(by simp;omega);have a:e (decide (x=1)=false):=(by simp only[e,decide_eq_false_iff_not];rintro rfl;have h:=d.out;rw[zkv] at h;subst h;simp at b);go_in;go_wp2;go_ret;exact⟨zpx a.out.symm,rfl⟩
theorem ydb {a:Nat} (c:a%2=1) (b v:Nat):Nat.gcd a (2^b*v)=Nat.gcd a v:=by have h:Nat.Coprime a (2^b):=(by apply Nat.Coprime.pow_right;unfold Nat.Coprime;rw[Nat.gcd_comm,Nat.gcd_rec,c];rfl);exact Nat.Coprime.gcd_mul_left_cancel_right v h.symm
theorem yzw {a b:Nat} (h:a|||b=2^k*(2*m+1)):∃c d,a=2^k*c/\b=2^k*d/\(c%2=1\/d%2=1):=by
 (have g:(a%2^k)|||(b%2^k)=0:=by rw[<-Nat.or_mod_two_pow,h];exact Nat.mul_mod_right _ _);have ha:a%2^k=0:=(by have:=Nat.left_le_or (n:=a%2^k) (m:=b%2^k);omega);have f:b%2^k=0:=(by have:=Nat.right_le_or (n:=a%2^k) (m:=b%2^k);omega);refine⟨a/2^k,b/2^k,?_,?_,?_⟩
 ·rw[Nat.mul_comm,Nat.div_mul_cancel (Nat.dvd_of_mod_eq_zero ha)]
 ·rw[Nat.mul_comm,Nat.div_mul_cancel (Nat.dvd_of_mod_eq_zero f)]
 ·have e:(a|||b).testBit k=true:=(by rw[h,Nat.testBit_eq_decide_div_mod_eq,Nat.mul_div_cancel_left _ (Nat.pow_pos og)];simp);rw[Nat.testBit_or,Nat.testBit_eq_decide_div_mod_eq,Nat.testBit_eq_decide_div_mod_eq] at e;simpa using e
theorem zz1391 {d:Nat} (h:2^i*(2*c+1)=2^k*d):(d%2=1->d=2*c+1)/\∃e,d=2^e*(2*c+1):=by
 rcases p i k with a|a
 ·exfalso;obtain⟨t,rfl⟩:∃t,k=i+(t+1):=⟨k-i-1,by omega⟩;rw[Nat.pow_add,Nat.mul_assoc] at h;have:=Nat.eq_of_mul_eq_mul_left (Nat.pow_pos og) h;rw[Nat.pow_succ] at this;have f:2^t*2*d=2*(2^t*d):=(by rw[Nat.mul_comm (2^t) 2,Nat.mul_assoc]);omega
 ·obtain⟨t,rfl⟩:∃t,i=k+t:=⟨i-k,by omega⟩;rw[Nat.pow_add,Nat.mul_assoc] at h;have hd:=(Nat.eq_of_mul_eq_mul_left (Nat.pow_pos og) h).symm;refine⟨fun b=> ?_,t,hd⟩;rcases t with _|t
  ·rw[hd];simp
  ·rw[hd,Nat.pow_succ,Nat.mul_comm (2^t) 2,Nat.mul_assoc] at b;omega
theorem yrl {a b:Nat} (h:a|||b=2^k*(2*m+1)) (ha:a=2^i*(2*c+1)):Nat.gcd a b=2^k*Nat.gcd (2*c+1) b:=by
 obtain⟨o,p,e,g,l⟩:=yzw h;have n:(2*c+1)%2=1:=og;have f:=zz1391 (ha.symm.trans e);rw[e,g,Nat.gcd_mul_left,ydb n];congr 1;rcases l with d|d
 ·rw[f.1 d]
 ·obtain⟨q,j⟩:=f.2;rw[j,Nat.gcd_comm,ydb d,Nat.gcd_comm]
theorem yrm {A B e a:Nat} (c:A%2=1) (d:B=2^e*(2*n+1)) (b:Nat.gcd A B=a):
 (2*n+1<A->Nat.gcd (2*n+1) (A-(2*n+1))=a)/\(A<=2*n+1->Nat.gcd A (2*n+1-A)=a):=by
 rw[d,ydb c] at b;refine⟨fun h=> ?_,fun h=> ?_⟩
 ·rw[Nat.gcd_sub_self_right og,Nat.gcd_comm];exact b
 ·rw[Nat.gcd_sub_self_right h];exact b
theorem zz1455 {x:Nat} (h:x=2^k*(2*m+1)):x/2^k=2*m+1:=by rw[h,Nat.mul_div_cancel_left _ (Nat.pow_pos og)]
theorem ylw {x:Nat} (h:x=2^k*(2*m+1)):2*m+1<=x:=by rw[h];exact Nat.le_mul_of_pos_left _ (Nat.pow_pos og)
end Go.Proofs.YtpbilanpeioonaaGreatDoor
