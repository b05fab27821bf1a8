/-
 The contract of package long's digit.
-/
import Derived.Test.YtlhhbccgfkhflaaGreatDoorDwv03
namespace Go.Proofs.YtlhhbccgfkhflaaGreatDoor
open Go.RowKit
set_option linter.unusedVariables false
set_option maxRecDepth 100000
set_option maxHeartbeats 8000000
open _root_.Go.Lib renaming hid → j
open _root_.Nat renaming le_refl → o, le_trans → H, lt_or_ge → p, zero_le → u
open _root_.List renaming getD_eq_getElem?_getD → C, getElem?_eq_getElem → D, length_append → G
open _root_.And renaming intro → r
open _root_.Go renaming World → f, Calls → s
open _root_.Go.RowKit renaming Below → a, Hid → e
variable {M P S b l : List Nat} {c g hi F i k lo lo' m n : Nat} {t : TypeId} {v va E : Value}
theorem Row.mid {w:f} (h:Row w g t (F6 .u32 (P++M++S))) (a:Lo M) (hi:i<M.length):
 ∃x:Int,e (x=(M.getD i 0:Nat))/\0<=x/\x<=999999999/\w.cell? ⟨g,P.length+i,none⟩=some (.int .u32 x):=by refine⟨_,rfl,by omega,by have:=zpz a i;omega,?_⟩;rw[h.cell,zqo (by simp only[G];omega),ytw hi]
theorem Row.setMid {w:f} (h:Row w g t (F6 .u32 (P++M++S))) (hi:i<M.length) (n:Nat) (x:Int) (a:x=(n:Int)):
 Row (w.setCell ⟨g,P.length+i,none⟩ (.int .u32 x)) g t (F6 .u32 (P++M.set i n++S)):=by rw[<-zz1400 hi];exact h.setNum _ n x a
theorem yrr (t:Nat) (P M S:List Nat) (B:Option Addr) (c d m:Nat) (v:List Nat) (w:f) (lo hi:Nat) (hv:Lo v) (bh:Lo M) (bD:v.length=m+2) (bi:M.length=m+3) (bJ:m<=8589934592)
 (bG:P.length<=8589934592) (hc:m+3<=c) (bU:1<=v.getD (m+1) 0) (ah:val M<val v*1000000000) (hr:Row w t 140 (F6 .u32 (P++M++S))) (ae:SV w lo hi B (F6 .u32 v)) (an:t<lo\/hi<=t):
 s Tryz.prog 197 #[.slice (some ⟨t,P.length,none⟩) (m+3) c,.slice B (m+2) d] w fun bg w'=>(∃b,bg= .returned (.int .u32 ((val M/val v:Nat):Int))/\Row w' t 140 (F6 .u32 (P++b++S))/\b.length=m+3/\Lo b/\val b=val M%val v)/\Only t w w':=by
 obtain⟨R,Z,J,ab,be⟩:=hd5 hv bh bD bi ah;obtain⟨bb,ob,rfl,_,_,a1⟩:=ae (Y5 (j:=m+1) og);obtain⟨C,a5,bV,bX,bY⟩:=zkw (j:=m+1) R.out a1 og;obtain⟨Y,bC,ay,az,bZ⟩:=zkw (j:=m) R.out a1 og;obtain⟨u0,av,bM,bN,bO⟩:=hr.mid Z.out (i:=m+2) og;obtain⟨u1,bx,bP,bQ,bR⟩:=hr.mid Z.out (i:=m+1) og;obtain⟨u2,bB,a3,bA,bT⟩:=hr.mid Z.out (i:=m) og;have a4:1<=C:=oh a5;have aq:(val M:Int)=((u0*1000000000+u1)*1000000000+u2)*pw m+val (M.take m):=(by rw[zz1464 ab.out,av.out,bx.out,bB.out];simp only[Int.natCast_add,Int.natCast_mul];rfl);have ar:(val v:Int)=(C*1000000000+Y)*pw m+val (v.take m):=(by rw[zz1465 J.out,a5.out,bC.out];simp only[Int.natCast_add,Int.natCast_mul];rfl);have ao:(0:Int)<pw m:=(by have:=zst m;omega);have aZ:(val (M.take m):Int)<pw m:=(by have h:=zna (znj Z.out m);rw[List.length_take,Nat.min_eq_left (oh ab)] at h;omega);have a0:(val (v.take m):Int)<pw m:=(by have h:=zna (znj R.out m);rw[List.length_take,Nat.min_eq_left (oh J)] at h;omega);have a2:(val M:Int)<val v*1000000000:=oh be
 have a8:e (∀g a:Int,0<=g->g*C+a=u0*1000000000+u1->g*Y>a*1000000000+u2->(val M:Int)<g*val v):=
  fun g a aD G F=>yst ao og aZ aD G og aq ar
 have a6:e (∀g:Int,1000000000<=g->(val M:Int)<g*val v):=fun g h=>ysp og a2 h;have bf:e (∀g a:Int,g*C+a=u0*1000000000+u1->1000000000<=a->g<=999999999):=fun g a G F=>yss ao a0 og az a3 a4 G F a2 aq ar
 have a9:e (∀g a:Int,0<=g->g<=999999999->g*C+a=u0*1000000000+u1->(1000000000<=a\/g*Y<=a*1000000000+u2)->g*val v<=val M+val v):=
  fun g a aD G F ad=>ysq ao a0 og og ay az a3 a4 aD G F ad aq ar
 have bd:e ((val M:Int)<((u0*1000000000+u1)/C+1)*val v):=
  ysr ao og aZ ay bA (Int.ediv_nonneg og og) (Int.lt_ediv_add_one_mul_self _ og) aq ar
 have a7:e ((u0*1000000000+u1)/C*C+(u0*1000000000+u1)%C=u0*1000000000+u1/\0<=(u0*1000000000+u1)/C/\(u0*1000000000+u1)/C<=999999999999999999/\0<=(u0*1000000000+u1)%C/\(u0*1000000000+u1)%C<C):=
  ⟨Int.ediv_mul_add_emod _ _,Int.ediv_nonneg og og,Int.le_trans (Int.ediv_le_self _ og) og,Int.emod_nonneg _ og,Int.emod_lt_of_pos _ og⟩
 have aa:e ((val M:Int)=val (M.take (m+2))+pw (m+2)*u0):=(by rw[yaf (n:=m+2) (oh ab),av.out];simp[e]);have ak:e ((val v:Int)<=pw (m+2)):=(by have h:=zna R.out;rw[J.out] at h;unfold e;omega);have aX:e ((0:Int)<pw (m+2)):=(by have:=zst (m+2);unfold e;omega);go_in;go_wp2;go_quiet (fail);go_wp2;go_quiet (fail);go_wp2;go_loopw [7,8] (fun aW bE wr=>∃g a:Int,aW= .int .u64 g/\bE= .int .u64 a/\0<=g/\g<=999999999999999999/\0<=a/\a<=1999999999/\Dr w wr/\e (g*C+a=u0*1000000000+u1/\(val M:Int)<(g+1)*val v)) (fun aW _ _=>(intOf aW).toNat);case atStart=>have:=a7.out;exact⟨_,_,rfl,rfl,this.2.1,this.2.2.1,this.2.2.2.1,by omega,((Dr.refl w).drewN _).drewN _,this.1,bd.out⟩
 case round=>
  obtain⟨g,a,rfl,rfl,E,bH,bK,bL,⟨nn,rfl⟩,hrel⟩:=hrel
  have bj:(a<1000000000/\1000000000<=g)\/(a<1000000000/\g<=999999999/\a*1000000000+u2<g*Y)\/(1000000000<=a/\g<=999999999)\/(a<1000000000/\g<=999999999/\g*Y<=a*1000000000+u2):=by
   rcases Int.lt_or_le a 1000000000 with G|G
   ·rcases Int.lt_or_le g 1000000000 with F|F
    ·rcases Int.lt_or_le (a*1000000000+u2) (g*Y) with ad|ad
     ·exact .inr (.inl ⟨G,by omega,ad⟩)
     ·exact .inr (.inr (.inr ⟨G,by omega,ad⟩))
    ·exact .inl ⟨G,F⟩
   ·exact .inr (.inr (.inl ⟨G,bf.out g a hrel.out.1 G⟩))
  rcases bj with⟨aA,ac⟩|⟨aA,ac,aB⟩|hex
  ·go_wp2;go_quiet (fail);go_wp2;go_roundw;(case rel=>exact⟨g-1,a+C,by go_num,by go_num,by omega,by omega,by omega,by omega,⟨_,rfl⟩,by have:=hrel.out.1;rw[Int.sub_mul];omega,by have:=a6.out g ac;rw[Int.sub_add_cancel];exact this⟩);case measure=>simp[intOf];omega
  ·have af:=zqu E ac ay az;have bq:=af.1;have br:=af.2
   have bI:1<=g:=by
    rcases Int.lt_or_le g 1 with h|h
    ·have:g=0:=og;subst this;rw[Int.zero_mul] at aB;omega
    ·exact h
   have aY:decide ((1000000000:Int)<=g)=false:=(by simp;omega);go_wp2;go_quiet (fail);go_wp2;go_roundw;(case rel=>exact⟨g-1,a+C,by go_num,by go_num,by omega,by omega,by omega,by omega,⟨_,rfl⟩,by have:=hrel.out.1;rw[Int.sub_mul];omega,by have:=a8.out g a E hrel.out.1 aB;rw[Int.sub_add_cancel];exact this⟩);case measure=>simp[intOf];omega
  ·have au:g<=999999999:=og;have al:e (g*val v<=val M+val v/\(val M:Int)<(g+1)*val v):=⟨a9.out g a E au hrel.out.1 og,hrel.out.2⟩;have af:=zqu E au ay az;have bq:=af.1;have br:=af.2;rcases hex with⟨aA,ac⟩|⟨aA,ac,aB⟩
   ·have aY:decide (a<(1000000000:Int))=false:=(by simp;omega);go_wp2;go_quiet (fail);go_wp2;have aH:Only t w (w.drewN (nn+nq)):=(Only.refl t w).drewN _
    go_loopw [9,87] (fun aC i wr=>∃(k:Nat) (b:List Nat) (n:Int),k<=m+2/\i= .int .i64 (k:Int)/\aC= .int .u64 n/\0<=n/\n<=999999999/\Row wr t 140 (F6 .u32 (P++b++S))/\Only t w wr/\
     e (b.length=m+3/\Lo b/\(∀l,k<=l->b.getD l 0=M.getD l 0)/\(val (b.take k):Int)=val (M.take k)-g*val (v.take k)+n*pw k)) (fun _ i _=>m+2-(intOf i).toNat)
    case atStart=>exact⟨0,M,0,u _,rfl,rfl,by omega,by omega,hr,aH,ab.out,Z.out,fun _ _=>rfl,by simp[val]⟩
    case round=>
     obtain⟨i,b,n,hi,rfl,rfl,bm,bn,A,K,hrel⟩:=hrel;have aE:=ae.only K an;rcases p i (m+2) with ah|aI
     ·obtain⟨y,L,ai,aj,aQ⟩:=zkw (j:=i) R.out aE.at_ (oh J);obtain⟨x,Q,aL,aM,aN⟩:=A.mid hrel.out.2.1 (i:=i) (by have:=hrel.out.1;omega);have aP:=A.frozen (P.length+i);have ag:=zqu E au ai aj;have bt:=ag.1;have bu:=ag.2;rcases Int.lt_or_le (x-(g*y+n)%1000000000) 0 with aJ|aK
      ·go_wp2;go_roundw
       case rel=>
        exact⟨i+1,b.set i (x-(g*y+n)%1000000000+1000000000).toNat,(g*y+n)/1000000000+1,by omega,by go_num,rfl,by omega,by omega,A.setMid (by have:=hrel.out.1;omega) _ _ og,K.setCell _ _,
         by rw[List.length_set];exact hrel.out.1,Y3 hrel.out.2.1 og,fun l W=>by rw[zps og];exact hrel.out.2.2.1 l og,
         zxu (x:=x) (y:=y) (by have:=hrel.out.1;omega) (by rw[<-hrel.out.2.2.1 i (o _)];exact Q.out) L.out og og hrel.out.2.2.2⟩
       case measure=>simp[intOf];omega
      ·go_wp2;go_roundw
       case rel=>
        exact⟨i+1,b.set i (x-(g*y+n)%1000000000).toNat,(g*y+n)/1000000000,by omega,by go_num,rfl,by omega,by omega,A.setMid (by have:=hrel.out.1;omega) _ _ og,K.setCell _ _,
         by rw[List.length_set];exact hrel.out.1,Y3 hrel.out.2.1 og,fun l W=>by rw[zps og];exact hrel.out.2.2.1 l og,
         zxu (x:=x) (y:=y) (by have:=hrel.out.1;omega) (by rw[<-hrel.out.2.2.1 i (o _)];exact Q.out) L.out og og hrel.out.2.2.2⟩
       case measure=>simp[intOf];omega
     ·obtain rfl:i=m+2:=og;obtain⟨x,Q,aL,aM,aN⟩:=A.mid hrel.out.2.1 (i:=m+2) (by have:=hrel.out.1;omega);have aP:=A.frozen (P.length+(m+2));have V:e (x=u0):=(by unfold e;rw[Q.out,hrel.out.2.2.1 _ (o _),<-av.out]);have N:=j hrel.out.2.2.2;have H:=j hrel.out.1;have T:=j hrel.out.2.1;have U:e ((val (b.take (m+2)):Int)<pw (m+2)):=(by have h:=zna (znj T.out (m+2));rw[List.length_take,Nat.min_eq_left (oh H)] at h;unfold e;omega);rw[zln (l:=v) (Nat.le_of_eq J.out)] at N;rcases Int.lt_or_le x n with aO|aO
      ·have bp:1<=g:=ygr aa.out N.out U.out (oh V) aX.out E;go_wp2
       go_loopw [14,132] (fun aV i wr=>∃(k:Nat) (r:List Nat) (q:Int),k<=m+2/\i= .int .i64 (k:Int)/\aV= .int .u32 q/\0<=q/\q<=1/\Row wr t 140 (F6 .u32 (P++r++S))/\Only t w wr/\
        e (r.length=m+3/\Lo r/\(∀l,k<=l->r.getD l 0=b.getD l 0)/\(val (r.take k):Int)+q*pw k=val (b.take k)+val (v.take k))) (fun _ i _=>m+2-(intOf i).toNat)
       case atStart=>exact⟨0,b,0,u _,rfl,rfl,by omega,by omega,A,K,H.out,T.out,fun _ _=>rfl,by simp[val]⟩
       case round=>
        obtain⟨i,r,q,hi,rfl,rfl,bv,bw,D,O,hrel⟩:=hrel;have aG:=ae.only O an;rcases p i (m+2) with ah|aI
        ·obtain⟨y,L,ai,aj,aQ⟩:=zkw (j:=i) R.out aG.at_ (oh J);obtain⟨z,X,aR,aS,aT⟩:=D.mid hrel.out.2.1 (i:=i) (by have:=hrel.out.1;omega);have aU:=D.frozen (P.length+i);rcases Int.lt_or_le (z+y+q) 1000000000 with aJ|aK
         ·go_wp2;go_roundw
          case rel=>
           exact⟨i+1,r.set i (z+y+q).toNat,0,by omega,by go_num,rfl,by omega,by omega,D.setMid (by have:=hrel.out.1;omega) _ _ og,O.setCell _ _,
            by rw[List.length_set];exact hrel.out.1,Y3 hrel.out.2.1 og,fun l W=>by rw[zps og];exact hrel.out.2.2.1 l og,
            zxi (x:=z) (y:=y) (c:=q) (by have:=hrel.out.1;omega) (by rw[<-hrel.out.2.2.1 i (o _)];exact X.out) L.out og og hrel.out.2.2.2⟩
          case measure=>simp[intOf];omega
         ·go_wp2;go_roundw
          case rel=>
           exact⟨i+1,r.set i (z+y+q-1000000000).toNat,1,by omega,by go_num,rfl,by omega,by omega,D.setMid (by have:=hrel.out.1;omega) _ _ og,O.setCell _ _,
            by rw[List.length_set];exact hrel.out.1,Y3 hrel.out.2.1 og,fun l W=>by rw[zps og];exact hrel.out.2.2.1 l og,
            zxi (x:=z) (y:=y) (c:=q) (by have:=hrel.out.1;omega) (by rw[<-hrel.out.2.2.1 i (o _)];exact X.out) L.out og og hrel.out.2.2.2⟩
          case measure=>simp[intOf];omega
        ·obtain rfl:i=m+2:=og;obtain⟨z,X,aR,aS,aT⟩:=D.mid hrel.out.2.1 (i:=m+2) (by have:=hrel.out.1;omega);have aU:=D.frozen (P.length+(m+2));have F:=hrel.out.2.2.2;rw[zln (l:=v) (Nat.le_of_eq J.out)] at F
         have hd:=ygp aa.out N.out U.out (oh V) ak.out E al.out.1 F og
          (by have h:=zna (znj hrel.out.2.1 (m+2));rw[List.length_take,Nat.min_eq_left (by have:=hrel.out.1;omega)] at h;omega)
         have I:=j hd;go_wp2;go_ret;refine⟨⟨r.set (m+2) 0,?_,D.setMid (by have:=hrel.out.1;omega) _ _ og,by rw[List.length_set];exact hrel.out.1,Y3 hrel.out.2.1 og,?_⟩,O.setCell _ _⟩
         ·rw[I.out.2.1,Int.toNat_of_nonneg og];rfl
         ·rw[yae hrel.out.1];have:=I.out.2.2;omega
      ·have hd:=ygq aa.out N.out og U.out (oh V) ak.out E al.out.2;have I:=j hd;go_wp2;go_ret;refine⟨⟨b.set (m+2) 0,?_,A.setMid (oh H) _ _ og,by rw[List.length_set];exact H.out,Y3 T.out og,?_⟩,K.setCell _ _⟩
       ·rw[I.out.1,Int.toNat_of_nonneg E];rfl
       ·rw[yae H.out];have:=I.out.2;omega
   ·have aY:decide ((1000000000:Int)<=g)=false:=(by simp;omega);have bF:decide (a*1000000000+u2<g*Y)=false:=(by simp;omega);go_wp2;go_quiet (fail);go_wp2;have aH:Only t w (w.drewN (nn+nq)):=(Only.refl t w).drewN _
    go_loopw [9,87] (fun aC i wr=>∃(k:Nat) (b:List Nat) (n:Int),k<=m+2/\i= .int .i64 (k:Int)/\aC= .int .u64 n/\0<=n/\n<=999999999/\Row wr t 140 (F6 .u32 (P++b++S))/\Only t w wr/\
     e (b.length=m+3/\Lo b/\(∀l,k<=l->b.getD l 0=M.getD l 0)/\(val (b.take k):Int)=val (M.take k)-g*val (v.take k)+n*pw k)) (fun _ i _=>m+2-(intOf i).toNat)
    case atStart=>exact⟨0,M,0,u _,rfl,rfl,by omega,by omega,hr,aH,ab.out,Z.out,fun _ _=>rfl,by simp[val]⟩
    case round=>
     obtain⟨i,b,n,hi,rfl,rfl,bm,bn,A,K,hrel⟩:=hrel;have aE:=ae.only K an;rcases p i (m+2) with ah|aI
     ·obtain⟨y,L,ai,aj,aQ⟩:=zkw (j:=i) R.out aE.at_ (oh J);obtain⟨x,Q,aL,aM,aN⟩:=A.mid hrel.out.2.1 (i:=i) (by have:=hrel.out.1;omega);have aP:=A.frozen (P.length+i);have ag:=zqu E au ai aj;have bt:=ag.1;have bu:=ag.2;rcases Int.lt_or_le (x-(g*y+n)%1000000000) 0 with aJ|aK
      ·go_wp2;go_roundw
       case rel=>
        exact⟨i+1,b.set i (x-(g*y+n)%1000000000+1000000000).toNat,(g*y+n)/1000000000+1,by omega,by go_num,rfl,by omega,by omega,A.setMid (by have:=hrel.out.1;omega) _ _ og,K.setCell _ _,
         by rw[List.length_set];exact hrel.out.1,Y3 hrel.out.2.1 og,fun l W=>by rw[zps og];exact hrel.out.2.2.1 l og,
         zxu (x:=x) (y:=y) (by have:=hrel.out.1;omega) (by rw[<-hrel.out.2.2.1 i (o _)];exact Q.out) L.out og og hrel.out.2.2.2⟩
       case measure=>simp[intOf];omega
      ·go_wp2;go_roundw
       case rel=>
        exact⟨i+1,b.set i (x-(g*y+n)%1000000000).toNat,(g*y+n)/1000000000,by omega,by go_num,rfl,by omega,by omega,A.setMid (by have:=hrel.out.1;omega) _ _ og,K.setCell _ _,
         by rw[List.length_set];exact hrel.out.1,Y3 hrel.out.2.1 og,fun l W=>by rw[zps og];exact hrel.out.2.2.1 l og,
         zxu (x:=x) (y:=y) (by have:=hrel.out.1;omega) (by rw[<-hrel.out.2.2.1 i (o _)];exact Q.out) L.out og og hrel.out.2.2.2⟩
       case measure=>simp[intOf];omega
     ·obtain rfl:i=m+2:=og;obtain⟨x,Q,aL,aM,aN⟩:=A.mid hrel.out.2.1 (i:=m+2) (by have:=hrel.out.1;omega);have aP:=A.frozen (P.length+(m+2));have V:e (x=u0):=(by unfold e;rw[Q.out,hrel.out.2.2.1 _ (o _),<-av.out]);have N:=j hrel.out.2.2.2;have H:=j hrel.out.1;have T:=j hrel.out.2.1;have U:e ((val (b.take (m+2)):Int)<pw (m+2)):=(by have h:=zna (znj T.out (m+2));rw[List.length_take,Nat.min_eq_left (oh H)] at h;unfold e;omega);rw[zln (l:=v) (Nat.le_of_eq J.out)] at N;rcases Int.lt_or_le x n with aO|aO
      ·have bp:1<=g:=ygr aa.out N.out U.out (oh V) aX.out E;go_wp2
       go_loopw [14,132] (fun aV i wr=>∃(k:Nat) (r:List Nat) (q:Int),k<=m+2/\i= .int .i64 (k:Int)/\aV= .int .u32 q/\0<=q/\q<=1/\Row wr t 140 (F6 .u32 (P++r++S))/\Only t w wr/\
        e (r.length=m+3/\Lo r/\(∀l,k<=l->r.getD l 0=b.getD l 0)/\(val (r.take k):Int)+q*pw k=val (b.take k)+val (v.take k))) (fun _ i _=>m+2-(intOf i).toNat)
       case atStart=>exact⟨0,b,0,u _,rfl,rfl,by omega,by omega,A,K,H.out,T.out,fun _ _=>rfl,by simp[val]⟩
       case round=>
        obtain⟨i,r,q,hi,rfl,rfl,bv,bw,D,O,hrel⟩:=hrel;have aG:=ae.only O an;rcases p i (m+2) with ah|aI
        ·obtain⟨y,L,ai,aj,aQ⟩:=zkw (j:=i) R.out aG.at_ (oh J);obtain⟨z,X,aR,aS,aT⟩:=D.mid hrel.out.2.1 (i:=i) (by have:=hrel.out.1;omega);have aU:=D.frozen (P.length+i);rcases Int.lt_or_le (z+y+q) 1000000000 with aJ|aK
         ·go_wp2;go_roundw
          case rel=>
           exact⟨i+1,r.set i (z+y+q).toNat,0,by omega,by go_num,rfl,by omega,by omega,D.setMid (by have:=hrel.out.1;omega) _ _ og,O.setCell _ _,
            by rw[List.length_set];exact hrel.out.1,Y3 hrel.out.2.1 og,fun l W=>by rw[zps og];exact hrel.out.2.2.1 l og,
            zxi (x:=z) (y:=y) (c:=q) (by have:=hrel.out.1;omega) (by rw[<-hrel.out.2.2.1 i (o _)];exact X.out) L.out og og hrel.out.2.2.2⟩
          case measure=>simp[intOf];omega
         ·go_wp2;go_roundw
          case rel=>
           exact⟨i+1,r.set i (z+y+q-1000000000).toNat,1,by omega,by go_num,rfl,by omega,by omega,D.setMid (by have:=hrel.out.1;omega) _ _ og,O.setCell _ _,
            by rw[List.length_set];exact hrel.out.1,Y3 hrel.out.2.1 og,fun l W=>by rw[zps og];exact hrel.out.2.2.1 l og,
            zxi (x:=z) (y:=y) (c:=q) (by have:=hrel.out.1;omega) (by rw[<-hrel.out.2.2.1 i (o _)];exact X.out) L.out og og hrel.out.2.2.2⟩
          case measure=>simp[intOf];omega
        ·obtain rfl:i=m+2:=og;obtain⟨z,X,aR,aS,aT⟩:=D.mid hrel.out.2.1 (i:=m+2) (by have:=hrel.out.1;omega);have aU:=D.frozen (P.length+(m+2));have F:=hrel.out.2.2.2;rw[zln (l:=v) (Nat.le_of_eq J.out)] at F
         have hd:=ygp aa.out N.out U.out (oh V) ak.out E al.out.1 F og
          (by have h:=zna (znj hrel.out.2.1 (m+2));rw[List.length_take,Nat.min_eq_left (by have:=hrel.out.1;omega)] at h;omega)
         have I:=j hd;go_wp2;go_ret;refine⟨⟨r.set (m+2) 0,?_,D.setMid (by have:=hrel.out.1;omega) _ _ og,by rw[List.length_set];exact hrel.out.1,Y3 hrel.out.2.1 og,?_⟩,O.setCell _ _⟩
         ·rw[I.out.2.1,Int.toNat_of_nonneg og];rfl
         ·rw[yae hrel.out.1];have:=I.out.2.2;omega
      ·have hd:=ygq aa.out N.out og U.out (oh V) ak.out E al.out.2;have I:=j hd;go_wp2;go_ret;refine⟨⟨b.set (m+2) 0,?_,A.setMid (oh H) _ _ og,by rw[List.length_set];exact H.out,Y3 T.out og,?_⟩,K.setCell _ _⟩
       ·rw[I.out.1,Int.toNat_of_nonneg E];rfl
       ·rw[yae H.out];have:=I.out.2;omega
theorem yrq (a off g e:Nat) (P M S:List Nat) (B:Option Addr) (c d m:Nat) (v:List Nat) (w:f) (lo hi:Nat) (t:P.length=off) (o:g=m+3) (n:e=m+2) (hv:Lo v) (k:Lo M) (x:v.length=m+2) (l:M.length=m+3) (r:m<=8589934592)
 (p:P.length<=8589934592) (hc:m+3<=c) (u:1<=v.getD (m+1) 0) (q:val M<val v*1000000000) (hr:Row w a 140 (F6 .u32 (P++M++S))) (i:SV w lo hi B (F6 .u32 v)) (j:a<lo\/hi<=a):
 s Tryz.prog 197 #[.slice (some ⟨a,off,none⟩) g c,.slice B e d] w fun h w'=>(∃b,h= .returned (.int .u32 ((val M/val v:Nat):Int))/\Row w' a 140 (F6 .u32 (P++b++S))/\b.length=m+3/\Lo b/\val b=val M%val v)/\Only a w w':=by subst t;subst o;subst n;exact yrr a P M S B c d m v w lo hi hv k x l r p hc u q hr i j
theorem ybo {w:f} {x y:Nat} (ha:IsN w lo hi va x) (a0:IsN w lo' F E y) (a6:hi<=w.heap.size) (a7:F<=w.heap.size) (aa:(A8 x).length<=4294967296) (b3:(A8 y).length<=4294967296) (cu:0<y):
 s Tryz.prog 189 #[va,E] w fun g w'=>(∃q bt,g= .returned (.tuple #[q,bt])/\IsN w' w.heap.size w'.heap.size q (x/y)/\IsN w' w.heap.size w'.heap.size bt (x%y))/\a w.heap.size w w':=by
 obtain⟨O,W⟩:=C7 ha a0;obtain⟨A,c,rfl,bK,cl,ca⟩:=ha;obtain⟨B,d,rfl,bO,cm,aO⟩:=a0;rcases p x y with ab|ab
 ·have aK:e (x/y=0/\x%y=x):=⟨Nat.div_eq_of_lt ab,Nat.mod_eq_of_lt ab⟩;have ah:e (zkf x y= -1):=zub ab;go_in;go_wp2_with fail;refine(zsh O.out W.out).mono ?_;rw[ah.out];rintro g bu ⟨rfl,n,rfl⟩;go_wp2_with fail;refine(zrg (O.out.drewN n) aa).mono ?_;rintro g al ⟨⟨v,rfl,hv⟩,T⟩;go_wp2_with fail;go_ret2;refine⟨⟨_,_,rfl,?_,?_⟩,((Below.refl _ w).trans (below_drewN (Below.refl _ _) n)).trans T⟩
  ·rw[aK.out.1];exact IsN.zero
  ·rw[aK.out.2];exact hv
 ·have ah:e (0<=zkf x y):=(by unfold e zkf;split<;>(try split)<;>omega);by_cases ai:(A8 y).length=1
  ·obtain⟨bb,ob,rfl,_,_,Y⟩:=aO (Y5 (j:=0) og);obtain⟨aE,bY,ct,bZ,b1⟩:=zkw (j:=0) (Y8 y) Y og;clear Y;rw[Nat.add_zero] at b1
   have bm:aE=(y:Int):=by
    rw[bY.out];have h:=Z6 y;match bQ:A8 y,ai with
    |[z],_=>rw[bQ] at h;simp[val] at h;simp[h]
   have bw:=j bm;have b0:1<=aE:=og;clear bm;have b9:=j ai;have ch:(A8 y).length<=1:=og;have cj:1<=(A8 y).length:=og;clear ai;go_in;go_wp2_with fail;refine(zsh O.out W.out).mono ?_;generalize zkf x y=sg at*;have bX:=ah.out;rintro g bu ⟨rfl,n,rfl⟩;go_wp2_with fail;refine(yme (O.out.drewN n) a6 aa b0 bZ).mono ?_;rintro g al ⟨⟨v,cC,rfl,bV,cs,bU,hv⟩,T⟩;go_wp2_with fail;refine(ydc _ _ bV og).mono ?_;rintro g aD ⟨⟨cD,rfl,bg⟩,Q⟩;go_wp2_with fail;go_ret2;have bn:aE.toNat=y:=oh bw;rw[bU.out,bn] at bg;rw[bn] at hv;have U:a w.heap.size w al:=(below_drewN (Below.refl _ w) n).trans T;have ac:=U.size;have bp:=Q.size;exact⟨⟨_,_,rfl,(hv.below Q (o _)).wide (o _) bp,bg.wide ac (o _)⟩,U.trans (Q.mono ac)⟩
  ·obtain⟨m,Z⟩:∃m,(A8 y).length=m+2:=(by refine⟨(A8 y).length-2,?_⟩;have:(A8 y).length≠0:=(by rw[ne_eq,lim_nil_iff];omega);omega);obtain⟨k,ak⟩:∃k,(A8 x).length=m+2+k:=⟨(A8 x).length-(m+2),by have:=zkn ab;omega⟩;rw[Z] at bO b3;rw[ak] at bK aa;have ck:(((m:Int)+2)==1)=false:=beq_eq_false_iff_ne.2 og;obtain⟨bb,ob,rfl,_,_,Y⟩:=aO (Y5 (j:=m+1) og);obtain⟨X,a1,cg,bL,bN⟩:=zkw (j:=m+1) (Y8 y) Y og;clear Y ai;have bM:1<=X:=(by have:=yne (Y8 y) Z (by rw[Z6];exact lim_len_lt.1 og);have:=a1.out;omega);have hF:=ytb (Y8 y) Z a1.out bM bL;have bC:=hF.1;have ar:=hF.2.1;have aG:=j hF.2.2;clear hF;have aJ:e (val (A8 x)*(1000000000/(X+1)).toNat<pw (m+2+k+1)):=(by have P:=zro x;rw[ak] at P;rw[Z6,e,zlj,Nat.mul_comm 1000000000];exact Nat.lt_of_le_of_lt (Nat.mul_le_mul_left x (show(1000000000/(X+1)).toNat<=1000000000 by omega)) (Nat.mul_lt_mul_of_pos_right P og));obtain⟨ao,ag⟩:=C7 ak Z;clear ak Z;rw[ao.out] at O⊢;rw[ag.out] at W⊢;go_in;go_wp2_with fail;refine(zsh O.out W.out).mono ?_;generalize zkf x y=sg at*;have bX:=ah.out;rintro g bu ⟨rfl,n,rfl⟩;go_wp2_with fail;have aP:0<=1000000000/(X+1):=og;rw[Z6] at aG aJ;generalize aQ:1000000000/(X+1)=ad at*;have b8:=j aQ;clear aQ;refine(ynb (O.out.drewN n) a6 (m+2+k+1) og (by rw[ao.out];omega) og aP ar aJ.out).mono ?_;rintro g al ⟨⟨K,bx,rfl,bF,L,aR,aS,aT⟩,T⟩;have V:=j (r aR (r aS aT));clear aR aS aT;have U:a w.heap.size w al:=(below_drewN (Below.refl _ w) n).trans T;have ac:=U.size;have bG:=L.lt;go_wp2_with fail;refine(ynb (W.out.below U a7) (H a7 ac) (m+2) og (by rw[ag.out];omega) og aP ar aG.out).mono ?_;rintro g aD ⟨⟨ae,l,rfl,cd,R,aU,aV,aW⟩,Q⟩;have M:=j (r aU (r aV aW));clear aU aV aW;have be:=L.below Q bG;clear L;have a3:a w.heap.size w aD:=U.trans (Q.mono ac);have bp:=a3.size;have cf:=R.lt;go_wp2_with (at_make;refine zvo zky rfl _ _ rfl (k+1) rfl rfl og og og ?_;intro J b4 bD S aj cx);have bH:w.heap.size<=K:=bF;have cb:aD.heap.size<=J:=oh bD;have a2:a w.heap.size w b4:=a3.trans (aj.mono og);have N:e (val l=y*ad.toNat/\0<val l/\val l<=pw (m+2)/\1<=l.getD (m+1) 0):=by have P:=M.out.2.2;have bB:pw (m+1)<=y:=lim_len_lt.1 (by rw[ag.out];omega);have aN:y*1<=y*ad.toNat:=Nat.mul_le_mul_left y og;refine⟨P,by omega,?_,yne M.out.2.1 M.out.1 og⟩;have:=zna M.out.2.1;rw[M.out.1] at this;omega
   go_loopw [12] (fun I wr=>∃(i:Nat) (b t:List Nat),i<=k+1/\I= .int .i64 ((i:Int)-1)/\Row wr K 140 (F6 .u32 b)/\Row wr ae 140 (F6 .u32 l)/\Row wr J 140 (F6 .u32 t)/\a w.heap.size w wr/\
    e (b.length=m+2+k+1/\Lo b/\t.length=k+1/\Lo t/\(∀I,I<i->t.getD I 0=0)/\val (b.drop i)<val l/\val b+val l*val t=x*ad.toNat)) (fun I _=>(intOf I+1).toNat)
   case atStart=>
    refine⟨k+1,bx,_,o _,ztn og,be.below aj og,R.below aj og,S,a2,V.out.1,V.out.2.1,by simp,zut _,?_,?_,?_⟩
    ·intro I _;rw[C,List.getElem?_replicate];split<;>rfl
    ·rw[N.out.1];exact yru V.out.1 V.out.2.2 (by have:=zro x;rw[ao.out] at this;exact this) (lim_len_lt.1 (by rw[ag.out];omega)) og
    ·rw[V.out.2.2,yei (l:=List.replicate (k+1) 0) (fun x aa=>(List.mem_replicate.1 aa).2),Nat.mul_zero,Nat.add_zero]
   case round=>
    clear bN be R S T Q aj a2;obtain⟨i,b,t,hi,rfl,L,R,S,aA,hrel⟩:=hrel;rcases i with _|i
    ·have av:val b<val l:=(by have:=hrel.out.2.2.2.2.2.1;rw[List.drop_zero] at this;exact this);have ay:val b+val l*val t=x*ad.toNat:=hrel.out.2.2.2.2.2.2;rw[N.out.1] at av ay;have a5:=yrs og av ay
     have aM:e (val (b.take (m+2))=val b):=by
      have P:=zsb b (m+2) (by have:=hrel.out.1;omega);rcases Nat.eq_zero_or_pos (val (b.drop (m+2))) with aq|aq
      ·rw[aq,Nat.mul_zero,Nat.add_zero] at P;exact P.symm
      ·have:=Nat.mul_le_mul_left (pw (m+2)) aq;have bB:=N.out.2.2.1;have aN:=hrel.out.2.2.2.2.2.1;rw[List.drop_zero] at aN;omega
     have aI:=j a5;clear av ay a5;go_wp2_with fail
     have bJ:IsL .u32 wr K (K+1) (.slice (some ⟨K,0,none⟩) (m+2) (m+2+k+1)) (b.take (m+2)):=
      ⟨_,_,by rw[List.length_take,Nat.min_eq_left (by have:=hrel.out.1;omega)],by rw[List.length_take];omega,by unfold maxLen;omega,by rw[ybh];exact L.sv.take _⟩
     refine(yng bJ (znj hrel.out.2.1 _)).mono ?_;rintro g b5 ⟨⟨cE,rfl,bh⟩,rfl⟩;rw[aM.out] at bh;have cc:=L.lt;go_wp2_with fail;refine(yme bh og (by have:=ywd (znj hrel.out.2.1 (m+2));rw[aM.out,List.length_take] at this;omega) bC ar).mono ?_;rintro g b7 ⟨⟨cF,cB,rfl,_,_,_,bi⟩,az⟩;rw[aI.out.2] at bi;go_wp2_with fail;have bf:=S.below az S.lt;have bq:=aA.size;have cy:=az.size;have bI:IsL .u32 b7 J (J+1) (.slice (some ⟨J,0,none⟩) (k+1) (k+1)) t:=⟨_,_,by rw[hrel.out.2.2.1],by have:=hrel.out.2.2.1;omega,by unfold maxLen;omega,bf.sv⟩;refine(yng bI hrel.out.2.2.2.1).mono ?_;rintro g cH ⟨⟨cG,rfl,bj⟩,rfl⟩;rw[aI.out.1] at bj;have bE:=bf.lt;go_wp2_with fail;go_ret2;exact⟨⟨_,_,rfl,bj.wide og bE,bi.wide bq (o _)⟩,aA.trans (az.mono bq)⟩
    ·have a4:=ygs hrel.out.2.1 (j:=i) (n:=m+2) (by have:=hrel.out.1;omega) N.out.2.2.1 hrel.out.2.2.2.2.2.1;have aH:=j a4;clear a4;rw[show(((i+1:Nat):Int)-1)=(i:Int) from by omega];have bd:Row wr K 140 (F6 .u32 (b.take i++(b.drop i).take (m+2+1)++b.drop (i+(m+2)+1))):=(by have g:b.take i++(b.drop i).take (m+2+1)++b.drop (i+(m+2)+1)=b:=(by rw[List.append_assoc,show i+(m+2)+1=i+(m+2+1) by omega,<-List.drop_drop,List.take_append_drop,List.take_append_drop]);rw[g];exact L);go_wp2_with fail
     refine(yrq K i _ _ (b.take i) ((b.drop i).take (m+2+1)) (b.drop (i+(m+2)+1)) _ _ _ m l wr ae (ae+1) (by rw[List.length_take];have:=hrel.out.1;omega) og og M.out.2.1 (znj (ycu hrel.out.2.1 _) _) M.out.1
      (by rw[List.length_take,List.length_drop];have:=hrel.out.1;omega) og (by rw[List.length_take];omega) og N.out.2.2.2 aH.out.1 bd R.sv og).mono ?_
     rintro g b5 ⟨⟨bA,rfl,bR,aX,aY,aZ⟩,au⟩;have af:=j (r aX (r aY aZ));clear aX aY aZ;have bT:=R.only au og;have aB:=S.only au og;have bP:=aA.trans (au.below bH);have aL:e (val ((b.drop i).take (m+2+1))/val l<1000000000):=Nat.div_lt_of_lt_mul (by have:=aH.out.1;exact this);generalize a8:val ((b.drop i).take (m+2+1))/val l=aC at*;have bv:=j a8;clear a8;generalize a9:(aC:Int)=br at*;have an:=j a9;clear a9;have cq:0<=br:=oh an;have cr:br<=999999999:=zmb an aL;obtain⟨z,cv,cw,cz⟩:=aB.num (i:=i) (by rw[hrel.out.2.2.1];exact hi);have cA:=aB.frozen i;clear L bd R S;go_wp2;go_roundw
     case rel=>
      have hst:=yrv hrel.out.2.1 (j:=i) (n:=m+2) (M':=bA) (Lq:=t) (by have:=hrel.out.1;omega) N.out.2.2.1 N.out.2.1 hrel.out.2.2.2.2.2.1 af.out.2.2 af.out.1 (by rw[hrel.out.2.2.1];exact hi) (hrel.out.2.2.2.2.1 i og) hrel.out.2.2.2.2.2.2;rw[bv.out] at hst;refine⟨i,_,t.set i aC,by omega,rfl,bR.far (by show K≠J;omega) _,bT.far (by show ae≠J;omega) _,aB.setNum i aC _ an.out.symm,bP.setCell (by show w.heap.size<=J;omega) _,?_,?_,?_,?_,?_,hst.1,hst.2⟩
      ·simp only[G,List.length_take,List.length_drop,af.out.1];have:=hrel.out.1;omega
      ·rw[lo_append,lo_append];exact⟨⟨znj hrel.out.2.1 _,af.out.2.1⟩,ycu hrel.out.2.1 _⟩
      ·rw[List.length_set];exact hrel.out.2.2.1
      ·exact Y3 hrel.out.2.2.2.1 aL.out
      ·intro I cn;rw[zps og];exact hrel.out.2.2.2.2.1 I og
     case measure=>simp[intOf]
def U0 (l:List Nat):Int:=if 1024<l.length then 4 else if l.any (fun x=>decide (1000000000<=x)) then 3 else if l.getLastD 1=0 then 3 else 0
theorem yqo (h:1024<l.length):U0 l=4:=by unfold U0;rw[if_pos h]
theorem yqn (h:¬1024<l.length) {x:Nat} (b:x∈l) (a:1000000000<=x):U0 l=3:=by unfold U0;rw[if_neg h,if_pos];rw[List.any_eq_true];exact⟨x,b,by simpa using a⟩
theorem yfx (h:¬1024<l.length) (b:Lo l):U0 l=if l.getLastD 1=0 then 3 else 0:=by unfold U0;rw[if_neg h,if_neg];rw[List.any_eq_true];rintro⟨x,c,a⟩;have:=b x c;simp at a;omega
theorem zuh (h:U0 l=0):l.length<=1024/\Lo l/\l=A8 (val l):=by
 unfold U0 at h;split at h
 ·omega
 ·split at h
  ·omega
  ·rename_i f c;split at h
   ·omega
   ·rename_i d
    have b:Lo l:=by
     intro x e;rcases p x 1000000000 with a|a
     ·exact a
     ·exact absurd (List.any_eq_true.2 ⟨x,e,by simpa using a⟩) c
    exact⟨by omega,b,(ycr b d).symm⟩
theorem yfw (h:(A8 n).length<=1024):U0 (A8 n)=0:=by rw[yfx og (Y8 n),if_neg (yvh n)]
theorem yvg (h:0<l.length):l.getLastD 1=l.getD (l.length-1) 0:=by rw[List.getLastD_eq_getLast?,List.getLast?_eq_getElem?,C,D og];rfl
theorem ytv (h:k<l.length):l.getD k 0∈l:=by rw[C,D h];exact List.getElem_mem h
theorem ywi (h:∀a,a<l.length->l.getD a 0<1000000000):Lo l:=by intro x c;obtain⟨a,b,rfl⟩:=List.getElem_of_mem c;have:=h a b;rw[C,D b] at this;exact this
theorem ztg {w:f} (ha:IsL .u32 w lo hi va l):
 s Tryz.prog 178 #[va] w fun o w'=>o= .returned (.int .i64 (U0 l))/\w=w':=by
 obtain⟨A,c,rfl,hc,H,v⟩:=ha;by_cases r:1024<l.length
 ·have a:=j (yqo r);go_in;go_wp2;go_ret;exact⟨K2 a.out.symm,rfl⟩
 ·go_in;go_wp2;go_loop [10] (fun i=>∃k:Nat,k<=l.length/\i= .int .i64 k/\e (∀d,d<k->l.getD d 0<1000000000)) (fun i=>l.length-(intOf i).toNat);case atStart=>exact⟨0,u _,rfl,fun d D=>by omega⟩
  case round=>
   obtain⟨k,I,rfl,q⟩:=hrel;by_cases n:k<l.length
   ·obtain⟨b,off,rfl,_,_,g⟩:=v (Y5 (j:=k) n);obtain⟨x,m,E,C⟩:=zre (j:=k) g n;clear g;rcases Int.lt_or_le x 1000000000 with F|F
    ·go_wp2;go_round
     case rel=>
      refine⟨k+1,n,by go_num,?_⟩;intro d D;rcases p d k with h|h
      ·exact q.out d h
      ·obtain rfl:d=k:=og;have:=m.out;omega
     case measure=>simp[intOf];omega
    ·have a:=j (yqn r (ytv n) (oh m));go_wp2;go_ret;exact⟨K2 a.out.symm,rfl⟩
   ·obtain rfl:k=l.length:=og;have y:=j (yfx r (ywi q.out));clear q;by_cases B:0<l.length
    ·obtain⟨b,off,rfl,_,_,g⟩:=v (Y5 (j:=l.length-1) og);obtain⟨x,m,E,C⟩:=zre (j:=l.length-1) g og;clear g;have z:=j (yvg B);by_cases t:x=0
     ·subst t;have a:e (U0 l=3):=(by unfold e;rw[y.out,if_pos];rw[z.out];have:=m.out;omega);go_wp2;go_ret;exact⟨K2 a.out.symm,rfl⟩
     ·have G:(x==0)=false:=beq_eq_false_iff_ne.2 t;have a:e (U0 l=0):=(by unfold e;rw[y.out,if_neg];rw[z.out];have:=m.out;omega);clear t;go_wp2;go_ret;exact⟨K2 a.out.symm,rfl⟩
    ·have o:l=[]:=List.eq_nil_of_length_eq_zero og;subst o;(have a:e (U0 []=0):=by show U0 []=0;decide);go_wp2;go_ret;exact⟨K2 a.out.symm,rfl⟩
theorem IsL.alloc {k:IntKind} {w:f} (h:IsL k w lo hi v l) (b:hi<=w.heap.size) (a:Obj):IsL k (w.alloc a) lo hi v l:=
 h.below ((Below.refl _ _).alloc (o _) a) b
theorem IsN.alloc {w:f} (h:IsN w lo hi v n) (b:hi<=w.heap.size) (a:Obj):IsN (w.alloc a) lo hi v n:=IsL.alloc h b a
theorem IsL.isN {w:f} (h:IsL .u32 w lo hi v l) (hc:U0 l=0):IsN w lo hi v (val l):=by unfold IsN;rw[<-(zuh hc).2.2];exact h
theorem yfv (hc:U0 l=0):(A8 (val l)).length<=1024:=by rw[<-(zuh hc).2.2];exact(zuh hc).1
theorem ysn {a:List Nat} (f:a.length=b.length) (h:∀c,c<a.length->a.getD c 0=b.getD c 0):a=b:=by apply List.ext_getElem f;intro c d e;have:=h c d;rw[C,C,D d,D e] at this;exact this
theorem yba {w:f} {a:List Nat} (ha:IsL .u32 w lo hi va a) (t:IsL .u32 w lo' F E b):
 s Tryz.prog 109 #[va,E] w fun K w'=>K= .returned (.bool (decide (a=b)))/\Dr w w':=by
 have O:=ha.length_le;have P:=t.length_le;unfold maxLen at O P;obtain⟨A,c,rfl,_,_,M⟩:=ha;obtain⟨B,d,rfl,_,_,N⟩:=t;by_cases o:a.length=b.length
 ·have L:a.length<=b.length:=og;have R:b.length<=a.length:=og;have I:=j o;clear o;go_in;go_wp2;go_loopw [5] (fun i wr=>∃k:Nat,k<=a.length/\i= .int .i64 (k:Int)/\Dr w wr/\e (∀g,g<k->a.getD g 0=b.getD g 0)) (fun i _=>a.length-(intOf i).toNat);case atStart=>exact⟨0,u _,rfl,Dr.refl _,fun g Q=>by omega⟩
  case round=>
   obtain⟨k,T,rfl,⟨n,rfl⟩,r⟩:=hrel;rcases p k a.length with q|S
   ·obtain⟨ba,oa,rfl,_,_,z⟩:=M (Y5 (j:=k) q);obtain⟨bb,ob,rfl,_,_,C⟩:=N (Y5 (j:=k) (H q L));obtain⟨x,D,U,V⟩:=zre (j:=k) z q;obtain⟨y,G,W,X⟩:=zre (j:=k) C og;clear z C;by_cases m:x=y
    ·have v:(x !=y)=false:=(by simp[m]);have J:=j m;clear m;go_wp2;go_quiet (fail);go_wp2;go_roundw
     case rel=>
      refine⟨k+1,by omega,by go_num,⟨_,rfl⟩,fun g Q=> ?_⟩;rcases p g k with h|h
      ·exact r.out g h
      ·obtain rfl:g=k:=og;have:=D.out;have:=G.out;have:=J.out;omega
     case measure=>simp[intOf];omega
    ·have v:(x !=y)=true:=bne_iff_ne.2 m;have l:e (decide (a=b)=false):=(by simp only[e,decide_eq_false_iff_not];rintro rfl;have:=D.out;have:=G.out;omega);clear m;go_wp2;go_quiet (fail);go_wp2;go_ret;exact⟨zpi l.out.symm,((Dr.refl w).drewN n).drewN _⟩
   ·obtain rfl:k=a.length:=og;have l:e (decide (a=b)=true):=(by simp only[e,decide_eq_true_eq];exact ysn I.out r.out);go_wp2;go_ret;exact⟨zpi l.out.symm,⟨_,rfl⟩⟩
 ·have v:(((a.length:Int)) !=(b.length:Int))=true:=(by rw[bne_iff_ne];omega);have l:e (decide (a=b)=false):=(by simp only[e,decide_eq_false_iff_not];rintro rfl;exact o rfl);clear o;go_in;go_wp2;go_ret;exact⟨zpi l.out.symm,Dr.refl _⟩
theorem ypo {w X:f} (h:a w.heap.size w X):a w.heap.size w X.drew:=C8 h (L8 X)
theorem bl {a:Prop} (h:a:=by(repeat(first|exact _root_.Go.RowKit.Below.refl _ _|assumption|refine ypo ?_|refine below_drewN ?_ _|refine C8 ?_ V9));(first|done|fail)):a:=h
theorem uQ (w':f) {w:f} {q:Rat} (h:e (IsQ w (C5 w) v q)) (b:a w.heap.size w w':=by exact bl):IsQ w' (C5 w') v q:=IsQ.stb.next h.out b
theorem uV (w':f) {w:f} {l:List Raw} (h:e (IsV w (C5 w) v l)) (b:a w.heap.size w w':=by exact bl):IsV w' (C5 w') v l:=IsV.stb.next h.out b
theorem uM (w':f) {w:f} {l:List (List Raw)} (h:e (IsM w (C5 w) v l)) (b:a w.heap.size w w':=by exact bl):IsM w' (C5 w') v l:=IsM.stb.next h.out b
theorem uK (w':f) {w:f} {k:IntKind} (h:e (IsK k w (C5 w) v l)) (b:a w.heap.size w w':=by exact bl):IsK k w' (C5 w') v l:=IsK.stb.next h.out b
theorem uF (w':f) {w:f} {k:IntKind} (h:e (IsK k w (I7 n w) v l)) (b:a w.heap.size w w':=by exact bl):IsK k w' (I7 n w') v l:=IsK.stb.fresh h.out b
theorem uN (w':f) {w:f} (h:e (IsN w 0 w.heap.size v n)) (b:a w.heap.size w w':=by exact bl):IsN w' 0 w'.heap.size v n:=IsN.next h.out b
theorem uR (w':f) {w:f} {b:List Value} (h:e (Row w g t b)) (c:a w.heap.size w w':=by exact bl):Row w' g t b:=Row.next h.out c
theorem uB (w':f) {w b:f} (h:e (a w.heap.size w b)) (c:a b.heap.size b w':=by exact bl):a w.heap.size w w':=C8 h.out c
theorem uS (w':f) {w:f} (h:e (n<=w.heap.size)) (b:a w.heap.size w w':=by exact bl):n<=w'.heap.size:=zzw h.out b
theorem uU (w':f) {w:f} (h:e (Bru w)) (b:a w.heap.size w w':=by exact bl):Bru w':=Bru.next h.out b
theorem zqr {w:f} {x:Nat} (ha:IsN w lo hi va x):
 s Tryz.prog 177 #[va] w fun q w'=>q= .returned (.bool (decide (x=1)))/\w=w':=by
 obtain⟨A,c,rfl,hc,_,t⟩:=ha;generalize n:A8 x=l at*;have g:=j n;clear n;by_cases d:l.length=1
 ·obtain⟨ba,oa,rfl,_,_,m⟩:=t (Y5 (j:=0) og);obtain⟨y,i,E,B⟩:=zre (j:=0) m og;clear m
  obtain⟨z,rfl⟩:∃z,l=[z]:=by
   match l,d with
   |[z],_=>exact⟨z,rfl⟩
  simp only[List.getD_cons_zero] at i;rw[Nat.add_zero] at B;by_cases k:y=1
  ·have b:e (decide (x=1)=true):=(by have:=i.out;obtain rfl:z=1:=og;have hv:=Z6 x;rw[g.out] at hv;simp[val] at hv;simp[e,hv]);subst k;clear d;go_in;go_wp2;go_ret;exact⟨zpi b.out.symm,rfl⟩
  ·have b:e (decide (x=1)=false):=(by have:=i.out;have hv:=Z6 x;rw[g.out] at hv;simp[val] at hv;simp[e];omega);have v:(y==1)=false:=(by simpa using k);clear d;go_in;go_wp2;go_ret;exact⟨zpi b.out.symm,rfl⟩
 ·have v:((l.length:Int)==1)=false:=(by simp;omega);have b:e (decide (x=1)=false):=(by simp only[e,decide_eq_false_iff_not];rintro rfl;have h:=g.out;rw[zlg] at h;subst h;simp at d);go_in;go_wp2;go_ret;exact⟨zpi b.out.symm,rfl⟩
theorem ybv {a:Nat} (c:a%2=1) (b v:Nat):Nat.gcd a (2^b*v)=Nat.gcd a v:=by have h:Nat.Coprime a (2^b):=(by apply Nat.Coprime.pow_right;unfold Nat.Coprime;rw[Nat.gcd_comm,Nat.gcd_rec,c];rfl);exact Nat.Coprime.gcd_mul_left_cancel_right v h.symm
theorem yye {a b:Nat} (h:a|||b=2^k*(2*m+1)):∃c d,a=2^k*c/\b=2^k*d/\(c%2=1\/d%2=1):=by
 (have g:(a%2^k)|||(b%2^k)=0:=by rw[<-Nat.or_mod_two_pow,h];exact Nat.mul_mod_right _ _);have ha:a%2^k=0:=(by have:=Nat.left_le_or (n:=a%2^k) (m:=b%2^k);omega);have f:b%2^k=0:=(by have:=Nat.right_le_or (n:=a%2^k) (m:=b%2^k);omega);refine⟨a/2^k,b/2^k,?_,?_,?_⟩
 ·rw[Nat.mul_comm,Nat.div_mul_cancel (Nat.dvd_of_mod_eq_zero ha)]
 ·rw[Nat.mul_comm,Nat.div_mul_cancel (Nat.dvd_of_mod_eq_zero f)]
 ·have e:(a|||b).testBit k=true:=(by rw[h,Nat.testBit_eq_decide_div_mod_eq,Nat.mul_div_cancel_left _ (Nat.pow_pos og)];simp);rw[Nat.testBit_or,Nat.testBit_eq_decide_div_mod_eq,Nat.testBit_eq_decide_div_mod_eq] at e;simpa using e
theorem yzt {d:Nat} (h:2^i*(2*c+1)=2^k*d):(d%2=1->d=2*c+1)/\∃e,d=2^e*(2*c+1):=by
 rcases p i k with a|a
 ·exfalso;obtain⟨t,rfl⟩:∃t,k=i+(t+1):=⟨k-i-1,by omega⟩;rw[Nat.pow_add,Nat.mul_assoc] at h;have:=Nat.eq_of_mul_eq_mul_left (Nat.pow_pos og) h;rw[Nat.pow_succ] at this;have f:2^t*2*d=2*(2^t*d):=(by rw[Nat.mul_comm (2^t) 2,Nat.mul_assoc]);omega
 ·obtain⟨t,rfl⟩:∃t,i=k+t:=⟨i-k,by omega⟩;rw[Nat.pow_add,Nat.mul_assoc] at h;have hd:=(Nat.eq_of_mul_eq_mul_left (Nat.pow_pos og) h).symm;refine⟨fun b=> ?_,t,hd⟩;rcases t with _|t
  ·rw[hd];simp
  ·rw[hd,Nat.pow_succ,Nat.mul_comm (2^t) 2,Nat.mul_assoc] at b;omega
theorem ypl {a b:Nat} (h:a|||b=2^k*(2*m+1)) (ha:a=2^i*(2*c+1)):Nat.gcd a b=2^k*Nat.gcd (2*c+1) b:=by
 obtain⟨o,p,e,g,l⟩:=yye h;have n:(2*c+1)%2=1:=og;have f:=yzt (ha.symm.trans e);rw[e,g,Nat.gcd_mul_left,ybv n];congr 1;rcases l with d|d
 ·rw[f.1 d]
 ·obtain⟨q,j⟩:=f.2;rw[j,Nat.gcd_comm,ybv d,Nat.gcd_comm]
theorem ypm {A B e a:Nat} (c:A%2=1) (d:B=2^e*(2*n+1)) (b:Nat.gcd A B=a):
 (2*n+1<A->Nat.gcd (2*n+1) (A-(2*n+1))=a)/\(A<=2*n+1->Nat.gcd A (2*n+1-A)=a):=by
 rw[d,ybv c] at b;refine⟨fun h=> ?_,fun h=> ?_⟩
 ·rw[Nat.gcd_sub_self_right og,Nat.gcd_comm];exact b
 ·rw[Nat.gcd_sub_self_right h];exact b
theorem zz1403 {x:Nat} (h:x=2^k*(2*m+1)):x/2^k=2*m+1:=by rw[h,Nat.mul_div_cancel_left _ (Nat.pow_pos og)]
theorem yjz {x:Nat} (h:x=2^k*(2*m+1)):2*m+1<=x:=by rw[h];exact Nat.le_mul_of_pos_left _ (Nat.pow_pos og)
end Go.Proofs.YtlhhbccgfkhflaaGreatDoor
