/-
 The contract of package long's Gcd.
-/
import Derived.Test.YtlhhbccgfkhflaaGreatDoorDwv05
namespace Go.Proofs.YtlhhbccgfkhflaaGreatDoor
open Go.RowKit
set_option linter.unusedVariables false
set_option maxRecDepth 100000
set_option maxHeartbeats 8000000
open _root_.Go.Lib renaming hid → f
open _root_.Nat renaming le_refl → g, le_trans → m, lt_of_lt_of_le → d, lt_or_ge → r, zero_le → u
open _root_.Go.RowKit.Below renaming refl → t
open _root_.List renaming length_append → o
open _root_.Go renaming World → e, Calls → k
open _root_.Go.RowKit renaming Below → i, Hid → c
open _root_.Go.Proofs.Tryz renaming prog → l
variable {S : Nat → Prop} {b : List Nat} {hi s lo lo' n : Nat} {p : Rat} {v va j a : Value}
theorem ypu {k:IntKind} {a:List Nat} (g:a.length=b.length) (h:∀c,c<a.length->(F6 k a)[c]? =(F6 k b)[c]?):a=b:=by apply List.ext_getElem g;intro c d f;have e:=h c d;rw[cel_getElem?,cel_getElem?,List.getElem?_eq_getElem d,List.getElem?_eq_getElem f] at e;simp only[Option.map_some,Option.some.injEq,Value.int.injEq,true_and] at e;omega
theorem IsL.unique {c:IntKind} {w:e} {a:List Nat} (ha:IsL c w lo hi v a) (m:IsL c w lo' s v b):a=b:=by obtain⟨A,p,rfl,_,_,k⟩:=ha;obtain⟨B,d,hv,_,_,l⟩:=m;simp only[Value.slice.injEq] at hv;obtain⟨rfl,n,rfl⟩:=hv;refine ypu (k:=c) n fun g f=> ?_;obtain⟨o,q,rfl,_,_,j⟩:=k (Y5 (j:=g) f);have h:=j g _ (zqo f);have i:=l.at_ g _ (zqo (k:=c) (l:=b) og);rw[zqo f,zqo og];exact h.symm.trans i
theorem IsN.unique {w:e} {x y:Nat} (ha:IsN w lo hi v x) (a:IsN w lo' s v y):x=y:=ycp (IsL.unique ha a)
open Classical in
noncomputable def numOf (w:e) (v:Value):Nat:=if h:∃n,IsN w 0 w.heap.size v n then Classical.choose h else 0
theorem zyx {w:e} (h:IsN w 0 w.heap.size v n):numOf w v=n:=by have hex:∃n,IsN w 0 w.heap.size v n:=⟨n,h⟩;unfold numOf;rw[dif_pos hex];exact IsN.unique (Classical.choose_spec hex) h
theorem IsN.up {w w':e} (h:IsN w lo w.heap.size v n) (a:i w.heap.size w w'):IsN w' 0 w'.heap.size v n:=(h.below a (g _)).wide (u _) a.size
theorem zta {w a b:e} (h:i w.heap.size w a) (c:i a.heap.size a b):i w.heap.size w b:=h.trans (c.mono h.size)
theorem zwm {y:Nat} (h:(A8 y).length<=2):y<1000000000000000000:=by have:=lim_len_le.1 h;simpa[pw] using this
theorem zz1454 {y z:Nat} (h:(A8 y).length<=2) (a:z<=y):(A8 z).length<=2:=m (zkn a) h
theorem yts {w:e} {x y:Nat} (ha:IsN w 0 w.heap.size va x) (n:IsN w 0 w.heap.size j y) (z:Bru w) (f:(A8 x).length<=2) (g:(A8 y).length<=2):
 k l 175 #[va,j] w fun a w'=>(∃v,a= .returned v/\IsN w' w.heap.size w'.heap.size v (Nat.gcd x y))/\i w.heap.size w w':=by
 obtain⟨t,u,s⟩:=F0 ha n z;obtain⟨A,E,rfl,_,_,_⟩:=ha;obtain⟨B,d,rfl,_,_,_⟩:=n;obtain⟨o,p⟩:=C7 (zwm f) (zwm g)
 have D:c (Nat.gcd x y<=1000000000000000000):=by
  have:=o.out;have:=p.out;rcases Nat.eq_zero_or_pos x with h|h
  ·unfold c;rw[h,Nat.gcd_zero_left];omega
  ·exact m (Nat.le_of_dvd h (Nat.gcd_dvd_left x y)) og
 obtain⟨q,r⟩:=C7 f g;go_in;go_wp2_with fail;refine(zsy t.out q.out).mono ?_;rintro a b ⟨rfl,rfl⟩;go_wp2_with fail;refine(zsy u.out r.out).mono ?_;rintro a b ⟨rfl,rfl⟩;go_wp2_with fail;refine(zxj x y w s.out (oh o) (oh p)).mono ?_;rintro a b ⟨rfl,rfl⟩;go_wp2_with fail;refine(ydd w _ (oh D)).mono ?_;rintro a b ⟨⟨v,rfl,hv⟩,C⟩;go_wp2_with fail;go_ret;exact⟨⟨_,rfl,hv⟩,C⟩
theorem yhq {w:e} {x y:Nat} (ha:IsN w 0 w.heap.size va x) (r:IsN w 0 w.heap.size j y) (h:¬((A8 x).length<=2/\(A8 y).length<=2)) (a:x=1\/y=1):
 k l 175 #[va,j] w fun f w'=>(∃v,f= .returned v/\IsN w' w.heap.size w'.heap.size v (Nat.gcd x y))/\i w.heap.size w w':=by
 obtain⟨s,t⟩:=C7 ha r
 have p:c (Nat.gcd x y=1):=by
  rcases a with a|a
  ·rw[a];exact Nat.gcd_one_left y
  ·rw[a];exact Nat.gcd_one_right x
 have D:∃b,decide (x=1)=b:=⟨_,rfl⟩;have E:∃g,decide (y=1)=g:=⟨_,rfl⟩;obtain⟨b,n⟩:=D;obtain⟨g,o⟩:=E
 have F:(b=true)\/(b=false/\g=true):=by
  rcases a with a|a
  ·left;rw[<-n];simpa using a
  ·cases b
   ·right;exact⟨rfl,by rw[<-o];simpa using a⟩
   ·left;rfl
 obtain⟨u,z⟩:=C7 n o;obtain⟨A,G,rfl,_,_,_⟩:=ha;obtain⟨B,d,rfl,_,_,_⟩:=r;clear n o a;rw[c] at p;rw[p];clear p;have C:(2<(A8 x).length)\/((A8 x).length<=2/\2<(A8 y).length):=og;clear h;rcases C with h|⟨h,H⟩
 all_goals
  rcases F with rfl|⟨rfl,rfl⟩
  all_goals
   go_in
   go_wp2_with fail
   refine(zqr s.out).mono ?_
   rw[u.out]
   rintro f q ⟨rfl,rfl⟩
   go_wp2_with fail
   first
    |(refine(znn w).mono ?_
      rintro f q ⟨⟨v,rfl,hv⟩,m⟩
      go_wp2_with fail
      go_ret
      exact⟨⟨_,rfl,hv⟩,m⟩)
    |(refine(zqr t.out).mono ?_
      rw[z.out]
      rintro f q ⟨rfl,rfl⟩
      go_wp2_with fail
      refine(znn w).mono ?_
      rintro f q ⟨⟨v,rfl,hv⟩,m⟩
      go_wp2_with fail
      go_ret
      exact⟨⟨_,rfl,hv⟩,m⟩)
def GcdAt (c:Nat) (b wr:e) (va j:Value):Prop:=∃X a:Nat,IsN wr 0 wr.heap.size va X/\IsN wr 0 wr.heap.size j a/\a<=X/\Nat.gcd X a=c/\(A8 X).length<=4294967296/\i b.heap.size b wr
theorem GcdAt.intro {c X a:Nat} {b wr:e} (d:IsN wr 0 wr.heap.size va X) (f:IsN wr 0 wr.heap.size j a) (g:a<=X) (h:Nat.gcd X a=c) (k:(A8 X).length<=4294967296) (l:i b.heap.size b wr):GcdAt c b wr va j:=⟨X,a,d,f,g,h,k,l⟩
theorem yyi {w x y z:Int} (h:(1<=w/\x<=0/\y<=0/\1<=z/\w*z-x*y=1)\/(w<=0/\1<=x/\1<=y/\z<=-1/\w*z-x*y= -1)):
 ((0<=w/\x<=0)\/(w<=0/\0<=x))/\((0<=y/\z<=0)\/(y<=0/\0<=z)):=by
 rcases h with⟨a,b,c,d,_⟩|⟨a,b,c,d,_⟩
 ·exact⟨.inl ⟨by omega,by omega⟩,.inr ⟨by omega,by omega⟩⟩
 ·exact⟨.inr ⟨by omega,by omega⟩,.inl ⟨by omega,by omega⟩⟩
theorem ytr {w:e} {x y:Nat} (ha:IsN w 0 w.heap.size va x) (aC:IsN w 0 w.heap.size j y) (au:Bru w) (aQ:(A8 x).length<=4294967296) (aR:(A8 y).length<=4294967296) (h:¬((A8 x).length<=2/\(A8 y).length<=2)) (U:x≠1) (V:y≠1):
 k l 175 #[va,j] w fun o w'=>(∃v,o= .returned v/\IsN w' w.heap.size w'.heap.size v (Nat.gcd x y))/\i w.heap.size w w':=by
 obtain⟨O,P,aW⟩:=F0 ha aC au;obtain⟨A,al,rfl,_,_,_⟩:=ha;obtain⟨B,d,rfl,_,_,_⟩:=aC;obtain⟨a4,a6⟩:=C7 (decide_eq_false U) (decide_eq_false V);obtain⟨D,Z⟩:=nm (Nat.gcd x y);rw[<-Z];obtain⟨aj,a5,a7⟩:=F0 Z aQ aR;clear U V Z au aQ aR;have bg:(2<(A8 x).length)\/((A8 x).length<=2/\2<(A8 y).length):=og;clear h;have bj:(x<y)\/(y<=x):=r x y;rcases bg with h|⟨h,bL⟩
 all_goals
  rcases bj with ae|aH
  all_goals
   go_in
   go_wp2_with fail
   refine(zqr O.out).mono ?_
   rw[a4.out]
   rintro o aT ⟨rfl,rfl⟩
   go_wp2_with fail
   refine(zqr P.out).mono ?_
   rw[a6.out]
   rintro o aT ⟨rfl,rfl⟩
   go_wp2_with fail
   refine(zsh O.out P.out).mono ?_
   first
    |(rw[zub ae]
      have hst:∀q,c (GcdAt D w (w.drewN q) (.slice B (A8 y).length d) (.slice A (A8 x).length al)):=fun q=>GcdAt.intro (P.out.drewN q) (O.out.drewN q) (Nat.le_of_lt ae) (by rw[Nat.gcd_comm];exact aj.out.symm) a7.out (below_drewN (t _ _) q)
      clear ae)
    |(have bP:0<=zkf x y:=by
       unfold zkf
       rw[if_neg og]
       split<;>omega
      generalize zkf x y=sg at*
      have hst:∀q,c (GcdAt D w (w.drewN q) (.slice A (A8 x).length al) (.slice B (A8 y).length d)):=fun q=>GcdAt.intro (O.out.drewN q) (P.out.drewN q) aH aj.out.symm a5.out (below_drewN (t _ _) q)
      clear aH)
   rintro o aT ⟨rfl,q,rfl⟩
   have ak:=f (hst q)
   clear hst
   go_wp2_with fail
   go_loopw [0,1] (fun bx ag wr=>GcdAt D w wr bx ag) (fun _ ag wr=>numOf wr ag)
   case atStart=>exact ak.out.out
   case round=>
    clear ak
    obtain⟨X,n,av,aA,s,az,C,H⟩:=hrel
    obtain⟨L,E,aZ⟩:=F0 av aA (aW.out.below H)
    obtain⟨bG,bK,rfl,_,_,_⟩:=av
    obtain⟨ai,an,rfl,_,_,_⟩:=aA
    have M:=f az
    clear az
    rcases r 2 (A8 n).length with F|F
    ·have a8:3<=(A8 X).length:=m F (zkn s)
     go_wp2_with fail
     refine(yvr L.out E.out (g _) (g _) s a8 C).mono ?_
     rintro o bC ⟨⟨S,bf,rfl,ay⟩,Q⟩
     have aB:c (n/S<=X/S):=Nat.div_le_div_right s
     have ab:=f ay
     clear ay
     go_wp2_with fail
     refine(zz1422 bC X n S _ _ bf rfl rfl s (by have:=ab.out;omega) (by have:=ab.out;have:=aB.out;omega)).mono ?_
     rintro o J ⟨⟨bD,ah,bE,bF,a,b,rfl,aa,⟨bq,br,bt,U⟩,⟨bu,V,bv,bw⟩⟩,rfl⟩
     obtain⟨aU,bH,ao,aq,a9,aG,aL,_⟩:=aa.num
     obtain⟨aM,aV,aX,a1,a3,Y,N,aD⟩:=zny (yyi aa.pat) ao aq aG aL (L.out.up Q) (E.out.up Q) (zta H Q)
     have bI:=f s
     clear aa ao aq aG aL Q ab aB
     have ad:0<n:=by
      rcases Nat.eq_zero_or_pos n with z|z
      ·rw[z,T6] at F;simp at F
      ·exact z
     by_cases I:ah=0
     ·subst I
      go_wp2_with fail
      refine(ybo Y.out N.out (g _) (g _) C (m (zkn s) C) ad).mono ?_
      rintro o J ⟨⟨bB,aS,rfl,af,hr⟩,p⟩
      obtain⟨T,G⟩:=C7 (hr.wide (lo':=0) (u _) (g _)) (N.out.up p)
      clear af hr
      go_wp2_with fail
      go_roundw
      case rel=>exact GcdAt.intro G.out T.out (Nat.le_of_lt (Nat.mod_lt _ ad)) (by rw[<-M.out,Nat.gcd_comm X n,Nat.gcd_rec n X,Nat.gcd_comm]) (m (zkn s) C) (zta aD.out p)
      case measure=>
       show numOf J aS<numOf wr (.slice ai (A8 n).length an)
       rw[zyx T.out,zyx E.out]
       exact Nat.mod_lt _ ad
     ·have bQ:(ah==0)=false:=by simpa using I
      have bi:=a3.out I
      obtain⟨bO,bh⟩:=bi
      have ar:aU<=X:=m bh s
      have bJ:=f I
      clear I
      go_wp2_with fail
      refine(yjj bD ah Y.out N.out (g _) (g _) bq br bt U aM.out.1 aV.out ar s C).mono ?_
      rintro o J ⟨⟨bR,rfl,aN⟩,p⟩
      obtain⟨a0,G,bn⟩:=F0 (Y.out.up p) (N.out.up p) aN
      clear aN
      go_wp2_with fail
      refine(yjj bE bF a0.out G.out (g _) (g _) bu V bv bw aM.out.2 aX.out og s C).mono ?_
      rintro o K ⟨⟨bA,rfl,aO⟩,R⟩
      obtain⟨aP,bp⟩:=C7 (aO.wide (lo':=0) (u _) (g _)) (bn.out.up R)
      clear aO
      go_wp2_with fail
      go_roundw
      case rel=>exact GcdAt.intro bp.out aP.out a9 (by rw[a1.out];exact M.out) (m (zkn ar) C) (zta (zta aD.out p) R)
      case measure=>
       show numOf K bA<numOf wr (.slice ai (A8 n).length an)
       rw[zyx aP.out,zyx E.out]
       omega
    ·rcases Nat.eq_zero_or_pos n with z|z
     ·have bd:c (X=D):=by
       have:=M.out
       rw[z,Nat.gcd_zero_right] at this
       exact this
      have aJ:(A8 n).length=0:=by rw[z,T6];rfl
      have a2:=f aJ
      rw[a2.out]
      clear aJ
      go_wp2_with fail
      refine(zrg L.out C).mono ?_
      rintro o J ⟨⟨v,rfl,hv⟩,p⟩
      go_wp2_with fail
      go_ret
      rw[bd.out] at hv
      exact⟨⟨_,rfl,hv.wide H.size (g _)⟩,zta H p⟩
     ·have bN:(((A8 n).length:Int)==0)=false:=by
       have:=lim_nil_iff (n:=n)
       rw[beq_eq_false_iff_ne]
       omega
      have W:=f F
      go_wp2_with fail
      refine(ybo L.out E.out (g _) (g _) C (m (zkn s) C) z).mono ?_
      rintro o J ⟨⟨bB,aS,rfl,af,hr⟩,p⟩
      obtain⟨aK,T,G⟩:=F0 (Nat.mod_lt X z) (hr.wide (lo':=0) (u _) (g _)) (E.out.up p)
      have bm:c ((A8 (X%n)).length<=2):=zz1454 W.out (Nat.le_of_lt aK.out)
      obtain⟨ac,aY⟩:=C7 (zwm W.out) (aZ.out.below p)
      have aI:c (Nat.gcd n (X%n)=D):=by rw[c,<-M.out,Nat.gcd_comm X n,Nat.gcd_rec n X,Nat.gcd_comm]
      have be:c (D<=18446744073709551615):=by
       have bM:=aI.out
       have F:Nat.gcd n (X%n)<=n:=Nat.le_of_dvd z (Nat.gcd_dvd_left _ _)
       have:=ac.out
       unfold c
       omega
      have aE:=zta H p
      clear af hr p
      go_wp2_with fail
      refine(zsy G.out W.out).mono ?_
      rintro o K ⟨rfl,rfl⟩
      go_wp2_with fail
      refine(zsy T.out bm.out).mono ?_
      rintro o K ⟨rfl,rfl⟩
      go_wp2_with fail
      refine(zxj n (X%n) _ aY.out (oh ac) (zmb ac aK)).mono ?_
      rw[aI.out]
      rintro o K ⟨rfl,rfl⟩
      go_wp2_with fail
      refine(ydd _ D be.out).mono ?_
      rintro o K ⟨⟨v,rfl,hv⟩,R⟩
      go_wp2_with fail
      go_ret
      exact⟨⟨_,rfl,hv.wide aE.size (g _)⟩,zta aE R⟩
theorem zrm {w:e} {x y:Nat} (ha:IsN w 0 w.heap.size va x) (a:IsN w 0 w.heap.size j y) (b:Bru w) (g:(A8 x).length<=4294967296) (m:(A8 y).length<=4294967296):
 k l 175 #[va,j] w fun f w'=>(∃v,f= .returned v/\IsN w' w.heap.size w'.heap.size v (Nat.gcd x y))/\i w.heap.size w w':=by
 by_cases h:(A8 x).length<=2/\(A8 y).length<=2
 ·exact yts ha a b h.1 h.2
 ·by_cases c:x=1
  ·exact yhq ha a h (.inl c)
  ·by_cases d:y=1
   ·exact yhq ha a h (.inr d)
   ·exact ytr ha a b g m h c d
theorem zrb (w:e):k l 147 #[] w (K8 w 0):=by obtain⟨p,n,d,h,i⟩:=J9 w #[.bool false,.slice none 0 0,.slice none 0 0] 30;obtain⟨a,m⟩:=C7 (h) (d);have o:c (w.heap.size+1<=p.heap.size):=f (Nat.le_of_eq i.out.symm);clear h d;obtain⟨r,t,x⟩:=C0 a.out;obtain⟨A,C,E⟩:=E9 a.out;go_in;go_wp2_with fail;clear n;refine(znn _).mono ?_;rintro z b ⟨⟨v,rfl,hv⟩,G⟩;have j:=f (U2 hv o.out);obtain⟨q,H,rfl,_,_,_⟩:=id hv;obtain⟨s,u,y⟩:=C0 (uR b a);obtain⟨B,D,F⟩:=E9 (uR b a);go_wp2_with fail;refine U5 Tryz.results147 rfl rfl (Row.put3 (uR b a) _ _ _) (znq (n:=0) (d:=1) (by rw[yds,T6,zlg]) (uB b m) (g _) (yjt (S:=I7 (w.heap.size+1) _)) j.out og og)
theorem zxo {w:e} {q:Rat} (h:IsQ w (C5 w) v q) (u:Sz q 100000):k l 67 #[v] w (K8 w q):=by
 obtain⟨neg,A,o,B,p,rfl,H,G,F⟩:=F9 h;have n:=f u;clear h u;obtain⟨j,V,g,z,C,I⟩:=zkd w #[.bool neg,.slice A (A8 q.num.natAbs).length o,.slice B (A8 q.den).length p] #[.bool false,.slice none 0 0,.slice none 0 0] 30 30;obtain⟨J,E,i,a,M⟩:=hd5 (IsK.stb.next G.out g) (IsK.stb.next F.out g) (z) (C) (g);have D:c (w.heap.size+2<=j.heap.size):=f (Nat.le_of_eq I.out.symm);clear z C g;obtain⟨N,P,R⟩:=C0 i.out;obtain⟨Y,ab,ae⟩:=C0 a.out;obtain⟨ah,ak,ao⟩:=E9 a.out;go_in;go_wp2_with fail;clear V
 go_region_held3 (fun w'=>w'.cell? ⟨w.heap.size,0,none⟩=some (.bool neg)/\w'.cell? ⟨w.heap.size,1,none⟩=some (.slice A (A8 q.num.natAbs).length o)/\w'.cell? ⟨w.heap.size,2,none⟩=some (.slice B (A8 q.den).length p))
  (first
    |exact⟨N,P,R⟩
    |exact⟨O,Q,S⟩
    |exact⟨r,s,t⟩
    |exact⟨zkj r og,zkj s og,zkj t og⟩)
  (first
    |(go_at_call 128;have hc:=zrg (F7 (uK j.drew J)) (m n.out.1 og);(with_reducible refine hc.mono ?_);clear hc;rintro T d ⟨⟨ay,rfl,x⟩,U⟩;have K:=f (U2 x (uS j.drew D));obtain⟨W,au,rfl,_,_,_⟩:=id x;obtain⟨O,Q,S⟩:=C0 (uR d i);obtain⟨Z,ac,af⟩:=C0 (uR d a);obtain⟨ai,al,aq⟩:=E9 (uR d a))
    |(go_at_call 128;have hc:=zrg (F7 (uK d E)) (m n.out.2 og);(with_reducible refine hc.mono ?_);clear hc;rintro T b ⟨⟨az,rfl,y⟩,U⟩;have L:=f (U2 y (uS d D));obtain⟨X,av,rfl,_,_,_⟩:=id y;obtain⟨r,s,t⟩:=C0 (uR b i);obtain⟨aa,ad,ag⟩:=C0 (uR b a);obtain⟨aj,an,ar⟩:=E9 (uR b a)))
 go_wp2_with fail;refine U5 Tryz.results67 rfl rfl (Row.put3 (uR b a) _ _ _) (znq (by rw[H.out];rfl) (uB b M) og (uF b K) L.out og og)
theorem zns {w:e} {q:Rat} (h:IsQ w (C5 w) v q):k l 63 #[v] w fun j w'=>j= .returned (.int .i64 (T7 q))/\i w.heap.size w w':=by
 obtain⟨neg,A,o,B,p,rfl,f,d,n⟩:=F9 h;clear h;have r:(A8 q.num.natAbs).length<=9223372036854775807:=(by have:=(F7 d.out).length_le;unfold maxLen at this;omega);by_cases a:q=0
 ·have m:(((A8 q.num.natAbs).length:Int)==0)=true:=(by rw[a];rw[show(0:Rat).num.natAbs=0 from rfl,T6];rfl);have b:c (T7 q=0):=(by unfold c T7;rw[if_pos a]);clear a;go_in;go_wp2_with fail;go_ret;exact⟨K2 b.out.symm,(t _ _).alloc (g _) _⟩
 ·have m:(((A8 q.num.natAbs).length:Int)==0)=false:=beq_eq_false_iff_ne.2 (by have:=zod a;have:= @lim_nil_iff q.num.natAbs;omega);have b:c (T7 q=if neg then -1 else 1):=(by unfold c T7;rw[if_neg a,f.out,yjw];by_cases h:q<0<;>simp[h]);clear a;cases neg
  ·go_in;go_wp2_with fail;go_ret;exact⟨K2 b.out.symm,(t _ _).alloc (g _) _⟩
  ·go_in;go_wp2_with fail;go_ret;exact⟨K2 b.out.symm,(t _ _).alloc (g _) _⟩
def yam (S:Nat->Prop) (w w':e):Nat->Prop:=fun b=>S b\/(w.heap.size<=b/\b<w'.heap.size)
theorem yub {w w':e} (h:NumS w' (yam (I7 lo w) w w') v n) (hlo:lo<=w.heap.size) (c:w.heap.size<=w'.heap.size):NumS w' (I7 lo w') v n:=
 IsK.stb.to h (G4 fun b a=>by rcases a with h|h;exact⟨h.1,by have:=h.2;omega⟩;exact⟨by omega,h.2⟩)
theorem yuc {w w':e} (h:NumS w' (yam (C5 w) w w') v n) (a:w.heap.size<=w'.heap.size):NumS w' (C5 w') v n:=
 IsK.stb.to h (G4 fun b c=>by rcases c with h|h;exact d h a;exact h.2)
theorem ykk {w:e} {x y:Nat} (ha:NumS w S va x) (E:∀b,S b->b<w.heap.size) (n:IsN w 0 w.heap.size a y) (F:(A8 x).length<=4294967296) (G:(A8 y).length<=4294967296) (H:0<y):
 k l 169 #[va,a] w fun j w'=>(∃v,j= .returned v/\NumS w' (yam S w w') v (x/y))/\i w.heap.size w w':=by
 obtain⟨q,m,s⟩:=F0 ha n (ha.isL (lo:=0) (hi:=w.heap.size) fun b h=>⟨u _,E b h⟩);obtain⟨A,I,rfl,_,_,_⟩:=ha;obtain⟨B,d,rfl,_,_,_⟩:=n;by_cases c:y=1
 ·have C:=f c;have hd:decide (y=1)=true:=decide_eq_true c;clear c;go_in;go_wp2_with fail;refine(zqr m.out).mono ?_;rw[hd];rintro j p ⟨rfl,rfl⟩;go_wp2_with fail;go_ret;exact⟨⟨_,rfl,by rw[C.out,Nat.div_one];exact IsK.stb.to q.out (G4 fun b h=> .inl h)⟩,t _ _⟩
 ·have hd:decide (y=1)=false:=decide_eq_false c;clear c;go_in;go_wp2_with fail;refine(zqr m.out).mono ?_;rw[hd];rintro j p ⟨rfl,rfl⟩;go_wp2_with fail;refine(ybo s.out m.out (g _) (g _) F G H).mono ?_;rintro j p ⟨⟨J,K,rfl,o,_⟩,h⟩;obtain⟨z,r⟩:=C7 o h;clear o h;go_wp2_with fail;go_ret;exact⟨⟨_,rfl,z.out.isK fun b c D=> .inr ⟨c,D⟩⟩,r.out⟩
theorem ykj {w:e} {x y:Nat} (ha:NumS w (I7 lo w) va x) (hlo:lo<=w.heap.size) (n:IsN w 0 w.heap.size a y) (p:(A8 x).length<=4294967296) (q:(A8 y).length<=4294967296) (s:0<y):
 k l 169 #[va,a] w fun b w'=>(∃v,b= .returned v/\NumS w' (I7 lo w') v (x/y))/\i w.heap.size w w':=
 (ykk ha yjr n p q s).mono fun b w' ⟨⟨v,j,hv⟩,h⟩=>⟨⟨v,j,yub hv hlo h.size⟩,h⟩
theorem zoo {w:e} {x y:Nat} (ha:NumS w (C5 w) va x) (p:IsN w 0 w.heap.size a y) (q:(A8 x).length<=4294967296) (s:(A8 y).length<=4294967296) (z:0<y):
 k l 169 #[va,a] w fun b w'=>(∃v,b= .returned v/\NumS w' (C5 w') v (x/y))/\i w.heap.size w w':=
 (ykk ha (fun _ h=>h) p q s z).mono fun b w' ⟨⟨v,n,hv⟩,j⟩=>⟨⟨v,n,yuc hv j.size⟩,j⟩
theorem yns (w:e) (neg:Bool) (n d:Nat) (p:Bru w) (F:n≠0) (D:d≠0) (E:n<18446744073709551616) (hd:d<18446744073709551616):
 k l 174 #[.bool neg,.int .u64 (n:Int),.int .u64 (d:Int)] w (K8 w (mkRat (sg neg n) d)):=by
 obtain⟨j,G,q,u,z⟩:=J9 w #[.bool false,.slice none 0 0,.slice none 0 0] 30;obtain⟨b,m⟩:=C7 (u) (q);have v:c (w.heap.size+1<=j.heap.size):=f (Nat.le_of_eq z.out.symm);clear u q;obtain⟨P,S,V⟩:=C0 b.out;obtain⟨Y,ab,ae⟩:=E9 b.out;have x:=f (Bru.next p (m.out));obtain⟨a,i⟩:=nm (Nat.gcd n d);have r:=f (zzm (neg:=neg) F D);rw[<-i] at r;have ai:1<=(a:Int):=(by have:=Nat.gcd_pos_of_pos_left d (by omega:0<n);omega);have y:=f i;have ak:n/a<=n:=Nat.div_le_self _ _;have al:d/a<=d:=Nat.div_le_self _ _;clear i p;go_in;go_wp2_with fail;clear G;refine(zxj n d _ x.out E hd).mono ?_;rw[<-y.out];rintro o g ⟨rfl,rfl⟩;go_wp2_with fail;have ah:¬(a:Int)=0:=og;have aj:¬a=0:=og;have H:0<=(n:Int)/(a:Int):=Int.ediv_nonneg og og;have I:0<=(d:Int)/(a:Int):=Int.ediv_nonneg og og;have J:(n:Int)/(a:Int)<=18446744073709551615:=(by rw[<-Int.natCast_ediv];omega);have K:(d:Int)/(a:Int)<=18446744073709551615:=(by rw[<-Int.natCast_ediv];omega);have L:IntKind.u64.wrap ((n:Int)/(a:Int))=(n:Int)/(a:Int):=IntWalk.u64_in _ og;have M:IntKind.u64.wrap ((d:Int)/(a:Int))=(d:Int)/(a:Int):=IntWalk.u64_in _ og
 go_region_held3 (fun w'=>True)
  (trivial)
  (first
    |(go_at_call 190;have hc:=ydc j.drew ((n:Int)/(a:Int)) H J;(with_reducible refine hc.mono ?_);clear hc;rintro o g ⟨⟨an,rfl,s⟩,C⟩;have A:=f (U2 s (uS j.drew v));obtain⟨N,L,rfl,_,_,_⟩:=id s;obtain⟨Q,T,W⟩:=C0 (uR g b);obtain⟨Z,ac,af⟩:=E9 (uR g b))
    |(go_at_call 190;have hc:=ydc g ((d:Int)/(a:Int)) I K;(with_reducible refine hc.mono ?_);clear hc;rintro o h ⟨⟨ao,rfl,t⟩,C⟩;have B:=f (U2 t (uS g v));obtain⟨O,M,rfl,_,_,_⟩:=id t;obtain⟨R,U,X⟩:=C0 (uR h b);obtain⟨aa,ad,ag⟩:=E9 (uR h b)))
 go_wp2_with fail;refine U5 Tryz.results174 rfl rfl (Row.put3 (uR h b) _ _ _) (znq (by rw[show((n:Int)/(a:Int)).toNat=n/a from by rw[<-Int.natCast_ediv];rfl,show((d:Int)/(a:Int)).toNat=d/a from by rw[<-Int.natCast_ediv];rfl];exact r.out) (uB h m) og (uF h A) B.out og og)
theorem yoj {w:e} {x y:Nat} (ha:IsN w lo hi va x) (ag:IsN w lo' s j y) (ah:hi<=w.heap.size) (ai:s<=w.heap.size) (ar:(A8 y).length<=(A8 x).length) (ao:(A8 x).length<=4294967296):
 k l 187 #[va,j] w fun ad w'=>(∃v,ad= .returned v/\IsN w' w.heap.size w'.heap.size v (x+y))/\i w.heap.size w w':=by
 obtain⟨A,an,rfl,_,_,ae⟩:=ha;obtain⟨B,d,rfl,_,_,af⟩:=ag;have ak:c (∀h,h<(A8 x).length->pw h<=x+y):=(by intro h aj;have:=yla (x:=x) (k:=h) og;omega);generalize Y:A8 x=a at*;generalize Z:A8 y=b at*;have P:c (Lo a/\val a=x):=(by rw[c,<-Y];exact⟨Y8 x,Z6 x⟩);have Q:c (Lo b/\val b=y):=(by rw[c,<-Z];exact⟨Y8 y,Z6 y⟩);clear Y Z;generalize S:w.heap.size=bs at*;have K:=f S;clear S;go_in;go_wp2_with (at_make;refine yny (base:=bs) zky rfl _ _ rfl (a.length+1) rfl rfl og og (oh K) ?_;intro aH al aa V z);have U:i bs w al:=(by rw[<-K.out];exact V);clear V
 go_loopw [5,6,23] (fun v ac N wr=>∃(h:Nat) (m:List Nat) (q:Int),h<=a.length/\N= .int .i64 (h:Int)/\ac= .int .u32 q/\0<=q/\q<=1/\Own wr bs 140 v (F6 .u32 m)/\i bs w wr/\
  c (m.length=h/\Lo m/\(val m:Int)+q*pw h=val (a.take h)+val (b.take h))) (fun _ _ N _=>a.length-(intOf N).toNat)
 case atStart=>exact⟨0,[],0,by omega,rfl,rfl,by omega,by omega,aa,U,rfl,ycv,by simp[val]⟩
 case round=>
  obtain⟨h,m,q,aj,rfl,rfl,au,av,u,p,hrel⟩:=hrel;have D:bs<=wr.heap.size:=(by have:=p.size;have:=K.out;omega);have aq:h<=4294967297:=og;have F:c ((F6 .u32 m).length<=4294967297):=(by rw[c,zsg,hrel.out.1];omega);clear U aa z;rcases r h a.length with L|L
  ·obtain⟨ba,oa,rfl,_,_,W⟩:=(ae.below p ah) (Y5 (j:=h) L);obtain⟨C,H,aA,aB,aC⟩:=zkw (j:=h) P.out.1 W L;clear W;rcases r h b.length with E|E
   ·obtain⟨bb,ob,rfl,_,_,X⟩:=(af.below p ai) (Y5 (j:=h) E);obtain⟨O,ab,aD,aE,aG⟩:=zkw (j:=h) Q.out.1 X E;clear X;rcases Int.lt_or_le 999999999 (C+q+O) with M|M
    ·go_wp2_with (at_builtin;refine zpm zky rfl _ _ rfl rfl u rfl rfl (oh F) D ?_;intro I J n t z);go_roundw;(case rel=>rw[zpa .u32 m (C+q+O-1000000000).toNat _ og] at n;exact⟨h+1,_,1,by omega,by go_num,rfl,by omega,by omega,n,p.trans t,by rw[o];simp[hrel.out.1],zqt hrel.out.2.1 og,zss (c':=1) hrel.out.1 H.out ab.out og og hrel.out.2.2⟩);case measure=>simp[intOf];omega
    ·go_wp2_with (at_builtin;refine zpm zky rfl _ _ rfl rfl u rfl rfl (oh F) D ?_;intro I J n t z);go_roundw;(case rel=>rw[zpa .u32 m (C+q+O).toNat _ og] at n;exact⟨h+1,_,0,by omega,by go_num,rfl,by omega,by omega,n,p.trans t,by rw[o];simp[hrel.out.1],zqt hrel.out.2.1 og,zss (c':=0) hrel.out.1 H.out ab.out og og hrel.out.2.2⟩);case measure=>simp[intOf];omega
   ·rcases Int.lt_or_le 999999999 (C+q) with M|M
    ·go_wp2_with (at_builtin;refine zpm zky rfl _ _ rfl rfl u rfl rfl (oh F) D ?_;intro I J n t z);go_roundw;(case rel=>rw[zpa .u32 m (C+q-1000000000).toNat _ og] at n;exact⟨h+1,_,1,by omega,by go_num,rfl,by omega,by omega,n,p.trans t,by rw[o];simp[hrel.out.1],zqt hrel.out.2.1 og,zss (c':=1) hrel.out.1 H.out (show(0:Int)=_ by rw[zpr E];rfl) og og hrel.out.2.2⟩);case measure=>simp[intOf];omega
    ·go_wp2_with (at_builtin;refine zpm zky rfl _ _ rfl rfl u rfl rfl (oh F) D ?_;intro I J n t z);go_roundw;(case rel=>rw[zpa .u32 m (C+q).toNat _ og] at n;exact⟨h+1,_,0,by omega,by go_num,rfl,by omega,by omega,n,p.trans t,by rw[o];simp[hrel.out.1],zqt hrel.out.2.1 og,zss (c':=0) hrel.out.1 H.out (show(0:Int)=_ by rw[zpr E];rfl) og og hrel.out.2.2⟩);case measure=>simp[intOf];omega
  ·obtain rfl:h=a.length:=og;have T:c ((val m:Int)+q*pw a.length=x+y):=(by have:=hrel.out.2.2;rw[zln (g _),zln og,P.out.2,Q.out.2] at this;unfold c;omega);rcases Int.lt_or_le 0 q with ay|az
   ·obtain rfl:q=1:=og;have hfin:c (A8 (x+y)=m++[1]):=(by have G:val (m++[1])=x+y:=(by rw[zpk,hrel.out.1,zxf,zvk];have:=T.out;omega);rw[c,<-G];refine zys (zqt hrel.out.2.1 og) (.inr ?_);rw[o,hrel.out.1,zpk,hrel.out.1,zxf,zvk];simp);go_wp2_with (at_builtin;refine zpm zky rfl _ _ rfl rfl u rfl rfl (oh F) D ?_;intro I J n t z);go_ret;refine⟨⟨_,rfl,?_⟩,p.trans t⟩;unfold IsN;rw[hfin.out];rw[zpa .u32 m 1 _ og] at n;exact Own.isL n
   ·obtain rfl:q=0:=og
    have hfin:c (A8 (x+y)=m):=by
     have G:val m=x+y:=oh T;rw[c,<-G];refine zys hrel.out.2.1 ?_;rcases Nat.eq_zero_or_pos a.length with R|R
     ·exact .inl (List.eq_nil_of_length_eq_zero (by rw[hrel.out.1];exact R))
     ·exact .inr (by rw[hrel.out.1,G];exact ak.out _ og)
    go_wp2;go_ret;refine⟨⟨_,rfl,?_⟩,p⟩;unfold IsN;rw[hfin.out];exact Own.isL u
theorem yok {w:e} {x y:Nat} (ha:IsN w lo hi va x) (ag:IsN w lo' s j y) (ah:hi<=w.heap.size) (ai:s<=w.heap.size) (ar:(A8 x).length<(A8 y).length) (ao:(A8 y).length<=4294967296):
 k l 187 #[va,j] w fun ad w'=>(∃v,ad= .returned v/\IsN w' w.heap.size w'.heap.size v (x+y))/\i w.heap.size w w':=by
 obtain⟨A,an,rfl,_,_,ae⟩:=ha;obtain⟨B,d,rfl,_,_,af⟩:=ag;have ak:c (∀h,h<(A8 y).length->pw h<=x+y):=(by intro h aj;have:=yla (x:=y) (k:=h) og;omega);generalize Y:A8 x=a at*;generalize Z:A8 y=b at*;have P:c (Lo a/\val a=x):=(by rw[c,<-Y];exact⟨Y8 x,Z6 x⟩);have Q:c (Lo b/\val b=y):=(by rw[c,<-Z];exact⟨Y8 y,Z6 y⟩);clear Y Z;generalize S:w.heap.size=bs at*;have K:=f S;clear S;go_in;go_wp2_with (at_make;refine yny (base:=bs) zky rfl _ _ rfl (b.length+1) rfl rfl og og (oh K) ?_;intro aH al aa V z);have U:i bs w al:=(by rw[<-K.out];exact V);clear V
 go_loopw [5,6,23] (fun v ac N wr=>∃(h:Nat) (m:List Nat) (q:Int),h<=b.length/\N= .int .i64 (h:Int)/\ac= .int .u32 q/\0<=q/\q<=1/\Own wr bs 140 v (F6 .u32 m)/\i bs w wr/\
  c (m.length=h/\Lo m/\(val m:Int)+q*pw h=val (b.take h)+val (a.take h))) (fun _ _ N _=>b.length-(intOf N).toNat)
 case atStart=>exact⟨0,[],0,by omega,rfl,rfl,by omega,by omega,aa,U,rfl,ycv,by simp[val]⟩
 case round=>
  obtain⟨h,m,q,aj,rfl,rfl,au,av,u,p,hrel⟩:=hrel;have D:bs<=wr.heap.size:=(by have:=p.size;have:=K.out;omega);have aq:h<=4294967297:=og;have F:c ((F6 .u32 m).length<=4294967297):=(by rw[c,zsg,hrel.out.1];omega);clear U aa z;rcases r h b.length with L|L
  ·obtain⟨ba,oa,rfl,_,_,W⟩:=(af.below p ai) (Y5 (j:=h) L);obtain⟨C,H,aA,aB,aC⟩:=zkw (j:=h) Q.out.1 W L;clear W;rcases r h a.length with E|E
   ·obtain⟨bb,ob,rfl,_,_,X⟩:=(ae.below p ah) (Y5 (j:=h) E);obtain⟨O,ab,aD,aE,aG⟩:=zkw (j:=h) P.out.1 X E;clear X;rcases Int.lt_or_le 999999999 (C+q+O) with M|M
    ·go_wp2_with (at_builtin;refine zpm zky rfl _ _ rfl rfl u rfl rfl (oh F) D ?_;intro I J n t z);go_roundw;(case rel=>rw[zpa .u32 m (C+q+O-1000000000).toNat _ og] at n;exact⟨h+1,_,1,by omega,by go_num,rfl,by omega,by omega,n,p.trans t,by rw[o];simp[hrel.out.1],zqt hrel.out.2.1 og,zss (c':=1) hrel.out.1 H.out ab.out og og hrel.out.2.2⟩);case measure=>simp[intOf];omega
    ·go_wp2_with (at_builtin;refine zpm zky rfl _ _ rfl rfl u rfl rfl (oh F) D ?_;intro I J n t z);go_roundw;(case rel=>rw[zpa .u32 m (C+q+O).toNat _ og] at n;exact⟨h+1,_,0,by omega,by go_num,rfl,by omega,by omega,n,p.trans t,by rw[o];simp[hrel.out.1],zqt hrel.out.2.1 og,zss (c':=0) hrel.out.1 H.out ab.out og og hrel.out.2.2⟩);case measure=>simp[intOf];omega
   ·rcases Int.lt_or_le 999999999 (C+q) with M|M
    ·go_wp2_with (at_builtin;refine zpm zky rfl _ _ rfl rfl u rfl rfl (oh F) D ?_;intro I J n t z);go_roundw;(case rel=>rw[zpa .u32 m (C+q-1000000000).toNat _ og] at n;exact⟨h+1,_,1,by omega,by go_num,rfl,by omega,by omega,n,p.trans t,by rw[o];simp[hrel.out.1],zqt hrel.out.2.1 og,zss (c':=1) hrel.out.1 H.out (show(0:Int)=_ by rw[zpr E];rfl) og og hrel.out.2.2⟩);case measure=>simp[intOf];omega
    ·go_wp2_with (at_builtin;refine zpm zky rfl _ _ rfl rfl u rfl rfl (oh F) D ?_;intro I J n t z);go_roundw;(case rel=>rw[zpa .u32 m (C+q).toNat _ og] at n;exact⟨h+1,_,0,by omega,by go_num,rfl,by omega,by omega,n,p.trans t,by rw[o];simp[hrel.out.1],zqt hrel.out.2.1 og,zss (c':=0) hrel.out.1 H.out (show(0:Int)=_ by rw[zpr E];rfl) og og hrel.out.2.2⟩);case measure=>simp[intOf];omega
  ·obtain rfl:h=b.length:=og;have T:c ((val m:Int)+q*pw b.length=x+y):=(by have:=hrel.out.2.2;rw[zln (g _),zln og,Q.out.2,P.out.2] at this;unfold c;omega);rcases Int.lt_or_le 0 q with ay|az
   ·obtain rfl:q=1:=og;have hfin:c (A8 (x+y)=m++[1]):=(by have G:val (m++[1])=x+y:=(by rw[zpk,hrel.out.1,zxf,zvk];have:=T.out;omega);rw[c,<-G];refine zys (zqt hrel.out.2.1 og) (.inr ?_);rw[o,hrel.out.1,zpk,hrel.out.1,zxf,zvk];simp);go_wp2_with (at_builtin;refine zpm zky rfl _ _ rfl rfl u rfl rfl (oh F) D ?_;intro I J n t z);go_ret;refine⟨⟨_,rfl,?_⟩,p.trans t⟩;unfold IsN;rw[hfin.out];rw[zpa .u32 m 1 _ og] at n;exact Own.isL n
   ·obtain rfl:q=0:=og
    have hfin:c (A8 (x+y)=m):=by
     have G:val m=x+y:=oh T;rw[c,<-G];refine zys hrel.out.2.1 ?_;rcases Nat.eq_zero_or_pos b.length with R|R
     ·exact .inl (List.eq_nil_of_length_eq_zero (by rw[hrel.out.1];exact R))
     ·exact .inr (by rw[hrel.out.1,G];exact ak.out _ og)
    go_wp2;go_ret;refine⟨⟨_,rfl,?_⟩,p⟩;unfold IsN;rw[hfin.out];exact Own.isL u
theorem yol {w:e} {x y:Nat} (ha:IsN w lo hi va x) (a:IsN w lo' s j y) (b:hi<=w.heap.size) (c:s<=w.heap.size) (f:(A8 x).length<=4294967296) (g:(A8 y).length<=4294967296):
 k l 187 #[va,j] w fun d w'=>(∃v,d= .returned v/\IsN w' w.heap.size w'.heap.size v (x+y))/\i w.heap.size w w':=by
 rcases r (A8 x).length (A8 y).length with h|h
 ·exact yok ha a b c h g
 ·exact yoj ha a b c h f
theorem ztq {w:e} (h:IsN w 0 w.heap.size v n):(A8 n).length<=9223372036854775807:=by have:=h.length_le;unfold maxLen at this;omega
theorem zur (h:n=0):(((A8 n).length:Int)==0)=true:=by rw[h,T6];rfl
theorem zpe (h:n≠0):(((A8 n).length:Int)==0)=false:=beq_eq_false_iff_ne.2 (by have:= @lim_nil_iff n;omega)
theorem ycn (h:n≠0):0<(A8 n).length:=by have:= @lim_nil_iff n;omega
def yew (S:Nat->Prop) (w:e) (q:Rat) (a:Ending) (w':e):Prop:=(∃v,a= .returned v/\IsQ w' S v q)/\i w.heap.size w w'
theorem ykg {w:e} {q:Rat} (h:IsQ w S v q) (a:∀b,S b->b<w.heap.size) (Q:p= -q):k l 164 #[v] w (yew S w p):=by
 subst Q;have ac:(A8 q.num.natAbs).length<=9223372036854775807:=ztq (F7 (IsK.stb.to (F9 h).choose_spec.choose_spec.choose_spec.choose_spec.choose_spec.2.2.1.out (G4 a)));obtain⟨neg,A,y,B,z,rfl,N,M,L⟩:=F9 h;have hr:=zz1362 q;rw[show E0 q=⟨neg,A8 q.num.natAbs,A8 q.den⟩ from by rw[N.out];rfl] at hr;clear h;obtain⟨T,ad,n,H,x,V⟩:=zkd w #[.bool neg,.slice A (A8 q.num.natAbs).length y,.slice B (A8 q.den).length z] #[.bool false,.slice none 0 0,.slice none 0 0] 30 30;have G:=IsK.stb.to M.out (zqg (S:=S) n a);have F:=IsK.stb.to L.out (zqg (S:=S) n a);obtain⟨W,X,Y⟩:=C0 H;obtain⟨ae,af,ag⟩:=C0 x;obtain⟨Z,aa,ab⟩:=E9 x;obtain⟨E,K,J,I⟩:=V7 x n G F;clear H x n G F
 have hfin:∀s:Bool,E0 (-q)=⟨s,A8 q.num.natAbs,A8 q.den⟩->yew S w (-q) (.returned (.agg #[.bool s,.slice A (A8 q.num.natAbs).length y,.slice B (A8 q.den).length z])) (put3 T (w.heap.size+1) (.bool s) (.slice A (A8 q.num.natAbs).length y) (.slice B (A8 q.den).length z)):=fun s R=>
  ⟨⟨_,rfl,yii R (IsK.stb.to J.out (zqh fun b j=>⟨by have:=a b j;omega,j⟩)) (IsK.stb.to I.out (zqh fun b j=>⟨by have:=a b j;omega,j⟩))⟩,zoy K.out og _ _ _⟩
 obtain⟨C,D,U⟩:=F0 hfin hr a;clear hfin hr a;cases neg with
 |true=>go_in;go_wp2_with fail;refine U5 Tryz.results164 rfl rfl (Row.put3 E.out _ _ _) (C.out false (by rw[D.out];rfl))
 |false=>go_in;go_wp2_with fail;refine U5 Tryz.results164 rfl rfl (Row.put3 E.out _ _ _) (C.out _ ?_);rw[D.out];congr 1;rw[Bool.eq_iff_iff];have O:= @yjy q;have P:= @lim_nil_iff q.num.natAbs;simp;rw[<-O,<-P];omega
theorem yij {w w':e} {q:Rat} (h:IsQ w' (C5 w) v q) (a:i w.heap.size w w'):IsQ w' (C5 w') v q:=IsQ.stb.to h (G4 fun b h=>d h a.size)
theorem zrq {w:e} {q:Rat} (h:IsQ w (C5 w) v q) (n:Sz q 100000) (j:p= -q):k l 119 #[v] w (K8 w p):=by have t:=f h;obtain⟨neg,A,F,B,G,rfl,N,M,L⟩:=F9 h;have x:c (Sz p 100000):=(by rw[j];exact n.neg);have u:=f j;clear h n j;obtain⟨K,I,i,r,s,y⟩:=zkd w #[.bool neg,.slice A (A8 q.num.natAbs).length F,.slice B (A8 q.den).length G] #[.bool false,.slice none 0 0,.slice none 0 0] 30 30;have z:=nQ t i;obtain⟨g,a,E⟩:=F0 (r) (s) (i);have J:c (w.heap.size+2<=K.heap.size):=f (Nat.le_of_eq y.out.symm);clear r s i;obtain⟨S,V,Y⟩:=C0 g.out;obtain⟨ab,ae,ah⟩:=C0 a.out;obtain⟨ak,ao,au⟩:=E9 a.out;go_in;go_wp2_with fail;clear I;refine(ykg z.out (fun _ h=>h) u.out).mono ?_;rintro H d ⟨⟨aG,rfl,hv⟩,m⟩;have D:=f (yij hv m);obtain⟨aD,Q,az,O,aB,rfl,_,_,_⟩:=F9 hv;obtain⟨T,W,Z⟩:=C0 (uR d g);obtain⟨ac,af,ai⟩:=C0 (uR d a);obtain⟨al,aq,av⟩:=E9 (uR d a);go_wp2_with fail;refine(zxo D.out x.out).mono ?_;rintro H b ⟨⟨aH,rfl,o⟩,m⟩;have C:=f (IsQ.stb.le o (uS d J));obtain⟨aE,R,aA,P,aC,rfl,_,_,_⟩:=F9 o;obtain⟨U,X,aa⟩:=C0 (uR b g);obtain⟨ad,ag,aj⟩:=C0 (uR b a);obtain⟨an,ar,ay⟩:=E9 (uR b a);go_wp2_with fail;refine U5 Tryz.results119 rfl rfl (Row.put3 (uR b a) _ _ _) (zmw C.out (uB b E) og og)
def zkz (q:Rat):Bool:=decide ((A8 q.num.natAbs).length<=1024/\(A8 q.den).length<=1024)
theorem fitsQ_true {q:Rat}:zkz q=true↔Sz q 1024:=by unfold zkz Sz;exact decide_eq_true_iff
theorem ybt {w:e} {q:Rat} (h:IsQ w (C5 w) v q):k l 103 #[v] w fun c w'=>c= .returned (.bool (zkz q))/\i w.heap.size w w':=by
 obtain⟨neg,A,j,B,m,rfl,f,b,a⟩:=F9 h;have o:=ztq (F7 b.out);have p:=ztq (F7 a.out);clear h;by_cases d:(A8 q.num.natAbs).length<=1024
 ·go_in;go_wp2_with fail;go_ret;refine⟨zpi ?_,(t _ _).alloc (g _) _⟩;rw[Bool.eq_iff_iff,fitsQ_true];unfold Sz;simp;omega
 ·have n:1024<(A8 q.num.natAbs).length:=og;clear d;go_in;go_wp2_with fail;go_ret;refine⟨zpi ?_,(t _ _).alloc (g _) _⟩;rw[Bool.eq_iff_iff,fitsQ_true];unfold Sz;simp;omega
def zoh (a b:Rat):Prop:=(A8 a.num.natAbs).length=1/\(A8 a.den).length=1/\(A8 b.num.natAbs).length=1/\(A8 b.den).length=1
theorem zyy {w:e} {a d:Rat} (ha:IsQ w (C5 w) va a) (r:IsQ w (C5 w) j d):k l 173 #[va,j] w fun I w'=>(∃b:Bool,I= .returned (.bool b)/\(b=true↔zoh a d))/\i w.heap.size w w':=by obtain⟨N,u,E,x,G,rfl,P,B,z⟩:=F9 ha;obtain⟨O,v,F,y,H,rfl,Q,C,A⟩:=F9 r;have Y:=ztq (F7 B.out);have Z:=ztq (F7 z.out);have aa:=ztq (F7 C.out);have ab:=ztq (F7 A.out);clear ha r;obtain⟨ac,X,s,ra,t,R⟩:=zkd w #[.bool N,.slice u (A8 a.num.natAbs).length E,.slice x (A8 a.den).length G] #[.bool O,.slice v (A8 d.num.natAbs).length F,.slice y (A8 d.den).length H] 30 30;obtain⟨S,T,U⟩:=C0 ra;obtain⟨V,W,b2⟩:=C0 t;have o:=f s;clear ra t s;by_cases m:(A8 a.num.natAbs).length=1;(case neg=>have J:((((A8 a.num.natAbs).length:Nat):Int)==1)=false:=beq_eq_false_iff_ne.2 og;have g:c (¬zoh a d):=fun h=>m h.1;clear m;go_in;go_wp2_with fail;go_ret;exact⟨⟨false,rfl,⟨fun h=>Bool.noConfusion h,fun h=>absurd h g.out⟩⟩,o.out⟩);have J:((((A8 a.num.natAbs).length:Nat):Int)==1)=true:=beq_iff_eq.2 og;by_cases n:(A8 a.den).length=1;(case neg=>have K:((((A8 a.den).length:Nat):Int)==1)=false:=beq_eq_false_iff_ne.2 og;have g:c (¬zoh a d):=fun h=>n h.2.1;clear n m;go_in;go_wp2_with fail;go_ret;exact⟨⟨false,rfl,⟨fun h=>Bool.noConfusion h,fun h=>absurd h g.out⟩⟩,o.out⟩);have K:((((A8 a.den).length:Nat):Int)==1)=true:=beq_iff_eq.2 og;by_cases p:(A8 d.num.natAbs).length=1;(case neg=>have L:((((A8 d.num.natAbs).length:Nat):Int)==1)=false:=beq_eq_false_iff_ne.2 og;have g:c (¬zoh a d):=fun h=>p h.2.2.1;clear p m n;go_in;go_wp2_with fail;go_ret;exact⟨⟨false,rfl,⟨fun h=>Bool.noConfusion h,fun h=>absurd h g.out⟩⟩,o.out⟩);have L:((((A8 d.num.natAbs).length:Nat):Int)==1)=true:=beq_iff_eq.2 og;by_cases q:(A8 d.den).length=1;(case neg=>have M:((((A8 d.den).length:Nat):Int)==1)=false:=beq_eq_false_iff_ne.2 og;have g:c (¬zoh a d):=fun h=>q h.2.2.2;clear q m n p;go_in;go_wp2_with fail;go_ret;exact⟨⟨false,rfl,⟨fun h=>Bool.noConfusion h,fun h=>absurd h g.out⟩⟩,o.out⟩);have M:((((A8 d.den).length:Nat):Int)==1)=true:=beq_iff_eq.2 og;have D:c (zoh a d):=⟨m,n,p,q⟩;clear m n p q;go_in;go_wp2_with fail;go_ret;exact⟨⟨true,rfl,⟨fun _=>D.out,fun _=>rfl⟩⟩,o.out⟩
theorem yqz {w:e} {x y:Nat} (ha:IsN w 0 w.heap.size va x) (c:IsN w 0 w.heap.size j y) (D:Bru w) (F:(A8 x).length<=4294967296) (G:(A8 y).length<=4294967296):
 k l 137 #[va,j] w fun a w'=>(∃b:Bool,a= .returned (.bool b)/\(b=true↔Nat.gcd x y=1))/\i w.heap.size w w':=by
 obtain⟨o,p,n⟩:=F0 ha c D;obtain⟨A,N,rfl,_,_,_⟩:=ha;obtain⟨B,d,rfl,_,_,_⟩:=c;clear D;by_cases h:(A8 x).length<=2/\(A8 y).length<=2
 ·obtain⟨g,z⟩:=h;have u:=lim_len_le.1 g;have by_:=lim_len_le.1 z;rw[show pw 2=1000000000000000000 from by decide] at u by_;obtain⟨H,I⟩:=C7 u by_;clear u by_;obtain⟨M,E⟩:=nm (Nat.gcd x y);have C:=f E;clear E;go_in;go_wp2_with fail;refine(zsy o.out g).mono ?_;rintro a m ⟨rfl,rfl⟩;go_wp2_with fail;refine(zsy p.out z).mono ?_;rintro a m ⟨rfl,rfl⟩;go_wp2_with fail;refine(zxj x y w n.out (Nat.lt_trans H.out og) (Nat.lt_trans I.out og)).mono ?_;rw[<-C.out];rintro a m ⟨rfl,rfl⟩;go_wp2_with fail;go_ret;exact⟨⟨_,rfl,by rw[<-C.out];simp;omega⟩,t _ _⟩
 ·rcases r 2 (A8 x).length with g|g
  ·clear h;go_in;go_wp2_with fail;refine(zrm o.out p.out n.out F G).mono ?_;rintro a m ⟨⟨v,rfl,hv⟩,c⟩;obtain⟨s,q⟩:=C7 hv c;obtain⟨J,K,rfl,_,_,_⟩:=hv;clear c;go_wp2_with fail;refine(zqr s.out).mono ?_;rintro a L ⟨rfl,rfl⟩;go_wp2_with fail;go_ret;exact⟨⟨_,rfl,by simp⟩,q.out⟩
  ·have z:2<(A8 y).length:=og;clear h;go_in;go_wp2_with fail;refine(zrm o.out p.out n.out F G).mono ?_;rintro a m ⟨⟨v,rfl,hv⟩,c⟩;obtain⟨s,q⟩:=C7 hv c;obtain⟨J,K,rfl,_,_,_⟩:=hv;clear c;go_wp2_with fail;refine(zqr s.out).mono ?_;rintro a L ⟨rfl,rfl⟩;go_wp2_with fail;go_ret;exact⟨⟨_,rfl,by simp⟩,q.out⟩
theorem yin {w:e} {x y:Nat} (sa sb:Bool) (ha:IsN w 0 w.heap.size va x) (a:IsN w 0 w.heap.size j y) (O:(A8 x).length<=2000000) (P:(A8 y).length<=2000000):
 k l 168 #[.bool sa,va,.bool sb,j] w fun o w'=>(∃s v n,o= .returned (.tuple #[.bool s,v])/\c (sg s n=sg sa x+sg sb y)/\IsN w' w.heap.size w'.heap.size v n/\(A8 n).length<=2000001)/\i w.heap.size w w':=by
 obtain⟨p,q⟩:=C7 ha a;obtain⟨A,R,rfl,_,_,_⟩:=ha;obtain⟨B,d,rfl,_,_,_⟩:=a;by_cases C:sa=sb
 ·subst C;have N:(sa==sa)=true:=(by simp);go_in;go_wp2_with fail;refine(yol p.out q.out (g _) (g _) og og).mono ?_;rintro o L ⟨⟨v,rfl,hv⟩,a⟩;obtain⟨z,t⟩:=C7 hv a;clear hv a;go_wp2_with fail;go_ret2;exact⟨⟨_,_,_,rfl,ylw _ _ _,z.out,by have:=ymv O P;omega⟩,t.out⟩
 ·have N:(sa==sb)=false:=(by simp[C]);have J:c (sb= !sa):=(by unfold c;cases sa<;>cases sb<;>simp at C⊢);clear C;rcases r x y with K|G
  ·have F:=f K;clear K;go_in;go_wp2_with fail;refine(zsh p.out q.out).mono ?_;rw[zub F.out];rintro o L ⟨rfl,hd⟩;have b:=hd.below w.heap.size;obtain⟨D,E,u⟩:=F0 (IsN.next p.out b) (IsN.next q.out b) b;clear hd b;go_wp2_with fail;refine(ymo E.out D.out (g _) (g _) (Nat.le_of_lt F.out) og).mono ?_;rintro o Q ⟨⟨v,rfl,hv⟩,a⟩;have z:=f (hv.wide u.out.size (g _));have t:=nB u a;clear hv a;go_wp2_with fail;go_ret2;exact⟨⟨_,_,_,rfl,by unfold c;rw[sg_sub' (Nat.le_of_lt F.out),J.out];simp,z.out,m (zkn (Nat.sub_le _ _)) og⟩,t.out⟩
  ·have I:=f G
   obtain⟨H,hr,S⟩:∃H,H=zkf x y/\0<=H:=by
    refine⟨_,rfl,?_⟩;rcases r y x with h|h
    ·rw[zxb h];omega
    ·rw[zzt (Nat.le_antisymm h G)];omega
   have M:=f hr;clear G hr;go_in;go_wp2_with fail;refine(zsh p.out q.out).mono ?_;rw[<-M.out];rintro o L ⟨rfl,hd⟩;have b:=hd.below w.heap.size;obtain⟨D,E,u⟩:=F0 (IsN.next p.out b) (IsN.next q.out b) b;clear hd b;go_wp2_with fail;refine(ymo D.out E.out (g _) (g _) I.out og).mono ?_;rintro o Q ⟨⟨v,rfl,hv⟩,a⟩;have z:=f (hv.wide u.out.size (g _));have t:=nB u a;clear hv a;go_wp2_with fail;go_ret2;exact⟨⟨_,_,_,rfl,by unfold c;rw[yma I.out,J.out],z.out,m (zkn (Nat.sub_le _ _)) og⟩,t.out⟩
end Go.Proofs.YtlhhbccgfkhflaaGreatDoor
