/-
 The contract of package long's Gcd.
-/
import Derived.Test.YtpbilanpeioonaaGreatDoorDpv05
namespace Go.Proofs.YtpbilanpeioonaaGreatDoor
open Go.RowKit
set_option linter.unusedVariables false
set_option maxRecDepth 100000
set_option maxHeartbeats 8000000
open _root_.Go.Lib renaming hid → i
open _root_.Nat renaming le_refl → j, le_trans → t, lt_of_lt_of_le → d, lt_or_ge → u, zero_le → C
open _root_.Go.RowKit.Below renaming refl → s
open _root_.List renaming length_append → h
open _root_.Go renaming World → g, Calls → o
open _root_.Go.RowKit renaming Below → l, Hid → c
open _root_.Go.Proofs.Tryz renaming prog → r
variable {S : Nat → Prop} {b : List Nat} {hi z lo lo' n : Nat} {p : Rat} {v k m a : Value} {e f : g}
theorem yrv {k:IntKind} {a:List Nat} (g:a.length=b.length) (h:∀c,c<a.length->(E7 k a)[c]? =(E7 k b)[c]?):a=b:=by apply List.ext_getElem g;intro c d f;have e:=h c d;rw[cel_getElem?,cel_getElem?,List.getElem?_eq_getElem d,List.getElem?_eq_getElem f] at e;simp only[Option.map_some,Option.some.injEq,Value.int.injEq,true_and] at e;omega
theorem IsL.unique {c:IntKind} {w:g} {a:List Nat} (ha:IsL c w lo hi v a) (m:IsL c w lo' z v b):a=b:=by obtain⟨A,p,rfl,_,_,k⟩:=ha;obtain⟨B,d,hv,_,_,l⟩:=m;simp only[Value.slice.injEq] at hv;obtain⟨rfl,n,rfl⟩:=hv;refine yrv (k:=c) n fun f e=> ?_;obtain⟨o,q,rfl,_,_,j⟩:=k (N0 (j:=f) e);have h:=j f _ (zqf e);have i:=l.at_ f _ (zqf (k:=c) (l:=b) og);rw[zqf e,zqf og];exact h.symm.trans i
theorem IsN.unique {w:g} {x y:Nat} (ha:IsN w lo hi v x) (a:IsN w lo' z v y):x=y:=ydz (IsL.unique ha a)
open Classical in
noncomputable def numOf (w:g) (v:Value):Nat:=if h:∃n,IsN w 0 w.heap.size v n then Classical.choose h else 0
theorem zvv {w:g} (h:IsN w 0 w.heap.size v n):numOf w v=n:=by have hex:∃n,IsN w 0 w.heap.size v n:=⟨n,h⟩;unfold numOf;rw[dif_pos hex];exact IsN.unique (Classical.choose_spec hex) h
theorem IsN.up {w w':g} (h:IsN w lo w.heap.size v n) (a:l w.heap.size w w'):IsN w' 0 w'.heap.size v n:=(h.below a (j _)).wide (C _) a.size
theorem zst {w:g} (h:l w.heap.size w e) (a:l e.heap.size e f):l w.heap.size w f:=h.trans (a.mono h.size)
theorem zxh {y:Nat} (h:(A9 y).length<=2):y<1000000000000000000:=by have:=lim_len_le.1 h;simpa[pw] using this
theorem zz1495 {y z:Nat} (h:(A9 y).length<=2) (a:z<=y):(A9 z).length<=2:=t (Y5 a) h
theorem yvl {w:g} {x y:Nat} (ha:IsN w 0 w.heap.size k x) (i:IsN w 0 w.heap.size m y) (C:Bru w) (b:(A9 x).length<=2) (f:(A9 y).length<=2):
 o r 186 #[k,m] w fun a w'=>(∃v,a= .returned v/\IsN w' w.heap.size w'.heap.size v (Nat.gcd x y))/\l w.heap.size w w':=by
 obtain⟨u,z,s⟩:=H7 ha i C;obtain⟨A,F,rfl,_,_,_⟩:=ha;obtain⟨B,d,rfl,_,_,_⟩:=i;obtain⟨j,n⟩:=C7 (zxh b) (zxh f)
 have E:c (Nat.gcd x y<=1000000000000000000):=by
  have:=j.out;have:=n.out;rcases Nat.eq_zero_or_pos x with h|h
  ·unfold c;rw[h,Nat.gcd_zero_left];omega
  ·exact t (Nat.le_of_dvd h (Nat.gcd_dvd_left x y)) og
 obtain⟨p,q⟩:=C7 b f;go_in;go_wp2_with fail;refine(ztp u.out p.out).mono ?_;rintro a e ⟨rfl,rfl⟩;go_wp2_with fail;refine(ztp z.out q.out).mono ?_;rintro a e ⟨rfl,rfl⟩;go_wp2_with fail;refine(zym x y w s.out (oh j) (oh n)).mono ?_;rintro a e ⟨rfl,rfl⟩;go_wp2_with fail;refine(yek w _ (oh E)).mono ?_;rintro a e ⟨⟨v,rfl,hv⟩,D⟩;go_wp2_with fail;go_ret;exact⟨⟨_,rfl,hv⟩,D⟩
theorem yjn {w:g} {x y:Nat} (ha:IsN w 0 w.heap.size k x) (s:IsN w 0 w.heap.size m y) (h:¬((A9 x).length<=2/\(A9 y).length<=2)) (a:x=1\/y=1):
 o r 186 #[k,m] w fun f w'=>(∃v,f= .returned v/\IsN w' w.heap.size w'.heap.size v (Nat.gcd x y))/\l w.heap.size w w':=by
 obtain⟨t,u⟩:=C7 ha s
 have q:c (Nat.gcd x y=1):=by
  rcases a with a|a
  ·rw[a];exact Nat.gcd_one_left y
  ·rw[a];exact Nat.gcd_one_right x
 have E:∃b,decide (x=1)=b:=⟨_,rfl⟩;have F:∃i,decide (y=1)=i:=⟨_,rfl⟩;obtain⟨b,n⟩:=E;obtain⟨i,p⟩:=F
 have G:(b=true)\/(b=false/\i=true):=by
  rcases a with a|a
  ·left;rw[<-n];simpa using a
  ·cases b
   ·right;exact⟨rfl,by rw[<-p];simpa using a⟩
   ·left;rfl
 obtain⟨z,C⟩:=C7 n p;obtain⟨A,H,rfl,_,_,_⟩:=ha;obtain⟨B,d,rfl,_,_,_⟩:=s;clear n p a;rw[c] at q;rw[q];clear q;have D:(2<(A9 x).length)\/((A9 x).length<=2/\2<(A9 y).length):=og;clear h;rcases D with h|⟨h,I⟩
 all_goals
  rcases G with rfl|⟨rfl,rfl⟩
  all_goals
   go_in
   go_wp2_with fail
   refine(zrg t.out).mono ?_
   rw[z.out]
   rintro f e ⟨rfl,rfl⟩
   go_wp2_with fail
   first
    |(refine(zny w).mono ?_
      rintro f e ⟨⟨v,rfl,hv⟩,j⟩
      go_wp2_with fail
      go_ret
      exact⟨⟨_,rfl,hv⟩,j⟩)
    |(refine(zrg u.out).mono ?_
      rw[C.out]
      rintro f e ⟨rfl,rfl⟩
      go_wp2_with fail
      refine(zny w).mono ?_
      rintro f e ⟨⟨v,rfl,hv⟩,j⟩
      go_wp2_with fail
      go_ret
      exact⟨⟨_,rfl,hv⟩,j⟩)
def GcdAt (c:Nat) (b wr:g) (k m:Value):Prop:=∃X a:Nat,IsN wr 0 wr.heap.size k X/\IsN wr 0 wr.heap.size m a/\a<=X/\Nat.gcd X a=c/\(A9 X).length<=4294967296/\l b.heap.size b wr
theorem GcdAt.intro {c X a:Nat} {b wr:g} (d:IsN wr 0 wr.heap.size k X) (e:IsN wr 0 wr.heap.size m a) (f:a<=X) (h:Nat.gcd X a=c) (i:(A9 X).length<=4294967296) (j:l b.heap.size b wr):GcdAt c b wr k m:=⟨X,a,d,e,f,h,i,j⟩
theorem zz1354 {w x y z:Int} (h:(1<=w/\x<=0/\y<=0/\1<=z/\w*z-x*y=1)\/(w<=0/\1<=x/\1<=y/\z<=-1/\w*z-x*y= -1)):
 ((0<=w/\x<=0)\/(w<=0/\0<=x))/\((0<=y/\z<=0)\/(y<=0/\0<=z)):=by
 rcases h with⟨a,b,c,d,_⟩|⟨a,b,c,d,_⟩
 ·exact⟨.inl ⟨by omega,by omega⟩,.inr ⟨by omega,by omega⟩⟩
 ·exact⟨.inr ⟨by omega,by omega⟩,.inl ⟨by omega,by omega⟩⟩
theorem yvk {w:g} {x y:Nat} (ha:IsN w 0 w.heap.size k x) (aG:IsN w 0 w.heap.size m y) (az:Bru w) (aT:(A9 x).length<=4294967296) (aU:(A9 y).length<=4294967296) (h:¬((A9 x).length<=2/\(A9 y).length<=2)) (Y:x≠1) (Z:y≠1):
 o r 186 #[k,m] w fun p w'=>(∃v,p= .returned v/\IsN w' w.heap.size w'.heap.size v (Nat.gcd x y))/\l w.heap.size w w':=by
 obtain⟨R,T,aY⟩:=H7 ha aG az;obtain⟨A,aq,rfl,_,_,_⟩:=ha;obtain⟨B,d,rfl,_,_,_⟩:=aG;obtain⟨a6,a8⟩:=C7 (decide_eq_false Y) (decide_eq_false Z);obtain⟨G,ac⟩:=nm (Nat.gcd x y);rw[<-ac];obtain⟨an,a7,a9⟩:=H7 ac aT aU;clear Y Z ac az aT aU;have bi:(2<(A9 x).length)\/((A9 x).length<=2/\2<(A9 y).length):=og;clear h;have bn:(x<y)\/(y<=x):=u x y;rcases bi with h|⟨h,bM⟩
 all_goals
  rcases bn with ah|aK
  all_goals
   go_in
   go_wp2_with fail
   refine(zrg R.out).mono ?_
   rw[a6.out]
   rintro p e ⟨rfl,rfl⟩
   go_wp2_with fail
   refine(zrg T.out).mono ?_
   rw[a8.out]
   rintro p e ⟨rfl,rfl⟩
   go_wp2_with fail
   refine(zsw R.out T.out).mono ?_
   first
    |(rw[zqu ah]
      have hst:∀q,c (GcdAt G w (w.drewN q) (.slice B (A9 y).length d) (.slice A (A9 x).length aq)):=fun q=>GcdAt.intro (T.out.drewN q) (R.out.drewN q) (Nat.le_of_lt ah) (by rw[Nat.gcd_comm];exact an.out.symm) a9.out (below_drewN (s _ _) q)
      clear ah)
    |(have bQ:0<=V8 x y:=by
       unfold V8
       rw[if_neg og]
       split<;>omega
      generalize V8 x y=sg at*
      have hst:∀q,c (GcdAt G w (w.drewN q) (.slice A (A9 x).length aq) (.slice B (A9 y).length d)):=fun q=>GcdAt.intro (R.out.drewN q) (T.out.drewN q) aK an.out.symm a7.out (below_drewN (s _ _) q)
      clear aK)
   rintro p e ⟨rfl,q,rfl⟩
   have ao:=i (hst q)
   clear hst
   go_wp2_with fail
   go_loopw [0,1] (fun bB aj wr=>GcdAt G w wr bB aj) (fun _ aj wr=>numOf wr aj)
   case atStart=>exact ao.out.out
   case round=>
    clear ao
    obtain⟨X,n,aA,aD,D,aC,F,K⟩:=hrel
    obtain⟨O,H,a1⟩:=H7 aA aD (aY.out.below K)
    obtain⟨bH,bL,rfl,_,_,_⟩:=aA
    obtain⟨al,ar,rfl,_,_,_⟩:=aD
    have P:=i aC
    clear aC
    rcases u 2 (A9 n).length with I|I
    ·have bd:3<=(A9 X).length:=t I (Y5 D)
     go_wp2_with fail
     refine(yxk O.out H.out (j _) (j _) D bd F).mono ?_
     rintro p f ⟨⟨S,bh,rfl,aB⟩,U⟩
     have aE:c (n/S<=X/S):=Nat.div_le_div_right D
     have ae:=i aB
     clear aB
     go_wp2_with fail
     refine(zz1467 f X n S _ _ bh rfl rfl D (by have:=ae.out;omega) (by have:=ae.out;have:=aE.out;omega)).mono ?_
     rintro p M ⟨⟨bE,ak,bF,bG,a,b,rfl,ad,⟨bt,bu,bv,Y⟩,⟨bw,Z,bx,bA⟩⟩,rfl⟩
     obtain⟨aW,bI,au,av,be,aJ,aO,_⟩:=ad.num
     obtain⟨aP,aX,aZ,a3,a5,ab,Q,aH⟩:=zmc (zz1354 ad.pat) au av aJ aO (O.out.up U) (H.out.up U) (zst K U)
     have bJ:=i D
     clear ad au av aJ aO U ae aE
     have ag:0<n:=by
      rcases Nat.eq_zero_or_pos n with E|E
      ·rw[E,O7] at I;simp at I
      ·exact E
     by_cases L:ak=0
     ·subst L
      go_wp2_with fail
      refine(yct ab.out Q.out (j _) (j _) F (t (Y5 D) F) ag).mono ?_
      rintro p M ⟨⟨bD,aV,rfl,ai,hr⟩,z⟩
      obtain⟨W,J⟩:=C7 (hr.wide (lo':=0) (C _) (j _)) (Q.out.up z)
      clear ai hr
      go_wp2_with fail
      go_roundw
      case rel=>exact GcdAt.intro J.out W.out (Nat.le_of_lt (Nat.mod_lt _ ag)) (by rw[<-P.out,Nat.gcd_comm X n,Nat.gcd_rec n X,Nat.gcd_comm]) (t (Y5 D) F) (zst aH.out z)
      case measure=>
       show numOf M aV<numOf wr (.slice al (A9 n).length ar)
       rw[zvv W.out,zvv H.out]
       exact Nat.mod_lt _ ag
     ·have bR:(ak==0)=false:=by simpa using L
      have bm:=a5.out L
      obtain⟨bP,bj⟩:=bm
      have ay:aW<=X:=t bj D
      have bK:=i L
      clear L
      go_wp2_with fail
      refine(ylh bE ak ab.out Q.out (j _) (j _) bt bu bv Y aP.out.1 aX.out ay D F).mono ?_
      rintro p M ⟨⟨bT,rfl,aQ⟩,z⟩
      obtain⟨a2,J,bq⟩:=H7 (ab.out.up z) (Q.out.up z) aQ
      clear aQ
      go_wp2_with fail
      refine(ylh bF bG a2.out J.out (j _) (j _) bw Z bx bA aP.out.2 aZ.out og D F).mono ?_
      rintro p N ⟨⟨bC,rfl,aR⟩,V⟩
      obtain⟨aS,br⟩:=C7 (aR.wide (lo':=0) (C _) (j _)) (bq.out.up V)
      clear aR
      go_wp2_with fail
      go_roundw
      case rel=>exact GcdAt.intro br.out aS.out be (by rw[a3.out];exact P.out) (t (Y5 ay) F) (zst (zst aH.out z) V)
      case measure=>
       show numOf N bC<numOf wr (.slice al (A9 n).length ar)
       rw[zvv aS.out,zvv H.out]
       omega
    ·rcases Nat.eq_zero_or_pos n with E|E
     ·have bf:c (X=G):=by
       have:=P.out
       rw[E,Nat.gcd_zero_right] at this
       exact this
      have aM:(A9 n).length=0:=by rw[E,O7];rfl
      have a4:=i aM
      rw[a4.out]
      clear aM
      go_wp2_with fail
      refine(zru O.out F).mono ?_
      rintro p M ⟨⟨v,rfl,hv⟩,z⟩
      go_wp2_with fail
      go_ret
      rw[bf.out] at hv
      exact⟨⟨_,rfl,hv.wide K.size (j _)⟩,zst K z⟩
     ·have bO:(((A9 n).length:Int)==0)=false:=by
       have:=lim_nil_iff (n:=n)
       rw[beq_eq_false_iff_ne]
       omega
      have aa:=i I
      go_wp2_with fail
      refine(yct O.out H.out (j _) (j _) F (t (Y5 D) F) E).mono ?_
      rintro p M ⟨⟨bD,aV,rfl,ai,hr⟩,z⟩
      obtain⟨aN,W,J⟩:=H7 (Nat.mod_lt X E) (hr.wide (lo':=0) (C _) (j _)) (H.out.up z)
      have bp:c ((A9 (X%n)).length<=2):=zz1495 aa.out (Nat.le_of_lt aN.out)
      obtain⟨af,a0⟩:=C7 (zxh aa.out) (a1.out.below z)
      have aL:c (Nat.gcd n (X%n)=G):=by rw[c,<-P.out,Nat.gcd_comm X n,Nat.gcd_rec n X,Nat.gcd_comm]
      have bg:c (G<=18446744073709551615):=by
       have bN:=aL.out
       have I:Nat.gcd n (X%n)<=n:=Nat.le_of_dvd E (Nat.gcd_dvd_left _ _)
       have:=af.out
       unfold c
       omega
      have aI:=zst K z
      clear ai hr z
      go_wp2_with fail
      refine(ztp J.out aa.out).mono ?_
      rintro p N ⟨rfl,rfl⟩
      go_wp2_with fail
      refine(ztp W.out bp.out).mono ?_
      rintro p N ⟨rfl,rfl⟩
      go_wp2_with fail
      refine(zym n (X%n) _ a0.out (oh af) (zli af aN)).mono ?_
      rw[aL.out]
      rintro p N ⟨rfl,rfl⟩
      go_wp2_with fail
      refine(yek _ G bg.out).mono ?_
      rintro p N ⟨⟨v,rfl,hv⟩,V⟩
      go_wp2_with fail
      go_ret
      exact⟨⟨_,rfl,hv.wide aI.size (j _)⟩,zst aI V⟩
theorem zrx {w:g} {x y:Nat} (ha:IsN w 0 w.heap.size k x) (a:IsN w 0 w.heap.size m y) (b:Bru w) (f:(A9 x).length<=4294967296) (i:(A9 y).length<=4294967296):
 o r 186 #[k,m] w fun e w'=>(∃v,e= .returned v/\IsN w' w.heap.size w'.heap.size v (Nat.gcd x y))/\l w.heap.size w w':=by
 by_cases h:(A9 x).length<=2/\(A9 y).length<=2
 ·exact yvl ha a b h.1 h.2
 ·by_cases c:x=1
  ·exact yjn ha a h (.inl c)
  ·by_cases d:y=1
   ·exact yjn ha a h (.inr d)
   ·exact yvk ha a b f i h c d
theorem zro (w:g):o r 125 #[] w (L5 w 0):=by obtain⟨n,l,b,d,f⟩:=J7 w #[.bool false,.slice none 0 0,.slice none 0 0] 37;obtain⟨a,k⟩:=C7 (d) (b);have m:c (w.heap.size+1<=n.heap.size):=i (Nat.le_of_eq f.out.symm);clear d b;obtain⟨q,t,x⟩:=C4 a.out;obtain⟨A,C,E⟩:=F6 a.out;go_in;go_wp2_with fail;clear l;refine(zny _).mono ?_;rintro z e ⟨⟨v,rfl,hv⟩,G⟩;have h:=i (N5 hv m.out);obtain⟨p,H,rfl,_,_,_⟩:=id hv;obtain⟨s,u,y⟩:=C4 (uR e a);obtain⟨B,D,F⟩:=F6 (uR e a);go_wp2_with fail;refine T6 Tryz.results125 rfl rfl (Row.put3 (uR e a) _ _ _) (zmv (n:=0) (d:=1) (by rw[yaq,O7,zkv]) (uB e k) (j _) (yeh (S:=I8 (w.heap.size+1) _)) h.out og og)
theorem zyr {w:g} {q:Rat} (h:IsQ w (C6 w) v q) (u:Sz q 100000):o r 98 #[v] w (L5 w q):=by
 obtain⟨neg,A,l,B,m,rfl,H,G,F⟩:=G4 h;have k:=i u;clear h u;obtain⟨j,V,b,z,C,I⟩:=zkn w #[.bool neg,.slice A (A9 q.num.natAbs).length l,.slice B (A9 q.den).length m] #[.bool false,.slice none 0 0,.slice none 0 0] 37 37;obtain⟨J,E,d,a,M⟩:=hd5 (IsK.stb.next G.out b) (IsK.stb.next F.out b) (z) (C) (b);have D:c (w.heap.size+2<=j.heap.size):=i (Nat.le_of_eq I.out.symm);clear z C b;obtain⟨N,P,R⟩:=C4 d.out;obtain⟨Y,ab,ae⟩:=C4 a.out;obtain⟨ah,ak,ao⟩:=F6 a.out;go_in;go_wp2_with fail;clear V
 go_region_held3 (fun w'=>w'.cell? ⟨w.heap.size,0,none⟩=some (.bool neg)/\w'.cell? ⟨w.heap.size,1,none⟩=some (.slice A (A9 q.num.natAbs).length l)/\w'.cell? ⟨w.heap.size,2,none⟩=some (.slice B (A9 q.den).length m))
  (first
    |exact⟨N,P,R⟩
    |exact⟨O,Q,S⟩
    |exact⟨n,p,s⟩
    |exact⟨W6 n og,W6 p og,W6 s og⟩)
  (first
    |(go_at_call 156;have hc:=zru (F7 (uK j.drew J)) (t k.out.1 og);(with_reducible refine hc.mono ?_);clear hc;rintro T e ⟨⟨ay,rfl,x⟩,U⟩;have K:=i (N5 x (uS j.drew D));obtain⟨W,au,rfl,_,_,_⟩:=id x;obtain⟨O,Q,S⟩:=C4 (uR e d);obtain⟨Z,ac,af⟩:=C4 (uR e a);obtain⟨ai,al,aq⟩:=F6 (uR e a))
    |(go_at_call 156;have hc:=zru (F7 (uK e E)) (t k.out.2 og);(with_reducible refine hc.mono ?_);clear hc;rintro T f ⟨⟨az,rfl,y⟩,U⟩;have L:=i (N5 y (uS e D));obtain⟨X,av,rfl,_,_,_⟩:=id y;obtain⟨n,p,s⟩:=C4 (uR f d);obtain⟨aa,ad,ag⟩:=C4 (uR f a);obtain⟨aj,an,ar⟩:=F6 (uR f a)))
 go_wp2_with fail;refine T6 Tryz.results98 rfl rfl (Row.put3 (uR f a) _ _ _) (zmv (by rw[H.out];rfl) (uB f M) og (uF f K) L.out og og)
theorem zpy {w:g} {q:Rat} (h:IsQ w (C6 w) v q):o r 94 #[v] w fun f w'=>f= .returned (.int .i64 (U6 q))/\l w.heap.size w w':=by
 obtain⟨neg,A,m,B,n,rfl,e,d,k⟩:=G4 h;clear h;have p:(A9 q.num.natAbs).length<=9223372036854775807:=(by have:=(F7 d.out).length_le;unfold maxLen at this;omega);by_cases a:q=0
 ·have i:(((A9 q.num.natAbs).length:Int)==0)=true:=(by rw[a];rw[show(0:Rat).num.natAbs=0 from rfl,O7];rfl);have b:c (U6 q=0):=(by unfold c U6;rw[if_pos a]);clear a;go_in;go_wp2_with fail;go_ret;exact⟨I9 b.out.symm,(s _ _).alloc (j _) _⟩
 ·have i:(((A9 q.num.natAbs).length:Int)==0)=false:=beq_eq_false_iff_ne.2 (by have:=zol a;have:= @lim_nil_iff q.num.natAbs;omega);have b:c (U6 q=if neg then -1 else 1):=(by unfold c U6;rw[if_neg a,e.out,yab];by_cases h:q<0<;>simp[h]);clear a;cases neg
  ·go_in;go_wp2_with fail;go_ret;exact⟨I9 b.out.symm,(s _ _).alloc (j _) _⟩
  ·go_in;go_wp2_with fail;go_ret;exact⟨I9 b.out.symm,(s _ _).alloc (j _) _⟩
def ybp (S:Nat->Prop) (w w':g):Nat->Prop:=fun b=>S b\/(w.heap.size<=b/\b<w'.heap.size)
theorem yvq {w w':g} (h:NumS w' (ybp (I8 lo w) w w') v n) (hlo:lo<=w.heap.size) (c:w.heap.size<=w'.heap.size):NumS w' (I8 lo w') v n:=
 IsK.stb.to h (G6 fun b a=>by rcases a with h|h;exact⟨h.1,by have:=h.2;omega⟩;exact⟨by omega,h.2⟩)
theorem yvr {w w':g} (h:NumS w' (ybp (C6 w) w w') v n) (a:w.heap.size<=w'.heap.size):NumS w' (C6 w') v n:=
 IsK.stb.to h (G6 fun b c=>by rcases c with h|h;exact d h a;exact h.2)
theorem ymh {w:g} {x y:Nat} (ha:NumS w S k x) (F:∀b,S b->b<w.heap.size) (n:IsN w 0 w.heap.size a y) (G:(A9 x).length<=4294967296) (H:(A9 y).length<=4294967296) (I:0<y):
 o r 178 #[k,a] w fun h w'=>(∃v,h= .returned v/\NumS w' (ybp S w w') v (x/y))/\l w.heap.size w w':=by
 obtain⟨q,m,u⟩:=H7 ha n (ha.isL (lo:=0) (hi:=w.heap.size) fun b f=>⟨C _,F b f⟩);obtain⟨A,J,rfl,_,_,_⟩:=ha;obtain⟨B,d,rfl,_,_,_⟩:=n;by_cases c:y=1
 ·have D:=i c;have hd:decide (y=1)=true:=decide_eq_true c;clear c;go_in;go_wp2_with fail;refine(zrg m.out).mono ?_;rw[hd];rintro h e ⟨rfl,rfl⟩;go_wp2_with fail;go_ret;exact⟨⟨_,rfl,by rw[D.out,Nat.div_one];exact IsK.stb.to q.out (G6 fun b f=> .inl f)⟩,s _ _⟩
 ·have hd:decide (y=1)=false:=decide_eq_false c;clear c;go_in;go_wp2_with fail;refine(zrg m.out).mono ?_;rw[hd];rintro h e ⟨rfl,rfl⟩;go_wp2_with fail;refine(yct u.out m.out (j _) (j _) G H I).mono ?_;rintro h e ⟨⟨K,L,rfl,p,_⟩,f⟩;obtain⟨z,t⟩:=C7 p f;clear p f;go_wp2_with fail;go_ret;exact⟨⟨_,rfl,z.out.isK fun b c E=> .inr ⟨c,E⟩⟩,t.out⟩
theorem ymg {w:g} {x y:Nat} (ha:NumS w (I8 lo w) k x) (hlo:lo<=w.heap.size) (e:IsN w 0 w.heap.size a y) (f:(A9 x).length<=4294967296) (h:(A9 y).length<=4294967296) (i:0<y):
 o r 178 #[k,a] w fun b w'=>(∃v,b= .returned v/\NumS w' (I8 lo w') v (x/y))/\l w.heap.size w w':=
 (ymh ha ylp e f h i).mono fun b w' ⟨⟨v,d,hv⟩,c⟩=>⟨⟨v,d,yvq hv hlo c.size⟩,c⟩
theorem zow {w:g} {x y:Nat} (ha:NumS w (C6 w) k x) (e:IsN w 0 w.heap.size a y) (f:(A9 x).length<=4294967296) (i:(A9 y).length<=4294967296) (j:0<y):
 o r 178 #[k,a] w fun b w'=>(∃v,b= .returned v/\NumS w' (C6 w') v (x/y))/\l w.heap.size w w':=
 (ymh ha (fun _ h=>h) e f i j).mono fun b w' ⟨⟨v,d,hv⟩,c⟩=>⟨⟨v,d,yvr hv c.size⟩,c⟩
theorem ypp (w:g) (neg:Bool) (n d:Nat) (m:Bru w) (F:n≠0) (D:d≠0) (E:n<18446744073709551616) (hd:d<18446744073709551616):
 o r 185 #[.bool neg,.int .u64 (n:Int),.int .u64 (d:Int)] w (L5 w (mkRat (sg neg n) d)):=by
 obtain⟨j,G,p,u,z⟩:=J7 w #[.bool false,.slice none 0 0,.slice none 0 0] 37;obtain⟨b,k⟩:=C7 (u) (p);have v:c (w.heap.size+1<=j.heap.size):=i (Nat.le_of_eq z.out.symm);clear u p;obtain⟨P,S,V⟩:=C4 b.out;obtain⟨Y,ab,ae⟩:=F6 b.out;have x:=i (Bru.next m (k.out));obtain⟨a,h⟩:=nm (Nat.gcd n d);have q:=i (zxr (neg:=neg) F D);rw[<-h] at q;have ai:1<=(a:Int):=(by have:=Nat.gcd_pos_of_pos_left d (by omega:0<n);omega);have y:=i h;have ak:n/a<=n:=Nat.div_le_self _ _;have al:d/a<=d:=Nat.div_le_self _ _;clear h m;go_in;go_wp2_with fail;clear G;refine(zym n d _ x.out E hd).mono ?_;rw[<-y.out];rintro l e ⟨rfl,rfl⟩;go_wp2_with fail;have ah:¬(a:Int)=0:=og;have aj:¬a=0:=og;have H:0<=(n:Int)/(a:Int):=Int.ediv_nonneg og og;have I:0<=(d:Int)/(a:Int):=Int.ediv_nonneg og og;have J:(n:Int)/(a:Int)<=18446744073709551615:=(by rw[<-Int.natCast_ediv];omega);have K:(d:Int)/(a:Int)<=18446744073709551615:=(by rw[<-Int.natCast_ediv];omega);have L:IntKind.u64.wrap ((n:Int)/(a:Int))=(n:Int)/(a:Int):=IntWalk.u64_in _ og;have M:IntKind.u64.wrap ((d:Int)/(a:Int))=(d:Int)/(a:Int):=IntWalk.u64_in _ og
 go_region_held3 (fun w'=>True)
  (trivial)
  (first
    |(go_at_call 198;have hc:=yej j.drew ((n:Int)/(a:Int)) H J;(with_reducible refine hc.mono ?_);clear hc;rintro l e ⟨⟨an,rfl,s⟩,C⟩;have A:=i (N5 s (uS j.drew v));obtain⟨N,L,rfl,_,_,_⟩:=id s;obtain⟨Q,T,W⟩:=C4 (uR e b);obtain⟨Z,ac,af⟩:=F6 (uR e b))
    |(go_at_call 198;have hc:=yej e ((d:Int)/(a:Int)) I K;(with_reducible refine hc.mono ?_);clear hc;rintro l f ⟨⟨ao,rfl,t⟩,C⟩;have B:=i (N5 t (uS e v));obtain⟨O,M,rfl,_,_,_⟩:=id t;obtain⟨R,U,X⟩:=C4 (uR f b);obtain⟨aa,ad,ag⟩:=F6 (uR f b)))
 go_wp2_with fail;refine T6 Tryz.results185 rfl rfl (Row.put3 (uR f b) _ _ _) (zmv (by rw[show((n:Int)/(a:Int)).toNat=n/a from by rw[<-Int.natCast_ediv];rfl,show((d:Int)/(a:Int)).toNat=d/a from by rw[<-Int.natCast_ediv];rfl];exact q.out) (uB f k) og (uF f A) B.out og og)
theorem below_trans' {w:g} (h:l w.heap.size w e) (a:l e.heap.size e f):l w.heap.size w f:=h.trans (a.mono h.size)
theorem yqi {w:g} {x y:Nat} (ha:IsN w lo hi k x) (ai:IsN w lo' z m y) (aj:hi<=w.heap.size) (ak:z<=w.heap.size) (au:(A9 y).length<=(A9 x).length) (aq:(A9 x).length<=4294967296):
 o r 195 #[k,m] w fun af w'=>(∃v,af= .returned v/\IsN w' w.heap.size w'.heap.size v (x+y))/\l w.heap.size w w':=by
 obtain⟨A,ao,rfl,_,_,ag⟩:=ha;obtain⟨B,d,rfl,_,_,ah⟩:=ai;have an:c (∀n,n<(A9 x).length->pw n<=x+y):=(by intro n al;have:=yak (x:=x) (k:=n) og;omega);generalize aa:A9 x=a at*;generalize ab:A9 y=b at*;have R:c (Lo a/\val a=x):=(by rw[c,<-aa];exact⟨M5 x,T7 x⟩);have S:c (Lo b/\val b=y):=(by rw[c,<-ab];exact⟨M5 y,T7 y⟩);clear aa ab;generalize U:w.heap.size=bs at*;have M:=i U;clear U;go_in;go_wp2_with (at_make;refine ypu (base:=bs) W5 rfl _ _ rfl (a.length+1) rfl rfl og og (oh M) ?_;intro aI e ac X E);have W:l bs w e:=(by rw[<-M.out];exact X);clear X
 go_loopw [5,6,23] (fun v ae P wr=>∃(n:Nat) (p:List Nat) (q:Int),n<=a.length/\P= .int .i64 (n:Int)/\ae= .int .u32 q/\0<=q/\q<=1/\Own wr bs 118 v (E7 .u32 p)/\l bs w wr/\
  c (p.length=n/\Lo p/\(val p:Int)+q*pw n=val (a.take n)+val (b.take n))) (fun _ _ P _=>a.length-(intOf P).toNat)
 case atStart=>exact⟨0,[],0,by omega,rfl,rfl,by omega,by omega,ac,W,rfl,zxf,by simp[val]⟩
 case round=>
  obtain⟨n,p,q,al,rfl,rfl,av,ay,D,t,hrel⟩:=hrel;have G:bs<=wr.heap.size:=(by have:=t.size;have:=M.out;omega);have ar:n<=4294967297:=og;have I:c ((E7 .u32 p).length<=4294967297):=(by rw[c,zmp,hrel.out.1];omega);clear W ac E;rcases u n a.length with N|N
  ·obtain⟨ba,oa,rfl,_,_,Y⟩:=(ag.below t aj) (N0 (j:=n) N);obtain⟨F,K,aB,aC,aD⟩:=X7 (j:=n) R.out.1 Y N;clear Y;rcases u n b.length with H|H
   ·obtain⟨bb,ob,rfl,_,_,Z⟩:=(ah.below t ak) (N0 (j:=n) H);obtain⟨Q,ad,aE,aG,aH⟩:=X7 (j:=n) S.out.1 Z H;clear Z;rcases Int.lt_or_le 999999999 (F+q+Q) with O|O
    ·go_wp2_with (at_builtin;refine zly W5 rfl _ _ rfl rfl D rfl rfl (oh I) G ?_;intro L f s C E);go_roundw;(case rel=>rw[zln .u32 p (F+q+Q-1000000000).toNat _ og] at s;exact⟨n+1,_,1,by omega,by go_num,rfl,by omega,by omega,s,t.trans C,by rw[h];simp[hrel.out.1],zml hrel.out.2.1 og,zpv (c':=1) hrel.out.1 K.out ad.out og og hrel.out.2.2⟩);case measure=>simp[intOf];omega
    ·go_wp2_with (at_builtin;refine zly W5 rfl _ _ rfl rfl D rfl rfl (oh I) G ?_;intro L f s C E);go_roundw;(case rel=>rw[zln .u32 p (F+q+Q).toNat _ og] at s;exact⟨n+1,_,0,by omega,by go_num,rfl,by omega,by omega,s,t.trans C,by rw[h];simp[hrel.out.1],zml hrel.out.2.1 og,zpv (c':=0) hrel.out.1 K.out ad.out og og hrel.out.2.2⟩);case measure=>simp[intOf];omega
   ·rcases Int.lt_or_le 999999999 (F+q) with O|O
    ·go_wp2_with (at_builtin;refine zly W5 rfl _ _ rfl rfl D rfl rfl (oh I) G ?_;intro L f s C E);go_roundw;(case rel=>rw[zln .u32 p (F+q-1000000000).toNat _ og] at s;exact⟨n+1,_,1,by omega,by go_num,rfl,by omega,by omega,s,t.trans C,by rw[h];simp[hrel.out.1],zml hrel.out.2.1 og,zpv (c':=1) hrel.out.1 K.out (show(0:Int)=_ by rw[zmq H];rfl) og og hrel.out.2.2⟩);case measure=>simp[intOf];omega
    ·go_wp2_with (at_builtin;refine zly W5 rfl _ _ rfl rfl D rfl rfl (oh I) G ?_;intro L f s C E);go_roundw;(case rel=>rw[zln .u32 p (F+q).toNat _ og] at s;exact⟨n+1,_,0,by omega,by go_num,rfl,by omega,by omega,s,t.trans C,by rw[h];simp[hrel.out.1],zml hrel.out.2.1 og,zpv (c':=0) hrel.out.1 K.out (show(0:Int)=_ by rw[zmq H];rfl) og og hrel.out.2.2⟩);case measure=>simp[intOf];omega
  ·obtain rfl:n=a.length:=og;have V:c ((val p:Int)+q*pw a.length=x+y):=(by have:=hrel.out.2.2;rw[zkt (j _),zkt og,R.out.2,S.out.2] at this;unfold c;omega);rcases Int.lt_or_le 0 q with az|aA
   ·obtain rfl:q=1:=og;have hfin:c (A9 (x+y)=p++[1]):=(by have J:val (p++[1])=x+y:=(by rw[zop,hrel.out.1,ztm,zqz];have:=V.out;omega);rw[c,<-J];refine zvp (zml hrel.out.2.1 og) (.inr ?_);rw[h,hrel.out.1,zop,hrel.out.1,ztm,zqz];simp);go_wp2_with (at_builtin;refine zly W5 rfl _ _ rfl rfl D rfl rfl (oh I) G ?_;intro L f s C E);go_ret;refine⟨⟨_,rfl,?_⟩,t.trans C⟩;unfold IsN;rw[hfin.out];rw[zln .u32 p 1 _ og] at s;exact Own.isL s
   ·obtain rfl:q=0:=og
    have hfin:c (A9 (x+y)=p):=by
     have J:val p=x+y:=oh V;rw[c,<-J];refine zvp hrel.out.2.1 ?_;rcases Nat.eq_zero_or_pos a.length with T|T
     ·exact .inl (List.eq_nil_of_length_eq_zero (by rw[hrel.out.1];exact T))
     ·exact .inr (by rw[hrel.out.1,J];exact an.out _ og)
    go_wp2;go_ret;refine⟨⟨_,rfl,?_⟩,t⟩;unfold IsN;rw[hfin.out];exact Own.isL D
theorem yqj {w:g} {x y:Nat} (ha:IsN w lo hi k x) (ai:IsN w lo' z m y) (aj:hi<=w.heap.size) (ak:z<=w.heap.size) (au:(A9 x).length<(A9 y).length) (aq:(A9 y).length<=4294967296):
 o r 195 #[k,m] w fun af w'=>(∃v,af= .returned v/\IsN w' w.heap.size w'.heap.size v (x+y))/\l w.heap.size w w':=by
 obtain⟨A,ao,rfl,_,_,ag⟩:=ha;obtain⟨B,d,rfl,_,_,ah⟩:=ai;have an:c (∀n,n<(A9 y).length->pw n<=x+y):=(by intro n al;have:=yak (x:=y) (k:=n) og;omega);generalize aa:A9 x=a at*;generalize ab:A9 y=b at*;have R:c (Lo a/\val a=x):=(by rw[c,<-aa];exact⟨M5 x,T7 x⟩);have S:c (Lo b/\val b=y):=(by rw[c,<-ab];exact⟨M5 y,T7 y⟩);clear aa ab;generalize U:w.heap.size=bs at*;have M:=i U;clear U;go_in;go_wp2_with (at_make;refine ypu (base:=bs) W5 rfl _ _ rfl (b.length+1) rfl rfl og og (oh M) ?_;intro aI e ac X E);have W:l bs w e:=(by rw[<-M.out];exact X);clear X
 go_loopw [5,6,23] (fun v ae P wr=>∃(n:Nat) (p:List Nat) (q:Int),n<=b.length/\P= .int .i64 (n:Int)/\ae= .int .u32 q/\0<=q/\q<=1/\Own wr bs 118 v (E7 .u32 p)/\l bs w wr/\
  c (p.length=n/\Lo p/\(val p:Int)+q*pw n=val (b.take n)+val (a.take n))) (fun _ _ P _=>b.length-(intOf P).toNat)
 case atStart=>exact⟨0,[],0,by omega,rfl,rfl,by omega,by omega,ac,W,rfl,zxf,by simp[val]⟩
 case round=>
  obtain⟨n,p,q,al,rfl,rfl,av,ay,D,t,hrel⟩:=hrel;have G:bs<=wr.heap.size:=(by have:=t.size;have:=M.out;omega);have ar:n<=4294967297:=og;have I:c ((E7 .u32 p).length<=4294967297):=(by rw[c,zmp,hrel.out.1];omega);clear W ac E;rcases u n b.length with N|N
  ·obtain⟨ba,oa,rfl,_,_,Y⟩:=(ah.below t ak) (N0 (j:=n) N);obtain⟨F,K,aB,aC,aD⟩:=X7 (j:=n) S.out.1 Y N;clear Y;rcases u n a.length with H|H
   ·obtain⟨bb,ob,rfl,_,_,Z⟩:=(ag.below t aj) (N0 (j:=n) H);obtain⟨Q,ad,aE,aG,aH⟩:=X7 (j:=n) R.out.1 Z H;clear Z;rcases Int.lt_or_le 999999999 (F+q+Q) with O|O
    ·go_wp2_with (at_builtin;refine zly W5 rfl _ _ rfl rfl D rfl rfl (oh I) G ?_;intro L f s C E);go_roundw;(case rel=>rw[zln .u32 p (F+q+Q-1000000000).toNat _ og] at s;exact⟨n+1,_,1,by omega,by go_num,rfl,by omega,by omega,s,t.trans C,by rw[h];simp[hrel.out.1],zml hrel.out.2.1 og,zpv (c':=1) hrel.out.1 K.out ad.out og og hrel.out.2.2⟩);case measure=>simp[intOf];omega
    ·go_wp2_with (at_builtin;refine zly W5 rfl _ _ rfl rfl D rfl rfl (oh I) G ?_;intro L f s C E);go_roundw;(case rel=>rw[zln .u32 p (F+q+Q).toNat _ og] at s;exact⟨n+1,_,0,by omega,by go_num,rfl,by omega,by omega,s,t.trans C,by rw[h];simp[hrel.out.1],zml hrel.out.2.1 og,zpv (c':=0) hrel.out.1 K.out ad.out og og hrel.out.2.2⟩);case measure=>simp[intOf];omega
   ·rcases Int.lt_or_le 999999999 (F+q) with O|O
    ·go_wp2_with (at_builtin;refine zly W5 rfl _ _ rfl rfl D rfl rfl (oh I) G ?_;intro L f s C E);go_roundw;(case rel=>rw[zln .u32 p (F+q-1000000000).toNat _ og] at s;exact⟨n+1,_,1,by omega,by go_num,rfl,by omega,by omega,s,t.trans C,by rw[h];simp[hrel.out.1],zml hrel.out.2.1 og,zpv (c':=1) hrel.out.1 K.out (show(0:Int)=_ by rw[zmq H];rfl) og og hrel.out.2.2⟩);case measure=>simp[intOf];omega
    ·go_wp2_with (at_builtin;refine zly W5 rfl _ _ rfl rfl D rfl rfl (oh I) G ?_;intro L f s C E);go_roundw;(case rel=>rw[zln .u32 p (F+q).toNat _ og] at s;exact⟨n+1,_,0,by omega,by go_num,rfl,by omega,by omega,s,t.trans C,by rw[h];simp[hrel.out.1],zml hrel.out.2.1 og,zpv (c':=0) hrel.out.1 K.out (show(0:Int)=_ by rw[zmq H];rfl) og og hrel.out.2.2⟩);case measure=>simp[intOf];omega
  ·obtain rfl:n=b.length:=og;have V:c ((val p:Int)+q*pw b.length=x+y):=(by have:=hrel.out.2.2;rw[zkt (j _),zkt og,S.out.2,R.out.2] at this;unfold c;omega);rcases Int.lt_or_le 0 q with az|aA
   ·obtain rfl:q=1:=og;have hfin:c (A9 (x+y)=p++[1]):=(by have J:val (p++[1])=x+y:=(by rw[zop,hrel.out.1,ztm,zqz];have:=V.out;omega);rw[c,<-J];refine zvp (zml hrel.out.2.1 og) (.inr ?_);rw[h,hrel.out.1,zop,hrel.out.1,ztm,zqz];simp);go_wp2_with (at_builtin;refine zly W5 rfl _ _ rfl rfl D rfl rfl (oh I) G ?_;intro L f s C E);go_ret;refine⟨⟨_,rfl,?_⟩,t.trans C⟩;unfold IsN;rw[hfin.out];rw[zln .u32 p 1 _ og] at s;exact Own.isL s
   ·obtain rfl:q=0:=og
    have hfin:c (A9 (x+y)=p):=by
     have J:val p=x+y:=oh V;rw[c,<-J];refine zvp hrel.out.2.1 ?_;rcases Nat.eq_zero_or_pos b.length with T|T
     ·exact .inl (List.eq_nil_of_length_eq_zero (by rw[hrel.out.1];exact T))
     ·exact .inr (by rw[hrel.out.1,J];exact an.out _ og)
    go_wp2;go_ret;refine⟨⟨_,rfl,?_⟩,t⟩;unfold IsN;rw[hfin.out];exact Own.isL D
theorem yqk {w:g} {x y:Nat} (ha:IsN w lo hi k x) (a:IsN w lo' z m y) (b:hi<=w.heap.size) (c:z<=w.heap.size) (e:(A9 x).length<=4294967296) (f:(A9 y).length<=4294967296):
 o r 195 #[k,m] w fun d w'=>(∃v,d= .returned v/\IsN w' w.heap.size w'.heap.size v (x+y))/\l w.heap.size w w':=by
 rcases u (A9 x).length (A9 y).length with h|h
 ·exact yqj ha a b c h f
 ·exact yqi ha a b c h e
theorem zum {w:g} (h:IsN w 0 w.heap.size v n):(A9 n).length<=9223372036854775807:=by have:=h.length_le;unfold maxLen at this;omega
theorem zun (h:n=0):(((A9 n).length:Int)==0)=true:=by rw[h,O7];rfl
theorem zou (h:n≠0):(((A9 n).length:Int)==0)=false:=beq_eq_false_iff_ne.2 (by have:= @lim_nil_iff n;omega)
theorem yxq (h:n≠0):0<(A9 n).length:=by have:= @lim_nil_iff n;omega
def ygj (S:Nat->Prop) (w:g) (q:Rat) (a:Ending) (w':g):Prop:=(∃v,a= .returned v/\IsQ w' S v q)/\l w.heap.size w w'
theorem ymc {w:g} {q:Rat} (h:IsQ w S v q) (a:∀b,S b->b<w.heap.size) (G:p= -q):o r 173 #[v] w (ygj S w p):=by
 subst G;have R:(A9 q.num.natAbs).length<=9223372036854775807:=zum (F7 (IsK.stb.to (G4 h).choose_spec.choose_spec.choose_spec.choose_spec.choose_spec.2.2.1.out (G6 a)));obtain⟨neg,A,f,B,i,rfl,D,C,z⟩:=G4 h;have hr:=zz1407 q;rw[show E9 q=⟨neg,A9 q.num.natAbs,A9 q.den⟩ from by rw[D.out];rfl] at hr;clear h;obtain⟨I,T,d,t,e,K⟩:=zkn w #[.bool neg,.slice A (A9 q.num.natAbs).length f,.slice B (A9 q.den).length i] #[.bool false,.slice none 0 0,.slice none 0 0] 37 37;have n:=IsK.stb.to C.out (zqs (S:=S) d a);have m:=IsK.stb.to z.out (zqs (S:=S) d a);obtain⟨L,M,N⟩:=C4 t;obtain⟨U,V,W⟩:=C4 e;obtain⟨O,P,Q⟩:=F6 e;obtain⟨l,y,x,u⟩:=U2 e d n m;clear t e d n m
 have hfin:∀s:Bool,E9 (-q)=⟨s,A9 q.num.natAbs,A9 q.den⟩->ygj S w (-q) (.returned (.agg #[.bool s,.slice A (A9 q.num.natAbs).length f,.slice B (A9 q.den).length i])) (put3 I (w.heap.size+1) (.bool s) (.slice A (A9 q.num.natAbs).length f) (.slice B (A9 q.den).length i)):=fun s H=>
  ⟨⟨_,rfl,ykf H (IsK.stb.to x.out (zqt fun b c=>⟨by have:=a b c;omega,c⟩)) (IsK.stb.to u.out (zqt fun b c=>⟨by have:=a b c;omega,c⟩))⟩,zqe y.out og _ _ _⟩
 obtain⟨j,k,J⟩:=H7 hfin hr a;clear hfin hr a;cases neg with
 |true=>go_in;go_wp2_with fail;refine T6 Tryz.results173 rfl rfl (Row.put3 l.out _ _ _) (j.out false (by rw[k.out];rfl))
 |false=>go_in;go_wp2_with fail;refine T6 Tryz.results173 rfl rfl (Row.put3 l.out _ _ _) (j.out _ ?_);rw[k.out];congr 1;rw[Bool.eq_iff_iff];have E:= @ylv q;have F:= @lim_nil_iff q.num.natAbs;simp;rw[<-E,<-F];omega
theorem ykg {w w':g} {q:Rat} (h:IsQ w' (C6 w) v q) (a:l w.heap.size w w'):IsQ w' (C6 w') v q:=IsQ.stb.to h (G6 fun b h=>d h a.size)
theorem zsb {w:g} {q:Rat} (h:IsQ w (C6 w) v q) (l:Sz q 100000) (j:p= -q):o r 133 #[v] w (L5 w p):=by have t:=i h;obtain⟨neg,A,F,B,G,rfl,N,M,L⟩:=G4 h;have x:c (Sz p 100000):=(by rw[j];exact l.neg);have u:=i j;clear h l j;obtain⟨K,I,d,n,s,y⟩:=zkn w #[.bool neg,.slice A (A9 q.num.natAbs).length F,.slice B (A9 q.den).length G] #[.bool false,.slice none 0 0,.slice none 0 0] 37 37;have z:=nQ t d;obtain⟨b,a,E⟩:=H7 (n) (s) (d);have J:c (w.heap.size+2<=K.heap.size):=i (Nat.le_of_eq y.out.symm);clear n s d;obtain⟨S,V,Y⟩:=C4 b.out;obtain⟨ab,ae,ah⟩:=C4 a.out;obtain⟨ak,ao,au⟩:=F6 a.out;go_in;go_wp2_with fail;clear I;refine(ymc z.out (fun _ h=>h) u.out).mono ?_;rintro H e ⟨⟨aG,rfl,hv⟩,k⟩;have D:=i (ykg hv k);obtain⟨aD,Q,az,O,aB,rfl,_,_,_⟩:=G4 hv;obtain⟨T,W,Z⟩:=C4 (uR e b);obtain⟨ac,af,ai⟩:=C4 (uR e a);obtain⟨al,aq,av⟩:=F6 (uR e a);go_wp2_with fail;refine(zyr D.out x.out).mono ?_;rintro H f ⟨⟨aH,rfl,m⟩,k⟩;have C:=i (IsQ.stb.le m (uS e J));obtain⟨aE,R,aA,P,aC,rfl,_,_,_⟩:=G4 m;obtain⟨U,X,aa⟩:=C4 (uR f b);obtain⟨ad,ag,aj⟩:=C4 (uR f a);obtain⟨an,ar,ay⟩:=F6 (uR f a);go_wp2_with fail;refine T6 Tryz.results133 rfl rfl (Row.put3 (uR f a) _ _ _) (zlu C.out (uB f E) og og)
def zlh (q:Rat):Bool:=decide ((A9 q.num.natAbs).length<=1024/\(A9 q.den).length<=1024)
theorem fitsQ_true {q:Rat}:zlh q=true↔Sz q 1024:=by unfold zlh Sz;exact decide_eq_true_iff
theorem ycz {w:g} {q:Rat} (h:IsQ w (C6 w) v q):o r 123 #[v] w fun c w'=>c= .returned (.bool (zlh q))/\l w.heap.size w w':=by
 obtain⟨neg,A,f,B,i,rfl,e,b,a⟩:=G4 h;have m:=zum (F7 b.out);have n:=zum (F7 a.out);clear h;by_cases d:(A9 q.num.natAbs).length<=1024
 ·go_in;go_wp2_with fail;go_ret;refine⟨zpx ?_,(s _ _).alloc (j _) _⟩;rw[Bool.eq_iff_iff,fitsQ_true];unfold Sz;simp;omega
 ·have k:1024<(A9 q.num.natAbs).length:=og;clear d;go_in;go_wp2_with fail;go_ret;refine⟨zpx ?_,(s _ _).alloc (j _) _⟩;rw[Bool.eq_iff_iff,fitsQ_true];unfold Sz;simp;omega
def zoq (a b:Rat):Prop:=(A9 a.num.natAbs).length=1/\(A9 a.den).length=1/\(A9 b.num.natAbs).length=1/\(A9 b.den).length=1
theorem yac {w:g} {a d:Rat} (ha:IsQ w (C6 w) k a) (s:IsQ w (C6 w) m d):o r 184 #[k,m] w fun J w'=>(∃b:Bool,J= .returned (.bool b)/\(b=true↔zoq a d))/\l w.heap.size w w':=by obtain⟨O,v,F,y,H,rfl,Q,C,A⟩:=G4 ha;obtain⟨P,x,G,z,I,rfl,R,D,B⟩:=G4 s;have Z:=zum (F7 C.out);have aa:=zum (F7 A.out);have ab:=zum (F7 D.out);have ac:=zum (F7 B.out);clear ha s;obtain⟨ad,Y,t,ra,u,S⟩:=zkn w #[.bool O,.slice v (A9 a.num.natAbs).length F,.slice y (A9 a.den).length H] #[.bool P,.slice x (A9 d.num.natAbs).length G,.slice z (A9 d.den).length I] 37 37;obtain⟨T,U,V⟩:=C4 ra;obtain⟨W,X,b2⟩:=C4 u;have n:=i t;clear ra u t;by_cases f:(A9 a.num.natAbs).length=1;(case neg=>have K:((((A9 a.num.natAbs).length:Nat):Int)==1)=false:=beq_eq_false_iff_ne.2 og;have e:c (¬zoq a d):=fun h=>f h.1;clear f;go_in;go_wp2_with fail;go_ret;exact⟨⟨false,rfl,⟨fun h=>Bool.noConfusion h,fun h=>absurd h e.out⟩⟩,n.out⟩);have K:((((A9 a.num.natAbs).length:Nat):Int)==1)=true:=beq_iff_eq.2 og;by_cases j:(A9 a.den).length=1;(case neg=>have L:((((A9 a.den).length:Nat):Int)==1)=false:=beq_eq_false_iff_ne.2 og;have e:c (¬zoq a d):=fun h=>j h.2.1;clear j f;go_in;go_wp2_with fail;go_ret;exact⟨⟨false,rfl,⟨fun h=>Bool.noConfusion h,fun h=>absurd h e.out⟩⟩,n.out⟩);have L:((((A9 a.den).length:Nat):Int)==1)=true:=beq_iff_eq.2 og;by_cases p:(A9 d.num.natAbs).length=1;(case neg=>have M:((((A9 d.num.natAbs).length:Nat):Int)==1)=false:=beq_eq_false_iff_ne.2 og;have e:c (¬zoq a d):=fun h=>p h.2.2.1;clear p f j;go_in;go_wp2_with fail;go_ret;exact⟨⟨false,rfl,⟨fun h=>Bool.noConfusion h,fun h=>absurd h e.out⟩⟩,n.out⟩);have M:((((A9 d.num.natAbs).length:Nat):Int)==1)=true:=beq_iff_eq.2 og;by_cases q:(A9 d.den).length=1;(case neg=>have N:((((A9 d.den).length:Nat):Int)==1)=false:=beq_eq_false_iff_ne.2 og;have e:c (¬zoq a d):=fun h=>q h.2.2.2;clear q f j p;go_in;go_wp2_with fail;go_ret;exact⟨⟨false,rfl,⟨fun h=>Bool.noConfusion h,fun h=>absurd h e.out⟩⟩,n.out⟩);have N:((((A9 d.den).length:Nat):Int)==1)=true:=beq_iff_eq.2 og;have E:c (zoq a d):=⟨f,j,p,q⟩;clear f j p q;go_in;go_wp2_with fail;go_ret;exact⟨⟨true,rfl,⟨fun _=>E.out,fun _=>rfl⟩⟩,n.out⟩
theorem ysy {w:g} {x y:Nat} (ha:IsN w 0 w.heap.size k x) (c:IsN w 0 w.heap.size m y) (F:Bru w) (H:(A9 x).length<=4294967296) (I:(A9 y).length<=4294967296):
 o r 164 #[k,m] w fun a w'=>(∃b:Bool,a= .returned (.bool b)/\(b=true↔Nat.gcd x y=1))/\l w.heap.size w w':=by
 obtain⟨p,q,n⟩:=H7 ha c F;obtain⟨A,O,rfl,_,_,_⟩:=ha;obtain⟨B,d,rfl,_,_,_⟩:=c;clear F;by_cases h:(A9 x).length<=2/\(A9 y).length<=2
 ·obtain⟨j,D⟩:=h;have C:=lim_len_le.1 j;have by_:=lim_len_le.1 D;rw[show pw 2=1000000000000000000 from by decide] at C by_;obtain⟨J,K⟩:=C7 C by_;clear C by_;obtain⟨N,G⟩:=nm (Nat.gcd x y);have E:=i G;clear G;go_in;go_wp2_with fail;refine(ztp p.out j).mono ?_;rintro a e ⟨rfl,rfl⟩;go_wp2_with fail;refine(ztp q.out D).mono ?_;rintro a e ⟨rfl,rfl⟩;go_wp2_with fail;refine(zym x y w n.out (Nat.lt_trans J.out og) (Nat.lt_trans K.out og)).mono ?_;rw[<-E.out];rintro a e ⟨rfl,rfl⟩;go_wp2_with fail;go_ret;exact⟨⟨_,rfl,by rw[<-E.out];simp;omega⟩,s _ _⟩
 ·rcases u 2 (A9 x).length with j|j
  ·clear h;go_in;go_wp2_with fail;refine(zrx p.out q.out n.out H I).mono ?_;rintro a e ⟨⟨v,rfl,hv⟩,c⟩;obtain⟨z,t⟩:=C7 hv c;obtain⟨L,M,rfl,_,_,_⟩:=hv;clear c;go_wp2_with fail;refine(zrg z.out).mono ?_;rintro a f ⟨rfl,rfl⟩;go_wp2_with fail;go_ret;exact⟨⟨_,rfl,by simp⟩,t.out⟩
  ·have D:2<(A9 y).length:=og;clear h;go_in;go_wp2_with fail;refine(zrx p.out q.out n.out H I).mono ?_;rintro a e ⟨⟨v,rfl,hv⟩,c⟩;obtain⟨z,t⟩:=C7 hv c;obtain⟨L,M,rfl,_,_,_⟩:=hv;clear c;go_wp2_with fail;refine(zrg z.out).mono ?_;rintro a f ⟨rfl,rfl⟩;go_wp2_with fail;go_ret;exact⟨⟨_,rfl,by simp⟩,t.out⟩
theorem ykk {w:g} {x y:Nat} (sa sb:Bool) (ha:IsN w 0 w.heap.size k x) (a:IsN w 0 w.heap.size m y) (Q:(A9 x).length<=2000000) (R:(A9 y).length<=2000000):
 o r 177 #[.bool sa,k,.bool sb,m] w fun p w'=>(∃s v n,p= .returned (.tuple #[.bool s,v])/\c (sg s n=sg sa x+sg sb y)/\IsN w' w.heap.size w'.heap.size v n/\(A9 n).length<=2000001)/\l w.heap.size w w':=by
 obtain⟨q,z⟩:=C7 ha a;obtain⟨A,S,rfl,_,_,_⟩:=ha;obtain⟨B,d,rfl,_,_,_⟩:=a;by_cases F:sa=sb
 ·subst F;have P:(sa==sa)=true:=(by simp);go_in;go_wp2_with fail;refine(yqk q.out z.out (j _) (j _) og og).mono ?_;rintro p e ⟨⟨v,rfl,hv⟩,a⟩;obtain⟨E,C⟩:=C7 hv a;clear hv a;go_wp2_with fail;go_ret2;exact⟨⟨_,_,_,rfl,yfe _ _ _,E.out,by have:=yfm Q R;omega⟩,C.out⟩
 ·have P:(sa==sb)=false:=(by simp[F]);have M:c (sb= !sa):=(by unfold c;cases sa<;>cases sb<;>simp at F⊢);clear F;rcases u x y with N|J
  ·have I:=i N;clear N;go_in;go_wp2_with fail;refine(zsw q.out z.out).mono ?_;rw[zqu I.out];rintro p e ⟨rfl,hd⟩;have b:=hd.below w.heap.size;obtain⟨G,H,D⟩:=H7 (IsN.next q.out b) (IsN.next z.out b) b;clear hd b;go_wp2_with fail;refine(yoo H.out G.out (j _) (j _) (Nat.le_of_lt I.out) og).mono ?_;rintro p f ⟨⟨v,rfl,hv⟩,a⟩;have E:=i (hv.wide D.out.size (j _));have C:=nB D a;clear hv a;go_wp2_with fail;go_ret2;exact⟨⟨_,_,_,rfl,by unfold c;rw[sg_sub' (Nat.le_of_lt I.out),M.out];simp,E.out,t (Y5 (Nat.sub_le _ _)) og⟩,C.out⟩
  ·have L:=i J
   obtain⟨K,hr,T⟩:∃K,K=V8 x y/\0<=K:=by
    refine⟨_,rfl,?_⟩;rcases u y x with h|h
    ·rw[zsj h];omega
    ·rw[zwg (Nat.le_antisymm h J)];omega
   have O:=i hr;clear J hr;go_in;go_wp2_with fail;refine(zsw q.out z.out).mono ?_;rw[<-O.out];rintro p e ⟨rfl,hd⟩;have b:=hd.below w.heap.size;obtain⟨G,H,D⟩:=H7 (IsN.next q.out b) (IsN.next z.out b) b;clear hd b;go_wp2_with fail;refine(yoo G.out H.out (j _) (j _) L.out og).mono ?_;rintro p f ⟨⟨v,rfl,hv⟩,a⟩;have E:=i (hv.wide D.out.size (j _));have C:=nB D a;clear hv a;go_wp2_with fail;go_ret2;exact⟨⟨_,_,_,rfl,by unfold c;rw[yff L.out,M.out],E.out,t (Y5 (Nat.sub_le _ _)) og⟩,C.out⟩
end Go.Proofs.YtpbilanpeioonaaGreatDoor
