/-
 The contract of package long's Gcd.
-/
import Derived.Test.YtlhhbccgfkhflaaGreatDoorPvv05
namespace Go.Proofs.YtlhhbccgfkhflaaGreatDoor
open Go.RowKit
set_option linter.unusedVariables false
set_option maxRecDepth 100000
set_option maxHeartbeats 8000000
open _root_.Go.Lib renaming hid → i
open _root_.Nat renaming le_refl → j, le_trans → t, lt_of_lt_of_le → d, lt_or_ge → z, zero_le → D
open _root_.Go.RowKit.Below renaming refl → C
open _root_.List renaming length_append → u
open _root_.Go renaming World → g, Calls → o
open _root_.Go.RowKit renaming Below → l, Hid → c
open _root_.Go.Proofs.Tryz renaming prog → r
variable {S : Nat → Prop} {b : List Nat} {hi s lo' n : Nat} {p : Rat} {v k m a : Value} {e f : g}
theorem yqi {k:IntKind} {a:List Nat} (g:a.length=b.length) (h:∀c,c<a.length->(C8 k a)[c]? =(C8 k b)[c]?):a=b:=by apply List.ext_getElem g;intro c d f;have e:=h c d;rw[cel_getElem?,cel_getElem?,List.getElem?_eq_getElem d,List.getElem?_eq_getElem f] at e;simp only[Option.map_some,Option.some.injEq,Value.int.injEq,true_and] at e;omega
theorem IsL.unique {c:IntKind} {w:g} {lo:Nat} {a:List Nat} (ha:IsL c w lo hi v a) (m:IsL c w lo' s v b):a=b:=by obtain⟨A,p,rfl,_,_,k⟩:=ha;obtain⟨B,d,hv,_,_,l⟩:=m;simp only[Value.slice.injEq] at hv;obtain⟨rfl,n,rfl⟩:=hv;refine yqi (k:=c) n fun f e=> ?_;obtain⟨o,q,rfl,_,_,j⟩:=k (M5 (j:=f) e);have h:=j f _ (zpl e);have i:=l.at_ f _ (zpl (k:=c) (l:=b) og);rw[zpl e,zpl og];exact h.symm.trans i
theorem IsN.unique {w:g} {lo:Nat} {x y:Nat} (ha:IsN w lo hi v x) (a:IsN w lo' s v y):x=y:=ywi (IsL.unique ha a)
open Classical in
noncomputable def numOf (w:g) (v:Value):Nat:=if h:∃n,IsN w 0 w.heap.size v n then Classical.choose h else 0
theorem zuo {w:g} (h:IsN w 0 w.heap.size v n):numOf w v=n:=by have hex:∃n,IsN w 0 w.heap.size v n:=⟨n,h⟩;unfold numOf;rw[dif_pos hex];exact IsN.unique (Classical.choose_spec hex) h
theorem IsN.up {w w':g} {lo:Nat} (h:IsN w lo w.heap.size v n) (a:l w.heap.size w w'):IsN w' 0 w'.heap.size v n:=(h.below a (j _)).wide (D _) a.size
theorem zrg {w:g} (h:l w.heap.size w e) (a:l e.heap.size e f):l w.heap.size w f:=h.trans (a.mono h.size)
theorem zvy {y:Nat} (h:(A9 y).length<=2):y<1000000000000000000:=by have:=lim_len_le.1 h;simpa[pw] using this
theorem zz1450 {y z:Nat} (h:(A9 y).length<=2) (a:z<=y):(A9 z).length<=2:=t (W9 a) h
theorem yuh {w:g} {x y:Nat} (ha:IsN w 0 w.heap.size k x) (i:IsN w 0 w.heap.size m y) (C:Bru w) (b:(A9 x).length<=2) (f:(A9 y).length<=2):
 o r 175 #[k,m] w fun a w'=>(∃v,a= .returned v/\IsN w' w.heap.size w'.heap.size v (Nat.gcd x y))/\l w.heap.size w w':=by
 obtain⟨u,z,s⟩:=G0 ha i C;obtain⟨A,E,rfl,_,_,_⟩:=ha;obtain⟨B,d,rfl,_,_,_⟩:=i;obtain⟨j,n⟩:=C5 (zvy b) (zvy f)
 have hg:c (Nat.gcd x y<=1000000000000000000):=by
  have:=j.out;have:=n.out;rcases Nat.eq_zero_or_pos x with h|h
  ·unfold c;rw[h,Nat.gcd_zero_left];omega
  ·exact t (Nat.le_of_dvd h (Nat.gcd_dvd_left x y)) og
 obtain⟨p,q⟩:=C5 b f;go_in;go_wp2_with fail;refine(zsk u.out p.out).mono ?_;rintro a e ⟨rfl,rfl⟩;go_wp2_with fail;refine(zsk z.out q.out).mono ?_;rintro a e ⟨rfl,rfl⟩;go_wp2_with fail;refine(zxi x y w s.out (oh j) (oh n)).mono ?_;rintro a e ⟨rfl,rfl⟩;go_wp2_with fail;refine(ycr w _ (oh hg)).mono ?_;rintro a e ⟨⟨v,rfl,hv⟩,D⟩;go_wp2_with fail;go_ret;exact⟨⟨_,rfl,hv⟩,D⟩
theorem yhn {w:g} {x y:Nat} (ha:IsN w 0 w.heap.size k x) (q:IsN w 0 w.heap.size m y) (h:¬((A9 x).length<=2/\(A9 y).length<=2)) (a:x=1\/y=1):
 o r 175 #[k,m] w fun f w'=>(∃v,f= .returned v/\IsN w' w.heap.size w'.heap.size v (Nat.gcd x y))/\l w.heap.size w w':=by
 obtain⟨s,t⟩:=C5 ha q
 have hg:c (Nat.gcd x y=1):=by
  rcases a with a|a
  ·rw[a];exact Nat.gcd_one_left y
  ·rw[a];exact Nat.gcd_one_right x
 have D:∃b,decide (x=1)=b:=⟨_,rfl⟩;have E:∃i,decide (y=1)=i:=⟨_,rfl⟩;obtain⟨b,n⟩:=D;obtain⟨i,p⟩:=E
 have F:(b=true)\/(b=false/\i=true):=by
  rcases a with a|a
  ·left;rw[<-n];simpa using a
  ·cases b
   ·right;exact⟨rfl,by rw[<-p];simpa using a⟩
   ·left;rfl
 obtain⟨u,z⟩:=C5 n p;obtain⟨A,G,rfl,_,_,_⟩:=ha;obtain⟨B,d,rfl,_,_,_⟩:=q;clear n p a;rw[c] at hg;rw[hg];clear hg;have C:(2<(A9 x).length)\/((A9 x).length<=2/\2<(A9 y).length):=og;clear h;rcases C with h|⟨h,H⟩
 all_goals
  rcases F with rfl|⟨rfl,rfl⟩
  all_goals
   go_in
   go_wp2_with fail
   refine(zqh s.out).mono ?_
   rw[u.out]
   rintro f e ⟨rfl,rfl⟩
   go_wp2_with fail
   first
    |(refine(znv w).mono ?_
      rintro f e ⟨⟨v,rfl,hv⟩,j⟩
      go_wp2_with fail
      go_ret
      exact⟨⟨_,rfl,hv⟩,j⟩)
    |(refine(zqh t.out).mono ?_
      rw[z.out]
      rintro f e ⟨rfl,rfl⟩
      go_wp2_with fail
      refine(znv w).mono ?_
      rintro f e ⟨⟨v,rfl,hv⟩,j⟩
      go_wp2_with fail
      go_ret
      exact⟨⟨_,rfl,hv⟩,j⟩)
def GcdAt (c:Nat) (b wr:g) (k m:Value):Prop:=∃X a:Nat,IsN wr 0 wr.heap.size k X/\IsN wr 0 wr.heap.size m a/\a<=X/\Nat.gcd X a=c/\(A9 X).length<=4294967296/\l b.heap.size b wr
theorem GcdAt.intro {c X a:Nat} {b wr:g} (d:IsN wr 0 wr.heap.size k X) (e:IsN wr 0 wr.heap.size m a) (f:a<=X) (h:Nat.gcd X a=c) (i:(A9 X).length<=4294967296) (j:l b.heap.size b wr):GcdAt c b wr k m:=⟨X,a,d,e,f,h,i,j⟩
theorem yyl {w x y z:Int} (h:(1<=w/\x<=0/\y<=0/\1<=z/\w*z-x*y=1)\/(w<=0/\1<=x/\1<=y/\z<=-1/\w*z-x*y= -1)):
 ((0<=w/\x<=0)\/(w<=0/\0<=x))/\((0<=y/\z<=0)\/(y<=0/\0<=z)):=by
 rcases h with⟨a,b,c,d,_⟩|⟨a,b,c,d,_⟩
 ·exact⟨.inl ⟨by omega,by omega⟩,.inr ⟨by omega,by omega⟩⟩
 ·exact⟨.inr ⟨by omega,by omega⟩,.inl ⟨by omega,by omega⟩⟩
theorem yug {w:g} {x y:Nat} (ha:IsN w 0 w.heap.size k x) (aG:IsN w 0 w.heap.size m y) (az:Bru w) (aS:(A9 x).length<=4294967296) (aT:(A9 y).length<=4294967296) (h:¬((A9 x).length<=2/\(A9 y).length<=2)) (Y:x≠1) (Z:y≠1):
 o r 175 #[k,m] w fun p w'=>(∃v,p= .returned v/\IsN w' w.heap.size w'.heap.size v (Nat.gcd x y))/\l w.heap.size w w':=by
 obtain⟨R,T,aX⟩:=G0 ha aG az;obtain⟨A,aq,rfl,_,_,_⟩:=ha;obtain⟨B,d,rfl,_,_,_⟩:=aG;obtain⟨a5,a7⟩:=C5 (decide_eq_false Y) (decide_eq_false Z);obtain⟨G,ac⟩:=nm (Nat.gcd x y);rw[<-ac];obtain⟨an,a6,a8⟩:=G0 ac aS aT;clear Y Z ac az aS aT;have bh:(2<(A9 x).length)\/((A9 x).length<=2/\2<(A9 y).length):=og;clear h;have bm:(x<y)\/(y<=x):=z x y;rcases bh with h|⟨h,bL⟩
 all_goals
  rcases bm with ah|aJ
  all_goals
   go_in
   go_wp2_with fail
   refine(zqh R.out).mono ?_
   rw[a5.out]
   rintro p e ⟨rfl,rfl⟩
   go_wp2_with fail
   refine(zqh T.out).mono ?_
   rw[a7.out]
   rintro p e ⟨rfl,rfl⟩
   go_wp2_with fail
   refine(zsu R.out T.out).mono ?_
   first
    |(rw[zqz ah]
      have hst:∀q,c (GcdAt G w (w.drewN q) (.slice B (A9 y).length d) (.slice A (A9 x).length aq)):=fun q=>GcdAt.intro (T.out.drewN q) (R.out.drewN q) (Nat.le_of_lt ah) (by rw[Nat.gcd_comm];exact an.out.symm) a8.out (below_drewN (C _ _) q)
      clear ah)
    |(have bP:0<=X6 x y:=by
       unfold X6
       rw[if_neg og]
       split<;>omega
      generalize X6 x y=sg at*
      have hst:∀q,c (GcdAt G w (w.drewN q) (.slice A (A9 x).length aq) (.slice B (A9 y).length d)):=fun q=>GcdAt.intro (R.out.drewN q) (T.out.drewN q) aJ an.out.symm a6.out (below_drewN (C _ _) q)
      clear aJ)
   rintro p e ⟨rfl,q,rfl⟩
   have ao:=i (hst q)
   clear hst
   go_wp2_with fail
   go_loopw [0,1] (fun bA aj wr=>GcdAt G w wr bA aj) (fun _ aj wr=>numOf wr aj)
   case atStart=>exact ao.out.out
   case round=>
    clear ao
    obtain⟨X,n,aA,aD,u,aC,F,K⟩:=hrel
    obtain⟨O,H,a0⟩:=G0 aA aD (aX.out.below K)
    obtain⟨bG,bK,rfl,_,_,_⟩:=aA
    obtain⟨al,ar,rfl,_,_,_⟩:=aD
    have P:=i aC
    clear aC
    rcases z 2 (A9 n).length with I|I
    ·have a9:3<=(A9 X).length:=t I (W9 u)
     go_wp2_with fail
     refine(yvy O.out H.out (j _) (j _) u a9 F).mono ?_
     rintro p f ⟨⟨S,bg,rfl,aB⟩,U⟩
     have aE:c (n/S<=X/S):=Nat.div_le_div_right u
     have ae:=i aB
     clear aB
     go_wp2_with fail
     refine(zz1422 f X n S _ _ bg rfl rfl u (by have:=ae.out;omega) (by have:=ae.out;have:=aE.out;omega)).mono ?_
     rintro p M ⟨⟨bD,ak,bE,bF,a,b,rfl,ad,⟨br,bt,bu,Y⟩,⟨bv,Z,bw,bx⟩⟩,rfl⟩
     obtain⟨aV,bH,au,av,bd,hg,aN,_⟩:=ad.num
     obtain⟨aO,aW,aY,a2,a4,ab,Q,aH⟩:=hd8 (yyl ad.pat) au av hg aN (O.out.up U) (H.out.up U) (zrg K U)
     have bI:=i u
     clear ad au av hg aN U ae aE
     have ag:0<n:=by
      rcases Nat.eq_zero_or_pos n with E|E
      ·rw[E,N6] at I;simp at I
      ·exact E
     by_cases L:ak=0
     ·subst L
      go_wp2_with fail
      refine(yay ab.out Q.out (j _) (j _) F (t (W9 u) F) ag).mono ?_
      rintro p M ⟨⟨bC,aU,rfl,ai,hr⟩,s⟩
      obtain⟨W,J⟩:=C5 (hr.wide (lo':=0) (D _) (j _)) (Q.out.up s)
      clear ai hr
      go_wp2_with fail
      go_roundw
      case rel=>exact GcdAt.intro J.out W.out (Nat.le_of_lt (Nat.mod_lt _ ag)) (by rw[<-P.out,Nat.gcd_comm X n,Nat.gcd_rec n X,Nat.gcd_comm]) (t (W9 u) F) (zrg aH.out s)
      case measure=>
       show numOf M aU<numOf wr (.slice al (A9 n).length ar)
       rw[zuo W.out,zuo H.out]
       exact Nat.mod_lt _ ag
     ·have bQ:(ak==0)=false:=by simpa using L
      have bj:=a4.out L
      obtain⟨bO,bi⟩:=bj
      have ay:aV<=X:=t bi u
      have bJ:=i L
      clear L
      go_wp2_with fail
      refine(yjh bD ak ab.out Q.out (j _) (j _) br bt bu Y aO.out.1 aW.out ay u F).mono ?_
      rintro p M ⟨⟨bR,rfl,aP⟩,s⟩
      obtain⟨a1,J,bp⟩:=G0 (ab.out.up s) (Q.out.up s) aP
      clear aP
      go_wp2_with fail
      refine(yjh bE bF a1.out J.out (j _) (j _) bv Z bw bx aO.out.2 aY.out og u F).mono ?_
      rintro p N ⟨⟨bB,rfl,aQ⟩,V⟩
      obtain⟨aR,bq⟩:=C5 (aQ.wide (lo':=0) (D _) (j _)) (bp.out.up V)
      clear aQ
      go_wp2_with fail
      go_roundw
      case rel=>exact GcdAt.intro bq.out aR.out bd (by rw[a2.out];exact P.out) (t (W9 ay) F) (zrg (zrg aH.out s) V)
      case measure=>
       show numOf N bB<numOf wr (.slice al (A9 n).length ar)
       rw[zuo aR.out,zuo H.out]
       omega
    ·rcases Nat.eq_zero_or_pos n with E|E
     ·have be:c (X=G):=by
       have:=P.out
       rw[E,Nat.gcd_zero_right] at this
       exact this
      have aL:(A9 n).length=0:=by rw[E,N6];rfl
      have a3:=i aL
      rw[a3.out]
      clear aL
      go_wp2_with fail
      refine(zpm O.out F).mono ?_
      rintro p M ⟨⟨v,rfl,hv⟩,s⟩
      go_wp2_with fail
      go_ret
      rw[be.out] at hv
      exact⟨⟨_,rfl,hv.wide K.size (j _)⟩,zrg K s⟩
     ·have bN:(((A9 n).length:Int)==0)=false:=by
       have:=lim_nil_iff (n:=n)
       rw[beq_eq_false_iff_ne]
       omega
      have aa:=i I
      go_wp2_with fail
      refine(yay O.out H.out (j _) (j _) F (t (W9 u) F) E).mono ?_
      rintro p M ⟨⟨bC,aU,rfl,ai,hr⟩,s⟩
      obtain⟨aM,W,J⟩:=G0 (Nat.mod_lt X E) (hr.wide (lo':=0) (D _) (j _)) (H.out.up s)
      have bn:c ((A9 (X%n)).length<=2):=zz1450 aa.out (Nat.le_of_lt aM.out)
      obtain⟨af,aZ⟩:=C5 (zvy aa.out) (a0.out.below s)
      have aK:c (Nat.gcd n (X%n)=G):=by rw[c,<-P.out,Nat.gcd_comm X n,Nat.gcd_rec n X,Nat.gcd_comm]
      have bf:c (G<=18446744073709551615):=by
       have bM:=aK.out
       have I:Nat.gcd n (X%n)<=n:=Nat.le_of_dvd E (Nat.gcd_dvd_left _ _)
       have:=af.out
       unfold c
       omega
      have aI:=zrg K s
      clear ai hr s
      go_wp2_with fail
      refine(zsk J.out aa.out).mono ?_
      rintro p N ⟨rfl,rfl⟩
      go_wp2_with fail
      refine(zsk W.out bn.out).mono ?_
      rintro p N ⟨rfl,rfl⟩
      go_wp2_with fail
      refine(zxi n (X%n) _ aZ.out (oh af) (znu af aM)).mono ?_
      rw[aK.out]
      rintro p N ⟨rfl,rfl⟩
      go_wp2_with fail
      refine(ycr _ G bf.out).mono ?_
      rintro p N ⟨⟨v,rfl,hv⟩,V⟩
      go_wp2_with fail
      go_ret
      exact⟨⟨_,rfl,hv.wide aI.size (j _)⟩,zrg aI V⟩
theorem zqq {w:g} {x y:Nat} (ha:IsN w 0 w.heap.size k x) (a:IsN w 0 w.heap.size m y) (b:Bru w) (f:(A9 x).length<=4294967296) (i:(A9 y).length<=4294967296):
 o r 175 #[k,m] w fun e w'=>(∃v,e= .returned v/\IsN w' w.heap.size w'.heap.size v (Nat.gcd x y))/\l w.heap.size w w':=by
 by_cases h:(A9 x).length<=2/\(A9 y).length<=2
 ·exact yuh ha a b h.1 h.2
 ·by_cases c:x=1
  ·exact yhn ha a h (.inl c)
  ·by_cases d:y=1
   ·exact yhn ha a h (.inr d)
   ·exact yug ha a b f i h c d
theorem zsl (w:g):o r 147 #[] w (N8 w 0):=by obtain⟨n,l,b,d,f⟩:=J5 w #[.bool false,.slice none 0 0,.slice none 0 0] 30;obtain⟨a,k⟩:=C5 (d) (b);have m:c (w.heap.size+1<=n.heap.size):=i (Nat.le_of_eq f.out.symm);clear d b;obtain⟨q,t,x⟩:=B9 a.out;obtain⟨A,C,E⟩:=E0 a.out;go_in;go_wp2_with fail;clear l;refine(znv _).mono ?_;rintro z e ⟨⟨v,rfl,hv⟩,G⟩;have h:=i (M6 hv m.out);obtain⟨p,H,rfl,_,_,_⟩:=id hv;obtain⟨s,u,y⟩:=B9 (uR e a);obtain⟨B,D,F⟩:=E0 (uR e a);go_wp2_with fail;refine M7 Tryz.results147 rfl rfl (Row.put3 (uR e a) _ _ _) (zme (n:=0) (d:=1) (by rw[zzi,N6,zkf]) (uB e k) (j _) (zyv (S:=G4 (w.heap.size+1) _)) h.out og og)
theorem zvk {w:g} {q:Rat} (h:IsQ w (C3 w) v q) (u:Sz q 100000):o r 67 #[v] w (N8 w q):=by
 obtain⟨neg,A,l,B,m,rfl,H,G,F⟩:=G7 h;have k:=i u;clear h u;obtain⟨j,V,b,z,C,I⟩:=zko w #[.bool neg,.slice A (A9 q.num.natAbs).length l,.slice B (A9 q.den).length m] #[.bool false,.slice none 0 0,.slice none 0 0] 30 30;obtain⟨J,E,d,a,M⟩:=hd5 (IsK.stb.next G.out b) (IsK.stb.next F.out b) (z) (C) (b);have D:c (w.heap.size+2<=j.heap.size):=i (Nat.le_of_eq I.out.symm);clear z C b;obtain⟨N,P,R⟩:=B9 d.out;obtain⟨Y,ab,ae⟩:=B9 a.out;obtain⟨ah,ak,ao⟩:=E0 a.out;go_in;go_wp2_with fail;clear V
 go_region_held3 (fun w'=>w'.cell? ⟨w.heap.size,0,none⟩=some (.bool neg)/\w'.cell? ⟨w.heap.size,1,none⟩=some (.slice A (A9 q.num.natAbs).length l)/\w'.cell? ⟨w.heap.size,2,none⟩=some (.slice B (A9 q.den).length m))
  (first
    |exact⟨N,P,R⟩
    |exact⟨O,Q,S⟩
    |exact⟨n,p,s⟩
    |exact⟨T7 n og,T7 p og,T7 s og⟩)
  (first
    |(go_at_call 128;have hc:=zpm (E9 (uK j.drew J)) (t k.out.1 og);(with_reducible refine hc.mono ?_);clear hc;rintro T e ⟨⟨ay,rfl,x⟩,U⟩;have K:=i (M6 x (uS j.drew D));obtain⟨W,au,rfl,_,_,_⟩:=id x;obtain⟨O,Q,S⟩:=B9 (uR e d);obtain⟨Z,ac,af⟩:=B9 (uR e a);obtain⟨ai,al,aq⟩:=E0 (uR e a))
    |(go_at_call 128;have hc:=zpm (E9 (uK e E)) (t k.out.2 og);(with_reducible refine hc.mono ?_);clear hc;rintro T f ⟨⟨az,rfl,y⟩,U⟩;have L:=i (M6 y (uS e D));obtain⟨X,av,rfl,_,_,_⟩:=id y;obtain⟨n,p,s⟩:=B9 (uR f d);obtain⟨aa,ad,ag⟩:=B9 (uR f a);obtain⟨aj,an,ar⟩:=E0 (uR f a)))
 go_wp2_with fail;refine M7 Tryz.results67 rfl rfl (Row.put3 (uR f a) _ _ _) (zme (by rw[H.out];rfl) (uB f M) og (uF f K) L.out og og)
theorem zse {w:g} {q:Rat} (h:IsQ w (C3 w) v q):o r 63 #[v] w fun f w'=>f= .returned (.int .i64 (znj q))/\l w.heap.size w w':=by
 obtain⟨neg,A,m,B,n,rfl,e,d,k⟩:=G7 h;clear h;have p:(A9 q.num.natAbs).length<=9223372036854775807:=(by have:=(E9 d.out).length_le;unfold maxLen at this;omega);by_cases a:q=0
 ·have i:(((A9 q.num.natAbs).length:Int)==0)=true:=(by rw[a];rw[show(0:Rat).num.natAbs=0 from rfl,N6];rfl);have b:c (znj q=0):=(by unfold c znj;rw[if_pos a]);clear a;go_in;go_wp2_with fail;go_ret;exact⟨J0 b.out.symm,(C _ _).alloc (j _) _⟩
 ·have i:(((A9 q.num.natAbs).length:Int)==0)=false:=beq_eq_false_iff_ne.2 (by have:=zmr a;have:= @lim_nil_iff q.num.natAbs;omega);have b:c (znj q=if neg then -1 else 1):=(by unfold c znj;rw[if_neg a,e.out,yjt];by_cases h:q<0<;>simp[h]);clear a;cases neg
  ·go_in;go_wp2_with fail;go_ret;exact⟨J0 b.out.symm,(C _ _).alloc (j _) _⟩
  ·go_in;go_wp2_with fail;go_ret;exact⟨J0 b.out.symm,(C _ _).alloc (j _) _⟩
def Grow (S:Nat->Prop) (w w':g):Nat->Prop:=fun b=>S b\/(w.heap.size<=b/\b<w'.heap.size)
theorem yun {w w':g} {lo:Nat} (h:NumS w' (Grow (G4 lo w) w w') v n) (hlo:lo<=w.heap.size) (c:w.heap.size<=w'.heap.size):NumS w' (G4 lo w') v n:=
 IsK.stb.to h (F7 fun b a=>by rcases a with h|h;exact⟨h.1,by have:=h.2;omega⟩;exact⟨by omega,h.2⟩)
theorem yuq {w w':g} (h:NumS w' (Grow (C3 w) w w') v n) (a:w.heap.size<=w'.heap.size):NumS w' (C3 w') v n:=
 IsK.stb.to h (F7 fun b c=>by rcases c with h|h;exact d h a;exact h.2)
theorem ykg {w:g} {x y:Nat} (ha:NumS w S k x) (E:∀b,S b->b<w.heap.size) (hg:IsN w 0 w.heap.size a y) (F:(A9 x).length<=4294967296) (G:(A9 y).length<=4294967296) (H:0<y):
 o r 169 #[k,a] w fun h w'=>(∃v,h= .returned v/\NumS w' (Grow S w w') v (x/y))/\l w.heap.size w w':=by
 obtain⟨p,m,s⟩:=G0 ha hg (ha.isL (lo:=0) (hi:=w.heap.size) fun b f=>⟨D _,E b f⟩);obtain⟨A,I,rfl,_,_,_⟩:=ha;obtain⟨B,d,rfl,_,_,_⟩:=hg;by_cases c:y=1
 ·have u:=i c;have hd:decide (y=1)=true:=decide_eq_true c;clear c;go_in;go_wp2_with fail;refine(zqh m.out).mono ?_;rw[hd];rintro h e ⟨rfl,rfl⟩;go_wp2_with fail;go_ret;exact⟨⟨_,rfl,by rw[u.out,Nat.div_one];exact IsK.stb.to p.out (F7 fun b f=> .inl f)⟩,C _ _⟩
 ·have hd:decide (y=1)=false:=decide_eq_false c;clear c;go_in;go_wp2_with fail;refine(zqh m.out).mono ?_;rw[hd];rintro h e ⟨rfl,rfl⟩;go_wp2_with fail;refine(yay s.out m.out (j _) (j _) F G H).mono ?_;rintro h e ⟨⟨J,K,rfl,n,_⟩,f⟩;obtain⟨t,q⟩:=C5 n f;clear n f;go_wp2_with fail;go_ret;exact⟨⟨_,rfl,t.out.isK fun b c z=> .inr ⟨c,z⟩⟩,q.out⟩
theorem ykf {w:g} {x y lo:Nat} (ha:NumS w (G4 lo w) k x) (hlo:lo<=w.heap.size) (hg:IsN w 0 w.heap.size a y) (h:(A9 x).length<=4294967296) (m:(A9 y).length<=4294967296) (n:0<y):
 o r 169 #[k,a] w fun b w'=>(∃v,b= .returned v/\NumS w' (G4 lo w') v (x/y))/\l w.heap.size w w':=
 (ykg ha yjp hg h m n).mono fun b w' ⟨⟨v,f,hv⟩,e⟩=>⟨⟨v,f,yun hv hlo e.size⟩,e⟩
theorem zol {w:g} {x y:Nat} (ha:NumS w (C3 w) k x) (hg:IsN w 0 w.heap.size a y) (m:(A9 x).length<=4294967296) (n:(A9 y).length<=4294967296) (p:0<y):
 o r 169 #[k,a] w fun b w'=>(∃v,b= .returned v/\NumS w' (C3 w') v (x/y))/\l w.heap.size w w':=
 (ykg ha (fun _ h=>h) hg m n p).mono fun b w' ⟨⟨v,f,hv⟩,e⟩=>⟨⟨v,f,yuq hv e.size⟩,e⟩
theorem yob (w:g) (neg:Bool) (n d:Nat) (m:Bru w) (F:n≠0) (D:d≠0) (E:n<18446744073709551616) (hd:d<18446744073709551616):
 o r 174 #[.bool neg,.int .u64 (n:Int),.int .u64 (d:Int)] w (N8 w (mkRat (sg neg n) d)):=by
 obtain⟨j,G,p,u,z⟩:=J5 w #[.bool false,.slice none 0 0,.slice none 0 0] 30;obtain⟨b,k⟩:=C5 (u) (p);have v:c (w.heap.size+1<=j.heap.size):=i (Nat.le_of_eq z.out.symm);clear u p;obtain⟨P,S,V⟩:=B9 b.out;obtain⟨Y,ab,ae⟩:=E0 b.out;have x:=i (Bru.next m (k.out));obtain⟨a,h⟩:=nm (Nat.gcd n d);have q:=i (zwj (neg:=neg) F D);rw[<-h] at q;have ai:1<=(a:Int):=(by have:=Nat.gcd_pos_of_pos_left d (by omega:0<n);omega);have y:=i h;have ak:n/a<=n:=Nat.div_le_self _ _;have al:d/a<=d:=Nat.div_le_self _ _;clear h m;go_in;go_wp2_with fail;clear G;refine(zxi n d _ x.out E hd).mono ?_;rw[<-y.out];rintro l e ⟨rfl,rfl⟩;go_wp2_with fail;have ah:¬(a:Int)=0:=og;have aj:¬a=0:=og;have H:0<=(n:Int)/(a:Int):=Int.ediv_nonneg og og;have I:0<=(d:Int)/(a:Int):=Int.ediv_nonneg og og;have J:(n:Int)/(a:Int)<=18446744073709551615:=(by rw[<-Int.natCast_ediv];omega);have K:(d:Int)/(a:Int)<=18446744073709551615:=(by rw[<-Int.natCast_ediv];omega);have L:IntKind.u64.wrap ((n:Int)/(a:Int))=(n:Int)/(a:Int):=IntWalk.u64_in _ og;have M:IntKind.u64.wrap ((d:Int)/(a:Int))=(d:Int)/(a:Int):=IntWalk.u64_in _ og
 go_region_held3 (fun w'=>True)
  (trivial)
  (first
    |(go_at_call 190;have hc:=ycq j.drew ((n:Int)/(a:Int)) H J;(with_reducible refine hc.mono ?_);clear hc;rintro l e ⟨⟨an,rfl,s⟩,C⟩;have A:=i (M6 s (uS j.drew v));obtain⟨N,L,rfl,_,_,_⟩:=id s;obtain⟨Q,T,W⟩:=B9 (uR e b);obtain⟨Z,ac,af⟩:=E0 (uR e b))
    |(go_at_call 190;have hc:=ycq e ((d:Int)/(a:Int)) I K;(with_reducible refine hc.mono ?_);clear hc;rintro l f ⟨⟨ao,rfl,t⟩,C⟩;have B:=i (M6 t (uS e v));obtain⟨O,M,rfl,_,_,_⟩:=id t;obtain⟨R,U,X⟩:=B9 (uR f b);obtain⟨aa,ad,ag⟩:=E0 (uR f b)))
 go_wp2_with fail;refine M7 Tryz.results174 rfl rfl (Row.put3 (uR f b) _ _ _) (zme (by rw[show((n:Int)/(a:Int)).toNat=n/a from by rw[<-Int.natCast_ediv];rfl,show((d:Int)/(a:Int)).toNat=d/a from by rw[<-Int.natCast_ediv];rfl];exact q.out) (uB f k) og (uF f A) B.out og og)
theorem below_trans' {w:g} (h:l w.heap.size w e) (a:l e.heap.size e f):l w.heap.size w f:=h.trans (a.mono h.size)
theorem yov {w:g} {x y:Nat} {lo:Nat} (ha:IsN w lo hi k x) (ai:IsN w lo' s m y) (aj:hi<=w.heap.size) (ak:s<=w.heap.size) (au:(A9 y).length<=(A9 x).length) (aq:(A9 x).length<=4294967296):
 o r 187 #[k,m] w fun af w'=>(∃v,af= .returned v/\IsN w' w.heap.size w'.heap.size v (x+y))/\l w.heap.size w w':=by
 obtain⟨A,ao,rfl,_,_,ag⟩:=ha;obtain⟨B,d,rfl,_,_,ah⟩:=ai;have an:c (∀h,h<(A9 x).length->pw h<=x+y):=(by intro h al;have:=zzc (x:=x) (k:=h) og;omega);generalize aa:A9 x=a at*;generalize ab:A9 y=b at*;have R:c (Lo a/\val a=x):=(by rw[c,<-aa];exact⟨M4 x,R7 x⟩);have S:c (Lo b/\val b=y):=(by rw[c,<-ab];exact⟨M4 y,R7 y⟩);clear aa ab;generalize U:w.heap.size=bs at*;have M:=i U;clear U;go_in;go_wp2_with (at_make;refine yoh (base:=bs) U9 rfl _ _ rfl (a.length+1) rfl rfl og og (oh M) ?_;intro aI e ac X E);have W:l bs w e:=(by rw[<-M.out];exact X);clear X
 go_loopw [5,6,23] (fun v ae P wr=>∃(h:Nat) (n:List Nat) (q:Int),h<=a.length/\P= .int .i64 (h:Int)/\ae= .int .u32 q/\0<=q/\q<=1/\Own wr bs 140 v (C8 .u32 n)/\l bs w wr/\
  c (n.length=h/\Lo n/\(val n:Int)+q*pw h=val (a.take h)+val (b.take h))) (fun _ _ P _=>a.length-(intOf P).toNat)
 case atStart=>exact⟨0,[],0,by omega,rfl,rfl,by omega,by omega,ac,W,rfl,zvw,by simp[val]⟩
 case round=>
  obtain⟨h,n,q,al,rfl,rfl,av,ay,D,t,hrel⟩:=hrel;have G:bs<=wr.heap.size:=(by have:=t.size;have:=M.out;omega);have ar:h<=4294967297:=og;have I:c ((C8 .u32 n).length<=4294967297):=(by rw[c,zmh,hrel.out.1];omega);clear W ac E;rcases z h a.length with N|N
  ·obtain⟨ba,oa,rfl,_,_,Y⟩:=(ag.below t aj) (M5 (j:=h) N);obtain⟨F,K,aB,aC,aD⟩:=W4 (j:=h) R.out.1 Y N;clear Y;rcases z h b.length with H|H
   ·obtain⟨bb,ob,rfl,_,_,Z⟩:=(ah.below t ak) (M5 (j:=h) H);obtain⟨Q,ad,aE,aG,aH⟩:=W4 (j:=h) S.out.1 Z H;clear Z;rcases Int.lt_or_le 999999999 (F+q+Q) with O|O
    ·go_wp2_with (at_builtin;refine zlk U9 rfl _ _ rfl rfl D rfl rfl (oh I) G ?_;intro L f p C E);go_roundw;(case rel=>rw[zlc .u32 n (F+q+Q-1000000000).toNat _ og] at p;exact⟨h+1,_,1,by omega,by go_num,rfl,by omega,by omega,p,t.trans C,by rw[u];simp[hrel.out.1],zma hrel.out.2.1 og,zpf (c':=1) hrel.out.1 K.out ad.out og og hrel.out.2.2⟩);case measure=>simp[intOf];omega
    ·go_wp2_with (at_builtin;refine zlk U9 rfl _ _ rfl rfl D rfl rfl (oh I) G ?_;intro L f p C E);go_roundw;(case rel=>rw[zlc .u32 n (F+q+Q).toNat _ og] at p;exact⟨h+1,_,0,by omega,by go_num,rfl,by omega,by omega,p,t.trans C,by rw[u];simp[hrel.out.1],zma hrel.out.2.1 og,zpf (c':=0) hrel.out.1 K.out ad.out og og hrel.out.2.2⟩);case measure=>simp[intOf];omega
   ·rcases Int.lt_or_le 999999999 (F+q) with O|O
    ·go_wp2_with (at_builtin;refine zlk U9 rfl _ _ rfl rfl D rfl rfl (oh I) G ?_;intro L f p C E);go_roundw;(case rel=>rw[zlc .u32 n (F+q-1000000000).toNat _ og] at p;exact⟨h+1,_,1,by omega,by go_num,rfl,by omega,by omega,p,t.trans C,by rw[u];simp[hrel.out.1],zma hrel.out.2.1 og,zpf (c':=1) hrel.out.1 K.out (show(0:Int)=_ by rw[zmj H];rfl) og og hrel.out.2.2⟩);case measure=>simp[intOf];omega
    ·go_wp2_with (at_builtin;refine zlk U9 rfl _ _ rfl rfl D rfl rfl (oh I) G ?_;intro L f p C E);go_roundw;(case rel=>rw[zlc .u32 n (F+q).toNat _ og] at p;exact⟨h+1,_,0,by omega,by go_num,rfl,by omega,by omega,p,t.trans C,by rw[u];simp[hrel.out.1],zma hrel.out.2.1 og,zpf (c':=0) hrel.out.1 K.out (show(0:Int)=_ by rw[zmj H];rfl) og og hrel.out.2.2⟩);case measure=>simp[intOf];omega
  ·obtain rfl:h=a.length:=og;have V:c ((val n:Int)+q*pw a.length=x+y):=(by have:=hrel.out.2.2;rw[zki (j _),zki og,R.out.2,S.out.2] at this;unfold c;omega);rcases Int.lt_or_le 0 q with az|aA
   ·obtain rfl:q=1:=og;have hfin:c (A9 (x+y)=n++[1]):=(by have J:val (n++[1])=x+y:=(by rw[zny,hrel.out.1,zsi,zpy];have:=V.out;omega);rw[c,<-J];refine zug (zma hrel.out.2.1 og) (.inr ?_);rw[u,hrel.out.1,zny,hrel.out.1,zsi,zpy];simp);go_wp2_with (at_builtin;refine zlk U9 rfl _ _ rfl rfl D rfl rfl (oh I) G ?_;intro L f p C E);go_ret;refine⟨⟨_,rfl,?_⟩,t.trans C⟩;unfold IsN;rw[hfin.out];rw[zlc .u32 n 1 _ og] at p;exact Own.isL p
   ·obtain rfl:q=0:=og
    have hfin:c (A9 (x+y)=n):=by
     have J:val n=x+y:=oh V;rw[c,<-J];refine zug hrel.out.2.1 ?_;rcases Nat.eq_zero_or_pos a.length with T|T
     ·exact .inl (List.eq_nil_of_length_eq_zero (by rw[hrel.out.1];exact T))
     ·exact .inr (by rw[hrel.out.1,J];exact an.out _ og)
    go_wp2;go_ret;refine⟨⟨_,rfl,?_⟩,t⟩;unfold IsN;rw[hfin.out];exact Own.isL D
theorem yow {w:g} {x y:Nat} {lo:Nat} (ha:IsN w lo hi k x) (ai:IsN w lo' s m y) (aj:hi<=w.heap.size) (ak:s<=w.heap.size) (au:(A9 x).length<(A9 y).length) (aq:(A9 y).length<=4294967296):
 o r 187 #[k,m] w fun af w'=>(∃v,af= .returned v/\IsN w' w.heap.size w'.heap.size v (x+y))/\l w.heap.size w w':=by
 obtain⟨A,ao,rfl,_,_,ag⟩:=ha;obtain⟨B,d,rfl,_,_,ah⟩:=ai;have an:c (∀h,h<(A9 y).length->pw h<=x+y):=(by intro h al;have:=zzc (x:=y) (k:=h) og;omega);generalize aa:A9 x=a at*;generalize ab:A9 y=b at*;have R:c (Lo a/\val a=x):=(by rw[c,<-aa];exact⟨M4 x,R7 x⟩);have S:c (Lo b/\val b=y):=(by rw[c,<-ab];exact⟨M4 y,R7 y⟩);clear aa ab;generalize U:w.heap.size=bs at*;have M:=i U;clear U;go_in;go_wp2_with (at_make;refine yoh (base:=bs) U9 rfl _ _ rfl (b.length+1) rfl rfl og og (oh M) ?_;intro aI e ac X E);have W:l bs w e:=(by rw[<-M.out];exact X);clear X
 go_loopw [5,6,23] (fun v ae P wr=>∃(h:Nat) (n:List Nat) (q:Int),h<=b.length/\P= .int .i64 (h:Int)/\ae= .int .u32 q/\0<=q/\q<=1/\Own wr bs 140 v (C8 .u32 n)/\l bs w wr/\
  c (n.length=h/\Lo n/\(val n:Int)+q*pw h=val (b.take h)+val (a.take h))) (fun _ _ P _=>b.length-(intOf P).toNat)
 case atStart=>exact⟨0,[],0,by omega,rfl,rfl,by omega,by omega,ac,W,rfl,zvw,by simp[val]⟩
 case round=>
  obtain⟨h,n,q,al,rfl,rfl,av,ay,D,t,hrel⟩:=hrel;have G:bs<=wr.heap.size:=(by have:=t.size;have:=M.out;omega);have ar:h<=4294967297:=og;have I:c ((C8 .u32 n).length<=4294967297):=(by rw[c,zmh,hrel.out.1];omega);clear W ac E;rcases z h b.length with N|N
  ·obtain⟨ba,oa,rfl,_,_,Y⟩:=(ah.below t ak) (M5 (j:=h) N);obtain⟨F,K,aB,aC,aD⟩:=W4 (j:=h) S.out.1 Y N;clear Y;rcases z h a.length with H|H
   ·obtain⟨bb,ob,rfl,_,_,Z⟩:=(ag.below t aj) (M5 (j:=h) H);obtain⟨Q,ad,aE,aG,aH⟩:=W4 (j:=h) R.out.1 Z H;clear Z;rcases Int.lt_or_le 999999999 (F+q+Q) with O|O
    ·go_wp2_with (at_builtin;refine zlk U9 rfl _ _ rfl rfl D rfl rfl (oh I) G ?_;intro L f p C E);go_roundw;(case rel=>rw[zlc .u32 n (F+q+Q-1000000000).toNat _ og] at p;exact⟨h+1,_,1,by omega,by go_num,rfl,by omega,by omega,p,t.trans C,by rw[u];simp[hrel.out.1],zma hrel.out.2.1 og,zpf (c':=1) hrel.out.1 K.out ad.out og og hrel.out.2.2⟩);case measure=>simp[intOf];omega
    ·go_wp2_with (at_builtin;refine zlk U9 rfl _ _ rfl rfl D rfl rfl (oh I) G ?_;intro L f p C E);go_roundw;(case rel=>rw[zlc .u32 n (F+q+Q).toNat _ og] at p;exact⟨h+1,_,0,by omega,by go_num,rfl,by omega,by omega,p,t.trans C,by rw[u];simp[hrel.out.1],zma hrel.out.2.1 og,zpf (c':=0) hrel.out.1 K.out ad.out og og hrel.out.2.2⟩);case measure=>simp[intOf];omega
   ·rcases Int.lt_or_le 999999999 (F+q) with O|O
    ·go_wp2_with (at_builtin;refine zlk U9 rfl _ _ rfl rfl D rfl rfl (oh I) G ?_;intro L f p C E);go_roundw;(case rel=>rw[zlc .u32 n (F+q-1000000000).toNat _ og] at p;exact⟨h+1,_,1,by omega,by go_num,rfl,by omega,by omega,p,t.trans C,by rw[u];simp[hrel.out.1],zma hrel.out.2.1 og,zpf (c':=1) hrel.out.1 K.out (show(0:Int)=_ by rw[zmj H];rfl) og og hrel.out.2.2⟩);case measure=>simp[intOf];omega
    ·go_wp2_with (at_builtin;refine zlk U9 rfl _ _ rfl rfl D rfl rfl (oh I) G ?_;intro L f p C E);go_roundw;(case rel=>rw[zlc .u32 n (F+q).toNat _ og] at p;exact⟨h+1,_,0,by omega,by go_num,rfl,by omega,by omega,p,t.trans C,by rw[u];simp[hrel.out.1],zma hrel.out.2.1 og,zpf (c':=0) hrel.out.1 K.out (show(0:Int)=_ by rw[zmj H];rfl) og og hrel.out.2.2⟩);case measure=>simp[intOf];omega
  ·obtain rfl:h=b.length:=og;have V:c ((val n:Int)+q*pw b.length=x+y):=(by have:=hrel.out.2.2;rw[zki (j _),zki og,S.out.2,R.out.2] at this;unfold c;omega);rcases Int.lt_or_le 0 q with az|aA
   ·obtain rfl:q=1:=og;have hfin:c (A9 (x+y)=n++[1]):=(by have J:val (n++[1])=x+y:=(by rw[zny,hrel.out.1,zsi,zpy];have:=V.out;omega);rw[c,<-J];refine zug (zma hrel.out.2.1 og) (.inr ?_);rw[u,hrel.out.1,zny,hrel.out.1,zsi,zpy];simp);go_wp2_with (at_builtin;refine zlk U9 rfl _ _ rfl rfl D rfl rfl (oh I) G ?_;intro L f p C E);go_ret;refine⟨⟨_,rfl,?_⟩,t.trans C⟩;unfold IsN;rw[hfin.out];rw[zlc .u32 n 1 _ og] at p;exact Own.isL p
   ·obtain rfl:q=0:=og
    have hfin:c (A9 (x+y)=n):=by
     have J:val n=x+y:=oh V;rw[c,<-J];refine zug hrel.out.2.1 ?_;rcases Nat.eq_zero_or_pos b.length with T|T
     ·exact .inl (List.eq_nil_of_length_eq_zero (by rw[hrel.out.1];exact T))
     ·exact .inr (by rw[hrel.out.1,J];exact an.out _ og)
    go_wp2;go_ret;refine⟨⟨_,rfl,?_⟩,t⟩;unfold IsN;rw[hfin.out];exact Own.isL D
theorem yox {w:g} {x y:Nat} {lo:Nat} (ha:IsN w lo hi k x) (a:IsN w lo' s m y) (b:hi<=w.heap.size) (c:s<=w.heap.size) (e:(A9 x).length<=4294967296) (f:(A9 y).length<=4294967296):
 o r 187 #[k,m] w fun d w'=>(∃v,d= .returned v/\IsN w' w.heap.size w'.heap.size v (x+y))/\l w.heap.size w w':=by
 rcases z (A9 x).length (A9 y).length with h|h
 ·exact yow ha a b c h f
 ·exact yov ha a b c h e
theorem zru {w:g} (h:IsN w 0 w.heap.size v n):(A9 n).length<=9223372036854775807:=by have:=h.length_le;unfold maxLen at this;omega
theorem ztb (h:n=0):(((A9 n).length:Int)==0)=true:=by rw[h,N6];rfl
theorem zoj (h:n≠0):(((A9 n).length:Int)==0)=false:=beq_eq_false_iff_ne.2 (by have:= @lim_nil_iff n;omega)
theorem ywe (h:n≠0):0<(A9 n).length:=by have:= @lim_nil_iff n;omega
def zxe (S:Nat->Prop) (w:g) (q:Rat) (a:Ending) (w':g):Prop:=(∃v,a= .returned v/\IsQ w' S v q)/\l w.heap.size w w'
theorem ykc {w:g} {q:Rat} (h:IsQ w S v q) (a:∀b,S b->b<w.heap.size) (Q:p= -q):o r 164 #[v] w (zxe S w p):=by
 subst Q;have ac:(A9 q.num.natAbs).length<=9223372036854775807:=zru (E9 (IsK.stb.to (G7 h).choose_spec.choose_spec.choose_spec.choose_spec.choose_spec.2.2.1.out (F7 a)));obtain⟨neg,A,m,B,n,rfl,N,M,L⟩:=G7 h;have hr:=ylf q;rw[show C7 q=⟨neg,A9 q.num.natAbs,A9 q.den⟩ from by rw[N.out];rfl] at hr;clear h;obtain⟨T,ad,f,H,k,V⟩:=zko w #[.bool neg,.slice A (A9 q.num.natAbs).length m,.slice B (A9 q.den).length n] #[.bool false,.slice none 0 0,.slice none 0 0] 30 30;have G:=IsK.stb.to M.out (zqy (S:=S) f a);have F:=IsK.stb.to L.out (zqy (S:=S) f a);obtain⟨W,X,Y⟩:=B9 H;obtain⟨ae,af,ag⟩:=B9 k;obtain⟨Z,aa,ab⟩:=E0 k;obtain⟨E,K,J,I⟩:=X7 k f G F;clear H k f G F
 have hfin:∀s:Bool,C7 (-q)=⟨s,A9 q.num.natAbs,A9 q.den⟩->zxe S w (-q) (.returned (.agg #[.bool s,.slice A (A9 q.num.natAbs).length m,.slice B (A9 q.den).length n])) (put3 T (w.heap.size+1) (.bool s) (.slice A (A9 q.num.natAbs).length m) (.slice B (A9 q.den).length n)):=fun s R=>
  ⟨⟨_,rfl,ybq R (IsK.stb.to J.out (zpg fun b e=>⟨by have:=a b e;omega,e⟩)) (IsK.stb.to I.out (zpg fun b e=>⟨by have:=a b e;omega,e⟩))⟩,zoc K.out og _ _ _⟩
 obtain⟨x,y,U⟩:=G0 hfin hr a;clear hfin hr a;cases neg with
 |true=>go_in;go_wp2_with fail;refine M7 Tryz.results164 rfl rfl (Row.put3 E.out _ _ _) (x.out false (by rw[y.out];rfl))
 |false=>go_in;go_wp2_with fail;refine M7 Tryz.results164 rfl rfl (Row.put3 E.out _ _ _) (x.out _ ?_);rw[y.out];congr 1;rw[Bool.eq_iff_iff];have O:= @ycn q;have P:= @lim_nil_iff q.num.natAbs;simp;rw[<-O,<-P];omega
theorem zyh {w w':g} {q:Rat} (h:IsQ w' (C3 w) v q) (a:l w.heap.size w w'):IsQ w' (C3 w') v q:=IsQ.stb.to h (F7 fun b h=>d h a.size)
theorem zul {w:g} {q:Rat} (h:IsQ w (C3 w) v q) (l:Sz q 100000) (j:p= -q):o r 119 #[v] w (N8 w p):=by have t:=i h;obtain⟨neg,A,F,B,G,rfl,N,M,L⟩:=G7 h;have x:c (Sz p 100000):=(by rw[j];exact l.neg);have u:=i j;clear h l j;obtain⟨K,I,d,n,s,y⟩:=zko w #[.bool neg,.slice A (A9 q.num.natAbs).length F,.slice B (A9 q.den).length G] #[.bool false,.slice none 0 0,.slice none 0 0] 30 30;have z:=nQ t d;obtain⟨b,a,E⟩:=G0 (n) (s) (d);have J:c (w.heap.size+2<=K.heap.size):=i (Nat.le_of_eq y.out.symm);clear n s d;obtain⟨S,V,Y⟩:=B9 b.out;obtain⟨ab,ae,ah⟩:=B9 a.out;obtain⟨ak,ao,au⟩:=E0 a.out;go_in;go_wp2_with fail;clear I;refine(ykc z.out (fun _ h=>h) u.out).mono ?_;rintro H e ⟨⟨aG,rfl,hv⟩,k⟩;have D:=i (zyh hv k);obtain⟨aD,Q,az,O,aB,rfl,_,_,_⟩:=G7 hv;obtain⟨T,W,Z⟩:=B9 (uR e b);obtain⟨ac,af,ai⟩:=B9 (uR e a);obtain⟨al,aq,av⟩:=E0 (uR e a);go_wp2_with fail;refine(zvk D.out x.out).mono ?_;rintro H f ⟨⟨aH,rfl,m⟩,k⟩;have C:=i (IsQ.stb.le m (uS e J));obtain⟨aE,R,aA,P,aC,rfl,_,_,_⟩:=G7 m;obtain⟨U,X,aa⟩:=B9 (uR f b);obtain⟨ad,ag,aj⟩:=B9 (uR f a);obtain⟨an,ar,ay⟩:=E0 (uR f a);go_wp2_with fail;refine M7 Tryz.results119 rfl rfl (Row.put3 (uR f a) _ _ _) (zky C.out (uB f E) og og)
def zlm (q:Rat):Bool:=decide ((A9 q.num.natAbs).length<=1024/\(A9 q.den).length<=1024)
theorem fitsQ_true {q:Rat}:zlm q=true↔Sz q 1024:=by unfold zlm Sz;exact decide_eq_true_iff
theorem yud {w:g} {q:Rat} (h:IsQ w (C3 w) v q):o r 103 #[v] w fun c w'=>c= .returned (.bool (zlm q))/\l w.heap.size w w':=by
 obtain⟨neg,A,f,B,i,rfl,e,b,a⟩:=G7 h;have m:=zru (E9 b.out);have n:=zru (E9 a.out);clear h;by_cases d:(A9 q.num.natAbs).length<=1024
 ·go_in;go_wp2_with fail;go_ret;refine⟨zsb ?_,(C _ _).alloc (j _) _⟩;rw[Bool.eq_iff_iff,fitsQ_true];unfold Sz;simp;omega
 ·have k:1024<(A9 q.num.natAbs).length:=og;clear d;go_in;go_wp2_with fail;go_ret;refine⟨zsb ?_,(C _ _).alloc (j _) _⟩;rw[Bool.eq_iff_iff,fitsQ_true];unfold Sz;simp;omega
def zoa (a b:Rat):Prop:=(A9 a.num.natAbs).length=1/\(A9 a.den).length=1/\(A9 b.num.natAbs).length=1/\(A9 b.den).length=1
theorem zyw {w:g} {a d:Rat} (ha:IsQ w (C3 w) k a) (s:IsQ w (C3 w) m d):o r 173 #[k,m] w fun J w'=>(∃b:Bool,J= .returned (.bool b)/\(b=true↔zoa a d))/\l w.heap.size w w':=by obtain⟨O,v,F,y,H,rfl,Q,C,A⟩:=G7 ha;obtain⟨P,x,G,z,I,rfl,R,D,B⟩:=G7 s;have Z:=zru (E9 C.out);have aa:=zru (E9 A.out);have ab:=zru (E9 D.out);have ac:=zru (E9 B.out);clear ha s;obtain⟨ad,Y,t,ra,u,S⟩:=zko w #[.bool O,.slice v (A9 a.num.natAbs).length F,.slice y (A9 a.den).length H] #[.bool P,.slice x (A9 d.num.natAbs).length G,.slice z (A9 d.den).length I] 30 30;obtain⟨T,U,V⟩:=B9 ra;obtain⟨W,X,b2⟩:=B9 u;have n:=i t;clear ra u t;by_cases f:(A9 a.num.natAbs).length=1;(case neg=>have K:((((A9 a.num.natAbs).length:Nat):Int)==1)=false:=beq_eq_false_iff_ne.2 og;have e:c (¬zoa a d):=fun h=>f h.1;clear f;go_in;go_wp2_with fail;go_ret;exact⟨⟨false,rfl,⟨fun h=>Bool.noConfusion h,fun h=>absurd h e.out⟩⟩,n.out⟩);have K:((((A9 a.num.natAbs).length:Nat):Int)==1)=true:=beq_iff_eq.2 og;by_cases j:(A9 a.den).length=1;(case neg=>have L:((((A9 a.den).length:Nat):Int)==1)=false:=beq_eq_false_iff_ne.2 og;have e:c (¬zoa a d):=fun h=>j h.2.1;clear j f;go_in;go_wp2_with fail;go_ret;exact⟨⟨false,rfl,⟨fun h=>Bool.noConfusion h,fun h=>absurd h e.out⟩⟩,n.out⟩);have L:((((A9 a.den).length:Nat):Int)==1)=true:=beq_iff_eq.2 og;by_cases p:(A9 d.num.natAbs).length=1;(case neg=>have M:((((A9 d.num.natAbs).length:Nat):Int)==1)=false:=beq_eq_false_iff_ne.2 og;have e:c (¬zoa a d):=fun h=>p h.2.2.1;clear p f j;go_in;go_wp2_with fail;go_ret;exact⟨⟨false,rfl,⟨fun h=>Bool.noConfusion h,fun h=>absurd h e.out⟩⟩,n.out⟩);have M:((((A9 d.num.natAbs).length:Nat):Int)==1)=true:=beq_iff_eq.2 og;by_cases q:(A9 d.den).length=1;(case neg=>have N:((((A9 d.den).length:Nat):Int)==1)=false:=beq_eq_false_iff_ne.2 og;have e:c (¬zoa a d):=fun h=>q h.2.2.2;clear q f j p;go_in;go_wp2_with fail;go_ret;exact⟨⟨false,rfl,⟨fun h=>Bool.noConfusion h,fun h=>absurd h e.out⟩⟩,n.out⟩);have N:((((A9 d.den).length:Nat):Int)==1)=true:=beq_iff_eq.2 og;have E:c (zoa a d):=⟨f,j,p,q⟩;clear f j p q;go_in;go_wp2_with fail;go_ret;exact⟨⟨true,rfl,⟨fun _=>E.out,fun _=>rfl⟩⟩,n.out⟩
theorem yri {w:g} {x y:Nat} (ha:IsN w 0 w.heap.size k x) (c:IsN w 0 w.heap.size m y) (F:Bru w) (H:(A9 x).length<=4294967296) (I:(A9 y).length<=4294967296):
 o r 137 #[k,m] w fun a w'=>(∃b:Bool,a= .returned (.bool b)/\(b=true↔Nat.gcd x y=1))/\l w.heap.size w w':=by
 obtain⟨p,q,n⟩:=G0 ha c F;obtain⟨A,O,rfl,_,_,_⟩:=ha;obtain⟨B,d,rfl,_,_,_⟩:=c;clear F;by_cases h:(A9 x).length<=2/\(A9 y).length<=2
 ·obtain⟨j,D⟩:=h;have u:=lim_len_le.1 j;have by_:=lim_len_le.1 D;rw[show pw 2=1000000000000000000 from by decide] at u by_;obtain⟨J,K⟩:=C5 u by_;clear u by_;obtain⟨N,G⟩:=nm (Nat.gcd x y);have E:=i G;clear G;go_in;go_wp2_with fail;refine(zsk p.out j).mono ?_;rintro a e ⟨rfl,rfl⟩;go_wp2_with fail;refine(zsk q.out D).mono ?_;rintro a e ⟨rfl,rfl⟩;go_wp2_with fail;refine(zxi x y w n.out (Nat.lt_trans J.out og) (Nat.lt_trans K.out og)).mono ?_;rw[<-E.out];rintro a e ⟨rfl,rfl⟩;go_wp2_with fail;go_ret;exact⟨⟨_,rfl,by rw[<-E.out];simp;omega⟩,C _ _⟩
 ·rcases z 2 (A9 x).length with j|j
  ·clear h;go_in;go_wp2_with fail;refine(zqq p.out q.out n.out H I).mono ?_;rintro a e ⟨⟨v,rfl,hv⟩,c⟩;obtain⟨t,s⟩:=C5 hv c;obtain⟨L,M,rfl,_,_,_⟩:=hv;clear c;go_wp2_with fail;refine(zqh t.out).mono ?_;rintro a f ⟨rfl,rfl⟩;go_wp2_with fail;go_ret;exact⟨⟨_,rfl,by simp⟩,s.out⟩
  ·have D:2<(A9 y).length:=og;clear h;go_in;go_wp2_with fail;refine(zqq p.out q.out n.out H I).mono ?_;rintro a e ⟨⟨v,rfl,hv⟩,c⟩;obtain⟨t,s⟩:=C5 hv c;obtain⟨L,M,rfl,_,_,_⟩:=hv;clear c;go_wp2_with fail;refine(zqh t.out).mono ?_;rintro a f ⟨rfl,rfl⟩;go_wp2_with fail;go_ret;exact⟨⟨_,rfl,by simp⟩,s.out⟩
theorem yij {w:g} {x y:Nat} (sa sb:Bool) (ha:IsN w 0 w.heap.size k x) (a:IsN w 0 w.heap.size m y) (Q:(A9 x).length<=2000000) (R:(A9 y).length<=2000000):
 o r 168 #[.bool sa,k,.bool sb,m] w fun p w'=>(∃s v n,p= .returned (.tuple #[.bool s,v])/\c (sg s n=sg sa x+sg sb y)/\IsN w' w.heap.size w'.heap.size v n/\(A9 n).length<=2000001)/\l w.heap.size w w':=by
 obtain⟨q,u⟩:=C5 ha a;obtain⟨A,S,rfl,_,_,_⟩:=ha;obtain⟨B,d,rfl,_,_,_⟩:=a;by_cases F:sa=sb
 ·subst F;have P:(sa==sa)=true:=(by simp);go_in;go_wp2_with fail;refine(yox q.out u.out (j _) (j _) og og).mono ?_;rintro p e ⟨⟨v,rfl,hv⟩,a⟩;obtain⟨E,C⟩:=C5 hv a;clear hv a;go_wp2_with fail;go_ret2;exact⟨⟨_,_,_,rfl,ydt _ _ _,E.out,by have:=yea Q R;omega⟩,C.out⟩
 ·have P:(sa==sb)=false:=(by simp[F]);have M:c (sb= !sa):=(by unfold c;cases sa<;>cases sb<;>simp at F⊢);clear F;rcases z x y with N|J
  ·have I:=i N;clear N;go_in;go_wp2_with fail;refine(zsu q.out u.out).mono ?_;rw[zqz I.out];rintro p e ⟨rfl,hd⟩;have b:=hd.below w.heap.size;obtain⟨G,H,D⟩:=G0 (IsN.next q.out b) (IsN.next u.out b) b;clear hd b;go_wp2_with fail;refine(ymy H.out G.out (j _) (j _) (Nat.le_of_lt I.out) og).mono ?_;rintro p f ⟨⟨v,rfl,hv⟩,a⟩;have E:=i (hv.wide D.out.size (j _));have C:=nB D a;clear hv a;go_wp2_with fail;go_ret2;exact⟨⟨_,_,_,rfl,by unfold c;rw[sg_sub' (Nat.le_of_lt I.out),M.out];simp,E.out,t (W9 (Nat.sub_le _ _)) og⟩,C.out⟩
  ·have L:=i J
   obtain⟨K,hr,T⟩:∃K,K=X6 x y/\0<=K:=by
    refine⟨_,rfl,?_⟩;rcases z y x with h|h
    ·rw[ztm h];omega
    ·rw[zzn (Nat.le_antisymm h J)];omega
   have O:=i hr;clear J hr;go_in;go_wp2_with fail;refine(zsu q.out u.out).mono ?_;rw[<-O.out];rintro p e ⟨rfl,hd⟩;have b:=hd.below w.heap.size;obtain⟨G,H,D⟩:=G0 (IsN.next q.out b) (IsN.next u.out b) b;clear hd b;go_wp2_with fail;refine(ymy G.out H.out (j _) (j _) L.out og).mono ?_;rintro p f ⟨⟨v,rfl,hv⟩,a⟩;have E:=i (hv.wide D.out.size (j _));have C:=nB D a;clear hv a;go_wp2_with fail;go_ret2;exact⟨⟨_,_,_,rfl,by unfold c;rw[ydv L.out,M.out],E.out,t (W9 (Nat.sub_le _ _)) og⟩,C.out⟩
end Go.Proofs.YtlhhbccgfkhflaaGreatDoor
