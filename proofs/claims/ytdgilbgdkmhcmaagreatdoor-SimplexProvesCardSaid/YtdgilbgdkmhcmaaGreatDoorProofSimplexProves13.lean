/-
 The contract of parlourlaw04's certified:a certificate of an optimum.
-/
import Derived.Test.YtdgilbgdkmhcmaaGreatDoorProofSimplexProves12
namespace Go.Proofs.YtdgilbgdkmhcmaaGreatDoor
open Go.RowKit
set_option linter.unusedVariables false
set_option maxRecDepth 100000
set_option maxHeartbeats 8000000
open _root_.Go.Lib renaming hid → d
open _root_.Nat renaming le_refl → o, le_trans → w, zero_le → B
open _root_.List renaming getD_eq_getElem?_getD → g, getElem?_eq_getElem → A, mem_of_getElem? → y, length_map → G, getElem?_map → z
open _root_.And renaming intro → F
open _root_.Go.RowKit renaming Below → f
open _root_.Go.Proofs.Tryz renaming prog → E
variable {K c i j r u : Nat} {Y Z b l : List Rat} {v : Value}
theorem yoh {w:World} {vp vs:Value} {p:ProgQ} {X D:List Rat} {v:Rat} (a5:IsP w (C2 w) vp (N2 p)) (a6:IsSol w (C2 w) vs ⟨1,D8 v,C0 X,C0 D,[]⟩) (U:Good p 1024) (P:X.length=p.C.length) (hD:D.length=p.B.length) (aE:∀q∈X,Sz q 1024) (aD:∀q∈D,Sz q 1024) (aG:Sz v 1024)
 (R:Z0 X (List.replicate p.C.length 0)=true) (af:Z0 p.B (zkc p.A X)=true) (S:Z0 D (List.replicate p.B.length 0)=true) (T:Z0 (W6 p.A D p.C.length p.A.length 0) p.C=true) (ag:L2 p.C X=v) (ah:L2 p.B D=v):
 Calls E 13 #[vp,vs] w fun b w'=>b= .returned (.bool true)/\f w.heap.size w w':=by
 obtain⟨A,aZ,B,a0,C,a1,rfl,M,N,O⟩:=a5;obtain⟨ab,ad,ac,ae,aY,a4,aW,a2,aX,a3,rfl,hv,J,I,ai⟩:=a6;dsimp only at hv J I ai⊢;(have ay:(N2 p).A.length=p.B.length:=by show(F9 p.A).length=_;unfold F9;rw[G,U.rows]);have az:(N2 p).B.length=p.B.length:=U6 _;have aA:(N2 p).C.length=p.C.length:=U6 _;have av:(C0 X).length=p.C.length:=(by rw[U6,P]);have au:(C0 D).length=p.B.length:=(by rw[U6,hD]);rw[ay] at M⊢;rw[az] at N⊢;rw[aA] at O⊢;rw[av] at J⊢;rw[au] at I⊢;obtain⟨n,W⟩:=nm (p.C.length);obtain⟨m,V⟩:=nm (p.B.length);obtain⟨sg,ao⟩:=nm ((D8 v).neg);obtain⟨aq,al⟩:=nm ((D8 v).num.length);obtain⟨ar,an⟩:=nm ((D8 v).den.length);rw[<-V] at M N I S hD⊢;rw[<-W] at O J R T P⊢;rw[<-ao,<-al,<-an] at hv⊢;obtain⟨Y,Z,aa,aP,L,K,a,i⟩:=zop M N O hv J I U (F W V);obtain⟨e,c,aJ,aK,aL,aM,aN,aO⟩:=zop (F P hD) (F aE (F aD aG)) R af S T ag ah;obtain⟨H,bg,aj,aB,aC,bi⟩:=zkd w #[.slice A m aZ,.slice B m a0,.slice C n a1] #[.int .i64 1,.bool sg,.slice ab aq ad,.slice ac ar ae,.slice aY n a4,.slice aW m a2,.slice aX 0 a3] 32 39;have B0:=d aj;obtain⟨k,l,o⟩:=C3 aB;obtain⟨s0,s,t,u,x,y,z⟩:=U8 aC;have Q:Hid (IsQ w (C2 w) (.agg #[.bool sg,.slice ab aq ad,.slice ac ar ae]) v):=aP.out;have j:=zpw k l o s0 s t u x y z;have bn:=L7;have bp:=zrm;clear M N O hv J I ai U W V ao al an aE aD aG R af S T ag ah ay az aA av au P hD aB aC aj;go_in;go_wp2_with fail;clear bg;clear k l o s0 s t u x y z
 go_region_held3 (SH.mk _ j).s
  (exact j.out _ bel)
  (fail)
 obtain⟨k,l,o,s0,s,t,u,x,y,z⟩:=j.out H bel;go_wp2_with fail;refine(zvs (uQ _ Q)).mono ?_;rw[zus c.out.2.2];rintro b aH ⟨rfl,ak⟩;clear k l o s0 s t u x y z;obtain⟨k,l,o,s0,s,t,u,x,y,z⟩:=j.out aH bel;go_wp2_with fail;clear k l o s0 s t u x y z;have aI:Hid (f H.heap.size H aH):=C9 (U7 H) ak;have g:Hid (n<=40/\m<=40/\∀r∈p.A,r.length=n):=⟨by rw[i.out.1];exact a.out.nC,by rw[i.out.2];exact a.out.nB,fun r h=>by rw[i.out.1];exact a.out.cols r h⟩;clear ak;have bj:=B0.out;have bm:=aI.out;simp only[List.append_eq,List.cons_append,List.nil_append]
 go_region_held3 (SH.mk _ j).s
  (exact j.out _ bel)
  (first
    |(go_at_call 65;(with_reducible refine Calls.mono (zvt (uV _ L) e.out.1 c.out.1) ?_);rintro b bT ⟨rfl,bA⟩)
    |(go_at_call 65;(with_reducible refine Calls.mono (zvt (uV _ K) e.out.2 c.out.2.1) ?_);rintro b bU ⟨rfl,bB⟩)
    |(go_at_call 22;(with_reducible refine Calls.mono (zry _ (n:=n) g.out.1) ?_);rintro b bV ⟨⟨bJ,rfl,bd⟩,bC⟩;have aT:=d (IsV.oldN (OwnV.isV bd)))
    |(go_at_call 15;(with_reducible refine Calls.mono (znw (uV _ L) (uV _ aT) (by rw[e.out.1,List.length_replicate]) (fun q h=>(c.out.1 q h).le og) (fun q h=>(zrp (k:=1) q h).le og) aJ.out) ?_);rintro b bX ⟨rfl,bD⟩)
    |(go_at_call 16;(with_reducible refine Calls.mono (zun (uM _ Y) (uV _ L) (by rw[a.out.rows];exact a.out.nB) g.out.2.2 e.out.1 g.out.1 a.out.szA c.out.1) ?_);rintro b bY ⟨⟨bK,rfl,be⟩,bE⟩;have aU:=d (IsV.oldN (OwnV.isV be)))
    |(go_at_call 15;(with_reducible refine Calls.mono (znw (uV _ Z) (uV _ aU) (by rw[zte,a.out.rows]) (fun q h=>(a.out.szB q h).le og) (zum a.out.szA c.out.1 (fun r h=>by rw[a.out.cols r h];exact a.out.nC)) aK.out) ?_);rintro b bZ ⟨rfl,bF⟩)
    |(go_at_call 22;(with_reducible refine Calls.mono (zry _ (n:=m) g.out.2.1) ?_);rintro b b0 ⟨⟨bL,rfl,bf⟩,bG⟩;have aV:=d (IsV.oldN (OwnV.isV bf)))
    |(go_at_call 15;(with_reducible refine Calls.mono (znw (uV _ K) (uV _ aV) (by rw[e.out.2,List.length_replicate]) (fun q h=>(c.out.2.1 q h).le og) (fun q h=>(zrp (k:=1) q h).le og) aL.out) ?_);rintro b bM ⟨rfl,bq⟩)
    |(go_at_call 66;(with_reducible refine Calls.mono (ylg (uM _ Y) (uV _ K) (by rw[e.out.2,a.out.rows];exact i.out.2.symm) g.out.2.2 (by rw[a.out.rows];exact a.out.nB) g.out.1 a.out.szA c.out.2.1) ?_);rintro b bN ⟨⟨v11,rfl,a7⟩,br⟩;have aQ:=d (IsV.oldN (OwnV.isV a7)))
    |(go_at_call 15;(with_reducible refine Calls.mono (znw (uV _ aQ) (uV _ aa) (by rw[zrr];exact i.out.1) (yle a.out.szA c.out.2.1 (by rw[a.out.rows];exact a.out.nB)) (fun q h=>(a.out.szC q h).le og) aM.out) ?_);rintro b bO ⟨rfl,bt⟩)
    |(go_at_call 18;(with_reducible refine Calls.mono (zrh (uV _ aa) (uV _ L) i.out.1.symm e.out.1 g.out.1 a.out.szC c.out.1) ?_);rintro b bP ⟨⟨bH,rfl,a8⟩,bu⟩;have aR:=d (IsQ.stb.old a8))
    |(go_at_call 26;(with_reducible refine Calls.mono (yjj (uQ _ aR) (uQ _ Q) aN.out) ?_);rintro b bQ ⟨rfl,bv⟩)
    |(go_at_call 18;(with_reducible refine Calls.mono (zrh (uV _ Z) (uV _ K) i.out.2.symm e.out.2 g.out.2.1 a.out.szB c.out.2.1) ?_);rintro b bR ⟨⟨bI,rfl,a9⟩,bw⟩;have aS:=d (IsQ.stb.old a9))
    |(go_at_call 26;(with_reducible refine Calls.mono (yjj (uQ _ aS) (uQ _ Q) aO.out) ?_);rintro b bh ⟨rfl,bx⟩))
 go_wp2_with fail;go_ret;exact⟨rfl,C9 B0.out (show f H.heap.size H bh from bel)⟩
theorem ylt {w:World} {q:Rat} (h:IsQ w (C2 w) v q) (c:q=0):Calls E 67 #[v] w fun b w'=>b= .returned (.bool true)/\f w.heap.size w w':=by have a:=yji h;rw[decide_eq_true c] at a;exact a
theorem yog {w:World} {vp vs:Value} {p:ProgQ} {D:List Rat} (aS:IsP w (C2 w) vp (N2 p)) (aT:IsSol w (C2 w) vs ⟨2,D8 0,[],C0 D,[]⟩) (R:Good p 1024) (hD:D.length=p.B.length) (au:∀q∈D,Sz q 1024)
 (P:Z0 D (List.replicate p.B.length 0)=true) (Q:Z0 (W6 p.A D p.C.length p.A.length 0) (List.replicate p.C.length 0)=true) (Z:L2 p.B D<0):
 Calls E 13 #[vp,vs] w fun b w'=>b= .returned (.bool true)/\f w.heap.size w w':=by
 obtain⟨A,aM,B,aN,C,aO,rfl,M,N,O⟩:=aS;obtain⟨V,X,W,Y,aL,aR,aJ,aP,aK,aQ,rfl,hv,ab,J,aa⟩:=aT;dsimp only at hv ab J aa⊢;(have al:(N2 p).A.length=p.B.length:=by show(F9 p.A).length=_;unfold F9;rw[G,R.rows]);have an:(N2 p).B.length=p.B.length:=U6 _;have ao:(N2 p).C.length=p.C.length:=U6 _;have ak:(C0 D).length=p.B.length:=(by rw[U6,hD]);rw[al] at M⊢;rw[an] at N⊢;rw[ao] at O⊢;rw[ak] at J⊢;obtain⟨n,T⟩:=nm (p.C.length);obtain⟨m,S⟩:=nm (p.B.length);obtain⟨sg,ag⟩:=nm ((D8 0).neg);obtain⟨ai,ae⟩:=nm ((D8 0).num.length);obtain⟨aj,af⟩:=nm ((D8 0).den.length);rw[<-S] at M N J P hD⊢;rw[<-T] at O Q⊢;rw[<-ag,<-ae,<-af] at hv⊢;obtain⟨aC,aD,a1,aE,K,a,v,L⟩:=zop M N O hv J R (F T S) hD;obtain⟨I,az,aA,aB⟩:=Z5 au P Q Z;obtain⟨u,aY,ac,aq,ar,a2⟩:=zkd w #[.slice A m aM,.slice B m aN,.slice C n aO] #[.int .i64 2,.bool sg,.slice V ai X,.slice W aj Y,.slice aL 0 aR,.slice aJ m aP,.slice aK 0 aQ] 32 39;have B0:=d ac;obtain⟨e,g,i⟩:=C3 aq;obtain⟨s0,j,k,l,o,s,t⟩:=U8 ar;have U:Hid (IsQ w (C2 w) (.agg #[.bool sg,.slice V ai X,.slice W aj Y]) 0):=aE.out;have c:=zpw e g i s0 j k l o s t;have a8:=L7;have a9:=zrm;clear M N O hv ab J aa R T S ag ae af au P Q Z al an ao ak hD aq ar ac;go_in;go_wp2_with fail;clear aY;clear e g i s0 j k l o s t
 go_region_held3 (SH.mk _ c).s
  (exact c.out _ bel)
  (fail)
 obtain⟨e,g,i,s0,j,k,l,o,s,t⟩:=c.out u bel;go_wp2_with fail;refine(zvs (uQ _ U)).mono ?_;rw[zus (Sz.zero.le og:Sz (0:Rat) 1024)];rintro b av ⟨rfl,ad⟩;clear e g i s0 j k l o s t;obtain⟨e,g,i,s0,j,k,l,o,s,t⟩:=c.out av bel;go_wp2_with fail;clear e g i s0 j k l o s t;have ay:Hid (f u.heap.size u av):=C9 (U7 u) ad;have H:Hid (n<=40/\m<=40/\∀r∈p.A,r.length=n):=⟨by rw[v.out.1];exact a.out.nC,by rw[v.out.2];exact a.out.nB,fun r h=>by rw[v.out.1];exact a.out.cols r h⟩;clear ad;have bn:∀(x y z:Value) (w:World),(Instr.field 37 (.agg #[x,y,z]) 0).run E w= .ok x w:=fun _ _ _ _=>(by kernel_rfl);have a6:=B0.out;have a7:=ay.out;(try simp only[List.append_eq,List.cons_append,List.nil_append])
 go_region_held3 (SH.mk _ c).s
  (exact c.out _ bel)
  (first
    |(go_at_call 65;(with_reducible refine Calls.mono (zvt (uV _ K) L.out I.out) ?_);rintro b bv ⟨rfl,be⟩)
    |(go_at_call 67;(with_reducible refine Calls.mono (ylt (uQ _ U) rfl) ?_);rintro b bw ⟨rfl,bf⟩)
    |(go_at_call 22;(with_reducible refine Calls.mono (zry _ (n:=m) H.out.2.1) ?_);rintro b bx ⟨⟨br,rfl,aV⟩,bg⟩;have aG:=d (IsV.oldN (OwnV.isV aV)))
    |(go_at_call 15;(with_reducible refine Calls.mono (znw (uV _ K) (uV _ aG) (by rw[L.out,List.length_replicate]) (fun q h=>(I.out q h).le og) (fun q h=>(zrp (k:=1) q h).le og) az.out) ?_);rintro b bA ⟨rfl,bh⟩)
    |(go_at_call 66;(with_reducible refine Calls.mono (ylg (uM _ aC) (uV _ K) (by rw[L.out,a.out.rows];exact v.out.2.symm) H.out.2.2 (by rw[a.out.rows];exact a.out.nB) H.out.1 a.out.szA I.out) ?_);rintro b bB ⟨⟨bt,rfl,aW⟩,bi⟩;have aH:=d (IsV.oldN (OwnV.isV aW)))
    |(go_at_call 22;(with_reducible refine Calls.mono (zry _ (n:=n) H.out.1) ?_);rintro b bC ⟨⟨bu,rfl,aX⟩,bj⟩;have aI:=d (IsV.oldN (OwnV.isV aX)))
    |(go_at_call 15;(with_reducible refine Calls.mono (znw (uV _ aH) (uV _ aI) (by rw[zrr,List.length_replicate]) (yle a.out.szA I.out (by rw[a.out.rows];exact a.out.nB)) (fun q h=>(zrp (k:=1) q h).le og) aA.out) ?_);rintro b bD ⟨rfl,bm⟩)
    |(go_at_call 18;(with_reducible refine Calls.mono (zrh (uV _ aD) (uV _ K) v.out.2.symm L.out H.out.2.1 a.out.szB I.out) ?_);rintro b a0 ⟨⟨v10,rfl,ah⟩,bd⟩;have a5:=d (IsQ.stb.old ah);obtain⟨aZ,a3,bp,a4,bq,rfl,aU,_,_⟩:=G9 ah;obtain rfl:aZ=true:=aU.out.trans (decide_eq_true (Int.not_le.1 fun h=>absurd (Rat.num_nonneg.1 h) (Rat.not_le.2 aB.out)))))
 go_wp2_with fail;go_ret;exact⟨rfl,C9 B0.out (show f u.heap.size u a0 from bel)⟩
theorem yoi {w:World} {vp vs:Value} {p:ProgQ} {X D:List Rat} (bG:IsP w (C2 w) vp (N2 p)) (bH:IsSol w (C2 w) vs ⟨3,D8 0,C0 X,[],C0 D⟩) (ac:Good p 1024) (T:X.length=p.C.length) (hD:D.length=p.C.length) (a4:∀q∈X,Sz q 1024) (a3:∀q∈D,Sz q 1024)
 (Z:Z0 X (List.replicate p.C.length 0)=true) (aD:Z0 p.B (zkc p.A X)=true) (aa:Z0 D (List.replicate p.C.length 0)=true) (ab:Z0 (List.replicate p.B.length 0) (zkc p.A D)=true) (aE:0<L2 p.C D):
 Calls E 13 #[vp,vs] w fun b w'=>b= .returned (.bool true)/\f w.heap.size w w':=by
 obtain⟨A,bv,B,bw,C,bx,rfl,Q,R,S⟩:=bG;obtain⟨ak,aB,an,aC,bt,bC,bq,bA,br,bB,rfl,hv,K,aG,J⟩:=bH;dsimp only at hv K aG J⊢;(have aY:(N2 p).A.length=p.B.length:=by show(F9 p.A).length=_;unfold F9;rw[G,ac.rows]);have aZ:(N2 p).B.length=p.B.length:=U6 _;have a0:(N2 p).C.length=p.C.length:=U6 _;have aX:(C0 X).length=p.C.length:=(by rw[U6,T]);have aW:(C0 D).length=p.C.length:=(by rw[U6,hD]);rw[aY] at Q⊢;rw[aZ] at R⊢;rw[a0] at S⊢;rw[aX] at K⊢;rw[aW] at J⊢;obtain⟨n,ae⟩:=nm (p.C.length);obtain⟨m,ad⟩:=nm (p.B.length);obtain⟨sg,aO⟩:=nm ((D8 0).neg);obtain⟨aT,aM⟩:=nm ((D8 0).num.length);obtain⟨aU,aN⟩:=nm ((D8 0).den.length);rw[<-ad] at Q R ab⊢;rw[<-ae] at S K J Z aa T hD⊢;rw[<-aO,<-aM,<-aN] at hv⊢;obtain⟨ah,bf,bg,bi,Y,M,a,I⟩:=zop Q R S hv K J ac (F ae ad);obtain⟨y,v,a8,a9,bd,be,ag⟩:=hd7 (F T hD) (F a4 a3) Z aD aa ab aE;obtain⟨c,bM,aH,a1,a2,bU⟩:=zkd w #[.slice A m bv,.slice B m bw,.slice C n bx] #[.int .i64 3,.bool sg,.slice ak aT aB,.slice an aU aC,.slice bt n bC,.slice bq 0 bA,.slice br n bB] 32 39;have B0:=d aH;obtain⟨e,g,i⟩:=C3 a1;obtain⟨s0,j,k,l,s,t,u⟩:=U8 a2;have ai:Hid (IsQ w (C2 w) (.agg #[.bool sg,.slice ak aT aB,.slice an aU aC]) 0):=bi.out;have H:=zpw e g i s0 j k l s t u;have bX:=L7;have bY:=zrm;clear Q R S hv K aG J ac ae ad aO aM aN a4 a3 Z aD aa ab aE aY aZ a0 aX aW T hD a1 a2 aH;go_in;go_wp2_with fail;clear bM;clear e g i s0 j k l s t u
 go_region_held3 (SH.mk _ H).s
  (exact H.out _ bel)
  (fail)
 obtain⟨e,g,i,s0,j,k,l,s,t,u⟩:=H.out c bel;go_wp2_with fail;refine(zvs (uQ _ ai)).mono ?_;rw[zus (Sz.zero.le og:Sz (0:Rat) 1024)];rintro b a5 ⟨rfl,aI⟩;clear e g i s0 j k l s t u;obtain⟨e,g,i,s0,j,k,l,s,t,u⟩:=H.out a5 bel;go_wp2_with fail;clear e g i s0 j k l s t u;have a7:Hid (f c.heap.size c a5):=C9 (U7 c) aI;have z:Hid (n<=40/\m<=40/\∀r∈p.A,r.length=n):=⟨by rw[I.out.1];exact a.out.nC,by rw[I.out.2];exact a.out.nB,fun r h=>by rw[I.out.1];exact a.out.cols r h⟩;clear aI;have bV:=B0.out;have av:=a7.out;refine(zvt (uV _ M) y.out.2 v.out.2).mono ?_;rintro b a6 ⟨rfl,aJ⟩;have ay:f c.heap.size c a6:=C9 av aJ;clear av aJ;obtain⟨e,g,i,s0,j,k,l,s,t,u⟩:=H.out a6 bel;go_wp2_with fail;refine(zrh (uV _ bg) (uV _ M) I.out.1.symm y.out.2 z.out.1 a.out.szC v.out.2).mono ?_;rintro b x ⟨⟨cf,rfl,U⟩,aK⟩;obtain⟨bP,al,aS,Q3,aV,rfl,aP,_,_⟩:=G9 U;obtain rfl:bP=false:=aP.out.trans (decide_eq_false fun h=>absurd (Rat.num_nonneg.2 (Rat.le_of_lt ag.out)) (Int.not_le.2 h));obtain⟨u1,aQ⟩:=nm ((A9 (L2 p.C D).num.natAbs).length);obtain⟨u2,aR⟩:=nm ((A9 (L2 p.C D).den).length);rw[<-aQ,<-aR] at U⊢;have bh:Hid (decide (L2 p.C D=0)=false):=decide_eq_false fun h=>(by have:=ag.out;rw[h] at this;exact absurd this Rat.lt_irrefl);have ar:=d (IsQ.stb.old U);have az:f c.heap.size c x:=C9 ay aK;clear ay aK U aQ aR aP e g i s0 j k l s t u;obtain⟨bR,bN,aL,W,bO⟩:=K0 x #[.bool false,.slice none 0 0,.slice none 0 0] 37;obtain⟨N,O,P⟩:=C3 W;obtain⟨bD,bE,bF⟩:=F7 W;obtain⟨ao,af⟩:=C4 W aL;clear W aL bO;go_wp2_with fail;clear bN N O P bD bE bF;obtain⟨L,V⟩:=nm (((bR.setCell ⟨x.heap.size,0,none⟩ (.bool false)).setCell ⟨x.heap.size,1,none⟩ (.slice al u1 aS)).setCell ⟨x.heap.size,2,none⟩ (.slice Q3 u2 aV));rw[<-V];have aA:f x.heap.size x L:=(by rw[V];exact zom af.out (o _) _ _ _);have aq:Row L x.heap.size 37 [.bool false,.slice al u1 aS,.slice Q3 u2 aV]:=(by rw[V];exact Row.put3 ao.out _ _ _);have bu:f c.heap.size c L:=C9 az aA;have bp:=d (uQ L ar);obtain⟨N,O,P⟩:=C3 aq;obtain⟨e,g,i,s0,j,k,l,s,t,u⟩:=H.out L bel;have aj:=ysc e g i s0 j k l s t u N O P;have bT:=d bu;clear V ao af aA aq az N O P e g i s0 j k l s t u ar H;(try simp only[List.append_eq,List.cons_append,List.nil_append])
 go_region_held3 (SH.mk _ aj).s
  (exact aj.out _ bel)
  (first
    |(go_at_call 65;(with_reducible refine Calls.mono (zvt (uV _ Y) y.out.1 v.out.1) ?_);rintro b cq ⟨rfl,b7⟩)
    |(go_at_call 67;(with_reducible refine Calls.mono (ylt (uQ _ ai) rfl) ?_);rintro b cr ⟨rfl,b8⟩)
    |(go_at_call 22;(with_reducible refine Calls.mono (zry _ (n:=n) z.out.1) ?_);rintro b cs ⟨⟨cg,rfl,bK⟩,b9⟩;have au:=d (IsV.oldN (OwnV.isV bK)))
    |(go_at_call 15;(with_reducible refine Calls.mono (znw (uV _ Y) (uV _ au) (by rw[y.out.1,List.length_replicate]) (fun q h=>(v.out.1 q h).le og) (fun q h=>(zrp (k:=1) q h).le og) a8.out) ?_);rintro b ct ⟨rfl,ca⟩)
    |(go_at_call 16;(with_reducible refine Calls.mono (zun (uM _ ah) (uV _ Y) (by rw[a.out.rows];exact a.out.nB) z.out.2.2 y.out.1 z.out.1 a.out.szA v.out.1) ?_);rintro b cu ⟨⟨ch,rfl,bL⟩,cb⟩;have bn:=d (IsV.oldN (OwnV.isV bL)))
    |(go_at_call 15;(with_reducible refine Calls.mono (znw (uV _ bf) (uV _ bn) (by rw[zte,a.out.rows]) (fun q h=>(a.out.szB q h).le og) (zum a.out.szA v.out.1 (fun r h=>by rw[a.out.cols r h];exact a.out.nC)) a9.out) ?_);rintro b cj ⟨rfl,bZ⟩)
    |(go_at_call 15;(with_reducible refine Calls.mono (znw (uV _ M) (uV _ au) (by rw[y.out.2,List.length_replicate]) (fun q h=>(v.out.2 q h).le og) (fun q h=>(zrp (k:=1) q h).le og) bd.out) ?_);rintro b ck ⟨rfl,b0⟩)
    |(go_at_call 22;(with_reducible refine Calls.mono (zry _ (n:=m) z.out.2.1) ?_);rintro b cl ⟨⟨cc,rfl,bI⟩,b1⟩;have bj:=d (IsV.oldN (OwnV.isV bI)))
    |(go_at_call 16;(with_reducible refine Calls.mono (zun (uM _ ah) (uV _ M) (by rw[a.out.rows];exact a.out.nB) z.out.2.2 y.out.2 z.out.1 a.out.szA v.out.2) ?_);rintro b cm ⟨⟨cd,rfl,bJ⟩,b3⟩;have bm:=d (IsV.oldN (OwnV.isV bJ)))
    |(go_at_call 15;(with_reducible refine Calls.mono (znw (uV _ bj) (uV _ bm) (by rw[List.length_replicate,zte,a.out.rows];exact I.out.2) (fun q h=>(zrp (k:=1) q h).le og) (zum a.out.szA v.out.2 (fun r h=>by rw[a.out.cols r h];exact a.out.nC)) be.out) ?_);rintro b cn ⟨rfl,b4⟩)
    |(go_at_call 67;(with_reducible refine Calls.mono (yji (uQ _ bp)) ?_);rw[bh.out];rintro b bQ ⟨rfl,b5⟩))
 go_wp2_with fail;go_ret;exact⟨rfl,C9 B0.out (show f c.heap.size c bQ from bel)⟩
theorem ztv {z:Int} {d v:Nat}:H7 z u d v=(z:Rat)*((d:Int):Rat)⁻¹*((u:Nat):Rat)*((v:Nat):Rat)⁻¹:=by unfold H7;have h:(((d:Nat):Rat)*((v:Nat):Rat))⁻¹=((v:Nat):Rat)⁻¹*((d:Nat):Rat)⁻¹:=Rat.inv_mul_rev _ _;have a:((d:Int):Rat)=((d:Nat):Rat):=rfl;rw[Rat.div_def,h,a];grind
section
variable {sc : Nat → Nat} {top m n : Nat} {t : TB}
theorem ypo (a:i<m):(J9 sc top m n t).D i n=H7 (t.A i n) 1 t.d (sc (t.bas.getD i 0)):=by rw[ztv];show(if i<=m/\n<=n then _ else _)=_;rw[if_pos ⟨by omega,o _⟩];unfold uc ur;rw[if_neg (Nat.lt_irrefl _),if_pos a];rfl
theorem ypn (a:j<n):(J9 sc top m n t).D m j=H7 (t.A m j) (sc (t.oth.getD j 0)) t.d top:=by rw[ztv];show(if m<=m/\j<=n then _ else _)=_;rw[if_pos ⟨o _,by omega⟩];unfold uc ur;rw[if_pos a,if_neg (Nat.lt_irrefl _)]
theorem yes (a:i<m) (b:j<n):(J9 sc top m n t).D i j=H7 (t.A i j) (sc (t.oth.getD j 0)) t.d (sc (t.bas.getD i 0)):=by rw[ztv];show(if i<=m/\j<=n then _ else _)=_;rw[if_pos ⟨by omega,by omega⟩];unfold uc ur;rw[if_pos b,if_pos a]
theorem ypp:(J9 sc top m n t).D m n=H7 (t.A m n) 1 t.d top:=by rw[ztv];show(if m<=m/\n<=n then _ else _)=_;rw[if_pos ⟨o _,o _⟩];unfold uc ur;rw[if_neg (Nat.lt_irrefl _),if_neg (Nat.lt_irrefl _)];rfl
theorem yvi {z:Int} {d v:Nat}:H7 (-z) u d v= -H7 z u d v:=by rw[ztv,ztv,Rat.intCast_neg];grind
theorem yio:J0 n 0 (fun _=>0) (fun i=>t.bas.getD i 0) (fun i=>H7 (t.A i n) 1 t.d (sc (t.bas.getD i 0))) m=zsv m n (J9 sc top m n t):=by
 unfold J0 zsv N7;refine List.map_congr_left fun v hv=> ?_;unfold Y6;have b:C5 n (fun j=>if(J9 sc top m n t).oth j=v then(0:Rat) else 0)=0:=zld fun j d=>(by split<;>rfl);rw[b,Nat.zero_add,P7 (f:=fun i=>if t.bas.getD i 0=v then H7 (t.A i n) 1 t.d (sc (t.bas.getD i 0)) else 0) (g:=fun i=>if(J9 sc top m n t).bas i=v then(J9 sc top m n t).D i n*1-C5 n (fun j=>(J9 sc top m n t).D i j*0) else 0) fun i c=> ?_]
 ·grind
 ·have a:C5 n (fun j=>(J9 sc top m n t).D i j*0)=0:=zld fun j d=>Rat.mul_zero _;rw[a,ypo c];show(if t.bas.getD i 0=v then _ else _)=(if t.bas.getD i 0=v then _ else _);split
  ·grind
  ·rfl
theorem ywz:J0 m n (fun _=>0) (fun j=>t.oth.getD j 0) (fun j=>H7 (t.A m j) (sc (t.oth.getD j 0)) t.d top) n=zvl m n (J9 sc top m n t):=by unfold J0 zvl N7 X9;refine List.map_congr_left fun v hv=> ?_;rw[P7 (f:=fun j=>if t.oth.getD j 0=n+v then H7 (t.A m j) (sc (t.oth.getD j 0)) t.d top else 0) (g:=fun j=>if(J9 sc top m n t).oth j=n+v then(J9 sc top m n t).D m j else 0) fun j a=>by rw[ypn a];rfl];grind
theorem yxb (hr:r<m):J0 m n (fun v=>if t.bas.getD r 0=n+v then 1 else 0) (fun j=>t.oth.getD j 0) (fun j=>H7 (t.A r j) (sc (t.oth.getD j 0)) t.d (sc (t.bas.getD r 0))) n=zvk m n (J9 sc top m n t) r:=by unfold J0 zvk N7 X9;refine List.map_congr_left fun v hv=> ?_;rw[P7 (f:=fun j=>if t.oth.getD j 0=n+v then H7 (t.A r j) (sc (t.oth.getD j 0)) t.d (sc (t.bas.getD r 0)) else 0) (g:=fun j=>if(J9 sc top m n t).oth j=n+v then(J9 sc top m n t).D r j else 0) fun j a=>by rw[yes hr a];rfl];show(if t.bas.getD r 0=n+v then(1:Rat) else 0)+_=_+(if t.bas.getD r 0=n+v then(1:Rat) else 0);exact Rat.add_comm _ _
theorem yxr (hc:c<n):J0 n 0 (fun v=>if t.oth.getD c 0=0+v then 1 else 0) (fun i=>t.bas.getD i 0) (fun i=>H7 (-(t.A i c)) (sc (t.oth.getD c 0)) t.d (sc (t.bas.getD i 0))) m=zvr m n (J9 sc top m n t) c:=by
 unfold J0 zvr N7;refine List.map_congr_left fun v hv=> ?_;unfold Y6;have d:C5 n (fun j=>if(J9 sc top m n t).oth j=v then(if j=c then(1:Rat) else 0) else 0)=if t.oth.getD c 0=v then 1 else 0:=(by rw[zmn hc fun j f a=>by rw[if_neg a];split<;>rfl,if_pos rfl];rfl);rw[d,Nat.zero_add,P7 (f:=fun i=>if t.bas.getD i 0=v then H7 (-(t.A i c)) (sc (t.oth.getD c 0)) t.d (sc (t.bas.getD i 0)) else 0) (g:=fun i=>if(J9 sc top m n t).bas i=v then(J9 sc top m n t).D i n*0-C5 n (fun j=>(J9 sc top m n t).D i j*(if j=c then 1 else 0)) else 0) fun i e=> ?_]
 ·show(if t.oth.getD c 0=0+v then(1:Rat) else 0)+_=_+(if t.oth.getD c 0=v then(1:Rat) else 0);rw[Nat.zero_add];exact Rat.add_comm _ _
 ·have b:C5 n (fun j=>(J9 sc top m n t).D i j*(if j=c then 1 else 0))=(J9 sc top m n t).D i c:=(by rw[zmn hc fun j f a=>by rw[if_neg a];exact Rat.mul_zero _,if_pos rfl];exact Rat.mul_one _);rw[b,yes e hc,yvi];show(if t.bas.getD i 0=v then _ else _)=(if t.bas.getD i 0=v then _ else _);split
  ·grind
  ·rfl
end
theorem zz1369 {w:World} {q:Rat} (h:IsQ w (C2 w) v q):Calls E 64 #[v] w fun g w'=>g= .returned (.bool (!(zlt q)))/\f w.heap.size w w':=by
 have e:=d h;obtain⟨neg,A,p,B,r,rfl,_,_,_⟩:=G9 h;obtain⟨t,k⟩:=nm ((A9 q.num.natAbs).length);obtain⟨u,l⟩:=nm ((A9 q.den).length);rw[<-k,<-l] at e⊢;obtain⟨b,a⟩:=nm (zlt q);rw[<-a];have n:=d a;clear h k l a;have z:=L7;obtain⟨C,s,i,m,o⟩:=K0 w #[.bool neg,.slice A t p,.slice B u r] 37;obtain⟨x,y,b2⟩:=C3 m;have B0:=d i;clear i m o;go_in;go_wp2_with fail;clear s;refine(yrd (IsQ.stb.next e.out B0.out)).mono ?_;rw[<-n.out];rintro g D ⟨rfl,j⟩;have c:=nB B0 j;clear j;cases b
 ·go_wp2_with fail;go_ret;exact⟨rfl,c.out⟩
 ·go_wp2_with fail;go_ret;exact⟨rfl,c.out⟩
theorem ysf {w:World} (h:IsV w (C2 w) v (C0 l)) (u:∀q∈l,zlt q=true):
 Calls E 143 #[v,.func (.func 64) #[] #[]] w fun m w'=>m= .returned (.int .i64 (-1))/\f w.heap.size w w':=by
 obtain⟨j,D⟩:=C4 h u;obtain⟨A,c,rfl,J⟩:=M5 h;obtain⟨n,b⟩:=nm (l.length);rw[zot,<-b] at j J⊢;have C:=d b;clear h u b;have P:=L7;go_in;go_wp2_with fail;go_loopw [8,5] (fun e _ wr=>∃k:Nat,k<=n/\e= .int .i64 (k:Int)/\f w.heap.size w wr) (fun e _ _=>n-(intOf e).toNat);case atStart=>exact⟨0,B _,rfl,Below.refl _ _⟩
 case round=>
  obtain⟨k,T,rfl,a⟩:=hrel;have i:=d a;rcases Nat.lt_or_ge k n with r|Q
  ·obtain⟨q,s,t⟩:=zoe (l:=l) (j:=k) (by rw[<-C.out];exact r);obtain⟨O,U,K,L,M,N,rfl,_,p,G,H,I⟩:=zlc (IsV.stb.to j.out (E7 a)) t;obtain⟨F,z⟩:=C4 (zsp p) (D.out q (y s));have g:Hid (k+1<=n):=r;have R:(0:Int)<=(k:Int):=og;have S:(k:Int)<(n:Int):=og;clear s t p a;go_wp2_with fail;refine(zz1369 F.out).mono ?_;rw[z.out];rintro m V ⟨rfl,o⟩;have x:=nB i o;clear o G H I;go_wp2_with fail;go_roundw;(case rel=>exact⟨k+1,g.out,by go_num,x.out⟩);case measure=>simp[intOf];have:=g.out;omega
  ·obtain rfl:k=n:=og;clear a;go_wp2_with fail;go_ret;exact⟨rfl,i.out⟩
theorem ygd {w:World} (h:IsV w (C2 w) v (C0 l)) (c:∀q∈l,zlt q=true):
 Calls E 63 #[v,.func (.func 64) #[] #[]] w fun a w'=>a= .returned (.bool false)/\f w.heap.size w w':=by obtain⟨g,i⟩:=C4 h c;clear h c;go_in;go_wp2_with fail;refine(ysf g.out i.out).mono ?_;rintro a j ⟨rfl,b⟩;have e:=d b;clear b;go_wp2_with fail;go_ret;exact⟨rfl,e.out⟩
structure FineP (p:ProgQ) (N M:Nat):Prop where
 good:Good p 1024
 n0:0<N
 m0:0<M
 fA:∀row∈p.A,∀q∈row,q.den∣N/\q.num.natAbs<=M
 fB:∀q∈p.B,q.den∣N/\q.num.natAbs<=M
 fC:∀q∈p.C,q.den∣N/\q.num.natAbs<=M
def zok (q:Rat):Prop:=Sz q 3/\q.den∣2/\q.num.natAbs<=8
theorem yuh {a:Int} {b:Nat} (ha:a.natAbs<=8) (d:b=1\/b=2):(mkRat a b).den∣2/\(mkRat a b).num.natAbs<=8:=by
 have c:(mkRat a b).den∣b:=by
  have:=Rat.den_mkRat a b;rw[this];split
  ·exact Nat.one_dvd b
  ·exact Nat.div_dvd_of_dvd (Nat.gcd_dvd_left _ _)
 have e:(mkRat a b).num.natAbs<=a.natAbs:=by
  rw[Rat.num_mkRat];split
  ·simp
  ·exact Int.natAbs_ediv_le_natAbs _ _
 refine⟨?_,by omega⟩;rcases d with rfl|rfl
 ·exact Nat.dvd_trans c (by decide)
 ·exact c
theorem yqw {p:ProgQ} (h:Good p 1024) (b:∀row∈p.A,∀q∈row,zok q) (c:∀q∈p.B,zok q) (d:∀q∈p.C,zok q):FineP p 2 8:=
 ⟨h,by omega,by omega,fun r hr q a=>(b r hr q a).2,fun q a=>(c q a).2,fun q a=>(d q a).2⟩
theorem yfn {N:Nat}:∀(l:List Rat) (a:Nat),a∣N->(∀q∈l,q.den∣N)->l.foldl (fun a q=>Nat.lcm a q.den) a∣N
 |[],a,b,_=>b
 |q::l,a,b,h=>yfn l _ (Nat.lcm_dvd b (h q (by simp))) fun r hr=>h r (by simp[hr])
theorem ybb {N:Nat} (h:∀q∈l,q.den∣N):zkk l∣N:=yfn l 1 (Nat.one_dvd N) h
theorem yhe {N M:Nat} {x:Rat} (a:0<N) (h:∀q∈l,q.den∣N) (b:x.num.natAbs<=M):(x.num*((zkk l/x.den:Nat):Int)).natAbs<=M*N:=by rw[Int.natAbs_mul,Int.natAbs_natCast];exact Nat.mul_le_mul b (w (Nat.div_le_self _ _) (Nat.le_of_dvd a (ybb h)))
def zlf (m n:Nat):List Nat:=(List.range m).map fun i=>n+i
theorem zup (m n:Nat):(zlf m n).length=m:=by unfold zlf;simp
theorem ynd {m n:Nat} (a:i<m):(zlf m n).getD i 0=n+i:=by unfold zlf;rw[g,z,List.getElem?_range a];rfl
theorem yvs {n:Nat} (a:j<n):(List.range n).getD j 0=j:=by rw[g,List.getElem?_range a];rfl
theorem yud (h:j<l.length):l.getD j 0∈l:=by rw[g,A h];exact List.getElem_mem h
def newP (p:ProgQ):TB:=zly p.A p.B p.C 0 (zlf p.B.length p.C.length) (List.range p.C.length) p.B.length p.C.length
def X7 (p:ProgQ):Nat->Nat:=zmm p.A p.B (zlf p.B.length p.C.length) p.B.length
def zki (p:ProgQ):Nat:=zkp p.C 0
section
variable {p : ProgQ} {N M : Nat}
theorem yve (m n:Nat):(zlf m n++List.range n).Nodup:=zxy fun i j b c a=>by
 have d:(List.range n).length=n:=by simp
 rw[List.length_append,zup,d] at b c
 have key:∀k,k<m+n->(zlf m n++List.range n).getD k 0=if k<m then n+k else k-m:=fun k e=>by
  rw[g,List.getElem?_append,zup]
  split
  ·rename_i h;rw[<-g];exact ynd h
  ·rename_i h;rw[<-g];exact yvs og
 rw[key i b,key j c] at a
 split at a<;>split at a<;>omega
theorem FineP.row (h:FineP p N M) (a:i<p.B.length):∃r,p.A[i]? =some r/\p.A.getD i []=r/\r∈p.A/\r.length=p.C.length:=by have hr:p.A[i]? =some (p.A.getD i []):=(by rw[g,A (by have:=h.good.rows;omega)];rfl);exact⟨_,hr,rfl,y hr,h.good.cols _ (y hr)⟩
theorem FineP.wide (h:FineP p N M) (b:i<p.B.length):∀q∈p.A.getD i []++[p.B.getD i 0],q.den∣N/\q.num.natAbs<=M:=fun q a=>by
 obtain⟨r,hr,c,d,e⟩:=h.row b
 rw[c] at a
 rcases List.mem_append.1 a with a|a
 ·exact h.fA r d q a
 ·rw[List.mem_singleton] at a
  subst a
  exact h.fB _ (yud b)
theorem FineP.cost (h:FineP p N M):∀q∈p.C++[0],q.den∣N/\q.num.natAbs<=M:=fun q a=>by
 rcases List.mem_append.1 a with a|a
 ·exact h.fC q a
 ·rw[List.mem_singleton] at a
  subst a
  exact⟨Nat.one_dvd N,B _⟩
theorem FineP.small (h:FineP p N M):∀i j,i<=p.B.length->j<=p.C.length->((newP p).A i j).natAbs<=M*N:=fun i j l b=>by
 have e:∀j,j<=p.C.length->(zlw [p.C++[0]] 0 j).natAbs<=M*N:=fun j b=>by
  have c:j<(p.C++[(0:Rat)]).length:=by simp;omega
  rw[zsq (M:=[p.C++[0]]) (i:=0) rfl (A c)]
  exact yhe h.n0 (fun q d=>(h.cost q d).1) (h.cost _ (List.getElem_mem c)).2
 show(if i<p.B.length then zlw (zuj p.A p.B p.B.length) i j else if j<p.C.length then -(zlw [p.C++[0]] 0 j) else zlw [p.C++[0]] 0 j:Int).natAbs<=_
 split
 ·rename_i a
  obtain⟨r,hr,g,m,c⟩:=h.row a
  have k:=ycu (b:=p.B) (n:=p.B.length) (m:=p.C.length) a hr
  have f:j<(r++[p.B.getD i 0]).length:=by simp;omega
  rw[zsq k (A f)]
  have hd:=h.wide a
  rw[g] at hd
  exact yhe h.n0 (fun q d=>(hd q d).1) (hd _ (List.getElem_mem f)).2
 ·split
  ·rw[Int.natAbs_neg];exact e j b
  ·exact e j b
theorem FineP.inv (h:FineP p N M):TInv (M*N) p.B.length p.C.length (newP p):=
 yzt rfl (zup _ _) (by show(List.range _).length=_;simp) (yve _ _) (fun v hv=>by
  rcases List.mem_append.1 hv with hv|hv
  ·unfold newP zly zlf at hv
   obtain⟨i,a,rfl⟩:=List.mem_map.1 hv
   have:=List.mem_range.1 a
   omega
  ·have:v∈List.range p.C.length:=hv
   have:=List.mem_range.1 this
   omega) (Nat.mul_pos h.m0 h.n0) h.small
theorem FineP.ok (h:FineP p N M):OkT (M*N) p.B.length p.C.length (X7 p) (zki p) (R4 p.B.length p.C.length (aF p.A) (lF p.B) (lF p.C)) (newP p) where
 inv:=h.inv
 eqv:=yux h.good.rows rfl h.good.cols rfl rfl rfl
theorem yjn {bas:List Nat} {a:Nat->Nat} {N:Nat} (b:0<N):∀k,(∀i,i<k->a i<=N)->∀v,zno bas a k v<=N
 |0,_,_=>b
 |k+1,h,v=>by
  rw[zno]
  split
  ·exact h k og
  ·exact yjn b k (fun i c=>h i og) v
theorem FineP.sc_le (h:FineP p N M) (v:Nat):X7 p v<=N:=yjn h.n0 _ (fun i a=>Nat.le_of_dvd h.n0 (ybb fun q b=>(h.wide a q b).1)) v
theorem FineP.top_le (h:FineP p N M):zki p<=N:=Nat.le_of_dvd h.n0 (ybb fun q a=>(h.cost q a).1)
theorem FineP.sc0 (h:FineP p N M) (v:Nat):0<X7 p v:=yza _ _ _ _ _
theorem FineP.top0 (h:FineP p N M):0<zki p:=ykz _ _
theorem FineP.scok (h:FineP p N M) (a:(A9 N).length<=100000):ScOk (X7 p) (zki p):=
 ⟨fun v=>w (U1 (h.sc_le v)) a,h.sc0,w (U1 h.top_le) a,h.top0⟩
end
theorem yui {z:Int} {d k:Nat} (b:z.natAbs<=K) (c:d<=K) (a:(A9 K).length<=k) (f:1<=k):Sz (mkRat z d) k:=by
 by_cases hd:d=0
 ·subst hd;rw[Rat.mkRat_zero];exact⟨by show(A9 0).length<=k;rw[M6];simp,by show(A9 1).length<=k;rw[zka];exact f⟩
 ·have g:(mkRat z d).num=z/(d.gcd z.natAbs:Int):=(by rw[Rat.num_mkRat,if_neg hd]);have e:(mkRat z d).den=d/d.gcd z.natAbs:=(by rw[Rat.den_mkRat];simp[hd]);refine⟨w (U1 ?_) a,w (U1 ?_) a⟩
  ·rw[g];exact w (Int.natAbs_ediv_le_natAbs _ _) b
  ·rw[e];exact w (Nat.div_le_self _ _) c
theorem yhv {z:Int} {d v N k:Nat} (e:z.natAbs<=K) (c:u<=N) (hd:d<=K) (hv:v<=N) (b:(A9 (K*N)).length<=k) (a:1<=k):Sz (H7 z u d v) k:=by rw[yhu];refine yui ?_ (Nat.mul_le_mul hd hv) b a;unfold sg;have:=Nat.mul_le_mul e c;split<;>omega
theorem yib {k:Nat} (a:1<=k):Sz (1:Rat) k:=⟨by show(A9 1).length<=k;rw[zka];exact a,by show(A9 1).length<=k;rw[zka];exact a⟩
theorem zqo {k:Nat} (a:1<=k):Sz (0:Rat) k:=⟨by show(A9 0).length<=k;rw[M6];simp,by show(A9 1).length<=k;rw[zka];exact a⟩
theorem zvw {f off k:Nat} {b:Nat->Rat} {key:Nat->Nat} {X:Nat->Rat} (l:∀i j,i<k->j<k->key i=key j->i=j) {q:Rat} (h:q∈J0 f off b key X k):(∃v,q=b v)\/∃i v,i<k/\key i=off+v/\q=b v+X i:=by
 unfold J0 at h;obtain⟨v,hv,rfl⟩:=ztb h;by_cases e:∃i,i<k/\key i=off+v
 ·obtain⟨i,a,d⟩:=e;refine .inr ⟨i,v,a,d,?_⟩;rw[zmn a fun j g m=>by rw[if_neg fun c=>m (l j i g a (c.trans d.symm))],if_pos d]
 ·refine .inl ⟨v,?_⟩;rw[zld fun i a=>by rw[if_neg fun c=>e ⟨i,a,c⟩]];exact Rat.add_zero _
def zmy (p:ProgQ) (k:Nat) (s:Sol):Prop:=
 (∃X Y v,s=⟨1,D8 v,C0 X,C0 Y,[]⟩/\CertOpt p.A p.B p.C X Y v/\Sz v k/\(∀q∈X,Sz q k)/\∀q∈Y,Sz q k)\/
 (∃Y,s=⟨2,D8 0,[],C0 Y,[]⟩/\CertNone p.A p.B p.C Y/\∀q∈Y,Sz q k)\/
 ∃X Z,s=⟨3,D8 0,C0 X,[],C0 Z⟩/\CertRay p.A p.B p.C X Z/\(∀q∈X,Sz q k)/\∀q∈Z,Sz q k
section
variable {p : ProgQ} {N M k : Nat} {t : TB} {a : Dic}
theorem zzt {m n:Nat} (h:TInv M m n t):∀i j,i<m->j<m->t.bas.getD i 0=t.bas.getD j 0->i=j:=fun i j c d a=>by
 have b:=h.bl
 exact zoc (List.nodup_append.1 h.dist).1 og og a
theorem yie {m n:Nat} (h:TInv M m n t):∀i j,i<n->j<n->t.oth.getD i 0=t.oth.getD j 0->i=j:=fun i j c d a=>by
 have b:=h.ol
 exact zoc (List.nodup_append.1 h.dist).2.1 og og a
theorem ydl {m n:Nat} (h:TInv M m n t) (b:i<m) (c:j<n):t.bas.getD i 0≠t.oth.getD j 0:=by have a:=h.bl;have d:=h.ol;exact(List.nodup_append.1 h.dist).2.2 _ (Z8 og) _ (Z8 og)
theorem ybl {m n:Nat} {sc:Nat->Nat} {top:Nat} (hI:TInv M m n t) (g:K=K6 M (m+1)) (l:∀v,sc v<=N) (o:top<=N) (h:0<N) (e:(A9 (K*N)).length<=k) (a:1<=k) {d:Nat} (b:i<=m) (c:j<=n) (f:u<=N) (hd:d<=N):Sz (H7 (t.A i j) u t.d d) k/\Sz (H7 (-(t.A i j)) u t.d d) k:=by subst g;refine⟨yhv (hI.small.2 i j b c) f hI.small.1 hd e a,yhv ?_ f hI.small.1 hd e a⟩;rw[Int.natAbs_neg];exact hI.small.2 i j b c
theorem ymx (h:FineP p N M) (m:(A9 (K6 (M*N) (p.B.length+1)*N)).length<=k) (b:1<=k) (a:OkT (M*N) p.B.length p.C.length (X7 p) (zki p) (R4 p.B.length p.C.length (aF p.A) (lF p.B) (lF p.C)) t) (f:∀i,i<p.B.length->0<=t.A i p.C.length) (g:zkm p.B.length p.C.length t=none):
 zmy p k ⟨1,D8 (H7 (t.A p.B.length p.C.length) 1 t.d (zki p)),C0 (J0 p.C.length 0 (fun _=>0) (fun i=>t.bas.getD i 0) (fun i=>H7 (t.A i p.C.length) 1 t.d (X7 p (t.bas.getD i 0))) p.B.length),C0 (J0 p.B.length p.C.length (fun _=>0) (fun j=>t.oth.getD j 0) (fun j=>H7 (t.A p.B.length j) (X7 p (t.oth.getD j 0)) t.d (zki p)) p.C.length),[]⟩:=by
 have hc:=yqh h.sc0 h.top0 h.good.rows rfl rfl h.good.cols a f g;have e:=fun {i j u d:Nat}=>ybl a.inv rfl h.sc_le h.top_le h.n0 m b (i:=i) (j:=j) (u:=u) (d:=d);rw[<-yio,<-ywz,ypp] at hc;refine .inl ⟨_,_,_,rfl,hc,(e (o _) (o _) h.n0 h.top_le).1,fun q c=> ?_,fun q c=> ?_⟩
 ·rcases zvw (zzt a.inv) c with⟨v,rfl⟩|⟨i,v,l,_,rfl⟩
  ·exact zqo b
  ·rw[Rat.zero_add];exact(e og (o _) h.n0 (h.sc_le _)).1
 ·rcases zvw (yie a.inv) c with⟨v,rfl⟩|⟨i,v,l,_,rfl⟩
  ·exact zqo b
  ·rw[Rat.zero_add];exact(e (o _) og (h.sc_le _) h.top_le).1
theorem ymw (h:FineP p N M) (l:(A9 (K6 (M*N) (p.B.length+1)*N)).length<=k) (b:1<=k) (a:OkT (M*N) p.B.length p.C.length (X7 p) (zki p) (R4 p.B.length p.C.length (aF p.A) (lF p.B) (lF p.C)) t) (c:znn p.B.length p.C.length t=some r) (f:znz p.C.length t r=none):
 zmy p k ⟨2,D8 0,[],C0 (J0 p.B.length p.C.length (fun v=>if t.bas.getD r 0=p.C.length+v then 1 else 0) (fun j=>t.oth.getD j 0) (fun j=>H7 (t.A r j) (X7 p (t.oth.getD j 0)) t.d (X7 p (t.bas.getD r 0))) p.C.length),[]⟩:=by
 have hc:=yqg h.sc0 h.top0 h.good.rows rfl rfl a c f;have hr:=(zmg c).1;have n:=fun {i j u d:Nat}=>ybl a.inv rfl h.sc_le h.top_le h.n0 l b (i:=i) (j:=j) (u:=u) (d:=d);rw[<-yxb hr] at hc;refine .inr (.inl ⟨_,rfl,hc,fun q m=> ?_⟩);rcases zvw (yie a.inv) m with⟨v,rfl⟩|⟨i,v,g,hv,rfl⟩
 ·split
  ·exact yib b
  ·exact zqo b
 ·rw[if_neg fun e=>ydl a.inv hr g (e.trans hv.symm),Rat.zero_add];exact(n og og (h.sc_le _) (h.sc_le _)).1
theorem ymy (h:FineP p N M) (s:(A9 (K6 (M*N) (p.B.length+1)*N)).length<=k) (b:1<=k) (a:OkT (M*N) p.B.length p.C.length (X7 p) (zki p) (R4 p.B.length p.C.length (aF p.A) (lF p.B) (lF p.C)) t) (r:∀i,i<p.B.length->0<=t.A i p.C.length) (g:zkm p.B.length p.C.length t=some c) (w:zlx p.B.length p.C.length t c=none):
 zmy p k ⟨3,D8 0,C0 (J0 p.C.length 0 (fun _=>0) (fun i=>t.bas.getD i 0) (fun i=>H7 (t.A i p.C.length) 1 t.d (X7 p (t.bas.getD i 0))) p.B.length),[],C0 (J0 p.C.length 0 (fun v=>if t.oth.getD c 0=0+v then 1 else 0) (fun i=>t.bas.getD i 0) (fun i=>H7 (-(t.A i c)) (X7 p (t.oth.getD c 0)) t.d (X7 p (t.bas.getD i 0))) p.B.length)⟩:=by
 have hc:=yqi h.sc0 h.top0 h.good.rows rfl rfl h.good.cols a r g w;have f:=(zmg g).1;have m:=fun {i j u d:Nat}=>ybl a.inv rfl h.sc_le h.top_le h.n0 s b (i:=i) (j:=j) (u:=u) (d:=d);rw[<-yio,<-yxr f] at hc;refine .inr (.inr ⟨_,_,rfl,hc,fun q e=> ?_,fun q e=> ?_⟩)
 ·rcases zvw (zzt a.inv) e with⟨v,rfl⟩|⟨i,v,l,_,rfl⟩
  ·exact zqo b
  ·rw[Rat.zero_add];exact(m og (o _) h.n0 (h.sc_le _)).1
 ·rcases zvw (zzt a.inv) e with⟨v,rfl⟩|⟨i,v,l,hv,rfl⟩
  ·split
   ·exact yib b
   ·exact zqo b
  ·rw[if_neg fun n=>ydl a.inv l f (hv.trans n.symm),Rat.zero_add];exact(m og og (h.sc_le _) (h.sc_le _)).2
theorem zta {q:Rat} {k:Nat} (h:Sz q k) (a:k<=1024):zlt q=true:=by unfold zlt;rw[decide_eq_true_eq];exact⟨w h.1 a,w h.2 a⟩
end
theorem ybz (n j:Nat):(List.replicate n (0:Rat)).getD j 0=0:=by rw[g,List.getElem?_replicate];split<;>rfl
theorem yrq {X:List Rat} (h:∀x∈X,0<=x) (j:Nat):0<=X.getD j 0:=by
 rw[g];cases e:X[j]? with
 |none=>exact Rat.le_refl
 |some x=>exact h x (y e)
theorem ztk {X:List Rat} {n:Nat} (h:∀x∈X,0<=x):Z0 X (List.replicate n 0)=true:=zvb fun j _=>by rw[ybz];exact yrq h j
theorem yak {A:List (List Rat)} {X:List Rat} (d:A.length=b.length) (h:∀i r,A[i]? =some r->L2 r X<=b.getD i 0):Z0 b (zkc A X)=true:=zvb fun j c=>by
 obtain⟨r,hr⟩:=zlp (l:=A) (j:=j) (by rw[d];exact c)
 have a:(zkc A X).getD j 0=L2 r X:=by rw[g];unfold zkc;rw[z,hr];rfl
 rw[a]
 exact h j r hr
theorem yrm {A:List (List Rat)} {m:Nat} (c:A.length=m) (h:∀r∈A,L2 r Z<=0):Z0 (List.replicate m 0) (zkc A Z)=true:=zvb fun j a=>by
 rw[List.length_replicate] at a
 obtain⟨r,hr⟩:=zlp (l:=A) (j:=j) (by rw[c];exact a)
 have b:(zkc A Z).getD j 0=L2 r Z:=by rw[g];unfold zkc;rw[z,hr];rfl
 rw[b,ybz]
 exact h r (y hr)
theorem zz1373 {A:List (List Rat)} {n m k:Nat} (a:k<n):(W6 A Y n m 0).getD k 0=zrq A Y m k:=by unfold W6;rw[ycs a,if_neg og]
theorem yfw {A:List (List Rat)} {c:List Rat} {n:Nat} (b:Nat->Rat) (hc:∀k,k<n->c.getD k 0=b k) (h:∀k,k<n->b k<=zrq A Y A.length k):Z0 (W6 A Y n A.length 0) c=true:=zvb fun j a=>by
 rw[zrr] at a
 rw[zz1373 a,hc j a]
 exact h j a
theorem ynz {w:World} {vp vs:Value} {p:ProgQ} {s:Sol} (d:IsP w (C2 w) vp (N2 p)) (e:IsSol w (C2 w) vs s) (b:Good p 1024) {k:Nat} (a:k<=1024) (ha:zmy p k s):
 Calls E 13 #[vp,vs] w fun j w'=>j= .returned (.bool true)/\f w.heap.size w w':=by
 rcases ha with⟨X,Y,v,rfl,c,m,g,i⟩|⟨Y,rfl,c,i⟩|⟨X,Z,rfl,c,g,l⟩
 ·exact yoh d e b c.x.len c.y.len (fun q h=>(g q h).le a) (fun q h=>(i q h).le a) (m.le a) (ztk c.x.nn) (yak b.rows c.x.le) (ztk c.y.nn) (yfw _ (fun _ _=>rfl) fun k a=>by have:=c.y.ge k a;exact this) c.vx c.vy
 ·exact yog d e b c.y.len (fun q h=>(i q h).le a) (ztk c.y.nn) (yfw (fun _=>0) (fun k _=>ybz _ _) fun k a=>by have:=c.y.ge k a;exact this) c.vy
 ·exact yoi d e b c.x.len c.z.len (fun q h=>(g q h).le a) (fun q h=>(l q h).le a) (ztk c.x.nn) (yak b.rows c.x.le) (ztk c.z.nn) (yrm b.rows c.z.le) c.up
theorem yff {m:Nat} (b:m<=4):(A9 (K6 (8*2) (m+1)*2)).length<=3/\(A9 (K6 (8*2) (m+1))).length<=100000:=by
 have c:pw 3=1000000000000000000000000000:=rfl
 have key:K6 (8*2) (m+1)<=125829120:=by
  match m,b with
  |0,_=>decide
  |1,_=>decide
  |2,_=>decide
  |3,_=>decide
  |4,_=>decide
 have a:(A9 (K6 (8*2) (m+1))).length<=3:=lim_len_le.2 og;exact⟨lim_len_le.2 og,by omega⟩
section
variable {p : ProgQ} {s : Sol} {k : Nat} {x : List Rat}
theorem yrk {a:List Rat} (h:Z0 a b=true) (c:j<a.length):b.getD j 0<=a.getD j 0:=of_decide_eq_true (List.all_eq_true.1 h j (List.mem_range.2 c))
theorem yqu (d:Good p 1024) (f:x.length=p.C.length) (c:∀q∈x,0<=q) (h:Z0 p.B (zkc p.A x)=true):Feas p.A p.B p.C.length x:=
 ⟨f,c,fun i r hr=>by
   have e:i<p.A.length:=(List.getElem?_eq_some_iff.1 hr).1
   have a:=yrk h (j:=i) (by rw[<-d.rows];exact e)
   have b:(zkc p.A x).getD i 0=L2 r x:=by rw[g];unfold zkc;rw[z,hr];rfl
   rw[b] at a
   exact a⟩
theorem yzq (h:zmy p k s):s.st=1\/s.st=2\/s.st=3:=by
 rcases h with⟨X,Y,v,rfl,_⟩|⟨Y,rfl,_⟩|⟨X,Z,rfl,_⟩
 ·exact .inl rfl
 ·exact .inr (.inl rfl)
 ·exact .inr (.inr rfl)
theorem yzr (h:zmy p k s) (a:s.st=1):∃X v,s.X=C0 X/\s.val=D8 v/\(∀q∈X,Sz q k)/\Sz v k/\Feas p.A p.B p.C.length X:=by
 rcases h with⟨X,Y,v,rfl,c,b,d,_⟩|⟨Y,rfl,_⟩|⟨X,Z,rfl,_⟩
 ·exact⟨X,v,rfl,rfl,d,b,c.x⟩
 ·exact absurd a (by show¬(2:Int)=1;decide)
 ·exact absurd a (by show¬(3:Int)=1;decide)
theorem yzo (a:Good p 1024) (h:zmy p k s) (b:s.st=2) (d:Feas p.A p.B p.C.length x):False:=by
 rcases h with⟨X,Y,v,rfl,_⟩|⟨Y,rfl,c,_⟩|⟨X,Z,rfl,_⟩
 ·exact absurd b (by show¬(1:Int)=2;decide)
 ·exact c.no a.rows a.cols d
 ·exact absurd b (by show¬(3:Int)=2;decide)
theorem yzn (a:Good p 1024) (h:zmy p k s) (b:s.st=1) (e:Feas p.A p.B p.C.length x):∃v,s.val=D8 v/\Sz v k/\L2 p.C x<=v:=by
 rcases h with⟨X,Y,v,rfl,c,d,_⟩|⟨Y,rfl,_⟩|⟨X,Z,rfl,_⟩
 ·exact⟨v,rfl,d,c.best a.rows a.cols e⟩
 ·exact absurd b (by show¬(2:Int)=1;decide)
 ·exact absurd b (by show¬(3:Int)=1;decide)
theorem yzp (a:Good p 1024) (h:zmy p k s) (b:s.st=3):∃Z,s.R=C0 Z/\Z.length=p.C.length/\(∀q∈Z,Sz q k)/\∀(x:List Rat) (t:Rat),Feas p.A p.B p.C.length x->0<t->
 Z0 (zlr t x Z p.C.length) (List.replicate p.C.length 0)=true/\Z0 p.B (zkc p.A (zlr t x Z p.C.length))=true/\L2 p.C x<L2 p.C (zlr t x Z p.C.length):=by
 rcases h with⟨X,Y,v,rfl,_⟩|⟨Y,rfl,_⟩|⟨X,Z,rfl,c,_,f⟩
 ·exact absurd b (by show¬(1:Int)=3;decide)
 ·exact absurd b (by show¬(2:Int)=3;decide)
 ·refine⟨Z,rfl,c.z.len,f,fun x t e d=> ?_⟩;have ha:=c.z.along e a.cols (Rat.le_of_lt d);exact⟨ztk ha.nn,yak a.rows ha.le,c.grows e.len d⟩
theorem ymm {t:Rat} {X:List Rat} {n:Nat} (h:j<n):(zlr t X Z n).take (j+1)=(zlr t X Z n).take j++[X.getD j 0+t*Z.getD j 0]:=zpo (by unfold zlr;exact zrv h)
theorem zwj (t:Rat) (X Z:List Rat) (n:Nat):(zlr t X Z n).length=n:=zqn _ _
theorem yfz {X:List Rat} {a:Nat} (h:∀q∈X,Sz q a) (ha:1<=a) (j:Nat):Sz (X.getD j 0) a:=by
 rw[g];cases e:X[j]? with
 |none=>exact zqo ha
 |some x=>exact h x (y e)
theorem ymn {t:Rat} {X:List Rat} {n:Nat} (d:Sz t 1) (a:∀q∈X,Sz q 3) (b:∀q∈Z,Sz q 3):∀q∈zlr t X Z n,Sz q 8:=fun q c=>by
 obtain⟨j,_,rfl⟩:=ztb c
 exact((yfz a og j).add (d.mul (yfz b og j))).le og
end
end Go.Proofs.YtdgilbgdkmhcmaaGreatDoor
