/-
 The contract of package simplex's (*table).pivot.
-/
import Derived.Test.YtlhhbccgfkhflaaGreatDoorProofDualWeak08
import Derived.Laws.OwnMore
namespace Go.Proofs.YtlhhbccgfkhflaaGreatDoor
open Go.RowKit
set_option linter.unusedVariables false
set_option maxRecDepth 100000
set_option maxHeartbeats 8000000
open _root_.Go.Lib renaming hid → f
open _root_.Nat renaming le_refl → i, le_trans → o, lt_of_lt_of_le → q
open _root_.Go.World renaming cell?_setCell_other → p
open _root_.And renaming intro → e
open _root_.Go.RowKit renaming Hid → d
variable {L : Lay} {M N b base c g j k lo lo0 m n off r top : Nat} {S : Nat → Prop} {b0 : Nat → Rat} {a steps : Int} {key sc : Nat → Nat} {l : List Rat} {t : TB}
theorem zz1451 {w:World} {st:Int} (h:T3 w S lo0 lo g L m n sc top t st a steps) (hr:r<m) (hc:c<n) (fl:m<=100) (c7:n<=100) (bv:∀s j,s<=m->j<=n->Sz ((t.A s j:Int):Rat) 100000)
 (zpv:∀s j,s<=m->j<=n->Sz ((zno t.A t.d r c s j:Int):Rat) 100000) (eE:(A8 t.d).length<=100000) (eD:0<t.d):
 Calls Tryz.prog 55 #[.pointer (some ⟨g,0,none⟩),.int .i64 (r:Int),.int .i64 (c:Int)] w fun u w'=>u= .returned (.tuple #[])/\T3 w' S lo0 lo g L m n sc top (U4 t r c) st a steps/\Btw lo0 lo S w w':=by
 obtain⟨aT,Q,e0,bp,bE,v,P⟩:=hd7 h bv zpv eE eD hr hc;have aL:d (lo0<=w.heap.size/\lo<=w.heap.size):=⟨o h.gS.1 (Nat.le_of_lt h.g_lt),h.tab.hlo⟩;have eG:1<=m:=og;have c8:1<=n:=og;obtain⟨fy,gj,fD,gm,D,ct,fF,fW,⟨-,-,hD,-⟩,⟨aX,aY,bu,az,aA⟩,-,⟨aQ,-,-⟩,-⟩:=h.open;have dH:=f hD;have c9:=(h.hd r hr).1;have cZ:=(h.hd r hr).2.2;have dG:=h.hv r og (by rw[K3 hr];exact c8);have cM:=h.hv m og (by rw[Y2];exact eG);have cL:=h.hv (m+1) og (by rw[zke];exact c8);have cN:=(h.basW eG).1;have cO:=(h.othW c8).1;obtain⟨cQ,dr,cT,du,-,X,Y,al,bq⟩:=h.elS (l:=m) (j:=r) og (by rw[Y2];exact hr);obtain⟨aV,a5,cS,dt,-,aa,ab,ag,dv⟩:=h.elS (l:=r) (j:=c) og (by rw[K3 hr];exact hc);rw[zus] at X Y bq;rw[zrp hr] at aa ab dv;rw[c9] at bu;rw[cM] at az;rw[cL] at aA;rw[cN] at aX;rw[cO] at aY;rw[dG] at cZ;have bx:=f (e cM (e cL (e cN (e cO c9))));have eF:=h.caps;have aR:∀l,l<m+2->M4 m n l<=L.cp l/\L.cp l<=9223372036854775807:=fun l aC=>(by have:=h.cap l aC;unfold maxLen at this;exact this);have cc:=f aR;have fI:n<=L.cp r:=(by have:=(aR r og).1;rwa[K3 hr] at this);have fM:L.cp r<=9223372036854775807:=(aR r og).2;have fN:m<=L.cp m:=(by have:=(aR m og).1;rwa[Y2] at this);have fO:L.cp m<=9223372036854775807:=(aR m og).2;have fP:n<=L.cp (m+1):=(by have:=(aR (m+1) og).1;rwa[zke] at this);have fQ:L.cp (m+1)<=9223372036854775807:=(aR (m+1) og).2;have ej:m<=L.rc/\L.rc<=9223372036854775807/\m<=L.bc/\L.bc<=9223372036854775807/\n<=L.oc/\L.oc<=9223372036854775807:=(by unfold maxLen at eF;omega);obtain⟨ej,fR,fS,fJ,fK,fL⟩:=ej;have gh:(0:Int)<=(r:Int):=og;have gi:(r:Int)<(m:Int):=og;have fY:(0:Int)<=(c:Int):=og;have fZ:(c:Int)<(n:Int):=og;have fV:=N9;obtain⟨cr,cq⟩:=C7 bq dv;obtain⟨dA,eI⟩:=nm (decide (t.A r n<0));obtain⟨dB,eJ⟩:=nm ((A8 (t.A r n).natAbs).length);obtain⟨cH,dj⟩:=nm (decide (t.A r c<0));obtain⟨bw,dk⟩:=nm ((A8 (t.A r c).natAbs).length);obtain⟨aj,dh⟩:=nm ((A8 1).length);obtain⟨eM,c6⟩:=nm ((A8 t.d).length);rw[<-eI] at X cr;rw[<-eJ] at Y cr;rw[<-dj] at aa cq;rw[<-dk] at ab cq;rw[<-dh] at al cr ag cq;rw[<-c6] at dH aQ;obtain⟨dQ,cg,dR,dS,eV,ck⟩:=zpu dh c6 dj dk (e aX (e aY (e bu (e az aA)))) (e aa (e ab (e ag aQ)));clear h bv zpv eE eD hD c9 dG cM cL cN cO bq dv eF aR eI eJ dj dk dh c6;clear aX aY aA;go_in;go_wp2_with fail;have H:=znz bu az cZ X Y al
 go_region_held3 (SH.mk _ H).s
  (exact H.out _ bel)
  (fail)
 obtain⟨dy,bU,Z,b7,-⟩:=J9 w #[.bool dA,.slice cQ dB dr,.slice cT aj du] 30;rw[bU];obtain⟨a9,cB⟩:=nm (dy.drew);have bf:d (Below w.heap.size w a9):=(by rw[d,cB];exact⟨Z.os,Z.tape,Z.output,Z.size,Z.block⟩);have cV:d (Row a9 w.heap.size 30 [.bool dA,.slice cQ dB dr,.slice cT aj du]):=(by rw[d,cB];exact b7.drew);rw[<-cB];clear cB Z b7 H bU bu az cZ X Y al;obtain⟨cW,c2⟩:=nm (w.heap.size);have eX:=f c2;rw[<-c2] at cV⊢;clear c2;have aa:=A9 bf.out ck.out.1;have ab:=A9 bf.out ck.out.2.1;have ag:=A9 bf.out ck.out.2.2.1;have aQ:=A9 bf.out ck.out.2.2.2;go_wp2_with fail;have H:=hs4 aa ab ag aQ
 go_region_held3 (SH.mk _ H).s
  (exact H.out _ bel)
  (fail)
 obtain⟨dy,bU,Z,b7,-⟩:=J9 a9 #[.bool cH,.slice aV bw a5,.slice cS aj dt] 30;rw[bU];obtain⟨W,cC⟩:=nm (dy.drew);have cI:Below a9.heap.size a9 W:=(by rw[cC];exact⟨Z.os,Z.tape,Z.output,Z.size,Z.block⟩);have bg:=nB bf cI;have cU:d (Row W a9.heap.size 30 [.bool cH,.slice aV bw a5,.slice cS aj dt]):=(by rw[d,cC];exact b7.drew);have e5:=f (cV.out.next cI);rw[<-cC];obtain⟨br,a2⟩:=nm (a9.heap.size);have bj:d (lo<=br/\lo<=cW):=(by rw[d,a2,eX.out];exact⟨o aL.out.2 bf.out.size,aL.out.2⟩);rw[<-a2] at cU⊢;clear cC Z b7 H bU aa ab ag aQ cI a2 cV;have bu:=A9 bg.out eV.out.2.2.1;have T:d (lo0<=W.heap.size/\lo<=W.heap.size):=⟨o aL.out.1 bg.out.size,o aL.out.2 bg.out.size⟩;have e6:d (SchG W S lo0 lo g L m n sc top (L9 t r c m n 0) (t.A m n) t.d t.bas t.oth st a steps):=(aT.out.next bg.out).nums fun l j aC _=>yyz aC;have cs:L6 (SN S lo w) (SN S lo W) w W:=(((Btw.refl lo0 lo S w).below bg.out aL.out.1).same fun x B=>q (aT.out.tab.sS x B) aL.out.2);obtain⟨cd,e3,dV⟩:=F0 (IsK.stb.to dH.out cs) (IsQ.stb.to cr.out cs) (IsQ.stb.to cq.out cs);clear cs;go_wp2_with fail;clear bu;go_loopw [44,10,11,12] (fun dn _ _ _ wr=>∃s:Nat,s<=m/\dn= .int .i64 (s:Int)/\Btw lo0 lo S W wr/\d (SchG wr S lo0 lo g L m n sc top (L9 t r c m n s) (t.A m n) t.d t.bas t.oth st a steps)) (fun dn _ _ _ _=>m-(intOf dn).toNat);case atStart=>exact⟨0,Nat.zero_le _,rfl,Btw.refl _ _ _ _,e6.out⟩
 case round=>
  obtain⟨s,gd,rfl,c3,eH⟩:=hrel;have bA:=f c3;have I:=f eH.out;have bD:d (∀b,SN S lo wr b->C5 wr b):=I.out.sn_lt;have cF:L6 (SN S lo W) (SN S lo wr) W wr:=c3.same fun x B=>q (aT.out.tab.sS x B) T.out.2;obtain⟨dJ,ec,dZ,dY,dW⟩:=hd5 (IsK.stb.to cd.out cF) (bA.out.row e5.out bj.out.2) (bA.out.row cU.out bj.out.1) (IsQ.stb.to (IsQ.stb.to e3.out cF) (G4 bD.out)) (IsQ.stb.to (IsQ.stb.to dV.out cF) (G4 bD.out));clear c3 eH cF;rcases Nat.lt_or_ge s m with J|ga
  ·have ek:=(I.out.hd s J).2.2;have eW:=I.out.hv s og (by rw[K3 J];omega);rw[eW] at ek;have gf:(0:Int)<=(s:Int):=og;have gg:(s:Int)<(m:Int):=og;have fa:n<=L.cp s:=(by have:=(cc.out s og).1;rwa[K3 J] at this);have fb:L.cp s<=9223372036854775807:=(cc.out s og).2;have bF:=f J;obtain⟨bH,b4,bK,lF,-,aO,aP,bt,aW⟩:=I.out.el (l:=s) (j:=c) og (by rw[K3 J];exact P.out);obtain⟨dT,eK,dU,eL,-,u0,u1,u2,dw⟩:=I.out.el (l:=m) (j:=s) og (by rw[Y2];exact J);rw[ydj J] at aO aP aW;rw[yyw] at u0 u1 dw;have cA:=I.out.tab.line m og (by rw[Y2];omega);have ac:wr.frozen? ⟨L.bk m,s*3,none⟩=false:=cA.free;have ad:wr.frozen? ⟨L.bk m,s*3+1,none⟩=false:=cA.free;have ae:wr.frozen? ⟨L.bk m,s*3+2,none⟩=false:=cA.free;obtain⟨-,-,-,-,-,-,-,-,-,⟨-,-,-,az,-⟩,-,-,-⟩:=I.out.open;rw[bx.out.1] at az;obtain⟨X,Y,al⟩:=C0 ec.out;obtain⟨aa,ab,ag⟩:=C0 dZ.out;obtain⟨av,au⟩:=C7 aW dw;obtain⟨b9,bZ⟩:=nm (decide (t.A s c<0));obtain⟨ca,b1⟩:=nm ((A8 (t.A s c).natAbs).length);obtain⟨em,bQ⟩:=nm (decide (t.A s n<0));obtain⟨en,bR⟩:=nm ((A8 (t.A s n).natAbs).length);rw[<-bZ] at aO av;rw[<-b1] at aP av;rw[<-bQ] at u0 au;rw[<-bR] at u1 au;rw[<-dQ.out] at bt av u2 au;clear aW dw cA bZ b1 bQ bR;by_cases c5:s=r
   ·subst c5;have fm:(((s:Int) !=(s:Int)):Bool)=false:=(by simp);clear X Y al aa ab ag aO aP bt u0 u1 u2 ac ad ae az;go_wp2_with fail;go_roundw;(case rel=>exact⟨s+1,bF.out,by go_num,bA.out,I.out.nums fun l j _ _=>yyx t s c m n l j⟩);case measure=>simp[intOf];have:=bF.out;omega
   ·have fm:(((s:Int) !=(r:Int)):Bool)=true:=(by simp;omega);have dP:=f c5;obtain⟨ar,df,A,b8,-⟩:=J9 wr #[.bool b9,.slice bH ca b4,.slice bK aj lF] 30;obtain⟨b0,bO,b2⟩:=C0 b8;have bh:=f A;have cn:=nQ av A;have bJ:=nQ au A;have bM:=nQ dY A;have bL:=nQ dW A;have bC:=f (IsK.stb.next (IsK.stb.to dJ.out (G4 bD.out)) A);have aU:d (wr.heap.size≠L.bk m):=(by rw[d];have:=I.out.tab.sep m og (by rw[Y2];omega);have:=I.out.tab.hlo;omega);have V:d (br≠L.bk m/\cW≠L.bk m/\g≠L.bk m):=(by rw[d];have G:=I.out.tab.sep m og (by rw[Y2];omega);have:=bj.out;have an:=(I.out.lS m og (by rw[Y2];omega)).2.1;exact⟨by omega,by omega,Ne.symm an⟩);obtain⟨K,E,ah⟩:=F0 (e (A9 A az) (e b0 (e bO (e b2 (e (A9 A aa) (e (A9 A ab) (e (A9 A ag) (e (A9 A X) (e (A9 A Y) (A9 A al)))))))))) (e (A9 A u0) (e (A9 A u1) (A9 A u2))) (e (J5 A u0 ac) (e (J5 A u1 ad) (J5 A u2 ae)));obtain⟨z,bY⟩:=nm (zlc (t.A s n) (t.A r c) (t.A s c) (t.A r n) t.d);have bn:=f bY;clear bY b8 A u0 u1 u2 ac ad ae X Y al aa ab ag b0 bO b2 az c5 J;go_wp2_with fail;clear df ek aO aP bt;obtain⟨u0,u1,u2⟩:=E.out;have H:=zyi K.out.1 K.out.2.1 K.out.2.2.1 K.out.2.2.2.1 K.out.2.2.2.2.1 K.out.2.2.2.2.2.1 K.out.2.2.2.2.2.2.1 K.out.2.2.2.2.2.2.2.1 K.out.2.2.2.2.2.2.2.2.1 K.out.2.2.2.2.2.2.2.2.2;have bi:d (∀ay:World,Below ar.heap.size ar ay->Calls Tryz.prog 117 #[.agg #[.bool em,.slice dT en eK,.slice dU aj eL],.agg #[.bool cH,.slice aV bw a5,.slice cS aj dt],.agg #[.bool b9,.slice bH ca b4,.slice bK aj lF],.agg #[.bool dA,.slice cQ dB dr,.slice cT aj du],.slice D eM ct] ay (K8 ay (((z:Int)):Rat))):=fun ay a0=>(by have h:=zwc (IsQ.stb.next bJ.out a0) (IsQ.stb.next bL.out a0) (IsQ.stb.next cn.out a0) (IsQ.stb.next bM.out a0) (F7 (IsK.stb.next bC.out a0)) ((Q.out s n (Nat.le_of_lt bF.out) (i _)).le og) ((Q.out r c (Nat.le_of_lt v.out) (Nat.le_of_lt P.out)).le og) ((Q.out s c (Nat.le_of_lt bF.out) (Nat.le_of_lt P.out)).le og) ((Q.out r n (Nat.le_of_lt v.out) (i _)).le og) (o bp.out og) bE.out;rw[Rat.num_intCast,Rat.num_intCast,Rat.num_intCast,Rat.num_intCast,<-bn.out] at h;exact h);have bm:=hpE s H (nA V.out.2.2 (nA aU.out (nA aU.out (nA aU.out (nA V.out.1 (nA V.out.1 (nA V.out.1 (nA V.out.2.1 (nA V.out.2.1 (nZ V.out.2.1))))))))));refine wp_region_noPanic ?_;refine zld H fun af=> ?_;refine sT 0 56 ?_;refine sT 1 57 ?_;refine sT 2 58 ?_;refine sT 3 59 ?_;refine sT 4 60 ?_;refine sT 5 61 ?_;refine sT 6 62 ?_;refine sT 7 63 ?_;refine sT 8 64 ?_;refine sT 9 65 ?_;refine sT 10 66 ?_;refine sT 11 67 ?_;refine sT 12 68 ?_;refine sT 14 70 ?_;refine sT 15 71 ?_;refine sT 16 72 ?_;refine sT 17 73 ?_;refine wpAnyH_ready (rs:=[13]) kr (by simp) ?_;refine AllReadyH.cons rfl (fun M C=> ?_) AllReadyH.nil;go_simp;refine C.out _ _ (H.out _ bel) (fun af=> ?_);clear C M;refine sP ?_;refine wpAnyH_ready (rs:=[18]) kr (by simp) ?_;refine AllReadyH.cons rfl (fun M C=> ?_) AllReadyH.nil;go_simp;go_at_call 117;(with_reducible refine Calls.mono (bi.out _ bel) ?_)
    rintro u aJ ⟨⟨eR,rfl,ao⟩,cx⟩;have O:=bW ar aJ;obtain⟨bG,b3,bI,b5,rfl⟩:=zle ao;have aG:=A9 O.out E.out.1;have aH:=A9 O.out E.out.2.1;have aI:=A9 O.out E.out.2.2;have ac:=J5 O.out E.out.1 ah.out.1;have ad:=J5 O.out E.out.2.1 ah.out.2.1;have ae:=J5 O.out E.out.2.2 ah.out.2.2;(focus go_wp2_with fail)
    refine C.out _ _ (H.out _ bel) (fun af=> ?_);clear C M;refine sP ?_;refine sT 19 75 ?_;refine wpAnyH_ready (rs:=[20]) kr (by simp) ?_;refine AllReadyH.cons rfl (fun M C=> ?_) AllReadyH.nil;go_simp;refine C.out _ _ (bm.out _ bel _ _ _) (fun af=> ?_);clear C M;refine sP ?_;refine wpAnyH_done kr ?_ _;refine NoPanic.normal ?_;have dC:=f (C8 bh.out O.out);have bN:=f (I.out.next dC.out);have dL:d (IsQ aJ (SN S lo aJ) (.agg #[.bool (decide (z<0)),.slice bG (A8 z.natAbs).length b3,.slice bI (A8 1).length b5]) ((z:Int):Rat)):=IsQ.stb.to ao (G4 fun b N=> .inr ⟨by have G:=I.out.tab.hlo;have an:=bh.out.size;have aZ:=N.1;simp at aZ;omega,N.2⟩);have J:=bF.out;obtain⟨F,ak⟩:=C7 (bN.out.putL (l:=m) (j:=s) og (by rw[Y2];exact J) dL.out) ((bA.out.below dC.out T.out.1).step (zmr (c:=L.bk m) (j:=s) (x:= .bool (decide (z<0))) (y:= .slice bG (A8 z.natAbs).length b3) (z:= .slice bI (A8 1).length b5) (J0 aJ _)) T.out.1 fun x u=>by cases u;exact⟨(I.out.lS m og (by rw[Y2];omega)).1,I.out.tab.sep m og (by rw[Y2];omega)⟩);obtain⟨ai,aE⟩:=nm (((aJ.setCell ⟨(L.bk m),s*3,none⟩ (.bool (decide (z<0)))).setCell ⟨(L.bk m),s*3+1,none⟩ (.slice bG (A8 z.natAbs).length b3)).setCell ⟨(L.bk m),s*3+2,none⟩ (.slice bI (A8 1).length b5));have F:d (SchG ai S lo0 lo g L m n sc top (fun k=>if k=m then(fun x=>if x=s then z else L9 t r c m n s m x) else L9 t r c m n s k) (t.A m n) t.d t.bas t.oth st a steps):=(by rw[d,aE];exact F.out);have ak:d (Btw lo0 lo S W ai):=(by rw[d,aE];exact ak.out);rw[<-aE];clear aE H bm bi ao cx aG aH aI ac ad ae u0 u1 u2 dL bN;go_wp2_with fail;have a6:=F.out.tab.line s og (by rw[K3 J];omega);have a7:=F.out.tab.line r (oh v) (by rw[K3 v.out];omega);rw[K3 J] at a6;rw[K3 v.out] at a7;have fr:=F.out.tab.sep s og (by rw[K3 J];omega);have fs:=F.out.tab.sep r (oh v) (by rw[K3 v.out];omega)
    have nn:∀l,l<m->¬SN S lo ai (L.bk l):=fun l aC B=>by
     have G:=F.out.tab.sep l og (by rw[K3 aC];omega);rcases B with B|B
     ·exact G.2 B
     ·have:=B.1;omega
    have bP:NumS ai (SN S lo ai) (.slice D (A8 t.d).length ct) t.d:=by have:=IsK.stb.to cd.out (ak.out.same fun x B=>q (aT.out.tab.sS x B) T.out.2);rw[cg.out] at this;exact this
    have a3:=yfo a6 a7 (fun u=>dP.out (F.out.tab.inj r s (oh v) og (by rw[K3 v.out];omega) (by rw[K3 J];omega) u).symm) (fun b N=>⟨F.out.sn_lt b N,fun u=>nn s J (by rw[<-u];exact N),fun u=>nn r v.out (by rw[<-u];exact N)⟩) bP c7 P.out
     (fun j a4=>by
       refine⟨?_,?_⟩
       ·rw[zsm,if_neg og,ydj J];exact Q.out s j (Nat.le_of_lt J) (Nat.le_of_lt a4)
       ·rw[zsm,if_neg (oh v),zzf v.out];exact Q.out r j (Nat.le_of_lt v.out) (Nat.le_of_lt a4)) bp.out bE.out
    rw[<-cg.out] at a3;refine a3.mono ?_;clear a3 a6 a7 fr fs nn bP;rintro u dz ⟨rfl,ev,c4⟩
    have eY:=f (ev.mono (T:=SN S lo dz) fun x B=>by
     rcases B with B|B
     ·exact zrx c4.size x B
     ·exact .inr ⟨by have:=F.out.tab.hlo;have:=B.1;omega,B.2⟩)
    have dF:=f c4;clear ev c4;go_wp2_with fail;go_roundw;(case rel=>have c0:LineW dz (SN S lo dz) (L.bk s) (L.cp s) (M4 m n s) (zoj (if s=m then(fun x=>if x=s then z else L9 t r c m n s m x) else L9 t r c m n s s) (if r=m then(fun x=>if x=s then z else L9 t r c m n s m x) else L9 t r c m n s r) c t.d):=(by rw[K3 J];exact eY.out);have fh:=F.out.line og (by rw[K3 J];omega) dF.out c0;refine⟨s+1,J,by go_num,ak.out.step dF.out T.out.1 (fun x u=>by cases u;exact⟨(F.out.lS s og (by rw[K3 J];omega)).1,F.out.tab.sep s og (by rw[K3 J];omega)⟩),fh.nums fun l j _ _=> ?_⟩;rw[bn.out,zsm];exact yyy J dP.out v.out l j);case measure=>simp[intOf];omega
  ·obtain rfl:s=m:=og;obtain⟨bH,b4,bK,lF,-,aO,aP,bt,aW⟩:=I.out.el (l:=s+1) (j:=c) og (by rw[zke];exact P.out);rw[ydi] at aO aP aW;obtain⟨dT,eK,dU,eL,fw,fT,fG,fX,⟨cw,eA,-,-⟩,⟨-,-,-,-,aA⟩,⟨u0,u1,u2⟩,-,-⟩:=I.out.open;rw[bx.out.2.1] at aA;have ac:=cw.frozen 5;have ad:=cw.frozen 6;have ae:=cw.frozen 7;obtain⟨X,Y,al⟩:=C0 ec.out;obtain⟨aa,ab,ag⟩:=C0 dZ.out;obtain⟨av,au⟩:=C7 aW (IsQ.stb.to eA (G4 bD.out));obtain⟨b9,bZ⟩:=nm (decide (-(t.A s c)<0));obtain⟨ca,b1⟩:=nm ((A8 (-(t.A s c)).natAbs).length);obtain⟨em,bQ⟩:=nm (decide (t.A s n<0));obtain⟨en,bR⟩:=nm ((A8 (t.A s n).natAbs).length);rw[<-bZ] at aO av;rw[<-b1] at aP av;rw[<-bQ] at u0 au;rw[<-bR] at u1 au;rw[<-dQ.out] at bt av u2 au;have fa:n<=L.cp (s+1):=(by have:=(cc.out (s+1) og).1;rwa[zke] at this);have fb:L.cp (s+1)<=9223372036854775807:=(cc.out (s+1) og).2;obtain⟨ar,df,A,b8,-⟩:=J9 wr #[.bool b9,.slice bH ca b4,.slice bK aj lF] 30;obtain⟨b0,bO,b2⟩:=C0 b8;have bh:=f A;have cn:=nQ av A;have bJ:=nQ au A;have bM:=nQ dY A;have bL:=nQ dW A;have bC:=f (IsK.stb.next (IsK.stb.to dJ.out (G4 bD.out)) A);have dO:d (g<lo/\g<wr.heap.size):=⟨I.out.gS.2.1,I.out.g_lt⟩;obtain⟨K,E,ah⟩:=F0 (e b0 (e bO (e b2 (e (A9 A aa) (e (A9 A ab) (e (A9 A ag) (e (A9 A X) (e (A9 A Y) (A9 A al))))))))) (e (A9 A u0) (e (A9 A u1) (A9 A u2))) (e (J5 A u0 ac) (e (J5 A u1 ad) (J5 A u2 ae)));have aU:d (wr.heap.size≠g):=oH1 dO;have V:d (br≠g/\cW≠g):=oH2 dO bj;obtain⟨z,bY⟩:=nm (zlc (t.A s n) (t.A r c) (t.A s c) (t.A r n) t.d);have bn:=f bY;clear bY b8 A u0 u1 u2 ac ad ae X Y al aa ab ag b0 bO b2 aW cw eA bZ b1 bQ bR;go_wp2_with fail;clear df aO aP bt aA;obtain⟨u0,u1,u2⟩:=E.out;have H:=hs9 K.out.1 K.out.2.1 K.out.2.2.1 K.out.2.2.2.1 K.out.2.2.2.2.1 K.out.2.2.2.2.2.1 K.out.2.2.2.2.2.2.1 K.out.2.2.2.2.2.2.2.1 K.out.2.2.2.2.2.2.2.2;have bi:d (∀ay:World,Below ar.heap.size ar ay->Calls Tryz.prog 119 #[.agg #[.bool b9,.slice bH ca b4,.slice bK aj lF]] ay (K8 ay (((t.A s c:Int)):Rat))):=fun ay a0=>(by have h:=zrq (IsQ.stb.next cn.out a0) (by rw[Rat.intCast_neg];exact(Q.out s c (i _) (Nat.le_of_lt P.out)).neg) (show(((t.A s c:Int)):Rat)= -(((-(t.A s c):Int)):Rat) by rw[Rat.intCast_neg,Rat.neg_neg]);exact h);have bm:=hpV H (nA aU.out (nA aU.out (nA aU.out (nA V.out.1 (nA V.out.1 (nA V.out.1 (nA V.out.2 (nA V.out.2 (nZ V.out.2)))))))));refine wp_region_noPanic ?_;refine zld H fun af=> ?_;refine sT 0 90 ?_;refine sT 1 91 ?_;refine sT 2 92 ?_;refine sT 3 93 ?_;refine sT 4 94 ?_;refine sT 6 96 ?_;refine sT 7 97 ?_;refine sT 9 99 ?_;refine sT 10 100 ?_;refine wpAnyH_ready (rs:=[5,8]) kr (by simp) ?_;refine AllReadyH.cons rfl (fun M C=> ?_) ?_;go_simp;refine C.out _ _ (H.out _ bel) (fun af=> ?_);clear C M;refine sP ?_;refine wpAnyH_ready (rs:=[8]) kr (by simp) ?_;refine AllReadyH.cons rfl (fun M C=> ?_) AllReadyH.nil;go_simp;go_at_call 119;(with_reducible refine Calls.mono (bi.out _ bel) ?_)
   rintro u aJ ⟨⟨eR,rfl,ao⟩,cx⟩;have O:=bW ar aJ;obtain⟨bG,b3,bI,b5,rfl⟩:=zle ao;have cl:=f (IsQ.stb.old ao);have n0:=A9 O.out E.out.1;have eN:=A9 O.out E.out.2.1;have eO:=A9 O.out E.out.2.2;(focus go_wp2_with fail)
   refine C.out _ _ (H.out _ bel) (fun af=> ?_);clear C M;refine sP ?_;refine wpAnyH_ready (rs:=[11]) kr (by simp) ?_;refine AllReadyH.cons rfl (fun M C=> ?_) AllReadyH.nil;go_simp;have a1:=zwc (IsQ.stb.next bJ.out bel) (IsQ.stb.next bL.out bel) cl.out (IsQ.stb.next bM.out bel) (F7 (IsK.stb.next bC.out bel)) ((Q.out s n (i _) (i _)).le og) ((Q.out r c (Nat.le_of_lt v.out) (Nat.le_of_lt P.out)).le og) ((Q.out s c (i _) (Nat.le_of_lt P.out)).le og) ((Q.out r n (Nat.le_of_lt v.out) (i _)).le og) (o bp.out og) bE.out;rw[Rat.num_intCast,Rat.num_intCast,Rat.num_intCast,Rat.num_intCast,<-bn.out] at a1;(with_reducible refine Calls.mono a1 ?_)
   clear a1;rintro u bd ⟨⟨ft,rfl,bT⟩,eC⟩;have R:=bW ar bd;obtain⟨cj,cD,cm,cE,rfl⟩:=zle bT;have aG:=A9 R.out E.out.1;have aH:=A9 R.out E.out.2.1;have aI:=A9 R.out E.out.2.2;have ac:=J5 R.out E.out.1 ah.out.1;have ad:=J5 R.out E.out.2.1 ah.out.2.1;have ae:=J5 R.out E.out.2.2 ah.out.2.2;(focus go_wp2_with fail)
   refine C.out _ _ (H.out _ bel) (fun af=> ?_);clear C M;refine sP ?_;refine sT 12 102 ?_;refine sT 13 103 ?_;refine sT 14 104 ?_;refine wpAnyH_ready (rs:=[15]) kr (by simp) ?_;refine AllReadyH.cons rfl (fun M C=> ?_) AllReadyH.nil;go_simp;refine C.out _ _ (bm.out _ bel _ _ _) (fun af=> ?_);clear C M;refine sP ?_;refine wpAnyH_done kr ?_ _;refine NoPanic.normal ?_;rotate_left 1;refine AllReadyH.cons rfl (fun M C=> ?_) ?_;go_simp;go_at_call 119;(with_reducible refine Calls.mono (bi.out _ bel) ?_)
   rintro u aJ ⟨⟨eR,rfl,ao⟩,cx⟩;have O:=bW ar aJ;obtain⟨bG,b3,bI,b5,rfl⟩:=zle ao;have cl:=f (IsQ.stb.old ao);have n0:=A9 O.out E.out.1;have eN:=A9 O.out E.out.2.1;have eO:=A9 O.out E.out.2.2;(focus go_wp2_with fail)
   refine C.out _ _ (H.out _ bel) (fun af=> ?_);clear C M;refine sP ?_;refine wpAnyH_ready (rs:=[5]) kr (by simp) ?_;refine AllReadyH.cons rfl (fun M C=> ?_) AllReadyH.nil;go_simp;refine C.out _ _ (H.out _ bel) (fun af=> ?_);clear C M;refine sP ?_;refine wpAnyH_ready (rs:=[11]) kr (by simp) ?_;refine AllReadyH.cons rfl (fun M C=> ?_) AllReadyH.nil;go_simp;have a1:=zwc (IsQ.stb.next bJ.out bel) (IsQ.stb.next bL.out bel) cl.out (IsQ.stb.next bM.out bel) (F7 (IsK.stb.next bC.out bel)) ((Q.out s n (i _) (i _)).le og) ((Q.out r c (Nat.le_of_lt v.out) (Nat.le_of_lt P.out)).le og) ((Q.out s c (i _) (Nat.le_of_lt P.out)).le og) ((Q.out r n (Nat.le_of_lt v.out) (i _)).le og) (o bp.out og) bE.out;rw[Rat.num_intCast,Rat.num_intCast,Rat.num_intCast,Rat.num_intCast,<-bn.out] at a1;(with_reducible refine Calls.mono a1 ?_)
   clear a1;rintro u bd ⟨⟨ft,rfl,bT⟩,eC⟩;have R:=bW ar bd;obtain⟨cj,cD,cm,cE,rfl⟩:=zle bT;have aG:=A9 R.out E.out.1;have aH:=A9 R.out E.out.2.1;have aI:=A9 R.out E.out.2.2;have ac:=J5 R.out E.out.1 ah.out.1;have ad:=J5 R.out E.out.2.1 ah.out.2.1;have ae:=J5 R.out E.out.2.2 ah.out.2.2;(focus go_wp2_with fail)
   refine C.out _ _ (H.out _ bel) (fun af=> ?_);clear C M;refine sP ?_;refine sT 12 102 ?_;refine sT 13 103 ?_;refine sT 14 104 ?_;refine wpAnyH_ready (rs:=[15]) kr (by simp) ?_;refine AllReadyH.cons rfl (fun M C=> ?_) AllReadyH.nil;go_simp;refine C.out _ _ (bm.out _ bel _ _ _) (fun af=> ?_);clear C M;refine sP ?_;refine wpAnyH_done kr ?_ _;refine NoPanic.normal ?_;rotate_left 1;exact AllReadyH.nil
   all_goals
    have bN:=f (I.out.next (C8 bh.out R.out))
    have dM:d (IsQ bd (SN S lo bd) (.agg #[.bool (decide (z<0)),.slice cj (A8 z.natAbs).length cD,.slice cm (A8 1).length cE]) ((z:Int):Rat)):=IsQ.stb.to bT (G4 fun b N=> .inr ⟨by have G:=I.out.tab.hlo;have an:=bh.out.size;have aZ:=O.out.size;have cu:=N.1;(try simp at cu);omega,N.2⟩)
    obtain⟨F,ak⟩:=C7 (bN.out.value dM.out) ((bA.out.below (C8 bh.out R.out) T.out.1).step (ybz bd g (.bool (decide (z<0))) (.slice cj (A8 z.natAbs).length cD) (.slice cm (A8 1).length cE)) T.out.1 fun x u=>by cases u;exact I.out.gS)
    obtain⟨ai,aE⟩:=nm (((bd.setCell ⟨g,5,none⟩ (.bool (decide (z<0)))).setCell ⟨g,6,none⟩ (.slice cj (A8 z.natAbs).length cD)).setCell ⟨g,7,none⟩ (.slice cm (A8 1).length cE))
    have F:d (SchG ai S lo0 lo g L s n sc top (L9 t r c s n s) z t.d t.bas t.oth st a steps):=by rw[d,aE];exact F.out
    have ak:d (Btw lo0 lo S W ai):=by rw[d,aE];exact ak.out
    rw[<-aE]
    clear aE H bm bi ao cx bT eC aG aH aI ac ad ae u0 u1 u2 dM bN cl O R n0 eN eO E ah K cn bJ bM bL bC
    obtain⟨-,-,-,-,-,-,-,-,-,⟨-,-,-,-,aA⟩,-,-,-⟩:=F.out.open
    rw[bx.out.2.1] at aA
    go_wp2_with fail
    clear aA
    have a6:=F.out.tab.line (s+1) og (by rw[zke];omega)
    have a7:=F.out.tab.line r (oh v) (by rw[K3 v.out];omega)
    rw[zke] at a6
    rw[K3 v.out] at a7
    have nn:∀l,l<s+2->1<=M4 s n l->¬SN S lo ai (L.bk l):=fun l aC fg B=>by
     have G:=F.out.tab.sep l aC fg
     rcases B with B|B
     ·exact G.2 B
     ·have:=B.1;omega
    have bP:NumS ai (SN S lo ai) (.slice D (A8 t.d).length ct) t.d:=by
     have:=IsK.stb.to cd.out (ak.out.same fun x B=>q (aT.out.tab.sS x B) T.out.2)
     rw[cg.out] at this
     exact this
    have a3:=yfo a6 a7 (fun u=>by have:=F.out.tab.inj r (s+1) (oh v) og (by rw[K3 v.out];omega) (by rw[zke];omega) u;have:=v.out;omega) (fun b N=>⟨F.out.sn_lt b N,fun u=>nn (s+1) og (by rw[zke];omega) (by rw[<-u];exact N),fun u=>nn r (oh v) (by rw[K3 v.out];omega) (by rw[<-u];exact N)⟩) bP c7 P.out
     (fun j a4=>⟨by rw[ydi,Rat.intCast_neg];exact(Q.out s j (i _) (Nat.le_of_lt a4)).neg,by rw[zzf v.out];exact Q.out r j (Nat.le_of_lt v.out) (Nat.le_of_lt a4)⟩) bp.out bE.out
    rw[<-cg.out] at a3
    refine a3.mono ?_
    clear a3 a6 a7 nn bP
    rintro u be ⟨rfl,ew,cy⟩
    have dK:d (LineW be (SN S lo be) (L.bk (s+1)) (L.cp (s+1)) n (zoj (L9 t r c s n s (s+1)) (L9 t r c s n s r) c t.d)):=ew.mono fun x B=>by
     rcases B with B|B
     ·exact zrx cy.size x B
     ·exact .inr ⟨by have:=F.out.tab.hlo;have:=B.1;omega,B.2⟩
    have aM:d (SchG be S lo0 lo g L s n sc top (fun k=>if k=s+1 then zoj (L9 t r c s n s (s+1)) (L9 t r c s n s r) c t.d else L9 t r c s n s k) z t.d t.bas t.oth st a steps):=by
     have c0:LineW be (SN S lo be) (L.bk (s+1)) (L.cp (s+1)) (M4 s n (s+1)) (zoj (L9 t r c s n s (s+1)) (L9 t r c s n s r) c t.d):=by rw[zke];exact dK.out
     exact F.out.line og (by rw[zke];omega) cy c0
    have cJ:=f (ak.out.step cy T.out.1 (fun x u=>by cases u;exact⟨(F.out.lS (s+1) og (by rw[zke];omega)).1,F.out.tab.sep (s+1) og (by rw[zke];omega)⟩))
    clear ew cy dK F ak
    go_wp2_with fail
    have eu:IsN be 0 be.heap.size (.slice D eM ct) t.d:=F7 (IsK.stb.to (IsK.stb.to cd.out (cJ.out.same fun x B=>q (aT.out.tab.sS x B) T.out.2)) (G4 aM.out.sn_lt))
    obtain⟨y,di⟩:=nm (((t.d:Nat):Int):Int)
    have eZ:=f di
    have de:=yem eu (o bp.out og)
    rw[<-di] at de
    clear di
    refine de.mono ?_
    clear de
    clear eu
    rintro u cG ⟨⟨gp,rfl,da⟩,aB⟩
    obtain⟨cP,dq,cR,ds,rfl⟩:=zle da
    obtain⟨fz,gl,fE,gn,-,aG,aH,aI,-⟩:=aM.out.el (l:=r) (j:=c) (oh v) (by rw[K3 v.out];exact P.out)
    have cz:=aM.out.tab.line r (oh v) (by rw[K3 v.out];omega)
    have ac:=J5 aB aG cz.free
    have ad:=J5 aB aH cz.free
    have ae:=J5 aB aI cz.free
    replace aG:=A9 aB aG
    replace aH:=A9 aB aH
    replace aI:=A9 aB aI
    have dN:d (IsQ cG (SN S lo cG) (.agg #[.bool (decide (y<0)),.slice cP (A8 y.natAbs).length dq,.slice cR (A8 1).length ds]) ((y:Int):Rat)):=IsQ.stb.to da (G4 fun b N=> .inr ⟨o aM.out.tab.hlo N.1,N.2⟩)
    obtain⟨U,bB⟩:=C7 ((aM.out.next aB).putL (l:=r) (j:=c) (oh v) (by rw[K3 v.out];exact P.out) dN.out) ((cJ.out.below aB T.out.1).step (zmr (c:=L.bk r) (j:=c) (x:= .bool (decide (y<0))) (y:= .slice cP (A8 y.natAbs).length dq) (z:= .slice cR (A8 1).length ds) (J0 cG _)) T.out.1 fun x u=>by cases u;exact⟨(aM.out.lS r (oh v) (by rw[K3 v.out];omega)).1,aM.out.tab.sep r (oh v) (by rw[K3 v.out];omega)⟩)
    clear da aB cz aM cJ dN
    obtain⟨aK,bX⟩:=nm (((cG.setCell ⟨L.bk r,c*3,none⟩ (.bool (decide (y<0)))).setCell ⟨L.bk r,c*3+1,none⟩ (.slice cP (A8 y.natAbs).length dq)).setCell ⟨L.bk r,c*3+2,none⟩ (.slice cR (A8 1).length ds))
    have U:d (SchG aK S lo0 lo g L s n sc top (zkb (zqb t r c) s n) z t.d t.bas t.oth st a steps):=by
     rw[d,bX]
     exact U.out.nums fun l j aC a4=>by
      rw[eZ.out,zsm,zsm,zsm]
      exact yyv v.out P.out aC a4
    have bB:d (Btw lo0 lo S W aK):=by rw[d,bX];exact bB.out
    have e4:=bB.out.row cU.out bj.out.1
    have dX:=f (IsQ.stb.to dV.out (bB.out.same fun x B=>q (aT.out.tab.sS x B) T.out.2))
    obtain⟨e1,fo,e2,fp,fx,fU,e7,e9,⟨c1,eB,-,ez⟩,⟨aX,aY,-,-,-⟩,-,⟨aQ,-,-⟩,-⟩:=U.out.open
    have dE:=c1.frozen 8
    obtain⟨eP,eQ,fq⟩:=C0 e4
    have dI:d (NumS aK (SN S lo aK) (.slice aV bw a5) (t.A r c).natAbs):=by
     have:=zls dX.out
     rwa[Rat.num_intCast] at this
    rw[bx.out.2.2.1] at aX
    rw[bx.out.2.2.2.1] at aY
    have dm:=(U.out.basW og).2
    have dp:=(U.out.othW og).2
    have cX:=dm.el r v.out
    have cY:=dp.el c P.out
    have eo:aK.frozen? ⟨L.bb,r,none⟩=false:=dm.free
    have ep:aK.frozen? ⟨L.ob,c,none⟩=false:=dp.free
    obtain⟨fu,db⟩:=nm (t.bas.getD r 0)
    obtain⟨dx,dc⟩:=nm (t.oth.getD c 0)
    rw[<-db] at cX
    rw[<-dc] at cY
    obtain⟨ch,cf⟩:=C7 (e db dc) (e c1 (e eB ez))
    have fj:g≠L.bb:=Ne.symm (U.out.bS og).2.2.2
    have fk:g≠L.ob:=Ne.symm (U.out.oS og).2.2.2
    have fi:L.bb≠L.ob:=U.out.bo og og
    have a2:br≠g/\br≠L.bb/\br≠L.ob:=by
     have G:=bj.out.1
     have an:=(U.out.bS og).2.1
     have aZ:=(U.out.oS og).2.1
     have cu:=U.out.gS.2.1
     exact⟨by omega,by omega,by omega⟩
    obtain⟨aq,aD⟩:=nm (aK.setCell ⟨g,8,none⟩ (.slice aV bw a5))
    have cv:∀b a8,b≠g->aq.cell? ⟨b,a8,none⟩=aK.cell? ⟨b,a8,none⟩:=fun b a8 N=>by rw[aD];exact p _ _ _ _ (fun u=>by injection u with G an;exact N G.symm)
    have X:aq.cell? ⟨g,0,none⟩=some (.slice (some ⟨L.bb,0,none⟩) s L.bc):=by rw[aD,p _ _ _ _ (fun u=>by injection u with G an;omega)];exact aX
    have Y:aq.cell? ⟨g,1,none⟩=some (.slice (some ⟨L.ob,0,none⟩) n L.oc):=by rw[aD,p _ _ _ _ (fun u=>by injection u with G an;omega)];exact aY
    have e8:=(cv _ r (Ne.symm fj)).trans cX
    have eh:=(cv _ c (Ne.symm fk)).trans cY
    have bq:=(cv _ 0 a2.1).trans eP
    have fe:aq.frozen? ⟨L.bb,r,none⟩=false:=by rw[aD];simpa using eo
    have ff:aq.frozen? ⟨L.ob,c,none⟩=false:=by rw[aD];simpa using ep
    have cK:d (aK.grownBy aq (some g)):=by rw[d,aD];exact K0 _ _ _ _
    have aN:d (SchG aq S lo0 lo g L s n sc top (zkb (zqb t r c) s n) z (t.A r c).natAbs t.bas t.oth st a steps):=by
     have bv:=U.out.same cK.out fun b u=>by cases u;exact U.out.gS.2
     refine U.out.cells cK.out ⟨e1,fo,e2,fp,aV,a5,e7,e9,?_,IsQ.stb.to cf.out.2.1 bv,?_,IsK.stb.to cf.out.2.2 bv⟩
     ·have G:=cf.out.1.set_ 8 (.slice aV bw a5)
      rw[<-aD,dS.out] at G
      exact G
     ·have G:=IsK.stb.to dI.out bv
      rw[dS.out] at G
      exact G
    have eS:=f (bB.out.step cK.out T.out.1 fun x u=>by cases u;exact U.out.gS)
    rw[bX] at eQ aQ dE
    clear c1 eB ez dm dp cv db dc cX cY eo ep dI dX cf aX aY eP fq
    go_wp2_with fail
    rw[<-bX,<-aD]
    clear bX aD dE aQ eQ aG aH aI ac ad ae
    obtain⟨aS,bV⟩:=nm ((aq.setCell ⟨L.bb,r,none⟩ (.int .i64 ((dx:Nat):Int))).setCell ⟨L.ob,c,none⟩ (.int .i64 ((fu:Nat):Int)))
    have ee:d (T3 aS S lo0 lo g L s n sc top (zqb t r c) st a steps):=by
     have G:=aN.out.ints v.out P.out
     rw[<-ch.out.1,<-ch.out.2,<-bV] at G
     have u:z=(zqb t r c).A s n:=by
      rw[bn.out]
      show _=zli t.A t.d r c s n
      unfold zli
      rw[if_neg (oh v),if_neg (oh P)]
     rw[u] at G
     rw[ch.out.1,ch.out.2] at G
     exact G
    have er:∀b a8,b≠L.bb->b≠L.ob->aS.cell? ⟨b,a8,none⟩=aq.cell? ⟨b,a8,none⟩:=fun b a8 G an=>by
     rw[bV,p _ _ _ _ (fun u=>by injection u with aZ cu;exact an aZ.symm),p _ _ _ _ (fun u=>by injection u with aZ cu;exact G aZ.symm)]
    have ei:=(er _ 0 a2.2.1 a2.2.2).trans bq
    have eT:d (Btw lo0 lo S W aS):=by
     rw[d,bV]
     refine(eS.out.step (K0 _ _ _ _) T.out.1 fun x u=> ?_).step (K0 _ _ _ _) T.out.1 fun x u=> ?_
     ·cases u;exact⟨(aN.out.bS og).1,(aN.out.bS og).2.1,(aN.out.bS og).2.2.1⟩
     ·cases u;exact⟨(aN.out.oS og).1,(aN.out.oS og).2.1,(aN.out.oS og).2.2.1⟩
    have eU:d (Btw lo0 lo S w aS):=(((Btw.refl lo0 lo S w).below bg.out aL.out.1).trans eT.out)
    have fc:(aq.setCell ⟨L.bb,r,none⟩ (.int .i64 ((dx:Nat):Int))).cell? ⟨L.ob,c,none⟩=some (.int .i64 ((dx:Nat):Int)):=by
     rw[p _ _ _ _ (fun u=>by injection u with G an;exact fi G)];exact eh
    clear er
    go_region
    rw[<-bV]
    obtain⟨fv,dd⟩:=nm (aS.drew)
    have cb:Below aS.heap.size aS fv:=by rw[dd];exact L8 aS
    obtain⟨eg,dD⟩:=C7 (ee.out.next cb) (eU.out.below cb aL.out.1)
    have fH:=A9 cb ei
    rw[<-dd]
    clear bV dd ei cb ee aN fc bq e8 eh X Y fe ff
    cases cH with
    |false=>
     go_wp2_with fail
     refine bodyPost_end (results_none rfl _ _ _) rfl ?_
     rw[<-yzc (of_decide_eq_false dR.out.symm)]
     exact⟨rfl,eg.out,dD.out⟩
    |true=>
     go_wp2_with fail
     refine(zz1439 eg.out fl c7 (yzd e0.out)).mono ?_
     rintro u gq ⟨rfl,ey,et⟩
     have ed:=f (e ey et)
     clear ey et
     go_wp2_with fail
     refine bodyPost_end (results_none rfl _ _ _) rfl ?_
     rw[<-yzb (of_decide_eq_true dR.out.symm)]
     exact⟨rfl,ed.out.1,dD.out.trans ed.out.2⟩
theorem zz1434 {z:Int} {a:Nat} (h:z.natAbs<=a) (hF:(A8 a).length<=k) (b:1<=k):Sz ((z:Int):Rat) k:=by
 refine⟨?_,?_⟩
 ·rw[Rat.num_intCast];exact o (zkn h) hF
 ·rw[Rat.den_intCast,zlg];exact b
theorem TInv.sz (h:TInv M m n t) (hF:(A8 (M3 M (m+1))).length<=k) (b:1<=k):(∀a j,a<=m->j<=n->Sz ((t.A a j:Int):Rat) k)/\(A8 t.d).length<=k:=
 ⟨fun a j c d=>zz1434 (h.small.2 a j c d) hF b,o (zkn h.small.1) hF⟩
theorem ykb {w:World} {st:Int} (h:T3 w S lo0 lo g L m n sc top t st a steps) (b:TInv M m n t) (hr:r<m) (hc:c<n) (i:t.A r c≠0) (e:m<=100) (f:n<=100) (hF:(A8 (M3 M (m+1))).length<=100000):
 Calls Tryz.prog 55 #[.pointer (some ⟨g,0,none⟩),.int .i64 (r:Int),.int .i64 (c:Int)] w fun d w'=>d= .returned (.tuple #[])/\T3 w' S lo0 lo g L m n sc top (U4 t r c) st a steps/\Btw lo0 lo S w w':=
 zz1451 h hr hc e f (b.sz hF og).1 ((b.piv hr hc i).sz hF og).1 (b.sz hF og).2 b.d0
def zse (S:Nat->Prop) (lo0 lo g:Nat) (L:Lay) (m n:Nat) (sc:Nat->Nat) (top M:Nat) (b:Dic) (st a steps:Int) (c:World) (t:TB) (w:World):Prop:=
 T3 w S lo0 lo g L m n sc top t st a steps/\OkT M m n sc top b t/\Btw lo0 lo S c w
theorem yml (a:zom m n t=some r) (b:zpc n t r=some c):zkv m n t=some (U4 t r c):=by unfold zkv;rw[a];show(match zpc n t r with|none=>none|some c=>some (U4 t r c))=_;rw[b]
theorem zz1374 {w:World} {j:Dic} {st:Int} (h:T3 w S lo0 lo g L m n sc top t st a steps) (I:OkT M m n sc top j t) (B:m<=100) (C:n<=100) (hF:(A8 (M3 M (m+1))).length<=100000) (N:∀Y,0<sc Y) (O:0<top):
 Calls Tryz.prog 90 #[.pointer (some ⟨g,0,none⟩)] w fun x w'=>∃b,x= .returned (.int .i64 (N7 (zom m n b)))/\(zom m n b=none\/∃r,zom m n b=some r/\zpc n b r=none)/\zse S lo0 lo g L m n sc top M j st a steps w b w':=by
 obtain⟨Q,T,U⟩:=F0 hF N O;have R:d (zse S lo0 lo g L m n sc top M j st a steps w t w):=⟨h,I,Btw.refl _ _ _ _⟩;have D:d (lo0<=w.heap.size):=o h.gS.1 (Nat.le_of_lt h.g_lt);clear h I hF N O;go_in;go_wp2_with fail;go_loopw [3,4] (fun _ _ wr=>∃b,zse S lo0 lo g L m n sc top M j st a steps w b wr) (fun _ _ wr=>leastM (fun b=>zse S lo0 lo g L m n sc top M j st a steps w b wr) (leftO (zkv m n)));case atStart=>exact⟨t,R.out⟩
 case round=>
  obtain⟨s,K,H⟩:=yiv (μ:=leftO (zkv m n)) hrel;obtain⟨u,V⟩:=C7 K H;clear hrel K H;have ab:=N9;go_wp2_with fail;refine(yxf u.out.1 B C).mono ?_;rintro x Z ⟨rfl,y⟩;have p:d (zse S lo0 lo g L m n sc top M j st a steps w s Z):=⟨u.out.1.next y,u.out.2.1,u.out.2.2.below y D.out⟩;clear y;cases i:zom m n s with
  |none=>have A:N7 (none:Option Nat)= -1:=rfl;rw[A];have k:=f i;clear i;go_wp2_with fail;go_ret;exact⟨s,by rw[k.out];rfl,.inl k.out,p.out⟩
  |some r=>
   have J:r<m:=(zmq i).1;have W:N7 (some r)=(r:Int):=rfl;rw[W];have ag:decide ((r:Int)<0)=false:=decide_eq_false og;obtain⟨k,E⟩:=C7 i J;clear i J;go_wp2_with fail;refine(yug E.out p.out.1 B C).mono ?_;rintro x aa ⟨rfl,z⟩;have q:d (zse S lo0 lo g L m n sc top M j st a steps w s aa):=⟨p.out.1.next z,p.out.2.1,p.out.2.2.below z D.out⟩;clear z;cases v:zpc n s r with
   |none=>have A:N7 (none:Option Nat)= -1:=rfl;rw[A];have l:=f v;clear v;go_wp2_with fail;go_ret;exact⟨s,by rw[k.out];rfl,.inr ⟨r,k.out,l.out⟩,q.out⟩
   |some c=>obtain⟨G,i,_⟩:=zmq v;have i:s.A r c<0:=of_decide_eq_true i;have X:N7 (some c)=(c:Int):=rfl;rw[X];have af:decide ((c:Int)<0)=false:=decide_eq_false og;have l:=f (e v (e G i));clear v G i;go_wp2_with fail;refine(ykb q.out.1 q.out.2.1.inv E.out l.out.2.1 (by have:=l.out.2.2;omega) B C Q.out).mono ?_;rintro x P ⟨rfl,zlz,F⟩;have S3:d (zse S lo0 lo g L m n sc top M j st a steps w (U4 s r c) P):=⟨zlz,q.out.2.1.rep T.out U.out (yml k.out l.out.1),q.out.2.2.trans F⟩;clear zlz F;go_wp2_with fail;go_roundw;(case rel=>exact⟨_,S3.out⟩);case measure=>have ac:=yiw (J:=fun b=>zse S lo0 lo g L m n sc top M j st a steps w b P) (μ:=leftO (zkv m n)) S3.out;have ad:=(yiz (yue u.out.2.1.inv) (yml k.out l.out.1)).2;have ae:=V.out;omega
theorem yvx {l:List Value} (h:l.length=3):∃a b c,l=[a,b,c]:=by
 match l,h with
 |[a,b,c],_=>exact⟨a,b,c,rfl⟩
theorem ypz {g:List Value} (h:Wid 3 g) (m:j<g.length) (x y z:Value):cellsOf (g.set j (.agg #[x,y,z]))=(((cellsOf g).set (j*3) x).set (j*3+1) y).set (j*3+2) z:=by
 induction g generalizing j with
 |nil=>simp at m
 |cons k g ih=>
  obtain⟨r,s⟩:=h.cons;obtain⟨a,b,c,hv⟩:=yvx (l:=k.cells.toList) (by rw[Array.length_toList,r]);have l:cellsOf (k::g)=a::b::c::cellsOf g:=(by simp[cellsOf,hv]);cases j with
  |zero=>rw[l,List.set_cons_zero];simp[cellsOf,Value.cells]
  |succ j=>have n:cellsOf (k::g.set j (.agg #[x,y,z]))=a::b::c::cellsOf (g.set j (.agg #[x,y,z])):=(by simp[cellsOf,hv]);rw[List.set_cons_succ,l,n,ih s (by simpa using m),show(j+1)*3=j*3+1+1+1 by omega,show j*3+1+1+1+1=j*3+1+1+1+1 from rfl];simp only[List.set_cons_succ]
theorem OwnS.set3 {i:Type} {t:TypeId} {R:World->(Nat->Prop)->Value->i->Prop} (o:Stb R) {w:World} {cap:Nat} {l:List i} (h:OwnS 3 t R w base S (.slice (some ⟨g,0,none⟩) l.length cap) l) (C:j<l.length) {x y z:Value} {r:i} (v:R w S (.agg #[x,y,z]) r):
 OwnS 3 t R (N8 w g j x y z) base S (.slice (some ⟨g,0,none⟩) (l.set j r).length cap) (l.set j r):=by
 obtain⟨k,u,m,n,f⟩:=h;have p:L6 S S w (N8 w g j x y z):=fun b c=>⟨c,fun E=>zqc (.inl fun d=>(f b c).2 (by rw[d];rfl))⟩;have D:(l.set j r).length=l.length:=List.length_set;have B:k.length=l.length:=n.1;refine⟨k.set j (.agg #[x,y,z]),?_,?_,⟨by rw[List.length_set,List.length_set];exact B,fun s a b ha c=> ?_⟩,fun b c=>⟨by rw[zqw];exact(f b c).1,fun d=>(f b c).2 (by rw[d];rfl)⟩⟩
 ·rw[D,ypz m og];exact(((u.stored (j*3) x).1.stored (j*3+1) y).1.stored (j*3+2) z).1
 ·intro d A;rcases List.mem_or_eq_of_mem_set A with e|e
  ·exact m d e
  ·rw[e];rfl
 ·by_cases q:j=s
  ·subst q;rw[List.getElem?_set_self og] at ha;rw[List.getElem?_set_self C] at c;cases ha;cases c;exact o.to v p
  ·rw[List.getElem?_set_ne q] at ha c;exact o.to (n.2 s a b ha c) p
def K1 (N off:Nat) (b0:Nat->Rat) (key:Nat->Nat) (X:Nat->Rat) (k:Nat):List Rat:=T8 N fun b=>b0 b+C6 k fun a=>if key a=off+b then X a else 0
theorem znr (N off:Nat) (b0:Nat->Rat) (key:Nat->Nat) (X:Nat->Rat) (k:Nat):(K1 N off b0 key X k).length=N:=zvm _ _
theorem zvg (N off:Nat) (b0:Nat->Rat) (key:Nat->Nat) (X:Nat->Rat):K1 N off b0 key X 0=T8 N b0:=by unfold K1;congr 1;funext v;simp only[C6];grind
theorem yek (N:Nat):T8 N (fun _=>0)=List.replicate N 0:=by
 unfold T8;apply List.ext_getElem
 ·simp
 ·intro c a b;simp
theorem zvf {X:Nat->Rat} (h:key k<off\/off+N<=key k):K1 N off b0 key X (k+1)=K1 N off b0 key X k:=by unfold K1 T8;refine List.map_congr_left fun a hv=> ?_;have:=List.mem_range.1 hv;rw[C6,if_neg og];grind
theorem zve {X:Nat->Rat} (j:off<=key k) (l:key k<off+N) (f:∀a,a<k->key a≠key k) (g:b0 (key k-off)=0):K1 N off b0 key X (k+1)=(K1 N off b0 key X k).set (key k-off) (X k):=by
 apply List.ext_getElem?;intro b;rw[List.getElem?_set,znr];by_cases hv:b<N
 ·have d:(K1 N off b0 key X (k+1))[b]? =some (b0 b+C6 (k+1) fun a=>if key a=off+b then X a else 0):=yag hv;have e:(K1 N off b0 key X k)[b]? =some (b0 b+C6 k fun a=>if key a=off+b then X a else 0):=yag hv;rw[d];by_cases c:key k-off=b
  ·rw[if_pos c,if_pos og,C6,if_pos og,zlk fun a h=>if_neg fun i=>f a h og,<-c,g];congr 1;grind
  ·rw[if_neg c,e,C6,if_neg og];congr 1;grind
 ·have d:(K1 N off b0 key X (k+1))[b]? =none:=List.getElem?_eq_none (by rw[znr];omega);have e:(K1 N off b0 key X k)[b]? =none:=List.getElem?_eq_none (by rw[znr];omega);rw[d,if_neg og,e]
theorem yib (h:b<off\/off+N<=b):List.replicate N (0:Rat)=T8 N fun a=>if b=off+a then 1 else 0:=by rw[<-yek];unfold T8;refine List.map_congr_left fun a hv=> ?_;have:=List.mem_range.1 hv;rw[if_neg og]
theorem yic (h:off<=b) (e:b<off+N):(List.replicate N (0:Rat)).set (b-off) (((1:Nat):Int):Rat)=T8 N fun a=>if b=off+a then 1 else 0:=by
 apply List.ext_getElem?;intro a;rw[List.getElem?_set,List.length_replicate];by_cases hv:a<N
 ·have c:(T8 N fun a=>if b=off+a then(1:Rat) else 0)[a]? =some (if b=off+a then 1 else 0):=yag hv;rw[c];by_cases d:b-off=a
  ·rw[if_pos d,if_pos og,if_pos og];rfl
  ·rw[if_neg d,if_neg og,List.getElem?_replicate,if_pos hv]
 ·have c:(T8 N fun a=>if b=off+a then(1:Rat) else 0)[a]? =none:=List.getElem?_eq_none (by rw[zvm];omega);rw[c,if_neg og,List.getElem?_replicate,if_neg hv]
theorem zz1358 (l:List Rat) (j:Nat) (q:Rat):C4 (l.set j q)=(C4 l).set j (E0 q):=by unfold C4;rw[List.map_set]
theorem zqx (l:List Rat):(C4 l).length=l.length:=by simp[C4]
theorem zsr {w:World} {a cap:Nat} (h:OwnS 3 30 IsR w base S (.slice (some ⟨a,0,none⟩) N cap) (C4 l)) (c:l.length=N) (e:j<N) {x y z:Value} {q:Rat} (d:IsQ w S (.agg #[x,y,z]) q):
 OwnS 3 30 IsR (N8 w a j x y z) base S (.slice (some ⟨a,0,none⟩) N cap) (C4 (l.set j q)):=by have b:(C4 l).length=N:=(by rw[zqx,c]);rw[<-b] at h;have:=OwnS.set3 IsR.stb h (j:=j) (by rw[b];exact e) d;rw[<-zz1358,zqx,List.length_set,c] at this;exact this
theorem zsq {w:World} {cap:Nat} {A:Option Addr} (h:OwnS 3 30 IsR w base S (.slice A N cap) (C4 l)) (m:l.length=N) (v:j<N):
 ∃a,A=some ⟨a,0,none⟩/\base<=a/\a<w.heap.size/\N<=cap/\cap<=9223372036854775807/\(∀o,w.frozen? ⟨a,o,none⟩=false)/\∃x y z,w.cell? ⟨a,j*3,none⟩=some x/\w.cell? ⟨a,j*3+1,none⟩=some y/\w.cell? ⟨a,j*3+2,none⟩=some z:=by have B:C4 l≠[]:=fun d=>(by have:=congrArg List.length d;rw[zqx,m] at this;simp at this;omega);obtain⟨b,c,E,G,d,p,e,n,s,f,g,t,-,-⟩:=h.shape B;simp only[Value.slice.injEq] at d;obtain⟨rfl,F,rfl⟩:=d;obtain⟨r,hr⟩:∃r,(C4 l)[j]? =some r:=⟨_,List.getElem?_eq_getElem (by rw[zqx,m];exact v)⟩;obtain⟨d,i,u⟩:=t.get hr;obtain⟨C,k,D,q,rfl,_,_⟩:=u;refine⟨b,rfl,p,(Array.getElem?_eq_some_iff.1 e).1,by rw[zqx,m] at n;exact n,by unfold maxLen at s;omega,fun o=>by simp[World.frozen?,e],_,_,_,zrh e f (znv g (i:=0) i rfl),zrh e f (znv g (i:=1) i rfl),zrh e f (znv g (i:=2) i rfl)⟩
structure ScOk (sc:Nat->Nat) (top:Nat):Prop where
 sl:∀v,(A8 (sc v)).length<=100000
 sp:∀v,0<sc v
 tl:(A8 top).length<=100000
 tp:0<top
theorem ztx {z:Int} (h:Sz ((z:Int):Rat) 100000):(A8 z.natAbs).length<=100000:=by have a:=h.1;rwa[Rat.num_intCast] at a
end Go.Proofs.YtlhhbccgfkhflaaGreatDoor
