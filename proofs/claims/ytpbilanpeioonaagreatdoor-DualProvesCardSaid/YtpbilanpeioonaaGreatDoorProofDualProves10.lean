/-
 The contract of package simplex's (*table).pivot.
-/
import Derived.Test.YtpbilanpeioonaaGreatDoorProofDualProves09
import Derived.Laws.OwnMore
namespace Go.Proofs.YtpbilanpeioonaaGreatDoor
open Go.RowKit
set_option linter.unusedVariables false
set_option maxRecDepth 100000
set_option maxHeartbeats 8000000
open _root_.Go.Lib renaming hid → e
open _root_.Nat renaming le_refl → i, le_trans → o, lt_of_lt_of_le → q
open _root_.Go.World renaming cell?_setCell_other → p
open _root_.And renaming intro → d
open _root_.Go.RowKit renaming Hid → a
variable {L : Lay} {M N b base c g j k lo lo0 m n off r top : Nat} {S : Nat → Prop} {b0 : Nat → Rat} {f steps : Int} {key sc : Nat → Nat} {l : List Rat} {t : TB}
theorem zz1494 {w:World} {st:Int} (h:U8 w S lo0 lo g L m n sc top t st f steps) (hr:r<m) (hc:c<n) (fk:m<=100) (c6:n<=100) (bv:∀s j,s<=m->j<=n->Sz ((t.A s j:Int):Rat) 100000)
 (zpp:∀s j,s<=m->j<=n->Sz ((znz t.A t.d r c s j:Int):Rat) 100000) (eD:(A9 t.d).length<=100000) (eC:0<t.d):
 Calls Tryz.prog 63 #[.pointer (some ⟨g,0,none⟩),.int .i64 (r:Int),.int .i64 (c:Int)] w fun u w'=>u= .returned (.tuple #[])/\U8 w' S lo0 lo g L m n sc top (W7 t r c) st f steps/\Btw lo0 lo S w w':=by
 obtain⟨aT,Q,eZ,bp,bE,v,P⟩:=hd7 h bv zpp eD eC hr hc;have aL:a (lo0<=w.heap.size/\lo<=w.heap.size):=⟨o h.gS.1 (Nat.le_of_lt h.g_lt),h.tab.hlo⟩;have eF:1<=m:=og;have c7:1<=n:=og;obtain⟨fx,gi,fz,gl,D,cs,fE,fV,⟨-,-,hD,-⟩,⟨aX,aY,bu,az,aA⟩,-,⟨aQ,-,-⟩,-⟩:=h.open;have dG:=e hD;have c8:=(h.hd r hr).1;have cY:=(h.hd r hr).2.2;have dF:=h.hv r og (by rw[K8 hr];exact c7);have cL:=h.hv m og (by rw[Z7];exact eF);have cK:=h.hv (m+1) og (by rw[zkl];exact c7);have cM:=(h.basW eF).1;have cN:=(h.othW c7).1;obtain⟨cP,dq,cS,dt,-,X,Y,al,bq⟩:=h.elS (l:=m) (j:=r) og (by rw[Z7];exact hr);obtain⟨aV,a5,cR,ds,-,aa,ab,ag,du⟩:=h.elS (l:=r) (j:=c) og (by rw[K8 hr];exact hc);rw[zvr] at X Y bq;rw[zsa hr] at aa ab du;rw[c8] at bu;rw[cL] at az;rw[cK] at aA;rw[cM] at aX;rw[cN] at aY;rw[dF] at cY;have bx:=e (d cL (d cK (d cM (d cN c8))));have eE:=h.caps;have aR:∀l,l<m+2->M7 m n l<=L.cp l/\L.cp l<=9223372036854775807:=fun l aC=>(by have:=h.cap l aC;unfold maxLen at this;exact this);have cb:=e aR;have fH:n<=L.cp r:=(by have:=(aR r og).1;rwa[K8 hr] at this);have fL:L.cp r<=9223372036854775807:=(aR r og).2;have fM:m<=L.cp m:=(by have:=(aR m og).1;rwa[Z7] at this);have fN:L.cp m<=9223372036854775807:=(aR m og).2;have fO:n<=L.cp (m+1):=(by have:=(aR (m+1) og).1;rwa[zkl] at this);have fP:L.cp (m+1)<=9223372036854775807:=(aR (m+1) og).2;have ei:m<=L.rc/\L.rc<=9223372036854775807/\m<=L.bc/\L.bc<=9223372036854775807/\n<=L.oc/\L.oc<=9223372036854775807:=(by unfold maxLen at eE;omega);obtain⟨ei,fQ,fR,fI,fJ,fK⟩:=ei;have gg:(0:Int)<=(r:Int):=og;have gh:(r:Int)<(m:Int):=og;have fX:(0:Int)<=(c:Int):=og;have fY:(c:Int)<(n:Int):=og;have fU:=U0;obtain⟨cq,cn⟩:=C7 bq du;obtain⟨dz,eH⟩:=nm (decide (t.A r n<0));obtain⟨dA,eI⟩:=nm ((A9 (t.A r n).natAbs).length);obtain⟨cG,di⟩:=nm (decide (t.A r c<0));obtain⟨bw,dj⟩:=nm ((A9 (t.A r c).natAbs).length);obtain⟨aj,df⟩:=nm ((A9 1).length);obtain⟨eL,c5⟩:=nm ((A9 t.d).length);rw[<-eH] at X cq;rw[<-eI] at Y cq;rw[<-di] at aa cn;rw[<-dj] at ab cn;rw[<-df] at al cq ag cn;rw[<-c5] at dG aQ;obtain⟨dP,cf,dQ,dR,eU,cj⟩:=hd6 df c5 di dj (d aX (d aY (d bu (d az aA)))) (d aa (d ab (d ag aQ)));clear h bv zpp eD eC hD c8 dF cL cK cM cN bq du eE aR eH eI di dj df c5;clear aX aY aA;go_in;go_wp2_with fail;have H:=zoj bu az cY X Y al
 go_region_held3 (SH.mk _ H).s
  (exact H.out _ bel)
  (fail)
 obtain⟨dx,bU,Z,b7,-⟩:=J7 w #[.bool dz,.slice cP dA dq,.slice cS aj dt] 37;rw[bU];obtain⟨a9,cA⟩:=nm (dx.drew);have bf:a (Below w.heap.size w a9):=(by rw[a,cA];exact⟨Z.os,Z.tape,Z.output,Z.size,Z.block⟩);have cU:a (Row a9 w.heap.size 37 [.bool dz,.slice cP dA dq,.slice cS aj dt]):=(by rw[a,cA];exact b7.drew);rw[<-cA];clear cA Z b7 H bU bu az cY X Y al;obtain⟨cV,c1⟩:=nm (w.heap.size);have eW:=e c1;rw[<-c1] at cU⊢;clear c1;have aa:=C0 bf.out cj.out.1;have ab:=C0 bf.out cj.out.2.1;have ag:=C0 bf.out cj.out.2.2.1;have aQ:=C0 bf.out cj.out.2.2.2;go_wp2_with fail;have H:=hs4 aa ab ag aQ
 go_region_held3 (SH.mk _ H).s
  (exact H.out _ bel)
  (fail)
 obtain⟨dx,bU,Z,b7,-⟩:=J7 a9 #[.bool cG,.slice aV bw a5,.slice cR aj ds] 37;rw[bU];obtain⟨W,cB⟩:=nm (dx.drew);have cH:Below a9.heap.size a9 W:=(by rw[cB];exact⟨Z.os,Z.tape,Z.output,Z.size,Z.block⟩);have bg:=nB bf cH;have cT:a (Row W a9.heap.size 37 [.bool cG,.slice aV bw a5,.slice cR aj ds]):=(by rw[a,cB];exact b7.drew);have e4:=e (cU.out.next cH);rw[<-cB];obtain⟨br,a2⟩:=nm (a9.heap.size);have bj:a (lo<=br/\lo<=cV):=(by rw[a,a2,eW.out];exact⟨o aL.out.2 bf.out.size,aL.out.2⟩);rw[<-a2] at cT⊢;clear cB Z b7 H bU aa ab ag aQ cH a2 cU;have bu:=C0 bg.out eU.out.2.2.1;have T:a (lo0<=W.heap.size/\lo<=W.heap.size):=⟨o aL.out.1 bg.out.size,o aL.out.2 bg.out.size⟩;have e5:a (SchG W S lo0 lo g L m n sc top (M0 t r c m n 0) (t.A m n) t.d t.bas t.oth st f steps):=(aT.out.next bg.out).nums fun l j aC _=>zz1370 aC;have cr:L8 (SN S lo w) (SN S lo W) w W:=(((Btw.refl lo0 lo S w).below bg.out aL.out.1).same fun x B=>q (aT.out.tab.sS x B) aL.out.2);obtain⟨cc,e2,dU⟩:=H7 (IsK.stb.to dG.out cr) (IsQ.stb.to cq.out cr) (IsQ.stb.to cn.out cr);clear cr;go_wp2_with fail;clear bu;go_loopw [44,10,11,12] (fun dm _ _ _ wr=>∃s:Nat,s<=m/\dm= .int .i64 (s:Int)/\Btw lo0 lo S W wr/\a (SchG wr S lo0 lo g L m n sc top (M0 t r c m n s) (t.A m n) t.d t.bas t.oth st f steps)) (fun dm _ _ _ _=>m-(intOf dm).toNat);case atStart=>exact⟨0,Nat.zero_le _,rfl,Btw.refl _ _ _ _,e5.out⟩
 case round=>
  obtain⟨s,ga,rfl,c2,eG⟩:=hrel;have bA:=e c2;have I:=e eG.out;have bD:a (∀b,SN S lo wr b->C6 wr b):=I.out.sn_lt;have cE:L8 (SN S lo W) (SN S lo wr) W wr:=c2.same fun x B=>q (aT.out.tab.sS x B) T.out.2;obtain⟨dI,dZ,dY,dX,dV⟩:=hd5 (IsK.stb.to cc.out cE) (bA.out.row e4.out bj.out.2) (bA.out.row cT.out bj.out.1) (IsQ.stb.to (IsQ.stb.to e2.out cE) (G6 bD.out)) (IsQ.stb.to (IsQ.stb.to dU.out cE) (G6 bD.out));clear c2 eG cE;rcases Nat.lt_or_ge s m with J|fZ
  ·have ej:=(I.out.hd s J).2.2;have eV:=I.out.hv s og (by rw[K8 J];omega);rw[eV] at ej;have gd:(0:Int)<=(s:Int):=og;have gf:(s:Int)<(m:Int):=og;have e9:n<=L.cp s:=(by have:=(cb.out s og).1;rwa[K8 J] at this);have fa:L.cp s<=9223372036854775807:=(cb.out s og).2;have bF:=e J;obtain⟨bH,b4,bK,lF,-,aO,aP,bt,aW⟩:=I.out.el (l:=s) (j:=c) og (by rw[K8 J];exact P.out);obtain⟨dS,eJ,dT,eK,-,u0,u1,u2,dv⟩:=I.out.el (l:=m) (j:=s) og (by rw[Z7];exact J);rw[yeq J] at aO aP aW;rw[zz1367] at u0 u1 dv;have cz:=I.out.tab.line m og (by rw[Z7];omega);have ac:wr.frozen? ⟨L.bk m,s*3,none⟩=false:=cz.free;have ad:wr.frozen? ⟨L.bk m,s*3+1,none⟩=false:=cz.free;have ae:wr.frozen? ⟨L.bk m,s*3+2,none⟩=false:=cz.free;obtain⟨-,-,-,-,-,-,-,-,-,⟨-,-,-,az,-⟩,-,-,-⟩:=I.out.open;rw[bx.out.1] at az;obtain⟨X,Y,al⟩:=C4 dZ.out;obtain⟨aa,ab,ag⟩:=C4 dY.out;obtain⟨av,au⟩:=C7 aW dv;obtain⟨b8,bZ⟩:=nm (decide (t.A s c<0));obtain⟨b9,b1⟩:=nm ((A9 (t.A s c).natAbs).length);obtain⟨ek,bQ⟩:=nm (decide (t.A s n<0));obtain⟨em,bR⟩:=nm ((A9 (t.A s n).natAbs).length);rw[<-bZ] at aO av;rw[<-b1] at aP av;rw[<-bQ] at u0 au;rw[<-bR] at u1 au;rw[<-dP.out] at bt av u2 au;clear aW dv cz bZ b1 bQ bR;by_cases c4:s=r
   ·subst c4;have fl:(((s:Int) !=(s:Int)):Bool)=false:=(by simp);clear X Y al aa ab ag aO aP bt u0 u1 u2 ac ad ae az;go_wp2_with fail;go_roundw;(case rel=>exact⟨s+1,bF.out,by go_num,bA.out,I.out.nums fun l j _ _=>zz1368 t s c m n l j⟩);case measure=>simp[intOf];have:=bF.out;omega
   ·have fl:(((s:Int) !=(r:Int)):Bool)=true:=(by simp;omega);have dO:=e c4;obtain⟨ar,de,A,rx,-⟩:=J7 wr #[.bool b8,.slice bH b9 b4,.slice bK aj lF] 37;obtain⟨b0,bO,b2⟩:=C4 rx;have bh:=e A;have cm:=nQ av A;have bJ:=nQ au A;have bM:=nQ dX A;have bL:=nQ dV A;have bC:=e (IsK.stb.next (IsK.stb.to dI.out (G6 bD.out)) A);have aU:a (wr.heap.size≠L.bk m):=(by rw[a];have:=I.out.tab.sep m og (by rw[Z7];omega);have:=I.out.tab.hlo;omega);have V:a (br≠L.bk m/\cV≠L.bk m/\g≠L.bk m):=(by rw[a];have G:=I.out.tab.sep m og (by rw[Z7];omega);have:=bj.out;have an:=(I.out.lS m og (by rw[Z7];omega)).2.1;exact⟨by omega,by omega,Ne.symm an⟩);obtain⟨K,E,ah⟩:=H7 (d (C0 A az) (d b0 (d bO (d b2 (d (C0 A aa) (d (C0 A ab) (d (C0 A ag) (d (C0 A X) (d (C0 A Y) (C0 A al)))))))))) (d (C0 A u0) (d (C0 A u1) (C0 A u2))) (d (J8 A u0 ac) (d (J8 A u1 ad) (J8 A u2 ae)));obtain⟨z,bY⟩:=nm (zlo (t.A s n) (t.A r c) (t.A s c) (t.A r n) t.d);have bn:=e bY;clear bY rx A u0 u1 u2 ac ad ae X Y al aa ab ag b0 bO b2 az c4 J;go_wp2_with fail;clear de ej aO aP bt;obtain⟨u0,u1,u2⟩:=E.out;have H:=zzk K.out.1 K.out.2.1 K.out.2.2.1 K.out.2.2.2.1 K.out.2.2.2.2.1 K.out.2.2.2.2.2.1 K.out.2.2.2.2.2.2.1 K.out.2.2.2.2.2.2.2.1 K.out.2.2.2.2.2.2.2.2.1 K.out.2.2.2.2.2.2.2.2.2;have bi:a (∀ay:World,Below ar.heap.size ar ay->Calls Tryz.prog 131 #[.agg #[.bool ek,.slice dS em eJ,.slice dT aj eK],.agg #[.bool cG,.slice aV bw a5,.slice cR aj ds],.agg #[.bool b8,.slice bH b9 b4,.slice bK aj lF],.agg #[.bool dz,.slice cP dA dq,.slice cS aj dt],.slice D eL cs] ay (L5 ay (((z:Int)):Rat))):=fun ay a0=>(by have h:=zww (IsQ.stb.next bJ.out a0) (IsQ.stb.next bL.out a0) (IsQ.stb.next cm.out a0) (IsQ.stb.next bM.out a0) (F7 (IsK.stb.next bC.out a0)) ((Q.out s n (Nat.le_of_lt bF.out) (i _)).le og) ((Q.out r c (Nat.le_of_lt v.out) (Nat.le_of_lt P.out)).le og) ((Q.out s c (Nat.le_of_lt bF.out) (Nat.le_of_lt P.out)).le og) ((Q.out r n (Nat.le_of_lt v.out) (i _)).le og) (o bp.out og) bE.out;rw[Rat.num_intCast,Rat.num_intCast,Rat.num_intCast,Rat.num_intCast,<-bn.out] at h;exact h);have bm:=hpE s H (nA V.out.2.2 (nA aU.out (nA aU.out (nA aU.out (nA V.out.1 (nA V.out.1 (nA V.out.1 (nA V.out.2.1 (nA V.out.2.1 (nZ V.out.2.1))))))))));refine wp_region_noPanic ?_;refine zmd H fun af=> ?_;refine sT 0 56 ?_;refine sT 1 57 ?_;refine sT 2 58 ?_;refine sT 3 59 ?_;refine sT 4 60 ?_;refine sT 5 61 ?_;refine sT 6 62 ?_;refine sT 7 63 ?_;refine sT 8 64 ?_;refine sT 9 65 ?_;refine sT 10 66 ?_;refine sT 11 67 ?_;refine sT 12 68 ?_;refine sT 14 70 ?_;refine sT 15 71 ?_;refine sT 16 72 ?_;refine sT 17 73 ?_;refine wpAnyH_ready (rs:=[13]) kr (by simp) ?_;refine AllReadyH.cons rfl (fun M C=> ?_) AllReadyH.nil;go_simp;refine C.out _ _ (H.out _ bel) (fun af=> ?_);clear C M;refine sP ?_;refine wpAnyH_ready (rs:=[18]) kr (by simp) ?_;refine AllReadyH.cons rfl (fun M C=> ?_) AllReadyH.nil;go_simp;go_at_call 131;(with_reducible refine Calls.mono (bi.out _ bel) ?_)
    rintro u aJ ⟨⟨eQ,rfl,ao⟩,cw⟩;have O:=bW ar aJ;obtain⟨bG,b3,bI,b5,rfl⟩:=zlp ao;have aG:=C0 O.out E.out.1;have aH:=C0 O.out E.out.2.1;have aI:=C0 O.out E.out.2.2;have ac:=J8 O.out E.out.1 ah.out.1;have ad:=J8 O.out E.out.2.1 ah.out.2.1;have ae:=J8 O.out E.out.2.2 ah.out.2.2;(focus go_wp2_with fail)
    refine C.out _ _ (H.out _ bel) (fun af=> ?_);clear C M;refine sP ?_;refine sT 19 75 ?_;refine wpAnyH_ready (rs:=[20]) kr (by simp) ?_;refine AllReadyH.cons rfl (fun M C=> ?_) AllReadyH.nil;go_simp;refine C.out _ _ (bm.out _ bel _ _ _) (fun af=> ?_);clear C M;refine sP ?_;refine wpAnyH_done kr ?_ _;refine NoPanic.normal ?_;have dB:=e (C8 bh.out O.out);have bN:=e (I.out.next dB.out);have dK:a (IsQ aJ (SN S lo aJ) (.agg #[.bool (decide (z<0)),.slice bG (A9 z.natAbs).length b3,.slice bI (A9 1).length b5]) ((z:Int):Rat)):=IsQ.stb.to ao (G6 fun b N=> .inr ⟨by have G:=I.out.tab.hlo;have an:=bh.out.size;have aZ:=N.1;simp at aZ;omega,N.2⟩);have J:=bF.out;obtain⟨F,ak⟩:=C7 (bN.out.putL (l:=m) (j:=s) og (by rw[Z7];exact J) dK.out) ((bA.out.below dB.out T.out.1).step (zne (c:=L.bk m) (j:=s) (x:= .bool (decide (z<0))) (y:= .slice bG (A9 z.natAbs).length b3) (z:= .slice bI (A9 1).length b5) (I7 aJ _)) T.out.1 fun x u=>by cases u;exact⟨(I.out.lS m og (by rw[Z7];omega)).1,I.out.tab.sep m og (by rw[Z7];omega)⟩);obtain⟨ai,aE⟩:=nm (((aJ.setCell ⟨(L.bk m),s*3,none⟩ (.bool (decide (z<0)))).setCell ⟨(L.bk m),s*3+1,none⟩ (.slice bG (A9 z.natAbs).length b3)).setCell ⟨(L.bk m),s*3+2,none⟩ (.slice bI (A9 1).length b5));have F:a (SchG ai S lo0 lo g L m n sc top (fun k=>if k=m then(fun x=>if x=s then z else M0 t r c m n s m x) else M0 t r c m n s k) (t.A m n) t.d t.bas t.oth st f steps):=(by rw[a,aE];exact F.out);have ak:a (Btw lo0 lo S W ai):=(by rw[a,aE];exact ak.out);rw[<-aE];clear aE H bm bi ao cw aG aH aI ac ad ae u0 u1 u2 dK bN;go_wp2_with fail;have a6:=F.out.tab.line s og (by rw[K8 J];omega);have a7:=F.out.tab.line r (oh v) (by rw[K8 v.out];omega);rw[K8 J] at a6;rw[K8 v.out] at a7;have fq:=F.out.tab.sep s og (by rw[K8 J];omega);have fr:=F.out.tab.sep r (oh v) (by rw[K8 v.out];omega)
    have nn:∀l,l<m->¬SN S lo ai (L.bk l):=fun l aC B=>by
     have G:=F.out.tab.sep l og (by rw[K8 aC];omega);rcases B with B|B
     ·exact G.2 B
     ·have:=B.1;omega
    have bP:NumS ai (SN S lo ai) (.slice D (A9 t.d).length cs) t.d:=by have:=IsK.stb.to cc.out (ak.out.same fun x B=>q (aT.out.tab.sS x B) T.out.2);rw[cf.out] at this;exact this
    have a3:=yhm a6 a7 (fun u=>dO.out (F.out.tab.inj r s (oh v) og (by rw[K8 v.out];omega) (by rw[K8 J];omega) u).symm) (fun b N=>⟨F.out.sn_lt b N,fun u=>nn s J (by rw[<-u];exact N),fun u=>nn r v.out (by rw[<-u];exact N)⟩) bP c6 P.out
     (fun j a4=>by
       refine⟨?_,?_⟩
       ·rw[ztb,if_neg og,yeq J];exact Q.out s j (Nat.le_of_lt J) (Nat.le_of_lt a4)
       ·rw[ztb,if_neg (oh v),yag v.out];exact Q.out r j (Nat.le_of_lt v.out) (Nat.le_of_lt a4)) bp.out bE.out
    rw[<-cf.out] at a3;refine a3.mono ?_;clear a3 a6 a7 fq fr nn bP;rintro u dy ⟨rfl,eu,c3⟩
    have eX:=e (eu.mono (T:=SN S lo dy) fun x B=>by
     rcases B with B|B
     ·exact zsn c3.size x B
     ·exact .inr ⟨by have:=F.out.tab.hlo;have:=B.1;omega,B.2⟩)
    have dE:=e c3;clear eu c3;go_wp2_with fail;go_roundw;(case rel=>have cZ:LineW dy (SN S lo dy) (L.bk s) (L.cp s) (M7 m n s) (zor (if s=m then(fun x=>if x=s then z else M0 t r c m n s m x) else M0 t r c m n s s) (if r=m then(fun x=>if x=s then z else M0 t r c m n s m x) else M0 t r c m n s r) c t.d):=(by rw[K8 J];exact eX.out);have fg:=F.out.line og (by rw[K8 J];omega) dE.out cZ;refine⟨s+1,J,by go_num,ak.out.step dE.out T.out.1 (fun x u=>by cases u;exact⟨(F.out.lS s og (by rw[K8 J];omega)).1,F.out.tab.sep s og (by rw[K8 J];omega)⟩),fg.nums fun l j _ _=> ?_⟩;rw[bn.out,ztb];exact zz1369 J dO.out v.out l j);case measure=>simp[intOf];omega
  ·obtain rfl:s=m:=og;obtain⟨bH,b4,bK,lF,-,aO,aP,bt,aW⟩:=I.out.el (l:=s+1) (j:=c) og (by rw[zkl];exact P.out);rw[yep] at aO aP aW;obtain⟨dS,eJ,dT,eK,fv,fS,fF,fW,⟨cv,ez,-,-⟩,⟨-,-,-,-,aA⟩,⟨u0,u1,u2⟩,-,-⟩:=I.out.open;rw[bx.out.2.1] at aA;have ac:=cv.frozen 5;have ad:=cv.frozen 6;have ae:=cv.frozen 7;obtain⟨X,Y,al⟩:=C4 dZ.out;obtain⟨aa,ab,ag⟩:=C4 dY.out;obtain⟨av,au⟩:=C7 aW (IsQ.stb.to ez (G6 bD.out));obtain⟨b8,bZ⟩:=nm (decide (-(t.A s c)<0));obtain⟨b9,b1⟩:=nm ((A9 (-(t.A s c)).natAbs).length);obtain⟨ek,bQ⟩:=nm (decide (t.A s n<0));obtain⟨em,bR⟩:=nm ((A9 (t.A s n).natAbs).length);rw[<-bZ] at aO av;rw[<-b1] at aP av;rw[<-bQ] at u0 au;rw[<-bR] at u1 au;rw[<-dP.out] at bt av u2 au;have e9:n<=L.cp (s+1):=(by have:=(cb.out (s+1) og).1;rwa[zkl] at this);have fa:L.cp (s+1)<=9223372036854775807:=(cb.out (s+1) og).2;obtain⟨ar,de,A,rx,-⟩:=J7 wr #[.bool b8,.slice bH b9 b4,.slice bK aj lF] 37;obtain⟨b0,bO,b2⟩:=C4 rx;have bh:=e A;have cm:=nQ av A;have bJ:=nQ au A;have bM:=nQ dX A;have bL:=nQ dV A;have bC:=e (IsK.stb.next (IsK.stb.to dI.out (G6 bD.out)) A);have dN:a (g<lo/\g<wr.heap.size):=⟨I.out.gS.2.1,I.out.g_lt⟩;obtain⟨K,E,ah⟩:=H7 (d b0 (d bO (d b2 (d (C0 A aa) (d (C0 A ab) (d (C0 A ag) (d (C0 A X) (d (C0 A Y) (C0 A al))))))))) (d (C0 A u0) (d (C0 A u1) (C0 A u2))) (d (J8 A u0 ac) (d (J8 A u1 ad) (J8 A u2 ae)));have aU:a (wr.heap.size≠g):=oH1 dN;have V:a (br≠g/\cV≠g):=oH2 dN bj;obtain⟨z,bY⟩:=nm (zlo (t.A s n) (t.A r c) (t.A s c) (t.A r n) t.d);have bn:=e bY;clear bY rx A u0 u1 u2 ac ad ae X Y al aa ab ag b0 bO b2 aW cv ez bZ b1 bQ bR;go_wp2_with fail;clear de aO aP bt aA;obtain⟨u0,u1,u2⟩:=E.out;have H:=hs9 K.out.1 K.out.2.1 K.out.2.2.1 K.out.2.2.2.1 K.out.2.2.2.2.1 K.out.2.2.2.2.2.1 K.out.2.2.2.2.2.2.1 K.out.2.2.2.2.2.2.2.1 K.out.2.2.2.2.2.2.2.2;have bi:a (∀ay:World,Below ar.heap.size ar ay->Calls Tryz.prog 133 #[.agg #[.bool b8,.slice bH b9 b4,.slice bK aj lF]] ay (L5 ay (((t.A s c:Int)):Rat))):=fun ay a0=>(by have h:=zsb (IsQ.stb.next cm.out a0) (by rw[Rat.intCast_neg];exact(Q.out s c (i _) (Nat.le_of_lt P.out)).neg) (show(((t.A s c:Int)):Rat)= -(((-(t.A s c):Int)):Rat) by rw[Rat.intCast_neg,Rat.neg_neg]);exact h);have bm:=hpV H (nA aU.out (nA aU.out (nA aU.out (nA V.out.1 (nA V.out.1 (nA V.out.1 (nA V.out.2 (nA V.out.2 (nZ V.out.2)))))))));refine wp_region_noPanic ?_;refine zmd H fun af=> ?_;refine sT 0 90 ?_;refine sT 1 91 ?_;refine sT 2 92 ?_;refine sT 3 93 ?_;refine sT 4 94 ?_;refine sT 6 96 ?_;refine sT 7 97 ?_;refine sT 9 99 ?_;refine sT 10 100 ?_;refine wpAnyH_ready (rs:=[5,8]) kr (by simp) ?_;refine AllReadyH.cons rfl (fun M C=> ?_) ?_;go_simp;refine C.out _ _ (H.out _ bel) (fun af=> ?_);clear C M;refine sP ?_;refine wpAnyH_ready (rs:=[8]) kr (by simp) ?_;refine AllReadyH.cons rfl (fun M C=> ?_) AllReadyH.nil;go_simp;go_at_call 133;(with_reducible refine Calls.mono (bi.out _ bel) ?_)
   rintro u aJ ⟨⟨eQ,rfl,ao⟩,cw⟩;have O:=bW ar aJ;obtain⟨bG,b3,bI,b5,rfl⟩:=zlp ao;have ck:=e (IsQ.stb.old ao);have n0:=C0 O.out E.out.1;have eM:=C0 O.out E.out.2.1;have eN:=C0 O.out E.out.2.2;(focus go_wp2_with fail)
   refine C.out _ _ (H.out _ bel) (fun af=> ?_);clear C M;refine sP ?_;refine wpAnyH_ready (rs:=[11]) kr (by simp) ?_;refine AllReadyH.cons rfl (fun M C=> ?_) AllReadyH.nil;go_simp;have a1:=zww (IsQ.stb.next bJ.out bel) (IsQ.stb.next bL.out bel) ck.out (IsQ.stb.next bM.out bel) (F7 (IsK.stb.next bC.out bel)) ((Q.out s n (i _) (i _)).le og) ((Q.out r c (Nat.le_of_lt v.out) (Nat.le_of_lt P.out)).le og) ((Q.out s c (i _) (Nat.le_of_lt P.out)).le og) ((Q.out r n (Nat.le_of_lt v.out) (i _)).le og) (o bp.out og) bE.out;rw[Rat.num_intCast,Rat.num_intCast,Rat.num_intCast,Rat.num_intCast,<-bn.out] at a1;(with_reducible refine Calls.mono a1 ?_)
   clear a1;rintro u bd ⟨⟨fs,rfl,bT⟩,eB⟩;have R:=bW ar bd;obtain⟨ch,cC,cl,cD,rfl⟩:=zlp bT;have aG:=C0 R.out E.out.1;have aH:=C0 R.out E.out.2.1;have aI:=C0 R.out E.out.2.2;have ac:=J8 R.out E.out.1 ah.out.1;have ad:=J8 R.out E.out.2.1 ah.out.2.1;have ae:=J8 R.out E.out.2.2 ah.out.2.2;(focus go_wp2_with fail)
   refine C.out _ _ (H.out _ bel) (fun af=> ?_);clear C M;refine sP ?_;refine sT 12 102 ?_;refine sT 13 103 ?_;refine sT 14 104 ?_;refine wpAnyH_ready (rs:=[15]) kr (by simp) ?_;refine AllReadyH.cons rfl (fun M C=> ?_) AllReadyH.nil;go_simp;refine C.out _ _ (bm.out _ bel _ _ _) (fun af=> ?_);clear C M;refine sP ?_;refine wpAnyH_done kr ?_ _;refine NoPanic.normal ?_;rotate_left 1;refine AllReadyH.cons rfl (fun M C=> ?_) ?_;go_simp;go_at_call 133;(with_reducible refine Calls.mono (bi.out _ bel) ?_)
   rintro u aJ ⟨⟨eQ,rfl,ao⟩,cw⟩;have O:=bW ar aJ;obtain⟨bG,b3,bI,b5,rfl⟩:=zlp ao;have ck:=e (IsQ.stb.old ao);have n0:=C0 O.out E.out.1;have eM:=C0 O.out E.out.2.1;have eN:=C0 O.out E.out.2.2;(focus go_wp2_with fail)
   refine C.out _ _ (H.out _ bel) (fun af=> ?_);clear C M;refine sP ?_;refine wpAnyH_ready (rs:=[5]) kr (by simp) ?_;refine AllReadyH.cons rfl (fun M C=> ?_) AllReadyH.nil;go_simp;refine C.out _ _ (H.out _ bel) (fun af=> ?_);clear C M;refine sP ?_;refine wpAnyH_ready (rs:=[11]) kr (by simp) ?_;refine AllReadyH.cons rfl (fun M C=> ?_) AllReadyH.nil;go_simp;have a1:=zww (IsQ.stb.next bJ.out bel) (IsQ.stb.next bL.out bel) ck.out (IsQ.stb.next bM.out bel) (F7 (IsK.stb.next bC.out bel)) ((Q.out s n (i _) (i _)).le og) ((Q.out r c (Nat.le_of_lt v.out) (Nat.le_of_lt P.out)).le og) ((Q.out s c (i _) (Nat.le_of_lt P.out)).le og) ((Q.out r n (Nat.le_of_lt v.out) (i _)).le og) (o bp.out og) bE.out;rw[Rat.num_intCast,Rat.num_intCast,Rat.num_intCast,Rat.num_intCast,<-bn.out] at a1;(with_reducible refine Calls.mono a1 ?_)
   clear a1;rintro u bd ⟨⟨fs,rfl,bT⟩,eB⟩;have R:=bW ar bd;obtain⟨ch,cC,cl,cD,rfl⟩:=zlp bT;have aG:=C0 R.out E.out.1;have aH:=C0 R.out E.out.2.1;have aI:=C0 R.out E.out.2.2;have ac:=J8 R.out E.out.1 ah.out.1;have ad:=J8 R.out E.out.2.1 ah.out.2.1;have ae:=J8 R.out E.out.2.2 ah.out.2.2;(focus go_wp2_with fail)
   refine C.out _ _ (H.out _ bel) (fun af=> ?_);clear C M;refine sP ?_;refine sT 12 102 ?_;refine sT 13 103 ?_;refine sT 14 104 ?_;refine wpAnyH_ready (rs:=[15]) kr (by simp) ?_;refine AllReadyH.cons rfl (fun M C=> ?_) AllReadyH.nil;go_simp;refine C.out _ _ (bm.out _ bel _ _ _) (fun af=> ?_);clear C M;refine sP ?_;refine wpAnyH_done kr ?_ _;refine NoPanic.normal ?_;rotate_left 1;exact AllReadyH.nil
   all_goals
    have bN:=e (I.out.next (C8 bh.out R.out))
    have dL:a (IsQ bd (SN S lo bd) (.agg #[.bool (decide (z<0)),.slice ch (A9 z.natAbs).length cC,.slice cl (A9 1).length cD]) ((z:Int):Rat)):=IsQ.stb.to bT (G6 fun b N=> .inr ⟨by have G:=I.out.tab.hlo;have an:=bh.out.size;have aZ:=O.out.size;have ct:=N.1;(try simp at ct);omega,N.2⟩)
    obtain⟨F,ak⟩:=C7 (bN.out.value dL.out) ((bA.out.below (C8 bh.out R.out) T.out.1).step (ydg bd g (.bool (decide (z<0))) (.slice ch (A9 z.natAbs).length cC) (.slice cl (A9 1).length cD)) T.out.1 fun x u=>by cases u;exact I.out.gS)
    obtain⟨ai,aE⟩:=nm (((bd.setCell ⟨g,5,none⟩ (.bool (decide (z<0)))).setCell ⟨g,6,none⟩ (.slice ch (A9 z.natAbs).length cC)).setCell ⟨g,7,none⟩ (.slice cl (A9 1).length cD))
    have F:a (SchG ai S lo0 lo g L s n sc top (M0 t r c s n s) z t.d t.bas t.oth st f steps):=by rw[a,aE];exact F.out
    have ak:a (Btw lo0 lo S W ai):=by rw[a,aE];exact ak.out
    rw[<-aE]
    clear aE H bm bi ao cw bT eB aG aH aI ac ad ae u0 u1 u2 dL bN ck O R n0 eM eN E ah K cm bJ bM bL bC
    obtain⟨-,-,-,-,-,-,-,-,-,⟨-,-,-,-,aA⟩,-,-,-⟩:=F.out.open
    rw[bx.out.2.1] at aA
    go_wp2_with fail
    clear aA
    have a6:=F.out.tab.line (s+1) og (by rw[zkl];omega)
    have a7:=F.out.tab.line r (oh v) (by rw[K8 v.out];omega)
    rw[zkl] at a6
    rw[K8 v.out] at a7
    have nn:∀l,l<s+2->1<=M7 s n l->¬SN S lo ai (L.bk l):=fun l aC ff B=>by
     have G:=F.out.tab.sep l aC ff
     rcases B with B|B
     ·exact G.2 B
     ·have:=B.1;omega
    have bP:NumS ai (SN S lo ai) (.slice D (A9 t.d).length cs) t.d:=by
     have:=IsK.stb.to cc.out (ak.out.same fun x B=>q (aT.out.tab.sS x B) T.out.2)
     rw[cf.out] at this
     exact this
    have a3:=yhm a6 a7 (fun u=>by have:=F.out.tab.inj r (s+1) (oh v) og (by rw[K8 v.out];omega) (by rw[zkl];omega) u;have:=v.out;omega) (fun b N=>⟨F.out.sn_lt b N,fun u=>nn (s+1) og (by rw[zkl];omega) (by rw[<-u];exact N),fun u=>nn r (oh v) (by rw[K8 v.out];omega) (by rw[<-u];exact N)⟩) bP c6 P.out
     (fun j a4=>⟨by rw[yep,Rat.intCast_neg];exact(Q.out s j (i _) (Nat.le_of_lt a4)).neg,by rw[yag v.out];exact Q.out r j (Nat.le_of_lt v.out) (Nat.le_of_lt a4)⟩) bp.out bE.out
    rw[<-cf.out] at a3
    refine a3.mono ?_
    clear a3 a6 a7 nn bP
    rintro u be ⟨rfl,ev,cx⟩
    have dJ:a (LineW be (SN S lo be) (L.bk (s+1)) (L.cp (s+1)) n (zor (M0 t r c s n s (s+1)) (M0 t r c s n s r) c t.d)):=ev.mono fun x B=>by
     rcases B with B|B
     ·exact zsn cx.size x B
     ·exact .inr ⟨by have:=F.out.tab.hlo;have:=B.1;omega,B.2⟩
    have aM:a (SchG be S lo0 lo g L s n sc top (fun k=>if k=s+1 then zor (M0 t r c s n s (s+1)) (M0 t r c s n s r) c t.d else M0 t r c s n s k) z t.d t.bas t.oth st f steps):=by
     have cZ:LineW be (SN S lo be) (L.bk (s+1)) (L.cp (s+1)) (M7 s n (s+1)) (zor (M0 t r c s n s (s+1)) (M0 t r c s n s r) c t.d):=by rw[zkl];exact dJ.out
     exact F.out.line og (by rw[zkl];omega) cx cZ
    have cI:=e (ak.out.step cx T.out.1 (fun x u=>by cases u;exact⟨(F.out.lS (s+1) og (by rw[zkl];omega)).1,F.out.tab.sep (s+1) og (by rw[zkl];omega)⟩))
    clear ev cx dJ F ak
    go_wp2_with fail
    have et:IsN be 0 be.heap.size (.slice D eL cs) t.d:=F7 (IsK.stb.to (IsK.stb.to cc.out (cI.out.same fun x B=>q (aT.out.tab.sS x B) T.out.2)) (G6 aM.out.sn_lt))
    obtain⟨y,dh⟩:=nm (((t.d:Nat):Int):Int)
    have eY:=e dh
    have dd:=yfw et (o bp.out og)
    rw[<-dh] at dd
    clear dh
    refine dd.mono ?_
    clear dd
    clear et
    rintro u cF ⟨⟨gn,rfl,c9⟩,aB⟩
    obtain⟨cO,dp,cQ,dr,rfl⟩:=zlp c9
    obtain⟨fy,gj,fD,gm,-,aG,aH,aI,-⟩:=aM.out.el (l:=r) (j:=c) (oh v) (by rw[K8 v.out];exact P.out)
    have cy:=aM.out.tab.line r (oh v) (by rw[K8 v.out];omega)
    have ac:=J8 aB aG cy.free
    have ad:=J8 aB aH cy.free
    have ae:=J8 aB aI cy.free
    replace aG:=C0 aB aG
    replace aH:=C0 aB aH
    replace aI:=C0 aB aI
    have dM:a (IsQ cF (SN S lo cF) (.agg #[.bool (decide (y<0)),.slice cO (A9 y.natAbs).length dp,.slice cQ (A9 1).length dr]) ((y:Int):Rat)):=IsQ.stb.to c9 (G6 fun b N=> .inr ⟨o aM.out.tab.hlo N.1,N.2⟩)
    obtain⟨U,bB⟩:=C7 ((aM.out.next aB).putL (l:=r) (j:=c) (oh v) (by rw[K8 v.out];exact P.out) dM.out) ((cI.out.below aB T.out.1).step (zne (c:=L.bk r) (j:=c) (x:= .bool (decide (y<0))) (y:= .slice cO (A9 y.natAbs).length dp) (z:= .slice cQ (A9 1).length dr) (I7 cF _)) T.out.1 fun x u=>by cases u;exact⟨(aM.out.lS r (oh v) (by rw[K8 v.out];omega)).1,aM.out.tab.sep r (oh v) (by rw[K8 v.out];omega)⟩)
    clear c9 aB cy aM cI dM
    obtain⟨aK,bX⟩:=nm (((cF.setCell ⟨L.bk r,c*3,none⟩ (.bool (decide (y<0)))).setCell ⟨L.bk r,c*3+1,none⟩ (.slice cO (A9 y.natAbs).length dp)).setCell ⟨L.bk r,c*3+2,none⟩ (.slice cQ (A9 1).length dr))
    have U:a (SchG aK S lo0 lo g L s n sc top (zkj (zqn t r c) s n) z t.d t.bas t.oth st f steps):=by
     rw[a,bX]
     exact U.out.nums fun l j aC a4=>by
      rw[eY.out,ztb,ztb,ztb]
      exact zz1366 v.out P.out aC a4
    have bB:a (Btw lo0 lo S W aK):=by rw[a,bX];exact bB.out
    have e3:=bB.out.row cT.out bj.out.1
    have dW:=e (IsQ.stb.to dU.out (bB.out.same fun x B=>q (aT.out.tab.sS x B) T.out.2))
    obtain⟨e0,fm,e1,fo,fw,fT,e6,e8,⟨c0,eA,-,ey⟩,⟨aX,aY,-,-,-⟩,-,⟨aQ,-,-⟩,-⟩:=U.out.open
    have dD:=c0.frozen 8
    obtain⟨eO,eP,fp⟩:=C4 e3
    have dH:a (NumS aK (SN S lo aK) (.slice aV bw a5) (t.A r c).natAbs):=by
     have:=zku dW.out
     rwa[Rat.num_intCast] at this
    rw[bx.out.2.2.1] at aX
    rw[bx.out.2.2.2.1] at aY
    have dk:=(U.out.basW og).2
    have dn:=(U.out.othW og).2
    have cW:=dk.el r v.out
    have cX:=dn.el c P.out
    have en:aK.frozen? ⟨L.bb,r,none⟩=false:=dk.free
    have eo:aK.frozen? ⟨L.ob,c,none⟩=false:=dn.free
    obtain⟨ft,da⟩:=nm (t.bas.getD r 0)
    obtain⟨dw,db⟩:=nm (t.oth.getD c 0)
    rw[<-da] at cW
    rw[<-db] at cX
    obtain⟨cg,cd⟩:=C7 (d da db) (d c0 (d eA ey))
    have fi:g≠L.bb:=Ne.symm (U.out.bS og).2.2.2
    have fj:g≠L.ob:=Ne.symm (U.out.oS og).2.2.2
    have fh:L.bb≠L.ob:=U.out.bo og og
    have a2:br≠g/\br≠L.bb/\br≠L.ob:=by
     have G:=bj.out.1
     have an:=(U.out.bS og).2.1
     have aZ:=(U.out.oS og).2.1
     have ct:=U.out.gS.2.1
     exact⟨by omega,by omega,by omega⟩
    obtain⟨aq,aD⟩:=nm (aK.setCell ⟨g,8,none⟩ (.slice aV bw a5))
    have cu:∀b a8,b≠g->aq.cell? ⟨b,a8,none⟩=aK.cell? ⟨b,a8,none⟩:=fun b a8 N=>by rw[aD];exact p _ _ _ _ (fun u=>by injection u with G an;exact N G.symm)
    have X:aq.cell? ⟨g,0,none⟩=some (.slice (some ⟨L.bb,0,none⟩) s L.bc):=by rw[aD,p _ _ _ _ (fun u=>by injection u with G an;omega)];exact aX
    have Y:aq.cell? ⟨g,1,none⟩=some (.slice (some ⟨L.ob,0,none⟩) n L.oc):=by rw[aD,p _ _ _ _ (fun u=>by injection u with G an;omega)];exact aY
    have e7:=(cu _ r (Ne.symm fi)).trans cW
    have eg:=(cu _ c (Ne.symm fj)).trans cX
    have bq:=(cu _ 0 a2.1).trans eO
    have fc:aq.frozen? ⟨L.bb,r,none⟩=false:=by rw[aD];simpa using en
    have fe:aq.frozen? ⟨L.ob,c,none⟩=false:=by rw[aD];simpa using eo
    have cJ:a (aK.grownBy aq (some g)):=by rw[a,aD];exact I0 _ _ _ _
    have aN:a (SchG aq S lo0 lo g L s n sc top (zkj (zqn t r c) s n) z (t.A r c).natAbs t.bas t.oth st f steps):=by
     have bv:=U.out.same cJ.out fun b u=>by cases u;exact U.out.gS.2
     refine U.out.cells cJ.out ⟨e0,fm,e1,fo,aV,a5,e6,e8,?_,IsQ.stb.to cd.out.2.1 bv,?_,IsK.stb.to cd.out.2.2 bv⟩
     ·have G:=cd.out.1.set_ 8 (.slice aV bw a5)
      rw[<-aD,dR.out] at G
      exact G
     ·have G:=IsK.stb.to dH.out bv
      rw[dR.out] at G
      exact G
    have eR:=e (bB.out.step cJ.out T.out.1 fun x u=>by cases u;exact U.out.gS)
    rw[bX] at eP aQ dD
    clear c0 eA ey dk dn cu da db cW cX en eo dH dW cd aX aY eO fp
    go_wp2_with fail
    rw[<-bX,<-aD]
    clear bX aD dD aQ eP aG aH aI ac ad ae
    obtain⟨aS,bV⟩:=nm ((aq.setCell ⟨L.bb,r,none⟩ (.int .i64 ((dw:Nat):Int))).setCell ⟨L.ob,c,none⟩ (.int .i64 ((ft:Nat):Int)))
    have ed:a (U8 aS S lo0 lo g L s n sc top (zqn t r c) st f steps):=by
     have G:=aN.out.ints v.out P.out
     rw[<-cg.out.1,<-cg.out.2,<-bV] at G
     have u:z=(zqn t r c).A s n:=by
      rw[bn.out]
      show _=zlt t.A t.d r c s n
      unfold zlt
      rw[if_neg (oh v),if_neg (oh P)]
     rw[u] at G
     rw[cg.out.1,cg.out.2] at G
     exact G
    have ep:∀b a8,b≠L.bb->b≠L.ob->aS.cell? ⟨b,a8,none⟩=aq.cell? ⟨b,a8,none⟩:=fun b a8 G an=>by
     rw[bV,p _ _ _ _ (fun u=>by injection u with aZ ct;exact an aZ.symm),p _ _ _ _ (fun u=>by injection u with aZ ct;exact G aZ.symm)]
    have eh:=(ep _ 0 a2.2.1 a2.2.2).trans bq
    have eS:a (Btw lo0 lo S W aS):=by
     rw[a,bV]
     refine(eR.out.step (I0 _ _ _ _) T.out.1 fun x u=> ?_).step (I0 _ _ _ _) T.out.1 fun x u=> ?_
     ·cases u;exact⟨(aN.out.bS og).1,(aN.out.bS og).2.1,(aN.out.bS og).2.2.1⟩
     ·cases u;exact⟨(aN.out.oS og).1,(aN.out.oS og).2.1,(aN.out.oS og).2.2.1⟩
    have eT:a (Btw lo0 lo S w aS):=(((Btw.refl lo0 lo S w).below bg.out aL.out.1).trans eS.out)
    have fb:(aq.setCell ⟨L.bb,r,none⟩ (.int .i64 ((dw:Nat):Int))).cell? ⟨L.ob,c,none⟩=some (.int .i64 ((dw:Nat):Int)):=by
     rw[p _ _ _ _ (fun u=>by injection u with G an;exact fh G)];exact eg
    clear ep
    go_region
    rw[<-bV]
    obtain⟨fu,dc⟩:=nm (aS.drew)
    have ca:Below aS.heap.size aS fu:=by rw[dc];exact L9 aS
    obtain⟨ee,dC⟩:=C7 (ed.out.next ca) (eT.out.below ca aL.out.1)
    have fG:=C0 ca eh
    rw[<-dc]
    clear bV dc eh ca ed aN fb bq e7 eg X Y fc fe
    cases cG with
    |false=>
     go_wp2_with fail
     refine bodyPost_end (results_none rfl _ _ _) rfl ?_
     rw[<-zz1373 (of_decide_eq_false dQ.out.symm)]
     exact⟨rfl,ee.out,dC.out⟩
    |true=>
     go_wp2_with fail
     refine(zz1483 ee.out fk c6 (zz1374 eZ.out)).mono ?_
     rintro u gp ⟨rfl,ew,er⟩
     have ec:=e (d ew er)
     clear ew er
     go_wp2_with fail
     refine bodyPost_end (results_none rfl _ _ _) rfl ?_
     rw[<-zz1372 (of_decide_eq_true dQ.out.symm)]
     exact⟨rfl,ec.out.1,dC.out.trans ec.out.2⟩
theorem zz1478 {z:Int} {a:Nat} (h:z.natAbs<=a) (hF:(A9 a).length<=k) (b:1<=k):Sz ((z:Int):Rat) k:=by
 refine⟨?_,?_⟩
 ·rw[Rat.num_intCast];exact o (Y5 h) hF
 ·rw[Rat.den_intCast,zkv];exact b
theorem TInv.sz (h:TInv M m n t) (hF:(A9 (M4 M (m+1))).length<=k) (b:1<=k):(∀a j,a<=m->j<=n->Sz ((t.A a j:Int):Rat) k)/\(A9 t.d).length<=k:=
 ⟨fun a j c d=>zz1478 (h.small.2 a j c d) hF b,o (Y5 h.small.1) hF⟩
theorem ylx {w:World} {st:Int} (h:U8 w S lo0 lo g L m n sc top t st f steps) (a:TInv M m n t) (hr:r<m) (hc:c<n) (i:t.A r c≠0) (d:m<=100) (e:n<=100) (hF:(A9 (M4 M (m+1))).length<=100000):
 Calls Tryz.prog 63 #[.pointer (some ⟨g,0,none⟩),.int .i64 (r:Int),.int .i64 (c:Int)] w fun b w'=>b= .returned (.tuple #[])/\U8 w' S lo0 lo g L m n sc top (W7 t r c) st f steps/\Btw lo0 lo S w w':=
 zz1494 h hr hc d e (a.sz hF og).1 ((a.piv hr hc i).sz hF og).1 (a.sz hF og).2 a.d0
def zss (S:Nat->Prop) (lo0 lo g:Nat) (L:Lay) (m n:Nat) (sc:Nat->Nat) (top M:Nat) (a:Dic) (st f steps:Int) (b:World) (t:TB) (w:World):Prop:=
 U8 w S lo0 lo g L m n sc top t st f steps/\OkT M m n sc top a t/\Btw lo0 lo S b w
theorem yok (a:zov m n t=some r) (b:zpo n t r=some c):zle m n t=some (W7 t r c):=by unfold zle;rw[a];show(match zpo n t r with|none=>none|some c=>some (W7 t r c))=_;rw[b]
theorem zz1419 {w:World} {j:Dic} {st:Int} (h:U8 w S lo0 lo g L m n sc top t st f steps) (I:OkT M m n sc top j t) (B:m<=100) (C:n<=100) (hF:(A9 (M4 M (m+1))).length<=100000) (N:∀Y,0<sc Y) (O:0<top):
 Calls Tryz.prog 61 #[.pointer (some ⟨g,0,none⟩)] w fun x w'=>∃b,x= .returned (.int .i64 (Q7 (zov m n b)))/\(zov m n b=none\/∃r,zov m n b=some r/\zpo n b r=none)/\zss S lo0 lo g L m n sc top M j st f steps w b w':=by
 obtain⟨Q,T,U⟩:=H7 hF N O;have R:a (zss S lo0 lo g L m n sc top M j st f steps w t w):=⟨h,I,Btw.refl _ _ _ _⟩;have D:a (lo0<=w.heap.size):=o h.gS.1 (Nat.le_of_lt h.g_lt);clear h I hF N O;go_in;go_wp2_with fail;go_loopw [3,4] (fun _ _ wr=>∃b,zss S lo0 lo g L m n sc top M j st f steps w b wr) (fun _ _ wr=>leastM (fun b=>zss S lo0 lo g L m n sc top M j st f steps w b wr) (leftO (zle m n)));case atStart=>exact⟨t,R.out⟩
 case round=>
  obtain⟨s,K,H⟩:=ykt (μ:=leftO (zle m n)) hrel;obtain⟨u,V⟩:=C7 K H;clear hrel K H;have ab:=U0;go_wp2_with fail;refine(yyz u.out.1 B C).mono ?_;rintro x Z ⟨rfl,y⟩;have p:a (zss S lo0 lo g L m n sc top M j st f steps w s Z):=⟨u.out.1.next y,u.out.2.1,u.out.2.2.below y D.out⟩;clear y;cases i:zov m n s with
  |none=>have A:Q7 (none:Option Nat)= -1:=rfl;rw[A];have k:=e i;clear i;go_wp2_with fail;go_ret;exact⟨s,by rw[k.out];rfl,.inl k.out,p.out⟩
  |some r=>
   have J:r<m:=(znc i).1;have W:Q7 (some r)=(r:Int):=rfl;rw[W];have ag:decide ((r:Int)<0)=false:=decide_eq_false og;obtain⟨k,E⟩:=C7 i J;clear i J;go_wp2_with fail;refine(yvw E.out p.out.1 B C).mono ?_;rintro x aa ⟨rfl,z⟩;have q:a (zss S lo0 lo g L m n sc top M j st f steps w s aa):=⟨p.out.1.next z,p.out.2.1,p.out.2.2.below z D.out⟩;clear z;cases v:zpo n s r with
   |none=>have A:Q7 (none:Option Nat)= -1:=rfl;rw[A];have l:=e v;clear v;go_wp2_with fail;go_ret;exact⟨s,by rw[k.out];rfl,.inr ⟨r,k.out,l.out⟩,q.out⟩
   |some c=>obtain⟨G,i,_⟩:=znc v;have i:s.A r c<0:=of_decide_eq_true i;have X:Q7 (some c)=(c:Int):=rfl;rw[X];have af:decide ((c:Int)<0)=false:=decide_eq_false og;have l:=e (d v (d G i));clear v G i;go_wp2_with fail;refine(ylx q.out.1 q.out.2.1.inv E.out l.out.2.1 (by have:=l.out.2.2;omega) B C Q.out).mono ?_;rintro x P ⟨rfl,zmk,F⟩;have S3:a (zss S lo0 lo g L m n sc top M j st f steps w (W7 s r c) P):=⟨zmk,q.out.2.1.rep T.out U.out (yok k.out l.out.1),q.out.2.2.trans F⟩;clear zmk F;go_wp2_with fail;go_roundw;(case rel=>exact⟨_,S3.out⟩);case measure=>have ac:=yku (J:=fun b=>zss S lo0 lo g L m n sc top M j st f steps w b P) (μ:=leftO (zle m n)) S3.out;have ad:=(ykx (yvu u.out.2.1.inv) (yok k.out l.out.1)).2;have ae:=V.out;omega
theorem yxp {l:List Value} (h:l.length=3):∃a b c,l=[a,b,c]:=by
 match l,h with
 |[a,b,c],_=>exact⟨a,b,c,rfl⟩
theorem yrz {d:List Value} (h:Wid 3 d) (g:j<d.length) (x y z:Value):cellsOf (d.set j (.agg #[x,y,z]))=(((cellsOf d).set (j*3) x).set (j*3+1) y).set (j*3+2) z:=by
 induction d generalizing j with
 |nil=>simp at g
 |cons e d ih=>
  obtain⟨k,l⟩:=h.cons;obtain⟨a,b,c,hv⟩:=yxp (l:=e.cells.toList) (by rw[Array.length_toList,k]);have f:cellsOf (e::d)=a::b::c::cellsOf d:=(by simp[cellsOf,hv]);cases j with
  |zero=>rw[f,List.set_cons_zero];simp[cellsOf,Value.cells]
  |succ j=>have i:cellsOf (e::d.set j (.agg #[x,y,z]))=a::b::c::cellsOf (d.set j (.agg #[x,y,z])):=(by simp[cellsOf,hv]);rw[List.set_cons_succ,f,i,ih l (by simpa using g),show(j+1)*3=j*3+1+1+1 by omega,show j*3+1+1+1+1=j*3+1+1+1+1 from rfl];simp only[List.set_cons_succ]
theorem OwnS.set3 {i:Type} {t:TypeId} {R:World->(Nat->Prop)->Value->i->Prop} (o:Stb R) {w:World} {cap:Nat} {l:List i} (h:OwnS 3 t R w base S (.slice (some ⟨g,0,none⟩) l.length cap) l) (C:j<l.length) {x y z:Value} {r:i} (v:R w S (.agg #[x,y,z]) r):
 OwnS 3 t R (T4 w g j x y z) base S (.slice (some ⟨g,0,none⟩) (l.set j r).length cap) (l.set j r):=by
 obtain⟨k,u,m,n,f⟩:=h;have p:L8 S S w (T4 w g j x y z):=fun b c=>⟨c,fun E=>zqo (.inl fun d=>(f b c).2 (by rw[d];rfl))⟩;have D:(l.set j r).length=l.length:=List.length_set;have B:k.length=l.length:=n.1;refine⟨k.set j (.agg #[x,y,z]),?_,?_,⟨by rw[List.length_set,List.length_set];exact B,fun s a b ha c=> ?_⟩,fun b c=>⟨by rw[zrk];exact(f b c).1,fun d=>(f b c).2 (by rw[d];rfl)⟩⟩
 ·rw[D,yrz m og];exact(((u.stored (j*3) x).1.stored (j*3+1) y).1.stored (j*3+2) z).1
 ·intro d A;rcases List.mem_or_eq_of_mem_set A with e|e
  ·exact m d e
  ·rw[e];rfl
 ·by_cases q:j=s
  ·subst q;rw[List.getElem?_set_self og] at ha;rw[List.getElem?_set_self C] at c;cases ha;cases c;exact o.to v p
  ·rw[List.getElem?_set_ne q] at ha c;exact o.to (n.2 s a b ha c) p
def K5 (N off:Nat) (b0:Nat->Rat) (key:Nat->Nat) (X:Nat->Rat) (k:Nat):List Rat:=V6 N fun b=>b0 b+C9 k fun a=>if key a=off+b then X a else 0
theorem zoa (N off:Nat) (b0:Nat->Rat) (key:Nat->Nat) (X:Nat->Rat) (k:Nat):(K5 N off b0 key X k).length=N:=zwj _ _
theorem zwf (N off:Nat) (b0:Nat->Rat) (key:Nat->Nat) (X:Nat->Rat):K5 N off b0 key X 0=V6 N b0:=by unfold K5;congr 1;funext v;simp only[C9];grind
theorem yfu (N:Nat):V6 N (fun _=>0)=List.replicate N 0:=by
 unfold V6;apply List.ext_getElem
 ·simp
 ·intro c a b;simp
theorem zwe {X:Nat->Rat} (h:key k<off\/off+N<=key k):K5 N off b0 key X (k+1)=K5 N off b0 key X k:=by unfold K5 V6;refine List.map_congr_left fun a hv=> ?_;have:=List.mem_range.1 hv;rw[C9,if_neg og];grind
theorem zwd {X:Nat->Rat} (j:off<=key k) (l:key k<off+N) (f:∀a,a<k->key a≠key k) (g:b0 (key k-off)=0):K5 N off b0 key X (k+1)=(K5 N off b0 key X k).set (key k-off) (X k):=by
 apply List.ext_getElem?;intro b;rw[List.getElem?_set,zoa];by_cases hv:b<N
 ·have d:(K5 N off b0 key X (k+1))[b]? =some (b0 b+C9 (k+1) fun a=>if key a=off+b then X a else 0):=ybj hv;have e:(K5 N off b0 key X k)[b]? =some (b0 b+C9 k fun a=>if key a=off+b then X a else 0):=ybj hv;rw[d];by_cases c:key k-off=b
  ·rw[if_pos c,if_pos og,C9,if_pos og,zmf fun a h=>if_neg fun i=>f a h og,<-c,g];congr 1;grind
  ·rw[if_neg c,e,C9,if_neg og];congr 1;grind
 ·have d:(K5 N off b0 key X (k+1))[b]? =none:=List.getElem?_eq_none (by rw[zoa];omega);have e:(K5 N off b0 key X k)[b]? =none:=List.getElem?_eq_none (by rw[zoa];omega);rw[d,if_neg og,e]
theorem yjy (h:b<off\/off+N<=b):List.replicate N (0:Rat)=V6 N fun a=>if b=off+a then 1 else 0:=by rw[<-yfu];unfold V6;refine List.map_congr_left fun a hv=> ?_;have:=List.mem_range.1 hv;rw[if_neg og]
theorem yjz (h:off<=b) (e:b<off+N):(List.replicate N (0:Rat)).set (b-off) (((1:Nat):Int):Rat)=V6 N fun a=>if b=off+a then 1 else 0:=by
 apply List.ext_getElem?;intro a;rw[List.getElem?_set,List.length_replicate];by_cases hv:a<N
 ·have c:(V6 N fun a=>if b=off+a then(1:Rat) else 0)[a]? =some (if b=off+a then 1 else 0):=ybj hv;rw[c];by_cases d:b-off=a
  ·rw[if_pos d,if_pos og,if_pos og];rfl
  ·rw[if_neg d,if_neg og,List.getElem?_replicate,if_pos hv]
 ·have c:(V6 N fun a=>if b=off+a then(1:Rat) else 0)[a]? =none:=List.getElem?_eq_none (by rw[zwj];omega);rw[c,if_neg og,List.getElem?_replicate,if_neg hv]
theorem zz1403 (l:List Rat) (j:Nat) (q:Rat):C5 (l.set j q)=(C5 l).set j (E9 q):=by unfold C5;rw[List.map_set]
theorem zrm (l:List Rat):(C5 l).length=l.length:=by simp[C5]
theorem ztg {w:World} {a cap:Nat} (h:OwnS 3 37 IsR w base S (.slice (some ⟨a,0,none⟩) N cap) (C5 l)) (c:l.length=N) (e:j<N) {x y z:Value} {q:Rat} (d:IsQ w S (.agg #[x,y,z]) q):
 OwnS 3 37 IsR (T4 w a j x y z) base S (.slice (some ⟨a,0,none⟩) N cap) (C5 (l.set j q)):=by have b:(C5 l).length=N:=(by rw[zrm,c]);rw[<-b] at h;have:=OwnS.set3 IsR.stb h (j:=j) (by rw[b];exact e) d;rw[<-zz1403,zrm,List.length_set,c] at this;exact this
theorem ztf {w:World} {cap:Nat} {A:Option Addr} (h:OwnS 3 37 IsR w base S (.slice A N cap) (C5 l)) (m:l.length=N) (v:j<N):
 ∃a,A=some ⟨a,0,none⟩/\base<=a/\a<w.heap.size/\N<=cap/\cap<=9223372036854775807/\(∀o,w.frozen? ⟨a,o,none⟩=false)/\∃x y z,w.cell? ⟨a,j*3,none⟩=some x/\w.cell? ⟨a,j*3+1,none⟩=some y/\w.cell? ⟨a,j*3+2,none⟩=some z:=by have B:C5 l≠[]:=fun d=>(by have:=congrArg List.length d;rw[zrm,m] at this;simp at this;omega);obtain⟨b,c,E,G,d,p,e,n,s,f,g,t,-,-⟩:=h.shape B;simp only[Value.slice.injEq] at d;obtain⟨rfl,F,rfl⟩:=d;obtain⟨r,hr⟩:∃r,(C5 l)[j]? =some r:=⟨_,List.getElem?_eq_getElem (by rw[zrm,m];exact v)⟩;obtain⟨d,i,u⟩:=t.get hr;obtain⟨C,k,D,q,rfl,_,_⟩:=u;refine⟨b,rfl,p,(Array.getElem?_eq_some_iff.1 e).1,by rw[zrm,m] at n;exact n,by unfold maxLen at s;omega,fun o=>by simp[World.frozen?,e],_,_,_,zrv e f (zof g (i:=0) i rfl),zrv e f (zof g (i:=1) i rfl),zrv e f (zof g (i:=2) i rfl)⟩
structure ScOk (sc:Nat->Nat) (top:Nat):Prop where
 sl:∀v,(A9 (sc v)).length<=100000
 sp:∀v,0<sc v
 tl:(A9 top).length<=100000
 tp:0<top
theorem zur {z:Int} (h:Sz ((z:Int):Rat) 100000):(A9 z.natAbs).length<=100000:=by have a:=h.1;rwa[Rat.num_intCast] at a
end Go.Proofs.YtpbilanpeioonaaGreatDoor
