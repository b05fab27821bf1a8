/-
 The contract of package simplex's (*table).pivot.
-/
import Derived.Test.YtdgilbgdkmhcmaaGreatDoorProofSimplexDuals09
import Derived.Test.YtdgilbgdkmhcmaaGreatDoorProofSimplexDuals07
import Derived.Test.YtdgilbgdkmhcmaaGreatDoorProofSimplexDuals04
import Derived.Laws.OwnMore
namespace Go.Proofs.YtdgilbgdkmhcmaaGreatDoor
open Go.RowKit
set_option linter.unusedVariables false
set_option maxRecDepth 100000
set_option maxHeartbeats 8000000
open _root_.Go.Lib renaming hid → f
open _root_.Nat renaming le_refl → i, le_trans → o, lt_of_lt_of_le → q, lt_or_ge → s, zero_le → u
open _root_.Go.World renaming cell?_setCell_other → p
open _root_.And renaming intro → e
open _root_.Go.RowKit renaming Hid → d
variable {L : Lay} {M N b base c g j k lo lo0 m n off r top : Nat} {S : Nat → Prop} {b0 : Nat → Rat} {a steps : Int} {key sc : Nat → Nat} {l : List Rat} {t : TB}
theorem zz1365 {w:World} {st:Int} (h:N7 w S lo0 lo g L m n sc top t st a steps) (hr:r<m) (hc:c<n) (fp:m<=100) (db:n<=100) (bB:∀v j,v<=m->j<=n->Sz ((t.A v j:Int):Rat) 100000)
 (hs2:∀v j,v<=m->j<=n->Sz ((zmi t.A t.d r c v j:Int):Rat) 100000) (eI:(A9 t.d).length<=100000) (eH:0<t.d):
 Calls Tryz.prog 60 #[.pointer (some ⟨g,0,none⟩),.int .i64 (r:Int),.int .i64 (c:Int)] w fun A w'=>A= .returned (.tuple #[])/\N7 w' S lo0 lo g L m n sc top (P7 t r c) st a steps/\Btw lo0 lo S w w':=by
 obtain⟨aW,T,e4,bu,bI,B,R⟩:=hd7 h bB hs2 eI eH hr hc;have aO:d (lo0<=w.heap.size/\lo<=w.heap.size):=⟨o h.gS.1 (Nat.le_of_lt h.g_lt),h.tab.hlo⟩;have eK:1<=m:=og;have dc:1<=n:=og;obtain⟨fE,gn,fG,gq,D,cx,fI,fZ,⟨-,-,hD,-⟩,⟨a0,a1,bA,aC,aD⟩,-,⟨aT,-,-⟩,-⟩:=h.open;have dL:=f hD;have dd:=(h.hd r hr).1;have c3:=(h.hd r hr).2.2;have dK:=h.hv r og (by rw[J4 hr];exact dc);have cQ:=h.hv m og (by rw[U5];exact eK);have cP:=h.hv (m+1) og (by rw[X8];exact dc);have cR:=(h.basW eK).1;have cS:=(h.othW dc).1;obtain⟨cU,dv,cX,dy,-,Z,aa,aq,bv⟩:=h.elS (l:=m) (j:=r) og (by rw[U5];exact hr);obtain⟨aY,a8,cW,dx,-,ad,ae,aj,dz⟩:=h.elS (l:=r) (j:=c) og (by rw[J4 hr];exact hc);rw[zsz] at Z aa bv;rw[zpl hr] at ad ae dz;rw[dd] at bA;rw[cQ] at aC;rw[cP] at aD;rw[cR] at a0;rw[cS] at a1;rw[dK] at c3;have bD:=f (e cQ (e cP (e cR (e cS dd))));have eJ:=h.caps;have aU:∀l,l<m+2->L4 m n l<=L.cp l/\L.cp l<=9223372036854775807:=fun l aG=>(by have:=h.cap l aG;unfold maxLen at this;exact this);have ch:=f aU;have fL:n<=L.cp r:=(by have:=(aU r og).1;rwa[J4 hr] at this);have fP:L.cp r<=9223372036854775807:=(aU r og).2;have fQ:m<=L.cp m:=(by have:=(aU m og).1;rwa[U5] at this);have fR:L.cp m<=9223372036854775807:=(aU m og).2;have fS:n<=L.cp (m+1):=(by have:=(aU (m+1) og).1;rwa[X8] at this);have fT:L.cp (m+1)<=9223372036854775807:=(aU (m+1) og).2;have eo:m<=L.rc/\L.rc<=9223372036854775807/\m<=L.bc/\L.bc<=9223372036854775807/\n<=L.oc/\L.oc<=9223372036854775807:=(by unfold maxLen at eJ;omega);obtain⟨eo,fU,fV,fM,fN,fO⟩:=eo;have gl:(0:Int)<=(r:Int):=og;have gm:(r:Int)<(m:Int):=og;have gd:(0:Int)<=(c:Int):=og;have gf:(c:Int)<(n:Int):=og;have fY:=R4;obtain⟨cv,cu⟩:=C4 bv dz;obtain⟨dE,eM⟩:=nm (decide (t.A r n<0));obtain⟨dF,eN⟩:=nm ((A9 (t.A r n).natAbs).length);obtain⟨cL,dp⟩:=nm (decide (t.A r c<0));obtain⟨bC,dq⟩:=nm ((A9 (t.A r c).natAbs).length);obtain⟨an,dm⟩:=nm ((A9 1).length);obtain⟨eQ,da⟩:=nm ((A9 t.d).length);rw[<-eM] at Z cv;rw[<-eN] at aa cv;rw[<-dp] at ad cu;rw[<-dq] at ae cu;rw[<-dm] at aq cv aj cu;rw[<-da] at dL aT;obtain⟨dU,cl,dV,dW,eZ,cq⟩:=hd6 dm da dp dq (e a0 (e a1 (e bA (e aC aD)))) (e ad (e ae (e aj aT)));clear h bB hs2 eI eH hD dd dK cQ cP cR cS bv dz eJ aU eM eN dp dq dm da;clear a0 a1 aD;go_in;go_wp2_with fail;have J:=zmq bA aC c3 Z aa aq
 go_region_held3 (SH.mk _ J).s
  (exact J.out _ bel)
  (fail)
 obtain⟨dC,bZ,ac,cb,-⟩:=K7 w #[.bool dE,.slice cU dF dv,.slice cX an dy] 37;rw[bZ];obtain⟨bf,cF⟩:=nm (dC.drew);have bi:d (Below w.heap.size w bf):=(by rw[d,cF];exact⟨ac.os,ac.tape,ac.output,ac.size,ac.block⟩);have cZ:d (Row bf w.heap.size 37 [.bool dE,.slice cU dF dv,.slice cX an dy]):=(by rw[d,cF];exact cb.drew);rw[<-cF];clear cF ac cb J bZ bA aC c3 Z aa aq;obtain⟨c0,c6⟩:=nm (w.heap.size);have e1:=f c6;rw[<-c6] at cZ⊢;clear c6;have ad:=B9 bi.out cq.out.1;have ae:=B9 bi.out cq.out.2.1;have aj:=B9 bi.out cq.out.2.2.1;have aT:=B9 bi.out cq.out.2.2.2;go_wp2_with fail;have J:=hs4 ad ae aj aT
 go_region_held3 (SH.mk _ J).s
  (exact J.out _ bel)
  (fail)
 obtain⟨dC,bZ,ac,cb,-⟩:=K7 bf #[.bool cL,.slice aY bC a8,.slice cW an dx] 37;rw[bZ];obtain⟨Y,cG⟩:=nm (dC.drew);have cM:Below bf.heap.size bf Y:=(by rw[cG];exact⟨ac.os,ac.tape,ac.output,ac.size,ac.block⟩);have bj:=nB bi cM;have cY:d (Row Y bf.heap.size 37 [.bool cL,.slice aY bC a8,.slice cW an dx]):=(by rw[d,cG];exact cb.drew);have e9:=f (cZ.out.next cM);rw[<-cG];obtain⟨bw,a5⟩:=nm (bf.heap.size);have bq:d (lo<=bw/\lo<=c0):=(by rw[d,a5,e1.out];exact⟨o aO.out.2 bi.out.size,aO.out.2⟩);rw[<-a5] at cY⊢;clear cG ac cb J bZ ad ae aj aT cM a5 cZ;have bA:=B9 bj.out eZ.out.2.2.1;have V:d (lo0<=Y.heap.size/\lo<=Y.heap.size):=⟨o aO.out.1 bj.out.size,o aO.out.2 bj.out.size⟩;have fa:d (SchG Y S lo0 lo g L m n sc top (K9 t r c m n 0) (t.A m n) t.d t.bas t.oth st a steps):=(aW.out.next bj.out).nums fun l j aG _=>ywl aG;have cw:L2 (SN S lo w) (SN S lo Y) w Y:=(((Btw.refl lo0 lo S w).below bj.out aO.out.1).same fun x E=>q (aW.out.tab.sS x E) aO.out.2);obtain⟨cj,e7,dZ⟩:=G6 (IsK.stb.to dL.out cw) (IsQ.stb.to cv.out cw) (IsQ.stb.to cu.out cw);clear cw;go_wp2_with fail;clear bA;go_loopw [44,10,11,12] (fun ds _ _ _ wr=>∃v:Nat,v<=m/\ds= .int .i64 (v:Int)/\Btw lo0 lo S Y wr/\d (SchG wr S lo0 lo g L m n sc top (K9 t r c m n v) (t.A m n) t.d t.bas t.oth st a steps)) (fun ds _ _ _ _=>m-(intOf ds).toNat);case atStart=>exact⟨0,u _,rfl,Btw.refl _ _ _ _,fa.out⟩
 case round=>
  obtain⟨v,gh,rfl,c7,eL⟩:=hrel;have bE:=f c7;have K:=f eL.out;have bH:d (∀b,SN S lo wr b->C2 wr b):=K.out.sn_lt;have cJ:L2 (SN S lo Y) (SN S lo wr) Y wr:=c7.same fun x E=>q (aW.out.tab.sS x E) V.out.2;obtain⟨dN,eh,eg,ee,ec⟩:=hd5 (IsK.stb.to cj.out cJ) (bE.out.row e9.out bq.out.2) (bE.out.row cY.out bq.out.1) (IsQ.stb.to (IsQ.stb.to e7.out cJ) (F6 bH.out)) (IsQ.stb.to (IsQ.stb.to dZ.out cJ) (F6 bH.out));clear c7 eL cJ;rcases s v m with M|gg
  ·have ep:=(K.out.hd v M).2.2;have e0:=K.out.hv v og (by rw[J4 M];omega);rw[e0] at ep;have gi:(0:Int)<=(v:Int):=og;have gj:(v:Int)<(m:Int):=og;have fe:n<=L.cp v:=(by have:=(ch.out v og).1;rwa[J4 M] at this);have ff:L.cp v<=9223372036854775807:=(ch.out v og).2;have bJ:=f M;obtain⟨bL,b9,bO,lF,-,aR,aS,bx,aZ⟩:=K.out.el (l:=v) (j:=c) og (by rw[J4 M];exact R.out);obtain⟨dX,eO,dY,eP,-,u0,u1,u2,dA⟩:=K.out.el (l:=m) (j:=v) og (by rw[U5];exact M);rw[ybj M] at aR aS aZ;rw[ywi] at u0 u1 dA;have cE:=K.out.tab.line m og (by rw[U5];omega);have af:wr.frozen? ⟨L.bk m,v*3,none⟩=false:=cE.free;have ag:wr.frozen? ⟨L.bk m,v*3+1,none⟩=false:=cE.free;have ah:wr.frozen? ⟨L.bk m,v*3+2,none⟩=false:=cE.free;obtain⟨-,-,-,-,-,-,-,-,-,⟨-,-,-,aC,-⟩,-,-,-⟩:=K.out.open;rw[bD.out.1] at aC;obtain⟨Z,aa,aq⟩:=C5 eh.out;obtain⟨ad,ae,aj⟩:=C5 eg.out;obtain⟨aA,az⟩:=C4 aZ dA;obtain⟨cd,b5⟩:=nm (decide (t.A v c<0));obtain⟨cf,b7⟩:=nm ((A9 (t.A v c).natAbs).length);obtain⟨er,bV⟩:=nm (decide (t.A v n<0));obtain⟨et,bX⟩:=nm ((A9 (t.A v n).natAbs).length);rw[<-b5] at aR aA;rw[<-b7] at aS aA;rw[<-bV] at u0 az;rw[<-bX] at u1 az;rw[<-dU.out] at bx aA u2 az;clear aZ dA cE b5 b7 bV bX;by_cases c9:v=r
   ·subst c9;have fq:(((v:Int) !=(v:Int)):Bool)=false:=(by simp);clear Z aa aq ad ae aj aR aS bx u0 u1 u2 af ag ah aC;go_wp2_with fail;go_roundw;(case rel=>exact⟨v+1,bJ.out,by go_num,bE.out,K.out.nums fun l j _ _=>ywj t v c m n l j⟩);case measure=>simp[intOf];have:=bJ.out;omega
   ·have fq:(((v:Int) !=(r:Int)):Bool)=true:=(by simp;omega);have dT:=f c9;obtain⟨ay,dk,C,cc,-⟩:=K7 wr #[.bool cd,.slice bL cf b9,.slice bO an lF] 37;obtain⟨b0,bT,b2⟩:=C5 cc;have bm:=f C;have ct:=nQ aA C;have bN:=nQ az C;have bQ:=nQ ee C;have bP:=nQ ec C;have bG:=f (IsK.stb.next (IsK.stb.to dN.out (F6 bH.out)) C);have aX:d (wr.heap.size≠L.bk m):=(by rw[d];have:=K.out.tab.sep m og (by rw[U5];omega);have:=K.out.tab.hlo;omega);have X:d (bw≠L.bk m/\c0≠L.bk m/\g≠L.bk m):=(by rw[d];have I:=K.out.tab.sep m og (by rw[U5];omega);have:=bq.out;have ar:=(K.out.lS m og (by rw[U5];omega)).2.1;exact⟨by omega,by omega,Ne.symm ar⟩);obtain⟨N,G,ak⟩:=G6 (e (B9 C aC) (e b0 (e bT (e b2 (e (B9 C ad) (e (B9 C ae) (e (B9 C aj) (e (B9 C Z) (e (B9 C aa) (B9 C aq)))))))))) (e (B9 C u0) (e (B9 C u1) (B9 C u2))) (e (H8 C u0 af) (e (H8 C u1 ag) (H8 C u2 ah)));obtain⟨z,b4⟩:=nm (zkg (t.A v n) (t.A r c) (t.A v c) (t.A r n) t.d);have bt:=f b4;clear b4 cc C u0 u1 u2 af ag ah Z aa aq ad ae aj b0 bT b2 aC c9 M;go_wp2_with fail;clear dk ep aR aS bx;obtain⟨u0,u1,u2⟩:=G.out;have J:=zwv N.out.1 N.out.2.1 N.out.2.2.1 N.out.2.2.2.1 N.out.2.2.2.2.1 N.out.2.2.2.2.2.1 N.out.2.2.2.2.2.2.1 N.out.2.2.2.2.2.2.2.1 N.out.2.2.2.2.2.2.2.2.1 N.out.2.2.2.2.2.2.2.2.2;have bp:d (∀aB:World,Below ay.heap.size ay aB->Calls Tryz.prog 129 #[.agg #[.bool er,.slice dX et eO,.slice dY an eP],.agg #[.bool cL,.slice aY bC a8,.slice cW an dx],.agg #[.bool cd,.slice bL cf b9,.slice bO an lF],.agg #[.bool dE,.slice cU dF dv,.slice cX an dy],.slice D eQ cx] aB (Y0 aB (((z:Int)):Rat))):=fun aB a3=>(by have h:=zuh (IsQ.stb.next bN.out a3) (IsQ.stb.next bP.out a3) (IsQ.stb.next ct.out a3) (IsQ.stb.next bQ.out a3) (I7 (IsK.stb.next bG.out a3)) ((T.out v n (Nat.le_of_lt bJ.out) (i _)).le og) ((T.out r c (Nat.le_of_lt B.out) (Nat.le_of_lt R.out)).le og) ((T.out v c (Nat.le_of_lt bJ.out) (Nat.le_of_lt R.out)).le og) ((T.out r n (Nat.le_of_lt B.out) (i _)).le og) (o bu.out og) bI.out;rw[Rat.num_intCast,Rat.num_intCast,Rat.num_intCast,Rat.num_intCast,<-bt.out] at h;exact h);have br:=hpE v J (nA X.out.2.2 (nA aX.out (nA aX.out (nA aX.out (nA X.out.1 (nA X.out.1 (nA X.out.1 (nA X.out.2.1 (nA X.out.2.1 (nZ X.out.2.1))))))))));refine wp_region_noPanic ?_;refine zkw J fun ai=> ?_;refine sT 0 56 ?_;refine sT 1 57 ?_;refine sT 2 58 ?_;refine sT 3 59 ?_;refine sT 4 60 ?_;refine sT 5 61 ?_;refine sT 6 62 ?_;refine sT 7 63 ?_;refine sT 8 64 ?_;refine sT 9 65 ?_;refine sT 10 66 ?_;refine sT 11 67 ?_;refine sT 12 68 ?_;refine sT 14 70 ?_;refine sT 15 71 ?_;refine sT 16 72 ?_;refine sT 17 73 ?_;refine wpAnyH_ready (rs:=[13]) kr (by simp) ?_;refine AllReadyH.cons rfl (fun O F=> ?_) AllReadyH.nil;go_simp;refine F.out _ _ (J.out _ bel) (fun ai=> ?_);clear F O;refine sP ?_;refine wpAnyH_ready (rs:=[18]) kr (by simp) ?_;refine AllReadyH.cons rfl (fun O F=> ?_) AllReadyH.nil;go_simp;go_at_call 129;(with_reducible refine Calls.mono (bp.out _ bel) ?_)
    rintro A aM ⟨⟨eV,rfl,au⟩,cB⟩;have Q:=bW ay aM;obtain⟨bK,b8,bM,ca,rfl⟩:=zkh au;have aJ:=B9 Q.out G.out.1;have aK:=B9 Q.out G.out.2.1;have aL:=B9 Q.out G.out.2.2;have af:=H8 Q.out G.out.1 ak.out.1;have ag:=H8 Q.out G.out.2.1 ak.out.2.1;have ah:=H8 Q.out G.out.2.2 ak.out.2.2;(focus go_wp2_with fail)
    refine F.out _ _ (J.out _ bel) (fun ai=> ?_);clear F O;refine sP ?_;refine sT 19 75 ?_;refine wpAnyH_ready (rs:=[20]) kr (by simp) ?_;refine AllReadyH.cons rfl (fun O F=> ?_) AllReadyH.nil;go_simp;refine F.out _ _ (br.out _ bel _ _ _) (fun ai=> ?_);clear F O;refine sP ?_;refine wpAnyH_done kr ?_ _;refine NoPanic.normal ?_;have dG:=f (C9 bm.out Q.out);have bR:=f (K.out.next dG.out);have dP:d (IsQ aM (SN S lo aM) (.agg #[.bool (decide (z<0)),.slice bK (A9 z.natAbs).length b8,.slice bM (A9 1).length ca]) ((z:Int):Rat)):=IsQ.stb.to au (F6 fun b P=> .inr ⟨by have I:=K.out.tab.hlo;have ar:=bm.out.size;have a2:=P.1;simp at a2;omega,P.2⟩);have M:=bJ.out;obtain⟨H,ao⟩:=C4 (bR.out.putL (l:=m) (j:=v) og (by rw[U5];exact M) dP.out) ((bE.out.below dG.out V.out.1).step (zlt (c:=L.bk m) (j:=v) (x:= .bool (decide (z<0))) (y:= .slice bK (A9 z.natAbs).length b8) (z:= .slice bM (A9 1).length ca) (H7 aM _)) V.out.1 fun x A=>by cases A;exact⟨(K.out.lS m og (by rw[U5];omega)).1,K.out.tab.sep m og (by rw[U5];omega)⟩);obtain⟨al,aI⟩:=nm (((aM.setCell ⟨(L.bk m),v*3,none⟩ (.bool (decide (z<0)))).setCell ⟨(L.bk m),v*3+1,none⟩ (.slice bK (A9 z.natAbs).length b8)).setCell ⟨(L.bk m),v*3+2,none⟩ (.slice bM (A9 1).length ca));have H:d (SchG al S lo0 lo g L m n sc top (fun k=>if k=m then(fun x=>if x=v then z else K9 t r c m n v m x) else K9 t r c m n v k) (t.A m n) t.d t.bas t.oth st a steps):=(by rw[d,aI];exact H.out);have ao:d (Btw lo0 lo S Y al):=(by rw[d,aI];exact ao.out);rw[<-aI];clear aI J br bp au cB aJ aK aL af ag ah u0 u1 u2 dP bR;go_wp2_with fail;have a9:=H.out.tab.line v og (by rw[J4 M];omega);have bd:=H.out.tab.line r (oh B) (by rw[J4 B.out];omega);rw[J4 M] at a9;rw[J4 B.out] at bd;have fu:=H.out.tab.sep v og (by rw[J4 M];omega);have fv:=H.out.tab.sep r (oh B) (by rw[J4 B.out];omega)
    have nn:∀l,l<m->¬SN S lo al (L.bk l):=fun l aG E=>by
     have I:=H.out.tab.sep l og (by rw[J4 aG];omega);rcases E with E|E
     ·exact I.2 E
     ·have:=E.1;omega
    have bU:NumS al (SN S lo al) (.slice D (A9 t.d).length cx) t.d:=by have:=IsK.stb.to cj.out (ao.out.same fun x E=>q (aW.out.tab.sS x E) V.out.2);rw[cl.out] at this;exact this
    have a6:=ydm a9 bd (fun A=>dT.out (H.out.tab.inj r v (oh B) og (by rw[J4 B.out];omega) (by rw[J4 M];omega) A).symm) (fun b P=>⟨H.out.sn_lt b P,fun A=>nn v M (by rw[<-A];exact P),fun A=>nn r B.out (by rw[<-A];exact P)⟩) bU db R.out
     (fun j a7=>by
       refine⟨?_,?_⟩
       ·rw[zqi,if_neg og,ybj M];exact T.out v j (Nat.le_of_lt M) (Nat.le_of_lt a7)
       ·rw[zqi,if_neg (oh B),zxp B.out];exact T.out r j (Nat.le_of_lt B.out) (Nat.le_of_lt a7)) bu.out bI.out
    rw[<-cl.out] at a6;refine a6.mono ?_;clear a6 a9 bd fu fv nn bU;rintro A dD ⟨rfl,eA,c8⟩
    have e2:=f (eA.mono (T:=SN S lo dD) fun x E=>by
     rcases E with E|E
     ·exact zps c8.size x E
     ·exact .inr ⟨by have:=H.out.tab.hlo;have:=E.1;omega,E.2⟩)
    have dJ:=f c8;clear eA c8;go_wp2_with fail;go_roundw;(case rel=>have c4:LineW dD (SN S lo dD) (L.bk v) (L.cp v) (L4 m n v) (zmz (if v=m then(fun x=>if x=v then z else K9 t r c m n v m x) else K9 t r c m n v v) (if r=m then(fun x=>if x=v then z else K9 t r c m n v m x) else K9 t r c m n v r) c t.d):=(by rw[J4 M];exact e2.out);have fk:=H.out.line og (by rw[J4 M];omega) dJ.out c4;refine⟨v+1,M,by go_num,ao.out.step dJ.out V.out.1 (fun x A=>by cases A;exact⟨(H.out.lS v og (by rw[J4 M];omega)).1,H.out.tab.sep v og (by rw[J4 M];omega)⟩),fk.nums fun l j _ _=> ?_⟩;rw[bt.out,zqi];exact ywk M dT.out B.out l j);case measure=>simp[intOf];omega
  ·obtain rfl:v=m:=og;obtain⟨bL,b9,bO,lF,-,aR,aS,bx,aZ⟩:=K.out.el (l:=v+1) (j:=c) og (by rw[X8];exact R.out);rw[ybi] at aR aS aZ;obtain⟨dX,eO,dY,eP,fz,fW,fJ,ga,⟨cA,eE,-,-⟩,⟨-,-,-,-,aD⟩,⟨u0,u1,u2⟩,-,-⟩:=K.out.open;rw[bD.out.2.1] at aD;have af:=cA.frozen 5;have ag:=cA.frozen 6;have ah:=cA.frozen 7;obtain⟨Z,aa,aq⟩:=C5 eh.out;obtain⟨ad,ae,aj⟩:=C5 eg.out;obtain⟨aA,az⟩:=C4 aZ (IsQ.stb.to eE (F6 bH.out));obtain⟨cd,b5⟩:=nm (decide (-(t.A v c)<0));obtain⟨cf,b7⟩:=nm ((A9 (-(t.A v c)).natAbs).length);obtain⟨er,bV⟩:=nm (decide (t.A v n<0));obtain⟨et,bX⟩:=nm ((A9 (t.A v n).natAbs).length);rw[<-b5] at aR aA;rw[<-b7] at aS aA;rw[<-bV] at u0 az;rw[<-bX] at u1 az;rw[<-dU.out] at bx aA u2 az;have fe:n<=L.cp (v+1):=(by have:=(ch.out (v+1) og).1;rwa[X8] at this);have ff:L.cp (v+1)<=9223372036854775807:=(ch.out (v+1) og).2;obtain⟨ay,dk,C,cc,-⟩:=K7 wr #[.bool cd,.slice bL cf b9,.slice bO an lF] 37;obtain⟨b0,bT,b2⟩:=C5 cc;have bm:=f C;have ct:=nQ aA C;have bN:=nQ az C;have bQ:=nQ ee C;have bP:=nQ ec C;have bG:=f (IsK.stb.next (IsK.stb.to dN.out (F6 bH.out)) C);have dS:d (g<lo/\g<wr.heap.size):=⟨K.out.gS.2.1,K.out.g_lt⟩;obtain⟨N,G,ak⟩:=G6 (e b0 (e bT (e b2 (e (B9 C ad) (e (B9 C ae) (e (B9 C aj) (e (B9 C Z) (e (B9 C aa) (B9 C aq))))))))) (e (B9 C u0) (e (B9 C u1) (B9 C u2))) (e (H8 C u0 af) (e (H8 C u1 ag) (H8 C u2 ah)));have aX:d (wr.heap.size≠g):=oH1 dS;have X:d (bw≠g/\c0≠g):=oH2 dS bq;obtain⟨z,b4⟩:=nm (zkg (t.A v n) (t.A r c) (t.A v c) (t.A r n) t.d);have bt:=f b4;clear b4 cc C u0 u1 u2 af ag ah Z aa aq ad ae aj b0 bT b2 aZ cA eE b5 b7 bV bX;go_wp2_with fail;clear dk aR aS bx aD;obtain⟨u0,u1,u2⟩:=G.out;have J:=hs9 N.out.1 N.out.2.1 N.out.2.2.1 N.out.2.2.2.1 N.out.2.2.2.2.1 N.out.2.2.2.2.2.1 N.out.2.2.2.2.2.2.1 N.out.2.2.2.2.2.2.2.1 N.out.2.2.2.2.2.2.2.2;have bp:d (∀aB:World,Below ay.heap.size ay aB->Calls Tryz.prog 131 #[.agg #[.bool cd,.slice bL cf b9,.slice bO an lF]] aB (Y0 aB (((t.A v c:Int)):Rat))):=fun aB a3=>(by have h:=zqn (IsQ.stb.next ct.out a3) (by rw[Rat.intCast_neg];exact(T.out v c (i _) (Nat.le_of_lt R.out)).neg) (show(((t.A v c:Int)):Rat)= -(((-(t.A v c):Int)):Rat) by rw[Rat.intCast_neg,Rat.neg_neg]);exact h);have br:=hpV J (nA aX.out (nA aX.out (nA aX.out (nA X.out.1 (nA X.out.1 (nA X.out.1 (nA X.out.2 (nA X.out.2 (nZ X.out.2)))))))));refine wp_region_noPanic ?_;refine zkw J fun ai=> ?_;refine sT 0 90 ?_;refine sT 1 91 ?_;refine sT 2 92 ?_;refine sT 3 93 ?_;refine sT 4 94 ?_;refine sT 6 96 ?_;refine sT 7 97 ?_;refine sT 9 99 ?_;refine sT 10 100 ?_;refine wpAnyH_ready (rs:=[5,8]) kr (by simp) ?_;refine AllReadyH.cons rfl (fun O F=> ?_) ?_;go_simp;refine F.out _ _ (J.out _ bel) (fun ai=> ?_);clear F O;refine sP ?_;refine wpAnyH_ready (rs:=[8]) kr (by simp) ?_;refine AllReadyH.cons rfl (fun O F=> ?_) AllReadyH.nil;go_simp;go_at_call 131;(with_reducible refine Calls.mono (bp.out _ bel) ?_)
   rintro A aM ⟨⟨eV,rfl,au⟩,cB⟩;have Q:=bW ay aM;obtain⟨bK,b8,bM,ca,rfl⟩:=zkh au;have cr:=f (IsQ.stb.old au);have n0:=B9 Q.out G.out.1;have eR:=B9 Q.out G.out.2.1;have eS:=B9 Q.out G.out.2.2;(focus go_wp2_with fail)
   refine F.out _ _ (J.out _ bel) (fun ai=> ?_);clear F O;refine sP ?_;refine wpAnyH_ready (rs:=[11]) kr (by simp) ?_;refine AllReadyH.cons rfl (fun O F=> ?_) AllReadyH.nil;go_simp;have a4:=zuh (IsQ.stb.next bN.out bel) (IsQ.stb.next bP.out bel) cr.out (IsQ.stb.next bQ.out bel) (I7 (IsK.stb.next bG.out bel)) ((T.out v n (i _) (i _)).le og) ((T.out r c (Nat.le_of_lt B.out) (Nat.le_of_lt R.out)).le og) ((T.out v c (i _) (Nat.le_of_lt R.out)).le og) ((T.out r n (Nat.le_of_lt B.out) (i _)).le og) (o bu.out og) bI.out;rw[Rat.num_intCast,Rat.num_intCast,Rat.num_intCast,Rat.num_intCast,<-bt.out] at a4;(with_reducible refine Calls.mono a4 ?_)
   clear a4;rintro A bg ⟨⟨fw,rfl,bY⟩,eG⟩;have U:=bW ay bg;obtain⟨cn,cH,cs,cI,rfl⟩:=zkh bY;have aJ:=B9 U.out G.out.1;have aK:=B9 U.out G.out.2.1;have aL:=B9 U.out G.out.2.2;have af:=H8 U.out G.out.1 ak.out.1;have ag:=H8 U.out G.out.2.1 ak.out.2.1;have ah:=H8 U.out G.out.2.2 ak.out.2.2;(focus go_wp2_with fail)
   refine F.out _ _ (J.out _ bel) (fun ai=> ?_);clear F O;refine sP ?_;refine sT 12 102 ?_;refine sT 13 103 ?_;refine sT 14 104 ?_;refine wpAnyH_ready (rs:=[15]) kr (by simp) ?_;refine AllReadyH.cons rfl (fun O F=> ?_) AllReadyH.nil;go_simp;refine F.out _ _ (br.out _ bel _ _ _) (fun ai=> ?_);clear F O;refine sP ?_;refine wpAnyH_done kr ?_ _;refine NoPanic.normal ?_;rotate_left 1;refine AllReadyH.cons rfl (fun O F=> ?_) ?_;go_simp;go_at_call 131;(with_reducible refine Calls.mono (bp.out _ bel) ?_)
   rintro A aM ⟨⟨eV,rfl,au⟩,cB⟩;have Q:=bW ay aM;obtain⟨bK,b8,bM,ca,rfl⟩:=zkh au;have cr:=f (IsQ.stb.old au);have n0:=B9 Q.out G.out.1;have eR:=B9 Q.out G.out.2.1;have eS:=B9 Q.out G.out.2.2;(focus go_wp2_with fail)
   refine F.out _ _ (J.out _ bel) (fun ai=> ?_);clear F O;refine sP ?_;refine wpAnyH_ready (rs:=[5]) kr (by simp) ?_;refine AllReadyH.cons rfl (fun O F=> ?_) AllReadyH.nil;go_simp;refine F.out _ _ (J.out _ bel) (fun ai=> ?_);clear F O;refine sP ?_;refine wpAnyH_ready (rs:=[11]) kr (by simp) ?_;refine AllReadyH.cons rfl (fun O F=> ?_) AllReadyH.nil;go_simp;have a4:=zuh (IsQ.stb.next bN.out bel) (IsQ.stb.next bP.out bel) cr.out (IsQ.stb.next bQ.out bel) (I7 (IsK.stb.next bG.out bel)) ((T.out v n (i _) (i _)).le og) ((T.out r c (Nat.le_of_lt B.out) (Nat.le_of_lt R.out)).le og) ((T.out v c (i _) (Nat.le_of_lt R.out)).le og) ((T.out r n (Nat.le_of_lt B.out) (i _)).le og) (o bu.out og) bI.out;rw[Rat.num_intCast,Rat.num_intCast,Rat.num_intCast,Rat.num_intCast,<-bt.out] at a4;(with_reducible refine Calls.mono a4 ?_)
   clear a4;rintro A bg ⟨⟨fw,rfl,bY⟩,eG⟩;have U:=bW ay bg;obtain⟨cn,cH,cs,cI,rfl⟩:=zkh bY;have aJ:=B9 U.out G.out.1;have aK:=B9 U.out G.out.2.1;have aL:=B9 U.out G.out.2.2;have af:=H8 U.out G.out.1 ak.out.1;have ag:=H8 U.out G.out.2.1 ak.out.2.1;have ah:=H8 U.out G.out.2.2 ak.out.2.2;(focus go_wp2_with fail)
   refine F.out _ _ (J.out _ bel) (fun ai=> ?_);clear F O;refine sP ?_;refine sT 12 102 ?_;refine sT 13 103 ?_;refine sT 14 104 ?_;refine wpAnyH_ready (rs:=[15]) kr (by simp) ?_;refine AllReadyH.cons rfl (fun O F=> ?_) AllReadyH.nil;go_simp;refine F.out _ _ (br.out _ bel _ _ _) (fun ai=> ?_);clear F O;refine sP ?_;refine wpAnyH_done kr ?_ _;refine NoPanic.normal ?_;rotate_left 1;exact AllReadyH.nil
   all_goals
    have bR:=f (K.out.next (C9 bm.out U.out))
    have dQ:d (IsQ bg (SN S lo bg) (.agg #[.bool (decide (z<0)),.slice cn (A9 z.natAbs).length cH,.slice cs (A9 1).length cI]) ((z:Int):Rat)):=IsQ.stb.to bY (F6 fun b P=> .inr ⟨by have I:=K.out.tab.hlo;have ar:=bm.out.size;have a2:=Q.out.size;have cy:=P.1;(try simp at cy);omega,P.2⟩)
    obtain⟨H,ao⟩:=C4 (bR.out.value dQ.out) ((bE.out.below (C9 bm.out U.out) V.out.1).step (zzz bg g (.bool (decide (z<0))) (.slice cn (A9 z.natAbs).length cH) (.slice cs (A9 1).length cI)) V.out.1 fun x A=>by cases A;exact K.out.gS)
    obtain⟨al,aI⟩:=nm (((bg.setCell ⟨g,5,none⟩ (.bool (decide (z<0)))).setCell ⟨g,6,none⟩ (.slice cn (A9 z.natAbs).length cH)).setCell ⟨g,7,none⟩ (.slice cs (A9 1).length cI))
    have H:d (SchG al S lo0 lo g L v n sc top (K9 t r c v n v) z t.d t.bas t.oth st a steps):=by rw[d,aI];exact H.out
    have ao:d (Btw lo0 lo S Y al):=by rw[d,aI];exact ao.out
    rw[<-aI]
    clear aI J br bp au cB bY eG aJ aK aL af ag ah u0 u1 u2 dQ bR cr Q U n0 eR eS G ak N ct bN bQ bP bG
    obtain⟨-,-,-,-,-,-,-,-,-,⟨-,-,-,-,aD⟩,-,-,-⟩:=H.out.open
    rw[bD.out.2.1] at aD
    go_wp2_with fail
    clear aD
    have a9:=H.out.tab.line (v+1) og (by rw[X8];omega)
    have bd:=H.out.tab.line r (oh B) (by rw[J4 B.out];omega)
    rw[X8] at a9
    rw[J4 B.out] at bd
    have nn:∀l,l<v+2->1<=L4 v n l->¬SN S lo al (L.bk l):=fun l aG fj E=>by
     have I:=H.out.tab.sep l aG fj
     rcases E with E|E
     ·exact I.2 E
     ·have:=E.1;omega
    have bU:NumS al (SN S lo al) (.slice D (A9 t.d).length cx) t.d:=by
     have:=IsK.stb.to cj.out (ao.out.same fun x E=>q (aW.out.tab.sS x E) V.out.2)
     rw[cl.out] at this
     exact this
    have a6:=ydm a9 bd (fun A=>by have:=H.out.tab.inj r (v+1) (oh B) og (by rw[J4 B.out];omega) (by rw[X8];omega) A;have:=B.out;omega) (fun b P=>⟨H.out.sn_lt b P,fun A=>nn (v+1) og (by rw[X8];omega) (by rw[<-A];exact P),fun A=>nn r (oh B) (by rw[J4 B.out];omega) (by rw[<-A];exact P)⟩) bU db R.out
     (fun j a7=>⟨by rw[ybi,Rat.intCast_neg];exact(T.out v j (i _) (Nat.le_of_lt a7)).neg,by rw[zxp B.out];exact T.out r j (Nat.le_of_lt B.out) (Nat.le_of_lt a7)⟩) bu.out bI.out
    rw[<-cl.out] at a6
    refine a6.mono ?_
    clear a6 a9 bd nn bU
    rintro A bh ⟨rfl,eB,cC⟩
    have dO:d (LineW bh (SN S lo bh) (L.bk (v+1)) (L.cp (v+1)) n (zmz (K9 t r c v n v (v+1)) (K9 t r c v n v r) c t.d)):=eB.mono fun x E=>by
     rcases E with E|E
     ·exact zps cC.size x E
     ·exact .inr ⟨by have:=H.out.tab.hlo;have:=E.1;omega,E.2⟩
    have aP:d (SchG bh S lo0 lo g L v n sc top (fun k=>if k=v+1 then zmz (K9 t r c v n v (v+1)) (K9 t r c v n v r) c t.d else K9 t r c v n v k) z t.d t.bas t.oth st a steps):=by
     have c4:LineW bh (SN S lo bh) (L.bk (v+1)) (L.cp (v+1)) (L4 v n (v+1)) (zmz (K9 t r c v n v (v+1)) (K9 t r c v n v r) c t.d):=by rw[X8];exact dO.out
     exact H.out.line og (by rw[X8];omega) cC c4
    have cN:=f (ao.out.step cC V.out.1 (fun x A=>by cases A;exact⟨(H.out.lS (v+1) og (by rw[X8];omega)).1,H.out.tab.sep (v+1) og (by rw[X8];omega)⟩))
    clear eB cC dO H ao
    go_wp2_with fail
    have ez:IsN bh 0 bh.heap.size (.slice D eQ cx) t.d:=I7 (IsK.stb.to (IsK.stb.to cj.out (cN.out.same fun x E=>q (aW.out.tab.sS x E) V.out.2)) (F6 aP.out.sn_lt))
    obtain⟨y,dn⟩:=nm (((t.d:Nat):Int):Int)
    have e3:=f dn
    have dj:=ycm ez (o bu.out og)
    rw[<-dn] at dj
    clear dn
    refine dj.mono ?_
    clear dj
    clear ez
    rintro A cK ⟨⟨gu,rfl,de⟩,aE⟩
    obtain⟨cT,du,cV,dw,rfl⟩:=zkh de
    obtain⟨fF,gp,fH,gr,-,aJ,aK,aL,-⟩:=aP.out.el (l:=r) (j:=c) (oh B) (by rw[J4 B.out];exact R.out)
    have cD:=aP.out.tab.line r (oh B) (by rw[J4 B.out];omega)
    have af:=H8 aE aJ cD.free
    have ag:=H8 aE aK cD.free
    have ah:=H8 aE aL cD.free
    replace aJ:=B9 aE aJ
    replace aK:=B9 aE aK
    replace aL:=B9 aE aL
    have dR:d (IsQ cK (SN S lo cK) (.agg #[.bool (decide (y<0)),.slice cT (A9 y.natAbs).length du,.slice cV (A9 1).length dw]) ((y:Int):Rat)):=IsQ.stb.to de (F6 fun b P=> .inr ⟨o aP.out.tab.hlo P.1,P.2⟩)
    obtain⟨W,bF⟩:=C4 ((aP.out.next aE).putL (l:=r) (j:=c) (oh B) (by rw[J4 B.out];exact R.out) dR.out) ((cN.out.below aE V.out.1).step (zlt (c:=L.bk r) (j:=c) (x:= .bool (decide (y<0))) (y:= .slice cT (A9 y.natAbs).length du) (z:= .slice cV (A9 1).length dw) (H7 cK _)) V.out.1 fun x A=>by cases A;exact⟨(aP.out.lS r (oh B) (by rw[J4 B.out];omega)).1,aP.out.tab.sep r (oh B) (by rw[J4 B.out];omega)⟩)
    clear de aE cD aP cN dR
    obtain⟨aN,b3⟩:=nm (((cK.setCell ⟨L.bk r,c*3,none⟩ (.bool (decide (y<0)))).setCell ⟨L.bk r,c*3+1,none⟩ (.slice cT (A9 y.natAbs).length du)).setCell ⟨L.bk r,c*3+2,none⟩ (.slice cV (A9 1).length dw))
    have W:d (SchG aN S lo0 lo g L v n sc top (W8 (zog t r c) v n) z t.d t.bas t.oth st a steps):=by
     rw[d,b3]
     exact W.out.nums fun l j aG a7=>by
      rw[e3.out,zqi,zqi,zqi]
      exact ywh B.out R.out aG a7
    have bF:d (Btw lo0 lo S Y aN):=by rw[d,b3];exact bF.out
    have e8:=bF.out.row cY.out bq.out.1
    have ed:=f (IsQ.stb.to dZ.out (bF.out.same fun x E=>q (aW.out.tab.sS x E) V.out.2))
    obtain⟨e5,fr,e6,fs,fD,fX,fb,fc,⟨c5,eF,-,eD⟩,⟨a0,a1,-,-,-⟩,-,⟨aT,-,-⟩,-⟩:=W.out.open
    have dI:=c5.frozen 8
    obtain⟨eT,eU,ft⟩:=C5 e8
    have dM:d (NumS aN (SN S lo aN) (.slice aY bC a8) (t.A r c).natAbs):=by
     have:=znd ed.out
     rwa[Rat.num_intCast] at this
    rw[bD.out.2.2.1] at a0
    rw[bD.out.2.2.2.1] at a1
    have dr:=(W.out.basW og).2
    have dt:=(W.out.othW og).2
    have c1:=dr.el r B.out
    have c2:=dt.el c R.out
    have eu:aN.frozen? ⟨L.bb,r,none⟩=false:=dr.free
    have ev:aN.frozen? ⟨L.ob,c,none⟩=false:=dt.free
    obtain⟨fx,df⟩:=nm (t.bas.getD r 0)
    obtain⟨dB,dh⟩:=nm (t.oth.getD c 0)
    rw[<-df] at c1
    rw[<-dh] at c2
    obtain⟨cm,ck⟩:=C4 (e df dh) (e c5 (e eF eD))
    have fm:g≠L.bb:=Ne.symm (W.out.bS og).2.2.2
    have fo:g≠L.ob:=Ne.symm (W.out.oS og).2.2.2
    have fl:L.bb≠L.ob:=W.out.bo og og
    have a5:bw≠g/\bw≠L.bb/\bw≠L.ob:=by
     have I:=bq.out.1
     have ar:=(W.out.bS og).2.1
     have a2:=(W.out.oS og).2.1
     have cy:=W.out.gS.2.1
     exact⟨by omega,by omega,by omega⟩
    obtain⟨av,aH⟩:=nm (aN.setCell ⟨g,8,none⟩ (.slice aY bC a8))
    have cz:∀b be,b≠g->av.cell? ⟨b,be,none⟩=aN.cell? ⟨b,be,none⟩:=fun b be P=>by rw[aH];exact p _ _ _ _ (fun A=>by injection A with I ar;exact P I.symm)
    have Z:av.cell? ⟨g,0,none⟩=some (.slice (some ⟨L.bb,0,none⟩) v L.bc):=by rw[aH,p _ _ _ _ (fun A=>by injection A with I ar;omega)];exact a0
    have aa:av.cell? ⟨g,1,none⟩=some (.slice (some ⟨L.ob,0,none⟩) n L.oc):=by rw[aH,p _ _ _ _ (fun A=>by injection A with I ar;omega)];exact a1
    have ab:=(cz _ r (Ne.symm fm)).trans c1
    have em:=(cz _ c (Ne.symm fo)).trans c2
    have bv:=(cz _ 0 a5.1).trans eT
    have fh:av.frozen? ⟨L.bb,r,none⟩=false:=by rw[aH];simpa using eu
    have fi:av.frozen? ⟨L.ob,c,none⟩=false:=by rw[aH];simpa using ev
    have cO:d (aN.grownBy av (some g)):=by rw[d,aH];exact I0 _ _ _ _
    have aQ:d (SchG av S lo0 lo g L v n sc top (W8 (zog t r c) v n) z (t.A r c).natAbs t.bas t.oth st a steps):=by
     have bB:=W.out.same cO.out fun b A=>by cases A;exact W.out.gS.2
     refine W.out.cells cO.out ⟨e5,fr,e6,fs,aY,a8,fb,fc,?_,IsQ.stb.to ck.out.2.1 bB,?_,IsK.stb.to ck.out.2.2 bB⟩
     ·have I:=ck.out.1.set_ 8 (.slice aY bC a8)
      rw[<-aH,dW.out] at I
      exact I
     ·have I:=IsK.stb.to dM.out bB
      rw[dW.out] at I
      exact I
    have eW:=f (bF.out.step cO.out V.out.1 fun x A=>by cases A;exact W.out.gS)
    rw[b3] at eU aT dI
    clear c5 eF eD dr dt cz df dh c1 c2 eu ev dM ed ck a0 a1 eT ft
    go_wp2_with fail
    rw[<-b3,<-aH]
    clear b3 aH dI aT eU aJ aK aL af ag ah
    obtain⟨aV,b1⟩:=nm ((av.setCell ⟨L.bb,r,none⟩ (.int .i64 ((dB:Nat):Int))).setCell ⟨L.ob,c,none⟩ (.int .i64 ((fx:Nat):Int)))
    have ej:d (N7 aV S lo0 lo g L v n sc top (zog t r c) st a steps):=by
     have I:=aQ.out.ints B.out R.out
     rw[<-cm.out.1,<-cm.out.2,<-b1] at I
     have A:z=(zog t r c).A v n:=by
      rw[bt.out]
      show _=zkk t.A t.d r c v n
      unfold zkk
      rw[if_neg (oh B),if_neg (oh R)]
     rw[A] at I
     rw[cm.out.1,cm.out.2] at I
     exact I
    have ew:∀b be,b≠L.bb->b≠L.ob->aV.cell? ⟨b,be,none⟩=av.cell? ⟨b,be,none⟩:=fun b be I ar=>by
     rw[b1,p _ _ _ _ (fun A=>by injection A with a2 cy;exact ar a2.symm),p _ _ _ _ (fun A=>by injection A with a2 cy;exact I a2.symm)]
    have en:=(ew _ 0 a5.2.1 a5.2.2).trans bv
    have eX:d (Btw lo0 lo S Y aV):=by
     rw[d,b1]
     refine(eW.out.step (I0 _ _ _ _) V.out.1 fun x A=> ?_).step (I0 _ _ _ _) V.out.1 fun x A=> ?_
     ·cases A;exact⟨(aQ.out.bS og).1,(aQ.out.bS og).2.1,(aQ.out.bS og).2.2.1⟩
     ·cases A;exact⟨(aQ.out.oS og).1,(aQ.out.oS og).2.1,(aQ.out.oS og).2.2.1⟩
    have eY:d (Btw lo0 lo S w aV):=(((Btw.refl lo0 lo S w).below bj.out aO.out.1).trans eX.out)
    have fg:(av.setCell ⟨L.bb,r,none⟩ (.int .i64 ((dB:Nat):Int))).cell? ⟨L.ob,c,none⟩=some (.int .i64 ((dB:Nat):Int)):=by
     rw[p _ _ _ _ (fun A=>by injection A with I ar;exact fl I)];exact em
    clear ew
    go_region
    rw[<-b1]
    obtain⟨fy,di⟩:=nm (aV.drew)
    have cg:Below aV.heap.size aV fy:=by rw[di];exact Z8 aV
    obtain⟨ek,dH⟩:=C4 (ej.out.next cg) (eY.out.below cg aO.out.1)
    have fK:=B9 cg en
    rw[<-di]
    clear b1 di en cg ej aQ fg bv ab em Z aa fh fi
    cases cL with
    |false=>
     go_wp2_with fail
     refine bodyPost_end (results_none rfl _ _ _) rfl ?_
     rw[<-ywo (of_decide_eq_false dV.out.symm)]
     exact⟨rfl,ek.out,dH.out⟩
    |true=>
     go_wp2_with fail
     refine(zz1359 ek.out fp db (ywp e4.out)).mono ?_
     rintro A gv ⟨rfl,eC,ey⟩
     have ei:=f (e eC ey)
     clear eC ey
     go_wp2_with fail
     refine bodyPost_end (results_none rfl _ _ _) rfl ?_
     rw[<-ywn (of_decide_eq_true dV.out.symm)]
     exact⟨rfl,ei.out.1,dH.out.trans ei.out.2⟩
theorem zz1352 {z:Int} {a:Nat} (h:z.natAbs<=a) (hF:(A9 a).length<=k) (b:1<=k):Sz ((z:Int):Rat) k:=by
 refine⟨?_,?_⟩
 ·rw[Rat.num_intCast];exact o (U1 h) hF
 ·rw[Rat.den_intCast,Y5];exact b
theorem TInv.sz (h:TInv M m n t) (hF:(A9 (K0 M (m+1))).length<=k) (b:1<=k):(∀a j,a<=m->j<=n->Sz ((t.A a j:Int):Rat) k)/\(A9 t.d).length<=k:=
 ⟨fun a j c d=>zz1352 (h.small.2 a j c d) hF b,o (U1 h.small.1) hF⟩
theorem yhx {w:World} {st:Int} (h:N7 w S lo0 lo g L m n sc top t st a steps) (b:TInv M m n t) (hr:r<m) (hc:c<n) (i:t.A r c≠0) (e:m<=100) (f:n<=100) (hF:(A9 (K0 M (m+1))).length<=100000):
 Calls Tryz.prog 60 #[.pointer (some ⟨g,0,none⟩),.int .i64 (r:Int),.int .i64 (c:Int)] w fun d w'=>d= .returned (.tuple #[])/\N7 w' S lo0 lo g L m n sc top (P7 t r c) st a steps/\Btw lo0 lo S w w':=
 zz1365 h hr hc e f (b.sz hF og).1 ((b.piv hr hc i).sz hF og).1 (b.sz hF og).2 b.d0
def zpy (S:Nat->Prop) (lo0 lo g:Nat) (L:Lay) (m n:Nat) (sc:Nat->Nat) (top M:Nat) (b:Dic) (st a steps:Int) (c:World) (t:TB) (w:World):Prop:=
 N7 w S lo0 lo g L m n sc top t st a steps/\OkT M m n sc top b t/\Btw lo0 lo S c w
theorem ykh (a:znf m n t=some r) (b:zns n t r=some c):Z6 m n t=some (P7 t r c):=by unfold Z6;rw[a];show(match zns n t r with|none=>none|some c=>some (P7 t r c))=_;rw[b]
theorem yxw {w:World} {j:Dic} {st:Int} (h:N7 w S lo0 lo g L m n sc top t st a steps) (I:OkT M m n sc top j t) (B:m<=100) (C:n<=100) (hF:(A9 (K0 M (m+1))).length<=100000) (N:∀Y,0<sc Y) (O:0<top):
 Calls Tryz.prog 58 #[.pointer (some ⟨g,0,none⟩)] w fun x w'=>∃b,x= .returned (.int .i64 (M7 (znf m n b)))/\(znf m n b=none\/∃r,znf m n b=some r/\zns n b r=none)/\zpy S lo0 lo g L m n sc top M j st a steps w b w':=by
 obtain⟨Q,T,U⟩:=G6 hF N O;have R:d (zpy S lo0 lo g L m n sc top M j st a steps w t w):=⟨h,I,Btw.refl _ _ _ _⟩;have D:d (lo0<=w.heap.size):=o h.gS.1 (Nat.le_of_lt h.g_lt);clear h I hF N O;go_in;go_wp2_with fail;go_loopw [3,4] (fun _ _ wr=>∃b,zpy S lo0 lo g L m n sc top M j st a steps w b wr) (fun _ _ wr=>leastM (fun b=>zpy S lo0 lo g L m n sc top M j st a steps w b wr) (leftO (Z6 m n)));case atStart=>exact⟨t,R.out⟩
 case round=>
  obtain⟨s,K,H⟩:=ygq (μ:=leftO (Z6 m n)) hrel;obtain⟨u,V⟩:=C4 K H;clear hrel K H;have ac:=R4;go_wp2_with fail;refine(yur u.out.1 B C).mono ?_;rintro x Z ⟨rfl,y⟩;have p:d (zpy S lo0 lo g L m n sc top M j st a steps w s Z):=⟨u.out.1.next y,u.out.2.1,u.out.2.2.below y D.out⟩;clear y;cases i:znf m n s with
  |none=>have A:M7 (none:Option Nat)= -1:=rfl;rw[A];have k:=f i;clear i;go_wp2_with fail;go_ret;exact⟨s,by rw[k.out];rfl,.inl k.out,p.out⟩
  |some r=>
   have J:r<m:=(zlq i).1;have W:M7 (some r)=(r:Int):=rfl;rw[W];have ah:decide ((r:Int)<0)=false:=decide_eq_false og;obtain⟨k,E⟩:=C4 i J;clear i J;go_wp2_with fail;refine(yrv E.out p.out.1 B C).mono ?_;rintro x aa ⟨rfl,z⟩;have q:d (zpy S lo0 lo g L m n sc top M j st a steps w s aa):=⟨p.out.1.next z,p.out.2.1,p.out.2.2.below z D.out⟩;clear z;cases v:zns n s r with
   |none=>have A:M7 (none:Option Nat)= -1:=rfl;rw[A];have l:=f v;clear v;go_wp2_with fail;go_ret;exact⟨s,by rw[k.out];rfl,.inr ⟨r,k.out,l.out⟩,q.out⟩
   |some c=>obtain⟨G,i,_⟩:=zlq v;have i:s.A r c<0:=of_decide_eq_true i;have X:M7 (some c)=(c:Int):=rfl;rw[X];have ag:decide ((c:Int)<0)=false:=decide_eq_false og;have l:=f (e v (e G i));clear v G i;go_wp2_with fail;refine(yhx q.out.1 q.out.2.1.inv E.out l.out.2.1 (by have:=l.out.2.2;omega) B C Q.out).mono ?_;rintro x P ⟨rfl,zmp,F⟩;have S3:d (zpy S lo0 lo g L m n sc top M j st a steps w (P7 s r c) P):=⟨zmp,q.out.2.1.rep T.out U.out (ykh k.out l.out.1),q.out.2.2.trans F⟩;clear zmp F;go_wp2_with fail;go_roundw;(case rel=>exact⟨_,S3.out⟩);case measure=>have ad:=ygr (J:=fun b=>zpy S lo0 lo g L m n sc top M j st a steps w b P) (μ:=leftO (Z6 m n)) S3.out;have ae:=(ygu (yrt u.out.2.1.inv) (ykh k.out l.out.1)).2;have af:=V.out;omega
theorem ytc {l:List Value} (h:l.length=3):∃a b c,l=[a,b,c]:=by
 match l,h with
 |[a,b,c],_=>exact⟨a,b,c,rfl⟩
theorem ynq {g:List Value} (h:Wid 3 g) (m:j<g.length) (x y z:Value):cellsOf (g.set j (.agg #[x,y,z]))=(((cellsOf g).set (j*3) x).set (j*3+1) y).set (j*3+2) z:=by
 induction g generalizing j with
 |nil=>simp at m
 |cons k g ih=>
  obtain⟨r,t⟩:=h.cons;obtain⟨a,b,c,hv⟩:=ytc (l:=k.cells.toList) (by rw[Array.length_toList,r]);have l:cellsOf (k::g)=a::b::c::cellsOf g:=(by simp[cellsOf,hv]);cases j with
  |zero=>rw[l,List.set_cons_zero];simp[cellsOf,Value.cells]
  |succ j=>have n:cellsOf (k::g.set j (.agg #[x,y,z]))=a::b::c::cellsOf (g.set j (.agg #[x,y,z])):=(by simp[cellsOf,hv]);rw[List.set_cons_succ,l,n,ih t (by simpa using m),show(j+1)*3=j*3+1+1+1 by omega,show j*3+1+1+1+1=j*3+1+1+1+1 from rfl];simp only[List.set_cons_succ]
theorem OwnS.set3 {i:Type} {t:TypeId} {R:World->(Nat->Prop)->Value->i->Prop} (o:Stb R) {w:World} {cap:Nat} {l:List i} (h:OwnS 3 t R w base S (.slice (some ⟨g,0,none⟩) l.length cap) l) (C:j<l.length) {x y z:Value} {r:i} (v:R w S (.agg #[x,y,z]) r):
 OwnS 3 t R (M8 w g j x y z) base S (.slice (some ⟨g,0,none⟩) (l.set j r).length cap) (l.set j r):=by
 obtain⟨k,u,m,n,f⟩:=h;have p:L2 S S w (M8 w g j x y z):=fun b c=>⟨c,fun E=>zoh (.inl fun d=>(f b c).2 (by rw[d];rfl))⟩;have D:(l.set j r).length=l.length:=List.length_set;have B:k.length=l.length:=n.1;refine⟨k.set j (.agg #[x,y,z]),?_,?_,⟨by rw[List.length_set,List.length_set];exact B,fun s a b ha c=> ?_⟩,fun b c=>⟨by rw[zov];exact(f b c).1,fun d=>(f b c).2 (by rw[d];rfl)⟩⟩
 ·rw[D,ynq m og];exact(((u.stored (j*3) x).1.stored (j*3+1) y).1.stored (j*3+2) z).1
 ·intro d A;rcases List.mem_or_eq_of_mem_set A with e|e
  ·exact m d e
  ·rw[e];rfl
 ·by_cases q:j=s
  ·subst q;rw[List.getElem?_set_self og] at ha;rw[List.getElem?_set_self C] at c;cases ha;cases c;exact o.to v p
  ·rw[List.getElem?_set_ne q] at ha c;exact o.to (n.2 s a b ha c) p
def I9 (N off:Nat) (b0:Nat->Rat) (key:Nat->Nat) (X:Nat->Rat) (k:Nat):List Rat:=L5 N fun b=>b0 b+C3 k fun a=>if key a=off+b then X a else 0
theorem zml (N off:Nat) (b0:Nat->Rat) (key:Nat->Nat) (X:Nat->Rat) (k:Nat):(I9 N off b0 key X k).length=N:=zkn _ _
theorem ztp (N off:Nat) (b0:Nat->Rat) (key:Nat->Nat) (X:Nat->Rat):I9 N off b0 key X 0=L5 N b0:=by unfold I9;congr 1;funext v;simp only[C3];grind
theorem ycl (N:Nat):L5 N (fun _=>0)=List.replicate N 0:=by
 unfold L5;apply List.ext_getElem
 ·simp
 ·intro c a b;simp
theorem zto {X:Nat->Rat} (h:key k<off\/off+N<=key k):I9 N off b0 key X (k+1)=I9 N off b0 key X k:=by unfold I9 L5;refine List.map_congr_left fun a hv=> ?_;have:=List.mem_range.1 hv;rw[C3,if_neg og];grind
theorem ztn {X:Nat->Rat} (j:off<=key k) (l:key k<off+N) (f:∀a,a<k->key a≠key k) (g:b0 (key k-off)=0):I9 N off b0 key X (k+1)=(I9 N off b0 key X k).set (key k-off) (X k):=by
 apply List.ext_getElem?;intro b;rw[List.getElem?_set,zml];by_cases hv:b<N
 ·have d:(I9 N off b0 key X (k+1))[b]? =some (b0 b+C3 (k+1) fun a=>if key a=off+b then X a else 0):=zse hv;have e:(I9 N off b0 key X k)[b]? =some (b0 b+C3 k fun a=>if key a=off+b then X a else 0):=zse hv;rw[d];by_cases c:key k-off=b
  ·rw[if_pos c,if_pos og,C3,if_pos og,zkl fun a h=>if_neg fun i=>f a h og,<-c,g];congr 1;grind
  ·rw[if_neg c,e,C3,if_neg og];congr 1;grind
 ·have d:(I9 N off b0 key X (k+1))[b]? =none:=List.getElem?_eq_none (by rw[zml];omega);have e:(I9 N off b0 key X k)[b]? =none:=List.getElem?_eq_none (by rw[zml];omega);rw[d,if_neg og,e]
theorem yga (h:b<off\/off+N<=b):List.replicate N (0:Rat)=L5 N fun a=>if b=off+a then 1 else 0:=by rw[<-ycl];unfold L5;refine List.map_congr_left fun a hv=> ?_;have:=List.mem_range.1 hv;rw[if_neg og]
theorem ygb (h:off<=b) (e:b<off+N):(List.replicate N (0:Rat)).set (b-off) (((1:Nat):Int):Rat)=L5 N fun a=>if b=off+a then 1 else 0:=by
 apply List.ext_getElem?;intro a;rw[List.getElem?_set,List.length_replicate];by_cases hv:a<N
 ·have c:(L5 N fun a=>if b=off+a then(1:Rat) else 0)[a]? =some (if b=off+a then 1 else 0):=zse hv;rw[c];by_cases d:b-off=a
  ·rw[if_pos d,if_pos og,if_pos og];rfl
  ·rw[if_neg d,if_neg og,List.getElem?_replicate,if_pos hv]
 ·have c:(L5 N fun a=>if b=off+a then(1:Rat) else 0)[a]? =none:=List.getElem?_eq_none (by rw[zkn];omega);rw[c,if_neg og,List.getElem?_replicate,if_neg hv]
theorem yxf (l:List Rat) (j:Nat) (q:Rat):C0 (l.set j q)=(C0 l).set j (E7 q):=by unfold C0;rw[List.map_set]
theorem zow (l:List Rat):(C0 l).length=l.length:=by simp[C0]
theorem zqr {w:World} {a cap:Nat} (h:OwnS 3 37 IsR w base S (.slice (some ⟨a,0,none⟩) N cap) (C0 l)) (c:l.length=N) (e:j<N) {x y z:Value} {q:Rat} (d:IsQ w S (.agg #[x,y,z]) q):
 OwnS 3 37 IsR (M8 w a j x y z) base S (.slice (some ⟨a,0,none⟩) N cap) (C0 (l.set j q)):=by have b:(C0 l).length=N:=(by rw[zow,c]);rw[<-b] at h;have:=OwnS.set3 IsR.stb h (j:=j) (by rw[b];exact e) d;rw[<-yxf,zow,List.length_set,c] at this;exact this
theorem zqq {w:World} {cap:Nat} {A:Option Addr} (h:OwnS 3 37 IsR w base S (.slice A N cap) (C0 l)) (m:l.length=N) (v:j<N):
 ∃a,A=some ⟨a,0,none⟩/\base<=a/\a<w.heap.size/\N<=cap/\cap<=9223372036854775807/\(∀o,w.frozen? ⟨a,o,none⟩=false)/\∃x y z,w.cell? ⟨a,j*3,none⟩=some x/\w.cell? ⟨a,j*3+1,none⟩=some y/\w.cell? ⟨a,j*3+2,none⟩=some z:=by have B:C0 l≠[]:=fun d=>(by have:=congrArg List.length d;rw[zow,m] at this;simp at this;omega);obtain⟨b,c,E,G,d,p,e,n,s,f,g,t,-,-⟩:=h.shape B;simp only[Value.slice.injEq] at d;obtain⟨rfl,F,rfl⟩:=d;obtain⟨r,hr⟩:∃r,(C0 l)[j]? =some r:=⟨_,List.getElem?_eq_getElem (by rw[zow,m];exact v)⟩;obtain⟨d,i,u⟩:=t.get hr;obtain⟨C,k,D,q,rfl,_,_⟩:=u;refine⟨b,rfl,p,(Array.getElem?_eq_some_iff.1 e).1,by rw[zow,m] at n;exact n,by unfold maxLen at s;omega,fun o=>by simp[World.frozen?,e],_,_,_,zpi e f (zop g (i:=0) i rfl),zpi e f (zop g (i:=1) i rfl),zpi e f (zop g (i:=2) i rfl)⟩
structure ScOk (sc:Nat->Nat) (top:Nat):Prop where
 sl:∀v,(A9 (sc v)).length<=100000
 sp:∀v,0<sc v
 tl:(A9 top).length<=100000
 tp:0<top
theorem zrx {z:Int} (h:Sz ((z:Int):Rat) 100000):(A9 z.natAbs).length<=100000:=by have a:=h.1;rwa[Rat.num_intCast] at a
theorem zrz {w:World} {y:Value} {l:List Nat} {C:Nat} (ha:IsL .u32 w lo C y l):
 Calls Tryz.prog 148 #[y] w fun m w'=>m= .returned (.int .i64 (L9 l))/\w=w':=by
 obtain⟨A,c,rfl,hc,H,r⟩:=ha;by_cases o:1024<l.length
 ·have a:=f (ydy o);go_in;go_wp2;go_ret;exact⟨H6 a.out.symm,rfl⟩
 ·go_in;go_wp2;go_loop [3] (fun q=>∃k:Nat,k<=l.length/\q= .int .i64 k/\d (∀j,j<k->l.getD j 0<1000000000)) (fun q=>l.length-(intOf q).toNat);case atStart=>exact⟨0,u _,rfl,fun j D=>by omega⟩
  case round=>
   obtain⟨k,I,rfl,n⟩:=hrel;by_cases i:k<l.length
   ·obtain⟨b,off,rfl,_,_,e⟩:=r (L8 (j:=k) i);obtain⟨x,g,E,B⟩:=zmn (j:=k) e i;clear e;rcases Int.lt_or_le x 1000000000 with F|F
    ·go_wp2;go_round
     case rel=>
      refine⟨k+1,i,by go_num,?_⟩;intro j D;rcases s j k with h|h
      ·exact n.out j h
      ·obtain rfl:j=k:=og;have:=g.out;omega
     case measure=>simp[intOf];omega
    ·have a:=f (ydw o (yfv i) (oh g));go_wp2;go_ret;exact⟨H6 a.out.symm,rfl⟩
   ·obtain rfl:k=l.length:=og;have t:=f (zzj o (yhe n.out));clear n;by_cases z:0<l.length
    ·obtain⟨b,off,rfl,_,_,e⟩:=r (L8 (j:=l.length-1) og);obtain⟨x,g,E,B⟩:=zmn (j:=l.length-1) e og;clear e;have v:=f (ygm z);by_cases p:x=0
     ·subst p;have a:d (L9 l=3):=(by unfold d;rw[t.out,if_pos];rw[v.out];have:=g.out;omega);go_wp2;go_ret;exact⟨H6 a.out.symm,rfl⟩
     ·have G:(x==0)=false:=beq_eq_false_iff_ne.2 p;have a:d (L9 l=0):=(by unfold d;rw[t.out,if_neg];rw[v.out];have:=g.out;omega);clear p;go_wp2;go_ret;exact⟨H6 a.out.symm,rfl⟩
    ·have m:l=[]:=List.eq_nil_of_length_eq_zero og;subst m;(have a:d (L9 []=0):=by show L9 []=0;decide);go_wp2;go_ret;exact⟨H6 a.out.symm,rfl⟩
end Go.Proofs.YtdgilbgdkmhcmaaGreatDoor
