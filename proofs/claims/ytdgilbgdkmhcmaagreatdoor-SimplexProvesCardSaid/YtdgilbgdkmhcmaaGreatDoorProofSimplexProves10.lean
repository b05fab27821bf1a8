/-
 The contract of package simplex's change.
-/
import Derived.Test.YtdgilbgdkmhcmaaGreatDoorProofSimplexProves09
namespace Go.Proofs.YtdgilbgdkmhcmaaGreatDoor
open Go.RowKit
set_option linter.unusedVariables false
set_option maxRecDepth 100000
set_option maxHeartbeats 8000000
open _root_.Go.Lib renaming hid → o
open _root_.Nat renaming le_trans → s, lt_of_lt_of_le → q, lt_or_ge → A, zero_le → E
open _root_.Go.World renaming cell?_of_block → u
open _root_.And renaming intro → j
open _root_.List renaming length_append → d, getElem?_map → B
open _root_.Go renaming World → p, Value → r
open _root_.Go.RowKit renaming Hid → e
variable {L : Lay} {S : Nat → Prop} {b : p} {base c g i k l lo lo0 m n top : Nat} {a steps : Int} {f : Nat → Int} {sc : Nat → Nat} {t : TypeId} {v : r}
def zlg (f g:Nat->Int) (c d k:Nat):Nat->Int:=fun a=>if a<k/\a≠c then zkt (f a) (g c) (f c) (g a) d else f a
def znk (f g:Nat->Int) (c d:Nat):Nat->Int:=fun a=>if a=c then -(f c) else zkt (f a) (g c) (f c) (g a) d
theorem ydy (f g:Nat->Int) (c d:Nat):zlg f g c d 0=f:=by funext j;unfold zlg;rw[if_neg og]
theorem ydu (f g:Nat->Int) (c d k:Nat):zlg f g c d k k=f k:=by unfold zlg;rw[if_neg og]
theorem ydw (f g:Nat->Int) (d k:Nat):zlg f g k d (k+1)=zlg f g k d k:=by
 funext j;unfold zlg;by_cases h:j<k/\j≠k
 ·rw[if_pos h,if_pos ⟨by omega,h.2⟩]
 ·rw[if_neg h,if_neg og]
theorem ydx (f g:Nat->Int) {d:Nat} (h:k≠c) (a:Nat):(if a=k then zkt (f k) (g c) (f c) (g k) d else zlg f g c d k a)=zlg f g c d (k+1) a:=by
 unfold zlg;by_cases e:a=k
 ·subst e;rw[if_pos rfl,if_pos ⟨by omega,h⟩]
 ·rw[if_neg e];by_cases b:a<k/\a≠c
  ·rw[if_pos b,if_pos ⟨by omega,b.2⟩]
  ·rw[if_neg b,if_neg og]
theorem ydv (f g:Nat->Int) {d:Nat} (b:Nat) (e:b<m):(if b=c then -(f c) else zlg f g c d m b)=znk f g c d b:=by
 unfold zlg znk;by_cases a:b=c
 ·rw[if_pos a,if_pos a]
 ·rw[if_neg a,if_neg a,if_pos ⟨e,a⟩]
theorem LineW.mono {w:p} {T:Nat->Prop} {b:Nat} (h:LineW w S b c m f) (a:∀x,S x->T x):LineW w T b c m f:=h.keep rfl fun x d=>⟨a x d,rfl⟩
theorem LineW.grow {w w':p} {b:Nat} (h:LineW w (SN S lo w) b c m f) (g:∀x,S x->x<w.heap.size) (d:Below w.heap.size w w'):LineW w' (SN S lo w') b c m f:=
 h.keep (d.block _ h.lt) fun x e=>⟨zql d.size x e,d.block x (by rcases e with a|a;exact g x a;exact a.2)⟩
theorem ydt {w:p} {t C aW B d aQ:Nat} {D:Option Addr} {g:Nat->Int} (a8:LineW w S t C m f) (a7:LineW w S aW B m g) (cA:aW≠t) (cz:∀b,S b->b<w.heap.size/\b≠t/\b≠aW)
 (hD:G0 w S (.slice D (A9 d).length aQ) d) (c0:m<=100) (hc:c<m) (cG:∀i,i<m->Sz ((f i:Int):Rat) 100000/\Sz ((g i:Int):Rat) 100000) (cE:(A9 d).length<=100000) (cD:0<d):
 Calls Tryz.prog 130 #[.slice (some ⟨t,0,none⟩) m C,.slice (some ⟨aW,0,none⟩) m B,.int .i64 (c:Int),.slice D (A9 d).length aQ] w fun v w'=>v= .returned (.tuple #[])/\LineW w' (SN S w.heap.size w') t C m (znk f g c d)/\w.grownBy w' (some t):=by
 obtain⟨cu,ct,bX,ar,H,cx,cw,aP⟩:=zop a8 a7 hD cG cz cE cD cA;have cU:(0:Int)<=(c:Int):=og;have cV:(c:Int)<(m:Int):=og;have cT:=L7;obtain⟨au,k,ay,l,L,M,P,eq⟩:=a7.el c hc;obtain⟨av,aA,az,aB,bT,bU,bV,cy⟩:=a8.el c hc;obtain⟨bp,bm⟩:=C4 eq cy;obtain⟨aC,cH⟩:=nm (decide (g c<0));obtain⟨aD,cI⟩:=nm ((A9 (g c).natAbs).length);obtain⟨aE,cJ⟩:=nm (decide (f c<0));obtain⟨aG,cK⟩:=nm ((A9 (f c).natAbs).length);obtain⟨I,ck⟩:=nm ((A9 1).length);obtain⟨a9,cF⟩:=nm ((A9 d).length);rw[<-cH] at L bp;rw[<-cI] at M bp;rw[<-ck] at P bp bV bm;rw[<-cJ] at bT bm;rw[<-cK] at bU bm;rw[<-cF] at bX⊢;have cC:t<w.heap.size:=a8.lt;have cB:aW<w.heap.size:=a7.lt;obtain⟨aa,cv,bR⟩:=G4 cC cB ck;have cW:=a8.cap.1;have cX:C<=9223372036854775807:=(by have:=a8.cap.2;unfold maxLen at this;omega);have cY:=a7.cap.1;have cZ:B<=9223372036854775807:=(by have:=a7.cap.2;unfold maxLen at this;omega);clear a8 a7 eq cy cG cH cI ck cJ cK cC cB cF hD cE cD cA cz;go_in;go_wp2_with fail;have W:=zmh L M P bT bU bV
 go_region_held3 (SH.mk _ W).s
  (exact W.out _ bel)
  (fail)
 ·obtain⟨cs,bC,Y,bL,bK,bj⟩:=zkd w #[.bool aC,.slice au aD k,.slice ay I l] #[.bool aE,.slice av aG aA,.slice az I aB] 37 37;rw[bC];obtain⟨aq,Z⟩:=nm (cs.drew);have bd:e (Below w.heap.size w aq):=(by rw[e,Z];exact⟨Y.os,Y.tape,Y.output,Y.size,Y.block⟩);have cc:e (Row aq w.heap.size 37 [.bool aC,.slice au aD k,.slice ay I l]):=(by rw[e,Z];exact bL.drew);have cb:e (Row aq (w.heap.size+1) 37 [.bool aE,.slice av aG aA,.slice az I aB]):=(by rw[e,Z];exact bK.drew);have cL:e (aq.heap.size=w.heap.size+2):=(by rw[e,Z];exact bj.out);rw[<-Z];clear Z Y bL bK bj W bC;clear L M P bT bU bV;go_wp2_with fail;go_loopw [22,10,11] (fun a4 _ _ wr=>∃i:Nat,i<=m/\a4= .int .i64 (i:Int)/\aq.grownBy wr (some t)/\e (LineW wr (SN S w.heap.size wr) t C m (zlg f g c d i))) (fun a4 _ _ _=>m-(intOf a4).toNat);case atStart=>exact⟨0,E _,rfl,H8 _ _,by rw[e,ydy];exact(cu.out.mono (T:=SN S w.heap.size w) fun x n=> .inl n).grow (fun x n=>(H.out x n).1) bd.out⟩
  case round=>
   obtain⟨i,cP,rfl,aj,bw⟩:=hrel;have bf:=o aj;have N:=o bw.out;have F:=o (J6 (K7 bd.out) aj);have b3:e (LineW wr S aW B m g):=ct.out.keep (F.out.block _ cv.out fun v=>aP.out (by cases v;rfl)) fun x n=>⟨n,F.out.block _ (H.out x n).1 fun v=>(H.out x n).2.1 (by cases v;rfl)⟩;have bv:e (t<w.heap.size):=aa.out;obtain⟨cd,bq⟩:=C4 (cc.out.grownN aj fun b v=>by cases v;have:=bv.out;omega) (cb.out.grownN aj fun b v=>by cases v;have:=bv.out;omega);have aH:L1 S (C2 wr) w wr:=fun b G=>⟨q (H.out b G).1 F.out.size,fun cS=>u (F.out.block b (H.out b G).1 fun v=>(H.out b G).2.1 (by cases v;rfl))⟩;have b7:e (IsQ wr (C2 wr) (.agg #[.bool aC,.slice au aD k,.slice ay I l]) ((g c:Int):Rat)):=IsQ.stb.to bp.out aH;have bn:e (IsQ wr (C2 wr) (.agg #[.bool aE,.slice av aG aA,.slice az I aB]) ((f c:Int):Rat)):=IsQ.stb.to bm.out aH;have bY:e (G0 wr (C2 wr) (.slice D a9 aQ) d):=IsK.stb.to bX.out aH
   have bi:e (∀b,SN S w.heap.size wr b->C2 wr b):=fun b G=>by
    rcases G with h|h
    ·exact q (H.out b h).1 F.out.size
    ·exact h.2
   clear aj bw aH;rcases A i m with T|cO
   ·obtain⟨aU,a5,aV,a6,L,M,P,eq⟩:=N.out.el i T;obtain⟨b4,cm,Q3,cn,a1,a2,a3,bG⟩:=b3.out.el i T;rw[ydu] at L M eq;obtain⟨aI,aJ⟩:=C4 (IsQ.stb.to eq (E0 (T:=C2 wr) bi.out)) (IsQ.stb.to bG (E0 (T:=C2 wr) fun b G=>bi.out b (.inl G)));obtain⟨bP,bE⟩:=nm (decide (f i<0));obtain⟨bQ,bF⟩:=nm ((A9 (f i).natAbs).length);obtain⟨cq,bx⟩:=nm (decide (g i<0));obtain⟨cr,bA⟩:=nm ((A9 (g i).natAbs).length);rw[<-bE] at L aI;rw[<-bF] at M aI;rw[<-bx] at a1 aJ;rw[<-bA] at a2 aJ;rw[<-bR.out] at P aI a3 aJ;have cQ:(0:Int)<=(i:Int):=og;have cR:(i:Int)<(m:Int):=og;have cg:t<wr.heap.size:=q aa.out F.out.size;have af:wr.frozen? ⟨t,i*3,none⟩=false:=N.out.free;have ag:wr.frozen? ⟨t,i*3+1,none⟩=false:=N.out.free;have ah:wr.frozen? ⟨t,i*3+2,none⟩=false:=N.out.free;obtain⟨Q,bD,r,bM,cl⟩:=K0 wr #[.bool bP,.slice aU bQ a5,.slice aV I a6] 37;obtain⟨br,bt,b2⟩:=C3 bM;obtain⟨bH,bI,bJ⟩:=C3 cd.out;obtain⟨aL,aM,aN⟩:=C3 bq.out;obtain⟨J,y,U⟩:=G4 (j br (j bt (j b2 (j (B9 r bH) (j (B9 r bI) (j (B9 r bJ) (j (B9 r aL) (j (B9 r aM) (j (B9 r aN) (j (B9 r a1) (j (B9 r a2) (B9 r a3)))))))))))) (j (B9 r L) (j (B9 r M) (B9 r P))) (j (G6 r L af) (j (G6 r M ag) (G6 r P ah)));have b9:=nQ aI r;have ca:=nQ aJ r;have X:=o r;have ch:=T;have ac:=o T;obtain⟨z,al⟩:=nm (zkt (f i) (g c) (f c) (g i) d);have ab:=o al;have aY:e (wr.heap.size≠t):=oH;have aZ:e (w.heap.size≠t):=oH1 aa;have a0:e ((w.heap.size+1)≠t):=oH1 aa;have b8:e (IsQ Q (C2 Q) (.agg #[.bool aC,.slice au aD k,.slice ay I l]) ((g c:Int):Rat)):=IsQ.stb.next b7.out r;have b5:e (IsQ Q (C2 Q) (.agg #[.bool aE,.slice av aG aA,.slice az I aB]) ((f c:Int):Rat)):=IsQ.stb.next bn.out r;have bZ:e (G0 Q (C2 Q) (.slice D a9 aQ) d):=IsK.stb.next bY.out r;clear eq bG bE bF bx bA bM cl r br bt b2 af ag ah cg al T ch bH bI bJ aL aM aN;by_cases ak:i=c
    ·have cj:(((i:Int) !=(c:Int)):Bool)=false:=(by rw[ak];simp);have bg:=o ak;clear ak;go_wp2_with fail;clear bD;go_roundw;(case rel=>refine⟨i+1,ac.out,by go_num,J6 bf.out (K7 X.out),?_⟩;rw[<-bg.out];rw[e,ydw];have:=N.out.grow (fun x n=>q (H.out x n).1 F.out.size) X.out;rw[<-bg.out] at this;exact this);case measure=>simp[intOf];have:=ac.out;omega
    ·have cj:(((i:Int) !=(c:Int)):Bool)=true:=(by simp;omega);have b1:=o ak;clear ak;go_wp2_with fail;clear bD L M P a1 a2 a3;have W:=yge J.out.1 J.out.2.1 J.out.2.2.1 J.out.2.2.2.1 J.out.2.2.2.2.1 J.out.2.2.2.2.2.1 J.out.2.2.2.2.2.2.1 J.out.2.2.2.2.2.2.2.1 J.out.2.2.2.2.2.2.2.2.1 J.out.2.2.2.2.2.2.2.2.2.1 J.out.2.2.2.2.2.2.2.2.2.2.1 J.out.2.2.2.2.2.2.2.2.2.2.2;have be:e (∀aK:p,Below Q.heap.size Q aK->Calls Tryz.prog 129 #[.agg #[.bool bP,.slice aU bQ a5,.slice aV I a6],.agg #[.bool aC,.slice au aD k,.slice ay I l],.agg #[.bool aE,.slice av aG aA,.slice az I aB],.agg #[.bool cq,.slice b4 cr cm,.slice Q3 I cn],.slice D a9 aQ] aK (U9 aK (((z:Int)):Rat))):=fun aK ai=>(by have h:=zux (IsQ.stb.next b9.out ai) (IsQ.stb.next b8.out ai) (IsQ.stb.next b5.out ai) (IsQ.stb.next ca.out ai) (E9 (IsK.stb.next bZ.out ai)) ((ar.out i ac.out).1.le og) ((ar.out c hc).2.le og) ((ar.out c hc).1.le og) ((ar.out i ac.out).2.le og) (s cx.out og) cw.out;rw[Rat.num_intCast,Rat.num_intCast,Rat.num_intCast,Rat.num_intCast,<-ab.out] at h;exact h);have bh:=zpf i W (nA aY.out (nA aY.out (nA aY.out (nA aZ.out (nA aZ.out (nA aZ.out (nA a0.out (nA a0.out (nA a0.out (nA aP.out (nA aP.out (nZ aP.out))))))))))))
     go_region_held3 (SH.mk _ W).s
      (first|exact W.out _ bel|exact bh.out _ bel _ _ _)
      (first
        |(go_at_call 129;(with_reducible refine Calls.mono (be.out _ bel) ?_);rintro v K ⟨⟨aO,rfl,V⟩,O⟩;have R:=bW Q K;obtain⟨ae,an,ad,ao,rfl⟩:=zku V;have u0:=B9 R.out y.out.1;have u1:=B9 R.out y.out.2.1;have u2:=B9 R.out y.out.2.2;have bN:=G6 R.out y.out.1 U.out.1;have bO:=G6 R.out y.out.2.1 U.out.2.1;have aO:=G6 R.out y.out.2.2 U.out.2.2))
     have aT:=o ((N.out.grow (fun x n=>q (H.out x n).1 F.out.size) X.out).grow (fun x n=>q (H.out x n).1 (s F.out.size X.out.size)) R.out);have bB:IsQ K (SN S w.heap.size K) (.agg #[.bool (decide (z<0)),.slice ae (A9 z.natAbs).length an,.slice ad (A9 1).length ao]) ((z:Int):Rat):=IsQ.stb.to V (E0 fun b G=> .inr ⟨by have cM:=F.out.size;have cN:=X.out.size;have cf:=G.1;simp at cf;omega,G.2⟩);have aS:=o bB;have T:=ac.out;have aR:=o (J6 (J6 bf.out (K7 X.out)) (K7 R.out));clear W bh be V O u0 u1 u2 bN bO aO bB;go_wp2_with fail;go_roundw
     case rel=>
      have aX:=aT.out.put (fun x n v=>by
       rcases n with n|n
       ·exact(H.out x n).2.1 v
       ·have:=aa.out;have:=n.1;omega) T aS.out
      refine⟨i+1,T,by go_num,zlk aR.out,?_⟩;have v:SN S w.heap.size (L9 K t i (.bool (decide (z<0))) (.slice ae (A9 z.natAbs).length an) (.slice ad (A9 1).length ao))=SN S w.heap.size K:=(by unfold SN;rw[zpl]);show LineW _ (SN S w.heap.size (L9 K t i _ _ _)) _ _ _ _;rw[v];exact aX.same fun a _=>by rw[ab.out];exact ydx f g b1.out a
     case measure=>simp[intOf];omega
   ·obtain rfl:i=m:=og;obtain⟨aU,a5,aV,a6,L,M,P,eq⟩:=N.out.el c hc;have bu:zlg f g c d i c=f c:=(by unfold zlg;rw[if_neg og]);rw[<-bR.out] at P;rw[bu] at L M;have af:wr.frozen? ⟨t,c*3,none⟩=false:=N.out.free;have ag:wr.frozen? ⟨t,c*3+1,none⟩=false:=N.out.free;have ah:wr.frozen? ⟨t,c*3+2,none⟩=false:=N.out.free;obtain⟨aL,aM,aN⟩:=C3 bq.out;obtain⟨b0,y,U⟩:=G4 hc (j L (j M P)) (j af (j ag ah));clear L M P af ag ah eq bu;go_wp2_with fail;obtain⟨z,al⟩:=nm (-f c);have ab:=o al;clear al;refine(zrf (p:=((z:Int):Rat)) bn.out ((ar.out c hc).1) (by rw[ab.out,Rat.intCast_neg])).mono ?_;rintro v K ⟨⟨aO,rfl,V⟩,O⟩;obtain⟨ae,an,ad,ao,rfl⟩:=zku V;have u0:=B9 O y.out.1;have u1:=B9 O y.out.2.1;have u2:=B9 O y.out.2.2;have bN:=G6 O y.out.1 U.out.1;have bO:=G6 O y.out.2.1 U.out.2.1;have aO:=G6 O y.out.2.2 U.out.2.2;have aT:=o (N.out.grow (fun x n=>q (H.out x n).1 F.out.size) O);have aS:e (IsQ K (SN S w.heap.size K) (.agg #[.bool (decide (z<0)),.slice ae (A9 (z).natAbs).length an,.slice ad (A9 1).length ao]) ((z:Int):Rat)):=IsQ.stb.to V (E0 fun b G=> .inr ⟨s F.out.size G.1,G.2⟩);have aR:=o (J6 F.out (K7 O));clear V O aL aM aN;go_wp2_with fail;refine bodyPost_end (results_none rfl _ _ _) rfl ?_
    have aX:=aT.out.put (fun x n v=>by
     rcases n with n|n
     ·exact(H.out x n).2.1 v
     ·have:=aa.out;have:=n.1;omega) b0.out aS.out
    refine⟨rfl,?_,zlk aR.out⟩;have v:SN S w.heap.size (L9 K t c (.bool (decide (z<0))) (.slice ae (A9 (z).natAbs).length an) (.slice ad (A9 1).length ao))=SN S w.heap.size K:=(by unfold SN;rw[zpl]);show LineW _ (SN S w.heap.size (L9 K t c _ _ _)) _ _ _ _;rw[v];exact aX.same fun a ha=>by rw[ab.out];exact ydv f g a ha
 ·obtain⟨cs,bC,Y,bK,bL,bj⟩:=zkd w #[.bool aE,.slice av aG aA,.slice az I aB] #[.bool aC,.slice au aD k,.slice ay I l] 37 37;rw[bC];obtain⟨aq,Z⟩:=nm (cs.drew);have bd:e (Below w.heap.size w aq):=(by rw[e,Z];exact⟨Y.os,Y.tape,Y.output,Y.size,Y.block⟩);have cc:e (Row aq (w.heap.size+1) 37 [.bool aC,.slice au aD k,.slice ay I l]):=(by rw[e,Z];exact bL.drew);have cb:e (Row aq w.heap.size 37 [.bool aE,.slice av aG aA,.slice az I aB]):=(by rw[e,Z];exact bK.drew);have cL:e (aq.heap.size=w.heap.size+2):=(by rw[e,Z];exact bj.out);rw[<-Z];clear Z Y bL bK bj W bC;clear L M P bT bU bV;go_wp2_with fail;go_loopw [22,10,11] (fun a4 _ _ wr=>∃i:Nat,i<=m/\a4= .int .i64 (i:Int)/\aq.grownBy wr (some t)/\e (LineW wr (SN S w.heap.size wr) t C m (zlg f g c d i))) (fun a4 _ _ _=>m-(intOf a4).toNat);case atStart=>exact⟨0,E _,rfl,H8 _ _,by rw[e,ydy];exact(cu.out.mono (T:=SN S w.heap.size w) fun x n=> .inl n).grow (fun x n=>(H.out x n).1) bd.out⟩
  case round=>
   obtain⟨i,cP,rfl,aj,bw⟩:=hrel;have bf:=o aj;have N:=o bw.out;have F:=o (J6 (K7 bd.out) aj);have b3:e (LineW wr S aW B m g):=ct.out.keep (F.out.block _ cv.out fun v=>aP.out (by cases v;rfl)) fun x n=>⟨n,F.out.block _ (H.out x n).1 fun v=>(H.out x n).2.1 (by cases v;rfl)⟩;have bv:e (t<w.heap.size):=aa.out;obtain⟨cd,bq⟩:=C4 (cc.out.grownN aj fun b v=>by cases v;have:=bv.out;omega) (cb.out.grownN aj fun b v=>by cases v;have:=bv.out;omega);have aH:L1 S (C2 wr) w wr:=fun b G=>⟨q (H.out b G).1 F.out.size,fun cS=>u (F.out.block b (H.out b G).1 fun v=>(H.out b G).2.1 (by cases v;rfl))⟩;have b7:e (IsQ wr (C2 wr) (.agg #[.bool aC,.slice au aD k,.slice ay I l]) ((g c:Int):Rat)):=IsQ.stb.to bp.out aH;have bn:e (IsQ wr (C2 wr) (.agg #[.bool aE,.slice av aG aA,.slice az I aB]) ((f c:Int):Rat)):=IsQ.stb.to bm.out aH;have bY:e (G0 wr (C2 wr) (.slice D a9 aQ) d):=IsK.stb.to bX.out aH
   have bi:e (∀b,SN S w.heap.size wr b->C2 wr b):=fun b G=>by
    rcases G with h|h
    ·exact q (H.out b h).1 F.out.size
    ·exact h.2
   clear aj bw aH;rcases A i m with T|cO
   ·obtain⟨aU,a5,aV,a6,L,M,P,eq⟩:=N.out.el i T;obtain⟨b4,cm,Q3,cn,a1,a2,a3,bG⟩:=b3.out.el i T;rw[ydu] at L M eq;obtain⟨aI,aJ⟩:=C4 (IsQ.stb.to eq (E0 (T:=C2 wr) bi.out)) (IsQ.stb.to bG (E0 (T:=C2 wr) fun b G=>bi.out b (.inl G)));obtain⟨bP,bE⟩:=nm (decide (f i<0));obtain⟨bQ,bF⟩:=nm ((A9 (f i).natAbs).length);obtain⟨cq,bx⟩:=nm (decide (g i<0));obtain⟨cr,bA⟩:=nm ((A9 (g i).natAbs).length);rw[<-bE] at L aI;rw[<-bF] at M aI;rw[<-bx] at a1 aJ;rw[<-bA] at a2 aJ;rw[<-bR.out] at P aI a3 aJ;have cQ:(0:Int)<=(i:Int):=og;have cR:(i:Int)<(m:Int):=og;have cg:t<wr.heap.size:=q aa.out F.out.size;have af:wr.frozen? ⟨t,i*3,none⟩=false:=N.out.free;have ag:wr.frozen? ⟨t,i*3+1,none⟩=false:=N.out.free;have ah:wr.frozen? ⟨t,i*3+2,none⟩=false:=N.out.free;obtain⟨Q,bD,r,bM,cl⟩:=K0 wr #[.bool bP,.slice aU bQ a5,.slice aV I a6] 37;obtain⟨br,bt,b2⟩:=C3 bM;obtain⟨bH,bI,bJ⟩:=C3 cd.out;obtain⟨aL,aM,aN⟩:=C3 bq.out;obtain⟨J,y,U⟩:=G4 (j br (j bt (j b2 (j (B9 r bH) (j (B9 r bI) (j (B9 r bJ) (j (B9 r aL) (j (B9 r aM) (j (B9 r aN) (j (B9 r a1) (j (B9 r a2) (B9 r a3)))))))))))) (j (B9 r L) (j (B9 r M) (B9 r P))) (j (G6 r L af) (j (G6 r M ag) (G6 r P ah)));have b9:=nQ aI r;have ca:=nQ aJ r;have X:=o r;have ch:=T;have ac:=o T;obtain⟨z,al⟩:=nm (zkt (f i) (g c) (f c) (g i) d);have ab:=o al;have aY:e (wr.heap.size≠t):=oH;have aZ:e ((w.heap.size+1)≠t):=oH1 aa;have a0:e (w.heap.size≠t):=oH1 aa;have b8:e (IsQ Q (C2 Q) (.agg #[.bool aC,.slice au aD k,.slice ay I l]) ((g c:Int):Rat)):=IsQ.stb.next b7.out r;have b5:e (IsQ Q (C2 Q) (.agg #[.bool aE,.slice av aG aA,.slice az I aB]) ((f c:Int):Rat)):=IsQ.stb.next bn.out r;have bZ:e (G0 Q (C2 Q) (.slice D a9 aQ) d):=IsK.stb.next bY.out r;clear eq bG bE bF bx bA bM cl r br bt b2 af ag ah cg al T ch bH bI bJ aL aM aN;by_cases ak:i=c
    ·have cj:(((i:Int) !=(c:Int)):Bool)=false:=(by rw[ak];simp);have bg:=o ak;clear ak;go_wp2_with fail;clear bD;go_roundw;(case rel=>refine⟨i+1,ac.out,by go_num,J6 bf.out (K7 X.out),?_⟩;rw[<-bg.out];rw[e,ydw];have:=N.out.grow (fun x n=>q (H.out x n).1 F.out.size) X.out;rw[<-bg.out] at this;exact this);case measure=>simp[intOf];have:=ac.out;omega
    ·have cj:(((i:Int) !=(c:Int)):Bool)=true:=(by simp;omega);have b1:=o ak;clear ak;go_wp2_with fail;clear bD L M P a1 a2 a3;have W:=yge J.out.1 J.out.2.1 J.out.2.2.1 J.out.2.2.2.1 J.out.2.2.2.2.1 J.out.2.2.2.2.2.1 J.out.2.2.2.2.2.2.1 J.out.2.2.2.2.2.2.2.1 J.out.2.2.2.2.2.2.2.2.1 J.out.2.2.2.2.2.2.2.2.2.1 J.out.2.2.2.2.2.2.2.2.2.2.1 J.out.2.2.2.2.2.2.2.2.2.2.2;have be:e (∀aK:p,Below Q.heap.size Q aK->Calls Tryz.prog 129 #[.agg #[.bool bP,.slice aU bQ a5,.slice aV I a6],.agg #[.bool aC,.slice au aD k,.slice ay I l],.agg #[.bool aE,.slice av aG aA,.slice az I aB],.agg #[.bool cq,.slice b4 cr cm,.slice Q3 I cn],.slice D a9 aQ] aK (U9 aK (((z:Int)):Rat))):=fun aK ai=>(by have h:=zux (IsQ.stb.next b9.out ai) (IsQ.stb.next b8.out ai) (IsQ.stb.next b5.out ai) (IsQ.stb.next ca.out ai) (E9 (IsK.stb.next bZ.out ai)) ((ar.out i ac.out).1.le og) ((ar.out c hc).2.le og) ((ar.out c hc).1.le og) ((ar.out i ac.out).2.le og) (s cx.out og) cw.out;rw[Rat.num_intCast,Rat.num_intCast,Rat.num_intCast,Rat.num_intCast,<-ab.out] at h;exact h);have bh:=zpf i W (nA aY.out (nA aY.out (nA aY.out (nA aZ.out (nA aZ.out (nA aZ.out (nA a0.out (nA a0.out (nA a0.out (nA aP.out (nA aP.out (nZ aP.out))))))))))))
     go_region_held3 (SH.mk _ W).s
      (first|exact W.out _ bel|exact bh.out _ bel _ _ _)
      (first
        |(go_at_call 129;(with_reducible refine Calls.mono (be.out _ bel) ?_);rintro v K ⟨⟨aO,rfl,V⟩,O⟩;have R:=bW Q K;obtain⟨ae,an,ad,ao,rfl⟩:=zku V;have u0:=B9 R.out y.out.1;have u1:=B9 R.out y.out.2.1;have u2:=B9 R.out y.out.2.2;have bN:=G6 R.out y.out.1 U.out.1;have bO:=G6 R.out y.out.2.1 U.out.2.1;have aO:=G6 R.out y.out.2.2 U.out.2.2))
     have aT:=o ((N.out.grow (fun x n=>q (H.out x n).1 F.out.size) X.out).grow (fun x n=>q (H.out x n).1 (s F.out.size X.out.size)) R.out);have bB:IsQ K (SN S w.heap.size K) (.agg #[.bool (decide (z<0)),.slice ae (A9 z.natAbs).length an,.slice ad (A9 1).length ao]) ((z:Int):Rat):=IsQ.stb.to V (E0 fun b G=> .inr ⟨by have cM:=F.out.size;have cN:=X.out.size;have cf:=G.1;simp at cf;omega,G.2⟩);have aS:=o bB;have T:=ac.out;have aR:=o (J6 (J6 bf.out (K7 X.out)) (K7 R.out));clear W bh be V O u0 u1 u2 bN bO aO bB;go_wp2_with fail;go_roundw
     case rel=>
      have aX:=aT.out.put (fun x n v=>by
       rcases n with n|n
       ·exact(H.out x n).2.1 v
       ·have:=aa.out;have:=n.1;omega) T aS.out
      refine⟨i+1,T,by go_num,zlk aR.out,?_⟩;have v:SN S w.heap.size (L9 K t i (.bool (decide (z<0))) (.slice ae (A9 z.natAbs).length an) (.slice ad (A9 1).length ao))=SN S w.heap.size K:=(by unfold SN;rw[zpl]);show LineW _ (SN S w.heap.size (L9 K t i _ _ _)) _ _ _ _;rw[v];exact aX.same fun a _=>by rw[ab.out];exact ydx f g b1.out a
     case measure=>simp[intOf];omega
   ·obtain rfl:i=m:=og;obtain⟨aU,a5,aV,a6,L,M,P,eq⟩:=N.out.el c hc;have bu:zlg f g c d i c=f c:=(by unfold zlg;rw[if_neg og]);rw[<-bR.out] at P;rw[bu] at L M;have af:wr.frozen? ⟨t,c*3,none⟩=false:=N.out.free;have ag:wr.frozen? ⟨t,c*3+1,none⟩=false:=N.out.free;have ah:wr.frozen? ⟨t,c*3+2,none⟩=false:=N.out.free;obtain⟨aL,aM,aN⟩:=C3 bq.out;obtain⟨b0,y,U⟩:=G4 hc (j L (j M P)) (j af (j ag ah));clear L M P af ag ah eq bu;go_wp2_with fail;obtain⟨z,al⟩:=nm (-f c);have ab:=o al;clear al;refine(zrf (p:=((z:Int):Rat)) bn.out ((ar.out c hc).1) (by rw[ab.out,Rat.intCast_neg])).mono ?_;rintro v K ⟨⟨aO,rfl,V⟩,O⟩;obtain⟨ae,an,ad,ao,rfl⟩:=zku V;have u0:=B9 O y.out.1;have u1:=B9 O y.out.2.1;have u2:=B9 O y.out.2.2;have bN:=G6 O y.out.1 U.out.1;have bO:=G6 O y.out.2.1 U.out.2.1;have aO:=G6 O y.out.2.2 U.out.2.2;have aT:=o (N.out.grow (fun x n=>q (H.out x n).1 F.out.size) O);have aS:e (IsQ K (SN S w.heap.size K) (.agg #[.bool (decide (z<0)),.slice ae (A9 (z).natAbs).length an,.slice ad (A9 1).length ao]) ((z:Int):Rat)):=IsQ.stb.to V (E0 fun b G=> .inr ⟨s F.out.size G.1,G.2⟩);have aR:=o (J6 F.out (K7 O));clear V O aL aM aN;go_wp2_with fail;refine bodyPost_end (results_none rfl _ _ _) rfl ?_
    have aX:=aT.out.put (fun x n v=>by
     rcases n with n|n
     ·exact(H.out x n).2.1 v
     ·have:=aa.out;have:=n.1;omega) b0.out aS.out
    refine⟨rfl,?_,zlk aR.out⟩;have v:SN S w.heap.size (L9 K t c (.bool (decide (z<0))) (.slice ae (A9 (z).natAbs).length an) (.slice ad (A9 1).length ao))=SN S w.heap.size K:=(by unfold SN;rw[zpl]);show LineW _ (SN S w.heap.size (L9 K t c _ _ _)) _ _ _ _;rw[v];exact aX.same fun a ha=>by rw[ab.out];exact ydv f g a ha
theorem ykn {H:Program} {w:p} {ops:Array Oper} {g:Oper} {a:Act} {K:Act->p->Prop} {Q:Exit->Act->p->Prop} {P:Prop} {k:TypeId} {bytes:Nat} (J:ElN H t k 1 bytes) (Y:g.guard=none) (s x:Operand) (aa:g.op= .call {callee:= .builtin .append,args:= #[s,x],argTypes:= #[t,t]})
 {h:Nat} {l news:List r} {ak:TypeId} (ae:a.eval s=v) (e:a.eval x= .slice (some ⟨h,0,none⟩) news.length c) (hr:Row w h ak news) (ac:OwnS 1 k IsSl w base S v l)
 (E:∀x∈news,∃A m c,x= .slice A m c) (C:(l.length+news.length)*(bytes+1)<=140737488355328) (W:base<=w.heap.size)
 (V:∀G w',OwnS 1 k IsSl w' base S G (l++news)->w.grownBy w' v.ownBlock->K (a.put g.dst G) w'):if Region.wanted g (yielded ops a.tmps)=true then Oper.wp H g a w K Q else P:=by
 have ag:Region.wanted g (yielded ops a.tmps)=true:=by simp[Region.wanted,Y]
 rw[if_pos ag]
 obtain⟨i,z,Z,ah,af,X,ai⟩:=J.info
 obtain⟨I,T,U,n,L⟩:=ac
 have R:cellsOf news=news:=by
  have key:∀l:List r,(∀x∈l,∃A m c,x= .slice A m c)->cellsOf l=l:=fun l N=>by
   induction l with
   |nil=>rfl
   |cons x l ih=>
    obtain⟨A,m,c,rfl⟩:=N x (by simp)
    have k:cellsOf (Value.slice A m c::l)=(Value.slice A m c).cells.toList++cellsOf l:=by simp[cellsOf]
    rw[k,ih fun y f=>N y (by simp[f])];rfl
  exact key news E
 have ab:∀j∈news,j.oneCell'=true:=fun j o=>by obtain⟨A,m,c,rfl⟩:=E j o;rfl
 rw[Nat.mul_add,Nat.mul_one] at C
 obtain⟨G,w',ad,aj,O,_,u⟩:=run_append_own_at (P:=H) w base t g.type k i z 1 bytes J.und Z ah af X ai og v l.length (cellsOf I) T ⟨h,0,none⟩ news.length c news og (fun F j o=>by rw[Addr.add_lit,Nat.zero_add,hr.cell F];exact o) ab (by unfold maxLen;omega) og W
 unfold Oper.wp execOp
 simp only[aa,resolve,invoke,builtin,Sem.run_bind,Sem.run_pure,Result.andThen_ok,List.map_toArray,List.map_cons,List.map_nil,ae,e,ad]
 refine V G w' ⟨I++news,?_,?_,?_,fun b C=>⟨q (L b C).1 O.size,fun B=> ?_⟩⟩ O
 ·rw[ydq,R,d];exact aj
 ·intro j o
  rcases List.mem_append.1 o with h|h
  ·exact U j h
  ·obtain⟨A,m,c,rfl⟩:=E j h;rfl
 ·refine⟨by rw[d,d,n.1],fun F x y e f=> ?_⟩
  rw[List.getElem?_append] at e f
  by_cases D:F<I.length
  ·rw[if_pos D] at e
   rw[if_pos (by rw[<-n.1];exact D)] at f
   exact n.2 F x y e f
  ·rw[if_neg D] at e
   rw[if_neg (by rw[<-n.1];exact D),<-n.1] at f
   rw[e] at f
   cases f
   exact⟨rfl,E x (List.mem_of_getElem? e)⟩
 ·have M:=L b C
  rcases u with u|u
  ·rw[u] at B;exact M.2 B
  ·rw[u] at B;cases B;exact Nat.lt_irrefl _ M.1
def zms (a:Nat->Nat->Int) (i b:Nat):Nat->Nat->Int:=fun l k=>if l<i\/(l=i/\k<b) then -(a l k) else a l k
theorem zrb {a:Prop} [Decidable a] (f g:Nat->Int) (k:Nat):(if a then f else g) k=if a then f k else g k:=by split<;>rfl
theorem yuo (b:Nat->Nat->Int) (i a:Nat):zms b i a i a=b i a:=by unfold zms;rw[if_neg og]
theorem yuq (b:Nat->Nat->Int) (i a l k:Nat):(if l=i then(if k=a then -(b i a) else zms b i a i k) else zms b i a l k)=zms b i (a+1) l k:=by
 unfold zms;by_cases h:l=i
 ·subst h;rw[if_pos rfl];by_cases d:k=a
  ·subst d;rw[if_pos rfl,if_pos (.inr ⟨rfl,by omega⟩)]
  ·rw[if_neg d];by_cases c:k<a
   ·rw[if_pos (.inr ⟨rfl,c⟩),if_pos (.inr ⟨rfl,by omega⟩)]
   ·rw[if_neg og,if_neg og]
 ·rw[if_neg h];by_cases c:l<i
  ·rw[if_pos (.inl c),if_pos (.inl c)]
  ·rw[if_neg og,if_neg og]
theorem yur (a:Nat->Nat->Int):zms a 0 0=a:=by funext l k;unfold zms;rw[if_neg og]
theorem yup (a:Nat->Nat->Int) (h:l=i->k<n):zms a i n l k=zms a (i+1) 0 l k:=by
 unfold zms;by_cases c:l<i
 ·rw[if_pos (.inl c),if_pos (.inl og)]
 ·by_cases b:l=i
  ·rw[if_pos (.inr ⟨b,h b⟩),if_pos (.inl og)]
  ·rw[if_neg og,if_neg og]
def hdL (L:Lay) (m n l:Nat):r:= .slice (L.ha l) (L4 m n l) (L.cp l)
def zml (L:Lay) (m n:Nat):List r:=(List.range m).map (hdL L m n)
theorem yyp (h:i<m+2):(zml L m n++[.slice (L.ha m) m (L.cp m),.slice (L.ha (m+1)) n (L.cp (m+1))])[i]? =some (hdL L m n i):=by
 have c:(zml L m n).length=m:=(by unfold zml;simp);rw[List.getElem?_append,c];by_cases a:i<m
 ·rw[if_pos a];unfold zml;rw[B,List.getElem?_range a];rfl
 ·rw[if_neg a];by_cases b:i=m
  ·subst b;rw[Nat.sub_self];unfold hdL;rw[W4];rfl
  ·obtain rfl:i=m+1:=og;rw[show m+1-m=1 by omega];unfold hdL;rw[Z6];rfl
theorem SchG.rowsS {w:p} {u:Nat->Nat->Int} {z:Int} {d:Nat} {bas oth:List Nat} {st:Int} (h:SchG w S lo0 lo g L m n sc top u z d bas oth st a steps):IsS 1 IsSl w (C2 w) (.slice L.ra m L.rc) (zml L m n):=by
 have b:(zml L m n).length=m:=by unfold zml;simp
 have key:∀l:List r,(∀x∈l,∃A m c,x=Value.slice A m c)->cellsOf l=l:=fun l b=>by
  induction l with
  |nil=>rfl
  |cons x l ih=>obtain⟨A,m,c,rfl⟩:=b x (by simp);have C:cellsOf (Value.slice A m c::l)=(Value.slice A m c).cells.toList++cellsOf l:=(by simp[cellsOf]);rw[C,ih fun y f=>b y (by simp[f])];rfl
 have o:∀x∈zml L m n,∃A m c,x=Value.slice A m c:=fun x e=>(by unfold zml at e;obtain⟨i,_,rfl⟩:=List.mem_map.1 e;exact⟨_,_,_,rfl⟩);refine⟨L.ra,L.rc,zml L m n,by rw[b],by rw[b];exact h.caps.1,h.caps.2.1,fun t=> ?_,fun x e=>by obtain⟨A,m,c,rfl⟩:=o x e;rfl,rfl,fun q x y e f=>by rw[e] at f;cases f;exact⟨rfl,o x (List.mem_of_getElem? e)⟩⟩;rw[key _ o] at t⊢
 have s:0<m:=by
  rcases Nat.eq_zero_or_pos m with j|j
  ·exact absurd (List.eq_nil_of_length_eq_zero (by rw[b,j])) t
  ·exact j
 refine⟨L.r0,0,(h.hd 0 s).1,h.sn_lt _ (.inl (h.hd 0 s).2.1),fun q v hv=> ?_⟩;have k:q<m:=(by have:=(List.getElem?_eq_some_iff.1 hv).1;rwa[b] at this);unfold zml at hv;rw[B,List.getElem?_range k] at hv;cases hv;rw[Nat.zero_add];have:=(h.hd q k).2.2;unfold hdL;rw[J5 k];exact this
theorem yfm {w:p} (h:OwnS 1 30 IsSl w base S v (zml L m n++[.slice (L.ha m) m (L.cp m),.slice (L.ha (m+1)) n (L.cp (m+1))])) (o:lo<=base):
 ∃bl a,v= .slice (some ⟨bl,0,none⟩) (m+2) a/\m+2<=a/\a<=9223372036854775807/\e (∀i,i<m+2->w.cell? ⟨bl,i,none⟩=some (hdL L m n i))/\e (lo<=bl/\bl<w.heap.size):=by have c:(zml L m n++[Value.slice (L.ha m) m (L.cp m),Value.slice (L.ha (m+1)) n (L.cp (m+1))]).length=m+2:=(by rw[d];unfold zml;simp);obtain⟨bl,a,z,A,f,q,k,j,r,x,y,l,-,-⟩:=h.shape (fun b=>by rw[b] at c;simp at c);rw[c] at f j;refine⟨bl,a,f,j,by unfold maxLen at r;omega,fun i u=> ?_,s o q,(Array.getElem?_eq_some_iff.1 k).1⟩;obtain⟨b,t,g,_⟩:=l.get (yyp (L:=L) (m:=m) (n:=n) u);have hc:=zpu k x (zoo y (i:=0) t (u:=b) (by rw[g];rfl));rw[Nat.mul_one,Nat.add_zero] at hc;rw[hc,g]
def zxx (t:TB):TB:=⟨fun i a=> -(t.A i a),t.d,t.bas,t.oth⟩
structure Btw (lo0 lo:Nat) (S:Nat->Prop) (w w':p):Prop where
 bel:Below lo0 w w'
 up:∀b,lo<=b->b<w.heap.size->w'.heap[b]? =w.heap[b]?
 ks:∀b,S b->b<w.heap.size->w'.heap[b]? =w.heap[b]?
theorem Btw.refl (lo0 lo:Nat) (S:Nat->Prop) (w:p):Btw lo0 lo S w w:=⟨Below.refl _ _,fun _ _ _=>rfl,fun _ _ _=>rfl⟩
theorem Btw.step {a c:p} {r:Option Nat} (h:Btw lo0 lo S a b) (k:b.grownBy c r) (g:lo0<=a.heap.size) (hr:∀x,r=some x->lo0<=x/\x<lo/\¬S x):Btw lo0 lo S a c:=
 ⟨h.bel.grown k (s g h.bel.size) fun x d=>(hr x d).1,fun x f e=>(k.block x (q e h.bel.size) fun d=>by have:=(hr x d.symm).2.1;omega).trans (h.up x f e),
  fun x f e=>(k.block x (q e h.bel.size) fun d=>(hr x d.symm).2.2 f).trans (h.ks x f e)⟩
theorem Btw.below {a c:p} (h:Btw lo0 lo S a b) (k:Below b.heap.size b c) (e:lo0<=a.heap.size):Btw lo0 lo S a c:=h.step (r:=none) (K7 k) e fun x d=>by cases d
theorem Btw.trans {a c:p} (h:Btw lo0 lo S a b) (k:Btw lo0 lo S b c):Btw lo0 lo S a c:=
 ⟨h.bel.trans k.bel,fun x d e=>(k.up x d (q e h.bel.size)).trans (h.up x d e),fun x d e=>(k.ks x d (q e h.bel.size)).trans (h.ks x d e)⟩
theorem Btw.same {a:p} (h:Btw lo0 lo S a b) (d:∀x,S x->x<a.heap.size):L1 (SN S lo a) (SN S lo b) a b:=fun x c=>⟨zql h.bel.size x c,fun e=>u (by
 rcases c with c|c
 ·exact h.ks x c (d x c)
 ·exact h.up x c.1 c.2)⟩
theorem Btw.row {a:p} (h:Btw lo0 lo S a b) {c:List r} (hr:Row a g t c) (hg:lo<=g):Row b g t c:=(h.up g hg hr.lt).trans hr
abbrev ztx (w:p) (g:Nat) (x y z:r):p:=((w.setCell ⟨g,5,none⟩ x).setCell ⟨g,6,none⟩ y).setCell ⟨g,7,none⟩ z
theorem yan (w:p) (g:Nat) (x y z:r):w.grownBy (ztx w g x y z) (some g):=J6 (J6 (I9 _ _ _ _) (I9 _ _ _ _)) (I9 _ _ _ _)
theorem SchG.value {w:p} {e:Nat->Nat->Int} {z:Int} {d:Nat} {bas oth:List Nat} {st:Int} (h:SchG w S lo0 lo g L m n sc top e z d bas oth st a steps) {z':Int} {P Q:Option Addr}
 (t:IsQ w (SN S lo w) (.agg #[.bool (decide (z'<0)),.slice P (A9 z'.natAbs).length k,.slice Q (A9 1).length l]) ((z':Int):Rat)):
 SchG (ztx w g (.bool (decide (z'<0))) (.slice P (A9 z'.natAbs).length k) (.slice Q (A9 1).length l)) S lo0 lo g L m n sc top e z' d bas oth st a steps:=by obtain⟨u,y,v,A,D,i,f,j,q,x,r,s⟩:=h.row;have hg:=yan w g (.bool (decide (z'<0))) (.slice P (A9 z'.natAbs).length k) (.slice Q (A9 1).length l);have c:=h.same hg fun b o=>(by cases o;exact h.gS.2);exact h.cells hg ⟨P,k,Q,l,D,i,f,j,((q.set_ 5 _).set_ 6 _).set_ 7 _,IsQ.stb.to t c,IsK.stb.to r c,IsK.stb.to s c⟩
theorem ytt {t:TB} (h:∀i a,i<=m->a<=n->Sz ((t.A i a:Int):Rat) k) {a:Nat} (e:l<m+2) (c:a<L4 m n l):Sz ((Y7 t m n l a:Int):Rat) k:=by
 unfold Y7;unfold L4 at c;by_cases b:l=m
 ·rw[if_pos b];rw[if_pos b] at c;exact h a n og (Nat.le_refl _)
 ·rw[if_neg b];rw[if_neg b] at c;by_cases d:l=m+1
  ·rw[if_pos d,Rat.intCast_neg];exact(h m a (Nat.le_refl _) og).neg
  ·rw[if_neg d];exact h l a og og
theorem yts (t:TB) (m n l c:Nat):Y7 (zxx t) m n l c= -(Y7 t m n l c):=by
 unfold Y7;by_cases a:l=m
 ·rw[if_pos a,if_pos a];rfl
 ·rw[if_neg a,if_neg a];by_cases b:l=m+1
  ·rw[if_pos b,if_pos b];rfl
  ·rw[if_neg b,if_neg b];rfl
theorem zz1365 {w:p} {t:TB} {st:Int} (h:O7 w S lo0 lo g L m n sc top t st a steps) (cT:m<=100) (cU:n<=100) (bv:∀i c,i<=m->c<=n->Sz ((t.A i c:Int):Rat) 100000):
 Calls Tryz.prog 133 #[.pointer (some ⟨g,0,none⟩)] w fun d w'=>d= .returned (.tuple #[])/\O7 w' S lo0 lo g L m n sc top (zxx t) st a steps/\Btw lo0 lo S w w':=by
 obtain⟨a8,be⟩:=C4 h bv;have G:e (lo0<=w.heap.size/\lo<=w.heap.size):=⟨s h.gS.1 (Nat.le_of_lt h.g_lt),h.tab.hlo⟩;have cK:m<=L.rc:=h.caps.1;have cL:L.rc<=9223372036854775807:=(by have:=h.caps.2.1;unfold maxLen at this;omega);obtain⟨ct,cV,cv,cX,cn,cC,cx,cF,⟨bj,bn,-,-⟩,⟨aP,aQ,X,Y,Z⟩,⟨aR,aS,aT⟩,-,-⟩:=h.open;obtain⟨ah,cm,I⟩:=G4 (IsQ.stb.to bn (E0 (T:=C2 w) h.sn_lt)) (j X (j Y Z)) (j aR (j aS aT));have aH:e (∀U,Below w.heap.size w U->∀a3,U.frozen? ⟨g,a3,none⟩=false):=fun U aW a3=>(bj.next aW).frozen a3;obtain⟨cd,bw⟩:=nm (decide (t.A m n<0));obtain⟨cf,bx⟩:=nm ((A9 (t.A m n).natAbs).length);obtain⟨bJ,H⟩:=nm ((A9 1).length);rw[<-bw] at aR ah I;rw[<-bx] at aS ah I;rw[<-H] at aT ah I;have cE:=L7;have bQ:=o H;clear h bv bj bn aP aQ X Y Z bw bx H;go_in;go_wp2_with fail;clear aR aS aT;obtain⟨z,bE⟩:=nm (-(t.A m n));have bd:=o bE;clear bE;refine(zrf (p:=((z:Int):Rat)) ah.out (be.out m n (Nat.le_refl _) (Nat.le_refl _)) (by rw[bd.out,Rat.intCast_neg])).mono ?_;rintro d aC ⟨⟨cZ,rfl,hv⟩,r⟩;obtain⟨bf,bF,bg,bG,rfl⟩:=zku hv;have u0:=B9 r I.out.1;have u1:=B9 r I.out.2.1;have u2:=B9 r I.out.2.2;have aj:=aH.out aC r 5;have ak:=aH.out aC r 6;have al:=aH.out aC r 7;obtain⟨bK,P⟩:=C4 r ((a8.out.next r).value (P:=bf) (k:=bF) (Q:=bg) (l:=bG) (z':=z) (IsQ.stb.to hv (E0 fun b aa=> .inr ⟨s G.out.2 aa.1,aa.2⟩)));clear r hv;go_wp2_with fail;clear u0 u1 u2 aj ak al;rw[bQ.out] at*;obtain⟨f,aB⟩:=nm (((aC.setCell ⟨g,5,none⟩ (.bool (decide (z<0)))).setCell ⟨g,6,none⟩ (.slice bf (A9 z.natAbs).length bF)).setCell ⟨g,7,none⟩ (.slice bg (A9 1).length bG));have ae:e (Btw lo0 lo S w f):=(by rw[e,aB];exact((Btw.refl lo0 lo S w).step (K7 (row:=none) bK.out) G.out.1 (fun x d=>by cases d)).step (yan _ _ _ _ _) G.out.1 fun x d=>by cases d;exact a8.out.gS);have P:e (SchG f S lo0 lo g L m n sc top (Y7 t m n) z t.d t.bas t.oth st a steps):=(by rw[e,aB];exact P.out);rw[<-aB];have a7:e (lo<=f.heap.size):=s G.out.2 ae.out.bel.size;clear aB;obtain⟨cu,cW,cw,cY,cq,cD,cy,cG,-,⟨aP,aQ,X,Y,Z⟩,-,-,-⟩:=P.out.open;have RV:=o P.out.rowsS;have bu:(zml L m n).length=m:=(by unfold zml;simp);have aI:=o bu;clear aP aQ bu;have aJ:=zll X Y Z;have a6:=o fun U (aW:Below f.heap.size f U)=>yom ((IsS.stb IsSl.stb).to RV.out (E7 aW)) (by rw[aI.out];omega)
 go_region_held3 (SH.mk _ aJ).s
  (exact aJ.out _ bel)
  (first
    |(go_at_call 160;(with_reducible refine Calls.mono (a6.out _ bel) ?_);rintro d a4 ⟨⟨cg,rfl,bA⟩,aq⟩;have Q:=o bA;have N:=bW f a4;obtain⟨cl,cB,rfl⟩:=bA.slice;(first|(have cc:Row a4 f.heap.size 30 [.slice (L.ha m) m (L.cp m),.slice (L.ha (m+1)) n (L.cp (m+1))]:=(Row.next (heap_alloc_new (World.drew f) _) aq:Row a4 _ _ _))|skip))
    |(refine ykn elV rfl _ _ rfl (news:=[.slice (L.ha m) m (L.cp m),.slice (L.ha (m+1)) n (L.cp (m+1))]) rfl rfl (heap_alloc_new _ _) (OwnS.step IsSl.stb Q.out (N8 _ _) (fun b h=>h) (fun b h=> .inl h)) (by intro x D;rcases List.mem_cons.1 D with h|h;exact⟨_,_,_,h⟩;rw[List.mem_singleton] at h;exact⟨_,_,_,h⟩) (by rw[aI.out];simp;omega) (by have:=aq.size;simp at this;simp;omega) ?_;intro ch ad aA au;have O:e (Below f.heap.size f ad):=(zuq N.out _).grown au (Below.size (zuq N.out _)) (fun k d=>by have an:=(OwnS.own_lt Q.out k d).1;simp at an;omega);obtain⟨bl,bY,aO,b1,b3,bp,aY⟩:=yfm (lo:=lo) aA (by have:=a7.out;simp;omega);subst aO)
    |(refine ykn elV rfl _ _ rfl (news:=[.slice (L.ha m) m (L.cp m),.slice (L.ha (m+1)) n (L.cp (m+1))]) rfl rfl cc Q.out (by intro x D;rcases List.mem_cons.1 D with h|h;exact⟨_,_,_,h⟩;rw[List.mem_singleton] at h;exact⟨_,_,_,h⟩) (by rw[aI.out];simp;omega) (by have:=aq.size;simp at this;simp;omega) ?_;intro ch ad aA au;have O:e (Below f.heap.size f ad):=N.out.grown au (Below.size N.out) (fun k d=>by have an:=(OwnS.own_lt Q.out k d).1;simp at an;omega);obtain⟨bl,bY,aO,b1,b3,bp,aY⟩:=yfm (lo:=lo) aA (by have:=a7.out;simp;omega);subst aO))
 all_goals
  have bO:=o (P.out.next O.out)
  clear aJ a6 aA au Q N aq
  go_wp2_with fail
  clear X Y Z
  go_loopw [35,3,4,5] (fun aZ _ _ _ wr=>∃i:Nat,i<=m+2/\aZ= .int .i64 (i:Int)/\Btw lo0 lo S ad wr/\e (SchG wr S lo0 lo g L m n sc top (zms (Y7 t m n) i 0) z t.d t.bas t.oth st a steps)) (fun aZ _ _ _ _=>m+2-(intOf aZ).toNat)
  case atStart=>exact⟨0,E _,rfl,Btw.refl _ _ _ _,by rw[e,yur];exact bO.out⟩
  case round=>
   obtain⟨i,cN,rfl,ab,ac⟩:=hrel
   have aD:=o ab
   have aM:=o ac.out
   clear ab ac
   rcases A i (m+2) with az|cM
   ·have aN:=(u (aD.out.up _ aY.out.1 aY.out.2)).trans (bp.out i az)
    have cO:(0:Int)<=(i:Int):=og
    have cP:(i:Int)<(m:Int)+2:=og
    unfold hdL at aN
    obtain⟨cA,aX⟩:=nm (L.ha i)
    obtain⟨K,ao⟩:=nm (L4 m n i)
    obtain⟨C,aV⟩:=nm (L.cp i)
    have ar:=aM.out.cap i az
    rw[<-aX,<-ao,<-aV] at aN
    rw[<-ao,<-aV] at ar
    obtain⟨bM,af⟩:=C4 aX ao
    have cI:K<=C:=ar.1
    have cJ:C<=9223372036854775807:=by have:=ar.2;unfold maxLen at this;omega
    have q:=o az
    clear aX ao aV ar az
    go_wp2_with fail
    clear aN
    go_loopw [41,4,5] (fun a0 _ _ bI=>∃c:Nat,c<=K/\a0= .int .i64 (c:Int)/\Btw lo0 lo S ad bI/\e (SchG bI S lo0 lo g L m n sc top (zms (Y7 t m n) i c) z t.d t.bas t.oth st a steps)) (fun a0 _ _ _=>K-(intOf a0).toNat)
    case atStart=>exact⟨0,E _,rfl,aD.out,aM.out⟩
    case round=>
     obtain⟨c,cQ,rfl,ab,ac⟩:=hrel
     have a5:=o ab
     have R:=o ac.out
     clear ab ac
     rcases A c K with bq|bq
     ·have av:c<L4 m n i:=by rw[<-af.out];exact bq
      have aU:1<=L4 m n i:=og
      obtain⟨bR,ca,bT,cb,ea,V,W,ai,eq⟩:=R.out.el q.out av
      rw[yuo] at V W eq
      have ay:=R.out.tab.line i q.out aU
      have aj:wr.frozen? ⟨L.bk i,c*3,none⟩=false:=ay.free
      have ak:wr.frozen? ⟨L.bk i,c*3+1,none⟩=false:=ay.free
      have al:wr.frozen? ⟨L.bk i,c*3+2,none⟩=false:=ay.free
      have ag:=o eq
      have cR:(0:Int)<=(c:Int):=og
      have cS:(c:Int)<(K:Int):=og
      obtain⟨cj,bC⟩:=nm (decide (Y7 t m n i c<0))
      obtain⟨ck,bD⟩:=nm ((A9 (Y7 t m n i c).natAbs).length)
      obtain⟨bJ,H⟩:=nm ((A9 1).length)
      rw[<-bC] at V ag
      rw[<-bD] at W ag
      rw[<-H] at ai ag
      obtain⟨c1,b8,B,bH,b9⟩:=K0 wr #[.bool cj,.slice bR ck ca,.slice bT bJ cb] 37
      obtain⟨bV,bX,b2⟩:=C3 bH
      have bU:=nQ ag B
      obtain⟨J,aG,aE,F,bP⟩:=hd5 (j (B9 B V) (j (B9 B W) (B9 B ai))) (j (G6 B V aj) (j (G6 B W ak) (G6 B ai al))) B (j av aU) (ytt be.out q.out av)
      have bZ:=bM.out.trans ea
      subst bZ
      obtain⟨cz,bm⟩:=nm (L.bk i)
      obtain⟨cr,cs⟩:=C4 bm H
      clear eq ay bC bD H bH b9 B aj ak al av aU ea
      go_wp2_with fail
      clear b8 V W ai
      obtain⟨y,bB⟩:=nm (-Y7 t m n i c)
      have a9:=o bB
      clear bB
      refine(zrf (p:=((y:Int):Rat)) bU.out bP.out (by rw[a9.out,Rat.intCast_neg])).mono ?_
      rintro d M ⟨⟨c0,rfl,hv⟩,v⟩
      obtain⟨aK,a1,aL,a2,rfl⟩:=zku hv
      have u0:=B9 v J.out.1
      have u1:=B9 v J.out.2.1
      have u2:=B9 v J.out.2.2
      have cd:=G6 v J.out.1 aG.out.1
      have cf:=G6 v J.out.2.1 aG.out.2.1
      have cg:=G6 v J.out.2.2 aG.out.2.2
      have T:=o ((R.out.next aE.out).next v)
      have bL:=nB aE v
      have bN:e (IsQ M (SN S lo M) (.agg #[.bool (decide (y<0)),.slice aK (A9 y.natAbs).length a1,.slice aL (A9 1).length a2]) ((y:Int):Rat)):=IsQ.stb.to hv (E0 fun b aa=> .inr ⟨by have an:=aa.1;have cH:=R.out.tab.hlo;have bh:=aE.out.size;omega,aa.2⟩)
      clear v hv bV bX b2 bm
      go_wp2_with fail
      go_roundw
      case rel=>
       have bi:=(T.out.tab.line i q.out F.out.2).put (fun x D d=>by
        have bh:=T.out.tab.sep i q.out F.out.2
        rcases D with D|D
        ·exact bh.2 (by rw[<-d];exact D)
        ·have:=D.1;omega) F.out.1 bN.out
       have hg:M.grownBy (L9 M (L.bk i) c (.bool (decide (y<0))) (.slice aK (A9 y.natAbs).length a1) (.slice aL (A9 1).length a2)) (some (L.bk i)):=zlk (H8 _ _)
       have b5:SN S lo M=SN S lo (L9 M (L.bk i) c (.bool (decide (y<0))) (.slice aK (A9 y.natAbs).length a1) (.slice aL (A9 1).length a2)):=by unfold SN;rw[zpl]
       rw[b5] at bi
       have b0:=(T.out.line q.out F.out.2 hg bi).nums (G:=zms (Y7 t m n) i (c+1)) fun l k _ _=>by rw[a9.out,zrb];exact yuq _ i c l k
       have b4:=T.out.lS i q.out F.out.2
       have b7:=T.out.tab.sep i q.out F.out.2
       exact⟨c+1,by have:=F.out.1;rw[af.out];omega,by go_num,(a5.out.step (K7 (row:=none) bL.out) (by have:=G.out;have:=ae.out.bel.size;have:=O.out.size;omega) (fun x d=>by cases d)).step hg (by have:=G.out;have:=ae.out.bel.size;have:=O.out.size;omega) (fun x d=>by cases d;exact⟨b4.1,b7⟩),b0⟩
      case measure=>simp[intOf];have:=F.out.1;rw[<-af.out] at this;omega
     ·obtain rfl:c=K:=og
      go_wp2_with fail
      go_roundw
      case rel=>
       refine⟨i+1,q.out,by go_num,a5.out,?_⟩
       exact R.out.nums fun l k bt br=>yup _ fun d=>by subst d;rw[af.out];exact br
      case measure=>simp[intOf];have:=q.out;omega
   ·obtain rfl:i=m+2:=og
    go_wp2_with fail
    refine bodyPost_end (results_none rfl _ _ _) rfl ?_
    have hfin:=aM.out
    rw[bd.out] at hfin
    refine⟨rfl,hfin.nums fun l k bt br=> ?_,(ae.out.below O.out G.out.1).trans aD.out⟩
    unfold zms
    rw[if_pos (.inl bt)]
    exact(yts t m n l k).symm
end Go.Proofs.YtdgilbgdkmhcmaaGreatDoor
