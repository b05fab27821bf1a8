/-
 The contract of package simplex's change.
-/
import Derived.Test.YtlhhbccgfkhflaaGreatDoorProofSimplexPivots07
import Derived.BigRegion
namespace Go.Proofs.YtlhhbccgfkhflaaGreatDoor
open Go.RowKit
set_option linter.unusedVariables false
set_option maxRecDepth 100000
set_option maxHeartbeats 8000000
open _root_.Go.Lib renaming hid → o
open _root_.Nat renaming le_trans → s, lt_of_lt_of_le → q, lt_or_ge → A, zero_le → E
open _root_.Go.World renaming cell?_of_block → u
open _root_.And renaming intro → j
open _root_.List renaming length_append → d, getElem?_map → B
open _root_.Go renaming World → p, Value → r
open _root_.Go.RowKit renaming Hid → e
variable {L : Lay} {S : Nat → Prop} {b : p} {base c g i k l lo0 m n top : Nat} {a steps : Int} {f : Nat → Int} {sc : Nat → Nat} {t : TypeId} {v : r}
def zls (f g:Nat->Int) (c d k:Nat):Nat->Int:=fun a=>if a<k/\a≠c then zld (f a) (g c) (f c) (g a) d else f a
def zod (f g:Nat->Int) (c d:Nat):Nat->Int:=fun a=>if a=c then -(f c) else zld (f a) (g c) (f c) (g a) d
theorem yfp (f g:Nat->Int) (c d:Nat):zls f g c d 0=f:=by funext j;unfold zls;rw[if_neg og]
theorem yfl (f g:Nat->Int) (c d k:Nat):zls f g c d k k=f k:=by unfold zls;rw[if_neg og]
theorem yfn (f g:Nat->Int) (d k:Nat):zls f g k d (k+1)=zls f g k d k:=by
 funext j;unfold zls;by_cases h:j<k/\j≠k
 ·rw[if_pos h,if_pos ⟨by omega,h.2⟩]
 ·rw[if_neg h,if_neg og]
theorem yfo (f g:Nat->Int) {d:Nat} (h:k≠c) (a:Nat):(if a=k then zld (f k) (g c) (f c) (g k) d else zls f g c d k a)=zls f g c d (k+1) a:=by
 unfold zls;by_cases e:a=k
 ·subst e;rw[if_pos rfl,if_pos ⟨by omega,h⟩]
 ·rw[if_neg e];by_cases b:a<k/\a≠c
  ·rw[if_pos b,if_pos ⟨by omega,b.2⟩]
  ·rw[if_neg b,if_neg og]
theorem yfm (f g:Nat->Int) {d:Nat} (b:Nat) (e:b<m):(if b=c then -(f c) else zls f g c d m b)=zod f g c d b:=by
 unfold zls zod;by_cases a:b=c
 ·rw[if_pos a,if_pos a]
 ·rw[if_neg a,if_neg a,if_pos ⟨e,a⟩]
theorem LineW.mono {w:p} {T:Nat->Prop} {b:Nat} (h:LineW w S b c m f) (a:∀x,S x->T x):LineW w T b c m f:=h.keep rfl fun x d=>⟨a x d,rfl⟩
theorem LineW.grow {w w':p} {lo b:Nat} (h:LineW w (SN S lo w) b c m f) (g:∀x,S x->x<w.heap.size) (d:Below w.heap.size w w'):LineW w' (SN S lo w') b c m f:=
 h.keep (d.block _ h.lt) fun x e=>⟨zmt d.size x e,d.block x (by rcases e with a|a;exact g x a;exact a.2)⟩
theorem yfk {w:p} {t C aW B d aQ:Nat} {D:Option Addr} {g:Nat->Int} (a8:LineW w S t C m f) (a7:LineW w S aW B m g) (cA:aW≠t) (cz:∀b,S b->b<w.heap.size/\b≠t/\b≠aW)
 (hD:NumS w S (.slice D (A9 d).length aQ) d) (c0:m<=100) (hc:c<m) (cG:∀i,i<m->Sz ((f i:Int):Rat) 100000/\Sz ((g i:Int):Rat) 100000) (cE:(A9 d).length<=100000) (cD:0<d):
 Calls Tryz.prog 118 #[.slice (some ⟨t,0,none⟩) m C,.slice (some ⟨aW,0,none⟩) m B,.int .i64 (c:Int),.slice D (A9 d).length aQ] w fun v w'=>v= .returned (.tuple #[])/\LineW w' (SN S w.heap.size w') t C m (zod f g c d)/\w.grownBy w' (some t):=by
 obtain⟨cu,ct,bX,ar,H,cx,cw,aP⟩:=hd8 a8 a7 hD cG cz cE cD cA;have cU:(0:Int)<=(c:Int):=og;have cV:(c:Int)<(m:Int):=og;have cT:=T3;obtain⟨au,k,ay,l,L,M,P,eq⟩:=a7.el c hc;obtain⟨av,aA,az,aB,bT,bU,bV,cy⟩:=a8.el c hc;obtain⟨bp,bm⟩:=C5 eq cy;obtain⟨aC,cH⟩:=nm (decide (g c<0));obtain⟨aD,cI⟩:=nm ((A9 (g c).natAbs).length);obtain⟨aE,cJ⟩:=nm (decide (f c<0));obtain⟨aG,cK⟩:=nm ((A9 (f c).natAbs).length);obtain⟨I,ck⟩:=nm ((A9 1).length);obtain⟨a9,cF⟩:=nm ((A9 d).length);rw[<-cH] at L bp;rw[<-cI] at M bp;rw[<-ck] at P bp bV bm;rw[<-cJ] at bT bm;rw[<-cK] at bU bm;rw[<-cF] at bX⊢;have cC:t<w.heap.size:=a8.lt;have cB:aW<w.heap.size:=a7.lt;obtain⟨aa,cv,bR⟩:=G0 cC cB ck;have cW:=a8.cap.1;have cX:C<=9223372036854775807:=(by have:=a8.cap.2;unfold maxLen at this;omega);have cY:=a7.cap.1;have cZ:B<=9223372036854775807:=(by have:=a7.cap.2;unfold maxLen at this;omega);clear a8 a7 eq cy cG cH cI ck cJ cK cC cB cF hD cE cD cA cz;go_in;go_wp2_with fail;have W:=zmx L M P bT bU bV
 go_region_held3 (SH.mk _ W).s
  (exact W.out _ bel)
  (fail)
 ·obtain⟨cs,bC,Y,bL,bK,bj⟩:=zko w #[.bool aC,.slice au aD k,.slice ay I l] #[.bool aE,.slice av aG aA,.slice az I aB] 30 30;rw[bC];obtain⟨aq,Z⟩:=nm (cs.drew);have bd:e (Below w.heap.size w aq):=(by rw[e,Z];exact⟨Y.os,Y.tape,Y.output,Y.size,Y.block⟩);have cc:e (Row aq w.heap.size 30 [.bool aC,.slice au aD k,.slice ay I l]):=(by rw[e,Z];exact bL.drew);have cb:e (Row aq (w.heap.size+1) 30 [.bool aE,.slice av aG aA,.slice az I aB]):=(by rw[e,Z];exact bK.drew);have cL:e (aq.heap.size=w.heap.size+2):=(by rw[e,Z];exact bj.out);rw[<-Z];clear Z Y bL bK bj W bC;clear L M P bT bU bV;go_wp2_with fail;go_loopw [22,10,11] (fun a4 _ _ wr=>∃i:Nat,i<=m/\a4= .int .i64 (i:Int)/\aq.grownBy wr (some t)/\e (LineW wr (SN S w.heap.size wr) t C m (zls f g c d i))) (fun a4 _ _ _=>m-(intOf a4).toNat);case atStart=>exact⟨0,E _,rfl,I7 _ _,by rw[e,yfp];exact(cu.out.mono (T:=SN S w.heap.size w) fun x n=> .inl n).grow (fun x n=>(H.out x n).1) bd.out⟩
  case round=>
   obtain⟨i,cP,rfl,aj,bw⟩:=hrel;have bf:=o aj;have N:=o bw.out;have F:=o (J7 (K0 bd.out) aj);have b3:e (LineW wr S aW B m g):=ct.out.keep (F.out.block _ cv.out fun v=>aP.out (by cases v;rfl)) fun x n=>⟨n,F.out.block _ (H.out x n).1 fun v=>(H.out x n).2.1 (by cases v;rfl)⟩;have bv:e (t<w.heap.size):=aa.out;obtain⟨cd,bq⟩:=C5 (cc.out.grownN aj fun b v=>by cases v;have:=bv.out;omega) (cb.out.grownN aj fun b v=>by cases v;have:=bv.out;omega);have aH:K6 S (C3 wr) w wr:=fun b G=>⟨q (H.out b G).1 F.out.size,fun cS=>u (F.out.block b (H.out b G).1 fun v=>(H.out b G).2.1 (by cases v;rfl))⟩;have b7:e (IsQ wr (C3 wr) (.agg #[.bool aC,.slice au aD k,.slice ay I l]) ((g c:Int):Rat)):=IsQ.stb.to bp.out aH;have bn:e (IsQ wr (C3 wr) (.agg #[.bool aE,.slice av aG aA,.slice az I aB]) ((f c:Int):Rat)):=IsQ.stb.to bm.out aH;have bY:e (NumS wr (C3 wr) (.slice D a9 aQ) d):=IsK.stb.to bX.out aH
   have bi:e (∀b,SN S w.heap.size wr b->C3 wr b):=fun b G=>by
    rcases G with h|h
    ·exact q (H.out b h).1 F.out.size
    ·exact h.2
   clear aj bw aH;rcases A i m with T|cO
   ·obtain⟨aU,a5,aV,a6,L,M,P,eq⟩:=N.out.el i T;obtain⟨b4,cm,Q3,cn,a1,a2,a3,bG⟩:=b3.out.el i T;rw[yfl] at L M eq;obtain⟨aI,aJ⟩:=C5 (IsQ.stb.to eq (F7 (T:=C3 wr) bi.out)) (IsQ.stb.to bG (F7 (T:=C3 wr) fun b G=>bi.out b (.inl G)));obtain⟨bP,bE⟩:=nm (decide (f i<0));obtain⟨bQ,bF⟩:=nm ((A9 (f i).natAbs).length);obtain⟨cq,bx⟩:=nm (decide (g i<0));obtain⟨cr,bA⟩:=nm ((A9 (g i).natAbs).length);rw[<-bE] at L aI;rw[<-bF] at M aI;rw[<-bx] at a1 aJ;rw[<-bA] at a2 aJ;rw[<-bR.out] at P aI a3 aJ;have cQ:(0:Int)<=(i:Int):=og;have cR:(i:Int)<(m:Int):=og;have cg:t<wr.heap.size:=q aa.out F.out.size;have af:wr.frozen? ⟨t,i*3,none⟩=false:=N.out.free;have ag:wr.frozen? ⟨t,i*3+1,none⟩=false:=N.out.free;have ah:wr.frozen? ⟨t,i*3+2,none⟩=false:=N.out.free;obtain⟨Q,bD,r,bM,cl⟩:=J5 wr #[.bool bP,.slice aU bQ a5,.slice aV I a6] 30;obtain⟨br,bt,b2⟩:=B9 bM;obtain⟨bH,bI,bJ⟩:=B9 cd.out;obtain⟨aL,aM,aN⟩:=B9 bq.out;obtain⟨J,y,U⟩:=G0 (j br (j bt (j b2 (j (C0 r bH) (j (C0 r bI) (j (C0 r bJ) (j (C0 r aL) (j (C0 r aM) (j (C0 r aN) (j (C0 r a1) (j (C0 r a2) (C0 r a3)))))))))))) (j (C0 r L) (j (C0 r M) (C0 r P))) (j (I8 r L af) (j (I8 r M ag) (I8 r P ah)));have b9:=nQ aI r;have ca:=nQ aJ r;have X:=o r;have ch:=T;have ac:=o T;obtain⟨z,al⟩:=nm (zld (f i) (g c) (f c) (g i) d);have ab:=o al;have aY:e (wr.heap.size≠t):=oH;have aZ:e (w.heap.size≠t):=oH1 aa;have a0:e ((w.heap.size+1)≠t):=oH1 aa;have b8:e (IsQ Q (C3 Q) (.agg #[.bool aC,.slice au aD k,.slice ay I l]) ((g c:Int):Rat)):=IsQ.stb.next b7.out r;have b5:e (IsQ Q (C3 Q) (.agg #[.bool aE,.slice av aG aA,.slice az I aB]) ((f c:Int):Rat)):=IsQ.stb.next bn.out r;have bZ:e (NumS Q (C3 Q) (.slice D a9 aQ) d):=IsK.stb.next bY.out r;clear eq bG bE bF bx bA bM cl r br bt b2 af ag ah cg al T ch bH bI bJ aL aM aN;by_cases ak:i=c
    ·have cj:(((i:Int) !=(c:Int)):Bool)=false:=(by rw[ak];simp);have bg:=o ak;clear ak;go_wp2_with fail;clear bD;go_roundw;(case rel=>refine⟨i+1,ac.out,by go_num,J7 bf.out (K0 X.out),?_⟩;rw[<-bg.out];rw[e,yfn];have:=N.out.grow (fun x n=>q (H.out x n).1 F.out.size) X.out;rw[<-bg.out] at this;exact this);case measure=>simp[intOf];have:=ac.out;omega
    ·have cj:(((i:Int) !=(c:Int)):Bool)=true:=(by simp;omega);have b1:=o ak;clear ak;go_wp2_with fail;clear bD L M P a1 a2 a3;have W:=yhw J.out.1 J.out.2.1 J.out.2.2.1 J.out.2.2.2.1 J.out.2.2.2.2.1 J.out.2.2.2.2.2.1 J.out.2.2.2.2.2.2.1 J.out.2.2.2.2.2.2.2.1 J.out.2.2.2.2.2.2.2.2.1 J.out.2.2.2.2.2.2.2.2.2.1 J.out.2.2.2.2.2.2.2.2.2.2.1 J.out.2.2.2.2.2.2.2.2.2.2.2;have be:e (∀aK:p,Below Q.heap.size Q aK->Calls Tryz.prog 117 #[.agg #[.bool bP,.slice aU bQ a5,.slice aV I a6],.agg #[.bool aC,.slice au aD k,.slice ay I l],.agg #[.bool aE,.slice av aG aA,.slice az I aB],.agg #[.bool cq,.slice b4 cr cm,.slice Q3 I cn],.slice D a9 aQ] aK (N8 aK (((z:Int)):Rat))):=fun aK ai=>(by have h:=zvm (IsQ.stb.next b9.out ai) (IsQ.stb.next b8.out ai) (IsQ.stb.next b5.out ai) (IsQ.stb.next ca.out ai) (E9 (IsK.stb.next bZ.out ai)) ((ar.out i ac.out).1.le og) ((ar.out c hc).2.le og) ((ar.out c hc).1.le og) ((ar.out i ac.out).2.le og) (s cx.out og) cw.out;rw[Rat.num_intCast,Rat.num_intCast,Rat.num_intCast,Rat.num_intCast,<-ab.out] at h;exact h);have bh:=hpE i W (nA aY.out (nA aY.out (nA aY.out (nA aZ.out (nA aZ.out (nA aZ.out (nA a0.out (nA a0.out (nA a0.out (nA aP.out (nA aP.out (nZ aP.out))))))))))))
     go_region_held3 (SH.mk _ W).s
      (first|exact W.out _ bel|exact bh.out _ bel _ _ _)
      (first
        |(go_at_call 117;(with_reducible refine Calls.mono (be.out _ bel) ?_);rintro v K ⟨⟨aO,rfl,V⟩,O⟩;have R:=bW Q K;obtain⟨ae,an,ad,ao,rfl⟩:=zlx V;have u0:=C0 R.out y.out.1;have u1:=C0 R.out y.out.2.1;have u2:=C0 R.out y.out.2.2;have bN:=I8 R.out y.out.1 U.out.1;have bO:=I8 R.out y.out.2.1 U.out.2.1;have aO:=I8 R.out y.out.2.2 U.out.2.2))
     have aT:=o ((N.out.grow (fun x n=>q (H.out x n).1 F.out.size) X.out).grow (fun x n=>q (H.out x n).1 (s F.out.size X.out.size)) R.out);have bB:IsQ K (SN S w.heap.size K) (.agg #[.bool (decide (z<0)),.slice ae (A9 z.natAbs).length an,.slice ad (A9 1).length ao]) ((z:Int):Rat):=IsQ.stb.to V (F7 fun b G=> .inr ⟨by have cM:=F.out.size;have cN:=X.out.size;have cf:=G.1;simp at cf;omega,G.2⟩);have aS:=o bB;have T:=ac.out;have aR:=o (J7 (J7 bf.out (K0 X.out)) (K0 R.out));clear W bh be V O u0 u1 u2 bN bO aO bB;go_wp2_with fail;go_roundw
     case rel=>
      have aX:=aT.out.put (fun x n v=>by
       rcases n with n|n
       ·exact(H.out x n).2.1 v
       ·have:=aa.out;have:=n.1;omega) T aS.out
      refine⟨i+1,T,by go_num,zmk aR.out,?_⟩;have v:SN S w.heap.size (L7 K t i (.bool (decide (z<0))) (.slice ae (A9 z.natAbs).length an) (.slice ad (A9 1).length ao))=SN S w.heap.size K:=(by unfold SN;rw[zom]);show LineW _ (SN S w.heap.size (L7 K t i _ _ _)) _ _ _ _;rw[v];exact aX.same fun a _=>by rw[ab.out];exact yfo f g b1.out a
     case measure=>simp[intOf];omega
   ·obtain rfl:i=m:=og;obtain⟨aU,a5,aV,a6,L,M,P,eq⟩:=N.out.el c hc;have bu:zls f g c d i c=f c:=(by unfold zls;rw[if_neg og]);rw[<-bR.out] at P;rw[bu] at L M;have af:wr.frozen? ⟨t,c*3,none⟩=false:=N.out.free;have ag:wr.frozen? ⟨t,c*3+1,none⟩=false:=N.out.free;have ah:wr.frozen? ⟨t,c*3+2,none⟩=false:=N.out.free;obtain⟨aL,aM,aN⟩:=B9 bq.out;obtain⟨b0,y,U⟩:=G0 hc (j L (j M P)) (j af (j ag ah));clear L M P af ag ah eq bu;go_wp2_with fail;obtain⟨z,al⟩:=nm (-f c);have ab:=o al;clear al;refine(zul (p:=((z:Int):Rat)) bn.out ((ar.out c hc).1) (by rw[ab.out,Rat.intCast_neg])).mono ?_;rintro v K ⟨⟨aO,rfl,V⟩,O⟩;obtain⟨ae,an,ad,ao,rfl⟩:=zlx V;have u0:=C0 O y.out.1;have u1:=C0 O y.out.2.1;have u2:=C0 O y.out.2.2;have bN:=I8 O y.out.1 U.out.1;have bO:=I8 O y.out.2.1 U.out.2.1;have aO:=I8 O y.out.2.2 U.out.2.2;have aT:=o (N.out.grow (fun x n=>q (H.out x n).1 F.out.size) O);have aS:e (IsQ K (SN S w.heap.size K) (.agg #[.bool (decide (z<0)),.slice ae (A9 (z).natAbs).length an,.slice ad (A9 1).length ao]) ((z:Int):Rat)):=IsQ.stb.to V (F7 fun b G=> .inr ⟨s F.out.size G.1,G.2⟩);have aR:=o (J7 F.out (K0 O));clear V O aL aM aN;go_wp2_with fail;refine bodyPost_end (results_none rfl _ _ _) rfl ?_
    have aX:=aT.out.put (fun x n v=>by
     rcases n with n|n
     ·exact(H.out x n).2.1 v
     ·have:=aa.out;have:=n.1;omega) b0.out aS.out
    refine⟨rfl,?_,zmk aR.out⟩;have v:SN S w.heap.size (L7 K t c (.bool (decide (z<0))) (.slice ae (A9 (z).natAbs).length an) (.slice ad (A9 1).length ao))=SN S w.heap.size K:=(by unfold SN;rw[zom]);show LineW _ (SN S w.heap.size (L7 K t c _ _ _)) _ _ _ _;rw[v];exact aX.same fun a ha=>by rw[ab.out];exact yfm f g a ha
 ·obtain⟨cs,bC,Y,bK,bL,bj⟩:=zko w #[.bool aE,.slice av aG aA,.slice az I aB] #[.bool aC,.slice au aD k,.slice ay I l] 30 30;rw[bC];obtain⟨aq,Z⟩:=nm (cs.drew);have bd:e (Below w.heap.size w aq):=(by rw[e,Z];exact⟨Y.os,Y.tape,Y.output,Y.size,Y.block⟩);have cc:e (Row aq (w.heap.size+1) 30 [.bool aC,.slice au aD k,.slice ay I l]):=(by rw[e,Z];exact bL.drew);have cb:e (Row aq w.heap.size 30 [.bool aE,.slice av aG aA,.slice az I aB]):=(by rw[e,Z];exact bK.drew);have cL:e (aq.heap.size=w.heap.size+2):=(by rw[e,Z];exact bj.out);rw[<-Z];clear Z Y bL bK bj W bC;clear L M P bT bU bV;go_wp2_with fail;go_loopw [22,10,11] (fun a4 _ _ wr=>∃i:Nat,i<=m/\a4= .int .i64 (i:Int)/\aq.grownBy wr (some t)/\e (LineW wr (SN S w.heap.size wr) t C m (zls f g c d i))) (fun a4 _ _ _=>m-(intOf a4).toNat);case atStart=>exact⟨0,E _,rfl,I7 _ _,by rw[e,yfp];exact(cu.out.mono (T:=SN S w.heap.size w) fun x n=> .inl n).grow (fun x n=>(H.out x n).1) bd.out⟩
  case round=>
   obtain⟨i,cP,rfl,aj,bw⟩:=hrel;have bf:=o aj;have N:=o bw.out;have F:=o (J7 (K0 bd.out) aj);have b3:e (LineW wr S aW B m g):=ct.out.keep (F.out.block _ cv.out fun v=>aP.out (by cases v;rfl)) fun x n=>⟨n,F.out.block _ (H.out x n).1 fun v=>(H.out x n).2.1 (by cases v;rfl)⟩;have bv:e (t<w.heap.size):=aa.out;obtain⟨cd,bq⟩:=C5 (cc.out.grownN aj fun b v=>by cases v;have:=bv.out;omega) (cb.out.grownN aj fun b v=>by cases v;have:=bv.out;omega);have aH:K6 S (C3 wr) w wr:=fun b G=>⟨q (H.out b G).1 F.out.size,fun cS=>u (F.out.block b (H.out b G).1 fun v=>(H.out b G).2.1 (by cases v;rfl))⟩;have b7:e (IsQ wr (C3 wr) (.agg #[.bool aC,.slice au aD k,.slice ay I l]) ((g c:Int):Rat)):=IsQ.stb.to bp.out aH;have bn:e (IsQ wr (C3 wr) (.agg #[.bool aE,.slice av aG aA,.slice az I aB]) ((f c:Int):Rat)):=IsQ.stb.to bm.out aH;have bY:e (NumS wr (C3 wr) (.slice D a9 aQ) d):=IsK.stb.to bX.out aH
   have bi:e (∀b,SN S w.heap.size wr b->C3 wr b):=fun b G=>by
    rcases G with h|h
    ·exact q (H.out b h).1 F.out.size
    ·exact h.2
   clear aj bw aH;rcases A i m with T|cO
   ·obtain⟨aU,a5,aV,a6,L,M,P,eq⟩:=N.out.el i T;obtain⟨b4,cm,Q3,cn,a1,a2,a3,bG⟩:=b3.out.el i T;rw[yfl] at L M eq;obtain⟨aI,aJ⟩:=C5 (IsQ.stb.to eq (F7 (T:=C3 wr) bi.out)) (IsQ.stb.to bG (F7 (T:=C3 wr) fun b G=>bi.out b (.inl G)));obtain⟨bP,bE⟩:=nm (decide (f i<0));obtain⟨bQ,bF⟩:=nm ((A9 (f i).natAbs).length);obtain⟨cq,bx⟩:=nm (decide (g i<0));obtain⟨cr,bA⟩:=nm ((A9 (g i).natAbs).length);rw[<-bE] at L aI;rw[<-bF] at M aI;rw[<-bx] at a1 aJ;rw[<-bA] at a2 aJ;rw[<-bR.out] at P aI a3 aJ;have cQ:(0:Int)<=(i:Int):=og;have cR:(i:Int)<(m:Int):=og;have cg:t<wr.heap.size:=q aa.out F.out.size;have af:wr.frozen? ⟨t,i*3,none⟩=false:=N.out.free;have ag:wr.frozen? ⟨t,i*3+1,none⟩=false:=N.out.free;have ah:wr.frozen? ⟨t,i*3+2,none⟩=false:=N.out.free;obtain⟨Q,bD,r,bM,cl⟩:=J5 wr #[.bool bP,.slice aU bQ a5,.slice aV I a6] 30;obtain⟨br,bt,b2⟩:=B9 bM;obtain⟨bH,bI,bJ⟩:=B9 cd.out;obtain⟨aL,aM,aN⟩:=B9 bq.out;obtain⟨J,y,U⟩:=G0 (j br (j bt (j b2 (j (C0 r bH) (j (C0 r bI) (j (C0 r bJ) (j (C0 r aL) (j (C0 r aM) (j (C0 r aN) (j (C0 r a1) (j (C0 r a2) (C0 r a3)))))))))))) (j (C0 r L) (j (C0 r M) (C0 r P))) (j (I8 r L af) (j (I8 r M ag) (I8 r P ah)));have b9:=nQ aI r;have ca:=nQ aJ r;have X:=o r;have ch:=T;have ac:=o T;obtain⟨z,al⟩:=nm (zld (f i) (g c) (f c) (g i) d);have ab:=o al;have aY:e (wr.heap.size≠t):=oH;have aZ:e ((w.heap.size+1)≠t):=oH1 aa;have a0:e (w.heap.size≠t):=oH1 aa;have b8:e (IsQ Q (C3 Q) (.agg #[.bool aC,.slice au aD k,.slice ay I l]) ((g c:Int):Rat)):=IsQ.stb.next b7.out r;have b5:e (IsQ Q (C3 Q) (.agg #[.bool aE,.slice av aG aA,.slice az I aB]) ((f c:Int):Rat)):=IsQ.stb.next bn.out r;have bZ:e (NumS Q (C3 Q) (.slice D a9 aQ) d):=IsK.stb.next bY.out r;clear eq bG bE bF bx bA bM cl r br bt b2 af ag ah cg al T ch bH bI bJ aL aM aN;by_cases ak:i=c
    ·have cj:(((i:Int) !=(c:Int)):Bool)=false:=(by rw[ak];simp);have bg:=o ak;clear ak;go_wp2_with fail;clear bD;go_roundw;(case rel=>refine⟨i+1,ac.out,by go_num,J7 bf.out (K0 X.out),?_⟩;rw[<-bg.out];rw[e,yfn];have:=N.out.grow (fun x n=>q (H.out x n).1 F.out.size) X.out;rw[<-bg.out] at this;exact this);case measure=>simp[intOf];have:=ac.out;omega
    ·have cj:(((i:Int) !=(c:Int)):Bool)=true:=(by simp;omega);have b1:=o ak;clear ak;go_wp2_with fail;clear bD L M P a1 a2 a3;have W:=yhw J.out.1 J.out.2.1 J.out.2.2.1 J.out.2.2.2.1 J.out.2.2.2.2.1 J.out.2.2.2.2.2.1 J.out.2.2.2.2.2.2.1 J.out.2.2.2.2.2.2.2.1 J.out.2.2.2.2.2.2.2.2.1 J.out.2.2.2.2.2.2.2.2.2.1 J.out.2.2.2.2.2.2.2.2.2.2.1 J.out.2.2.2.2.2.2.2.2.2.2.2;have be:e (∀aK:p,Below Q.heap.size Q aK->Calls Tryz.prog 117 #[.agg #[.bool bP,.slice aU bQ a5,.slice aV I a6],.agg #[.bool aC,.slice au aD k,.slice ay I l],.agg #[.bool aE,.slice av aG aA,.slice az I aB],.agg #[.bool cq,.slice b4 cr cm,.slice Q3 I cn],.slice D a9 aQ] aK (N8 aK (((z:Int)):Rat))):=fun aK ai=>(by have h:=zvm (IsQ.stb.next b9.out ai) (IsQ.stb.next b8.out ai) (IsQ.stb.next b5.out ai) (IsQ.stb.next ca.out ai) (E9 (IsK.stb.next bZ.out ai)) ((ar.out i ac.out).1.le og) ((ar.out c hc).2.le og) ((ar.out c hc).1.le og) ((ar.out i ac.out).2.le og) (s cx.out og) cw.out;rw[Rat.num_intCast,Rat.num_intCast,Rat.num_intCast,Rat.num_intCast,<-ab.out] at h;exact h);have bh:=hpE i W (nA aY.out (nA aY.out (nA aY.out (nA aZ.out (nA aZ.out (nA aZ.out (nA a0.out (nA a0.out (nA a0.out (nA aP.out (nA aP.out (nZ aP.out))))))))))))
     go_region_held3 (SH.mk _ W).s
      (first|exact W.out _ bel|exact bh.out _ bel _ _ _)
      (first
        |(go_at_call 117;(with_reducible refine Calls.mono (be.out _ bel) ?_);rintro v K ⟨⟨aO,rfl,V⟩,O⟩;have R:=bW Q K;obtain⟨ae,an,ad,ao,rfl⟩:=zlx V;have u0:=C0 R.out y.out.1;have u1:=C0 R.out y.out.2.1;have u2:=C0 R.out y.out.2.2;have bN:=I8 R.out y.out.1 U.out.1;have bO:=I8 R.out y.out.2.1 U.out.2.1;have aO:=I8 R.out y.out.2.2 U.out.2.2))
     have aT:=o ((N.out.grow (fun x n=>q (H.out x n).1 F.out.size) X.out).grow (fun x n=>q (H.out x n).1 (s F.out.size X.out.size)) R.out);have bB:IsQ K (SN S w.heap.size K) (.agg #[.bool (decide (z<0)),.slice ae (A9 z.natAbs).length an,.slice ad (A9 1).length ao]) ((z:Int):Rat):=IsQ.stb.to V (F7 fun b G=> .inr ⟨by have cM:=F.out.size;have cN:=X.out.size;have cf:=G.1;simp at cf;omega,G.2⟩);have aS:=o bB;have T:=ac.out;have aR:=o (J7 (J7 bf.out (K0 X.out)) (K0 R.out));clear W bh be V O u0 u1 u2 bN bO aO bB;go_wp2_with fail;go_roundw
     case rel=>
      have aX:=aT.out.put (fun x n v=>by
       rcases n with n|n
       ·exact(H.out x n).2.1 v
       ·have:=aa.out;have:=n.1;omega) T aS.out
      refine⟨i+1,T,by go_num,zmk aR.out,?_⟩;have v:SN S w.heap.size (L7 K t i (.bool (decide (z<0))) (.slice ae (A9 z.natAbs).length an) (.slice ad (A9 1).length ao))=SN S w.heap.size K:=(by unfold SN;rw[zom]);show LineW _ (SN S w.heap.size (L7 K t i _ _ _)) _ _ _ _;rw[v];exact aX.same fun a _=>by rw[ab.out];exact yfo f g b1.out a
     case measure=>simp[intOf];omega
   ·obtain rfl:i=m:=og;obtain⟨aU,a5,aV,a6,L,M,P,eq⟩:=N.out.el c hc;have bu:zls f g c d i c=f c:=(by unfold zls;rw[if_neg og]);rw[<-bR.out] at P;rw[bu] at L M;have af:wr.frozen? ⟨t,c*3,none⟩=false:=N.out.free;have ag:wr.frozen? ⟨t,c*3+1,none⟩=false:=N.out.free;have ah:wr.frozen? ⟨t,c*3+2,none⟩=false:=N.out.free;obtain⟨aL,aM,aN⟩:=B9 bq.out;obtain⟨b0,y,U⟩:=G0 hc (j L (j M P)) (j af (j ag ah));clear L M P af ag ah eq bu;go_wp2_with fail;obtain⟨z,al⟩:=nm (-f c);have ab:=o al;clear al;refine(zul (p:=((z:Int):Rat)) bn.out ((ar.out c hc).1) (by rw[ab.out,Rat.intCast_neg])).mono ?_;rintro v K ⟨⟨aO,rfl,V⟩,O⟩;obtain⟨ae,an,ad,ao,rfl⟩:=zlx V;have u0:=C0 O y.out.1;have u1:=C0 O y.out.2.1;have u2:=C0 O y.out.2.2;have bN:=I8 O y.out.1 U.out.1;have bO:=I8 O y.out.2.1 U.out.2.1;have aO:=I8 O y.out.2.2 U.out.2.2;have aT:=o (N.out.grow (fun x n=>q (H.out x n).1 F.out.size) O);have aS:e (IsQ K (SN S w.heap.size K) (.agg #[.bool (decide (z<0)),.slice ae (A9 (z).natAbs).length an,.slice ad (A9 1).length ao]) ((z:Int):Rat)):=IsQ.stb.to V (F7 fun b G=> .inr ⟨s F.out.size G.1,G.2⟩);have aR:=o (J7 F.out (K0 O));clear V O aL aM aN;go_wp2_with fail;refine bodyPost_end (results_none rfl _ _ _) rfl ?_
    have aX:=aT.out.put (fun x n v=>by
     rcases n with n|n
     ·exact(H.out x n).2.1 v
     ·have:=aa.out;have:=n.1;omega) b0.out aS.out
    refine⟨rfl,?_,zmk aR.out⟩;have v:SN S w.heap.size (L7 K t c (.bool (decide (z<0))) (.slice ae (A9 (z).natAbs).length an) (.slice ad (A9 1).length ao))=SN S w.heap.size K:=(by unfold SN;rw[zom]);show LineW _ (SN S w.heap.size (L7 K t c _ _ _)) _ _ _ _;rw[v];exact aX.same fun a ha=>by rw[ab.out];exact yfm f g a ha
theorem zwv {H:Program} {w:p} {ops:Array Oper} {g:Oper} {a:Act} {K:Act->p->Prop} {Q:Exit->Act->p->Prop} {P:Prop} {k:TypeId} {bytes:Nat} (J:ElN H t k 1 bytes) (Y:g.guard=none) (s x:Operand) (aa:g.op= .call {callee:= .builtin .append,args:= #[s,x],argTypes:= #[t,t]})
 {h:Nat} {l news:List r} {ak:TypeId} (ae:a.eval s=v) (e:a.eval x= .slice (some ⟨h,0,none⟩) news.length c) (hr:Row w h ak news) (ac:OwnS 1 k IsSl w base S v l)
 (E:∀x∈news,∃A m c,x= .slice A m c) (C:(l.length+news.length)*(bytes+1)<=140737488355328) (W:base<=w.heap.size)
 (V:∀G w',OwnS 1 k IsSl w' base S G (l++news)->w.grownBy w' v.ownBlock->K (a.put g.dst G) w'):if Region.wanted g (yielded ops a.tmps)=true then Oper.wp H g a w K Q else P:=by
 have ag:Region.wanted g (yielded ops a.tmps)=true:=by simp[Region.wanted,Y]
 rw[if_pos ag]
 obtain⟨i,z,Z,ah,af,X,ai⟩:=J.info
 obtain⟨I,T,U,n,L⟩:=ac
 have R:cellsOf news=news:=by
  have key:∀l:List r,(∀x∈l,∃A m c,x= .slice A m c)->cellsOf l=l:=fun l N=>by
   induction l with
   |nil=>rfl
   |cons x l ih=>
    obtain⟨A,m,c,rfl⟩:=N x (by simp)
    have k:cellsOf (Value.slice A m c::l)=(Value.slice A m c).cells.toList++cellsOf l:=by simp[cellsOf]
    rw[k,ih fun y f=>N y (by simp[f])];rfl
  exact key news E
 have ab:∀j∈news,j.oneCell'=true:=fun j o=>by obtain⟨A,m,c,rfl⟩:=E j o;rfl
 rw[Nat.mul_add,Nat.mul_one] at C
 obtain⟨G,w',ad,aj,O,_,u⟩:=run_append_own_at (P:=H) w base t g.type k i z 1 bytes J.und Z ah af X ai og v l.length (cellsOf I) T ⟨h,0,none⟩ news.length c news og (fun F j o=>by rw[Addr.add_lit,Nat.zero_add,hr.cell F];exact o) ab (by unfold maxLen;omega) og W
 unfold Oper.wp execOp
 simp only[aa,resolve,invoke,builtin,Sem.run_bind,Sem.run_pure,Result.andThen_ok,List.map_toArray,List.map_cons,List.map_nil,ae,e,ad]
 refine V G w' ⟨I++news,?_,?_,?_,fun b C=>⟨q (L b C).1 O.size,fun B=> ?_⟩⟩ O
 ·rw[yfg,R,d];exact aj
 ·intro j o
  rcases List.mem_append.1 o with h|h
  ·exact U j h
  ·obtain⟨A,m,c,rfl⟩:=E j h;rfl
 ·refine⟨by rw[d,d,n.1],fun F x y e f=> ?_⟩
  rw[List.getElem?_append] at e f
  by_cases D:F<I.length
  ·rw[if_pos D] at e
   rw[if_pos (by rw[<-n.1];exact D)] at f
   exact n.2 F x y e f
  ·rw[if_neg D] at e
   rw[if_neg (by rw[<-n.1];exact D),<-n.1] at f
   rw[e] at f
   cases f
   exact⟨rfl,E x (List.mem_of_getElem? e)⟩
 ·have M:=L b C
  rcases u with u|u
  ·rw[u] at B;exact M.2 B
  ·rw[u] at B;cases B;exact Nat.lt_irrefl _ M.1
def znf (a:Nat->Nat->Int) (i b:Nat):Nat->Nat->Int:=fun l k=>if l<i\/(l=i/\k<b) then -(a l k) else a l k
theorem zrs {a:Prop} [Decidable a] (f g:Nat->Int) (k:Nat):(if a then f else g) k=if a then f k else g k:=by split<;>rfl
theorem yxg (b:Nat->Nat->Int) (i a:Nat):znf b i a i a=b i a:=by unfold znf;rw[if_neg og]
theorem yxi (b:Nat->Nat->Int) (i a l k:Nat):(if l=i then(if k=a then -(b i a) else znf b i a i k) else znf b i a l k)=znf b i (a+1) l k:=by
 unfold znf;by_cases h:l=i
 ·subst h;rw[if_pos rfl];by_cases d:k=a
  ·subst d;rw[if_pos rfl,if_pos (.inr ⟨rfl,by omega⟩)]
  ·rw[if_neg d];by_cases c:k<a
   ·rw[if_pos (.inr ⟨rfl,c⟩),if_pos (.inr ⟨rfl,by omega⟩)]
   ·rw[if_neg og,if_neg og]
 ·rw[if_neg h];by_cases c:l<i
  ·rw[if_pos (.inl c),if_pos (.inl c)]
  ·rw[if_neg og,if_neg og]
theorem yxj (a:Nat->Nat->Int):znf a 0 0=a:=by funext l k;unfold znf;rw[if_neg og]
theorem yxh (a:Nat->Nat->Int) (h:l=i->k<n):znf a i n l k=znf a (i+1) 0 l k:=by
 unfold znf;by_cases c:l<i
 ·rw[if_pos (.inl c),if_pos (.inl og)]
 ·by_cases b:l=i
  ·rw[if_pos (.inr ⟨b,h b⟩),if_pos (.inl og)]
  ·rw[if_neg og,if_neg og]
def zog (L:Lay) (m n l:Nat):r:= .slice (L.ha l) (F9 m n l) (L.cp l)
def O9 (L:Lay) (m n:Nat):List r:=(List.range m).map (zog L m n)
theorem yls (h:i<m+2):(O9 L m n++[.slice (L.ha m) m (L.cp m),.slice (L.ha (m+1)) n (L.cp (m+1))])[i]? =some (zog L m n i):=by
 have c:(O9 L m n).length=m:=(by unfold O9;simp);rw[List.getElem?_append,c];by_cases a:i<m
 ·rw[if_pos a];unfold O9;rw[B,List.getElem?_range a];rfl
 ·rw[if_neg a];by_cases b:i=m
  ·subst b;rw[Nat.sub_self];unfold zog;rw[M9];rfl
  ·obtain rfl:i=m+1:=og;rw[show m+1-m=1 by omega];unfold zog;rw[U6];rfl
theorem SchG.rowsS {w:p} {lo:Nat} {u:Nat->Nat->Int} {z:Int} {d:Nat} {bas oth:List Nat} {st:Int} (h:SchG w S lo0 lo g L m n sc top u z d bas oth st a steps):IsS 1 IsSl w (C3 w) (.slice L.ra m L.rc) (O9 L m n):=by
 have b:(O9 L m n).length=m:=by unfold O9;simp
 have key:∀l:List r,(∀x∈l,∃A m c,x=Value.slice A m c)->cellsOf l=l:=fun l b=>by
  induction l with
  |nil=>rfl
  |cons x l ih=>obtain⟨A,m,c,rfl⟩:=b x (by simp);have C:cellsOf (Value.slice A m c::l)=(Value.slice A m c).cells.toList++cellsOf l:=(by simp[cellsOf]);rw[C,ih fun y f=>b y (by simp[f])];rfl
 have o:∀x∈O9 L m n,∃A m c,x=Value.slice A m c:=fun x e=>(by unfold O9 at e;obtain⟨i,_,rfl⟩:=List.mem_map.1 e;exact⟨_,_,_,rfl⟩);refine⟨L.ra,L.rc,O9 L m n,by rw[b],by rw[b];exact h.caps.1,h.caps.2.1,fun t=> ?_,fun x e=>by obtain⟨A,m,c,rfl⟩:=o x e;rfl,rfl,fun q x y e f=>by rw[e] at f;cases f;exact⟨rfl,o x (List.mem_of_getElem? e)⟩⟩;rw[key _ o] at t⊢
 have s:0<m:=by
  rcases Nat.eq_zero_or_pos m with j|j
  ·exact absurd (List.eq_nil_of_length_eq_zero (by rw[b,j])) t
  ·exact j
 refine⟨L.r0,0,(h.hd 0 s).1,h.sn_lt _ (.inl (h.hd 0 s).2.1),fun q v hv=> ?_⟩;have k:q<m:=(by have:=(List.getElem?_eq_some_iff.1 hv).1;rwa[b] at this);unfold O9 at hv;rw[B,List.getElem?_range k] at hv;cases hv;rw[Nat.zero_add];have:=(h.hd q k).2.2;unfold zog;rw[J4 k];exact this
theorem yhe {lo:Nat} {w:p} (h:OwnS 1 26 IsSl w base S v (O9 L m n++[.slice (L.ha m) m (L.cp m),.slice (L.ha (m+1)) n (L.cp (m+1))])) (o:lo<=base):
 ∃bl a,v= .slice (some ⟨bl,0,none⟩) (m+2) a/\m+2<=a/\a<=9223372036854775807/\e (∀i,i<m+2->w.cell? ⟨bl,i,none⟩=some (zog L m n i))/\e (lo<=bl/\bl<w.heap.size):=by have c:(O9 L m n++[Value.slice (L.ha m) m (L.cp m),Value.slice (L.ha (m+1)) n (L.cp (m+1))]).length=m+2:=(by rw[d];unfold O9;simp);obtain⟨bl,a,z,A,f,q,k,j,r,x,y,l,-,-⟩:=h.shape (fun b=>by rw[b] at c;simp at c);rw[c] at f j;refine⟨bl,a,f,j,by unfold maxLen at r;omega,fun i u=> ?_,s o q,(Array.getElem?_eq_some_iff.1 k).1⟩;obtain⟨b,t,g,_⟩:=l.get (yls (L:=L) (m:=m) (n:=n) u);have hc:=znp k x (zmi y (i:=0) t (u:=b) (by rw[g];rfl));rw[Nat.mul_one,Nat.add_zero] at hc;rw[hc,g]
def zyu (t:TB):TB:=⟨fun i a=> -(t.A i a),t.d,t.bas,t.oth⟩
structure Btw (lo0 lo:Nat) (S:Nat->Prop) (w w':p):Prop where
 bel:Below lo0 w w'
 up:∀b,lo<=b->b<w.heap.size->w'.heap[b]? =w.heap[b]?
 ks:∀b,S b->b<w.heap.size->w'.heap[b]? =w.heap[b]?
theorem Btw.refl (lo0 lo:Nat) (S:Nat->Prop) (w:p):Btw lo0 lo S w w:=⟨Below.refl _ _,fun _ _ _=>rfl,fun _ _ _=>rfl⟩
theorem Btw.step {lo:Nat} {a c:p} {r:Option Nat} (h:Btw lo0 lo S a b) (k:b.grownBy c r) (g:lo0<=a.heap.size) (hr:∀x,r=some x->lo0<=x/\x<lo/\¬S x):Btw lo0 lo S a c:=
 ⟨h.bel.grown k (s g h.bel.size) fun x d=>(hr x d).1,fun x f e=>(k.block x (q e h.bel.size) fun d=>by have:=(hr x d.symm).2.1;omega).trans (h.up x f e),
  fun x f e=>(k.block x (q e h.bel.size) fun d=>(hr x d.symm).2.2 f).trans (h.ks x f e)⟩
theorem Btw.below {lo:Nat} {a c:p} (h:Btw lo0 lo S a b) (k:Below b.heap.size b c) (e:lo0<=a.heap.size):Btw lo0 lo S a c:=h.step (r:=none) (K0 k) e fun x d=>by cases d
theorem Btw.trans {lo:Nat} {a c:p} (h:Btw lo0 lo S a b) (k:Btw lo0 lo S b c):Btw lo0 lo S a c:=
 ⟨h.bel.trans k.bel,fun x d e=>(k.up x d (q e h.bel.size)).trans (h.up x d e),fun x d e=>(k.ks x d (q e h.bel.size)).trans (h.ks x d e)⟩
theorem Btw.same {lo:Nat} {a:p} (h:Btw lo0 lo S a b) (d:∀x,S x->x<a.heap.size):K6 (SN S lo a) (SN S lo b) a b:=fun x c=>⟨zmt h.bel.size x c,fun e=>u (by
 rcases c with c|c
 ·exact h.ks x c (d x c)
 ·exact h.up x c.1 c.2)⟩
theorem Btw.row {lo:Nat} {a:p} (h:Btw lo0 lo S a b) {c:List r} (hr:Row a g t c) (hg:lo<=g):Row b g t c:=(h.up g hg hr.lt).trans hr
abbrev putVal (w:p) (g:Nat) (x y z:r):p:=((w.setCell ⟨g,5,none⟩ x).setCell ⟨g,6,none⟩ y).setCell ⟨g,7,none⟩ z
theorem ztz (w:p) (g:Nat) (x y z:r):w.grownBy (putVal w g x y z) (some g):=J7 (J7 (I9 _ _ _ _) (I9 _ _ _ _)) (I9 _ _ _ _)
theorem SchG.value {w:p} {lo:Nat} {e:Nat->Nat->Int} {z:Int} {d:Nat} {bas oth:List Nat} {st:Int} (h:SchG w S lo0 lo g L m n sc top e z d bas oth st a steps) {z':Int} {P Q:Option Addr}
 (t:IsQ w (SN S lo w) (.agg #[.bool (decide (z'<0)),.slice P (A9 z'.natAbs).length k,.slice Q (A9 1).length l]) ((z':Int):Rat)):
 SchG (putVal w g (.bool (decide (z'<0))) (.slice P (A9 z'.natAbs).length k) (.slice Q (A9 1).length l)) S lo0 lo g L m n sc top e z' d bas oth st a steps:=by obtain⟨u,y,v,A,D,i,f,j,q,x,r,s⟩:=h.row;have hg:=ztz w g (.bool (decide (z'<0))) (.slice P (A9 z'.natAbs).length k) (.slice Q (A9 1).length l);have c:=h.same hg fun b o=>(by cases o;exact h.gS.2);exact h.cells hg ⟨P,k,Q,l,D,i,f,j,((q.set_ 5 _).set_ 6 _).set_ 7 _,IsQ.stb.to t c,IsK.stb.to r c,IsK.stb.to s c⟩
theorem ywq {t:TB} (h:∀i a,i<=m->a<=n->Sz ((t.A i a:Int):Rat) k) {a:Nat} (e:l<m+2) (c:a<F9 m n l):Sz ((zkb t m n l a:Int):Rat) k:=by
 unfold zkb;unfold F9 at c;by_cases b:l=m
 ·rw[if_pos b];rw[if_pos b] at c;exact h a n og (Nat.le_refl _)
 ·rw[if_neg b];rw[if_neg b] at c;by_cases d:l=m+1
  ·rw[if_pos d,Rat.intCast_neg];exact(h m a (Nat.le_refl _) og).neg
  ·rw[if_neg d];exact h l a og og
theorem ywp (t:TB) (m n l c:Nat):zkb (zyu t) m n l c= -(zkb t m n l c):=by
 unfold zkb;by_cases a:l=m
 ·rw[if_pos a,if_pos a];rfl
 ·rw[if_neg a,if_neg a];by_cases b:l=m+1
  ·rw[if_pos b,if_pos b];rfl
  ·rw[if_neg b,if_neg b];rfl
theorem zz1439 {w:p} {lo:Nat} {t:TB} {st:Int} (h:U8 w S lo0 lo g L m n sc top t st a steps) (cR:m<=100) (cS:n<=100) (bu:∀i c,i<=m->c<=n->Sz ((t.A i c:Int):Rat) 100000):
 Calls Tryz.prog 121 #[.pointer (some ⟨g,0,none⟩)] w fun d w'=>d= .returned (.tuple #[])/\U8 w' S lo0 lo g L m n sc top (zyu t) st a steps/\Btw lo0 lo S w w':=by
 obtain⟨a7,bd⟩:=C5 h bu;have G:e (lo0<=w.heap.size/\lo<=w.heap.size):=⟨s h.gS.1 (Nat.le_of_lt h.g_lt),h.tab.hlo⟩;have cI:m<=L.rc:=h.caps.1;have cJ:L.rc<=9223372036854775807:=(by have:=h.caps.2.1;unfold maxLen at this;omega);obtain⟨cr,cT,ct,cV,D0,cA,cv,cD,⟨bi,bm,-,-⟩,⟨aP,aQ,X,Y,Z⟩,⟨aR,g6,aS⟩,-,-⟩:=h.open;obtain⟨ah,cl,I⟩:=G0 (IsQ.stb.to bm (F7 (T:=C3 w) h.sn_lt)) (j X (j Y Z)) (j aR (j g6 aS));have aH:e (∀U,Below w.heap.size w U->∀a2,U.frozen? ⟨g,a2,none⟩=false):=fun U aV a2=>(bi.next aV).frozen a2;obtain⟨cc,bv⟩:=nm (decide (t.A m n<0));obtain⟨cd,bw⟩:=nm ((A9 (t.A m n).natAbs).length);obtain⟨bI,H⟩:=nm ((A9 1).length);rw[<-bv] at aR ah I;rw[<-bw] at g6 ah I;rw[<-H] at aS ah I;have cC:=T3;have bP:=o H;clear h bu bi bm aP aQ X Y Z bv bw H;go_in;go_wp2_with fail;clear aR g6 aS;obtain⟨z,bD⟩:=nm (-(t.A m n));have a9:=o bD;clear bD;refine(zul (p:=((z:Int):Rat)) ah.out (bd.out m n (Nat.le_refl _) (Nat.le_refl _)) (by rw[a9.out,Rat.intCast_neg])).mono ?_;rintro d aC ⟨⟨cX,rfl,hv⟩,r⟩;obtain⟨be,bE,bf,bF,rfl⟩:=zlx hv;have u0:=C0 r I.out.1;have u1:=C0 r I.out.2.1;have u2:=C0 r I.out.2.2;have aj:=aH.out aC r 5;have ak:=aH.out aC r 6;have al:=aH.out aC r 7;obtain⟨bJ,P⟩:=C5 r ((a7.out.next r).value (P:=be) (k:=bE) (Q:=bf) (l:=bF) (z':=z) (IsQ.stb.to hv (F7 fun b aa=> .inr ⟨s G.out.2 aa.1,aa.2⟩)));clear r hv;go_wp2_with fail;clear u0 u1 u2 aj ak al;rw[bP.out] at*;obtain⟨f,aB⟩:=nm (((aC.setCell ⟨g,5,none⟩ (.bool (decide (z<0)))).setCell ⟨g,6,none⟩ (.slice be (A9 z.natAbs).length bE)).setCell ⟨g,7,none⟩ (.slice bf (A9 1).length bF));have ae:e (Btw lo0 lo S w f):=(by rw[e,aB];exact((Btw.refl lo0 lo S w).step (K0 (row:=none) bJ.out) G.out.1 (fun x d=>by cases d)).step (ztz _ _ _ _ _) G.out.1 fun x d=>by cases d;exact a7.out.gS);have P:e (SchG f S lo0 lo g L m n sc top (zkb t m n) z t.d t.bas t.oth st a steps):=(by rw[e,aB];exact P.out);rw[<-aB];have a6:e (lo<=f.heap.size):=s G.out.2 ae.out.bel.size;clear aB;obtain⟨cs,cU,cu,cW,cm,cB,cw,cE,-,⟨aP,aQ,X,Y,Z⟩,-,-,-⟩:=P.out.open;have RV:=o P.out.rowsS;have bt:(O9 L m n).length=m:=(by unfold O9;simp);have aI:=o bt;clear aP aQ bt;have aJ:=zkr X Y Z;have a5:=o fun U (aV:Below f.heap.size f U)=>yfx ((IsS.stb IsSl.stb).to RV.out (E7 aV)) (by rw[aI.out];omega)
 go_region_held3 (SH.mk _ aJ).s
  (exact aJ.out _ bel)
  (first
    |(go_at_call 134;(with_reducible refine Calls.mono (a5.out _ bel) ?_);rintro d a3 ⟨⟨cf,rfl,bx⟩,aq⟩;have Q:=o bx;have N:=bW f a3;obtain⟨ck,cz,rfl⟩:=bx.slice;(first|(have cb:Row a3 f.heap.size 26 [.slice (L.ha m) m (L.cp m),.slice (L.ha (m+1)) n (L.cp (m+1))]:=(Row.next (heap_alloc_new (World.drew f) _) aq:Row a3 _ _ _))|skip))
    |(refine zwv zoy rfl _ _ rfl (news:=[.slice (L.ha m) m (L.cp m),.slice (L.ha (m+1)) n (L.cp (m+1))]) rfl rfl (heap_alloc_new _ _) (OwnS.step IsSl.stb Q.out (L8 _ _) (fun b h=>h) (fun b h=> .inl h)) (by intro x D;rcases List.mem_cons.1 D with h|h;exact⟨_,_,_,h⟩;rw[List.mem_singleton] at h;exact⟨_,_,_,h⟩) (by rw[aI.out];simp;omega) (by have:=aq.size;simp at this;simp;omega) ?_;intro cg ad aA au;have O:e (Below f.heap.size f ad):=(zvh N.out _).grown au (Below.size (zvh N.out _)) (fun k d=>by have an:=(OwnS.own_lt Q.out k d).1;simp at an;omega);obtain⟨bl,bX,aO,b0,b1,bn,aX⟩:=yhe (lo:=lo) aA (by have:=a6.out;simp;omega);subst aO)
    |(refine zwv zoy rfl _ _ rfl (news:=[.slice (L.ha m) m (L.cp m),.slice (L.ha (m+1)) n (L.cp (m+1))]) rfl rfl cb Q.out (by intro x D;rcases List.mem_cons.1 D with h|h;exact⟨_,_,_,h⟩;rw[List.mem_singleton] at h;exact⟨_,_,_,h⟩) (by rw[aI.out];simp;omega) (by have:=aq.size;simp at this;simp;omega) ?_;intro cg ad aA au;have O:e (Below f.heap.size f ad):=N.out.grown au (Below.size N.out) (fun k d=>by have an:=(OwnS.own_lt Q.out k d).1;simp at an;omega);obtain⟨bl,bX,aO,b0,b1,bn,aX⟩:=yhe (lo:=lo) aA (by have:=a6.out;simp;omega);subst aO))
 all_goals
  have bN:=o (P.out.next O.out)
  clear aJ a5 aA au Q N aq
  go_wp2_with fail
  clear X Y Z
  go_loopw [35,3,4,5] (fun aY _ _ _ wr=>∃i:Nat,i<=m+2/\aY= .int .i64 (i:Int)/\Btw lo0 lo S ad wr/\e (SchG wr S lo0 lo g L m n sc top (znf (zkb t m n) i 0) z t.d t.bas t.oth st a steps)) (fun aY _ _ _ _=>m+2-(intOf aY).toNat)
  case atStart=>exact⟨0,E _,rfl,Btw.refl _ _ _ _,by rw[e,yxj];exact bN.out⟩
  case round=>
   obtain⟨i,cL,rfl,ab,ac⟩:=hrel
   have aD:=o ab
   have aM:=o ac.out
   clear ab ac
   rcases A i (m+2) with az|cK
   ·have aN:=(u (aD.out.up _ aX.out.1 aX.out.2)).trans (bn.out i az)
    have cM:(0:Int)<=(i:Int):=og
    have cN:(i:Int)<(m:Int)+2:=og
    unfold zog at aN
    obtain⟨cy,aW⟩:=nm (L.ha i)
    obtain⟨K,ao⟩:=nm (F9 m n i)
    obtain⟨C,aU⟩:=nm (L.cp i)
    have ar:=aM.out.cap i az
    rw[<-aW,<-ao,<-aU] at aN
    rw[<-ao,<-aU] at ar
    obtain⟨bL,af⟩:=C5 aW ao
    have cG:K<=C:=ar.1
    have cH:C<=9223372036854775807:=by have:=ar.2;unfold maxLen at this;omega
    have q:=o az
    clear aW ao aU ar az
    go_wp2_with fail
    clear aN
    go_loopw [41,4,5] (fun aZ _ _ bH=>∃c:Nat,c<=K/\aZ= .int .i64 (c:Int)/\Btw lo0 lo S ad bH/\e (SchG bH S lo0 lo g L m n sc top (znf (zkb t m n) i c) z t.d t.bas t.oth st a steps)) (fun aZ _ _ _=>K-(intOf aZ).toNat)
    case atStart=>exact⟨0,E _,rfl,aD.out,aM.out⟩
    case round=>
     obtain⟨c,cO,rfl,ab,ac⟩:=hrel
     have a4:=o ab
     have R:=o ac.out
     clear ab ac
     rcases A c K with bp|bp
     ·have av:c<F9 m n i:=by rw[<-af.out];exact bp
      have aT:1<=F9 m n i:=og
      obtain⟨bQ,b9,bR,ca,ea,V,W,ai,eq⟩:=R.out.el q.out av
      rw[yxg] at V W eq
      have ay:=R.out.tab.line i q.out aT
      have aj:wr.frozen? ⟨L.bk i,c*3,none⟩=false:=ay.free
      have ak:wr.frozen? ⟨L.bk i,c*3+1,none⟩=false:=ay.free
      have al:wr.frozen? ⟨L.bk i,c*3+2,none⟩=false:=ay.free
      have ag:=o eq
      have cP:(0:Int)<=(c:Int):=og
      have cQ:(c:Int)<(K:Int):=og
      obtain⟨ch,bB⟩:=nm (decide (zkb t m n i c<0))
      obtain⟨cj,bC⟩:=nm ((A9 (zkb t m n i c).natAbs).length)
      obtain⟨bI,H⟩:=nm ((A9 1).length)
      rw[<-bB] at V ag
      rw[<-bC] at W ag
      rw[<-H] at ai ag
      obtain⟨cZ,b7,B,bG,b8⟩:=J5 wr #[.bool ch,.slice bQ cj b9,.slice bR bI ca] 30
      obtain⟨bU,bV,b2⟩:=B9 bG
      have bT:=nQ ag B
      obtain⟨J,aG,aE,F,bO⟩:=hd5 (j (C0 B V) (j (C0 B W) (C0 B ai))) (j (I8 B V aj) (j (I8 B W ak) (I8 B ai al))) B (j av aT) (ywq bd.out q.out av)
      have bY:=bL.out.trans ea
      subst bY
      obtain⟨cx,bj⟩:=nm (L.bk i)
      obtain⟨cn,cq⟩:=C5 bj H
      clear eq ay bB bC H bG b8 B aj ak al av aT ea
      go_wp2_with fail
      clear b7 V W ai
      obtain⟨y,bA⟩:=nm (-zkb t m n i c)
      have a8:=o bA
      clear bA
      refine(zul (p:=((y:Int):Rat)) bT.out bO.out (by rw[a8.out,Rat.intCast_neg])).mono ?_
      rintro d M ⟨⟨cY,rfl,hv⟩,v⟩
      obtain⟨aK,a0,aL,a1,rfl⟩:=zlx hv
      have u0:=C0 v J.out.1
      have u1:=C0 v J.out.2.1
      have u2:=C0 v J.out.2.2
      have cc:=I8 v J.out.1 aG.out.1
      have cd:=I8 v J.out.2.1 aG.out.2.1
      have cf:=I8 v J.out.2.2 aG.out.2.2
      have T:=o ((R.out.next aE.out).next v)
      have bK:=nB aE v
      have bM:e (IsQ M (SN S lo M) (.agg #[.bool (decide (y<0)),.slice aK (A9 y.natAbs).length a0,.slice aL (A9 1).length a1]) ((y:Int):Rat)):=IsQ.stb.to hv (F7 fun b aa=> .inr ⟨by have an:=aa.1;have cF:=R.out.tab.hlo;have bg:=aE.out.size;omega,aa.2⟩)
      clear v hv bU bV b2 bj
      go_wp2_with fail
      go_roundw
      case rel=>
       have bh:=(T.out.tab.line i q.out F.out.2).put (fun x D d=>by
        have bg:=T.out.tab.sep i q.out F.out.2
        rcases D with D|D
        ·exact bg.2 (by rw[<-d];exact D)
        ·have:=D.1;omega) F.out.1 bM.out
       have hg:M.grownBy (L7 M (L.bk i) c (.bool (decide (y<0))) (.slice aK (A9 y.natAbs).length a0) (.slice aL (A9 1).length a1)) (some (L.bk i)):=zmk (I7 _ _)
       have b4:SN S lo M=SN S lo (L7 M (L.bk i) c (.bool (decide (y<0))) (.slice aK (A9 y.natAbs).length a0) (.slice aL (A9 1).length a1)):=by unfold SN;rw[zom]
       rw[b4] at bh
       have bZ:=(T.out.line q.out F.out.2 hg bh).nums (G:=znf (zkb t m n) i (c+1)) fun l k _ _=>by rw[a8.out,zrs];exact yxi _ i c l k
       have b3:=T.out.lS i q.out F.out.2
       have b5:=T.out.tab.sep i q.out F.out.2
       exact⟨c+1,by have:=F.out.1;rw[af.out];omega,by go_num,(a4.out.step (K0 (row:=none) bK.out) (by have:=G.out;have:=ae.out.bel.size;have:=O.out.size;omega) (fun x d=>by cases d)).step hg (by have:=G.out;have:=ae.out.bel.size;have:=O.out.size;omega) (fun x d=>by cases d;exact⟨b3.1,b5⟩),bZ⟩
      case measure=>simp[intOf];have:=F.out.1;rw[<-af.out] at this;omega
     ·obtain rfl:c=K:=og
      go_wp2_with fail
      go_roundw
      case rel=>
       refine⟨i+1,q.out,by go_num,a4.out,?_⟩
       exact R.out.nums fun l k br bq=>yxh _ fun d=>by subst d;rw[af.out];exact bq
      case measure=>simp[intOf];have:=q.out;omega
   ·obtain rfl:i=m+2:=og
    go_wp2_with fail
    refine bodyPost_end (results_none rfl _ _ _) rfl ?_
    have hfin:=aM.out
    rw[a9.out] at hfin
    refine⟨rfl,hfin.nums fun l k br bq=> ?_,(ae.out.below O.out G.out.1).trans aD.out⟩
    unfold znf
    rw[if_pos (.inl br)]
    exact(ywp t m n l k).symm
end Go.Proofs.YtlhhbccgfkhflaaGreatDoor
