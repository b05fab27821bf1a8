/-
 The contract of package simplex's newMaker$1.
-/
import Derived.Test.YtdgilbgdkmhcmaaGreatDoorProofSimplexProves18
namespace Go.Proofs.YtdgilbgdkmhcmaaGreatDoor
open Go.RowKit
set_option linter.unusedVariables false
set_option maxRecDepth 100000
set_option maxHeartbeats 8000000
open _root_.Go.Lib renaming hid → b
open _root_.Nat renaming le_refl → k, le_trans → i, lt_of_lt_of_le → l, lt_or_ge → a, zero_le → d
open _root_.And renaming intro → f
open _root_.Go.World renaming block_lt_of_cell? → o
open _root_.Go.RowKit renaming Below → e, Hid → c
open _root_.Go.Proofs.Tryz renaming prog → j
variable {L : Lay} {M g lo lo0 m n top : Nat} {S : Nat → Prop} {p steps : Int} {sc : Nat → Nat} {t : TB}
theorem yua {w:World} {bs mk:Nat} {st:Int} (h:O7 w S lo0 lo g L m n sc top t st p steps) (hI:TInv M m n t) (bQ:Bru w) (bX:m<=100) (bY:n<=100) (hF:(A9 (K6 M (m+1))).length<=100000) (bR:ScOk sc top) (bt:w.cell? ⟨bs,0,none⟩=some (.pointer (some ⟨g,0,none⟩))) (bu:w.cell? ⟨mk,0,none⟩=some (.int .i64 (n:Int))) (bv:w.cell? ⟨mk,1,none⟩=some (.int .i64 (m:Int))):
 Calls j 134 #[.pointer (some ⟨bs,0,none⟩),.pointer (some ⟨mk,0,none⟩)] w (zoj w ⟨1,D8 (H7 (t.A m n) 1 t.d top),C0 (J0 n 0 (fun _=>0) (fun af=>t.bas.getD af 0) (fun af=>H7 (t.A af n) 1 t.d (sc (t.bas.getD af 0))) m),C0 (J0 m n (fun _=>0) (fun ag=>t.oth.getD ag 0) (fun ag=>H7 (t.A m ag) (sc (t.oth.getD ag 0)) t.d top) n),[]⟩):=by
 obtain⟨aE,ca,ai,aC,aD,W⟩:=zpe h bQ bR hI hF (f bX bY);have O:c (bs<w.heap.size/\mk<w.heap.size/\mk<w.heap.size):=⟨o w _ bt,o w _ bu,o w _ bv⟩;obtain⟨bx,bn⟩:=nm (J0 n 0 (fun _=>0) (fun af=>t.bas.getD af 0) (fun af=>H7 (t.A af n) 1 t.d (sc (t.bas.getD af 0))) m);rw[<-bn];have be:=b bn;obtain⟨bA,bp⟩:=nm (J0 m n (fun _=>0) (fun ag=>t.oth.getD ag 0) (fun ag=>H7 (t.A m ag) (sc (t.oth.getD ag 0)) t.d top) n);rw[<-bp];have bf:=b bp;obtain⟨q,bq⟩:=nm (H7 (t.A m n) 1 t.d top);rw[<-bq];obtain⟨cb,bH⟩:=C4 bq (hI.sz hF og);obtain⟨cd,cD,cg,cE,D,cJ,ch,cq,⟨-,bU,hD,bT⟩,-,⟨a8,a9,bj⟩,⟨bP,-,bi⟩,-⟩:=h.open;obtain⟨aJ,cc,bK⟩:=G4 (IsQ.stb.to bU (E0 (T:=C2 w) h.sn_lt)) (IsK.stb.to hD (E0 (T:=C2 w) h.sn_lt)) (IsK.stb.to bT (E0 (T:=C2 w) h.sn_lt));obtain⟨z,br⟩:=nm (t.A m n);have bI:=b br;rw[<-br] at a8 a9 aJ;obtain⟨cF,b0⟩:=nm (decide (z<0));obtain⟨cG,b1⟩:=nm ((A9 z.natAbs).length);obtain⟨cH,b3⟩:=nm ((A9 1).length);obtain⟨lt,bV⟩:=nm ((A9 top).length);rw[<-b0] at a8 aJ;rw[<-b1] at a9 aJ;rw[<-b3] at bj aJ;rw[<-bV] at bi bK;clear h hI bQ bX bY hF bR bn bp bq bU hD bT br b0 b1 b3 bV;have cK:=L7;obtain⟨A,cB,V,b4,bJ⟩:=K0 w #[.int .i64 0,.bool false,.slice none 0 0,.slice none 0 0,.slice none 0 0,.slice none 0 0,.slice none 0 0] 39;obtain⟨B0,P⟩:=C4 V b4;have F:=b bJ.out;have bL:=B9 V bt;have cm:=B9 V bu;have cn:=B9 V bv;have cs:=B9 V a8;have ct:=B9 V a9;have cu:=B9 V bj;have bO:=B9 V bP;have cr:=B9 V bi;obtain⟨b9,ae⟩:=C4 bO (f bL (f cm cn));have cl:=nQ aJ V;obtain⟨b8,cj⟩:=C4 (IsK.stb.next cc.out V) (IsK.stb.next bK.out V);have aB:=nU ca V;clear V b4 bJ bt bu bv a8 a9 bj bP bi bO;go_in;go_wp2_with fail;clear cB;have bd:=hs5 bL cs ct cu cr;have bF:=b fun r (y:e A.heap.size A r)=>zmt r
 go_region_held3 (SH.mk _ bd).s
  (exact bd.out _ bel)
  (first
    |(go_at_call 136;(with_reducible refine Calls.mono (bF.out _ bel) ?_);rintro u ad ⟨⟨cM,rfl,bZ⟩,cL⟩;have ck:=b (zsn bZ);obtain⟨cf,cC,rfl,_,_,_⟩:=id bZ;have bG:c (∀r:World,e ad.heap.size ad r->Calls j 135 #[.pointer (some ⟨g,0,none⟩),.agg #[.bool cF,.slice cd cG cD,.slice cg cH cE],.slice cf (A9 1).length cC,.slice ch lt cq] r (U9 r q)):=fun r y=>by rw[cb.out,<-bI.out];exact zss (B9 (show e A.heap.size A r from bel) b9.out) (IsK.stb.next b8.out bel) (IsQ.stb.next cl.out bel) (IsK.stb.next ck.out y) (IsK.stb.next cj.out bel) (Bru.next aB.out bel) (by rw[bI.out];exact zsu (bH.out.1 _ _ (k _) (k _))) (by rw[zka];simp) bH.out.2 ai.out.tl aC.out.d0 ai.out.tp)
    |(go_at_call 135;(with_reducible refine Calls.mono (bG.out _ bel) ?_);rintro u ah ⟨⟨cN,rfl,an⟩,bm⟩;have cI:=b (IsQ.stb.old an);obtain⟨bC,bh,bw,bg,bB,rfl,_,_,_⟩:=G9 an;(first|(have a3:Row ah ad.heap.size 37 [.bool false,.slice none 0 0,.slice none 0 0]:=(Row.next (heap_alloc_new ad zrx) bel:Row ah _ _ _);obtain⟨cv,cw,cx⟩:=C3 a3;obtain⟨cy,cz,cA⟩:=F7 a3)|(have a3:Row ah A.heap.size 37 [.bool false,.slice none 0 0,.slice none 0 0]:=(Row.next (heap_alloc_new (World.drew A) zrx) bel:Row ah _ _ _);obtain⟨cv,cw,cx⟩:=C3 a3;obtain⟨cy,cz,cA⟩:=F7 a3)|skip)))
 all_goals first
  |(have hF:=yfh (wB:=A) (X:=ad) (g:=ad.heap.size) an bel bel bel (yhk (o:=zrx) bel) (Below.size bel) rfl;obtain⟨E,ar,R,az,ay,aA⟩:=hF)
  |(have hF:=yfh (wB:=A) (X:=(World.drew A)) (g:=A.heap.size) an bel bel bel (yhk (o:=zrx) bel) (Below.size bel) rfl;obtain⟨E,ar,R,az,ay,aA⟩:=hF)
  |(have hF:=yqv (wB:=A) an bel (Below.size bel);obtain⟨E,ar,R,az,ay,aA⟩:=hF)
 all_goals clear bd bF bG
 all_goals first
  |(have al:c (Row E ad.heap.size 37 _):=az
    try unfold put3 at ar
    try rw[ar]
    obtain⟨Y,v⟩:=C4 ay R
    have N:c (A.heap.size<=ad.heap.size):=aA
    obtain⟨a6,au⟩:=nm ((A9 q.num.natAbs).length)
    obtain⟨a7,av⟩:=nm ((A9 q.den).length)
    rw[<-au,<-av] at al Y
    have aL:=B9 R ae.out.1
    have aM:=B9 R ae.out.2.1
    have aN:=B9 R ae.out.2.2
    obtain⟨r0,r1,r2⟩:=C3 al.out
    go_wp2_with fail
    have X:=zmh aL aM aN r0 r1 r2
    have aI:c (∀r:World,e E.heap.size E r->∀a s G d u H I,(pt7 r w.heap.size a s G d u H I).cell? ⟨bs,0,none⟩=some (.pointer (some ⟨g,0,none⟩))/\(pt7 r w.heap.size a s G d u H I).cell? ⟨mk,0,none⟩=some (.int .i64 (n:Int))/\(pt7 r w.heap.size a s G d u H I).cell? ⟨mk,1,none⟩=some (.int .i64 (m:Int))/\(pt7 r w.heap.size a s G d u H I).cell? ⟨ad.heap.size,0,none⟩=some (.bool bC)/\(pt7 r w.heap.size a s G d u H I).cell? ⟨ad.heap.size,1,none⟩=some (.slice bh a6 bw)/\(pt7 r w.heap.size a s G d u H I).cell? ⟨ad.heap.size,2,none⟩=some (.slice bg a7 bB)):=fun r y a s G d u H I=>(fun h=>⟨Z9 h.1 (zlo O F N) _ _ _ _ _ _ _,Z9 h.2.1 (zlo O F N) _ _ _ _ _ _ _,Z9 h.2.2.1 (zlo O F N) _ _ _ _ _ _ _,Z9 h.2.2.2.1 (zlo O F N) _ _ _ _ _ _ _,Z9 h.2.2.2.2.1 (zlo O F N) _ _ _ _ _ _ _,Z9 h.2.2.2.2.2 (zlo O F N) _ _ _ _ _ _ _⟩) (X.out r y)
    have aG:c (∀r:World,e E.heap.size E r->Calls j 137 #[.pointer (some ⟨g,0,none⟩),.int .i64 (n:Int)] r (fun u w'=>(∃C,u= .returned C/\IsV w' (F6 A.heap.size w') C (C0 bx))/\e r.heap.size r w')):=fun r y=>by
     have B:=zyf (((aE.out.next B0.out).next v.out).next y) aC.out (Bru.next (Bru.next aB.out v.out) y) W.out.1 W.out.2 aD.out ai.out
     rw[<-be.out] at B
     refine B.mono ?_
     rintro u w' ⟨⟨C,rfl,aK,T,ab⟩,x⟩
     have U:=i v.out.size y.size
     refine⟨⟨C,rfl,OwnS.isS IsR.stb T (fun s Q=>⟨i U (ab s Q),by obtain⟨_,_,_,_,aa⟩:=T;exact(aa s Q).1⟩) (fun s B Z=>⟨i U B,Z⟩)⟩,x⟩
    have aH:c (∀r:World,e E.heap.size E r->Calls j 138 #[.pointer (some ⟨g,0,none⟩),.int .i64 (n:Int),.int .i64 (m:Int)] r (fun u w'=>(∃C,u= .returned C/\IsV w' (F6 A.heap.size w') C (C0 bA))/\e r.heap.size r w')):=fun r y=>by
     have B:=ybv (((aE.out.next B0.out).next v.out).next y) aC.out (Bru.next (Bru.next aB.out v.out) y) W.out.1 W.out.2 aD.out ai.out
     rw[<-bf.out] at B
     refine B.mono ?_
     rintro u w' ⟨⟨C,rfl,aK,T,ab⟩,x⟩
     have U:=i v.out.size y.size
     refine⟨⟨C,rfl,OwnS.isS IsR.stb T (fun s Q=>⟨i U (ab s Q),by obtain⟨_,_,_,_,aa⟩:=T;exact(aa s Q).1⟩) (fun s B Z=>⟨i U B,Z⟩)⟩,x⟩
    clear az ay R aA an bm r0 r1 r2 au av
    go_region_held3 (SH.mk _ X).s
     (first|((with_reducible show World.cell? (World.setCell _ _ _) _=_/\_);exact aI.out _ bel _ _ _ _ _ _ _)|exact X.out _ bel)
     (first
       |(go_at_call 137;(with_reducible refine Calls.mono (aG.out _ bel) ?_);rintro u a4 ⟨⟨b5,rfl,ao⟩,a1⟩;have J:=bW E a4;have aj:=b ao;obtain⟨bD,bM,rfl,_⟩:=M5 ao;obtain⟨d0,aO,aP,aQ,aR,aS,aT⟩:=U8 (Row.next (Row.next P.out v.out) J.out);obtain⟨aU,aV,aW,aX,aY,aZ,a0⟩:=zlj (Row.next (Row.next P.out v.out) J.out))
       |(go_at_call 138;(with_reducible refine Calls.mono (aH.out _ bel) ?_);rintro u a5 ⟨⟨b7,rfl,aq⟩,a2⟩;have K:=bW E a5;have ak:=b aq;obtain⟨bE,bN,rfl,_⟩:=M5 aq;obtain⟨d0,aO,aP,aQ,aR,aS,aT⟩:=U8 (Row.next (Row.next P.out v.out) K.out);obtain⟨aU,aV,aW,aX,aY,aZ,a0⟩:=zlj (Row.next (Row.next P.out v.out) K.out)))
    all_goals
     go_wp2_with fail
     first
      |exact zmb Tryz.results134 rfl rfl (Row.pt7 (Row.next (Row.next P.out v.out) K.out) _ _ _ _ _ _ _) (zma (lo:=A.heap.size) (znd (IsQ.stb.to Y.out fun s x=>⟨⟨x.1.1,l x.1.2 K.out.size⟩,fun ac=>K.out.cell (p:=⟨s,ac,none⟩) x.1.2⟩) (IsV.stb.to aj.out (X6 a2)) (ak.out) zmi) (C9 (C9 B0.out v.out) K.out) (k _) (oh F))
      |exact zmb Tryz.results134 rfl rfl (Row.pt7 (Row.next (Row.next P.out v.out) J.out) _ _ _ _ _ _ _) (zma (lo:=A.heap.size) (znd (IsQ.stb.to Y.out fun s x=>⟨⟨x.1.1,l x.1.2 J.out.size⟩,fun ac=>J.out.cell (p:=⟨s,ac,none⟩) x.1.2⟩) (aj.out) (IsV.stb.to ak.out (X6 a1)) zmi) (C9 (C9 B0.out v.out) J.out) (k _) (oh F)))
  |(have al:c (Row E A.heap.size 37 _):=az
    try unfold put3 at ar
    try rw[ar]
    obtain⟨Y,v⟩:=C4 ay R
    have N:c (A.heap.size<=A.heap.size):=aA
    obtain⟨a6,au⟩:=nm ((A9 q.num.natAbs).length)
    obtain⟨a7,av⟩:=nm ((A9 q.den).length)
    rw[<-au,<-av] at al Y
    have aL:=B9 R ae.out.1
    have aM:=B9 R ae.out.2.1
    have aN:=B9 R ae.out.2.2
    obtain⟨r0,r1,r2⟩:=C3 al.out
    go_wp2_with fail
    have X:=zmh aL aM aN r0 r1 r2
    have aI:c (∀r:World,e E.heap.size E r->∀a s G d u H I,(pt7 r w.heap.size a s G d u H I).cell? ⟨bs,0,none⟩=some (.pointer (some ⟨g,0,none⟩))/\(pt7 r w.heap.size a s G d u H I).cell? ⟨mk,0,none⟩=some (.int .i64 (n:Int))/\(pt7 r w.heap.size a s G d u H I).cell? ⟨mk,1,none⟩=some (.int .i64 (m:Int))/\(pt7 r w.heap.size a s G d u H I).cell? ⟨A.heap.size,0,none⟩=some (.bool bC)/\(pt7 r w.heap.size a s G d u H I).cell? ⟨A.heap.size,1,none⟩=some (.slice bh a6 bw)/\(pt7 r w.heap.size a s G d u H I).cell? ⟨A.heap.size,2,none⟩=some (.slice bg a7 bB)):=fun r y a s G d u H I=>(fun h=>⟨Z9 h.1 (zlo O F N) _ _ _ _ _ _ _,Z9 h.2.1 (zlo O F N) _ _ _ _ _ _ _,Z9 h.2.2.1 (zlo O F N) _ _ _ _ _ _ _,Z9 h.2.2.2.1 (zlo O F N) _ _ _ _ _ _ _,Z9 h.2.2.2.2.1 (zlo O F N) _ _ _ _ _ _ _,Z9 h.2.2.2.2.2 (zlo O F N) _ _ _ _ _ _ _⟩) (X.out r y)
    have aG:c (∀r:World,e E.heap.size E r->Calls j 137 #[.pointer (some ⟨g,0,none⟩),.int .i64 (n:Int)] r (fun u w'=>(∃C,u= .returned C/\IsV w' (F6 A.heap.size w') C (C0 bx))/\e r.heap.size r w')):=fun r y=>by
     have B:=zyf (((aE.out.next B0.out).next v.out).next y) aC.out (Bru.next (Bru.next aB.out v.out) y) W.out.1 W.out.2 aD.out ai.out
     rw[<-be.out] at B
     refine B.mono ?_
     rintro u w' ⟨⟨C,rfl,aK,T,ab⟩,x⟩
     have U:=i v.out.size y.size
     refine⟨⟨C,rfl,OwnS.isS IsR.stb T (fun s Q=>⟨i U (ab s Q),by obtain⟨_,_,_,_,aa⟩:=T;exact(aa s Q).1⟩) (fun s B Z=>⟨i U B,Z⟩)⟩,x⟩
    have aH:c (∀r:World,e E.heap.size E r->Calls j 138 #[.pointer (some ⟨g,0,none⟩),.int .i64 (n:Int),.int .i64 (m:Int)] r (fun u w'=>(∃C,u= .returned C/\IsV w' (F6 A.heap.size w') C (C0 bA))/\e r.heap.size r w')):=fun r y=>by
     have B:=ybv (((aE.out.next B0.out).next v.out).next y) aC.out (Bru.next (Bru.next aB.out v.out) y) W.out.1 W.out.2 aD.out ai.out
     rw[<-bf.out] at B
     refine B.mono ?_
     rintro u w' ⟨⟨C,rfl,aK,T,ab⟩,x⟩
     have U:=i v.out.size y.size
     refine⟨⟨C,rfl,OwnS.isS IsR.stb T (fun s Q=>⟨i U (ab s Q),by obtain⟨_,_,_,_,aa⟩:=T;exact(aa s Q).1⟩) (fun s B Z=>⟨i U B,Z⟩)⟩,x⟩
    clear az ay R aA an bm r0 r1 r2 au av
    go_region_held3 (SH.mk _ X).s
     (first|((with_reducible show World.cell? (World.setCell _ _ _) _=_/\_);exact aI.out _ bel _ _ _ _ _ _ _)|exact X.out _ bel)
     (first
       |(go_at_call 137;(with_reducible refine Calls.mono (aG.out _ bel) ?_);rintro u a4 ⟨⟨b5,rfl,ao⟩,a1⟩;have J:=bW E a4;have aj:=b ao;obtain⟨bD,bM,rfl,_⟩:=M5 ao;obtain⟨d0,aO,aP,aQ,aR,aS,aT⟩:=U8 (Row.next (Row.next P.out v.out) J.out);obtain⟨aU,aV,aW,aX,aY,aZ,a0⟩:=zlj (Row.next (Row.next P.out v.out) J.out))
       |(go_at_call 138;(with_reducible refine Calls.mono (aH.out _ bel) ?_);rintro u a5 ⟨⟨b7,rfl,aq⟩,a2⟩;have K:=bW E a5;have ak:=b aq;obtain⟨bE,bN,rfl,_⟩:=M5 aq;obtain⟨d0,aO,aP,aQ,aR,aS,aT⟩:=U8 (Row.next (Row.next P.out v.out) K.out);obtain⟨aU,aV,aW,aX,aY,aZ,a0⟩:=zlj (Row.next (Row.next P.out v.out) K.out)))
    all_goals
     go_wp2_with fail
     first
      |exact zmb Tryz.results134 rfl rfl (Row.pt7 (Row.next (Row.next P.out v.out) K.out) _ _ _ _ _ _ _) (zma (lo:=A.heap.size) (znd (IsQ.stb.to Y.out fun s x=>⟨⟨x.1.1,l x.1.2 K.out.size⟩,fun ac=>K.out.cell (p:=⟨s,ac,none⟩) x.1.2⟩) (IsV.stb.to aj.out (X6 a2)) (ak.out) zmi) (C9 (C9 B0.out v.out) K.out) (k _) (oh F))
      |exact zmb Tryz.results134 rfl rfl (Row.pt7 (Row.next (Row.next P.out v.out) J.out) _ _ _ _ _ _ _) (zma (lo:=A.heap.size) (znd (IsQ.stb.to Y.out fun s x=>⟨⟨x.1.1,l x.1.2 J.out.size⟩,fun ac=>J.out.cell (p:=⟨s,ac,none⟩) x.1.2⟩) (aj.out) (IsV.stb.to ak.out (X6 a1)) zmi) (C9 (C9 B0.out v.out) J.out) (k _) (oh F)))
  |(have al:c (Row E ah.heap.size 37 _):=az
    try unfold put3 at ar
    try rw[ar]
    obtain⟨Y,v⟩:=C4 ay R
    have N:c (A.heap.size<=ah.heap.size):=aA
    obtain⟨a6,au⟩:=nm ((A9 q.num.natAbs).length)
    obtain⟨a7,av⟩:=nm ((A9 q.den).length)
    rw[<-au,<-av] at al Y
    have aL:=B9 R ae.out.1
    have aM:=B9 R ae.out.2.1
    have aN:=B9 R ae.out.2.2
    obtain⟨r0,r1,r2⟩:=C3 al.out
    go_wp2_with fail
    have X:=zmh aL aM aN r0 r1 r2
    have aI:c (∀r:World,e E.heap.size E r->∀a s G d u H I,(pt7 r w.heap.size a s G d u H I).cell? ⟨bs,0,none⟩=some (.pointer (some ⟨g,0,none⟩))/\(pt7 r w.heap.size a s G d u H I).cell? ⟨mk,0,none⟩=some (.int .i64 (n:Int))/\(pt7 r w.heap.size a s G d u H I).cell? ⟨mk,1,none⟩=some (.int .i64 (m:Int))/\(pt7 r w.heap.size a s G d u H I).cell? ⟨ah.heap.size,0,none⟩=some (.bool bC)/\(pt7 r w.heap.size a s G d u H I).cell? ⟨ah.heap.size,1,none⟩=some (.slice bh a6 bw)/\(pt7 r w.heap.size a s G d u H I).cell? ⟨ah.heap.size,2,none⟩=some (.slice bg a7 bB)):=fun r y a s G d u H I=>(fun h=>⟨Z9 h.1 (zlo O F N) _ _ _ _ _ _ _,Z9 h.2.1 (zlo O F N) _ _ _ _ _ _ _,Z9 h.2.2.1 (zlo O F N) _ _ _ _ _ _ _,Z9 h.2.2.2.1 (zlo O F N) _ _ _ _ _ _ _,Z9 h.2.2.2.2.1 (zlo O F N) _ _ _ _ _ _ _,Z9 h.2.2.2.2.2 (zlo O F N) _ _ _ _ _ _ _⟩) (X.out r y)
    have aG:c (∀r:World,e E.heap.size E r->Calls j 137 #[.pointer (some ⟨g,0,none⟩),.int .i64 (n:Int)] r (fun u w'=>(∃C,u= .returned C/\IsV w' (F6 A.heap.size w') C (C0 bx))/\e r.heap.size r w')):=fun r y=>by
     have B:=zyf (((aE.out.next B0.out).next v.out).next y) aC.out (Bru.next (Bru.next aB.out v.out) y) W.out.1 W.out.2 aD.out ai.out
     rw[<-be.out] at B
     refine B.mono ?_
     rintro u w' ⟨⟨C,rfl,aK,T,ab⟩,x⟩
     have U:=i v.out.size y.size
     refine⟨⟨C,rfl,OwnS.isS IsR.stb T (fun s Q=>⟨i U (ab s Q),by obtain⟨_,_,_,_,aa⟩:=T;exact(aa s Q).1⟩) (fun s B Z=>⟨i U B,Z⟩)⟩,x⟩
    have aH:c (∀r:World,e E.heap.size E r->Calls j 138 #[.pointer (some ⟨g,0,none⟩),.int .i64 (n:Int),.int .i64 (m:Int)] r (fun u w'=>(∃C,u= .returned C/\IsV w' (F6 A.heap.size w') C (C0 bA))/\e r.heap.size r w')):=fun r y=>by
     have B:=ybv (((aE.out.next B0.out).next v.out).next y) aC.out (Bru.next (Bru.next aB.out v.out) y) W.out.1 W.out.2 aD.out ai.out
     rw[<-bf.out] at B
     refine B.mono ?_
     rintro u w' ⟨⟨C,rfl,aK,T,ab⟩,x⟩
     have U:=i v.out.size y.size
     refine⟨⟨C,rfl,OwnS.isS IsR.stb T (fun s Q=>⟨i U (ab s Q),by obtain⟨_,_,_,_,aa⟩:=T;exact(aa s Q).1⟩) (fun s B Z=>⟨i U B,Z⟩)⟩,x⟩
    clear az ay R aA an bm r0 r1 r2 au av
    go_region_held3 (SH.mk _ X).s
     (first|((with_reducible show World.cell? (World.setCell _ _ _) _=_/\_);exact aI.out _ bel _ _ _ _ _ _ _)|exact X.out _ bel)
     (first
       |(go_at_call 137;(with_reducible refine Calls.mono (aG.out _ bel) ?_);rintro u a4 ⟨⟨b5,rfl,ao⟩,a1⟩;have J:=bW E a4;have aj:=b ao;obtain⟨bD,bM,rfl,_⟩:=M5 ao;obtain⟨d0,aO,aP,aQ,aR,aS,aT⟩:=U8 (Row.next (Row.next P.out v.out) J.out);obtain⟨aU,aV,aW,aX,aY,aZ,a0⟩:=zlj (Row.next (Row.next P.out v.out) J.out))
       |(go_at_call 138;(with_reducible refine Calls.mono (aH.out _ bel) ?_);rintro u a5 ⟨⟨b7,rfl,aq⟩,a2⟩;have K:=bW E a5;have ak:=b aq;obtain⟨bE,bN,rfl,_⟩:=M5 aq;obtain⟨d0,aO,aP,aQ,aR,aS,aT⟩:=U8 (Row.next (Row.next P.out v.out) K.out);obtain⟨aU,aV,aW,aX,aY,aZ,a0⟩:=zlj (Row.next (Row.next P.out v.out) K.out)))
    all_goals
     go_wp2_with fail
     first
      |exact zmb Tryz.results134 rfl rfl (Row.pt7 (Row.next (Row.next P.out v.out) K.out) _ _ _ _ _ _ _) (zma (lo:=A.heap.size) (znd (IsQ.stb.to Y.out fun s x=>⟨⟨x.1.1,l x.1.2 K.out.size⟩,fun ac=>K.out.cell (p:=⟨s,ac,none⟩) x.1.2⟩) (IsV.stb.to aj.out (X6 a2)) (ak.out) zmi) (C9 (C9 B0.out v.out) K.out) (k _) (oh F))
      |exact zmb Tryz.results134 rfl rfl (Row.pt7 (Row.next (Row.next P.out v.out) J.out) _ _ _ _ _ _ _) (zma (lo:=A.heap.size) (znd (IsQ.stb.to Y.out fun s x=>⟨⟨x.1.1,l x.1.2 J.out.size⟩,fun ac=>J.out.cell (p:=⟨s,ac,none⟩) x.1.2⟩) (aj.out) (IsV.stb.to ak.out (X6 a1)) zmi) (C9 (C9 B0.out v.out) J.out) (k _) (oh F)))
theorem yxc {w:World} {st:Int} {row:Nat} (bD:row<m) (h:O7 w S lo0 lo g L m n sc top t st p steps) (hI:TInv M m n t) (cR:Bru w) (dY:m<=100) (dZ:n<=100) (hF:(A9 (K6 M (m+1))).length<=100000) (cT:ScOk sc top):
 Calls j 140 #[.pointer (some ⟨g,0,none⟩),.int .i64 (row:Int),.int .i64 (n:Int),.int .i64 (m:Int)] w fun u w'=>(∃aU,u= .returned aU/\OwnV w w' aU (J0 m n (fun aU=>if t.bas.getD row 0=n+aU then 1 else 0) (fun ah=>t.oth.getD ah 0) (fun ah=>H7 (t.A row ah) (sc (t.oth.getD ah 0)) t.d (sc (t.bas.getD row 0))) n))/\e w.heap.size w w':=by
 obtain⟨C,cH,aL,bq,K⟩:=hd5 h cR cT (hI.sz hF og) hI;obtain⟨dO,ee,dQ,eh,D,bt,dR,dT,⟨-,-,hD,cU⟩,⟨bv,b3,al,bw,bx⟩,-,⟨aB,an,a5⟩,-⟩:=h.open;obtain⟨bQ,bT⟩:=C4 (IsK.stb.to hD (E0 (T:=C2 w) h.sn_lt)) (IsK.stb.to cU (E0 (T:=C2 w) h.sn_lt));obtain⟨r,aO⟩:=nm (t.bas.getD row 0);rw[<-aO];have dN:=b aO;have cw:r∈t.bas++t.oth:=(by rw[aO];exact List.mem_append.2 (.inl (Z8 (by rw[hI.bl];exact bD))));have cP:=b cw;have ei:r<m+n:=hI.lt _ cw;have cF:c (∀k,k<n->r≠t.oth.getD k 0):=fun k aR u=>(List.nodup_append.1 hI.dist).2.2 _ (Z8 (by rw[hI.bl];exact bD)) _ (Z8 (by rw[hI.ol];exact aR)) (aO.symm.trans u);obtain⟨c5,cS⟩:=h.basW og;have a1:=cS.el row bD;rw[<-aO] at a1;have a1:w.cell? ⟨L.bb,row,none⟩=some (.int .i64 ((r:Nat):Int)):=a1;obtain⟨key,cj⟩:=nm (fun ah=>t.oth.getD ah 0);obtain⟨X,b9⟩:=nm (fun ah=>H7 (t.A row ah) (sc (t.oth.getD ah 0)) t.d (sc (r)));obtain⟨N,ca⟩:∃N:Nat->Rat,N=fun aU=>if r=n+aU then 1 else 0:=⟨_,rfl⟩;rw[<-cj,<-b9,<-ca];obtain⟨ak,cL,br⟩:=G4 cj b9 ca;have aR:=h.caps;have dy:m<=L.bc/\L.bc<=9223372036854775807/\n<=L.oc/\L.oc<=9223372036854775807/\m+n<=L.sp/\L.sp<=9223372036854775807:=(by unfold maxLen at aR;omega);obtain⟨ek,em,q3,en,eo,ep⟩:=dy;have aP:∀aT,aT<m+2->L4 m n aT<=L.cp aT/\L.cp aT<=9223372036854775807:=fun aT dA=>(by have:=h.cap aT dA;unfold maxLen at this;exact this);have r1:m<=L.cp m:=(by have:=(aP m og).1;rwa[W4] at this);have r2:L.cp m<=9223372036854775807:=(aP m og).2;have r3:n<=L.cp (m+1):=(by have:=(aP (m+1) og).1;rwa[Z6] at this);have r4:L.cp (m+1)<=9223372036854775807:=(aP (m+1) og).2;obtain⟨dG,cg⟩:=nm (L.oa);rw[<-cg] at b3;have cI:=b cg;obtain⟨ej,ck⟩:=nm ((A9 t.d).length);obtain⟨lt,O⟩:=nm ((A9 top).length);have bp:=b ck;rw[<-ck] at bQ aB;rw[<-O] at bT a5;have V:=b (f bw (f bx (f aB (f an a5))));have cO:=b3;have bP:c (g<w.heap.size):=h.g_lt;rw[c5] at bv;obtain⟨au,cG,cJ⟩:=G4 (f bv (f a1 bv)) al bD;have dW:(0:Int)<=((r:Nat):Int):=og;have dX:((r:Nat):Int)<(m:Int)+(n:Int):=og;have ec:(0:Int)<=(row:Int):=og;have ed:(row:Int)<(m:Int):=og;have bn:=b aP;clear h cR cT hI hD cU cj b9 ca aO cw c5 cS a1 al aR aP cg ck O hF bw bx aB an a5 bv b3;have dS:=L7;go_in;go_wp2_with fail;refine(zzi w (n:=m) og).mono ?_;rintro u aJ ⟨⟨er,rfl,bY,bC,zkf⟩,cb⟩;obtain⟨db,cQ,rfl⟩:=bC.slice;have bu:(C0 (List.replicate m (0:Rat))).length=m:=(by rw[zot,List.length_replicate]);rw[bu] at bC⊢;obtain⟨bU,cN,ao⟩:=G4 bC zkf cb;have cu:=B9 cb cO;clear bC zkf cb bu cO;have c2:=B9 ao.out au.out.1;have c3:=B9 ao.out au.out.2.1;have c4:=B9 ao.out au.out.2.2;have dd:=b cu;by_cases cY:n<=r
 ·have dt:decide (((r:Nat):Int)>=(n:Int))=true:=decide_eq_true og;obtain⟨bZ,rfl,cV,cW,dU,dV,bA,c8,c9,da,u0,u1,u2⟩:=zqc bU.out (List.length_replicate ..) (j:=(r-n)) og;have R:=bA ((r-n)*3);have T:=bA ((r-n)*3+1);have U:=bA ((r-n)*3+2);obtain⟨cK,cM⟩:=C4 (f cV cW) cY;obtain⟨aI,cf⟩:=nm (r-n);rw[<-cf] at u0 u1 u2 R T U;have c1:IntKind.i64.wrap (((r:Nat):Int)-(n:Int))=(aI:Int):=(by rw[IntKind.wrap_i64];omega);have cZ:(0:Int)<=(aI:Int):=og;have c0:(aI:Int)<(m:Int):=og;have bK:=b (f cf (show aI<m by omega));clear cf;obtain⟨aK,bG⟩:=C4 (f u0 (f u1 u2)) (f R (f T U));clear cV cW bA cY u0 u1 u2 R T U;go_wp2_with fail;refine(zmt _).mono ?_;rintro u dK ⟨⟨et,rfl,cn⟩,cX⟩;have dk:=b (E9 (zsn cn));have cE:c (e aJ.heap.size aJ dK):=cX;obtain⟨dP,eg,rfl,_,_,_⟩:=id cn;clear cn cX;go_wp2_with fail;refine(yct dk.out (by rw[zka];decide)).mono ?_;rintro u F ⟨⟨c7,rfl,af⟩,bB⟩;have s:c (e aJ.heap.size aJ F):=C9 cE.out bB;have aM:=b af;obtain⟨cx,bX,cs,bV,cv,rfl,_,_,_⟩:=G9 af;obtain⟨dL,cq⟩:=nm ((A9 (((1:Nat):Int):Rat).num.natAbs).length);obtain⟨dM,cr⟩:=nm ((A9 (((1:Nat):Int):Rat).den).length);rw[<-cq,<-cr] at aM;rw[<-cq,<-cr];clear cq cr;have c6:(L9 F bZ aI (.bool cx) (.slice bX dL cs) (.slice bV dM cv)).cell? ⟨g,1,none⟩=some (.slice dG n L.oc):=yay (B9 s.out dd.out) (zkn cK bP);unfold L9 at c6;have cy:=B9 s.out aK.out.1;have cz:=B9 s.out aK.out.2.1;have cA:=B9 s.out aK.out.2.2;have cB:=G6 s.out aK.out.1 bG.out.1;have cC:=G6 s.out aK.out.2.1 bG.out.2.1;have cD:=G6 s.out aK.out.2.2 bG.out.2.2;clear af bB c2 c3 c4 cu;go_wp2_with fail;have hst:=OwnS.step IsR.stb (T:=fun l=>bY l\/(aJ.heap.size<=l/\l<F.heap.size)) bU.out s.out (fun l h=> .inl h) (fun l h=>h);have aQ:=IsQ.stb.to aM.out (E0 (T:=fun l=>bY l\/(aJ.heap.size<=l/\l<F.heap.size)) fun l h=> .inr ⟨i cE.out.size h.1,h.2⟩);have ae:=zpk hst (List.length_replicate ..) bK.out.2 aQ;have aS:(List.replicate m (0:Rat)).set aI (((1:Nat):Int):Rat)=N7 m N:=(by rw[br.out];rw[bK.out.1];exact ygg cM.out (zkn bK cM));rw[aS] at ae;have aZ:=b ae;have bE:c (∀x y z,e w.heap.size w (L9 F bZ aI x y z)):=fun x y z=>(C9 ao.out s.out).grown (zlk (H8 _ _)) (i ao.out.size s.out.size) (fun x u=>by cases u;exact cK.out.1)
  have bO:c (∀l,(bY l\/(aJ.heap.size<=l/\l<F.heap.size))->w.heap.size<=l):=fun l A=>by
   rcases A with A|A
   ·exact cN.out l A
   ·exact i ao.out.size A.1
  clear hst aQ ae aS cy cz cA cB cC cD c6;obtain⟨dc,b8⟩:=nm (some ⟨bZ,0,none⟩:Option Addr);rw[<-b8] at aZ;rw[<-b8];clear b8;go_loopw [41,11,12] (fun aH _ _ wr=>∃(k:Nat) (E:Nat->Prop),k<=n/\aH= .int .i64 (k:Int)/\e w.heap.size w wr/\OwnS 3 37 IsR wr w.heap.size E (.slice dc m cQ) (C0 (J0 m n N key X k))/\c (∀l,E l->w.heap.size<=l)) (fun aH _ _ _=>n-(intOf aH).toNat);case atStart=>exact⟨0,_,d _,rfl,bE.out _ _ _,by rw[zue];exact aZ.out,bO.out⟩
  case round=>
   obtain⟨k,E,aR,rfl,be,bm,aC⟩:=hrel;obtain⟨q,Y⟩:=C4 be bm;clear be bm;rcases a k n with O|du
   ·have B:=b (C.out.next q.out);obtain⟨ct,a8⟩:=B.out.othW og;have ch:=cI.out.trans ct;subst ch;have a3:=a8.el k O;have aA:t.oth.getD k 0=key k:=(by rw[ak.out]);have dm:wr.cell? ⟨L.ob,k,none⟩=some (.int .i64 ((key k:Nat):Int)):=(by rw[<-aA];exact a3);have ad:key k∈t.bas++t.oth:=(by rw[<-aA];exact(List.mem_append.2 (.inr (Z8 (by rw[K.out.ol];exact O)))));have dz:key k<m+n:=K.out.lt _ ad;obtain⟨cm,-,di,dF,a4,nS⟩:=B.out.scl _ ad;have bw:=B9 q.out V.out.1;have bx:=B9 q.out V.out.2.1;have aB:=B9 q.out V.out.2.2.1;have an:=B9 q.out V.out.2.2.2.1;have a5:=B9 q.out V.out.2.2.2.2;rw[cm] at an;have dw:(0:Int)<=(k:Int):=og;have dx:(k:Int)<(n:Int):=og;have dB:(0:Int)<=((key k:Nat):Int):=og;have dC:((key k:Nat):Int)<(m:Int)+(n:Int):=og;have W:c (k+1<=n):=O;have cd:c (∀ag,ag<k->key ag≠key k):=fun ag dv u=>(by have b1:t.oth.getD ag 0=t.oth.getD k 0:=(by rw[ak.out] at u;exact u);have:=(zoc (List.nodup_append.1 K.out.dist).2.1 (by rw[K.out.ol];omega) (by rw[K.out.ol];omega) b1);omega);have aY:=b (IsK.stb.to nS (E0 (T:=C2 wr) fun l A=>B.out.sn_lt l (.inl A)));obtain⟨dJ,bj⟩:=nm ((A9 (sc (key k))).length);rw[<-bj] at a4 aY;have bL:=b ad;have v:c (row<m):=cJ.out;have aD:=B.out.hd row v.out;have a6:=aD.2.2;rw[B.out.hv row (oh v) (by rw[J5 v.out];omega)] at a6;have al:=B9 q.out cG.out;rw[aD.1] at al;have dn:n<=L.cp row:=(by have:=(bn.out row (oh v)).1;rwa[J5 v.out] at this);have dp:L.cp row<=9223372036854775807:=(bn.out row (oh v)).2;have b4:=B9 q.out au.out.1;have b0:=B9 q.out au.out.2.1;obtain⟨-,-,df,dD,a2,nB⟩:=B.out.scl r cP.out;have aX:=b (IsK.stb.to nB (E0 (T:=C2 wr) fun l A=>B.out.sn_lt l (.inl A)));obtain⟨dI,bi⟩:=nm ((A9 (sc r)).length);rw[<-bi] at a2 aX;clear a3 a8 aA nS bj ad aD nB bi;by_cases ac:n<=key k
    ·have cc:decide (((key k:Nat):Int)>=(n:Int))=true:=decide_eq_true og;have P:=b ac;obtain⟨av,rfl,a9,bd,dr,ds,ab,c8,c9,da,u0,u1,u2⟩:=zqc Y.out (zmw _ _ _ _ _ _) (j:=key k-n) og;have R:=ab ((key k-n)*3);have T:=ab ((key k-n)*3+1);have U:=ab ((key k-n)*3+2);have H:=b (f a9 bd);obtain⟨dh,dE,dj,dH,-,Z,aa,a0,az⟩:=B.out.el (l:=row) (j:=k) og (by rw[J5 v.out];exact O);rw[zqa v.out] at Z aa az;have Q:=b az;obtain⟨z,aG⟩:=nm (t.A row k);rw[<-aG] at Z aa Q;have aW:=b aG;obtain⟨dq,bf⟩:=nm (decide (z<0));obtain⟨bu,bg⟩:=nm ((A9 z.natAbs).length);obtain⟨aN,bh⟩:=nm ((A9 1).length);rw[<-bf] at Z Q;rw[<-bg] at aa Q;rw[<-bh] at a0 Q;obtain⟨J,aE⟩:=nm (key k-n);rw[<-aE] at u0 u1 u2 R T U;have bJ:=b aE;have c1:IntKind.i64.wrap (((key k:Nat):Int)-(n:Int))=(J:Int):=(by rw[IntKind.wrap_i64];omega);have cZ:(0:Int)<=(J:Int):=og;have c0:(J:Int)<(m:Int):=og;have bN:c (J<m):=oH;obtain⟨G,aq⟩:=C4 (f u0 (f u1 u2)) (f R (f T U));have bI:c (Bru wr):=(by have a7:e w.heap.size w wr:=q.out;exact Bru.next cH.out a7);clear az aG bf bg bh aE a9 bd ab ac u0 u1 u2 R T U;go_wp2_with fail;obtain⟨bH,bR,de⟩:=G4 aB (IsK.stb.to bQ.out (E7 q.out)) (IsK.stb.to bT.out (E7 q.out));have ar:=zpw al a6 Z aa a0 an a4 a2 b4 b0;have aV:c (L.sb≠av):=(by rw[c];have a7:=H.out.1;obtain⟨_,_,_,_,b5,_⟩:=C.out.scl (key k) bL.out;have b7:=o w _ b5;simp at b7;omega);have ai:g≠av:=zkn H bP;have aj:L.bk row≠av:=(by have:=H.out;have:=B.out.tab.sep row (oh v) (by rw[J5 v.out];omega);have:=C.out.tab.hlo;omega);have bM:=zpf J ar (nA ai (nA (by have:=H.out;have:=C.out.tab.sS _ (C.out.hd _ v.out).2.1;have:=C.out.tab.hlo;omega) (nA aj (nA aj (nA aj (nA ai (nA (aV.out) (nA (aV.out) (nA ai (nZ (by have:=H.out;have:=(C.out.bS og).2.1;have:=C.out.tab.hlo;omega)))))))))));clear ai aj;have bF:=b fun ay (I:e wr.heap.size wr ay)=>zss (z:=z) (u:=sc (key k)) (d:=t.d) (dn:=sc r) (B9 I (show wr.cell? ⟨g,8,none⟩=some (.slice D (A9 t.d).length bt) by rw[<-bp.out];exact bH.out)) (show G0 ay (C2 ay) (.slice D (A9 t.d).length bt) t.d by rw[<-bp.out];exact IsK.stb.next bR.out I) (IsQ.stb.next Q.out I) (IsK.stb.next aY.out I) (IsK.stb.next aX.out I) (Bru.next bI.out I) (by rw[aW.out];exact zsu (bq.out.1 _ _ (Nat.le_of_lt v.out) og)) (aL.out.sl _) bq.out.2 (aL.out.sl _) K.out.d0 (aL.out.sp _)
     go_region_held3 (SH.mk _ ar).s
      (first|exact ar.out _ bel|exact bM.out _ bel _ _ _)
      (first
        |(go_at_call 135;(with_reducible refine Calls.mono (bF.out _ bel) ?_);rintro u F ⟨⟨c7,rfl,af⟩,bB⟩;have s:=bW wr F;have aM:=b af;obtain⟨cx,bX,cs,bV,cv,rfl,_,_,_⟩:=G9 af;have cy:=B9 s.out G.out.1;have cz:=B9 s.out G.out.2.1;have cA:=B9 s.out G.out.2.2;have cB:=G6 s.out G.out.1 aq.out.1;have cC:=G6 s.out G.out.2.1 aq.out.2.1;have cD:=G6 s.out G.out.2.2 aq.out.2.2))
     go_wp2_with fail;go_roundw
     case rel=>
      have hst:=OwnS.step IsR.stb (T:=fun l=>E l\/(wr.heap.size<=l/\l<F.heap.size)) Y.out s.out (fun l h=> .inl h) (fun l h=>h);have aQ:=IsQ.stb.to aM.out (E0 (T:=fun l=>E l\/(wr.heap.size<=l/\l<F.heap.size)) fun l h=> .inr ⟨h.1,h.2⟩);have ae:=zpk hst (zmw _ _ _ _ _ _) bN.out aQ;(have cl:H7 z (sc (key k)) t.d (sc r)=X k:=by rw[cL.out];show H7 z (sc (key k)) t.d (sc r)=H7 (t.A row k) (sc (t.oth.getD k 0)) t.d (sc r);rw[aW.out,ak.out]);have aS:(J0 m n N key X k).set J (H7 z (sc (key k)) t.d (sc r))=J0 m n N key X (k+1):=(by rw[cl];have u:=zuc (N:=m) (off:=n) (b0:=N) (key:=key) (X:=X) (k:=k) (oh P) (oh P) cd.out (by rw[br.out];exact if_neg (fun u=>cF.out k og (by have aN:key k=t.oth.getD k 0:=(by rw[ak.out]);have:=P.out;omega)));rw[u,<-bJ.out]);rw[aS] at ae
      exact⟨k+1,_,W.out,by go_num,(C9 q.out s.out).grown (zlk (H8 _ _)) (i q.out.size s.out.size) (fun x u=>by cases u;exact H.out.1),ae,fun l A=>by
       rcases A with A|A
       ·exact aC.out l A
       ·exact i q.out.size A.1⟩
     case measure=>simp[intOf];have:=W.out;omega
    ·have cc:decide (((key k:Nat):Int)>=(n:Int))=false:=decide_eq_false og;have P:=b ac;clear ac;go_wp2_with fail;go_roundw;(case rel=>exact⟨k+1,E,W.out,by go_num,q.out,by rw[zud (oh P)];exact Y.out,aC.out⟩);case measure=>simp[intOf];have:=W.out;omega
   ·obtain rfl:k=n:=og;go_wp2_with fail;go_ret;exact⟨⟨_,rfl,E,Y.out,aC.out⟩,q.out⟩
 ·have dt:decide (((r:Nat):Int)>=(n:Int))=false:=decide_eq_false og;have aN:List.replicate m (0:Rat)=N7 m N:=(by rw[br.out];exact ygf og);have aZ:=bU;rw[aN] at aZ;have bE:=ao;have bO:=cN;clear aN;go_wp2_with fail;clear c2 c3 c4 cu;go_loopw [41,11,12] (fun aH _ _ wr=>∃(k:Nat) (E:Nat->Prop),k<=n/\aH= .int .i64 (k:Int)/\e w.heap.size w wr/\OwnS 3 37 IsR wr w.heap.size E (.slice db m cQ) (C0 (J0 m n N key X k))/\c (∀l,E l->w.heap.size<=l)) (fun aH _ _ _=>n-(intOf aH).toNat);case atStart=>exact⟨0,_,d _,rfl,bE.out,by rw[zue];exact aZ.out,bO.out⟩
  case round=>
   obtain⟨k,E,aR,rfl,be,bm,aC⟩:=hrel;obtain⟨q,Y⟩:=C4 be bm;clear be bm;rcases a k n with O|du
   ·have B:=b (C.out.next q.out);obtain⟨ct,a8⟩:=B.out.othW og;have ch:=cI.out.trans ct;subst ch;have a3:=a8.el k O;have aA:t.oth.getD k 0=key k:=(by rw[ak.out]);have dm:wr.cell? ⟨L.ob,k,none⟩=some (.int .i64 ((key k:Nat):Int)):=(by rw[<-aA];exact a3);have ad:key k∈t.bas++t.oth:=(by rw[<-aA];exact(List.mem_append.2 (.inr (Z8 (by rw[K.out.ol];exact O)))));have dz:key k<m+n:=K.out.lt _ ad;obtain⟨cm,-,di,dF,a4,nS⟩:=B.out.scl _ ad;have bw:=B9 q.out V.out.1;have bx:=B9 q.out V.out.2.1;have aB:=B9 q.out V.out.2.2.1;have an:=B9 q.out V.out.2.2.2.1;have a5:=B9 q.out V.out.2.2.2.2;rw[cm] at an;have dw:(0:Int)<=(k:Int):=og;have dx:(k:Int)<(n:Int):=og;have dB:(0:Int)<=((key k:Nat):Int):=og;have dC:((key k:Nat):Int)<(m:Int)+(n:Int):=og;have W:c (k+1<=n):=O;have cd:c (∀ag,ag<k->key ag≠key k):=fun ag dv u=>(by have b1:t.oth.getD ag 0=t.oth.getD k 0:=(by rw[ak.out] at u;exact u);have:=(zoc (List.nodup_append.1 K.out.dist).2.1 (by rw[K.out.ol];omega) (by rw[K.out.ol];omega) b1);omega);have aY:=b (IsK.stb.to nS (E0 (T:=C2 wr) fun l A=>B.out.sn_lt l (.inl A)));obtain⟨dJ,bj⟩:=nm ((A9 (sc (key k))).length);rw[<-bj] at a4 aY;have bL:=b ad;have v:c (row<m):=cJ.out;have aD:=B.out.hd row v.out;have a6:=aD.2.2;rw[B.out.hv row (oh v) (by rw[J5 v.out];omega)] at a6;have al:=B9 q.out cG.out;rw[aD.1] at al;have dn:n<=L.cp row:=(by have:=(bn.out row (oh v)).1;rwa[J5 v.out] at this);have dp:L.cp row<=9223372036854775807:=(bn.out row (oh v)).2;have b4:=B9 q.out au.out.1;have b0:=B9 q.out au.out.2.1;obtain⟨-,-,df,dD,a2,nB⟩:=B.out.scl r cP.out;have aX:=b (IsK.stb.to nB (E0 (T:=C2 wr) fun l A=>B.out.sn_lt l (.inl A)));obtain⟨dI,bi⟩:=nm ((A9 (sc r)).length);rw[<-bi] at a2 aX;clear a3 a8 aA nS bj ad aD nB bi;by_cases ac:n<=key k
    ·have cc:decide (((key k:Nat):Int)>=(n:Int))=true:=decide_eq_true og;have P:=b ac;obtain⟨av,rfl,a9,bd,dr,ds,ab,c8,c9,da,u0,u1,u2⟩:=zqc Y.out (zmw _ _ _ _ _ _) (j:=key k-n) og;have R:=ab ((key k-n)*3);have T:=ab ((key k-n)*3+1);have U:=ab ((key k-n)*3+2);have H:=b (f a9 bd);obtain⟨dh,dE,dj,dH,-,Z,aa,a0,az⟩:=B.out.el (l:=row) (j:=k) og (by rw[J5 v.out];exact O);rw[zqa v.out] at Z aa az;have Q:=b az;obtain⟨z,aG⟩:=nm (t.A row k);rw[<-aG] at Z aa Q;have aW:=b aG;obtain⟨dq,bf⟩:=nm (decide (z<0));obtain⟨bu,bg⟩:=nm ((A9 z.natAbs).length);obtain⟨aN,bh⟩:=nm ((A9 1).length);rw[<-bf] at Z Q;rw[<-bg] at aa Q;rw[<-bh] at a0 Q;obtain⟨J,aE⟩:=nm (key k-n);rw[<-aE] at u0 u1 u2 R T U;have bJ:=b aE;have c1:IntKind.i64.wrap (((key k:Nat):Int)-(n:Int))=(J:Int):=(by rw[IntKind.wrap_i64];omega);have cZ:(0:Int)<=(J:Int):=og;have c0:(J:Int)<(m:Int):=og;have bN:c (J<m):=oH;obtain⟨G,aq⟩:=C4 (f u0 (f u1 u2)) (f R (f T U));have bI:c (Bru wr):=(by have a7:e w.heap.size w wr:=q.out;exact Bru.next cH.out a7);clear az aG bf bg bh aE a9 bd ab ac u0 u1 u2 R T U;go_wp2_with fail;obtain⟨bH,bR,de⟩:=G4 aB (IsK.stb.to bQ.out (E7 q.out)) (IsK.stb.to bT.out (E7 q.out));have ar:=zpw al a6 Z aa a0 an a4 a2 b4 b0;have aV:c (L.sb≠av):=(by rw[c];have a7:=H.out.1;obtain⟨_,_,_,_,b5,_⟩:=C.out.scl (key k) bL.out;have b7:=o w _ b5;simp at b7;omega);have ai:g≠av:=zkn H bP;have aj:L.bk row≠av:=(by have:=H.out;have:=B.out.tab.sep row (oh v) (by rw[J5 v.out];omega);have:=C.out.tab.hlo;omega);have bM:=zpf J ar (nA ai (nA (by have:=H.out;have:=C.out.tab.sS _ (C.out.hd _ v.out).2.1;have:=C.out.tab.hlo;omega) (nA aj (nA aj (nA aj (nA ai (nA (aV.out) (nA (aV.out) (nA ai (nZ (by have:=H.out;have:=(C.out.bS og).2.1;have:=C.out.tab.hlo;omega)))))))))));clear ai aj;have bF:=b fun ay (I:e wr.heap.size wr ay)=>zss (z:=z) (u:=sc (key k)) (d:=t.d) (dn:=sc r) (B9 I (show wr.cell? ⟨g,8,none⟩=some (.slice D (A9 t.d).length bt) by rw[<-bp.out];exact bH.out)) (show G0 ay (C2 ay) (.slice D (A9 t.d).length bt) t.d by rw[<-bp.out];exact IsK.stb.next bR.out I) (IsQ.stb.next Q.out I) (IsK.stb.next aY.out I) (IsK.stb.next aX.out I) (Bru.next bI.out I) (by rw[aW.out];exact zsu (bq.out.1 _ _ (Nat.le_of_lt v.out) og)) (aL.out.sl _) bq.out.2 (aL.out.sl _) K.out.d0 (aL.out.sp _)
     go_region_held3 (SH.mk _ ar).s
      (first|exact ar.out _ bel|exact bM.out _ bel _ _ _)
      (first
        |(go_at_call 135;(with_reducible refine Calls.mono (bF.out _ bel) ?_);rintro u F ⟨⟨c7,rfl,af⟩,bB⟩;have s:=bW wr F;have aM:=b af;obtain⟨cx,bX,cs,bV,cv,rfl,_,_,_⟩:=G9 af;have cy:=B9 s.out G.out.1;have cz:=B9 s.out G.out.2.1;have cA:=B9 s.out G.out.2.2;have cB:=G6 s.out G.out.1 aq.out.1;have cC:=G6 s.out G.out.2.1 aq.out.2.1;have cD:=G6 s.out G.out.2.2 aq.out.2.2))
     go_wp2_with fail;go_roundw
     case rel=>
      have hst:=OwnS.step IsR.stb (T:=fun l=>E l\/(wr.heap.size<=l/\l<F.heap.size)) Y.out s.out (fun l h=> .inl h) (fun l h=>h);have aQ:=IsQ.stb.to aM.out (E0 (T:=fun l=>E l\/(wr.heap.size<=l/\l<F.heap.size)) fun l h=> .inr ⟨h.1,h.2⟩);have ae:=zpk hst (zmw _ _ _ _ _ _) bN.out aQ;(have cl:H7 z (sc (key k)) t.d (sc r)=X k:=by rw[cL.out];show H7 z (sc (key k)) t.d (sc r)=H7 (t.A row k) (sc (t.oth.getD k 0)) t.d (sc r);rw[aW.out,ak.out]);have aS:(J0 m n N key X k).set J (H7 z (sc (key k)) t.d (sc r))=J0 m n N key X (k+1):=(by rw[cl];have u:=zuc (N:=m) (off:=n) (b0:=N) (key:=key) (X:=X) (k:=k) (oh P) (oh P) cd.out (by rw[br.out];exact if_neg (fun u=>cF.out k og (by have aN:key k=t.oth.getD k 0:=(by rw[ak.out]);have:=P.out;omega)));rw[u,<-bJ.out]);rw[aS] at ae
      exact⟨k+1,_,W.out,by go_num,(C9 q.out s.out).grown (zlk (H8 _ _)) (i q.out.size s.out.size) (fun x u=>by cases u;exact H.out.1),ae,fun l A=>by
       rcases A with A|A
       ·exact aC.out l A
       ·exact i q.out.size A.1⟩
     case measure=>simp[intOf];have:=W.out;omega
    ·have cc:decide (((key k:Nat):Int)>=(n:Int))=false:=decide_eq_false og;have P:=b ac;clear ac;go_wp2_with fail;go_roundw;(case rel=>exact⟨k+1,E,W.out,by go_num,q.out,by rw[zud (oh P)];exact Y.out,aC.out⟩);case measure=>simp[intOf];have:=W.out;omega
   ·obtain rfl:k=n:=og;go_wp2_with fail;go_ret;exact⟨⟨_,rfl,E,Y.out,aC.out⟩,q.out⟩
end Go.Proofs.YtdgilbgdkmhcmaaGreatDoor
