/-
 The contract of package simplex's newMaker$1.
-/
import Derived.Test.YtlhhbccgfkhflaaGreatDoorProofDualWeak12
namespace Go.Proofs.YtlhhbccgfkhflaaGreatDoor
open Go.RowKit
set_option linter.unusedVariables false
set_option maxRecDepth 100000
set_option maxHeartbeats 8000000
open _root_.Go.Lib renaming hid → b
open _root_.Nat renaming le_refl → k, le_trans → i, lt_of_lt_of_le → l, lt_or_ge → a, zero_le → d
open _root_.And renaming intro → f
open _root_.Go.World renaming block_lt_of_cell? → o
open _root_.Go.RowKit renaming Below → e, Hid → c
open _root_.Go.Proofs.Tryz renaming prog → j
variable {L : Lay} {M g lo lo0 m n top : Nat} {S : Nat → Prop} {p steps : Int} {sc : Nat → Nat} {t : TB}
theorem ywn {w:World} {bs mk:Nat} {st:Int} (h:T3 w S lo0 lo g L m n sc top t st p steps) (hI:TInv M m n t) (bT:Bru w) (bZ:m<=100) (b0:n<=100) (hF:(A8 (M3 M (m+1))).length<=100000) (bU:ScOk sc top) (bv:w.cell? ⟨bs,0,none⟩=some (.pointer (some ⟨g,0,none⟩))) (bw:w.cell? ⟨mk,0,none⟩=some (.int .i64 (n:Int))) (bx:w.cell? ⟨mk,1,none⟩=some (.int .i64 (m:Int))):
 Calls j 150 #[.pointer (some ⟨bs,0,none⟩),.pointer (some ⟨mk,0,none⟩)] w (zpo w ⟨1,E0 (J4 (t.A m n) 1 t.d top),C4 (K1 n 0 (fun _=>0) (fun af=>t.bas.getD af 0) (fun af=>J4 (t.A af n) 1 t.d (sc (t.bas.getD af 0))) m),C4 (K1 m n (fun _=>0) (fun ag=>t.oth.getD ag 0) (fun ag=>J4 (t.A m ag) (sc (t.oth.getD ag 0)) t.d top) n),[]⟩):=by
 obtain⟨aH,cc,ai,aE,aG,W⟩:=zpu h bT bU hI hF (f bZ b0);have O:c (bs<w.heap.size/\mk<w.heap.size/\mk<w.heap.size):=⟨o w _ bv,o w _ bw,o w _ bx⟩;obtain⟨bB,bq⟩:=nm (K1 n 0 (fun _=>0) (fun af=>t.bas.getD af 0) (fun af=>J4 (t.A af n) 1 t.d (sc (t.bas.getD af 0))) m);rw[<-bq];have bg:=b bq;obtain⟨bC,br⟩:=nm (K1 m n (fun _=>0) (fun ag=>t.oth.getD ag 0) (fun ag=>J4 (t.A m ag) (sc (t.oth.getD ag 0)) t.d top) n);rw[<-br];have bh:=b br;obtain⟨q,bt⟩:=nm (J4 (t.A m n) 1 t.d top);rw[<-bt];obtain⟨cd,bJ⟩:=C7 bt (hI.sz hF og);obtain⟨cg,cF,cj,cG,D,cL,ck,cs,⟨-,bX,hD,bV⟩,-,⟨bd,be,bn⟩,⟨bR,-,bm⟩,-⟩:=h.open;obtain⟨aL,cf,bM⟩:=F0 (IsQ.stb.to bX (G4 (T:=C5 w) h.sn_lt)) (IsK.stb.to hD (G4 (T:=C5 w) h.sn_lt)) (IsK.stb.to bV (G4 (T:=C5 w) h.sn_lt));obtain⟨z,bu⟩:=nm (t.A m n);have bK:=b bu;rw[<-bu] at bd be aL;obtain⟨cH,b3⟩:=nm (decide (z<0));obtain⟨cI,b4⟩:=nm ((A8 z.natAbs).length);obtain⟨cJ,b5⟩:=nm ((A8 1).length);obtain⟨lt,bY⟩:=nm ((A8 top).length);rw[<-b3] at bd aL;rw[<-b4] at be aL;rw[<-b5] at bn aL;rw[<-bY] at bm bM;clear h hI bT bZ b0 hF bU bq br bt bX hD bV bu b3 b4 b5 bY;have cM:=N9;obtain⟨A,cD,V,b7,bL⟩:=J9 w #[.int .i64 0,.bool false,.slice none 0 0,.slice none 0 0,.slice none 0 0,.slice none 0 0,.slice none 0 0] 69;obtain⟨B0,P⟩:=C7 V b7;have F:=b bL.out;have bN:=A9 V bv;have cq:=A9 V bw;have cr:=A9 V bx;have cu:=A9 V bd;have cv:=A9 V be;have cw:=A9 V bn;have bQ:=A9 V bR;have ct:=A9 V bm;obtain⟨cb,ae⟩:=C7 bQ (f bN (f cq cr));have cn:=nQ aL V;obtain⟨ca,cl⟩:=C7 (IsK.stb.next cf.out V) (IsK.stb.next bM.out V);have aD:=nU cc V;clear V b7 bL bv bw bx bd be bn bR bm bQ;go_in;go_wp2_with fail;clear cD;have bf:=hs5 bN cu cv cw ct;have bH:=b fun r (y:e A.heap.size A r)=>znn r
 go_region_held3 (SH.mk _ bf).s
  (exact bf.out _ bel)
  (first
    |(go_at_call 130;(with_reducible refine Calls.mono (bH.out _ bel) ?_);rintro u ad ⟨⟨cO,rfl,b1⟩,cN⟩;have cm:=b (zto b1);obtain⟨ch,cE,rfl,_,_,_⟩:=id b1;have bI:c (∀r:World,e ad.heap.size ad r->Calls j 123 #[.pointer (some ⟨g,0,none⟩),.agg #[.bool cH,.slice cg cI cF,.slice cj cJ cG],.slice ch (A8 1).length cE,.slice ck lt cs] r (K8 r q)):=fun r y=>by rw[cd.out,<-bK.out];exact ztv (A9 (show e A.heap.size A r from bel) cb.out) (IsK.stb.next ca.out bel) (IsQ.stb.next cn.out bel) (IsK.stb.next cm.out y) (IsK.stb.next cl.out bel) (Bru.next aD.out bel) (by rw[bK.out];exact ztx (bJ.out.1 _ _ (k _) (k _))) (by rw[zlg];simp) bJ.out.2 ai.out.tl aE.out.d0 ai.out.tp)
    |(go_at_call 123;(with_reducible refine Calls.mono (bI.out _ bel) ?_);rintro u ah ⟨⟨cP,rfl,an⟩,bp⟩;have cK:=b (IsQ.stb.old an);obtain⟨bE,bj,bA,bi,bD,rfl,_,_,_⟩:=F9 an;(first|(have a5:Row ah ad.heap.size 30 [.bool false,.slice none 0 0,.slice none 0 0]:=(Row.next (heap_alloc_new ad zow) bel:Row ah _ _ _);obtain⟨cx,cy,cz⟩:=C0 a5;obtain⟨cA,cB,cC⟩:=E9 a5)|(have a5:Row ah A.heap.size 30 [.bool false,.slice none 0 0,.slice none 0 0]:=(Row.next (heap_alloc_new (World.drew A) zow) bel:Row ah _ _ _);obtain⟨cx,cy,cz⟩:=C0 a5;obtain⟨cA,cB,cC⟩:=E9 a5)|skip)))
 all_goals first
  |(have hF:=zwd (wB:=A) (X:=ad) (g:=ad.heap.size) an bel bel bel (zwl (o:=zow) bel) (Below.size bel) rfl;obtain⟨E,ar,R,aB,ay,aC⟩:=hF)
  |(have hF:=zwd (wB:=A) (X:=(World.drew A)) (g:=A.heap.size) an bel bel bel (zwl (o:=zow) bel) (Below.size bel) rfl;obtain⟨E,ar,R,aB,ay,aC⟩:=hF)
  |(have hF:=yhb (wB:=A) an bel (Below.size bel);obtain⟨E,ar,R,aB,ay,aC⟩:=hF)
 all_goals clear bf bH bI
 all_goals first
  |(have al:c (Row E ad.heap.size 30 _):=aB
    try unfold put3 at ar
    try rw[ar]
    obtain⟨Y,v⟩:=C7 ay R
    have N:c (A.heap.size<=ad.heap.size):=aC
    obtain⟨a8,au⟩:=nm ((A8 q.num.natAbs).length)
    obtain⟨a9,av⟩:=nm ((A8 q.den).length)
    rw[<-au,<-av] at al Y
    have aN:=A9 R ae.out.1
    have aO:=A9 R ae.out.2.1
    have aP:=A9 R ae.out.2.2
    obtain⟨r0,az,aA⟩:=C0 al.out
    go_wp2_with fail
    have X:=znz aN aO aP r0 az aA
    have aK:c (∀r:World,e E.heap.size E r->∀a s G d u H I,(pt7 r w.heap.size a s G d u H I).cell? ⟨bs,0,none⟩=some (.pointer (some ⟨g,0,none⟩))/\(pt7 r w.heap.size a s G d u H I).cell? ⟨mk,0,none⟩=some (.int .i64 (n:Int))/\(pt7 r w.heap.size a s G d u H I).cell? ⟨mk,1,none⟩=some (.int .i64 (m:Int))/\(pt7 r w.heap.size a s G d u H I).cell? ⟨ad.heap.size,0,none⟩=some (.bool bE)/\(pt7 r w.heap.size a s G d u H I).cell? ⟨ad.heap.size,1,none⟩=some (.slice bj a8 bA)/\(pt7 r w.heap.size a s G d u H I).cell? ⟨ad.heap.size,2,none⟩=some (.slice bi a9 bD)):=fun r y a s G d u H I=>(fun h=>⟨zki h.1 (zmc O F N) _ _ _ _ _ _ _,zki h.2.1 (zmc O F N) _ _ _ _ _ _ _,zki h.2.2.1 (zmc O F N) _ _ _ _ _ _ _,zki h.2.2.2.1 (zmc O F N) _ _ _ _ _ _ _,zki h.2.2.2.2.1 (zmc O F N) _ _ _ _ _ _ _,zki h.2.2.2.2.2 (zmc O F N) _ _ _ _ _ _ _⟩) (X.out r y)
    have aI:c (∀r:World,e E.heap.size E r->Calls j 151 #[.pointer (some ⟨g,0,none⟩),.int .i64 (n:Int)] r (fun u w'=>(∃C,u= .returned C/\IsV w' (I7 A.heap.size w') C (C4 bB))/\e r.heap.size r w')):=fun r y=>by
     have B:=zzh (((aH.out.next B0.out).next v.out).next y) aE.out (Bru.next (Bru.next aD.out v.out) y) W.out.1 W.out.2 aG.out ai.out
     rw[<-bg.out] at B
     refine B.mono ?_
     rintro u w' ⟨⟨C,rfl,aM,T,ab⟩,x⟩
     have U:=i v.out.size y.size
     refine⟨⟨C,rfl,OwnS.isS IsR.stb T (fun s Q=>⟨i U (ab s Q),by obtain⟨_,_,_,_,aa⟩:=T;exact(aa s Q).1⟩) (fun s B Z=>⟨i U B,Z⟩)⟩,x⟩
    have aJ:c (∀r:World,e E.heap.size E r->Calls j 152 #[.pointer (some ⟨g,0,none⟩),.int .i64 (n:Int),.int .i64 (m:Int)] r (fun u w'=>(∃C,u= .returned C/\IsV w' (I7 A.heap.size w') C (C4 bC))/\e r.heap.size r w')):=fun r y=>by
     have B:=ydl (((aH.out.next B0.out).next v.out).next y) aE.out (Bru.next (Bru.next aD.out v.out) y) W.out.1 W.out.2 aG.out ai.out
     rw[<-bh.out] at B
     refine B.mono ?_
     rintro u w' ⟨⟨C,rfl,aM,T,ab⟩,x⟩
     have U:=i v.out.size y.size
     refine⟨⟨C,rfl,OwnS.isS IsR.stb T (fun s Q=>⟨i U (ab s Q),by obtain⟨_,_,_,_,aa⟩:=T;exact(aa s Q).1⟩) (fun s B Z=>⟨i U B,Z⟩)⟩,x⟩
    clear aB ay R aC an bp r0 az aA au av
    go_region_held3 (SH.mk _ X).s
     (first|((with_reducible show World.cell? (World.setCell _ _ _) _=_/\_);exact aK.out _ bel _ _ _ _ _ _ _)|exact X.out _ bel)
     (first
       |(go_at_call 151;(with_reducible refine Calls.mono (aI.out _ bel) ?_);rintro u a6 ⟨⟨b8,rfl,ao⟩,a3⟩;have J:=bW E a6;have aj:=b ao;obtain⟨bF,bO,rfl,_⟩:=J6 ao;obtain⟨d0,aQ,aR,aS,aT,aU,aV⟩:=U8 (Row.next (Row.next P.out v.out) J.out);obtain⟨aW,aX,aY,aZ,a0,a1,a2⟩:=zlr (Row.next (Row.next P.out v.out) J.out))
       |(go_at_call 152;(with_reducible refine Calls.mono (aJ.out _ bel) ?_);rintro u a7 ⟨⟨b9,rfl,aq⟩,a4⟩;have K:=bW E a7;have ak:=b aq;obtain⟨bG,bP,rfl,_⟩:=J6 aq;obtain⟨d0,aQ,aR,aS,aT,aU,aV⟩:=U8 (Row.next (Row.next P.out v.out) K.out);obtain⟨aW,aX,aY,aZ,a0,a1,a2⟩:=zlr (Row.next (Row.next P.out v.out) K.out)))
    all_goals
     go_wp2_with fail
     first
      |exact zmk Tryz.results150 rfl rfl (Row.pt7 (Row.next (Row.next P.out v.out) K.out) _ _ _ _ _ _ _) (zmj (lo:=A.heap.size) (zob (IsQ.stb.to Y.out fun s x=>⟨⟨x.1.1,l x.1.2 K.out.size⟩,fun ac=>K.out.cell (p:=⟨s,ac,none⟩) x.1.2⟩) (IsV.stb.to aj.out (Y9 a4)) (ak.out) zmu) (C8 (C8 B0.out v.out) K.out) (k _) (oh F))
      |exact zmk Tryz.results150 rfl rfl (Row.pt7 (Row.next (Row.next P.out v.out) J.out) _ _ _ _ _ _ _) (zmj (lo:=A.heap.size) (zob (IsQ.stb.to Y.out fun s x=>⟨⟨x.1.1,l x.1.2 J.out.size⟩,fun ac=>J.out.cell (p:=⟨s,ac,none⟩) x.1.2⟩) (aj.out) (IsV.stb.to ak.out (Y9 a3)) zmu) (C8 (C8 B0.out v.out) J.out) (k _) (oh F)))
  |(have al:c (Row E A.heap.size 30 _):=aB
    try unfold put3 at ar
    try rw[ar]
    obtain⟨Y,v⟩:=C7 ay R
    have N:c (A.heap.size<=A.heap.size):=aC
    obtain⟨a8,au⟩:=nm ((A8 q.num.natAbs).length)
    obtain⟨a9,av⟩:=nm ((A8 q.den).length)
    rw[<-au,<-av] at al Y
    have aN:=A9 R ae.out.1
    have aO:=A9 R ae.out.2.1
    have aP:=A9 R ae.out.2.2
    obtain⟨r0,az,aA⟩:=C0 al.out
    go_wp2_with fail
    have X:=znz aN aO aP r0 az aA
    have aK:c (∀r:World,e E.heap.size E r->∀a s G d u H I,(pt7 r w.heap.size a s G d u H I).cell? ⟨bs,0,none⟩=some (.pointer (some ⟨g,0,none⟩))/\(pt7 r w.heap.size a s G d u H I).cell? ⟨mk,0,none⟩=some (.int .i64 (n:Int))/\(pt7 r w.heap.size a s G d u H I).cell? ⟨mk,1,none⟩=some (.int .i64 (m:Int))/\(pt7 r w.heap.size a s G d u H I).cell? ⟨A.heap.size,0,none⟩=some (.bool bE)/\(pt7 r w.heap.size a s G d u H I).cell? ⟨A.heap.size,1,none⟩=some (.slice bj a8 bA)/\(pt7 r w.heap.size a s G d u H I).cell? ⟨A.heap.size,2,none⟩=some (.slice bi a9 bD)):=fun r y a s G d u H I=>(fun h=>⟨zki h.1 (zmc O F N) _ _ _ _ _ _ _,zki h.2.1 (zmc O F N) _ _ _ _ _ _ _,zki h.2.2.1 (zmc O F N) _ _ _ _ _ _ _,zki h.2.2.2.1 (zmc O F N) _ _ _ _ _ _ _,zki h.2.2.2.2.1 (zmc O F N) _ _ _ _ _ _ _,zki h.2.2.2.2.2 (zmc O F N) _ _ _ _ _ _ _⟩) (X.out r y)
    have aI:c (∀r:World,e E.heap.size E r->Calls j 151 #[.pointer (some ⟨g,0,none⟩),.int .i64 (n:Int)] r (fun u w'=>(∃C,u= .returned C/\IsV w' (I7 A.heap.size w') C (C4 bB))/\e r.heap.size r w')):=fun r y=>by
     have B:=zzh (((aH.out.next B0.out).next v.out).next y) aE.out (Bru.next (Bru.next aD.out v.out) y) W.out.1 W.out.2 aG.out ai.out
     rw[<-bg.out] at B
     refine B.mono ?_
     rintro u w' ⟨⟨C,rfl,aM,T,ab⟩,x⟩
     have U:=i v.out.size y.size
     refine⟨⟨C,rfl,OwnS.isS IsR.stb T (fun s Q=>⟨i U (ab s Q),by obtain⟨_,_,_,_,aa⟩:=T;exact(aa s Q).1⟩) (fun s B Z=>⟨i U B,Z⟩)⟩,x⟩
    have aJ:c (∀r:World,e E.heap.size E r->Calls j 152 #[.pointer (some ⟨g,0,none⟩),.int .i64 (n:Int),.int .i64 (m:Int)] r (fun u w'=>(∃C,u= .returned C/\IsV w' (I7 A.heap.size w') C (C4 bC))/\e r.heap.size r w')):=fun r y=>by
     have B:=ydl (((aH.out.next B0.out).next v.out).next y) aE.out (Bru.next (Bru.next aD.out v.out) y) W.out.1 W.out.2 aG.out ai.out
     rw[<-bh.out] at B
     refine B.mono ?_
     rintro u w' ⟨⟨C,rfl,aM,T,ab⟩,x⟩
     have U:=i v.out.size y.size
     refine⟨⟨C,rfl,OwnS.isS IsR.stb T (fun s Q=>⟨i U (ab s Q),by obtain⟨_,_,_,_,aa⟩:=T;exact(aa s Q).1⟩) (fun s B Z=>⟨i U B,Z⟩)⟩,x⟩
    clear aB ay R aC an bp r0 az aA au av
    go_region_held3 (SH.mk _ X).s
     (first|((with_reducible show World.cell? (World.setCell _ _ _) _=_/\_);exact aK.out _ bel _ _ _ _ _ _ _)|exact X.out _ bel)
     (first
       |(go_at_call 151;(with_reducible refine Calls.mono (aI.out _ bel) ?_);rintro u a6 ⟨⟨b8,rfl,ao⟩,a3⟩;have J:=bW E a6;have aj:=b ao;obtain⟨bF,bO,rfl,_⟩:=J6 ao;obtain⟨d0,aQ,aR,aS,aT,aU,aV⟩:=U8 (Row.next (Row.next P.out v.out) J.out);obtain⟨aW,aX,aY,aZ,a0,a1,a2⟩:=zlr (Row.next (Row.next P.out v.out) J.out))
       |(go_at_call 152;(with_reducible refine Calls.mono (aJ.out _ bel) ?_);rintro u a7 ⟨⟨b9,rfl,aq⟩,a4⟩;have K:=bW E a7;have ak:=b aq;obtain⟨bG,bP,rfl,_⟩:=J6 aq;obtain⟨d0,aQ,aR,aS,aT,aU,aV⟩:=U8 (Row.next (Row.next P.out v.out) K.out);obtain⟨aW,aX,aY,aZ,a0,a1,a2⟩:=zlr (Row.next (Row.next P.out v.out) K.out)))
    all_goals
     go_wp2_with fail
     first
      |exact zmk Tryz.results150 rfl rfl (Row.pt7 (Row.next (Row.next P.out v.out) K.out) _ _ _ _ _ _ _) (zmj (lo:=A.heap.size) (zob (IsQ.stb.to Y.out fun s x=>⟨⟨x.1.1,l x.1.2 K.out.size⟩,fun ac=>K.out.cell (p:=⟨s,ac,none⟩) x.1.2⟩) (IsV.stb.to aj.out (Y9 a4)) (ak.out) zmu) (C8 (C8 B0.out v.out) K.out) (k _) (oh F))
      |exact zmk Tryz.results150 rfl rfl (Row.pt7 (Row.next (Row.next P.out v.out) J.out) _ _ _ _ _ _ _) (zmj (lo:=A.heap.size) (zob (IsQ.stb.to Y.out fun s x=>⟨⟨x.1.1,l x.1.2 J.out.size⟩,fun ac=>J.out.cell (p:=⟨s,ac,none⟩) x.1.2⟩) (aj.out) (IsV.stb.to ak.out (Y9 a3)) zmu) (C8 (C8 B0.out v.out) J.out) (k _) (oh F)))
  |(have al:c (Row E ah.heap.size 30 _):=aB
    try unfold put3 at ar
    try rw[ar]
    obtain⟨Y,v⟩:=C7 ay R
    have N:c (A.heap.size<=ah.heap.size):=aC
    obtain⟨a8,au⟩:=nm ((A8 q.num.natAbs).length)
    obtain⟨a9,av⟩:=nm ((A8 q.den).length)
    rw[<-au,<-av] at al Y
    have aN:=A9 R ae.out.1
    have aO:=A9 R ae.out.2.1
    have aP:=A9 R ae.out.2.2
    obtain⟨r0,az,aA⟩:=C0 al.out
    go_wp2_with fail
    have X:=znz aN aO aP r0 az aA
    have aK:c (∀r:World,e E.heap.size E r->∀a s G d u H I,(pt7 r w.heap.size a s G d u H I).cell? ⟨bs,0,none⟩=some (.pointer (some ⟨g,0,none⟩))/\(pt7 r w.heap.size a s G d u H I).cell? ⟨mk,0,none⟩=some (.int .i64 (n:Int))/\(pt7 r w.heap.size a s G d u H I).cell? ⟨mk,1,none⟩=some (.int .i64 (m:Int))/\(pt7 r w.heap.size a s G d u H I).cell? ⟨ah.heap.size,0,none⟩=some (.bool bE)/\(pt7 r w.heap.size a s G d u H I).cell? ⟨ah.heap.size,1,none⟩=some (.slice bj a8 bA)/\(pt7 r w.heap.size a s G d u H I).cell? ⟨ah.heap.size,2,none⟩=some (.slice bi a9 bD)):=fun r y a s G d u H I=>(fun h=>⟨zki h.1 (zmc O F N) _ _ _ _ _ _ _,zki h.2.1 (zmc O F N) _ _ _ _ _ _ _,zki h.2.2.1 (zmc O F N) _ _ _ _ _ _ _,zki h.2.2.2.1 (zmc O F N) _ _ _ _ _ _ _,zki h.2.2.2.2.1 (zmc O F N) _ _ _ _ _ _ _,zki h.2.2.2.2.2 (zmc O F N) _ _ _ _ _ _ _⟩) (X.out r y)
    have aI:c (∀r:World,e E.heap.size E r->Calls j 151 #[.pointer (some ⟨g,0,none⟩),.int .i64 (n:Int)] r (fun u w'=>(∃C,u= .returned C/\IsV w' (I7 A.heap.size w') C (C4 bB))/\e r.heap.size r w')):=fun r y=>by
     have B:=zzh (((aH.out.next B0.out).next v.out).next y) aE.out (Bru.next (Bru.next aD.out v.out) y) W.out.1 W.out.2 aG.out ai.out
     rw[<-bg.out] at B
     refine B.mono ?_
     rintro u w' ⟨⟨C,rfl,aM,T,ab⟩,x⟩
     have U:=i v.out.size y.size
     refine⟨⟨C,rfl,OwnS.isS IsR.stb T (fun s Q=>⟨i U (ab s Q),by obtain⟨_,_,_,_,aa⟩:=T;exact(aa s Q).1⟩) (fun s B Z=>⟨i U B,Z⟩)⟩,x⟩
    have aJ:c (∀r:World,e E.heap.size E r->Calls j 152 #[.pointer (some ⟨g,0,none⟩),.int .i64 (n:Int),.int .i64 (m:Int)] r (fun u w'=>(∃C,u= .returned C/\IsV w' (I7 A.heap.size w') C (C4 bC))/\e r.heap.size r w')):=fun r y=>by
     have B:=ydl (((aH.out.next B0.out).next v.out).next y) aE.out (Bru.next (Bru.next aD.out v.out) y) W.out.1 W.out.2 aG.out ai.out
     rw[<-bh.out] at B
     refine B.mono ?_
     rintro u w' ⟨⟨C,rfl,aM,T,ab⟩,x⟩
     have U:=i v.out.size y.size
     refine⟨⟨C,rfl,OwnS.isS IsR.stb T (fun s Q=>⟨i U (ab s Q),by obtain⟨_,_,_,_,aa⟩:=T;exact(aa s Q).1⟩) (fun s B Z=>⟨i U B,Z⟩)⟩,x⟩
    clear aB ay R aC an bp r0 az aA au av
    go_region_held3 (SH.mk _ X).s
     (first|((with_reducible show World.cell? (World.setCell _ _ _) _=_/\_);exact aK.out _ bel _ _ _ _ _ _ _)|exact X.out _ bel)
     (first
       |(go_at_call 151;(with_reducible refine Calls.mono (aI.out _ bel) ?_);rintro u a6 ⟨⟨b8,rfl,ao⟩,a3⟩;have J:=bW E a6;have aj:=b ao;obtain⟨bF,bO,rfl,_⟩:=J6 ao;obtain⟨d0,aQ,aR,aS,aT,aU,aV⟩:=U8 (Row.next (Row.next P.out v.out) J.out);obtain⟨aW,aX,aY,aZ,a0,a1,a2⟩:=zlr (Row.next (Row.next P.out v.out) J.out))
       |(go_at_call 152;(with_reducible refine Calls.mono (aJ.out _ bel) ?_);rintro u a7 ⟨⟨b9,rfl,aq⟩,a4⟩;have K:=bW E a7;have ak:=b aq;obtain⟨bG,bP,rfl,_⟩:=J6 aq;obtain⟨d0,aQ,aR,aS,aT,aU,aV⟩:=U8 (Row.next (Row.next P.out v.out) K.out);obtain⟨aW,aX,aY,aZ,a0,a1,a2⟩:=zlr (Row.next (Row.next P.out v.out) K.out)))
    all_goals
     go_wp2_with fail
     first
      |exact zmk Tryz.results150 rfl rfl (Row.pt7 (Row.next (Row.next P.out v.out) K.out) _ _ _ _ _ _ _) (zmj (lo:=A.heap.size) (zob (IsQ.stb.to Y.out fun s x=>⟨⟨x.1.1,l x.1.2 K.out.size⟩,fun ac=>K.out.cell (p:=⟨s,ac,none⟩) x.1.2⟩) (IsV.stb.to aj.out (Y9 a4)) (ak.out) zmu) (C8 (C8 B0.out v.out) K.out) (k _) (oh F))
      |exact zmk Tryz.results150 rfl rfl (Row.pt7 (Row.next (Row.next P.out v.out) J.out) _ _ _ _ _ _ _) (zmj (lo:=A.heap.size) (zob (IsQ.stb.to Y.out fun s x=>⟨⟨x.1.1,l x.1.2 J.out.size⟩,fun ac=>J.out.cell (p:=⟨s,ac,none⟩) x.1.2⟩) (aj.out) (IsV.stb.to ak.out (Y9 a3)) zmu) (C8 (C8 B0.out v.out) J.out) (k _) (oh F)))
theorem yzz {w:World} {st:Int} {row:Nat} (bD:row<m) (h:T3 w S lo0 lo g L m n sc top t st p steps) (hI:TInv M m n t) (cR:Bru w) (dY:m<=100) (dZ:n<=100) (hF:(A8 (M3 M (m+1))).length<=100000) (cT:ScOk sc top):
 Calls j 154 #[.pointer (some ⟨g,0,none⟩),.int .i64 (row:Int),.int .i64 (n:Int),.int .i64 (m:Int)] w fun u w'=>(∃aU,u= .returned aU/\zrc w w' aU (K1 m n (fun aU=>if t.bas.getD row 0=n+aU then 1 else 0) (fun ah=>t.oth.getD ah 0) (fun ah=>J4 (t.A row ah) (sc (t.oth.getD ah 0)) t.d (sc (t.bas.getD row 0))) n))/\e w.heap.size w w':=by
 obtain⟨C,cH,aL,bq,K⟩:=hd5 h cR cT (hI.sz hF og) hI;obtain⟨dO,ee,dQ,eh,D,bt,dR,dT,⟨-,-,hD,cU⟩,⟨bv,b3,al,bw,bx⟩,-,⟨aB,an,a5⟩,-⟩:=h.open;obtain⟨bQ,bT⟩:=C7 (IsK.stb.to hD (G4 (T:=C5 w) h.sn_lt)) (IsK.stb.to cU (G4 (T:=C5 w) h.sn_lt));obtain⟨r,aO⟩:=nm (t.bas.getD row 0);rw[<-aO];have dN:=b aO;have cw:r∈t.bas++t.oth:=(by rw[aO];exact List.mem_append.2 (.inl (zkh (by rw[hI.bl];exact bD))));have cP:=b cw;have ei:r<m+n:=hI.lt _ cw;have cF:c (∀k,k<n->r≠t.oth.getD k 0):=fun k aR u=>(List.nodup_append.1 hI.dist).2.2 _ (zkh (by rw[hI.bl];exact bD)) _ (zkh (by rw[hI.ol];exact aR)) (aO.symm.trans u);obtain⟨c5,cS⟩:=h.basW og;have a1:=cS.el row bD;rw[<-aO] at a1;have a1:w.cell? ⟨L.bb,row,none⟩=some (.int .i64 ((r:Nat):Int)):=a1;obtain⟨key,cj⟩:=nm (fun ah=>t.oth.getD ah 0);obtain⟨X,b9⟩:=nm (fun ah=>J4 (t.A row ah) (sc (t.oth.getD ah 0)) t.d (sc (r)));obtain⟨N,ca⟩:∃N:Nat->Rat,N=fun aU=>if r=n+aU then 1 else 0:=⟨_,rfl⟩;rw[<-cj,<-b9,<-ca];obtain⟨ak,cL,br⟩:=F0 cj b9 ca;have aR:=h.caps;have dy:m<=L.bc/\L.bc<=9223372036854775807/\n<=L.oc/\L.oc<=9223372036854775807/\m+n<=L.sp/\L.sp<=9223372036854775807:=(by unfold maxLen at aR;omega);obtain⟨ek,em,q3,en,eo,ep⟩:=dy;have aP:∀aT,aT<m+2->M4 m n aT<=L.cp aT/\L.cp aT<=9223372036854775807:=fun aT dA=>(by have:=h.cap aT dA;unfold maxLen at this;exact this);have er:m<=L.cp m:=(by have:=(aP m og).1;rwa[Y2] at this);have et:L.cp m<=9223372036854775807:=(aP m og).2;have eu:n<=L.cp (m+1):=(by have:=(aP (m+1) og).1;rwa[zke] at this);have ev:L.cp (m+1)<=9223372036854775807:=(aP (m+1) og).2;obtain⟨dG,cg⟩:=nm (L.oa);rw[<-cg] at b3;have cI:=b cg;obtain⟨ej,ck⟩:=nm ((A8 t.d).length);obtain⟨lt,O⟩:=nm ((A8 top).length);have bp:=b ck;rw[<-ck] at bQ aB;rw[<-O] at bT a5;have V:=b (f bw (f bx (f aB (f an a5))));have cO:=b3;have bP:c (g<w.heap.size):=h.g_lt;rw[c5] at bv;obtain⟨au,cG,cJ⟩:=F0 (f bv (f a1 bv)) al bD;have dW:(0:Int)<=((r:Nat):Int):=og;have dX:((r:Nat):Int)<(m:Int)+(n:Int):=og;have ec:(0:Int)<=(row:Int):=og;have ed:(row:Int)<(m:Int):=og;have bn:=b aP;clear h cR cT hI hD cU cj b9 ca aO cw c5 cS a1 al aR aP cg ck O hF bw bx aB an a5 bv b3;have dS:=N9;go_in;go_wp2_with fail;refine(yak w (n:=m) og).mono ?_;rintro u aJ ⟨⟨ew,rfl,bY,bC,hs1⟩,cb⟩;obtain⟨db,cQ,rfl⟩:=bC.slice;have bu:(C4 (List.replicate m (0:Rat))).length=m:=(by rw[zqx,List.length_replicate]);rw[bu] at bC⊢;obtain⟨bU,cN,ao⟩:=F0 bC hs1 cb;have cu:=A9 cb cO;clear bC hs1 cb bu cO;have c2:=A9 ao.out au.out.1;have c3:=A9 ao.out au.out.2.1;have c4:=A9 ao.out au.out.2.2;have dd:=b cu;by_cases cY:n<=r
 ·have dt:decide (((r:Nat):Int)>=(n:Int))=true:=decide_eq_true og;obtain⟨bZ,rfl,cV,cW,dU,dV,bA,c8,c9,da,u0,u1,u2⟩:=zsq bU.out (List.length_replicate ..) (j:=(r-n)) og;have R:=bA ((r-n)*3);have T:=bA ((r-n)*3+1);have U:=bA ((r-n)*3+2);obtain⟨cK,cM⟩:=C7 (f cV cW) cY;obtain⟨aI,cf⟩:=nm (r-n);rw[<-cf] at u0 u1 u2 R T U;have c1:IntKind.i64.wrap (((r:Nat):Int)-(n:Int))=(aI:Int):=(by rw[IntKind.wrap_i64];omega);have cZ:(0:Int)<=(aI:Int):=og;have c0:(aI:Int)<(m:Int):=og;have bK:=b (f cf (show aI<m by omega));clear cf;obtain⟨aK,bG⟩:=C7 (f u0 (f u1 u2)) (f R (f T U));clear cV cW bA cY u0 u1 u2 R T U;go_wp2_with fail;refine(znn _).mono ?_;rintro u dK ⟨⟨ey,rfl,cn⟩,cX⟩;have dk:=b (F7 (zto cn));have cE:c (e aJ.heap.size aJ dK):=cX;obtain⟨dP,eg,rfl,_,_,_⟩:=id cn;clear cn cX;go_wp2_with fail;refine(yem dk.out (by rw[zlg];decide)).mono ?_;rintro u F ⟨⟨c7,rfl,af⟩,bB⟩;have s:c (e aJ.heap.size aJ F):=C8 cE.out bB;have aM:=b af;obtain⟨cx,bX,cs,bV,cv,rfl,_,_,_⟩:=F9 af;obtain⟨dL,cq⟩:=nm ((A8 (((1:Nat):Int):Rat).num.natAbs).length);obtain⟨dM,cr⟩:=nm ((A8 (((1:Nat):Int):Rat).den).length);rw[<-cq,<-cr] at aM;rw[<-cq,<-cr];clear cq cr;have c6:(N8 F bZ aI (.bool cx) (.slice bX dL cs) (.slice bV dM cv)).cell? ⟨g,1,none⟩=some (.slice dG n L.oc):=ycg (A9 s.out dd.out) (zmb cK bP);unfold N8 at c6;have cy:=A9 s.out aK.out.1;have cz:=A9 s.out aK.out.2.1;have cA:=A9 s.out aK.out.2.2;have cB:=J5 s.out aK.out.1 bG.out.1;have cC:=J5 s.out aK.out.2.1 bG.out.2.1;have cD:=J5 s.out aK.out.2.2 bG.out.2.2;clear af bB c2 c3 c4 cu;go_wp2_with fail;have hst:=OwnS.step IsR.stb (T:=fun l=>bY l\/(aJ.heap.size<=l/\l<F.heap.size)) bU.out s.out (fun l h=> .inl h) (fun l h=>h);have aQ:=IsQ.stb.to aM.out (G4 (T:=fun l=>bY l\/(aJ.heap.size<=l/\l<F.heap.size)) fun l h=> .inr ⟨i cE.out.size h.1,h.2⟩);have ae:=zsr hst (List.length_replicate ..) bK.out.2 aQ;have aS:(List.replicate m (0:Rat)).set aI (((1:Nat):Int):Rat)=T8 m N:=(by rw[br.out];rw[bK.out.1];exact yic cM.out (zmb bK cM));rw[aS] at ae;have aZ:=b ae;have bE:c (∀x y z,e w.heap.size w (N8 F bZ aI x y z)):=fun x y z=>(C8 ao.out s.out).grown (zmr (J0 _ _)) (i ao.out.size s.out.size) (fun x u=>by cases u;exact cK.out.1)
  have bO:c (∀l,(bY l\/(aJ.heap.size<=l/\l<F.heap.size))->w.heap.size<=l):=fun l A=>by
   rcases A with A|A
   ·exact cN.out l A
   ·exact i ao.out.size A.1
  clear hst aQ ae aS cy cz cA cB cC cD c6;obtain⟨dc,b8⟩:=nm (some ⟨bZ,0,none⟩:Option Addr);rw[<-b8] at aZ;rw[<-b8];clear b8;go_loopw [41,11,12] (fun aH _ _ wr=>∃(k:Nat) (E:Nat->Prop),k<=n/\aH= .int .i64 (k:Int)/\e w.heap.size w wr/\OwnS 3 30 IsR wr w.heap.size E (.slice dc m cQ) (C4 (K1 m n N key X k))/\c (∀l,E l->w.heap.size<=l)) (fun aH _ _ _=>n-(intOf aH).toNat);case atStart=>exact⟨0,_,d _,rfl,bE.out _ _ _,by rw[zvg];exact aZ.out,bO.out⟩
  case round=>
   obtain⟨k,E,aR,rfl,be,bm,aC⟩:=hrel;obtain⟨q,Y⟩:=C7 be bm;clear be bm;rcases a k n with O|du
   ·have B:=b (C.out.next q.out);obtain⟨ct,a8⟩:=B.out.othW og;have ch:=cI.out.trans ct;subst ch;have a3:=a8.el k O;have aA:t.oth.getD k 0=key k:=(by rw[ak.out]);have dm:wr.cell? ⟨L.ob,k,none⟩=some (.int .i64 ((key k:Nat):Int)):=(by rw[<-aA];exact a3);have ad:key k∈t.bas++t.oth:=(by rw[<-aA];exact(List.mem_append.2 (.inr (zkh (by rw[K.out.ol];exact O)))));have dz:key k<m+n:=K.out.lt _ ad;obtain⟨cm,-,di,dF,a4,nS⟩:=B.out.scl _ ad;have bw:=A9 q.out V.out.1;have bx:=A9 q.out V.out.2.1;have aB:=A9 q.out V.out.2.2.1;have an:=A9 q.out V.out.2.2.2.1;have a5:=A9 q.out V.out.2.2.2.2;rw[cm] at an;have dw:(0:Int)<=(k:Int):=og;have dx:(k:Int)<(n:Int):=og;have dB:(0:Int)<=((key k:Nat):Int):=og;have dC:((key k:Nat):Int)<(m:Int)+(n:Int):=og;have W:c (k+1<=n):=O;have cd:c (∀ag,ag<k->key ag≠key k):=fun ag dv u=>(by have b1:t.oth.getD ag 0=t.oth.getD k 0:=(by rw[ak.out] at u;exact u);have:=(zqa (List.nodup_append.1 K.out.dist).2.1 (by rw[K.out.ol];omega) (by rw[K.out.ol];omega) b1);omega);have aY:=b (IsK.stb.to nS (G4 (T:=C5 wr) fun l A=>B.out.sn_lt l (.inl A)));obtain⟨dJ,bj⟩:=nm ((A8 (sc (key k))).length);rw[<-bj] at a4 aY;have bL:=b ad;have v:c (row<m):=cJ.out;have aD:=B.out.hd row v.out;have a6:=aD.2.2;rw[B.out.hv row (oh v) (by rw[K3 v.out];omega)] at a6;have al:=A9 q.out cG.out;rw[aD.1] at al;have dn:n<=L.cp row:=(by have:=(bn.out row (oh v)).1;rwa[K3 v.out] at this);have dp:L.cp row<=9223372036854775807:=(bn.out row (oh v)).2;have b4:=A9 q.out au.out.1;have b0:=A9 q.out au.out.2.1;obtain⟨-,-,df,dD,a2,nB⟩:=B.out.scl r cP.out;have aX:=b (IsK.stb.to nB (G4 (T:=C5 wr) fun l A=>B.out.sn_lt l (.inl A)));obtain⟨dI,bi⟩:=nm ((A8 (sc r)).length);rw[<-bi] at a2 aX;clear a3 a8 aA nS bj ad aD nB bi;by_cases ac:n<=key k
    ·have cc:decide (((key k:Nat):Int)>=(n:Int))=true:=decide_eq_true og;have P:=b ac;obtain⟨av,rfl,a9,bd,dr,ds,ab,c8,c9,da,u0,u1,u2⟩:=zsq Y.out (znr _ _ _ _ _ _) (j:=key k-n) og;have R:=ab ((key k-n)*3);have T:=ab ((key k-n)*3+1);have U:=ab ((key k-n)*3+2);have H:=b (f a9 bd);obtain⟨dh,dE,dj,dH,-,Z,aa,a0,az⟩:=B.out.el (l:=row) (j:=k) og (by rw[K3 v.out];exact O);rw[zrp v.out] at Z aa az;have Q:=b az;obtain⟨z,aG⟩:=nm (t.A row k);rw[<-aG] at Z aa Q;have aW:=b aG;obtain⟨dq,bf⟩:=nm (decide (z<0));obtain⟨bu,bg⟩:=nm ((A8 z.natAbs).length);obtain⟨aN,bh⟩:=nm ((A8 1).length);rw[<-bf] at Z Q;rw[<-bg] at aa Q;rw[<-bh] at a0 Q;obtain⟨J,aE⟩:=nm (key k-n);rw[<-aE] at u0 u1 u2 R T U;have bJ:=b aE;have c1:IntKind.i64.wrap (((key k:Nat):Int)-(n:Int))=(J:Int):=(by rw[IntKind.wrap_i64];omega);have cZ:(0:Int)<=(J:Int):=og;have c0:(J:Int)<(m:Int):=og;have bN:c (J<m):=oH;obtain⟨G,aq⟩:=C7 (f u0 (f u1 u2)) (f R (f T U));have bI:c (Bru wr):=(by have a7:e w.heap.size w wr:=q.out;exact Bru.next cH.out a7);clear az aG bf bg bh aE a9 bd ab ac u0 u1 u2 R T U;go_wp2_with fail;obtain⟨bH,bR,de⟩:=F0 aB (IsK.stb.to bQ.out (C9 q.out)) (IsK.stb.to bT.out (C9 q.out));have ar:=zyi al a6 Z aa a0 an a4 a2 b4 b0;have aV:c (L.sb≠av):=(by rw[c];have a7:=H.out.1;obtain⟨_,_,_,_,b5,_⟩:=C.out.scl (key k) bL.out;have b7:=o w _ b5;simp at b7;omega);have ai:g≠av:=zmb H bP;have aj:L.bk row≠av:=(by have:=H.out;have:=B.out.tab.sep row (oh v) (by rw[K3 v.out];omega);have:=C.out.tab.hlo;omega);have bM:=hpE J ar (nA ai (nA (by have:=H.out;have:=C.out.tab.sS _ (C.out.hd _ v.out).2.1;have:=C.out.tab.hlo;omega) (nA aj (nA aj (nA aj (nA ai (nA (aV.out) (nA (aV.out) (nA ai (nZ (by have:=H.out;have:=(C.out.bS og).2.1;have:=C.out.tab.hlo;omega)))))))))));clear ai aj;have bF:=b fun ay (I:e wr.heap.size wr ay)=>ztv (z:=z) (u:=sc (key k)) (d:=t.d) (dn:=sc r) (A9 I (show wr.cell? ⟨g,8,none⟩=some (.slice D (A8 t.d).length bt) by rw[<-bp.out];exact bH.out)) (show NumS ay (C5 ay) (.slice D (A8 t.d).length bt) t.d by rw[<-bp.out];exact IsK.stb.next bR.out I) (IsQ.stb.next Q.out I) (IsK.stb.next aY.out I) (IsK.stb.next aX.out I) (Bru.next bI.out I) (by rw[aW.out];exact ztx (bq.out.1 _ _ (Nat.le_of_lt v.out) og)) (aL.out.sl _) bq.out.2 (aL.out.sl _) K.out.d0 (aL.out.sp _)
     go_region_held3 (SH.mk _ ar).s
      (first|exact ar.out _ bel|exact bM.out _ bel _ _ _)
      (first
        |(go_at_call 123;(with_reducible refine Calls.mono (bF.out _ bel) ?_);rintro u F ⟨⟨c7,rfl,af⟩,bB⟩;have s:=bW wr F;have aM:=b af;obtain⟨cx,bX,cs,bV,cv,rfl,_,_,_⟩:=F9 af;have cy:=A9 s.out G.out.1;have cz:=A9 s.out G.out.2.1;have cA:=A9 s.out G.out.2.2;have cB:=J5 s.out G.out.1 aq.out.1;have cC:=J5 s.out G.out.2.1 aq.out.2.1;have cD:=J5 s.out G.out.2.2 aq.out.2.2))
     go_wp2_with fail;go_roundw
     case rel=>
      have hst:=OwnS.step IsR.stb (T:=fun l=>E l\/(wr.heap.size<=l/\l<F.heap.size)) Y.out s.out (fun l h=> .inl h) (fun l h=>h);have aQ:=IsQ.stb.to aM.out (G4 (T:=fun l=>E l\/(wr.heap.size<=l/\l<F.heap.size)) fun l h=> .inr ⟨h.1,h.2⟩);have ae:=zsr hst (znr _ _ _ _ _ _) bN.out aQ;(have cl:J4 z (sc (key k)) t.d (sc r)=X k:=by rw[cL.out];show J4 z (sc (key k)) t.d (sc r)=J4 (t.A row k) (sc (t.oth.getD k 0)) t.d (sc r);rw[aW.out,ak.out]);have aS:(K1 m n N key X k).set J (J4 z (sc (key k)) t.d (sc r))=K1 m n N key X (k+1):=(by rw[cl];have u:=zve (N:=m) (off:=n) (b0:=N) (key:=key) (X:=X) (k:=k) (oh P) (oh P) cd.out (by rw[br.out];exact if_neg (fun u=>cF.out k og (by have aN:key k=t.oth.getD k 0:=(by rw[ak.out]);have:=P.out;omega)));rw[u,<-bJ.out]);rw[aS] at ae
      exact⟨k+1,_,W.out,by go_num,(C8 q.out s.out).grown (zmr (J0 _ _)) (i q.out.size s.out.size) (fun x u=>by cases u;exact H.out.1),ae,fun l A=>by
       rcases A with A|A
       ·exact aC.out l A
       ·exact i q.out.size A.1⟩
     case measure=>simp[intOf];have:=W.out;omega
    ·have cc:decide (((key k:Nat):Int)>=(n:Int))=false:=decide_eq_false og;have P:=b ac;clear ac;go_wp2_with fail;go_roundw;(case rel=>exact⟨k+1,E,W.out,by go_num,q.out,by rw[zvf (oh P)];exact Y.out,aC.out⟩);case measure=>simp[intOf];have:=W.out;omega
   ·obtain rfl:k=n:=og;go_wp2_with fail;go_ret;exact⟨⟨_,rfl,E,Y.out,aC.out⟩,q.out⟩
 ·have dt:decide (((r:Nat):Int)>=(n:Int))=false:=decide_eq_false og;have aN:List.replicate m (0:Rat)=T8 m N:=(by rw[br.out];exact yib og);have aZ:=bU;rw[aN] at aZ;have bE:=ao;have bO:=cN;clear aN;go_wp2_with fail;clear c2 c3 c4 cu;go_loopw [41,11,12] (fun aH _ _ wr=>∃(k:Nat) (E:Nat->Prop),k<=n/\aH= .int .i64 (k:Int)/\e w.heap.size w wr/\OwnS 3 30 IsR wr w.heap.size E (.slice db m cQ) (C4 (K1 m n N key X k))/\c (∀l,E l->w.heap.size<=l)) (fun aH _ _ _=>n-(intOf aH).toNat);case atStart=>exact⟨0,_,d _,rfl,bE.out,by rw[zvg];exact aZ.out,bO.out⟩
  case round=>
   obtain⟨k,E,aR,rfl,be,bm,aC⟩:=hrel;obtain⟨q,Y⟩:=C7 be bm;clear be bm;rcases a k n with O|du
   ·have B:=b (C.out.next q.out);obtain⟨ct,a8⟩:=B.out.othW og;have ch:=cI.out.trans ct;subst ch;have a3:=a8.el k O;have aA:t.oth.getD k 0=key k:=(by rw[ak.out]);have dm:wr.cell? ⟨L.ob,k,none⟩=some (.int .i64 ((key k:Nat):Int)):=(by rw[<-aA];exact a3);have ad:key k∈t.bas++t.oth:=(by rw[<-aA];exact(List.mem_append.2 (.inr (zkh (by rw[K.out.ol];exact O)))));have dz:key k<m+n:=K.out.lt _ ad;obtain⟨cm,-,di,dF,a4,nS⟩:=B.out.scl _ ad;have bw:=A9 q.out V.out.1;have bx:=A9 q.out V.out.2.1;have aB:=A9 q.out V.out.2.2.1;have an:=A9 q.out V.out.2.2.2.1;have a5:=A9 q.out V.out.2.2.2.2;rw[cm] at an;have dw:(0:Int)<=(k:Int):=og;have dx:(k:Int)<(n:Int):=og;have dB:(0:Int)<=((key k:Nat):Int):=og;have dC:((key k:Nat):Int)<(m:Int)+(n:Int):=og;have W:c (k+1<=n):=O;have cd:c (∀ag,ag<k->key ag≠key k):=fun ag dv u=>(by have b1:t.oth.getD ag 0=t.oth.getD k 0:=(by rw[ak.out] at u;exact u);have:=(zqa (List.nodup_append.1 K.out.dist).2.1 (by rw[K.out.ol];omega) (by rw[K.out.ol];omega) b1);omega);have aY:=b (IsK.stb.to nS (G4 (T:=C5 wr) fun l A=>B.out.sn_lt l (.inl A)));obtain⟨dJ,bj⟩:=nm ((A8 (sc (key k))).length);rw[<-bj] at a4 aY;have bL:=b ad;have v:c (row<m):=cJ.out;have aD:=B.out.hd row v.out;have a6:=aD.2.2;rw[B.out.hv row (oh v) (by rw[K3 v.out];omega)] at a6;have al:=A9 q.out cG.out;rw[aD.1] at al;have dn:n<=L.cp row:=(by have:=(bn.out row (oh v)).1;rwa[K3 v.out] at this);have dp:L.cp row<=9223372036854775807:=(bn.out row (oh v)).2;have b4:=A9 q.out au.out.1;have b0:=A9 q.out au.out.2.1;obtain⟨-,-,df,dD,a2,nB⟩:=B.out.scl r cP.out;have aX:=b (IsK.stb.to nB (G4 (T:=C5 wr) fun l A=>B.out.sn_lt l (.inl A)));obtain⟨dI,bi⟩:=nm ((A8 (sc r)).length);rw[<-bi] at a2 aX;clear a3 a8 aA nS bj ad aD nB bi;by_cases ac:n<=key k
    ·have cc:decide (((key k:Nat):Int)>=(n:Int))=true:=decide_eq_true og;have P:=b ac;obtain⟨av,rfl,a9,bd,dr,ds,ab,c8,c9,da,u0,u1,u2⟩:=zsq Y.out (znr _ _ _ _ _ _) (j:=key k-n) og;have R:=ab ((key k-n)*3);have T:=ab ((key k-n)*3+1);have U:=ab ((key k-n)*3+2);have H:=b (f a9 bd);obtain⟨dh,dE,dj,dH,-,Z,aa,a0,az⟩:=B.out.el (l:=row) (j:=k) og (by rw[K3 v.out];exact O);rw[zrp v.out] at Z aa az;have Q:=b az;obtain⟨z,aG⟩:=nm (t.A row k);rw[<-aG] at Z aa Q;have aW:=b aG;obtain⟨dq,bf⟩:=nm (decide (z<0));obtain⟨bu,bg⟩:=nm ((A8 z.natAbs).length);obtain⟨aN,bh⟩:=nm ((A8 1).length);rw[<-bf] at Z Q;rw[<-bg] at aa Q;rw[<-bh] at a0 Q;obtain⟨J,aE⟩:=nm (key k-n);rw[<-aE] at u0 u1 u2 R T U;have bJ:=b aE;have c1:IntKind.i64.wrap (((key k:Nat):Int)-(n:Int))=(J:Int):=(by rw[IntKind.wrap_i64];omega);have cZ:(0:Int)<=(J:Int):=og;have c0:(J:Int)<(m:Int):=og;have bN:c (J<m):=oH;obtain⟨G,aq⟩:=C7 (f u0 (f u1 u2)) (f R (f T U));have bI:c (Bru wr):=(by have a7:e w.heap.size w wr:=q.out;exact Bru.next cH.out a7);clear az aG bf bg bh aE a9 bd ab ac u0 u1 u2 R T U;go_wp2_with fail;obtain⟨bH,bR,de⟩:=F0 aB (IsK.stb.to bQ.out (C9 q.out)) (IsK.stb.to bT.out (C9 q.out));have ar:=zyi al a6 Z aa a0 an a4 a2 b4 b0;have aV:c (L.sb≠av):=(by rw[c];have a7:=H.out.1;obtain⟨_,_,_,_,b5,_⟩:=C.out.scl (key k) bL.out;have b7:=o w _ b5;simp at b7;omega);have ai:g≠av:=zmb H bP;have aj:L.bk row≠av:=(by have:=H.out;have:=B.out.tab.sep row (oh v) (by rw[K3 v.out];omega);have:=C.out.tab.hlo;omega);have bM:=hpE J ar (nA ai (nA (by have:=H.out;have:=C.out.tab.sS _ (C.out.hd _ v.out).2.1;have:=C.out.tab.hlo;omega) (nA aj (nA aj (nA aj (nA ai (nA (aV.out) (nA (aV.out) (nA ai (nZ (by have:=H.out;have:=(C.out.bS og).2.1;have:=C.out.tab.hlo;omega)))))))))));clear ai aj;have bF:=b fun ay (I:e wr.heap.size wr ay)=>ztv (z:=z) (u:=sc (key k)) (d:=t.d) (dn:=sc r) (A9 I (show wr.cell? ⟨g,8,none⟩=some (.slice D (A8 t.d).length bt) by rw[<-bp.out];exact bH.out)) (show NumS ay (C5 ay) (.slice D (A8 t.d).length bt) t.d by rw[<-bp.out];exact IsK.stb.next bR.out I) (IsQ.stb.next Q.out I) (IsK.stb.next aY.out I) (IsK.stb.next aX.out I) (Bru.next bI.out I) (by rw[aW.out];exact ztx (bq.out.1 _ _ (Nat.le_of_lt v.out) og)) (aL.out.sl _) bq.out.2 (aL.out.sl _) K.out.d0 (aL.out.sp _)
     go_region_held3 (SH.mk _ ar).s
      (first|exact ar.out _ bel|exact bM.out _ bel _ _ _)
      (first
        |(go_at_call 123;(with_reducible refine Calls.mono (bF.out _ bel) ?_);rintro u F ⟨⟨c7,rfl,af⟩,bB⟩;have s:=bW wr F;have aM:=b af;obtain⟨cx,bX,cs,bV,cv,rfl,_,_,_⟩:=F9 af;have cy:=A9 s.out G.out.1;have cz:=A9 s.out G.out.2.1;have cA:=A9 s.out G.out.2.2;have cB:=J5 s.out G.out.1 aq.out.1;have cC:=J5 s.out G.out.2.1 aq.out.2.1;have cD:=J5 s.out G.out.2.2 aq.out.2.2))
     go_wp2_with fail;go_roundw
     case rel=>
      have hst:=OwnS.step IsR.stb (T:=fun l=>E l\/(wr.heap.size<=l/\l<F.heap.size)) Y.out s.out (fun l h=> .inl h) (fun l h=>h);have aQ:=IsQ.stb.to aM.out (G4 (T:=fun l=>E l\/(wr.heap.size<=l/\l<F.heap.size)) fun l h=> .inr ⟨h.1,h.2⟩);have ae:=zsr hst (znr _ _ _ _ _ _) bN.out aQ;(have cl:J4 z (sc (key k)) t.d (sc r)=X k:=by rw[cL.out];show J4 z (sc (key k)) t.d (sc r)=J4 (t.A row k) (sc (t.oth.getD k 0)) t.d (sc r);rw[aW.out,ak.out]);have aS:(K1 m n N key X k).set J (J4 z (sc (key k)) t.d (sc r))=K1 m n N key X (k+1):=(by rw[cl];have u:=zve (N:=m) (off:=n) (b0:=N) (key:=key) (X:=X) (k:=k) (oh P) (oh P) cd.out (by rw[br.out];exact if_neg (fun u=>cF.out k og (by have aN:key k=t.oth.getD k 0:=(by rw[ak.out]);have:=P.out;omega)));rw[u,<-bJ.out]);rw[aS] at ae
      exact⟨k+1,_,W.out,by go_num,(C8 q.out s.out).grown (zmr (J0 _ _)) (i q.out.size s.out.size) (fun x u=>by cases u;exact H.out.1),ae,fun l A=>by
       rcases A with A|A
       ·exact aC.out l A
       ·exact i q.out.size A.1⟩
     case measure=>simp[intOf];have:=W.out;omega
    ·have cc:decide (((key k:Nat):Int)>=(n:Int))=false:=decide_eq_false og;have P:=b ac;clear ac;go_wp2_with fail;go_roundw;(case rel=>exact⟨k+1,E,W.out,by go_num,q.out,by rw[zvf (oh P)];exact Y.out,aC.out⟩);case measure=>simp[intOf];have:=W.out;omega
   ·obtain rfl:k=n:=og;go_wp2_with fail;go_ret;exact⟨⟨_,rfl,E,Y.out,aC.out⟩,q.out⟩
end Go.Proofs.YtlhhbccgfkhflaaGreatDoor
