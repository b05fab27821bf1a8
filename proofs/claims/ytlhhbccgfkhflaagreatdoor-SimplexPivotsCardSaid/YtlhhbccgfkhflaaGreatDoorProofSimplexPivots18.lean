/-
 The contract of package simplex's prices.
-/
import Derived.Test.YtlhhbccgfkhflaaGreatDoorProofSimplexPivots17
namespace Go.Proofs.YtlhhbccgfkhflaaGreatDoor
open Go.RowKit
set_option linter.unusedVariables false
set_option maxRecDepth 100000
set_option maxHeartbeats 8000000
open _root_.Go.Lib renaming hid → b
open _root_.Nat renaming le_refl → o, le_trans → f, lt_of_lt_of_le → p, lt_or_ge → a, zero_le → d
open _root_.And renaming intro → j
open _root_.Go.World renaming block_lt_of_cell? → r
open _root_.Go renaming World → i, Calls → k
open _root_.Go.RowKit renaming Below → e, Hid → c
open _root_.Go.Proofs.Tryz renaming prog → l
variable {L : Lay} {M g lo0 m n top : Nat} {S : Nat → Prop} {s steps : Int} {sc : Nat → Nat} {t : TB}
theorem ydg {w:i} {lo:Nat} {st:Int} (h:U8 w S lo0 lo g L m n sc top t st s steps) (hI:TInv M m n t) (a8:Bru w) (cJ:m<=100) (cK:n<=100) (hF:(A9 (N9 M (m+1))).length<=100000) (bd:ScOk sc top):
 k l 152 #[.pointer (some ⟨g,0,none⟩),.int .i64 (n:Int),.int .i64 (m:Int)] w fun v w'=>(∃bv,v= .returned bv/\OwnV w w' bv (R3 m n (fun _=>0) (fun B=>t.oth.getD B 0) (fun B=>M3 (t.A m B) (sc (t.oth.getD B 0)) t.d top) n))/\e w.heap.size w w':=by
 obtain⟨au,bC,ar,az,I⟩:=hd5 h a8 bd (hI.sz hF og) hI;obtain⟨cn,cO,ct,cT,D,a4,cu,cx,⟨-,-,hD,be⟩,⟨b1,aI,-,aJ,T⟩,-,⟨U,V,R⟩,-⟩:=h.open;obtain⟨a0,a2⟩:=C5 (IsK.stb.to hD (F7 (T:=C3 w) h.sn_lt)) (IsK.stb.to be (F7 (T:=C3 w) h.sn_lt));obtain⟨key,aR⟩:=nm (fun B=>t.oth.getD B 0);obtain⟨X,aL⟩:=nm (fun B=>M3 (t.A m B) (sc (t.oth.getD B 0)) t.d top);obtain⟨K,aM⟩:∃K:Nat->Rat,K=fun _=>0:=⟨_,rfl⟩;rw[<-aR,<-aL,<-aM];obtain⟨aq,bK,aY⟩:=G0 aR aL aM;have aP:=h.caps;have cb:m<=L.bc/\L.bc<=9223372036854775807/\n<=L.oc/\L.oc<=9223372036854775807/\m+n<=L.sp/\L.sp<=9223372036854775807:=(by unfold maxLen at aP;omega);obtain⟨cY,cZ,q3,c0,c1,c2⟩:=cb;have W:∀O,O<m+2->F9 m n O<=L.cp O/\L.cp O<=9223372036854775807:=fun O cc=>(by have:=h.cap O cc;unfold maxLen at this;exact this);have r1:m<=L.cp m:=(by have:=(W m og).1;rwa[M9] at this);have r2:L.cp m<=9223372036854775807:=(W m og).2;have r3:n<=L.cp (m+1):=(by have:=(W (m+1) og).1;rwa[U6] at this);have r4:L.cp (m+1)<=9223372036854775807:=(W (m+1) og).2;obtain⟨cS,aQ⟩:=nm (L.oa);rw[<-aQ] at aI;have bF:=b aQ;obtain⟨cW,aS⟩:=nm ((A9 t.d).length);obtain⟨lt,F⟩:=nm ((A9 top).length);have aX:=b aS;rw[<-aS] at a0 U;rw[<-F] at a2 R;have P:=b (j aJ (j T (j U (j V R))));have aZ:=aI;have bN:c (g<w.heap.size):=h.g_lt;clear h a8 bd hI hD be aR aL aM aP W aQ aS F hF aJ T U V R b1 aI;have cw:=T3;go_in;go_wp2_with fail;refine(yoi w (n:=m) og).mono ?_;rintro v da ⟨⟨c7,rfl,bU,aj,zoh⟩,aN⟩;obtain⟨bw,bX,rfl⟩:=aj.slice;have af:(C2 (List.replicate m (0:Rat))).length=m:=(by rw[zrz,List.length_replicate]);rw[af] at aj⊢;obtain⟨bQ,bM,bx⟩:=G0 aj zoh aN;have ck:=C0 aN aZ;clear aj zoh aN af aZ;go_wp2_with fail;clear ck;go_loopw [19,8,9] (fun aU _ _ wr=>∃(p:Nat) (C:Nat->Prop),p<=n/\aU= .int .i64 (p:Int)/\e w.heap.size w wr/\OwnS 3 30 IsR wr w.heap.size C (.slice bw m bX) (C2 (R3 m n K key X p))/\c (∀q,C q->w.heap.size<=q)) (fun aU _ _ _=>n-(intOf aU).toNat);case atStart=>exact⟨0,bU,d _,rfl,bx.out,by rw[ymc,aY.out,ynw];exact bQ.out,bM.out⟩
 case round=>
  obtain⟨p,C,aP,rfl,bh,bp,aK⟩:=hrel;obtain⟨u,ab⟩:=C5 bh bp;clear bh bp;rcases a p n with F|cC
  ·have J:=b (au.out.next u.out);obtain⟨ch,a9⟩:=J.out.othW og;have ca:=bF.out.trans ch;subst ca;have a5:=a9.el p F;have aD:t.oth.getD p 0=key p:=(by rw[aq.out]);have cv:wr.cell? ⟨L.ob,p,none⟩=some (.int .i64 ((key p:Nat):Int)):=(by rw[<-aD];exact a5);have ai:key p∈t.bas++t.oth:=(by rw[<-aD];exact(List.mem_append.2 (.inr (zlw (by rw[I.out.ol];exact F)))));have cI:key p<m+n:=I.out.lt _ ai;obtain⟨cf,-,cs,cR,a6,nS⟩:=J.out.scl _ ai;have aJ:=C0 u.out P.out.1;have T:=C0 u.out P.out.2.1;have U:=C0 u.out P.out.2.2.1;have V:=C0 u.out P.out.2.2.2.1;have R:=C0 u.out P.out.2.2.2.2;rw[cf] at V;rw[J.out.hv (m+1) og (by rw[U6];omega)] at T;have cG:(0:Int)<=(p:Int):=og;have cH:(p:Int)<(n:Int):=og;have cM:(0:Int)<=((key p:Nat):Int):=og;have cN:((key p:Nat):Int)<(m:Int)+(n:Int):=og;have Y:c (p+1<=n):=F;have b8:c (∀ak,ak<p->key ak≠key p):=fun ak cD v=>(by have bY:t.oth.getD ak 0=t.oth.getD p 0:=(by rw[aq.out] at v;exact v);have:=(zqj (List.nodup_append.1 I.out.dist).2.1 (by rw[I.out.ol];omega) (by rw[I.out.ol];omega) bY);omega);have a1:=b (IsK.stb.to nS (F7 (T:=C3 wr) fun q E=>J.out.sn_lt q (.inl E)));obtain⟨cX,bn⟩:=nm ((A9 (sc (key p))).length);rw[<-bn] at a6 a1;have bG:=b ai;clear a5 a9 aD nS bn ai;by_cases ah:n<=key p
   ·have b7:decide (((key p:Nat):Int)>=(n:Int))=true:=decide_eq_true og;have aa:=b ah;obtain⟨aB,rfl,bf,bg,cy,cz,ag,de,df,dh,u0,u1,u2⟩:=yki ab.out (ztl _ _ _ _ _ _) (j:=key p-n) og;have aE:=ag ((key p-n)*3);have aG:=ag ((key p-n)*3+1);have aH:=ag ((key p-n)*3+2);have Z:=b (j bf bg);obtain⟨bR,cj,bT,cl,-,ad,ae,a3,aC⟩:=J.out.el (l:=(m+1)) (j:=p) og (by rw[U6];exact F);rw[ycd] at ad ae aC;have Q:=b aC;obtain⟨z,aT⟩:=nm (-(t.A m p));rw[<-aT] at ad ae Q;have aA:=b aT;obtain⟨bZ,bi⟩:=nm (decide (z<0));obtain⟨af,bj⟩:=nm ((A9 z.natAbs).length);obtain⟨b0,bm⟩:=nm ((A9 1).length);rw[<-bi] at ad Q;rw[<-bj] at ae Q;rw[<-bm] at a3 Q;obtain⟨N,aO⟩:=nm (key p-n);rw[<-aO] at u0 u1 u2 aE aG aH;have bE:=b aO;have cL:IntKind.i64.wrap (((key p:Nat):Int)-(n:Int))=(N:Int):=(by rw[IntKind.wrap_i64];omega);have cE:(0:Int)<=(N:Int):=og;have cF:(N:Int)<(m:Int):=og;have bL:c (N<m):=oH;obtain⟨H,ao⟩:=C5 (j u0 (j u1 u2)) (j aE (j aG aH));have bD:c (Bru wr):=(by have a7:e w.heap.size w wr:=u.out;exact Bru.next bC.out a7);clear aC aT bi bj bm aO bf bg ag ah u0 u1 u2 aE aG aH;go_wp2_with fail;obtain⟨bB,bO,bP⟩:=G0 U (IsK.stb.to a0.out (E7 u.out)) (IsK.stb.to a2.out (E7 u.out));have av:=hs7 T ad ae a3 V a6 R;have bJ:c (L.sb≠aB):=(by rw[c];have a7:=Z.out.1;obtain⟨_,_,_,_,b3,_⟩:=au.out.scl (key p) bG.out;have b4:=r w _ b3;simp at b4;omega);have al:g≠aB:=znu Z bN;have an:L.bk (m+1)≠aB:=(by have:=Z.out;have:=J.out.tab.sep (m+1) og (by rw[U6];omega);have:=au.out.tab.hlo;omega);have bH:=hpE N av (nA al (nA an (nA an (nA an (nA al (nA (bJ.out) (nZ al)))))));clear al an;obtain⟨y,bu⟩:=nm (-z);have ay:=b bu;clear bu;have bA:c (∀ac:i,e wr.heap.size wr ac->k l 119 #[.agg #[.bool bZ,.slice bR af cj,.slice bT b0 cl]] ac (N8 ac ((y:Int):Rat))):=fun ac b5=>zul (IsQ.stb.next Q.out b5) (by rw[aA.out,Rat.intCast_neg];exact(az.out.1 m p (o _) og).neg) (by rw[ay.out,Rat.intCast_neg])
    go_region_held3 (SH.mk _ av).s
     (first|exact av.out _ bel|exact bH.out _ bel _ _ _)
     (first
       |(go_at_call 119;(with_reducible refine Calls.mono (bA.out _ bel) ?_);rintro v aV ⟨⟨c8,rfl,br⟩,cA⟩;have G:=bW wr aV;have bV:=b (IsQ.stb.old br);obtain⟨cq,cP,Q3,cU,rfl⟩:=zlx br)
       |(go_at_call 123;(with_reducible refine Calls.mono (yco (z:=y) (u:=sc (key p)) (d:=t.d) (dn:=top) (C0 G.out (show wr.cell? ⟨g,8,none⟩=some (.slice D (A9 t.d).length a4) by rw[<-aX.out];exact bB.out)) (show NumS aV (C3 aV) (.slice D (A9 t.d).length a4) t.d by rw[<-aX.out];exact IsK.stb.next bO.out G.out) bV.out (IsK.stb.next a1.out G.out) (IsK.stb.next bP.out G.out) (Bru.next bD.out G.out) (by rw[ay.out,aA.out,Int.natAbs_neg,Int.natAbs_neg];exact ycp (az.out.1 m p (o _) og)) (ar.out.sl _) az.out.2 ar.out.tl I.out.d0 ar.out.tp) ?_);rintro v aW ⟨⟨c9,rfl,bt⟩,cB⟩;have A:=bW wr aW;have bI:=b bt;obtain⟨c3,cr,cQ,cm,cV,rfl,_,_,_⟩:=G7 bt;have c4:=C0 A.out H.out.1;have c5:=C0 A.out H.out.2.1;have c6:=C0 A.out H.out.2.2;have db:=I8 A.out H.out.1 ao.out.1;have dc:=I8 A.out H.out.2.1 ao.out.2.1;have dd:=I8 A.out H.out.2.2 ao.out.2.2))
    go_wp2_with fail;go_roundw
    case rel=>
     have hst:=OwnS.step IsR.stb (T:=fun q=>C q\/(wr.heap.size<=q/\q<aW.heap.size)) ab.out A.out (fun q h=> .inl h) (fun q h=>h);have b9:=IsQ.stb.to bI.out (F7 (T:=fun q=>C q\/(wr.heap.size<=q/\q<aW.heap.size)) fun q h=> .inr ⟨f G.out.size h.1,h.2⟩);have bq:=ykj hst (ztl _ _ _ _ _ _) bL.out b9;(have cd:M3 y (sc (key p)) t.d top=X p:=by rw[bK.out];show M3 y (sc (key p)) t.d top=M3 (t.A m p) (sc (t.oth.getD p 0)) t.d top;rw[ay.out,aA.out,aq.out,Int.neg_neg]);have cg:(R3 m n K key X p).set N (M3 y (sc (key p)) t.d top)=R3 m n K key X (p+1):=(by rw[cd];have v:=yma (N:=m) (off:=n) (b0:=K) (key:=key) (X:=X) (k:=p) (oh aa) (oh aa) b8.out (by rw[aY.out]);rw[v,<-bE.out]);rw[cg] at bq
     exact⟨p+1,_,Y.out,by go_num,(C6 u.out A.out).grown (zmk (I7 _ _)) (f u.out.size A.out.size) (fun x v=>by cases v;exact Z.out.1),bq,fun q E=>by
      rcases E with E|E
      ·exact aK.out q E
      ·exact f u.out.size E.1⟩
    case measure=>simp[intOf];have:=Y.out;omega
   ·have b7:decide (((key p:Nat):Int)>=(n:Int))=false:=decide_eq_false og;have aa:=b ah;clear ah;go_wp2_with fail;go_roundw;(case rel=>exact⟨p+1,C,Y.out,by go_num,u.out,by rw[ymb (oh aa)];exact ab.out,aK.out⟩);case measure=>simp[intOf];have:=Y.out;omega
  ·obtain rfl:p=n:=og;go_wp2_with fail;go_ret;exact⟨⟨_,rfl,C,ab.out,aK.out⟩,u.out⟩
theorem ywu {w:i} {lo bs mk:Nat} {st:Int} (h:U8 w S lo0 lo g L m n sc top t st s steps) (hI:TInv M m n t) (bR:Bru w) (bY:m<=100) (bZ:n<=100) (hF:(A9 (N9 M (m+1))).length<=100000) (bT:ScOk sc top) (bu:w.cell? ⟨bs,0,none⟩=some (.pointer (some ⟨g,0,none⟩))) (bv:w.cell? ⟨mk,0,none⟩=some (.int .i64 (n:Int))) (bw:w.cell? ⟨mk,1,none⟩=some (.int .i64 (m:Int))):
 k l 150 #[.pointer (some ⟨bs,0,none⟩),.pointer (some ⟨mk,0,none⟩)] w (zve w ⟨1,C7 (M3 (t.A m n) 1 t.d top),C2 (R3 n 0 (fun _=>0) (fun ah=>t.bas.getD ah 0) (fun ah=>M3 (t.A ah n) 1 t.d (sc (t.bas.getD ah 0))) m),C2 (R3 m n (fun _=>0) (fun ai=>t.oth.getD ai 0) (fun ai=>M3 (t.A m ai) (sc (t.oth.getD ai 0)) t.d top) n),[]⟩):=by
 obtain⟨aH,cb,ak,aE,aG,Y⟩:=hd6 h bR bT hI hF (j bY bZ);have Q:c (bs<w.heap.size/\mk<w.heap.size/\mk<w.heap.size):=⟨r w _ bu,r w _ bv,r w _ bw⟩;obtain⟨bA,bp⟩:=nm (R3 n 0 (fun _=>0) (fun ah=>t.bas.getD ah 0) (fun ah=>M3 (t.A ah n) 1 t.d (sc (t.bas.getD ah 0))) m);rw[<-bp];have bf:=b bp;obtain⟨bB,bq⟩:=nm (R3 m n (fun _=>0) (fun ai=>t.oth.getD ai 0) (fun ai=>M3 (t.A m ai) (sc (t.oth.getD ai 0)) t.d top) n);rw[<-bq];have bg:=b bq;obtain⟨q,br⟩:=nm (M3 (t.A m n) 1 t.d top);rw[<-br];obtain⟨cc,bI⟩:=C5 br (hI.sz hF og);obtain⟨cf,cE,ch,cF,D,cK,cj,cr,⟨-,bV,hD,bU⟩,-,⟨bd,g6,bm⟩,⟨bQ,-,bj⟩,-⟩:=h.open;obtain⟨aL,cd,bL⟩:=G0 (IsQ.stb.to bV (F7 (T:=C3 w) h.sn_lt)) (IsK.stb.to hD (F7 (T:=C3 w) h.sn_lt)) (IsK.stb.to bU (F7 (T:=C3 w) h.sn_lt));obtain⟨z,bt⟩:=nm (t.A m n);have bJ:=b bt;rw[<-bt] at bd g6 aL;obtain⟨cG,b1⟩:=nm (decide (z<0));obtain⟨cH,b3⟩:=nm ((A9 z.natAbs).length);obtain⟨cI,b4⟩:=nm ((A9 1).length);obtain⟨lt,bX⟩:=nm ((A9 top).length);rw[<-b1] at bd aL;rw[<-b3] at g6 aL;rw[<-b4] at bm aL;rw[<-bX] at bj bL;clear h hI bR bY bZ hF bT bp bq br bV hD bU bt b1 b3 b4 bX;have cL:=T3;obtain⟨C,cC,X,b5,bK⟩:=J5 w #[.int .i64 0,.bool false,.slice none 0 0,.slice none 0 0,.slice none 0 0,.slice none 0 0,.slice none 0 0] 69;obtain⟨B0,R⟩:=C5 X b5;have H:=b bK.out;have bM:=C0 X bu;have cn:=C0 X bv;have cq:=C0 X bw;have ct:=C0 X bd;have cu:=C0 X g6;have cv:=C0 X bm;have bP:=C0 X bQ;have cs:=C0 X bj;obtain⟨ca,ag⟩:=C5 bP (j bM (j cn cq));have cm:=nQ aL X;obtain⟨b9,ck⟩:=C5 (IsK.stb.next cd.out X) (IsK.stb.next bL.out X);have aD:=nU cb X;clear X b5 bK bu bv bw bd g6 bm bQ bj bP;go_in;go_wp2_with fail;clear cC;have be:=hs5 bM ct cu cv cs;have bG:=b fun u (B:e C.heap.size C u)=>znv u
 go_region_held3 (SH.mk _ be).s
  (exact be.out _ bel)
  (first
    |(go_at_call 130;(with_reducible refine Calls.mono (bG.out _ bel) ?_);rintro x af ⟨⟨cN,rfl,b0⟩,cM⟩;have cl:=b (zud b0);obtain⟨cg,cD,rfl,_,_,_⟩:=id b0;have bH:c (∀u:i,e af.heap.size af u->k l 123 #[.pointer (some ⟨g,0,none⟩),.agg #[.bool cG,.slice cf cH cE,.slice ch cI cF],.slice cg (A9 1).length cD,.slice cj lt cr] u (N8 u q)):=fun u B=>by rw[cc.out,<-bJ.out];exact yco (C0 (show e C.heap.size C u from bel) ca.out) (IsK.stb.next b9.out bel) (IsQ.stb.next cm.out bel) (IsK.stb.next cl.out B) (IsK.stb.next ck.out bel) (Bru.next aD.out bel) (by rw[bJ.out];exact ycp (bI.out.1 _ _ (o _) (o _))) (by rw[zkf];simp) bI.out.2 ak.out.tl aE.out.d0 ak.out.tp)
    |(go_at_call 123;(with_reducible refine Calls.mono (bH.out _ bel) ?_);rintro x aj ⟨⟨cO,rfl,aq⟩,bn⟩;have cJ:=b (IsQ.stb.old aq);obtain⟨bD,bi,bx,bh,bC,rfl,_,_,_⟩:=G7 aq;(first|(have a5:Row aj af.heap.size 30 [.bool false,.slice none 0 0,.slice none 0 0]:=(Row.next (heap_alloc_new af zts) bel:Row aj _ _ _);obtain⟨cw,cx,cy⟩:=B9 a5;obtain⟨cz,cA,cB⟩:=E0 a5)|(have a5:Row aj C.heap.size 30 [.bool false,.slice none 0 0,.slice none 0 0]:=(Row.next (heap_alloc_new (World.drew C) zts) bel:Row aj _ _ _);obtain⟨cw,cx,cy⟩:=B9 a5;obtain⟨cz,cA,cB⟩:=E0 a5)|skip)))
 all_goals first
  |(have hF:=yhb (wB:=C) (X:=af) (g:=af.heap.size) aq bel bel bel (yjd (o:=zts) bel) (Below.size bel) rfl;obtain⟨G,av,U,aB,aA,aC⟩:=hF)
  |(have hF:=yhb (wB:=C) (X:=(World.drew C)) (g:=C.heap.size) aq bel bel bel (yjd (o:=zts) bel) (Below.size bel) rfl;obtain⟨G,av,U,aB,aA,aC⟩:=hF)
  |(have hF:=ytr (wB:=C) aq bel (Below.size bel);obtain⟨G,av,U,aB,aA,aC⟩:=hF)
 all_goals clear be bG bH
 all_goals first
  |(have ao:c (Row G af.heap.size 30 _):=aB
    try unfold put3 at av
    try rw[av]
    obtain⟨aa,y⟩:=C5 aA U
    have P:c (C.heap.size<=af.heap.size):=aC
    obtain⟨a8,ay⟩:=nm ((A9 q.num.natAbs).length)
    obtain⟨a9,az⟩:=nm ((A9 q.den).length)
    rw[<-ay,<-az] at ao aa
    have aN:=C0 U ag.out.1
    have aO:=C0 U ag.out.2.1
    have aP:=C0 U ag.out.2.2
    obtain⟨r0,r1,r2⟩:=B9 ao.out
    go_wp2_with fail
    have Z:=zmx aN aO aP r0 r1 r2
    have aK:c (∀u:i,e G.heap.size G u->∀a v I d x J K,(pt7 u w.heap.size a v I d x J K).cell? ⟨bs,0,none⟩=some (.pointer (some ⟨g,0,none⟩))/\(pt7 u w.heap.size a v I d x J K).cell? ⟨mk,0,none⟩=some (.int .i64 (n:Int))/\(pt7 u w.heap.size a v I d x J K).cell? ⟨mk,1,none⟩=some (.int .i64 (m:Int))/\(pt7 u w.heap.size a v I d x J K).cell? ⟨af.heap.size,0,none⟩=some (.bool bD)/\(pt7 u w.heap.size a v I d x J K).cell? ⟨af.heap.size,1,none⟩=some (.slice bi a8 bx)/\(pt7 u w.heap.size a v I d x J K).cell? ⟨af.heap.size,2,none⟩=some (.slice bh a9 bC)):=fun u B a v I d x J K=>(fun h=>⟨zlz h.1 (zmc Q H P) _ _ _ _ _ _ _,zlz h.2.1 (zmc Q H P) _ _ _ _ _ _ _,zlz h.2.2.1 (zmc Q H P) _ _ _ _ _ _ _,zlz h.2.2.2.1 (zmc Q H P) _ _ _ _ _ _ _,zlz h.2.2.2.2.1 (zmc Q H P) _ _ _ _ _ _ _,zlz h.2.2.2.2.2 (zmc Q H P) _ _ _ _ _ _ _⟩) (Z.out u B)
    have aI:c (∀u:i,e G.heap.size G u->k l 151 #[.pointer (some ⟨g,0,none⟩),.int .i64 (n:Int)] u (fun x w'=>(∃F,x= .returned F/\IsV w' (G4 C.heap.size w') F (C2 bA))/\e u.heap.size u w')):=fun u B=>by
     have E:=ydd (((aH.out.next B0.out).next y.out).next B) aE.out (Bru.next (Bru.next aD.out y.out) B) Y.out.1 Y.out.2 aG.out ak.out
     rw[<-bf.out] at E
     refine E.mono ?_
     rintro x w' ⟨⟨F,rfl,aM,V,ad⟩,A⟩
     have W:=f y.out.size B.size
     refine⟨⟨F,rfl,OwnS.isS IsR.stb V (fun v T=>⟨f W (ad v T),by obtain⟨_,_,_,_,ac⟩:=V;exact(ac v T).1⟩) (fun v E ab=>⟨f W E,ab⟩)⟩,A⟩
    have aJ:c (∀u:i,e G.heap.size G u->k l 152 #[.pointer (some ⟨g,0,none⟩),.int .i64 (n:Int),.int .i64 (m:Int)] u (fun x w'=>(∃F,x= .returned F/\IsV w' (G4 C.heap.size w') F (C2 bB))/\e u.heap.size u w')):=fun u B=>by
     have E:=ydg (((aH.out.next B0.out).next y.out).next B) aE.out (Bru.next (Bru.next aD.out y.out) B) Y.out.1 Y.out.2 aG.out ak.out
     rw[<-bg.out] at E
     refine E.mono ?_
     rintro x w' ⟨⟨F,rfl,aM,V,ad⟩,A⟩
     have W:=f y.out.size B.size
     refine⟨⟨F,rfl,OwnS.isS IsR.stb V (fun v T=>⟨f W (ad v T),by obtain⟨_,_,_,_,ac⟩:=V;exact(ac v T).1⟩) (fun v E ab=>⟨f W E,ab⟩)⟩,A⟩
    clear aB aA U aC aq bn r0 r1 r2 ay az
    go_region_held3 (SH.mk _ Z).s
     (first|((with_reducible show World.cell? (World.setCell _ _ _) _=_/\_);exact aK.out _ bel _ _ _ _ _ _ _)|exact Z.out _ bel)
     (first
       |(go_at_call 151;(with_reducible refine Calls.mono (aI.out _ bel) ?_);rintro x a6 ⟨⟨b7,rfl,ar⟩,a3⟩;have N:=bW G a6;have al:=b ar;obtain⟨bE,bN,rfl,_⟩:=X8 ar;obtain⟨d0,aQ,aR,aS,aT,aU,aV⟩:=zll (Row.next (Row.next R.out y.out) N.out);obtain⟨aW,aX,aY,aZ,a0,a1,a2⟩:=zpn (Row.next (Row.next R.out y.out) N.out))
       |(go_at_call 152;(with_reducible refine Calls.mono (aJ.out _ bel) ?_);rintro x a7 ⟨⟨b8,rfl,au⟩,a4⟩;have O:=bW G a7;have an:=b au;obtain⟨bF,bO,rfl,_⟩:=X8 au;obtain⟨d0,aQ,aR,aS,aT,aU,aV⟩:=zll (Row.next (Row.next R.out y.out) O.out);obtain⟨aW,aX,aY,aZ,a0,a1,a2⟩:=zpn (Row.next (Row.next R.out y.out) O.out)))
    all_goals
     go_wp2_with fail
     first
      |exact ztj Tryz.results150 rfl rfl (Row.pt7 (Row.next (Row.next R.out y.out) O.out) _ _ _ _ _ _ _) (zti (lo:=C.heap.size) (zue (IsQ.stb.to aa.out fun v A=>⟨⟨A.1.1,p A.1.2 O.out.size⟩,fun ae=>O.out.cell (p:=⟨v,ae,none⟩) A.1.2⟩) (IsV.stb.to al.out (ztk a4)) (an.out) zuf) (C6 (C6 B0.out y.out) O.out) (o _) (oh H))
      |exact ztj Tryz.results150 rfl rfl (Row.pt7 (Row.next (Row.next R.out y.out) N.out) _ _ _ _ _ _ _) (zti (lo:=C.heap.size) (zue (IsQ.stb.to aa.out fun v A=>⟨⟨A.1.1,p A.1.2 N.out.size⟩,fun ae=>N.out.cell (p:=⟨v,ae,none⟩) A.1.2⟩) (al.out) (IsV.stb.to an.out (ztk a3)) zuf) (C6 (C6 B0.out y.out) N.out) (o _) (oh H)))
  |(have ao:c (Row G C.heap.size 30 _):=aB
    try unfold put3 at av
    try rw[av]
    obtain⟨aa,y⟩:=C5 aA U
    have P:c (C.heap.size<=C.heap.size):=aC
    obtain⟨a8,ay⟩:=nm ((A9 q.num.natAbs).length)
    obtain⟨a9,az⟩:=nm ((A9 q.den).length)
    rw[<-ay,<-az] at ao aa
    have aN:=C0 U ag.out.1
    have aO:=C0 U ag.out.2.1
    have aP:=C0 U ag.out.2.2
    obtain⟨r0,r1,r2⟩:=B9 ao.out
    go_wp2_with fail
    have Z:=zmx aN aO aP r0 r1 r2
    have aK:c (∀u:i,e G.heap.size G u->∀a v I d x J K,(pt7 u w.heap.size a v I d x J K).cell? ⟨bs,0,none⟩=some (.pointer (some ⟨g,0,none⟩))/\(pt7 u w.heap.size a v I d x J K).cell? ⟨mk,0,none⟩=some (.int .i64 (n:Int))/\(pt7 u w.heap.size a v I d x J K).cell? ⟨mk,1,none⟩=some (.int .i64 (m:Int))/\(pt7 u w.heap.size a v I d x J K).cell? ⟨C.heap.size,0,none⟩=some (.bool bD)/\(pt7 u w.heap.size a v I d x J K).cell? ⟨C.heap.size,1,none⟩=some (.slice bi a8 bx)/\(pt7 u w.heap.size a v I d x J K).cell? ⟨C.heap.size,2,none⟩=some (.slice bh a9 bC)):=fun u B a v I d x J K=>(fun h=>⟨zlz h.1 (zmc Q H P) _ _ _ _ _ _ _,zlz h.2.1 (zmc Q H P) _ _ _ _ _ _ _,zlz h.2.2.1 (zmc Q H P) _ _ _ _ _ _ _,zlz h.2.2.2.1 (zmc Q H P) _ _ _ _ _ _ _,zlz h.2.2.2.2.1 (zmc Q H P) _ _ _ _ _ _ _,zlz h.2.2.2.2.2 (zmc Q H P) _ _ _ _ _ _ _⟩) (Z.out u B)
    have aI:c (∀u:i,e G.heap.size G u->k l 151 #[.pointer (some ⟨g,0,none⟩),.int .i64 (n:Int)] u (fun x w'=>(∃F,x= .returned F/\IsV w' (G4 C.heap.size w') F (C2 bA))/\e u.heap.size u w')):=fun u B=>by
     have E:=ydd (((aH.out.next B0.out).next y.out).next B) aE.out (Bru.next (Bru.next aD.out y.out) B) Y.out.1 Y.out.2 aG.out ak.out
     rw[<-bf.out] at E
     refine E.mono ?_
     rintro x w' ⟨⟨F,rfl,aM,V,ad⟩,A⟩
     have W:=f y.out.size B.size
     refine⟨⟨F,rfl,OwnS.isS IsR.stb V (fun v T=>⟨f W (ad v T),by obtain⟨_,_,_,_,ac⟩:=V;exact(ac v T).1⟩) (fun v E ab=>⟨f W E,ab⟩)⟩,A⟩
    have aJ:c (∀u:i,e G.heap.size G u->k l 152 #[.pointer (some ⟨g,0,none⟩),.int .i64 (n:Int),.int .i64 (m:Int)] u (fun x w'=>(∃F,x= .returned F/\IsV w' (G4 C.heap.size w') F (C2 bB))/\e u.heap.size u w')):=fun u B=>by
     have E:=ydg (((aH.out.next B0.out).next y.out).next B) aE.out (Bru.next (Bru.next aD.out y.out) B) Y.out.1 Y.out.2 aG.out ak.out
     rw[<-bg.out] at E
     refine E.mono ?_
     rintro x w' ⟨⟨F,rfl,aM,V,ad⟩,A⟩
     have W:=f y.out.size B.size
     refine⟨⟨F,rfl,OwnS.isS IsR.stb V (fun v T=>⟨f W (ad v T),by obtain⟨_,_,_,_,ac⟩:=V;exact(ac v T).1⟩) (fun v E ab=>⟨f W E,ab⟩)⟩,A⟩
    clear aB aA U aC aq bn r0 r1 r2 ay az
    go_region_held3 (SH.mk _ Z).s
     (first|((with_reducible show World.cell? (World.setCell _ _ _) _=_/\_);exact aK.out _ bel _ _ _ _ _ _ _)|exact Z.out _ bel)
     (first
       |(go_at_call 151;(with_reducible refine Calls.mono (aI.out _ bel) ?_);rintro x a6 ⟨⟨b7,rfl,ar⟩,a3⟩;have N:=bW G a6;have al:=b ar;obtain⟨bE,bN,rfl,_⟩:=X8 ar;obtain⟨d0,aQ,aR,aS,aT,aU,aV⟩:=zll (Row.next (Row.next R.out y.out) N.out);obtain⟨aW,aX,aY,aZ,a0,a1,a2⟩:=zpn (Row.next (Row.next R.out y.out) N.out))
       |(go_at_call 152;(with_reducible refine Calls.mono (aJ.out _ bel) ?_);rintro x a7 ⟨⟨b8,rfl,au⟩,a4⟩;have O:=bW G a7;have an:=b au;obtain⟨bF,bO,rfl,_⟩:=X8 au;obtain⟨d0,aQ,aR,aS,aT,aU,aV⟩:=zll (Row.next (Row.next R.out y.out) O.out);obtain⟨aW,aX,aY,aZ,a0,a1,a2⟩:=zpn (Row.next (Row.next R.out y.out) O.out)))
    all_goals
     go_wp2_with fail
     first
      |exact ztj Tryz.results150 rfl rfl (Row.pt7 (Row.next (Row.next R.out y.out) O.out) _ _ _ _ _ _ _) (zti (lo:=C.heap.size) (zue (IsQ.stb.to aa.out fun v A=>⟨⟨A.1.1,p A.1.2 O.out.size⟩,fun ae=>O.out.cell (p:=⟨v,ae,none⟩) A.1.2⟩) (IsV.stb.to al.out (ztk a4)) (an.out) zuf) (C6 (C6 B0.out y.out) O.out) (o _) (oh H))
      |exact ztj Tryz.results150 rfl rfl (Row.pt7 (Row.next (Row.next R.out y.out) N.out) _ _ _ _ _ _ _) (zti (lo:=C.heap.size) (zue (IsQ.stb.to aa.out fun v A=>⟨⟨A.1.1,p A.1.2 N.out.size⟩,fun ae=>N.out.cell (p:=⟨v,ae,none⟩) A.1.2⟩) (al.out) (IsV.stb.to an.out (ztk a3)) zuf) (C6 (C6 B0.out y.out) N.out) (o _) (oh H)))
  |(have ao:c (Row G aj.heap.size 30 _):=aB
    try unfold put3 at av
    try rw[av]
    obtain⟨aa,y⟩:=C5 aA U
    have P:c (C.heap.size<=aj.heap.size):=aC
    obtain⟨a8,ay⟩:=nm ((A9 q.num.natAbs).length)
    obtain⟨a9,az⟩:=nm ((A9 q.den).length)
    rw[<-ay,<-az] at ao aa
    have aN:=C0 U ag.out.1
    have aO:=C0 U ag.out.2.1
    have aP:=C0 U ag.out.2.2
    obtain⟨r0,r1,r2⟩:=B9 ao.out
    go_wp2_with fail
    have Z:=zmx aN aO aP r0 r1 r2
    have aK:c (∀u:i,e G.heap.size G u->∀a v I d x J K,(pt7 u w.heap.size a v I d x J K).cell? ⟨bs,0,none⟩=some (.pointer (some ⟨g,0,none⟩))/\(pt7 u w.heap.size a v I d x J K).cell? ⟨mk,0,none⟩=some (.int .i64 (n:Int))/\(pt7 u w.heap.size a v I d x J K).cell? ⟨mk,1,none⟩=some (.int .i64 (m:Int))/\(pt7 u w.heap.size a v I d x J K).cell? ⟨aj.heap.size,0,none⟩=some (.bool bD)/\(pt7 u w.heap.size a v I d x J K).cell? ⟨aj.heap.size,1,none⟩=some (.slice bi a8 bx)/\(pt7 u w.heap.size a v I d x J K).cell? ⟨aj.heap.size,2,none⟩=some (.slice bh a9 bC)):=fun u B a v I d x J K=>(fun h=>⟨zlz h.1 (zmc Q H P) _ _ _ _ _ _ _,zlz h.2.1 (zmc Q H P) _ _ _ _ _ _ _,zlz h.2.2.1 (zmc Q H P) _ _ _ _ _ _ _,zlz h.2.2.2.1 (zmc Q H P) _ _ _ _ _ _ _,zlz h.2.2.2.2.1 (zmc Q H P) _ _ _ _ _ _ _,zlz h.2.2.2.2.2 (zmc Q H P) _ _ _ _ _ _ _⟩) (Z.out u B)
    have aI:c (∀u:i,e G.heap.size G u->k l 151 #[.pointer (some ⟨g,0,none⟩),.int .i64 (n:Int)] u (fun x w'=>(∃F,x= .returned F/\IsV w' (G4 C.heap.size w') F (C2 bA))/\e u.heap.size u w')):=fun u B=>by
     have E:=ydd (((aH.out.next B0.out).next y.out).next B) aE.out (Bru.next (Bru.next aD.out y.out) B) Y.out.1 Y.out.2 aG.out ak.out
     rw[<-bf.out] at E
     refine E.mono ?_
     rintro x w' ⟨⟨F,rfl,aM,V,ad⟩,A⟩
     have W:=f y.out.size B.size
     refine⟨⟨F,rfl,OwnS.isS IsR.stb V (fun v T=>⟨f W (ad v T),by obtain⟨_,_,_,_,ac⟩:=V;exact(ac v T).1⟩) (fun v E ab=>⟨f W E,ab⟩)⟩,A⟩
    have aJ:c (∀u:i,e G.heap.size G u->k l 152 #[.pointer (some ⟨g,0,none⟩),.int .i64 (n:Int),.int .i64 (m:Int)] u (fun x w'=>(∃F,x= .returned F/\IsV w' (G4 C.heap.size w') F (C2 bB))/\e u.heap.size u w')):=fun u B=>by
     have E:=ydg (((aH.out.next B0.out).next y.out).next B) aE.out (Bru.next (Bru.next aD.out y.out) B) Y.out.1 Y.out.2 aG.out ak.out
     rw[<-bg.out] at E
     refine E.mono ?_
     rintro x w' ⟨⟨F,rfl,aM,V,ad⟩,A⟩
     have W:=f y.out.size B.size
     refine⟨⟨F,rfl,OwnS.isS IsR.stb V (fun v T=>⟨f W (ad v T),by obtain⟨_,_,_,_,ac⟩:=V;exact(ac v T).1⟩) (fun v E ab=>⟨f W E,ab⟩)⟩,A⟩
    clear aB aA U aC aq bn r0 r1 r2 ay az
    go_region_held3 (SH.mk _ Z).s
     (first|((with_reducible show World.cell? (World.setCell _ _ _) _=_/\_);exact aK.out _ bel _ _ _ _ _ _ _)|exact Z.out _ bel)
     (first
       |(go_at_call 151;(with_reducible refine Calls.mono (aI.out _ bel) ?_);rintro x a6 ⟨⟨b7,rfl,ar⟩,a3⟩;have N:=bW G a6;have al:=b ar;obtain⟨bE,bN,rfl,_⟩:=X8 ar;obtain⟨d0,aQ,aR,aS,aT,aU,aV⟩:=zll (Row.next (Row.next R.out y.out) N.out);obtain⟨aW,aX,aY,aZ,a0,a1,a2⟩:=zpn (Row.next (Row.next R.out y.out) N.out))
       |(go_at_call 152;(with_reducible refine Calls.mono (aJ.out _ bel) ?_);rintro x a7 ⟨⟨b8,rfl,au⟩,a4⟩;have O:=bW G a7;have an:=b au;obtain⟨bF,bO,rfl,_⟩:=X8 au;obtain⟨d0,aQ,aR,aS,aT,aU,aV⟩:=zll (Row.next (Row.next R.out y.out) O.out);obtain⟨aW,aX,aY,aZ,a0,a1,a2⟩:=zpn (Row.next (Row.next R.out y.out) O.out)))
    all_goals
     go_wp2_with fail
     first
      |exact ztj Tryz.results150 rfl rfl (Row.pt7 (Row.next (Row.next R.out y.out) O.out) _ _ _ _ _ _ _) (zti (lo:=C.heap.size) (zue (IsQ.stb.to aa.out fun v A=>⟨⟨A.1.1,p A.1.2 O.out.size⟩,fun ae=>O.out.cell (p:=⟨v,ae,none⟩) A.1.2⟩) (IsV.stb.to al.out (ztk a4)) (an.out) zuf) (C6 (C6 B0.out y.out) O.out) (o _) (oh H))
      |exact ztj Tryz.results150 rfl rfl (Row.pt7 (Row.next (Row.next R.out y.out) N.out) _ _ _ _ _ _ _) (zti (lo:=C.heap.size) (zue (IsQ.stb.to aa.out fun v A=>⟨⟨A.1.1,p A.1.2 N.out.size⟩,fun ae=>N.out.cell (p:=⟨v,ae,none⟩) A.1.2⟩) (al.out) (IsV.stb.to an.out (ztk a3)) zuf) (C6 (C6 B0.out y.out) N.out) (o _) (oh H)))
theorem yte {w:i} {lo:Nat} {st:Int} (h:U8 w S lo0 lo g L m n sc top t st s steps) (bp:m<=100) (bq:n<=100):
 k l 115 #[.pointer (some ⟨g,0,none⟩)] w fun q w'=>q= .returned (.int .i64 (O0 (zkw m n t)))/\e w.heap.size w w':=by
 have ar:=b h;obtain⟨a1,bu,a2,bv,D0,a5,a3,a7,-,⟨aT,aA,aU,aV,aB⟩,-,-,-⟩:=h.open;obtain⟨H,aj⟩:=nm (fun j=>decide (t.A m j<0));obtain⟨key,F⟩:=nm (fun C=>t.oth.getD C 0);have aQ:c (zkw m n t=W6 H key n):=(by rw[c,aj,F];rfl);rw[aQ.out];obtain⟨aN,aq⟩:=C5 aj F;have aa:=h.cap (m+1) og;rw[U6] at aa;have be:=aa.1;have bf:L.cp (m+1)<=9223372036854775807:=(by have:=aa.2;unfold maxLen at this;omega);have ai:=h.caps;have bm:n<=L.oc:=og;have bn:L.oc<=9223372036854775807:=(by unfold maxLen at ai;omega);have br:m<=L.rc:=og;have bt:L.rc<=9223372036854775807:=(by unfold maxLen at ai;omega);clear h aj F ai aa;have a6:=T3;clear aT aU aV;obtain⟨a4,ag⟩:=nm (L.ha (m+1));rw[<-ag] at aB;have aM:=b ag;clear ag;have aR:=b aA;go_in;go_wp2_with fail;clear aB aA;go_loopw [12,3,4,5] (fun al best _ _ wr=>∃f:Nat,f<=n/\al= .int .i64 (f:Int)/\best= .int .i64 (O0 (W6 H key f))/\e w.heap.size w wr) (fun al _ _ _ _=>n-(intOf al).toNat);case atStart=>exact⟨0,d _,rfl,rfl,Below.refl _ _⟩
 case round=>
  obtain⟨f,bj,rfl,rfl,aD⟩:=hrel;have I:=b aD;clear aD;rcases a f n with ab|bg
  ·obtain⟨J,N,K,O,ea,ae,af,az,eq⟩:=(ar.out.next I.out).el (l:=(m+1)) (j:=f) og (by rw[U6];exact ab);rw[ycd] at ae af eq;obtain⟨a0,hI⟩:=(ar.out.next I.out).othW og;have an:=C0 I.out aR.out;rw[a0] at an;have ay:=hI.el f ab;have aO:=b ab;have bh:(0:Int)<=(f:Int):=og;have bi:(f:Int)<(n:Int):=og;have V:=b eq;obtain⟨Q,aI⟩:=nm (decide (-(t.A m f)<0));obtain⟨R,aJ⟩:=nm ((A9 (-(t.A m f)).natAbs).length);obtain⟨P,aH⟩:=nm ((A9 1).length);rw[<-aI] at ae V;rw[<-aJ] at af V;rw[<-aH] at az V;obtain⟨x,aY,E,aK,aZ⟩:=J5 wr #[.bool Q,.slice J R N,.slice K P O] 30;obtain⟨X,Y,b2⟩:=B9 aK;have aL:=b E;have T:=nB I E;have ac:=C0 E an;have D:=C0 E ay;have F:∀C,(fun C=>t.oth.getD C 0) C=key C:=fun C=>(by rw[aq.out]);have M:t.oth.getD f 0=key f:=F f;have D:x.cell? ⟨L.ob,f,none⟩=some (.int .i64 ((key f:Nat):Int)):=(by rw[<-M];exact D);have W:=nQ V E;have aP:c (H f=decide (0< -(t.A m f))):=(by rw[c,aN.out];exact decide_eq_decide.2 og);have aS:=aM.out.trans ea;subst aS;clear aI aJ aH aK aZ E eq an ay M F ab;go_wp2_with fail;clear aY ae af az;have v:c (f+1<=n):=aO.out;obtain⟨sg,ak⟩:=nm (znj ((-(t.A m f):Int):Rat));have U:=b ak;have aG:decide (0<sg)=H f:=(by rw[ak,aP.out];exact ymj _);clear ak;cases G:H f with
   |false=>
    rw[G] at aG;have r:=hs5 X Y b2 ac D;have y:c (∀o:i,e x.heap.size x o->k l 63 #[.agg #[.bool Q,.slice J R N,.slice K P O]] o (fun q w'=>q= .returned (.int .i64 sg)/\e o.heap.size o w')):=fun o B=>(by have h:=zse (IsQ.stb.next W.out B);rw[<-U.out] at h;exact h);refine wp_region_noPanic ?_;refine zkq r fun A=> ?_;refine sT 0 17 ?_;refine wpAnyH_ready (rs:=[1]) kr (by simp) ?_;refine AllReadyH.cons rfl (fun z u=> ?_) AllReadyH.nil;go_simp;go_at_call 63;(with_reducible refine Calls.mono (y.out _ bel) ?_)
    rintro q ao ⟨rfl,ah⟩;go_wp2_with fail;refine u.out _ _ (r.out _ bel) (fun A=> ?_);clear u z;refine sT 2 19 ?_;refine sT 3 20 ?_;refine sU 4 21 ?_;refine sU 5 22 ?_;refine sU 6 23 ?_;refine sU 7 24 ?_;refine sU 8 25 ?_;refine sU 9 26 ?_;refine sU 10 27 ?_;refine sU 11 28 ?_;refine sU 12 29 ?_;refine sU 13 30 ?_;refine sU 14 31 ?_;refine sU 15 32 ?_;refine sU 16 33 ?_;refine sU 17 34 ?_;refine sU 18 35 ?_;refine sU 19 36 ?_;refine sU 20 37 ?_;refine sU 21 38 ?_;refine sU 22 39 ?_;refine sU 23 40 ?_;refine sU 24 41 ?_;refine sT 25 42 ?_;refine wpAnyH_done kr ?_ _;refine NoPanic.normal ?_;go_wp2_with fail;have ad:=T.out;go_roundw;(case rel=>exact⟨f+1,v.out,by go_num,by rw[ycv G],bel⟩);case measure=>simp[intOf];have:=v.out;omega
   |true=>
    rw[G] at aG;cases Z:W6 H key f with
    |none=>
     have aC:O0 (none:Option Nat)= -1:=rfl;rw[aC];have r:=hs5 X Y b2 ac D;have y:c (∀o:i,e x.heap.size x o->k l 63 #[.agg #[.bool Q,.slice J R N,.slice K P O]] o (fun q w'=>q= .returned (.int .i64 sg)/\e o.heap.size o w')):=fun o B=>(by have h:=zse (IsQ.stb.next W.out B);rw[<-U.out] at h;exact h);refine wp_region_noPanic ?_;refine zkq r fun A=> ?_;refine sT 0 17 ?_;refine wpAnyH_ready (rs:=[1]) kr (by simp) ?_;refine AllReadyH.cons rfl (fun z u=> ?_) AllReadyH.nil;go_simp;go_at_call 63;(with_reducible refine Calls.mono (y.out _ bel) ?_)
     rintro q ao ⟨rfl,ah⟩;go_wp2_with fail;refine u.out _ _ (r.out _ bel) (fun A=> ?_);clear u z;refine sT 2 19 ?_;refine sT 3 20 ?_;refine sT 4 21 ?_;refine sT 5 22 ?_;refine sT 6 23 ?_;refine sU 7 24 ?_;refine sU 8 25 ?_;refine sU 9 26 ?_;refine sU 10 27 ?_;refine sU 11 28 ?_;refine sU 12 29 ?_;refine sU 13 30 ?_;refine sU 14 31 ?_;refine sU 15 32 ?_;refine sU 16 33 ?_;refine sU 17 34 ?_;refine sU 18 35 ?_;refine sU 19 36 ?_;refine sU 20 37 ?_;refine sU 21 38 ?_;refine sU 22 39 ?_;refine sU 23 40 ?_;refine sT 24 41 ?_;refine sT 25 42 ?_;refine wpAnyH_done kr ?_ _;refine NoPanic.normal ?_;go_wp2_with fail;have ad:=T.out;go_roundw;(case rel=>exact⟨f+1,v.out,by go_num,by rw[ycu G Z],bel⟩);case measure=>simp[intOf];have:=v.out;omega
    |some p=>
     have bd:p<f:=(znl Z).1;have au:=hI.el p (oh v);have M:t.oth.getD p 0=key p:=(by rw[aq.out]);have av:x.cell? ⟨L.ob,p,none⟩=some (.int .i64 ((key p:Nat):Int)):=(by rw[<-M];exact C0 aL.out au);clear M;have a8:(0:Int)<=(p:Int):=og;have a9:(p:Int)<(n:Int):=oh v;have aW:O0 (some p)=(p:Int):=rfl;rw[aW];have aC:decide ((p:Int)<0)=false:=decide_eq_false og;clear au;by_cases aE:key f<key p
     ·have aX:decide (((key f:Nat):Int)<((key p:Nat):Int))=true:=decide_eq_true og;have r:=zmx X Y b2 ac D av;have y:c (∀o:i,e x.heap.size x o->k l 63 #[.agg #[.bool Q,.slice J R N,.slice K P O]] o (fun q w'=>q= .returned (.int .i64 sg)/\e o.heap.size o w')):=fun o B=>(by have h:=zse (IsQ.stb.next W.out B);rw[<-U.out] at h;exact h);refine wp_region_noPanic ?_;refine zkq r fun A=> ?_;refine sT 0 17 ?_;refine wpAnyH_ready (rs:=[1]) kr (by simp) ?_;refine AllReadyH.cons rfl (fun z u=> ?_) AllReadyH.nil;go_simp;go_at_call 63;(with_reducible refine Calls.mono (y.out _ bel) ?_)
      rintro q ao ⟨rfl,ah⟩;go_wp2_with fail;refine u.out _ _ (r.out _ bel) (fun A=> ?_);clear u z;refine sT 2 19 ?_;refine sT 3 20 ?_;refine sT 4 21 ?_;refine sT 5 22 ?_;refine sT 6 23 ?_;refine sT 7 24 ?_;refine sT 8 25 ?_;refine sT 9 26 ?_;refine sT 10 27 ?_;refine sT 11 28 ?_;refine sT 12 29 ?_;refine sT 13 30 ?_;refine sT 14 31 ?_;refine sT 15 32 ?_;refine sT 16 33 ?_;refine sT 17 34 ?_;refine sT 18 35 ?_;refine sT 19 36 ?_;refine sT 20 37 ?_;refine sT 21 38 ?_;refine sT 22 39 ?_;refine sT 23 40 ?_;refine sT 24 41 ?_;refine sT 25 42 ?_;refine wpAnyH_done kr ?_ _;refine NoPanic.normal ?_;go_wp2_with fail;have ad:=T.out;go_roundw;(case rel=>exact⟨f+1,v.out,by go_num,by rw[yct G Z aE],bel⟩);case measure=>simp[intOf];have:=v.out;omega
     ·have aX:decide (((key f:Nat):Int)<((key p:Nat):Int))=false:=decide_eq_false og;have r:=zmx X Y b2 ac D av;have y:c (∀o:i,e x.heap.size x o->k l 63 #[.agg #[.bool Q,.slice J R N,.slice K P O]] o (fun q w'=>q= .returned (.int .i64 sg)/\e o.heap.size o w')):=fun o B=>(by have h:=zse (IsQ.stb.next W.out B);rw[<-U.out] at h;exact h);refine wp_region_noPanic ?_;refine zkq r fun A=> ?_;refine sT 0 17 ?_;refine wpAnyH_ready (rs:=[1]) kr (by simp) ?_;refine AllReadyH.cons rfl (fun z u=> ?_) AllReadyH.nil;go_simp;go_at_call 63;(with_reducible refine Calls.mono (y.out _ bel) ?_)
      rintro q ao ⟨rfl,ah⟩;go_wp2_with fail;refine u.out _ _ (r.out _ bel) (fun A=> ?_);clear u z;refine sT 2 19 ?_;refine sT 3 20 ?_;refine sT 4 21 ?_;refine sT 5 22 ?_;refine sT 6 23 ?_;refine sT 7 24 ?_;refine sT 8 25 ?_;refine sT 9 26 ?_;refine sT 10 27 ?_;refine sT 11 28 ?_;refine sT 12 29 ?_;refine sT 13 30 ?_;refine sT 14 31 ?_;refine sT 15 32 ?_;refine sT 16 33 ?_;refine sT 17 34 ?_;refine sT 18 35 ?_;refine sT 19 36 ?_;refine sT 20 37 ?_;refine sT 21 38 ?_;refine sT 22 39 ?_;refine sT 23 40 ?_;refine sT 24 41 ?_;refine sT 25 42 ?_;refine wpAnyH_done kr ?_ _;refine NoPanic.normal ?_;go_wp2_with fail;have ad:=T.out;go_roundw;(case rel=>exact⟨f+1,v.out,by go_num,by rw[ycw G Z aE],bel⟩);case measure=>simp[intOf];have:=v.out;omega
  ·obtain rfl:f=n:=og;go_wp2_with fail;go_ret;exact⟨rfl,I.out⟩
end Go.Proofs.YtlhhbccgfkhflaaGreatDoor
