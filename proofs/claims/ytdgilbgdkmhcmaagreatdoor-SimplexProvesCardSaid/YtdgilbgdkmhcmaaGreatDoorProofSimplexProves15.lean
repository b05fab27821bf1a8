/-
 The contract of parlourlaw04's program.
-/
import Derived.Test.YtdgilbgdkmhcmaaGreatDoorProofSimplexProves14
namespace Go.Proofs.YtdgilbgdkmhcmaaGreatDoor
open Go.RowKit
set_option linter.unusedVariables false
set_option maxRecDepth 100000
set_option maxHeartbeats 8000000
open _root_.Go.Lib renaming hid → d
open _root_.Option.some renaming inj → b
open _root_.Nat renaming le_refl → f, le_trans → e, lt_of_lt_of_le → i, lt_or_ge → j, zero_le → k
open _root_.Go renaming undef → c
variable {g n : Nat}
theorem yid {b:List Value} (h:b.length=65):∃a:Nat->Value,b=[a 0,a 1,a 2,a 3,a 4,a 5,a 6,a 7,a 8,a 9,a 10,a 11,a 12,a 13,a 14,a 15,a 16,a 17,a 18,a 19,a 20,a 21,a 22,a 23,a 24,a 25,a 26,a 27,a 28,a 29,a 30,a 31,a 32,a 33,a 34,a 35,a 36,a 37,a 38,a 39,a 40,a 41,a 42,a 43,a 44,a 45,a 46,a 47,a 48,a 49,a 50,a 51,a 52,a 53,a 54,a 55,a 56,a 57,a 58,a 59,a 60,a 61,a 62,a 63,a 64]:=by
 refine⟨fun d=>b.getD d c,?_⟩
 have e:b=(List.range 65).map (fun d=>b.getD d c):=by
  apply List.ext_getElem
  ·simp[h]
  ·intro d f g;simp[List.getD_eq_getElem?_getD,List.getElem?_eq_getElem f]
 exact e.trans rfl
theorem ybx {w:World} (a g:Int) (ha:a.natAbs<=8) (o:1<=g) (p:g<=2):
 Calls Tryz.prog 21 #[.int .i64 a,.int .i64 g] w fun l w'=>(∃m q,l= .returned m/\IsQ w' (F6 w.heap.size w') m q/\zok q)/\Below w.heap.size w w':=by have l:g=((g.toNat:Nat):Int):=(by omega);rw[l];exact(zvp (a:=a) (b:=g.toNat) og og og).mono fun l w' ⟨⟨m,n,hv⟩,h⟩=>⟨⟨m,_,n,hv,ybw og og og,yuh ha og⟩,h⟩
structure OutAB (n j base:Nat) (w:World) (va vb:Value) (SA SB:Nat->Prop) (A:List (List Rat)) (B:List Rat):Prop where
 lA:A.length=j
 lB:B.length=j
 rows:∀row∈A,row.length=n/\∀e∈row,zok e
 szB:∀e∈B,zok e
 ownA:OwnS 1 30 IsV w base SA va (F9 A)
 ownB:OwnS 3 37 IsR w base SB vb (C0 B)
 sA:∀b,SA b->base<=b/\vb.ownBlock≠some b
 sB:∀b,SB b->base<=b/\va.ownBlock≠some b
 ne:∀b,va.ownBlock=some b->vb.ownBlock≠some b
theorem OutAB.grown {i base:Nat} {w w':World} {j k:Value} {d e:Nat->Prop} {A:List (List Rat)} {B:List Rat} (h:OutAB n i base w j k d e A B) (f:w.grownBy w' (some g)) (hg:g<base):OutAB n i base w' j k d e A B:=
 ⟨h.lA,h.lB,h.rows,h.szB,h.ownA.grown IsV.stb f fun b c=>⟨fun a=>by have:=h.ownA.own_lt b a;cases c;omega,fun a=>by have:=(h.sA b a).1;cases c;omega⟩,
   h.ownB.grown IsR.stb f fun b c=>⟨fun a=>by have:=h.ownB.own_lt b a;cases c;omega,fun a=>by have:=(h.sB b a).1;cases c;omega⟩,h.sA,h.sB,h.ne⟩
def yda (n d c:Nat) (b:Ending) (w':World):Prop:=∃a q,b= .returned a/\IsP w' (F6 c w') a (N2 q)/\FineP q 2 8/\q.B.length=d/\q.C.length=n
theorem yxa {w:World} {aO:List Int} (hD:IsD w g aO) {m0:Nat} (gj:n<=40) (gi:m0<=40):
 Calls Tryz.prog 11 #[.pointer (some ⟨g,0,none⟩),.int .i64 (n:Int),.int .i64 (m0:Int)] w fun m w'=>yda n m0 w.heap.size m w'/\IsD w' g aO/\w.grownBy w' (some g):=by
 have cE:g<w.heap.size:=hD.lt;obtain⟨hn,gu,cW,fl,fk,gC⟩:=zkd w #[.slice none 0 0,.slice none 0 0,.slice none 0 0] #[.slice none 0 0,.slice none 0 0,.slice none 0 0] 32 32;obtain⟨fp,B0,fG,fF⟩:=Z5 (hD.next cW cE) cW fl fk;clear hD cW fl fk;go_in;go_wp2_with fail;clear gu;go_loopw [8,9,10] (fun aI _ _ wr=>∃(aN:Nat) (L K:Value) (ab ac:Nat->Prop) (A:List (List Rat)) (B:List Rat),aN<=m0/\aI= .int .i64 (aN:Int)/\w.grownBy wr (some g)/\IsD wr g aO/\Row wr w.heap.size 32 [.slice none 0 0,.slice none 0 0,.slice none 0 0]/\Row wr (w.heap.size+1) 32 [L,K,.slice none 0 0]/\Hid (OutAB n aN (w.heap.size+2) wr L K ab ac A B)) (fun aI _ _ _=>m0-(intOf aI).toNat);case atStart=>refine⟨0,_,_,fun _=>False,fun _=>False,[],[],k _,rfl,K7 B0.out,fp.out,fG.out,fF.out,?_⟩;exact⟨rfl,rfl,fun _ h=>(by cases h),fun _ h=>(by cases h),OwnS.nil (fun l h=>h.elim),OwnS.nil (fun l h=>h.elim),fun l h=>h.elim,fun l h=>h.elim,fun l h=>(by cases h)⟩
 case round=>
  obtain⟨J,rfl⟩:=nm (wr);obtain⟨aN,L,K,fI,ac,A,B,e8,rfl,b8,hD,b7,G,ae⟩:=hrel;obtain⟨dp,cM,dn,bM,ft⟩:=hd5 b8 hD b7 G e8;have I:w.heap.size+2<=J.heap.size:=(by have:=G.lt;omega);have bh:=d I;clear b8 hD b7 G e8 I;rcases j aN m0 with cF|gZ
  ·have dq:=d cF;go_wp2_with fail;clear cF;go_loopw [9,10] (fun row O wr=>∃(aB:Nat) (bq:Nat->Prop) (Q:List Rat),aB<=n/\O= .int .i64 (aB:Int)/\J.grownBy wr (some g)/\IsD wr g aO/\OwnS 3 37 IsR wr J.heap.size bq row (C0 Q)/\Hid (Q.length=aB/\(∀m∈Q,zok m)/\∀l,bq l->J.heap.size<=l)) (fun _ O _=>n-(intOf O).toNat);case atStart=>exact⟨0,fun _=>False,[],k _,rfl,H8 _ _,cM.out,OwnS.nil (fun l h=>h.elim),rfl,(fun _ h=>by cases h),fun l h=>h.elim⟩
   case round=>
    obtain⟨aB,bq,Q,hc,rfl,e6,eT,cc,hr⟩:=hrel;obtain⟨bg,di,Own⟩:=G4 e6 eT cc;clear e6 eT cc;have gg:g<J.heap.size:=cM.out.lt;rcases j aB n with cD|cD
    ·go_wp2_with fail;refine(zsr di.out 9 og og).mono ?_;rintro m ho ⟨⟨x,aU,be,rfl⟩,eS,eW⟩;have fr:=d eS;have fq:=d eW.grown;clear eS eW;go_wp2_with fail;refine(zsr fr.out 2 og og).mono ?_;rintro m cm ⟨⟨y,gv,gw,rfl⟩,cA,eX⟩;obtain⟨dh,cL⟩:=C4 cA (J6 fq.out eX.grown);clear cA eX;go_wp2_with fail;refine(ybx (x-4) (1+y) og og og).mono ?_;rintro m cK ⟨⟨g5,q,rfl,c5,fb⟩,cC⟩;have fa:OwnS 3 37 IsR cm J.heap.size bq _ (C0 Q):=Own.out.grown IsR.stb cL.out fun l m=>⟨fun aZ=>by have:=Own.out.own_lt l aZ;cases m;omega,fun aZ=>by have:=hr.out.2.2 l aZ;cases m;omega⟩;have gm:=OwnS.step IsR.stb (T:=fun l=>bq l\/(cm.heap.size<=l/\l<cK.heap.size)) fa cC (fun l h=> .inl h) (fun l h=>h);have gf:=IsQ.stb.to c5 (E0 (T:=fun l=>bq l\/(cm.heap.size<=l/\l<cK.heap.size)) fun l h=> .inr h);obtain⟨g4,gE,a6,gD,g3,rfl,_,_,_⟩:=G9 c5;obtain⟨df,fs⟩:=C4 (J6 bg.out (J6 cL.out (K7 cC))) (dh.out.next cC dh.out.lt);have gd:J.heap.size<=cK.heap.size:=df.out.size;have gp:=hr.out.1;have fx:=d fb;have cd:J.heap.size<=cm.heap.size:=e bg.out.size cL.out.size;clear fa cC c5 fb;go_wp2_with (at_builtin;refine zoz zli rfl _ _ rfl IsR.stb rfl rfl rfl gm gf rfl (by intro ad aS;simp[Value.cells] at aS;rcases aS with rfl|rfl|rfl<;>rfl) (by rw[U6];omega) gd ?_;intro g7 hp gn e4 g1);go_roundw
     case rel=>
      refine⟨aB+1,fun l=>bq l\/(cm.heap.size<=l/\l<cK.heap.size),Q++[q],by omega,by go_num,yrw df.out e4,fs.out.next e4 gg,?_,by simp[gp],?_,?_⟩
      ·rw[C0,List.map_append];exact gn
      ·intro m aY;rcases List.mem_append.1 aY with aY|aY
       ·exact hr.out.2.1 m aY
       ·rw[List.mem_singleton] at aY;rw[aY];exact fx.out
      ·intro l s;rcases s with s|s
       ·exact hr.out.2.2 l s
       ·omega
     case measure=>simp[intOf];omega
    ·obtain rfl:aB=n:=(by omega);obtain⟨v,rfl⟩:=nm (wr);have bC:=(ae.out.grown (g:=g) bg.out (by have:=bM.out.lt;omega));obtain⟨R,af,rfl⟩:=Own.out.slice;have g0:(C0 Q).length=aB:=(by rw[U6,hr.out.1]);obtain⟨ah,e9⟩:=nm ((C0 Q).length);have a9:=OwnS.own_lt ae.out.ownA;have bd:=OwnS.own_lt ae.out.ownB;have eR:=OwnS.own_lt bC.ownA;have cQ:=OwnS.own_lt bC.ownB;have g2:J.heap.size<=v.heap.size:=bg.out.size;obtain⟨ab,b4⟩:∃fH:Nat->Prop,fH=fun l=>fI l\/(J.heap.size<=l/\l<v.heap.size):=⟨_,rfl⟩
     have b5:∀l,ab l->w.heap.size+2<=l/\l<v.heap.size/\L.ownBlock≠some l/\K.ownBlock≠some l:=by
      intro l s;rw[b4] at s;rcases s with s|s
      ·obtain⟨cw,bf,ao,a6,aQ⟩:=bC.ownA;exact⟨(ae.out.sA l s).1,(aQ l s).1,fun m=>(aQ l s).2 m.symm,(ae.out.sA l s).2⟩
      ·exact⟨by have:=bh.out;omega,s.2,fun m=>by have:=(a9 l m).2;omega,fun m=>by have:=(bd l m).2;omega⟩
     have cS:∀l,ac l->w.heap.size+2<=l/\l<v.heap.size/\L.ownBlock≠some l/\K.ownBlock≠some l:=(by intro l s;obtain⟨cw,bf,ao,a6,aQ⟩:=bC.ownB;exact⟨(ae.out.sB l s).1,(aQ l s).1,(ae.out.sB l s).2,fun m=>(aQ l s).2 m.symm⟩);have dr:=d (OwnS.wider IsV.stb (T:=ab) bC.ownA (fun l h=>by rw[b4];exact .inl h) fun l h=>⟨(b5 l h).2.1,fun m=>(b5 l h).2.2.1 m.symm⟩);have fy:=d bC.ownB;have de:Hid (IsV v ab (.slice R (C0 Q).length af) (C0 Q)):=OwnS.isS IsR.stb (T:=ab) Own.out (fun l s=>by rw[b4];exact .inr ⟨hr.out.2.2 l s,by obtain⟨_,_,_,_,aL⟩:=Own.out;exact(aL l s).1⟩) (fun l aH aC=>by rw[b4];exact .inr ⟨aH,aC⟩);obtain⟨ct,cO⟩:=C4 b5 cS;have cv:Hid ((w.heap.size+1)≠g):=(by rw[Hid];omega);have br:Hid (w.heap.size+2<=v.heap.size):=(by rw[Hid];have:=bh.out;omega);have cu:Hid ((F9 A).length<100/\B.length<100):=(by rw[Hid,zyj,ae.out.lA,ae.out.lB];have:=dq.out;omega);have fK:Hid (∀l,L.ownBlock=some l->g<l/\(w.heap.size+1)≠l):=fun l m=>(by have:=(a9 l m).1;omega);have fL:Hid (∀l,K.ownBlock=some l->g<l/\(w.heap.size+1)≠l):=fun l m=>(by have:=(bd l m).1;omega);have ds:Hid (∀l,K.ownBlock=some l->l<v.heap.size):=fun l m=>(cQ l m).2
     have bt:Hid (∀O l,zsc g L K O=some l->l<v.heap.size/\(O≠4->L.ownBlock≠some l/\¬ab l)/\(O≠15->K.ownBlock≠some l/\¬ac l)):=by
      intro O l m
      have ca:l=g\/L.ownBlock=some l\/K.ownBlock=some l:=by
       unfold zsc at m;split at m
       ·exact .inr (.inl m)
       ·exact .inl (by cases m;rfl)
       ·exact .inl (by cases m;rfl)
       ·exact .inr (.inr m)
       ·cases m
      have e5:∀aV:Value,(∀l,aV.ownBlock=some l->w.heap.size+2<=l)->l=g->aV.ownBlock≠some l:=fun aV hv gG fQ=>(by have:=hv l fQ;omega);refine⟨?_,fun cX=>⟨?_,fun h=> ?_⟩,fun cX=>⟨?_,fun h=> ?_⟩⟩
      ·rcases ca with h|h|h
       ·have:=bh.out;omega
       ·exact(eR l h).2
       ·exact(cQ l h).2
      ·rcases ca with h|h|h
       ·exact e5 L (fun l h=>(a9 l h).1) h
       ·intro a1;unfold zsc at m;split at m
        ·exact cX rfl
        ·cases m;have:=(a9 _ a1).1;omega
        ·cases m;have:=(a9 _ a1).1;omega
        ·exact ae.out.ne l a1 m
        ·cases m
       ·exact fun a1=>ae.out.ne l a1 h
      ·have:=b5 l h;rcases ca with h|h|h
       ·omega
       ·exact this.2.2.1 h
       ·exact this.2.2.2 h
      ·rcases ca with h|h|h
       ·exact e5 K (fun l h=>(bd l h).1) h
       ·exact ae.out.ne l h
       ·intro a1;unfold zsc at m;split at m
        ·exact ae.out.ne l m a1
        ·cases m;have:=(bd _ a1).1;omega
        ·cases m;have:=(bd _ a1).1;omega
        ·exact cX rfl
        ·cases m
      ·have:=cS l h;rcases ca with h|h|h
       ·omega
       ·exact this.2.2.1 h
       ·exact this.2.2.2 h
     obtain⟨cs,bH,bN⟩:=G4 (J6 dp.out (r:=some g) (c:=v) (bg.out)) (dn.out.grownN bg.out fun l m=>by cases m;omega) (bM.out.grownN bg.out fun l m=>by cases m;omega);have ay:=d ae.out;clear ae bC a9 bd eR cQ b4 b5 cS;rw[<-e9] at de⊢;clear e9;go_wp2_with fail;refine zof fun ops u=> ?_;have T:=C6 (j:=0) u rfl;have P:=C6 (j:=1) u rfl;have U:=C6 (j:=2) u rfl;have V:=C6 (j:=3) u rfl;have N:=C6 (j:=4) u rfl;have W:=C6 (j:=5) u rfl;have Y:=C6 (j:=6) u rfl;have S:=C6 (j:=7) u rfl;have Z:=C6 (j:=8) u rfl;have aa:=C6 (j:=9) u rfl;have aq:=C6 (j:=10) u rfl;have ak:=C6 (j:=11) u rfl;have ar:=C6 (j:=12) u rfl;have au:=C6 (j:=13) u rfl;have av:=C6 (j:=14) u rfl;have al:=C6 (j:=15) u rfl;have an:=C6 (j:=16) u rfl;have aD:=C6 (j:=17) u rfl;have aE:=C6 (j:=18) u rfl;have aG:=C6 (j:=19) u rfl;have p:=fun db h=>zsz (n:=17) u db h;refine ztd 17 (zkr g (w.heap.size+1) L K R ah af v.heap.size (w.heap.size+2) ab ac A B Q) (ylz (w.heap.size+2) L K (.slice R ah af) ab ac A B Q) (JD g (w.heap.size+1) aO [L,K,.slice none 0 0] L.ownBlock K.ownBlock v) (fun O w w'=>w.grownBy w' (zsc g L K O)) kr ?hJ0 ?hP0 ?hPs ?hst (by rw[u];kernel_rfl) (by rw[u];kernel_rfl) ?step ?fin;(case hJ0=>exact⟨di.out.grownN (K7 (row:=none) (U7 _)) (fun l m=>by cases m),bN.out,(Kept.refl _ _ _ _).step (K7 (row:=none) (U7 _)) (.inl rfl)⟩);case hP0=>exact fun aI=>⟨fun _=>⟨dr.out,de.out⟩,fun _=>fy.out⟩
     case hPs=>
      intro aI O cn cq a3 h D a2;refine⟨fun fU=> ?_,fun fP=> ?_⟩
      ·subst fU;have h:=And.left h rfl;exact⟨h.1.grown IsV.stb a2 fun l m=>((bt.out O l m).2.1 (Ne.symm a3)),IsV.stb.to h.2 (zni a2 fun l s=>⟨i (ct.out l s).2.1 D.2.2.size,fun m=>((bt.out O l m.symm).2.1 (Ne.symm a3)).2 s⟩)⟩
      ·subst fP;exact(And.right h rfl).grown IsR.stb a2 fun l m=>((bt.out O l m).2.2 (Ne.symm a3))
     case hst=>exact fun aI O aV cn cq X ad a3 cU h D a2=>yvx bt.out aI O aV cn cq X ad a3 cU h a2
     case step=>
      intro aI gx bE t a z X I bD D G M o E;obtain⟨H,bB⟩:=a;replace I:H.size=65:=I;obtain rfl:bB=[]:=bD;match aI,bE,t,M,G with
      |0,_,t,M,G=>obtain rfl:=b (T.symm.trans t);have a0:H[7]? =some (.pointer (some ⟨(w.heap.size+1),0,none⟩)):=o 7 (p 7 kr);refine F0 rfl ?_;refine Y8 (E:=fun w'=>z.grownBy w' (none)) (Φ:=zkr g (w.heap.size+1) L K R ah af v.heap.size (w.heap.size+2) ab ac A B Q 0) fun ai F=> ?_;clear E o I u p T P U V N W Y S Z aa aq ak ar au av al an aD aE aG;go_simp;exact F (.pointer (some ⟨(w.heap.size+1),0,none⟩)) _ (H8 _ _) D rfl
      |1,_,t,M,G=>obtain rfl:=b (P.symm.trans t);have d32:(H.getD 32 c)= .pointer (some ⟨(w.heap.size+1),0,none⟩):=(E 0 _ (C7 kr) T).2;have gH:=I8 og d32;clear d32;obtain⟨bu,bv,bw⟩:=C3 D.2.1;refine F0 rfl ?_;refine Y8 (E:=fun w'=>z.grownBy w' (none)) (Φ:=zkr g (w.heap.size+1) L K R ah af v.heap.size (w.heap.size+2) ab ac A B Q 1) fun ai F=> ?_;clear E o I u p T P U V N W Y S Z aa aq ak ar au av al an aD aE aG;go_simp;exact F (L) _ (H8 _ _) D rfl
      |2,_,t,M,G=>obtain rfl:=b (U.symm.trans t);have eE:H[9]? =some (.slice R ah af):=o 9 (p 9 kr);refine F0 rfl ?_;refine Y8 (E:=fun w'=>z.grownBy w' (none)) (Φ:=zkr g (w.heap.size+1) L K R ah af v.heap.size (w.heap.size+2) ab ac A B Q 2) fun ai F=> ?_;clear E o I u p T P U V N W Y S Z aa aq ak ar au av al an aD aE aG;go_simp;exact F (.slice R ah af) _ (H8 _ _) D rfl
      |3,_,t,M,G=>obtain rfl:=b (V.symm.trans t);have d34:(H.getD 34 c)= .slice R ah af:=(E 2 _ (C7 kr) U).2;have gI:=I8 og d34;clear d34;refine F0 rfl ?_;refine Y8 (E:=fun w'=>z.grownBy w' (none)) (Φ:=zkr g (w.heap.size+1) L K R ah af v.heap.size (w.heap.size+2) ab ac A B Q 3) fun ai F=> ?_;clear E o I u p T P U V N W Y S Z aa aq ak ar au av al an aD aE aG;go_simp;exact F (.slice (some ⟨z.heap.size,0,none⟩) 1 1) _ (zla _ _ _) (D.step (zla _ _ _) (.inl rfl) (fun l m=>by cases m)) ⟨z.heap.size,rfl,D.2.2.size,heap_alloc_new _ _⟩
      |4,_,t,M,G=>obtain rfl:=b (N.symm.trans t);have d33:(H.getD 33 c)=L:=(E 1 _ (C7 kr) P).2;have fR:=I8 og d33;clear d33;have d35:NewRow z v.heap.size 30 [.slice R ah af] (H.getD 35 c):=(E 3 _ (C7 kr) V).2;obtain⟨g6,fS,eF⟩:=L6 (T:=H) (t:=35) og;rw[eF] at d35;clear eF;refine F0 rfl ?_;refine Y8 (E:=fun w'=>z.grownBy w' (L.ownBlock)) (Φ:=zkr g (w.heap.size+1) L K R ah af v.heap.size (w.heap.size+2) ab ac A B Q 4) fun ai F=> ?_;clear E o I u p T P U V N W Y S Z aa aq ak ar au av al an aD aE aG;obtain⟨gX,rfl,e7,b9⟩:=d35;refine zrn elV (.tmp 33) (.tmp 35) rfl IsV.stb (zmo fR) (zmo fS) (ev:= .slice R ah af) b9 (And.left G rfl).1 (And.left G rfl).2 rfl (by intro ad aS;simp[Value.cells] at aS;subst aS;rfl) (by have:=cu.out;omega) (e br.out D.2.2.size) fun cl w' aH aC aK=>F cl w' aC (D.step aC (.inr (.inl rfl)) fK.out) ⟨aH,aK.imp id fun h=>⟨_,h,D.2.2.size⟩⟩
      |5,_,t,M,G=>obtain rfl:=b (W.symm.trans t);have a0:H[7]? =some (.pointer (some ⟨(w.heap.size+1),0,none⟩)):=o 7 (p 7 kr);refine F0 rfl ?_;refine Y8 (E:=fun w'=>z.grownBy w' (none)) (Φ:=zkr g (w.heap.size+1) L K R ah af v.heap.size (w.heap.size+2) ab ac A B Q 5) fun ai F=> ?_;clear E o I u p T P U V N W Y S Z aa aq ak ar au av al an aD aE aG;go_simp;exact F (.pointer (some ⟨(w.heap.size+1),1,none⟩)) _ (H8 _ _) D rfl
      |6,_,t,M,G=>obtain rfl:=b (Y.symm.trans t);have d37:(H.getD 37 c)= .pointer (some ⟨(w.heap.size+1),1,none⟩):=(E 5 _ (C7 kr) W).2;have gJ:=I8 og d37;clear d37;obtain⟨bu,bv,bw⟩:=C3 D.2.1;refine F0 rfl ?_;refine Y8 (E:=fun w'=>z.grownBy w' (none)) (Φ:=zkr g (w.heap.size+1) L K R ah af v.heap.size (w.heap.size+2) ab ac A B Q 6) fun ai F=> ?_;clear E o I u p T P U V N W Y S Z aa aq ak ar au av al an aD aE aG;go_simp;exact F (K) _ (H8 _ _) D rfl
      |7,_,t,M,G=>obtain rfl:=b (S.symm.trans t);have eD:H[0]? =some (.pointer (some ⟨g,0,none⟩)):=o 0 (p 0 kr);refine F0 rfl ?_;refine Y8 (E:=fun w'=>z.grownBy w' (none)) (Φ:=zkr g (w.heap.size+1) L K R ah af v.heap.size (w.heap.size+2) ab ac A B Q 7) fun ai F=> ?_;clear E o I u p T P U V N W Y S Z aa aq ak ar au av al an aD aE aG;go_simp;exact F (.pointer (some ⟨g,0,none⟩)) _ (H8 _ _) D rfl
      |8,_,t,M,G=>obtain rfl:=b (Z.symm.trans t);have d39:(H.getD 39 c)= .pointer (some ⟨g,0,none⟩):=(E 7 _ (C7 kr) S).2;have gK:=I8 og d39;clear d39;have cr:X 4=some (H.getD 36 c):=(E 4 _ (C7 kr) N).1;have gh:∀l,(H.getD 36 c).ownBlock=some l->w.heap.size+2<=l/\l<z.heap.size:=fun l s=>OwnS.own_lt (E 4 _ (C7 kr) N).2.1 l s;refine F0 rfl ?_;refine Y8 (E:=fun w'=>z.grownBy w' (some g)) (Φ:=zkr g (w.heap.size+1) L K R ah af v.heap.size (w.heap.size+2) ab ac A B Q 8) fun ai F=> ?_;clear E o I u p T P U V N W Y S Z aa aq ak ar au av al an aD aE aG;go_simp;refine(zsr D.1 12 og og).mono ?_;rintro m w' ⟨⟨x,aU,be,rfl⟩,hD,aX⟩;exact F (.int .i64 x) w' aX.grown (D.draw hD aX cv.out) ⟨⟨x,aU,by omega,rfl⟩,_,zqm cr M,fun l s=>i (gh l s).2 (Nat.le_of_eq aX.size.symm)⟩
      |9,_,t,M,G=>obtain rfl:=b (aa.symm.trans t);have d40:(∃x:Int,0<=x/\x<=11/\(H.getD 40 c)= .int .i64 x)/\(∃ad,X 4=some ad/\∀l,ad.ownBlock=some l->l<z.heap.size):=(E 8 _ (C7 kr) Z).2;obtain⟨g8,gL,eG⟩:=L6 (T:=H) (t:=40) og;rw[eG] at d40;clear eG;obtain⟨⟨x,aU,be,rfl⟩,_⟩:=d40;have aT:IntKind.i64.wrap (x-3)=x-3:=IntWalk.i64_in _ og;refine F0 rfl ?_;refine Y8 (E:=fun w'=>z.grownBy w' (none)) (Φ:=zkr g (w.heap.size+1) L K R ah af v.heap.size (w.heap.size+2) ab ac A B Q 9) fun ai F=> ?_;clear E o I u p T P U V N W Y S Z aa aq ak ar au av al an aD aE aG;go_simp;clear aT;exact F (.int .i64 (x-3)) _ (H8 _ _) D ⟨x-3,by omega,by omega,rfl⟩
      |10,_,t,M,G=>obtain rfl:=b (aq.symm.trans t);have eD:H[0]? =some (.pointer (some ⟨g,0,none⟩)):=o 0 (p 0 kr);refine F0 rfl ?_;refine Y8 (E:=fun w'=>z.grownBy w' (none)) (Φ:=zkr g (w.heap.size+1) L K R ah af v.heap.size (w.heap.size+2) ab ac A B Q 10) fun ai F=> ?_;clear E o I u p T P U V N W Y S Z aa aq ak ar au av al an aD aE aG;go_simp;exact F (.pointer (some ⟨g,0,none⟩)) _ (H8 _ _) D rfl
      |11,_,t,M,G=>obtain rfl:=b (ak.symm.trans t);have d42:(H.getD 42 c)= .pointer (some ⟨g,0,none⟩):=(E 10 _ (C7 kr) aq).2;have gN:=I8 og d42;clear d42;have c1:∃ad,X 4=some ad/\∀l,ad.ownBlock=some l->l<z.heap.size:=(E 8 _ (C7 kr) Z).2.2;refine F0 rfl ?_;refine Y8 (E:=fun w'=>z.grownBy w' (some g)) (Φ:=zkr g (w.heap.size+1) L K R ah af v.heap.size (w.heap.size+2) ab ac A B Q 11) fun ai F=> ?_;clear E o I u p T P U V N W Y S Z aa aq ak ar au av al an aD aE aG;go_simp;refine(zsr D.1 2 og og).mono ?_;rintro m w' ⟨⟨x,aU,be,rfl⟩,hD,aX⟩;exact F (.int .i64 x) w' aX.grown (D.draw hD aX cv.out) ⟨⟨x,aU,by omega,rfl⟩,ybi c1 M (Nat.le_of_eq aX.size.symm)⟩
      |12,_,t,M,G=>obtain rfl:=b (ar.symm.trans t);have d43:(∃x:Int,0<=x/\x<=1/\(H.getD 43 c)= .int .i64 x)/\(∃ad,X 4=some ad/\∀l,ad.ownBlock=some l->l<z.heap.size):=(E 11 _ (C7 kr) ak).2;obtain⟨hb,gO,eI⟩:=L6 (T:=H) (t:=43) og;rw[eI] at d43;clear eI;obtain⟨⟨x,aU,be,rfl⟩,_⟩:=d43;have aT:IntKind.i64.wrap (1+x)=1+x:=IntWalk.i64_in _ og;refine F0 rfl ?_;refine Y8 (E:=fun w'=>z.grownBy w' (none)) (Φ:=zkr g (w.heap.size+1) L K R ah af v.heap.size (w.heap.size+2) ab ac A B Q 12) fun ai F=> ?_;clear E o I u p T P U V N W Y S Z aa aq ak ar au av al an aD aE aG;go_simp;clear aT;exact F (.int .i64 (1+x)) _ (H8 _ _) D ⟨1+x,by omega,by omega,rfl⟩
      |13,_,t,M,G=>obtain rfl:=b (au.symm.trans t);have d41:(∃x:Int,-3<=x/\x<=8/\(H.getD 41 c)= .int .i64 x):=(E 9 _ (C7 kr) aa).2;obtain⟨g9,gM,eH⟩:=L6 (T:=H) (t:=41) og;rw[eH] at d41;clear eH;have d44:(∃x:Int,1<=x/\x<=2/\(H.getD 44 c)= .int .i64 x):=(E 12 _ (C7 kr) ar).2;obtain⟨he,gP,eJ⟩:=L6 (T:=H) (t:=44) og;rw[eJ] at d44;clear eJ;have c1:∃ad,X 4=some ad/\∀l,ad.ownBlock=some l->l<z.heap.size:=(E 11 _ (C7 kr) ak).2.2;obtain⟨x,aU,be,rfl⟩:=d41;obtain⟨y,gv,gw,rfl⟩:=d44;refine F0 rfl ?_;refine Y8 (E:=fun w'=>z.grownBy w' (none)) (Φ:=zkr g (w.heap.size+1) L K R ah af v.heap.size (w.heap.size+2) ab ac A B Q 13) fun ai F=> ?_;clear E o I u p T P U V N W Y S Z aa aq ak ar au av al an aD aE aG;go_simp;refine(ybx x y og og og).mono ?_;rintro m w' ⟨⟨aV,q,rfl,a4,c2⟩,s⟩;exact F aV w' (K7 s) (D.step (K7 s) (.inl rfl) (fun l m=>by cases m)) ⟨q,z.heap.size,w'.heap.size,c2,⟨D.2.2.size,s.size⟩,f _,zts c1 M,a4⟩
      |14,_,t,M,G=>obtain rfl:=b (av.symm.trans t);have d45:PRat z v.heap.size (fun aj=>∃ad,X 4=some ad/\∀l,ad.ownBlock=some l->l<aj) (H.getD 45 c):=(E 13 _ (C7 kr) au).2;obtain⟨hh,gQ,eK⟩:=L6 (T:=H) (t:=45) og;rw[eK] at d45;clear eK;refine F0 rfl ?_;refine Y8 (E:=fun w'=>z.grownBy w' (none)) (Φ:=zkr g (w.heap.size+1) L K R ah af v.heap.size (w.heap.size+2) ab ac A B Q 14) fun ai F=> ?_;clear E o I u p T P U V N W Y S Z aa aq ak ar au av al an aD aE aG;obtain⟨q,aj,t,aH,aC,aK,aL,aR⟩:=d45;obtain⟨bG,bm,ao,bi,bF,rfl,_,_,_⟩:=G9 aR;go_simp;exact F (.slice (some ⟨z.heap.size,0,none⟩) 1 1) _ (zla _ _ _) (D.step (zla _ _ _) (.inl rfl) (fun l m=>by cases m)) ⟨q,aj,t,.agg #[.bool bG,.slice bm (A9 q.num.natAbs).length ao,.slice bi (A9 q.den).length bF],aH,aC,e aK (zla z _ none).size,zts aL M,aR.rngG (zla _ _ none) aK (fun l m=>by cases m),z.heap.size,rfl,D.2.2.size,heap_alloc_new _ _⟩
      |15,_,t,M,G=>
       obtain rfl:=b (al.symm.trans t);have d38:(H.getD 38 c)=K:=(E 6 _ (C7 kr) Y).2;have fT:=I8 og d38;clear d38;have d46:PRow z v.heap.size (fun aj=>∃ad,X 4=some ad/\∀l,ad.ownBlock=some l->l<aj) (H.getD 46 c):=(E 14 _ (C7 kr) av).2;obtain⟨hi,fV,eL⟩:=L6 (T:=H) (t:=46) og;rw[eL] at d46;clear eL;refine F0 rfl ?_;refine Y8 (E:=fun w'=>z.grownBy w' (K.ownBlock)) (Φ:=zkr g (w.heap.size+1) L K R ah af v.heap.size (w.heap.size+2) ab ac A B Q 15) fun ai F=> ?_;clear E o I u p T P U V N W Y S Z aa aq ak ar au av al an aD aE aG;obtain⟨q,aj,t,m,aH,aC,aK,aL,aR,h,rfl,e7,b9⟩:=d46;replace G:=And.right G rfl;obtain⟨bG,bm,ao,bi,bF,rfl,_,_,_⟩:=G9 aR;refine zrn zli (.tmp 38) (.tmp 46) rfl IsR.stb (zmo fT) (zmo fV) (ev:= .agg #[.bool bG,.slice bm (A9 q.num.natAbs).length ao,.slice bi (A9 q.den).length bF]) (y:=D8 q) b9 (OwnS.wider IsR.stb (T:=fun l=>ac l\/N5 aj t l) G (fun l h=> .inl h) ?_) (IsR.stb.to aR (E0 fun l h=> .inr h)) rfl (by intro ad aS;simp[Value.cells] at aS;rcases aS with rfl|rfl|rfl<;>rfl) (by rw[U6];have:=cu.out;omega) (e br.out D.2.2.size) fun cl w' bf ao a6=>F cl w' ao (D.step ao (.inr (.inr rfl)) fL.out) ⟨q,aj,t,aH,aC,e aK ao.size,zts aL M,bf,a6.imp id fun h=>⟨_,h,aK,D.2.2.size⟩⟩;have gl:=OwnS.own_lt G;have c4:=ds.out;intro l s;obtain⟨cw,bf,ao,a6,aQ⟩:=G;rcases s with s|s
       ·exact aQ l s
       ·exact⟨i s.2 aK,fun m=>by have:=c4 l m.symm;have:=s.1;omega⟩
      |16,_,t,M,G=>obtain rfl:=b (an.symm.trans t);have a0:H[7]? =some (.pointer (some ⟨(w.heap.size+1),0,none⟩)):=o 7 (p 7 kr);refine F0 rfl ?_;refine Y8 (E:=fun w'=>z.grownBy w' (none)) (Φ:=zkr g (w.heap.size+1) L K R ah af v.heap.size (w.heap.size+2) ab ac A B Q 16) fun ai F=> ?_;clear E o I u p T P U V N W Y S Z aa aq ak ar au av al an aD aE aG;go_simp;exact F (.pointer (some ⟨(w.heap.size+1),0,none⟩)) _ (H8 _ _) D rfl
      |aI+17,bE,t,M,G=>exact absurd bE og
     case fin=>
      intro a z X I bD D o aM;obtain⟨⟨aO⟩,bB⟩:=a;replace I:aO.length=65:=I;obtain⟨r,rfl⟩:=yid I;obtain rfl:bB=[]:=bD;have bO:r 0= .pointer (some ⟨g,0,none⟩):=b (o 0 (p 0 kr));have bP:r 1= .int .i64 (aB:Int):=b (o 1 (p 1 kr));have bR:r 2= .int .i64 (m0:Int):=b (o 2 (p 2 kr));have bT:r 3=c:=b (o 3 (p 3 kr));have bU:r 4=c:=b (o 4 (p 4 kr));have bV:r 5=c:=b (o 5 (p 5 kr));have bX:r 6= .pointer (some ⟨w.heap.size,0,none⟩):=b (o 6 (p 6 kr));have bZ:r 7= .pointer (some ⟨(w.heap.size+1),0,none⟩):=b (o 7 (p 7 kr));have b0:r 8= .int .i64 (aN:Int):=b (o 8 (p 8 kr));have b1:r 9= .slice R ah af:=b (o 9 (p 9 kr));have bQ:r 11=c:=b (o 11 (p 11 kr));have em:r 50=c:=b (o 50 (p 50 kr));have en:r 51=c:=b (o 51 (p 51 kr));have eo:r 52=c:=b (o 52 (p 52 kr));have ep:r 53=c:=b (o 53 (p 53 kr));have er:r 54=c:=b (o 54 (p 54 kr));have et:r 55=c:=b (o 55 (p 55 kr));have eu:r 56=c:=b (o 56 (p 56 kr));have ev:r 57=c:=b (o 57 (p 57 kr));have ew:r 58=c:=b (o 58 (p 58 kr));have ey:r 59=c:=b (o 59 (p 59 kr));have ez:r 60=c:=b (o 60 (p 60 kr));have eA:r 61=c:=b (o 61 (p 61 kr));have eB:r 62=c:=b (o 62 (p 62 kr));have eC:r 63=c:=b (o 63 (p 63 kr));have bY:r 64=c:=b (o 64 (p 64 kr));have cr:X 4=some (r 36):=(aM 4 _ og N).1;have cH:(OwnS 1 30 IsV z (w.heap.size+2) ab (r 36) (F9 A++[C0 Q])/\((r 36).ownBlock=L.ownBlock\/∃l,(r 36).ownBlock=some l/\v.heap.size<=l)):=(aM 4 _ og N).2;have fm:X 15=some (r 47):=(aM 15 _ og al).1;have cI:PApp z (w.heap.size+2) v.heap.size (fun aj=>∃ad,X 4=some ad/\∀l,ad.ownBlock=some l->l<aj) ac K (C0 B) (r 47):=(aM 15 _ og al).2;have gA:X 16=some (r 48):=(aM 16 _ og an).1;have fi:(r 48)= .pointer (some ⟨(w.heap.size+1),0,none⟩):=(aM 16 _ og an).2;clear gA;clear aM o I;rw[u];clear u p T P U V N W Y S Z aa aq ak ar au av al an aD aE aG;rw[bO,bP,bR,bT,bU,bV,bX,bZ,b0,b1,bQ,em,en,eo,ep,er,et,eu,ev,ew,ey,ez,eA,eB,eC,bY,fi];clear bO bP bR bT bU bV bX bZ b0 b1 bQ em en eo ep er et eu ev ew ey ez eA eB eC bY fi;obtain⟨t36,fc⟩:=nm (r 36);rw[<-fc] at cH cr⊢;clear fc;obtain⟨t47,fe⟩:=nm (r 47);rw[<-fe] at cI fm⊢;clear fe;obtain⟨bu,bv,bw⟩:=C3 D.2.1;obtain⟨cx,cy,cz⟩:=F7 D.2.1;obtain⟨dc,fg,rfl⟩:=cH.1.slice;obtain⟨cg,bL,cf,rfl⟩:∃n A O,t47= .slice A n O:=(by obtain⟨a8,aj,t,ch,c8,c9,cG,a7,cj⟩:=cI;exact⟨_,a7.slice⟩);obtain⟨aP,fz,fD,fO⟩:=Z5 D cH cI cr;clear D cH cI cr fm;have cF:=dq.out;show wpList _ _ _ [_,_,_] _ _;go_wp2_with fail;clear bu bv bw cx cy cz;go_roundw
      case rel=>
       obtain⟨a8,aj,t,ch,c8,c9,cG,a7,cj⟩:=fD.out;obtain⟨hq,gz,da⟩:=cG;obtain rfl:=b (fO.out.symm.trans gz);have ck:=fz.out;have eE:(F9 A++[C0 Q]).length=(F9 A).length+1:=(by simp);rw[eE] at ck da;obtain⟨dt,cB⟩:=nm (z.setCell ⟨w.heap.size+1,0,none⟩ (.slice dc ((F9 A).length+1) fg));have fZ:z.grownBy dt (some (w.heap.size+1)):=(by rw[cB];exact I9 _ _ _ _);obtain⟨aA,aJ⟩:=nm (dt.setCell ⟨w.heap.size+1,1,none⟩ (.slice bL cg cf));have aW:z.grownBy aA (some (w.heap.size+1)):=(by rw[aJ];exact J6 fZ (I9 _ _ _ _));have cR:Row aA (w.heap.size+1) 32 [.slice dc ((F9 A).length+1) fg,.slice bL cg cf,.slice none 0 0]:=by rw[aJ,cB];exact(aP.out.2.1.set_ 0 _).set_ 1 _
       have b3:w.grownBy aA (some g):=by
        rw[aJ,cB];refine ztm (ztm (ygr cs.out aP.out.2.2 (fun l m=> ?_) (fun l m=> ?_)) (Nat.le_succ _) _ _) (Nat.le_succ _) _ _
        ·have:=(OwnS.own_lt ay.out.ownA l m).1;omega
        ·have:=(OwnS.own_lt ay.out.ownB l m).1;omega
       have cV:Row aA w.heap.size 32 [.slice none 0 0,.slice none 0 0,.slice none 0 0]:=(bH.out.kept aP.out.2.2 (fun m=>by cases m;omega) (fun m=>by have:=(OwnS.own_lt ay.out.ownA _ m).1;omega) (fun m=>by have:=(OwnS.own_lt ay.out.ownB _ m).1;omega)).grownN aW (fun l m=>by cases m;omega);rw[<-cB,<-aJ]
       have cb:∀l,¬(ac l\/N5 aj t l)\/w.heap.size+2<=l:=fun l=>by
        by_cases h:ac l\/N5 aj t l
        ·refine .inr ?_;rcases h with h|h
         ·exact(cO.out l h).1
         ·have:=br.out;have:=h.1;omega
        ·exact .inl h
       refine⟨aN+1,_,_,ab,fun l=>ac l\/N5 aj t l,A++[Q],B++[a8],by omega,by go_num,b3,aP.out.1.grown aW og,cV,cR,?_⟩;have fX:F9 (A++[Q])=F9 A++[C0 Q]:=(by simp[F9]);have a0:C0 (B++[a8])=C0 B++[D8 a8]:=(by simp[C0]);have gy:=OwnS.own_lt ck.1;have c7:=OwnS.own_lt a7
       refine⟨by rw[List.length_append,ay.out.lA];rfl,by rw[List.length_append,ay.out.lB];rfl,fun row gq=> ?_,fun m aY=> ?_,by rw[fX];exact ck.1.grown IsV.stb aW fun l m=>⟨fun aZ=>by have:=(gy l aZ).1;cases m;omega,fun h=>by have:=(ct.out l h).1;cases m;omega⟩,
        by rw[a0];exact a7.grown IsR.stb aW fun l m=>⟨fun aZ=>by have:=(c7 l aZ).1;cases m;omega,fun h=>by rcases cb l with bI|bI;exact bI h;cases m;omega⟩,fun l s=>⟨(ct.out l s).1,?_⟩,fun l s=>⟨?_,?_⟩,fun l s=> ?_⟩
       ·rcases List.mem_append.1 gq with h|h
        ·exact ay.out.rows row h
        ·rw[List.mem_singleton] at h;rw[h];exact⟨hr.out.1,hr.out.2.1⟩
       ·rcases List.mem_append.1 aY with h|h
        ·exact ay.out.szB m h
        ·rw[List.mem_singleton] at h;rw[h];exact ch
       ·have aT:=ct.out l s;rcases cj with h|⟨du,h,eQ,ga⟩
        ·rw[h];exact aT.2.2.2
        ·rw[h];intro m;cases m;omega
       ·rcases cb l with h|h
        ·exact absurd s h
        ·exact h
       ·rcases ck.2 with h|⟨du,h,eQ⟩
        ·rw[h];rcases s with s|s
         ·exact(cO.out l s).2.2.1
         ·intro m;have:=(OwnS.own_lt dr.out l m).2;have:=s.1;omega
        ·rw[h];intro m;cases m;rcases s with s|s
         ·have:=(cO.out _ s).2.1;omega
         ·have:=da _ h;have:=s.1;omega
       ·rcases cj with h|⟨du,h,eQ,ga⟩
        ·rw[h];rcases ck.2 with bI|⟨gF,bI,gY⟩
         ·rw[bI] at s;exact ay.out.ne l s
         ·rw[bI] at s;cases s;intro m;have:=ds.out _ m;omega
        ·rw[h];intro m;cases m;have:=da _ s;omega
      case measure=>simp[intOf];omega
  ·obtain rfl:aN=m0:=(by have:=ft.out;omega);have a9:=OwnS.own_lt ae.out.ownA;have bd:=OwnS.own_lt ae.out.ownB;obtain⟨bn,bx,rfl⟩:=ae.out.ownA.slice;obtain⟨bp,bA,rfl⟩:=ae.out.ownB.slice;have eU:IsM J (N5 (w.heap.size+2) J.heap.size) (.slice bn (F9 A).length bx) (F9 A):=OwnS.isS IsV.stb (T:=N5 (w.heap.size+2) J.heap.size) ae.out.ownA (fun l s=>⟨(ae.out.sA l s).1,by obtain⟨_,_,_,_,aL⟩:=ae.out.ownA;exact(aL l s).1⟩) (fun l aH aC=>⟨aH,aC⟩);have e0:IsV J (N5 (w.heap.size+2) J.heap.size) (.slice bp (C0 B).length bA) (C0 B):=OwnS.isS IsR.stb (T:=N5 (w.heap.size+2) J.heap.size) ae.out.ownB (fun l s=>⟨(ae.out.sB l s).1,by obtain⟨_,_,_,_,aL⟩:=ae.out.ownB;exact(aL l s).1⟩) (fun l aH aC=>⟨aH,aC⟩);obtain⟨dj,dk⟩:=C4 eU e0;have ay:=d ae.out;obtain⟨bJ,cY⟩:=nm ((F9 A).length);obtain⟨bK,cZ⟩:=nm ((C0 B).length);rw[<-cY] at dj bM;rw[<-cZ] at dk bM;obtain⟨fu,fv⟩:=C4 cY cZ;clear ae a9 bd eU e0 cY cZ;go_wp2_with fail
   go_loopw [11] (fun O wr=>∃(aB:Nat) (ag:Value) (az:Nat->Prop) (C:List Rat),aB<=n/\O= .int .i64 (aB:Int)/\w.grownBy wr (some g)/\IsD wr g aO/\Row wr w.heap.size 32 [.slice none 0 0,.slice none 0 0,.slice none 0 0]/\Row wr (w.heap.size+1) 32 [.slice bn bJ bx,.slice bp bK bA,ag]/\OwnS 3 37 IsR wr J.heap.size az ag (C0 C)/\
    Hid (C.length=aB/\(∀m∈C,zok m)/\(∀l,az l->J.heap.size<=l)/\IsM wr (N5 (w.heap.size+2) J.heap.size) (.slice bn bJ bx) (F9 A)/\IsV wr (N5 (w.heap.size+2) J.heap.size) (.slice bp bK bA) (C0 B)/\J.heap.size<=wr.heap.size)) (fun O _=>n-(intOf O).toNat)
   case atStart=>exact⟨0,_,fun _=>False,[],k _,rfl,dp.out,cM.out,dn.out,bM.out,OwnS.nil (fun l h=>h.elim),rfl,(fun _ h=>by cases h),(fun l h=>h.elim),dj.out,dk.out,f _⟩
   case round=>
    obtain⟨aB,ag,az,C,hc,rfl,b8,hD,b7,G,cc,hr⟩:=hrel;obtain⟨v,rfl⟩:=nm (wr);obtain⟨cs,dd,bH,bN,bj⟩:=hd5 b8 hD b7 G cc;have hr:=hr;clear b8 hD b7 G cc;rcases j aB n with cD|cD
    ·have a5:=OwnS.own_lt bj.out;have cT:∀l,az l->J.heap.size<=l/\l<v.heap.size/\ag.ownBlock≠some l:=fun l s=>(by obtain⟨cw,bf,ao,a6,aQ⟩:=bj.out;exact⟨hr.out.2.2.1 l s,(aQ l s).1,fun m=>(aQ l s).2 m.symm⟩);have fJ:=d cT;have cv:Hid ((w.heap.size+1)≠g):=(by rw[Hid];omega);have br:Hid (J.heap.size<=v.heap.size):=hr.out.2.2.2.2.2;have cu:Hid (C.length<100):=(by rw[Hid,hr.out.1];omega);have fM:Hid (∀l,ag.ownBlock=some l->g<l/\(w.heap.size+1)≠l):=fun l m=>(by have:=(a5 l m).1;have:=bh.out;omega);have fN:Hid (∀l,ag.ownBlock=some l->l<v.heap.size):=fun l m=>(a5 l m).2
     have bt:Hid (∀O l,zur g ag O=some l->l<v.heap.size/\(O≠7->ag.ownBlock≠some l/\¬az l)):=by
      intro O l m;have c6:=bh.out;have cd:=br.out;unfold zur at m;split at m
      ·cases m;exact⟨by omega,fun _=>⟨fun h=>by have:=(a5 _ h).1;omega,fun h=>by have:=(cT _ h).1;omega⟩⟩
      ·exact⟨(a5 l m).2,fun h=>absurd rfl h⟩
      ·cases m
     clear a5 cT;go_wp2_with fail;refine zof fun ops u=> ?_;have T:=C6 (j:=0) u rfl;have P:=C6 (j:=1) u rfl;have U:=C6 (j:=2) u rfl;have V:=C6 (j:=3) u rfl;have N:=C6 (j:=4) u rfl;have W:=C6 (j:=5) u rfl;have Y:=C6 (j:=6) u rfl;have S:=C6 (j:=7) u rfl;have Z:=C6 (j:=8) u rfl;have aa:=C6 (j:=9) u rfl;have p:=fun db h=>zsz (n:=8) u db h;refine ztd 8 (zoi g (w.heap.size+1) ag v.heap.size J.heap.size az C) (yma J.heap.size ag az C) (JD g (w.heap.size+1) aO [.slice bn bJ bx,.slice bp bK bA,ag] ag.ownBlock none v) (fun O w w'=>w.grownBy w' (zur g ag O)) kr ?hJ0 ?hP0 ?hPs ?hst (by rw[u];kernel_rfl) (by rw[u];kernel_rfl) ?step ?fin;(case hJ0=>exact⟨dd.out.grownN (K7 (row:=none) (U7 _)) (fun l m=>by cases m),bN.out,(Kept.refl _ _ _ _).step (K7 (row:=none) (U7 _)) (.inl rfl)⟩);(case hP0=>exact fun aI _=>bj.out);(case hPs=>intro aI O cn cq a3 h D a2 a0;subst a0;exact OwnS.grown IsR.stb (h rfl) a2 fun l m=>((bt.out O l m).2 (Ne.symm a3)));case hst=>exact fun aI O aV cn cq X ad a3 cU h D a2=>yvy bt.out aI O aV cn cq X ad a3 cU h a2
     case step=>
      intro aI gx bE t a z X I bD D G M o E;obtain⟨H,bB⟩:=a;replace I:H.size=65:=I;obtain rfl:bB=[]:=bD;match aI,bE,t,M,G with
      |0,_,t,M,G=>obtain rfl:=b (T.symm.trans t);have a0:H[7]? =some (.pointer (some ⟨(w.heap.size+1),0,none⟩)):=o 7 (p 7 kr);refine F0 rfl ?_;refine Y8 (E:=fun w'=>z.grownBy w' (none)) (Φ:=zoi g (w.heap.size+1) ag v.heap.size J.heap.size az C 0) fun ai F=> ?_;clear E o I u p T P U V N W Y S Z aa;go_simp;exact F (.pointer (some ⟨(w.heap.size+1),2,none⟩)) _ (H8 _ _) D rfl
      |1,_,t,M,G=>obtain rfl:=b (P.symm.trans t);have d55:(H.getD 55 c)= .pointer (some ⟨(w.heap.size+1),2,none⟩):=(E 0 _ (C7 kr) T).2;have gR:=I8 og d55;clear d55;obtain⟨bu,bv,bw⟩:=C3 D.2.1;refine F0 rfl ?_;refine Y8 (E:=fun w'=>z.grownBy w' (none)) (Φ:=zoi g (w.heap.size+1) ag v.heap.size J.heap.size az C 1) fun ai F=> ?_;clear E o I u p T P U V N W Y S Z aa;go_simp;exact F (ag) _ (H8 _ _) D rfl
      |2,_,t,M,G=>obtain rfl:=b (U.symm.trans t);have eD:H[0]? =some (.pointer (some ⟨g,0,none⟩)):=o 0 (p 0 kr);refine F0 rfl ?_;refine Y8 (E:=fun w'=>z.grownBy w' (none)) (Φ:=zoi g (w.heap.size+1) ag v.heap.size J.heap.size az C 2) fun ai F=> ?_;clear E o I u p T P U V N W Y S Z aa;go_simp;exact F (.pointer (some ⟨g,0,none⟩)) _ (H8 _ _) D rfl
      |3,_,t,M,G=>obtain rfl:=b (V.symm.trans t);have d57:(H.getD 57 c)= .pointer (some ⟨g,0,none⟩):=(E 2 _ (C7 kr) U).2;have gT:=I8 og d57;clear d57;refine F0 rfl ?_;refine Y8 (E:=fun w'=>z.grownBy w' (some g)) (Φ:=zoi g (w.heap.size+1) ag v.heap.size J.heap.size az C 3) fun ai F=> ?_;clear E o I u p T P U V N W Y S Z aa;go_simp;refine(zsr D.1 9 og og).mono ?_;rintro m w' ⟨⟨x,aU,be,rfl⟩,hD,aX⟩;exact F (.int .i64 x) w' aX.grown (D.draw hD aX cv.out) ⟨x,aU,by omega,rfl⟩
      |4,_,t,M,G=>obtain rfl:=b (N.symm.trans t);have d58:(∃x:Int,0<=x/\x<=8/\(H.getD 58 c)= .int .i64 x):=(E 3 _ (C7 kr) V).2;obtain⟨hj,gU,eM⟩:=L6 (T:=H) (t:=58) og;rw[eM] at d58;clear eM;obtain⟨x,aU,be,rfl⟩:=d58;have aT:IntKind.i64.wrap (x-4)=x-4:=IntWalk.i64_in _ og;refine F0 rfl ?_;refine Y8 (E:=fun w'=>z.grownBy w' (none)) (Φ:=zoi g (w.heap.size+1) ag v.heap.size J.heap.size az C 4) fun ai F=> ?_;clear E o I u p T P U V N W Y S Z aa;go_simp;clear aT;exact F (.int .i64 (x-4)) _ (H8 _ _) D ⟨x-4,by omega,by omega,rfl⟩
      |5,_,t,M,G=>obtain rfl:=b (W.symm.trans t);have d59:(∃x:Int,-4<=x/\x<=4/\(H.getD 59 c)= .int .i64 x):=(E 4 _ (C7 kr) N).2;obtain⟨hk,gV,eN⟩:=L6 (T:=H) (t:=59) og;rw[eN] at d59;clear eN;obtain⟨x,aU,be,rfl⟩:=d59;refine F0 rfl ?_;refine Y8 (E:=fun w'=>z.grownBy w' (none)) (Φ:=zoi g (w.heap.size+1) ag v.heap.size J.heap.size az C 5) fun ai F=> ?_;clear E o I u p T P U V N W Y S Z aa;go_simp;refine(ybx x 1 og og og).mono ?_;rintro m w' ⟨⟨aV,q,rfl,a4,c2⟩,s⟩;exact F aV w' (K7 s) (D.step (K7 s) (.inl rfl) (fun l m=>by cases m)) ⟨q,z.heap.size,w'.heap.size,c2,⟨D.2.2.size,s.size⟩,f _,trivial,a4⟩
      |6,_,t,M,G=>obtain rfl:=b (Y.symm.trans t);have d60:PRat z v.heap.size (fun _=>True) (H.getD 60 c):=(E 5 _ (C7 kr) W).2;obtain⟨hl,gW,eO⟩:=L6 (T:=H) (t:=60) og;rw[eO] at d60;clear eO;refine F0 rfl ?_;refine Y8 (E:=fun w'=>z.grownBy w' (none)) (Φ:=zoi g (w.heap.size+1) ag v.heap.size J.heap.size az C 6) fun ai F=> ?_;clear E o I u p T P U V N W Y S Z aa;obtain⟨q,aj,t,aH,aC,aK,aL,aR⟩:=d60;obtain⟨bG,bm,ao,bi,bF,rfl,_,_,_⟩:=G9 aR;go_simp;exact F (.slice (some ⟨z.heap.size,0,none⟩) 1 1) _ (zla _ _ _) (D.step (zla _ _ _) (.inl rfl) (fun l m=>by cases m)) ⟨q,aj,t,.agg #[.bool bG,.slice bm (A9 q.num.natAbs).length ao,.slice bi (A9 q.den).length bF],aH,aC,e aK (zla z _ none).size,trivial,aR.rngG (zla _ _ none) aK (fun l m=>by cases m),z.heap.size,rfl,D.2.2.size,heap_alloc_new _ _⟩
      |7,_,t,M,G=>
       obtain rfl:=b (S.symm.trans t);have d56:(H.getD 56 c)=ag:=(E 1 _ (C7 kr) P).2;have fW:=I8 og d56;clear d56;have d61:PRow z v.heap.size (fun _=>True) (H.getD 61 c):=(E 6 _ (C7 kr) Y).2;obtain⟨hm,fY,eP⟩:=L6 (T:=H) (t:=61) og;rw[eP] at d61;clear eP;refine F0 rfl ?_;refine Y8 (E:=fun w'=>z.grownBy w' (ag.ownBlock)) (Φ:=zoi g (w.heap.size+1) ag v.heap.size J.heap.size az C 7) fun ai F=> ?_;clear E o I u p T P U V N W Y S Z aa;obtain⟨q,aj,t,m,aH,aC,aK,aL,aR,h,rfl,e7,b9⟩:=d61;replace G:=G rfl;obtain⟨bG,bm,ao,bi,bF,rfl,_,_,_⟩:=G9 aR;refine zrn zli (.tmp 56) (.tmp 61) rfl IsR.stb (zmo fW) (zmo fY) (ev:= .agg #[.bool bG,.slice bm (A9 q.num.natAbs).length ao,.slice bi (A9 q.den).length bF]) (y:=D8 q) b9 (OwnS.wider IsR.stb (T:=fun l=>az l\/N5 aj t l) G (fun l h=> .inl h) ?_) (IsR.stb.to aR (E0 fun l h=> .inr h)) rfl (by intro ad aS;simp[Value.cells] at aS;rcases aS with rfl|rfl|rfl<;>rfl) (by rw[U6];have:=cu.out;omega) (e br.out D.2.2.size) fun cl w' bf ao a6=>F cl w' ao (D.step ao (.inr (.inl rfl)) fM.out) ⟨q,aj,t,aH,aC,e aK ao.size,trivial,bf,a6.imp id fun h=>⟨_,h,aK,D.2.2.size⟩⟩;have gl:=OwnS.own_lt G;have c4:=fN.out;intro l s;obtain⟨cw,bf,ao,a6,aQ⟩:=G;rcases s with s|s
       ·exact aQ l s
       ·exact⟨i s.2 aK,fun m=>by have:=c4 l m.symm;have:=s.1;omega⟩
      |aI+8,bE,t,M,G=>exact absurd bE og
     case fin=>
      intro a z X I bD D o aM;obtain⟨⟨aO⟩,bB⟩:=a;replace I:aO.length=65:=I;obtain⟨r,rfl⟩:=yid I;obtain rfl:bB=[]:=bD;have bO:r 0= .pointer (some ⟨g,0,none⟩):=b (o 0 (p 0 kr));have bP:r 1= .int .i64 (n:Int):=b (o 1 (p 1 kr));have bR:r 2= .int .i64 (aN:Int):=b (o 2 (p 2 kr));have bT:r 3=c:=b (o 3 (p 3 kr));have bU:r 4=c:=b (o 4 (p 4 kr));have bV:r 5=c:=b (o 5 (p 5 kr));have bX:r 6= .pointer (some ⟨w.heap.size,0,none⟩):=b (o 6 (p 6 kr));have bZ:r 7= .pointer (some ⟨(w.heap.size+1),0,none⟩):=b (o 7 (p 7 kr));have b0:r 8= .int .i64 (aN:Int):=b (o 8 (p 8 kr));have b1:r 9=u9:=b (o 9 (p 9 kr));have dv:r 10=u10:=b (o 10 (p 10 kr));have bQ:r 11= .int .i64 (aB:Int):=b (o 11 (p 11 kr));have dw:r 12= .int .i64 (aN:Int):=b (o 12 (p 12 kr));have dx:r 13= .int .i64 (aN:Int):=b (o 13 (p 13 kr));have dy:r 14= .bool false:=b (o 14 (p 14 kr));have dz:r 15=u15:=b (o 15 (p 15 kr));have dA:r 16=u16:=b (o 16 (p 16 kr));have dB:r 17=u17:=b (o 17 (p 17 kr));have dC:r 18=u18:=b (o 18 (p 18 kr));have dD:r 19=u19:=b (o 19 (p 19 kr));have dE:r 20=u20:=b (o 20 (p 20 kr));have dF:r 21=u21:=b (o 21 (p 21 kr));have dG:r 22=u22:=b (o 22 (p 22 kr));have dH:r 23=u23:=b (o 23 (p 23 kr));have dI:r 24=u24:=b (o 24 (p 24 kr));have dJ:r 25=u25:=b (o 25 (p 25 kr));have dK:r 26=u26:=b (o 26 (p 26 kr));have dL:r 27=u27:=b (o 27 (p 27 kr));have dM:r 28=u28:=b (o 28 (p 28 kr));have dN:r 29=u29:=b (o 29 (p 29 kr));have dO:r 30=u30:=b (o 30 (p 30 kr));have dP:r 31=u31:=b (o 31 (p 31 kr));have dQ:r 32=u32:=b (o 32 (p 32 kr));have dR:r 33=u33:=b (o 33 (p 33 kr));have dS:r 34=u34:=b (o 34 (p 34 kr));have dT:r 35=u35:=b (o 35 (p 35 kr));have dU:r 36=u36:=b (o 36 (p 36 kr));have dV:r 37=u37:=b (o 37 (p 37 kr));have dW:r 38=u38:=b (o 38 (p 38 kr));have dX:r 39=u39:=b (o 39 (p 39 kr));have dY:r 40=u40:=b (o 40 (p 40 kr));have dZ:r 41=u41:=b (o 41 (p 41 kr));have ec:r 42=u42:=b (o 42 (p 42 kr));have ed:r 43=u43:=b (o 43 (p 43 kr));have ee:r 44=u44:=b (o 44 (p 44 kr));have eg:r 45=u45:=b (o 45 (p 45 kr));have eh:r 46=u46:=b (o 46 (p 46 kr));have ei:r 47=u47:=b (o 47 (p 47 kr));have ej:r 48=u48:=b (o 48 (p 48 kr));have ek:r 49=u49:=b (o 49 (p 49 kr));have bY:r 64=c:=b (o 64 (p 64 kr));have gB:X 1=some (r 56):=(aM 1 _ og P).1;have fj:(r 56)=ag:=(aM 1 _ og P).2;clear gB;have fo:X 7=some (r 62):=(aM 7 _ og S).1;have cJ:PApp z J.heap.size v.heap.size (fun _=>True) az ag (C0 C) (r 62):=(aM 7 _ og S).2;clear aM o I;rw[u];clear u p T P U V N W Y S Z aa;rw[bO,bP,bR,bT,bU,bV,bX,bZ,b0,b1,dv,bQ,dw,dx,dy,dz,dA,dB,dC,dD,dE,dF,dG,dH,dI,dJ,dK,dL,dM,dN,dO,dP,dQ,dR,dS,dT,dU,dV,dW,dX,dY,dZ,ec,ed,ee,eg,eh,ei,ej,ek,bY,fj];clear bO bP bR bT bU bV bX bZ b0 b1 dv bQ dw dx dy dz dA dB dC dD dE dF dG dH dI dJ dK dL dM dN dO dP dQ dR dS dT dU dV dW dX dY dZ ec ed ee eg eh ei ej ek bY fj;obtain⟨t62,ff⟩:=nm (r 62);rw[<-ff] at cJ fo⊢;clear ff;obtain⟨bu,bv,bw⟩:=C3 D.2.1;obtain⟨cx,cy,cz⟩:=F7 D.2.1;obtain⟨cg,bL,cf,rfl⟩:∃n A O,t62= .slice A n O:=(by obtain⟨a8,aj,t,ch,c8,c9,cG,a7,cj⟩:=cJ;exact⟨_,a7.slice⟩);obtain⟨aP,fE⟩:=C4 D cJ;clear D cJ fo;show wpList _ _ _ [_,_] _ _;go_wp2_with fail;clear bu bv bw cx cy cz;go_roundw
      case rel=>
       obtain⟨a8,aj,t,ch,c8,c9,cG,a7,cj⟩:=fE.out;obtain⟨aA,aJ⟩:=nm (z.setCell ⟨w.heap.size+1,2,none⟩ (.slice bL cg cf));have aW:z.grownBy aA (some (w.heap.size+1)):=(by rw[aJ];exact I9 _ _ _ _);have cR:Row aA (w.heap.size+1) 32 [.slice bn bJ bx,.slice bp bK bA,.slice bL cg cf]:=(by rw[aJ];exact aP.out.2.1.set_ 2 _);have a5:=OwnS.own_lt bj.out;have c6:=bh.out;have cd:=br.out;have b3:w.grownBy aA (some g):=(by rw[aJ];exact ztm (ygr cs.out aP.out.2.2 (fun l m=>by have:=(a5 l m).1;omega) (fun l m=>by cases m)) (Nat.le_succ _) _ _);have cV:Row aA w.heap.size 32 [.slice none 0 0,.slice none 0 0,.slice none 0 0]:=(bH.out.kept aP.out.2.2 (fun m=>by cases m;omega) (fun m=>by have:=(a5 _ m).1;omega) (fun m=>by cases m)).grownN aW (fun l m=>by cases m;omega);have eY:L1 (N5 (w.heap.size+2) J.heap.size) (N5 (w.heap.size+2) J.heap.size) v z:=zxk aP.out.2.2 fun l s=>⟨by have:=s.2;omega,fun m=>by cases m;have:=s.1;omega,fun m=>by have:=(a5 l m.symm).1;have:=s.2;omega,by simp⟩;have eZ:L1 (N5 (w.heap.size+2) J.heap.size) (N5 (w.heap.size+2) J.heap.size) z aA:=zni aW fun l s=>⟨by have:=s.2;have:=aP.out.2.2.size;omega,fun m=>by cases m;have:=s.1;omega⟩;rw[<-aJ];have c7:=OwnS.own_lt a7
       have cb:∀l,(az l\/N5 aj t l)->J.heap.size<=l:=fun l h=>by
        rcases h with h|h
        ·exact(fJ.out l h).1
        ·have:=h.1;omega
       have a0:C0 (C++[a8])=C0 C++[D8 a8]:=(by simp[C0]);refine⟨aB+1,_,fun l=>az l\/N5 aj t l,C++[a8],by omega,by go_num,b3,aP.out.1.grown aW og,cV,cR,?_,by rw[List.length_append,hr.out.1];rfl,fun m aY=> ?_,cb,IsM.stb.to (IsM.stb.to hr.out.2.2.2.1 eY) eZ,IsV.stb.to (IsV.stb.to hr.out.2.2.2.2.1 eY) eZ,by have:=aP.out.2.2.size;have:=aW.size;omega⟩
       ·rw[a0];exact a7.grown IsR.stb aW fun l m=>⟨fun aZ=>by have:=(c7 l aZ).1;cases m;omega,fun h=>by have:=cb l h;cases m;omega⟩
       ·rcases List.mem_append.1 aY with h|h
        ·exact hr.out.2.1 m h
        ·rw[List.mem_singleton] at h;rw[h];exact ch
      case measure=>simp[intOf];omega
    ·obtain rfl:aB=n:=(by omega);obtain⟨cN,cP,rfl⟩:=bj.out.slice;have e1:IsV v (N5 J.heap.size v.heap.size) (.slice cN (C0 C).length cP) (C0 C):=OwnS.isS IsR.stb (T:=N5 J.heap.size v.heap.size) bj.out (fun l s=>⟨hr.out.2.2.1 l s,by obtain⟨_,_,_,_,aL⟩:=bj.out;exact(aL l s).1⟩) (fun l aH aC=>⟨aH,aC⟩);have dm:=d e1;obtain⟨fh,c0⟩:=nm ((C0 C).length);rw[<-c0] at dm bN;have fw:=d c0;clear e1 c0;obtain⟨bu,bv,bw⟩:=C3 bN.out;obtain⟨hs,ht,hw⟩:=C3 bH.out;obtain⟨cx,cy,cz⟩:=F7 bH.out;have cF:=cD;go_wp2_with fail;refine yjb Tryz.results11 rfl rfl (Row.put3 bH.out _ _ _) ?_;obtain⟨aA,aJ⟩:=nm (put3 v w.heap.size (.slice bn bJ bx) (.slice bp bK bA) (.slice cN fh cP));have c6:=bh.out;have cd:=hr.out.2.2.2.2.2;have gr:aA.heap.size=v.heap.size:=(by rw[aJ,zrk]);have c3:∀a l:Nat,w.heap.size+2<=a->l<=v.heap.size->L1 (N5 a l) (F6 w.heap.size aA) v aA:=fun a l ha s=>(by rw[aJ];exact zog fun x aT=>⟨by have:=aT.1;omega,by have:=aT.1;omega,by rw[<-aJ,gr];have:=aT.2;omega⟩);have b3:w.grownBy aA (some g):=(by rw[aJ];exact ztm (ztm (ztm cs.out (f _) _ _) (f _) _ _) (f _) _ _);have cA:IsD aA g aO:=(by rw[aJ];exact((dd.out.far (p:=⟨w.heap.size,0,none⟩) (by simpa using cE) _).far (p:=⟨w.heap.size,1,none⟩) (by simpa using cE) _).far (p:=⟨w.heap.size,2,none⟩) (by simpa using cE) _);suffices key:yda aB aN w.heap.size (.returned (.agg #[.slice bn bJ bx,.slice bp bK bA,.slice cN fh cP])) aA/\IsD aA g aO/\w.grownBy aA (some g) by rw[aJ] at key;exact key
     have eV:=hr.out.2.2.2.1;have e2:=hr.out.2.2.2.2.1;have e3:=dm.out;rw[fu.out] at eV⊢;rw[fv.out] at e2⊢;rw[fw.out] at e3⊢;refine⟨⟨_,⟨A,B,C⟩,rfl,zxi (p:=N2 ⟨A,B,C⟩) (IsM.stb.to eV (c3 _ _ (f _) cd)) (IsV.stb.to e2 (c3 _ _ (f _) cd)) (IsV.stb.to e3 (c3 _ _ c6 (f _))),yqw ⟨?_,?_,?_,?_,?_,?_,?_⟩ (fun row h=>(ay.out.rows row h).2) ay.out.szB hr.out.2.1,ay.out.lB,hr.out.1⟩,cA,b3⟩
     ·exact ay.out.lA.trans ay.out.lB.symm
     ·exact fun row h=>(ay.out.rows row h).1.trans hr.out.1.symm
     ·exact fun row h q a4=>((ay.out.rows row h).2 q a4).1.le og
     ·exact fun q a4=>(ay.out.szB q a4).1.le og
     ·exact fun q a4=>(hr.out.2.1 q a4).1.le og
     ·exact e (Nat.le_of_eq ay.out.lB) gi
     ·exact e (Nat.le_of_eq hr.out.1) gj
end Go.Proofs.YtdgilbgdkmhcmaaGreatDoor
