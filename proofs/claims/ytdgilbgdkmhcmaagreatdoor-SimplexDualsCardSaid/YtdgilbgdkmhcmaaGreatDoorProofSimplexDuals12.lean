/-
 The contract of parlourlaw04's program.
-/
import Derived.Test.YtdgilbgdkmhcmaaGreatDoorProofSimplexDuals11
namespace Go.Proofs.YtdgilbgdkmhcmaaGreatDoor
open Go.RowKit
set_option linter.unusedVariables false
set_option maxRecDepth 100000
set_option maxHeartbeats 8000000
open _root_.Go.Lib renaming hid → d
open _root_.Option.some renaming inj → b
open _root_.Nat renaming le_refl → f, le_trans → e, lt_of_lt_of_le → i, lt_or_ge → j, zero_le → k
open _root_.Go renaming undef → c
variable {g n : Nat}
theorem yib {b:List Value} (h:b.length=65):∃a:Nat->Value,b=[a 0,a 1,a 2,a 3,a 4,a 5,a 6,a 7,a 8,a 9,a 10,a 11,a 12,a 13,a 14,a 15,a 16,a 17,a 18,a 19,a 20,a 21,a 22,a 23,a 24,a 25,a 26,a 27,a 28,a 29,a 30,a 31,a 32,a 33,a 34,a 35,a 36,a 37,a 38,a 39,a 40,a 41,a 42,a 43,a 44,a 45,a 46,a 47,a 48,a 49,a 50,a 51,a 52,a 53,a 54,a 55,a 56,a 57,a 58,a 59,a 60,a 61,a 62,a 63,a 64]:=by
 refine⟨fun d=>b.getD d c,?_⟩
 have e:b=(List.range 65).map (fun d=>b.getD d c):=by
  apply List.ext_getElem
  ·simp[h]
  ·intro d f g;simp[List.getD_eq_getElem?_getD,List.getElem?_eq_getElem f]
 exact e.trans rfl
theorem ybo {w:World} (a g:Int) (ha:a.natAbs<=8) (o:1<=g) (p:g<=2):
 Calls Tryz.prog 21 #[.int .i64 a,.int .i64 g] w fun l w'=>(∃m q,l= .returned m/\IsQ w' (G4 w.heap.size w') m q/\zoc q)/\Below w.heap.size w w':=by have l:g=((g.toNat:Nat):Int):=(by omega);rw[l];exact(zxs (a:=a) (b:=g.toNat) og og og).mono fun l w' ⟨⟨m,n,hv⟩,h⟩=>⟨⟨m,_,n,hv,yir og og og,yud ha og⟩,h⟩
structure OutAB (n j base:Nat) (w:World) (va vb:Value) (SA SB:Nat->Prop) (A:List (List Rat)) (B:List Rat):Prop where
 lA:A.length=j
 lB:B.length=j
 rows:∀row∈A,row.length=n/\∀e∈row,zoc e
 szB:∀e∈B,zoc e
 ownA:OwnS 1 30 IsV w base SA va (E9 A)
 ownB:OwnS 3 37 IsR w base SB vb (C0 B)
 sA:∀b,SA b->base<=b/\vb.ownBlock≠some b
 sB:∀b,SB b->base<=b/\va.ownBlock≠some b
 ne:∀b,va.ownBlock=some b->vb.ownBlock≠some b
theorem OutAB.grown {i base:Nat} {w w':World} {j k:Value} {d e:Nat->Prop} {A:List (List Rat)} {B:List Rat} (h:OutAB n i base w j k d e A B) (f:w.grownBy w' (some g)) (hg:g<base):OutAB n i base w' j k d e A B:=
 ⟨h.lA,h.lB,h.rows,h.szB,h.ownA.grown IsV.stb f fun b c=>⟨fun a=>by have:=h.ownA.own_lt b a;cases c;omega,fun a=>by have:=(h.sA b a).1;cases c;omega⟩,
   h.ownB.grown IsR.stb f fun b c=>⟨fun a=>by have:=h.ownB.own_lt b a;cases c;omega,fun a=>by have:=(h.sB b a).1;cases c;omega⟩,h.sA,h.sB,h.ne⟩
def yct (n d c:Nat) (b:Ending) (w':World):Prop:=∃a q,b= .returned a/\IsP w' (G4 c w') a (O7 q)/\FineP q 2 8/\q.B.length=d/\q.C.length=n
theorem yww {w:World} {aP:List Int} (hD:IsD w g aP) {m0:Nat} (gm:n<=40) (gl:m0<=40):
 Calls Tryz.prog 11 #[.pointer (some ⟨g,0,none⟩),.int .i64 (n:Int),.int .i64 (m0:Int)] w fun m w'=>yct n m0 w.heap.size m w'/\IsD w' g aP/\w.grownBy w' (some g):=by
 have cG:g<w.heap.size:=hD.lt;obtain⟨hp,gw,cY,fo,fm,gE⟩:=zko w #[.slice none 0 0,.slice none 0 0,.slice none 0 0] #[.slice none 0 0,.slice none 0 0,.slice none 0 0] 32 32;obtain⟨fr,B0,fI,fH⟩:=X6 (hD.next cY cG) cY fo fm;clear hD cY fo fm;go_in;go_wp2_with fail;clear gw;go_loopw [8,9,10] (fun aJ _ _ wr=>∃(aO:Nat) (L K:Value) (ac ad:Nat->Prop) (A:List (List Rat)) (B:List Rat),aO<=m0/\aJ= .int .i64 (aO:Int)/\w.grownBy wr (some g)/\IsD wr g aP/\Row wr w.heap.size 32 [.slice none 0 0,.slice none 0 0,.slice none 0 0]/\Row wr (w.heap.size+1) 32 [L,K,.slice none 0 0]/\Hid (OutAB n aO (w.heap.size+2) wr L K ac ad A B)) (fun aJ _ _ _=>m0-(intOf aJ).toNat);case atStart=>refine⟨0,_,_,fun _=>False,fun _=>False,[],[],k _,rfl,K8 B0.out,fr.out,fI.out,fH.out,?_⟩;exact⟨rfl,rfl,fun _ h=>(by cases h),fun _ h=>(by cases h),OwnS.nil (fun l h=>h.elim),OwnS.nil (fun l h=>h.elim),fun l h=>h.elim,fun l h=>h.elim,fun l h=>(by cases h)⟩
 case round=>
  obtain⟨J,rfl⟩:=nm (wr);obtain⟨aO,L,K,fK,ad,A,B,fa,rfl,ca,hD,b9,G,af⟩:=hrel;obtain⟨dr,cO,dq,bO,fv⟩:=hd5 ca hD b9 G fa;have I:w.heap.size+2<=J.heap.size:=(by have:=G.lt;omega);have bi:=d I;clear ca hD b9 G fa I;rcases j aO m0 with cH|g1
  ·have ds:=d cH;go_wp2_with fail;clear cH;go_loopw [9,10] (fun row O wr=>∃(aC:Nat) (bt:Nat->Prop) (Q:List Rat),aC<=n/\O= .int .i64 (aC:Int)/\J.grownBy wr (some g)/\IsD wr g aP/\OwnS 3 37 IsR wr J.heap.size bt row (C0 Q)/\Hid (Q.length=aC/\(∀m∈Q,zoc m)/\∀l,bt l->J.heap.size<=l)) (fun _ O _=>n-(intOf O).toNat);case atStart=>exact⟨0,fun _=>False,[],k _,rfl,H7 _ _,cO.out,OwnS.nil (fun l h=>h.elim),rfl,(fun _ h=>by cases h),fun l h=>h.elim⟩
   case round=>
    obtain⟨aC,bt,Q,hc,rfl,e8,eV,cf,hr⟩:=hrel;obtain⟨bh,dk,Own⟩:=G6 e8 eV cf;clear e8 eV cf;have gi:g<J.heap.size:=cO.out.lt;rcases j aC n with cF|cF
    ·go_wp2_with fail;refine(zru dk.out 9 og og).mono ?_;rintro m hq ⟨⟨x,aV,bf,rfl⟩,eU,eY⟩;have ft:=d eU;have fs:=d eY.grown;clear eU eY;go_wp2_with fail;refine(zru ft.out 2 og og).mono ?_;rintro m cq ⟨⟨y,gx,gy,rfl⟩,cC,eZ⟩;obtain⟨dj,cN⟩:=C4 cC (J5 fs.out eZ.grown);clear cC eZ;go_wp2_with fail;refine(ybo (x-4) (1+y) og og og).mono ?_;rintro m cM ⟨⟨g7,q,rfl,c7,fe⟩,cE⟩;have fc:OwnS 3 37 IsR cq J.heap.size bt _ (C0 Q):=Own.out.grown IsR.stb cN.out fun l m=>⟨fun a0=>by have:=Own.out.own_lt l a0;cases m;omega,fun a0=>by have:=hr.out.2.2 l a0;cases m;omega⟩;have gp:=OwnS.step IsR.stb (T:=fun l=>bt l\/(cq.heap.size<=l/\l<cM.heap.size)) fc cE (fun l h=> .inl h) (fun l h=>h);have gh:=IsQ.stb.to c7 (F6 (T:=fun l=>bt l\/(cq.heap.size<=l/\l<cM.heap.size)) fun l h=> .inr h);obtain⟨g6,gG,a7,gF,g5,rfl,_,_,_⟩:=K6 c7;obtain⟨di,fu⟩:=C4 (J5 bh.out (J5 cN.out (K8 cE))) (dj.out.next cE dj.out.lt);have gg:J.heap.size<=cM.heap.size:=di.out.size;have gr:=hr.out.1;have fz:=d fe;have cg:J.heap.size<=cq.heap.size:=e bh.out.size cN.out.size;clear fc cE c7 fe;go_wp2_with (at_builtin;refine zpx zlc rfl _ _ rfl IsR.stb rfl rfl rfl gp gh rfl (by intro ae aT;simp[Value.cells] at aT;rcases aT with rfl|rfl|rfl<;>rfl) (by rw[Z5];omega) gg ?_;intro g9 hs gq e6 g3);go_roundw
     case rel=>
      refine⟨aC+1,fun l=>bt l\/(cq.heap.size<=l/\l<cM.heap.size),Q++[q],by omega,by go_num,yrq di.out e6,fu.out.next e6 gi,?_,by simp[gr],?_,?_⟩
      ·rw[C0,List.map_append];exact gq
      ·intro m aZ;rcases List.mem_append.1 aZ with aZ|aZ
       ·exact hr.out.2.1 m aZ
       ·rw[List.mem_singleton] at aZ;rw[aZ];exact fz.out
      ·intro l s;rcases s with s|s
       ·exact hr.out.2.2 l s
       ·omega
     case measure=>simp[intOf];omega
    ·obtain rfl:aC=n:=(by omega);obtain⟨v,rfl⟩:=nm (wr);have bE:=(af.out.grown (g:=g) bh.out (by have:=bO.out.lt;omega));obtain⟨R,ag,rfl⟩:=Own.out.slice;have g2:(C0 Q).length=aC:=(by rw[Z5,hr.out.1]);obtain⟨ai,fb⟩:=nm ((C0 Q).length);have bd:=OwnS.own_lt af.out.ownA;have be:=OwnS.own_lt af.out.ownB;have eT:=OwnS.own_lt bE.ownA;have cS:=OwnS.own_lt bE.ownB;have g4:J.heap.size<=v.heap.size:=bh.out.size;obtain⟨ac,b7⟩:∃fJ:Nat->Prop,fJ=fun l=>fK l\/(J.heap.size<=l/\l<v.heap.size):=⟨_,rfl⟩
     have b8:∀l,ac l->w.heap.size+2<=l/\l<v.heap.size/\L.ownBlock≠some l/\K.ownBlock≠some l:=by
      intro l s;rw[b7] at s;rcases s with s|s
      ·obtain⟨cy,bg,aq,a7,aR⟩:=bE.ownA;exact⟨(af.out.sA l s).1,(aR l s).1,fun m=>(aR l s).2 m.symm,(af.out.sA l s).2⟩
      ·exact⟨by have:=bi.out;omega,s.2,fun m=>by have:=(bd l m).2;omega,fun m=>by have:=(be l m).2;omega⟩
     have cU:∀l,ad l->w.heap.size+2<=l/\l<v.heap.size/\L.ownBlock≠some l/\K.ownBlock≠some l:=(by intro l s;obtain⟨cy,bg,aq,a7,aR⟩:=bE.ownB;exact⟨(af.out.sB l s).1,(aR l s).1,(af.out.sB l s).2,fun m=>(aR l s).2 m.symm⟩);have dt:=d (OwnS.wider IsV.stb (T:=ac) bE.ownA (fun l h=>by rw[b7];exact .inl h) fun l h=>⟨(b8 l h).2.1,fun m=>(b8 l h).2.2.1 m.symm⟩);have fD:=d bE.ownB;have dh:Hid (IsV v ac (.slice R (C0 Q).length ag) (C0 Q)):=OwnS.isS IsR.stb (T:=ac) Own.out (fun l s=>by rw[b7];exact .inr ⟨hr.out.2.2 l s,by obtain⟨_,_,_,_,aM⟩:=Own.out;exact(aM l s).1⟩) (fun l aI aD=>by rw[b7];exact .inr ⟨aI,aD⟩);obtain⟨cv,cQ⟩:=C4 b8 cU;have cx:Hid ((w.heap.size+1)≠g):=(by rw[Hid];omega);have bu:Hid (w.heap.size+2<=v.heap.size):=(by rw[Hid];have:=bi.out;omega);have cw:Hid ((E9 A).length<100/\B.length<100):=(by rw[Hid,zxt,af.out.lA,af.out.lB];have:=ds.out;omega);have fM:Hid (∀l,L.ownBlock=some l->g<l/\(w.heap.size+1)≠l):=fun l m=>(by have:=(bd l m).1;omega);have fN:Hid (∀l,K.ownBlock=some l->g<l/\(w.heap.size+1)≠l):=fun l m=>(by have:=(be l m).1;omega);have du:Hid (∀l,K.ownBlock=some l->l<v.heap.size):=fun l m=>(cS l m).2
     have bv:Hid (∀O l,zre g L K O=some l->l<v.heap.size/\(O≠4->L.ownBlock≠some l/\¬ac l)/\(O≠15->K.ownBlock≠some l/\¬ad l)):=by
      intro O l m
      have cc:l=g\/L.ownBlock=some l\/K.ownBlock=some l:=by
       unfold zre at m;split at m
       ·exact .inr (.inl m)
       ·exact .inl (by cases m;rfl)
       ·exact .inl (by cases m;rfl)
       ·exact .inr (.inr m)
       ·cases m
      have e7:∀aW:Value,(∀l,aW.ownBlock=some l->w.heap.size+2<=l)->l=g->aW.ownBlock≠some l:=fun aW hv gI fS=>(by have:=hv l fS;omega);refine⟨?_,fun cZ=>⟨?_,fun h=> ?_⟩,fun cZ=>⟨?_,fun h=> ?_⟩⟩
      ·rcases cc with h|h|h
       ·have:=bi.out;omega
       ·exact(eT l h).2
       ·exact(cS l h).2
      ·rcases cc with h|h|h
       ·exact e7 L (fun l h=>(bd l h).1) h
       ·intro a2;unfold zre at m;split at m
        ·exact cZ rfl
        ·cases m;have:=(bd _ a2).1;omega
        ·cases m;have:=(bd _ a2).1;omega
        ·exact af.out.ne l a2 m
        ·cases m
       ·exact fun a2=>af.out.ne l a2 h
      ·have:=b8 l h;rcases cc with h|h|h
       ·omega
       ·exact this.2.2.1 h
       ·exact this.2.2.2 h
      ·rcases cc with h|h|h
       ·exact e7 K (fun l h=>(be l h).1) h
       ·exact af.out.ne l h
       ·intro a2;unfold zre at m;split at m
        ·exact af.out.ne l m a2
        ·cases m;have:=(be _ a2).1;omega
        ·cases m;have:=(be _ a2).1;omega
        ·exact cZ rfl
        ·cases m
      ·have:=cU l h;rcases cc with h|h|h
       ·omega
       ·exact this.2.2.1 h
       ·exact this.2.2.2 h
     obtain⟨cu,bJ,bP⟩:=G6 (J5 dr.out (r:=some g) (c:=v) (bh.out)) (dq.out.grownN bh.out fun l m=>by cases m;omega) (bO.out.grownN bh.out fun l m=>by cases m;omega);have az:=d af.out;clear af bE bd be eT cS b7 b8 cU;rw[<-fb] at dh⊢;clear fb;go_wp2_with fail;refine zoj fun ops u=> ?_;have T:=C7 (j:=0) u rfl;have P:=C7 (j:=1) u rfl;have U:=C7 (j:=2) u rfl;have V:=C7 (j:=3) u rfl;have N:=C7 (j:=4) u rfl;have W:=C7 (j:=5) u rfl;have Y:=C7 (j:=6) u rfl;have S:=C7 (j:=7) u rfl;have Z:=C7 (j:=8) u rfl;have aa:=C7 (j:=9) u rfl;have ar:=C7 (j:=10) u rfl;have al:=C7 (j:=11) u rfl;have au:=C7 (j:=12) u rfl;have av:=C7 (j:=13) u rfl;have ay:=C7 (j:=14) u rfl;have an:=C7 (j:=15) u rfl;have ao:=C7 (j:=16) u rfl;have aE:=C7 (j:=17) u rfl;have aG:=C7 (j:=18) u rfl;have aH:=C7 (j:=19) u rfl;have p:=fun dd h=>zsb (n:=17) u dd h;refine zsh 17 (zkf g (w.heap.size+1) L K R ai ag v.heap.size (w.heap.size+2) ac ad A B Q) (ylv (w.heap.size+2) L K (.slice R ai ag) ac ad A B Q) (JD g (w.heap.size+1) aP [L,K,.slice none 0 0] L.ownBlock K.ownBlock v) (fun O w w'=>w.grownBy w' (zre g L K O)) kr ?hJ0 ?hP0 ?hPs ?hst (by rw[u];kernel_rfl) (by rw[u];kernel_rfl) ?step ?fin;(case hJ0=>exact⟨dk.out.grownN (K8 (row:=none) (Z8 _)) (fun l m=>by cases m),bP.out,(Kept.refl _ _ _ _).step (K8 (row:=none) (Z8 _)) (.inl rfl)⟩);case hP0=>exact fun aJ=>⟨fun _=>⟨dt.out,dh.out⟩,fun _=>fD.out⟩
     case hPs=>
      intro aJ O cr cs a4 h D a3;refine⟨fun fW=> ?_,fun fR=> ?_⟩
      ·subst fW;have h:=And.left h rfl;exact⟨h.1.grown IsV.stb a3 fun l m=>((bv.out O l m).2.1 (Ne.symm a4)),IsV.stb.to h.2 (zll a3 fun l s=>⟨i (cv.out l s).2.1 D.2.2.size,fun m=>((bv.out O l m.symm).2.1 (Ne.symm a4)).2 s⟩)⟩
      ·subst fR;exact(And.right h rfl).grown IsR.stb a3 fun l m=>((bv.out O l m).2.2 (Ne.symm a4))
     case hst=>exact fun aJ O aW cr cs X ae a4 cW h D a3=>yvw bv.out aJ O aW cr cs X ae a4 cW h a3
     case step=>
      intro aJ gz bG t a z X I bF D G M o E;obtain⟨H,bD⟩:=a;replace I:H.size=65:=I;obtain rfl:bD=[]:=bF;match aJ,bG,t,M,G with
      |0,_,t,M,G=>obtain rfl:=b (T.symm.trans t);have a1:H[7]? =some (.pointer (some ⟨(w.heap.size+1),0,none⟩)):=o 7 (p 7 kr);refine F9 rfl ?_;refine W9 (E:=fun w'=>z.grownBy w' (none)) (Φ:=zkf g (w.heap.size+1) L K R ai ag v.heap.size (w.heap.size+2) ac ad A B Q 0) fun aj F=> ?_;clear E o I u p T P U V N W Y S Z aa ar al au av ay an ao aE aG aH;go_simp;exact F (.pointer (some ⟨(w.heap.size+1),0,none⟩)) _ (H7 _ _) D rfl
      |1,_,t,M,G=>obtain rfl:=b (P.symm.trans t);have d32:(H.getD 32 c)= .pointer (some ⟨(w.heap.size+1),0,none⟩):=(E 0 _ (C6 kr) T).2;have gJ:=I8 og d32;clear d32;obtain⟨bw,bx,bA⟩:=C5 D.2.1;refine F9 rfl ?_;refine W9 (E:=fun w'=>z.grownBy w' (none)) (Φ:=zkf g (w.heap.size+1) L K R ai ag v.heap.size (w.heap.size+2) ac ad A B Q 1) fun aj F=> ?_;clear E o I u p T P U V N W Y S Z aa ar al au av ay an ao aE aG aH;go_simp;exact F (L) _ (H7 _ _) D rfl
      |2,_,t,M,G=>obtain rfl:=b (U.symm.trans t);have eG:H[9]? =some (.slice R ai ag):=o 9 (p 9 kr);refine F9 rfl ?_;refine W9 (E:=fun w'=>z.grownBy w' (none)) (Φ:=zkf g (w.heap.size+1) L K R ai ag v.heap.size (w.heap.size+2) ac ad A B Q 2) fun aj F=> ?_;clear E o I u p T P U V N W Y S Z aa ar al au av ay an ao aE aG aH;go_simp;exact F (.slice R ai ag) _ (H7 _ _) D rfl
      |3,_,t,M,G=>obtain rfl:=b (V.symm.trans t);have d34:(H.getD 34 c)= .slice R ai ag:=(E 2 _ (C6 kr) U).2;have gK:=I8 og d34;clear d34;refine F9 rfl ?_;refine W9 (E:=fun w'=>z.grownBy w' (none)) (Φ:=zkf g (w.heap.size+1) L K R ai ag v.heap.size (w.heap.size+2) ac ad A B Q 3) fun aj F=> ?_;clear E o I u p T P U V N W Y S Z aa ar al au av ay an ao aE aG aH;go_simp;exact F (.slice (some ⟨z.heap.size,0,none⟩) 1 1) _ (zkp _ _ _) (D.step (zkp _ _ _) (.inl rfl) (fun l m=>by cases m)) ⟨z.heap.size,rfl,D.2.2.size,heap_alloc_new _ _⟩
      |4,_,t,M,G=>obtain rfl:=b (N.symm.trans t);have d33:(H.getD 33 c)=L:=(E 1 _ (C6 kr) P).2;have fT:=I8 og d33;clear d33;have d35:NewRow z v.heap.size 30 [.slice R ai ag] (H.getD 35 c):=(E 3 _ (C6 kr) V).2;obtain⟨g8,fU,eH⟩:=L7 (T:=H) (t:=35) og;rw[eH] at d35;clear eH;refine F9 rfl ?_;refine W9 (E:=fun w'=>z.grownBy w' (L.ownBlock)) (Φ:=zkf g (w.heap.size+1) L K R ai ag v.heap.size (w.heap.size+2) ac ad A B Q 4) fun aj F=> ?_;clear E o I u p T P U V N W Y S Z aa ar al au av ay an ao aE aG aH;obtain⟨gZ,rfl,e9,cb⟩:=d35;refine zpt elV (.tmp 33) (.tmp 35) rfl IsV.stb (zma fT) (zma fU) (ev:= .slice R ai ag) cb (And.left G rfl).1 (And.left G rfl).2 rfl (by intro ae aT;simp[Value.cells] at aT;subst aT;rfl) (by have:=cw.out;omega) (e bu.out D.2.2.size) fun cn w' aI aD aL=>F cn w' aD (D.step aD (.inr (.inl rfl)) fM.out) ⟨aI,aL.imp id fun h=>⟨_,h,D.2.2.size⟩⟩
      |5,_,t,M,G=>obtain rfl:=b (W.symm.trans t);have a1:H[7]? =some (.pointer (some ⟨(w.heap.size+1),0,none⟩)):=o 7 (p 7 kr);refine F9 rfl ?_;refine W9 (E:=fun w'=>z.grownBy w' (none)) (Φ:=zkf g (w.heap.size+1) L K R ai ag v.heap.size (w.heap.size+2) ac ad A B Q 5) fun aj F=> ?_;clear E o I u p T P U V N W Y S Z aa ar al au av ay an ao aE aG aH;go_simp;exact F (.pointer (some ⟨(w.heap.size+1),1,none⟩)) _ (H7 _ _) D rfl
      |6,_,t,M,G=>obtain rfl:=b (Y.symm.trans t);have d37:(H.getD 37 c)= .pointer (some ⟨(w.heap.size+1),1,none⟩):=(E 5 _ (C6 kr) W).2;have gL:=I8 og d37;clear d37;obtain⟨bw,bx,bA⟩:=C5 D.2.1;refine F9 rfl ?_;refine W9 (E:=fun w'=>z.grownBy w' (none)) (Φ:=zkf g (w.heap.size+1) L K R ai ag v.heap.size (w.heap.size+2) ac ad A B Q 6) fun aj F=> ?_;clear E o I u p T P U V N W Y S Z aa ar al au av ay an ao aE aG aH;go_simp;exact F (K) _ (H7 _ _) D rfl
      |7,_,t,M,G=>obtain rfl:=b (S.symm.trans t);have eF:H[0]? =some (.pointer (some ⟨g,0,none⟩)):=o 0 (p 0 kr);refine F9 rfl ?_;refine W9 (E:=fun w'=>z.grownBy w' (none)) (Φ:=zkf g (w.heap.size+1) L K R ai ag v.heap.size (w.heap.size+2) ac ad A B Q 7) fun aj F=> ?_;clear E o I u p T P U V N W Y S Z aa ar al au av ay an ao aE aG aH;go_simp;exact F (.pointer (some ⟨g,0,none⟩)) _ (H7 _ _) D rfl
      |8,_,t,M,G=>obtain rfl:=b (Z.symm.trans t);have d39:(H.getD 39 c)= .pointer (some ⟨g,0,none⟩):=(E 7 _ (C6 kr) S).2;have gM:=I8 og d39;clear d39;have ct:X 4=some (H.getD 36 c):=(E 4 _ (C6 kr) N).1;have gj:∀l,(H.getD 36 c).ownBlock=some l->w.heap.size+2<=l/\l<z.heap.size:=fun l s=>OwnS.own_lt (E 4 _ (C6 kr) N).2.1 l s;refine F9 rfl ?_;refine W9 (E:=fun w'=>z.grownBy w' (some g)) (Φ:=zkf g (w.heap.size+1) L K R ai ag v.heap.size (w.heap.size+2) ac ad A B Q 8) fun aj F=> ?_;clear E o I u p T P U V N W Y S Z aa ar al au av ay an ao aE aG aH;go_simp;refine(zru D.1 12 og og).mono ?_;rintro m w' ⟨⟨x,aV,bf,rfl⟩,hD,aY⟩;exact F (.int .i64 x) w' aY.grown (D.draw hD aY cx.out) ⟨⟨x,aV,by omega,rfl⟩,_,zpv ct M,fun l s=>i (gj l s).2 (Nat.le_of_eq aY.size.symm)⟩
      |9,_,t,M,G=>obtain rfl:=b (aa.symm.trans t);have d40:(∃x:Int,0<=x/\x<=11/\(H.getD 40 c)= .int .i64 x)/\(∃ae,X 4=some ae/\∀l,ae.ownBlock=some l->l<z.heap.size):=(E 8 _ (C6 kr) Z).2;obtain⟨hb,gN,eI⟩:=L7 (T:=H) (t:=40) og;rw[eI] at d40;clear eI;obtain⟨⟨x,aV,bf,rfl⟩,_⟩:=d40;have aU:IntKind.i64.wrap (x-3)=x-3:=IntWalk.i64_in _ og;refine F9 rfl ?_;refine W9 (E:=fun w'=>z.grownBy w' (none)) (Φ:=zkf g (w.heap.size+1) L K R ai ag v.heap.size (w.heap.size+2) ac ad A B Q 9) fun aj F=> ?_;clear E o I u p T P U V N W Y S Z aa ar al au av ay an ao aE aG aH;go_simp;clear aU;exact F (.int .i64 (x-3)) _ (H7 _ _) D ⟨x-3,by omega,by omega,rfl⟩
      |10,_,t,M,G=>obtain rfl:=b (ar.symm.trans t);have eF:H[0]? =some (.pointer (some ⟨g,0,none⟩)):=o 0 (p 0 kr);refine F9 rfl ?_;refine W9 (E:=fun w'=>z.grownBy w' (none)) (Φ:=zkf g (w.heap.size+1) L K R ai ag v.heap.size (w.heap.size+2) ac ad A B Q 10) fun aj F=> ?_;clear E o I u p T P U V N W Y S Z aa ar al au av ay an ao aE aG aH;go_simp;exact F (.pointer (some ⟨g,0,none⟩)) _ (H7 _ _) D rfl
      |11,_,t,M,G=>obtain rfl:=b (al.symm.trans t);have d42:(H.getD 42 c)= .pointer (some ⟨g,0,none⟩):=(E 10 _ (C6 kr) ar).2;have gP:=I8 og d42;clear d42;have c3:∃ae,X 4=some ae/\∀l,ae.ownBlock=some l->l<z.heap.size:=(E 8 _ (C6 kr) Z).2.2;refine F9 rfl ?_;refine W9 (E:=fun w'=>z.grownBy w' (some g)) (Φ:=zkf g (w.heap.size+1) L K R ai ag v.heap.size (w.heap.size+2) ac ad A B Q 11) fun aj F=> ?_;clear E o I u p T P U V N W Y S Z aa ar al au av ay an ao aE aG aH;go_simp;refine(zru D.1 2 og og).mono ?_;rintro m w' ⟨⟨x,aV,bf,rfl⟩,hD,aY⟩;exact F (.int .i64 x) w' aY.grown (D.draw hD aY cx.out) ⟨⟨x,aV,by omega,rfl⟩,yau c3 M (Nat.le_of_eq aY.size.symm)⟩
      |12,_,t,M,G=>obtain rfl:=b (au.symm.trans t);have d43:(∃x:Int,0<=x/\x<=1/\(H.getD 43 c)= .int .i64 x)/\(∃ae,X 4=some ae/\∀l,ae.ownBlock=some l->l<z.heap.size):=(E 11 _ (C6 kr) al).2;obtain⟨hh,gQ,eK⟩:=L7 (T:=H) (t:=43) og;rw[eK] at d43;clear eK;obtain⟨⟨x,aV,bf,rfl⟩,_⟩:=d43;have aU:IntKind.i64.wrap (1+x)=1+x:=IntWalk.i64_in _ og;refine F9 rfl ?_;refine W9 (E:=fun w'=>z.grownBy w' (none)) (Φ:=zkf g (w.heap.size+1) L K R ai ag v.heap.size (w.heap.size+2) ac ad A B Q 12) fun aj F=> ?_;clear E o I u p T P U V N W Y S Z aa ar al au av ay an ao aE aG aH;go_simp;clear aU;exact F (.int .i64 (1+x)) _ (H7 _ _) D ⟨1+x,by omega,by omega,rfl⟩
      |13,_,t,M,G=>obtain rfl:=b (av.symm.trans t);have d41:(∃x:Int,-3<=x/\x<=8/\(H.getD 41 c)= .int .i64 x):=(E 9 _ (C6 kr) aa).2;obtain⟨he,gO,eJ⟩:=L7 (T:=H) (t:=41) og;rw[eJ] at d41;clear eJ;have d44:(∃x:Int,1<=x/\x<=2/\(H.getD 44 c)= .int .i64 x):=(E 12 _ (C6 kr) au).2;obtain⟨hi,gR,eL⟩:=L7 (T:=H) (t:=44) og;rw[eL] at d44;clear eL;have c3:∃ae,X 4=some ae/\∀l,ae.ownBlock=some l->l<z.heap.size:=(E 11 _ (C6 kr) al).2.2;obtain⟨x,aV,bf,rfl⟩:=d41;obtain⟨y,gx,gy,rfl⟩:=d44;refine F9 rfl ?_;refine W9 (E:=fun w'=>z.grownBy w' (none)) (Φ:=zkf g (w.heap.size+1) L K R ai ag v.heap.size (w.heap.size+2) ac ad A B Q 13) fun aj F=> ?_;clear E o I u p T P U V N W Y S Z aa ar al au av ay an ao aE aG aH;go_simp;refine(ybo x y og og og).mono ?_;rintro m w' ⟨⟨aW,q,rfl,a5,c4⟩,s⟩;exact F aW w' (K8 s) (D.step (K8 s) (.inl rfl) (fun l m=>by cases m)) ⟨q,z.heap.size,w'.heap.size,c4,⟨D.2.2.size,s.size⟩,f _,zta c3 M,a5⟩
      |14,_,t,M,G=>obtain rfl:=b (ay.symm.trans t);have d45:PRat z v.heap.size (fun ak=>∃ae,X 4=some ae/\∀l,ae.ownBlock=some l->l<ak) (H.getD 45 c):=(E 13 _ (C6 kr) av).2;obtain⟨hj,gT,eM⟩:=L7 (T:=H) (t:=45) og;rw[eM] at d45;clear eM;refine F9 rfl ?_;refine W9 (E:=fun w'=>z.grownBy w' (none)) (Φ:=zkf g (w.heap.size+1) L K R ai ag v.heap.size (w.heap.size+2) ac ad A B Q 14) fun aj F=> ?_;clear E o I u p T P U V N W Y S Z aa ar al au av ay an ao aE aG aH;obtain⟨q,ak,t,aI,aD,aL,aM,aS⟩:=d45;obtain⟨bI,bp,aq,bj,bH,rfl,_,_,_⟩:=K6 aS;go_simp;exact F (.slice (some ⟨z.heap.size,0,none⟩) 1 1) _ (zkp _ _ _) (D.step (zkp _ _ _) (.inl rfl) (fun l m=>by cases m)) ⟨q,ak,t,.agg #[.bool bI,.slice bp (A9 q.num.natAbs).length aq,.slice bj (A9 q.den).length bH],aI,aD,e aL (zkp z _ none).size,zta aM M,aS.rngG (zkp _ _ none) aL (fun l m=>by cases m),z.heap.size,rfl,D.2.2.size,heap_alloc_new _ _⟩
      |15,_,t,M,G=>
       obtain rfl:=b (an.symm.trans t);have d38:(H.getD 38 c)=K:=(E 6 _ (C6 kr) Y).2;have fV:=I8 og d38;clear d38;have d46:PRow z v.heap.size (fun ak=>∃ae,X 4=some ae/\∀l,ae.ownBlock=some l->l<ak) (H.getD 46 c):=(E 14 _ (C6 kr) ay).2;obtain⟨hk,fX,eN⟩:=L7 (T:=H) (t:=46) og;rw[eN] at d46;clear eN;refine F9 rfl ?_;refine W9 (E:=fun w'=>z.grownBy w' (K.ownBlock)) (Φ:=zkf g (w.heap.size+1) L K R ai ag v.heap.size (w.heap.size+2) ac ad A B Q 15) fun aj F=> ?_;clear E o I u p T P U V N W Y S Z aa ar al au av ay an ao aE aG aH;obtain⟨q,ak,t,m,aI,aD,aL,aM,aS,h,rfl,e9,cb⟩:=d46;replace G:=And.right G rfl;obtain⟨bI,bp,aq,bj,bH,rfl,_,_,_⟩:=K6 aS;refine zpt zlc (.tmp 38) (.tmp 46) rfl IsR.stb (zma fV) (zma fX) (ev:= .agg #[.bool bI,.slice bp (A9 q.num.natAbs).length aq,.slice bj (A9 q.den).length bH]) (y:=E7 q) cb (OwnS.wider IsR.stb (T:=fun l=>ad l\/G0 ak t l) G (fun l h=> .inl h) ?_) (IsR.stb.to aS (F6 fun l h=> .inr h)) rfl (by intro ae aT;simp[Value.cells] at aT;rcases aT with rfl|rfl|rfl<;>rfl) (by rw[Z5];have:=cw.out;omega) (e bu.out D.2.2.size) fun cn w' bg aq a7=>F cn w' aq (D.step aq (.inr (.inr rfl)) fN.out) ⟨q,ak,t,aI,aD,e aL aq.size,zta aM M,bg,a7.imp id fun h=>⟨_,h,aL,D.2.2.size⟩⟩;have gn:=OwnS.own_lt G;have c6:=du.out;intro l s;obtain⟨cy,bg,aq,a7,aR⟩:=G;rcases s with s|s
       ·exact aR l s
       ·exact⟨i s.2 aL,fun m=>by have:=c6 l m.symm;have:=s.1;omega⟩
      |16,_,t,M,G=>obtain rfl:=b (ao.symm.trans t);have a1:H[7]? =some (.pointer (some ⟨(w.heap.size+1),0,none⟩)):=o 7 (p 7 kr);refine F9 rfl ?_;refine W9 (E:=fun w'=>z.grownBy w' (none)) (Φ:=zkf g (w.heap.size+1) L K R ai ag v.heap.size (w.heap.size+2) ac ad A B Q 16) fun aj F=> ?_;clear E o I u p T P U V N W Y S Z aa ar al au av ay an ao aE aG aH;go_simp;exact F (.pointer (some ⟨(w.heap.size+1),0,none⟩)) _ (H7 _ _) D rfl
      |aJ+17,bG,t,M,G=>exact absurd bG og
     case fin=>
      intro a z X I bF D o aN;obtain⟨⟨aP⟩,bD⟩:=a;replace I:aP.length=65:=I;obtain⟨r,rfl⟩:=yib I;obtain rfl:bD=[]:=bF;have bQ:r 0= .pointer (some ⟨g,0,none⟩):=b (o 0 (p 0 kr));have bR:r 1= .int .i64 (aC:Int):=b (o 1 (p 1 kr));have bU:r 2= .int .i64 (m0:Int):=b (o 2 (p 2 kr));have bV:r 3=c:=b (o 3 (p 3 kr));have bX:r 4=c:=b (o 4 (p 4 kr));have bY:r 5=c:=b (o 5 (p 5 kr));have bZ:r 6= .pointer (some ⟨w.heap.size,0,none⟩):=b (o 6 (p 6 kr));have b1:r 7= .pointer (some ⟨(w.heap.size+1),0,none⟩):=b (o 7 (p 7 kr));have b3:r 8= .int .i64 (aO:Int):=b (o 8 (p 8 kr));have b4:r 9= .slice R ai ag:=b (o 9 (p 9 kr));have bT:r 11=c:=b (o 11 (p 11 kr));have eo:r 50=c:=b (o 50 (p 50 kr));have ep:r 51=c:=b (o 51 (p 51 kr));have er:r 52=c:=b (o 52 (p 52 kr));have et:r 53=c:=b (o 53 (p 53 kr));have eu:r 54=c:=b (o 54 (p 54 kr));have ev:r 55=c:=b (o 55 (p 55 kr));have ew:r 56=c:=b (o 56 (p 56 kr));have ey:r 57=c:=b (o 57 (p 57 kr));have ez:r 58=c:=b (o 58 (p 58 kr));have eA:r 59=c:=b (o 59 (p 59 kr));have eB:r 60=c:=b (o 60 (p 60 kr));have eC:r 61=c:=b (o 61 (p 61 kr));have eD:r 62=c:=b (o 62 (p 62 kr));have eE:r 63=c:=b (o 63 (p 63 kr));have b0:r 64=c:=b (o 64 (p 64 kr));have ct:X 4=some (r 36):=(aN 4 _ og N).1;have cJ:(OwnS 1 30 IsV z (w.heap.size+2) ac (r 36) (E9 A++[C0 Q])/\((r 36).ownBlock=L.ownBlock\/∃l,(r 36).ownBlock=some l/\v.heap.size<=l)):=(aN 4 _ og N).2;have fp:X 15=some (r 47):=(aN 15 _ og an).1;have cK:PApp z (w.heap.size+2) v.heap.size (fun ak=>∃ae,X 4=some ae/\∀l,ae.ownBlock=some l->l<ak) ad K (C0 B) (r 47):=(aN 15 _ og an).2;have gC:X 16=some (r 48):=(aN 16 _ og ao).1;have fk:(r 48)= .pointer (some ⟨(w.heap.size+1),0,none⟩):=(aN 16 _ og ao).2;clear gC;clear aN o I;rw[u];clear u p T P U V N W Y S Z aa ar al au av ay an ao aE aG aH;rw[bQ,bR,bU,bV,bX,bY,bZ,b1,b3,b4,bT,eo,ep,er,et,eu,ev,ew,ey,ez,eA,eB,eC,eD,eE,b0,fk];clear bQ bR bU bV bX bY bZ b1 b3 b4 bT eo ep er et eu ev ew ey ez eA eB eC eD eE b0 fk;obtain⟨t36,ff⟩:=nm (r 36);rw[<-ff] at cJ ct⊢;clear ff;obtain⟨t47,fg⟩:=nm (r 47);rw[<-fg] at cK fp⊢;clear fg;obtain⟨bw,bx,bA⟩:=C5 D.2.1;obtain⟨cz,cA,cB⟩:=H5 D.2.1;obtain⟨de,fi,rfl⟩:=cJ.1.slice;obtain⟨cj,bN,ch,rfl⟩:∃n A O,t47= .slice A n O:=(by obtain⟨a9,ak,t,ck,da,db,cI,a8,cl⟩:=cK;exact⟨_,a8.slice⟩);obtain⟨aQ,fE,fF,fQ⟩:=X6 D cJ cK ct;clear D cJ cK ct fp;have cH:=ds.out;show wpList _ _ _ [_,_,_] _ _;go_wp2_with fail;clear bw bx bA cz cA cB;go_roundw
      case rel=>
       obtain⟨a9,ak,t,ck,da,db,cI,a8,cl⟩:=fF.out;obtain⟨ht,gB,dc⟩:=cI;obtain rfl:=b (fQ.out.symm.trans gB);have cm:=fE.out;have eG:(E9 A++[C0 Q]).length=(E9 A).length+1:=(by simp);rw[eG] at cm dc;obtain⟨dv,cD⟩:=nm (z.setCell ⟨w.heap.size+1,0,none⟩ (.slice de ((E9 A).length+1) fi));have gd:z.grownBy dv (some (w.heap.size+1)):=(by rw[cD];exact I0 _ _ _ _);obtain⟨aB,aK⟩:=nm (dv.setCell ⟨w.heap.size+1,1,none⟩ (.slice bN cj ch));have aX:z.grownBy aB (some (w.heap.size+1)):=(by rw[aK];exact J5 gd (I0 _ _ _ _));have cT:Row aB (w.heap.size+1) 32 [.slice de ((E9 A).length+1) fi,.slice bN cj ch,.slice none 0 0]:=by rw[aK,cD];exact(aQ.out.2.1.set_ 0 _).set_ 1 _
       have b5:w.grownBy aB (some g):=by
        rw[aK,cD];refine zst (zst (ygl cu.out aQ.out.2.2 (fun l m=> ?_) (fun l m=> ?_)) (Nat.le_succ _) _ _) (Nat.le_succ _) _ _
        ·have:=(OwnS.own_lt az.out.ownA l m).1;omega
        ·have:=(OwnS.own_lt az.out.ownB l m).1;omega
       have cX:Row aB w.heap.size 32 [.slice none 0 0,.slice none 0 0,.slice none 0 0]:=(bJ.out.kept aQ.out.2.2 (fun m=>by cases m;omega) (fun m=>by have:=(OwnS.own_lt az.out.ownA _ m).1;omega) (fun m=>by have:=(OwnS.own_lt az.out.ownB _ m).1;omega)).grownN aX (fun l m=>by cases m;omega);rw[<-cD,<-aK]
       have cd:∀l,¬(ad l\/G0 ak t l)\/w.heap.size+2<=l:=fun l=>by
        by_cases h:ad l\/G0 ak t l
        ·refine .inr ?_;rcases h with h|h
         ·exact(cQ.out l h).1
         ·have:=bu.out;have:=h.1;omega
        ·exact .inl h
       refine⟨aO+1,_,_,ac,fun l=>ad l\/G0 ak t l,A++[Q],B++[a9],by omega,by go_num,b5,aQ.out.1.grown aX og,cX,cT,?_⟩;have fZ:E9 (A++[Q])=E9 A++[C0 Q]:=(by simp[E9]);have a1:C0 (B++[a9])=C0 B++[E7 a9]:=(by simp[C0]);have gA:=OwnS.own_lt cm.1;have c9:=OwnS.own_lt a8
       refine⟨by rw[List.length_append,az.out.lA];rfl,by rw[List.length_append,az.out.lB];rfl,fun row gu=> ?_,fun m aZ=> ?_,by rw[fZ];exact cm.1.grown IsV.stb aX fun l m=>⟨fun a0=>by have:=(gA l a0).1;cases m;omega,fun h=>by have:=(cv.out l h).1;cases m;omega⟩,
        by rw[a1];exact a8.grown IsR.stb aX fun l m=>⟨fun a0=>by have:=(c9 l a0).1;cases m;omega,fun h=>by rcases cd l with bK|bK;exact bK h;cases m;omega⟩,fun l s=>⟨(cv.out l s).1,?_⟩,fun l s=>⟨?_,?_⟩,fun l s=> ?_⟩
       ·rcases List.mem_append.1 gu with h|h
        ·exact az.out.rows row h
        ·rw[List.mem_singleton] at h;rw[h];exact⟨hr.out.1,hr.out.2.1⟩
       ·rcases List.mem_append.1 aZ with h|h
        ·exact az.out.szB m h
        ·rw[List.mem_singleton] at h;rw[h];exact ck
       ·have aU:=cv.out l s;rcases cl with h|⟨dw,h,eS,gf⟩
        ·rw[h];exact aU.2.2.2
        ·rw[h];intro m;cases m;omega
       ·rcases cd l with h|h
        ·exact absurd s h
        ·exact h
       ·rcases cm.2 with h|⟨dw,h,eS⟩
        ·rw[h];rcases s with s|s
         ·exact(cQ.out l s).2.2.1
         ·intro m;have:=(OwnS.own_lt dt.out l m).2;have:=s.1;omega
        ·rw[h];intro m;cases m;rcases s with s|s
         ·have:=(cQ.out _ s).2.1;omega
         ·have:=dc _ h;have:=s.1;omega
       ·rcases cl with h|⟨dw,h,eS,gf⟩
        ·rw[h];rcases cm.2 with bK|⟨gH,bK,g0⟩
         ·rw[bK] at s;exact az.out.ne l s
         ·rw[bK] at s;cases s;intro m;have:=du.out _ m;omega
        ·rw[h];intro m;cases m;have:=dc _ s;omega
      case measure=>simp[intOf];omega
  ·obtain rfl:aO=m0:=(by have:=fv.out;omega);have bd:=OwnS.own_lt af.out.ownA;have be:=OwnS.own_lt af.out.ownB;obtain⟨bq,bB,rfl⟩:=af.out.ownA.slice;obtain⟨br,bC,rfl⟩:=af.out.ownB.slice;have eW:IsM J (G0 (w.heap.size+2) J.heap.size) (.slice bq (E9 A).length bB) (E9 A):=OwnS.isS IsV.stb (T:=G0 (w.heap.size+2) J.heap.size) af.out.ownA (fun l s=>⟨(af.out.sA l s).1,by obtain⟨_,_,_,_,aM⟩:=af.out.ownA;exact(aM l s).1⟩) (fun l aI aD=>⟨aI,aD⟩);have e2:IsV J (G0 (w.heap.size+2) J.heap.size) (.slice br (C0 B).length bC) (C0 B):=OwnS.isS IsR.stb (T:=G0 (w.heap.size+2) J.heap.size) af.out.ownB (fun l s=>⟨(af.out.sB l s).1,by obtain⟨_,_,_,_,aM⟩:=af.out.ownB;exact(aM l s).1⟩) (fun l aI aD=>⟨aI,aD⟩);obtain⟨dm,dn⟩:=C4 eW e2;have az:=d af.out;obtain⟨bL,c0⟩:=nm ((E9 A).length);obtain⟨bM,c1⟩:=nm ((C0 B).length);rw[<-c0] at dm bO;rw[<-c1] at dn bO;obtain⟨fw,fx⟩:=C4 c0 c1;clear af bd be eW e2 c0 c1;go_wp2_with fail
   go_loopw [11] (fun O wr=>∃(aC:Nat) (ah:Value) (aA:Nat->Prop) (C:List Rat),aC<=n/\O= .int .i64 (aC:Int)/\w.grownBy wr (some g)/\IsD wr g aP/\Row wr w.heap.size 32 [.slice none 0 0,.slice none 0 0,.slice none 0 0]/\Row wr (w.heap.size+1) 32 [.slice bq bL bB,.slice br bM bC,ah]/\OwnS 3 37 IsR wr J.heap.size aA ah (C0 C)/\
    Hid (C.length=aC/\(∀m∈C,zoc m)/\(∀l,aA l->J.heap.size<=l)/\IsM wr (G0 (w.heap.size+2) J.heap.size) (.slice bq bL bB) (E9 A)/\IsV wr (G0 (w.heap.size+2) J.heap.size) (.slice br bM bC) (C0 B)/\J.heap.size<=wr.heap.size)) (fun O _=>n-(intOf O).toNat)
   case atStart=>exact⟨0,_,fun _=>False,[],k _,rfl,dr.out,cO.out,dq.out,bO.out,OwnS.nil (fun l h=>h.elim),rfl,(fun _ h=>by cases h),(fun l h=>h.elim),dm.out,dn.out,f _⟩
   case round=>
    obtain⟨aC,ah,aA,C,hc,rfl,ca,hD,b9,G,cf,hr⟩:=hrel;obtain⟨v,rfl⟩:=nm (wr);obtain⟨cu,df,bJ,bP,bm⟩:=hd5 ca hD b9 G cf;have hr:=hr;clear ca hD b9 G cf;rcases j aC n with cF|cF
    ·have a6:=OwnS.own_lt bm.out;have cV:∀l,aA l->J.heap.size<=l/\l<v.heap.size/\ah.ownBlock≠some l:=fun l s=>(by obtain⟨cy,bg,aq,a7,aR⟩:=bm.out;exact⟨hr.out.2.2.1 l s,(aR l s).1,fun m=>(aR l s).2 m.symm⟩);have fL:=d cV;have cx:Hid ((w.heap.size+1)≠g):=(by rw[Hid];omega);have bu:Hid (J.heap.size<=v.heap.size):=hr.out.2.2.2.2.2;have cw:Hid (C.length<100):=(by rw[Hid,hr.out.1];omega);have fO:Hid (∀l,ah.ownBlock=some l->g<l/\(w.heap.size+1)≠l):=fun l m=>(by have:=(a6 l m).1;have:=bi.out;omega);have fP:Hid (∀l,ah.ownBlock=some l->l<v.heap.size):=fun l m=>(a6 l m).2
     have bv:Hid (∀O l,zuf g ah O=some l->l<v.heap.size/\(O≠7->ah.ownBlock≠some l/\¬aA l)):=by
      intro O l m;have c8:=bi.out;have cg:=bu.out;unfold zuf at m;split at m
      ·cases m;exact⟨by omega,fun _=>⟨fun h=>by have:=(a6 _ h).1;omega,fun h=>by have:=(cV _ h).1;omega⟩⟩
      ·exact⟨(a6 l m).2,fun h=>absurd rfl h⟩
      ·cases m
     clear a6 cV;go_wp2_with fail;refine zoj fun ops u=> ?_;have T:=C7 (j:=0) u rfl;have P:=C7 (j:=1) u rfl;have U:=C7 (j:=2) u rfl;have V:=C7 (j:=3) u rfl;have N:=C7 (j:=4) u rfl;have W:=C7 (j:=5) u rfl;have Y:=C7 (j:=6) u rfl;have S:=C7 (j:=7) u rfl;have Z:=C7 (j:=8) u rfl;have aa:=C7 (j:=9) u rfl;have p:=fun dd h=>zsb (n:=8) u dd h;refine zsh 8 (zoa g (w.heap.size+1) ah v.heap.size J.heap.size aA C) (ylw J.heap.size ah aA C) (JD g (w.heap.size+1) aP [.slice bq bL bB,.slice br bM bC,ah] ah.ownBlock none v) (fun O w w'=>w.grownBy w' (zuf g ah O)) kr ?hJ0 ?hP0 ?hPs ?hst (by rw[u];kernel_rfl) (by rw[u];kernel_rfl) ?step ?fin;(case hJ0=>exact⟨df.out.grownN (K8 (row:=none) (Z8 _)) (fun l m=>by cases m),bP.out,(Kept.refl _ _ _ _).step (K8 (row:=none) (Z8 _)) (.inl rfl)⟩);(case hP0=>exact fun aJ _=>bm.out);(case hPs=>intro aJ O cr cs a4 h D a3 a1;subst a1;exact OwnS.grown IsR.stb (h rfl) a3 fun l m=>((bv.out O l m).2 (Ne.symm a4)));case hst=>exact fun aJ O aW cr cs X ae a4 cW h D a3=>yvx bv.out aJ O aW cr cs X ae a4 cW h a3
     case step=>
      intro aJ gz bG t a z X I bF D G M o E;obtain⟨H,bD⟩:=a;replace I:H.size=65:=I;obtain rfl:bD=[]:=bF;match aJ,bG,t,M,G with
      |0,_,t,M,G=>obtain rfl:=b (T.symm.trans t);have a1:H[7]? =some (.pointer (some ⟨(w.heap.size+1),0,none⟩)):=o 7 (p 7 kr);refine F9 rfl ?_;refine W9 (E:=fun w'=>z.grownBy w' (none)) (Φ:=zoa g (w.heap.size+1) ah v.heap.size J.heap.size aA C 0) fun aj F=> ?_;clear E o I u p T P U V N W Y S Z aa;go_simp;exact F (.pointer (some ⟨(w.heap.size+1),2,none⟩)) _ (H7 _ _) D rfl
      |1,_,t,M,G=>obtain rfl:=b (P.symm.trans t);have d55:(H.getD 55 c)= .pointer (some ⟨(w.heap.size+1),2,none⟩):=(E 0 _ (C6 kr) T).2;have gU:=I8 og d55;clear d55;obtain⟨bw,bx,bA⟩:=C5 D.2.1;refine F9 rfl ?_;refine W9 (E:=fun w'=>z.grownBy w' (none)) (Φ:=zoa g (w.heap.size+1) ah v.heap.size J.heap.size aA C 1) fun aj F=> ?_;clear E o I u p T P U V N W Y S Z aa;go_simp;exact F (ah) _ (H7 _ _) D rfl
      |2,_,t,M,G=>obtain rfl:=b (U.symm.trans t);have eF:H[0]? =some (.pointer (some ⟨g,0,none⟩)):=o 0 (p 0 kr);refine F9 rfl ?_;refine W9 (E:=fun w'=>z.grownBy w' (none)) (Φ:=zoa g (w.heap.size+1) ah v.heap.size J.heap.size aA C 2) fun aj F=> ?_;clear E o I u p T P U V N W Y S Z aa;go_simp;exact F (.pointer (some ⟨g,0,none⟩)) _ (H7 _ _) D rfl
      |3,_,t,M,G=>obtain rfl:=b (V.symm.trans t);have d57:(H.getD 57 c)= .pointer (some ⟨g,0,none⟩):=(E 2 _ (C6 kr) U).2;have gV:=I8 og d57;clear d57;refine F9 rfl ?_;refine W9 (E:=fun w'=>z.grownBy w' (some g)) (Φ:=zoa g (w.heap.size+1) ah v.heap.size J.heap.size aA C 3) fun aj F=> ?_;clear E o I u p T P U V N W Y S Z aa;go_simp;refine(zru D.1 9 og og).mono ?_;rintro m w' ⟨⟨x,aV,bf,rfl⟩,hD,aY⟩;exact F (.int .i64 x) w' aY.grown (D.draw hD aY cx.out) ⟨x,aV,by omega,rfl⟩
      |4,_,t,M,G=>obtain rfl:=b (N.symm.trans t);have d58:(∃x:Int,0<=x/\x<=8/\(H.getD 58 c)= .int .i64 x):=(E 3 _ (C6 kr) V).2;obtain⟨hl,gW,eO⟩:=L7 (T:=H) (t:=58) og;rw[eO] at d58;clear eO;obtain⟨x,aV,bf,rfl⟩:=d58;have aU:IntKind.i64.wrap (x-4)=x-4:=IntWalk.i64_in _ og;refine F9 rfl ?_;refine W9 (E:=fun w'=>z.grownBy w' (none)) (Φ:=zoa g (w.heap.size+1) ah v.heap.size J.heap.size aA C 4) fun aj F=> ?_;clear E o I u p T P U V N W Y S Z aa;go_simp;clear aU;exact F (.int .i64 (x-4)) _ (H7 _ _) D ⟨x-4,by omega,by omega,rfl⟩
      |5,_,t,M,G=>obtain rfl:=b (W.symm.trans t);have d59:(∃x:Int,-4<=x/\x<=4/\(H.getD 59 c)= .int .i64 x):=(E 4 _ (C6 kr) N).2;obtain⟨hm,gX,eP⟩:=L7 (T:=H) (t:=59) og;rw[eP] at d59;clear eP;obtain⟨x,aV,bf,rfl⟩:=d59;refine F9 rfl ?_;refine W9 (E:=fun w'=>z.grownBy w' (none)) (Φ:=zoa g (w.heap.size+1) ah v.heap.size J.heap.size aA C 5) fun aj F=> ?_;clear E o I u p T P U V N W Y S Z aa;go_simp;refine(ybo x 1 og og og).mono ?_;rintro m w' ⟨⟨aW,q,rfl,a5,c4⟩,s⟩;exact F aW w' (K8 s) (D.step (K8 s) (.inl rfl) (fun l m=>by cases m)) ⟨q,z.heap.size,w'.heap.size,c4,⟨D.2.2.size,s.size⟩,f _,trivial,a5⟩
      |6,_,t,M,G=>obtain rfl:=b (Y.symm.trans t);have d60:PRat z v.heap.size (fun _=>True) (H.getD 60 c):=(E 5 _ (C6 kr) W).2;obtain⟨hn,gY,eQ⟩:=L7 (T:=H) (t:=60) og;rw[eQ] at d60;clear eQ;refine F9 rfl ?_;refine W9 (E:=fun w'=>z.grownBy w' (none)) (Φ:=zoa g (w.heap.size+1) ah v.heap.size J.heap.size aA C 6) fun aj F=> ?_;clear E o I u p T P U V N W Y S Z aa;obtain⟨q,ak,t,aI,aD,aL,aM,aS⟩:=d60;obtain⟨bI,bp,aq,bj,bH,rfl,_,_,_⟩:=K6 aS;go_simp;exact F (.slice (some ⟨z.heap.size,0,none⟩) 1 1) _ (zkp _ _ _) (D.step (zkp _ _ _) (.inl rfl) (fun l m=>by cases m)) ⟨q,ak,t,.agg #[.bool bI,.slice bp (A9 q.num.natAbs).length aq,.slice bj (A9 q.den).length bH],aI,aD,e aL (zkp z _ none).size,trivial,aS.rngG (zkp _ _ none) aL (fun l m=>by cases m),z.heap.size,rfl,D.2.2.size,heap_alloc_new _ _⟩
      |7,_,t,M,G=>
       obtain rfl:=b (S.symm.trans t);have d56:(H.getD 56 c)=ah:=(E 1 _ (C6 kr) P).2;have fY:=I8 og d56;clear d56;have d61:PRow z v.heap.size (fun _=>True) (H.getD 61 c):=(E 6 _ (C6 kr) Y).2;obtain⟨ho,ga,eR⟩:=L7 (T:=H) (t:=61) og;rw[eR] at d61;clear eR;refine F9 rfl ?_;refine W9 (E:=fun w'=>z.grownBy w' (ah.ownBlock)) (Φ:=zoa g (w.heap.size+1) ah v.heap.size J.heap.size aA C 7) fun aj F=> ?_;clear E o I u p T P U V N W Y S Z aa;obtain⟨q,ak,t,m,aI,aD,aL,aM,aS,h,rfl,e9,cb⟩:=d61;replace G:=G rfl;obtain⟨bI,bp,aq,bj,bH,rfl,_,_,_⟩:=K6 aS;refine zpt zlc (.tmp 56) (.tmp 61) rfl IsR.stb (zma fY) (zma ga) (ev:= .agg #[.bool bI,.slice bp (A9 q.num.natAbs).length aq,.slice bj (A9 q.den).length bH]) (y:=E7 q) cb (OwnS.wider IsR.stb (T:=fun l=>aA l\/G0 ak t l) G (fun l h=> .inl h) ?_) (IsR.stb.to aS (F6 fun l h=> .inr h)) rfl (by intro ae aT;simp[Value.cells] at aT;rcases aT with rfl|rfl|rfl<;>rfl) (by rw[Z5];have:=cw.out;omega) (e bu.out D.2.2.size) fun cn w' bg aq a7=>F cn w' aq (D.step aq (.inr (.inl rfl)) fO.out) ⟨q,ak,t,aI,aD,e aL aq.size,trivial,bg,a7.imp id fun h=>⟨_,h,aL,D.2.2.size⟩⟩;have gn:=OwnS.own_lt G;have c6:=fP.out;intro l s;obtain⟨cy,bg,aq,a7,aR⟩:=G;rcases s with s|s
       ·exact aR l s
       ·exact⟨i s.2 aL,fun m=>by have:=c6 l m.symm;have:=s.1;omega⟩
      |aJ+8,bG,t,M,G=>exact absurd bG og
     case fin=>
      intro a z X I bF D o aN;obtain⟨⟨aP⟩,bD⟩:=a;replace I:aP.length=65:=I;obtain⟨r,rfl⟩:=yib I;obtain rfl:bD=[]:=bF;have bQ:r 0= .pointer (some ⟨g,0,none⟩):=b (o 0 (p 0 kr));have bR:r 1= .int .i64 (n:Int):=b (o 1 (p 1 kr));have bU:r 2= .int .i64 (aO:Int):=b (o 2 (p 2 kr));have bV:r 3=c:=b (o 3 (p 3 kr));have bX:r 4=c:=b (o 4 (p 4 kr));have bY:r 5=c:=b (o 5 (p 5 kr));have bZ:r 6= .pointer (some ⟨w.heap.size,0,none⟩):=b (o 6 (p 6 kr));have b1:r 7= .pointer (some ⟨(w.heap.size+1),0,none⟩):=b (o 7 (p 7 kr));have b3:r 8= .int .i64 (aO:Int):=b (o 8 (p 8 kr));have b4:r 9=u9:=b (o 9 (p 9 kr));have dx:r 10=u10:=b (o 10 (p 10 kr));have bT:r 11= .int .i64 (aC:Int):=b (o 11 (p 11 kr));have dy:r 12= .int .i64 (aO:Int):=b (o 12 (p 12 kr));have dz:r 13= .int .i64 (aO:Int):=b (o 13 (p 13 kr));have dA:r 14= .bool false:=b (o 14 (p 14 kr));have dB:r 15=u15:=b (o 15 (p 15 kr));have dC:r 16=u16:=b (o 16 (p 16 kr));have dD:r 17=u17:=b (o 17 (p 17 kr));have dE:r 18=u18:=b (o 18 (p 18 kr));have dF:r 19=u19:=b (o 19 (p 19 kr));have dG:r 20=u20:=b (o 20 (p 20 kr));have dH:r 21=u21:=b (o 21 (p 21 kr));have dI:r 22=u22:=b (o 22 (p 22 kr));have dJ:r 23=u23:=b (o 23 (p 23 kr));have dK:r 24=u24:=b (o 24 (p 24 kr));have dL:r 25=u25:=b (o 25 (p 25 kr));have dM:r 26=u26:=b (o 26 (p 26 kr));have dN:r 27=u27:=b (o 27 (p 27 kr));have dO:r 28=u28:=b (o 28 (p 28 kr));have dP:r 29=u29:=b (o 29 (p 29 kr));have dQ:r 30=u30:=b (o 30 (p 30 kr));have dR:r 31=u31:=b (o 31 (p 31 kr));have dS:r 32=u32:=b (o 32 (p 32 kr));have dT:r 33=u33:=b (o 33 (p 33 kr));have dU:r 34=u34:=b (o 34 (p 34 kr));have dV:r 35=u35:=b (o 35 (p 35 kr));have dW:r 36=u36:=b (o 36 (p 36 kr));have dX:r 37=u37:=b (o 37 (p 37 kr));have dY:r 38=u38:=b (o 38 (p 38 kr));have dZ:r 39=u39:=b (o 39 (p 39 kr));have ec:r 40=u40:=b (o 40 (p 40 kr));have ed:r 41=u41:=b (o 41 (p 41 kr));have ee:r 42=u42:=b (o 42 (p 42 kr));have eg:r 43=u43:=b (o 43 (p 43 kr));have eh:r 44=u44:=b (o 44 (p 44 kr));have ei:r 45=u45:=b (o 45 (p 45 kr));have ej:r 46=u46:=b (o 46 (p 46 kr));have ek:r 47=u47:=b (o 47 (p 47 kr));have em:r 48=u48:=b (o 48 (p 48 kr));have en:r 49=u49:=b (o 49 (p 49 kr));have b0:r 64=c:=b (o 64 (p 64 kr));have gD:X 1=some (r 56):=(aN 1 _ og P).1;have fl:(r 56)=ah:=(aN 1 _ og P).2;clear gD;have fq:X 7=some (r 62):=(aN 7 _ og S).1;have cL:PApp z J.heap.size v.heap.size (fun _=>True) aA ah (C0 C) (r 62):=(aN 7 _ og S).2;clear aN o I;rw[u];clear u p T P U V N W Y S Z aa;rw[bQ,bR,bU,bV,bX,bY,bZ,b1,b3,b4,dx,bT,dy,dz,dA,dB,dC,dD,dE,dF,dG,dH,dI,dJ,dK,dL,dM,dN,dO,dP,dQ,dR,dS,dT,dU,dV,dW,dX,dY,dZ,ec,ed,ee,eg,eh,ei,ej,ek,em,en,b0,fl];clear bQ bR bU bV bX bY bZ b1 b3 b4 dx bT dy dz dA dB dC dD dE dF dG dH dI dJ dK dL dM dN dO dP dQ dR dS dT dU dV dW dX dY dZ ec ed ee eg eh ei ej ek em en b0 fl;obtain⟨t62,fh⟩:=nm (r 62);rw[<-fh] at cL fq⊢;clear fh;obtain⟨bw,bx,bA⟩:=C5 D.2.1;obtain⟨cz,cA,cB⟩:=H5 D.2.1;obtain⟨cj,bN,ch,rfl⟩:∃n A O,t62= .slice A n O:=(by obtain⟨a9,ak,t,ck,da,db,cI,a8,cl⟩:=cL;exact⟨_,a8.slice⟩);obtain⟨aQ,fG⟩:=C4 D cL;clear D cL fq;show wpList _ _ _ [_,_] _ _;go_wp2_with fail;clear bw bx bA cz cA cB;go_roundw
      case rel=>
       obtain⟨a9,ak,t,ck,da,db,cI,a8,cl⟩:=fG.out;obtain⟨aB,aK⟩:=nm (z.setCell ⟨w.heap.size+1,2,none⟩ (.slice bN cj ch));have aX:z.grownBy aB (some (w.heap.size+1)):=(by rw[aK];exact I0 _ _ _ _);have cT:Row aB (w.heap.size+1) 32 [.slice bq bL bB,.slice br bM bC,.slice bN cj ch]:=(by rw[aK];exact aQ.out.2.1.set_ 2 _);have a6:=OwnS.own_lt bm.out;have c8:=bi.out;have cg:=bu.out;have b5:w.grownBy aB (some g):=(by rw[aK];exact zst (ygl cu.out aQ.out.2.2 (fun l m=>by have:=(a6 l m).1;omega) (fun l m=>by cases m)) (Nat.le_succ _) _ _);have cX:Row aB w.heap.size 32 [.slice none 0 0,.slice none 0 0,.slice none 0 0]:=(bJ.out.kept aQ.out.2.2 (fun m=>by cases m;omega) (fun m=>by have:=(a6 _ m).1;omega) (fun m=>by cases m)).grownN aX (fun l m=>by cases m;omega);have e0:L2 (G0 (w.heap.size+2) J.heap.size) (G0 (w.heap.size+2) J.heap.size) v z:=zsy aQ.out.2.2 fun l s=>⟨by have:=s.2;omega,fun m=>by cases m;have:=s.1;omega,fun m=>by have:=(a6 l m.symm).1;have:=s.2;omega,by simp⟩;have e1:L2 (G0 (w.heap.size+2) J.heap.size) (G0 (w.heap.size+2) J.heap.size) z aB:=zll aX fun l s=>⟨by have:=s.2;have:=aQ.out.2.2.size;omega,fun m=>by cases m;have:=s.1;omega⟩;rw[<-aK];have c9:=OwnS.own_lt a8
       have cd:∀l,(aA l\/G0 ak t l)->J.heap.size<=l:=fun l h=>by
        rcases h with h|h
        ·exact(fL.out l h).1
        ·have:=h.1;omega
       have a1:C0 (C++[a9])=C0 C++[E7 a9]:=(by simp[C0]);refine⟨aC+1,_,fun l=>aA l\/G0 ak t l,C++[a9],by omega,by go_num,b5,aQ.out.1.grown aX og,cX,cT,?_,by rw[List.length_append,hr.out.1];rfl,fun m aZ=> ?_,cd,IsM.stb.to (IsM.stb.to hr.out.2.2.2.1 e0) e1,IsV.stb.to (IsV.stb.to hr.out.2.2.2.2.1 e0) e1,by have:=aQ.out.2.2.size;have:=aX.size;omega⟩
       ·rw[a1];exact a8.grown IsR.stb aX fun l m=>⟨fun a0=>by have:=(c9 l a0).1;cases m;omega,fun h=>by have:=cd l h;cases m;omega⟩
       ·rcases List.mem_append.1 aZ with h|h
        ·exact hr.out.2.1 m h
        ·rw[List.mem_singleton] at h;rw[h];exact ck
      case measure=>simp[intOf];omega
    ·obtain rfl:aC=n:=(by omega);obtain⟨cP,cR,rfl⟩:=bm.out.slice;have e3:IsV v (G0 J.heap.size v.heap.size) (.slice cP (C0 C).length cR) (C0 C):=OwnS.isS IsR.stb (T:=G0 J.heap.size v.heap.size) bm.out (fun l s=>⟨hr.out.2.2.1 l s,by obtain⟨_,_,_,_,aM⟩:=bm.out;exact(aM l s).1⟩) (fun l aI aD=>⟨aI,aD⟩);have dp:=d e3;obtain⟨fj,c2⟩:=nm ((C0 C).length);rw[<-c2] at dp bP;have fy:=d c2;clear e3 c2;obtain⟨bw,bx,bA⟩:=C5 bP.out;obtain⟨hw,hx,hy⟩:=C5 bJ.out;obtain⟨cz,cA,cB⟩:=H5 bJ.out;have cH:=cF;go_wp2_with fail;refine yja Tryz.results11 rfl rfl (Row.put3 bJ.out _ _ _) ?_;obtain⟨aB,aK⟩:=nm (put3 v w.heap.size (.slice bq bL bB) (.slice br bM bC) (.slice cP fj cR));have c8:=bi.out;have cg:=hr.out.2.2.2.2.2;have gv:aB.heap.size=v.heap.size:=(by rw[aK,ztr]);have c5:∀a l:Nat,w.heap.size+2<=a->l<=v.heap.size->L2 (G0 a l) (G4 w.heap.size aB) v aB:=fun a l ha s=>(by rw[aK];exact zox fun x aU=>⟨by have:=aU.1;omega,by have:=aU.1;omega,by rw[<-aK,gv];have:=aU.2;omega⟩);have b5:w.grownBy aB (some g):=(by rw[aK];exact zst (zst (zst cu.out (f _) _ _) (f _) _ _) (f _) _ _);have cC:IsD aB g aP:=(by rw[aK];exact((df.out.far (p:=⟨w.heap.size,0,none⟩) (by simpa using cG) _).far (p:=⟨w.heap.size,1,none⟩) (by simpa using cG) _).far (p:=⟨w.heap.size,2,none⟩) (by simpa using cG) _);suffices key:yct aC aO w.heap.size (.returned (.agg #[.slice bq bL bB,.slice br bM bC,.slice cP fj cR])) aB/\IsD aB g aP/\w.grownBy aB (some g) by rw[aK] at key;exact key
     have eX:=hr.out.2.2.2.1;have e4:=hr.out.2.2.2.2.1;have e5:=dp.out;rw[fw.out] at eX⊢;rw[fx.out] at e4⊢;rw[fy.out] at e5⊢;refine⟨⟨_,⟨A,B,C⟩,rfl,zsx (p:=O7 ⟨A,B,C⟩) (IsM.stb.to eX (c5 _ _ (f _) cg)) (IsV.stb.to e4 (c5 _ _ (f _) cg)) (IsV.stb.to e5 (c5 _ _ c8 (f _))),yqt ⟨?_,?_,?_,?_,?_,?_,?_⟩ (fun row h=>(az.out.rows row h).2) az.out.szB hr.out.2.1,az.out.lB,hr.out.1⟩,cC,b5⟩
     ·exact az.out.lA.trans az.out.lB.symm
     ·exact fun row h=>(az.out.rows row h).1.trans hr.out.1.symm
     ·exact fun row h q a5=>((az.out.rows row h).2 q a5).1.le og
     ·exact fun q a5=>(az.out.szB q a5).1.le og
     ·exact fun q a5=>(hr.out.2.1 q a5).1.le og
     ·exact e (Nat.le_of_eq az.out.lB) gl
     ·exact e (Nat.le_of_eq hr.out.1) gm
end Go.Proofs.YtdgilbgdkmhcmaaGreatDoor
