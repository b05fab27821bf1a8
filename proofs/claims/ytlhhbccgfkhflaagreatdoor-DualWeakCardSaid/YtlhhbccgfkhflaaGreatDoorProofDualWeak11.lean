/-
 The contract of parlourlaw05's program.
-/
import Derived.Test.YtlhhbccgfkhflaaGreatDoorProofDualWeak10
namespace Go.Proofs.YtlhhbccgfkhflaaGreatDoor
open Go.RowKit
set_option linter.unusedVariables false
set_option maxRecDepth 100000
set_option maxHeartbeats 8000000
open _root_.Go.Lib renaming hid → d
open _root_.Option.some renaming inj → b
open _root_.Nat renaming le_refl → f, le_trans → e, lt_of_lt_of_le → i, lt_or_ge → j, zero_le → k
open _root_.Go renaming undef → c
variable {g n : Nat}
theorem ykf {b:List Value} (h:b.length=65):∃a:Nat->Value,b=[a 0,a 1,a 2,a 3,a 4,a 5,a 6,a 7,a 8,a 9,a 10,a 11,a 12,a 13,a 14,a 15,a 16,a 17,a 18,a 19,a 20,a 21,a 22,a 23,a 24,a 25,a 26,a 27,a 28,a 29,a 30,a 31,a 32,a 33,a 34,a 35,a 36,a 37,a 38,a 39,a 40,a 41,a 42,a 43,a 44,a 45,a 46,a 47,a 48,a 49,a 50,a 51,a 52,a 53,a 54,a 55,a 56,a 57,a 58,a 59,a 60,a 61,a 62,a 63,a 64]:=by
 refine⟨fun d=>b.getD d c,?_⟩
 have e:b=(List.range 65).map (fun d=>b.getD d c):=by
  apply List.ext_getElem
  ·simp[h]
  ·intro d f g;simp[List.getD_eq_getElem?_getD,List.getElem?_eq_getElem f]
 exact e.trans rfl
theorem ydo {w:World} (a g:Int) (ha:a.natAbs<=8) (o:1<=g) (p:g<=2):
 Calls Tryz.prog 48 #[.int .i64 a,.int .i64 g] w fun l w'=>(∃m q,l= .returned m/\IsQ w' (I7 w.heap.size w') m q/\zpp q)/\Below w.heap.size w w':=by have l:g=((g.toNat:Nat):Int):=og;rw[l];exact(zws (a:=a) (b:=g.toNat) og og og).mono fun l w' ⟨⟨m,n,hv⟩,h⟩=>⟨⟨m,_,n,hv,zva og og og,ywt ha og⟩,h⟩
structure OutAB (n j base:Nat) (w:World) (va vb:Value) (SA SB:Nat->Prop) (A:List (List Rat)) (B:List Rat):Prop where
 lA:A.length=j
 lB:B.length=j
 rows:∀row∈A,row.length=n/\∀e∈row,zpp e
 szB:∀e∈B,zpp e
 ownA:OwnS 1 26 IsV w base SA va (I0 A)
 ownB:OwnS 3 30 IsR w base SB vb (C4 B)
 sA:∀b,SA b->base<=b/\vb.ownBlock≠some b
 sB:∀b,SB b->base<=b/\va.ownBlock≠some b
 ne:∀b,va.ownBlock=some b->vb.ownBlock≠some b
theorem OutAB.grown {i base:Nat} {w w':World} {j k:Value} {d e:Nat->Prop} {A:List (List Rat)} {B:List Rat} (h:OutAB n i base w j k d e A B) (f:w.grownBy w' (some g)) (l:g<base):OutAB n i base w' j k d e A B:=
 ⟨h.lA,h.lB,h.rows,h.szB,h.ownA.grown IsV.stb f fun b c=>⟨fun a=>by have:=h.ownA.own_lt b a;cases c;omega,fun a=>by have:=(h.sA b a).1;cases c;omega⟩,
   h.ownB.grown IsR.stb f fun b c=>⟨fun a=>by have:=h.ownB.own_lt b a;cases c;omega,fun a=>by have:=(h.sB b a).1;cases c;omega⟩,h.sA,h.sB,h.ne⟩
def yay (n d c:Nat) (b:Ending) (w':World):Prop:=∃a q,b= .returned a/\IsP w' (I7 c w') a (I8 q)/\FineP q 2 8/\q.B.length=d/\q.C.length=n
theorem yzx {w:World} {ah:List Int} (hD:IsD w g ah) {m0:Nat} (fv:n<=40) (fu:m0<=40):
 Calls Tryz.prog 39 #[.pointer (some ⟨g,0,none⟩),.int .i64 (n:Int),.int .i64 (m0:Int)] w fun m w'=>yay n m0 w.heap.size m w'/\IsD w' g ah/\w.grownBy w' (some g):=by
 have ch:g<w.heap.size:=hD.lt;obtain⟨gJ,fF,cC,eM,eL,fN⟩:=zkd w #[.slice none 0 0,.slice none 0 0,.slice none 0 0] #[.slice none 0 0,.slice none 0 0,.slice none 0 0] 54 54;obtain⟨eP,B0,e3,e2⟩:=V7 (hD.next cC ch) cC eM eL;clear hD cC eM eL;go_in;go_wp2_with fail;clear fF;go_loopw [8,9,10] (fun W _ _ wr=>∃(ag:Nat) (Z U:Value) (ak al:Nat->Prop) (A:List (List Rat)) (B:List Rat),ag<=m0/\W= .int .i64 (ag:Int)/\w.grownBy wr (some g)/\IsD wr g ah/\Row wr w.heap.size 54 [.slice none 0 0,.slice none 0 0,.slice none 0 0]/\Row wr (w.heap.size+1) 54 [Z,U,.slice none 0 0]/\Hid (OutAB n ag (w.heap.size+2) wr Z U ak al A B)) (fun W _ _ _=>m0-(intOf W).toNat);case atStart=>refine⟨0,_,_,fun _=>False,fun _=>False,[],[],k _,rfl,K9 B0.out,eP.out,e3.out,e2.out,?_⟩;exact⟨rfl,rfl,fun _ h=>(by cases h),fun _ h=>(by cases h),OwnS.nil (fun l h=>h.elim),OwnS.nil (fun l h=>h.elim),fun l h=>h.elim,fun l h=>h.elim,fun l h=>(by cases h)⟩
 case round=>
  obtain⟨I,rfl⟩:=nm (wr);obtain⟨ag,Z,U,e5,al,A,B,eD,rfl,bJ,hD,bI,E,K⟩:=hrel;obtain⟨c2,cs,c1,bm,eT⟩:=hd5 bJ hD bI E eD;have F:w.heap.size+2<=I.heap.size:=(by have:=E.lt;omega);have aR:=d F;clear bJ hD bI E eD F;rcases j ag m0 with cj|gn
  ·have c3:=d cj;go_wp2_with fail;clear cj;go_loopw [9,10] (fun row H wr=>∃(S:Nat) (aX:Nat->Prop) (Y:List Rat),S<=n/\H= .int .i64 (S:Int)/\I.grownBy wr (some g)/\IsD wr g ah/\OwnS 3 30 IsR wr I.heap.size aX row (C4 Y)/\Hid (Y.length=S/\(∀m∈Y,zpp m)/\∀l,aX l->I.heap.size<=l)) (fun _ H _=>n-(intOf H).toNat);case atStart=>exact⟨0,fun _=>False,[],k _,rfl,J0 _ _,cs.out,OwnS.nil (fun l h=>h.elim),rfl,(fun _ h=>by cases h),fun l h=>h.elim⟩
   case round=>
    obtain⟨S,aX,Y,hc,rfl,eB,ek,bN,hr⟩:=hrel;obtain⟨aQ,cX,Own⟩:=F0 eB ek bN;clear eB ek bN;have fs:g<I.heap.size:=cs.out.lt;rcases j S n with cg|cg
    ·go_wp2_with fail;refine(ztu cX.out 9 og og).mono ?_;rintro m gK ⟨⟨x,au,aO,rfl⟩,ej,eo⟩;have eR:=d ej;have eQ:=d eo.grown;clear ej eo;go_wp2_with fail;refine(ztu eR.out 2 og og).mono ?_;rintro m bY ⟨⟨y,fG,fH,rfl⟩,cc,ep⟩;obtain⟨cW,cr⟩:=C7 cc (L5 eQ.out ep.grown);clear cc ep;go_wp2_with fail;refine(ydo (x-4) (1+y) og og og).mono ?_;rintro m cq ⟨⟨gw,q,rfl,cL,eG⟩,cf⟩;have eF:OwnS 3 30 IsR bY I.heap.size aX _ (C4 Y):=Own.out.grown IsR.stb cr.out fun l m=>⟨fun aB=>by have:=Own.out.own_lt l aB;cases m;omega,fun aB=>by have:=hr.out.2.2 l aB;cases m;omega⟩;have fx:=OwnS.step IsR.stb (T:=fun l=>aX l\/(bY.heap.size<=l/\l<cq.heap.size)) eF cf (fun l h=> .inl h) (fun l h=>h);have fr:=IsQ.stb.to cL (G4 (T:=fun l=>aX l\/(bY.heap.size<=l/\l<cq.heap.size)) fun l h=> .inr h);obtain⟨gv,fP,aJ,fO,gu,rfl,_,_,_⟩:=F9 cL;obtain⟨cV,eS⟩:=C7 (L5 aQ.out (L5 cr.out (K9 cf))) (cW.out.next cf cW.out.lt);have fq:I.heap.size<=cq.heap.size:=cV.out.size;have fz:=hr.out.1;have eX:=d eG;have bO:I.heap.size<=bY.heap.size:=e aQ.out.size cr.out.size;clear eF cf cL eG;go_wp2_with (at_builtin;refine zpn zlp rfl _ _ rfl IsR.stb rfl rfl rfl fx fr rfl (by intro ab aq;simp[Value.cells] at aq;rcases aq with rfl|rfl|rfl<;>rfl) (by rw[zku];omega) fq ?_;intro gy gL fy ez gq);go_roundw
     case rel=>
      refine⟨S+1,fun l=>aX l\/(bY.heap.size<=l/\l<cq.heap.size),Y++[q],by omega,by go_num,yhv cV.out ez,eS.out.next ez fs,?_,by simp[fz],?_,?_⟩
      ·rw[C4,List.map_append];exact fy
      ·intro m aA;rcases List.mem_append.1 aA with aA|aA
       ·exact hr.out.2.1 m aA
       ·rw[List.mem_singleton] at aA;rw[aA];exact eX.out
      ·intro l t;rcases t with t|t
       ·exact hr.out.2.2 l t
       ·omega
     case measure=>simp[intOf];omega
    ·obtain rfl:S=n:=og;obtain⟨J,rfl⟩:=nm (wr);have a6:=(K.out.grown (g:=g) aQ.out (by have:=bm.out.lt;omega));obtain⟨R,bf,rfl⟩:=Own.out.slice;have gp:(C4 Y).length=S:=(by rw[zku,hr.out.1]);obtain⟨bQ,eE⟩:=nm ((C4 Y).length);have aM:=OwnS.own_lt K.out.ownA;have aN:=OwnS.own_lt K.out.ownB;have ei:=OwnS.own_lt a6.ownA;have cw:=OwnS.own_lt a6.ownB;have gr:I.heap.size<=J.heap.size:=aQ.out.size;obtain⟨ak,bG⟩:∃e4:Nat->Prop,e4=fun l=>e5 l\/(I.heap.size<=l/\l<J.heap.size):=⟨_,rfl⟩
     have bH:∀l,ak l->w.heap.size+2<=l/\l<J.heap.size/\Z.ownBlock≠some l/\U.ownBlock≠some l:=by
      intro l t;rw[bG] at t;rcases t with t|t
      ·obtain⟨b8,aP,N,aJ,aj⟩:=a6.ownA;exact⟨(K.out.sA l t).1,(aj l t).1,fun m=>(aj l t).2 m.symm,(K.out.sA l t).2⟩
      ·exact⟨by have:=aR.out;omega,t.2,fun m=>by have:=(aM l m).2;omega,fun m=>by have:=(aN l m).2;omega⟩
     have cy:∀l,al l->w.heap.size+2<=l/\l<J.heap.size/\Z.ownBlock≠some l/\U.ownBlock≠some l:=(by intro l t;obtain⟨b8,aP,N,aJ,aj⟩:=a6.ownB;exact⟨(K.out.sB l t).1,(aj l t).1,(K.out.sB l t).2,fun m=>(aj l t).2 m.symm⟩);have c4:=d (OwnS.wider IsV.stb (T:=ak) a6.ownA (fun l h=>by rw[bG];exact .inl h) fun l h=>⟨(bH l h).2.1,fun m=>(bH l h).2.2.1 m.symm⟩);have eY:=d a6.ownB;have cU:Hid (IsV J ak (.slice R (C4 Y).length bf) (C4 Y)):=OwnS.isS IsR.stb (T:=ak) Own.out (fun l t=>by rw[bG];exact .inr ⟨hr.out.2.2 l t,by obtain⟨_,_,_,_,ae⟩:=Own.out;exact(ae l t).1⟩) (fun l V T=>by rw[bG];exact .inr ⟨V,T⟩);obtain⟨b4,cu⟩:=C7 bH cy;have b7:Hid ((w.heap.size+1)≠g):=oH;have aY:Hid (w.heap.size+2<=J.heap.size):=oH1 aR;have b5:Hid ((I0 A).length<100/\B.length<100):=(by rw[Hid,zmi,K.out.lA,K.out.lB];have:=c3.out;omega);have e7:Hid (∀l,Z.ownBlock=some l->g<l/\(w.heap.size+1)≠l):=fun l m=>(by have:=(aM l m).1;omega);have e8:Hid (∀l,U.ownBlock=some l->g<l/\(w.heap.size+1)≠l):=fun l m=>(by have:=(aN l m).1;omega);have c5:Hid (∀l,U.ownBlock=some l->l<J.heap.size):=fun l m=>(cw l m).2
     have aZ:Hid (∀H l,ztd g Z U H=some l->l<J.heap.size/\(H≠4->Z.ownBlock≠some l/\¬ak l)/\(H≠15->U.ownBlock≠some l/\¬al l)):=by
      intro H l m
      have bL:l=g\/Z.ownBlock=some l\/U.ownBlock=some l:=by
       unfold ztd at m;split at m
       ·exact .inr (.inl m)
       ·exact .inl (by cases m;rfl)
       ·exact .inl (by cases m;rfl)
       ·exact .inr (.inr m)
       ·cases m
      have eA:∀av:Value,(∀l,av.ownBlock=some l->w.heap.size+2<=l)->l=g->av.ownBlock≠some l:=fun av hv fR fe=>(by have:=hv l fe;omega);refine⟨?_,fun cD=>⟨?_,fun h=> ?_⟩,fun cD=>⟨?_,fun h=> ?_⟩⟩
      ·rcases bL with h|h|h
       ·have:=aR.out;omega
       ·exact(ei l h).2
       ·exact(cw l h).2
      ·rcases bL with h|h|h
       ·exact eA Z (fun l h=>(aM l h).1) h
       ·intro aD;unfold ztd at m;split at m
        ·exact cD rfl
        ·cases m;have:=(aM _ aD).1;omega
        ·cases m;have:=(aM _ aD).1;omega
        ·exact K.out.ne l aD m
        ·cases m
       ·exact fun aD=>K.out.ne l aD h
      ·have:=bH l h;rcases bL with h|h|h
       ·omega
       ·exact this.2.2.1 h
       ·exact this.2.2.2 h
      ·rcases bL with h|h|h
       ·exact eA U (fun l h=>(aN l h).1) h
       ·exact K.out.ne l h
       ·intro aD;unfold ztd at m;split at m
        ·exact K.out.ne l m aD
        ·cases m;have:=(aN _ aD).1;omega
        ·cases m;have:=(aN _ aD).1;omega
        ·exact cD rfl
        ·cases m
      ·have:=cy l h;rcases bL with h|h|h
       ·omega
       ·exact this.2.2.1 h
       ·exact this.2.2.2 h
     obtain⟨b3,be,bn⟩:=F0 (L5 c2.out (r:=some g) (c:=J) (aQ.out)) (c1.out.grownN aQ.out fun l m=>by cases m;omega) (bm.out.grownN aQ.out fun l m=>by cases m;omega);have P:=d K.out;clear K a6 aM aN ei cw bG bH cy;rw[<-eE] at cU⊢;clear eE;go_wp2_with fail;refine zqe fun ops r=> ?_;have p:=fun cR h=>zsw (n:=17) r cR h;refine zud 17 (yaq g (w.heap.size+1) Z U R bQ bf J.heap.size (w.heap.size+2) ak al A B Y) (yoe (w.heap.size+2) Z U (.slice R bQ bf) ak al A B Y) (JD g (w.heap.size+1) ah [Z,U,.slice none 0 0] Z.ownBlock U.ownBlock J) (fun H w w'=>w.grownBy w' (ztd g Z U H)) kr ?hJ0 ?hP0 ?hPs ?hst (by rw[r];kernel_rfl) (by rw[r];kernel_rfl) ?step ?fin;(case hJ0=>exact⟨cX.out.grownN (K9 (row:=none) (L8 _)) (fun l m=>by cases m),bn.out,(Kept.refl _ _ _ _).step (K9 (row:=none) (L8 _)) (.inl rfl)⟩);case hP0=>exact fun W=>⟨fun _=>⟨c4.out,cU.out⟩,fun _=>eY.out⟩
     case hPs=>
      intro W H bZ b0 aG h v aE;refine⟨fun fi=> ?_,fun fc=> ?_⟩
      ·subst fi;have h:=And.left h rfl;exact⟨h.1.grown IsV.stb aE fun l m=>((aZ.out H l m).2.1 (Ne.symm aG)),IsV.stb.to h.2 (zml aE fun l t=>⟨i (b4.out l t).2.1 v.2.2.size,fun m=>((aZ.out H l m.symm).2.1 (Ne.symm aG)).2 t⟩)⟩
      ·subst fc;exact(And.right h rfl).grown IsR.stb aE fun l m=>((aZ.out H l m).2.2 (Ne.symm aG))
     case hst=>exact fun W H av bZ b0 X ab aG cA h v aE=>yyk aZ.out W H av bZ b0 X ab aG cA h aE
     case step=>
      intro W fI a8 u a L X F a7 v E G o z;obtain⟨bp,a5⟩:=a;replace F:bp.size=65:=F;obtain rfl:a5=[]:=a7;match W,a8,u,G,E with
      |0,_,u,G,E=>obtain rfl:=G0 r u;have aC:=X7 (o 7 (p 7 kr));refine I9 fun M D=> ?_;clear z o F r p;go_simp;exact D (.pointer (some ⟨(w.heap.size+1),0,none⟩)) _ (J0 _ _) v rfl
      |1,_,u,G,E=>obtain rfl:=G0 r u;have fS:=M7 z r 0 32;obtain⟨a0,a1,a2⟩:=C0 v.2.1;refine I9 fun M D=> ?_;clear z o F r p;go_simp;exact D (Z) _ (J0 _ _) v rfl
      |2,_,u,G,E=>obtain rfl:=G0 r u;have eg:=X7 (o 9 (p 9 kr));refine I9 fun M D=> ?_;clear z o F r p;go_simp;exact D (.slice R bQ bf) _ (J0 _ _) v rfl
      |3,_,u,G,E=>obtain rfl:=G0 r u;have fT:=M7 z r 2 34;refine I9 fun M D=> ?_;clear z o F r p;go_simp;exact D (.slice (some ⟨L.heap.size,0,none⟩) 1 1) _ (zkm _ _ _) (v.step (zkm _ _ _) (.inl rfl) (fun l m=>by cases m)) ⟨L.heap.size,rfl,v.2.2.size,heap_alloc_new _ _⟩
      |4,_,u,G,E=>obtain rfl:=G0 r u;have ff:=M7 z r 1 33;obtain⟨gx,fg,d35⟩:=zkk z r 3 35;refine I9 fun M D=> ?_;clear z o F r p;obtain⟨gl,rfl,eC,bK⟩:=d35;refine zry elV (.tmp 33) (.tmp 35) rfl IsV.stb (zll ff) (zll fg) (ev:= .slice R bQ bf) bK (And.left E rfl).1 (And.left E rfl).2 rfl (by intro ab aq;simp[Value.cells] at aq;subst aq;rfl) (oh b5) (e aY.out v.2.2.size) fun bX w' V T ad=>D bX w' T (v.step T (.inr (.inl rfl)) e7.out) ⟨V,ad.imp id fun h=>⟨_,h,v.2.2.size⟩⟩
      |5,_,u,G,E=>obtain rfl:=G0 r u;have aC:=X7 (o 7 (p 7 kr));refine I9 fun M D=> ?_;clear z o F r p;go_simp;exact D (.pointer (some ⟨(w.heap.size+1),1,none⟩)) _ (J0 _ _) v rfl
      |6,_,u,G,E=>obtain rfl:=G0 r u;have fU:=M7 z r 5 37;obtain⟨a0,a1,a2⟩:=C0 v.2.1;refine I9 fun M D=> ?_;clear z o F r p;go_simp;exact D (U) _ (J0 _ _) v rfl
      |7,_,u,G,E=>obtain rfl:=G0 r u;have ee:=X7 (o 0 (p 0 kr));refine I9 fun M D=> ?_;clear z o F r p;go_simp;exact D (.pointer (some ⟨g,0,none⟩)) _ (J0 _ _) v rfl
      |8,_,u,G,E=>obtain rfl:=G0 r u;have fV:=M7 z r 7 39;have b1:X 4=some (bp.getD 36 c):=(z 4 _ (M6 kr) (H8 (j:=4) r rfl)).1;have ft:∀l,(bp.getD 36 c).ownBlock=some l->w.heap.size+2<=l/\l<L.heap.size:=fun l t=>OwnS.own_lt (z 4 _ (M6 kr) (H8 (j:=4) r rfl)).2.1 l t;refine I9 fun M D=> ?_;clear z o F r p;go_simp;refine(ztu v.1 12 og og).mono ?_;rintro m w' ⟨⟨x,au,aO,rfl⟩,hD,az⟩;exact D (.int .i64 x) w' az.grown (v.draw hD az b7.out) ⟨⟨x,au,by omega,rfl⟩,_,zra b1 G,fun l t=>i (ft l t).2 (Nat.le_of_eq az.size.symm)⟩
      |9,_,u,G,E=>obtain rfl:=G0 r u;obtain⟨gz,fW,d40⟩:=zkk z r 8 40;obtain⟨⟨x,au,aO,rfl⟩,_⟩:=d40;have ar:IntKind.i64.wrap (x-3)=x-3:=IntWalk.i64_in _ og;refine I9 fun M D=> ?_;clear z o F r p;go_simp;clear ar;exact D (.int .i64 (x-3)) _ (J0 _ _) v ⟨x-3,by omega,by omega,rfl⟩
      |10,_,u,G,E=>obtain rfl:=G0 r u;have ee:=X7 (o 0 (p 0 kr));refine I9 fun M D=> ?_;clear z o F r p;go_simp;exact D (.pointer (some ⟨g,0,none⟩)) _ (J0 _ _) v rfl
      |11,_,u,G,E=>obtain rfl:=G0 r u;have fY:=M7 z r 10 42;have cH:∃ab,X 4=some ab/\∀l,ab.ownBlock=some l->l<L.heap.size:=(z 8 _ (M6 kr) (H8 (j:=8) r rfl)).2.2;refine I9 fun M D=> ?_;clear z o F r p;go_simp;refine(ztu v.1 2 og og).mono ?_;rintro m w' ⟨⟨x,au,aO,rfl⟩,hD,az⟩;exact D (.int .i64 x) w' az.grown (v.draw hD az b7.out) ⟨⟨x,au,by omega,rfl⟩,ycw cH G (Nat.le_of_eq az.size.symm)⟩
      |12,_,u,G,E=>obtain rfl:=G0 r u;obtain⟨gB,fZ,d43⟩:=zkk z r 11 43;obtain⟨⟨x,au,aO,rfl⟩,_⟩:=d43;have ar:IntKind.i64.wrap (1+x)=1+x:=IntWalk.i64_in _ og;refine I9 fun M D=> ?_;clear z o F r p;go_simp;clear ar;exact D (.int .i64 (1+x)) _ (J0 _ _) v ⟨1+x,by omega,by omega,rfl⟩
      |13,_,u,G,E=>obtain rfl:=G0 r u;obtain⟨gA,fX,d41⟩:=zkk z r 9 41;obtain⟨gC,ga,d44⟩:=zkk z r 12 44;have cH:∃ab,X 4=some ab/\∀l,ab.ownBlock=some l->l<L.heap.size:=(z 11 _ (M6 kr) (H8 (j:=11) r rfl)).2.2;obtain⟨x,au,aO,rfl⟩:=d41;obtain⟨y,fG,fH,rfl⟩:=d44;refine I9 fun M D=> ?_;clear z o F r p;go_simp;refine(ydo x y og og og).mono ?_;rintro m w' ⟨⟨av,q,rfl,aH,cI⟩,t⟩;exact D av w' (K9 t) (v.step (K9 t) (.inl rfl) (fun l m=>by cases m)) ⟨q,L.heap.size,w'.heap.size,cI,⟨v.2.2.size,t.size⟩,f _,zuu cH G,aH⟩
      |14,_,u,G,E=>obtain rfl:=G0 r u;obtain⟨gD,gd,d45⟩:=zkk z r 13 45;refine I9 fun M D=> ?_;clear z o F r p;obtain⟨q,O,u,V,T,ad,ae,ao⟩:=d45;obtain⟨bd,aU,N,aS,a9,rfl,_,_,_⟩:=F9 ao;go_simp;exact D (.slice (some ⟨L.heap.size,0,none⟩) 1 1) _ (zkm _ _ _) (v.step (zkm _ _ _) (.inl rfl) (fun l m=>by cases m)) ⟨q,O,u,.agg #[.bool bd,.slice aU (A8 q.num.natAbs).length N,.slice aS (A8 q.den).length a9],V,T,e ad (zkm L _ none).size,zuu ae G,ao.rngG (zkm _ _ none) ad (fun l m=>by cases m),L.heap.size,rfl,v.2.2.size,heap_alloc_new _ _⟩
      |15,_,u,G,E=>
       obtain rfl:=G0 r u;have fh:=M7 z r 6 38;obtain⟨gE,fj,d46⟩:=zkk z r 14 46;refine I9 fun M D=> ?_;clear z o F r p;obtain⟨q,O,u,m,V,T,ad,ae,ao,h,rfl,eC,bK⟩:=d46;replace E:=And.right E rfl;obtain⟨bd,aU,N,aS,a9,rfl,_,_,_⟩:=F9 ao;refine zry zlp (.tmp 38) (.tmp 46) rfl IsR.stb (zll fh) (zll fj) (ev:= .agg #[.bool bd,.slice aU (A8 q.num.natAbs).length N,.slice aS (A8 q.den).length a9]) (y:=E0 q) bK (OwnS.wider IsR.stb (T:=fun l=>al l\/G6 O u l) E (fun l h=> .inl h) ?_) (IsR.stb.to ao (G4 fun l h=> .inr h)) rfl (by intro ab aq;simp[Value.cells] at aq;rcases aq with rfl|rfl|rfl<;>rfl) (by rw[zku];have:=b5.out;omega) (e aY.out v.2.2.size) fun bX w' aP N aJ=>D bX w' N (v.step N (.inr (.inr rfl)) e8.out) ⟨q,O,u,V,T,e ad N.size,zuu ae G,aP,aJ.imp id fun h=>⟨_,h,ad,v.2.2.size⟩⟩;have fw:=OwnS.own_lt E;have cK:=c5.out;intro l t;obtain⟨b8,aP,N,aJ,aj⟩:=E;rcases t with t|t
       ·exact aj l t
       ·exact⟨i t.2 ad,fun m=>by have:=cK l m.symm;have:=t.1;omega⟩
      |16,_,u,G,E=>obtain rfl:=G0 r u;have aC:=X7 (o 7 (p 7 kr));refine I9 fun M D=> ?_;clear z o F r p;go_simp;exact D (.pointer (some ⟨(w.heap.size+1),0,none⟩)) _ (J0 _ _) v rfl
      |W+17,a8,u,G,E=>exact absurd a8 og
     case fin=>
      intro a L X F a7 v o af;obtain⟨⟨ah⟩,a5⟩:=a;replace F:ah.length=65:=F;obtain⟨s,rfl⟩:=ykf F;obtain rfl:a5=[]:=a7;have bq:s 0= .pointer (some ⟨g,0,none⟩):=b (o 0 (p 0 kr));have br:s 1= .int .i64 (S:Int):=b (o 1 (p 1 kr));have bu:s 2= .int .i64 (m0:Int):=b (o 2 (p 2 kr));have bv:s 3=c:=b (o 3 (p 3 kr));have bw:s 4=c:=b (o 4 (p 4 kr));have bx:s 5=c:=b (o 5 (p 5 kr));have bA:s 6= .pointer (some ⟨w.heap.size,0,none⟩):=b (o 6 (p 6 kr));have bC:s 7= .pointer (some ⟨(w.heap.size+1),0,none⟩):=b (o 7 (p 7 kr));have bD:s 8= .int .i64 (ag:Int):=b (o 8 (p 8 kr));have bE:s 9= .slice R bQ bf:=b (o 9 (p 9 kr));have bt:s 11=c:=b (o 11 (p 11 kr));have dO:s 50=c:=b (o 50 (p 50 kr));have dP:s 51=c:=b (o 51 (p 51 kr));have dQ:s 52=c:=b (o 52 (p 52 kr));have dR:s 53=c:=b (o 53 (p 53 kr));have dS:s 54=c:=b (o 54 (p 54 kr));have dT:s 55=c:=b (o 55 (p 55 kr));have dU:s 56=c:=b (o 56 (p 56 kr));have dV:s 57=c:=b (o 57 (p 57 kr));have dW:s 58=c:=b (o 58 (p 58 kr));have dX:s 59=c:=b (o 59 (p 59 kr));have dY:s 60=c:=b (o 60 (p 60 kr));have dZ:s 61=c:=b (o 61 (p 61 kr));have ec:s 62=c:=b (o 62 (p 62 kr));have ed:s 63=c:=b (o 63 (p 63 kr));have bB:s 64=c:=b (o 64 (p 64 kr));have b1:X 4=some (s 36):=(af 4 _ og (H8 (j:=4) r rfl)).1;have cl:(OwnS 1 26 IsV L (w.heap.size+2) ak (s 36) (I0 A++[C4 Y])/\((s 36).ownBlock=Z.ownBlock\/∃l,(s 36).ownBlock=some l/\J.heap.size<=l)):=(af 4 _ og (H8 (j:=4) r rfl)).2;have eN:X 15=some (s 47):=(af 15 _ og (H8 (j:=15) r rfl)).1;have cm:PApp L (w.heap.size+2) J.heap.size (fun O=>∃ab,X 4=some ab/\∀l,ab.ownBlock=some l->l<O) al U (C4 B) (s 47):=(af 15 _ og (H8 (j:=15) r rfl)).2;have fL:X 16=some (s 48):=(af 16 _ og (H8 (j:=16) r rfl)).1;have eJ:(s 48)= .pointer (some ⟨(w.heap.size+1),0,none⟩):=(af 16 _ og (H8 (j:=16) r rfl)).2;clear fL;clear af o F;rw[r];clear r p;rw[bq,br,bu,bv,bw,bx,bA,bC,bD,bE,bt,dO,dP,dQ,dR,dS,dT,dU,dV,dW,dX,dY,dZ,ec,ed,bB,eJ];clear bq br bu bv bw bx bA bC bD bE bt dO dP dQ dR dS dT dU dV dW dX dY dZ ec ed bB eJ;generalize s 36=t36 at cl b1⊢;generalize s 47=t47 at cm eN⊢;obtain⟨a0,a1,a2⟩:=C0 v.2.1;obtain⟨b9,ca,cb⟩:=E9 v.2.1;obtain⟨cS,eH,rfl⟩:=cl.1.slice;obtain⟨bR,bj,bP,rfl⟩:∃n A H,t47= .slice A n H:=(by obtain⟨aL,O,u,bT,cO,cP,ck,aK,bU⟩:=cm;exact⟨_,aK.slice⟩);obtain⟨ai,eZ,e0,fb⟩:=V7 v cl cm b1;clear v cl cm b1 eN;have cj:=c3.out;show wpList _ _ _ [_,_,_] _ _;go_wp2_with fail;clear a0 a1 a2 b9 ca cb;go_roundw
      case rel=>
       obtain⟨aL,O,u,bT,cO,cP,ck,aK,bU⟩:=e0.out;obtain⟨gM,fK,cQ⟩:=ck;obtain rfl:=b (fb.out.symm.trans fK);have bV:=eZ.out;have eg:(I0 A++[C4 Y]).length=(I0 A).length+1:=(by simp);rw[eg] at bV cQ;obtain⟨c6,cd⟩:=nm (L.setCell ⟨w.heap.size+1,0,none⟩ (.slice cS ((I0 A).length+1) eH));have fo:L.grownBy c6 (some (w.heap.size+1)):=(by rw[cd];exact K0 _ _ _ _);obtain⟨Q,aa⟩:=nm (c6.setCell ⟨w.heap.size+1,1,none⟩ (.slice bj bR bP));have ay:L.grownBy Q (some (w.heap.size+1)):=(by rw[aa];exact L5 fo (K0 _ _ _ _));have cx:Row Q (w.heap.size+1) 54 [.slice cS ((I0 A).length+1) eH,.slice bj bR bP,.slice none 0 0]:=by rw[aa,cd];exact(ai.out.2.1.set_ 0 _).set_ 1 _
       have bF:w.grownBy Q (some g):=by
        rw[aa,cd];refine zuo (zuo (yio b3.out ai.out.2.2 (fun l m=> ?_) (fun l m=> ?_)) (Nat.le_succ _) _ _) (Nat.le_succ _) _ _
        ·have:=(OwnS.own_lt P.out.ownA l m).1;omega
        ·have:=(OwnS.own_lt P.out.ownB l m).1;omega
       have cB:Row Q w.heap.size 54 [.slice none 0 0,.slice none 0 0,.slice none 0 0]:=(be.out.kept ai.out.2.2 (fun m=>by cases m;omega) (fun m=>by have:=(OwnS.own_lt P.out.ownA _ m).1;omega) (fun m=>by have:=(OwnS.own_lt P.out.ownB _ m).1;omega)).grownN ay (fun l m=>by cases m;omega);rw[<-cd,<-aa]
       have bM:∀l,¬(al l\/G6 O u l)\/w.heap.size+2<=l:=fun l=>by
        by_cases h:al l\/G6 O u l
        ·refine .inr ?_;rcases h with h|h
         ·exact(cu.out l h).1
         ·have:=aY.out;have:=h.1;omega
        ·exact .inl h
       refine⟨ag+1,_,_,ak,fun l=>al l\/G6 O u l,A++[Y],B++[aL],by omega,by go_num,bF,ai.out.1.grown ay og,cB,cx,?_⟩;have fl:I0 (A++[Y])=I0 A++[C4 Y]:=(by simp[I0]);have aC:C4 (B++[aL])=C4 B++[E0 aL]:=(by simp[C4]);have fJ:=OwnS.own_lt bV.1;have cN:=OwnS.own_lt aK
       refine⟨by rw[List.length_append,P.out.lA];rfl,by rw[List.length_append,P.out.lB];rfl,fun row fD=> ?_,fun m aA=> ?_,by rw[fl];exact bV.1.grown IsV.stb ay fun l m=>⟨fun aB=>by have:=(fJ l aB).1;cases m;omega,fun h=>by have:=(b4.out l h).1;cases m;omega⟩,
        by rw[aC];exact aK.grown IsR.stb ay fun l m=>⟨fun aB=>by have:=(cN l aB).1;cases m;omega,fun h=>by rcases bM l with bg|bg;exact bg h;cases m;omega⟩,fun l t=>⟨(b4.out l t).1,?_⟩,fun l t=>⟨?_,?_⟩,fun l t=> ?_⟩
       ·rcases List.mem_append.1 fD with h|h
        ·exact P.out.rows row h
        ·rw[List.mem_singleton] at h;rw[h];exact⟨hr.out.1,hr.out.2.1⟩
       ·rcases List.mem_append.1 aA with h|h
        ·exact P.out.szB m h
        ·rw[List.mem_singleton] at h;rw[h];exact bT
       ·have ar:=b4.out l t;rcases bU with h|⟨c7,h,eh,fp⟩
        ·rw[h];exact ar.2.2.2
        ·rw[h];intro m;cases m;omega
       ·rcases bM l with h|h
        ·exact absurd t h
        ·exact h
       ·rcases bV.2 with h|⟨c7,h,eh⟩
        ·rw[h];rcases t with t|t
         ·exact(cu.out l t).2.2.1
         ·intro m;have:=(OwnS.own_lt c4.out l m).2;have:=t.1;omega
        ·rw[h];intro m;cases m;rcases t with t|t
         ·have:=(cu.out _ t).2.1;omega
         ·have:=cQ _ h;have:=t.1;omega
       ·rcases bU with h|⟨c7,h,eh,fp⟩
        ·rw[h];rcases bV.2 with bg|⟨fQ,bg,gm⟩
         ·rw[bg] at t;exact P.out.ne l t
         ·rw[bg] at t;cases t;intro m;have:=c5.out _ m;omega
        ·rw[h];intro m;cases m;have:=cQ _ t;omega
      case measure=>simp[intOf];omega
  ·obtain rfl:ag=m0:=oh eT;have aM:=OwnS.own_lt K.out.ownA;have aN:=OwnS.own_lt K.out.ownB;obtain⟨aV,a3,rfl⟩:=K.out.ownA.slice;obtain⟨aW,a4,rfl⟩:=K.out.ownB.slice;have em:IsM I (G6 (w.heap.size+2) I.heap.size) (.slice aV (I0 A).length a3) (I0 A):=OwnS.isS IsV.stb (T:=G6 (w.heap.size+2) I.heap.size) K.out.ownA (fun l t=>⟨(K.out.sA l t).1,by obtain⟨_,_,_,_,ae⟩:=K.out.ownA;exact(ae l t).1⟩) (fun l V T=>⟨V,T⟩);have eu:IsV I (G6 (w.heap.size+2) I.heap.size) (.slice aW (C4 B).length a4) (C4 B):=OwnS.isS IsR.stb (T:=G6 (w.heap.size+2) I.heap.size) K.out.ownB (fun l t=>⟨(K.out.sB l t).1,by obtain⟨_,_,_,_,ae⟩:=K.out.ownB;exact(ae l t).1⟩) (fun l V T=>⟨V,T⟩);obtain⟨cY,cZ⟩:=C7 em eu;have P:=d K.out;obtain⟨bh,cE⟩:=nm ((I0 A).length);obtain⟨bi,cF⟩:=nm ((C4 B).length);rw[<-cE] at cY bm;rw[<-cF] at cZ bm;obtain⟨eU,eV⟩:=C7 cE cF;clear K aM aN em eu cE cF;go_wp2_with fail
   go_loopw [11] (fun H wr=>∃(S:Nat) (ac:Value) (an:Nat->Prop) (C:List Rat),S<=n/\H= .int .i64 (S:Int)/\w.grownBy wr (some g)/\IsD wr g ah/\Row wr w.heap.size 54 [.slice none 0 0,.slice none 0 0,.slice none 0 0]/\Row wr (w.heap.size+1) 54 [.slice aV bh a3,.slice aW bi a4,ac]/\OwnS 3 30 IsR wr I.heap.size an ac (C4 C)/\
    Hid (C.length=S/\(∀m∈C,zpp m)/\(∀l,an l->I.heap.size<=l)/\IsM wr (G6 (w.heap.size+2) I.heap.size) (.slice aV bh a3) (I0 A)/\IsV wr (G6 (w.heap.size+2) I.heap.size) (.slice aW bi a4) (C4 B)/\I.heap.size<=wr.heap.size)) (fun H _=>n-(intOf H).toNat)
   case atStart=>exact⟨0,_,fun _=>False,[],k _,rfl,c2.out,cs.out,c1.out,bm.out,OwnS.nil (fun l h=>h.elim),rfl,(fun _ h=>by cases h),(fun l h=>h.elim),cY.out,cZ.out,f _⟩
   case round=>
    obtain⟨S,ac,an,C,hc,rfl,bJ,hD,bI,E,bN,hr⟩:=hrel;obtain⟨J,rfl⟩:=nm (wr);obtain⟨b3,cT,be,bn,aT⟩:=hd5 bJ hD bI E bN;have hr:=hr;clear bJ hD bI E bN;rcases j S n with cg|cg
    ·have aI:=OwnS.own_lt aT.out;have cz:∀l,an l->I.heap.size<=l/\l<J.heap.size/\ac.ownBlock≠some l:=fun l t=>(by obtain⟨b8,aP,N,aJ,aj⟩:=aT.out;exact⟨hr.out.2.2.1 l t,(aj l t).1,fun m=>(aj l t).2 m.symm⟩);have e6:=d cz;have b7:Hid ((w.heap.size+1)≠g):=oH;have aY:Hid (I.heap.size<=J.heap.size):=hr.out.2.2.2.2.2;have b5:Hid (C.length<100):=(by rw[Hid,hr.out.1];omega);have e9:Hid (∀l,ac.ownBlock=some l->g<l/\(w.heap.size+1)≠l):=fun l m=>(by have:=(aI l m).1;have:=aR.out;omega);have fa:Hid (∀l,ac.ownBlock=some l->l<J.heap.size):=fun l m=>(aI l m).2
     have aZ:Hid (∀H l,zvu g ac H=some l->l<J.heap.size/\(H≠7->ac.ownBlock≠some l/\¬an l)):=by
      intro H l m;have cM:=aR.out;have bO:=aY.out;unfold zvu at m;split at m
      ·cases m;exact⟨by omega,fun _=>⟨fun h=>by have:=(aI _ h).1;omega,fun h=>by have:=(cz _ h).1;omega⟩⟩
      ·exact⟨(aI l m).2,fun h=>absurd rfl h⟩
      ·cases m
     clear aI cz;go_wp2_with fail;refine zqe fun ops r=> ?_;have p:=fun cR h=>zsw (n:=8) r cR h;refine zud 8 (yar g (w.heap.size+1) ac J.heap.size I.heap.size an C) (yof I.heap.size ac an C) (JD g (w.heap.size+1) ah [.slice aV bh a3,.slice aW bi a4,ac] ac.ownBlock none J) (fun H w w'=>w.grownBy w' (zvu g ac H)) kr ?hJ0 ?hP0 ?hPs ?hst (by rw[r];kernel_rfl) (by rw[r];kernel_rfl) ?step ?fin;(case hJ0=>exact⟨cT.out.grownN (K9 (row:=none) (L8 _)) (fun l m=>by cases m),bn.out,(Kept.refl _ _ _ _).step (K9 (row:=none) (L8 _)) (.inl rfl)⟩);(case hP0=>exact fun W _=>aT.out);(case hPs=>intro W H bZ b0 aG h v aE aC;subst aC;exact OwnS.grown IsR.stb (h rfl) aE fun l m=>((aZ.out H l m).2 (Ne.symm aG)));case hst=>exact fun W H av bZ b0 X ab aG cA h v aE=>yyl aZ.out W H av bZ b0 X ab aG cA h aE
     case step=>
      intro W fI a8 u a L X F a7 v E G o z;obtain⟨bp,a5⟩:=a;replace F:bp.size=65:=F;obtain rfl:a5=[]:=a7;match W,a8,u,G,E with
      |0,_,u,G,E=>obtain rfl:=G0 r u;have aC:=X7 (o 7 (p 7 kr));refine I9 fun M D=> ?_;clear z o F r p;go_simp;exact D (.pointer (some ⟨(w.heap.size+1),2,none⟩)) _ (J0 _ _) v rfl
      |1,_,u,G,E=>obtain rfl:=G0 r u;have gf:=M7 z r 0 55;obtain⟨a0,a1,a2⟩:=C0 v.2.1;refine I9 fun M D=> ?_;clear z o F r p;go_simp;exact D (ac) _ (J0 _ _) v rfl
      |2,_,u,G,E=>obtain rfl:=G0 r u;have ee:=X7 (o 0 (p 0 kr));refine I9 fun M D=> ?_;clear z o F r p;go_simp;exact D (.pointer (some ⟨g,0,none⟩)) _ (J0 _ _) v rfl
      |3,_,u,G,E=>obtain rfl:=G0 r u;have gg:=M7 z r 2 57;refine I9 fun M D=> ?_;clear z o F r p;go_simp;refine(ztu v.1 9 og og).mono ?_;rintro m w' ⟨⟨x,au,aO,rfl⟩,hD,az⟩;exact D (.int .i64 x) w' az.grown (v.draw hD az b7.out) ⟨x,au,by omega,rfl⟩
      |4,_,u,G,E=>obtain rfl:=G0 r u;obtain⟨gF,gh,d58⟩:=zkk z r 3 58;obtain⟨x,au,aO,rfl⟩:=d58;have ar:IntKind.i64.wrap (x-5)=x-5:=IntWalk.i64_in _ og;refine I9 fun M D=> ?_;clear z o F r p;go_simp;clear ar;exact D (.int .i64 (x-5)) _ (J0 _ _) v ⟨x-5,by omega,by omega,rfl⟩
      |5,_,u,G,E=>obtain rfl:=G0 r u;obtain⟨gG,gi,d59⟩:=zkk z r 4 59;obtain⟨x,au,aO,rfl⟩:=d59;refine I9 fun M D=> ?_;clear z o F r p;go_simp;refine(ydo x 1 og og og).mono ?_;rintro m w' ⟨⟨av,q,rfl,aH,cI⟩,t⟩;exact D av w' (K9 t) (v.step (K9 t) (.inl rfl) (fun l m=>by cases m)) ⟨q,L.heap.size,w'.heap.size,cI,⟨v.2.2.size,t.size⟩,f _,trivial,aH⟩
      |6,_,u,G,E=>obtain rfl:=G0 r u;obtain⟨gH,gj,d60⟩:=zkk z r 5 60;refine I9 fun M D=> ?_;clear z o F r p;obtain⟨q,O,u,V,T,ad,ae,ao⟩:=d60;obtain⟨bd,aU,N,aS,a9,rfl,_,_,_⟩:=F9 ao;go_simp;exact D (.slice (some ⟨L.heap.size,0,none⟩) 1 1) _ (zkm _ _ _) (v.step (zkm _ _ _) (.inl rfl) (fun l m=>by cases m)) ⟨q,O,u,.agg #[.bool bd,.slice aU (A8 q.num.natAbs).length N,.slice aS (A8 q.den).length a9],V,T,e ad (zkm L _ none).size,trivial,ao.rngG (zkm _ _ none) ad (fun l m=>by cases m),L.heap.size,rfl,v.2.2.size,heap_alloc_new _ _⟩
      |7,_,u,G,E=>
       obtain rfl:=G0 r u;have fk:=M7 z r 1 56;obtain⟨gI,fm,d61⟩:=zkk z r 6 61;refine I9 fun M D=> ?_;clear z o F r p;obtain⟨q,O,u,m,V,T,ad,ae,ao,h,rfl,eC,bK⟩:=d61;replace E:=E rfl;obtain⟨bd,aU,N,aS,a9,rfl,_,_,_⟩:=F9 ao;refine zry zlp (.tmp 56) (.tmp 61) rfl IsR.stb (zll fk) (zll fm) (ev:= .agg #[.bool bd,.slice aU (A8 q.num.natAbs).length N,.slice aS (A8 q.den).length a9]) (y:=E0 q) bK (OwnS.wider IsR.stb (T:=fun l=>an l\/G6 O u l) E (fun l h=> .inl h) ?_) (IsR.stb.to ao (G4 fun l h=> .inr h)) rfl (by intro ab aq;simp[Value.cells] at aq;rcases aq with rfl|rfl|rfl<;>rfl) (by rw[zku];have:=b5.out;omega) (e aY.out v.2.2.size) fun bX w' aP N aJ=>D bX w' N (v.step N (.inr (.inl rfl)) e9.out) ⟨q,O,u,V,T,e ad N.size,trivial,aP,aJ.imp id fun h=>⟨_,h,ad,v.2.2.size⟩⟩;have fw:=OwnS.own_lt E;have cK:=fa.out;intro l t;obtain⟨b8,aP,N,aJ,aj⟩:=E;rcases t with t|t
       ·exact aj l t
       ·exact⟨i t.2 ad,fun m=>by have:=cK l m.symm;have:=t.1;omega⟩
      |W+8,a8,u,G,E=>exact absurd a8 og
     case fin=>
      intro a L X F a7 v o af;obtain⟨⟨ah⟩,a5⟩:=a;replace F:ah.length=65:=F;obtain⟨s,rfl⟩:=ykf F;obtain rfl:a5=[]:=a7;have bq:s 0= .pointer (some ⟨g,0,none⟩):=b (o 0 (p 0 kr));have br:s 1= .int .i64 (n:Int):=b (o 1 (p 1 kr));have bu:s 2= .int .i64 (ag:Int):=b (o 2 (p 2 kr));have bv:s 3=c:=b (o 3 (p 3 kr));have bw:s 4=c:=b (o 4 (p 4 kr));have bx:s 5=c:=b (o 5 (p 5 kr));have bA:s 6= .pointer (some ⟨w.heap.size,0,none⟩):=b (o 6 (p 6 kr));have bC:s 7= .pointer (some ⟨(w.heap.size+1),0,none⟩):=b (o 7 (p 7 kr));have bD:s 8= .int .i64 (ag:Int):=b (o 8 (p 8 kr));have bE:s 9=u9:=b (o 9 (p 9 kr));have c8:s 10=u10:=b (o 10 (p 10 kr));have bt:s 11= .int .i64 (S:Int):=b (o 11 (p 11 kr));have c9:s 12= .int .i64 (ag:Int):=b (o 12 (p 12 kr));have da:s 13= .int .i64 (ag:Int):=b (o 13 (p 13 kr));have db:s 14= .bool false:=b (o 14 (p 14 kr));have dc:s 15=u15:=b (o 15 (p 15 kr));have dd:s 16=u16:=b (o 16 (p 16 kr));have de:s 17=u17:=b (o 17 (p 17 kr));have df:s 18=u18:=b (o 18 (p 18 kr));have dh:s 19=u19:=b (o 19 (p 19 kr));have di:s 20=u20:=b (o 20 (p 20 kr));have dj:s 21=u21:=b (o 21 (p 21 kr));have dk:s 22=u22:=b (o 22 (p 22 kr));have dm:s 23=u23:=b (o 23 (p 23 kr));have dn:s 24=u24:=b (o 24 (p 24 kr));have dp:s 25=u25:=b (o 25 (p 25 kr));have dq:s 26=u26:=b (o 26 (p 26 kr));have dr:s 27=u27:=b (o 27 (p 27 kr));have ds:s 28=u28:=b (o 28 (p 28 kr));have dt:s 29=u29:=b (o 29 (p 29 kr));have du:s 30=u30:=b (o 30 (p 30 kr));have dv:s 31=u31:=b (o 31 (p 31 kr));have dw:s 32=u32:=b (o 32 (p 32 kr));have dx:s 33=u33:=b (o 33 (p 33 kr));have dy:s 34=u34:=b (o 34 (p 34 kr));have dz:s 35=u35:=b (o 35 (p 35 kr));have dA:s 36=u36:=b (o 36 (p 36 kr));have dB:s 37=u37:=b (o 37 (p 37 kr));have dC:s 38=u38:=b (o 38 (p 38 kr));have dD:s 39=u39:=b (o 39 (p 39 kr));have dE:s 40=u40:=b (o 40 (p 40 kr));have dF:s 41=u41:=b (o 41 (p 41 kr));have dG:s 42=u42:=b (o 42 (p 42 kr));have dH:s 43=u43:=b (o 43 (p 43 kr));have dI:s 44=u44:=b (o 44 (p 44 kr));have dJ:s 45=u45:=b (o 45 (p 45 kr));have dK:s 46=u46:=b (o 46 (p 46 kr));have dL:s 47=u47:=b (o 47 (p 47 kr));have dM:s 48=u48:=b (o 48 (p 48 kr));have dN:s 49=u49:=b (o 49 (p 49 kr));have bB:s 64=c:=b (o 64 (p 64 kr));have fM:X 1=some (s 56):=(af 1 _ og (H8 (j:=1) r rfl)).1;have eK:(s 56)=ac:=(af 1 _ og (H8 (j:=1) r rfl)).2;clear fM;have eO:X 7=some (s 62):=(af 7 _ og (H8 (j:=7) r rfl)).1;have cn:PApp L I.heap.size J.heap.size (fun _=>True) an ac (C4 C) (s 62):=(af 7 _ og (H8 (j:=7) r rfl)).2;clear af o F;rw[r];clear r p;rw[bq,br,bu,bv,bw,bx,bA,bC,bD,bE,c8,bt,c9,da,db,dc,dd,de,df,dh,di,dj,dk,dm,dn,dp,dq,dr,ds,dt,du,dv,dw,dx,dy,dz,dA,dB,dC,dD,dE,dF,dG,dH,dI,dJ,dK,dL,dM,dN,bB,eK];clear bq br bu bv bw bx bA bC bD bE c8 bt c9 da db dc dd de df dh di dj dk dm dn dp dq dr ds dt du dv dw dx dy dz dA dB dC dD dE dF dG dH dI dJ dK dL dM dN bB eK;generalize s 62=t62 at cn eO⊢;obtain⟨a0,a1,a2⟩:=C0 v.2.1;obtain⟨b9,ca,cb⟩:=E9 v.2.1;obtain⟨bR,bj,bP,rfl⟩:∃n A H,t62= .slice A n H:=(by obtain⟨aL,O,u,bT,cO,cP,ck,aK,bU⟩:=cn;exact⟨_,aK.slice⟩);obtain⟨ai,e1⟩:=C7 v cn;clear v cn eO;show wpList _ _ _ [_,_] _ _;go_wp2_with fail;clear a0 a1 a2 b9 ca cb;go_roundw
      case rel=>
       obtain⟨aL,O,u,bT,cO,cP,ck,aK,bU⟩:=e1.out;obtain⟨Q,aa⟩:=nm (L.setCell ⟨w.heap.size+1,2,none⟩ (.slice bj bR bP));have ay:L.grownBy Q (some (w.heap.size+1)):=(by rw[aa];exact K0 _ _ _ _);have cx:Row Q (w.heap.size+1) 54 [.slice aV bh a3,.slice aW bi a4,.slice bj bR bP]:=(by rw[aa];exact ai.out.2.1.set_ 2 _);have aI:=OwnS.own_lt aT.out;have cM:=aR.out;have bO:=aY.out;have bF:w.grownBy Q (some g):=(by rw[aa];exact zuo (yio b3.out ai.out.2.2 (fun l m=>by have:=(aI l m).1;omega) (fun l m=>by cases m)) (Nat.le_succ _) _ _);have cB:Row Q w.heap.size 54 [.slice none 0 0,.slice none 0 0,.slice none 0 0]:=(be.out.kept ai.out.2.2 (fun m=>by cases m;omega) (fun m=>by have:=(aI _ m).1;omega) (fun m=>by cases m)).grownN ay (fun l m=>by cases m;omega);have er:L6 (G6 (w.heap.size+2) I.heap.size) (G6 (w.heap.size+2) I.heap.size) J L:=zyk ai.out.2.2 fun l t=>⟨by have:=t.2;omega,fun m=>by cases m;have:=t.1;omega,fun m=>by have:=(aI l m.symm).1;have:=t.2;omega,by simp⟩;have et:L6 (G6 (w.heap.size+2) I.heap.size) (G6 (w.heap.size+2) I.heap.size) L Q:=zml ay fun l t=>⟨by have:=t.2;have:=ai.out.2.2.size;omega,fun m=>by cases m;have:=t.1;omega⟩;rw[<-aa];have cN:=OwnS.own_lt aK
       have bM:∀l,(an l\/G6 O u l)->I.heap.size<=l:=fun l h=>by
        rcases h with h|h
        ·exact(e6.out l h).1
        ·have:=h.1;omega
       have aC:C4 (C++[aL])=C4 C++[E0 aL]:=(by simp[C4]);refine⟨S+1,_,fun l=>an l\/G6 O u l,C++[aL],by omega,by go_num,bF,ai.out.1.grown ay og,cB,cx,?_,by rw[List.length_append,hr.out.1];rfl,fun m aA=> ?_,bM,IsM.stb.to (IsM.stb.to hr.out.2.2.2.1 er) et,IsV.stb.to (IsV.stb.to hr.out.2.2.2.2.1 er) et,by have:=ai.out.2.2.size;have:=ay.size;omega⟩
       ·rw[aC];exact aK.grown IsR.stb ay fun l m=>⟨fun aB=>by have:=(cN l aB).1;cases m;omega,fun h=>by have:=bM l h;cases m;omega⟩
       ·rcases List.mem_append.1 aA with h|h
        ·exact hr.out.2.1 m h
        ·rw[List.mem_singleton] at h;rw[h];exact bT
      case measure=>simp[intOf];omega
    ·obtain rfl:S=n:=og;obtain⟨ct,cv,rfl⟩:=aT.out.slice;have ev:IsV J (G6 I.heap.size J.heap.size) (.slice ct (C4 C).length cv) (C4 C):=OwnS.isS IsR.stb (T:=G6 I.heap.size J.heap.size) aT.out (fun l t=>⟨hr.out.2.2.1 l t,by obtain⟨_,_,_,_,ae⟩:=aT.out;exact(ae l t).1⟩) (fun l V T=>⟨V,T⟩);have c0:=d ev;obtain⟨eI,cG⟩:=nm ((C4 C).length);rw[<-cG] at c0 bn;have eW:=d cG;clear ev cG;obtain⟨a0,a1,a2⟩:=C0 bn.out;obtain⟨gN,gO,gP⟩:=C0 be.out;obtain⟨b9,ca,cb⟩:=E9 be.out;have cj:=cg;go_wp2_with fail;refine yll Tryz.results39 rfl rfl (Row.put3 be.out _ _ _) ?_;obtain⟨Q,aa⟩:=nm (put3 J w.heap.size (.slice aV bh a3) (.slice aW bi a4) (.slice ct eI cv));have cM:=aR.out;have bO:=hr.out.2.2.2.2.2;have fE:Q.heap.size=J.heap.size:=(by rw[aa,zqi]);have cJ:∀a l:Nat,w.heap.size+2<=a->l<=J.heap.size->L6 (G6 a l) (I7 w.heap.size Q) J Q:=fun a l ha t=>(by rw[aa];exact zqh fun x ar=>⟨by have:=ar.1;omega,by have:=ar.1;omega,by rw[<-aa,fE];have:=ar.2;omega⟩);have bF:w.grownBy Q (some g):=(by rw[aa];exact zuo (zuo (zuo b3.out (f _) _ _) (f _) _ _) (f _) _ _);have cc:IsD Q g ah:=(by rw[aa];exact((cT.out.far (p:=⟨w.heap.size,0,none⟩) (by simpa using ch) _).far (p:=⟨w.heap.size,1,none⟩) (by simpa using ch) _).far (p:=⟨w.heap.size,2,none⟩) (by simpa using ch) _);suffices key:yay S ag w.heap.size (.returned (.agg #[.slice aV bh a3,.slice aW bi a4,.slice ct eI cv])) Q/\IsD Q g ah/\w.grownBy Q (some g) by rw[aa] at key;exact key
     have en:=hr.out.2.2.2.1;have ew:=hr.out.2.2.2.2.1;have ey:=c0.out;rw[eU.out] at en⊢;rw[eV.out] at ew⊢;rw[eW.out] at ey⊢;refine⟨⟨_,⟨A,B,C⟩,rfl,zwi (p:=I8 ⟨A,B,C⟩) (IsM.stb.to en (cJ _ _ (f _) bO)) (IsV.stb.to ew (cJ _ _ (f _) bO)) (IsV.stb.to ey (cJ _ _ cM (f _))),ytg ⟨?_,?_,?_,?_,?_,?_,?_⟩ (fun row h=>(P.out.rows row h).2) P.out.szB hr.out.2.1,P.out.lB,hr.out.1⟩,cc,bF⟩
     ·exact P.out.lA.trans P.out.lB.symm
     ·exact fun row h=>(P.out.rows row h).1.trans hr.out.1.symm
     ·exact fun row h q aH=>((P.out.rows row h).2 q aH).1.le og
     ·exact fun q aH=>(P.out.szB q aH).1.le og
     ·exact fun q aH=>(hr.out.2.1 q aH).1.le og
     ·exact e (Nat.le_of_eq P.out.lB) fu
     ·exact e (Nat.le_of_eq hr.out.1) fv
end Go.Proofs.YtlhhbccgfkhflaaGreatDoor
