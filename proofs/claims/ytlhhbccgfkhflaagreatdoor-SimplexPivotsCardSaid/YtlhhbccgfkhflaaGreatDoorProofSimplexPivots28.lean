/-
 The contract of parlourlaw04's program.
-/
import Derived.Test.YtlhhbccgfkhflaaGreatDoorProofSimplexPivots27
namespace Go.Proofs.YtlhhbccgfkhflaaGreatDoor
open Go.RowKit
set_option linter.unusedVariables false
set_option maxRecDepth 100000
set_option maxHeartbeats 8000000
open _root_.Go.Lib renaming hid → d
open _root_.Option.some renaming inj → b
open _root_.Nat renaming le_refl → f, le_trans → e, lt_of_lt_of_le → i, lt_or_ge → j, zero_le → k
open _root_.Go renaming undef → c
variable {g n : Nat}
theorem ykb {b:List Value} (h:b.length=65):∃a:Nat->Value,b=[a 0,a 1,a 2,a 3,a 4,a 5,a 6,a 7,a 8,a 9,a 10,a 11,a 12,a 13,a 14,a 15,a 16,a 17,a 18,a 19,a 20,a 21,a 22,a 23,a 24,a 25,a 26,a 27,a 28,a 29,a 30,a 31,a 32,a 33,a 34,a 35,a 36,a 37,a 38,a 39,a 40,a 41,a 42,a 43,a 44,a 45,a 46,a 47,a 48,a 49,a 50,a 51,a 52,a 53,a 54,a 55,a 56,a 57,a 58,a 59,a 60,a 61,a 62,a 63,a 64]:=by
 refine⟨fun d=>b.getD d c,?_⟩
 have e:b=(List.range 65).map (fun d=>b.getD d c):=by
  apply List.ext_getElem
  ·simp[h]
  ·intro d f g;simp[List.getD_eq_getElem?_getD,List.getElem?_eq_getElem f]
 exact e.trans rfl
theorem ydl {w:World} (a g:Int) (ha:a.natAbs<=8) (o:1<=g) (p:g<=2):
 Calls Tryz.prog 48 #[.int .i64 a,.int .i64 g] w fun l w'=>(∃m q,l= .returned m/\IsQ w' (G4 w.heap.size w') m q/\zpk q)/\Below w.heap.size w w':=by have l:g=((g.toNat:Nat):Int):=(by omega);rw[l];exact(zze (a:=a) (b:=g.toNat) og og og).mono fun l w' ⟨⟨m,n,hv⟩,h⟩=>⟨⟨m,_,n,hv,ydk og og og,yxb ha og⟩,h⟩
structure OutAB (n j base:Nat) (w:World) (va vb:Value) (SA SB:Nat->Prop) (A:List (List Rat)) (B:List Rat):Prop where
 lA:A.length=j
 lB:B.length=j
 rows:∀row∈A,row.length=n/\∀e∈row,zpk e
 szB:∀e∈B,zpk e
 ownA:OwnS 1 26 IsV w base SA va (G6 A)
 ownB:OwnS 3 30 IsR w base SB vb (C2 B)
 sA:∀b,SA b->base<=b/\vb.ownBlock≠some b
 sB:∀b,SB b->base<=b/\va.ownBlock≠some b
 ne:∀b,va.ownBlock=some b->vb.ownBlock≠some b
theorem OutAB.grown {i base:Nat} {w w':World} {j k:Value} {d e:Nat->Prop} {A:List (List Rat)} {B:List Rat} (h:OutAB n i base w j k d e A B) (f:w.grownBy w' (some g)) (hg:g<base):OutAB n i base w' j k d e A B:=
 ⟨h.lA,h.lB,h.rows,h.szB,h.ownA.grown IsV.stb f fun b c=>⟨fun a=>by have:=h.ownA.own_lt b a;cases c;omega,fun a=>by have:=(h.sA b a).1;cases c;omega⟩,
   h.ownB.grown IsR.stb f fun b c=>⟨fun a=>by have:=h.ownB.own_lt b a;cases c;omega,fun a=>by have:=(h.sB b a).1;cases c;omega⟩,h.sA,h.sB,h.ne⟩
def yep (n c lo:Nat) (b:Ending) (w':World):Prop:=∃a q,b= .returned a/\IsP w' (G4 lo w') a (X9 q)/\FineP q 2 8/\q.B.length=c/\q.C.length=n
theorem yzu {w:World} {aN:List Int} (hD:IsD w g aN) {m0:Nat} (gg:n<=40) (gf:m0<=40):
 Calls Tryz.prog 23 #[.pointer (some ⟨g,0,none⟩),.int .i64 (n:Int),.int .i64 (m0:Int)] w fun m w'=>yep n m0 w.heap.size m w'/\IsD w' g aN/\w.grownBy w' (some g):=by
 have cC:g<w.heap.size:=hD.lt;obtain⟨hl,gp,cU,fj,fi,gz⟩:=zko w #[.slice none 0 0,.slice none 0 0,.slice none 0 0] #[.slice none 0 0,.slice none 0 0,.slice none 0 0] 54 54;obtain⟨D0,B0,fD,fz⟩:=X7 (hD.next cU cC) cU fj fi;clear hD cU fj fi;go_in;go_wp2_with fail;clear gp;go_loopw [8,9,10] (fun aH _ _ wr=>∃(aM:Nat) (L K:Value) (ab ac:Nat->Prop) (A:List (List Rat)) (B:List Rat),aM<=m0/\aH= .int .i64 (aM:Int)/\w.grownBy wr (some g)/\IsD wr g aN/\Row wr w.heap.size 54 [.slice none 0 0,.slice none 0 0,.slice none 0 0]/\Row wr (w.heap.size+1) 54 [L,K,.slice none 0 0]/\Hid (OutAB n aM (w.heap.size+2) wr L K ab ac A B)) (fun aH _ _ _=>m0-(intOf aH).toNat);case atStart=>refine⟨0,_,_,fun _=>False,fun _=>False,[],[],k _,rfl,K0 B0.out,D0.out,fD.out,fz.out,?_⟩;exact⟨rfl,rfl,fun _ h=>(by cases h),fun _ h=>(by cases h),OwnS.nil (fun l h=>h.elim),OwnS.nil (fun l h=>h.elim),fun l h=>h.elim,fun l h=>h.elim,fun l h=>(by cases h)⟩
 case round=>
  obtain⟨J,rfl⟩:=nm (wr);obtain⟨aM,L,K,fF,ac,A,B,e6,rfl,b5,hD,b4,G,ae⟩:=hrel;obtain⟨dm,cK,dk,bK,fq⟩:=hd5 b5 hD b4 G e6;have I:w.heap.size+2<=J.heap.size:=(by have:=G.lt;omega);have bg:=d I;clear b5 hD b4 G e6 I;rcases j aM m0 with cD|gW
  ·have dn:=d cD;go_wp2_with fail;clear cD;go_loopw [9,10] (fun row O wr=>∃(aA:Nat) (bp:Nat->Prop) (Q:List Rat),aA<=n/\O= .int .i64 (aA:Int)/\J.grownBy wr (some g)/\IsD wr g aN/\OwnS 3 30 IsR wr J.heap.size bp row (C2 Q)/\Hid (Q.length=aA/\(∀m∈Q,zpk m)/\∀l,bp l->J.heap.size<=l)) (fun _ O _=>n-(intOf O).toNat);case atStart=>exact⟨0,fun _=>False,[],k _,rfl,I7 _ _,cK.out,OwnS.nil (fun l h=>h.elim),rfl,(fun _ h=>by cases h),fun l h=>h.elim⟩
   case round=>
    obtain⟨aA,bp,Q,hc,rfl,e4,eR,ca,hr⟩:=hrel;obtain⟨bf,df,Own⟩:=G0 e4 eR ca;clear e4 eR ca;have ga:g<J.heap.size:=cK.out.lt;rcases j aA n with cB|cB
    ·go_wp2_with fail;refine(zqu df.out 9 og og).mono ?_;rintro m hm ⟨⟨x,aT,bd,rfl⟩,eQ,eU⟩;have fo:=d eQ;have fm:=d eU.grown;clear eQ eU;go_wp2_with fail;refine(zqu fo.out 2 og og).mono ?_;rintro m ck ⟨⟨y,gq,gr,rfl⟩,cy,eV⟩;obtain⟨de,cJ⟩:=C5 cy (J7 fm.out eV.grown);clear cy eV;go_wp2_with fail;refine(ydl (x-4) (1+y) og og og).mono ?_;rintro m cI ⟨⟨g2,q,rfl,c3,e9⟩,cA⟩;have e8:OwnS 3 30 IsR ck J.heap.size bp _ (C2 Q):=Own.out.grown IsR.stb cJ.out fun l m=>⟨fun aY=>by have:=Own.out.own_lt l aY;cases m;omega,fun aY=>by have:=hr.out.2.2 l aY;cases m;omega⟩;have gi:=OwnS.step IsR.stb (T:=fun l=>bp l\/(ck.heap.size<=l/\l<cI.heap.size)) e8 cA (fun l h=> .inl h) (fun l h=>h);have fZ:=IsQ.stb.to c3 (F7 (T:=fun l=>bp l\/(ck.heap.size<=l/\l<cI.heap.size)) fun l h=> .inr h);obtain⟨g1,gB,a5,gA,g0,rfl,_,_,_⟩:=G7 c3;obtain⟨dd,fp⟩:=C5 (J7 bf.out (J7 cJ.out (K0 cA))) (de.out.next cA de.out.lt);have fY:J.heap.size<=cI.heap.size:=dd.out.size;have gl:=hr.out.1;have fu:=d e9;have cb:J.heap.size<=ck.heap.size:=e bf.out.size cJ.out.size;clear e8 cA c3 e9;go_wp2_with (at_builtin;refine zpz zlv rfl _ _ rfl IsR.stb rfl rfl rfl gi fZ rfl (by intro ad aR;simp[Value.cells] at aR;rcases aR with rfl|rfl|rfl<;>rfl) (by rw[zkc];omega) fY ?_;intro g4 hn gj e2 gY);go_roundw
     case rel=>
      refine⟨aA+1,fun l=>bp l\/(ck.heap.size<=l/\l<cI.heap.size),Q++[q],by omega,by go_num,yus dd.out e2,fp.out.next e2 ga,?_,by simp[gl],?_,?_⟩
      ·rw[C2,List.map_append];exact gj
      ·intro m aX;rcases List.mem_append.1 aX with aX|aX
       ·exact hr.out.2.1 m aX
       ·rw[List.mem_singleton] at aX;rw[aX];exact fu.out
      ·intro l s;rcases s with s|s
       ·exact hr.out.2.2 l s
       ·omega
     case measure=>simp[intOf];omega
    ·obtain rfl:aA=n:=(by omega);obtain⟨v,rfl⟩:=nm (wr);have bB:=(ae.out.grown (g:=g) bf.out (by have:=bK.out.lt;omega));obtain⟨R,af,rfl⟩:=Own.out.slice;have gX:(C2 Q).length=aA:=(by rw[zkc,hr.out.1]);obtain⟨ah,e7⟩:=nm ((C2 Q).length);have a8:=OwnS.own_lt ae.out.ownA;have a9:=OwnS.own_lt ae.out.ownB;have eP:=OwnS.own_lt bB.ownA;have cO:=OwnS.own_lt bB.ownB;have gZ:J.heap.size<=v.heap.size:=bf.out.size;obtain⟨ab,b1⟩:∃fE:Nat->Prop,fE=fun l=>fF l\/(J.heap.size<=l/\l<v.heap.size):=⟨_,rfl⟩
     have b3:∀l,ab l->w.heap.size+2<=l/\l<v.heap.size/\L.ownBlock≠some l/\K.ownBlock≠some l:=by
      intro l s;rw[b1] at s;rcases s with s|s
      ·obtain⟨cu,be,an,a5,aP⟩:=bB.ownA;exact⟨(ae.out.sA l s).1,(aP l s).1,fun m=>(aP l s).2 m.symm,(ae.out.sA l s).2⟩
      ·exact⟨by have:=bg.out;omega,s.2,fun m=>by have:=(a8 l m).2;omega,fun m=>by have:=(a9 l m).2;omega⟩
     have cQ:∀l,ac l->w.heap.size+2<=l/\l<v.heap.size/\L.ownBlock≠some l/\K.ownBlock≠some l:=(by intro l s;obtain⟨cu,be,an,a5,aP⟩:=bB.ownB;exact⟨(ae.out.sB l s).1,(aP l s).1,(ae.out.sB l s).2,fun m=>(aP l s).2 m.symm⟩);have dp:=d (OwnS.wider IsV.stb (T:=ab) bB.ownA (fun l h=>by rw[b1];exact .inl h) fun l h=>⟨(b3 l h).2.1,fun m=>(b3 l h).2.2.1 m.symm⟩);have fv:=d bB.ownB;have dc:Hid (IsV v ab (.slice R (C2 Q).length af) (C2 Q)):=OwnS.isS IsR.stb (T:=ab) Own.out (fun l s=>by rw[b1];exact .inr ⟨hr.out.2.2 l s,by obtain⟨_,_,_,_,aK⟩:=Own.out;exact(aK l s).1⟩) (fun l aG aB=>by rw[b1];exact .inr ⟨aG,aB⟩);obtain⟨cr,cM⟩:=C5 b3 cQ;have ct:Hid ((w.heap.size+1)≠g):=(by rw[Hid];omega);have bq:Hid (w.heap.size+2<=v.heap.size):=(by rw[Hid];have:=bg.out;omega);have cs:Hid ((G6 A).length<100/\B.length<100):=(by rw[Hid,zzf,ae.out.lA,ae.out.lB];have:=dn.out;omega);have fH:Hid (∀l,L.ownBlock=some l->g<l/\(w.heap.size+1)≠l):=fun l m=>(by have:=(a8 l m).1;omega);have fI:Hid (∀l,K.ownBlock=some l->g<l/\(w.heap.size+1)≠l):=fun l m=>(by have:=(a9 l m).1;omega);have dq:Hid (∀l,K.ownBlock=some l->l<v.heap.size):=fun l m=>(cO l m).2
     have br:Hid (∀O l,zsr g L K O=some l->l<v.heap.size/\(O≠4->L.ownBlock≠some l/\¬ab l)/\(O≠15->K.ownBlock≠some l/\¬ac l)):=by
      intro O l m
      have b8:l=g\/L.ownBlock=some l\/K.ownBlock=some l:=by
       unfold zsr at m;split at m
       ·exact .inr (.inl m)
       ·exact .inl (by cases m;rfl)
       ·exact .inl (by cases m;rfl)
       ·exact .inr (.inr m)
       ·cases m
      have e3:∀aU:Value,(∀l,aU.ownBlock=some l->w.heap.size+2<=l)->l=g->aU.ownBlock≠some l:=fun aU hv gD fN=>(by have:=hv l fN;omega);refine⟨?_,fun cV=>⟨?_,fun h=> ?_⟩,fun cV=>⟨?_,fun h=> ?_⟩⟩
      ·rcases b8 with h|h|h
       ·have:=bg.out;omega
       ·exact(eP l h).2
       ·exact(cO l h).2
      ·rcases b8 with h|h|h
       ·exact e3 L (fun l h=>(a8 l h).1) h
       ·intro a0;unfold zsr at m;split at m
        ·exact cV rfl
        ·cases m;have:=(a8 _ a0).1;omega
        ·cases m;have:=(a8 _ a0).1;omega
        ·exact ae.out.ne l a0 m
        ·cases m
       ·exact fun a0=>ae.out.ne l a0 h
      ·have:=b3 l h;rcases b8 with h|h|h
       ·omega
       ·exact this.2.2.1 h
       ·exact this.2.2.2 h
      ·rcases b8 with h|h|h
       ·exact e3 K (fun l h=>(a9 l h).1) h
       ·exact ae.out.ne l h
       ·intro a0;unfold zsr at m;split at m
        ·exact ae.out.ne l m a0
        ·cases m;have:=(a9 _ a0).1;omega
        ·cases m;have:=(a9 _ a0).1;omega
        ·exact cV rfl
        ·cases m
      ·have:=cQ l h;rcases b8 with h|h|h
       ·omega
       ·exact this.2.2.1 h
       ·exact this.2.2.2 h
     obtain⟨cq,bG,bL⟩:=G0 (J7 dm.out (r:=some g) (c:=v) (bf.out)) (dk.out.grownN bf.out fun l m=>by cases m;omega) (bK.out.grownN bf.out fun l m=>by cases m;omega);have av:=d ae.out;clear ae bB a8 a9 eP cO b1 b3 cQ;rw[<-e7] at dc⊢;clear e7;go_wp2_with fail;refine zpt fun ops u=> ?_;have T:=D8 (j:=0) u rfl;have P:=D8 (j:=1) u rfl;have U:=D8 (j:=2) u rfl;have V:=D8 (j:=3) u rfl;have N:=D8 (j:=4) u rfl;have W:=D8 (j:=5) u rfl;have Y:=D8 (j:=6) u rfl;have S:=D8 (j:=7) u rfl;have Z:=D8 (j:=8) u rfl;have aa:=D8 (j:=9) u rfl;have ao:=D8 (j:=10) u rfl;have aj:=D8 (j:=11) u rfl;have aq:=D8 (j:=12) u rfl;have ar:=D8 (j:=13) u rfl;have au:=D8 (j:=14) u rfl;have ak:=D8 (j:=15) u rfl;have al:=D8 (j:=16) u rfl;have aC:=D8 (j:=17) u rfl;have aD:=D8 (j:=18) u rfl;have aE:=D8 (j:=19) u rfl;have p:=fun c9 h=>ztn (n:=17) u c9 h;refine ztr 17 (zlb g (w.heap.size+1) L K R ah af v.heap.size (w.heap.size+2) ab ac A B Q) (yoq (w.heap.size+2) L K (.slice R ah af) ab ac A B Q) (JD g (w.heap.size+1) aN [L,K,.slice none 0 0] L.ownBlock K.ownBlock v) (fun O w w'=>w.grownBy w' (zsr g L K O)) kr ?hJ0 ?hP0 ?hPs ?hst (by rw[u];kernel_rfl) (by rw[u];kernel_rfl) ?step ?fin;(case hJ0=>exact⟨df.out.grownN (K0 (row:=none) (U4 _)) (fun l m=>by cases m),bL.out,(Kept.refl _ _ _ _).step (K0 (row:=none) (U4 _)) (.inl rfl)⟩);case hP0=>exact fun aH=>⟨fun _=>⟨dp.out,dc.out⟩,fun _=>fv.out⟩
     case hPs=>
      intro aH O cl cm a2 h D a1;refine⟨fun fR=> ?_,fun fM=> ?_⟩
      ·subst fR;have h:=And.left h rfl;exact⟨h.1.grown IsV.stb a1 fun l m=>((br.out O l m).2.1 (Ne.symm a2)),IsV.stb.to h.2 (znx a1 fun l s=>⟨i (cr.out l s).2.1 D.2.2.size,fun m=>((br.out O l m.symm).2.1 (Ne.symm a2)).2 s⟩)⟩
      ·subst fM;exact(And.right h rfl).grown IsR.stb a1 fun l m=>((br.out O l m).2.2 (Ne.symm a2))
     case hst=>exact fun aH O aU cl cm X ad a2 cS h D a1=>yym br.out aH O aU cl cm X ad a2 cS h a1
     case step=>
      intro aH gu bD t a z X I bC D G M o E;obtain⟨H,bA⟩:=a;replace I:H.size=65:=I;obtain rfl:bA=[]:=bC;match aH,bD,t,M,G with
      |0,_,t,M,G=>obtain rfl:=b (T.symm.trans t);have aZ:H[7]? =some (.pointer (some ⟨(w.heap.size+1),0,none⟩)):=o 7 (p 7 kr);refine H7 rfl ?_;refine zkd (E:=fun w'=>z.grownBy w' (none)) (Φ:=zlb g (w.heap.size+1) L K R ah af v.heap.size (w.heap.size+2) ab ac A B Q 0) fun ai F=> ?_;clear E o I u p T P U V N W Y S Z aa ao aj aq ar au ak al aC aD aE;go_simp;exact F (.pointer (some ⟨(w.heap.size+1),0,none⟩)) _ (I7 _ _) D rfl
      |1,_,t,M,G=>obtain rfl:=b (P.symm.trans t);have d32:(H.getD 32 c)= .pointer (some ⟨(w.heap.size+1),0,none⟩):=(E 0 _ (C9 kr) T).2;have gE:=J6 og d32;clear d32;obtain⟨bt,bu,bv⟩:=B9 D.2.1;refine H7 rfl ?_;refine zkd (E:=fun w'=>z.grownBy w' (none)) (Φ:=zlb g (w.heap.size+1) L K R ah af v.heap.size (w.heap.size+2) ab ac A B Q 1) fun ai F=> ?_;clear E o I u p T P U V N W Y S Z aa ao aj aq ar au ak al aC aD aE;go_simp;exact F (L) _ (I7 _ _) D rfl
      |2,_,t,M,G=>obtain rfl:=b (U.symm.trans t);have eC:H[9]? =some (.slice R ah af):=o 9 (p 9 kr);refine H7 rfl ?_;refine zkd (E:=fun w'=>z.grownBy w' (none)) (Φ:=zlb g (w.heap.size+1) L K R ah af v.heap.size (w.heap.size+2) ab ac A B Q 2) fun ai F=> ?_;clear E o I u p T P U V N W Y S Z aa ao aj aq ar au ak al aC aD aE;go_simp;exact F (.slice R ah af) _ (I7 _ _) D rfl
      |3,_,t,M,G=>obtain rfl:=b (V.symm.trans t);have d34:(H.getD 34 c)= .slice R ah af:=(E 2 _ (C9 kr) U).2;have gF:=J6 og d34;clear d34;refine H7 rfl ?_;refine zkd (E:=fun w'=>z.grownBy w' (none)) (Φ:=zlb g (w.heap.size+1) L K R ah af v.heap.size (w.heap.size+2) ab ac A B Q 3) fun ai F=> ?_;clear E o I u p T P U V N W Y S Z aa ao aj aq ar au ak al aC aD aE;go_simp;exact F (.slice (some ⟨z.heap.size,0,none⟩) 1 1) _ (zln _ _ _) (D.step (zln _ _ _) (.inl rfl) (fun l m=>by cases m)) ⟨z.heap.size,rfl,D.2.2.size,heap_alloc_new _ _⟩
      |4,_,t,M,G=>obtain rfl:=b (N.symm.trans t);have d33:(H.getD 33 c)=L:=(E 1 _ (C9 kr) P).2;have fO:=J6 og d33;clear d33;have d35:NewRow z v.heap.size 26 [.slice R ah af] (H.getD 35 c):=(E 3 _ (C9 kr) V).2;obtain⟨g3,fP,eD⟩:=M8 (T:=H) (t:=35) og;rw[eD] at d35;clear eD;refine H7 rfl ?_;refine zkd (E:=fun w'=>z.grownBy w' (L.ownBlock)) (Φ:=zlb g (w.heap.size+1) L K R ah af v.heap.size (w.heap.size+2) ab ac A B Q 4) fun ai F=> ?_;clear E o I u p T P U V N W Y S Z aa ao aj aq ar au ak al aC aD aE;obtain⟨gU,rfl,e5,b7⟩:=d35;refine zsg zoy (.tmp 33) (.tmp 35) rfl IsV.stb (znc fO) (znc fP) (ev:= .slice R ah af) b7 (And.left G rfl).1 (And.left G rfl).2 rfl (by intro ad aR;simp[Value.cells] at aR;subst aR;rfl) (by have:=cs.out;omega) (e bq.out D.2.2.size) fun cj w' aG aB aJ=>F cj w' aB (D.step aB (.inr (.inl rfl)) fH.out) ⟨aG,aJ.imp id fun h=>⟨_,h,D.2.2.size⟩⟩
      |5,_,t,M,G=>obtain rfl:=b (W.symm.trans t);have aZ:H[7]? =some (.pointer (some ⟨(w.heap.size+1),0,none⟩)):=o 7 (p 7 kr);refine H7 rfl ?_;refine zkd (E:=fun w'=>z.grownBy w' (none)) (Φ:=zlb g (w.heap.size+1) L K R ah af v.heap.size (w.heap.size+2) ab ac A B Q 5) fun ai F=> ?_;clear E o I u p T P U V N W Y S Z aa ao aj aq ar au ak al aC aD aE;go_simp;exact F (.pointer (some ⟨(w.heap.size+1),1,none⟩)) _ (I7 _ _) D rfl
      |6,_,t,M,G=>obtain rfl:=b (Y.symm.trans t);have d37:(H.getD 37 c)= .pointer (some ⟨(w.heap.size+1),1,none⟩):=(E 5 _ (C9 kr) W).2;have gG:=J6 og d37;clear d37;obtain⟨bt,bu,bv⟩:=B9 D.2.1;refine H7 rfl ?_;refine zkd (E:=fun w'=>z.grownBy w' (none)) (Φ:=zlb g (w.heap.size+1) L K R ah af v.heap.size (w.heap.size+2) ab ac A B Q 6) fun ai F=> ?_;clear E o I u p T P U V N W Y S Z aa ao aj aq ar au ak al aC aD aE;go_simp;exact F (K) _ (I7 _ _) D rfl
      |7,_,t,M,G=>obtain rfl:=b (S.symm.trans t);have eB:H[0]? =some (.pointer (some ⟨g,0,none⟩)):=o 0 (p 0 kr);refine H7 rfl ?_;refine zkd (E:=fun w'=>z.grownBy w' (none)) (Φ:=zlb g (w.heap.size+1) L K R ah af v.heap.size (w.heap.size+2) ab ac A B Q 7) fun ai F=> ?_;clear E o I u p T P U V N W Y S Z aa ao aj aq ar au ak al aC aD aE;go_simp;exact F (.pointer (some ⟨g,0,none⟩)) _ (I7 _ _) D rfl
      |8,_,t,M,G=>obtain rfl:=b (Z.symm.trans t);have d39:(H.getD 39 c)= .pointer (some ⟨g,0,none⟩):=(E 7 _ (C9 kr) S).2;have gH:=J6 og d39;clear d39;have cn:X 4=some (H.getD 36 c):=(E 4 _ (C9 kr) N).1;have gd:∀l,(H.getD 36 c).ownBlock=some l->w.heap.size+2<=l/\l<z.heap.size:=fun l s=>OwnS.own_lt (E 4 _ (C9 kr) N).2.1 l s;refine H7 rfl ?_;refine zkd (E:=fun w'=>z.grownBy w' (some g)) (Φ:=zlb g (w.heap.size+1) L K R ah af v.heap.size (w.heap.size+2) ab ac A B Q 8) fun ai F=> ?_;clear E o I u p T P U V N W Y S Z aa ao aj aq ar au ak al aC aD aE;go_simp;refine(zqu D.1 12 og og).mono ?_;rintro m w' ⟨⟨x,aT,bd,rfl⟩,hD,aW⟩;exact F (.int .i64 x) w' aW.grown (D.draw hD aW ct.out) ⟨⟨x,aT,by omega,rfl⟩,_,zrd cn M,fun l s=>i (gd l s).2 (Nat.le_of_eq aW.size.symm)⟩
      |9,_,t,M,G=>obtain rfl:=b (aa.symm.trans t);have d40:(∃x:Int,0<=x/\x<=11/\(H.getD 40 c)= .int .i64 x)/\(∃ad,X 4=some ad/\∀l,ad.ownBlock=some l->l<z.heap.size):=(E 8 _ (C9 kr) Z).2;obtain⟨g5,gI,eE⟩:=M8 (T:=H) (t:=40) og;rw[eE] at d40;clear eE;obtain⟨⟨x,aT,bd,rfl⟩,_⟩:=d40;have aS:IntKind.i64.wrap (x-3)=x-3:=IntWalk.i64_in _ og;refine H7 rfl ?_;refine zkd (E:=fun w'=>z.grownBy w' (none)) (Φ:=zlb g (w.heap.size+1) L K R ah af v.heap.size (w.heap.size+2) ab ac A B Q 9) fun ai F=> ?_;clear E o I u p T P U V N W Y S Z aa ao aj aq ar au ak al aC aD aE;go_simp;clear aS;exact F (.int .i64 (x-3)) _ (I7 _ _) D ⟨x-3,by omega,by omega,rfl⟩
      |10,_,t,M,G=>obtain rfl:=b (ao.symm.trans t);have eB:H[0]? =some (.pointer (some ⟨g,0,none⟩)):=o 0 (p 0 kr);refine H7 rfl ?_;refine zkd (E:=fun w'=>z.grownBy w' (none)) (Φ:=zlb g (w.heap.size+1) L K R ah af v.heap.size (w.heap.size+2) ab ac A B Q 10) fun ai F=> ?_;clear E o I u p T P U V N W Y S Z aa ao aj aq ar au ak al aC aD aE;go_simp;exact F (.pointer (some ⟨g,0,none⟩)) _ (I7 _ _) D rfl
      |11,_,t,M,G=>obtain rfl:=b (aj.symm.trans t);have d42:(H.getD 42 c)= .pointer (some ⟨g,0,none⟩):=(E 10 _ (C9 kr) ao).2;have gK:=J6 og d42;clear d42;have cZ:∃ad,X 4=some ad/\∀l,ad.ownBlock=some l->l<z.heap.size:=(E 8 _ (C9 kr) Z).2.2;refine H7 rfl ?_;refine zkd (E:=fun w'=>z.grownBy w' (some g)) (Φ:=zlb g (w.heap.size+1) L K R ah af v.heap.size (w.heap.size+2) ab ac A B Q 11) fun ai F=> ?_;clear E o I u p T P U V N W Y S Z aa ao aj aq ar au ak al aC aD aE;go_simp;refine(zqu D.1 2 og og).mono ?_;rintro m w' ⟨⟨x,aT,bd,rfl⟩,hD,aW⟩;exact F (.int .i64 x) w' aW.grown (D.draw hD aW ct.out) ⟨⟨x,aT,by omega,rfl⟩,ycf cZ M (Nat.le_of_eq aW.size.symm)⟩
      |12,_,t,M,G=>obtain rfl:=b (aq.symm.trans t);have d43:(∃x:Int,0<=x/\x<=1/\(H.getD 43 c)= .int .i64 x)/\(∃ad,X 4=some ad/\∀l,ad.ownBlock=some l->l<z.heap.size):=(E 11 _ (C9 kr) aj).2;obtain⟨g8,gL,eG⟩:=M8 (T:=H) (t:=43) og;rw[eG] at d43;clear eG;obtain⟨⟨x,aT,bd,rfl⟩,_⟩:=d43;have aS:IntKind.i64.wrap (1+x)=1+x:=IntWalk.i64_in _ og;refine H7 rfl ?_;refine zkd (E:=fun w'=>z.grownBy w' (none)) (Φ:=zlb g (w.heap.size+1) L K R ah af v.heap.size (w.heap.size+2) ab ac A B Q 12) fun ai F=> ?_;clear E o I u p T P U V N W Y S Z aa ao aj aq ar au ak al aC aD aE;go_simp;clear aS;exact F (.int .i64 (1+x)) _ (I7 _ _) D ⟨1+x,by omega,by omega,rfl⟩
      |13,_,t,M,G=>obtain rfl:=b (ar.symm.trans t);have d41:(∃x:Int,-3<=x/\x<=8/\(H.getD 41 c)= .int .i64 x):=(E 9 _ (C9 kr) aa).2;obtain⟨g7,gJ,eF⟩:=M8 (T:=H) (t:=41) og;rw[eF] at d41;clear eF;have d44:(∃x:Int,1<=x/\x<=2/\(H.getD 44 c)= .int .i64 x):=(E 12 _ (C9 kr) aq).2;obtain⟨g9,gM,eH⟩:=M8 (T:=H) (t:=44) og;rw[eH] at d44;clear eH;have cZ:∃ad,X 4=some ad/\∀l,ad.ownBlock=some l->l<z.heap.size:=(E 11 _ (C9 kr) aj).2.2;obtain⟨x,aT,bd,rfl⟩:=d41;obtain⟨y,gq,gr,rfl⟩:=d44;refine H7 rfl ?_;refine zkd (E:=fun w'=>z.grownBy w' (none)) (Φ:=zlb g (w.heap.size+1) L K R ah af v.heap.size (w.heap.size+2) ab ac A B Q 13) fun ai F=> ?_;clear E o I u p T P U V N W Y S Z aa ao aj aq ar au ak al aC aD aE;go_simp;refine(ydl x y og og og).mono ?_;rintro m w' ⟨⟨aU,q,rfl,a3,c0⟩,s⟩;exact F aU w' (K0 s) (D.step (K0 s) (.inl rfl) (fun l m=>by cases m)) ⟨q,z.heap.size,w'.heap.size,c0,⟨D.2.2.size,s.size⟩,f _,zui cZ M,a3⟩
      |14,_,t,M,G=>obtain rfl:=b (au.symm.trans t);have d45:PRat z v.heap.size (fun lo=>∃ad,X 4=some ad/\∀l,ad.ownBlock=some l->l<lo) (H.getD 45 c):=(E 13 _ (C9 kr) ar).2;obtain⟨hb,gN,eI⟩:=M8 (T:=H) (t:=45) og;rw[eI] at d45;clear eI;refine H7 rfl ?_;refine zkd (E:=fun w'=>z.grownBy w' (none)) (Φ:=zlb g (w.heap.size+1) L K R ah af v.heap.size (w.heap.size+2) ab ac A B Q 14) fun ai F=> ?_;clear E o I u p T P U V N W Y S Z aa ao aj aq ar au ak al aC aD aE;obtain⟨q,lo,t,aG,aB,aJ,aK,aQ⟩:=d45;obtain⟨bF,bj,an,bh,bE,rfl,_,_,_⟩:=G7 aQ;go_simp;exact F (.slice (some ⟨z.heap.size,0,none⟩) 1 1) _ (zln _ _ _) (D.step (zln _ _ _) (.inl rfl) (fun l m=>by cases m)) ⟨q,lo,t,.agg #[.bool bF,.slice bj (A9 q.num.natAbs).length an,.slice bh (A9 q.den).length bE],aG,aB,e aJ (zln z _ none).size,zui aK M,aQ.rngG (zln _ _ none) aJ (fun l m=>by cases m),z.heap.size,rfl,D.2.2.size,heap_alloc_new _ _⟩
      |15,_,t,M,G=>
       obtain rfl:=b (ak.symm.trans t);have d38:(H.getD 38 c)=K:=(E 6 _ (C9 kr) Y).2;have fQ:=J6 og d38;clear d38;have d46:PRow z v.heap.size (fun lo=>∃ad,X 4=some ad/\∀l,ad.ownBlock=some l->l<lo) (H.getD 46 c):=(E 14 _ (C9 kr) au).2;obtain⟨he,fS,eJ⟩:=M8 (T:=H) (t:=46) og;rw[eJ] at d46;clear eJ;refine H7 rfl ?_;refine zkd (E:=fun w'=>z.grownBy w' (K.ownBlock)) (Φ:=zlb g (w.heap.size+1) L K R ah af v.heap.size (w.heap.size+2) ab ac A B Q 15) fun ai F=> ?_;clear E o I u p T P U V N W Y S Z aa ao aj aq ar au ak al aC aD aE;obtain⟨q,lo,t,m,aG,aB,aJ,aK,aQ,h,rfl,e5,b7⟩:=d46;replace G:=And.right G rfl;obtain⟨bF,bj,an,bh,bE,rfl,_,_,_⟩:=G7 aQ;refine zsg zlv (.tmp 38) (.tmp 46) rfl IsR.stb (znc fQ) (znc fS) (ev:= .agg #[.bool bF,.slice bj (A9 q.num.natAbs).length an,.slice bh (A9 q.den).length bE]) (y:=C7 q) b7 (OwnS.wider IsR.stb (T:=fun l=>ac l\/O7 lo t l) G (fun l h=> .inl h) ?_) (IsR.stb.to aQ (F7 fun l h=> .inr h)) rfl (by intro ad aR;simp[Value.cells] at aR;rcases aR with rfl|rfl|rfl<;>rfl) (by rw[zkc];have:=cs.out;omega) (e bq.out D.2.2.size) fun cj w' be an a5=>F cj w' an (D.step an (.inr (.inr rfl)) fI.out) ⟨q,lo,t,aG,aB,e aJ an.size,zui aK M,be,a5.imp id fun h=>⟨_,h,aJ,D.2.2.size⟩⟩;have gh:=OwnS.own_lt G;have c2:=dq.out;intro l s;obtain⟨cu,be,an,a5,aP⟩:=G;rcases s with s|s
       ·exact aP l s
       ·exact⟨i s.2 aJ,fun m=>by have:=c2 l m.symm;have:=s.1;omega⟩
      |16,_,t,M,G=>obtain rfl:=b (al.symm.trans t);have aZ:H[7]? =some (.pointer (some ⟨(w.heap.size+1),0,none⟩)):=o 7 (p 7 kr);refine H7 rfl ?_;refine zkd (E:=fun w'=>z.grownBy w' (none)) (Φ:=zlb g (w.heap.size+1) L K R ah af v.heap.size (w.heap.size+2) ab ac A B Q 16) fun ai F=> ?_;clear E o I u p T P U V N W Y S Z aa ao aj aq ar au ak al aC aD aE;go_simp;exact F (.pointer (some ⟨(w.heap.size+1),0,none⟩)) _ (I7 _ _) D rfl
      |aH+17,bD,t,M,G=>exact absurd bD og
     case fin=>
      intro a z X I bC D o aL;obtain⟨⟨aN⟩,bA⟩:=a;replace I:aN.length=65:=I;obtain⟨r,rfl⟩:=ykb I;obtain rfl:bA=[]:=bC;have bM:r 0= .pointer (some ⟨g,0,none⟩):=b (o 0 (p 0 kr));have bN:r 1= .int .i64 (aA:Int):=b (o 1 (p 1 kr));have bP:r 2= .int .i64 (m0:Int):=b (o 2 (p 2 kr));have bQ:r 3=c:=b (o 3 (p 3 kr));have bR:r 4=c:=b (o 4 (p 4 kr));have bT:r 5=c:=b (o 5 (p 5 kr));have bU:r 6= .pointer (some ⟨w.heap.size,0,none⟩):=b (o 6 (p 6 kr));have bX:r 7= .pointer (some ⟨(w.heap.size+1),0,none⟩):=b (o 7 (p 7 kr));have bY:r 8= .int .i64 (aM:Int):=b (o 8 (p 8 kr));have bZ:r 9= .slice R ah af:=b (o 9 (p 9 kr));have bO:r 11=c:=b (o 11 (p 11 kr));have ej:r 50=c:=b (o 50 (p 50 kr));have ek:r 51=c:=b (o 51 (p 51 kr));have em:r 52=c:=b (o 52 (p 52 kr));have en:r 53=c:=b (o 53 (p 53 kr));have eo:r 54=c:=b (o 54 (p 54 kr));have ep:r 55=c:=b (o 55 (p 55 kr));have er:r 56=c:=b (o 56 (p 56 kr));have et:r 57=c:=b (o 57 (p 57 kr));have eu:r 58=c:=b (o 58 (p 58 kr));have ev:r 59=c:=b (o 59 (p 59 kr));have ew:r 60=c:=b (o 60 (p 60 kr));have ey:r 61=c:=b (o 61 (p 61 kr));have ez:r 62=c:=b (o 62 (p 62 kr));have eA:r 63=c:=b (o 63 (p 63 kr));have bV:r 64=c:=b (o 64 (p 64 kr));have cn:X 4=some (r 36):=(aL 4 _ og N).1;have cF:(OwnS 1 26 IsV z (w.heap.size+2) ab (r 36) (G6 A++[C2 Q])/\((r 36).ownBlock=L.ownBlock\/∃l,(r 36).ownBlock=some l/\v.heap.size<=l)):=(aL 4 _ og N).2;have fk:X 15=some (r 47):=(aL 15 _ og ak).1;have cG:PApp z (w.heap.size+2) v.heap.size (fun lo=>∃ad,X 4=some ad/\∀l,ad.ownBlock=some l->l<lo) ac K (C2 B) (r 47):=(aL 15 _ og ak).2;have gx:X 16=some (r 48):=(aL 16 _ og al).1;have fg:(r 48)= .pointer (some ⟨(w.heap.size+1),0,none⟩):=(aL 16 _ og al).2;clear gx;clear aL o I;rw[u];clear u p T P U V N W Y S Z aa ao aj aq ar au ak al aC aD aE;rw[bM,bN,bP,bQ,bR,bT,bU,bX,bY,bZ,bO,ej,ek,em,en,eo,ep,er,et,eu,ev,ew,ey,ez,eA,bV,fg];clear bM bN bP bQ bR bT bU bX bY bZ bO ej ek em en eo ep er et eu ev ew ey ez eA bV fg;obtain⟨t36,fa⟩:=nm (r 36);rw[<-fa] at cF cn⊢;clear fa;obtain⟨t47,fb⟩:=nm (r 47);rw[<-fb] at cG fk⊢;clear fb;obtain⟨bt,bu,bv⟩:=B9 D.2.1;obtain⟨cv,cw,cx⟩:=E0 D.2.1;obtain⟨da,fe,rfl⟩:=cF.1.slice;obtain⟨cd,bJ,cc,rfl⟩:∃n A O,t47= .slice A n O:=(by obtain⟨a7,lo,t,cf,c6,c7,cE,a6,cg⟩:=cG;exact⟨_,a6.slice⟩);obtain⟨aO,fw,fx,fL⟩:=X7 D cF cG cn;clear D cF cG cn fk;have cD:=dn.out;show wpList _ _ _ [_,_,_] _ _;go_wp2_with fail;clear bt bu bv cv cw cx;go_roundw
      case rel=>
       obtain⟨a7,lo,t,cf,c6,c7,cE,a6,cg⟩:=fx.out;obtain⟨ho,gw,c8⟩:=cE;obtain rfl:=b (fL.out.symm.trans gw);have ch:=fw.out;have eC:(G6 A++[C2 Q]).length=(G6 A).length+1:=(by simp);rw[eC] at ch c8;obtain⟨dr,cz⟩:=nm (z.setCell ⟨w.heap.size+1,0,none⟩ (.slice da ((G6 A).length+1) fe));have fW:z.grownBy dr (some (w.heap.size+1)):=(by rw[cz];exact I9 _ _ _ _);obtain⟨az,aI⟩:=nm (dr.setCell ⟨w.heap.size+1,1,none⟩ (.slice bJ cd cc));have aV:z.grownBy az (some (w.heap.size+1)):=(by rw[aI];exact J7 fW (I9 _ _ _ _));have cP:Row az (w.heap.size+1) 54 [.slice da ((G6 A).length+1) fe,.slice bJ cd cc,.slice none 0 0]:=by rw[aI,cz];exact(aO.out.2.1.set_ 0 _).set_ 1 _
       have b0:w.grownBy az (some g):=by
        rw[aI,cz];refine zua (zua (yil cq.out aO.out.2.2 (fun l m=> ?_) (fun l m=> ?_)) (Nat.le_succ _) _ _) (Nat.le_succ _) _ _
        ·have:=(OwnS.own_lt av.out.ownA l m).1;omega
        ·have:=(OwnS.own_lt av.out.ownB l m).1;omega
       have cT:Row az w.heap.size 54 [.slice none 0 0,.slice none 0 0,.slice none 0 0]:=(bG.out.kept aO.out.2.2 (fun m=>by cases m;omega) (fun m=>by have:=(OwnS.own_lt av.out.ownA _ m).1;omega) (fun m=>by have:=(OwnS.own_lt av.out.ownB _ m).1;omega)).grownN aV (fun l m=>by cases m;omega);rw[<-cz,<-aI]
       have b9:∀l,¬(ac l\/O7 lo t l)\/w.heap.size+2<=l:=fun l=>by
        by_cases h:ac l\/O7 lo t l
        ·refine .inr ?_;rcases h with h|h
         ·exact(cM.out l h).1
         ·have:=bq.out;have:=h.1;omega
        ·exact .inl h
       refine⟨aM+1,_,_,ab,fun l=>ac l\/O7 lo t l,A++[Q],B++[a7],by omega,by go_num,b0,aO.out.1.grown aV og,cT,cP,?_⟩;have fU:G6 (A++[Q])=G6 A++[C2 Q]:=(by simp[G6]);have aZ:C2 (B++[a7])=C2 B++[C7 a7]:=(by simp[C2]);have gv:=OwnS.own_lt ch.1;have c5:=OwnS.own_lt a6
       refine⟨by rw[List.length_append,av.out.lA];rfl,by rw[List.length_append,av.out.lB];rfl,fun row gm=> ?_,fun m aX=> ?_,by rw[fU];exact ch.1.grown IsV.stb aV fun l m=>⟨fun aY=>by have:=(gv l aY).1;cases m;omega,fun h=>by have:=(cr.out l h).1;cases m;omega⟩,
        by rw[aZ];exact a6.grown IsR.stb aV fun l m=>⟨fun aY=>by have:=(c5 l aY).1;cases m;omega,fun h=>by rcases b9 l with bH|bH;exact bH h;cases m;omega⟩,fun l s=>⟨(cr.out l s).1,?_⟩,fun l s=>⟨?_,?_⟩,fun l s=> ?_⟩
       ·rcases List.mem_append.1 gm with h|h
        ·exact av.out.rows row h
        ·rw[List.mem_singleton] at h;rw[h];exact⟨hr.out.1,hr.out.2.1⟩
       ·rcases List.mem_append.1 aX with h|h
        ·exact av.out.szB m h
        ·rw[List.mem_singleton] at h;rw[h];exact cf
       ·have aS:=cr.out l s;rcases cg with h|⟨ds,h,eO,fX⟩
        ·rw[h];exact aS.2.2.2
        ·rw[h];intro m;cases m;omega
       ·rcases b9 l with h|h
        ·exact absurd s h
        ·exact h
       ·rcases ch.2 with h|⟨ds,h,eO⟩
        ·rw[h];rcases s with s|s
         ·exact(cM.out l s).2.2.1
         ·intro m;have:=(OwnS.own_lt dp.out l m).2;have:=s.1;omega
        ·rw[h];intro m;cases m;rcases s with s|s
         ·have:=(cM.out _ s).2.1;omega
         ·have:=c8 _ h;have:=s.1;omega
       ·rcases cg with h|⟨ds,h,eO,fX⟩
        ·rw[h];rcases ch.2 with bH|⟨gC,bH,gV⟩
         ·rw[bH] at s;exact av.out.ne l s
         ·rw[bH] at s;cases s;intro m;have:=dq.out _ m;omega
        ·rw[h];intro m;cases m;have:=c8 _ s;omega
      case measure=>simp[intOf];omega
  ·obtain rfl:aM=m0:=(by have:=fq.out;omega);have a8:=OwnS.own_lt ae.out.ownA;have a9:=OwnS.own_lt ae.out.ownB;obtain⟨bm,bw,rfl⟩:=ae.out.ownA.slice;obtain⟨bn,bx,rfl⟩:=ae.out.ownB.slice;have eS:IsM J (O7 (w.heap.size+2) J.heap.size) (.slice bm (G6 A).length bw) (G6 A):=OwnS.isS IsV.stb (T:=O7 (w.heap.size+2) J.heap.size) ae.out.ownA (fun l s=>⟨(ae.out.sA l s).1,by obtain⟨_,_,_,_,aK⟩:=ae.out.ownA;exact(aK l s).1⟩) (fun l aG aB=>⟨aG,aB⟩);have eY:IsV J (O7 (w.heap.size+2) J.heap.size) (.slice bn (C2 B).length bx) (C2 B):=OwnS.isS IsR.stb (T:=O7 (w.heap.size+2) J.heap.size) ae.out.ownB (fun l s=>⟨(ae.out.sB l s).1,by obtain⟨_,_,_,_,aK⟩:=ae.out.ownB;exact(aK l s).1⟩) (fun l aG aB=>⟨aG,aB⟩);obtain⟨dh,di⟩:=C5 eS eY;have av:=d ae.out;obtain⟨bI,cW⟩:=nm ((G6 A).length);obtain⟨lb,cX⟩:=nm ((C2 B).length);rw[<-cW] at dh bK;rw[<-cX] at di bK;obtain⟨fr,fs⟩:=C5 cW cX;clear ae a8 a9 eS eY cW cX;go_wp2_with fail
   go_loopw [11] (fun O wr=>∃(aA:Nat) (ag:Value) (ay:Nat->Prop) (C:List Rat),aA<=n/\O= .int .i64 (aA:Int)/\w.grownBy wr (some g)/\IsD wr g aN/\Row wr w.heap.size 54 [.slice none 0 0,.slice none 0 0,.slice none 0 0]/\Row wr (w.heap.size+1) 54 [.slice bm bI bw,.slice bn lb bx,ag]/\OwnS 3 30 IsR wr J.heap.size ay ag (C2 C)/\
    Hid (C.length=aA/\(∀m∈C,zpk m)/\(∀l,ay l->J.heap.size<=l)/\IsM wr (O7 (w.heap.size+2) J.heap.size) (.slice bm bI bw) (G6 A)/\IsV wr (O7 (w.heap.size+2) J.heap.size) (.slice bn lb bx) (C2 B)/\J.heap.size<=wr.heap.size)) (fun O _=>n-(intOf O).toNat)
   case atStart=>exact⟨0,_,fun _=>False,[],k _,rfl,dm.out,cK.out,dk.out,bK.out,OwnS.nil (fun l h=>h.elim),rfl,(fun _ h=>by cases h),(fun l h=>h.elim),dh.out,di.out,f _⟩
   case round=>
    obtain⟨aA,ag,ay,C,hc,rfl,b5,hD,b4,G,ca,hr⟩:=hrel;obtain⟨v,rfl⟩:=nm (wr);obtain⟨cq,db,bG,bL,bi⟩:=hd5 b5 hD b4 G ca;have hr:=hr;clear b5 hD b4 G ca;rcases j aA n with cB|cB
    ·have a4:=OwnS.own_lt bi.out;have cR:∀l,ay l->J.heap.size<=l/\l<v.heap.size/\ag.ownBlock≠some l:=fun l s=>(by obtain⟨cu,be,an,a5,aP⟩:=bi.out;exact⟨hr.out.2.2.1 l s,(aP l s).1,fun m=>(aP l s).2 m.symm⟩);have fG:=d cR;have ct:Hid ((w.heap.size+1)≠g):=(by rw[Hid];omega);have bq:Hid (J.heap.size<=v.heap.size):=hr.out.2.2.2.2.2;have cs:Hid (C.length<100):=(by rw[Hid,hr.out.1];omega);have fJ:Hid (∀l,ag.ownBlock=some l->g<l/\(w.heap.size+1)≠l):=fun l m=>(by have:=(a4 l m).1;have:=bg.out;omega);have fK:Hid (∀l,ag.ownBlock=some l->l<v.heap.size):=fun l m=>(a4 l m).2
     have br:Hid (∀O l,zvi g ag O=some l->l<v.heap.size/\(O≠7->ag.ownBlock≠some l/\¬ay l)):=by
      intro O l m;have c4:=bg.out;have cb:=bq.out;unfold zvi at m;split at m
      ·cases m;exact⟨by omega,fun _=>⟨fun h=>by have:=(a4 _ h).1;omega,fun h=>by have:=(cR _ h).1;omega⟩⟩
      ·exact⟨(a4 l m).2,fun h=>absurd rfl h⟩
      ·cases m
     clear a4 cR;go_wp2_with fail;refine zpt fun ops u=> ?_;have T:=D8 (j:=0) u rfl;have P:=D8 (j:=1) u rfl;have U:=D8 (j:=2) u rfl;have V:=D8 (j:=3) u rfl;have N:=D8 (j:=4) u rfl;have W:=D8 (j:=5) u rfl;have Y:=D8 (j:=6) u rfl;have S:=D8 (j:=7) u rfl;have Z:=D8 (j:=8) u rfl;have aa:=D8 (j:=9) u rfl;have p:=fun c9 h=>ztn (n:=8) u c9 h;refine ztr 8 (zpj g (w.heap.size+1) ag v.heap.size J.heap.size ay C) (yor J.heap.size ag ay C) (JD g (w.heap.size+1) aN [.slice bm bI bw,.slice bn lb bx,ag] ag.ownBlock none v) (fun O w w'=>w.grownBy w' (zvi g ag O)) kr ?hJ0 ?hP0 ?hPs ?hst (by rw[u];kernel_rfl) (by rw[u];kernel_rfl) ?step ?fin;(case hJ0=>exact⟨db.out.grownN (K0 (row:=none) (U4 _)) (fun l m=>by cases m),bL.out,(Kept.refl _ _ _ _).step (K0 (row:=none) (U4 _)) (.inl rfl)⟩);(case hP0=>exact fun aH _=>bi.out);(case hPs=>intro aH O cl cm a2 h D a1 aZ;subst aZ;exact OwnS.grown IsR.stb (h rfl) a1 fun l m=>((br.out O l m).2 (Ne.symm a2)));case hst=>exact fun aH O aU cl cm X ad a2 cS h D a1=>yyn br.out aH O aU cl cm X ad a2 cS h a1
     case step=>
      intro aH gu bD t a z X I bC D G M o E;obtain⟨H,bA⟩:=a;replace I:H.size=65:=I;obtain rfl:bA=[]:=bC;match aH,bD,t,M,G with
      |0,_,t,M,G=>obtain rfl:=b (T.symm.trans t);have aZ:H[7]? =some (.pointer (some ⟨(w.heap.size+1),0,none⟩)):=o 7 (p 7 kr);refine H7 rfl ?_;refine zkd (E:=fun w'=>z.grownBy w' (none)) (Φ:=zpj g (w.heap.size+1) ag v.heap.size J.heap.size ay C 0) fun ai F=> ?_;clear E o I u p T P U V N W Y S Z aa;go_simp;exact F (.pointer (some ⟨(w.heap.size+1),2,none⟩)) _ (I7 _ _) D rfl
      |1,_,t,M,G=>obtain rfl:=b (P.symm.trans t);have d55:(H.getD 55 c)= .pointer (some ⟨(w.heap.size+1),2,none⟩):=(E 0 _ (C9 kr) T).2;have gO:=J6 og d55;clear d55;obtain⟨bt,bu,bv⟩:=B9 D.2.1;refine H7 rfl ?_;refine zkd (E:=fun w'=>z.grownBy w' (none)) (Φ:=zpj g (w.heap.size+1) ag v.heap.size J.heap.size ay C 1) fun ai F=> ?_;clear E o I u p T P U V N W Y S Z aa;go_simp;exact F (ag) _ (I7 _ _) D rfl
      |2,_,t,M,G=>obtain rfl:=b (U.symm.trans t);have eB:H[0]? =some (.pointer (some ⟨g,0,none⟩)):=o 0 (p 0 kr);refine H7 rfl ?_;refine zkd (E:=fun w'=>z.grownBy w' (none)) (Φ:=zpj g (w.heap.size+1) ag v.heap.size J.heap.size ay C 2) fun ai F=> ?_;clear E o I u p T P U V N W Y S Z aa;go_simp;exact F (.pointer (some ⟨g,0,none⟩)) _ (I7 _ _) D rfl
      |3,_,t,M,G=>obtain rfl:=b (V.symm.trans t);have d57:(H.getD 57 c)= .pointer (some ⟨g,0,none⟩):=(E 2 _ (C9 kr) U).2;have gP:=J6 og d57;clear d57;refine H7 rfl ?_;refine zkd (E:=fun w'=>z.grownBy w' (some g)) (Φ:=zpj g (w.heap.size+1) ag v.heap.size J.heap.size ay C 3) fun ai F=> ?_;clear E o I u p T P U V N W Y S Z aa;go_simp;refine(zqu D.1 9 og og).mono ?_;rintro m w' ⟨⟨x,aT,bd,rfl⟩,hD,aW⟩;exact F (.int .i64 x) w' aW.grown (D.draw hD aW ct.out) ⟨x,aT,by omega,rfl⟩
      |4,_,t,M,G=>obtain rfl:=b (N.symm.trans t);have d58:(∃x:Int,0<=x/\x<=8/\(H.getD 58 c)= .int .i64 x):=(E 3 _ (C9 kr) V).2;obtain⟨hh,gQ,eK⟩:=M8 (T:=H) (t:=58) og;rw[eK] at d58;clear eK;obtain⟨x,aT,bd,rfl⟩:=d58;have aS:IntKind.i64.wrap (x-4)=x-4:=IntWalk.i64_in _ og;refine H7 rfl ?_;refine zkd (E:=fun w'=>z.grownBy w' (none)) (Φ:=zpj g (w.heap.size+1) ag v.heap.size J.heap.size ay C 4) fun ai F=> ?_;clear E o I u p T P U V N W Y S Z aa;go_simp;clear aS;exact F (.int .i64 (x-4)) _ (I7 _ _) D ⟨x-4,by omega,by omega,rfl⟩
      |5,_,t,M,G=>obtain rfl:=b (W.symm.trans t);have d59:(∃x:Int,-4<=x/\x<=4/\(H.getD 59 c)= .int .i64 x):=(E 4 _ (C9 kr) N).2;obtain⟨hi,gR,eL⟩:=M8 (T:=H) (t:=59) og;rw[eL] at d59;clear eL;obtain⟨x,aT,bd,rfl⟩:=d59;refine H7 rfl ?_;refine zkd (E:=fun w'=>z.grownBy w' (none)) (Φ:=zpj g (w.heap.size+1) ag v.heap.size J.heap.size ay C 5) fun ai F=> ?_;clear E o I u p T P U V N W Y S Z aa;go_simp;refine(ydl x 1 og og og).mono ?_;rintro m w' ⟨⟨aU,q,rfl,a3,c0⟩,s⟩;exact F aU w' (K0 s) (D.step (K0 s) (.inl rfl) (fun l m=>by cases m)) ⟨q,z.heap.size,w'.heap.size,c0,⟨D.2.2.size,s.size⟩,f _,trivial,a3⟩
      |6,_,t,M,G=>obtain rfl:=b (Y.symm.trans t);have d60:PRat z v.heap.size (fun _=>True) (H.getD 60 c):=(E 5 _ (C9 kr) W).2;obtain⟨hj,gT,eM⟩:=M8 (T:=H) (t:=60) og;rw[eM] at d60;clear eM;refine H7 rfl ?_;refine zkd (E:=fun w'=>z.grownBy w' (none)) (Φ:=zpj g (w.heap.size+1) ag v.heap.size J.heap.size ay C 6) fun ai F=> ?_;clear E o I u p T P U V N W Y S Z aa;obtain⟨q,lo,t,aG,aB,aJ,aK,aQ⟩:=d60;obtain⟨bF,bj,an,bh,bE,rfl,_,_,_⟩:=G7 aQ;go_simp;exact F (.slice (some ⟨z.heap.size,0,none⟩) 1 1) _ (zln _ _ _) (D.step (zln _ _ _) (.inl rfl) (fun l m=>by cases m)) ⟨q,lo,t,.agg #[.bool bF,.slice bj (A9 q.num.natAbs).length an,.slice bh (A9 q.den).length bE],aG,aB,e aJ (zln z _ none).size,trivial,aQ.rngG (zln _ _ none) aJ (fun l m=>by cases m),z.heap.size,rfl,D.2.2.size,heap_alloc_new _ _⟩
      |7,_,t,M,G=>
       obtain rfl:=b (S.symm.trans t);have d56:(H.getD 56 c)=ag:=(E 1 _ (C9 kr) P).2;have fT:=J6 og d56;clear d56;have d61:PRow z v.heap.size (fun _=>True) (H.getD 61 c):=(E 6 _ (C9 kr) Y).2;obtain⟨hk,fV,eN⟩:=M8 (T:=H) (t:=61) og;rw[eN] at d61;clear eN;refine H7 rfl ?_;refine zkd (E:=fun w'=>z.grownBy w' (ag.ownBlock)) (Φ:=zpj g (w.heap.size+1) ag v.heap.size J.heap.size ay C 7) fun ai F=> ?_;clear E o I u p T P U V N W Y S Z aa;obtain⟨q,lo,t,m,aG,aB,aJ,aK,aQ,h,rfl,e5,b7⟩:=d61;replace G:=G rfl;obtain⟨bF,bj,an,bh,bE,rfl,_,_,_⟩:=G7 aQ;refine zsg zlv (.tmp 56) (.tmp 61) rfl IsR.stb (znc fT) (znc fV) (ev:= .agg #[.bool bF,.slice bj (A9 q.num.natAbs).length an,.slice bh (A9 q.den).length bE]) (y:=C7 q) b7 (OwnS.wider IsR.stb (T:=fun l=>ay l\/O7 lo t l) G (fun l h=> .inl h) ?_) (IsR.stb.to aQ (F7 fun l h=> .inr h)) rfl (by intro ad aR;simp[Value.cells] at aR;rcases aR with rfl|rfl|rfl<;>rfl) (by rw[zkc];have:=cs.out;omega) (e bq.out D.2.2.size) fun cj w' be an a5=>F cj w' an (D.step an (.inr (.inl rfl)) fJ.out) ⟨q,lo,t,aG,aB,e aJ an.size,trivial,be,a5.imp id fun h=>⟨_,h,aJ,D.2.2.size⟩⟩;have gh:=OwnS.own_lt G;have c2:=fK.out;intro l s;obtain⟨cu,be,an,a5,aP⟩:=G;rcases s with s|s
       ·exact aP l s
       ·exact⟨i s.2 aJ,fun m=>by have:=c2 l m.symm;have:=s.1;omega⟩
      |aH+8,bD,t,M,G=>exact absurd bD og
     case fin=>
      intro a z X I bC D o aL;obtain⟨⟨aN⟩,bA⟩:=a;replace I:aN.length=65:=I;obtain⟨r,rfl⟩:=ykb I;obtain rfl:bA=[]:=bC;have bM:r 0= .pointer (some ⟨g,0,none⟩):=b (o 0 (p 0 kr));have bN:r 1= .int .i64 (n:Int):=b (o 1 (p 1 kr));have bP:r 2= .int .i64 (aM:Int):=b (o 2 (p 2 kr));have bQ:r 3=c:=b (o 3 (p 3 kr));have bR:r 4=c:=b (o 4 (p 4 kr));have bT:r 5=c:=b (o 5 (p 5 kr));have bU:r 6= .pointer (some ⟨w.heap.size,0,none⟩):=b (o 6 (p 6 kr));have bX:r 7= .pointer (some ⟨(w.heap.size+1),0,none⟩):=b (o 7 (p 7 kr));have bY:r 8= .int .i64 (aM:Int):=b (o 8 (p 8 kr));have bZ:r 9=u9:=b (o 9 (p 9 kr));have dt:r 10=u10:=b (o 10 (p 10 kr));have bO:r 11= .int .i64 (aA:Int):=b (o 11 (p 11 kr));have du:r 12= .int .i64 (aM:Int):=b (o 12 (p 12 kr));have dv:r 13= .int .i64 (aM:Int):=b (o 13 (p 13 kr));have dw:r 14= .bool false:=b (o 14 (p 14 kr));have dx:r 15=u15:=b (o 15 (p 15 kr));have dy:r 16=u16:=b (o 16 (p 16 kr));have dz:r 17=u17:=b (o 17 (p 17 kr));have dA:r 18=u18:=b (o 18 (p 18 kr));have dB:r 19=u19:=b (o 19 (p 19 kr));have dC:r 20=u20:=b (o 20 (p 20 kr));have dD:r 21=u21:=b (o 21 (p 21 kr));have dE:r 22=u22:=b (o 22 (p 22 kr));have dF:r 23=u23:=b (o 23 (p 23 kr));have dG:r 24=u24:=b (o 24 (p 24 kr));have dH:r 25=u25:=b (o 25 (p 25 kr));have dI:r 26=u26:=b (o 26 (p 26 kr));have dJ:r 27=u27:=b (o 27 (p 27 kr));have dK:r 28=u28:=b (o 28 (p 28 kr));have dL:r 29=u29:=b (o 29 (p 29 kr));have dM:r 30=u30:=b (o 30 (p 30 kr));have dN:r 31=u31:=b (o 31 (p 31 kr));have dO:r 32=u32:=b (o 32 (p 32 kr));have dP:r 33=u33:=b (o 33 (p 33 kr));have dQ:r 34=u34:=b (o 34 (p 34 kr));have dR:r 35=u35:=b (o 35 (p 35 kr));have dS:r 36=u36:=b (o 36 (p 36 kr));have dT:r 37=u37:=b (o 37 (p 37 kr));have dU:r 38=u38:=b (o 38 (p 38 kr));have dV:r 39=u39:=b (o 39 (p 39 kr));have dW:r 40=u40:=b (o 40 (p 40 kr));have dX:r 41=u41:=b (o 41 (p 41 kr));have dY:r 42=u42:=b (o 42 (p 42 kr));have dZ:r 43=u43:=b (o 43 (p 43 kr));have ec:r 44=u44:=b (o 44 (p 44 kr));have ed:r 45=u45:=b (o 45 (p 45 kr));have ee:r 46=u46:=b (o 46 (p 46 kr));have eg:r 47=u47:=b (o 47 (p 47 kr));have eh:r 48=u48:=b (o 48 (p 48 kr));have ei:r 49=u49:=b (o 49 (p 49 kr));have bV:r 64=c:=b (o 64 (p 64 kr));have gy:X 1=some (r 56):=(aL 1 _ og P).1;have fh:(r 56)=ag:=(aL 1 _ og P).2;clear gy;have fl:X 7=some (r 62):=(aL 7 _ og S).1;have cH:PApp z J.heap.size v.heap.size (fun _=>True) ay ag (C2 C) (r 62):=(aL 7 _ og S).2;clear aL o I;rw[u];clear u p T P U V N W Y S Z aa;rw[bM,bN,bP,bQ,bR,bT,bU,bX,bY,bZ,dt,bO,du,dv,dw,dx,dy,dz,dA,dB,dC,dD,dE,dF,dG,dH,dI,dJ,dK,dL,dM,dN,dO,dP,dQ,dR,dS,dT,dU,dV,dW,dX,dY,dZ,ec,ed,ee,eg,eh,ei,bV,fh];clear bM bN bP bQ bR bT bU bX bY bZ dt bO du dv dw dx dy dz dA dB dC dD dE dF dG dH dI dJ dK dL dM dN dO dP dQ dR dS dT dU dV dW dX dY dZ ec ed ee eg eh ei bV fh;obtain⟨t62,fc⟩:=nm (r 62);rw[<-fc] at cH fl⊢;clear fc;obtain⟨bt,bu,bv⟩:=B9 D.2.1;obtain⟨cv,cw,cx⟩:=E0 D.2.1;obtain⟨cd,bJ,cc,rfl⟩:∃n A O,t62= .slice A n O:=(by obtain⟨a7,lo,t,cf,c6,c7,cE,a6,cg⟩:=cH;exact⟨_,a6.slice⟩);obtain⟨aO,fy⟩:=C5 D cH;clear D cH fl;show wpList _ _ _ [_,_] _ _;go_wp2_with fail;clear bt bu bv cv cw cx;go_roundw
      case rel=>
       obtain⟨a7,lo,t,cf,c6,c7,cE,a6,cg⟩:=fy.out;obtain⟨az,aI⟩:=nm (z.setCell ⟨w.heap.size+1,2,none⟩ (.slice bJ cd cc));have aV:z.grownBy az (some (w.heap.size+1)):=(by rw[aI];exact I9 _ _ _ _);have cP:Row az (w.heap.size+1) 54 [.slice bm bI bw,.slice bn lb bx,.slice bJ cd cc]:=(by rw[aI];exact aO.out.2.1.set_ 2 _);have a4:=OwnS.own_lt bi.out;have c4:=bg.out;have cb:=bq.out;have b0:w.grownBy az (some g):=(by rw[aI];exact zua (yil cq.out aO.out.2.2 (fun l m=>by have:=(a4 l m).1;omega) (fun l m=>by cases m)) (Nat.le_succ _) _ _);have cT:Row az w.heap.size 54 [.slice none 0 0,.slice none 0 0,.slice none 0 0]:=(bG.out.kept aO.out.2.2 (fun m=>by cases m;omega) (fun m=>by have:=(a4 _ m).1;omega) (fun m=>by cases m)).grownN aV (fun l m=>by cases m;omega);have eW:K6 (O7 (w.heap.size+2) J.heap.size) (O7 (w.heap.size+2) J.heap.size) v z:=zyj aO.out.2.2 fun l s=>⟨by have:=s.2;omega,fun m=>by cases m;have:=s.1;omega,fun m=>by have:=(a4 l m.symm).1;have:=s.2;omega,by simp⟩;have eX:K6 (O7 (w.heap.size+2) J.heap.size) (O7 (w.heap.size+2) J.heap.size) z az:=znx aV fun l s=>⟨by have:=s.2;have:=aO.out.2.2.size;omega,fun m=>by cases m;have:=s.1;omega⟩;rw[<-aI];have c5:=OwnS.own_lt a6
       have b9:∀l,(ay l\/O7 lo t l)->J.heap.size<=l:=fun l h=>by
        rcases h with h|h
        ·exact(fG.out l h).1
        ·have:=h.1;omega
       have aZ:C2 (C++[a7])=C2 C++[C7 a7]:=(by simp[C2]);refine⟨aA+1,_,fun l=>ay l\/O7 lo t l,C++[a7],by omega,by go_num,b0,aO.out.1.grown aV og,cT,cP,?_,by rw[List.length_append,hr.out.1];rfl,fun m aX=> ?_,b9,IsM.stb.to (IsM.stb.to hr.out.2.2.2.1 eW) eX,IsV.stb.to (IsV.stb.to hr.out.2.2.2.2.1 eW) eX,by have:=aO.out.2.2.size;have:=aV.size;omega⟩
       ·rw[aZ];exact a6.grown IsR.stb aV fun l m=>⟨fun aY=>by have:=(c5 l aY).1;cases m;omega,fun h=>by have:=b9 l h;cases m;omega⟩
       ·rcases List.mem_append.1 aX with h|h
        ·exact hr.out.2.1 m h
        ·rw[List.mem_singleton] at h;rw[h];exact cf
      case measure=>simp[intOf];omega
    ·obtain rfl:aA=n:=(by omega);obtain⟨cL,cN,rfl⟩:=bi.out.slice;have eZ:IsV v (O7 J.heap.size v.heap.size) (.slice cL (C2 C).length cN) (C2 C):=OwnS.isS IsR.stb (T:=O7 J.heap.size v.heap.size) bi.out (fun l s=>⟨hr.out.2.2.1 l s,by obtain⟨_,_,_,_,aK⟩:=bi.out;exact(aK l s).1⟩) (fun l aG aB=>⟨aG,aB⟩);have dj:=d eZ;obtain⟨ff,cY⟩:=nm ((C2 C).length);rw[<-cY] at dj bL;have ft:=d cY;clear eZ cY;obtain⟨bt,bu,bv⟩:=B9 bL.out;obtain⟨hp,hq,hs⟩:=B9 bG.out;obtain⟨cv,cw,cx⟩:=E0 bG.out;have cD:=cB;go_wp2_with fail;refine ylm Tryz.results23 rfl rfl (Row.put3 bG.out _ _ _) ?_;obtain⟨az,aI⟩:=nm (put3 v w.heap.size (.slice bm bI bw) (.slice bn lb bx) (.slice cL ff cN));have c4:=bg.out;have cb:=hr.out.2.2.2.2.2;have gn:az.heap.size=v.heap.size:=(by rw[aI,zsf]);have c1:∀a l:Nat,w.heap.size+2<=a->l<=v.heap.size->K6 (O7 a l) (G4 w.heap.size az) v az:=fun a l ha s=>(by rw[aI];exact zpg fun x aS=>⟨by have:=aS.1;omega,by have:=aS.1;omega,by rw[<-aI,gn];have:=aS.2;omega⟩);have b0:w.grownBy az (some g):=(by rw[aI];exact zua (zua (zua cq.out (f _) _ _) (f _) _ _) (f _) _ _);have cy:IsD az g aN:=(by rw[aI];exact((db.out.far (p:=⟨w.heap.size,0,none⟩) (by simpa using cC) _).far (p:=⟨w.heap.size,1,none⟩) (by simpa using cC) _).far (p:=⟨w.heap.size,2,none⟩) (by simpa using cC) _);suffices key:yep aA aM w.heap.size (.returned (.agg #[.slice bm bI bw,.slice bn lb bx,.slice cL ff cN])) az/\IsD az g aN/\w.grownBy az (some g) by rw[aI] at key;exact key
     have eT:=hr.out.2.2.2.1;have e0:=hr.out.2.2.2.2.1;have e1:=dj.out;rw[fr.out] at eT⊢;rw[fs.out] at e0⊢;rw[ft.out] at e1⊢;refine⟨⟨_,⟨A,B,C⟩,rfl,zyg (p:=X9 ⟨A,B,C⟩) (IsM.stb.to eT (c1 _ _ (f _) cb)) (IsV.stb.to e0 (c1 _ _ (f _) cb)) (IsV.stb.to e1 (c1 _ _ c4 (f _))),yts ⟨?_,?_,?_,?_,?_,?_,?_⟩ (fun row h=>(av.out.rows row h).2) av.out.szB hr.out.2.1,av.out.lB,hr.out.1⟩,cy,b0⟩
     ·exact av.out.lA.trans av.out.lB.symm
     ·exact fun row h=>(av.out.rows row h).1.trans hr.out.1.symm
     ·exact fun row h q a3=>((av.out.rows row h).2 q a3).1.le og
     ·exact fun q a3=>(av.out.szB q a3).1.le og
     ·exact fun q a3=>(hr.out.2.1 q a3).1.le og
     ·exact e (Nat.le_of_eq av.out.lB) gf
     ·exact e (Nat.le_of_eq hr.out.1) gg
end Go.Proofs.YtlhhbccgfkhflaaGreatDoor
