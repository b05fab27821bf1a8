/-
 Contracts of the reference's checks of a number and of a list.
-/
import Derived.Test.YtlhhbccgfkhflaaGreatDoorProofDualWeak21
namespace Go.Proofs.YtlhhbccgfkhflaaGreatDoor
open Go.RowKit
set_option linter.unusedVariables false
set_option maxRecDepth 100000
set_option maxHeartbeats 8000000
open _root_.Go.Lib renaming hid → r
open _root_.Nat renaming lt_or_ge → J, zero_le → O, lt_of_le_of_lt → M, le_of_lt_succ → N
open _root_.List renaming getD_eq_getElem?_getD → L, getElem?_eq_getElem → P, mem_of_getElem? → K
open _root_.And renaming intro → I
open _root_.Go renaming World → i, Calls → k
open _root_.Go.RowKit renaming Below → c, Hid → e
open _root_.Go.Proofs.Tryz renaming prog → m
variable {b : Rat} {j n : Nat}
structure DSt (w W:i) (g H sb:Nat) (l:List Int) (E B F C:Nat) (G t u a o p x y z A:Value) (q:ProgQ) (s:Sol):Prop where
 bel:c w.heap.size w W
 d:IsD W g l
 rp:Row W H 54 [G,t,u]
 vp:IsP W (G6 E B) (.agg #[G,t,u]) (I8 q)
 rs:Row W sb 69 [a,o,p,x,y,z,A]
 vs:IsSol W (G6 F C) (.agg #[a,o,p,x,y,z,A]) s
 ord:w.heap.size<=g/\g<E/\E<=B/\B<=H/\H<F/\F<=C/\C<=sb/\sb<W.heap.size
section
variable {w W d : i} {g H sb : Nat} {l : List Int} {E B F C : Nat} {G t u a o p x y z A : Value} {q : ProgQ} {s : Sol}
theorem DSt.grown (h:DSt w W g H sb l E B F C G t u a o p x y z A q s) {r:Option Nat} (e:W.grownBy d r) (hr:∀b,r=some b->sb<b):DSt w d g H sb l E B F C G t u a o p x y z A q s:=by have n:=h.ord;have k:∀i f,f<=sb->L6 (G6 i f) (G6 i f) W d:=fun i f m=>zml e fun b j=>⟨by have:=j.2;omega,fun c=>by have:=hr b c.symm;have:=j.2;omega⟩;exact⟨h.bel.grown e h.bel.size fun b c=>by have:=hr b c;omega,h.d.grownN e fun b c=>by have:=hr b c;omega,h.rp.grownN e fun b c=>by have:=hr b c;omega,IsP.stb.to h.vp (k _ _ og),h.rs.grownN e fun b c=>by have:=hr b c;omega,IsSol.stb.to h.vs (k _ _ og),by have:=e.size;omega⟩
theorem DSt.next (h:DSt w W g H sb l E B F C G t u a o p x y z A q s) (f:c W.heap.size W d):DSt w d g H sb l E B F C G t u a o p x y z A q s:=h.grown (r:=none) (K9 f) fun b e=>by cases e
theorem DSt.draw (h:DSt w W g H sb l E B F C G t u a o p x y z A q s) (e:W.grownBy d (some g)) (hd:IsD d g l):DSt w d g H sb l E B F C G t u a o p x y z A q s:=by have r:=h.ord;have k:∀i f,g<i->f<=sb->L6 (G6 i f) (G6 i f) W d:=fun i f m n=>zml e fun b j=>⟨by have:=j.2;omega,fun c=>by injection c with c;have:=j.1;omega⟩;exact⟨h.bel.grown e h.bel.size fun b c=>by cases c;omega,hd,h.rp.grownN e fun b c=>by cases c;omega,IsP.stb.to h.vp (k _ _ og og),h.rs.grownN e fun b c=>by cases c;omega,IsSol.stb.to h.vs (k _ _ og og),by have:=e.size;omega⟩
theorem DSt.prg (h:DSt w W g H sb l E B F C G t u a o p x y z A q s):IsP W (C5 W) (.agg #[G,t,u]) (I8 q):=IsP.stb.to h.vp (G4 fun b c=>by have:=c.2;have:=h.ord;show b<W.heap.size;omega)
theorem DSt.sol (h:DSt w W g H sb l E B F C G t u a o p x y z A q s):IsSol W (C5 W) (.agg #[a,o,p,x,y,z,A]) s:=IsSol.stb.to h.vs (G4 fun b c=>by have:=c.2;have:=h.ord;show b<W.heap.size;omega)
end
theorem yoz {j:ProgQ} {a:Nat} {s:Sol} (h:zsd j a s) (d:1<=a):∃v X D R,s=ymj s.st v X D R/\(s.st=1\/s.st=2\/s.st=3)/\Sz v a/\(∀q∈X,Sz q a)/\(∀q∈D,Sz q a)/\(∀q∈R,Sz q a)/\(s.st≠1->v=0):=by
 have nil:∀q∈([]:List Rat),Sz q a:=fun q i=>(by cases i);rcases h with⟨X,Y,v,rfl,_,b,c,g⟩|⟨Y,rfl,_,b⟩|⟨X,e,rfl,_,b,c⟩
 ·exact⟨v,X,Y,[],rfl,.inl rfl,b,c,g,nil,fun f=>absurd rfl f⟩
 ·exact⟨0,[],Y,[],rfl,.inr (.inl rfl),zsc d,nil,b,nil,fun _=>rfl⟩
 ·exact⟨0,X,[],e,rfl,.inr (.inr rfl),zsc d,b,nil,c,fun _=>rfl⟩
theorem ygx {b:Nat} (d:b<=4):(A8 (M3 (8*2) (b+1)*2)).length<=3/\(A8 (M3 (8*2) (b+1))).length<=100000:=by
 have f:pw 3=1000000000000000000000000000:=rfl
 have key:M3 (8*2) (b+1)<=125829120:=by
  match b,d with
  |0,_=>decide
  |1,_=>decide
  |2,_=>decide
  |3,_=>decide
  |4,_=>decide
 have a:(A8 (M3 (8*2) (b+1))).length<=3:=lim_len_le.2 og;exact⟨lim_len_le.2 og,by omega⟩
section
variable {q : ProgQ} {s : Sol} {v f : Rat} {X D R : List Rat}
end
theorem ymd {q:Rat}:(T7 q !=0)= !decide (q=0):=by
 rcases Decidable.em (q=0) with h|h
 ·rw[decide_eq_true h,sgnQ_zero.2 h];rfl
 ·rw[decide_eq_false h,bne_iff_ne.2 (fun a=>h (sgnQ_zero.1 a))];rfl
theorem ygb {a:Rat}:(V6 a b !=0)= !decide (a=b):=by
 rcases Decidable.em (a=b) with h|h
 ·rw[decide_eq_true h,cmpQ_zero.2 h];rfl
 ·rw[decide_eq_false h,bne_iff_ne.2 (fun c=>h (cmpQ_zero.1 c))];rfl
def zty (A:List (List Rat)) (B x y:List Rat) (a:Nat):Bool:=decide (y.getD a 0=0)||decide (H7 (A.getD a []) x=B.getD a 0)
def zuy (A:List (List Rat)) (C x y:List Rat) (a:Nat):Bool:=decide (x.getD a 0=0)||decide (H7 (U1 A a) y=C.getD a 0)
theorem zzx (A:List (List Rat)) (B C x y:List Rat):zqy A B C x y=((List.range B.length).all (zty A B x y)&&(List.range C.length).all (zuy A C x y)):=rfl
theorem getD_some {l:List Rat} {q:Rat} (h:l[j]? =some q):l.getD j 0=q:=by rw[L,h];rfl
theorem ytx {l:List (List Rat)} {q:List Rat} (h:l[j]? =some q):l.getD j []=q:=by rw[L,h];rfl
theorem zz1410 {w:i} {vp vx vy:Value} {e:Prog} {b:Int} (s:IsP w (C5 w) vp e) (hc:∀a,c w.heap.size w a->k m 95 #[vp,vx,vy] a fun d w'=>d= .returned (.int .i64 b)/\c a.heap.size a w') (h:b≠0):
 k m 40 #[vp,vx,vy] w fun d w'=>d= .returned (.tuple #[.bool false,.int .i64 b])/\c w.heap.size w w':=by have l:=r hc;obtain⟨A,n,B,o,C,p,rfl,_,_,_⟩:=s;have z:(b !=0)=true:=bne_iff_ne.2 h;clear hc h;obtain⟨a,t,g,j,u⟩:=J9 w #[.slice A e.A.length n,.slice B e.B.length o,.slice C e.C.length p] 54;have f:=r g;obtain⟨v,x,y⟩:=C0 j;clear j g;go_in;go_wp2_with fail;clear t;refine(l.out _ f.out).mono ?_;rintro d D ⟨rfl,q⟩;go_wp2_with fail;go_ret2;exact⟨rfl,C8 f.out q⟩
theorem zz1411 {w:i} {vp vx vy:Value} {q:ProgQ} {x y:List Rat} (cY:IsP w (C5 w) vp (I8 q)) (b7:IsV w (C5 w) vx (C4 x)) (b8:IsV w (C5 w) vy (C4 y)) (cE:Bru w) (ag:Good q 1024)
 (hc:∀bt,c w.heap.size w bt->k m 95 #[vp,vx,vy] bt fun bB w'=>bB= .returned (.int .i64 0)/\c bt.heap.size bt w')
 (bF:x.length=q.C.length) (cJ:∀l∈x,Sz l 1024) (bG:y.length=q.B.length) (cK:∀l∈y,Sz l 1024):
 k m 40 #[vp,vx,vy] w fun bB w'=>bB= .returned (.tuple #[.bool (zqy q.A q.B q.C x y),.int .i64 0])/\c w.heap.size w w':=by
 obtain⟨bx,bA,ac,bK,bO,bM,bP,cm⟩:=zny b7 b8 ag bF cJ bG cK cE;have bJ:=r hc;obtain⟨A,aq,B,aH,C,cS,rfl,bC,bD,bE⟩:=cY;obtain⟨cj,cB,rfl,_⟩:=J6 b7;obtain⟨ck,cD,rfl,_⟩:=J6 b8;obtain⟨af,aK⟩:=nm (q.B.length);obtain⟨n,a5⟩:=nm (q.C.length);simp only[I8,zku,zmi] at bC bD bE bx bA bJ⊢;rw[ag.rows,bF,bG,<-aK,<-a5] at bJ⊢;rw[ag.rows,<-aK] at bC;rw[<-aK] at bD;rw[<-a5] at bE;rw[bF,<-a5] at bx;rw[bG,<-aK] at bA;have bZ:af<=40:=(by rw[aK];exact ag.nB);have b4:n<=40:=(by rw[a5];exact ag.nC);obtain⟨ai,an,cl,cO,cP⟩:=hd5 aK a5 bC bD bE;clear b7 b8 cE ag hc bF cJ bG cK bC bD bE aK a5;obtain⟨bt,cZ,cF,cc,c2⟩:=J9 w #[.slice A af aq,.slice B af aH,.slice C n cS] 54;obtain⟨cn,cR⟩:=C7 cF cc;obtain⟨aI,aJ,a2⟩:=C0 cc;clear cc cF;go_in;go_wp2_with fail;clear cZ;refine(bJ.out _ cn.out).mono ?_;rintro bB cM ⟨rfl,aL⟩;have cq:=nB cn aL;have bV:=r (cR.out.next aL);clear aL aI aJ a2;obtain⟨aI,aJ,a2⟩:=C0 bV.out;go_wp2_with fail;clear aI aJ a2;go_loopw [23,9,10] (fun G c7 da wr=>∃j:Nat,j<=af/\G= .int .i64 (j:Int)/\c cM.heap.size cM wr/\e (∀G,G<j->zty q.A q.B x y G=true)) (fun G _ _ _=>af-(intOf G).toNat);case atStart=>exact⟨0,O _,rfl,Below.refl _ _,fun G bi=>by omega⟩
 case round=>
  obtain⟨j,c4,rfl,a3,hrel⟩:=hrel;have a0:=r a3;have au:=r hrel.out;have aB:=nB cq a3;obtain⟨aI,aJ,a2⟩:=C0 (bV.out.next a3);clear hrel;rcases J j af with ay|cV
  ·obtain⟨row,hr,cI⟩:=zsu (m:=q.A) (j:=j) (by rw[ac.out.rows,<-ai.out];exact ay);obtain⟨b,aL,cG⟩:=zph (l:=q.B) (j:=j) (by rw[<-ai.out];exact ay);obtain⟨z,bm,bn⟩:=zph (l:=y) (j:=j) (by rw[bM.out,<-ai.out];exact ay);obtain⟨b2,c9,cz,cA,rfl,_,b3,d0⟩:=zoa (IsM.stb.to cl.out (C9 aB.out)) cI;obtain⟨H,L,U,V,X,Y,rfl,_,aP,a,o,p⟩:=zmt (IsV.stb.to cO.out (C9 aB.out)) cG;obtain⟨D,E,M,N,P,Q,rfl,_,aQ,bu,bv,bw⟩:=zmt (IsV.stb.to bA.out (C9 aB.out)) bn;have bH:row.length=n:=(ac.out.cols row (K hr)).trans an.out.symm;have cC:(C4 row).length=n:=(zku row).trans bH;rw[cC] at d0 b3;obtain⟨Z,aM⟩:=nm ((E0 b).neg);obtain⟨aa,aN⟩:=nm ((E0 b).num.length);obtain⟨ab,aO⟩:=nm ((E0 b).den.length);rw[<-aM] at a;rw[<-aN] at o;rw[<-aO] at p;rw[<-aM,<-aN,<-aO] at aP;clear aM aN aO;obtain⟨R,aU⟩:=nm ((E0 z).neg);obtain⟨S,aV⟩:=nm ((E0 z).num.length);obtain⟨T,aW⟩:=nm ((E0 z).den.length);rw[<-aU] at bu;rw[<-aV] at bv;rw[<-aW] at bw;rw[<-aU,<-aV,<-aW] at aQ;clear aU aV aW;obtain⟨cv,ct,aE,cw,a6⟩:=hd5 b3 (zpd aP) (zpd aQ) (IsV.stb.to bx.out (C9 aB.out)) (Bru.next cm.out aB.out);obtain⟨d,hd⟩:=nm (H7 row x);obtain⟨g,ag⟩:=nm (T7 z);obtain⟨aY,aR⟩:=nm (V6 d b);have ao:e (zty q.A q.B x y j=(decide (z=0)||decide (d=b))):=(by rw[e,zty,getD_some bm,getD_some aL,ytx hr,hd]);have cr:=r bH;have bN:e (∀l∈row,Sz l 1024):=ac.out.szA row (K hr);have be:e (Sz d 100000):=(by rw[e,hd];exact zsj bN.out bO.out (by rw[bH];exact b4));have bd:e (Sz b 100000):=(ac.out.szB b (K aL)).le og;obtain⟨bq,aS⟩:=nm (decide (z=0));obtain⟨br,aT⟩:=nm (decide (d=b));have t:(g !=0)= !bq:=(by rw[ag,aS];exact ymd);have u:(aY !=0)= !br:=(by rw[aR,aT];exact ygb);rw[<-aS,<-aT] at ao;obtain⟨a7,aC,a8⟩:=F0 hd ag aR;have cT:=N9;have cW:(0:Int)<=(j:Int):=(by omega);have cX:(j:Int)<(af:Int):=(by omega);have s:=r (I aJ (I bu (I bv (I bw (I a (I o p))))));clear hr aL bm cI cG bn b3 aP aQ bH cC hd ag aR aS aT a3;cases bq with
   |true=>
    go_wp2_with fail;have ah:e (∀W:i,c wr.heap.size wr W->W.cell? ⟨w.heap.size,1,none⟩=some (.slice (some ⟨H,L,none⟩) af aH)/\W.cell? ⟨D,E+j*3,none⟩=some (.bool R)/\W.cell? ⟨D,E+j*3+1,none⟩=some (.slice M S N)/\W.cell? ⟨D,E+j*3+2,none⟩=some (.slice P T Q)/\W.cell? ⟨H,L+j*3,none⟩=some (.bool Z)/\W.cell? ⟨H,L+j*3+1,none⟩=some (.slice U aa V)/\W.cell? ⟨H,L+j*3+2,none⟩=some (.slice X ab Y)):=fun W f=>⟨A9 f s.out.1,A9 f s.out.2.1,A9 f s.out.2.2.1,A9 f s.out.2.2.2.1,A9 f s.out.2.2.2.2.1,A9 f s.out.2.2.2.2.2.1,A9 f s.out.2.2.2.2.2.2⟩;have aj:e (∀W:i,c wr.heap.size wr W->k m 63 #[.agg #[.bool R,.slice M S N,.slice P T Q]] W (fun l w'=>l= .returned (.int .i64 g)/\c W.heap.size W w')):=fun W f=>(by rw[aC.out];exact zns (IsQ.stb.next aE.out f));refine wp_region_noPanic ?_;refine wp_region_held_drew (S:=fun w'=>w'.cell? ⟨w.heap.size,1,none⟩=some (.slice (some ⟨H,L,none⟩) af aH)/\w'.cell? ⟨D,E+j*3,none⟩=some (.bool R)/\w'.cell? ⟨D,E+j*3+1,none⟩=some (.slice M S N)/\w'.cell? ⟨D,E+j*3+2,none⟩=some (.slice P T Q)/\w'.cell? ⟨H,L+j*3,none⟩=some (.bool Z)/\w'.cell? ⟨H,L+j*3+1,none⟩=some (.slice U aa V)/\w'.cell? ⟨H,L+j*3+2,none⟩=some (.slice X ab Y)) kr (ah.out _ bel) (fun bY=> ?_);refine sT 0 28 ?_;refine sT 1 29 ?_;refine sT 2 30 ?_;refine sT 3 31 ?_;refine wpAnyH_ready (rs:=[4]) kr (by simp) ?_;refine AllReadyH.cons rfl (fun bQ bf=> ?_) AllReadyH.nil;go_simp;go_at_call 63;(with_reducible refine Calls.mono (aj.out _ bel) ?_)
    rintro l ad ⟨rfl,bg⟩;go_wp2_with fail;refine bf.out _ _ (ah.out _ bel) (fun bY=> ?_);clear bf bQ;refine sT 5 33 ?_;refine sT 6 34 ?_;refine sU 7 35 ?_;refine sU 8 36 ?_;refine sU 9 37 ?_;refine sU 10 38 ?_;refine sU 11 39 ?_;refine sU 12 40 ?_;refine sU 13 41 ?_;refine sU 14 42 ?_;refine sU 15 43 ?_;refine sU 16 44 ?_;refine sT 17 45 ?_;refine wpAnyH_done kr ?_ _;refine NoPanic.normal ?_;go_wp2_with fail;go_roundw
    case rel=>
     refine⟨j+1,by omega,by go_num,Below.trans a0.out (Below.mono (show c wr.heap.size wr ad from bel) (Below.size a0.out)),fun G bi=> ?_⟩;rcases J G j with h|h
     ·exact au.out G h
     ·obtain rfl:G=j:=(by omega);rw[ao.out];rfl
    case measure=>simp[intOf];omega
   |false=>
    cases br with
    |false=>
     go_wp2_with fail;have ah:e (∀W:i,c wr.heap.size wr W->W.cell? ⟨w.heap.size,1,none⟩=some (.slice (some ⟨H,L,none⟩) af aH)/\W.cell? ⟨D,E+j*3,none⟩=some (.bool R)/\W.cell? ⟨D,E+j*3+1,none⟩=some (.slice M S N)/\W.cell? ⟨D,E+j*3+2,none⟩=some (.slice P T Q)/\W.cell? ⟨H,L+j*3,none⟩=some (.bool Z)/\W.cell? ⟨H,L+j*3+1,none⟩=some (.slice U aa V)/\W.cell? ⟨H,L+j*3+2,none⟩=some (.slice X ab Y)):=fun W f=>⟨A9 f s.out.1,A9 f s.out.2.1,A9 f s.out.2.2.1,A9 f s.out.2.2.2.1,A9 f s.out.2.2.2.2.1,A9 f s.out.2.2.2.2.2.1,A9 f s.out.2.2.2.2.2.2⟩;have aj:e (∀W:i,c wr.heap.size wr W->k m 63 #[.agg #[.bool R,.slice M S N,.slice P T Q]] W (fun l w'=>l= .returned (.int .i64 g)/\c W.heap.size W w')):=fun W f=>by rw[aC.out];exact zns (IsQ.stb.next aE.out f)
     go_region_held3 (fun w'=>w'.cell? ⟨w.heap.size,1,none⟩=some (.slice (some ⟨H,L,none⟩) af aH)/\w'.cell? ⟨D,E+j*3,none⟩=some (.bool R)/\w'.cell? ⟨D,E+j*3+1,none⟩=some (.slice M S N)/\w'.cell? ⟨D,E+j*3+2,none⟩=some (.slice P T Q)/\w'.cell? ⟨H,L+j*3,none⟩=some (.bool Z)/\w'.cell? ⟨H,L+j*3+1,none⟩=some (.slice U aa V)/\w'.cell? ⟨H,L+j*3+2,none⟩=some (.slice X ab Y))
      (exact ah.out _ bel)
      (first
        |(go_at_call 63;(with_reducible refine Calls.mono (aj.out _ bel) ?_);rintro l ad ⟨rfl,bg⟩;have az:e (∀W:i,c ad.heap.size ad W->k m 97 #[.slice cz n cA,.slice cj n cB] W (K8 W d)):=fun W f=>by rw[a7.out];exact zng (M:=n) (IsV.stb.next cv.out bel) (IsV.stb.next cw.out bel) (Bru.next a6.out bel) cr.out (bK.out.trans an.out.symm) b4 bN.out bO.out)
        |(go_at_call 97;(with_reducible refine Calls.mono (az.out _ bel) ?_);rintro l al ⟨⟨cg,rfl,ak⟩,b0⟩;have aG:=r (IsQ.stb.old ak);obtain⟨cd,aD,aX,bR,ca,rfl,_,_,_⟩:=F9 ak;have aA:e (∀W:i,c al.heap.size al W->k m 96 #[.agg #[.bool cd,.slice aD (A8 d.num.natAbs).length aX,.slice bR (A8 d.den).length ca],.agg #[.bool Z,.slice U aa V,.slice X ab Y]] W (fun l w'=>l= .returned (.int .i64 aY)/\c W.heap.size W w')):=fun W f=>by rw[a8.out];exact zon (IsQ.stb.next aG.out f) (IsQ.stb.next ct.out bel) be.out bd.out)
        |(go_at_call 96;(with_reducible refine Calls.mono (aA.out _ bel) ?_);rintro l ar ⟨rfl,b1⟩))
     go_wp2_with fail;have a9:e (zqy q.A q.B q.C x y=false):=(by rw[e,zzx,ybc (k:=j) (by rw[<-ai.out];exact ay) ao.out];rfl);go_ret2;exact⟨by rw[a9.out];rfl,C8 cq.out (Below.trans a0.out (Below.mono (show c wr.heap.size wr ar from bel) (Below.size a0.out)))⟩
    |true=>
     go_wp2_with fail;have ah:e (∀W:i,c wr.heap.size wr W->W.cell? ⟨w.heap.size,1,none⟩=some (.slice (some ⟨H,L,none⟩) af aH)/\W.cell? ⟨D,E+j*3,none⟩=some (.bool R)/\W.cell? ⟨D,E+j*3+1,none⟩=some (.slice M S N)/\W.cell? ⟨D,E+j*3+2,none⟩=some (.slice P T Q)/\W.cell? ⟨H,L+j*3,none⟩=some (.bool Z)/\W.cell? ⟨H,L+j*3+1,none⟩=some (.slice U aa V)/\W.cell? ⟨H,L+j*3+2,none⟩=some (.slice X ab Y)):=fun W f=>⟨A9 f s.out.1,A9 f s.out.2.1,A9 f s.out.2.2.1,A9 f s.out.2.2.2.1,A9 f s.out.2.2.2.2.1,A9 f s.out.2.2.2.2.2.1,A9 f s.out.2.2.2.2.2.2⟩;have aj:e (∀W:i,c wr.heap.size wr W->k m 63 #[.agg #[.bool R,.slice M S N,.slice P T Q]] W (fun l w'=>l= .returned (.int .i64 g)/\c W.heap.size W w')):=fun W f=>by rw[aC.out];exact zns (IsQ.stb.next aE.out f)
     go_region_held3 (fun w'=>w'.cell? ⟨w.heap.size,1,none⟩=some (.slice (some ⟨H,L,none⟩) af aH)/\w'.cell? ⟨D,E+j*3,none⟩=some (.bool R)/\w'.cell? ⟨D,E+j*3+1,none⟩=some (.slice M S N)/\w'.cell? ⟨D,E+j*3+2,none⟩=some (.slice P T Q)/\w'.cell? ⟨H,L+j*3,none⟩=some (.bool Z)/\w'.cell? ⟨H,L+j*3+1,none⟩=some (.slice U aa V)/\w'.cell? ⟨H,L+j*3+2,none⟩=some (.slice X ab Y))
      (exact ah.out _ bel)
      (first
        |(go_at_call 63;(with_reducible refine Calls.mono (aj.out _ bel) ?_);rintro l ad ⟨rfl,bg⟩;have az:e (∀W:i,c ad.heap.size ad W->k m 97 #[.slice cz n cA,.slice cj n cB] W (K8 W d)):=fun W f=>by rw[a7.out];exact zng (M:=n) (IsV.stb.next cv.out bel) (IsV.stb.next cw.out bel) (Bru.next a6.out bel) cr.out (bK.out.trans an.out.symm) b4 bN.out bO.out)
        |(go_at_call 97;(with_reducible refine Calls.mono (az.out _ bel) ?_);rintro l al ⟨⟨cg,rfl,ak⟩,b0⟩;have aG:=r (IsQ.stb.old ak);obtain⟨cd,aD,aX,bR,ca,rfl,_,_,_⟩:=F9 ak;have aA:e (∀W:i,c al.heap.size al W->k m 96 #[.agg #[.bool cd,.slice aD (A8 d.num.natAbs).length aX,.slice bR (A8 d.den).length ca],.agg #[.bool Z,.slice U aa V,.slice X ab Y]] W (fun l w'=>l= .returned (.int .i64 aY)/\c W.heap.size W w')):=fun W f=>by rw[a8.out];exact zon (IsQ.stb.next aG.out f) (IsQ.stb.next ct.out bel) be.out bd.out)
        |(go_at_call 96;(with_reducible refine Calls.mono (aA.out _ bel) ?_);rintro l ar ⟨rfl,b1⟩))
     go_wp2_with fail;go_roundw
     case rel=>
      refine⟨j+1,by omega,by go_num,Below.trans a0.out (Below.mono (show c wr.heap.size wr ar from bel) (Below.size a0.out)),fun G bi=> ?_⟩;rcases J G j with h|h
      ·exact au.out G h
      ·obtain rfl:G=j:=(by omega);rw[ao.out];rfl
     case measure=>simp[intOf];omega
  ·obtain rfl:j=af:=(by omega);have cQ:e ((List.range q.B.length).all (zty q.A q.B x y)=true):=ybd (by rw[<-ai.out];exact au.out);have cy:=r (bV.out.next a3);obtain⟨cN,c0⟩:=nm (wr);subst c0;clear a3 au;go_wp2_with fail;clear aI aJ a2;go_loopw [50,11] (fun G c8 wr=>∃v:Nat,v<=n/\G= .int .i64 (v:Int)/\c cN.heap.size cN wr/\e (∀G,G<v->zuy q.A q.C x y G=true)) (fun G _ _=>n-(intOf G).toNat);case atStart=>exact⟨0,O _,rfl,Below.refl _ _,fun G bi=>by omega⟩
   case round=>
    obtain⟨v,c5,rfl,a4,hrel⟩:=hrel;have a1:=r a4;have au:=r hrel.out;have aZ:=nB aB a4;obtain⟨aI,aJ,a2⟩:=C0 (cy.out.next a4);have c6:w.heap.size<wr.heap.size:=Nat.lt_of_lt_of_le cy.out.lt a4.size;clear hrel;rcases J v n with ay|cV
    ·obtain⟨av,hc,cH⟩:=zph (l:=q.C) (j:=v) (by rw[<-an.out];exact ay);obtain⟨z,bm,bn⟩:=zph (l:=x) (j:=v) (by rw[bK.out,<-an.out];exact ay);obtain⟨H,L,U,V,X,Y,rfl,_,aP,a,o,p⟩:=zmt (IsV.stb.to cP.out (C9 aZ.out)) cH;obtain⟨D,E,M,N,P,Q,rfl,_,aQ,bu,bv,bw⟩:=zmt (IsV.stb.to bx.out (C9 aZ.out)) bn;obtain⟨Z,aM⟩:=nm ((E0 av).neg);obtain⟨aa,aN⟩:=nm ((E0 av).num.length);obtain⟨ab,aO⟩:=nm ((E0 av).den.length);rw[<-aM] at a;rw[<-aN] at o;rw[<-aO] at p;rw[<-aM,<-aN,<-aO] at aP;clear aM aN aO;obtain⟨R,aU⟩:=nm ((E0 z).neg);obtain⟨S,aV⟩:=nm ((E0 z).num.length);obtain⟨T,aW⟩:=nm ((E0 z).den.length);rw[<-aU] at bu;rw[<-aV] at bv;rw[<-aW] at bw;rw[<-aU,<-aV,<-aW] at aQ;clear aU aV aW;obtain⟨cu,aE,cs,cx,a6⟩:=hd5 (zpd aP) (zpd aQ) (IsM.stb.to cl.out (C9 aZ.out)) (IsV.stb.to bA.out (C9 aZ.out)) (Bru.next cm.out aZ.out);obtain⟨d,hd⟩:=nm (H7 (U1 q.A v) y);obtain⟨g,ag⟩:=nm (T7 z);obtain⟨aY,aR⟩:=nm (V6 d av);have ao:e (zuy q.A q.C x y v=(decide (z=0)||decide (d=av))):=(by rw[e,zuy,getD_some bm,getD_some hc,hd]);have be:e (Sz d 100000):=(by rw[e,hd];exact zsj (zsi ac.out.szA og) bP.out (by rw[zth,ac.out.rows,<-ai.out];exact bZ));have bd:e (Sz av 100000):=(ac.out.szC av (K hc)).le og;obtain⟨bq,aS⟩:=nm (decide (z=0));obtain⟨br,aT⟩:=nm (decide (d=av));have t:(g !=0)= !bq:=(by rw[ag,aS];exact ymd);have u:(aY !=0)= !br:=(by rw[aR,aT];exact ygb);rw[<-aS,<-aT] at ao;obtain⟨a7,aC,a8⟩:=F0 hd ag aR;have cT:=N9;have cW:(0:Int)<=(v:Int):=(by omega);have cX:(v:Int)<(n:Int):=(by omega);obtain⟨F,b5,bh,cL,c3⟩:=J9 wr #[.bool Z,.slice U aa V,.slice X ab Y] 30;obtain⟨s,ae,bL⟩:=F0 (I (A9 bh aI) (I (A9 bh bu) (I (A9 bh bv) (I (A9 bh bw) (C0 cL))))) bh ay;clear hc bm cH bn aP aQ hd ag aR aS aT a4 cL;cases bq with
     |true=>
      go_wp2_with fail;clear b5;have ah:e (∀W:i,c F.heap.size F W->W.cell? ⟨w.heap.size,0,none⟩=some (.slice A j aq)/\W.cell? ⟨D,E+v*3,none⟩=some (.bool R)/\W.cell? ⟨D,E+v*3+1,none⟩=some (.slice M S N)/\W.cell? ⟨D,E+v*3+2,none⟩=some (.slice P T Q)/\W.cell? ⟨wr.heap.size,0,none⟩=some (.bool Z)/\W.cell? ⟨wr.heap.size,1,none⟩=some (.slice U aa V)/\W.cell? ⟨wr.heap.size,2,none⟩=some (.slice X ab Y)):=fun W f=>⟨A9 f s.out.1,A9 f s.out.2.1,A9 f s.out.2.2.1,A9 f s.out.2.2.2.1,A9 f s.out.2.2.2.2.1,A9 f s.out.2.2.2.2.2.1,A9 f s.out.2.2.2.2.2.2⟩;have aj:e (∀W:i,c F.heap.size F W->k m 63 #[.agg #[.bool R,.slice M S N,.slice P T Q]] W (fun l w'=>l= .returned (.int .i64 g)/\c W.heap.size W w')):=fun W f=>(by rw[aC.out];exact zns (IsQ.stb.next aE.out (C8 ae.out f)));refine wp_region_noPanic ?_;refine wp_region_held_drew (S:=fun w'=>w'.cell? ⟨w.heap.size,0,none⟩=some (.slice A j aq)/\w'.cell? ⟨D,E+v*3,none⟩=some (.bool R)/\w'.cell? ⟨D,E+v*3+1,none⟩=some (.slice M S N)/\w'.cell? ⟨D,E+v*3+2,none⟩=some (.slice P T Q)/\w'.cell? ⟨wr.heap.size,0,none⟩=some (.bool Z)/\w'.cell? ⟨wr.heap.size,1,none⟩=some (.slice U aa V)/\w'.cell? ⟨wr.heap.size,2,none⟩=some (.slice X ab Y)) kr (ah.out _ bel) (fun bY=> ?_);refine sT 0 55 ?_;refine sT 1 56 ?_;refine sT 2 57 ?_;refine sT 3 58 ?_;refine wpAnyH_ready (rs:=[4]) kr (by simp) ?_;refine AllReadyH.cons rfl (fun bQ bf=> ?_) AllReadyH.nil;go_simp;go_at_call 63;(with_reducible refine Calls.mono (aj.out _ bel) ?_)
      rintro l ad ⟨rfl,bg⟩;go_wp2_with fail;refine bf.out _ _ (ah.out _ bel) (fun bY=> ?_);clear bf bQ;refine sT 5 60 ?_;refine sT 6 61 ?_;refine sU 7 62 ?_;refine sU 8 63 ?_;refine sU 9 64 ?_;refine sU 10 65 ?_;refine sU 11 66 ?_;refine sU 12 67 ?_;refine sU 13 68 ?_;refine sU 14 69 ?_;refine sU 15 70 ?_;refine sT 16 71 ?_;refine wpAnyH_done kr ?_ _;refine NoPanic.normal ?_;go_wp2_with fail;go_roundw
      case rel=>
       refine⟨v+1,by omega,by go_num,Below.trans a1.out (Below.mono (C8 ae.out (show c F.heap.size F ad from bel)) (Below.size a1.out)),fun G bi=> ?_⟩;rcases J G v with h|h
       ·exact au.out G h
       ·obtain rfl:G=v:=(by omega);rw[ao.out];rfl
      case measure=>simp[intOf];omega
     |false=>
      cases br with
      |false=>
       go_wp2_with fail;clear b5;have ah:e (∀W:i,c F.heap.size F W->W.cell? ⟨w.heap.size,0,none⟩=some (.slice A j aq)/\W.cell? ⟨D,E+v*3,none⟩=some (.bool R)/\W.cell? ⟨D,E+v*3+1,none⟩=some (.slice M S N)/\W.cell? ⟨D,E+v*3+2,none⟩=some (.slice P T Q)/\W.cell? ⟨wr.heap.size,0,none⟩=some (.bool Z)/\W.cell? ⟨wr.heap.size,1,none⟩=some (.slice U aa V)/\W.cell? ⟨wr.heap.size,2,none⟩=some (.slice X ab Y)):=fun W f=>⟨A9 f s.out.1,A9 f s.out.2.1,A9 f s.out.2.2.1,A9 f s.out.2.2.2.1,A9 f s.out.2.2.2.2.1,A9 f s.out.2.2.2.2.2.1,A9 f s.out.2.2.2.2.2.2⟩;have aj:e (∀W:i,c F.heap.size F W->k m 63 #[.agg #[.bool R,.slice M S N,.slice P T Q]] W (fun l w'=>l= .returned (.int .i64 g)/\c W.heap.size W w')):=fun W f=>by rw[aC.out];exact zns (IsQ.stb.next aE.out (C8 ae.out f))
       go_region_held3 (fun w'=>w'.cell? ⟨w.heap.size,0,none⟩=some (.slice A j aq)/\w'.cell? ⟨D,E+v*3,none⟩=some (.bool R)/\w'.cell? ⟨D,E+v*3+1,none⟩=some (.slice M S N)/\w'.cell? ⟨D,E+v*3+2,none⟩=some (.slice P T Q)/\w'.cell? ⟨wr.heap.size,0,none⟩=some (.bool Z)/\w'.cell? ⟨wr.heap.size,1,none⟩=some (.slice U aa V)/\w'.cell? ⟨wr.heap.size,2,none⟩=some (.slice X ab Y))
        (exact ah.out _ bel)
        (first
          |(go_at_call 63;(with_reducible refine Calls.mono (aj.out _ bel) ?_);rintro l ad ⟨rfl,bg⟩;have az:e (∀W:i,c ad.heap.size ad W->k m 98 #[.slice A j aq,.int .i64 (v:Int)] W (fun l w'=>(∃bp,l= .returned bp/\IsV w' (C5 w') bp (C4 (U1 q.A v)))/\c W.heap.size W w')):=fun W f=>zwb (n:=n) (IsM.stb.next cs.out (C8 ae.out (show c F.heap.size F W from bel))) (by rw[ac.out.rows,<-ai.out];omega) (fun row h=>(ac.out.cols row h).trans an.out.symm) bL.out og)
          |(go_at_call 98;(with_reducible refine Calls.mono (az.out _ bel) ?_);rintro l al ⟨⟨cg,rfl,ak⟩,b0⟩;have aG:=r ak;obtain⟨aD,aX,rfl,_⟩:=J6 ak;have aA:e (∀W:i,c al.heap.size al W->k m 97 #[.slice aD (C4 (U1 q.A v)).length aX,.slice ck j cD] W (K8 W d)):=fun W f=>by rw[a7.out];exact zng (M:=j) (IsV.stb.next aG.out f) (IsV.stb.next cx.out (C8 ae.out (show c F.heap.size F W from bel))) (Bru.next a6.out (C8 ae.out (show c F.heap.size F W from bel))) (by rw[zth,ac.out.rows,<-ai.out]) (bM.out.trans ai.out.symm) bZ (zsi ac.out.szA og) bP.out)
          |(go_at_call 97;(with_reducible refine Calls.mono (aA.out _ bel) ?_);rintro l ar ⟨⟨c1,rfl,bj⟩,b1⟩;have bX:=r (IsQ.stb.old bj);obtain⟨cf,bU,b9,bT,cb,rfl,_,_,_⟩:=F9 bj;have bI:e (∀W:i,c ar.heap.size ar W->k m 96 #[.agg #[.bool cf,.slice bU (A8 d.num.natAbs).length b9,.slice bT (A8 d.den).length cb],.agg #[.bool Z,.slice U aa V,.slice X ab Y]] W (fun l w'=>l= .returned (.int .i64 aY)/\c W.heap.size W w')):=fun W f=>by rw[a8.out];exact zon (IsQ.stb.next bX.out f) (IsQ.stb.next cu.out (C8 ae.out (show c F.heap.size F W from bel))) be.out bd.out)
          |(go_at_call 96;(with_reducible refine Calls.mono (bI.out _ bel) ?_);rintro l ch ⟨rfl,cU⟩))
       go_wp2_with fail;have a9:e (zqy q.A q.B q.C x y=false):=(by rw[e,zzx,ybc (n:=q.C.length) (k:=v) (by rw[<-an.out];exact bL.out) ao.out,Bool.and_false]);go_ret2;exact⟨by rw[a9.out];rfl,C8 aB.out (Below.trans a1.out (Below.mono (C8 ae.out (show c F.heap.size F ch from bel)) (Below.size a1.out)))⟩
      |true=>
       go_wp2_with fail;clear b5;have ah:e (∀W:i,c F.heap.size F W->W.cell? ⟨w.heap.size,0,none⟩=some (.slice A j aq)/\W.cell? ⟨D,E+v*3,none⟩=some (.bool R)/\W.cell? ⟨D,E+v*3+1,none⟩=some (.slice M S N)/\W.cell? ⟨D,E+v*3+2,none⟩=some (.slice P T Q)/\W.cell? ⟨wr.heap.size,0,none⟩=some (.bool Z)/\W.cell? ⟨wr.heap.size,1,none⟩=some (.slice U aa V)/\W.cell? ⟨wr.heap.size,2,none⟩=some (.slice X ab Y)):=fun W f=>⟨A9 f s.out.1,A9 f s.out.2.1,A9 f s.out.2.2.1,A9 f s.out.2.2.2.1,A9 f s.out.2.2.2.2.1,A9 f s.out.2.2.2.2.2.1,A9 f s.out.2.2.2.2.2.2⟩;have aj:e (∀W:i,c F.heap.size F W->k m 63 #[.agg #[.bool R,.slice M S N,.slice P T Q]] W (fun l w'=>l= .returned (.int .i64 g)/\c W.heap.size W w')):=fun W f=>by rw[aC.out];exact zns (IsQ.stb.next aE.out (C8 ae.out f))
       go_region_held3 (fun w'=>w'.cell? ⟨w.heap.size,0,none⟩=some (.slice A j aq)/\w'.cell? ⟨D,E+v*3,none⟩=some (.bool R)/\w'.cell? ⟨D,E+v*3+1,none⟩=some (.slice M S N)/\w'.cell? ⟨D,E+v*3+2,none⟩=some (.slice P T Q)/\w'.cell? ⟨wr.heap.size,0,none⟩=some (.bool Z)/\w'.cell? ⟨wr.heap.size,1,none⟩=some (.slice U aa V)/\w'.cell? ⟨wr.heap.size,2,none⟩=some (.slice X ab Y))
        (exact ah.out _ bel)
        (first
          |(go_at_call 63;(with_reducible refine Calls.mono (aj.out _ bel) ?_);rintro l ad ⟨rfl,bg⟩;have az:e (∀W:i,c ad.heap.size ad W->k m 98 #[.slice A j aq,.int .i64 (v:Int)] W (fun l w'=>(∃bp,l= .returned bp/\IsV w' (C5 w') bp (C4 (U1 q.A v)))/\c W.heap.size W w')):=fun W f=>zwb (n:=n) (IsM.stb.next cs.out (C8 ae.out (show c F.heap.size F W from bel))) (by rw[ac.out.rows,<-ai.out];omega) (fun row h=>(ac.out.cols row h).trans an.out.symm) bL.out og)
          |(go_at_call 98;(with_reducible refine Calls.mono (az.out _ bel) ?_);rintro l al ⟨⟨cg,rfl,ak⟩,b0⟩;have aG:=r ak;obtain⟨aD,aX,rfl,_⟩:=J6 ak;have aA:e (∀W:i,c al.heap.size al W->k m 97 #[.slice aD (C4 (U1 q.A v)).length aX,.slice ck j cD] W (K8 W d)):=fun W f=>by rw[a7.out];exact zng (M:=j) (IsV.stb.next aG.out f) (IsV.stb.next cx.out (C8 ae.out (show c F.heap.size F W from bel))) (Bru.next a6.out (C8 ae.out (show c F.heap.size F W from bel))) (by rw[zth,ac.out.rows,<-ai.out]) (bM.out.trans ai.out.symm) bZ (zsi ac.out.szA og) bP.out)
          |(go_at_call 97;(with_reducible refine Calls.mono (aA.out _ bel) ?_);rintro l ar ⟨⟨c1,rfl,bj⟩,b1⟩;have bX:=r (IsQ.stb.old bj);obtain⟨cf,bU,b9,bT,cb,rfl,_,_,_⟩:=F9 bj;have bI:e (∀W:i,c ar.heap.size ar W->k m 96 #[.agg #[.bool cf,.slice bU (A8 d.num.natAbs).length b9,.slice bT (A8 d.den).length cb],.agg #[.bool Z,.slice U aa V,.slice X ab Y]] W (fun l w'=>l= .returned (.int .i64 aY)/\c W.heap.size W w')):=fun W f=>by rw[a8.out];exact zon (IsQ.stb.next bX.out f) (IsQ.stb.next cu.out (C8 ae.out (show c F.heap.size F W from bel))) be.out bd.out)
          |(go_at_call 96;(with_reducible refine Calls.mono (bI.out _ bel) ?_);rintro l ch ⟨rfl,cU⟩))
       go_wp2_with fail;go_roundw
       case rel=>
        refine⟨v+1,by omega,by go_num,Below.trans a1.out (Below.mono (C8 ae.out (show c F.heap.size F ch from bel)) (Below.size a1.out)),fun G bi=> ?_⟩;rcases J G v with h|h
        ·exact au.out G h
        ·obtain rfl:G=v:=(by omega);rw[ao.out];rfl
       case measure=>simp[intOf];omega
    ·obtain rfl:v=n:=(by omega);have a9:e (zqy q.A q.B q.C x y=true):=(by rw[e,zzx,cQ.out,ybd (by rw[<-an.out];exact au.out)];rfl);clear a4;go_wp2_with fail;go_ret2;exact⟨by rw[a9.out];rfl,aZ.out⟩
theorem ytp {A:List (List Rat)} {b c X Y:List Rat} (j:A.length=b.length) (l:∀m∈A,m.length=c.length) (e:X.length=c.length) (k:Y.length=b.length):
 H7 b Y-H7 c X=(C6 b.length fun a=>Y.getD a 0*(b.getD a 0-H7 (A.getD a []) X))+C6 c.length fun d=>X.getD d 0*(zkx A Y d-c.getD d 0):=by have g:(C6 c.length fun d=>X.getD d 0*zkx A Y d)=C6 b.length fun a=>Y.getD a 0*H7 (A.getD a []) X:=(by have f:(C6 c.length fun d=>X.getD d 0*zkx A Y d)=C6 c.length fun d=>C6 A.length fun a=>X.getD d 0*((A.getD a []).getD d 0*Y.getD a 0):=M8 fun d _=>(by unfold zkx;exact(znu _ _ _).symm);rw[f,yms,j];refine M8 fun a n=> ?_;have hr:A[a]? =some (A.getD a []):=(by rw[L,P og];rfl);rw[zxv (l _ (K hr)) e,<-znu];exact M8 fun d _=>by grind);have h:(C6 b.length fun a=>Y.getD a 0*(b.getD a 0-H7 (A.getD a []) X))=H7 b Y-C6 b.length fun a=>Y.getD a 0*H7 (A.getD a []) X:=(by rw[zxv rfl k];have:(C6 b.length fun a=>b.getD a 0*Y.getD a 0)=(C6 b.length fun a=>Y.getD a 0*(b.getD a 0-H7 (A.getD a []) X))+C6 b.length fun a=>Y.getD a 0*H7 (A.getD a []) X:=(by rw[<-zsa];exact M8 fun a _=>by grind);rw[this];grind);have i:(C6 c.length fun d=>X.getD d 0*(zkx A Y d-c.getD d 0))=(C6 c.length fun d=>X.getD d 0*zkx A Y d)-H7 c X:=(by rw[zxv rfl e];have:(C6 c.length fun d=>X.getD d 0*zkx A Y d)=(C6 c.length fun d=>X.getD d 0*(zkx A Y d-c.getD d 0))+C6 c.length fun d=>c.getD d 0*X.getD d 0:=(by rw[<-zsa];exact M8 fun a _=>by grind);rw[this];grind);rw[h,i,g];grind
theorem yeb {f:Nat->Rat} (h:∀a,a<n->0<=f a):0<=C6 n f:=by
 induction n with
 |zero=>exact Rat.le_refl
 |succ n ih=>have b:=ih fun a g=>h a og;have d:=h n og;rw[C6];grind
theorem ymq {f:Nat->Rat} (h:∀a,a<n->0<=f a) (g:C6 n f=0):∀a,a<n->f a=0:=by
 induction n with
 |zero=>intro a b;omega
 |succ n ih=>
  have o:=yeb (n:=n) (f:=f) fun a b=>h a og;have p:=h n og;rw[C6] at g;have j:C6 n f=0:=(by grind);have l:f n=0:=(by grind);intro a b;rcases J a n with d|d
  ·exact ih (fun a b=>h a og) j a d
  ·rw[show a=n by omega];exact l
theorem mul_zero_iff {a:Rat}:a*b=0↔a=0\/b=0:=Rat.mul_eq_zero
section
variable {q : ProgQ} {X Y : List Rat}
theorem zz1412 (g:Good q 1024) (f:Y.length=q.B.length):zqy q.A q.B q.C X Y=true↔(∀b,b<q.B.length->Y.getD b 0*(q.B.getD b 0-H7 (q.A.getD b []) X)=0)/\∀c,c<q.C.length->X.getD c 0*(zkx q.A Y c-q.C.getD c 0)=0:=by
 rw[zzx,Bool.and_eq_true,List.all_eq_true,List.all_eq_true];refine and_congr ⟨fun h b d=> ?_,fun h b d=> ?_⟩ ⟨fun h c e=> ?_,fun h c e=> ?_⟩
 ·have:=h b (List.mem_range.2 d);unfold zty at this;rw[Bool.or_eq_true,decide_eq_true_eq,decide_eq_true_eq] at this;rcases this with a|a
  ·rw[a];grind
  ·rw[a];grind
 ·have:=h b (List.mem_range.1 d);unfold zty;rw[Bool.or_eq_true,decide_eq_true_eq,decide_eq_true_eq];rcases mul_zero_iff.1 this with a|a
  ·exact .inl a
  ·exact .inr (by grind)
 ·have:=h c (List.mem_range.2 e);unfold zuy at this;rw[Bool.or_eq_true,decide_eq_true_eq,decide_eq_true_eq,zxr _ _ _ (by rw[f,g.rows])] at this;rcases this with a|a
  ·rw[a];grind
  ·rw[a];grind
 ·have:=h c (List.mem_range.1 e);unfold zuy;rw[Bool.or_eq_true,decide_eq_true_eq,decide_eq_true_eq,zxr _ _ _ (by rw[f,g.rows])];rcases mul_zero_iff.1 this with a|a
  ·exact .inl a
  ·exact .inr (by grind)
theorem yno (c:Good q 1024) (p:W6 q.A q.B X=true) (r:Y4 q.A q.C Y=true) (i:X.length=q.C.length) (d:Y.length=q.B.length):0<=H7 q.B Y-H7 q.C X/\(zqy q.A q.B q.C X Y=decide (H7 q.B Y-H7 q.C X=0)):=by
 have f:=(ygy c i).1 p;have g:=(ymp c d).1 r;have e:=ytp (A:=q.A) (b:=q.B) (c:=q.C) c.rows c.cols i d;have j:∀a,a<q.B.length->0<=Y.getD a 0*(q.B.getD a 0-H7 (q.A.getD a []) X):=fun a n=>(by have hr:q.A[a]? =some (q.A.getD a []):=(by rw[L,P (by rw[c.rows];exact n)];rfl);have:=f.le a _ hr;exact Rat.mul_nonneg (zyd g.nn a) (by grind));have k:∀b,b<q.C.length->0<=X.getD b 0*(zkx q.A Y b-q.C.getD b 0):=fun b o=>(by have:=g.ge b o;exact Rat.mul_nonneg (zyd f.nn b) (by grind));have s:=yeb j;have t:=yeb k;refine⟨by rw[e];grind,?_⟩;rw[Bool.eq_iff_iff,decide_eq_true_eq,zz1412 c d,e];constructor
 ·rintro⟨l,m⟩;rw[zlk l,zlk m];grind
 ·intro h;exact⟨ymq j (by grind),ymq k (by grind)⟩
theorem yyd (a:Good q 1024) {v:Rat} (h:CertOpt q.A q.B q.C X Y v):W6 q.A q.B X=true/\Y4 q.A q.C Y=true/\zqy q.A q.B q.C X Y=true:=by have b:=(ygy a h.x.len).2 h.x;have c:=(ymp a h.y.len).2 h.y;refine⟨b,c,?_⟩;rw[(yno a b c h.x.len h.y.len).2,decide_eq_true_eq,h.vx,h.vy];grind
theorem ytd (q:ProgQ) (Y:List Rat):W6 (N6 q).A (N6 q).B Y=Y4 q.A q.C Y:=by rw[zz1425,yte]
theorem ygu {a b:List Rat} (ha:∀x∈a,Sz x n) (d:∀x∈b,Sz x n) (e:a.length<=4):Sz (H7 a b) (4*(2*n+1)+1):=by refine(yec (n:=n) fun f c=>⟨ha _ (List.of_mem_zip c).1,d _ (List.of_mem_zip c).2⟩).le ?_;have:(a.zip b).length<=4:=(by rw[List.length_zip];omega);have:=Nat.mul_le_mul_right (2*n+1) this;omega
theorem ymw {x:Rat} (h:x.den∣2/\x.num.natAbs<=8):Sz x 3:=by
 have b:x.den<=2:=Nat.le_of_dvd (by decide) h.1;refine⟨?_,by rw[ztt (M b (by decide)) x.den_nz];exact N (by simp)⟩;rcases Nat.eq_zero_or_pos x.num.natAbs with a|a
 ·rw[a,T6];decide
 ·rw[ztt (M h.2 (by decide)) og];exact N (by simp)
theorem ytq (h:FineP q 2 8) (d:q.B.length<=4) (hc:q.C.length<=4) (b:∀x∈X,Sz x 3) (c:∀x∈Y,Sz x 3):Sz (H7 q.B Y-H7 q.C X) 1024:=
 ((ygu (fun x a=>ymw (h.fB x a)) c d).sub (ygu (fun x a=>ymw (h.fC x a)) b hc)).le (by decide)
end
section
variable {w : i} {vp vx vy : Value} {q : ProgQ} {X Y : List Rat}
theorem yej (c:X.length=n) (d:n<=40) (b:∀a∈X,Sz a 1024):znb n (C4 X)=0:=by unfold znb;rw[if_neg (by rw[show U9 (C4 X)=0 from zug og b];decide),if_neg (by rw[zku];omega)]
theorem yty (a:Good q 1024) (d:X.length=q.C.length) (e:∀c∈X,Sz c 1024):zly (I8 q) [(I8 q).C.length] [C4 X]=0:=by have b:(I8 q).C.length=q.C.length:=zku _;unfold zly;rw[if_neg (by rw[zuf a];decide)];show zka [znb _ (C4 X)]=0;rw[yej (by rw[b];exact d) (by rw[b];exact a.nC) e];rfl
theorem ytz (b:Good q 1024) (e:X.length=q.C.length) (g:∀a∈X,Sz a 1024) (f:Y.length=q.B.length) (h:∀a∈Y,Sz a 1024):zly (I8 q) [(I8 q).C.length,(I8 q).B.length] [C4 X,C4 Y]=0:=by have d:(I8 q).C.length=q.C.length:=zku _;have c:(I8 q).B.length=q.B.length:=zku _;unfold zly;rw[if_neg (by rw[zuf b];decide)];show zka [znb _ (C4 X),znb _ (C4 Y)]=0;rw[yej (by rw[d];exact e) (by rw[d];exact b.nC) g,yej (by rw[c];exact f) (by rw[c];exact b.nB) h];rfl
theorem yha (g:IsP w (C5 w) vp (I8 q)) (h:IsV w (C5 w) vx (C4 X)) (f:Bru w) (b:Good q 1024) (d:X.length=q.C.length) (e:∀a∈X,Sz a 1024):
 k m 43 #[vp,vx] w fun a w'=>a= .returned (.tuple #[.bool (W6 q.A q.B X),.int .i64 0])/\c w.heap.size w w':=ytf g h f b (yty b d e) d e
theorem zzc (p:IsP w (C5 w) vp (I8 q)) (r:IsV w (C5 w) vx (C4 X)) (s:IsV w (C5 w) vy (C4 Y)) (n:Bru w) (e:Good q 1024) (f:X.length=q.C.length) (i:∀d∈X,Sz d 1024) (g:Y.length=q.B.length) (j:∀d∈Y,Sz d 1024) {b:Bool} (o:b=(W6 q.A q.B X&&Y4 q.A q.C Y)):
 ∀a,c w.heap.size w a->k m 95 #[vp,vx,vy] a fun l w'=>l= .returned (.int .i64 (if b then 0 else 13))/\c a.heap.size a w':=fun a h=>
 ykm (IsP.stb.to p (C9 h)) (IsV.stb.to r (C9 h)) (IsV.stb.to s (C9 h)) (Bru.next n h) e (ytz e f i g j) f i g j (by
  rw[o]
  cases t:W6 q.A q.B X<;>cases u:Y4 q.A q.C Y<;>simp)
theorem ytn (b:IsP w (C5 w) vp (I8 q)) (n:IsV w (C5 w) vx (C4 X)) (o:IsV w (C5 w) vy (C4 Y)) (e:Bru w) (g:Good q 1024) (h:X.length=q.C.length) (j:∀a∈X,Sz a 1024) (i:Y.length=q.B.length) (l:∀a∈Y,Sz a 1024) (f:(W6 q.A q.B X&&Y4 q.A q.C Y)=false):
 k m 44 #[vp,vx,vy] w fun d w'=>d= .returned (.tuple #[.agg #[.bool false,.slice none 0 0,.slice none 0 0],.int .i64 13])/\c w.heap.size w w':=ytm b (zzc b n o e g h j i l f.symm) (by decide)
theorem yto (o:IsP w (C5 w) vp (I8 q)) (u:IsV w (C5 w) vx (C4 X)) (x:IsV w (C5 w) vy (C4 Y)) (g:Bru w) (j:Good q 1024) (l:X.length=q.C.length) (p:∀a∈X,Sz a 1024) (n:Y.length=q.B.length) (t:∀a∈Y,Sz a 1024) (A:(W6 q.A q.B X&&Y4 q.A q.C Y)=true) {d:Rat} (hd:d=H7 q.B Y-H7 q.C X) (s:Sz d 1024):
 k m 44 #[vp,vx,vy] w fun y w'=>(∃v,y= .returned (.tuple #[v,.int .i64 0])/\IsQ w' (C5 w') v d)/\c w.heap.size w w':=
 (yho o u x g j (fun B h=>zzc o u x g j l p n t A.symm B h) l p n t hd).mono fun a w' ⟨⟨v,b,f⟩,z⟩=>by
  rw[(yhn s).2] at b
  rw[(yhn s).1] at f
  exact⟨⟨v,b,zpd f⟩,z⟩
theorem zz1413 (b:IsP w (C5 w) vp (I8 q)) (n:IsV w (C5 w) vx (C4 X)) (o:IsV w (C5 w) vy (C4 Y)) (e:Bru w) (g:Good q 1024) (h:X.length=q.C.length) (j:∀a∈X,Sz a 1024) (i:Y.length=q.B.length) (l:∀a∈Y,Sz a 1024) (f:(W6 q.A q.B X&&Y4 q.A q.C Y)=false):
 k m 40 #[vp,vx,vy] w fun d w'=>d= .returned (.tuple #[.bool false,.int .i64 13])/\c w.heap.size w w':=zz1410 b (zzc b n o e g h j i l f.symm) (by decide)
theorem ymi (g:IsP w (C5 w) vp (I8 q)) (l:IsV w (C5 w) vx (C4 X)) (n:IsV w (C5 w) vy (C4 Y)) (b:Bru w) (d:Good q 1024) (e:X.length=q.C.length) (i:∀a∈X,Sz a 1024) (f:Y.length=q.B.length) (j:∀a∈Y,Sz a 1024) (p:(W6 q.A q.B X&&Y4 q.A q.C Y)=true):
 k m 40 #[vp,vx,vy] w fun o w'=>o= .returned (.tuple #[.bool (zqy q.A q.B q.C X Y),.int .i64 0])/\c w.heap.size w w':=zz1411 g l n b d (fun r h=>zzc g l n b d e i f j p.symm r h) e i f j
end
end Go.Proofs.YtlhhbccgfkhflaaGreatDoor
