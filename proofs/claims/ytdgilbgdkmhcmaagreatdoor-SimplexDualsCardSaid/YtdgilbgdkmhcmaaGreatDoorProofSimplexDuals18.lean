/-
 The contract of package simplex's parlour/simplex.newMaker$3.
-/
import Derived.Test.YtdgilbgdkmhcmaaGreatDoorProofSimplexDuals17
import Derived.RangeFuncFrom
import Derived.BigRegionIn
namespace Go.Proofs.YtdgilbgdkmhcmaaGreatDoor
open Go.RowKit
set_option linter.unusedVariables false
open Go.RowKit Go.Shelf
set_option maxRecDepth 100000
set_option maxHeartbeats 8000000
open _root_.Go.Lib renaming hid → f
open _root_.Nat renaming le_refl → p, le_trans → u, lt_or_ge → y, zero_le → z, lt_succ_self → v
open _root_.And renaming intro → j
open _root_.Go renaming World → i, Value → d, Calls → q
open _root_.Go.RowKit renaming Below → l, Hid → o
open _root_.Go.Proofs.Tryz renaming prog → r
variable {L : Lay} {M b c g k lo lo0 m top : Nat} {S : Nat → Prop} {a steps : Int} {sc : Nat → Nat} {t : TB}
theorem ytx {w:i} {n bs mk:Nat} {st:Int} (aG:c<n) (h:N7 w S lo0 lo g L m n sc top t st (c:Int) steps) (hI:TInv M m n t) (aH:Bru w) (aJ:m<=100) (aK:n<=100) (hF:(A9 (K0 M (m+1))).length<=100000) (aI:ScOk sc top) (ad:w.cell? ⟨bs,0,none⟩=some (.pointer (some ⟨g,0,none⟩))) (ae:w.cell? ⟨mk,0,none⟩=some (.int .i64 (n:Int))):
 q r 141 #[.pointer (some ⟨bs,0,none⟩),.pointer (some ⟨mk,0,none⟩)] w (zob w ⟨3,E7 0,C0 (I9 n 0 (fun _=>0) (fun v=>t.bas.getD v 0) (fun v=>G9 (t.A v n) 1 t.d (sc (t.bas.getD v 0))) m),[],C0 (I9 n 0 (fun x=>if t.oth.getD c 0=0+x then 1 else 0) (fun v=>t.bas.getD v 0) (fun v=>G9 (-(t.A v c)) (sc (t.oth.getD c 0)) t.d (sc (t.bas.getD v 0))) m)⟩):=by
 obtain⟨ak,ag,aj,ai,ah,aT,R⟩:=hd7 h aH aI hI hF aG (j aJ aK);have af:o (bs<w.heap.size/\mk<w.heap.size):=⟨World.block_lt_of_cell? w _ ad,World.block_lt_of_cell? w _ ae⟩;obtain⟨a0,aa⟩:=nm (I9 n 0 (fun _=>0) (fun v=>t.bas.getD v 0) (fun v=>G9 (t.A v n) 1 t.d (sc (t.bas.getD v 0))) m);rw[<-aa];have aU:=f aa;obtain⟨a1,ac⟩:=nm (I9 n 0 (fun x=>if t.oth.getD c 0=0+x then 1 else 0) (fun v=>t.bas.getD v 0) (fun v=>G9 (-(t.A v c)) (sc (t.oth.getD c 0)) t.d (sc (t.bas.getD v 0))) m);rw[<-ac];have aV:=f ac;clear aG h hI aH aJ aK hF aI aa ac;have be:=R4;have bf:=zvm;obtain⟨s,aZ,T,aO,al⟩:=K7 w #[.int .i64 0,.bool false,.slice none 0 0,.slice none 0 0,.slice none 0 0,.slice none 0 0,.slice none 0 0] 39;obtain⟨B0,A⟩:=C4 T aO;have I:=f al.out;have aX:=B9 T ad;have aY:=B9 T ae;clear T aO al ad ae;go_in;go_wp2_with fail;clear aZ;have U:=hs2 aX aY;have aS:o (∀e:i,l s.heap.size s e->∀a b V d y W k,(pt7 e w.heap.size a b V d y W k).cell? ⟨bs,0,none⟩=some (.pointer (some ⟨g,0,none⟩))/\(pt7 e w.heap.size a b V d y W k).cell? ⟨mk,0,none⟩=some (.int .i64 (n:Int))):=fun e z a b V d y W k=>(fun h=>⟨Y4 h.1 (oh af) _ _ _ _ _ _ _,Y4 h.2 (oh af) _ _ _ _ _ _ _⟩) (U.out e z);have aP:o (∀e:i,l s.heap.size s e->q r 123 #[] e (fun y w'=>(∃x,y= .returned x/\IsQ w' (G4 s.heap.size w') x 0)/\l e.heap.size e w')):=fun e z=>(by refine(zvp e).mono ?_;rintro y w' ⟨⟨x,rfl,hv⟩,O⟩;exact⟨⟨x,rfl,IsQ.stb.to hv (F6 fun b h=>⟨u z.size h.1,h.2⟩)⟩,O⟩);have aQ:o (∀e:i,l s.heap.size s e->q r 137 #[.pointer (some ⟨g,0,none⟩),.int .i64 (n:Int)] e (fun y w'=>(∃x,y= .returned x/\IsV w' (G4 s.heap.size w') x (C0 a0))/\l e.heap.size e w')):=fun e z=>(by have B:=zxq ((ak.out.next B0.out).next z) ai.out (Bru.next (Bru.next ag.out B0.out) z) R.out.1 R.out.2 ah.out aj.out;rw[<-aU.out] at B;refine B.mono ?_;rintro y w' ⟨⟨x,rfl,aW,Q,Z⟩,O⟩;refine⟨⟨x,rfl,OwnS.isS IsR.stb Q (fun b P=>⟨u z.size (Z b P),by obtain⟨_,_,_,_,Y⟩:=Q;exact(Y b P).1⟩) (fun b B X=>⟨u z.size B,X⟩)⟩,O⟩);have aR:o (∀e:i,l s.heap.size s e->q r 142 #[.pointer (some ⟨g,0,none⟩),.int .i64 (n:Int)] e (fun y w'=>(∃x,y= .returned x/\IsV w' (G4 s.heap.size w') x (C0 a1))/\l e.heap.size e w')):=fun e z=>by have B:=yxn aT.out ((ak.out.next B0.out).next z) ai.out (Bru.next (Bru.next ag.out B0.out) z) R.out.1 R.out.2 ah.out aj.out;rw[<-aV.out] at B;refine B.mono ?_;rintro y w' ⟨⟨x,rfl,aW,Q,Z⟩,O⟩;refine⟨⟨x,rfl,OwnS.isS IsR.stb Q (fun b P=>⟨u z.size (Z b P),by obtain⟨_,_,_,_,Y⟩:=Q;exact(Y b P).1⟩) (fun b B X=>⟨u z.size B,X⟩)⟩,O⟩
 go_region_held3 (SH.mk _ U).s
  (first|((with_reducible show World.cell? (World.setCell _ _ _) _=_/\_);exact aS.out _ bel _ _ _ _ _ _ _)|exact U.out _ bel)
  (first
    |(go_at_call 123;(with_reducible refine Calls.mono (aP.out _ bel) ?_);rintro y a2 ⟨⟨bj,rfl,aL⟩,J⟩;have C:=bW s a2;have F:=f aL;obtain⟨bi,a8,bg,a7,bh,rfl,_,_,_⟩:=K6 aL;obtain⟨d0,an,ao,aq,ar,au,av⟩:=W5 (Row.next A.out C.out);obtain⟨ay,az,aA,aB,aC,aD,aE⟩:=zkv (Row.next A.out C.out))
    |(go_at_call 137;(with_reducible refine Calls.mono (aQ.out _ bel) ?_);rintro y a3 ⟨⟨bm,rfl,aM⟩,K⟩;have D:=bW s a3;have G:=f aM;obtain⟨a5,a9,rfl,_⟩:=T4 aM;obtain⟨d0,an,ao,aq,ar,au,av⟩:=W5 (Row.next A.out D.out);obtain⟨ay,az,aA,aB,aC,aD,aE⟩:=zkv (Row.next A.out D.out))
    |(go_at_call 142;(with_reducible refine Calls.mono (aR.out _ bel) ?_);rintro y a4 ⟨⟨bp,rfl,aN⟩,N⟩;have E:=bW s a4;have H:=f aN;obtain⟨a6,bd,rfl,_⟩:=T4 aN;obtain⟨d0,an,ao,aq,ar,au,av⟩:=W5 (Row.next A.out E.out);obtain⟨ay,az,aA,aB,aC,aD,aE⟩:=zkv (Row.next A.out E.out)))
 all_goals
  go_wp2_with fail
  first
   |exact zlk Tryz.results141 rfl rfl (Row.pt7 (Row.next A.out E.out) _ _ _ _ _ _ _) (zlj (lo:=s.heap.size) (zmr (IsQ.stb.to (IsQ.stb.to (F.out) (V7 K)) (V7 N)) (IsV.stb.to (G.out) (V7 N)) (zlv) (H.out)) (C9 B0.out E.out) (p _) (oh I))
   |exact zlk Tryz.results141 rfl rfl (Row.pt7 (Row.next A.out D.out) _ _ _ _ _ _ _) (zlj (lo:=s.heap.size) (zmr (IsQ.stb.to (IsQ.stb.to (F.out) (V7 N)) (V7 K)) (G.out) (zlv) (IsV.stb.to (H.out) (V7 K))) (C9 B0.out D.out) (p _) (oh I))
   |exact zlk Tryz.results141 rfl rfl (Row.pt7 (Row.next A.out E.out) _ _ _ _ _ _ _) (zlj (lo:=s.heap.size) (zmr (IsQ.stb.to (F.out) (V7 N)) (IsV.stb.to (IsV.stb.to (G.out) (V7 J)) (V7 N)) (zlv) (H.out)) (C9 B0.out E.out) (p _) (oh I))
   |exact zlk Tryz.results141 rfl rfl (Row.pt7 (Row.next A.out C.out) _ _ _ _ _ _ _) (zlj (lo:=s.heap.size) (zmr (F.out) (IsV.stb.to (IsV.stb.to (G.out) (V7 N)) (V7 J)) (zlv) (IsV.stb.to (H.out) (V7 J))) (C9 B0.out C.out) (p _) (oh I))
   |exact zlk Tryz.results141 rfl rfl (Row.pt7 (Row.next A.out D.out) _ _ _ _ _ _ _) (zlj (lo:=s.heap.size) (zmr (IsQ.stb.to (F.out) (V7 K)) (G.out) (zlv) (IsV.stb.to (IsV.stb.to (H.out) (V7 J)) (V7 K))) (C9 B0.out D.out) (p _) (oh I))
   |exact zlk Tryz.results141 rfl rfl (Row.pt7 (Row.next A.out C.out) _ _ _ _ _ _ _) (zlj (lo:=s.heap.size) (zmr (F.out) (IsV.stb.to (G.out) (V7 J)) (zlv) (IsV.stb.to (IsV.stb.to (H.out) (V7 K)) (V7 J))) (C9 B0.out C.out) (p _) (oh I))
theorem yqf {w:i} {n:Nat} {st:Int} (h:N7 w S lo0 lo g L m n sc top t st a steps) (bt:m<=100) (bu:n<=100):
 q r 127 #[.pointer (some ⟨g,0,none⟩)] w fun d w'=>d= .returned (.int .i64 (M7 (Z9 m n t)))/\l w.heap.size w w':=by
 have au:=f h;obtain⟨a3,bx,a4,bA,a2,a7,a5,a9,-,⟨aU,aB,aV,aW,aC⟩,-,-,-⟩:=h.open;obtain⟨H,ak⟩:=nm (fun j=>decide (t.A m j<0));obtain⟨key,F⟩:=nm (fun C=>t.oth.getD C 0);have aR:o (Z9 m n t=R6 H key n):=(by rw[o,ak,F];rfl);rw[aR.out];obtain⟨aO,ar⟩:=C4 ak F;have aa:=h.cap (m+1) og;rw[X8] at aa;have bg:=aa.1;have bh:L.cp (m+1)<=9223372036854775807:=(by have:=aa.2;unfold maxLen at this;omega);have aj:=h.caps;have bq:n<=L.oc:=og;have br:L.oc<=9223372036854775807:=(by unfold maxLen at aj;omega);have bv:m<=L.rc:=og;have bw:L.rc<=9223372036854775807:=(by unfold maxLen at aj;omega);clear h ak F aj aa;have a8:=R4;clear aU aV aW;obtain⟨a6,ah⟩:=nm (L.ha (m+1));rw[<-ah] at aC;have aN:=f ah;clear ah;have aS:=f aB;go_in;go_wp2_with fail;clear aC aB;go_loopw [12,3,4,5] (fun an best _ _ wr=>∃k:Nat,k<=n/\an= .int .i64 (k:Int)/\best= .int .i64 (M7 (R6 H key k))/\l w.heap.size w wr) (fun an _ _ _ _=>n-(intOf an).toNat);case atStart=>exact⟨0,z _,rfl,rfl,Below.refl _ _⟩
 case round=>
  obtain⟨k,bp,rfl,rfl,aE⟩:=hrel;have I:=f aE;clear aE;rcases y k n with ac|bi
  ·obtain⟨J,N,K,O,ea,af,ag,aA,eq⟩:=(au.out.next I.out).el (l:=(m+1)) (j:=k) og (by rw[X8];exact ac);rw[yat] at af ag eq;obtain⟨a1,hI⟩:=(au.out.next I.out).othW og;have ao:=B9 I.out aS.out;rw[a1] at ao;have az:=hI.el k ac;have aP:=f ac;have bj:(0:Int)<=(k:Int):=og;have bm:(k:Int)<(n:Int):=og;have V:=f eq;obtain⟨Q,aJ⟩:=nm (decide (-(t.A m k)<0));obtain⟨R,aK⟩:=nm ((A9 (-(t.A m k)).natAbs).length);obtain⟨P,aI⟩:=nm ((A9 1).length);rw[<-aJ] at af V;rw[<-aK] at ag V;rw[<-aI] at aA V;obtain⟨u,aZ,E,aL,a0⟩:=K7 wr #[.bool Q,.slice J R N,.slice K P O] 37;obtain⟨X,Y,b2⟩:=C5 aL;have aM:=f E;have T:=nB I E;have ad:=B9 E ao;have D:=B9 E az;have F:∀C,(fun C=>t.oth.getD C 0) C=key C:=fun C=>(by rw[ar.out]);have M:t.oth.getD k 0=key k:=F k;have D:u.cell? ⟨L.ob,k,none⟩=some (.int .i64 ((key k:Nat):Int)):=(by rw[<-M];exact D);have W:=nQ V E;have aQ:o (H k=decide (0< -(t.A m k))):=(by rw[o,aO.out];exact decide_eq_decide.2 og);have aT:=aN.out.trans ea;subst aT;clear aJ aK aI aL a0 E eq ao az M F ac;go_wp2_with fail;clear aZ af ag aA;have s:o (k+1<=n):=aP.out;obtain⟨sg,al⟩:=nm (zoy ((-(t.A m k):Int):Rat));have U:=f al;have aH:decide (0<sg)=H k:=(by rw[al,aQ.out];exact yjw _);clear al;cases G:H k with
   |false=>
    rw[G] at aH;have e:=hs5 X Y b2 ad D;have v:o (∀c:i,l u.heap.size u c->q r 91 #[.agg #[.bool Q,.slice J R N,.slice K P O]] c (fun d w'=>d= .returned (.int .i64 sg)/\l c.heap.size c w')):=fun c B=>(by have h:=zsa (IsQ.stb.next W.out B);rw[<-U.out] at h;exact h);refine wp_region_noPanic ?_;refine zkw e fun A=> ?_;refine sT 0 17 ?_;refine wpAnyH_ready (rs:=[1]) kr (by simp) ?_;refine AllReadyH.cons rfl (fun x p=> ?_) AllReadyH.nil;go_simp;go_at_call 91;(with_reducible refine Calls.mono (v.out _ bel) ?_)
    rintro d aq ⟨rfl,ai⟩;go_wp2_with fail;refine p.out _ _ (e.out _ bel) (fun A=> ?_);clear p x;refine sT 2 19 ?_;refine sT 3 20 ?_;refine sU 4 21 ?_;refine sU 5 22 ?_;refine sU 6 23 ?_;refine sU 7 24 ?_;refine sU 8 25 ?_;refine sU 9 26 ?_;refine sU 10 27 ?_;refine sU 11 28 ?_;refine sU 12 29 ?_;refine sU 13 30 ?_;refine sU 14 31 ?_;refine sU 15 32 ?_;refine sU 16 33 ?_;refine sU 17 34 ?_;refine sU 18 35 ?_;refine sU 19 36 ?_;refine sU 20 37 ?_;refine sU 21 38 ?_;refine sU 22 39 ?_;refine sU 23 40 ?_;refine sU 24 41 ?_;refine sT 25 42 ?_;refine wpAnyH_done kr ?_ _;refine NoPanic.normal ?_;go_wp2_with fail;have ae:=T.out;go_roundw;(case rel=>exact⟨k+1,s.out,by go_num,by rw[ybf G],bel⟩);case measure=>simp[intOf];have:=s.out;omega
   |true=>
    rw[G] at aH;cases Z:R6 H key k with
    |none=>
     have aD:M7 (none:Option Nat)= -1:=rfl;rw[aD];have e:=hs5 X Y b2 ad D;have v:o (∀c:i,l u.heap.size u c->q r 91 #[.agg #[.bool Q,.slice J R N,.slice K P O]] c (fun d w'=>d= .returned (.int .i64 sg)/\l c.heap.size c w')):=fun c B=>(by have h:=zsa (IsQ.stb.next W.out B);rw[<-U.out] at h;exact h);refine wp_region_noPanic ?_;refine zkw e fun A=> ?_;refine sT 0 17 ?_;refine wpAnyH_ready (rs:=[1]) kr (by simp) ?_;refine AllReadyH.cons rfl (fun x p=> ?_) AllReadyH.nil;go_simp;go_at_call 91;(with_reducible refine Calls.mono (v.out _ bel) ?_)
     rintro d aq ⟨rfl,ai⟩;go_wp2_with fail;refine p.out _ _ (e.out _ bel) (fun A=> ?_);clear p x;refine sT 2 19 ?_;refine sT 3 20 ?_;refine sT 4 21 ?_;refine sT 5 22 ?_;refine sT 6 23 ?_;refine sU 7 24 ?_;refine sU 8 25 ?_;refine sU 9 26 ?_;refine sU 10 27 ?_;refine sU 11 28 ?_;refine sU 12 29 ?_;refine sU 13 30 ?_;refine sU 14 31 ?_;refine sU 15 32 ?_;refine sU 16 33 ?_;refine sU 17 34 ?_;refine sU 18 35 ?_;refine sU 19 36 ?_;refine sU 20 37 ?_;refine sU 21 38 ?_;refine sU 22 39 ?_;refine sU 23 40 ?_;refine sT 24 41 ?_;refine sT 25 42 ?_;refine wpAnyH_done kr ?_ _;refine NoPanic.normal ?_;go_wp2_with fail;have ae:=T.out;go_roundw;(case rel=>exact⟨k+1,s.out,by go_num,by rw[ybe G Z],bel⟩);case measure=>simp[intOf];have:=s.out;omega
    |some b=>
     have bf:b<k:=(zlq Z).1;have av:=hI.el b (oh s);have M:t.oth.getD b 0=key b:=(by rw[ar.out]);have ay:u.cell? ⟨L.ob,b,none⟩=some (.int .i64 ((key b:Nat):Int)):=(by rw[<-M];exact B9 aM.out av);clear M;have bd:(0:Int)<=(b:Int):=og;have be:(b:Int)<(n:Int):=oh s;have aX:M7 (some b)=(b:Int):=rfl;rw[aX];have aD:decide ((b:Int)<0)=false:=decide_eq_false og;clear av;by_cases aG:key k<key b
     ·have aY:decide (((key k:Nat):Int)<((key b:Nat):Int))=true:=decide_eq_true og;have e:=zmq X Y b2 ad D ay;have v:o (∀c:i,l u.heap.size u c->q r 91 #[.agg #[.bool Q,.slice J R N,.slice K P O]] c (fun d w'=>d= .returned (.int .i64 sg)/\l c.heap.size c w')):=fun c B=>(by have h:=zsa (IsQ.stb.next W.out B);rw[<-U.out] at h;exact h);refine wp_region_noPanic ?_;refine zkw e fun A=> ?_;refine sT 0 17 ?_;refine wpAnyH_ready (rs:=[1]) kr (by simp) ?_;refine AllReadyH.cons rfl (fun x p=> ?_) AllReadyH.nil;go_simp;go_at_call 91;(with_reducible refine Calls.mono (v.out _ bel) ?_)
      rintro d aq ⟨rfl,ai⟩;go_wp2_with fail;refine p.out _ _ (e.out _ bel) (fun A=> ?_);clear p x;refine sT 2 19 ?_;refine sT 3 20 ?_;refine sT 4 21 ?_;refine sT 5 22 ?_;refine sT 6 23 ?_;refine sT 7 24 ?_;refine sT 8 25 ?_;refine sT 9 26 ?_;refine sT 10 27 ?_;refine sT 11 28 ?_;refine sT 12 29 ?_;refine sT 13 30 ?_;refine sT 14 31 ?_;refine sT 15 32 ?_;refine sT 16 33 ?_;refine sT 17 34 ?_;refine sT 18 35 ?_;refine sT 19 36 ?_;refine sT 20 37 ?_;refine sT 21 38 ?_;refine sT 22 39 ?_;refine sT 23 40 ?_;refine sT 24 41 ?_;refine sT 25 42 ?_;refine wpAnyH_done kr ?_ _;refine NoPanic.normal ?_;go_wp2_with fail;have ae:=T.out;go_roundw;(case rel=>exact⟨k+1,s.out,by go_num,by rw[ybd G Z aG],bel⟩);case measure=>simp[intOf];have:=s.out;omega
     ·have aY:decide (((key k:Nat):Int)<((key b:Nat):Int))=false:=decide_eq_false og;have e:=zmq X Y b2 ad D ay;have v:o (∀c:i,l u.heap.size u c->q r 91 #[.agg #[.bool Q,.slice J R N,.slice K P O]] c (fun d w'=>d= .returned (.int .i64 sg)/\l c.heap.size c w')):=fun c B=>(by have h:=zsa (IsQ.stb.next W.out B);rw[<-U.out] at h;exact h);refine wp_region_noPanic ?_;refine zkw e fun A=> ?_;refine sT 0 17 ?_;refine wpAnyH_ready (rs:=[1]) kr (by simp) ?_;refine AllReadyH.cons rfl (fun x p=> ?_) AllReadyH.nil;go_simp;go_at_call 91;(with_reducible refine Calls.mono (v.out _ bel) ?_)
      rintro d aq ⟨rfl,ai⟩;go_wp2_with fail;refine p.out _ _ (e.out _ bel) (fun A=> ?_);clear p x;refine sT 2 19 ?_;refine sT 3 20 ?_;refine sT 4 21 ?_;refine sT 5 22 ?_;refine sT 6 23 ?_;refine sT 7 24 ?_;refine sT 8 25 ?_;refine sT 9 26 ?_;refine sT 10 27 ?_;refine sT 11 28 ?_;refine sT 12 29 ?_;refine sT 13 30 ?_;refine sT 14 31 ?_;refine sT 15 32 ?_;refine sT 16 33 ?_;refine sT 17 34 ?_;refine sT 18 35 ?_;refine sT 19 36 ?_;refine sT 20 37 ?_;refine sT 21 38 ?_;refine sT 22 39 ?_;refine sT 23 40 ?_;refine sT 24 41 ?_;refine sT 25 42 ?_;refine wpAnyH_done kr ?_ _;refine NoPanic.normal ?_;go_wp2_with fail;have ae:=T.out;go_roundw;(case rel=>exact⟨k+1,s.out,by go_num,by rw[ybg G Z aG],bel⟩);case measure=>simp[intOf];have:=s.out;omega
  ·obtain rfl:k=n:=og;go_wp2_with fail;go_ret;exact⟨rfl,I.out⟩
theorem yta {A:Nat->Nat->Int} {bas:Nat->Nat} {n:Nat} (h:A k c<=0):U8 A bas n c (k+1)=U8 A bas n c k:=by rw[U8,if_pos h]
theorem ysz {A:Nat->Nat->Int} {bas:Nat->Nat} {n:Nat} (h:¬A k c<=0) (a:U8 A bas n c k=none):M7 (U8 A bas n c (k+1))=(k:Int):=by rw[U8,if_neg h,a];rfl
theorem ygs {A:Nat->Nat->Int} {bas:Nat->Nat} {n:Nat} (h:¬A k c<=0) (a:U8 A bas n c k=some b) (d:zle A bas n c k b=true):M7 (U8 A bas n c (k+1))=(k:Int):=by rw[U8,if_neg h,a];show M7 (if zle A bas n c k b then some k else some b)=_;rw[if_pos d];rfl
theorem ygt {A:Nat->Nat->Int} {bas:Nat->Nat} {n:Nat} (h:¬A k c<=0) (a:U8 A bas n c k=some b) (d:zle A bas n c k b=false):M7 (U8 A bas n c (k+1))=(b:Int):=by rw[U8,if_neg h,a];show M7 (if zle A bas n c k b then some k else some b)=_;rw[if_neg (by rw[d];decide)];rfl
theorem zwz {A:Nat->Nat->Int} {bas:Nat->Nat} {n:Nat}:∀{k b:Nat},U8 A bas n c k=some b->b<k
 |0,b,h=>by cases h
 |k+1,b,h=>by
  rw[U8] at h
  split at h
  ·exact Nat.lt_succ_of_lt (zwz h)
  ·cases e:U8 A bas n c k with
   |none=>rw[e] at h;cases h;exact v _
   |some x=>
    rw[e] at h
    have h:(if zle A bas n c k x then some k else some x)=some b:=h
    split at h
    ·cases h;exact v _
    ·cases h;exact Nat.lt_succ_of_lt (zwz e)
theorem ytg {A:Nat->Nat->Int} {bas:Nat->Nat} {n:Nat} (h:(A k n).natAbs*(A b c).natAbs<(A b n).natAbs*(A k c).natAbs):zle A bas n c k b=true:=by unfold zle;rw[decide_eq_true h];rfl
theorem yte {A:Nat->Nat->Int} {bas:Nat->Nat} {n:Nat} (h:(A b n).natAbs*(A k c).natAbs<(A k n).natAbs*(A b c).natAbs):zle A bas n c k b=false:=by unfold zle;rw[decide_eq_false og,decide_eq_false og];rfl
theorem ygy {A:Nat->Nat->Int} {bas:Nat->Nat} {n:Nat} (h:(A k n).natAbs*(A b c).natAbs=(A b n).natAbs*(A k c).natAbs):zle A bas n c k b=decide (bas k<bas b):=by unfold zle;rw[decide_eq_false og,decide_eq_true h];simp
theorem zyj {z:Int} (h:Sz ((z:Int):Rat) 100000):(A9 z.natAbs).length<=4294967296:=by have a:=h.1;rw[Rat.num_intCast] at a;omega
theorem yzi (x y:Nat):(x<y/\T7 x y<0)\/(x=y/\T7 x y=0)\/(y<x/\0<T7 x y):=by
 unfold T7;rcases Nat.lt_trichotomy x y with h|h|h
 ·left;refine⟨h,?_⟩;grind
 ·right;left;refine⟨h,?_⟩;grind
 ·right;right;refine⟨h,?_⟩;grind
theorem yst (z:Int):decide (zoy (z:Rat)<=0)=decide (z<=0):=by have h:=yjw z;rw[decide_eq_decide] at h⊢;omega
theorem ytb {w:i} {n:Nat} {st:Int} (h:N7 w S lo0 lo g L m n sc top t st a steps) (hc:c<n) (cQ:m<=100) (cR:n<=100) (bx:∀aC bD,aC<=m->bD<=n->Sz ((t.A aC bD:Int):Rat) 100000):
 q r 128 #[.pointer (some ⟨g,0,none⟩),.int .i64 (c:Int)] w fun Y w'=>Y= .returned (.int .i64 (M7 (zlg m n t c)))/\l w.heap.size w w':=by
 obtain⟨bN,au,H⟩:=G6 h bx hc;obtain⟨cj,cU,cn,cY,cf,cx,cu,cz,-,⟨I,bX,J,K,bY⟩,-,-,-⟩:=h.open;obtain⟨bas,aU⟩:=nm (fun aC=>t.bas.getD aC 0);have bO:o (zlg m n t c=U8 t.A bas n c m):=(by rw[o,aU];rfl);rw[bO.out];have a7:=f aU;have bu:=h.caps;have b3:m<=L.bc/\L.bc<=9223372036854775807/\m<=L.rc/\L.rc<=9223372036854775807:=(by unfold maxLen at bu;omega);obtain⟨cO,cP,cS,cT⟩:=b3;have aB:∀ag,ag<m+2->L4 m n ag<=L.cp ag/\L.cp ag<=9223372036854775807:=fun ag b5=>(by have:=h.cap ag b5;unfold maxLen at this;exact this);have aq:=f aB;have cv:m<=L.cp m:=(by have:=(aB m og).1;rwa[U5] at this);have cw:L.cp m<=9223372036854775807:=(aB m og).2;have cI:(0:Int)<=(c:Int):=og;have cJ:(c:Int)<(n:Int):=og;have cy:=R4;obtain⟨ra,aY⟩:=nm (L.ra);rw[<-aY] at J;obtain⟨bM,aG⟩:=C4 aY (j I (j J K));clear h bx aU bu aB I bX K bY aY;go_in;go_wp2_with fail;clear J;go_loopw [17,5,6,7,8,9,10] (fun a2 best _ _ _ _ _ wr=>∃k:Nat,k<=m/\a2= .int .i64 (k:Int)/\best= .int .i64 (M7 (U8 t.A bas n c k))/\l w.heap.size w wr) (fun a2 _ _ _ _ _ _ _=>m-(intOf a2).toNat);case atStart=>exact⟨0,z _,rfl,rfl,Below.refl _ _⟩
 case round=>
  obtain⟨k,cN,rfl,rfl,bq⟩:=hrel;have E:=f bq;clear bq;rcases y k m with D|cK
  ·have u:=f (bN.out.next E.out);have aV:=u.out.hd k D;have b8:=bM.out.trans aV.1;subst b8;have az:=aV.2.2;have bI:=u.out.hv k og (by rw[J4 D];have:=H.out;omega);have bJ:=u.out.hv m og (by rw[U5];omega);rw[bI] at az;have I:=B9 E.out aG.out.1;have J:=B9 E.out aG.out.2.1;have K:=B9 E.out aG.out.2.2;rw[(u.out.basW og).1] at I;rw[bJ] at K;obtain⟨bR,cb,cr,lF,-,aj,Z,aA,aP⟩:=u.out.el (l:=k) (j:=c) og (by rw[J4 D];exact H.out);obtain⟨ck,cV,cq,cZ,-,u0,u1,u2,a3⟩:=u.out.el (l:=m) (j:=k) og (by rw[U5];exact D);rw[zpl D] at aj Z aP;rw[zsz] at u0 u1 a3;have ad:=(u.out.basW og).2.el k D;have bg:t.bas.getD k 0=bas k:=(by rw[a7.out]);have ad:wr.cell? ⟨L.bb,k,none⟩=some (.int .i64 ((bas k:Nat):Int)):=(by rw[<-bg];exact ad);have cA:n<=L.cp k:=(by have:=(aq.out k og).1;rwa[J4 D] at this);have cB:L.cp k<=9223372036854775807:=(aq.out k og).2;have cL:(0:Int)<=(k:Int):=og;have cM:(k:Int)<(m:Int):=og;have ai:=f D;have s:o (k+1<=m):=D;obtain⟨P,av⟩:=C4 aP a3;obtain⟨c5,bB⟩:=nm (decide (t.A k c<0));obtain⟨cd,bC⟩:=nm ((A9 (t.A k c).natAbs).length);obtain⟨cE,br⟩:=nm (decide (t.A k n<0));obtain⟨cF,bt⟩:=nm ((A9 (t.A k n).natAbs).length);obtain⟨c4,bA⟩:=nm ((A9 1).length);rw[<-bB] at aj P;rw[<-bC] at Z P;rw[<-br] at u0 av;rw[<-bt] at u1 av;rw[<-bA] at aA P u2 av;obtain⟨sg,aZ⟩:=nm (zoy ((t.A k c:Int):Rat));have aH:=f aZ;have bv:decide (sg<=0)=decide (t.A k c<=0):=(by rw[aZ];exact yst _);have b7:(wr.cell? ⟨L.bk k,c*3+1,none⟩=some (.slice bR cd cb)):=Z;have aa:=f (j I (j J (j K (j u1 (j Z ad)))));clear bB bC br bt bA aP a3 aV bg aZ b7;by_cases af:t.A k c<=0
   ·have O:=f af;rw[decide_eq_true af] at bv;clear af u0 u1 u2 I K ad;go_wp2_with fail;refine(zsa P.out).mono ?_;rw[<-aH.out];rintro Y C ⟨rfl,d⟩;have F:=nB E d;clear d az aj Z aA J;go_wp2_with fail;go_roundw;(case rel=>exact⟨k+1,s.out,by go_num,by rw[yta O.out],F.out⟩);case measure=>simp[intOf];have:=s.out;omega
   ·have O:=f af;rw[decide_eq_false af] at bv;clear af;cases ae:U8 t.A bas n c k with
    |none=>have bp:M7 (none:Option Nat)= -1:=rfl;rw[bp];clear u0 u1 u2 I K ad;go_wp2_with fail;refine(zsa P.out).mono ?_;rw[<-aH.out];rintro Y C ⟨rfl,d⟩;have F:=nB E d;clear d az aj Z aA J;go_wp2_with fail;go_roundw;(case rel=>exact⟨k+1,s.out,by go_num,by rw[ysz (oh O) ae],F.out⟩);case measure=>simp[intOf];have:=s.out;omega
    |some b=>
     have b0:=zwz ae;have M:b<m:=oh ai;have b1:M7 (some b)=(b:Int):=rfl;rw[b1];have cG:(0:Int)<=(b:Int):=og;have d:(b:Int)<(m:Int):=og;have bp:decide ((b:Int)<0)=false:=decide_eq_false og;have bH:=u.out.hv b og (by rw[J4 M];have:=H.out;omega);have aO:=(u.out.hd b M).2.2;rw[bH] at aO;obtain⟨cl,cW,cs,c0,-,-,aD,-,aQ⟩:=u.out.el (l:=b) (j:=c) og (by rw[J4 M];exact H.out);obtain⟨cm,cX,ct,c1,-,-,aE,-,aX⟩:=u.out.el (l:=m) (j:=b) og (by rw[U5];exact M);rw[zpl M] at aD aQ;rw[zsz] at aE aX;have ay:=(u.out.basW og).2.el b M;have bf:t.bas.getD b 0=bas b:=(by rw[a7.out]);have ay:wr.cell? ⟨L.bb,b,none⟩=some (.int .i64 ((bas b:Nat):Int)):=(by rw[<-bf];exact ay);have cC:n<=L.cp b:=(by have:=(aq.out b og).1;rwa[J4 M] at this);have cD:L.cp b<=9223372036854775807:=(aq.out b og).2;obtain⟨aK,aL,a9,a8⟩:=X6 (znd aQ) (znd aX) (znd P.out) (znd av.out);obtain⟨cg,bi⟩:=nm ((A9 (t.A b c).natAbs).length);obtain⟨ch,bj⟩:=nm ((A9 (t.A b n).natAbs).length);rw[<-bi] at aD aK;rw[<-bj] at aE aL;rw[Rat.num_intCast] at aK aL a9 a8;obtain⟨ar,ao⟩:=C4 M (j aO (j aD (j aE ay)));clear u0 u1 u2 I K ad aO aD aE ay aQ aX bi bj bf b0;go_wp2_with fail;refine(zsa P.out).mono ?_;rw[<-aH.out];rintro Y C ⟨rfl,d⟩;have ah:=f d;have v:=B9 d aa.out.1;have Q:=B9 d aa.out.2.1;have R:=B9 d aa.out.2.2.1;have T:=B9 d aa.out.2.2.2.1;have U:=B9 d aa.out.2.2.2.2.1;have x:=B9 d aa.out.2.2.2.2.2;have V:=B9 d ao.out.1;have b2:=B9 d ao.out.2.1;have W:=B9 d ao.out.2.2.1;have A:=B9 d ao.out.2.2.2;clear d az aj Z aA J;go_wp2_with fail;have e:=zwv v Q R T U x V b2 W A;have a5:=f fun aM (ak:l C.heap.size C aM)=>zqm (I7 (IsK.stb.next (IsK.stb.next a8.out ah.out) (ak))) (I7 (IsK.stb.next (IsK.stb.next aK.out ah.out) (ak))) (p _) (p _) (zyj (au.out k n (zkb ai ar) (oh H))) (zyj (au.out b c (zkb ai ar) (oh H)));clear v Q R T U x V b2 W A
     go_region_held3 (SH.mk _ e).s
      (exact e.out _ bel)
       (first
         |(go_at_call 168;(with_reducible refine Calls.mono (a5.out _ bel) ?_);rintro Y cc ⟨⟨c2,rfl,a0⟩,cH⟩;have bF:=bW C cc;have bT:=f (znc a0);obtain⟨bP,b9,rfl,_,_,_⟩:=id a0))
     clear a5 a0;have bV:=bF.out;go_wp2_with fail;have a6:=f fun aM (ak:l C.heap.size C aM)=>zqm (I7 (IsK.stb.next (IsK.stb.next aL.out ah.out) (ak))) (I7 (IsK.stb.next (IsK.stb.next a9.out ah.out) (ak))) (p _) (p _) (zyj (au.out b n (zkb ai ar) (oh H))) (zyj (au.out k c (zkb ai ar) (oh H)))
     go_region_held3 (SH.mk _ e).s
      (exact e.out _ bel)
       (first
         |(go_at_call 168;(with_reducible refine Calls.mono (a6.out _ bel) ?_);rintro Y an ⟨⟨c3,rfl,a1⟩,bm⟩;have bG:=bW C an;have bU:=f (znc a1);obtain⟨bQ,ca,rfl,_,_,_⟩:=id a1))
     clear a6 a1;have be:=bG.out;have aI:o (IsN an 0 an.heap.size (.slice bP (A9 ((t.A k n).natAbs*(t.A b c).natAbs)).length b9) ((t.A k n).natAbs*(t.A b c).natAbs)):=I7 (IsK.stb.next bT.out (by first|exact bm|exact C9 (Z8 _) bm));have aJ:o (IsN an 0 an.heap.size (.slice bQ (A9 ((t.A b n).natAbs*(t.A k c).natAbs)).length ca) ((t.A b n).natAbs*(t.A k c).natAbs)):=I7 bU.out;obtain⟨X,aS⟩:=nm ((t.A k n).natAbs*(t.A b c).natAbs);obtain⟨bd,aT⟩:=nm ((t.A b n).natAbs*(t.A k c).natAbs);rw[<-aS] at aI⊢;rw[<-aT] at aJ⊢;have G:=f (j aS aT);obtain⟨al,B⟩:=nm (T7 X bd);have bK:=f B;have aW:=yzi X bd;rw[<-B] at aW;have bL:=f aW;clear aS aT B aW;go_wp2_with fail;refine(zrj aI.out aJ.out).mono ?_;rw[<-bK.out];rintro Y bE ⟨rfl,hd5⟩;have a4:o (l C.heap.size C bE):=C9 be (hd5.below _);have F:=f (C9 (C9 E.out ah.out) a4.out);clear hd5 bV be aI aJ;obtain⟨v,Q,R,T,U,x,V,b2,W,A⟩:=e.out bE a4.out;clear e;rcases bL.out with⟨N,B⟩|⟨N,B⟩|⟨N,B⟩
     ·have ac:=f N;have bh:decide (al<0)=true:=decide_eq_true B;clear N B;have e:=zmp v x A;clear v Q R T U x V b2 W A;go_wp2_with fail;refine wp_region_noPanic ?_;refine zkw e fun aR=> ?_;refine sT 0 71 ?_;refine sT 1 72 ?_;refine sT 2 73 ?_;refine sU 3 74 ?_;refine sU 4 75 ?_;refine sU 5 76 ?_;refine sU 6 77 ?_;refine sU 7 78 ?_;refine sU 8 79 ?_;refine sU 9 80 ?_;refine sU 10 81 ?_;refine sU 11 82 ?_;refine sU 12 83 ?_;refine sU 13 84 ?_;refine sU 14 85 ?_;refine sU 15 86 ?_;refine sU 16 87 ?_;refine sU 17 88 ?_;refine sU 18 89 ?_;refine sU 19 90 ?_;refine sU 20 91 ?_;refine sU 21 92 ?_;refine sU 22 93 ?_;refine sU 23 94 ?_;refine sT 24 95 ?_;refine wpAnyH_done kr ?_ _;refine NoPanic.normal ?_;clear e;go_wp2_with fail;have aN:=F.out;go_roundw;(case rel=>exact⟨k+1,s.out,by go_num,by rw[ygs (oh O) ae (ytg (by have h:=ac.out;rw[G.out.1,G.out.2] at h;exact h))],bel⟩);case measure=>simp[intOf];have:=s.out;omega
     ·have ac:=f N;have bh:decide (al<0)=false:=decide_eq_false og;have bZ:(al==0)=true:=(by rw[B];rfl);clear N B;by_cases bw:bas k<bas b
      ·have b4:decide (((bas k:Nat):Int)<((bas b:Nat):Int))=true:=decide_eq_true og;have e:=zmp v x A;clear v Q R T U x V b2 W A;go_wp2_with fail;refine wp_region_noPanic ?_;refine zkw e fun aR=> ?_;refine sT 0 71 ?_;refine sT 1 72 ?_;refine sT 2 73 ?_;refine sT 3 74 ?_;refine sT 4 75 ?_;refine sT 5 76 ?_;refine sT 6 77 ?_;refine sT 7 78 ?_;refine sT 8 79 ?_;refine sT 9 80 ?_;refine sT 10 81 ?_;refine sT 11 82 ?_;refine sT 12 83 ?_;refine sT 13 84 ?_;refine sT 14 85 ?_;refine sT 15 86 ?_;refine sT 16 87 ?_;refine sT 17 88 ?_;refine sT 18 89 ?_;refine sT 19 90 ?_;refine sT 20 91 ?_;refine sT 21 92 ?_;refine sT 22 93 ?_;refine sT 23 94 ?_;refine sT 24 95 ?_;refine wpAnyH_done kr ?_ _;refine NoPanic.normal ?_;clear e;go_wp2_with fail;have aN:=F.out;go_roundw;(case rel=>exact⟨k+1,s.out,by go_num,by rw[ygs (oh O) ae (by rw[ygy (by have h:=ac.out;rw[G.out.1,G.out.2] at h;exact h)];exact decide_eq_true bw)],bel⟩);case measure=>simp[intOf];have:=s.out;omega
      ·have b4:decide (((bas k:Nat):Int)<((bas b:Nat):Int))=false:=decide_eq_false og;have e:=zmp v x A;clear v Q R T U x V b2 W A;go_wp2_with fail;refine wp_region_noPanic ?_;refine zkw e fun aR=> ?_;refine sT 0 71 ?_;refine sT 1 72 ?_;refine sT 2 73 ?_;refine sT 3 74 ?_;refine sT 4 75 ?_;refine sT 5 76 ?_;refine sT 6 77 ?_;refine sT 7 78 ?_;refine sT 8 79 ?_;refine sT 9 80 ?_;refine sT 10 81 ?_;refine sT 11 82 ?_;refine sT 12 83 ?_;refine sT 13 84 ?_;refine sT 14 85 ?_;refine sT 15 86 ?_;refine sT 16 87 ?_;refine sT 17 88 ?_;refine sT 18 89 ?_;refine sT 19 90 ?_;refine sT 20 91 ?_;refine sT 21 92 ?_;refine sT 22 93 ?_;refine sT 23 94 ?_;refine sT 24 95 ?_;refine wpAnyH_done kr ?_ _;refine NoPanic.normal ?_;clear e;go_wp2_with fail;have aN:=F.out;go_roundw;(case rel=>exact⟨k+1,s.out,by go_num,by rw[ygt (oh O) ae (by rw[ygy (by have h:=ac.out;rw[G.out.1,G.out.2] at h;exact h)];exact decide_eq_false bw)],bel⟩);case measure=>simp[intOf];have:=s.out;omega
     ·have ac:=f N;have bh:decide (al<0)=false:=decide_eq_false og;have bZ:(al==0)=false:=(by simp;omega);clear N B;have e:=zmp v x A;clear v Q R T U x V b2 W A;go_wp2_with fail;refine wp_region_noPanic ?_;refine zkw e fun aR=> ?_;refine sT 0 71 ?_;refine sT 1 72 ?_;refine sT 2 73 ?_;refine sT 3 74 ?_;refine sT 4 75 ?_;refine sT 5 76 ?_;refine sU 6 77 ?_;refine sU 7 78 ?_;refine sU 8 79 ?_;refine sU 9 80 ?_;refine sU 10 81 ?_;refine sU 11 82 ?_;refine sU 12 83 ?_;refine sU 13 84 ?_;refine sU 14 85 ?_;refine sU 15 86 ?_;refine sU 16 87 ?_;refine sU 17 88 ?_;refine sU 18 89 ?_;refine sU 19 90 ?_;refine sU 20 91 ?_;refine sU 21 92 ?_;refine sU 22 93 ?_;refine sT 23 94 ?_;refine sT 24 95 ?_;refine wpAnyH_done kr ?_ _;refine NoPanic.normal ?_;clear e;go_wp2_with fail;have aN:=F.out;go_roundw;(case rel=>exact⟨k+1,s.out,by go_num,by rw[ygt (oh O) ae (yte (by have h:=ac.out;rw[G.out.1,G.out.2] at h;exact h))],bel⟩);case measure=>simp[intOf];have:=s.out;omega
  ·obtain rfl:k=m:=og;go_wp2_with fail;go_ret;exact⟨rfl,E.out⟩
def ycu {e:Type} (F:Fence) (n:Nat) (P:Program) (g:Nat) (r:Array d) (q:e->Array d->Prop) (p:e->e->Prop) (Rd:e->i->Prop) (Fin:e->i->i->Prop) (w:i):Prop:=
 ∀(m:Nat) (c j:e->i->Prop) (k:i->Prop) (f:i),l w.heap.size w f->AbidesFrom f.heap.size c->(∀s b,c s b->Rd s b)->
  (∀s vs b,c s b->q s vs->YieldAt F (n-1) P m vs b fun h a=>(h= .returned (.bool true)/\∃o,p s o/\c o a)\/(h= .returned (.bool false)/\k a))->
  (∀s b a,c s b->Fin s b a->j s a)->(∃s,c s f)->
  CallsIn F n P g (#[.func (.yield m) #[] #[]]++r) f fun h a=>(∃t,h= .returned t)/\((∃s,j s a)\/k a)
def yqa {c:Type} (B:Nat) (h:c->i->Prop) (e:Code->i->Prop) (k:c->c->Prop) (s:c) (b:i):Exit->Act->i->Prop
 | .normal,_,a=>KeepsFrom B b a/\∃g,k s g/\h g a
 | .ret,_,a=>KeepsFrom B b a/\e .ret a
 | .exit id,_,a=>KeepsFrom B b a/\e (.exit id) a
 | .goto t,_,a=>KeepsFrom B b a/\e (.goto t) a
 |_,_,_=>False
section
variable {F : Fence} {n : Nat} {P : Program}
theorem ylm {σ:Type} {g:Operand} {S:Array Tmp} {assign body:Code} {T:Exit->Act->i->Prop} {a:Act} {w:i}
 (aB:F.round=none) (al:1<=n) {gf:Nat} {lb:Array d} (hg:a.eval g= .func (.func gf) #[] lb) (an:F.fn gf) (ai:∀args w,(callFunc gf args).run P w= .ok (.enter gf args) w)
 {R:σ->Array d->Prop} {Y:σ->σ->Prop} {Rd:σ->i->Prop} {Fin:σ->i->i->Prop} {N:i} (aD:ycu F (n-1) P gf lb R Y Rd Fin N) (ac:l N.heap.size N w) (aA:∀s vs,R s vs->vs.size=S.size)
 (u O:σ->i->Prop) (Q:Code->i->Prop) (hI:OwnFrom w.heap.size u) (hI':OwnFrom w.heap.size O) (hIx:OwnFrom w.heap.size Q) (hRd:∀s b,u s b->Rd s b)
 (hfin:∀s b H,u s b->Fin s b H->O s H/\KeepsFrom w.heap.size b H) (ak:∃s,u s w) (Z:Array d->Act)
 (hassign:∀(M:Nat) (s:σ) (vs:Array d) (b:i) (X:Act->i->Prop),R s vs->X (Z vs) b->
   assign.wpIn (F.inRound M) (n-1-1) P (Exit.then X (fun _ _ _=>False)) {tmps:=(S.zip vs).foldl (fun t (E,af)=>t.setIfInBounds E af) a.tmps,defers:=[]} b)
 (hbody:∀(M:Nat) (s:σ) (vs:Array d) (b:i),w.heap.size<=M->(∃e,b.heap[M]? =some (.loop e))->u s b->R s vs->body.wpIn (F.inRound M) (n-1-1) P (yqa w.heap.size u Q Y s b) (Z vs) b)
 (hdone:∀(D:Nat) (s:σ) (b:i),w.heap.size<=D->O s b->b.heap[D]? =some (.deferred (some []))->T .normal {a with defers:={target:= .collected D,args:= #[]}::a.defers} b)
 (hstop:∀(D:Nat) (c:Code) (b:i),w.heap.size<=D->Q c b->b.heap[D]? =some (.deferred (some []))->c.wpIn F n P T {a with defers:={target:= .collected D,args:= #[]}::a.defers} b):
 (Code.rangeFunc g S assign body).wpIn F n P T a w:=by
 refine wpIn_rangeFunc fun fn ar=> ?_
 rw[aB]
 obtain⟨D,hD⟩:=nm (w.heap.size)
 obtain⟨rec,r⟩:∃rec:LoopState->Option Code->Loop,rec=fun st aG=>{state:=st,pending:=aG,fn,tmps:=a.tmps,params:=S,assign,body,defers:=D}:=⟨_,rfl⟩
 obtain⟨m,G⟩:=nm ((w.alloc (.deferred (some []))).alloc (.loop (rec .ready none)))
 have recAt:m.heap[D+1]? =some (.loop (rec .ready none)):=by
  have h:=World.alloc_heap_new (w.alloc (.deferred (some []))) (.loop (rec .ready none))
  rw[World.size_alloc] at h
  rw[G,hD]
  exact h
 have ag:m.heap[D]? =some (.deferred (some [])):=by
  rw[G,hD]
  exact(Below.heap_alloc _ _ _ (by simp)).trans (World.alloc_heap_new w _)
 have ao:∃s,u s m:=by
  obtain⟨s,L⟩:=ak
  exact⟨s,by rw[G];exact hI.alloc _ (hI.alloc _ L)⟩
 have aL:m.heap.size=D+2:=by rw[G,hD];simp
 have aq:l N.heap.size N m:=by
  rw[G]
  exact ac.trans ((((Below.refl _ w).alloc (p _) _).alloc (by simp) _).mono ac.size)
 rw[<-hD] at hI hI' hIx hfin hbody hdone hstop
 refine⟨D+1,[{target:= .collected D,args:= #[]}],m,{target:= .fn (.func gf) lb,args:= #[.func (.yield (D+1)) #[] #[]]},m,gf,#[.func (.yield (D+1)) #[] #[]]++lb,m,?_,?_,?_,?_,fun _=>al,?_⟩
 ·rw[G,r,hD]
  exact run_enterLoop_outer _ _ _ _ _
 ·simp only[resolve,hg]
  simp[go_sem]
 ·intro aK ad
  simp[Target.leads] at ad
  subst ad
  exact an
 ·simp[invoke,go_sem,ai]
 have walk:∀{A B:i} {row:Option Nat},(∀e,row=some e->m.heap.size<=e/\∃C:Obj,A.heap[e]? =some C/\C.isWalk=true)->∀e,row=some e->D<=e/\∃C:Obj,A.heap[e]? =some C/\C.isCells=false:=fun hr e v=>by
  obtain⟨I,C,az,aE⟩:=hr e v
  exact⟨by omega,C,az,Obj.not_cells_of_walk aE⟩
 refine(aD (D+1) (fun E b=>u E b/\b.heap[D+1]? =some (.loop (rec .ready none))/\b.heap[D]? =some (.deferred (some [])))
  (fun E b=>O E b/\b.heap[D+1]? =some (.loop (rec .ready none))/\b.heap[D]? =some (.deferred (some [])))
  (fun b=>∃c,Q c b/\b.heap[D+1]? =some (.loop (rec .done (some c)))/\b.heap[D]? =some (.deferred (some []))) m aq
  (fun E A B row k V hr=>⟨hI E A B row k.1 V (walk (B:=B) hr),(grownBy_keeps V (fun e v=>(hr e v).2) k.2.1 rfl).trans k.2.1,(grownBy_keeps V (fun e v=>(hr e v).2) k.2.2 rfl).trans k.2.2⟩)
  (fun s U h=>hRd s U h.1) ?round (fun s U H h hf=>by
   obtain⟨aj,x⟩:=hfin s U H h.1 hf
   exact⟨aj,x.same _ _ og h.2.1 rfl,x.same _ _ (p _) h.2.2 rfl⟩) (by obtain⟨s,L⟩:=ao;exact⟨s,L,recAt,ag⟩)).mono ?behind
 case behind=>
  rintro v b ⟨⟨af,rfl⟩,h⟩
  rcases h with⟨s,L,q,x⟩|⟨c,hc,q,x⟩
  ·have J:=run_endLoop (P:=P) q (by rw[r];simp)
   rw[r] at J
   exact⟨none,_,J,hdone D s _ (p _) (hI'.putObj _ L og q rfl) ((World.putObj_heap_other og).trans x)⟩
  ·have J:=run_endLoop (P:=P) q (by rw[r];simp)
   rw[r] at J
   exact⟨some c,_,J,hstop D c _ (p _) (hIx.putObj _ hc og q rfl) ((World.putObj_heap_other og).trans x)⟩
 case round=>
  rintro s vs b ⟨au,q,x⟩ W
  have av:D+1<b.heap.size:=(Array.getElem?_eq_some_iff.1 q).1
  have ae:=run_yield (P:=P) (args:=vs) q (by rw[r];exact aA s vs W)
  rw[r] at ae
  refine⟨fn,_,assign,body,ae,roundIn_of_wpIn ar (hassign _ s vs b _ W ⟨_,run_beginRound q (by rw[r]),?_⟩)⟩
  obtain⟨B,I⟩:=nm (b.putObj (D+1) (.loop {rec .ready none with state:= .busy}))
  have aa:B.heap[D+1]? =some (.loop {rec .ready none with state:= .busy}):=by rw[I];exact World.putObj_heap_same av
  have ah:B.heap[D]? =some (.deferred (some [])):=by rw[I];exact(World.putObj_heap_other og).trans x
  rw[<-I]
  refine wpIn_mono (hbody (D+1) s vs B og ⟨_,aa⟩ (by rw[I];exact hI.putObj _ au og q rfl) W) ?_
  have fin:∀(jump:Option Code) (f:i),KeepsFrom D B f->
   (Instr.endRound (D+1) jump).run P f= .ok (.bool jump.isNone) (f.putObj (D+1) (.loop (rec (if jump.isNone then .ready else .done) jump)))/\
   f.heap[D+1]? =some (.loop {rec .ready none with state:= .busy})/\
   (f.putObj (D+1) (.loop (rec (if jump.isNone then .ready else .done) jump))).heap[D+1]? =some (.loop (rec (if jump.isNone then .ready else .done) jump))/\
   (f.putObj (D+1) (.loop (rec (if jump.isNone then .ready else .done) jump))).heap[D]? =some (.deferred (some [])):=fun jump f o=>by
   have j:=o.same _ _ og aa rfl
   have:=run_endRound (P:=P) jump j
   rw[r] at this⊢
   exact⟨this,by rw[r] at j;exact j,World.putObj_heap_same (Array.getElem?_eq_some_iff.1 j).1,(World.putObj_heap_other og).trans (o.same _ _ (p _) ah rfl)⟩
  rintro v aI f k
  cases v with
  |normal=>
   obtain⟨o,aH,ay,aC⟩:=k
   obtain⟨hr,j,z,y⟩:=fin none f o
   exact⟨_,_,hr,.inl ⟨rfl,aH,ay,hI.putObj _ aC og j rfl,z,y⟩⟩
  |ret=>
   obtain⟨o,K⟩:=k
   obtain⟨hr,j,z,y⟩:=fin (some .ret) f o
   exact⟨_,_,hr,.inr ⟨rfl,.ret,hIx.putObj _ K og j rfl,z,y⟩⟩
  |exit id=>
   obtain⟨o,K⟩:=k
   obtain⟨hr,j,z,y⟩:=fin (some (.exit id)) f o
   exact⟨_,_,hr,.inr ⟨rfl,.exit id,hIx.putObj _ K og j rfl,z,y⟩⟩
  |goto t=>
   obtain⟨o,K⟩:=k
   obtain⟨hr,j,z,y⟩:=fin (some (.goto t)) f o
   exact⟨_,_,hr,.inr ⟨rfl,.goto t,hIx.putObj _ K og j rfl,z,y⟩⟩
  |panic aJ=>exact k.elim
  |outgrown=>exact k.elim
end
attribute [local go_sem] Oper.semAt_some
set_option linter.unusedVariables false
def ylz (m n:Nat) (t:TB) (vs:Array d):Prop:=∃a c,Z9 m n t=some c/\zlg m n t c=some a/\vs= #[.int .i64 (a:Int),.int .i64 (c:Int)]
def RdS (S:Nat->Prop) (lo0 lo g:Nat) (L:Lay) (m n:Nat) (sc:Nat->Nat) (top M B:Nat) (t:TB) (b:i):Prop:=
 (∃st a steps,N7 b S lo0 lo g L m n sc top t st a steps)/\TInv M m n t/\(∀c,c<m->0<=t.A c n)/\Row b B 88 [.pointer (some ⟨g,0,none⟩)]
def FinS (g m n:Nat) (t:TB) (f e:i):Prop:=
 ∃d,l f.heap.size f d/\d.grownBy e (some g)/\
  ((Z9 m n t=none/\∀a b,Row d g a b->Row e g a (b.set 11 (.int .i64 1)))\/
   ∃c,Z9 m n t=some c/\zlg m n t c=none/\∀a b,Row d g a b->Row e g a ((b.set 11 (.int .i64 3)).set 12 (.int .i64 (c:Int))))
theorem yki {n a:Nat} (b:Z9 m n t=some c) (e:zlg m n t c=some a):Y8 m n t=some (P7 t a c):=by unfold Y8;rw[b];show(match zlg m n t c with|none=>none|some a=>some (P7 t a c))=_;rw[e]
theorem FinS.sch {n:Nat} {st:Int} {p f:i} (hf:FinS g m n t p f) (h:N7 p S lo0 lo g L m n sc top t st a steps):
 (Z9 m n t=none/\N7 f S lo0 lo g L m n sc top t 1 a steps)\/(∃c,Z9 m n t=some c/\zlg m n t c=none/\N7 f S lo0 lo g L m n sc top t 3 (c:Int) steps):=by
 obtain⟨B,z,hg,hf⟩:=hf;have e:=h.next z;obtain⟨P,k,l,x,D,v,o,w,q,r,s,u⟩:=e.row;have d:=e.same hg fun b y=>(by cases y;exact e.gS.2);rcases hf with⟨j,hr⟩|⟨c,j,A,hr⟩
 ·exact .inl ⟨j,e.cells hg ⟨P,k,l,x,D,v,o,w,hr _ _ q,IsQ.stb.to r d,IsK.stb.to s d,IsK.stb.to u d⟩⟩
 ·exact .inr ⟨c,j,A,e.cells hg ⟨P,k,l,x,D,v,o,w,hr _ _ q,IsQ.stb.to r d,IsK.stb.to s d,IsK.stb.to u d⟩⟩
theorem yda {a:Nat->Bool} {key:Nat->Nat} {n:Nat} (h:R6 a key n=some c):c<n:=(zlq h).1
theorem yij {σ:Type} (b:σ->TB) (q:Nat) (aQ:1<=q) {n B:Nat} {w:i} (W:m<=100) (Y:n<=100) (hF:(A9 (K0 M (m+1))).length<=100000):
 ycu Fence.wide q r 126 #[.pointer (some ⟨B,0,none⟩)] (fun s=>ylz m n (b s)) (fun s G=>Y8 m n (b s)=some (b G)) (fun s=>RdS S lo0 lo g L m n sc top M B (b s)) (fun s=>FinS g m n (b s)) w:=fun aT D aH aI aJ aO Q hRd U hfin y=>by
 obtain⟨I,af,ah,H,ae,ad⟩:=hd6 Q hRd U hfin hF y
 clear Q hRd U hfin y hF
 refine callsIn_of_wp Tryz.func126 rfl trivial ?_ rfl
 simp only[Tryz.ntmps126,List.size_toArray,List.length_cons,List.length_nil,Nat.reduceAdd,Nat.reduceSub,Array.replicate_succ,Array.replicate_zero,List.push_toArray,List.append_toArray,List.nil_append,List.cons_append]
 gi_wp2
 gi_loopw [3,4] (fun _ _ wr=>∃s,D s wr) (fun _ _ wr=>leastM (fun s=>D s wr) (fun s=>leftO (Y8 m n) (b s)))
 case atStart=>exact ad.out
 case round=>
  obtain⟨s,y,X⟩:=ygq (μ:=fun s=>leftO (Y8 m n) (b s)) hrel
  obtain⟨O,ai⟩:=C4 y X
  clear hrel y X
  obtain⟨⟨st,a,steps,T⟩,hI,R,P⟩:=af.out s wr O.out
  have p:=P.cell 0
  simp at p
  obtain⟨J,A⟩:=C4 T (j hI R)
  clear T hI R P
  gi_wp2
  refine⟨trivial,callsIn_wide.2 ((yqf J.out W Y).mono ?_)⟩
  rintro k aD ⟨rfl,u⟩
  obtain⟨K,aG,E⟩:=G6 (I.out _ _ _ none O.out (K8 u) (fun e k=>by cases k)) u (J.out.next u)
  replace p:=B9 u p
  clear u
  cases v:Z9 m n (b s) with
  |none=>
   have F:M7 (none:Option Nat)= -1:=rfl
   rw[F]
   have l:=f v
   obtain⟨aj,aB,ak,aC,ac,ar,ao,au,⟨d,-,-,-⟩,-,-,-,⟨av,-,-⟩⟩:=E.out.open
   have f11:=d.frozen 11
   clear v d
   gi_wp2
   exact⟨rfl,_,results_none rfl _ _ _,⟨_,rfl⟩,.inl ⟨s,H.out s _ _ K.out ⟨aD,Below.refl _ _,I0 _ _ _ _,.inl ⟨l.out,fun an aE h=>h.set_ 11 _⟩⟩⟩⟩
  |some c=>
   have V:c<n:=yda v
   have ay:M7 (some c)=(c:Int):=rfl
   rw[ay]
   have aP:decide ((c:Int)<0)=false:=decide_eq_false og
   have l:=f (j v V)
   clear v V
   gi_wp2
   refine⟨trivial,callsIn_wide.2 ((ytb E.out l.out.2 W Y (A.out.1.sz ae.out og).1).mono ?_)⟩
   rintro k aa ⟨rfl,z⟩
   obtain⟨N,al⟩:=C4 (I.out _ _ _ none K.out (K8 z) (fun e k=>by cases k)) (E.out.next z)
   replace p:=B9 z p
   clear z
   cases x:zlg m n (b s) c with
   |none=>
    have F:M7 (none:Option Nat)= -1:=rfl
    rw[F]
    have C:=f x
    obtain⟨aj,aB,ak,aC,ac,ar,ao,au,⟨d,-,-,-⟩,-,-,-,⟨av,aK,-⟩⟩:=al.out.open
    have f11:=d.frozen 11
    have f12:=d.frozen 12
    clear x d
    gi_wp2
    gi_region
    gi_wp2
    exact⟨rfl,_,results_none rfl _ _ _,⟨_,rfl⟩,.inl ⟨s,H.out s _ _ N.out ⟨aa,Below.refl _ _,J5 (J5 (I0 _ _ _ _) (I0 _ _ _ _)) (K8 (Z8 _)),.inr ⟨c,l.out.1,C.out,fun an aE h=>((h.set_ 11 _).set_ 12 _).drew⟩⟩⟩⟩
   |some e=>
    have aA:e<m:=zwz x
    have az:M7 (some e)=(e:Int):=rfl
    rw[az]
    have aR:decide ((e:Int)<0)=false:=decide_eq_false og
    have C:=f x
    clear x aA
    obtain⟨fn,tmps,assign,body,aS,d⟩:=ah.out s #[.int .i64 (e:Int),.int .i64 (c:Int)] aa N.out ⟨e,c,l.out.1,C.out,rfl⟩
    have ag:=f d
    clear d
    gi_wp2
    refine ag.out.mono ?_
    rintro k aq (⟨rfl,G,Z,t⟩|⟨rfl,t⟩)
    ·have o:=f (j Z t)
     clear Z t
     gi_wp2
     go_roundw
     case rel=>exact⟨G,o.out.2⟩
     case measure=>
      have aL:=ygr (J:=fun s=>D s aq) (μ:=fun s=>leftO (Y8 m n) (b s)) o.out.2
      have aM:=(ygu (yru A.out.1 A.out.2) o.out.1).2
      have aN:=ai.out
      omega
    ·have o:=f t
     clear t
     gi_wp2
     exact⟨rfl,_,results_none rfl _ _ _,⟨_,rfl⟩,.inr o.out⟩
theorem yii (w:i) (g:Nat):
 q r 59 #[.pointer (some ⟨g,0,none⟩)] w fun a w'=>a= .returned (.func (.func 126) #[] #[.pointer (some ⟨w.heap.size,0,none⟩)])/\l w.heap.size w w'/\Row w' w.heap.size 88 [.pointer (some ⟨g,0,none⟩)]:=by go_in;go_wp2_with fail;go_ret;obtain⟨f,d,b,c,e⟩:=K7 w #[.pointer (some ⟨g,0,none⟩)] 88;rw[d];exact⟨rfl,b,c⟩
end Go.Proofs.YtdgilbgdkmhcmaaGreatDoor
