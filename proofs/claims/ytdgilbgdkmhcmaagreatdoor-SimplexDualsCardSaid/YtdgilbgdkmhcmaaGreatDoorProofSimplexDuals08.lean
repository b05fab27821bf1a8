/-
 The contract of package simplex's negative.
-/
import Derived.Test.YtdgilbgdkmhcmaaGreatDoorProofSimplexDuals06
import Derived.BigRegion
import Derived.Lib.SliceRun
namespace Go.Proofs.YtdgilbgdkmhcmaaGreatDoor
open Go.RowKit
set_option linter.unusedVariables false
set_option maxRecDepth 100000
set_option maxHeartbeats 8000000
open _root_.Go.Lib renaming hid → i
open _root_.Nat renaming le_trans → s, lt_of_lt_of_le → o, lt_or_ge → y, zero_le → E
open _root_.And renaming intro → j
open _root_.Go.RowKit.Below renaming refl → d
open _root_.Go renaming World → k, Value → C, Calls → r, Addr → u
open _root_.Go.RowKit renaming Hid → e
open _root_.Go.Proofs.Tryz renaming prog → p
variable {L : Lay} {S : Nat → Prop} {V b c g lo lo0 m n top : Nat} {a steps : Int} {f : Nat → Int} {l : List Int} {sc : Nat → Nat} {t : TB} {v : C}
theorem yur {w:k} {st:Int} (h:N7 w S lo0 lo g L m n sc top t st a steps) (be:m<=100) (bf:n<=100):
 r p 124 #[.pointer (some ⟨g,0,none⟩)] w fun aC w'=>aC= .returned (.int .i64 (M7 (znf m n t)))/\Below w.heap.size w w':=by
 have Y:=i h;obtain⟨aS,bi,aT,bj,aR,aX,aV,aZ,-,⟨af,aE,aG,ag,aH⟩,-,-,-⟩:=h.open;obtain⟨z,R⟩:=nm (fun j=>decide (t.A j n<0));obtain⟨key,s⟩:=nm (fun j=>t.bas.getD j 0);have ay:e (znf m n t=R6 z key m):=(by rw[e,R,s];rfl);rw[ay.out];obtain⟨au,X⟩:=C4 R s;have G:=h.cap m og;rw[U5] at G;have a3:=G.1;have a4:L.cp m<=9223372036854775807:=(by have:=G.2;unfold maxLen at this;omega);have Q:=h.caps;have a9:m<=L.bc:=og;have bd:L.bc<=9223372036854775807:=(by unfold maxLen at Q;omega);have bg:m<=L.rc:=og;have bh:L.rc<=9223372036854775807:=(by unfold maxLen at Q;omega);clear h R s Q G;have aY:=R4;clear aE aG aH;obtain⟨aW,P⟩:=nm (L.ha m);rw[<-P] at ag;have ar:=i P;clear P;have az:=i af;go_in;go_wp2_with fail;clear ag af;go_loopw [12,3,4,5] (fun V best _ _ wr=>∃c:Nat,c<=m/\V= .int .i64 (c:Int)/\best= .int .i64 (M7 (R6 z key c))/\Below w.heap.size w wr) (fun V _ _ _ _=>m-(intOf V).toNat);case atStart=>exact⟨0,E _,rfl,rfl,d _ _⟩
 case round=>
  obtain⟨c,a8,rfl,rfl,ai⟩:=hrel;have v:=i ai;clear ai;rcases y c m with H|a5
  ·obtain⟨aA,aM,aB,aO,ea,M,N,ae,eq⟩:=(Y.out.next v.out).el (l:=m) (j:=c) og (by rw[U5];exact H);rw[zsz] at M N eq;obtain⟨aN,hI⟩:=(Y.out.next v.out).basW og;have W:=B9 v.out az.out;rw[aN] at W;have ad:=hI.el c H;have av:=i H;have a6:(0:Int)<=(c:Int):=og;have a7:(c:Int)<(m:Int):=og;have B:=i eq;obtain⟨J,U⟩:=nm (decide (t.A c n<0));obtain⟨aQ,al⟩:=nm ((A9 (t.A c n).natAbs).length);obtain⟨aP,ak⟩:=nm ((A9 1).length);rw[<-U] at M B;rw[<-al] at N B;rw[<-ak] at ae B;obtain⟨ao,aK,q,an,aL⟩:=K7 wr #[.bool J,.slice aA aQ aM,.slice aB aP aO] 37;obtain⟨C,D,b2⟩:=C5 an;have aq:=i q;have A:=nB v q;have I:=B9 q W;have o:=B9 q ad;have s:∀j,(fun j=>t.bas.getD j 0) j=key j:=fun j=>(by rw[X.out]);have x:t.bas.getD c 0=key c:=s c;have o:ao.cell? ⟨L.bb,c,none⟩=some (.int .i64 ((key c:Nat):Int)):=(by rw[<-x];exact o);have aU:=nQ B q;have Z:e (z c=J):=(by rw[e,au.out,U]);have aD:=ar.out.trans ea;subst aD;clear U al ak an aL q eq W ad x s H;go_wp2_with fail;clear aK M N ae;have f:e (c+1<=m):=av.out;cases u:z c with
   |false=>have T:J=false:=Z.out.symm.trans u;subst T;have l:=hs5 C D b2 I o;refine wp_region_noPanic ?_;refine zkw l fun O=> ?_;refine sT 0 17 ?_;refine sT 1 18 ?_;refine sT 2 19 ?_;refine sU 3 20 ?_;refine sU 4 21 ?_;refine sU 5 22 ?_;refine sU 6 23 ?_;refine sU 7 24 ?_;refine sU 8 25 ?_;refine sU 9 26 ?_;refine sU 10 27 ?_;refine sU 11 28 ?_;refine sU 12 29 ?_;refine sU 13 30 ?_;refine sU 14 31 ?_;refine sU 15 32 ?_;refine sU 16 33 ?_;refine sU 17 34 ?_;refine sU 18 35 ?_;refine sU 19 36 ?_;refine sU 20 37 ?_;refine sU 21 38 ?_;refine sU 22 39 ?_;refine sU 23 40 ?_;refine sT 24 41 ?_;refine wpAnyH_done kr ?_ _;refine NoPanic.normal ?_;go_wp2_with fail;have K:=A.out;go_roundw;(case rel=>exact⟨c+1,f.out,by go_num,by rw[ybf u],bel⟩);case measure=>simp[intOf];have:=f.out;omega
   |true=>
    have T:J=true:=Z.out.symm.trans u;subst T;cases F:R6 z key c with
    |none=>have ah:M7 (none:Option Nat)= -1:=rfl;rw[ah];have l:=hs5 C D b2 I o;refine wp_region_noPanic ?_;refine zkw l fun O=> ?_;refine sT 0 17 ?_;refine sT 1 18 ?_;refine sT 2 19 ?_;refine sT 3 20 ?_;refine sT 4 21 ?_;refine sT 5 22 ?_;refine sU 6 23 ?_;refine sU 7 24 ?_;refine sU 8 25 ?_;refine sU 9 26 ?_;refine sU 10 27 ?_;refine sU 11 28 ?_;refine sU 12 29 ?_;refine sU 13 30 ?_;refine sU 14 31 ?_;refine sU 15 32 ?_;refine sU 16 33 ?_;refine sU 17 34 ?_;refine sU 18 35 ?_;refine sU 19 36 ?_;refine sU 20 37 ?_;refine sU 21 38 ?_;refine sU 22 39 ?_;refine sT 23 40 ?_;refine sT 24 41 ?_;refine wpAnyH_done kr ?_ _;refine NoPanic.normal ?_;go_wp2_with fail;have K:=A.out;go_roundw;(case rel=>exact⟨c+1,f.out,by go_num,by rw[ybe u F],bel⟩);case measure=>simp[intOf];have:=f.out;omega
    |some b=>
     have a2:b<c:=(zlq F).1;have aa:=hI.el b (oh f);have x:t.bas.getD b 0=key b:=(by rw[X.out]);have ac:ao.cell? ⟨L.bb,b,none⟩=some (.int .i64 ((key b:Nat):Int)):=(by rw[<-x];exact B9 aq.out aa);clear x;have a0:(0:Int)<=(b:Int):=og;have a1:(b:Int)<(m:Int):=oh f;have aI:M7 (some b)=(b:Int):=rfl;rw[aI];have ah:decide ((b:Int)<0)=false:=decide_eq_false og;clear aa;by_cases aj:key c<key b
     ·have aJ:decide (((key c:Nat):Int)<((key b:Nat):Int))=true:=decide_eq_true og;have l:=zmq C D b2 I o ac;refine wp_region_noPanic ?_;refine zkw l fun O=> ?_;refine sT 0 17 ?_;refine sT 1 18 ?_;refine sT 2 19 ?_;refine sT 3 20 ?_;refine sT 4 21 ?_;refine sT 5 22 ?_;refine sT 6 23 ?_;refine sT 7 24 ?_;refine sT 8 25 ?_;refine sT 9 26 ?_;refine sT 10 27 ?_;refine sT 11 28 ?_;refine sT 12 29 ?_;refine sT 13 30 ?_;refine sT 14 31 ?_;refine sT 15 32 ?_;refine sT 16 33 ?_;refine sT 17 34 ?_;refine sT 18 35 ?_;refine sT 19 36 ?_;refine sT 20 37 ?_;refine sT 21 38 ?_;refine sT 22 39 ?_;refine sT 23 40 ?_;refine sT 24 41 ?_;refine wpAnyH_done kr ?_ _;refine NoPanic.normal ?_;go_wp2_with fail;have K:=A.out;go_roundw;(case rel=>exact⟨c+1,f.out,by go_num,by rw[ybd u F aj],bel⟩);case measure=>simp[intOf];have:=f.out;omega
     ·have aJ:decide (((key c:Nat):Int)<((key b:Nat):Int))=false:=decide_eq_false og;have l:=zmq C D b2 I o ac;refine wp_region_noPanic ?_;refine zkw l fun O=> ?_;refine sT 0 17 ?_;refine sT 1 18 ?_;refine sT 2 19 ?_;refine sT 3 20 ?_;refine sT 4 21 ?_;refine sT 5 22 ?_;refine sT 6 23 ?_;refine sT 7 24 ?_;refine sT 8 25 ?_;refine sT 9 26 ?_;refine sT 10 27 ?_;refine sT 11 28 ?_;refine sT 12 29 ?_;refine sT 13 30 ?_;refine sT 14 31 ?_;refine sT 15 32 ?_;refine sT 16 33 ?_;refine sT 17 34 ?_;refine sT 18 35 ?_;refine sT 19 36 ?_;refine sT 20 37 ?_;refine sT 21 38 ?_;refine sT 22 39 ?_;refine sT 23 40 ?_;refine sT 24 41 ?_;refine wpAnyH_done kr ?_ _;refine NoPanic.normal ?_;go_wp2_with fail;have K:=A.out;go_roundw;(case rel=>exact⟨c+1,f.out,by go_num,by rw[ybg u F aj],bel⟩);case measure=>simp[intOf];have:=f.out;omega
  ·obtain rfl:c=m:=og;go_wp2_with fail;go_ret;exact⟨rfl,v.out⟩
theorem yrv {w:k} {st:Int} {f:Nat} (hr:f<m) (h:N7 w S lo0 lo g L m n sc top t st a steps) (bm:m<=100) (bp:n<=100):
 r p 125 #[.pointer (some ⟨g,0,none⟩),.int .i64 (f:Int)] w fun aI w'=>aI= .returned (.int .i64 (M7 (zns n t f)))/\Below w.heap.size w w':=by
 obtain⟨aa,aC⟩:=C4 h hr;have bq:(0:Int)<=(f:Int):=og;have br:(f:Int)<(m:Int):=og;obtain⟨aY,bv,aZ,bw,aX,a3,a1,a5,-,⟨aK,aj,ak,aL,aM⟩,-,-,-⟩:=h.open;obtain⟨B,U⟩:=nm (fun j=>decide (t.A f j<0));obtain⟨key,v⟩:=nm (fun q=>t.oth.getD q 0);have aD:e (zns n t f=R6 B key n):=(by rw[e,U,v];rfl);rw[aD.out];obtain⟨aA,Z⟩:=C4 U v;have I:=h.cap f og;rw[J4 og] at I;have a9:=I.1;have bd:L.cp f<=9223372036854775807:=(by have:=I.2;unfold maxLen at this;omega);have T:=h.caps;have bi:n<=L.oc:=og;have bj:L.oc<=9223372036854775807:=(by unfold maxLen at T;omega);have bt:m<=L.rc:=og;have bu:L.rc<=9223372036854775807:=(by unfold maxLen at T;omega);obtain⟨ai,aN,ag⟩:=h.hd f hr;rw[ai] at ak;clear h U v T I hr ai aN;have a4:=R4;clear aK aL aM;obtain⟨a2,R⟩:=nm (L.ha f);rw[<-R] at ag;have az:=i R;clear R;have aE:=i aj;go_in;go_wp2_with fail;clear ak aj ag;go_loopw [17,5,6,7] (fun X best _ _ wr=>∃c:Nat,c<=n/\X= .int .i64 (c:Int)/\best= .int .i64 (M7 (R6 B key c))/\Below w.heap.size w wr) (fun X _ _ _ _=>n-(intOf X).toNat);case atStart=>exact⟨0,E _,rfl,rfl,d _ _⟩
 case round=>
  obtain⟨c,bh,rfl,rfl,an⟩:=hrel;have z:=i an;clear an;rcases y c n with J|be
  ·obtain⟨aG,aS,aH,aU,ea,O,P,ah,eq⟩:=(aa.out.next z.out).el (l:=f) (j:=c) og (by rw[J4 og];exact J);rw[zpl aC.out] at O P eq;obtain⟨aT,hI⟩:=(aa.out.next z.out).othW og;have Y:=B9 z.out aE.out;rw[aT] at Y;have af:=hI.el c J;have aB:=i J;have bf:(0:Int)<=(c:Int):=og;have bg:(c:Int)<(n:Int):=og;have D:=i eq;obtain⟨M,W⟩:=nm (decide (t.A f c<0));obtain⟨aW,ar⟩:=nm ((A9 (t.A f c).natAbs).length);obtain⟨aV,aq⟩:=nm ((A9 1).length);rw[<-W] at O D;rw[<-ar] at P D;rw[<-aq] at ah D;obtain⟨av,aQ,u,au,aR⟩:=K7 wr #[.bool M,.slice aG aW aS,.slice aH aV aU] 37;obtain⟨F,G,b2⟩:=C5 au;have ay:=i u;have C:=nB z u;have K:=B9 u Y;have s:=B9 u af;have v:∀q,(fun q=>t.oth.getD q 0) q=key q:=fun q=>(by rw[Z.out]);have A:t.oth.getD c 0=key c:=v c;have s:av.cell? ⟨L.ob,c,none⟩=some (.int .i64 ((key c:Nat):Int)):=(by rw[<-A];exact s);have a0:=nQ D u;have ac:e (B c=M):=(by rw[e,aA.out,W]);have aJ:=az.out.trans ea;subst aJ;clear W ar aq au aR u eq Y af A v J;go_wp2_with fail;clear aQ O P ah;have l:e (c+1<=n):=aB.out;cases x:B c with
   |false=>have V:M=false:=ac.out.symm.trans x;subst V;have o:=hs5 F G b2 K s;refine wp_region_noPanic ?_;refine zkw o fun Q=> ?_;refine sT 0 22 ?_;refine sT 1 23 ?_;refine sT 2 24 ?_;refine sU 3 25 ?_;refine sU 4 26 ?_;refine sU 5 27 ?_;refine sU 6 28 ?_;refine sU 7 29 ?_;refine sU 8 30 ?_;refine sU 9 31 ?_;refine sU 10 32 ?_;refine sU 11 33 ?_;refine sU 12 34 ?_;refine sU 13 35 ?_;refine sU 14 36 ?_;refine sU 15 37 ?_;refine sU 16 38 ?_;refine sU 17 39 ?_;refine sU 18 40 ?_;refine sU 19 41 ?_;refine sU 20 42 ?_;refine sU 21 43 ?_;refine sU 22 44 ?_;refine sU 23 45 ?_;refine sT 24 46 ?_;refine wpAnyH_done kr ?_ _;refine NoPanic.normal ?_;go_wp2_with fail;have N:=C.out;go_roundw;(case rel=>exact⟨c+1,l.out,by go_num,by rw[ybf x],bel⟩);case measure=>simp[intOf];have:=l.out;omega
   |true=>
    have V:M=true:=ac.out.symm.trans x;subst V;cases H:R6 B key c with
    |none=>have al:M7 (none:Option Nat)= -1:=rfl;rw[al];have o:=hs5 F G b2 K s;refine wp_region_noPanic ?_;refine zkw o fun Q=> ?_;refine sT 0 22 ?_;refine sT 1 23 ?_;refine sT 2 24 ?_;refine sT 3 25 ?_;refine sT 4 26 ?_;refine sT 5 27 ?_;refine sU 6 28 ?_;refine sU 7 29 ?_;refine sU 8 30 ?_;refine sU 9 31 ?_;refine sU 10 32 ?_;refine sU 11 33 ?_;refine sU 12 34 ?_;refine sU 13 35 ?_;refine sU 14 36 ?_;refine sU 15 37 ?_;refine sU 16 38 ?_;refine sU 17 39 ?_;refine sU 18 40 ?_;refine sU 19 41 ?_;refine sU 20 42 ?_;refine sU 21 43 ?_;refine sU 22 44 ?_;refine sT 23 45 ?_;refine sT 24 46 ?_;refine wpAnyH_done kr ?_ _;refine NoPanic.normal ?_;go_wp2_with fail;have N:=C.out;go_roundw;(case rel=>exact⟨c+1,l.out,by go_num,by rw[ybe x H],bel⟩);case measure=>simp[intOf];have:=l.out;omega
    |some b=>
     have a8:b<c:=(zlq H).1;have ad:=hI.el b (oh l);have A:t.oth.getD b 0=key b:=(by rw[Z.out]);have ae:av.cell? ⟨L.ob,b,none⟩=some (.int .i64 ((key b:Nat):Int)):=(by rw[<-A];exact B9 ay.out ad);clear A;have a6:(0:Int)<=(b:Int):=og;have a7:(b:Int)<(n:Int):=oh l;have aO:M7 (some b)=(b:Int):=rfl;rw[aO];have al:decide ((b:Int)<0)=false:=decide_eq_false og;clear ad;by_cases ao:key c<key b
     ·have aP:decide (((key c:Nat):Int)<((key b:Nat):Int))=true:=decide_eq_true og;have o:=zmq F G b2 K s ae;refine wp_region_noPanic ?_;refine zkw o fun Q=> ?_;refine sT 0 22 ?_;refine sT 1 23 ?_;refine sT 2 24 ?_;refine sT 3 25 ?_;refine sT 4 26 ?_;refine sT 5 27 ?_;refine sT 6 28 ?_;refine sT 7 29 ?_;refine sT 8 30 ?_;refine sT 9 31 ?_;refine sT 10 32 ?_;refine sT 11 33 ?_;refine sT 12 34 ?_;refine sT 13 35 ?_;refine sT 14 36 ?_;refine sT 15 37 ?_;refine sT 16 38 ?_;refine sT 17 39 ?_;refine sT 18 40 ?_;refine sT 19 41 ?_;refine sT 20 42 ?_;refine sT 21 43 ?_;refine sT 22 44 ?_;refine sT 23 45 ?_;refine sT 24 46 ?_;refine wpAnyH_done kr ?_ _;refine NoPanic.normal ?_;go_wp2_with fail;have N:=C.out;go_roundw;(case rel=>exact⟨c+1,l.out,by go_num,by rw[ybd x H ao],bel⟩);case measure=>simp[intOf];have:=l.out;omega
     ·have aP:decide (((key c:Nat):Int)<((key b:Nat):Int))=false:=decide_eq_false og;have o:=zmq F G b2 K s ae;refine wp_region_noPanic ?_;refine zkw o fun Q=> ?_;refine sT 0 22 ?_;refine sT 1 23 ?_;refine sT 2 24 ?_;refine sT 3 25 ?_;refine sT 4 26 ?_;refine sT 5 27 ?_;refine sT 6 28 ?_;refine sT 7 29 ?_;refine sT 8 30 ?_;refine sT 9 31 ?_;refine sT 10 32 ?_;refine sT 11 33 ?_;refine sT 12 34 ?_;refine sT 13 35 ?_;refine sT 14 36 ?_;refine sT 15 37 ?_;refine sT 16 38 ?_;refine sT 17 39 ?_;refine sT 18 40 ?_;refine sT 19 41 ?_;refine sT 20 42 ?_;refine sT 21 43 ?_;refine sT 22 44 ?_;refine sT 23 45 ?_;refine sT 24 46 ?_;refine wpAnyH_done kr ?_ _;refine NoPanic.normal ?_;go_wp2_with fail;have N:=C.out;go_roundw;(case rel=>exact⟨c+1,l.out,by go_num,by rw[ybg x H ao],bel⟩);case measure=>simp[intOf];have:=l.out;omega
  ·obtain rfl:c=n:=og;go_wp2_with fail;go_ret;exact⟨rfl,z.out⟩
theorem ysg {w:k} {a:C} {x:Raw} (h:IsR w S a x):∀e∈a.cells,e.oneCell'=true:=by obtain⟨A,c,B,d,rfl,_,_⟩:=h;intro e b;simp[Value.cells] at b;rcases b with rfl|rfl|rfl<;>rfl
theorem ygf:(Tryz.prog.info? 3).map (fun a=>(a.zero,a.size,a.bytes))=some (some (.int .i64 0),1,8):=by kernel_rfl
theorem zui:ElN p 22 3 1 8:=⟨Tryz.underlying22,by obtain⟨e,a,b,c,d⟩:=info_parts ygf;exact⟨e,_,a,b,c,d,rfl⟩,by omega⟩
def IsIV (w:k) (S:Nat->Prop) (v:C) (x:Int):Prop:=v= .int .i64 x
theorem IsIV.stb:Stb IsIV:=fun _ _ _ _ _ _ h _=>h
theorem yno (l:List Int):cellsOf (l.map fun x=>Value.int .i64 x)=l.map fun x=>Value.int .i64 x:=by
 induction l with
 |nil=>rfl
 |cons x l ih=>have a:cellsOf ((x::l).map fun x=>Value.int .i64 x)=(Value.int .i64 x).cells.toList++cellsOf (l.map fun x=>Value.int .i64 x):=(by simp[cellsOf]);rw[a,ih];rfl
theorem yme {w:k} (l:List Int):All2 (IsIV w S) (l.map fun x=>Value.int .i64 x) l:=⟨by simp,fun c x y a b=>by
 rw[List.getElem?_map,b] at a
 cases a;rfl⟩
theorem zz1381 (l:List Int):Wid 1 (l.map fun x=>Value.int .i64 x):=fun v hv=>by obtain⟨x,_,rfl⟩:=List.mem_map.1 hv;rfl
theorem IsIL.isS {w:k} (h:IsIL w S v l):IsS 1 IsIV w S v l:=by obtain⟨A,c,hv,a,b,d,e⟩:=h;exact⟨A,c,l.map fun x=>Value.int .i64 x,hv,a,b,by rw[yno];exact d,zz1381 l,yme l⟩
theorem ycp {B:Program} {w:k} {ops:Array Oper} {rest:List Oper} {i:Oper} {a:Act} {K:Exit->Act->k->Prop} {t e:TypeId} {bytes:Nat} (v:ElN B t e n bytes) (Z:i.guard=none) (s x:Operand) (af:i.op= .call {callee:= .builtin .append,args:= #[s,x],argTypes:= #[t,t]})
 {O:Type} {R:k->(Nat->Prop)->C->O->Prop} (V:Stb R) {D:u} {l:List O} (ag:a.eval s= .slice (some ⟨w.heap.size,0,none⟩) 0 0) (H:a.eval x= .slice (some D) m c) (hv:IsS n R w S (.slice (some D) m c) l)
 (j:∀b,S b->b<w.heap.size) (Q:∀e x,R w S e x->∀o∈e.cells,o.oneCell'=true) (f:l.length*(bytes+1)<=140737488355328)
 (h:∀p w',OwnS n e R w' w.heap.size S p l->Below w.heap.size w w'->p≠.slice none 0 0->wpList B ops K rest (a.put i.dst p) w'):wpList B ops K (i::rest) a (w.alloc (.cells #[] e)):=by
 obtain⟨al,z,aa,aj,ah,X,ak⟩:=v.info
 obtain⟨A,ao,G,N,ar,au,T,L,q⟩:=hv
 simp only[Value.slice.injEq] at N
 obtain⟨rfl,rfl,rfl⟩:=N
 have ad:=zrf L
 rw[Nat.mul_add,Nat.mul_one] at f
 refine wpList_append_own _ Z s x t af w.heap.size e al z n bytes v.und aa aj ah X ak v.pos _ 0 [] ag (World.ownsRow_made w #[] 0 (Nat.le_refl _) (E _) (by simp)) D l.length c (cellsOf G) H (by rw[ad,q.1]) (fun r o g=> ?_) (fun o g=> ?_) (by unfold maxLen;omega) (by rw[Nat.zero_add];omega) (by simp)
  fun p w' I J an=>h p w' ?_ ?_ ?_
 ·have ae:cellsOf G≠[]:=fun e=>by rw[e] at g;simp at g
  obtain⟨b,off,U,aq,Y⟩:=T ae
  cases U
  rw[Addr.add_lit]
  exact Lib.cell?_alloc_some _ (Y r o g)
 ·unfold cellsOf at g
  obtain⟨x,H,g⟩:=List.mem_flatMap.1 g
  obtain⟨r,M⟩:=List.getElem?_of_mem H
  obtain⟨y,ai⟩:∃y,l[r]? =some y:=⟨_,List.getElem?_eq_getElem (by rw[<-q.1];exact(List.getElem?_eq_some_iff.1 M).1)⟩
  exact Q _ _ (q.2 r _ _ M ai) o (by simpa using g)
 ·have W:=(d w.heap.size w).alloc (Nat.le_refl _) (.cells #[] e)
  have hst:L2 S S w w':=fun b f=>⟨f,fun i=>by
   have P:=J.block b (by rw[World.size_alloc];have:=j b f;omega) (by simp[Value.ownBlock];have:=j b f;omega)
   exact(World.cell?_of_block P).trans ((zpo W j b f).2 i)⟩
  refine⟨G,?_,L,q.imp fun x y h=>V.to h hst,fun b f=>⟨?_,fun F=> ?_⟩⟩
  ·rw[Nat.zero_add,List.nil_append] at I;exact I
  ·have:=J.size;rw[World.size_alloc] at this;have:=j b f;omega
  ·have:=(I.lt b F.symm).1;have:=j b f;omega
 ·exact((d _ w).alloc (Nat.le_refl _) _).grown J (by simp) (by intro av ac;simp[Value.ownBlock] at ac;omega)
 ·intro F
  have:=(an.1 F).1
  simp at this
theorem ydz {w:k} (h:IsS 1 IsIV w (C2 w) v l) (U:l.length<=10000):
 r p 92 #[v] w fun f w'=>(∃z,f= .returned z/\OwnS 1 3 IsIV w' w.heap.size (C2 w) z l)/\Below w.heap.size w w':=by
 have B:=i h;obtain⟨A,c,D,rfl,S,T,J,K,L⟩:=id h;clear h J K L;cases A with
 |none=>
  have F:l=[]:=by
   obtain⟨A,g,D,f,_,_,P,Q,ha⟩:=B.out;simp only[Value.slice.injEq] at f;obtain⟨rfl,_,_⟩:=f;refine List.eq_nil_of_length_eq_zero ?_;rw[<-ha.1];rcases Nat.eq_zero_or_pos D.length with h|h
   ·exact h
   ·exfalso;have G:=zrf Q;obtain⟨b,off,M,_⟩:=P (fun f=>by rw[f] at G;simp at G;omega);cases M
  have I:=i F;clear F;have q:=fun(w:k) (a:Option u) (n c t g:Nat)=>Lib.run_eql_slice_nil w _ _ a n c t g Tryz.underlying22;go_in;go_wp2_with fail;go_ret;refine⟨⟨_,rfl,?_⟩,d _ _⟩;rw[I.out];exact OwnS.nil fun b m=>m
 |some R=>have q:=fun(w:k) (a:Option u) (n c t g:Nat)=>Lib.run_eql_slice_nil w _ _ a n c t g Tryz.underlying22;go_in;go_wp2_with (at_builtin;refine ycp zui rfl _ _ rfl IsIV.stb rfl rfl B.out (fun b m=>m) (fun f x h W H=>by cases(show f= .int .i64 x from h);simp[Value.cells] at H;subst H;rfl) og ?_;intro z w' O N V);go_ret;exact⟨⟨_,rfl,O⟩,N⟩
theorem yeb {w:k} {l:List Raw} (h:IsS 3 IsR w (C2 w) v l) (T:l.length<=10000):
 r p 151 #[v] w fun f w'=>(∃z,f= .returned z/\OwnS 3 37 IsR w' w.heap.size (C2 w) z l)/\Below w.heap.size w w':=by
 have B:=i h;obtain⟨A,c,D,rfl,R,S,I,J,K⟩:=id h;clear h I J K;cases A with
 |none=>
  have F:l=[]:=by
   obtain⟨A,g,D,f,_,_,O,P,ha⟩:=B.out;simp only[Value.slice.injEq] at f;obtain⟨rfl,_,_⟩:=f;refine List.eq_nil_of_length_eq_zero ?_;rw[<-ha.1];rcases Nat.eq_zero_or_pos D.length with h|h
   ·exact h
   ·exfalso;have G:=zrf P;obtain⟨b,off,L,_⟩:=O (fun f=>by rw[f] at G;simp at G;omega);cases L
  have H:=i F;clear F;have q:=fun(w:k) (a:Option u) (n c t g:Nat)=>Lib.run_eql_slice_nil w _ _ a n c t g Tryz.underlying30;go_in;go_wp2_with fail;go_ret;refine⟨⟨_,rfl,?_⟩,d _ _⟩;rw[H.out];exact OwnS.nil fun b m=>m
 |some Q=>have q:=fun(w:k) (a:Option u) (n c t g:Nat)=>Lib.run_eql_slice_nil w _ _ a n c t g Tryz.underlying30;go_in;go_wp2_with (at_builtin;refine ycp zlc rfl _ _ rfl IsR.stb rfl rfl B.out (fun b m=>m) (fun f x h=>ysg h) og ?_;intro z w' N M U);go_ret;exact⟨⟨_,rfl,N⟩,M⟩
def IsSl (w:k) (S:Nat->Prop) (v x:C):Prop:=v=x/\∃A m c,x= .slice A m c
theorem IsSl.stb:Stb IsSl:=fun _ _ _ _ _ _ h _=>h
theorem yoc {w:k} {l:List C} (h:IsS 1 IsSl w (C2 w) v l) (V:l.length<=10000):
 r p 160 #[v] w fun f w'=>(∃B,f= .returned B/\OwnS 1 30 IsSl w' w.heap.size (C2 w) B l)/\Below w.heap.size w w':=by
 have D:=i h;obtain⟨A,c,F,rfl,T,U,K,L,M⟩:=id h;clear h K L M;cases A with
 |none=>
  have G:l=[]:=by
   obtain⟨A,g,F,f,_,_,Q,R,ha⟩:=D.out;simp only[Value.slice.injEq] at f;obtain⟨rfl,_,_⟩:=f;refine List.eq_nil_of_length_eq_zero ?_;rw[<-ha.1];rcases Nat.eq_zero_or_pos F.length with h|h
   ·exact h
   ·exfalso;have H:=zrf R;obtain⟨b,off,N,_⟩:=Q (fun f=>by rw[f] at H;simp at H;omega);cases N
  have J:=i G;clear G;have q:=fun(w:k) (a:Option u) (n c z g:Nat)=>Lib.run_eql_slice_nil w _ _ a n c z g Tryz.underlying28;go_in;go_wp2_with fail;go_ret;refine⟨⟨_,rfl,?_⟩,d _ _⟩;rw[J.out];exact OwnS.nil fun b t=>t
 |some S=>have q:=fun(w:k) (a:Option u) (n c z g:Nat)=>Lib.run_eql_slice_nil w _ _ a n c z g Tryz.underlying28;go_in;go_wp2_with (at_builtin;refine ycp elV rfl _ _ rfl IsSl.stb rfl rfl D.out (fun b t=>t) (fun f x h X I=>by obtain⟨rfl,A,m,c,rfl⟩:=h;simp[Value.cells] at I;subst I;rfl) og ?_;intro B w' P O W);go_ret;exact⟨⟨_,rfl,P⟩,O⟩
theorem hpE {w:k} {S:k->Prop} (c:Nat) (h:e (∀a:k,Below w.heap.size w a->S a)) (f:NeL V S):e (∀a:k,Below w.heap.size w a->∀x y z,S (M8 a V c x y z)):=fun a d x y z=>f (fun a=>M8 a V c x y z) (fun b g v a n h=>yak h n) a (h.out a d)
def zkt (f g:Nat->Int) (c d b:Nat):Nat->Int:=fun a=>if a<b/\a≠c then zkg (f a) (g c) (f c) (g a) d else f a
def zmz (f g:Nat->Int) (c d:Nat):Nat->Int:=fun a=>if a=c then -(f c) else zkg (f a) (g c) (f c) (g a) d
theorem ydr (f g:Nat->Int) (c d:Nat):zkt f g c d 0=f:=by funext j;unfold zkt;rw[if_neg og]
theorem ydn (f g:Nat->Int) (c d a:Nat):zkt f g c d a a=f a:=by unfold zkt;rw[if_neg og]
theorem ydp (f g:Nat->Int) (d a:Nat):zkt f g a d (a+1)=zkt f g a d a:=by
 funext j;unfold zkt;by_cases h:j<a/\j≠a
 ·rw[if_pos h,if_pos ⟨by omega,h.2⟩]
 ·rw[if_neg h,if_neg og]
theorem ydq (f g:Nat->Int) {d a:Nat} (h:a≠c) (b:Nat):(if b=a then zkg (f a) (g c) (f c) (g a) d else zkt f g c d a b)=zkt f g c d (a+1) b:=by
 unfold zkt;by_cases i:b=a
 ·subst i;rw[if_pos rfl,if_pos ⟨by omega,h⟩]
 ·rw[if_neg i];by_cases e:b<a/\b≠c
  ·rw[if_pos e,if_pos ⟨by omega,e.2⟩]
  ·rw[if_neg e,if_neg og]
theorem ydo (f g:Nat->Int) {d:Nat} (b:Nat) (e:b<m):(if b=c then -(f c) else zkt f g c d m b)=zmz f g c d b:=by
 unfold zkt zmz;by_cases a:b=c
 ·rw[if_pos a,if_pos a]
 ·rw[if_neg a,if_neg a,if_pos ⟨e,a⟩]
theorem LineW.mono {w:k} {T:Nat->Prop} (h:LineW w S b c m f) (a:∀x,S x->T x):LineW w T b c m f:=h.keep rfl fun x d=>⟨a x d,rfl⟩
theorem LineW.grow {w w':k} (h:LineW w (SN S lo w) b c m f) (g:∀x,S x->x<w.heap.size) (d:Below w.heap.size w w'):LineW w' (SN S lo w') b c m f:=
 h.keep (d.block _ h.lt) fun x e=>⟨zps d.size x e,d.block x (by rcases e with a|a;exact g x a;exact a.2)⟩
theorem ydm {w:k} {C aZ B d aT:Nat} {D:Option u} {g:Nat->Int} (be:LineW w S V C m f) (bd:LineW w S aZ B m g) (cE:aZ≠V) (cD:∀b,S b->b<w.heap.size/\b≠V/\b≠aZ)
 (hD:NumS w S (.slice D (A9 d).length aT) d) (c4:m<=100) (hc:c<m) (cK:∀n,n<m->Sz ((f n:Int):Rat) 100000/\Sz ((g n:Int):Rat) 100000) (cI:(A9 d).length<=100000) (cH:0<d):
 r p 130 #[.slice (some ⟨V,0,none⟩) m C,.slice (some ⟨aZ,0,none⟩) m B,.int .i64 (c:Int),.slice D (A9 d).length aT] w fun v w'=>v= .returned (.tuple #[])/\LineW w' (SN S w.heap.size w') V C m (zmz f g c d)/\w.grownBy w' (some V):=by
 obtain⟨cy,cx,b1,av,H,cB,cA,aS⟩:=zlu be bd hD cK cD cI cH cE;have cY:(0:Int)<=(c:Int):=og;have cZ:(c:Int)<(m:Int):=og;have cX:=R4;obtain⟨ay,aC,aA,l,L,M,P,eq⟩:=bd.el c hc;obtain⟨az,aD,aB,aE,bY,bZ,b0,cC⟩:=be.el c hc;obtain⟨bu,br⟩:=C4 eq cC;obtain⟨aG,cL⟩:=nm (decide (g c<0));obtain⟨aH,cM⟩:=nm ((A9 (g c).natAbs).length);obtain⟨aI,cN⟩:=nm (decide (f c<0));obtain⟨aJ,cO⟩:=nm ((A9 (f c).natAbs).length);obtain⟨I,cq⟩:=nm ((A9 1).length);obtain⟨bf,cJ⟩:=nm ((A9 d).length);rw[<-cL] at L bu;rw[<-cM] at M bu;rw[<-cq] at P bu b0 br;rw[<-cN] at bY br;rw[<-cO] at bZ br;rw[<-cJ] at b1⊢;have cG:V<w.heap.size:=be.lt;have cF:aZ<w.heap.size:=bd.lt;obtain⟨ac,cz,bX⟩:=G6 cG cF cq;have c0:=be.cap.1;have c1:C<=9223372036854775807:=(by have:=be.cap.2;unfold maxLen at this;omega);have c2:=bd.cap.1;have c3:B<=9223372036854775807:=(by have:=bd.cap.2;unfold maxLen at this;omega);clear be bd eq cC cK cL cM cq cN cO cG cF cJ hD cI cH cE cD;go_in;go_wp2_with fail;have X:=zmq L M P bY bZ b0
 go_region_held3 (SH.mk _ X).s
  (exact X.out _ bel)
  (fail)
 ·obtain⟨cw,bG,Z,bP,bO,bq⟩:=zko w #[.bool aG,.slice ay aH aC,.slice aA I l] #[.bool aI,.slice az aJ aD,.slice aB I aE] 37 37;rw[bG];obtain⟨au,aa⟩:=nm (cw.drew);have bg:e (Below w.heap.size w au):=(by rw[e,aa];exact⟨Z.os,Z.tape,Z.output,Z.size,Z.block⟩);have ch:e (Row au w.heap.size 37 [.bool aG,.slice ay aH aC,.slice aA I l]):=(by rw[e,aa];exact bP.drew);have cg:e (Row au (w.heap.size+1) 37 [.bool aI,.slice az aJ aD,.slice aB I aE]):=(by rw[e,aa];exact bO.drew);have cP:e (au.heap.size=w.heap.size+2):=(by rw[e,aa];exact bq.out);rw[<-aa];clear aa Z bP bO bq X bG;clear L M P bY bZ b0;go_wp2_with fail;go_loopw [22,10,11] (fun a7 _ _ wr=>∃n:Nat,n<=m/\a7= .int .i64 (n:Int)/\au.grownBy wr (some V)/\e (LineW wr (SN S w.heap.size wr) V C m (zkt f g c d n))) (fun a7 _ _ _=>m-(intOf a7).toNat);case atStart=>exact⟨0,E _,rfl,H7 _ _,by rw[e,ydr];exact(cy.out.mono (T:=SN S w.heap.size w) fun x q=> .inl q).grow (fun x q=>(H.out x q).1) bg.out⟩
  case round=>
   obtain⟨n,cT,rfl,al,bC⟩:=hrel;have bi:=i al;have N:=i bC.out;have F:=i (J5 (K8 bg.out) al);have b8:e (LineW wr S aZ B m g):=cx.out.keep (F.out.block _ cz.out fun v=>aS.out (by cases v;rfl)) fun x q=>⟨q,F.out.block _ (H.out x q).1 fun v=>(H.out x q).2.1 (by cases v;rfl)⟩;have bB:e (V<w.heap.size):=ac.out;obtain⟨cj,bv⟩:=C4 (ch.out.grownN al fun b v=>by cases v;have:=bB.out;omega) (cg.out.grownN al fun b v=>by cases v;have:=bB.out;omega);have aK:L2 S (C2 wr) w wr:=fun b G=>⟨o (H.out b G).1 F.out.size,fun cW=>World.cell?_of_block (F.out.block b (H.out b G).1 fun v=>(H.out b G).2.1 (by cases v;rfl))⟩;have cb:e (IsQ wr (C2 wr) (.agg #[.bool aG,.slice ay aH aC,.slice aA I l]) ((g c:Int):Rat)):=IsQ.stb.to bu.out aK;have bt:e (IsQ wr (C2 wr) (.agg #[.bool aI,.slice az aJ aD,.slice aB I aE]) ((f c:Int):Rat)):=IsQ.stb.to br.out aK;have b3:e (NumS wr (C2 wr) (.slice D bf aT) d):=IsK.stb.to b1.out aK
   have bp:e (∀b,SN S w.heap.size wr b->C2 wr b):=fun b G=>by
    rcases G with h|h
    ·exact o (H.out b h).1 F.out.size
    ·exact h.2
   clear al bC aK;rcases y n m with T|cS
   ·obtain⟨aX,a8,aY,a9,L,M,P,eq⟩:=N.out.el n T;obtain⟨b9,cs,Q3,ct,a4,a5,a6,bK⟩:=b8.out.el n T;rw[ydn] at L M eq;obtain⟨aL,aM⟩:=C4 (IsQ.stb.to eq (F6 (T:=C2 wr) bp.out)) (IsQ.stb.to bK (F6 (T:=C2 wr) fun b G=>bp.out b (.inl G)));obtain⟨bU,bI⟩:=nm (decide (f n<0));obtain⟨bV,bJ⟩:=nm ((A9 (f n).natAbs).length);obtain⟨cu,bD⟩:=nm (decide (g n<0));obtain⟨cv,bE⟩:=nm ((A9 (g n).natAbs).length);rw[<-bI] at L aL;rw[<-bJ] at M aL;rw[<-bD] at a4 aM;rw[<-bE] at a5 aM;rw[<-bX.out] at P aL a6 aM;have cU:(0:Int)<=(n:Int):=og;have cV:(n:Int)<(m:Int):=og;have cl:V<wr.heap.size:=o ac.out F.out.size;have ah:wr.frozen? ⟨V,n*3,none⟩=false:=N.out.free;have ai:wr.frozen? ⟨V,n*3+1,none⟩=false:=N.out.free;have aj:wr.frozen? ⟨V,n*3+2,none⟩=false:=N.out.free;obtain⟨Q,bH,t,bQ,cr⟩:=K7 wr #[.bool bU,.slice aX bV a8,.slice aY I a9] 37;obtain⟨bw,bx,b2⟩:=C5 bQ;obtain⟨bL,bM,bN⟩:=C5 cj.out;obtain⟨aO,aP,aQ⟩:=C5 bv.out;obtain⟨J,A,U⟩:=G6 (j bw (j bx (j b2 (j (B9 t bL) (j (B9 t bM) (j (B9 t bN) (j (B9 t aO) (j (B9 t aP) (j (B9 t aQ) (j (B9 t a4) (j (B9 t a5) (B9 t a6)))))))))))) (j (B9 t L) (j (B9 t M) (B9 t P))) (j (H8 t L ah) (j (H8 t M ai) (H8 t P aj)));have cd:=nQ aL t;have cf:=nQ aM t;have Y:=i t;have cm:=T;have ae:=i T;obtain⟨z,ao⟩:=nm (zkg (f n) (g c) (f c) (g n) d);have ad:=i ao;have a1:e (wr.heap.size≠V):=oH;have a2:e (w.heap.size≠V):=oH1 ac;have a3:e ((w.heap.size+1)≠V):=oH1 ac;have cc:e (IsQ Q (C2 Q) (.agg #[.bool aG,.slice ay aH aC,.slice aA I l]) ((g c:Int):Rat)):=IsQ.stb.next cb.out t;have ca:e (IsQ Q (C2 Q) (.agg #[.bool aI,.slice az aJ aD,.slice aB I aE]) ((f c:Int):Rat)):=IsQ.stb.next bt.out t;have b4:e (NumS Q (C2 Q) (.slice D bf aT) d):=IsK.stb.next b3.out t;clear eq bK bI bJ bD bE bQ cr t bw bx b2 ah ai aj cl ao T cm bL bM bN aO aP aQ;by_cases an:n=c
    ·have cn:(((n:Int) !=(c:Int)):Bool)=false:=(by rw[an];simp);have bj:=i an;clear an;go_wp2_with fail;clear bH;go_roundw;(case rel=>refine⟨n+1,ae.out,by go_num,J5 bi.out (K8 Y.out),?_⟩;rw[<-bj.out];rw[e,ydp];have:=N.out.grow (fun x q=>o (H.out x q).1 F.out.size) Y.out;rw[<-bj.out] at this;exact this);case measure=>simp[intOf];have:=ae.out;omega
    ·have cn:(((n:Int) !=(c:Int)):Bool)=true:=(by simp;omega);have b7:=i an;clear an;go_wp2_with fail;clear bH L M P a4 a5 a6;have X:=yac J.out.1 J.out.2.1 J.out.2.2.1 J.out.2.2.2.1 J.out.2.2.2.2.1 J.out.2.2.2.2.2.1 J.out.2.2.2.2.2.2.1 J.out.2.2.2.2.2.2.2.1 J.out.2.2.2.2.2.2.2.2.1 J.out.2.2.2.2.2.2.2.2.2.1 J.out.2.2.2.2.2.2.2.2.2.2.1 J.out.2.2.2.2.2.2.2.2.2.2.2;have bh:e (∀aN:k,Below Q.heap.size Q aN->r p 129 #[.agg #[.bool bU,.slice aX bV a8,.slice aY I a9],.agg #[.bool aG,.slice ay aH aC,.slice aA I l],.agg #[.bool aI,.slice az aJ aD,.slice aB I aE],.agg #[.bool cu,.slice b9 cv cs,.slice Q3 I ct],.slice D bf aT] aN (Y0 aN (((z:Int)):Rat))):=fun aN ak=>(by have h:=zuh (IsQ.stb.next cd.out ak) (IsQ.stb.next cc.out ak) (IsQ.stb.next ca.out ak) (IsQ.stb.next cf.out ak) (I7 (IsK.stb.next b4.out ak)) ((av.out n ae.out).1.le og) ((av.out c hc).2.le og) ((av.out c hc).1.le og) ((av.out n ae.out).2.le og) (s cB.out og) cA.out;rw[Rat.num_intCast,Rat.num_intCast,Rat.num_intCast,Rat.num_intCast,<-ad.out] at h;exact h);have bm:=hpE n X (nA a1.out (nA a1.out (nA a1.out (nA a2.out (nA a2.out (nA a2.out (nA a3.out (nA a3.out (nA a3.out (nA aS.out (nA aS.out (nZ aS.out))))))))))))
     go_region_held3 (SH.mk _ X).s
      (first|exact X.out _ bel|exact bm.out _ bel _ _ _)
      (first
        |(go_at_call 129;(with_reducible refine Calls.mono (bh.out _ bel) ?_);rintro v K ⟨⟨aR,rfl,W⟩,O⟩;have R:=bW Q K;obtain⟨ag,aq,af,ar,rfl⟩:=zkh W;have u0:=B9 R.out A.out.1;have u1:=B9 R.out A.out.2.1;have u2:=B9 R.out A.out.2.2;have bR:=H8 R.out A.out.1 U.out.1;have bT:=H8 R.out A.out.2.1 U.out.2.1;have aR:=H8 R.out A.out.2.2 U.out.2.2))
     have aW:=i ((N.out.grow (fun x q=>o (H.out x q).1 F.out.size) Y.out).grow (fun x q=>o (H.out x q).1 (s F.out.size Y.out.size)) R.out);have bF:IsQ K (SN S w.heap.size K) (.agg #[.bool (decide (z<0)),.slice ag (A9 z.natAbs).length aq,.slice af (A9 1).length ar]) ((z:Int):Rat):=IsQ.stb.to W (F6 fun b G=> .inr ⟨by have cQ:=F.out.size;have cR:=Y.out.size;have ck:=G.1;simp at ck;omega,G.2⟩);have aV:=i bF;have T:=ae.out;have aU:=i (J5 (J5 bi.out (K8 Y.out)) (K8 R.out));clear X bm bh W O u0 u1 u2 bR bT aR bF;go_wp2_with fail;go_roundw
     case rel=>
      have a0:=aW.out.put (fun x q v=>by
       rcases q with q|q
       ·exact(H.out x q).2.1 v
       ·have:=ac.out;have:=q.1;omega) T aV.out
      refine⟨n+1,T,by go_num,zlt aU.out,?_⟩;have v:SN S w.heap.size (M8 K V n (.bool (decide (z<0))) (.slice ag (A9 z.natAbs).length aq) (.slice af (A9 1).length ar))=SN S w.heap.size K:=(by unfold SN;rw[zov]);show LineW _ (SN S w.heap.size (M8 K V n _ _ _)) _ _ _ _;rw[v];exact a0.same fun a _=>by rw[ad.out];exact ydq f g b7.out a
     case measure=>simp[intOf];omega
   ·obtain rfl:n=m:=og;obtain⟨aX,a8,aY,a9,L,M,P,eq⟩:=N.out.el c hc;have bA:zkt f g c d n c=f c:=(by unfold zkt;rw[if_neg og]);rw[<-bX.out] at P;rw[bA] at L M;have ah:wr.frozen? ⟨V,c*3,none⟩=false:=N.out.free;have ai:wr.frozen? ⟨V,c*3+1,none⟩=false:=N.out.free;have aj:wr.frozen? ⟨V,c*3+2,none⟩=false:=N.out.free;obtain⟨aO,aP,aQ⟩:=C5 bv.out;obtain⟨b5,A,U⟩:=G6 hc (j L (j M P)) (j ah (j ai aj));clear L M P ah ai aj eq bA;go_wp2_with fail;obtain⟨z,ao⟩:=nm (-f c);have ad:=i ao;clear ao;refine(zqn (p:=((z:Int):Rat)) bt.out ((av.out c hc).1) (by rw[ad.out,Rat.intCast_neg])).mono ?_;rintro v K ⟨⟨aR,rfl,W⟩,O⟩;obtain⟨ag,aq,af,ar,rfl⟩:=zkh W;have u0:=B9 O A.out.1;have u1:=B9 O A.out.2.1;have u2:=B9 O A.out.2.2;have bR:=H8 O A.out.1 U.out.1;have bT:=H8 O A.out.2.1 U.out.2.1;have aR:=H8 O A.out.2.2 U.out.2.2;have aW:=i (N.out.grow (fun x q=>o (H.out x q).1 F.out.size) O);have aV:e (IsQ K (SN S w.heap.size K) (.agg #[.bool (decide (z<0)),.slice ag (A9 (z).natAbs).length aq,.slice af (A9 1).length ar]) ((z:Int):Rat)):=IsQ.stb.to W (F6 fun b G=> .inr ⟨s F.out.size G.1,G.2⟩);have aU:=i (J5 F.out (K8 O));clear W O aO aP aQ;go_wp2_with fail;refine bodyPost_end (results_none rfl _ _ _) rfl ?_
    have a0:=aW.out.put (fun x q v=>by
     rcases q with q|q
     ·exact(H.out x q).2.1 v
     ·have:=ac.out;have:=q.1;omega) b5.out aV.out
    refine⟨rfl,?_,zlt aU.out⟩;have v:SN S w.heap.size (M8 K V c (.bool (decide (z<0))) (.slice ag (A9 (z).natAbs).length aq) (.slice af (A9 1).length ar))=SN S w.heap.size K:=(by unfold SN;rw[zov]);show LineW _ (SN S w.heap.size (M8 K V c _ _ _)) _ _ _ _;rw[v];exact a0.same fun a ha=>by rw[ad.out];exact ydo f g a ha
 ·obtain⟨cw,bG,Z,bO,bP,bq⟩:=zko w #[.bool aI,.slice az aJ aD,.slice aB I aE] #[.bool aG,.slice ay aH aC,.slice aA I l] 37 37;rw[bG];obtain⟨au,aa⟩:=nm (cw.drew);have bg:e (Below w.heap.size w au):=(by rw[e,aa];exact⟨Z.os,Z.tape,Z.output,Z.size,Z.block⟩);have ch:e (Row au (w.heap.size+1) 37 [.bool aG,.slice ay aH aC,.slice aA I l]):=(by rw[e,aa];exact bP.drew);have cg:e (Row au w.heap.size 37 [.bool aI,.slice az aJ aD,.slice aB I aE]):=(by rw[e,aa];exact bO.drew);have cP:e (au.heap.size=w.heap.size+2):=(by rw[e,aa];exact bq.out);rw[<-aa];clear aa Z bP bO bq X bG;clear L M P bY bZ b0;go_wp2_with fail;go_loopw [22,10,11] (fun a7 _ _ wr=>∃n:Nat,n<=m/\a7= .int .i64 (n:Int)/\au.grownBy wr (some V)/\e (LineW wr (SN S w.heap.size wr) V C m (zkt f g c d n))) (fun a7 _ _ _=>m-(intOf a7).toNat);case atStart=>exact⟨0,E _,rfl,H7 _ _,by rw[e,ydr];exact(cy.out.mono (T:=SN S w.heap.size w) fun x q=> .inl q).grow (fun x q=>(H.out x q).1) bg.out⟩
  case round=>
   obtain⟨n,cT,rfl,al,bC⟩:=hrel;have bi:=i al;have N:=i bC.out;have F:=i (J5 (K8 bg.out) al);have b8:e (LineW wr S aZ B m g):=cx.out.keep (F.out.block _ cz.out fun v=>aS.out (by cases v;rfl)) fun x q=>⟨q,F.out.block _ (H.out x q).1 fun v=>(H.out x q).2.1 (by cases v;rfl)⟩;have bB:e (V<w.heap.size):=ac.out;obtain⟨cj,bv⟩:=C4 (ch.out.grownN al fun b v=>by cases v;have:=bB.out;omega) (cg.out.grownN al fun b v=>by cases v;have:=bB.out;omega);have aK:L2 S (C2 wr) w wr:=fun b G=>⟨o (H.out b G).1 F.out.size,fun cW=>World.cell?_of_block (F.out.block b (H.out b G).1 fun v=>(H.out b G).2.1 (by cases v;rfl))⟩;have cb:e (IsQ wr (C2 wr) (.agg #[.bool aG,.slice ay aH aC,.slice aA I l]) ((g c:Int):Rat)):=IsQ.stb.to bu.out aK;have bt:e (IsQ wr (C2 wr) (.agg #[.bool aI,.slice az aJ aD,.slice aB I aE]) ((f c:Int):Rat)):=IsQ.stb.to br.out aK;have b3:e (NumS wr (C2 wr) (.slice D bf aT) d):=IsK.stb.to b1.out aK
   have bp:e (∀b,SN S w.heap.size wr b->C2 wr b):=fun b G=>by
    rcases G with h|h
    ·exact o (H.out b h).1 F.out.size
    ·exact h.2
   clear al bC aK;rcases y n m with T|cS
   ·obtain⟨aX,a8,aY,a9,L,M,P,eq⟩:=N.out.el n T;obtain⟨b9,cs,Q3,ct,a4,a5,a6,bK⟩:=b8.out.el n T;rw[ydn] at L M eq;obtain⟨aL,aM⟩:=C4 (IsQ.stb.to eq (F6 (T:=C2 wr) bp.out)) (IsQ.stb.to bK (F6 (T:=C2 wr) fun b G=>bp.out b (.inl G)));obtain⟨bU,bI⟩:=nm (decide (f n<0));obtain⟨bV,bJ⟩:=nm ((A9 (f n).natAbs).length);obtain⟨cu,bD⟩:=nm (decide (g n<0));obtain⟨cv,bE⟩:=nm ((A9 (g n).natAbs).length);rw[<-bI] at L aL;rw[<-bJ] at M aL;rw[<-bD] at a4 aM;rw[<-bE] at a5 aM;rw[<-bX.out] at P aL a6 aM;have cU:(0:Int)<=(n:Int):=og;have cV:(n:Int)<(m:Int):=og;have cl:V<wr.heap.size:=o ac.out F.out.size;have ah:wr.frozen? ⟨V,n*3,none⟩=false:=N.out.free;have ai:wr.frozen? ⟨V,n*3+1,none⟩=false:=N.out.free;have aj:wr.frozen? ⟨V,n*3+2,none⟩=false:=N.out.free;obtain⟨Q,bH,t,bQ,cr⟩:=K7 wr #[.bool bU,.slice aX bV a8,.slice aY I a9] 37;obtain⟨bw,bx,b2⟩:=C5 bQ;obtain⟨bL,bM,bN⟩:=C5 cj.out;obtain⟨aO,aP,aQ⟩:=C5 bv.out;obtain⟨J,A,U⟩:=G6 (j bw (j bx (j b2 (j (B9 t bL) (j (B9 t bM) (j (B9 t bN) (j (B9 t aO) (j (B9 t aP) (j (B9 t aQ) (j (B9 t a4) (j (B9 t a5) (B9 t a6)))))))))))) (j (B9 t L) (j (B9 t M) (B9 t P))) (j (H8 t L ah) (j (H8 t M ai) (H8 t P aj)));have cd:=nQ aL t;have cf:=nQ aM t;have Y:=i t;have cm:=T;have ae:=i T;obtain⟨z,ao⟩:=nm (zkg (f n) (g c) (f c) (g n) d);have ad:=i ao;have a1:e (wr.heap.size≠V):=oH;have a2:e ((w.heap.size+1)≠V):=oH1 ac;have a3:e (w.heap.size≠V):=oH1 ac;have cc:e (IsQ Q (C2 Q) (.agg #[.bool aG,.slice ay aH aC,.slice aA I l]) ((g c:Int):Rat)):=IsQ.stb.next cb.out t;have ca:e (IsQ Q (C2 Q) (.agg #[.bool aI,.slice az aJ aD,.slice aB I aE]) ((f c:Int):Rat)):=IsQ.stb.next bt.out t;have b4:e (NumS Q (C2 Q) (.slice D bf aT) d):=IsK.stb.next b3.out t;clear eq bK bI bJ bD bE bQ cr t bw bx b2 ah ai aj cl ao T cm bL bM bN aO aP aQ;by_cases an:n=c
    ·have cn:(((n:Int) !=(c:Int)):Bool)=false:=(by rw[an];simp);have bj:=i an;clear an;go_wp2_with fail;clear bH;go_roundw;(case rel=>refine⟨n+1,ae.out,by go_num,J5 bi.out (K8 Y.out),?_⟩;rw[<-bj.out];rw[e,ydp];have:=N.out.grow (fun x q=>o (H.out x q).1 F.out.size) Y.out;rw[<-bj.out] at this;exact this);case measure=>simp[intOf];have:=ae.out;omega
    ·have cn:(((n:Int) !=(c:Int)):Bool)=true:=(by simp;omega);have b7:=i an;clear an;go_wp2_with fail;clear bH L M P a4 a5 a6;have X:=yac J.out.1 J.out.2.1 J.out.2.2.1 J.out.2.2.2.1 J.out.2.2.2.2.1 J.out.2.2.2.2.2.1 J.out.2.2.2.2.2.2.1 J.out.2.2.2.2.2.2.2.1 J.out.2.2.2.2.2.2.2.2.1 J.out.2.2.2.2.2.2.2.2.2.1 J.out.2.2.2.2.2.2.2.2.2.2.1 J.out.2.2.2.2.2.2.2.2.2.2.2;have bh:e (∀aN:k,Below Q.heap.size Q aN->r p 129 #[.agg #[.bool bU,.slice aX bV a8,.slice aY I a9],.agg #[.bool aG,.slice ay aH aC,.slice aA I l],.agg #[.bool aI,.slice az aJ aD,.slice aB I aE],.agg #[.bool cu,.slice b9 cv cs,.slice Q3 I ct],.slice D bf aT] aN (Y0 aN (((z:Int)):Rat))):=fun aN ak=>(by have h:=zuh (IsQ.stb.next cd.out ak) (IsQ.stb.next cc.out ak) (IsQ.stb.next ca.out ak) (IsQ.stb.next cf.out ak) (I7 (IsK.stb.next b4.out ak)) ((av.out n ae.out).1.le og) ((av.out c hc).2.le og) ((av.out c hc).1.le og) ((av.out n ae.out).2.le og) (s cB.out og) cA.out;rw[Rat.num_intCast,Rat.num_intCast,Rat.num_intCast,Rat.num_intCast,<-ad.out] at h;exact h);have bm:=hpE n X (nA a1.out (nA a1.out (nA a1.out (nA a2.out (nA a2.out (nA a2.out (nA a3.out (nA a3.out (nA a3.out (nA aS.out (nA aS.out (nZ aS.out))))))))))))
     go_region_held3 (SH.mk _ X).s
      (first|exact X.out _ bel|exact bm.out _ bel _ _ _)
      (first
        |(go_at_call 129;(with_reducible refine Calls.mono (bh.out _ bel) ?_);rintro v K ⟨⟨aR,rfl,W⟩,O⟩;have R:=bW Q K;obtain⟨ag,aq,af,ar,rfl⟩:=zkh W;have u0:=B9 R.out A.out.1;have u1:=B9 R.out A.out.2.1;have u2:=B9 R.out A.out.2.2;have bR:=H8 R.out A.out.1 U.out.1;have bT:=H8 R.out A.out.2.1 U.out.2.1;have aR:=H8 R.out A.out.2.2 U.out.2.2))
     have aW:=i ((N.out.grow (fun x q=>o (H.out x q).1 F.out.size) Y.out).grow (fun x q=>o (H.out x q).1 (s F.out.size Y.out.size)) R.out);have bF:IsQ K (SN S w.heap.size K) (.agg #[.bool (decide (z<0)),.slice ag (A9 z.natAbs).length aq,.slice af (A9 1).length ar]) ((z:Int):Rat):=IsQ.stb.to W (F6 fun b G=> .inr ⟨by have cQ:=F.out.size;have cR:=Y.out.size;have ck:=G.1;simp at ck;omega,G.2⟩);have aV:=i bF;have T:=ae.out;have aU:=i (J5 (J5 bi.out (K8 Y.out)) (K8 R.out));clear X bm bh W O u0 u1 u2 bR bT aR bF;go_wp2_with fail;go_roundw
     case rel=>
      have a0:=aW.out.put (fun x q v=>by
       rcases q with q|q
       ·exact(H.out x q).2.1 v
       ·have:=ac.out;have:=q.1;omega) T aV.out
      refine⟨n+1,T,by go_num,zlt aU.out,?_⟩;have v:SN S w.heap.size (M8 K V n (.bool (decide (z<0))) (.slice ag (A9 z.natAbs).length aq) (.slice af (A9 1).length ar))=SN S w.heap.size K:=(by unfold SN;rw[zov]);show LineW _ (SN S w.heap.size (M8 K V n _ _ _)) _ _ _ _;rw[v];exact a0.same fun a _=>by rw[ad.out];exact ydq f g b7.out a
     case measure=>simp[intOf];omega
   ·obtain rfl:n=m:=og;obtain⟨aX,a8,aY,a9,L,M,P,eq⟩:=N.out.el c hc;have bA:zkt f g c d n c=f c:=(by unfold zkt;rw[if_neg og]);rw[<-bX.out] at P;rw[bA] at L M;have ah:wr.frozen? ⟨V,c*3,none⟩=false:=N.out.free;have ai:wr.frozen? ⟨V,c*3+1,none⟩=false:=N.out.free;have aj:wr.frozen? ⟨V,c*3+2,none⟩=false:=N.out.free;obtain⟨aO,aP,aQ⟩:=C5 bv.out;obtain⟨b5,A,U⟩:=G6 hc (j L (j M P)) (j ah (j ai aj));clear L M P ah ai aj eq bA;go_wp2_with fail;obtain⟨z,ao⟩:=nm (-f c);have ad:=i ao;clear ao;refine(zqn (p:=((z:Int):Rat)) bt.out ((av.out c hc).1) (by rw[ad.out,Rat.intCast_neg])).mono ?_;rintro v K ⟨⟨aR,rfl,W⟩,O⟩;obtain⟨ag,aq,af,ar,rfl⟩:=zkh W;have u0:=B9 O A.out.1;have u1:=B9 O A.out.2.1;have u2:=B9 O A.out.2.2;have bR:=H8 O A.out.1 U.out.1;have bT:=H8 O A.out.2.1 U.out.2.1;have aR:=H8 O A.out.2.2 U.out.2.2;have aW:=i (N.out.grow (fun x q=>o (H.out x q).1 F.out.size) O);have aV:e (IsQ K (SN S w.heap.size K) (.agg #[.bool (decide (z<0)),.slice ag (A9 (z).natAbs).length aq,.slice af (A9 1).length ar]) ((z:Int):Rat)):=IsQ.stb.to W (F6 fun b G=> .inr ⟨s F.out.size G.1,G.2⟩);have aU:=i (J5 F.out (K8 O));clear W O aO aP aQ;go_wp2_with fail;refine bodyPost_end (results_none rfl _ _ _) rfl ?_
    have a0:=aW.out.put (fun x q v=>by
     rcases q with q|q
     ·exact(H.out x q).2.1 v
     ·have:=ac.out;have:=q.1;omega) b5.out aV.out
    refine⟨rfl,?_,zlt aU.out⟩;have v:SN S w.heap.size (M8 K V c (.bool (decide (z<0))) (.slice ag (A9 (z).natAbs).length aq) (.slice af (A9 1).length ar))=SN S w.heap.size K:=(by unfold SN;rw[zov]);show LineW _ (SN S w.heap.size (M8 K V c _ _ _)) _ _ _ _;rw[v];exact a0.same fun a ha=>by rw[ad.out];exact ydo f g a ha
end Go.Proofs.YtdgilbgdkmhcmaaGreatDoor
