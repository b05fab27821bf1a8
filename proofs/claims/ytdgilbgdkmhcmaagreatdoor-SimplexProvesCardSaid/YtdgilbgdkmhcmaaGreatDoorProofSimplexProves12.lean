/-
 One element of an owned row of numbers,written a.
-/
import Derived.Test.YtdgilbgdkmhcmaaGreatDoorProofSimplexProves11
import Derived.Laws.OwnMore
namespace Go.Proofs.YtdgilbgdkmhcmaaGreatDoor
open Go.RowKit
set_option linter.unusedVariables false
set_option maxRecDepth 100000
set_option maxHeartbeats 8000000
open _root_.Go.Lib renaming hid → m
open _root_.Nat renaming le_trans → G, lt_or_ge → H, zero_le → I
open _root_.List renaming getD_eq_getElem?_getD → d, getElem?_eq_getElem → J, mem_of_getElem? → M, set_cons_succ → O, getElem?_map → K
open _root_.Go.World renaming block_lt_of_cell? → L
open _root_.Go renaming World → o, Value → u, Calls → D
open _root_.Go.RowKit renaming Below → p, Hid → f
open _root_.Go.Proofs.Tryz renaming prog → C
variable {N b base i j k lo off : Nat} {S : Nat → Prop} {b0 : Nat → Rat} {c s z : u} {key : Nat → Nat} {l : List Raw} {r : Raw} {v : List Rat}
theorem yth {l:List u} (h:l.length=3):∃a b c,l=[a,b,c]:=by
 match l,h with
 |[a,b,c],_=>exact⟨a,b,c,rfl⟩
theorem ynx {e:List u} (h:Wid 3 e) (i:j<e.length) (x y z:u):cellsOf (e.set j (.agg #[x,y,z]))=(((cellsOf e).set (j*3) x).set (j*3+1) y).set (j*3+2) z:=by
 induction e generalizing j with
 |nil=>simp at i
 |cons v e ih=>
  obtain⟨l,n⟩:=h.cons;obtain⟨a,b,c,hv⟩:=yth (l:=v.cells.toList) (by rw[Array.length_toList,l]);have g:cellsOf (v::e)=a::b::c::cellsOf e:=(by simp[cellsOf,hv]);cases j with
  |zero=>rw[g,List.set_cons_zero];simp[cellsOf,Value.cells]
  |succ j=>have k:cellsOf (v::e.set j (.agg #[x,y,z]))=a::b::c::cellsOf (e.set j (.agg #[x,y,z])):=(by simp[cellsOf,hv]);rw[O,g,k,ih n (by simpa using i),show(j+1)*3=j*3+1+1+1 by omega,show j*3+1+1+1+1=j*3+1+1+1+1 from rfl];simp only[O]
theorem OwnS.set3 {k:Type} {t:TypeId} {R:o->(Nat->Prop)->u->k->Prop} (q:Stb R) {w:o} {g cap:Nat} {l:List k} (h:OwnS 3 t R w base S (.slice (some ⟨g,0,none⟩) l.length cap) l) (E:j<l.length) {x y z:u} {r:k} (B:R w S (.agg #[x,y,z]) r):
 OwnS 3 t R (L9 w g j x y z) base S (.slice (some ⟨g,0,none⟩) (l.set j r).length cap) (l.set j r):=by
 obtain⟨m,A,n,p,f⟩:=h;have s:L1 S S w (L9 w g j x y z):=fun b c=>⟨c,fun G=>zos (.inl fun d=>(f b c).2 (by rw[d];rfl))⟩;have F:(l.set j r).length=l.length:=List.length_set;have D:m.length=l.length:=p.1;refine⟨m.set j (.agg #[x,y,z]),?_,?_,⟨by rw[List.length_set,List.length_set];exact D,fun i a b ha c=> ?_⟩,fun b c=>⟨by rw[zpl];exact(f b c).1,fun d=>(f b c).2 (by rw[d];rfl)⟩⟩
 ·rw[F,ynx n og];exact(((A.stored (j*3) x).1.stored (j*3+1) y).1.stored (j*3+2) z).1
 ·intro d C;rcases List.mem_or_eq_of_mem_set C with e|e
  ·exact n d e
  ·rw[e];rfl
 ·by_cases v:j=i
  ·subst v;rw[List.getElem?_set_self og] at ha;rw[List.getElem?_set_self E] at c;cases ha;cases c;exact q.to B s
  ·rw[List.getElem?_set_ne v] at ha c;exact q.to (p.2 i a b ha c) s
def J0 (N off:Nat) (b0:Nat->Rat) (key:Nat->Nat) (X:Nat->Rat) (k:Nat):List Rat:=N7 N fun v=>b0 v+C5 k fun i=>if key i=off+v then X i else 0
theorem zmw (N off:Nat) (b0:Nat->Rat) (key:Nat->Nat) (X:Nat->Rat) (k:Nat):(J0 N off b0 key X k).length=N:=zqn _ _
theorem zue (N off:Nat) (b0:Nat->Rat) (key:Nat->Nat) (X:Nat->Rat):J0 N off b0 key X 0=N7 N b0:=by unfold J0;congr 1;funext v;simp only[C5];grind
theorem zze (N:Nat):N7 N (fun _=>0)=List.replicate N 0:=by
 unfold N7;apply List.ext_getElem
 ·simp
 ·intro i a b;simp
theorem zud {X:Nat->Rat} (h:key k<off\/off+N<=key k):J0 N off b0 key X (k+1)=J0 N off b0 key X k:=by unfold J0 N7;refine List.map_congr_left fun v hv=> ?_;have:=List.mem_range.1 hv;rw[C5,if_neg og];grind
theorem zuc {X:Nat->Rat} (h:off<=key k) (j:key k<off+N) (d:∀i,i<k->key i≠key k) (e:b0 (key k-off)=0):J0 N off b0 key X (k+1)=(J0 N off b0 key X k).set (key k-off) (X k):=by
 apply List.ext_getElem?;intro v;rw[List.getElem?_set,zmw];by_cases hv:v<N
 ·have b:(J0 N off b0 key X (k+1))[v]? =some (b0 v+C5 (k+1) fun i=>if key i=off+v then X i else 0):=zrv hv;have c:(J0 N off b0 key X k)[v]? =some (b0 v+C5 k fun i=>if key i=off+v then X i else 0):=zrv hv;rw[b];by_cases a:key k-off=v
  ·rw[if_pos a,if_pos og,C5,if_pos og,zld fun i f=>if_neg fun g=>d i f og,<-a,e];congr 1;grind
  ·rw[if_neg a,c,C5,if_neg og];congr 1;grind
 ·have b:(J0 N off b0 key X (k+1))[v]? =none:=List.getElem?_eq_none (by rw[zmw];omega);have c:(J0 N off b0 key X k)[v]? =none:=List.getElem?_eq_none (by rw[zmw];omega);rw[b,if_neg og,c]
theorem ygf (h:b<off\/off+N<=b):List.replicate N (0:Rat)=N7 N fun v=>if b=off+v then 1 else 0:=by rw[<-zze];unfold N7;refine List.map_congr_left fun v hv=> ?_;have:=List.mem_range.1 hv;rw[if_neg og]
theorem ygg (h:off<=b) (d:b<off+N):(List.replicate N (0:Rat)).set (b-off) (((1:Nat):Int):Rat)=N7 N fun v=>if b=off+v then 1 else 0:=by
 apply List.ext_getElem?;intro v;rw[List.getElem?_set,List.length_replicate];by_cases hv:v<N
 ·have a:(N7 N fun v=>if b=off+v then(1:Rat) else 0)[v]? =some (if b=off+v then 1 else 0):=zrv hv;rw[a];by_cases c:b-off=v
  ·rw[if_pos c,if_pos og,if_pos og];rfl
  ·rw[if_neg c,if_neg og,List.getElem?_replicate,if_pos hv]
 ·have a:(N7 N fun v=>if b=off+v then(1:Rat) else 0)[v]? =none:=List.getElem?_eq_none (by rw[zqn];omega);rw[a,if_neg og,List.getElem?_replicate,if_neg hv]
theorem yxl (l:List Rat) (j:Nat) (q:Rat):C0 (l.set j q)=(C0 l).set j (D8 q):=by unfold C0;rw[List.map_set]
theorem zot (l:List Rat):(C0 l).length=l.length:=by simp[C0]
theorem zpk {w:o} {a cap:Nat} {l:List Rat} (h:OwnS 3 37 IsR w base S (.slice (some ⟨a,0,none⟩) N cap) (C0 l)) (c:l.length=N) (e:j<N) {x y z:u} {q:Rat} (d:IsQ w S (.agg #[x,y,z]) q):
 OwnS 3 37 IsR (L9 w a j x y z) base S (.slice (some ⟨a,0,none⟩) N cap) (C0 (l.set j q)):=by have b:(C0 l).length=N:=(by rw[zot,c]);rw[<-b] at h;have:=OwnS.set3 IsR.stb h (j:=j) (by rw[b];exact e) d;rw[<-yxl,zot,List.length_set,c] at this;exact this
theorem zqc {w:o} {cap:Nat} {A:Option Addr} {l:List Rat} (h:OwnS 3 37 IsR w base S (.slice A N cap) (C0 l)) (m:l.length=N) (B:j<N):
 ∃a,A=some ⟨a,0,none⟩/\base<=a/\a<w.heap.size/\N<=cap/\cap<=9223372036854775807/\(∀p,w.frozen? ⟨a,p,none⟩=false)/\∃x y z,w.cell? ⟨a,j*3,none⟩=some x/\w.cell? ⟨a,j*3+1,none⟩=some y/\w.cell? ⟨a,j*3+2,none⟩=some z:=by have C:C0 l≠[]:=fun d=>(by have:=congrArg List.length d;rw[zot,m] at this;simp at this;omega);obtain⟨b,c,F,H,d,s,e,n,t,f,g,u,-,-⟩:=h.shape C;simp only[Value.slice.injEq] at d;obtain⟨rfl,G,rfl⟩:=d;obtain⟨r,hr⟩:∃r,(C0 l)[j]? =some r:=⟨_,J (by rw[zot,m];exact B)⟩;obtain⟨d,i,v⟩:=u.get hr;obtain⟨D,k,E,q,rfl,_,_⟩:=v;refine⟨b,rfl,s,(Array.getElem?_eq_some_iff.1 e).1,by rw[zot,m] at n;exact n,by unfold maxLen at t;omega,fun p=>by simp[World.frozen?,e],_,_,_,zpu e f (zoo g (i:=0) i rfl),zpu e f (zoo g (i:=1) i rfl),zpu e f (zoo g (i:=2) i rfl)⟩
structure ScOk (sc:Nat->Nat) (top:Nat):Prop where
 sl:∀v,(A9 (sc v)).length<=100000
 sp:∀v,0<sc v
 tl:(A9 top).length<=100000
 tp:0<top
theorem zsu {z:Int} (h:Sz ((z:Int):Rat) 100000):(A9 z.natAbs).length<=100000:=by have a:=h.1;rwa[Rat.num_intCast] at a
def zrq (A:List (List Rat)) (v:List Rat) (i k:Nat):Rat:=C5 i fun j=>(A.getD j []).getD k 0*v.getD j 0
def W6 (A:List (List Rat)) (v:List Rat) (n i k:Nat):List Rat:=N7 n fun c=>zrq A v (if c<k then i+1 else i) c
theorem zrr (A:List (List Rat)) (v:List Rat) (n i k:Nat):(W6 A v n i k).length=n:=zqn _ _
theorem zz1375 (A:List (List Rat)) (v:List Rat) (n:Nat):W6 A v n 0 0=List.replicate n 0:=by rw[<-zze];unfold W6 N7;refine List.map_congr_left fun c _=> ?_;rw[if_neg og];rfl
theorem zz1374 (A:List (List Rat)) (v:List Rat) (n i:Nat):W6 A v n i n=W6 A v n (i+1) 0:=by unfold W6 N7;refine List.map_congr_left fun c hc=> ?_;have:=List.mem_range.1 hc;rw[if_pos this,if_neg og]
theorem zz1372 {A:List (List Rat)} {n:Nat} (h:k<n):(W6 A v n i k)[k]? =some (zrq A v i k):=by unfold W6;rw[zrv h,if_neg og]
theorem yld {A:List (List Rat)} {n:Nat} (h:k<n):(W6 A v n i k).set k (zrq A v i k+(A.getD i []).getD k 0*v.getD i 0)=W6 A v n i (k+1):=by
 apply List.ext_getElem?;intro c;rw[List.getElem?_set,zrr];by_cases hc:c<n
 ·unfold W6;rw[zrv hc,zrv hc];by_cases a:k=c
  ·subst a;rw[if_pos rfl,if_pos h,if_pos og];rfl
  ·rw[if_neg a];by_cases d:c<k
   ·rw[if_pos d,if_pos og]
   ·rw[if_neg d,if_neg og]
 ·have b:∀k,(W6 A v n i k)[c]? =none:=fun k=>List.getElem?_eq_none (by rw[zrr];omega);rw[b,b,if_neg og]
theorem ycm {A:List (List Rat)} (b:∀r∈A,∀q∈r,Sz q 1024) (hv:∀q∈v,Sz q 1024):∀i,Sz (zrq A v i k) (1+i*2049)
 |0=>Sz.zero
 |i+1=>by
  have z:Sz (0:Rat) 1024:=Sz.zero.le og
  have e:Sz ((A.getD i []).getD k 0) 1024:=by
   rcases H i A.length with h|h
   ·have c:A.getD i []=A[i]:=by rw[d,J h];rfl
    rw[c]
    rcases H k A[i].length with a|a
    ·rw[d,J a];exact b _ (List.getElem_mem h) _ (List.getElem_mem a)
    ·rw[d,List.getElem?_eq_none a];exact z
   ·rw[d (l:=A),List.getElem?_eq_none h];exact z
  have g:Sz (v.getD i 0) 1024:=by
   rcases H i v.length with h|h
   ·rw[d,J h];exact hv _ (List.getElem_mem h)
   ·rw[d,List.getElem?_eq_none h];exact z
  have z2:Sz (zrq A v i k) (1+i*2049):=ycm b hv i
  have:=z2.add (e.mul g);show Sz (zrq A v i k+(A.getD i []).getD k 0*v.getD i 0) _;exact this.le og
theorem ylg {w:o} {bx:u} {A:List (List Rat)} {n:Nat} (aC:IsM w (C2 w) s (F9 A)) (hv:IsV w (C2 w) bx (C0 v)) (aE:A.length=v.length) (hr:∀r∈A,r.length=n) (b1:A.length<=40) (b3:n<=40) (sA:∀r∈A,∀q∈r,Sz q 1024) (bv:∀q∈v,Sz q 1024):
 D C 66 #[s,bx,.int .i64 (n:Int)] w fun F w'=>(∃bw,F= .returned bw/\OwnV w w' bw (W6 A v n A.length 0))/\p w.heap.size w w':=by
 have cu:=L7;obtain⟨aO,aR,bC,aY,aZ⟩:=hd5 aC hv hr sA bv;obtain⟨a,cs,rfl,b9⟩:=zqz aC;obtain⟨b,ct,rfl,ca⟩:=M5 hv;have W:(F9 A).length=A.length:=(by simp[F9]);have aA:(C0 v).length=A.length:=(by rw[U6,aE]);obtain⟨af,Y⟩:=nm (A.length);rw[W,<-Y] at aO b9;rw[aA,<-Y] at aR ca;rw[W,aA,<-Y];obtain⟨aP,bB⟩:=C4 Y aE;rw[<-Y] at b1;clear aC hv hr sA bv W aA Y aE;go_in;go_wp2_with fail;refine(zry w (n:=n) b3).mono ?_;rintro F e ⟨⟨cO,rfl,bJ,ak,zkf⟩,bf⟩;obtain⟨aL,az,rfl⟩:=ak.slice;have W:(C0 (List.replicate n (0:Rat))).length=n:=(by rw[zot,List.length_replicate]);rw[W] at ak⊢;obtain⟨bE,bD,bA⟩:=G4 ak zkf bf;clear ak zkf bf W;go_wp2_with fail;go_loopw [8,9] (fun aI _ wr=>∃(i:Nat) (aa:Nat->Prop),i<=af/\aI= .int .i64 (i:Int)/\p w.heap.size w wr/\OwnS 3 37 IsR wr w.heap.size aa (.slice aL n az) (C0 (W6 A v n i 0))/\f (∀b,aa b->w.heap.size<=b)) (fun aI _ _=>af-(intOf aI).toNat);case atStart=>exact⟨0,bJ,I _,rfl,bA.out,by rw[zz1375];exact bE.out,bD.out⟩
 case round=>
  obtain⟨i,aa,cy,rfl,bh,ab,a9⟩:=hrel;obtain⟨cP,rfl⟩:=nm (wr);obtain⟨aM,aU⟩:=C4 bh ab;clear bh ab;rcases H i af with X|bZ
  ·have Z:=m X;have cz:(0:Int)<=(i:Int):=og;have cA:(i:Int)<(af:Int):=og;go_wp2_with fail;go_loopw [9] (fun aJ wr=>∃(k:Nat) (S3:Nat->Prop),k<=n/\aJ= .int .i64 (k:Int)/\p w.heap.size w wr/\OwnS 3 37 IsR wr w.heap.size S3 (.slice aL n az) (C0 (W6 A v n i k))/\f (∀b,S3 b->w.heap.size<=b)) (fun aJ _=>n-(intOf aJ).toNat);case atStart=>exact⟨0,aa,I _,rfl,aM.out,aU.out,a9.out⟩
   case round=>
    obtain⟨k,S3,cB,rfl,bg,ab,aD⟩:=hrel;obtain⟨l,V⟩:=C4 bg ab;clear bg ab;rcases H k n with X|bZ
    ·have P:=m X;obtain⟨r,ac⟩:=zlp (l:=A) (j:=i) (by rw[<-aP.out];exact Z.out);have bp:r.length=n:=bC.out r (M ac);have bq:(F9 A)[i]? =some (C0 r):=(by unfold F9;rw[K,ac];rfl);obtain⟨b0,cL,B,cE,rfl,bT,N,aj⟩:=zsm aO.out bq;rw[U6,bp] at N aj;obtain⟨q,aG,bn⟩:=zoe (l:=r) (j:=k) (by rw[bp];exact X);obtain⟨bK,cM,cl,cF,cq,cI,rfl,bU,bi,ay,a1,a2⟩:=zlc N bn;obtain⟨y,aH,bt⟩:=zoe (l:=v) (j:=i) (by rw[<-bB.out,<-aP.out];exact Z.out);obtain⟨bL,cN,cm,cG,cr,cJ,rfl,bV,bj,d0,a3,a4⟩:=zlc aR.out bt;have aV:f (IsQ wr (C2 wr) _ q):=m (IsQ.stb.to bi (E7 l.out));have aW:f (IsQ wr (C2 wr) _ y):=m (IsQ.stb.to bj (E7 l.out));obtain⟨ag,ah⟩:=C4 (aY.out r (M ac) q (M aG)) (aZ.out y (M aH));(have aN:f ((A.getD i []).getD k 0*v.getD i 0=q*y):=by rw[f,d (l:=A),ac];show r.getD k 0*_=_;rw[d,aG,d,aH];rfl);obtain⟨S,rfl,bd,be,cw,cx,ai,-,-,-,-,-,-⟩:=zqc V.out (zrr _ _ _ _ _) (j:=k) X;have br:IsV wr (C2 wr) (.slice (some ⟨S,0,none⟩) n az) (C0 (W6 A v n i k)):=V.out.isS IsR.stb (fun b E=>by obtain⟨_,_,_,_,bR⟩:=V.out;exact(bR b E).1) (fun b cv bQ=>bQ);obtain⟨z,al⟩:=nm (zrq A v i k);have bu:(C0 (W6 A v n i k))[k]? =some (D8 z):=(by rw[al];unfold C0;rw[K,zz1372 X];rfl);obtain⟨bM,cb,cn,cH,Q3,cK,a5,-,bm,u0,u1,u2⟩:=zlc br bu;obtain⟨rfl,rfl⟩:S=bM/\0=cb:=(by cases a5;exact⟨rfl,rfl⟩);have aX:f (IsQ _ _ _ z):=m bm;have a0:f (Sz z 90000):=(by rw[f,al];exact(ycm aY.out aZ.out i).le (by have:=Z.out;omega));have aT:=m al;have a6:=ai (k*3);have a7:=ai (k*3+1);have a8:=ai (k*3+2);have aS:=m (And.intro bd be);have cC:(0:Int)<=(k:Int):=og;have cD:(k:Int)<(n:Int):=og;have n0:b0≠S:=(by have:=L w _ aj;simp at this;omega);have an:bK≠S:=(by have:=L w _ ay;simp at this;omega);have ao:bL≠S:=(by have:=L w _ d0;simp at this;omega);have Q:=hs7 (B9 l.out aj) (B9 l.out ay) (B9 l.out a1) (B9 l.out a2) (B9 l.out d0) (B9 l.out a3) (B9 l.out a4);have aQ:=zpf k Q (nA n0 (nA an (nA an (nA an (nA ao (nA ao (nZ ao)))))));rw[Nat.zero_add] at u0 u1 u2;obtain⟨j,U⟩:=C4 (And.intro u0 (And.intro u1 u2)) (And.intro a6 (And.intro a7 a8));clear ac aG bn aH bt bq N bi bj bd be ai br al bu a5 bm bT bU bV aj ay a1 a2 d0 a3 a4 n0 an ao a6 a7 a8;go_wp2_with fail;refine wp_region_noPanic ?_;refine zlb Q fun R=> ?_;refine sT 0 23 ?_;refine sT 1 24 ?_;refine sT 2 25 ?_;refine sT 3 26 ?_;refine sT 4 27 ?_;refine sT 6 29 ?_;refine sT 7 30 ?_;refine sT 8 31 ?_;refine sT 9 32 ?_;refine sT 10 33 ?_;refine sT 11 34 ?_;refine sT 12 35 ?_;refine sT 13 36 ?_;refine sT 14 37 ?_;refine sT 15 38 ?_;refine sT 16 39 ?_;refine wpAnyH_ready (rs:=[5,17]) kr (by simp) ?_;refine AllReadyH.cons rfl (fun t c=> ?_) (AllReadyH.cons rfl (fun t c=> ?_) AllReadyH.nil)
     ·go_simp;refine c.out _ _ (Q.out _ bel) (fun R=> ?_);clear c t;refine sP ?_;refine wpAnyH_ready (rs:=[17]) kr (by simp) ?_;refine AllReadyH.cons rfl (fun t c=> ?_) AllReadyH.nil;go_simp;go_at_call 20;(with_reducible refine Calls.mono (zym (uQ _ aV) (uQ _ aW) (ag.out.le og) (ah.out.le og) rfl) ?_)
      rintro F aK ⟨⟨cj,rfl,ad⟩,bX⟩;have J:=bW wr aK;have au:=m (IsQ.stb.old ad);obtain⟨cc,bF,b4,bH,b7,rfl,_,_,_⟩:=G9 ad;have cf:=B9 J.out j.out.1;have cg:=B9 J.out j.out.2.1;have ch:=B9 J.out j.out.2.2;(focus go_wp2_with fail)
      refine c.out _ _ (Q.out _ bel) (fun R=> ?_);clear c t;refine sP ?_;refine wpAnyH_ready (rs:=[18]) kr (by simp) ?_;refine AllReadyH.cons rfl (fun t c=> ?_) AllReadyH.nil;go_simp;go_at_call 19;(with_reducible refine Calls.mono (zvo (uQ _ aX) (uQ _ au) (a0.out.le og) ((ag.out.mul ah.out).le og) rfl) ?_)
      rintro F O ⟨⟨ck,rfl,ae⟩,bY⟩;have g:=bW wr O;have av:=m ae;obtain⟨cd,bG,b5,bI,b8,rfl,_,_,_⟩:=G9 ae;have r0:=B9 g.out j.out.1;have r1:=B9 g.out j.out.2.1;have r2:=B9 g.out j.out.2.2;have bN:=G6 g.out j.out.1 U.out.1;have bO:=G6 g.out j.out.2.1 U.out.2.1;have bP:=G6 g.out j.out.2.2 U.out.2.2;(focus go_wp2_with fail)
      refine c.out _ _ (Q.out _ bel) (fun R=> ?_);clear c t;refine sP ?_;refine sT 19 42 ?_;refine wpAnyH_ready (rs:=[20]) kr (by simp) ?_;refine AllReadyH.cons rfl (fun t c=> ?_) AllReadyH.nil;go_simp;refine c.out _ _ (aQ.out _ bel _ _ _) (fun R=> ?_);clear c t;refine sP ?_;refine wpAnyH_done kr ?_ _;refine NoPanic.normal ?_;have hst:=OwnS.step IsR.stb (T:=fun b=>S3 b\/(wr.heap.size<=b/\b<O.heap.size)) V.out g.out (fun b h=> .inl h) (fun b h=>h);have N:=IsQ.stb.to av.out (E0 (T:=fun b=>S3 b\/(wr.heap.size<=b/\b<O.heap.size)) fun b h=> .inr ⟨G J.out.size h.1,h.2⟩);have T:=zpk hst (zrr _ _ _ _ _) P.out N;have aB:(W6 A v n i k).set k (z+q*y)=W6 A v n i (k+1):=(by rw[aT.out,<-aN.out];exact yld P.out);rw[aB] at T;have ar:=m T;have aq:f (∀x y z,p w.heap.size w (L9 O S k x y z)):=fun x y z=>(C9 l.out g.out).grown (zlk (H8 _ _)) (G l.out.size g.out.size) (fun x F=>by cases F;exact aS.out.1);clear hst N T;go_wp2_with fail;go_roundw;(case rel=>exact⟨k+1,_,P.out,by go_num,aq.out _ _ _,ar.out,fun b E=>by rcases E with E|E;exact aD.out b E;exact G l.out.size E.1⟩);case measure=>simp[intOf];have:=P.out;omega
     ·go_simp;go_at_call 20;(with_reducible refine Calls.mono (zym (uQ _ aV) (uQ _ aW) (ag.out.le og) (ah.out.le og) rfl) ?_)
      rintro F aK ⟨⟨cj,rfl,ad⟩,bX⟩;have J:=bW wr aK;have au:=m (IsQ.stb.old ad);obtain⟨cc,bF,b4,bH,b7,rfl,_,_,_⟩:=G9 ad;have cf:=B9 J.out j.out.1;have cg:=B9 J.out j.out.2.1;have ch:=B9 J.out j.out.2.2;(focus go_wp2_with fail)
      refine c.out _ _ (Q.out _ bel) (fun R=> ?_);clear c t;refine sP ?_;refine wpAnyH_ready (rs:=[5]) kr (by simp) ?_;refine AllReadyH.cons rfl (fun t c=> ?_) AllReadyH.nil;go_simp;refine c.out _ _ (Q.out _ bel) (fun R=> ?_);clear c t;refine sP ?_;refine wpAnyH_ready (rs:=[18]) kr (by simp) ?_;refine AllReadyH.cons rfl (fun t c=> ?_) AllReadyH.nil;go_simp;go_at_call 19;(with_reducible refine Calls.mono (zvo (uQ _ aX) (uQ _ au) (a0.out.le og) ((ag.out.mul ah.out).le og) rfl) ?_)
      rintro F O ⟨⟨ck,rfl,ae⟩,bY⟩;have g:=bW wr O;have av:=m ae;obtain⟨cd,bG,b5,bI,b8,rfl,_,_,_⟩:=G9 ae;have r0:=B9 g.out j.out.1;have r1:=B9 g.out j.out.2.1;have r2:=B9 g.out j.out.2.2;have bN:=G6 g.out j.out.1 U.out.1;have bO:=G6 g.out j.out.2.1 U.out.2.1;have bP:=G6 g.out j.out.2.2 U.out.2.2;(focus go_wp2_with fail)
      refine c.out _ _ (Q.out _ bel) (fun R=> ?_);clear c t;refine sP ?_;refine sT 19 42 ?_;refine wpAnyH_ready (rs:=[20]) kr (by simp) ?_;refine AllReadyH.cons rfl (fun t c=> ?_) AllReadyH.nil;go_simp;refine c.out _ _ (aQ.out _ bel _ _ _) (fun R=> ?_);clear c t;refine sP ?_;refine wpAnyH_done kr ?_ _;refine NoPanic.normal ?_;have hst:=OwnS.step IsR.stb (T:=fun b=>S3 b\/(wr.heap.size<=b/\b<O.heap.size)) V.out g.out (fun b h=> .inl h) (fun b h=>h);have N:=IsQ.stb.to av.out (E0 (T:=fun b=>S3 b\/(wr.heap.size<=b/\b<O.heap.size)) fun b h=> .inr ⟨G J.out.size h.1,h.2⟩);have T:=zpk hst (zrr _ _ _ _ _) P.out N;have aB:(W6 A v n i k).set k (z+q*y)=W6 A v n i (k+1):=(by rw[aT.out,<-aN.out];exact yld P.out);rw[aB] at T;have ar:=m T;have aq:f (∀x y z,p w.heap.size w (L9 O S k x y z)):=fun x y z=>(C9 l.out g.out).grown (zlk (H8 _ _)) (G l.out.size g.out.size) (fun x F=>by cases F;exact aS.out.1);clear hst N T;go_wp2_with fail;go_roundw;(case rel=>exact⟨k+1,_,P.out,by go_num,aq.out _ _ _,ar.out,fun b E=>by rcases E with E|E;exact aD.out b E;exact G l.out.size E.1⟩);case measure=>simp[intOf];have:=P.out;omega
    ·obtain rfl:k=n:=og;go_wp2_with fail;go_roundw;(case rel=>exact⟨i+1,S3,Z.out,by go_num,l.out,by rw[<-zz1374];exact V.out,aD.out⟩);case measure=>simp[intOf];have:=Z.out;omega
  ·obtain rfl:i=af:=og;go_wp2_with fail;go_ret;exact⟨⟨_,rfl,aa,aU.out,a9.out⟩,aM.out⟩
theorem zsw {w:o} {l:List Nat} {B:Nat} (ha:IsL .u32 w lo B s l):
 D C 148 #[s] w fun n w'=>n= .returned (.int .i64 (L8 l))/\w=w':=by
 obtain⟨A,c,rfl,hc,K,t⟩:=ha;by_cases q:1024<l.length
 ·have a:=m (yeg q);go_in;go_wp2;go_ret;exact⟨I0 a.out.symm,rfl⟩
 ·go_in;go_wp2;go_loop [3] (fun i=>∃k:Nat,k<=l.length/\i= .int .i64 k/\f (∀j,j<k->l.getD j 0<1000000000)) (fun i=>l.length-(intOf i).toNat);case atStart=>exact⟨0,I _,rfl,fun j E=>by omega⟩
  case round=>
   obtain⟨k,L,rfl,p⟩:=hrel;by_cases g:k<l.length
   ·obtain⟨b,off,rfl,_,_,d⟩:=t (L5 (j:=k) g);obtain⟨x,e,F,z⟩:=zmz (j:=k) d g;clear d;rcases Int.lt_or_le x 1000000000 with G|G
    ·go_wp2;go_round
     case rel=>
      refine⟨k+1,g,by go_num,?_⟩;intro j E;rcases H j k with h|h
      ·exact p.out j h
      ·obtain rfl:j=k:=og;have:=e.out;omega
     case measure=>simp[intOf];omega
    ·have a:=m (yee q (yfx g) (oh e));go_wp2;go_ret;exact⟨I0 a.out.symm,rfl⟩
   ·obtain rfl:k=l.length:=og;have u:=m (zzz q (yhj p.out));clear p;by_cases y:0<l.length
    ·obtain⟨b,off,rfl,_,_,d⟩:=t (L5 (j:=l.length-1) og);obtain⟨x,e,F,z⟩:=zmz (j:=l.length-1) d og;clear d;have v:=m (ygs y);by_cases r:x=0
     ·subst r;have a:f (L8 l=3):=(by unfold f;rw[u.out,if_pos];rw[v.out];have:=e.out;omega);go_wp2;go_ret;exact⟨I0 a.out.symm,rfl⟩
     ·have J:(x==0)=false:=beq_eq_false_iff_ne.2 r;have a:f (L8 l=0):=(by unfold f;rw[u.out,if_neg];rw[v.out];have:=e.out;omega);clear r;go_wp2;go_ret;exact⟨I0 a.out.symm,rfl⟩
    ·have n:l=[]:=List.eq_nil_of_length_eq_zero og;subst n;(have a:f (L8 []=0):=by show L8 []=0;decide);go_wp2;go_ret;exact⟨I0 a.out.symm,rfl⟩
theorem zua {w:o} {a b:List Nat} (ha:IsL .u32 w 0 w.heap.size s a) (u:IsL .u32 w 0 w.heap.size z b):D C 77 #[s,z] w fun h w'=>h= .returned (.int .i64 (W8 a b))/\w=w':=by
 obtain⟨p,r⟩:=C4 ha u;obtain⟨A,c,rfl,_,_,_⟩:=ha;obtain⟨B,d,rfl,_,_,_⟩:=u;obtain⟨x,v⟩:=nm (L8 a);obtain⟨y,E⟩:=nm (L8 b);obtain⟨g,j⟩:=C4 v E;clear v E;by_cases l:x=0;(case neg=>have F:(x !=0)=true:=bne_iff_ne.2 l;have i:f (W8 a b=x):=(by unfold f W8;rw[<-g.out,if_pos l]);go_in;go_wp2_with fail;refine(zsw p.out).mono ?_;rw[<-g.out];rintro h e ⟨rfl,rfl⟩;go_wp2_with fail;go_ret;exact⟨I0 i.out.symm,rfl⟩);have F:(x !=0)=false:=(by rw[l];rfl);have q:=m l;clear l;by_cases n:y=0;(case neg=>have G:(y !=0)=true:=bne_iff_ne.2 n;have i:f (W8 a b=y):=(by unfold f W8;rw[<-g.out,if_neg (by simp[q.out]),<-j.out,if_pos n]);go_in;go_wp2_with fail;refine(zsw p.out).mono ?_;rw[<-g.out];rintro h e ⟨rfl,rfl⟩;go_wp2_with fail;refine(zsw r.out).mono ?_;rw[<-j.out];rintro h e ⟨rfl,rfl⟩;go_wp2_with fail;go_ret;exact⟨I0 i.out.symm,rfl⟩);have G:(y !=0)=false:=(by rw[n];rfl);have t:=m n;clear n;by_cases k:b=[]
 ·have H:((b.length:Int)==0)=true:=(by rw[k];rfl);have i:f (W8 a b=6):=(by unfold f W8;rw[<-g.out,if_neg (by simp[q.out]),<-j.out,if_neg (by simp[t.out]),if_pos k]);clear k;go_in;go_wp2_with fail;refine(zsw p.out).mono ?_;rw[<-g.out];rintro h e ⟨rfl,rfl⟩;go_wp2_with fail;refine(zsw r.out).mono ?_;rw[<-j.out];rintro h e ⟨rfl,rfl⟩;go_wp2_with fail;go_ret;exact⟨I0 i.out.symm,rfl⟩
 ·have H:((b.length:Int)==0)=false:=beq_eq_false_iff_ne.2 (by have:=List.length_pos_iff.2 k;omega);have i:f (W8 a b=0):=(by unfold f W8;rw[<-g.out,if_neg (by simp[q.out]),<-j.out,if_neg (by simp[t.out]),if_neg k]);clear k;go_in;go_wp2_with fail;refine(zsw p.out).mono ?_;rw[<-g.out];rintro h e ⟨rfl,rfl⟩;go_wp2_with fail;refine(zsw r.out).mono ?_;rw[<-j.out];rintro h e ⟨rfl,rfl⟩;go_wp2_with fail;go_ret;exact⟨I0 i.out.symm,rfl⟩
theorem zqd {w:o} {x y:Nat} (ha:IsN w 0 w.heap.size s x) (d:IsN w 0 w.heap.size z y) (b:(A9 x).length<=1024) (c:(A9 y).length<=1024):
 D C 78 #[s,z] w fun a w'=>(∃v,a= .returned v/\IsN w' 0 w'.heap.size v (Nat.gcd x y))/\p w.heap.size w w':=
 yix ha d (G b og) (G c og)
theorem zvs {w:o} {v:u} (h:IsR w (C2 w) v r):D C 27 #[v] w fun c w'=>c= .returned (.int .i64 (R3 r))/\p w.heap.size w w':=by
 obtain⟨A,t,B,y,rfl,T,U⟩:=ygn h;obtain⟨i,aM,aj,ay,aO⟩:=K0 w #[.bool r.neg,.slice A r.num.length t,.slice B r.den.length y] 37;obtain⟨R,X⟩:=C4 (IsK.isL (IsK.stb.next T aj) (lo:=0) (hi:=i.heap.size) fun b a=>⟨I _,a⟩) (IsK.isL (IsK.stb.next U aj) (lo:=0) (hi:=i.heap.size) fun b a=>⟨I _,a⟩);obtain⟨aa,ad,ae⟩:=C3 ay;obtain⟨Y,Z⟩:=C4 ay aj;have aP:r.num.length<=9223372036854775807:=(by have:=R.out.length_le;unfold maxLen at this;omega);clear h T U ay aj;obtain⟨x,aE⟩:=nm (W8 r.num r.den);have q:=m aE;clear aE;by_cases ac:x=0;(case neg=>have aG:(x !=0)=true:=bne_iff_ne.2 ac;have k:f (R3 r=x):=(by rw[f,q.out];exact yec (by rw[<-q.out];exact ac));go_in;go_wp2_with fail;refine(zua R.out X.out).mono ?_;rw[<-q.out];rintro c e ⟨rfl,rfl⟩;go_wp2_with fail;go_ret;exact⟨I0 k.out.symm,Z.out⟩);have aG:(x !=0)=false:=(by rw[ac];rfl);have V:=yea (num:=r.num) (den:=r.den) (by rw[<-q.out];exact ac);obtain⟨aC,aN,n,l⟩:=Z5 (yed (r:=r) (by rw[<-q.out];exact ac)) V (R.out.isN V.1) (X.out.isN V.2.1);have aL:=(zqu V.1).2.2;have aK:=(zqu V.2.1).2.2;obtain⟨N,F⟩:=C4 (zwr V.1) (zwr V.2.1);clear V ac;clear aL aK;obtain⟨g,ai⟩:=nm (Nat.gcd (val r.num) (val r.den));have af:f ((r.num=[]/\r.neg=true)\/g≠1->R3 r=3):=fun h=>(by rw[aC.out,if_pos (by rw[<-ai];exact h)]);have an:f (¬((r.num=[]/\r.neg=true)\/g≠1)->R3 r=0):=fun h=>(by rw[aC.out,if_neg (by rw[<-ai];exact h)]);have z:=m ai;clear ai;obtain⟨s,aD⟩:=nm (r.neg);rw[<-aD] at aa aM af an Y⊢;clear aD;by_cases T:(A9 g).length=1;(case neg=>have aH:(((A9 g).length:Int) !=1)=true:=bne_iff_ne.2 og;have k:f (R3 r=3):=af.out (.inr fun h=>T (by rw[h,zka];rfl));clear T;go_in;go_wp2_with fail;refine(zua R.out X.out).mono ?_;rw[<-q.out];rintro c e ⟨rfl,rfl⟩;go_wp2_with fail;refine(show D C 78 #[.slice A r.num.length t,.slice B r.den.length y] i (fun c w'=>(∃v,c= .returned v/\IsN w' 0 w'.heap.size v g)/\p i.heap.size i w') from by rw[z.out];exact zqd n.out l.out N.out F.out).mono ?_;rintro c e ⟨⟨al,rfl,hv⟩,a⟩;have E:=nB Z a;obtain⟨b0,S,b2⟩:=C3 (Y.out.next a);obtain⟨Q,P⟩:=C4 (IsN.next n.out a) (IsN.next l.out a);obtain⟨ah,ak,rfl,_,_,_⟩:=hv;clear a aa ad ae;go_wp2_with fail;go_ret;exact⟨I0 k.out.symm,E.out⟩);have aH:(((A9 g).length:Int) !=1)=false:=(by rw[T];rfl);have ag:=m T;have aQ:0<(A9 g).length:=og;clear T;by_cases U:g=1;(case neg=>have aI:((g:Int) !=1)=true:=bne_iff_ne.2 og;have k:f (R3 r=3):=af.out (.inr U);clear U;go_in;go_wp2_with fail;refine(zua R.out X.out).mono ?_;rw[<-q.out];rintro c e ⟨rfl,rfl⟩;go_wp2_with fail;refine(show D C 78 #[.slice A r.num.length t,.slice B r.den.length y] i (fun c w'=>(∃v,c= .returned v/\IsN w' 0 w'.heap.size v g)/\p i.heap.size i w') from by rw[z.out];exact zqd n.out l.out N.out F.out).mono ?_;rintro c e ⟨⟨al,rfl,hv⟩,a⟩;have E:=nB Z a;have j:=m (Y.out.next a);obtain⟨b0,S,b2⟩:=C3 j.out;obtain⟨Q,P⟩:=C4 (IsN.next n.out a) (IsN.next l.out a);obtain⟨ah,ak,rfl,_,_,_⟩:=hv;clear a aa ad ae;go_wp2_with fail;refine(show D C 78 #[.slice A r.num.length t,.slice B r.den.length y] e (fun c w'=>(∃v,c= .returned v/\IsN w' 0 w'.heap.size v g)/\p e.heap.size e w') from by rw[z.out];exact zqd Q.out P.out N.out F.out).mono ?_;rintro c aA ⟨⟨az,rfl,hv⟩,a⟩;have W:=nB E a;obtain⟨d0,ar,au⟩:=C3 (j.out.next a);obtain⟨ao,av,rfl,_,_,_⟩:=id hv;obtain⟨aq,og,rfl,hg,_,_⟩:=zyc (znm hv) ag.out;clear a b0 S b2;go_wp2_with fail;go_ret;exact⟨I0 k.out.symm,W.out⟩);have aI:((g:Int) !=1)=false:=(by rw[U];rfl);have aB:=m U;clear U;cases s with
 |false=>have k:f (R3 r=0):=an.out (by simp[aB.out]);go_in;go_wp2_with fail;refine(zua R.out X.out).mono ?_;rw[<-q.out];rintro c e ⟨rfl,rfl⟩;go_wp2_with fail;refine(show D C 78 #[.slice A r.num.length t,.slice B r.den.length y] i (fun c w'=>(∃v,c= .returned v/\IsN w' 0 w'.heap.size v g)/\p i.heap.size i w') from by rw[z.out];exact zqd n.out l.out N.out F.out).mono ?_;rintro c e ⟨⟨al,rfl,hv⟩,a⟩;have E:=nB Z a;have j:=m (Y.out.next a);obtain⟨b0,S,b2⟩:=C3 j.out;obtain⟨Q,P⟩:=C4 (IsN.next n.out a) (IsN.next l.out a);obtain⟨ah,ak,rfl,_,_,_⟩:=hv;clear a aa ad ae;go_wp2_with fail;refine(show D C 78 #[.slice A r.num.length t,.slice B r.den.length y] e (fun c w'=>(∃v,c= .returned v/\IsN w' 0 w'.heap.size v g)/\p e.heap.size e w') from by rw[z.out];exact zqd Q.out P.out N.out F.out).mono ?_;rintro c aA ⟨⟨az,rfl,hv⟩,a⟩;have W:=nB E a;obtain⟨d0,ar,au⟩:=C3 (j.out.next a);obtain⟨ao,av,rfl,_,_,_⟩:=id hv;obtain⟨aq,og,rfl,hg,_,_⟩:=zyc (znm hv) ag.out;clear a b0 S b2;go_wp2_with fail;go_ret;exact⟨I0 k.out.symm,W.out⟩
 |true=>
  by_cases ab:r.num=[]
  ·have aJ:((r.num.length:Int)==0)=true:=(by rw[ab];rfl);have k:f (R3 r=3):=af.out (.inl ⟨ab,rfl⟩);clear ab;go_in;go_wp2_with fail;refine(zua R.out X.out).mono ?_;rw[<-q.out];rintro c e ⟨rfl,rfl⟩;go_wp2_with fail;refine(show D C 78 #[.slice A r.num.length t,.slice B r.den.length y] i (fun c w'=>(∃v,c= .returned v/\IsN w' 0 w'.heap.size v g)/\p i.heap.size i w') from by rw[z.out];exact zqd n.out l.out N.out F.out).mono ?_;rintro c e ⟨⟨al,rfl,hv⟩,a⟩;have E:=nB Z a;have j:=m (Y.out.next a);obtain⟨b0,S,b2⟩:=C3 j.out;obtain⟨Q,P⟩:=C4 (IsN.next n.out a) (IsN.next l.out a);obtain⟨ah,ak,rfl,_,_,_⟩:=hv;clear a aa ad ae;go_wp2_with fail;refine(show D C 78 #[.slice A r.num.length t,.slice B r.den.length y] e (fun c w'=>(∃v,c= .returned v/\IsN w' 0 w'.heap.size v g)/\p e.heap.size e w') from by rw[z.out];exact zqd Q.out P.out N.out F.out).mono ?_;rintro c aA ⟨⟨az,rfl,hv⟩,a⟩;have W:=nB E a;obtain⟨d0,ar,au⟩:=C3 (j.out.next a);obtain⟨ao,av,rfl,_,_,_⟩:=id hv;obtain⟨aq,og,rfl,hg,_,_⟩:=zyc (znm hv) ag.out;clear a b0 S b2;go_wp2_with fail;go_ret;exact⟨I0 k.out.symm,W.out⟩
  ·have aJ:((r.num.length:Int)==0)=false:=beq_eq_false_iff_ne.2 (by have:=List.length_pos_iff.2 ab;omega);have k:f (R3 r=0):=an.out (by simp[aB.out,ab]);clear ab;go_in;go_wp2_with fail;refine(zua R.out X.out).mono ?_;rw[<-q.out];rintro c e ⟨rfl,rfl⟩;go_wp2_with fail;refine(show D C 78 #[.slice A r.num.length t,.slice B r.den.length y] i (fun c w'=>(∃v,c= .returned v/\IsN w' 0 w'.heap.size v g)/\p i.heap.size i w') from by rw[z.out];exact zqd n.out l.out N.out F.out).mono ?_;rintro c e ⟨⟨al,rfl,hv⟩,a⟩;have E:=nB Z a;have j:=m (Y.out.next a);obtain⟨b0,S,b2⟩:=C3 j.out;obtain⟨Q,P⟩:=C4 (IsN.next n.out a) (IsN.next l.out a);obtain⟨ah,ak,rfl,_,_,_⟩:=hv;clear a aa ad ae;go_wp2_with fail;refine(show D C 78 #[.slice A r.num.length t,.slice B r.den.length y] e (fun c w'=>(∃v,c= .returned v/\IsN w' 0 w'.heap.size v g)/\p e.heap.size e w') from by rw[z.out];exact zqd Q.out P.out N.out F.out).mono ?_;rintro c aA ⟨⟨az,rfl,hv⟩,a⟩;have W:=nB E a;obtain⟨d0,ar,au⟩:=C3 (j.out.next a);obtain⟨ao,av,rfl,_,_,_⟩:=id hv;obtain⟨aq,og,rfl,hg,_,_⟩:=zyc (znm hv) ag.out;clear a b0 S b2;go_wp2_with fail;go_ret;exact⟨I0 k.out.symm,W.out⟩
theorem yyf (h:l[j]? =some r):(l.map R3).getD j 0=R3 r:=by rw[d,K,h];rfl
theorem yyt {a:Type} {l:List a} (h:j<l.length):∃x,l[j]? =some x:=⟨_,J h⟩
theorem yyg {w:o} {v:u} (h:IsV w (C2 w) v l):
 D C 144 #[v] w fun z w'=>z= .returned (.int .i64 (zqt l))/\p w.heap.size w w':=by
 have J:=m h;obtain⟨A,c,rfl,Y⟩:=M5 h;clear h;go_in;go_wp2_with fail;go_loopw [3] (fun i wr=>∃k:Nat,k<=l.length/\i= .int .i64 (k:Int)/\p w.heap.size w wr/\f (∀j,j<k->(l.map R3).getD j 0=0)) (fun i _=>l.length-(intOf i).toNat);case atStart=>exact⟨0,I _,rfl,Below.refl _ _,fun j N=>by omega⟩
 case round=>
  obtain⟨k,X,rfl,n,hrel⟩:=hrel;have s:=m n;have y:=m hrel.out;clear hrel;rcases H k l.length with O|W
  ·obtain⟨r,hr⟩:=yyt O;obtain⟨b,off,P,Z,Q,aa,rfl,V,F,R,S,T⟩:=zlc (IsV.stb.next J.out n) hr;obtain⟨B,E⟩:=C4 F hr;have U:=L7;obtain⟨x,G⟩:=nm (R3 r);have g:=m G;clear F hr n G;by_cases a:x=0
   ·have M:(x !=0)=false:=(by rw[a];rfl);have L:=m a;clear a;go_wp2_with fail;refine(zvs B.out).mono ?_;rw[<-g.out];rintro z e ⟨rfl,d⟩;have q:=nB s d;clear d;go_wp2_with fail;go_roundw
    case rel=>
     refine⟨k+1,by omega,by go_num,q.out,fun j N=> ?_⟩;rcases H j k with h|h
     ·exact y.out j h
     ·obtain rfl:j=k:=og;rw[yyf E.out,<-g.out,L.out]
    case measure=>simp[intOf];omega
   ·have M:(x !=0)=true:=bne_iff_ne.2 a;have t:f (zqt l=x):=(by rw[f];exact ztj y.out (by rw[K,E.out,g.out];rfl) a);clear a;go_wp2_with fail;refine(zvs B.out).mono ?_;rw[<-g.out];rintro z e ⟨rfl,d⟩;have q:=nB s d;clear d;go_wp2_with fail;go_ret;exact⟨I0 t.out.symm,q.out⟩
  ·obtain rfl:k=l.length:=og;have t:f (zqt l=0):=(by rw[f];exact zsk (by rw[List.length_map];exact y.out));clear n;go_wp2_with fail;go_ret;exact⟨I0 t.out.symm,s.out⟩
abbrev pt7 (w:o) (g:Nat) (a b c d e f h:u):o:=((((((w.setCell ⟨g,0,none⟩ a).setCell ⟨g,1,none⟩ b).setCell ⟨g,2,none⟩ c).setCell ⟨g,3,none⟩ d).setCell ⟨g,4,none⟩ e).setCell ⟨g,5,none⟩ f).setCell ⟨g,6,none⟩ h
section
variable {w e : o} {g n : Nat} {t : TypeId} {q x y A B E F : u}
theorem Row.pt7 (h:Row w g t [q,x,y,A,B,E,F]) (a b c d e f k:u):Row (pt7 w g a b c d e f k) g t [a,b,c,d,e,f,k]:=((((((h.set_ 0 a).set_ 1 b).set_ 2 c).set_ 3 d).set_ 4 e).set_ 5 f).set_ 6 k
theorem ynh (h:p n w e) (hg:n<=g) (a b c d f i k:u):p n w (pt7 e g a b c d f i k):=((((((h.setCell (p:=⟨g,0,none⟩) hg a).setCell (p:=⟨g,1,none⟩) hg b).setCell (p:=⟨g,2,none⟩) hg c).setCell (p:=⟨g,3,none⟩) hg d).setCell (p:=⟨g,4,none⟩) hg f).setCell (p:=⟨g,5,none⟩) hg i).setCell (p:=⟨g,6,none⟩) hg k
theorem zwb (w:o) (g:Nat) (a b c d e f k:u):(pt7 w g a b c d e f k).heap.size=w.heap.size:=by simp[pt7,World.setCell]
theorem zqx (w:o) (g:Nat) (a b c d e f k:u):w.grownBy (pt7 w g a b c d e f k) (some g):=J6 (J6 (J6 (J6 (J6 (J6 (I9 _ _ _ _) (I9 _ _ _ _)) (I9 _ _ _ _)) (I9 _ _ _ _)) (I9 _ _ _ _)) (I9 _ _ _ _)) (I9 _ _ _ _)
theorem Z9 {j:Nat} {v:u} (h:w.cell? ⟨b,j,none⟩=some v) (hg:b≠g) (a f c d e i k:u):(pt7 w g a f c d e i k).cell? ⟨b,j,none⟩=some v:=by have l:=L w _ h;rw[<-h];exact World.cell?_of_block ((zqx w g a f c d e i k).block b l fun e=>hg (by injection e))
theorem U8 (h:Row w g t [q,x,y,A,B,E,F]):w.cell? ⟨g,0,none⟩=some q/\w.cell? ⟨g,1,none⟩=some x/\w.cell? ⟨g,2,none⟩=some y/\w.cell? ⟨g,3,none⟩=some A/\w.cell? ⟨g,4,none⟩=some B/\w.cell? ⟨g,5,none⟩=some E/\w.cell? ⟨g,6,none⟩=some F:=⟨h.cell 0,h.cell 1,h.cell 2,h.cell 3,h.cell 4,h.cell 5,h.cell 6⟩
theorem zlj (h:Row w g t [q,x,y,A,B,E,F]):w.frozen? ⟨g,0,none⟩=false/\w.frozen? ⟨g,1,none⟩=false/\w.frozen? ⟨g,2,none⟩=false/\w.frozen? ⟨g,3,none⟩=false/\w.frozen? ⟨g,4,none⟩=false/\w.frozen? ⟨g,5,none⟩=false/\w.frozen? ⟨g,6,none⟩=false:=⟨h.frozen 0,h.frozen 1,h.frozen 2,h.frozen 3,h.frozen 4,h.frozen 5,h.frozen 6⟩
end
theorem zrm:Tryz.prog.cellsOf 39=7:=by kernel_rfl
theorem zmb {fn:Func} {slot:Tmp} {R:Ending->o->Prop} {a:Act} {w:o} {g:Nat} {q x y A B E F:u} (hr:fn.results= #[.cell slot 39]) (ha:a.tmps.getD slot undef= .pointer (some ⟨g,0,none⟩)) (hd:a.defers=[])
 (h:Row w g 39 [q,x,y,A,B,E,F]) (k:R (.returned (.agg #[q,x,y,A,B,E,F])) w):bodyPost C fn R .ret a w:=by refine bodyPost_ret (v:= .agg #[q,x,y,A,B,E,F]) ?_ hd k;obtain⟨b,c,d,e,f,i,j⟩:=U8 h;have l:a.tmps[slot]?.getD undef= .pointer (some ⟨g,0,none⟩):=(by simpa using ha);simp[results,hr,l,asAddr,go_sem,b,c,d,e,f,i,j]
theorem znd {w:o} {st:Int} {x y z a b:u} {q:Rat} {X D R:List Raw} (h:IsQ w S (.agg #[x,y,z]) q) (e:IsV w S a X) (f:IsV w S b D) (g:IsV w S c R):IsSol w S (.agg #[.int .i64 st,x,y,z,a,b,c]) ⟨st,D8 q,X,D,R⟩:=by obtain⟨A,k,B,l,d,s,t⟩:=id h;simp only[Value.agg.injEq,Array.mk.injEq,List.cons.injEq] at d;obtain⟨rfl,rfl,rfl,_⟩:=d;obtain⟨i,n,rfl,_⟩:=M5 e;obtain⟨j,p,rfl,_⟩:=M5 f;obtain⟨m,r,rfl,_⟩:=M5 g;exact⟨A,k,B,l,i,n,j,p,m,r,rfl,h,e,f,g⟩
theorem zmi {w:o}:IsV w S (.slice none 0 0) []:=IsS.nil
def zoj (w:o) (s:Sol) (a:Ending) (w':o):Prop:=(∃v,a= .returned v/\IsSol w' (F6 w.heap.size w') v s)/\p w.heap.size w w'
theorem zma {w e:o} {g:Nat} {a b d f i k:u} {s:Sol} (h:IsSol e (F6 lo e) (.agg #[a,b,c,d,f,i,k]) s) (l:p w.heap.size w e) (hg:w.heap.size<=g) (hlo:g<lo):zoj w s (.returned (.agg #[a,b,c,d,f,i,k])) (pt7 e g a b c d f i k):=by refine⟨⟨_,rfl,IsSol.stb.to h fun x m=> ?_⟩,ynh l hg _ _ _ _ _ _ _⟩;have j:lo<=x/\x<e.heap.size:=m;refine⟨⟨by omega,by rw[zwb];exact j.2⟩,fun n=>World.cell?_of_block ((zqx e g a b c d f i k).block x j.2 fun f=> ?_)⟩;injection f with f;omega
theorem zvt {w:o} {v:u} {x:List Rat} {n:Nat} (h:IsV w (C2 w) v (C0 x)) (k:x.length=n) (d:∀q∈x,Sz q 1024):
 D C 65 #[v,.int .i64 (n:Int)] w fun b w'=>b= .returned (.bool true)/\p w.heap.size w w':=by have a:=m h;obtain⟨A,c,rfl,_⟩:=M5 h;have i:(C0 x).length=n:=(by rw[U6,k]);rw[i] at a⊢;have g:f (zqt (C0 x)=0):=ydz d;clear h d;go_in;go_wp2_with fail;refine(yyg a.out).mono ?_;rw[g.out];rintro b e ⟨rfl,j⟩;go_wp2_with fail;go_ret;exact⟨rfl,j⟩
theorem znw {w:o} {a b:List Rat} (ha:IsV w (C2 w) s (C0 a)) (d:IsV w (C2 w) z (C0 b)) (e:a.length=b.length) (sa:∀q∈a,Sz q 100000) (sb:∀q∈b,Sz q 100000) (hg:Z0 a b=true):
 D C 15 #[s,z] w fun c w'=>c= .returned (.bool true)/\p w.heap.size w w':=by have h:=ydh ha d e sa sb;rw[hg] at h;exact h
theorem yjj {w:o} {a q:Rat} (ha:IsQ w (C2 w) s a) (d:IsQ w (C2 w) z q) (h:a=q):
 D C 26 #[s,z] w fun c w'=>c= .returned (.bool true)/\p w.heap.size w w':=by have b:=zyq (a:=D8 a) (b:=D8 q) ha d;rw[decide_eq_true (by rw[h])] at b;exact b
theorem IsV.oldN {w:o} {n:Nat} {v:u} (h:IsV w (F6 n w) v l):IsV w (C2 w) v l:=IsV.stb.old h
theorem zrp {n:Nat}:∀q∈List.replicate n (0:Rat),Sz q (k+1):=fun q a=>by rw[List.eq_of_mem_replicate a];exact Sz.zero.le og
theorem zum {A:List (List Rat)} {x:List Rat} (b:∀r∈A,∀q∈r,Sz q 1024) (d:∀q∈x,Sz q 1024) (c:∀r∈A,r.length<=40):∀q∈zkc A x,Sz q 100000:=fun q a=>by
 unfold zkc at a
 obtain⟨r,hr,rfl⟩:=List.mem_map.1 a
 exact zww (b r hr) d (c r hr)
theorem yle {A:List (List Rat)} {n b:Nat} (d:∀r∈A,∀q∈r,Sz q 1024) (hv:∀q∈v,Sz q 1024) (e:b<=40):∀q∈W6 A v n b 0,Sz q 100000:=fun q a=>by
 unfold W6 at a
 obtain⟨c,_,rfl⟩:=ztb a
 exact(ycm d hv _).le (by split<;>omega)
end Go.Proofs.YtdgilbgdkmhcmaaGreatDoor
