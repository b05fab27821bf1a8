/-
 A table's lines during a pivot.
-/
import Derived.Test.YtdgilbgdkmhcmaaGreatDoorProofSimplexProves10
namespace Go.Proofs.YtdgilbgdkmhcmaaGreatDoor
open Go.RowKit
set_option linter.unusedVariables false
set_option maxRecDepth 100000
set_option maxHeartbeats 8000000
open _root_.Go.Lib renaming hid → f
open _root_.Nat renaming le_refl → o, le_trans → p, lt_of_lt_of_le → s
open _root_.Go.World renaming cell?_setCell_other → q
open _root_.And renaming intro → b
open _root_.Go.RowKit renaming Hid → a
variable {M c i j k l r : Nat} {t : TB}
def K8 (t:TB) (r c m n i:Nat):Nat->Nat->Int:=fun l j=>
 if l<m then(if l<i/\l≠r then znk (t.A l) (t.A r) c t.d j else t.A l j)
 else if l=m then(if j<i/\j≠r then zkt (t.A j n) (t.A r c) (t.A j c) (t.A r n) t.d else t.A j n) else -(t.A m j)
theorem ywm {m n:Nat} (d:l<m+2):Y7 t m n l j=K8 t r c m n 0 l j:=by
 unfold Y7 K8;by_cases b:l<m
 ·rw[if_neg og,if_neg og,if_pos b,if_neg og]
 ·rw[if_neg b];by_cases a:l=m
  ·rw[if_pos a,if_pos a,if_neg og]
  ·rw[if_neg a,if_neg a,if_pos og]
theorem ywk (t:TB) (r c m n l j:Nat):K8 t r c m n r l j=K8 t r c m n (r+1) l j:=by
 unfold K8;by_cases b:l<m
 ·rw[if_pos b,if_pos b];by_cases a:l<r/\l≠r
  ·rw[if_pos a,if_pos ⟨by omega,a.2⟩]
  ·rw[if_neg a,if_neg og]
 ·rw[if_neg b,if_neg b];by_cases d:l=m
  ·rw[if_pos d,if_pos d];by_cases a:j<r/\j≠r
   ·rw[if_pos a,if_pos ⟨by omega,a.2⟩]
   ·rw[if_neg a,if_neg og]
  ·rw[if_neg d,if_neg d]
theorem ybt {m n:Nat} (a:i<m):K8 t r c m n i i j=t.A i j:=by unfold K8;rw[if_pos a,if_neg og]
theorem zye {m n:Nat} (hr:r<m):K8 t r c m n i r j=t.A r j:=by unfold K8;rw[if_pos hr,if_neg og]
theorem ywj {m n:Nat}:K8 t r c m n i m i=t.A i n:=by unfold K8;rw[if_neg og,if_pos rfl,if_neg og]
theorem ybs {m n:Nat}:K8 t r c m n i (m+1) j= -(t.A m j):=by unfold K8;rw[if_neg og,if_neg og]
theorem ywl {m n:Nat} (f:i<m) (g:i≠r) (hr:r<m) (l j:Nat):
 (if l=i then znk (if i=m then(fun x=>if x=i then zkt (t.A i n) (t.A r c) (t.A i c) (t.A r n) t.d else K8 t r c m n i m x) else K8 t r c m n i i) (if r=m then(fun x=>if x=i then zkt (t.A i n) (t.A r c) (t.A i c) (t.A r n) t.d else K8 t r c m n i m x) else K8 t r c m n i r) c t.d j
   else(if l=m then(fun x=>if x=i then zkt (t.A i n) (t.A r c) (t.A i c) (t.A r n) t.d else K8 t r c m n i m x) else K8 t r c m n i l) j)=K8 t r c m n (i+1) l j:=by
 have a:K8 t r c m n i i=t.A i:=(by funext x;exact ybt f);have b:K8 t r c m n i r=t.A r:=(by funext x;exact zye hr);rw[if_neg (show¬i=m by omega),if_neg (show¬r=m by omega),a,b,zrb];unfold K8;by_cases d:l=i
 ·subst d;grind
 ·by_cases e:l=m
  ·subst e;grind
  ·grind
theorem ysn {w:World} {c f g:Nat} {i x y z:Value} (h:w.cell? ⟨c,f,none⟩=some i) (d:c≠g):(ztx w g x y z).cell? ⟨c,f,none⟩=some i:=by unfold ztx;rw[q _ _ _ _ (fun a=>by injection a with b e;exact d b.symm),q _ _ _ _ (fun a=>by injection a with b e;exact d b.symm),q _ _ _ _ (fun a=>by injection a with b e;exact d b.symm)];exact h
theorem ypa (a e b c:Int) (d:Nat):zkt (-a) e (-b) c d= -(zkt a e b c d):=by unfold zkt;rw[<-Int.neg_tdiv];congr 1;rw[Int.neg_mul,Int.neg_mul];omega
def zor (t:TB) (r c:Nat):TB:=⟨zkx t.A t.d r c,(t.A r c).natAbs,t.bas.set r (t.oth.getD c 0),t.oth.set c (t.bas.getD r 0)⟩
theorem ywp (h:¬t.A r c<0):zor t r c=R7 t r c:=by have a:zmu t.A t.d r c=zkx t.A t.d r c:=(by funext i j;unfold zmu;rw[if_neg h]);unfold R7 zor;rw[a]
theorem ywo (h:t.A r c<0):zxx (zor t r c)=R7 t r c:=by have a:zmu t.A t.d r c=fun i j=> -(zkx t.A t.d r c i j):=(by funext i j;unfold zmu;rw[if_pos h]);unfold R7 zxx zor;rw[a]
theorem ywq {m n:Nat} (h:∀i j,i<=m->j<=n->Sz ((zmu t.A t.d r c i j:Int):Rat) k) (i j:Nat) (b:i<=m) (d:j<=n):Sz (((zor t r c).A i j:Int):Rat) k:=by
 have a:=h i j b d;unfold zmu at a;show Sz ((zkx t.A t.d r c i j:Int):Rat) k;split at a
 ·have:=a.neg;rw[Rat.intCast_neg] at this;rwa[Rat.neg_neg] at this
 ·exact a
theorem ywi {m n:Nat} (hr:r<m) (hc:c<n) (k:l<m+2) (d:j<L4 m n l):
 (if l=r then(if j=c then((t.d:Nat):Int) else(if r=m+1 then znk (K8 t r c m n m (m+1)) (K8 t r c m n m r) c t.d j else K8 t r c m n m r j))
   else if l=m+1 then znk (K8 t r c m n m (m+1)) (K8 t r c m n m r) c t.d j else K8 t r c m n m l j)=Y7 (zor t r c) m n l j:=by
 have f:K8 t r c m n m (m+1)=fun j=> -(t.A m j):=(by funext j;exact ybs);have g:K8 t r c m n m r=t.A r:=(by funext j;exact zye hr);have h:∀i j,(zor t r c).A i j=zkx t.A t.d r c i j:=fun _ _=>rfl;rw[f,g];unfold Y7;simp only[h];unfold L4 at d;by_cases e:l=r
 ·subst e;unfold zkx;grind
 ·rw[if_neg e];by_cases b:l=m+1
  ·rw[if_pos b,if_neg og,if_pos b,zkx,if_neg og];unfold znk;by_cases a:j=c
   ·rw[if_pos a,if_pos a]
   ·rw[if_neg a,if_neg a,ypa]
  ·rw[if_neg b];unfold K8;by_cases a:l=m
   ·subst a;rw[if_pos rfl] at d;unfold zkx;grind
   ·rw[if_neg a] at d;unfold zkx znk;grind
section
variable {w w' : World} {S : Nat → Prop} {lo0 lo g m n top : Nat} {L : Lay} {sc : Nat → Nat} {F : Nat → Nat → Int} {z : Int} {d : Nat} {bas oth : List Nat} {st e steps : Int}
theorem SchG.putL (h:SchG w S lo0 lo g L m n sc top F z d bas oth st e steps) (o:l<m+2) (t:j<L4 m n l) {x:Int} {b c:Option Addr} {q:Nat}
 (u:IsQ w (SN S lo w) (.agg #[.bool (decide (x<0)),.slice b (A9 x.natAbs).length k,.slice c (A9 1).length q]) ((x:Int):Rat)):
 SchG (L9 w (L.bk l) j (.bool (decide (x<0))) (.slice b (A9 x.natAbs).length k) (.slice c (A9 1).length q)) S lo0 lo g L m n sc top (fun k=>if k=l then(fun i=>if i=j then x else F l i) else F k) z d bas oth st e steps:=by
 have f:1<=L4 m n l:=og
 have p:=(h.tab.line l o f).put (fun y a r=>by
  have s:=h.tab.sep l o f;rcases a with a|a
  ·exact s.2 (by rw[<-r];exact a)
  ·have:=a.1;omega) t u
 have v:SN S lo w=SN S lo (L9 w (L.bk l) j (.bool (decide (x<0))) (.slice b (A9 x.natAbs).length k) (.slice c (A9 1).length q)):=(by unfold SN;rw[zpl]);rw[v] at p;exact h.line o f (zlk (H8 _ _)) p
theorem SchG.ints (h:SchG w S lo0 lo g L m n sc top F z d bas oth st e steps) (hr:r<m) (hc:c<n):
 SchG ((w.setCell ⟨L.bb,r,none⟩ (.int .i64 ((oth.getD c 0:Nat):Int))).setCell ⟨L.ob,c,none⟩ (.int .i64 ((bas.getD r 0:Nat):Int))) S lo0 lo g L m n sc top F z d (bas.set r (oth.getD c 0)) (oth.set c (bas.getD r 0)) st e steps:=by
 have A:1<=m:=og;have t:1<=n:=og;have b:=h.bS A;have q:=h.oS t;have I:=h.bo A t;have s:=I9 w L.bb r (.int .i64 ((oth.getD c 0:Nat):Int));obtain⟨o,M⟩:=nm (w.setCell ⟨L.bb,r,none⟩ (.int .i64 ((oth.getD c 0:Nat):Int)));have y:=I9 o L.ob c (.int .i64 ((bas.getD r 0:Nat):Int));have H:=(h.basW A).2.put hr (oth.getD c 0);rw[<-M] at s H⊢;have J:o.heap.size=w.heap.size:=(by rw[M];simp[World.setCell]);have K:∀a,some L.bb=some a->a<lo/\¬S a:=fun a f=>(by cases f;exact⟨b.2.1,b.2.2.1⟩);have ad:∀a,some L.ob=some a->a<lo/\¬S a:=fun a f=>(by cases f;exact⟨q.2.1,q.2.2.1⟩);have af:SchG o S lo0 lo g L m n sc top F z d (bas.set r (oth.getD c 0)) oth st e steps->SchG o S lo0 lo g L m n sc top F z d (bas.set r (oth.getD c 0)) oth st e steps:=id;have V:TabW o S lo L.bk L.cp (m+2) (L4 m n) F:=h.tab.grown s fun a f=>(by cases f;exact⟨b.2.1,b.2.2.1,fun l E G=>(h.lS l E G).2.2.1 A⟩);have T:=h.row_next s fun a f=>(by cases f;exact⟨b.2.1,b.2.2.1,b.2.2.2⟩);have P:=h.hd_next s K;have O:=h.scl_next s K;have Q:IntW o L.ob n (fun j=>oth.getD j 0):=(h.othW t).2.keep (s.block _ (h.othW t).2.lt fun f=>I (by injection f with f;exact f.symm));have ac:SchG o S lo0 lo g L m n sc top F z d bas oth st e steps->True:=fun _=>trivial;have Y:(fun i=>(bas.set r (oth.getD c 0)).getD i 0)=O0 (fun i=>bas.getD i 0) r (oth.getD c 0):=ztl (by rw[h.len.1];exact hr);have Z:(fun j=>(oth.set c (bas.getD r 0)).getD j 0)=O0 (fun j=>oth.getD j 0) c (bas.getD r 0):=ztl (by rw[h.len.2];exact hc);have ab:∀a,SN S lo o a->a<o.heap.size:=fun a b=>by rw[J];exact h.sn_lt a (by unfold SN at b⊢;rw[J] at b;exact b)
 have u:L1 (SN S lo o) (SN S lo (o.setCell ⟨L.ob,c,none⟩ (.int .i64 ((bas.getD r 0:Nat):Int)))) o (o.setCell ⟨L.ob,c,none⟩ (.int .i64 ((bas.getD r 0:Nat):Int))):=fun a b=>⟨zql y.size a b,fun ae=>World.cell?_of_block (y.block a (ab a b) fun f=>by
  cases f;rcases b with b|b
  ·exact q.2.2.1 b
  ·have:=b.1;have:=q.2.1;omega)⟩
 refine⟨V.grown y fun a f=>by cases f;exact⟨q.2.1,q.2.2.1,fun l E G=>(h.lS l E G).2.2.2 t⟩,h.hv,h.cap,?_,fun i aa=> ?_,h.caps,fun _=>⟨(h.basW A).1,?_⟩,fun _=>⟨(h.othW t).1,?_⟩,fun N hv=> ?_,h.gS,h.bS,h.oS,h.bo,h.lS,by rw[List.length_set,List.length_set];exact h.len⟩
 ·obtain⟨B,k,R,l,D,W,U,X,v,p,x,C⟩:=T;exact⟨B,k,R,l,D,W,U,X,v.grownN y fun a f=>by cases f;exact Ne.symm q.2.2.2,IsQ.stb.to p u,IsK.stb.to x u,IsK.stb.to C u⟩
 ·obtain⟨v,p,x⟩:=P i aa;exact⟨v,p,((u _ (.inl p)).2 _).trans x⟩
 ·rw[Y];exact H.keep (y.block _ H.lt fun f=>I (by injection f))
 ·rw[Z];exact Q.put hc (bas.getD r 0)
 ·obtain⟨v,p,B,k,x,C⟩:=O N (yjs (by rw[h.len.1];exact hr) (by rw[h.len.2];exact hc) N hv);exact⟨v,p,B,k,((u _ (.inl p)).2 _).trans x,IsK.stb.to C fun a b=>⟨b,(u a (.inl b)).2⟩⟩
end
theorem hpV {w:World} {c:Nat} {S:World->Prop} (h:a (∀b:World,Below w.heap.size w b->S b)) (r:NeL c S):a (∀b:World,Below w.heap.size w b->∀x y z,S (ztx b c x y z)):=fun b d x y z=>r (fun b=>ztx b c x y z) (fun e f g b n h=>ysn h n) b (h.out b d)
theorem zz1371 {w:World} {S:Nat->Prop} {lo0 lo g m n top:Nat} {L:Lay} {sc:Nat->Nat} {st e steps:Int} (h:O7 w S lo0 lo g L m n sc top t st e steps) (hr:r<m) (hc:c<n) (fl:m<=100) (c7:n<=100) (bv:∀i j,i<=m->j<=n->Sz ((t.A i j:Int):Rat) 100000)
 (zpg:∀i j,i<=m->j<=n->Sz ((zmu t.A t.d r c i j:Int):Rat) 100000) (eE:(A9 t.d).length<=100000) (eD:0<t.d):
 Calls Tryz.prog 60 #[.pointer (some ⟨g,0,none⟩),.int .i64 (r:Int),.int .i64 (c:Int)] w fun d w'=>d= .returned (.tuple #[])/\O7 w' S lo0 lo g L m n sc top (R7 t r c) st e steps/\Btw lo0 lo S w w':=by
 obtain⟨aT,Q,e0,bp,bE,u,P⟩:=hd7 h bv zpg eE eD hr hc;have aL:a (lo0<=w.heap.size/\lo<=w.heap.size):=⟨p h.gS.1 (Nat.le_of_lt h.g_lt),h.tab.hlo⟩;have eG:1<=m:=og;have c8:1<=n:=og;obtain⟨fy,gj,fD,gm,D,ct,fF,fW,⟨-,-,hD,-⟩,⟨aX,aY,bu,az,aA⟩,-,⟨aQ,-,-⟩,-⟩:=h.open;have dH:=f hD;have c9:=(h.hd r hr).1;have cZ:=(h.hd r hr).2.2;have dG:=h.hv r og (by rw[J5 hr];exact c8);have cM:=h.hv m og (by rw[W4];exact eG);have cL:=h.hv (m+1) og (by rw[Z6];exact c8);have cN:=(h.basW eG).1;have cO:=(h.othW c8).1;obtain⟨cQ,dr,cT,du,-,X,Y,al,bq⟩:=h.elS (l:=m) (j:=r) og (by rw[W4];exact hr);obtain⟨aV,a5,cS,dt,-,aa,ab,ag,dv⟩:=h.elS (l:=r) (j:=c) og (by rw[J5 hr];exact hc);rw[ztr] at X Y bq;rw[zqa hr] at aa ab dv;rw[c9] at bu;rw[cM] at az;rw[cL] at aA;rw[cN] at aX;rw[cO] at aY;rw[dG] at cZ;have bx:=f (b cM (b cL (b cN (b cO c9))));have eF:=h.caps;have aR:∀l,l<m+2->L4 m n l<=L.cp l/\L.cp l<=9223372036854775807:=fun l aC=>(by have:=h.cap l aC;unfold maxLen at this;exact this);have cc:=f aR;have fI:n<=L.cp r:=(by have:=(aR r og).1;rwa[J5 hr] at this);have fM:L.cp r<=9223372036854775807:=(aR r og).2;have fN:m<=L.cp m:=(by have:=(aR m og).1;rwa[W4] at this);have fO:L.cp m<=9223372036854775807:=(aR m og).2;have fP:n<=L.cp (m+1):=(by have:=(aR (m+1) og).1;rwa[Z6] at this);have fQ:L.cp (m+1)<=9223372036854775807:=(aR (m+1) og).2;have ej:m<=L.rc/\L.rc<=9223372036854775807/\m<=L.bc/\L.bc<=9223372036854775807/\n<=L.oc/\L.oc<=9223372036854775807:=(by unfold maxLen at eF;omega);obtain⟨ej,fR,fS,fJ,fK,fL⟩:=ej;have gh:(0:Int)<=(r:Int):=og;have gi:(r:Int)<(m:Int):=og;have fY:(0:Int)<=(c:Int):=og;have fZ:(c:Int)<(n:Int):=og;have fV:=L7;obtain⟨cr,cq⟩:=C4 bq dv;obtain⟨dA,eI⟩:=nm (decide (t.A r n<0));obtain⟨dB,eJ⟩:=nm ((A9 (t.A r n).natAbs).length);obtain⟨cH,dj⟩:=nm (decide (t.A r c<0));obtain⟨bw,dk⟩:=nm ((A9 (t.A r c).natAbs).length);obtain⟨aj,dh⟩:=nm ((A9 1).length);obtain⟨eM,c6⟩:=nm ((A9 t.d).length);rw[<-eI] at X cr;rw[<-eJ] at Y cr;rw[<-dj] at aa cq;rw[<-dk] at ab cq;rw[<-dh] at al cr ag cq;rw[<-c6] at dH aQ;obtain⟨dQ,cg,dR,dS,eV,ck⟩:=zpe dh c6 dj dk (b aX (b aY (b bu (b az aA)))) (b aa (b ab (b ag aQ)));clear h bv zpg eE eD hD c9 dG cM cL cN cO bq dv eF aR eI eJ dj dk dh c6;clear aX aY aA;go_in;go_wp2_with fail;have G:=zmh bu az cZ X Y al
 go_region_held3 (SH.mk _ G).s
  (exact G.out _ bel)
  (fail)
 obtain⟨dy,bV,Z,b7,-⟩:=K0 w #[.bool dA,.slice cQ dB dr,.slice cT aj du] 37;rw[bV];obtain⟨a9,cB⟩:=nm (dy.drew);have bf:a (Below w.heap.size w a9):=(by rw[a,cB];exact⟨Z.os,Z.tape,Z.output,Z.size,Z.block⟩);have cV:a (Row a9 w.heap.size 37 [.bool dA,.slice cQ dB dr,.slice cT aj du]):=(by rw[a,cB];exact b7.drew);rw[<-cB];clear cB Z b7 G bV bu az cZ X Y al;obtain⟨cW,c2⟩:=nm (w.heap.size);have eX:=f c2;rw[<-c2] at cV⊢;clear c2;have aa:=B9 bf.out ck.out.1;have ab:=B9 bf.out ck.out.2.1;have ag:=B9 bf.out ck.out.2.2.1;have aQ:=B9 bf.out ck.out.2.2.2;go_wp2_with fail;have G:=hs4 aa ab ag aQ
 go_region_held3 (SH.mk _ G).s
  (exact G.out _ bel)
  (fail)
 obtain⟨dy,bV,Z,b7,-⟩:=K0 a9 #[.bool cH,.slice aV bw a5,.slice cS aj dt] 37;rw[bV];obtain⟨W,cC⟩:=nm (dy.drew);have cI:Below a9.heap.size a9 W:=(by rw[cC];exact⟨Z.os,Z.tape,Z.output,Z.size,Z.block⟩);have bg:=nB bf cI;have cU:a (Row W a9.heap.size 37 [.bool cH,.slice aV bw a5,.slice cS aj dt]):=(by rw[a,cC];exact b7.drew);have e5:=f (cV.out.next cI);rw[<-cC];obtain⟨br,a2⟩:=nm (a9.heap.size);have bj:a (lo<=br/\lo<=cW):=(by rw[a,a2,eX.out];exact⟨p aL.out.2 bf.out.size,aL.out.2⟩);rw[<-a2] at cU⊢;clear cC Z b7 G bV aa ab ag aQ cI a2 cV;have bu:=B9 bg.out eV.out.2.2.1;have T:a (lo0<=W.heap.size/\lo<=W.heap.size):=⟨p aL.out.1 bg.out.size,p aL.out.2 bg.out.size⟩;have e6:a (SchG W S lo0 lo g L m n sc top (K8 t r c m n 0) (t.A m n) t.d t.bas t.oth st e steps):=(aT.out.next bg.out).nums fun l j aC _=>ywm aC;have cs:L1 (SN S lo w) (SN S lo W) w W:=(((Btw.refl lo0 lo S w).below bg.out aL.out.1).same fun x A=>s (aT.out.tab.sS x A) aL.out.2);obtain⟨cd,e3,dV⟩:=G4 (IsK.stb.to dH.out cs) (IsQ.stb.to cr.out cs) (IsQ.stb.to cq.out cs);clear cs;go_wp2_with fail;clear bu;go_loopw [44,10,11,12] (fun dn _ _ _ wr=>∃i:Nat,i<=m/\dn= .int .i64 (i:Int)/\Btw lo0 lo S W wr/\a (SchG wr S lo0 lo g L m n sc top (K8 t r c m n i) (t.A m n) t.d t.bas t.oth st e steps)) (fun dn _ _ _ _=>m-(intOf dn).toNat);case atStart=>exact⟨0,Nat.zero_le _,rfl,Btw.refl _ _ _ _,e6.out⟩
 case round=>
  obtain⟨i,gd,rfl,c3,eH⟩:=hrel;have bA:=f c3;have H:=f eH.out;have bD:a (∀M,SN S lo wr M->C2 wr M):=H.out.sn_lt;have cF:L1 (SN S lo W) (SN S lo wr) W wr:=c3.same fun x A=>s (aT.out.tab.sS x A) T.out.2;obtain⟨dJ,ec,dZ,dY,dW⟩:=hd5 (IsK.stb.to cd.out cF) (bA.out.row e5.out bj.out.2) (bA.out.row cU.out bj.out.1) (IsQ.stb.to (IsQ.stb.to e3.out cF) (E0 bD.out)) (IsQ.stb.to (IsQ.stb.to dV.out cF) (E0 bD.out));clear c3 eH cF;rcases Nat.lt_or_ge i m with I|ga
  ·have ek:=(H.out.hd i I).2.2;have eW:=H.out.hv i og (by rw[J5 I];omega);rw[eW] at ek;have gf:(0:Int)<=(i:Int):=og;have gg:(i:Int)<(m:Int):=og;have fa:n<=L.cp i:=(by have:=(cc.out i og).1;rwa[J5 I] at this);have fb:L.cp i<=9223372036854775807:=(cc.out i og).2;have bF:=f I;obtain⟨bH,b4,bK,lF,-,aO,aP,bt,aW⟩:=H.out.el (l:=i) (j:=c) og (by rw[J5 I];exact P.out);obtain⟨dT,eK,dU,eL,-,u0,u1,u2,dw⟩:=H.out.el (l:=m) (j:=i) og (by rw[W4];exact I);rw[ybt I] at aO aP aW;rw[ywj] at u0 u1 dw;have cA:=H.out.tab.line m og (by rw[W4];omega);have ac:wr.frozen? ⟨L.bk m,i*3,none⟩=false:=cA.free;have ad:wr.frozen? ⟨L.bk m,i*3+1,none⟩=false:=cA.free;have ae:wr.frozen? ⟨L.bk m,i*3+2,none⟩=false:=cA.free;obtain⟨-,-,-,-,-,-,-,-,-,⟨-,-,-,az,-⟩,-,-,-⟩:=H.out.open;rw[bx.out.1] at az;obtain⟨X,Y,al⟩:=C3 ec.out;obtain⟨aa,ab,ag⟩:=C3 dZ.out;obtain⟨av,au⟩:=C4 aW dw;obtain⟨b9,b0⟩:=nm (decide (t.A i c<0));obtain⟨ca,b1⟩:=nm ((A9 (t.A i c).natAbs).length);obtain⟨em,bR⟩:=nm (decide (t.A i n<0));obtain⟨en,bT⟩:=nm ((A9 (t.A i n).natAbs).length);rw[<-b0] at aO av;rw[<-b1] at aP av;rw[<-bR] at u0 au;rw[<-bT] at u1 au;rw[<-dQ.out] at bt av u2 au;clear aW dw cA b0 b1 bR bT;by_cases c5:i=r
   ·subst c5;have fm:(((i:Int) !=(i:Int)):Bool)=false:=(by simp);clear X Y al aa ab ag aO aP bt u0 u1 u2 ac ad ae az;go_wp2_with fail;go_roundw;(case rel=>exact⟨i+1,bF.out,by go_num,bA.out,H.out.nums fun l j _ _=>ywk t i c m n l j⟩);case measure=>simp[intOf];have:=bF.out;omega
   ·have fm:(((i:Int) !=(r:Int)):Bool)=true:=(by simp;omega);have dP:=f c5;obtain⟨ar,df,v,b8,-⟩:=K0 wr #[.bool b9,.slice bH ca b4,.slice bK aj lF] 37;obtain⟨bO,bP,b2⟩:=C3 b8;have bh:=f v;have cn:=nQ av v;have bJ:=nQ au v;have bM:=nQ dY v;have bL:=nQ dW v;have bC:=f (IsK.stb.next (IsK.stb.to dJ.out (E0 bD.out)) v);have aU:a (wr.heap.size≠L.bk m):=(by rw[a];have:=H.out.tab.sep m og (by rw[W4];omega);have:=H.out.tab.hlo;omega);have V:a (br≠L.bk m/\cW≠L.bk m/\g≠L.bk m):=(by rw[a];have F:=H.out.tab.sep m og (by rw[W4];omega);have:=bj.out;have an:=(H.out.lS m og (by rw[W4];omega)).2.1;exact⟨by omega,by omega,Ne.symm an⟩);obtain⟨J,C,ah⟩:=G4 (b (B9 v az) (b bO (b bP (b b2 (b (B9 v aa) (b (B9 v ab) (b (B9 v ag) (b (B9 v X) (b (B9 v Y) (B9 v al)))))))))) (b (B9 v u0) (b (B9 v u1) (B9 v u2))) (b (G6 v u0 ac) (b (G6 v u1 ad) (G6 v u2 ae)));obtain⟨z,bZ⟩:=nm (zkt (t.A i n) (t.A r c) (t.A i c) (t.A r n) t.d);have bn:=f bZ;clear bZ b8 v u0 u1 u2 ac ad ae X Y al aa ab ag bO bP b2 az c5 I;go_wp2_with fail;clear df ek aO aP bt;obtain⟨u0,u1,u2⟩:=C.out;have G:=zpw J.out.1 J.out.2.1 J.out.2.2.1 J.out.2.2.2.1 J.out.2.2.2.2.1 J.out.2.2.2.2.2.1 J.out.2.2.2.2.2.2.1 J.out.2.2.2.2.2.2.2.1 J.out.2.2.2.2.2.2.2.2.1 J.out.2.2.2.2.2.2.2.2.2;have bi:a (∀ay:World,Below ar.heap.size ar ay->Calls Tryz.prog 129 #[.agg #[.bool em,.slice dT en eK,.slice dU aj eL],.agg #[.bool cH,.slice aV bw a5,.slice cS aj dt],.agg #[.bool b9,.slice bH ca b4,.slice bK aj lF],.agg #[.bool dA,.slice cQ dB dr,.slice cT aj du],.slice D eM ct] ay (U9 ay (((z:Int)):Rat))):=fun ay a0=>(by have h:=zux (IsQ.stb.next bJ.out a0) (IsQ.stb.next bL.out a0) (IsQ.stb.next cn.out a0) (IsQ.stb.next bM.out a0) (E9 (IsK.stb.next bC.out a0)) ((Q.out i n (Nat.le_of_lt bF.out) (o _)).le og) ((Q.out r c (Nat.le_of_lt u.out) (Nat.le_of_lt P.out)).le og) ((Q.out i c (Nat.le_of_lt bF.out) (Nat.le_of_lt P.out)).le og) ((Q.out r n (Nat.le_of_lt u.out) (o _)).le og) (p bp.out og) bE.out;rw[Rat.num_intCast,Rat.num_intCast,Rat.num_intCast,Rat.num_intCast,<-bn.out] at h;exact h);have bm:=zpf i G (nA V.out.2.2 (nA aU.out (nA aU.out (nA aU.out (nA V.out.1 (nA V.out.1 (nA V.out.1 (nA V.out.2.1 (nA V.out.2.1 (nZ V.out.2.1))))))))));refine wp_region_noPanic ?_;refine zlb G fun af=> ?_;refine sT 0 56 ?_;refine sT 1 57 ?_;refine sT 2 58 ?_;refine sT 3 59 ?_;refine sT 4 60 ?_;refine sT 5 61 ?_;refine sT 6 62 ?_;refine sT 7 63 ?_;refine sT 8 64 ?_;refine sT 9 65 ?_;refine sT 10 66 ?_;refine sT 11 67 ?_;refine sT 12 68 ?_;refine sT 14 70 ?_;refine sT 15 71 ?_;refine sT 16 72 ?_;refine sT 17 73 ?_;refine wpAnyH_ready (rs:=[13]) kr (by simp) ?_;refine AllReadyH.cons rfl (fun K B=> ?_) AllReadyH.nil;go_simp;refine B.out _ _ (G.out _ bel) (fun af=> ?_);clear B K;refine sP ?_;refine wpAnyH_ready (rs:=[18]) kr (by simp) ?_;refine AllReadyH.cons rfl (fun K B=> ?_) AllReadyH.nil;go_simp;go_at_call 129;(with_reducible refine Calls.mono (bi.out _ bel) ?_)
    rintro d aJ ⟨⟨eR,rfl,ao⟩,cx⟩;have O:=bW ar aJ;obtain⟨bG,b3,bI,b5,rfl⟩:=zku ao;have aG:=B9 O.out C.out.1;have aH:=B9 O.out C.out.2.1;have aI:=B9 O.out C.out.2.2;have ac:=G6 O.out C.out.1 ah.out.1;have ad:=G6 O.out C.out.2.1 ah.out.2.1;have ae:=G6 O.out C.out.2.2 ah.out.2.2;(focus go_wp2_with fail)
    refine B.out _ _ (G.out _ bel) (fun af=> ?_);clear B K;refine sP ?_;refine sT 19 75 ?_;refine wpAnyH_ready (rs:=[20]) kr (by simp) ?_;refine AllReadyH.cons rfl (fun K B=> ?_) AllReadyH.nil;go_simp;refine B.out _ _ (bm.out _ bel _ _ _) (fun af=> ?_);clear B K;refine sP ?_;refine wpAnyH_done kr ?_ _;refine NoPanic.normal ?_;have dC:=f (C9 bh.out O.out);have bN:=f (H.out.next dC.out);have dL:a (IsQ aJ (SN S lo aJ) (.agg #[.bool (decide (z<0)),.slice bG (A9 z.natAbs).length b3,.slice bI (A9 1).length b5]) ((z:Int):Rat)):=IsQ.stb.to ao (E0 fun M N=> .inr ⟨by have F:=H.out.tab.hlo;have an:=bh.out.size;have aZ:=N.1;simp at aZ;omega,N.2⟩);have I:=bF.out;obtain⟨E,ak⟩:=C4 (bN.out.putL (l:=m) (j:=i) og (by rw[W4];exact I) dL.out) ((bA.out.below dC.out T.out.1).step (zlk (c:=L.bk m) (j:=i) (x:= .bool (decide (z<0))) (y:= .slice bG (A9 z.natAbs).length b3) (z:= .slice bI (A9 1).length b5) (H8 aJ _)) T.out.1 fun x d=>by cases d;exact⟨(H.out.lS m og (by rw[W4];omega)).1,H.out.tab.sep m og (by rw[W4];omega)⟩);obtain⟨ai,aE⟩:=nm (((aJ.setCell ⟨(L.bk m),i*3,none⟩ (.bool (decide (z<0)))).setCell ⟨(L.bk m),i*3+1,none⟩ (.slice bG (A9 z.natAbs).length b3)).setCell ⟨(L.bk m),i*3+2,none⟩ (.slice bI (A9 1).length b5));have E:a (SchG ai S lo0 lo g L m n sc top (fun k=>if k=m then(fun x=>if x=i then z else K8 t r c m n i m x) else K8 t r c m n i k) (t.A m n) t.d t.bas t.oth st e steps):=(by rw[a,aE];exact E.out);have ak:a (Btw lo0 lo S W ai):=(by rw[a,aE];exact ak.out);rw[<-aE];clear aE G bm bi ao cx aG aH aI ac ad ae u0 u1 u2 dL bN;go_wp2_with fail;have a6:=E.out.tab.line i og (by rw[J5 I];omega);have a7:=E.out.tab.line r (oh u) (by rw[J5 u.out];omega);rw[J5 I] at a6;rw[J5 u.out] at a7;have fr:=E.out.tab.sep i og (by rw[J5 I];omega);have fs:=E.out.tab.sep r (oh u) (by rw[J5 u.out];omega)
    have nn:∀l,l<m->¬SN S lo ai (L.bk l):=fun l aC A=>by
     have F:=E.out.tab.sep l og (by rw[J5 aC];omega);rcases A with A|A
     ·exact F.2 A
     ·have:=A.1;omega
    have bQ:G0 ai (SN S lo ai) (.slice D (A9 t.d).length ct) t.d:=by have:=IsK.stb.to cd.out (ak.out.same fun x A=>s (aT.out.tab.sS x A) T.out.2);rw[cg.out] at this;exact this
    have a3:=ydt a6 a7 (fun d=>dP.out (E.out.tab.inj r i (oh u) og (by rw[J5 u.out];omega) (by rw[J5 I];omega) d).symm) (fun M N=>⟨E.out.sn_lt M N,fun d=>nn i I (by rw[<-d];exact N),fun d=>nn r u.out (by rw[<-d];exact N)⟩) bQ c7 P.out
     (fun j a4=>by
       refine⟨?_,?_⟩
       ·rw[zrb,if_neg og,ybt I];exact Q.out i j (Nat.le_of_lt I) (Nat.le_of_lt a4)
       ·rw[zrb,if_neg (oh u),zye u.out];exact Q.out r j (Nat.le_of_lt u.out) (Nat.le_of_lt a4)) bp.out bE.out
    rw[<-cg.out] at a3;refine a3.mono ?_;clear a3 a6 a7 fr fs nn bQ;rintro d dz ⟨rfl,ev,c4⟩
    have eY:=f (ev.mono (T:=SN S lo dz) fun x A=>by
     rcases A with A|A
     ·exact zql c4.size x A
     ·exact .inr ⟨by have:=E.out.tab.hlo;have:=A.1;omega,A.2⟩)
    have dF:=f c4;clear ev c4;go_wp2_with fail;go_roundw;(case rel=>have c0:LineW dz (SN S lo dz) (L.bk i) (L.cp i) (L4 m n i) (znk (if i=m then(fun x=>if x=i then z else K8 t r c m n i m x) else K8 t r c m n i i) (if r=m then(fun x=>if x=i then z else K8 t r c m n i m x) else K8 t r c m n i r) c t.d):=(by rw[J5 I];exact eY.out);have fh:=E.out.line og (by rw[J5 I];omega) dF.out c0;refine⟨i+1,I,by go_num,ak.out.step dF.out T.out.1 (fun x d=>by cases d;exact⟨(E.out.lS i og (by rw[J5 I];omega)).1,E.out.tab.sep i og (by rw[J5 I];omega)⟩),fh.nums fun l j _ _=> ?_⟩;rw[bn.out,zrb];exact ywl I dP.out u.out l j);case measure=>simp[intOf];omega
  ·obtain rfl:i=m:=og;obtain⟨bH,b4,bK,lF,-,aO,aP,bt,aW⟩:=H.out.el (l:=i+1) (j:=c) og (by rw[Z6];exact P.out);rw[ybs] at aO aP aW;obtain⟨dT,eK,dU,eL,fw,fT,fG,fX,⟨cw,eA,-,-⟩,⟨-,-,-,-,aA⟩,⟨u0,u1,u2⟩,-,-⟩:=H.out.open;rw[bx.out.2.1] at aA;have ac:=cw.frozen 5;have ad:=cw.frozen 6;have ae:=cw.frozen 7;obtain⟨X,Y,al⟩:=C3 ec.out;obtain⟨aa,ab,ag⟩:=C3 dZ.out;obtain⟨av,au⟩:=C4 aW (IsQ.stb.to eA (E0 bD.out));obtain⟨b9,b0⟩:=nm (decide (-(t.A i c)<0));obtain⟨ca,b1⟩:=nm ((A9 (-(t.A i c)).natAbs).length);obtain⟨em,bR⟩:=nm (decide (t.A i n<0));obtain⟨en,bT⟩:=nm ((A9 (t.A i n).natAbs).length);rw[<-b0] at aO av;rw[<-b1] at aP av;rw[<-bR] at u0 au;rw[<-bT] at u1 au;rw[<-dQ.out] at bt av u2 au;have fa:n<=L.cp (i+1):=(by have:=(cc.out (i+1) og).1;rwa[Z6] at this);have fb:L.cp (i+1)<=9223372036854775807:=(cc.out (i+1) og).2;obtain⟨ar,df,v,b8,-⟩:=K0 wr #[.bool b9,.slice bH ca b4,.slice bK aj lF] 37;obtain⟨bO,bP,b2⟩:=C3 b8;have bh:=f v;have cn:=nQ av v;have bJ:=nQ au v;have bM:=nQ dY v;have bL:=nQ dW v;have bC:=f (IsK.stb.next (IsK.stb.to dJ.out (E0 bD.out)) v);have dO:a (g<lo/\g<wr.heap.size):=⟨H.out.gS.2.1,H.out.g_lt⟩;obtain⟨J,C,ah⟩:=G4 (b bO (b bP (b b2 (b (B9 v aa) (b (B9 v ab) (b (B9 v ag) (b (B9 v X) (b (B9 v Y) (B9 v al))))))))) (b (B9 v u0) (b (B9 v u1) (B9 v u2))) (b (G6 v u0 ac) (b (G6 v u1 ad) (G6 v u2 ae)));have aU:a (wr.heap.size≠g):=oH1 dO;have V:a (br≠g/\cW≠g):=oH2 dO bj;obtain⟨z,bZ⟩:=nm (zkt (t.A i n) (t.A r c) (t.A i c) (t.A r n) t.d);have bn:=f bZ;clear bZ b8 v u0 u1 u2 ac ad ae X Y al aa ab ag bO bP b2 aW cw eA b0 b1 bR bT;go_wp2_with fail;clear df aO aP bt aA;obtain⟨u0,u1,u2⟩:=C.out;have G:=hs9 J.out.1 J.out.2.1 J.out.2.2.1 J.out.2.2.2.1 J.out.2.2.2.2.1 J.out.2.2.2.2.2.1 J.out.2.2.2.2.2.2.1 J.out.2.2.2.2.2.2.2.1 J.out.2.2.2.2.2.2.2.2;have bi:a (∀ay:World,Below ar.heap.size ar ay->Calls Tryz.prog 131 #[.agg #[.bool b9,.slice bH ca b4,.slice bK aj lF]] ay (U9 ay (((t.A i c:Int)):Rat))):=fun ay a0=>(by have h:=zrf (IsQ.stb.next cn.out a0) (by rw[Rat.intCast_neg];exact(Q.out i c (o _) (Nat.le_of_lt P.out)).neg) (show(((t.A i c:Int)):Rat)= -(((-(t.A i c):Int)):Rat) by rw[Rat.intCast_neg,Rat.neg_neg]);exact h);have bm:=hpV G (nA aU.out (nA aU.out (nA aU.out (nA V.out.1 (nA V.out.1 (nA V.out.1 (nA V.out.2 (nA V.out.2 (nZ V.out.2)))))))));refine wp_region_noPanic ?_;refine zlb G fun af=> ?_;refine sT 0 90 ?_;refine sT 1 91 ?_;refine sT 2 92 ?_;refine sT 3 93 ?_;refine sT 4 94 ?_;refine sT 6 96 ?_;refine sT 7 97 ?_;refine sT 9 99 ?_;refine sT 10 100 ?_;refine wpAnyH_ready (rs:=[5,8]) kr (by simp) ?_;refine AllReadyH.cons rfl (fun K B=> ?_) ?_;go_simp;refine B.out _ _ (G.out _ bel) (fun af=> ?_);clear B K;refine sP ?_;refine wpAnyH_ready (rs:=[8]) kr (by simp) ?_;refine AllReadyH.cons rfl (fun K B=> ?_) AllReadyH.nil;go_simp;go_at_call 131;(with_reducible refine Calls.mono (bi.out _ bel) ?_)
   rintro d aJ ⟨⟨eR,rfl,ao⟩,cx⟩;have O:=bW ar aJ;obtain⟨bG,b3,bI,b5,rfl⟩:=zku ao;have cl:=f (IsQ.stb.old ao);have n0:=B9 O.out C.out.1;have eN:=B9 O.out C.out.2.1;have eO:=B9 O.out C.out.2.2;(focus go_wp2_with fail)
   refine B.out _ _ (G.out _ bel) (fun af=> ?_);clear B K;refine sP ?_;refine wpAnyH_ready (rs:=[11]) kr (by simp) ?_;refine AllReadyH.cons rfl (fun K B=> ?_) AllReadyH.nil;go_simp;have a1:=zux (IsQ.stb.next bJ.out bel) (IsQ.stb.next bL.out bel) cl.out (IsQ.stb.next bM.out bel) (E9 (IsK.stb.next bC.out bel)) ((Q.out i n (o _) (o _)).le og) ((Q.out r c (Nat.le_of_lt u.out) (Nat.le_of_lt P.out)).le og) ((Q.out i c (o _) (Nat.le_of_lt P.out)).le og) ((Q.out r n (Nat.le_of_lt u.out) (o _)).le og) (p bp.out og) bE.out;rw[Rat.num_intCast,Rat.num_intCast,Rat.num_intCast,Rat.num_intCast,<-bn.out] at a1;(with_reducible refine Calls.mono a1 ?_)
   clear a1;rintro d bd ⟨⟨ft,rfl,bU⟩,eC⟩;have R:=bW ar bd;obtain⟨cj,cD,cm,cE,rfl⟩:=zku bU;have aG:=B9 R.out C.out.1;have aH:=B9 R.out C.out.2.1;have aI:=B9 R.out C.out.2.2;have ac:=G6 R.out C.out.1 ah.out.1;have ad:=G6 R.out C.out.2.1 ah.out.2.1;have ae:=G6 R.out C.out.2.2 ah.out.2.2;(focus go_wp2_with fail)
   refine B.out _ _ (G.out _ bel) (fun af=> ?_);clear B K;refine sP ?_;refine sT 12 102 ?_;refine sT 13 103 ?_;refine sT 14 104 ?_;refine wpAnyH_ready (rs:=[15]) kr (by simp) ?_;refine AllReadyH.cons rfl (fun K B=> ?_) AllReadyH.nil;go_simp;refine B.out _ _ (bm.out _ bel _ _ _) (fun af=> ?_);clear B K;refine sP ?_;refine wpAnyH_done kr ?_ _;refine NoPanic.normal ?_;rotate_left 1;refine AllReadyH.cons rfl (fun K B=> ?_) ?_;go_simp;go_at_call 131;(with_reducible refine Calls.mono (bi.out _ bel) ?_)
   rintro d aJ ⟨⟨eR,rfl,ao⟩,cx⟩;have O:=bW ar aJ;obtain⟨bG,b3,bI,b5,rfl⟩:=zku ao;have cl:=f (IsQ.stb.old ao);have n0:=B9 O.out C.out.1;have eN:=B9 O.out C.out.2.1;have eO:=B9 O.out C.out.2.2;(focus go_wp2_with fail)
   refine B.out _ _ (G.out _ bel) (fun af=> ?_);clear B K;refine sP ?_;refine wpAnyH_ready (rs:=[5]) kr (by simp) ?_;refine AllReadyH.cons rfl (fun K B=> ?_) AllReadyH.nil;go_simp;refine B.out _ _ (G.out _ bel) (fun af=> ?_);clear B K;refine sP ?_;refine wpAnyH_ready (rs:=[11]) kr (by simp) ?_;refine AllReadyH.cons rfl (fun K B=> ?_) AllReadyH.nil;go_simp;have a1:=zux (IsQ.stb.next bJ.out bel) (IsQ.stb.next bL.out bel) cl.out (IsQ.stb.next bM.out bel) (E9 (IsK.stb.next bC.out bel)) ((Q.out i n (o _) (o _)).le og) ((Q.out r c (Nat.le_of_lt u.out) (Nat.le_of_lt P.out)).le og) ((Q.out i c (o _) (Nat.le_of_lt P.out)).le og) ((Q.out r n (Nat.le_of_lt u.out) (o _)).le og) (p bp.out og) bE.out;rw[Rat.num_intCast,Rat.num_intCast,Rat.num_intCast,Rat.num_intCast,<-bn.out] at a1;(with_reducible refine Calls.mono a1 ?_)
   clear a1;rintro d bd ⟨⟨ft,rfl,bU⟩,eC⟩;have R:=bW ar bd;obtain⟨cj,cD,cm,cE,rfl⟩:=zku bU;have aG:=B9 R.out C.out.1;have aH:=B9 R.out C.out.2.1;have aI:=B9 R.out C.out.2.2;have ac:=G6 R.out C.out.1 ah.out.1;have ad:=G6 R.out C.out.2.1 ah.out.2.1;have ae:=G6 R.out C.out.2.2 ah.out.2.2;(focus go_wp2_with fail)
   refine B.out _ _ (G.out _ bel) (fun af=> ?_);clear B K;refine sP ?_;refine sT 12 102 ?_;refine sT 13 103 ?_;refine sT 14 104 ?_;refine wpAnyH_ready (rs:=[15]) kr (by simp) ?_;refine AllReadyH.cons rfl (fun K B=> ?_) AllReadyH.nil;go_simp;refine B.out _ _ (bm.out _ bel _ _ _) (fun af=> ?_);clear B K;refine sP ?_;refine wpAnyH_done kr ?_ _;refine NoPanic.normal ?_;rotate_left 1;exact AllReadyH.nil
   all_goals
    have bN:=f (H.out.next (C9 bh.out R.out))
    have dM:a (IsQ bd (SN S lo bd) (.agg #[.bool (decide (z<0)),.slice cj (A9 z.natAbs).length cD,.slice cm (A9 1).length cE]) ((z:Int):Rat)):=IsQ.stb.to bU (E0 fun M N=> .inr ⟨by have F:=H.out.tab.hlo;have an:=bh.out.size;have aZ:=O.out.size;have cu:=N.1;(try simp at cu);omega,N.2⟩)
    obtain⟨E,ak⟩:=C4 (bN.out.value dM.out) ((bA.out.below (C9 bh.out R.out) T.out.1).step (yan bd g (.bool (decide (z<0))) (.slice cj (A9 z.natAbs).length cD) (.slice cm (A9 1).length cE)) T.out.1 fun x d=>by cases d;exact H.out.gS)
    obtain⟨ai,aE⟩:=nm (((bd.setCell ⟨g,5,none⟩ (.bool (decide (z<0)))).setCell ⟨g,6,none⟩ (.slice cj (A9 z.natAbs).length cD)).setCell ⟨g,7,none⟩ (.slice cm (A9 1).length cE))
    have E:a (SchG ai S lo0 lo g L i n sc top (K8 t r c i n i) z t.d t.bas t.oth st e steps):=by rw[a,aE];exact E.out
    have ak:a (Btw lo0 lo S W ai):=by rw[a,aE];exact ak.out
    rw[<-aE]
    clear aE G bm bi ao cx bU eC aG aH aI ac ad ae u0 u1 u2 dM bN cl O R n0 eN eO C ah J cn bJ bM bL bC
    obtain⟨-,-,-,-,-,-,-,-,-,⟨-,-,-,-,aA⟩,-,-,-⟩:=E.out.open
    rw[bx.out.2.1] at aA
    go_wp2_with fail
    clear aA
    have a6:=E.out.tab.line (i+1) og (by rw[Z6];omega)
    have a7:=E.out.tab.line r (oh u) (by rw[J5 u.out];omega)
    rw[Z6] at a6
    rw[J5 u.out] at a7
    have nn:∀l,l<i+2->1<=L4 i n l->¬SN S lo ai (L.bk l):=fun l aC fg A=>by
     have F:=E.out.tab.sep l aC fg
     rcases A with A|A
     ·exact F.2 A
     ·have:=A.1;omega
    have bQ:G0 ai (SN S lo ai) (.slice D (A9 t.d).length ct) t.d:=by
     have:=IsK.stb.to cd.out (ak.out.same fun x A=>s (aT.out.tab.sS x A) T.out.2)
     rw[cg.out] at this
     exact this
    have a3:=ydt a6 a7 (fun d=>by have:=E.out.tab.inj r (i+1) (oh u) og (by rw[J5 u.out];omega) (by rw[Z6];omega) d;have:=u.out;omega) (fun M N=>⟨E.out.sn_lt M N,fun d=>nn (i+1) og (by rw[Z6];omega) (by rw[<-d];exact N),fun d=>nn r (oh u) (by rw[J5 u.out];omega) (by rw[<-d];exact N)⟩) bQ c7 P.out
     (fun j a4=>⟨by rw[ybs,Rat.intCast_neg];exact(Q.out i j (o _) (Nat.le_of_lt a4)).neg,by rw[zye u.out];exact Q.out r j (Nat.le_of_lt u.out) (Nat.le_of_lt a4)⟩) bp.out bE.out
    rw[<-cg.out] at a3
    refine a3.mono ?_
    clear a3 a6 a7 nn bQ
    rintro d be ⟨rfl,ew,cy⟩
    have dK:a (LineW be (SN S lo be) (L.bk (i+1)) (L.cp (i+1)) n (znk (K8 t r c i n i (i+1)) (K8 t r c i n i r) c t.d)):=ew.mono fun x A=>by
     rcases A with A|A
     ·exact zql cy.size x A
     ·exact .inr ⟨by have:=E.out.tab.hlo;have:=A.1;omega,A.2⟩
    have aM:a (SchG be S lo0 lo g L i n sc top (fun k=>if k=i+1 then znk (K8 t r c i n i (i+1)) (K8 t r c i n i r) c t.d else K8 t r c i n i k) z t.d t.bas t.oth st e steps):=by
     have c0:LineW be (SN S lo be) (L.bk (i+1)) (L.cp (i+1)) (L4 i n (i+1)) (znk (K8 t r c i n i (i+1)) (K8 t r c i n i r) c t.d):=by rw[Z6];exact dK.out
     exact E.out.line og (by rw[Z6];omega) cy c0
    have cJ:=f (ak.out.step cy T.out.1 (fun x d=>by cases d;exact⟨(E.out.lS (i+1) og (by rw[Z6];omega)).1,E.out.tab.sep (i+1) og (by rw[Z6];omega)⟩))
    clear ew cy dK E ak
    go_wp2_with fail
    have eu:IsN be 0 be.heap.size (.slice D eM ct) t.d:=E9 (IsK.stb.to (IsK.stb.to cd.out (cJ.out.same fun x A=>s (aT.out.tab.sS x A) T.out.2)) (E0 aM.out.sn_lt))
    obtain⟨y,di⟩:=nm (((t.d:Nat):Int):Int)
    have eZ:=f di
    have de:=yct eu (p bp.out og)
    rw[<-di] at de
    clear di
    refine de.mono ?_
    clear de
    clear eu
    rintro d cG ⟨⟨gp,rfl,da⟩,aB⟩
    obtain⟨cP,dq,cR,ds,rfl⟩:=zku da
    obtain⟨fz,gl,fE,gn,-,aG,aH,aI,-⟩:=aM.out.el (l:=r) (j:=c) (oh u) (by rw[J5 u.out];exact P.out)
    have cz:=aM.out.tab.line r (oh u) (by rw[J5 u.out];omega)
    have ac:=G6 aB aG cz.free
    have ad:=G6 aB aH cz.free
    have ae:=G6 aB aI cz.free
    replace aG:=B9 aB aG
    replace aH:=B9 aB aH
    replace aI:=B9 aB aI
    have dN:a (IsQ cG (SN S lo cG) (.agg #[.bool (decide (y<0)),.slice cP (A9 y.natAbs).length dq,.slice cR (A9 1).length ds]) ((y:Int):Rat)):=IsQ.stb.to da (E0 fun M N=> .inr ⟨p aM.out.tab.hlo N.1,N.2⟩)
    obtain⟨U,bB⟩:=C4 ((aM.out.next aB).putL (l:=r) (j:=c) (oh u) (by rw[J5 u.out];exact P.out) dN.out) ((cJ.out.below aB T.out.1).step (zlk (c:=L.bk r) (j:=c) (x:= .bool (decide (y<0))) (y:= .slice cP (A9 y.natAbs).length dq) (z:= .slice cR (A9 1).length ds) (H8 cG _)) T.out.1 fun x d=>by cases d;exact⟨(aM.out.lS r (oh u) (by rw[J5 u.out];omega)).1,aM.out.tab.sep r (oh u) (by rw[J5 u.out];omega)⟩)
    clear da aB cz aM cJ dN
    obtain⟨aK,bY⟩:=nm (((cG.setCell ⟨L.bk r,c*3,none⟩ (.bool (decide (y<0)))).setCell ⟨L.bk r,c*3+1,none⟩ (.slice cP (A9 y.natAbs).length dq)).setCell ⟨L.bk r,c*3+2,none⟩ (.slice cR (A9 1).length ds))
    have U:a (SchG aK S lo0 lo g L i n sc top (Y7 (zor t r c) i n) z t.d t.bas t.oth st e steps):=by
     rw[a,bY]
     exact U.out.nums fun l j aC a4=>by
      rw[eZ.out,zrb,zrb,zrb]
      exact ywi u.out P.out aC a4
    have bB:a (Btw lo0 lo S W aK):=by rw[a,bY];exact bB.out
    have e4:=bB.out.row cU.out bj.out.1
    have dX:=f (IsQ.stb.to dV.out (bB.out.same fun x A=>s (aT.out.tab.sS x A) T.out.2))
    obtain⟨e1,fo,e2,fp,fx,fU,e7,e9,⟨c1,eB,-,ez⟩,⟨aX,aY,-,-,-⟩,-,⟨aQ,-,-⟩,-⟩:=U.out.open
    have dE:=c1.frozen 8
    obtain⟨eP,eQ,fq⟩:=C3 e4
    have dI:a (G0 aK (SN S lo aK) (.slice aV bw a5) (t.A r c).natAbs):=by
     have:=zmq dX.out
     rwa[Rat.num_intCast] at this
    rw[bx.out.2.2.1] at aX
    rw[bx.out.2.2.2.1] at aY
    have dm:=(U.out.basW og).2
    have dp:=(U.out.othW og).2
    have cX:=dm.el r u.out
    have cY:=dp.el c P.out
    have eo:aK.frozen? ⟨L.bb,r,none⟩=false:=dm.free
    have ep:aK.frozen? ⟨L.ob,c,none⟩=false:=dp.free
    obtain⟨fu,db⟩:=nm (t.bas.getD r 0)
    obtain⟨dx,dc⟩:=nm (t.oth.getD c 0)
    rw[<-db] at cX
    rw[<-dc] at cY
    obtain⟨ch,cf⟩:=C4 (b db dc) (b c1 (b eB ez))
    have fj:g≠L.bb:=Ne.symm (U.out.bS og).2.2.2
    have fk:g≠L.ob:=Ne.symm (U.out.oS og).2.2.2
    have fi:L.bb≠L.ob:=U.out.bo og og
    have a2:br≠g/\br≠L.bb/\br≠L.ob:=by
     have F:=bj.out.1
     have an:=(U.out.bS og).2.1
     have aZ:=(U.out.oS og).2.1
     have cu:=U.out.gS.2.1
     exact⟨by omega,by omega,by omega⟩
    obtain⟨aq,aD⟩:=nm (aK.setCell ⟨g,8,none⟩ (.slice aV bw a5))
    have cv:∀M a8,M≠g->aq.cell? ⟨M,a8,none⟩=aK.cell? ⟨M,a8,none⟩:=fun M a8 N=>by rw[aD];exact q _ _ _ _ (fun d=>by injection d with F an;exact N F.symm)
    have X:aq.cell? ⟨g,0,none⟩=some (.slice (some ⟨L.bb,0,none⟩) i L.bc):=by rw[aD,q _ _ _ _ (fun d=>by injection d with F an;omega)];exact aX
    have Y:aq.cell? ⟨g,1,none⟩=some (.slice (some ⟨L.ob,0,none⟩) n L.oc):=by rw[aD,q _ _ _ _ (fun d=>by injection d with F an;omega)];exact aY
    have e8:=(cv _ r (Ne.symm fj)).trans cX
    have eh:=(cv _ c (Ne.symm fk)).trans cY
    have bq:=(cv _ 0 a2.1).trans eP
    have fe:aq.frozen? ⟨L.bb,r,none⟩=false:=by rw[aD];simpa using eo
    have ff:aq.frozen? ⟨L.ob,c,none⟩=false:=by rw[aD];simpa using ep
    have cK:a (aK.grownBy aq (some g)):=by rw[a,aD];exact I9 _ _ _ _
    have aN:a (SchG aq S lo0 lo g L i n sc top (Y7 (zor t r c) i n) z (t.A r c).natAbs t.bas t.oth st e steps):=by
     have bv:=U.out.same cK.out fun M d=>by cases d;exact U.out.gS.2
     refine U.out.cells cK.out ⟨e1,fo,e2,fp,aV,a5,e7,e9,?_,IsQ.stb.to cf.out.2.1 bv,?_,IsK.stb.to cf.out.2.2 bv⟩
     ·have F:=cf.out.1.set_ 8 (.slice aV bw a5)
      rw[<-aD,dS.out] at F
      exact F
     ·have F:=IsK.stb.to dI.out bv
      rw[dS.out] at F
      exact F
    have eS:=f (bB.out.step cK.out T.out.1 fun x d=>by cases d;exact U.out.gS)
    rw[bY] at eQ aQ dE
    clear c1 eB ez dm dp cv db dc cX cY eo ep dI dX cf aX aY eP fq
    go_wp2_with fail
    rw[<-bY,<-aD]
    clear bY aD dE aQ eQ aG aH aI ac ad ae
    obtain⟨aS,bX⟩:=nm ((aq.setCell ⟨L.bb,r,none⟩ (.int .i64 ((dx:Nat):Int))).setCell ⟨L.ob,c,none⟩ (.int .i64 ((fu:Nat):Int)))
    have ee:a (O7 aS S lo0 lo g L i n sc top (zor t r c) st e steps):=by
     have F:=aN.out.ints u.out P.out
     rw[<-ch.out.1,<-ch.out.2,<-bX] at F
     have d:z=(zor t r c).A i n:=by
      rw[bn.out]
      show _=zkx t.A t.d r c i n
      unfold zkx
      rw[if_neg (oh u),if_neg (oh P)]
     rw[d] at F
     rw[ch.out.1,ch.out.2] at F
     exact F
    have er:∀M a8,M≠L.bb->M≠L.ob->aS.cell? ⟨M,a8,none⟩=aq.cell? ⟨M,a8,none⟩:=fun M a8 F an=>by
     rw[bX,q _ _ _ _ (fun d=>by injection d with aZ cu;exact an aZ.symm),q _ _ _ _ (fun d=>by injection d with aZ cu;exact F aZ.symm)]
    have ei:=(er _ 0 a2.2.1 a2.2.2).trans bq
    have eT:a (Btw lo0 lo S W aS):=by
     rw[a,bX]
     refine(eS.out.step (I9 _ _ _ _) T.out.1 fun x d=> ?_).step (I9 _ _ _ _) T.out.1 fun x d=> ?_
     ·cases d;exact⟨(aN.out.bS og).1,(aN.out.bS og).2.1,(aN.out.bS og).2.2.1⟩
     ·cases d;exact⟨(aN.out.oS og).1,(aN.out.oS og).2.1,(aN.out.oS og).2.2.1⟩
    have eU:a (Btw lo0 lo S w aS):=(((Btw.refl lo0 lo S w).below bg.out aL.out.1).trans eT.out)
    have fc:(aq.setCell ⟨L.bb,r,none⟩ (.int .i64 ((dx:Nat):Int))).cell? ⟨L.ob,c,none⟩=some (.int .i64 ((dx:Nat):Int)):=by
     rw[q _ _ _ _ (fun d=>by injection d with F an;exact fi F)];exact eh
    clear er
    go_region
    rw[<-bX]
    obtain⟨fv,dd⟩:=nm (aS.drew)
    have cb:Below aS.heap.size aS fv:=by rw[dd];exact U7 aS
    obtain⟨eg,dD⟩:=C4 (ee.out.next cb) (eU.out.below cb aL.out.1)
    have fH:=B9 cb ei
    rw[<-dd]
    clear bX dd ei cb ee aN fc bq e8 eh X Y fe ff
    cases cH with
    |false=>
     go_wp2_with fail
     refine bodyPost_end (results_none rfl _ _ _) rfl ?_
     rw[<-ywp (of_decide_eq_false dR.out.symm)]
     exact⟨rfl,eg.out,dD.out⟩
    |true=>
     go_wp2_with fail
     refine(zz1365 eg.out fl c7 (ywq e0.out)).mono ?_
     rintro d gq ⟨rfl,ey,et⟩
     have ed:=f (b ey et)
     clear ey et
     go_wp2_with fail
     refine bodyPost_end (results_none rfl _ _ _) rfl ?_
     rw[<-ywo (of_decide_eq_true dR.out.symm)]
     exact⟨rfl,ed.out.1,dD.out.trans ed.out.2⟩
theorem zz1360 {z:Int} {F:Nat} (h:z.natAbs<=F) (hF:(A9 F).length<=k) (a:1<=k):Sz ((z:Int):Rat) k:=by
 refine⟨?_,?_⟩
 ·rw[Rat.num_intCast];exact p (U1 h) hF
 ·rw[Rat.den_intCast,zka];exact a
theorem TInv.sz {m n:Nat} (h:TInv M m n t) (hF:(A9 (K6 M (m+1))).length<=k) (a:1<=k):(∀i j,i<=m->j<=n->Sz ((t.A i j:Int):Rat) k)/\(A9 t.d).length<=k:=
 ⟨fun i j b c=>zz1360 (h.small.2 i j b c) hF a,p (U1 h.small.1) hF⟩
theorem yhz {w:World} {S:Nat->Prop} {lo0 lo g m n top:Nat} {L:Lay} {sc:Nat->Nat} {st e steps:Int} (h:O7 w S lo0 lo g L m n sc top t st e steps) (a:TInv M m n t) (hr:r<m) (hc:c<n) (i:t.A r c≠0) (d:m<=100) (f:n<=100) (hF:(A9 (K6 M (m+1))).length<=100000):
 Calls Tryz.prog 60 #[.pointer (some ⟨g,0,none⟩),.int .i64 (r:Int),.int .i64 (c:Int)] w fun b w'=>b= .returned (.tuple #[])/\O7 w' S lo0 lo g L m n sc top (R7 t r c) st e steps/\Btw lo0 lo S w w':=
 zz1371 h hr hc d f (a.sz hF og).1 ((a.piv hr hc i).sz hF og).1 (a.sz hF og).2 a.d0
def zqp (S:Nat->Prop) (lo0 lo g:Nat) (L:Lay) (m n:Nat) (sc:Nat->Nat) (top M:Nat) (a:Dic) (st e steps:Int) (b:World) (t:TB) (w:World):Prop:=
 O7 w S lo0 lo g L m n sc top t st e steps/\OkT M m n sc top a t/\Btw lo0 lo S b w
theorem ykl {m n:Nat} (d:znn m n t=some r) (e:znz n t r=some c):zkl m n t=some (R7 t r c):=by unfold zkl;rw[d];show(match znz n t r with|none=>none|some c=>some (R7 t r c))=_;rw[e]
theorem yxz {w:World} {S:Nat->Prop} {lo0 lo g m n top:Nat} {L:Lay} {sc:Nat->Nat} {j:Dic} {st e steps:Int} (h:O7 w S lo0 lo g L m n sc top t st e steps) (I:OkT M m n sc top j t) (B:m<=100) (C:n<=100) (hF:(A9 (K6 M (m+1))).length<=100000) (N:∀Y,0<sc Y) (O:0<top):
 Calls Tryz.prog 58 #[.pointer (some ⟨g,0,none⟩)] w fun x w'=>∃d,x= .returned (.int .i64 (M8 (znn m n d)))/\(znn m n d=none\/∃r,znn m n d=some r/\znz n d r=none)/\zqp S lo0 lo g L m n sc top M j st e steps w d w':=by
 obtain⟨Q,T,U⟩:=G4 hF N O;have R:a (zqp S lo0 lo g L m n sc top M j st e steps w t w):=⟨h,I,Btw.refl _ _ _ _⟩;have D:a (lo0<=w.heap.size):=p h.gS.1 (Nat.le_of_lt h.g_lt);clear h I hF N O;go_in;go_wp2_with fail;go_loopw [3,4] (fun _ _ wr=>∃d,zqp S lo0 lo g L m n sc top M j st e steps w d wr) (fun _ _ wr=>leastM (fun d=>zqp S lo0 lo g L m n sc top M j st e steps w d wr) (leftO (zkl m n)));case atStart=>exact⟨t,R.out⟩
 case round=>
  obtain⟨s,K,H⟩:=ygw (μ:=leftO (zkl m n)) hrel;obtain⟨u,V⟩:=C4 K H;clear hrel K H;have ab:=L7;go_wp2_with fail;refine(yut u.out.1 B C).mono ?_;rintro x Z ⟨rfl,y⟩;have o:a (zqp S lo0 lo g L m n sc top M j st e steps w s Z):=⟨u.out.1.next y,u.out.2.1,u.out.2.2.below y D.out⟩;clear y;cases i:znn m n s with
  |none=>have A:M8 (none:Option Nat)= -1:=rfl;rw[A];have k:=f i;clear i;go_wp2_with fail;go_ret;exact⟨s,by rw[k.out];rfl,.inl k.out,o.out⟩
  |some r=>
   have J:r<m:=(zmg i).1;have W:M8 (some r)=(r:Int):=rfl;rw[W];have ag:decide ((r:Int)<0)=false:=decide_eq_false og;obtain⟨k,E⟩:=C4 i J;clear i J;go_wp2_with fail;refine(ysb E.out o.out.1 B C).mono ?_;rintro x aa ⟨rfl,z⟩;have q:a (zqp S lo0 lo g L m n sc top M j st e steps w s aa):=⟨o.out.1.next z,o.out.2.1,o.out.2.2.below z D.out⟩;clear z;cases v:znz n s r with
   |none=>have A:M8 (none:Option Nat)= -1:=rfl;rw[A];have l:=f v;clear v;go_wp2_with fail;go_ret;exact⟨s,by rw[k.out];rfl,.inr ⟨r,k.out,l.out⟩,q.out⟩
   |some c=>obtain⟨G,i,_⟩:=zmg v;have i:s.A r c<0:=of_decide_eq_true i;have X:M8 (some c)=(c:Int):=rfl;rw[X];have af:decide ((c:Int)<0)=false:=decide_eq_false og;have l:=f (b v (b G i));clear v G i;go_wp2_with fail;refine(yhz q.out.1 q.out.2.1.inv E.out l.out.2.1 (by have:=l.out.2.2;omega) B C Q.out).mono ?_;rintro x P ⟨rfl,zll,F⟩;have S3:a (zqp S lo0 lo g L m n sc top M j st e steps w (R7 s r c) P):=⟨zll,q.out.2.1.rep T.out U.out (ykl k.out l.out.1),q.out.2.2.trans F⟩;clear zll F;go_wp2_with fail;go_roundw;(case rel=>exact⟨_,S3.out⟩);case measure=>have ac:=ygx (J:=fun d=>zqp S lo0 lo g L m n sc top M j st e steps w d P) (μ:=leftO (zkl m n)) S3.out;have ad:=(yha (yrz u.out.2.1.inv) (ykl k.out l.out.1)).2;have ae:=V.out;omega
end Go.Proofs.YtdgilbgdkmhcmaaGreatDoor
