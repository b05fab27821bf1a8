/-
 The loops of package simplex over tables:b holds all a way,d many steps c left,and b a ends e.
-/
import Derived.Test.YtdgilbgdkmhcmaaGreatDoorProofSimplexProves08
import Derived.BigRegion
import Derived.Lib.SliceRun
namespace Go.Proofs.YtdgilbgdkmhcmaaGreatDoor
set_option linter.unusedVariables false
open Go.RowKit
set_option maxRecDepth 100000
set_option maxHeartbeats 8000000
open _root_.Go.Lib renaming hid → d
open _root_.Nat renaming le_refl → f, lt_or_ge → y, zero_le → B
open _root_.Go.RowKit.Below renaming refl → o
open _root_.Go renaming World → e, Value → u
variable {L : Lay} {S p : Nat → Prop} {s steps : Int} {g i j k lo lo0 r : Nat} {l : List Int} {v : u}
theorem ytd:∀k,p k->∃k,p k/\∀j,p j->k<=j:=by
 intro k;induction k using Nat.strongRecOn with
 |ind k ih=>
  intro h;by_cases b:∃j,j<k/\p j
  ·obtain⟨j,a,g⟩:=b;exact ih j a g
  ·exact⟨k,h,fun j a=>Nat.le_of_not_lt fun c=>b ⟨j,c,a⟩⟩
noncomputable def leastN (p:Nat->Prop):Nat:=open Classical in if h:∃k,p k/\∀j,p j->k<=j then Classical.choose h else 0
theorem zxm (h:p k):p (leastN p)/\leastN p<=k:=by have a:=ytd k h;unfold leastN;rw[dif_pos a];have:=Classical.choose_spec a;exact⟨this.1,this.2 k h⟩
noncomputable def leftO {b:Type} (c:b->Option b) (a:b):Nat:=leastN fun k=>c (N9 c k a)=none
theorem yha {e:Type} {c:e->Option e} {a b:e} (h:zwg c a) (f:c a=some b):zwg c b/\leftO c b<leftO c a:=by have key:∀k,c (N9 c (k+1) a)=c (N9 c k b):=fun k=>(by rw[yax f]);obtain⟨m,i⟩:=h;have d:=(zxm (p:=fun k=>c (N9 c k a)=none) i).1;have l:leftO c a≠0:=fun g=>(by have d:c (N9 c (leftO c a) a)=none:=d;rw[g] at d;have:c a=none:=d;rw[f] at this;cases this);obtain⟨k,j⟩:∃k,leftO c a=k+1:=⟨leftO c a-1,by omega⟩;have d:c (N9 c (leftO c a) a)=none:=d;rw[j,key] at d;refine⟨⟨k,d⟩,?_⟩;have:=(zxm (p:=fun k=>c (N9 c k b)=none) d).2;show leastN _<_;omega
noncomputable def leastM {a:Type} (b:a->Prop) (c:a->Nat):Nat:=leastN fun k=>∃s,b s/\c s=k
theorem ygx {a:Type} {J:a->Prop} {μ:a->Nat} {s:a} (h:J s):leastM J μ<=μ s:=(zxm (p:=fun k=>∃s,J s/\μ s=k) ⟨s,h,rfl⟩).2
theorem ygw {b:Type} {a:b->Prop} {μ:b->Nat} (h:∃s,a s):∃s,a s/\μ s=leastM a μ:=by obtain⟨s,c⟩:=h;exact(zxm (p:=fun k=>∃s,a s/\μ s=k) ⟨s,c,rfl⟩).1
structure OkT (M m n:Nat) (sc:Nat->Nat) (top:Nat) (a:Dic) (t:TB):Prop where
 inv:TInv M m n t
 eqv:Eqv m n a (J9 sc top m n t)
section
variable {M m n top : Nat} {sc : Nat → Nat} {a : Dic} {t q : TB}
theorem ypm (b:∀v,0<sc v) (l:0<top) (h:TInv M m n t) {c:Nat} (hr:r<=m) (hc:c<=n) (k:t.A r c≠0):(J9 sc top m n t).D r c≠0:=by
 show(if r<=m/\c<=n then _ else _)≠_;rw[if_pos ⟨hr,hc⟩];have d:((t.A r c:Int):Rat)≠0:=(by simpa using k);have e:=yas (zvj h.d0);have f:=zz1380 b n (fun j=>t.oth.getD j 0) c;have g:=yas (zz1382 b l m (fun i=>t.bas.getD i 0) r);intro a;rcases Rat.mul_eq_zero.1 a with a|a
 ·rcases Rat.mul_eq_zero.1 a with a|a
  ·rcases Rat.mul_eq_zero.1 a with a|a
   ·exact d a
   ·exact e a
  ·exact f a
 ·exact g a
theorem OkT.piv (d:∀v,0<sc v) (e:0<top) (h:OkT M m n sc top a t) {c:Nat} (hr:r<m) (hc:c<n) (b:t.A r c≠0):OkT M m n sc top a (R7 t r c) where
 inv:=h.inv.piv hr hc b
 eqv:=by rw[h.inv.dic d e hr hc b];exact h.eqv.piv hr hc (ypm d e h.inv og og b)
theorem OkT.rep (d:∀v,0<sc v) (e:0<top) (h:OkT M m n sc top a t) (hst:zkl m n t=some q):OkT M m n sc top a q:=by obtain⟨r,c,rfl,hr,hc,b,_⟩:=zzu h.inv hst;exact h.piv d e hr hc b
theorem OkT.step (f:∀v,0<sc v) (g:0<top) (h:OkT M m n sc top a t) (b:∀i,i<m->0<=t.A i n) (hst:zkh m n t=some q):OkT M m n sc top a q/\∀i,i<m->0<=q.A i n:=by obtain⟨r,c,rfl,e,d⟩:=zzv h.inv b hst;exact⟨h.piv f g d.hr d.hc e,(restT h.inv b hst).2⟩
theorem ybu (a:∀v,0<sc v) (e:0<top) (h:TInv M m n t) (i j:Nat):0<((t.d:Int):Rat)⁻¹*uc sc n (fun j=>t.oth.getD j 0) j*(ur sc top m (fun i=>t.bas.getD i 0) i)⁻¹:=by
 have p:∀x:Nat,0<x->(0:Rat)<((x:Nat):Rat):=fun x f=>(by have:=Rat.intCast_lt_intCast.2 (show(0:Int)<(x:Int) by omega);exact this);have b:=zti h.d0
 have c:0<uc sc n (fun j=>t.oth.getD j 0) j:=by
  unfold uc;split
  ·exact p _ (a _)
  ·decide
 have d:0<ur sc top m (fun i=>t.bas.getD i 0) i:=by
  unfold ur;split
  ·exact p _ (a _)
  ·exact p _ e
 exact Rat.mul_pos (Rat.mul_pos b c) (inv_pos d)
theorem yac (a:i<=m) (b:j<=n):(J9 sc top m n t).D i j=(t.A i j:Rat)*(((t.d:Int):Rat)⁻¹*uc sc n (fun j=>t.oth.getD j 0) j*(ur sc top m (fun i=>t.bas.getD i 0) i)⁻¹):=by show(if i<=m/\j<=n then _ else _)=_;rw[if_pos ⟨a,b⟩,Rat.mul_assoc,Rat.mul_assoc,Rat.mul_assoc]
theorem zwt (c:∀v,0<sc v) (d:0<top) (h:TInv M m n t) (a:i<=m) (b:j<=n):0<=(J9 sc top m n t).D i j↔0<=t.A i j:=by rw[yac a b];exact zyt (ybu c d h i j)
theorem yeq (c:∀v,0<sc v) (d:0<top) (h:TInv M m n t) (a:i<=m) (b:j<=n):(J9 sc top m n t).D i j<0↔t.A i j<0:=by rw[yac a b];exact zqj (ybu c d h i j)
theorem yus (h:znn m n t=none):∀i,i<m->0<=t.A i n:=fun i a=>by
 have:=zuo h i a
 rw[decide_eq_false_iff_not] at this
 omega
end
section
variable {M m n top : Nat} {sc : Nat → Nat} {t : TB} {A : List (List Rat)} {b c : List Rat}
theorem yqh (d:∀v,0<sc v) (e:0<top) (k:A.length=m) (l:b.length=m) (hc:c.length=n) (q:∀r∈A,r.length=n) (h:OkT M m n sc top (R4 m n (aF A) (lF b) (lF c)) t) (g:∀i,i<m->0<=t.A i n) (o:zkm m n t=none):
 CertOpt A b c (zsv m n (J9 sc top m n t)) (zvl m n (J9 sc top m n t)) ((J9 sc top m n t).D m n):=
 yob k l hc q (h.inv.distD _ _) h.eqv (fun j a=>by have:=h.inv.ltD.2 j a;show t.oth.getD j 0<n+m;omega) (fun i p=>(zwt d e h.inv og (f _)).2 (g i p)) fun j a=>(zwt d e h.inv (f _) og).2 (by
  have:=zuo o j a
  rw[decide_eq_false_iff_not] at this
  omega)
theorem yqg (e:∀v,0<sc v) (g:0<top) (l:A.length=m) (o:b.length=m) (hc:c.length=n) (h:OkT M m n sc top (R4 m n (aF A) (lF b) (lF c)) t) (i:znn m n t=some r) (k:znz n t r=none):CertNone A b c (zvk m n (J9 sc top m n t) r):=by obtain⟨hr,d,_⟩:=zmg i;have d:t.A r n<0:=of_decide_eq_true d;exact yoa l o hc h.eqv (fun j a=>by have:=h.inv.ltD.2 j a;show t.oth.getD j 0<n+m;omega) hr (by have:=h.inv.ltD.1 r hr;show t.bas.getD r 0<n+m;omega) ((yeq e g h.inv og (f _)).2 d) fun j a=>(zwt e g h.inv og og).2 (by have:=zuo k j a;rw[decide_eq_false_iff_not] at this;omega)
theorem yqi (e:∀v,0<sc v) (g:0<top) (u:A.length=m) (w:b.length=m) (hc:c.length=n) (y:∀r∈A,r.length=n) (h:OkT M m n sc top (R4 m n (aF A) (lF b) (lF c)) t) (j:∀i,i<m->0<=t.A i n) (l:zkm m n t=some k) (o:zlx m n t k=none):
 CertRay A b c (zsv m n (J9 sc top m n t)) (zvr m n (J9 sc top m n t) k):=by obtain⟨x,d,_⟩:=zmg l;have d:t.A m k<0:=of_decide_eq_true d;exact yoc u w hc y (h.inv.distD _ _) h.eqv x (fun i a=>(zwt e g h.inv og (f _)).2 (j i a)) ((yeq e g h.inv (f _) og).2 d) fun i a=>by have z:=ybd o i a;have p:=yac (sc:=sc) (top:=top) (m:=m) (n:=n) (t:=t) (show i<=m by omega) (show k<=n by omega);have q:=(zyu (z:=t.A i k) (ybu e g h.inv i k));rw[p];exact Rat.not_lt.1 fun s=>by have:=q.1 s;omega
end
theorem yut {w:e} {m n top:Nat} {sc:Nat->Nat} {t:TB} {st:Int} (h:O7 w S lo0 lo g L m n sc top t st s steps) (a7:m<=100) (a8:n<=100):
 Calls Tryz.prog 124 #[.pointer (some ⟨g,0,none⟩)] w fun ay w'=>ay= .returned (.int .i64 (M8 (znn m n t)))/\Below w.heap.size w w':=by
 have V:=d h;obtain⟨aO,be,aP,bf,aN,aT,aR,aV,-,⟨ab,aA,aB,ac,aC⟩,-,-,-⟩:=h.open;obtain⟨p,O⟩:=nm (fun i=>decide (t.A i n<0));obtain⟨key,l⟩:=nm (fun i=>t.bas.getD i 0);have aq:Hid (znn m n t=T6 p key m):=(by rw[Hid,O,l];rfl);rw[aq.out];obtain⟨an,U⟩:=C4 O l;have D:=h.cap m og;rw[W4] at D;have aZ:=D.1;have a0:L.cp m<=9223372036854775807:=(by have:=D.2;unfold maxLen at this;omega);have N:=h.caps;have a5:m<=L.bc:=og;have a6:L.bc<=9223372036854775807:=(by unfold maxLen at N;omega);have a9:m<=L.rc:=og;have bd:L.rc<=9223372036854775807:=(by unfold maxLen at N;omega);clear h O l N D;have aU:=L7;clear aA aB aC;obtain⟨aS,M⟩:=nm (L.ha m);rw[<-M] at ac;have al:=d M;clear M;have ar:=d ab;go_in;go_wp2_with fail;clear ac ab;go_loopw [12,3,4,5] (fun R best _ _ wr=>∃k:Nat,k<=m/\R= .int .i64 (k:Int)/\best= .int .i64 (M8 (T6 p key k))/\Below w.heap.size w wr) (fun R _ _ _ _=>m-(intOf R).toNat);case atStart=>exact⟨0,B _,rfl,rfl,o _ _⟩
 case round=>
  obtain⟨k,a4,rfl,rfl,ae⟩:=hrel;have r:=d ae;clear ae;rcases y k m with E|a1
  ·obtain⟨au,aI,av,aK,ea,I,J,aa,eq⟩:=(V.out.next r.out).el (l:=m) (j:=k) og (by rw[W4];exact E);rw[ztr] at I J eq;obtain⟨aJ,hI⟩:=(V.out.next r.out).basW og;have T:=B9 r.out ar.out;rw[aJ] at T;have Z:=hI.el k E;have ao:=d E;have a2:(0:Int)<=(k:Int):=og;have a3:(k:Int)<(m:Int):=og;have x:=d eq;obtain⟨G,Q⟩:=nm (decide (t.A k n<0));obtain⟨aM,ah⟩:=nm ((A9 (t.A k n).natAbs).length);obtain⟨aL,ag⟩:=nm ((A9 1).length);rw[<-Q] at I x;rw[<-ah] at J x;rw[<-ag] at aa x;obtain⟨aj,aG,j,ai,aH⟩:=K0 wr #[.bool G,.slice au aM aI,.slice av aL aK] 37;obtain⟨z,A,b2⟩:=C3 ai;have ak:=d j;have v:=nB r j;have F:=B9 j T;have f:=B9 j Z;have l:∀i,(fun i=>t.bas.getD i 0) i=key i:=fun i=>(by rw[U.out]);have u:t.bas.getD k 0=key k:=l k;have f:aj.cell? ⟨L.bb,k,none⟩=some (.int .i64 ((key k:Nat):Int)):=(by rw[<-u];exact f);have aQ:=nQ x j;have W:Hid (p k=G):=(by rw[Hid,an.out,Q]);have az:=al.out.trans ea;subst az;clear Q ah ag ai aH j eq T Z u l E;go_wp2_with fail;clear aG I J aa;have a:Hid (k+1<=m):=ao.out;cases q:p k with
   |false=>have P:G=false:=W.out.symm.trans q;subst P;have c:=hs5 z A b2 F f;refine wp_region_noPanic ?_;refine zlb c fun K=> ?_;refine sT 0 17 ?_;refine sT 1 18 ?_;refine sT 2 19 ?_;refine sU 3 20 ?_;refine sU 4 21 ?_;refine sU 5 22 ?_;refine sU 6 23 ?_;refine sU 7 24 ?_;refine sU 8 25 ?_;refine sU 9 26 ?_;refine sU 10 27 ?_;refine sU 11 28 ?_;refine sU 12 29 ?_;refine sU 13 30 ?_;refine sU 14 31 ?_;refine sU 15 32 ?_;refine sU 16 33 ?_;refine sU 17 34 ?_;refine sU 18 35 ?_;refine sU 19 36 ?_;refine sU 20 37 ?_;refine sU 21 38 ?_;refine sU 22 39 ?_;refine sU 23 40 ?_;refine sT 24 41 ?_;refine wpAnyH_done kr ?_ _;refine NoPanic.normal ?_;go_wp2_with fail;have H:=v.out;go_roundw;(case rel=>exact⟨k+1,a.out,by go_num,by rw[ybq q],bel⟩);case measure=>simp[intOf];have:=a.out;omega
   |true=>
    have P:G=true:=W.out.symm.trans q;subst P;cases C:T6 p key k with
    |none=>have ad:M8 (none:Option Nat)= -1:=rfl;rw[ad];have c:=hs5 z A b2 F f;refine wp_region_noPanic ?_;refine zlb c fun K=> ?_;refine sT 0 17 ?_;refine sT 1 18 ?_;refine sT 2 19 ?_;refine sT 3 20 ?_;refine sT 4 21 ?_;refine sT 5 22 ?_;refine sU 6 23 ?_;refine sU 7 24 ?_;refine sU 8 25 ?_;refine sU 9 26 ?_;refine sU 10 27 ?_;refine sU 11 28 ?_;refine sU 12 29 ?_;refine sU 13 30 ?_;refine sU 14 31 ?_;refine sU 15 32 ?_;refine sU 16 33 ?_;refine sU 17 34 ?_;refine sU 18 35 ?_;refine sU 19 36 ?_;refine sU 20 37 ?_;refine sU 21 38 ?_;refine sU 22 39 ?_;refine sT 23 40 ?_;refine sT 24 41 ?_;refine wpAnyH_done kr ?_ _;refine NoPanic.normal ?_;go_wp2_with fail;have H:=v.out;go_roundw;(case rel=>exact⟨k+1,a.out,by go_num,by rw[ybp q C],bel⟩);case measure=>simp[intOf];have:=a.out;omega
    |some b=>
     have aY:b<k:=(zmg C).1;have X:=hI.el b (oh a);have u:t.bas.getD b 0=key b:=(by rw[U.out]);have Y:aj.cell? ⟨L.bb,b,none⟩=some (.int .i64 ((key b:Nat):Int)):=(by rw[<-u];exact B9 ak.out X);clear u;have aW:(0:Int)<=(b:Int):=og;have aX:(b:Int)<(m:Int):=oh a;have aD:M8 (some b)=(b:Int):=rfl;rw[aD];have ad:decide ((b:Int)<0)=false:=decide_eq_false og;clear X;by_cases af:key k<key b
     ·have aE:decide (((key k:Nat):Int)<((key b:Nat):Int))=true:=decide_eq_true og;have c:=zmh z A b2 F f Y;refine wp_region_noPanic ?_;refine zlb c fun K=> ?_;refine sT 0 17 ?_;refine sT 1 18 ?_;refine sT 2 19 ?_;refine sT 3 20 ?_;refine sT 4 21 ?_;refine sT 5 22 ?_;refine sT 6 23 ?_;refine sT 7 24 ?_;refine sT 8 25 ?_;refine sT 9 26 ?_;refine sT 10 27 ?_;refine sT 11 28 ?_;refine sT 12 29 ?_;refine sT 13 30 ?_;refine sT 14 31 ?_;refine sT 15 32 ?_;refine sT 16 33 ?_;refine sT 17 34 ?_;refine sT 18 35 ?_;refine sT 19 36 ?_;refine sT 20 37 ?_;refine sT 21 38 ?_;refine sT 22 39 ?_;refine sT 23 40 ?_;refine sT 24 41 ?_;refine wpAnyH_done kr ?_ _;refine NoPanic.normal ?_;go_wp2_with fail;have H:=v.out;go_roundw;(case rel=>exact⟨k+1,a.out,by go_num,by rw[ybo q C af],bel⟩);case measure=>simp[intOf];have:=a.out;omega
     ·have aE:decide (((key k:Nat):Int)<((key b:Nat):Int))=false:=decide_eq_false og;have c:=zmh z A b2 F f Y;refine wp_region_noPanic ?_;refine zlb c fun K=> ?_;refine sT 0 17 ?_;refine sT 1 18 ?_;refine sT 2 19 ?_;refine sT 3 20 ?_;refine sT 4 21 ?_;refine sT 5 22 ?_;refine sT 6 23 ?_;refine sT 7 24 ?_;refine sT 8 25 ?_;refine sT 9 26 ?_;refine sT 10 27 ?_;refine sT 11 28 ?_;refine sT 12 29 ?_;refine sT 13 30 ?_;refine sT 14 31 ?_;refine sT 15 32 ?_;refine sT 16 33 ?_;refine sT 17 34 ?_;refine sT 18 35 ?_;refine sT 19 36 ?_;refine sT 20 37 ?_;refine sT 21 38 ?_;refine sT 22 39 ?_;refine sT 23 40 ?_;refine sT 24 41 ?_;refine wpAnyH_done kr ?_ _;refine NoPanic.normal ?_;go_wp2_with fail;have H:=v.out;go_roundw;(case rel=>exact⟨k+1,a.out,by go_num,by rw[ybr q C af],bel⟩);case measure=>simp[intOf];have:=a.out;omega
  ·obtain rfl:k=m:=og;go_wp2_with fail;go_ret;exact⟨rfl,r.out⟩
theorem ysb {w:e} {m n top:Nat} {sc:Nat->Nat} {t:TB} {st:Int} (hr:r<m) (h:O7 w S lo0 lo g L m n sc top t st s steps) (bg:m<=100) (bh:n<=100):
 Calls Tryz.prog 125 #[.pointer (some ⟨g,0,none⟩),.int .i64 (r:Int)] w fun aD w'=>aD= .returned (.int .i64 (M8 (znz n t r)))/\Below w.heap.size w w':=by
 obtain⟨X,ay⟩:=C4 h hr;have bi:(0:Int)<=(r:Int):=og;have bj:(r:Int)<(m:Int):=og;obtain⟨aU,bp,aV,bq,aT,aZ,aX,a1,-,⟨aG,af,ag,aH,aI⟩,-,-,-⟩:=h.open;obtain⟨p,Q⟩:=nm (fun j=>decide (t.A r j<0));obtain⟨key,q⟩:=nm (fun i=>t.oth.getD i 0);have az:Hid (znz n t r=T6 p key n):=(by rw[Hid,Q,q];rfl);rw[az.out];obtain⟨au,W⟩:=C4 Q q;have F:=h.cap r og;rw[J5 og] at F;have a5:=F.1;have a6:L.cp r<=9223372036854775807:=(by have:=F.2;unfold maxLen at this;omega);have P:=h.caps;have be:n<=L.oc:=og;have bf:L.oc<=9223372036854775807:=(by unfold maxLen at P;omega);have bm:m<=L.rc:=og;have bn:L.rc<=9223372036854775807:=(by unfold maxLen at P;omega);obtain⟨ae,aJ,ac⟩:=h.hd r hr;rw[ae] at ag;clear h Q q P F hr ae aJ;have a0:=L7;clear aG aH aI;obtain⟨aY,O⟩:=nm (L.ha r);rw[<-O] at ac;have ar:=d O;clear O;have aA:=d af;go_in;go_wp2_with fail;clear ag af ac;go_loopw [17,5,6,7] (fun U best _ _ wr=>∃k:Nat,k<=n/\U= .int .i64 (k:Int)/\best= .int .i64 (M8 (T6 p key k))/\Below w.heap.size w wr) (fun U _ _ _ _=>n-(intOf U).toNat);case atStart=>exact⟨0,B _,rfl,rfl,o _ _⟩
 case round=>
  obtain⟨k,bd,rfl,rfl,ai⟩:=hrel;have v:=d ai;clear ai;rcases y k n with G|a7
  ·obtain⟨aB,aO,aC,aQ,ea,K,M,ad,eq⟩:=(X.out.next v.out).el (l:=r) (j:=k) og (by rw[J5 og];exact G);rw[zqa ay.out] at K M eq;obtain⟨aP,hI⟩:=(X.out.next v.out).othW og;have V:=B9 v.out aA.out;rw[aP] at V;have ab:=hI.el k G;have av:=d G;have a8:(0:Int)<=(k:Int):=og;have a9:(k:Int)<(n:Int):=og;have A:=d eq;obtain⟨I,T⟩:=nm (decide (t.A r k<0));obtain⟨aS,al⟩:=nm ((A9 (t.A r k).natAbs).length);obtain⟨aR,ak⟩:=nm ((A9 1).length);rw[<-T] at K A;rw[<-al] at M A;rw[<-ak] at ad A;obtain⟨ao,aM,l,an,aN⟩:=K0 wr #[.bool I,.slice aB aS aO,.slice aC aR aQ] 37;obtain⟨C,D,b2⟩:=C3 an;have aq:=d l;have z:=nB v l;have H:=B9 l V;have f:=B9 l ab;have q:∀i,(fun i=>t.oth.getD i 0) i=key i:=fun i=>(by rw[W.out]);have x:t.oth.getD k 0=key k:=q k;have f:ao.cell? ⟨L.ob,k,none⟩=some (.int .i64 ((key k:Nat):Int)):=(by rw[<-x];exact f);have aW:=nQ A l;have Y:Hid (p k=I):=(by rw[Hid,au.out,T]);have aE:=ar.out.trans ea;subst aE;clear T al ak an aN l eq V ab x q G;go_wp2_with fail;clear aM K M ad;have a:Hid (k+1<=n):=av.out;cases u:p k with
   |false=>have R:I=false:=Y.out.symm.trans u;subst R;have c:=hs5 C D b2 H f;refine wp_region_noPanic ?_;refine zlb c fun N=> ?_;refine sT 0 22 ?_;refine sT 1 23 ?_;refine sT 2 24 ?_;refine sU 3 25 ?_;refine sU 4 26 ?_;refine sU 5 27 ?_;refine sU 6 28 ?_;refine sU 7 29 ?_;refine sU 8 30 ?_;refine sU 9 31 ?_;refine sU 10 32 ?_;refine sU 11 33 ?_;refine sU 12 34 ?_;refine sU 13 35 ?_;refine sU 14 36 ?_;refine sU 15 37 ?_;refine sU 16 38 ?_;refine sU 17 39 ?_;refine sU 18 40 ?_;refine sU 19 41 ?_;refine sU 20 42 ?_;refine sU 21 43 ?_;refine sU 22 44 ?_;refine sU 23 45 ?_;refine sT 24 46 ?_;refine wpAnyH_done kr ?_ _;refine NoPanic.normal ?_;go_wp2_with fail;have J:=z.out;go_roundw;(case rel=>exact⟨k+1,a.out,by go_num,by rw[ybq u],bel⟩);case measure=>simp[intOf];have:=a.out;omega
   |true=>
    have R:I=true:=Y.out.symm.trans u;subst R;cases E:T6 p key k with
    |none=>have ah:M8 (none:Option Nat)= -1:=rfl;rw[ah];have c:=hs5 C D b2 H f;refine wp_region_noPanic ?_;refine zlb c fun N=> ?_;refine sT 0 22 ?_;refine sT 1 23 ?_;refine sT 2 24 ?_;refine sT 3 25 ?_;refine sT 4 26 ?_;refine sT 5 27 ?_;refine sU 6 28 ?_;refine sU 7 29 ?_;refine sU 8 30 ?_;refine sU 9 31 ?_;refine sU 10 32 ?_;refine sU 11 33 ?_;refine sU 12 34 ?_;refine sU 13 35 ?_;refine sU 14 36 ?_;refine sU 15 37 ?_;refine sU 16 38 ?_;refine sU 17 39 ?_;refine sU 18 40 ?_;refine sU 19 41 ?_;refine sU 20 42 ?_;refine sU 21 43 ?_;refine sU 22 44 ?_;refine sT 23 45 ?_;refine sT 24 46 ?_;refine wpAnyH_done kr ?_ _;refine NoPanic.normal ?_;go_wp2_with fail;have J:=z.out;go_roundw;(case rel=>exact⟨k+1,a.out,by go_num,by rw[ybp u E],bel⟩);case measure=>simp[intOf];have:=a.out;omega
    |some b=>
     have a4:b<k:=(zmg E).1;have Z:=hI.el b (oh a);have x:t.oth.getD b 0=key b:=(by rw[W.out]);have aa:ao.cell? ⟨L.ob,b,none⟩=some (.int .i64 ((key b:Nat):Int)):=(by rw[<-x];exact B9 aq.out Z);clear x;have a2:(0:Int)<=(b:Int):=og;have a3:(b:Int)<(n:Int):=oh a;have aK:M8 (some b)=(b:Int):=rfl;rw[aK];have ah:decide ((b:Int)<0)=false:=decide_eq_false og;clear Z;by_cases aj:key k<key b
     ·have aL:decide (((key k:Nat):Int)<((key b:Nat):Int))=true:=decide_eq_true og;have c:=zmh C D b2 H f aa;refine wp_region_noPanic ?_;refine zlb c fun N=> ?_;refine sT 0 22 ?_;refine sT 1 23 ?_;refine sT 2 24 ?_;refine sT 3 25 ?_;refine sT 4 26 ?_;refine sT 5 27 ?_;refine sT 6 28 ?_;refine sT 7 29 ?_;refine sT 8 30 ?_;refine sT 9 31 ?_;refine sT 10 32 ?_;refine sT 11 33 ?_;refine sT 12 34 ?_;refine sT 13 35 ?_;refine sT 14 36 ?_;refine sT 15 37 ?_;refine sT 16 38 ?_;refine sT 17 39 ?_;refine sT 18 40 ?_;refine sT 19 41 ?_;refine sT 20 42 ?_;refine sT 21 43 ?_;refine sT 22 44 ?_;refine sT 23 45 ?_;refine sT 24 46 ?_;refine wpAnyH_done kr ?_ _;refine NoPanic.normal ?_;go_wp2_with fail;have J:=z.out;go_roundw;(case rel=>exact⟨k+1,a.out,by go_num,by rw[ybo u E aj],bel⟩);case measure=>simp[intOf];have:=a.out;omega
     ·have aL:decide (((key k:Nat):Int)<((key b:Nat):Int))=false:=decide_eq_false og;have c:=zmh C D b2 H f aa;refine wp_region_noPanic ?_;refine zlb c fun N=> ?_;refine sT 0 22 ?_;refine sT 1 23 ?_;refine sT 2 24 ?_;refine sT 3 25 ?_;refine sT 4 26 ?_;refine sT 5 27 ?_;refine sT 6 28 ?_;refine sT 7 29 ?_;refine sT 8 30 ?_;refine sT 9 31 ?_;refine sT 10 32 ?_;refine sT 11 33 ?_;refine sT 12 34 ?_;refine sT 13 35 ?_;refine sT 14 36 ?_;refine sT 15 37 ?_;refine sT 16 38 ?_;refine sT 17 39 ?_;refine sT 18 40 ?_;refine sT 19 41 ?_;refine sT 20 42 ?_;refine sT 21 43 ?_;refine sT 22 44 ?_;refine sT 23 45 ?_;refine sT 24 46 ?_;refine wpAnyH_done kr ?_ _;refine NoPanic.normal ?_;go_wp2_with fail;have J:=z.out;go_roundw;(case rel=>exact⟨k+1,a.out,by go_num,by rw[ybr u E aj],bel⟩);case measure=>simp[intOf];have:=a.out;omega
  ·obtain rfl:k=n:=og;go_wp2_with fail;go_ret;exact⟨rfl,v.out⟩
theorem ysl {w:e} {a:u} {x:Raw} (h:IsR w S a x):∀f∈a.cells,f.oneCell'=true:=by obtain⟨A,c,B,d,rfl,_,_⟩:=h;intro f b;simp[Value.cells] at b;rcases b with rfl|rfl|rfl<;>rfl
theorem ygl:(Tryz.prog.info? 3).map (fun i=>(i.zero,i.size,i.bytes))=some (some (.int .i64 0),1,8):=by kernel_rfl
theorem zuy:ElN Tryz.prog 22 3 1 8:=⟨Tryz.underlying22,by obtain⟨i,a,b,c,d⟩:=info_parts ygl;exact⟨i,_,a,b,c,d,rfl⟩,by omega⟩
def IsIV (w:e) (S:Nat->Prop) (v:u) (x:Int):Prop:=v= .int .i64 x
theorem IsIV.stb:Stb IsIV:=fun _ _ _ _ _ _ h _=>h
theorem ynv (l:List Int):cellsOf (l.map fun x=>Value.int .i64 x)=l.map fun x=>Value.int .i64 x:=by
 induction l with
 |nil=>rfl
 |cons x l ih=>have a:cellsOf ((x::l).map fun x=>Value.int .i64 x)=(Value.int .i64 x).cells.toList++cellsOf (l.map fun x=>Value.int .i64 x):=(by simp[cellsOf]);rw[a,ih];rfl
theorem ymi {w:e} (l:List Int):All2 (IsIV w S) (l.map fun x=>Value.int .i64 x) l:=⟨by simp,fun j x y a b=>by
 rw[List.getElem?_map,b] at a
 cases a;rfl⟩
theorem zz1391 (l:List Int):Wid 1 (l.map fun x=>Value.int .i64 x):=fun v hv=>by obtain⟨x,_,rfl⟩:=List.mem_map.1 hv;rfl
theorem IsIL.isS {w:e} (h:IsIL w S v l):IsS 1 IsIV w S v l:=by obtain⟨A,c,hv,a,b,d,f⟩:=h;exact⟨A,c,l.map fun x=>Value.int .i64 x,hv,a,b,by rw[ynv];exact d,zz1391 l,ymi l⟩
theorem ycw {F:Program} {w:e} {ops:Array Oper} {rest:List Oper} {q:Oper} {a:Act} {M:Exit->Act->e->Prop} {t d:TypeId} {n bytes:Nat} (E:ElN F t d n bytes) (ab:q.guard=none) (s x:Operand) (ag:q.op= .call {callee:= .builtin .append,args:= #[s,x],argTypes:= #[t,t]})
 {Q:Type} {R:e->(Nat->Prop)->u->Q->Prop} (X:Stb R) {G:Addr} {m c:Nat} {l:List Q} (ah:a.eval s= .slice (some ⟨w.heap.size,0,none⟩) 0 0) (J:a.eval x= .slice (some G) m c) (hv:IsS n R w S (.slice (some G) m c) l)
 (r:∀b,S b->b<w.heap.size) (U:∀d x,R w S d x->∀v∈d.cells,v.oneCell'=true) (g:l.length*(bytes+1)<=140737488355328)
 (h:∀C w',OwnS n d R w' w.heap.size S C l->Below w.heap.size w w'->C≠.slice none 0 0->wpList F ops M rest (a.put q.dst C) w'):wpList F ops M (q::rest) a (w.alloc (.cells #[] d)):=by
 obtain⟨i,z,ac,ak,ai,Z,al⟩:=E.info
 obtain⟨A,ao,I,P,ar,au,V,N,D⟩:=hv
 simp only[Value.slice.injEq] at P
 obtain⟨rfl,rfl,rfl⟩:=P
 have ae:=zqs N
 rw[Nat.mul_add,Nat.mul_one] at g
 refine wpList_append_own _ ab s x t ag w.heap.size d i z n bytes E.und ac ak ai Z al E.pos _ 0 [] ah (World.ownsRow_made w #[] 0 (f _) (B _) (by simp)) G l.length c (cellsOf I) J (by rw[ae,D.1]) (fun j v p=> ?_) (fun v p=> ?_) (by unfold maxLen;omega) (by rw[Nat.zero_add];omega) (by simp)
  fun C w' K L an=>h C w' ?_ ?_ ?_
 ·have af:cellsOf I≠[]:=fun d=>by rw[d] at p;simp at p
  obtain⟨b,off,W,aq,aa⟩:=V af
  cases W
  rw[Addr.add_lit]
  exact Lib.cell?_alloc_some _ (aa j v p)
 ·unfold cellsOf at p
  obtain⟨x,J,p⟩:=List.mem_flatMap.1 p
  obtain⟨j,O⟩:=List.getElem?_of_mem J
  obtain⟨y,aj⟩:∃y,l[j]? =some y:=⟨_,List.getElem?_eq_getElem (by rw[<-D.1];exact(List.getElem?_eq_some_iff.1 O).1)⟩
  exact U _ _ (D.2 j _ _ O aj) v (by simpa using p)
 ·have Y:=(o w.heap.size w).alloc (f _) (.cells #[] d)
  have hst:L1 S S w w':=fun b g=>⟨g,fun q=>by
   have T:=L.block b (by rw[World.size_alloc];have:=r b g;omega) (by simp[Value.ownBlock];have:=r b g;omega)
   exact(World.cell?_of_block T).trans ((zqg Y r b g).2 q)⟩
  refine⟨I,?_,N,D.imp fun x y h=>X.to h hst,fun b g=>⟨?_,fun H=> ?_⟩⟩
  ·rw[Nat.zero_add,List.nil_append] at K;exact K
  ·have:=L.size;rw[World.size_alloc] at this;have:=r b g;omega
  ·have:=(K.lt b H.symm).1;have:=r b g;omega
 ·exact((o _ w).alloc (f _) _).grown L (by simp) (by intro k ad;simp[Value.ownBlock] at ad;omega)
 ·intro H
  have:=(an.1 H).1
  simp at this
theorem yeh {w:e} (h:IsS 1 IsIV w (C2 w) v l) (O:l.length<=10000):
 Calls Tryz.prog 92 #[v] w fun g w'=>(∃m,g= .returned m/\OwnS 1 3 IsIV w' w.heap.size (C2 w) m l)/\Below w.heap.size w w':=by
 have p:=d h;obtain⟨A,c,r,rfl,M,N,D,E,F⟩:=id h;clear h D E F;cases A with
 |none=>
  have s:l=[]:=by
   obtain⟨A,i,r,g,_,_,J,K,ha⟩:=p.out;simp only[Value.slice.injEq] at g;obtain⟨rfl,_,_⟩:=g;refine List.eq_nil_of_length_eq_zero ?_;rw[<-ha.1];rcases Nat.eq_zero_or_pos r.length with h|h
   ·exact h
   ·exfalso;have t:=zqs K;obtain⟨b,off,G,_⟩:=J (fun g=>by rw[g] at t;simp at t;omega);cases G
  have C:=d s;clear s;have q:=fun(w:e) (a:Option Addr) (n c k i:Nat)=>Lib.run_eql_slice_nil w _ _ a n c k i Tryz.underlying22;go_in;go_wp2_with fail;go_ret;refine⟨⟨_,rfl,?_⟩,o _ _⟩;rw[C.out];exact OwnS.nil fun b j=>j
 |some L=>have q:=fun(w:e) (a:Option Addr) (n c k i:Nat)=>Lib.run_eql_slice_nil w _ _ a n c k i Tryz.underlying22;go_in;go_wp2_with (at_builtin;refine ycw zuy rfl _ _ rfl IsIV.stb rfl rfl p.out (fun b j=>j) (fun g x h Q z=>by cases(show g= .int .i64 x from h);simp[Value.cells] at z;subst z;rfl) og ?_;intro m w' I H P);go_ret;exact⟨⟨_,rfl,I⟩,H⟩
theorem yej {w:e} {l:List Raw} (h:IsS 3 IsR w (C2 w) v l) (N:l.length<=10000):
 Calls Tryz.prog 151 #[v] w fun g w'=>(∃m,g= .returned m/\OwnS 3 37 IsR w' w.heap.size (C2 w) m l)/\Below w.heap.size w w':=by
 have p:=d h;obtain⟨A,c,r,rfl,L,M,C,D,E⟩:=id h;clear h C D E;cases A with
 |none=>
  have s:l=[]:=by
   obtain⟨A,i,r,g,_,_,I,J,ha⟩:=p.out;simp only[Value.slice.injEq] at g;obtain⟨rfl,_,_⟩:=g;refine List.eq_nil_of_length_eq_zero ?_;rw[<-ha.1];rcases Nat.eq_zero_or_pos r.length with h|h
   ·exact h
   ·exfalso;have t:=zqs J;obtain⟨b,off,F,_⟩:=I (fun g=>by rw[g] at t;simp at t;omega);cases F
  have z:=d s;clear s;have q:=fun(w:e) (a:Option Addr) (n c k i:Nat)=>Lib.run_eql_slice_nil w _ _ a n c k i Tryz.underlying30;go_in;go_wp2_with fail;go_ret;refine⟨⟨_,rfl,?_⟩,o _ _⟩;rw[z.out];exact OwnS.nil fun b j=>j
 |some K=>have q:=fun(w:e) (a:Option Addr) (n c k i:Nat)=>Lib.run_eql_slice_nil w _ _ a n c k i Tryz.underlying30;go_in;go_wp2_with (at_builtin;refine ycw zli rfl _ _ rfl IsR.stb rfl rfl p.out (fun b j=>j) (fun g x h=>ysl h) og ?_;intro m w' H G O);go_ret;exact⟨⟨_,rfl,H⟩,G⟩
def IsSl (w:e) (S:Nat->Prop) (v x:u):Prop:=v=x/\∃A m c,x= .slice A m c
theorem IsSl.stb:Stb IsSl:=fun _ _ _ _ _ _ h _=>h
theorem yom {w:e} {l:List u} (h:IsS 1 IsSl w (C2 w) v l) (P:l.length<=10000):
 Calls Tryz.prog 160 #[v] w fun g w'=>(∃p,g= .returned p/\OwnS 1 30 IsSl w' w.heap.size (C2 w) p l)/\Below w.heap.size w w':=by
 have r:=d h;obtain⟨A,c,s,rfl,N,O,E,F,G⟩:=id h;clear h E F G;cases A with
 |none=>
  have t:l=[]:=by
   obtain⟨A,i,s,g,_,_,K,L,ha⟩:=r.out;simp only[Value.slice.injEq] at g;obtain⟨rfl,_,_⟩:=g;refine List.eq_nil_of_length_eq_zero ?_;rw[<-ha.1];rcases Nat.eq_zero_or_pos s.length with h|h
   ·exact h
   ·exfalso;have z:=zqs L;obtain⟨b,off,H,_⟩:=K (fun g=>by rw[g] at z;simp at z;omega);cases H
  have D:=d t;clear t;have q:=fun(w:e) (a:Option Addr) (n c k i:Nat)=>Lib.run_eql_slice_nil w _ _ a n c k i Tryz.underlying28;go_in;go_wp2_with fail;go_ret;refine⟨⟨_,rfl,?_⟩,o _ _⟩;rw[D.out];exact OwnS.nil fun b j=>j
 |some M=>have q:=fun(w:e) (a:Option Addr) (n c k i:Nat)=>Lib.run_eql_slice_nil w _ _ a n c k i Tryz.underlying28;go_in;go_wp2_with (at_builtin;refine ycw elV rfl _ _ rfl IsSl.stb rfl rfl r.out (fun b j=>j) (fun g x h R C=>by obtain⟨rfl,A,m,c,rfl⟩:=h;simp[Value.cells] at C;subst C;rfl) og ?_;intro p w' J I Q);go_ret;exact⟨⟨_,rfl,J⟩,I⟩
theorem zpf {w:e} {c:Nat} {S:e->Prop} (j:Nat) (h:Hid (∀a:e,Below w.heap.size w a->S a)) (r:NeL c S):Hid (∀a:e,Below w.heap.size w a->∀x y z,S (L9 a c j x y z)):=fun a d x y z=>r (fun a=>L9 a c j x y z) (fun b f v a n h=>yay h n) a (h.out a d)
end Go.Proofs.YtdgilbgdkmhcmaaGreatDoor
