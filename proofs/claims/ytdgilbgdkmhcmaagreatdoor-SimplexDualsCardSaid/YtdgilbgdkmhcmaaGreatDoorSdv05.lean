/-
 Plain facts on the first 18 digits of a number.
-/
import Derived.Test.YtdgilbgdkmhcmaaGreatDoorSdv04
import Derived.Laws.EntriesVeiled
namespace Go.Proofs.YtdgilbgdkmhcmaaGreatDoor
open Go.RowKit
set_option linter.unusedVariables false
set_option maxRecDepth 100000
set_option maxHeartbeats 8000000
open _root_.Go.Lib renaming hid → j
open _root_.Nat renaming le_refl → g, le_trans → s, lt_or_ge → C, zero_le → F, lt_of_le_of_lt → G, mul_le_mul_right → E, le_of_lt_succ → H
open _root_.Go.RowKit.Below renaming refl → z
open _root_.Go.World renaming size_alloc → q
open _root_.Go renaming World → i, Calls → p
open _root_.Go.RowKit renaming Below → l, Hid → e
open _root_.Go.Proofs.Tryz renaming prog → u
variable {P V Y c' r : Int} {T c hi D lo lo' n t top : Nat} {b : List Nat} {v k o a : Value} {f m : i}
theorem zz1364 {y:Nat} (g:3<=n) (d:y<pw n):y/pw (n-3)=((A9 y).getD (n-1) 0*1000000000+(A9 y).getD (n-2) 0)*1000000000+(A9 y).getD (n-3) 0:=by obtain⟨a,rfl⟩:∃a,n=a+3:=⟨n-3,by omega⟩;rw[zqj,zqj,zqj];simp only[Nat.add_sub_cancel,show a+3-1=a+2 from by omega,show a+3-2=a+1 from by omega];have b:y/pw (a+1)=y/pw a/1000000000:=(by rw[X9,Nat.mul_comm,Nat.div_div_eq_div_mul]);have c:y/pw (a+2)=y/pw a/1000000000/1000000000:=(by rw[show a+2=(a+1)+1 from rfl,X9,Nat.mul_comm,<-Nat.div_div_eq_div_mul,b]);have f:y/pw a<1000000000000000000000000000:=(by rw[Nat.div_lt_iff_lt_mul (zmv a)];rw[show a+3=3+a from by omega,zuy] at d;simp only[pw] at d⊢;omega);rw[b,c];clear b c;generalize y/pw a=e at*;omega
def TensAt (top t c:Nat):Prop:=t*c=1000000000/\top*t<1000000000
theorem TensAt.start (h:top<1000000000):TensAt top 1 1000000000:=⟨rfl,by omega⟩
def zoq (y n t:Nat):Nat:=((A9 y).getD (n-1) 0*1000000000+(A9 y).getD (n-2) 0)*t+(A9 y).getD (n-3) 0*t/1000000000
theorem yem {y:Nat} (j:3<=n) (l:y<pw n) (h:t*c=1000000000):zoq y n t=y/(pw (n-3)*c):=by
 have hc:0<c:=by
  rcases Nat.eq_zero_or_pos c with a|a
  ·subst a;omega
  ·exact a
 have k:0<t:=by
  rcases Nat.eq_zero_or_pos t with a|a
  ·subst a;omega
  ·exact a
 unfold zoq;have e:y/(pw (n-3)*c)=y/pw (n-3)/c:=(Nat.div_div_eq_div_mul _ _ _).symm;rw[e,zz1364 j l,<-h];have f:(A9 y).getD (n-3) 0*t/(t*c)=(A9 y).getD (n-3) 0/c:=(by rw[Nat.mul_comm t c,Nat.mul_div_mul_right _ _ k]);have g:((A9 y).getD (n-1) 0*(t*c)+(A9 y).getD (n-2) 0)*(t*c)+(A9 y).getD (n-3) 0=((A9 y).getD (n-1) 0*(t*c)+(A9 y).getD (n-2) 0)*t*c+(A9 y).getD (n-3) 0:=(by rw[Nat.mul_assoc _ t c]);have i:∀d b:Nat,(d*c+b)/c=d+b/c:=fun d b=>(by rw[Nat.add_comm,Nat.add_mul_div_right _ _ hc,Nat.add_comm]);rw[f,g,i]
theorem yen {y:Nat} (h:t*c=1000000000) (f:(A9 y).getD (n-1) 0*t<1000000000):(A9 y).getD (n-1) 0*t+t<=1000000000/\t<=1000000000:=by
 have hc:0<c:=by
  rcases Nat.eq_zero_or_pos c with b|b
  ·subst b;omega
  ·exact b
 generalize (A9 y).getD (n-1) 0=d at*
 have a:d<c:=by
  rcases C d c with a|a
  ·exact a
  ·have:=E t a;rw[Nat.mul_comm c t] at this;omega
 have e:=E t a;rw[Nat.mul_comm c t,Nat.succ_eq_add_one,Nat.add_mul,Nat.one_mul] at e;exact⟨by omega,by rw[<-h];exact Nat.le_mul_of_pos_right _ hc⟩
theorem ynj {a b:Nat} (h:a*b<=c):(a:Int)*(b:Int)<=(c:Int):=by rw[<-Int.natCast_mul];omega
theorem zz1371 {a b:Nat} (h:(a:Int)*(b:Int)*10<1000000000):a*b*10<1000000000:=by rw[<-Int.natCast_mul] at h;omega
theorem ydg {a:List Nat} (h:a.getD (n-1) 0*T+T<=1000000000):((a.getD ((n:Int)-1).toNat 0:Nat):Int)*(T:Int)+(T:Int)<=1000000000:=by rw[show((n:Int)-1).toNat=n-1 from by omega,<-Int.natCast_mul];omega
theorem zz1358 (d:1<=top) (i:top*T*10<1000000000) (h:∃t,t<=9/\T=10^t):T*10<1000000000/\(∃t,t<=9/\T*10=10^t)/\top*(T*10)<=999999999:=by
 have g:=E T d;have e:T*10<1000000000:=og;refine⟨e,?_,by rw[<-Nat.mul_assoc];omega⟩;obtain⟨t,f,a⟩:=h;refine⟨t+1,?_,by rw[a,Nat.pow_succ]⟩;rcases C t 9 with b|b
 ·omega
 ·have c:=Nat.pow_le_pow_right (show 0<10 by omega) b;rw[<-a] at c;omega
theorem ysv {x y:Nat} (b:3<=n) (d:x<pw n) (f:y<=x) (u:(A9 x).getD (n-1) 0*T<=999999999) (h:∃t,t<=9/\T=10^t):
 ∃a:Nat,0<a/\zoq x n T=x/a/\zoq y n T=y/a/\x/a<=999999999999999999/\(A9 x).getD (n-1) 0*T+T<=1000000000/\(A9 y).getD (n-1) 0*T+T<=1000000000:=by obtain⟨t,s,o⟩:=h;have c:T*10^(9-t)=1000000000:=(by rw[o,<-Nat.pow_add,show t+(9-t)=9 from by omega]);have r:y<pw n:=G f d;have e:=yem b d c;have i:=yem b r c;have l:(A9 y).getD (n-1) 0<=(A9 x).getD (n-1) 0:=(by rw[zqj,zqj];have m:x/pw (n-1)<1000000000:=(by rw[Nat.div_lt_iff_lt_mul (zmv _)];rw[show n=(n-1)+1 from by omega,X9] at d;exact d);have b:y/pw (n-1)<=x/pw (n-1):=Nat.div_le_div_right f;rw[Nat.mod_eq_of_lt m,Nat.mod_eq_of_lt og];exact b);have v:=E T l;have p:=yen (y:=x) (n:=n) c og;have q:=yen (y:=y) (n:=n) c og;refine⟨pw (n-3)*10^(9-t),Nat.mul_pos (zmv _) (Nat.pow_pos og),e,i,?_,p.1,q.1⟩;rw[<-e];have j:=znu (L6 x) (n-2);have k:=znu (L6 x) (n-3);unfold zoq;generalize (A9 x).getD (n-1) 0=u1 at*;generalize (A9 x).getD (n-2) 0=u2 at*;generalize (A9 x).getD (n-3) 0=u3 at*;have g:(u1*1000000000+u2)*T=u1*T*1000000000+u2*T:=(by grind);have w:=E T (H j);have z:=E T (H k);rw[g];omega
theorem ytl {w:i} {y e:Nat} (a:Int) (q:0<=a) (v:a<=4294967296) (ha:IsN w lo hi k y) (hc:w.cell? ⟨e,0,none⟩=some k):
 p u 206 #[.int .i64 a,.pointer (some ⟨e,0,none⟩)] w fun o w'=>o= .returned (.int .u64 ((A9 y).getD a.toNat 0:Nat))/\w'=w:=by
 have s:=ha.length_le;unfold maxLen at s;obtain⟨A,c,rfl,_,_,r⟩:=ha;obtain⟨d,rfl⟩:=Int.eq_ofNat_of_zero_le q;rw[Int.toNat_natCast];generalize g:A9 y=t at*;have n:=j g;clear g;rcases C d t.length with h|h
 ·obtain⟨b,off,rfl,_,_,f⟩:=r (L8 (j:=d) h);obtain⟨x,l,B,z⟩:=zmn (j:=d) f h;have D:x<=999999999:=(by have:=l.out;have:=znu (L6 y) d;rw[n.out] at this;omega);clear f;go_in;go_wp2;go_ret;exact⟨H6 l.out,rfl⟩
 ·have m:=j (znb h);go_in;go_wp2;go_ret;exact⟨H6 (by rw[m.out];rfl),rfl⟩
theorem IsN.drewB {w:i} {x:Nat} (h:IsN w lo hi v x) (n:Nat):IsN (w.drewN n) lo hi v x:=h
theorem ygp {w:i} {y r v:Nat} (n t:Int) (ha:IsN w lo hi k y) (af:hi<=w.heap.size) (an:3<=n) (ao:n<=4294967296) (ar:1<=t) (ag:t<=1000000000) (M:((A9 y).getD (n-1).toNat 0:Int)*t+t<=1000000000)
 (K:w.cell? ⟨r,0,none⟩=some (.int .i64 n)) (L:w.cell? ⟨v,0,none⟩=some (.int .u64 t)) (Z:r<w.heap.size) (aa:v<w.heap.size):
 p u 205 #[k,.pointer (some ⟨r,0,none⟩),.pointer (some ⟨v,0,none⟩)] w fun q w'=>q= .returned (.int .i64 (zoq y n.toNat t.toNat:Nat))/\l w.heap.size w w':=by
 have I:=j ha;obtain⟨A,c,rfl,_,_,ak⟩:=ha;have al:=(World.cell?_alloc_lt w (.cells #[.slice A (A9 y).length c] 35) ⟨r,0,none⟩ Z).trans K;have aq:=(World.cell?_alloc_lt w (.cells #[.slice A (A9 y).length c] 35) ⟨v,0,none⟩ aa).trans L;have J:(w.alloc (.cells #[.slice A (A9 y).length c] 35)).cell? ⟨w.heap.size,0,none⟩=some (.slice A (A9 y).length c):=(by have:=cell_one_new w (.slice A (A9 y).length c) 35 0 _ rfl;rwa[Addr.add_lit] at this);have B:=j (And.intro (I.out.below ((z _ w).alloc (g _) (.cells #[.slice A (A9 y).length c] 35)) af) J);clear J K L
 have x:∀(m:Int),0<=m->m<=4294967296->∀d,p u 206 #[.int .i64 m,.pointer (some ⟨w.heap.size,0,none⟩)] ((w.alloc (.cells #[.slice A (A9 y).length c] 35)).drewN d) fun q w'=>q= .returned (.int .u64 ((A9 y).getD m.toNat 0:Nat))/\w'=(w.alloc (.cells #[.slice A (A9 y).length c] 35)).drewN d:=
  fun m X Y d=>ytl m X Y (B.out.1.drewB d) B.out.2
 obtain⟨a,F,C⟩:∃a:Int,a=((A9 y).getD (n-1).toNat 0:Nat)/\_:=⟨_,rfl,x (n-1) og og⟩;obtain⟨b,G,D⟩:∃b:Int,b=((A9 y).getD (n-2).toNat 0:Nat)/\_:=⟨_,rfl,x (n-2) og og⟩;obtain⟨f,H,E⟩:∃f:Int,f=((A9 y).getD (n-3).toNat 0:Nat)/\_:=⟨_,rfl,x (n-3) og og⟩;rw[<-F] at C M;rw[<-G] at D;rw[<-H] at E;have ac:=znu (L6 y) (n-1).toNat;have ad:=znu (L6 y) (n-2).toNat;have ae:=znu (L6 y) (n-3).toNat;have ah:0<=a:=og;have ai:a<=999999999:=og;have aj:0<=b:=og;have U:b<=999999999:=og;have V:0<=f:=og;have W:f<=999999999:=og;have au:0<=(a*1000000000+b)*t:=Int.mul_nonneg og og;have av:(a*1000000000+b)*t<=1000000000000000000:=(by have q:(a*1000000000+b)*t=a*t*1000000000+b*t:=(by grind);have h:=Int.mul_le_mul_of_nonneg_right U (show 0<=t by omega);rw[q];omega);have ay:0<=f*t:=Int.mul_nonneg V og;have az:f*t<=999999999000000000:=(by have h:=Int.mul_le_mul W ag og (by omega:(0:Int)<=999999999);omega);have hfin:e ((a*1000000000+b)*t+f*t/1000000000=((zoq y n.toNat t.toNat:Nat):Int)):=(by obtain⟨o,rfl⟩:=Int.eq_ofNat_of_zero_le (show 0<=n by omega);obtain⟨s,rfl⟩:=Int.eq_ofNat_of_zero_le (show 0<=t by omega);have R:((o:Int)-1).toNat=o-1:=og;have S:((o:Int)-2).toNat=o-2:=og;have T:((o:Int)-3).toNat=o-3:=og;unfold e zoq;rw[F,G,H,R,S,T,Int.toNat_natCast,Int.toNat_natCast];simp);obtain⟨N,O,P⟩:=G6 C D E;have Q:e (∀d,l w.heap.size w ((w.alloc (.cells #[.slice A (A9 y).length c] 35)).drewN d)):=fun d=>below_drewN ((z _ w).alloc (g _) _) d;clear x C D E F G H ac ad ae M B I;go_in;go_wp2;go_quiet ((go_at_call 206;first|(with_reducible exact Calls.quiet_of_same (N.out _))|(with_reducible exact Calls.quiet_of_same (O.out _))|(with_reducible exact Calls.quiet_of_same (P.out _))));go_wp2;go_ret;exact⟨H6 hfin.out,Q.out _⟩
def yap (a:Nat) (w:i):Nat:=match w.cell? ⟨a,0,none⟩ with
 |some (.int _ t)=>1000000000-t.toNat
 |_=>0
theorem ygv {a:Nat} {w:i} {k:IntKind} {t:Int} (h:w.cell? ⟨a,0,none⟩=some (.int k t)):yap a w=1000000000-t.toNat:=by unfold yap;rw[h]
def ycs (x y:Nat) (b:Ending):Prop:=∃a:Nat,0<a/\b= .returned (.tuple #[.int .i64 (x/a:Nat),.int .i64 (y/a:Nat)])/\x/a<=999999999999999999
theorem ysx {w:i} {x y:Nat} (ha:IsN w lo hi k x) (aa:IsN w lo' D o y) (ag:hi<=w.heap.size) (aP:D<=w.heap.size) (aQ:y<=x) (v:3<=(A9 x).length) (aX:(A9 x).length<=4294967296):
 p u 199 #[k,o] w fun O w'=>ycs x y O/\l w.heap.size w w':=by
 obtain⟨V,au⟩:=C4 ha aa;obtain⟨A,c,rfl,_,_,P⟩:=ha;obtain⟨B,d,rfl,_,_,a0⟩:=aa;obtain⟨n,L⟩:=nm ((A9 x).length);have aq:e (x<pw n):=(by rw[e,L];exact zpk x);have an:1<=(A9 x).getD (n-1) 0:=(by rw[zqj];have aH:pw (n-1)<=x:=lim_len_lt.1 og;have aI:x<pw (n-1)*1000000000:=(by have:=aq.out;rw[show n=(n-1)+1 from by omega,X9,Nat.mul_comm] at this;exact this);have v:x/pw (n-1)<1000000000:=(by rw[Nat.div_lt_iff_lt_mul (zmv _),Nat.mul_comm];exact aI);rw[Nat.mod_eq_of_lt v];exact Nat.div_pos aH (zmv _));have aW:=znu (L6 x) (n-1);obtain⟨top,N⟩:=nm ((A9 x).getD (n-1) 0);obtain⟨b,off,rfl,a4,f,_⟩:=P (L8 (j:=n-1) og);have af:∀wr,l w.heap.size w wr->wr.cell? ⟨b,off+(n-1),none⟩=some (.int .u32 (top:Int)):=(by intro wr a;rw[N];exact(P.below a ag).at_ _ _ (zoe og));obtain⟨ay,aY,aE⟩:=G6 af L N;rw[<-L] at v aX V⊢;rw[<-N] at an aW;clear af L N P;have Q:=cell_one_new w (.int .i64 (n:Int)) 3 0 _ rfl;have J:=cell_one_new (w.alloc (.cells #[.int .i64 (n:Int)] 3)) (.int .u64 1) 160 0 _ rfl;rw[Addr.add_lit,Nat.add_zero] at Q J;rw[q] at J;have ae:=(World.cell?_alloc_lt (w.alloc (.cells #[.int .i64 (n:Int)] 3)) (.cells #[.int .u64 1] 160) ⟨w.heap.size,0,none⟩ (by rw[q];show w.heap.size<_;omega)).trans Q;have ac:=(((z w.heap.size w).alloc (g _) (.cells #[.int .i64 (n:Int)] 3)).alloc (by rw[q];omega) (.cells #[.int .u64 1] 160));obtain⟨av,ar⟩:=C4 ac (And.intro ae J);have ak:(((w.alloc (.cells #[.int .i64 (n:Int)] 3)).alloc (.cells #[.int .u64 1] 160)).heap.size)=w.heap.size+2:=(by rw[q,q]);have aD:=j ak;have aN:∀wr:i,(∃t,Row wr (w.heap.size+1) 160 t)->wr.frozen? ⟨w.heap.size+1,0,none⟩=false:=fun wr ⟨t,h⟩=>h.frozen 0;have aj:Row ((w.alloc (.cells #[.int .i64 (n:Int)] 3)).alloc (.cells #[.int .u64 1] 160)) (w.heap.size+1) 160 [.int .u64 1]:=(by have:=heap_alloc_new (w.alloc (.cells #[.int .i64 (n:Int)] 3)) (.cells #[.int .u64 1] 160);rw[q] at this;exact this);have aC:=j aj;clear Q ae J ac ak aj aN;go_in;go_wp2;go_loopw [] (fun wr=>∃T:Nat,Row wr (w.heap.size+1) 160 [.int .u64 (T:Int)]/\wr.cell? ⟨w.heap.size,0,none⟩=some (.int .i64 (n:Int))/\l w.heap.size w wr/\e (wr.heap.size=w.heap.size+2)/\1<=T/\T<=1000000000/\top*T<=999999999/\e (∃t,t<=9/\T=10^t)) (fun wr=>yap (w.heap.size+1) wr);case atStart=>exact⟨1,aC.out,ar.out.1,av.out,aD.out,by omega,by omega,by omega,0,by omega,rfl⟩
 case round=>
  obtain⟨T,hr,K,a,S,a1,a3,al,hrel⟩:=hrel;have r:=hr.cell 0;have aM:=hr.frozen 0;have aL:=ay.out wr a;simp only[List.getElem?_cons_zero] at r;have a6:0<=(top:Int)*(T:Int):=Int.mul_nonneg og og;have a7:(top:Int)*(T:Int)<=999999999:=ynj al;rcases Int.lt_or_le ((top:Int)*T*10) 1000000000 with aR|aO
  ·have M:=zz1358 an (zz1371 aR) hrel.out;have a2:=M.1;have aT:=j M.2.1;have aV:=j M.2.2;clear M;go_wp2;go_quiet (fail);go_wp2;go_roundw
   case rel=>
    refine⟨T*10,?_,?_,below_drewN a _|>.setCell (by show w.heap.size<=w.heap.size+1;omega) _,?_,by omega,by omega,aV.out,aT.out⟩
    ·have:=(hr.drewN nq).set_ 0 (.int .u64 ((T:Int)*10));rw[Int.natCast_mul];exact this
    ·rw[World.cell?_setCell_other _ _ _ _ (by simp)];exact K
    ·have:=S.out;simpa[e,World.setCell] using this
   case measure=>rw[ygv r,ygv (k:= .u64) (t:=(T:Int)*10) (World.cell?_setCell_same' _ _ _ (by show(wr.cell? _).isSome=true;rw[r];rfl))];omega
  ·obtain⟨aG,Z,W,X,ao,ah,ai⟩:=ysv v aq.out aQ (by rw[<-aE.out];exact al) hrel.out;have az:e (ycs x y (.returned (.tuple #[.int .i64 (zoq x n T:Nat),.int .i64 (zoq y n T:Nat)]))):=⟨aG,Z,by rw[W,X],ao⟩;obtain⟨aA,aB⟩:=C4 (ydg ah) (ydg ai);clear W X ao ah ai Z hrel;have aZ:=j (And.intro K (And.intro r a));have a5:decide ((top:Int)*(T:Int)*10<1000000000)=false:=decide_eq_false og;go_wp2_with fail;go_quiet (fail);clear aO;go_wp2_with fail;have I:l w.heap.size w (wr.drewN nq):=below_drewN a nq;have a9:(wr.drewN nq).heap.size=w.heap.size+2:=S.out;have R:(wr.drewN nq).cell? ⟨w.heap.size,0,none⟩=some (.int .i64 (n:Int)):=K;have U:(wr.drewN nq).cell? ⟨w.heap.size+1,0,none⟩=some (.int .u64 (T:Int)):=r;clear K r aL aM hr a S;generalize wr.drewN nq=be at*;obtain⟨Y,aJ⟩:=C4 (V.out.below I ag) (au.out.below I aP);refine(ygp (n:Int) (T:Int) Y.out og og og og og aA.out R U og og).mono ?_;rw[Int.toNat_natCast,Int.toNat_natCast];rintro O m ⟨rfl,f⟩;have ad:=I.trans (f.mono I.size);have aS:=(f.cell (p:=⟨w.heap.size,0,none⟩) (by show w.heap.size<_;omega)).trans R;have aU:=(f.cell (p:=⟨w.heap.size+1,0,none⟩) (by show w.heap.size+1<_;omega)).trans U;have a8:=f.size;clear R U Y;go_wp2_with fail;refine(ygp (n:Int) (T:Int) (aJ.out.below f og) og og og og og aB.out aS aU og og).mono ?_;rw[Int.toNat_natCast,Int.toNat_natCast];rintro O bd ⟨rfl,aK⟩;go_wp2_with fail;go_ret2;exact⟨az.out,ad.trans (aK.mono ad.size)⟩
theorem yuc {A B X x y c:Int} (h:V+c*P=X*A+Y*B) (hr:r=X*x+c+Y*y-c'*1000000000):V+P*r+c'*(1000000000*P)=X*(A+P*x)+Y*(B+P*y):=by subst hr;grind
theorem ztb {a e:List Nat} {d:Nat} {X x y c:Int} (i:d<e.length) (k:x=(a.getD d 0:Nat)) (l:y=(b.getD d 0:Nat)) (hr:r=X*x+c+Y*y-c'*1000000000) (j:0<=r)
 (h:(val (e.take d):Int)+c*pw d=X*val (a.take d)+Y*val (b.take d)):(val ((e.set d r.toNat).take (d+1)):Int)+c'*pw (d+1)=X*val (a.take (d+1))+Y*val (b.take (d+1)):=by have f:=yuc h hr;rw[ztu i,val_take_succ' a,val_take_succ' b,X9];have g:((r.toNat:Nat):Int)=r:=Int.toNat_of_nonneg j;simp only[Int.natCast_add,Int.natCast_mul,g,<-k,<-l];exact f
theorem yub {c:Int} {R:Nat} (e:0<=V) (d:V<P) (b:(R:Int)<P) (h:V+c*P=R):V=R:=by
 have a:0<P:=og;rcases Int.lt_trichotomy c 0 with hc|hc|hc
 ·have:=Int.mul_le_mul_of_nonneg_right (show c<=-1 by omega) (Int.le_of_lt a);rw[Int.neg_mul,Int.one_mul] at this;omega
 ·subst hc;omega
 ·have:=Int.mul_le_mul_of_nonneg_right (show 1<=c by omega) (Int.le_of_lt a);rw[Int.one_mul] at this;omega
theorem yhk {X x:Int} (f: -999999999<=X) (d:X<=999999999) (b:0<=x) (c:x<=999999999): -999999998000000001<=X*x/\X*x<=999999998000000001/\(0<=X->0<=X*x)/\(X<=0->X*x<=0):=by
 rcases Int.lt_or_le X 0 with h|h
 ·have a:=zot (x:= -X) (y:=x) og og b c;rw[Int.neg_mul] at a;exact⟨by omega,by omega,by omega,by omega⟩
 ·have a:=zot (x:=X) (y:=x) h d b c;refine⟨by omega,by omega,by omega,fun e=> ?_⟩;have:X=0:=og;subst this;omega
theorem ykw {t:Int} (h:t<0):∃q,t.tdiv 1000000000=q/\((q=t/1000000000/\t%1000000000=0)\/(q=t/1000000000+1/\0<t%1000000000)):=by
 refine⟨_,rfl,?_⟩;rw[Int.tdiv_eq_ediv];split
 ·rename_i hd;rcases hd with hd|hd
  ·omega
  ·exact .inl ⟨by omega,Int.emod_eq_zero_of_dvd hd⟩
 ·rename_i hd;refine .inr ⟨by simp,?_⟩;rcases Int.lt_or_le 0 (t%1000000000) with a|a
  ·exact a
  ·exact absurd (.inr (Int.dvd_of_emod_eq_zero og)) hd
theorem yhh {w:i} {A B R:Nat} (x y:Int) (ha:IsN w lo hi k A) (aA:IsN w lo' D o B) (aD:hi<=w.heap.size) (aE:D<=w.heap.size) (aO: -999999999<=x) (aP:x<=999999999) (aQ: -999999999<=y) (aR:y<=999999999)
 (ao:(0<=x/\y<=0)\/(x<=0/\0<=y)) (ai:(R:Int)=x*A+y*B) (aj:R<=A) (ag:B<=A) (aV:(A9 A).length<=4294967296):
 p u 200 #[k,o,.int .i64 x,.int .i64 y] w fun af w'=>(∃v,af= .returned v/\IsN w' w.heap.size w'.heap.size v R)/\l w.heap.size w w':=by
 have aC:=U1 ag;have ay:e (R<pw (A9 A).length):=G aj (zpk A);obtain⟨aT,c,rfl,_,_,au⟩:=ha;obtain⟨aU,d,rfl,_,_,av⟩:=aA;generalize an:A9 A=a at*;generalize N:A9 B=b at*;have ad:e (Lo a/\val a=A):=(by rw[e,<-an];exact⟨L6 A,N8 A⟩);have ae:e (Lo b/\val b=B):=(by rw[e,<-N];exact⟨L6 B,N8 B⟩);have aq:=j ai;clear an N ai aj ag;go_in;go_wp2_with (at_make;refine zsg U0 rfl _ _ rfl a.length rfl rfl rfl rfl og ?_;intro J f ah aJ aB aS)
 go_loopw [10,18] (fun ar ac wr=>∃(s:Nat) (t:List Nat) (n:Int),s<=a.length/\ac= .int .i64 (s:Int)/\ar= .int .i64 n/\-1000000000<=n/\n<=1000000000/\Row wr J 115 (C8 .u32 t)/\l J w wr/\e (wr.heap.size=J+1)/\
  e (t.length=a.length/\Lo t/\(val (t.take s):Int)+n*pw s=x*val (a.take s)+y*val (b.take s))) (fun _ ac _=>a.length-(intOf ac).toNat)
 case atStart=>exact⟨0,_,0,F _,rfl,rfl,by omega,by omega,aJ,aB,aS,by simp,zql _,by simp[val]⟩
 case round=>
  obtain⟨s,t,n,aZ,rfl,rfl,aW,aX,hr,E,H,hrel⟩:=hrel;have V:l w.heap.size w wr:=(by have:=ah.out;subst this;exact E);rcases C s a.length with Q|aY
  ·obtain⟨ba,oa,rfl,_,_,ak⟩:=(au.below V aD) (L8 (j:=s) Q);obtain⟨r,L,aK,aL,a0⟩:=T8 (j:=s) ad.out.1 ak Q;clear ak;obtain⟨z,a2,a3,a4⟩:=hr.num (i:=s) (by rw[hrel.out.1];exact Q);have a5:=hr.frozen s;have K:e (s<t.length):=(by rw[hrel.out.1];exact Q);obtain⟨a6,a7,S,T⟩:=yhk aO aP aK aL;rcases C s b.length with N|W
   ·obtain⟨bb,ob,rfl,_,_,al⟩:=(av.below V aE) (L8 (j:=s) N);obtain⟨v,hv,aM,aN,a1⟩:=T8 (j:=s) ae.out.1 al N;clear al;obtain⟨a8,U,I,q3⟩:=yhk aQ aR aM aN;(have s0: -999999998000000001<=x*r+y*v:=by rcases ao with⟨M,P⟩|⟨M,P⟩<;>(have:=S;have:=T;have:=I;have:=q3;omega));(have a9:x*r+y*v<=999999998000000001:=by rcases ao with⟨M,P⟩|⟨M,P⟩<;>(have:=S;have:=T;have:=I;have:=q3;omega));clear S T I q3;rcases Int.lt_or_le (x*r+n+y*v) 0 with X|aG
    ·obtain⟨q,aH,⟨U,I⟩|⟨U,I⟩⟩:=ykw X
     ·have Y: -1000000001<=q:=og;have Z:q<=0:=og;have aa:x*r+n+y*v-q*1000000000=0:=og;go_wp2;go_roundw;(case rel=>refine⟨s+1,t.set s ((x*r+n+y*v)%1000000000).toNat,(x*r+n+y*v)/1000000000,by omega,by go_num,zqf og,by omega,by omega,?_,E.setCell (g _) _,by have:=H.out;simpa[e,World.setCell] using this,by rw[List.length_set];exact hrel.out.1,R3 hrel.out.2.1 og,ztb (x:=r) (y:=v) (c:=n) (c':=(x*r+n+y*v)/1000000000) (r:=(x*r+n+y*v)%1000000000) K.out L.out hv.out og og hrel.out.2.2⟩;exact hr.setNum s _ _ og);case measure=>simp[intOf];omega
     ·have Y: -1000000001<=q:=og;have Z:q<=0:=og;have aa:x*r+n+y*v-q*1000000000<0:=og;have aI: -1000000000<x*r+n+y*v-q*1000000000:=og;go_wp2;go_roundw;(case rel=>refine⟨s+1,t.set s ((x*r+n+y*v)%1000000000).toNat,(x*r+n+y*v)/1000000000,by omega,by go_num,zqf og,by omega,by omega,?_,E.setCell (g _) _,by have:=H.out;simpa[e,World.setCell] using this,by rw[List.length_set];exact hrel.out.1,R3 hrel.out.2.1 og,ztb (x:=r) (y:=v) (c:=n) (c':=(x*r+n+y*v)/1000000000) (r:=(x*r+n+y*v)%1000000000) K.out L.out hv.out og og hrel.out.2.2⟩;exact hr.setNum s _ _ og);case measure=>simp[intOf];omega
    ·go_wp2;go_roundw;(case rel=>refine⟨s+1,t.set s ((x*r+n+y*v)%1000000000).toNat,(x*r+n+y*v)/1000000000,by omega,by go_num,zqf og,by omega,by omega,?_,E.setCell (g _) _,by have:=H.out;simpa[e,World.setCell] using this,by rw[List.length_set];exact hrel.out.1,R3 hrel.out.2.1 og,ztb (x:=r) (y:=v) (c:=n) (c':=(x*r+n+y*v)/1000000000) (r:=(x*r+n+y*v)%1000000000) K.out L.out hv.out og og hrel.out.2.2⟩;exact hr.setNum s _ _ og);case measure=>simp[intOf];omega
   ·clear S T;rcases Int.lt_or_le (x*r+n) 0 with X|aG
    ·obtain⟨q,aH,⟨U,I⟩|⟨U,I⟩⟩:=ykw X
     ·have Y: -1000000001<=q:=og;have Z:q<=0:=og;have aa:x*r+n-q*1000000000=0:=og;go_wp2;go_roundw;(case rel=>refine⟨s+1,t.set s ((x*r+n)%1000000000).toNat,(x*r+n)/1000000000,by omega,by go_num,zqf og,by omega,by omega,?_,E.setCell (g _) _,by have:=H.out;simpa[e,World.setCell] using this,by rw[List.length_set];exact hrel.out.1,R3 hrel.out.2.1 og,ztb (x:=r) (y:=0) (c:=n) (c':=(x*r+n)/1000000000) (r:=(x*r+n)%1000000000) K.out L.out (by rw[znb W];rfl) og og hrel.out.2.2⟩;exact hr.setNum s _ _ og);case measure=>simp[intOf];omega
     ·have Y: -1000000001<=q:=og;have Z:q<=0:=og;have aa:x*r+n-q*1000000000<0:=og;have aI: -1000000000<x*r+n-q*1000000000:=og;go_wp2;go_roundw;(case rel=>refine⟨s+1,t.set s ((x*r+n)%1000000000).toNat,(x*r+n)/1000000000,by omega,by go_num,zqf og,by omega,by omega,?_,E.setCell (g _) _,by have:=H.out;simpa[e,World.setCell] using this,by rw[List.length_set];exact hrel.out.1,R3 hrel.out.2.1 og,ztb (x:=r) (y:=0) (c:=n) (c':=(x*r+n)/1000000000) (r:=(x*r+n)%1000000000) K.out L.out (by rw[znb W];rfl) og og hrel.out.2.2⟩;exact hr.setNum s _ _ og);case measure=>simp[intOf];omega
    ·go_wp2;go_roundw;(case rel=>refine⟨s+1,t.set s ((x*r+n)%1000000000).toNat,(x*r+n)/1000000000,by omega,by go_num,zqf og,by omega,by omega,?_,E.setCell (g _) _,by have:=H.out;simpa[e,World.setCell] using this,by rw[List.length_set];exact hrel.out.1,R3 hrel.out.2.1 og,ztb (x:=r) (y:=0) (c:=n) (c':=(x*r+n)/1000000000) (r:=(x*r+n)%1000000000) K.out L.out (by rw[znb W];rfl) og og hrel.out.2.2⟩;exact hr.setNum s _ _ og);case measure=>simp[intOf];omega
  ·obtain rfl:s=a.length:=og;have az:e (val t=R):=(by have h:=hrel.out.2.2;rw[Z7 (Nat.le_of_eq hrel.out.1),Z7 (g _),Z7 aC,ad.out.2,ae.out.2,<-aq.out] at h;have M:=zkz hrel.out.2.1;rw[hrel.out.1] at M;have P:=ay.out;exact Int.ofNat_inj.1 (yub og og og h));have O:e (Row wr J 115 (C8 .u32 t)/\t.length=a.length/\Lo t):=⟨hr,hrel.out.1,hrel.out.2.1⟩;clear hr hrel;go_wp2_with fail;rw[<-O.out.2.1];refine(zvn _ _ t wr J (J+1) O.out.2.2 (g _) (by have:=O.out.2.1;unfold maxLen;omega) O.out.1.sv).mono ?_;rintro af m ⟨⟨v,rfl,hv⟩,rfl⟩;go_wp2_with fail;go_ret;refine⟨⟨_,rfl,?_⟩,V⟩;rw[<-az.out];exact hv.wide (oh ah) (oh H)
theorem ynm {k:IntKind} {a:List Nat} (g:a.length=b.length) (h:∀c,c<a.length->(C8 k a)[c]? =(C8 k b)[c]?):a=b:=by apply List.ext_getElem g;intro c d f;have e:=h c d;rw[cel_getElem?,cel_getElem?,List.getElem?_eq_getElem d,List.getElem?_eq_getElem f] at e;simp only[Option.map_some,Option.some.injEq,Value.int.injEq,true_and] at e;omega
theorem IsL.unique {e:IntKind} {w:i} {a:List Nat} (ha:IsL e w lo hi v a) (n:IsL e w lo' D v b):a=b:=by obtain⟨A,c,rfl,_,_,l⟩:=ha;obtain⟨B,d,hv,_,_,m⟩:=n;simp only[Value.slice.injEq] at hv;obtain⟨rfl,o,rfl⟩:=hv;refine ynm (k:=e) o fun g f=> ?_;obtain⟨p,q,rfl,_,_,k⟩:=l (L8 (j:=g) f);have h:=k g _ (zoe f);have j:=m.at_ g _ (zoe (k:=e) (l:=b) og);rw[zoe f,zoe og];exact h.symm.trans j
theorem IsN.unique {w:i} {x y:Nat} (ha:IsN w lo hi v x) (a:IsN w lo' D v y):x=y:=yar (IsL.unique ha a)
open Classical in
noncomputable def numOf (w:i) (v:Value):Nat:=if h:∃n,IsN w 0 w.heap.size v n then Classical.choose h else 0
theorem ztc {w:i} (h:IsN w 0 w.heap.size v n):numOf w v=n:=by have hex:∃n,IsN w 0 w.heap.size v n:=⟨n,h⟩;unfold numOf;rw[dif_pos hex];exact IsN.unique (Classical.choose_spec hex) h
theorem IsN.up {w w':i} (h:IsN w lo w.heap.size v n) (a:l w.heap.size w w'):IsN w' 0 w'.heap.size v n:=(h.below a (g _)).wide (F _) a.size
theorem zpz {w:i} (h:l w.heap.size w f) (a:l f.heap.size f m):l w.heap.size w m:=h.trans (a.mono h.size)
theorem zut {y:Nat} (h:(A9 y).length<=2):y<1000000000000000000:=by have:=lim_len_le.1 h;simpa[pw] using this
theorem zz1366 {y z:Nat} (h:(A9 y).length<=2) (a:z<=y):(A9 z).length<=2:=s (U1 a) h
theorem yrh {w:i} {x y:Nat} (ha:IsN w 0 w.heap.size k x) (j:IsN w 0 w.heap.size o y) (D:Bru w) (b:(A9 x).length<=2) (g:(A9 y).length<=2):
 p u 185 #[k,o] w fun a w'=>(∃v,a= .returned v/\IsN w' w.heap.size w'.heap.size v (Nat.gcd x y))/\l w.heap.size w w':=by
 obtain⟨z,C,t⟩:=G6 ha j D;obtain⟨A,c,rfl,_,_,_⟩:=ha;obtain⟨B,d,rfl,_,_,_⟩:=j;obtain⟨m,n⟩:=C4 (zut b) (zut g)
 have hg:e (Nat.gcd x y<=1000000000000000000):=by
  have:=m.out;have:=n.out;rcases Nat.eq_zero_or_pos x with h|h
  ·unfold e;rw[h,Nat.gcd_zero_left];omega
  ·exact s (Nat.le_of_dvd h (Nat.gcd_dvd_left x y)) og
 obtain⟨q,r⟩:=C4 b g;go_in;go_wp2_with fail;refine(zqz z.out q.out).mono ?_;rintro a f ⟨rfl,rfl⟩;go_wp2_with fail;refine(zqz C.out r.out).mono ?_;rintro a f ⟨rfl,rfl⟩;go_wp2_with fail;refine(zvx x y w t.out (oh m) (oh n)).mono ?_;rintro a f ⟨rfl,rfl⟩;go_wp2_with fail;refine(ybc w _ (oh hg)).mono ?_;rintro a f ⟨⟨v,rfl,hv⟩,E⟩;go_wp2_with fail;go_ret;exact⟨⟨_,rfl,hv⟩,E⟩
theorem yfu {w:i} {x y:Nat} (ha:IsN w 0 w.heap.size k x) (r:IsN w 0 w.heap.size o y) (h:¬((A9 x).length<=2/\(A9 y).length<=2)) (a:x=1\/y=1):
 p u 185 #[k,o] w fun g w'=>(∃v,g= .returned v/\IsN w' w.heap.size w'.heap.size v (Nat.gcd x y))/\l w.heap.size w w':=by
 obtain⟨s,t⟩:=C4 ha r
 have hg:e (Nat.gcd x y=1):=by
  rcases a with a|a
  ·rw[a];exact Nat.gcd_one_left y
  ·rw[a];exact Nat.gcd_one_right x
 have E:∃b,decide (x=1)=b:=⟨_,rfl⟩;have F:∃j,decide (y=1)=j:=⟨_,rfl⟩;obtain⟨b,n⟩:=E;obtain⟨j,q⟩:=F
 have G:(b=true)\/(b=false/\j=true):=by
  rcases a with a|a
  ·left;rw[<-n];simpa using a
  ·cases b
   ·right;exact⟨rfl,by rw[<-q];simpa using a⟩
   ·left;rfl
 obtain⟨z,C⟩:=C4 n q;obtain⟨A,c,rfl,_,_,_⟩:=ha;obtain⟨B,d,rfl,_,_,_⟩:=r;clear n q a;rw[e] at hg;rw[hg];clear hg;have D:(2<(A9 x).length)\/((A9 x).length<=2/\2<(A9 y).length):=og;clear h;rcases D with h|⟨h,H⟩
 all_goals
  rcases G with rfl|⟨rfl,rfl⟩
  all_goals
   go_in
   go_wp2_with fail
   refine(zqh s.out).mono ?_
   rw[z.out]
   rintro g f ⟨rfl,rfl⟩
   go_wp2_with fail
   first
    |(refine(zmh w).mono ?_
      rintro g f ⟨⟨v,rfl,hv⟩,m⟩
      go_wp2_with fail
      go_ret
      exact⟨⟨_,rfl,hv⟩,m⟩)
    |(refine(zqh t.out).mono ?_
      rw[C.out]
      rintro g f ⟨rfl,rfl⟩
      go_wp2_with fail
      refine(zmh w).mono ?_
      rintro g f ⟨⟨v,rfl,hv⟩,m⟩
      go_wp2_with fail
      go_ret
      exact⟨⟨_,rfl,hv⟩,m⟩)
def GcdAt (b:Nat) (a wr:i) (k o:Value):Prop:=∃X Y:Nat,IsN wr 0 wr.heap.size k X/\IsN wr 0 wr.heap.size o Y/\Y<=X/\Nat.gcd X Y=b/\(A9 X).length<=4294967296/\l a.heap.size a wr
theorem GcdAt.intro {b X Y:Nat} {a wr:i} (c:IsN wr 0 wr.heap.size k X) (d:IsN wr 0 wr.heap.size o Y) (e:Y<=X) (f:Nat.gcd X Y=b) (g:(A9 X).length<=4294967296) (h:l a.heap.size a wr):GcdAt b a wr k o:=⟨X,Y,c,d,e,f,g,h⟩
theorem yvv {w x y z:Int} (h:(1<=w/\x<=0/\y<=0/\1<=z/\w*z-x*y=1)\/(w<=0/\1<=x/\1<=y/\z<=-1/\w*z-x*y= -1)):
 ((0<=w/\x<=0)\/(w<=0/\0<=x))/\((0<=y/\z<=0)\/(y<=0/\0<=z)):=by
 rcases h with⟨a,b,c,d,_⟩|⟨a,b,c,d,_⟩
 ·exact⟨.inl ⟨by omega,by omega⟩,.inr ⟨by omega,by omega⟩⟩
 ·exact⟨.inr ⟨by omega,by omega⟩,.inl ⟨by omega,by omega⟩⟩
theorem yrg {w:i} {x y:Nat} (ha:IsN w 0 w.heap.size k x) (aH:IsN w 0 w.heap.size o y) (aA:Bru w) (aT:(A9 x).length<=4294967296) (aU:(A9 y).length<=4294967296) (h:¬((A9 x).length<=2/\(A9 y).length<=2)) (W:x≠1) (Z:y≠1):
 p u 185 #[k,o] w fun n w'=>(∃v,n= .returned v/\IsN w' w.heap.size w'.heap.size v (Nat.gcd x y))/\l w.heap.size w w':=by
 obtain⟨R,S,aY⟩:=G6 ha aH aA;obtain⟨A,c,rfl,_,_,_⟩:=ha;obtain⟨B,d,rfl,_,_,_⟩:=aH;obtain⟨a6,a8⟩:=C4 (decide_eq_false W) (decide_eq_false Z);obtain⟨G,ae⟩:=nm (Nat.gcd x y);rw[<-ae];obtain⟨aq,a7,a9⟩:=G6 ae aT aU;clear W Z ae aA aT aU;have bi:(2<(A9 x).length)\/((A9 x).length<=2/\2<(A9 y).length):=og;clear h;have bp:(x<y)\/(y<=x):=C x y;rcases bi with h|⟨h,bN⟩
 all_goals
  rcases bp with aj|aK
  all_goals
   go_in
   go_wp2_with fail
   refine(zqh R.out).mono ?_
   rw[a6.out]
   rintro n f ⟨rfl,rfl⟩
   go_wp2_with fail
   refine(zqh S.out).mono ?_
   rw[a8.out]
   rintro n f ⟨rfl,rfl⟩
   go_wp2_with fail
   refine(zrj R.out S.out).mono ?_
   first
    |(rw[zqu aj]
      have hst:∀q,e (GcdAt G w (w.drewN q) (.slice B (A9 y).length d) (.slice A (A9 x).length c)):=fun q=>GcdAt.intro (S.out.drewN q) (R.out.drewN q) (Nat.le_of_lt aj) (by rw[Nat.gcd_comm];exact aq.out.symm) a9.out (below_drewN (z _ _) q)
      clear aj)
    |(have bR:0<=T7 x y:=by
       unfold T7
       rw[if_neg og]
       split<;>omega
      generalize T7 x y=sg at*
      have hst:∀q,e (GcdAt G w (w.drewN q) (.slice A (A9 x).length c) (.slice B (A9 y).length d)):=fun q=>GcdAt.intro (R.out.drewN q) (S.out.drewN q) aK aq.out.symm a7.out (below_drewN (z _ _) q)
      clear aK)
   rintro n f ⟨rfl,q,rfl⟩
   have ar:=j (hst q)
   clear hst
   go_wp2_with fail
   go_loopw [0,1] (fun bC al wr=>GcdAt G w wr bC al) (fun _ al wr=>numOf wr al)
   case atStart=>exact ar.out.out
   case round=>
    clear ar
    obtain⟨X,Y,aB,aE,t,aD,E,K⟩:=hrel
    obtain⟨O,H,a1⟩:=G6 aB aE (aY.out.below K)
    obtain⟨bI,bM,rfl,_,_,_⟩:=aB
    obtain⟨ao,au,rfl,_,_,_⟩:=aE
    have P:=j aD
    clear aD
    rcases C 2 (A9 Y).length with I|I
    ·have bd:3<=(A9 X).length:=s I (U1 t)
     go_wp2_with fail
     refine(ysx O.out H.out (g _) (g _) t bd E).mono ?_
     rintro n m ⟨⟨ad,bh,rfl,aC⟩,T⟩
     have aG:e (Y/ad<=X/ad):=Nat.div_le_div_right t
     have ag:=j aC
     clear aC
     go_wp2_with fail
     refine(yzt m X Y ad _ _ bh rfl rfl t (by have:=ag.out;omega) (by have:=ag.out;have:=aG.out;omega)).mono ?_
     rintro n M ⟨⟨bF,an,bG,bH,a,b,rfl,af,⟨bu,bv,bw,W⟩,⟨bx,Z,bA,bB⟩⟩,rfl⟩
     obtain⟨aW,bJ,av,ay,be,hg,aO,_⟩:=af.num
     obtain⟨aP,aX,aZ,a3,a5,ac,Q,aI⟩:=zlu (yvv af.pat) av ay hg aO (O.out.up T) (H.out.up T) (zpz K T)
     have bK:=j t
     clear af av ay hg aO T ag aG
     have ai:0<Y:=by
      rcases Nat.eq_zero_or_pos Y with D|D
      ·rw[D,N5] at I;simp at I
      ·exact D
     by_cases L:an=0
     ·subst L
      go_wp2_with fail
      refine(zzo ac.out Q.out (g _) (g _) E (s (U1 t) E) ai).mono ?_
      rintro n M ⟨⟨bE,aV,rfl,ak,hr⟩,r⟩
      obtain⟨V,J⟩:=C4 (hr.wide (lo':=0) (F _) (g _)) (Q.out.up r)
      clear ak hr
      go_wp2_with fail
      go_roundw
      case rel=>exact GcdAt.intro J.out V.out (Nat.le_of_lt (Nat.mod_lt _ ai)) (by rw[<-P.out,Nat.gcd_comm X Y,Nat.gcd_rec Y X,Nat.gcd_comm]) (s (U1 t) E) (zpz aI.out r)
      case measure=>
       show numOf M aV<numOf wr (.slice ao (A9 Y).length au)
       rw[ztc V.out,ztc H.out]
       exact Nat.mod_lt _ ai
     ·have bT:(an==0)=false:=by simpa using L
      have bm:=a5.out L
      obtain⟨bQ,bj⟩:=bm
      have az:aW<=X:=s bj t
      have bL:=j L
      clear L
      go_wp2_with fail
      refine(yhh bF an ac.out Q.out (g _) (g _) bu bv bw W aP.out.1 aX.out az t E).mono ?_
      rintro n M ⟨⟨bU,rfl,aQ⟩,r⟩
      obtain⟨a2,J,br⟩:=G6 (ac.out.up r) (Q.out.up r) aQ
      clear aQ
      go_wp2_with fail
      refine(yhh bG bH a2.out J.out (g _) (g _) bx Z bA bB aP.out.2 aZ.out og t E).mono ?_
      rintro n N ⟨⟨bD,rfl,aR⟩,U⟩
      obtain⟨aS,bt⟩:=C4 (aR.wide (lo':=0) (F _) (g _)) (br.out.up U)
      clear aR
      go_wp2_with fail
      go_roundw
      case rel=>exact GcdAt.intro bt.out aS.out be (by rw[a3.out];exact P.out) (s (U1 az) E) (zpz (zpz aI.out r) U)
      case measure=>
       show numOf N bD<numOf wr (.slice ao (A9 Y).length au)
       rw[ztc aS.out,ztc H.out]
       omega
    ·rcases Nat.eq_zero_or_pos Y with D|D
     ·have bf:e (X=G):=by
       have:=P.out
       rw[D,Nat.gcd_zero_right] at this
       exact this
      have aM:(A9 Y).length=0:=by rw[D,N5];rfl
      have a4:=j aM
      rw[a4.out]
      clear aM
      go_wp2_with fail
      refine(zph O.out E).mono ?_
      rintro n M ⟨⟨v,rfl,hv⟩,r⟩
      go_wp2_with fail
      go_ret
      rw[bf.out] at hv
      exact⟨⟨_,rfl,hv.wide K.size (g _)⟩,zpz K r⟩
     ·have bP:(((A9 Y).length:Int)==0)=false:=by
       have:=lim_nil_iff (n:=Y)
       rw[beq_eq_false_iff_ne]
       omega
      have aa:=j I
      go_wp2_with fail
      refine(zzo O.out H.out (g _) (g _) E (s (U1 t) E) D).mono ?_
      rintro n M ⟨⟨bE,aV,rfl,ak,hr⟩,r⟩
      obtain⟨aN,V,J⟩:=G6 (Nat.mod_lt X D) (hr.wide (lo':=0) (F _) (g _)) (H.out.up r)
      have bq:e ((A9 (X%Y)).length<=2):=zz1366 aa.out (Nat.le_of_lt aN.out)
      obtain⟨ah,a0⟩:=C4 (zut aa.out) (a1.out.below r)
      have aL:e (Nat.gcd Y (X%Y)=G):=by rw[e,<-P.out,Nat.gcd_comm X Y,Nat.gcd_rec Y X,Nat.gcd_comm]
      have bg:e (G<=18446744073709551615):=by
       have bO:=aL.out
       have I:Nat.gcd Y (X%Y)<=Y:=Nat.le_of_dvd D (Nat.gcd_dvd_left _ _)
       have:=ah.out
       unfold e
       omega
      have aJ:=zpz K r
      clear ak hr r
      go_wp2_with fail
      refine(zqz J.out aa.out).mono ?_
      rintro n N ⟨rfl,rfl⟩
      go_wp2_with fail
      refine(zqz V.out bq.out).mono ?_
      rintro n N ⟨rfl,rfl⟩
      go_wp2_with fail
      refine(zvx Y (X%Y) _ a0.out (oh ah) (zkb ah aN)).mono ?_
      rw[aL.out]
      rintro n N ⟨rfl,rfl⟩
      go_wp2_with fail
      refine(ybc _ G bg.out).mono ?_
      rintro n N ⟨⟨v,rfl,hv⟩,U⟩
      go_wp2_with fail
      go_ret
      exact⟨⟨_,rfl,hv.wide aJ.size (g _)⟩,zpz aJ U⟩
theorem zul {w:i} {x y:Nat} (ha:IsN w 0 w.heap.size k x) (a:IsN w 0 w.heap.size o y) (b:Bru w) (f:(A9 x).length<=4294967296) (g:(A9 y).length<=4294967296):
 p u 185 #[k,o] w fun e w'=>(∃v,e= .returned v/\IsN w' w.heap.size w'.heap.size v (Nat.gcd x y))/\l w.heap.size w w':=by
 by_cases h:(A9 x).length<=2/\(A9 y).length<=2
 ·exact yrh ha a b h.1 h.2
 ·by_cases c:x=1
  ·exact yfu ha a h (.inl c)
  ·by_cases d:y=1
   ·exact yfu ha a h (.inr d)
   ·exact yrg ha a b f g h c d
theorem zvp (w:i):p u 123 #[] w (Y0 w 0):=by obtain⟨n,l,b,c,d⟩:=K7 w #[.bool false,.slice none 0 0,.slice none 0 0] 37;obtain⟨a,k⟩:=C4 (c) (b);have m:e (w.heap.size+1<=n.heap.size):=j (Nat.le_of_eq d.out.symm);clear c b;obtain⟨q,s,x⟩:=C5 a.out;obtain⟨A,C,E⟩:=H5 a.out;go_in;go_wp2_with fail;clear l;refine(zmh _).mono ?_;rintro z f ⟨⟨v,rfl,hv⟩,G⟩;have h:=j (X7 hv m.out);obtain⟨o,H,rfl,_,_,_⟩:=id hv;obtain⟨r,t,y⟩:=C5 (uR f a);obtain⟨B,D,F⟩:=H5 (uR f a);go_wp2_with fail;refine Y6 Tryz.results123 rfl rfl (Row.put3 (uR f a) _ _ _) (zmw (n:=0) (d:=1) (by rw[zxv,N5,Y5]) (uB f k) (g _) (yay (S:=G4 (w.heap.size+1) _)) h.out og og)
theorem yea {w:i} {q:Rat} (h:IsQ w (C2 w) v q) (x:Sz q 100000):p u 95 #[v] w (Y0 w q):=by
 obtain⟨neg,A,k,B,l,rfl,H,G,F⟩:=K6 h;have g:=j x;clear h x;obtain⟨d,V,b,r,C,I⟩:=zko w #[.bool neg,.slice A (A9 q.num.natAbs).length k,.slice B (A9 q.den).length l] #[.bool false,.slice none 0 0,.slice none 0 0] 37 37;obtain⟨J,E,c,a,M⟩:=hd5 (IsK.stb.next G.out b) (IsK.stb.next F.out b) (r) (C) (b);have D:e (w.heap.size+2<=d.heap.size):=j (Nat.le_of_eq I.out.symm);clear r C b;obtain⟨N,P,R⟩:=C5 c.out;obtain⟨Y,ac,af⟩:=C5 a.out;obtain⟨ai,al,aq⟩:=H5 a.out;go_in;go_wp2_with fail;clear V
 go_region_held3 (fun w'=>w'.cell? ⟨w.heap.size,0,none⟩=some (.bool neg)/\w'.cell? ⟨w.heap.size,1,none⟩=some (.slice A (A9 q.num.natAbs).length k)/\w'.cell? ⟨w.heap.size,2,none⟩=some (.slice B (A9 q.den).length l))
  (first
    |exact⟨N,P,R⟩
    |exact⟨O,Q,S⟩
    |exact⟨n,o,t⟩
    |exact⟨zne n og,zne o og,zne t og⟩)
  (first
    |(go_at_call 155;have hc:=zph (I7 (uK d.drew J)) (s g.out.1 og);(with_reducible refine hc.mono ?_);clear hc;rintro T f ⟨⟨az,rfl,y⟩,U⟩;have K:=j (X7 y (uS d.drew D));obtain⟨W,av,rfl,_,_,_⟩:=id y;obtain⟨O,Q,S⟩:=C5 (uR f c);obtain⟨Z,ad,ag⟩:=C5 (uR f a);obtain⟨aj,an,ar⟩:=H5 (uR f a))
    |(go_at_call 155;have hc:=zph (I7 (uK f E)) (s g.out.2 og);(with_reducible refine hc.mono ?_);clear hc;rintro T m ⟨⟨aA,rfl,z⟩,U⟩;have L:=j (X7 z (uS f D));obtain⟨X,ay,rfl,_,_,_⟩:=id z;obtain⟨n,o,t⟩:=C5 (uR m c);obtain⟨aa,ae,ah⟩:=C5 (uR m a);obtain⟨ak,ao,au⟩:=H5 (uR m a)))
 go_wp2_with fail;refine Y6 Tryz.results95 rfl rfl (Row.put3 (uR m a) _ _ _) (zmw (by rw[H.out];rfl) (uB m M) og (uF m K) L.out og og)
theorem zsa {w:i} {q:Rat} (h:IsQ w (C2 w) v q):p u 91 #[v] w fun f w'=>f= .returned (.int .i64 (zoy q))/\l w.heap.size w w':=by
 obtain⟨neg,A,m,B,n,rfl,d,c,k⟩:=K6 h;clear h;have o:(A9 q.num.natAbs).length<=9223372036854775807:=(by have:=(I7 c.out).length_le;unfold maxLen at this;omega);by_cases a:q=0
 ·have j:(((A9 q.num.natAbs).length:Int)==0)=true:=(by rw[a];rw[show(0:Rat).num.natAbs=0 from rfl,N5];rfl);have b:e (zoy q=0):=(by unfold e zoy;rw[if_pos a]);clear a;go_in;go_wp2_with fail;go_ret;exact⟨H6 b.out.symm,(z _ _).alloc (g _) _⟩
 ·have j:(((A9 q.num.natAbs).length:Int)==0)=false:=beq_eq_false_iff_ne.2 (by have:=yhu a;have:= @lim_nil_iff q.num.natAbs;omega);have b:e (zoy q=if neg then -1 else 1):=(by unfold e zoy;rw[if_neg a,d.out,yht];by_cases h:q<0<;>simp[h]);clear a;cases neg
  ·go_in;go_wp2_with fail;go_ret;exact⟨H6 b.out.symm,(z _ _).alloc (g _) _⟩
  ·go_in;go_wp2_with fail;go_ret;exact⟨H6 b.out.symm,(z _ _).alloc (g _) _⟩
def Grow (a:Nat->Prop) (w w':i):Nat->Prop:=fun b=>a b\/(w.heap.size<=b/\b<w'.heap.size)
theorem yrl {w w':i} (h:NumS w' (Grow (G4 lo w) w w') v n) (hlo:lo<=w.heap.size) (c:w.heap.size<=w'.heap.size):NumS w' (G4 lo w') v n:=
 IsK.stb.to h (F6 fun b a=>by rcases a with h|h;exact⟨h.1,by have:=h.2;omega⟩;exact⟨by omega,h.2⟩)
theorem yro {w w':i} (h:NumS w' (Grow (C2 w) w w') v n) (a:w.heap.size<=w'.heap.size):NumS w' (C2 w') v n:=
 IsK.stb.to h (F6 fun b c=>by rcases c with h|h;exact Nat.lt_of_lt_of_le h a;exact h.2)
theorem yid {w:i} {x y:Nat} {o:Nat->Prop} (ha:NumS w o k x) (G:∀b,o b->b<w.heap.size) (hg:IsN w 0 w.heap.size a y) (H:(A9 x).length<=4294967296) (I:(A9 y).length<=4294967296) (J:0<y):
 p u 177 #[k,a] w fun m w'=>(∃v,m= .returned v/\NumS w' (Grow o w w') v (x/y))/\l w.heap.size w w':=by
 obtain⟨r,n,t⟩:=G6 ha hg (ha.isL (lo:=0) (hi:=w.heap.size) fun b h=>⟨F _,G b h⟩);obtain⟨A,c,rfl,_,_,_⟩:=ha;obtain⟨B,d,rfl,_,_,_⟩:=hg;by_cases e:y=1
 ·have D:=j e;have hd:decide (y=1)=true:=decide_eq_true e;clear e;go_in;go_wp2_with fail;refine(zqh n.out).mono ?_;rw[hd];rintro m f ⟨rfl,rfl⟩;go_wp2_with fail;go_ret;exact⟨⟨_,rfl,by rw[D.out,Nat.div_one];exact IsK.stb.to r.out (F6 fun b h=> .inl h)⟩,z _ _⟩
 ·have hd:decide (y=1)=false:=decide_eq_false e;clear e;go_in;go_wp2_with fail;refine(zqh n.out).mono ?_;rw[hd];rintro m f ⟨rfl,rfl⟩;go_wp2_with fail;refine(zzo t.out n.out (g _) (g _) H I J).mono ?_;rintro m f ⟨⟨K,L,rfl,q,_⟩,h⟩;obtain⟨C,s⟩:=C4 q h;clear q h;go_wp2_with fail;go_ret;exact⟨⟨_,rfl,C.out.isK fun b e E=> .inr ⟨e,E⟩⟩,s.out⟩
theorem yvs {w:i} {x y:Nat} (ha:NumS w (G4 lo w) k x) (hlo:lo<=w.heap.size) (hg:IsN w 0 w.heap.size a y) (f:(A9 x).length<=4294967296) (h:(A9 y).length<=4294967296) (m:0<y):
 p u 177 #[k,a] w fun b w'=>(∃v,b= .returned v/\NumS w' (G4 lo w') v (x/y))/\l w.heap.size w w':=
 (yid ha yhq hg f h m).mono fun b w' ⟨⟨v,d,hv⟩,c⟩=>⟨⟨v,d,yrl hv hlo c.size⟩,c⟩
theorem ztg {w:i} {x y:Nat} (ha:NumS w (C2 w) k x) (hg:IsN w 0 w.heap.size a y) (f:(A9 x).length<=4294967296) (m:(A9 y).length<=4294967296) (n:0<y):
 p u 177 #[k,a] w fun b w'=>(∃v,b= .returned v/\NumS w' (C2 w') v (x/y))/\l w.heap.size w w':=
 (yid ha (fun _ h=>h) hg f m n).mono fun b w' ⟨⟨v,d,hv⟩,c⟩=>⟨⟨v,d,yro hv c.size⟩,c⟩
theorem zz1382 (w:i) (neg:Bool) (n d:Nat) (l:Bru w) (F:n≠0) (D:d≠0) (E:n<18446744073709551616) (hd:d<18446744073709551616):
 p u 184 #[.bool neg,.int .u64 (n:Int),.int .u64 (d:Int)] w (Y0 w (mkRat (sg neg n) d)):=by
 obtain⟨g,G,o,t,z⟩:=K7 w #[.bool false,.slice none 0 0,.slice none 0 0] 37;obtain⟨b,h⟩:=C4 (t) (o);have v:e (w.heap.size+1<=g.heap.size):=j (Nat.le_of_eq z.out.symm);clear t o;obtain⟨P,S,V⟩:=C5 b.out;obtain⟨Y,ac,af⟩:=H5 b.out;have x:=j (Bru.next l (h.out));obtain⟨a,c⟩:=nm (Nat.gcd n d);have q:=j (zva (neg:=neg) F D);rw[<-c] at q;have aj:1<=(a:Int):=(by have:=Nat.gcd_pos_of_pos_left d (by omega:0<n);omega);have y:=j c;have al:n/a<=n:=Nat.div_le_self _ _;have an:d/a<=d:=Nat.div_le_self _ _;clear c l;go_in;go_wp2_with fail;clear G;refine(zvx n d _ x.out E hd).mono ?_;rw[<-y.out];rintro k f ⟨rfl,rfl⟩;go_wp2_with fail;have ai:¬(a:Int)=0:=og;have ak:¬a=0:=og;have H:0<=(n:Int)/(a:Int):=Int.ediv_nonneg og og;have I:0<=(d:Int)/(a:Int):=Int.ediv_nonneg og og;have J:(n:Int)/(a:Int)<=18446744073709551615:=(by rw[<-Int.natCast_ediv];omega);have K:(d:Int)/(a:Int)<=18446744073709551615:=(by rw[<-Int.natCast_ediv];omega);have L:IntKind.u64.wrap ((n:Int)/(a:Int))=(n:Int)/(a:Int):=IntWalk.u64_in _ og;have M:IntKind.u64.wrap ((d:Int)/(a:Int))=(d:Int)/(a:Int):=IntWalk.u64_in _ og
 go_region_held3 (fun w'=>True)
  (trivial)
  (first
    |(go_at_call 197;have hc:=ybb g.drew ((n:Int)/(a:Int)) H J;(with_reducible refine hc.mono ?_);clear hc;rintro k f ⟨⟨ao,rfl,r⟩,C⟩;have A:=j (X7 r (uS g.drew v));obtain⟨N,L,rfl,_,_,_⟩:=id r;obtain⟨Q,T,W⟩:=C5 (uR f b);obtain⟨Z,ad,ag⟩:=H5 (uR f b))
    |(go_at_call 197;have hc:=ybb f ((d:Int)/(a:Int)) I K;(with_reducible refine hc.mono ?_);clear hc;rintro k m ⟨⟨aq,rfl,s⟩,C⟩;have B:=j (X7 s (uS f v));obtain⟨O,M,rfl,_,_,_⟩:=id s;obtain⟨R,U,X⟩:=C5 (uR m b);obtain⟨aa,ae,ah⟩:=H5 (uR m b)))
 go_wp2_with fail;refine Y6 Tryz.results184 rfl rfl (Row.put3 (uR m b) _ _ _) (zmw (by rw[show((n:Int)/(a:Int)).toNat=n/a from by rw[<-Int.natCast_ediv];rfl,show((d:Int)/(a:Int)).toNat=d/a from by rw[<-Int.natCast_ediv];rfl];exact q.out) (uB m h) og (uF m A) B.out og og)
theorem below_trans' {w:i} (h:l w.heap.size w f) (a:l f.heap.size f m):l w.heap.size w m:=h.trans (a.mono h.size)
end Go.Proofs.YtdgilbgdkmhcmaaGreatDoor
