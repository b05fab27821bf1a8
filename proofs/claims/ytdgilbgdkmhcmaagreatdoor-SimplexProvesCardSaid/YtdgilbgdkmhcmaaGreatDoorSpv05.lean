/-
 Plain facts on the first 18 digits of a number.
-/
import Derived.Test.YtdgilbgdkmhcmaaGreatDoorSpv04
import Derived.Laws.EntriesVeiled
namespace Go.Proofs.YtdgilbgdkmhcmaaGreatDoor
open Go.RowKit
set_option linter.unusedVariables false
set_option maxRecDepth 100000
set_option maxHeartbeats 8000000
open _root_.Go.Lib renaming hid → j
open _root_.Nat renaming le_refl → g, le_trans → s, lt_or_ge → C, zero_le → E, lt_of_le_of_lt → F, mul_le_mul_right → d, le_of_lt_succ → w
open _root_.Go.RowKit.Below renaming refl → z
open _root_.Go.World renaming size_alloc → q
open _root_.Go renaming World → i, Calls → p
open _root_.Go.RowKit renaming Below → l, Hid → e
open _root_.Go.Proofs.Tryz renaming prog → u
variable {P V Y c' r : Int} {T c hi D lo lo' n t top : Nat} {b : List Nat} {v k o a : Value} {f m : i}
theorem zz1370 {y:Nat} (g:3<=n) (d:y<pw n):y/pw (n-3)=((A9 y).getD (n-1) 0*1000000000+(A9 y).getD (n-2) 0)*1000000000+(A9 y).getD (n-3) 0:=by obtain⟨a,rfl⟩:∃a,n=a+3:=⟨n-3,by omega⟩;rw[zrc,zrc,zrc];simp only[Nat.add_sub_cancel,show a+3-1=a+2 from by omega,show a+3-2=a+1 from by omega];have b:y/pw (a+1)=y/pw a/1000000000:=(by rw[Z7,Nat.mul_comm,Nat.div_div_eq_div_mul]);have c:y/pw (a+2)=y/pw a/1000000000/1000000000:=(by rw[show a+2=(a+1)+1 from rfl,Z7,Nat.mul_comm,<-Nat.div_div_eq_div_mul,b]);have f:y/pw a<1000000000000000000000000000:=(by rw[Nat.div_lt_iff_lt_mul (zng a)];rw[show a+3=3+a from by omega,zvm] at d;simp only[pw] at d⊢;omega);rw[b,c];clear b c;generalize y/pw a=e at*;omega
def TensAt (top t c:Nat):Prop:=t*c=1000000000/\top*t<1000000000
theorem TensAt.start (h:top<1000000000):TensAt top 1 1000000000:=⟨rfl,by omega⟩
def zpc (y n t:Nat):Nat:=((A9 y).getD (n-1) 0*1000000000+(A9 y).getD (n-2) 0)*t+(A9 y).getD (n-3) 0*t/1000000000
theorem yet {y:Nat} (j:3<=n) (l:y<pw n) (h:t*c=1000000000):zpc y n t=y/(pw (n-3)*c):=by
 have hc:0<c:=by
  rcases Nat.eq_zero_or_pos c with a|a
  ·subst a;omega
  ·exact a
 have k:0<t:=by
  rcases Nat.eq_zero_or_pos t with a|a
  ·subst a;omega
  ·exact a
 unfold zpc;have e:y/(pw (n-3)*c)=y/pw (n-3)/c:=(Nat.div_div_eq_div_mul _ _ _).symm;rw[e,zz1370 j l,<-h];have f:(A9 y).getD (n-3) 0*t/(t*c)=(A9 y).getD (n-3) 0/c:=(by rw[Nat.mul_comm t c,Nat.mul_div_mul_right _ _ k]);have g:((A9 y).getD (n-1) 0*(t*c)+(A9 y).getD (n-2) 0)*(t*c)+(A9 y).getD (n-3) 0=((A9 y).getD (n-1) 0*(t*c)+(A9 y).getD (n-2) 0)*t*c+(A9 y).getD (n-3) 0:=(by rw[Nat.mul_assoc _ t c]);have i:∀d b:Nat,(d*c+b)/c=d+b/c:=fun d b=>(by rw[Nat.add_comm,Nat.add_mul_div_right _ _ hc,Nat.add_comm]);rw[f,g,i]
theorem yeu {y:Nat} (h:t*c=1000000000) (g:(A9 y).getD (n-1) 0*t<1000000000):(A9 y).getD (n-1) 0*t+t<=1000000000/\t<=1000000000:=by
 have hc:0<c:=by
  rcases Nat.eq_zero_or_pos c with b|b
  ·subst b;omega
  ·exact b
 generalize (A9 y).getD (n-1) 0=e at*
 have a:e<c:=by
  rcases C e c with a|a
  ·exact a
  ·have:=d t a;rw[Nat.mul_comm c t] at this;omega
 have f:=d t a;rw[Nat.mul_comm c t,Nat.succ_eq_add_one,Nat.add_mul,Nat.one_mul] at f;exact⟨by omega,by rw[<-h];exact Nat.le_mul_of_pos_right _ hc⟩
theorem ynq {a b:Nat} (h:a*b<=c):(a:Int)*(b:Int)<=(c:Int):=by rw[<-Int.natCast_mul];omega
theorem zz1381 {a b:Nat} (h:(a:Int)*(b:Int)*10<1000000000):a*b*10<1000000000:=by rw[<-Int.natCast_mul] at h;omega
theorem ydn {a:List Nat} (h:a.getD (n-1) 0*T+T<=1000000000):((a.getD ((n:Int)-1).toNat 0:Nat):Int)*(T:Int)+(T:Int)<=1000000000:=by rw[show((n:Int)-1).toNat=n-1 from by omega,<-Int.natCast_mul];omega
theorem zz1364 (e:1<=top) (j:top*T*10<1000000000) (h:∃t,t<=9/\T=10^t):T*10<1000000000/\(∃t,t<=9/\T*10=10^t)/\top*(T*10)<=999999999:=by
 have i:=d T e;have f:T*10<1000000000:=og;refine⟨f,?_,by rw[<-Nat.mul_assoc];omega⟩;obtain⟨t,g,a⟩:=h;refine⟨t+1,?_,by rw[a,Nat.pow_succ]⟩;rcases C t 9 with b|b
 ·omega
 ·have c:=Nat.pow_le_pow_right (show 0<10 by omega) b;rw[<-a] at c;omega
theorem yta {x y:Nat} (b:3<=n) (e:x<pw n) (g:y<=x) (v:(A9 x).getD (n-1) 0*T<=999999999) (h:∃t,t<=9/\T=10^t):
 ∃a:Nat,0<a/\zpc x n T=x/a/\zpc y n T=y/a/\x/a<=999999999999999999/\(A9 x).getD (n-1) 0*T+T<=1000000000/\(A9 y).getD (n-1) 0*T+T<=1000000000:=by obtain⟨t,u,p⟩:=h;have c:T*10^(9-t)=1000000000:=(by rw[p,<-Nat.pow_add,show t+(9-t)=9 from by omega]);have s:y<pw n:=F g e;have f:=yet b e c;have j:=yet b s c;have m:(A9 y).getD (n-1) 0<=(A9 x).getD (n-1) 0:=(by rw[zrc,zrc];have o:x/pw (n-1)<1000000000:=(by rw[Nat.div_lt_iff_lt_mul (zng _)];rw[show n=(n-1)+1 from by omega,Z7] at e;exact e);have b:y/pw (n-1)<=x/pw (n-1):=Nat.div_le_div_right g;rw[Nat.mod_eq_of_lt o,Nat.mod_eq_of_lt og];exact b);have z:=d T m;have q:=yeu (y:=x) (n:=n) c og;have r:=yeu (y:=y) (n:=n) c og;refine⟨pw (n-3)*10^(9-t),Nat.mul_pos (zng _) (Nat.pow_pos og),f,j,?_,q.1,r.1⟩;rw[<-f];have k:=zob (L3 x) (n-2);have l:=zob (L3 x) (n-3);unfold zpc;generalize (A9 x).getD (n-1) 0=u1 at*;generalize (A9 x).getD (n-2) 0=u2 at*;generalize (A9 x).getD (n-3) 0=u3 at*;have i:(u1*1000000000+u2)*T=u1*T*1000000000+u2*T:=(by grind);have A:=d T (w k);have B:=d T (w l);rw[i];omega
theorem ytr {w:i} {y e:Nat} (a:Int) (q:0<=a) (v:a<=4294967296) (ha:IsN w lo hi k y) (hc:w.cell? ⟨e,0,none⟩=some k):
 p u 206 #[.int .i64 a,.pointer (some ⟨e,0,none⟩)] w fun o w'=>o= .returned (.int .u64 ((A9 y).getD a.toNat 0:Nat))/\w'=w:=by
 have s:=ha.length_le;unfold maxLen at s;obtain⟨A,c,rfl,_,_,r⟩:=ha;obtain⟨d,rfl⟩:=Int.eq_ofNat_of_zero_le q;rw[Int.toNat_natCast];generalize g:A9 y=t at*;have n:=j g;clear g;rcases C d t.length with h|h
 ·obtain⟨b,off,rfl,_,_,f⟩:=r (L5 (j:=d) h);obtain⟨x,l,B,z⟩:=zmz (j:=d) f h;have D:x<=999999999:=(by have:=l.out;have:=zob (L3 y) d;rw[n.out] at this;omega);clear f;go_in;go_wp2;go_ret;exact⟨I0 l.out,rfl⟩
 ·have m:=j (zlu h);go_in;go_wp2;go_ret;exact⟨I0 (by rw[m.out];rfl),rfl⟩
theorem IsN.drewB {w:i} {x:Nat} (h:IsN w lo hi v x) (n:Nat):IsN (w.drewN n) lo hi v x:=h
theorem ygv {w:i} {y r v:Nat} (n t:Int) (ha:IsN w lo hi k y) (ae:hi<=w.heap.size) (al:3<=n) (an:n<=4294967296) (aq:1<=t) (af:t<=1000000000) (M:((A9 y).getD (n-1).toNat 0:Int)*t+t<=1000000000)
 (K:w.cell? ⟨r,0,none⟩=some (.int .i64 n)) (L:w.cell? ⟨v,0,none⟩=some (.int .u64 t)) (Z:r<w.heap.size) (aa:v<w.heap.size):
 p u 205 #[k,.pointer (some ⟨r,0,none⟩),.pointer (some ⟨v,0,none⟩)] w fun q w'=>q= .returned (.int .i64 (zpc y n.toNat t.toNat:Nat))/\l w.heap.size w w':=by
 have I:=j ha;obtain⟨A,c,rfl,_,_,aj⟩:=ha;have ak:=(World.cell?_alloc_lt w (.cells #[.slice A (A9 y).length c] 35) ⟨r,0,none⟩ Z).trans K;have ao:=(World.cell?_alloc_lt w (.cells #[.slice A (A9 y).length c] 35) ⟨v,0,none⟩ aa).trans L;have J:(w.alloc (.cells #[.slice A (A9 y).length c] 35)).cell? ⟨w.heap.size,0,none⟩=some (.slice A (A9 y).length c):=(by have:=cell_one_new w (.slice A (A9 y).length c) 35 0 _ rfl;rwa[Addr.add_lit] at this);have B:=j (And.intro (I.out.below ((z _ w).alloc (g _) (.cells #[.slice A (A9 y).length c] 35)) ae) J);clear J K L
 have x:∀(m:Int),0<=m->m<=4294967296->∀d,p u 206 #[.int .i64 m,.pointer (some ⟨w.heap.size,0,none⟩)] ((w.alloc (.cells #[.slice A (A9 y).length c] 35)).drewN d) fun q w'=>q= .returned (.int .u64 ((A9 y).getD m.toNat 0:Nat))/\w'=(w.alloc (.cells #[.slice A (A9 y).length c] 35)).drewN d:=
  fun m X Y d=>ytr m X Y (B.out.1.drewB d) B.out.2
 obtain⟨a,F,C⟩:∃a:Int,a=((A9 y).getD (n-1).toNat 0:Nat)/\_:=⟨_,rfl,x (n-1) og og⟩;obtain⟨b,G,D⟩:∃b:Int,b=((A9 y).getD (n-2).toNat 0:Nat)/\_:=⟨_,rfl,x (n-2) og og⟩;obtain⟨f,H,E⟩:∃f:Int,f=((A9 y).getD (n-3).toNat 0:Nat)/\_:=⟨_,rfl,x (n-3) og og⟩;rw[<-F] at C M;rw[<-G] at D;rw[<-H] at E;have ab:=zob (L3 y) (n-1).toNat;have ac:=zob (L3 y) (n-2).toNat;have ad:=zob (L3 y) (n-3).toNat;have ag:0<=a:=og;have ah:a<=999999999:=og;have ai:0<=b:=og;have U:b<=999999999:=og;have V:0<=f:=og;have W:f<=999999999:=og;have ar:0<=(a*1000000000+b)*t:=Int.mul_nonneg og og;have au:(a*1000000000+b)*t<=1000000000000000000:=(by have q:(a*1000000000+b)*t=a*t*1000000000+b*t:=(by grind);have h:=Int.mul_le_mul_of_nonneg_right U (show 0<=t by omega);rw[q];omega);have av:0<=f*t:=Int.mul_nonneg V og;have ay:f*t<=999999999000000000:=(by have h:=Int.mul_le_mul W af og (by omega:(0:Int)<=999999999);omega);have hfin:e ((a*1000000000+b)*t+f*t/1000000000=((zpc y n.toNat t.toNat:Nat):Int)):=(by obtain⟨o,rfl⟩:=Int.eq_ofNat_of_zero_le (show 0<=n by omega);obtain⟨s,rfl⟩:=Int.eq_ofNat_of_zero_le (show 0<=t by omega);have R:((o:Int)-1).toNat=o-1:=og;have S:((o:Int)-2).toNat=o-2:=og;have T:((o:Int)-3).toNat=o-3:=og;unfold e zpc;rw[F,G,H,R,S,T,Int.toNat_natCast,Int.toNat_natCast];simp);obtain⟨N,O,P⟩:=G4 C D E;have Q:e (∀d,l w.heap.size w ((w.alloc (.cells #[.slice A (A9 y).length c] 35)).drewN d)):=fun d=>below_drewN ((z _ w).alloc (g _) _) d;clear x C D E F G H ab ac ad M B I;go_in;go_wp2;go_quiet ((go_at_call 206;first|(with_reducible exact Calls.quiet_of_same (N.out _))|(with_reducible exact Calls.quiet_of_same (O.out _))|(with_reducible exact Calls.quiet_of_same (P.out _))));go_wp2;go_ret;exact⟨I0 hfin.out,Q.out _⟩
def ybe (a:Nat) (w:i):Nat:=match w.cell? ⟨a,0,none⟩ with
 |some (.int _ t)=>1000000000-t.toNat
 |_=>0
theorem yhb {a:Nat} {w:i} {k:IntKind} {t:Int} (h:w.cell? ⟨a,0,none⟩=some (.int k t)):ybe a w=1000000000-t.toNat:=by unfold ybe;rw[h]
def ycz (x y:Nat) (b:Ending):Prop:=∃a:Nat,0<a/\b= .returned (.tuple #[.int .i64 (x/a:Nat),.int .i64 (y/a:Nat)])/\x/a<=999999999999999999
theorem ytc {w:i} {x y:Nat} (ha:IsN w lo hi k x) (Y:IsN w lo' D o y) (ad:hi<=w.heap.size) (aM:D<=w.heap.size) (aN:y<=x) (v:3<=(A9 x).length) (aU:(A9 x).length<=4294967296):
 p u 199 #[k,o] w fun M w'=>ycz x y M/\l w.heap.size w w':=by
 obtain⟨S,ao⟩:=C4 ha Y;obtain⟨A,c,rfl,_,_,N⟩:=ha;obtain⟨B,d,rfl,_,_,aX⟩:=Y;obtain⟨n,J⟩:=nm ((A9 x).length);have al:e (x<pw n):=(by rw[e,J];exact zpz x);have aj:1<=(A9 x).getD (n-1) 0:=(by rw[zrc];have aD:pw (n-1)<=x:=lim_len_lt.1 og;have aE:x<pw (n-1)*1000000000:=(by have:=al.out;rw[show n=(n-1)+1 from by omega,Z7,Nat.mul_comm] at this;exact this);have v:x/pw (n-1)<1000000000:=(by rw[Nat.div_lt_iff_lt_mul (zng _),Nat.mul_comm];exact aE);rw[Nat.mod_eq_of_lt v];exact Nat.div_pos aD (zng _));have aT:=zob (L3 x) (n-1);obtain⟨top,L⟩:=nm ((A9 x).getD (n-1) 0);obtain⟨b,off,rfl,a1,f,_⟩:=N (L5 (j:=n-1) og);have ac:∀wr,l w.heap.size w wr->wr.cell? ⟨b,off+(n-1),none⟩=some (.int .u32 (top:Int)):=(by intro wr a;rw[L];exact(N.below a ad).at_ _ _ (zon og));obtain⟨ar,aV,aB⟩:=G4 ac J L;rw[<-J] at v aU S⊢;rw[<-L] at aj aT;clear ac J L N;have O:=cell_one_new w (.int .i64 (n:Int)) 3 0 _ rfl;have H:=cell_one_new (w.alloc (.cells #[.int .i64 (n:Int)] 3)) (.int .u64 1) 160 0 _ rfl;rw[Addr.add_lit,Nat.add_zero] at O H;rw[q] at H;have ab:=(World.cell?_alloc_lt (w.alloc (.cells #[.int .i64 (n:Int)] 3)) (.cells #[.int .u64 1] 160) ⟨w.heap.size,0,none⟩ (by rw[q];show w.heap.size<_;omega)).trans O;have Z:=(((z w.heap.size w).alloc (g _) (.cells #[.int .i64 (n:Int)] 3)).alloc (by rw[q];omega) (.cells #[.int .u64 1] 160));obtain⟨aq,an⟩:=C4 Z (And.intro ab H);have ah:(((w.alloc (.cells #[.int .i64 (n:Int)] 3)).alloc (.cells #[.int .u64 1] 160)).heap.size)=w.heap.size+2:=(by rw[q,q]);have aA:=j ah;have aK:∀wr:i,(∃t,Row wr (w.heap.size+1) 160 t)->wr.frozen? ⟨w.heap.size+1,0,none⟩=false:=fun wr ⟨t,h⟩=>h.frozen 0;have ag:Row ((w.alloc (.cells #[.int .i64 (n:Int)] 3)).alloc (.cells #[.int .u64 1] 160)) (w.heap.size+1) 160 [.int .u64 1]:=(by have:=heap_alloc_new (w.alloc (.cells #[.int .i64 (n:Int)] 3)) (.cells #[.int .u64 1] 160);rw[q] at this;exact this);have az:=j ag;clear O ab H Z ah ag aK;go_in;go_wp2;go_loopw [] (fun wr=>∃T:Nat,Row wr (w.heap.size+1) 160 [.int .u64 (T:Int)]/\wr.cell? ⟨w.heap.size,0,none⟩=some (.int .i64 (n:Int))/\l w.heap.size w wr/\e (wr.heap.size=w.heap.size+2)/\1<=T/\T<=1000000000/\top*T<=999999999/\e (∃t,t<=9/\T=10^t)) (fun wr=>ybe (w.heap.size+1) wr);case atStart=>exact⟨1,az.out,an.out.1,aq.out,aA.out,by omega,by omega,by omega,0,by omega,rfl⟩
 case round=>
  obtain⟨T,hr,I,a,Q,aY,a0,ai,hrel⟩:=hrel;have r:=hr.cell 0;have aJ:=hr.frozen 0;have aI:=ar.out wr a;simp only[List.getElem?_cons_zero] at r;have a3:0<=(top:Int)*(T:Int):=Int.mul_nonneg og og;have a4:(top:Int)*(T:Int)<=999999999:=ynq ai;rcases Int.lt_or_le ((top:Int)*T*10) 1000000000 with aO|aL
  ·have K:=zz1364 aj (zz1381 aO) hrel.out;have aZ:=K.1;have aQ:=j K.2.1;have aS:=j K.2.2;clear K;go_wp2;go_quiet (fail);go_wp2;go_roundw
   case rel=>
    refine⟨T*10,?_,?_,below_drewN a _|>.setCell (by show w.heap.size<=w.heap.size+1;omega) _,?_,by omega,by omega,aS.out,aQ.out⟩
    ·have:=(hr.drewN nq).set_ 0 (.int .u64 ((T:Int)*10));rw[Int.natCast_mul];exact this
    ·rw[World.cell?_setCell_other _ _ _ _ (by simp)];exact I
    ·have:=Q.out;simpa[e,World.setCell] using this
   case measure=>rw[yhb r,yhb (k:= .u64) (t:=(T:Int)*10) (World.cell?_setCell_same' _ _ _ (by show(wr.cell? _).isSome=true;rw[r];rfl))];omega
  ·obtain⟨aC,X,U,V,ak,ae,af⟩:=yta v al.out aN (by rw[<-aB.out];exact ai) hrel.out;have au:e (ycz x y (.returned (.tuple #[.int .i64 (zpc x n T:Nat),.int .i64 (zpc y n T:Nat)]))):=⟨aC,X,by rw[U,V],ak⟩;obtain⟨av,ay⟩:=C4 (ydn ae) (ydn af);clear U V ak ae af X hrel;have aW:=j (And.intro I (And.intro r a));have a2:decide ((top:Int)*(T:Int)*10<1000000000)=false:=decide_eq_false og;go_wp2_with fail;go_quiet (fail);clear aL;go_wp2_with fail;have G:l w.heap.size w (wr.drewN nq):=below_drewN a nq;have a6:(wr.drewN nq).heap.size=w.heap.size+2:=Q.out;have P:(wr.drewN nq).cell? ⟨w.heap.size,0,none⟩=some (.int .i64 (n:Int)):=I;have R:(wr.drewN nq).cell? ⟨w.heap.size+1,0,none⟩=some (.int .u64 (T:Int)):=r;clear I r aI aJ hr a Q;generalize wr.drewN nq=a8 at*;obtain⟨W,aG⟩:=C4 (S.out.below G ad) (ao.out.below G aM);refine(ygv (n:Int) (T:Int) W.out og og og og og av.out P R og og).mono ?_;rw[Int.toNat_natCast,Int.toNat_natCast];rintro M m ⟨rfl,f⟩;have aa:=G.trans (f.mono G.size);have aP:=(f.cell (p:=⟨w.heap.size,0,none⟩) (by show w.heap.size<_;omega)).trans P;have aR:=(f.cell (p:=⟨w.heap.size+1,0,none⟩) (by show w.heap.size+1<_;omega)).trans R;have a5:=f.size;clear P R W;go_wp2_with fail;refine(ygv (n:Int) (T:Int) (aG.out.below f og) og og og og og ay.out aP aR og og).mono ?_;rw[Int.toNat_natCast,Int.toNat_natCast];rintro M a7 ⟨rfl,aH⟩;go_wp2_with fail;go_ret2;exact⟨au.out,aa.trans (aH.mono aa.size)⟩
theorem yug {A B X x y c:Int} (h:V+c*P=X*A+Y*B) (hr:r=X*x+c+Y*y-c'*1000000000):V+P*r+c'*(1000000000*P)=X*(A+P*x)+Y*(B+P*y):=by subst hr;grind
theorem ztt {a e:List Nat} {d:Nat} {X x y c:Int} (i:d<e.length) (k:x=(a.getD d 0:Nat)) (l:y=(b.getD d 0:Nat)) (hr:r=X*x+c+Y*y-c'*1000000000) (j:0<=r)
 (h:(val (e.take d):Int)+c*pw d=X*val (a.take d)+Y*val (b.take d)):(val ((e.set d r.toNat).take (d+1)):Int)+c'*pw (d+1)=X*val (a.take (d+1))+Y*val (b.take (d+1)):=by have f:=yug h hr;rw[zug i,val_take_succ' a,val_take_succ' b,Z7];have g:((r.toNat:Nat):Int)=r:=Int.toNat_of_nonneg j;simp only[Int.natCast_add,Int.natCast_mul,g,<-k,<-l];exact f
theorem yuf {c:Int} {R:Nat} (e:0<=V) (d:V<P) (b:(R:Int)<P) (h:V+c*P=R):V=R:=by
 have a:0<P:=og;rcases Int.lt_trichotomy c 0 with hc|hc|hc
 ·have:=Int.mul_le_mul_of_nonneg_right (show c<=-1 by omega) (Int.le_of_lt a);rw[Int.neg_mul,Int.one_mul] at this;omega
 ·subst hc;omega
 ·have:=Int.mul_le_mul_of_nonneg_right (show 1<=c by omega) (Int.le_of_lt a);rw[Int.one_mul] at this;omega
theorem yhn {X x:Int} (f: -999999999<=X) (d:X<=999999999) (b:0<=x) (c:x<=999999999): -999999998000000001<=X*x/\X*x<=999999998000000001/\(0<=X->0<=X*x)/\(X<=0->X*x<=0):=by
 rcases Int.lt_or_le X 0 with h|h
 ·have a:=zpi (x:= -X) (y:=x) og og b c;rw[Int.neg_mul] at a;exact⟨by omega,by omega,by omega,by omega⟩
 ·have a:=zpi (x:=X) (y:=x) h d b c;refine⟨by omega,by omega,by omega,fun e=> ?_⟩;have:X=0:=og;subst this;omega
theorem ykw {t:Int} (h:t<0):∃q,t.tdiv 1000000000=q/\((q=t/1000000000/\t%1000000000=0)\/(q=t/1000000000+1/\0<t%1000000000)):=by
 refine⟨_,rfl,?_⟩;rw[Int.tdiv_eq_ediv];split
 ·rename_i hd;rcases hd with hd|hd
  ·omega
  ·exact .inl ⟨by omega,Int.emod_eq_zero_of_dvd hd⟩
 ·rename_i hd;refine .inr ⟨by simp,?_⟩;rcases Int.lt_or_le 0 (t%1000000000) with a|a
  ·exact a
  ·exact absurd (.inr (Int.dvd_of_emod_eq_zero og)) hd
theorem yhm {w:i} {A B R:Nat} (x y:Int) (ha:IsN w lo hi k A) (az:IsN w lo' D o B) (aC:hi<=w.heap.size) (aD:D<=w.heap.size) (aN: -999999999<=x) (aO:x<=999999999) (aP: -999999999<=y) (aQ:y<=999999999)
 (an:(0<=x/\y<=0)\/(x<=0/\0<=y)) (ah:(R:Int)=x*A+y*B) (ai:R<=A) (af:B<=A) (aU:(A9 A).length<=4294967296):
 p u 200 #[k,o,.int .i64 x,.int .i64 y] w fun ae w'=>(∃v,ae= .returned v/\IsN w' w.heap.size w'.heap.size v R)/\l w.heap.size w w':=by
 have aB:=U1 af;have av:e (R<pw (A9 A).length):=F ai (zpz A);obtain⟨aS,c,rfl,_,_,ar⟩:=ha;obtain⟨aT,d,rfl,_,_,au⟩:=az;generalize al:A9 A=a at*;generalize N:A9 B=b at*;have ac:e (Lo a/\val a=A):=(by rw[e,<-al];exact⟨L3 A,N6 A⟩);have ad:e (Lo b/\val b=B):=(by rw[e,<-N];exact⟨L3 B,N6 B⟩);have ao:=j ah;clear al N ah ai af;go_in;go_wp2_with (at_make;refine ztc R6 rfl _ _ rfl a.length rfl rfl rfl rfl og ?_;intro J f ag aI aA aR)
 go_loopw [10,18] (fun aq ab wr=>∃(s:Nat) (t:List Nat) (n:Int),s<=a.length/\ab= .int .i64 (s:Int)/\aq= .int .i64 n/\-1000000000<=n/\n<=1000000000/\Row wr J 115 (C8 .u32 t)/\l J w wr/\e (wr.heap.size=J+1)/\
  e (t.length=a.length/\Lo t/\(val (t.take s):Int)+n*pw s=x*val (a.take s)+y*val (b.take s))) (fun _ ab _=>a.length-(intOf ab).toNat)
 case atStart=>exact⟨0,_,0,E _,rfl,rfl,by omega,by omega,aI,aA,aR,by simp,zrd _,by simp[val]⟩
 case round=>
  obtain⟨s,t,n,aY,rfl,rfl,aV,aW,hr,G,H,hrel⟩:=hrel;have V:l w.heap.size w wr:=(by have:=ag.out;subst this;exact G);rcases C s a.length with Q|aX
  ·obtain⟨ba,oa,rfl,_,_,aj⟩:=(ar.below V aC) (L5 (j:=s) Q);obtain⟨r,L,aJ,aK,aZ⟩:=T3 (j:=s) ac.out.1 aj Q;clear aj;obtain⟨z,a1,a2,a3⟩:=hr.num (i:=s) (by rw[hrel.out.1];exact Q);have a4:=hr.frozen s;have K:e (s<t.length):=(by rw[hrel.out.1];exact Q);obtain⟨a5,a6,S,T⟩:=yhn aN aO aJ aK;rcases C s b.length with N|W
   ·obtain⟨bb,ob,rfl,_,_,ak⟩:=(au.below V aD) (L5 (j:=s) N);obtain⟨v,hv,aL,aM,a0⟩:=T3 (j:=s) ad.out.1 ak N;clear ak;obtain⟨a7,U,I,q3⟩:=yhn aP aQ aL aM;(have s0: -999999998000000001<=x*r+y*v:=by rcases an with⟨M,P⟩|⟨M,P⟩<;>(have:=S;have:=T;have:=I;have:=q3;omega));(have a8:x*r+y*v<=999999998000000001:=by rcases an with⟨M,P⟩|⟨M,P⟩<;>(have:=S;have:=T;have:=I;have:=q3;omega));clear S T I q3;rcases Int.lt_or_le (x*r+n+y*v) 0 with X|aE
    ·obtain⟨q,aG,⟨U,I⟩|⟨U,I⟩⟩:=ykw X
     ·have Y: -1000000001<=q:=og;have Z:q<=0:=og;have aa:x*r+n+y*v-q*1000000000=0:=og;go_wp2;go_roundw;(case rel=>refine⟨s+1,t.set s ((x*r+n+y*v)%1000000000).toNat,(x*r+n+y*v)/1000000000,by omega,by go_num,zqy og,by omega,by omega,?_,G.setCell (g _) _,by have:=H.out;simpa[e,World.setCell] using this,by rw[List.length_set];exact hrel.out.1,T4 hrel.out.2.1 og,ztt (x:=r) (y:=v) (c:=n) (c':=(x*r+n+y*v)/1000000000) (r:=(x*r+n+y*v)%1000000000) K.out L.out hv.out og og hrel.out.2.2⟩;exact hr.setNum s _ _ og);case measure=>simp[intOf];omega
     ·have Y: -1000000001<=q:=og;have Z:q<=0:=og;have aa:x*r+n+y*v-q*1000000000<0:=og;have aH: -1000000000<x*r+n+y*v-q*1000000000:=og;go_wp2;go_roundw;(case rel=>refine⟨s+1,t.set s ((x*r+n+y*v)%1000000000).toNat,(x*r+n+y*v)/1000000000,by omega,by go_num,zqy og,by omega,by omega,?_,G.setCell (g _) _,by have:=H.out;simpa[e,World.setCell] using this,by rw[List.length_set];exact hrel.out.1,T4 hrel.out.2.1 og,ztt (x:=r) (y:=v) (c:=n) (c':=(x*r+n+y*v)/1000000000) (r:=(x*r+n+y*v)%1000000000) K.out L.out hv.out og og hrel.out.2.2⟩;exact hr.setNum s _ _ og);case measure=>simp[intOf];omega
    ·go_wp2;go_roundw;(case rel=>refine⟨s+1,t.set s ((x*r+n+y*v)%1000000000).toNat,(x*r+n+y*v)/1000000000,by omega,by go_num,zqy og,by omega,by omega,?_,G.setCell (g _) _,by have:=H.out;simpa[e,World.setCell] using this,by rw[List.length_set];exact hrel.out.1,T4 hrel.out.2.1 og,ztt (x:=r) (y:=v) (c:=n) (c':=(x*r+n+y*v)/1000000000) (r:=(x*r+n+y*v)%1000000000) K.out L.out hv.out og og hrel.out.2.2⟩;exact hr.setNum s _ _ og);case measure=>simp[intOf];omega
   ·clear S T;rcases Int.lt_or_le (x*r+n) 0 with X|aE
    ·obtain⟨q,aG,⟨U,I⟩|⟨U,I⟩⟩:=ykw X
     ·have Y: -1000000001<=q:=og;have Z:q<=0:=og;have aa:x*r+n-q*1000000000=0:=og;go_wp2;go_roundw;(case rel=>refine⟨s+1,t.set s ((x*r+n)%1000000000).toNat,(x*r+n)/1000000000,by omega,by go_num,zqy og,by omega,by omega,?_,G.setCell (g _) _,by have:=H.out;simpa[e,World.setCell] using this,by rw[List.length_set];exact hrel.out.1,T4 hrel.out.2.1 og,ztt (x:=r) (y:=0) (c:=n) (c':=(x*r+n)/1000000000) (r:=(x*r+n)%1000000000) K.out L.out (by rw[zlu W];rfl) og og hrel.out.2.2⟩;exact hr.setNum s _ _ og);case measure=>simp[intOf];omega
     ·have Y: -1000000001<=q:=og;have Z:q<=0:=og;have aa:x*r+n-q*1000000000<0:=og;have aH: -1000000000<x*r+n-q*1000000000:=og;go_wp2;go_roundw;(case rel=>refine⟨s+1,t.set s ((x*r+n)%1000000000).toNat,(x*r+n)/1000000000,by omega,by go_num,zqy og,by omega,by omega,?_,G.setCell (g _) _,by have:=H.out;simpa[e,World.setCell] using this,by rw[List.length_set];exact hrel.out.1,T4 hrel.out.2.1 og,ztt (x:=r) (y:=0) (c:=n) (c':=(x*r+n)/1000000000) (r:=(x*r+n)%1000000000) K.out L.out (by rw[zlu W];rfl) og og hrel.out.2.2⟩;exact hr.setNum s _ _ og);case measure=>simp[intOf];omega
    ·go_wp2;go_roundw;(case rel=>refine⟨s+1,t.set s ((x*r+n)%1000000000).toNat,(x*r+n)/1000000000,by omega,by go_num,zqy og,by omega,by omega,?_,G.setCell (g _) _,by have:=H.out;simpa[e,World.setCell] using this,by rw[List.length_set];exact hrel.out.1,T4 hrel.out.2.1 og,ztt (x:=r) (y:=0) (c:=n) (c':=(x*r+n)/1000000000) (r:=(x*r+n)%1000000000) K.out L.out (by rw[zlu W];rfl) og og hrel.out.2.2⟩;exact hr.setNum s _ _ og);case measure=>simp[intOf];omega
  ·obtain rfl:s=a.length:=og;have ay:e (val t=R):=(by have h:=hrel.out.2.2;rw[zkb (Nat.le_of_eq hrel.out.1),zkb (g _),zkb aB,ac.out.2,ad.out.2,<-ao.out] at h;have M:=zlq hrel.out.2.1;rw[hrel.out.1] at M;have P:=av.out;exact Int.ofNat_inj.1 (yuf og og og h));have O:e (Row wr J 115 (C8 .u32 t)/\t.length=a.length/\Lo t):=⟨hr,hrel.out.1,hrel.out.2.1⟩;clear hr hrel;go_wp2_with fail;rw[<-O.out.2.1];refine(zwd _ _ t wr J (J+1) O.out.2.2 (g _) (by have:=O.out.2.1;unfold maxLen;omega) O.out.1.sv).mono ?_;rintro ae m ⟨⟨v,rfl,hv⟩,rfl⟩;go_wp2_with fail;go_ret;refine⟨⟨_,rfl,?_⟩,V⟩;rw[<-ay.out];exact hv.wide (oh ag) (oh H)
theorem ynt {k:IntKind} {a:List Nat} (g:a.length=b.length) (h:∀c,c<a.length->(C8 k a)[c]? =(C8 k b)[c]?):a=b:=by apply List.ext_getElem g;intro c d f;have e:=h c d;rw[cel_getElem?,cel_getElem?,List.getElem?_eq_getElem d,List.getElem?_eq_getElem f] at e;simp only[Option.map_some,Option.some.injEq,Value.int.injEq,true_and] at e;omega
theorem IsL.unique {e:IntKind} {w:i} {a:List Nat} (ha:IsL e w lo hi v a) (n:IsL e w lo' D v b):a=b:=by obtain⟨A,c,rfl,_,_,l⟩:=ha;obtain⟨B,d,hv,_,_,m⟩:=n;simp only[Value.slice.injEq] at hv;obtain⟨rfl,o,rfl⟩:=hv;refine ynt (k:=e) o fun g f=> ?_;obtain⟨p,q,rfl,_,_,k⟩:=l (L5 (j:=g) f);have h:=k g _ (zon f);have j:=m.at_ g _ (zon (k:=e) (l:=b) og);rw[zon f,zon og];exact h.symm.trans j
theorem IsN.unique {w:i} {x y:Nat} (ha:IsN w lo hi v x) (a:IsN w lo' D v y):x=y:=ytm (IsL.unique ha a)
open Classical in
noncomputable def numOf (w:i) (v:Value):Nat:=if h:∃n,IsN w 0 w.heap.size v n then Classical.choose h else 0
theorem ztu {w:i} (h:IsN w 0 w.heap.size v n):numOf w v=n:=by have hex:∃n,IsN w 0 w.heap.size v n:=⟨n,h⟩;unfold numOf;rw[dif_pos hex];exact IsN.unique (Classical.choose_spec hex) h
theorem IsN.up {w w':i} (h:IsN w lo w.heap.size v n) (a:l w.heap.size w w'):IsN w' 0 w'.heap.size v n:=(h.below a (g _)).wide (E _) a.size
theorem zqq {w:i} (h:l w.heap.size w f) (a:l f.heap.size f m):l w.heap.size w m:=h.trans (a.mono h.size)
theorem zvi {y:Nat} (h:(A9 y).length<=2):y<1000000000000000000:=by have:=lim_len_le.1 h;simpa[pw] using this
theorem zz1376 {y z:Nat} (h:(A9 y).length<=2) (a:z<=y):(A9 z).length<=2:=s (U1 a) h
theorem yrj {w:i} {x y:Nat} (ha:IsN w 0 w.heap.size k x) (j:IsN w 0 w.heap.size o y) (D:Bru w) (b:(A9 x).length<=2) (g:(A9 y).length<=2):
 p u 185 #[k,o] w fun a w'=>(∃v,a= .returned v/\IsN w' w.heap.size w'.heap.size v (Nat.gcd x y))/\l w.heap.size w w':=by
 obtain⟨z,C,t⟩:=G4 ha j D;obtain⟨A,c,rfl,_,_,_⟩:=ha;obtain⟨B,d,rfl,_,_,_⟩:=j;obtain⟨m,n⟩:=C4 (zvi b) (zvi g)
 have hg:e (Nat.gcd x y<=1000000000000000000):=by
  have:=m.out;have:=n.out;rcases Nat.eq_zero_or_pos x with h|h
  ·unfold e;rw[h,Nat.gcd_zero_left];omega
  ·exact s (Nat.le_of_dvd h (Nat.gcd_dvd_left x y)) og
 obtain⟨q,r⟩:=C4 b g;go_in;go_wp2_with fail;refine(zrw z.out q.out).mono ?_;rintro a f ⟨rfl,rfl⟩;go_wp2_with fail;refine(zrw C.out r.out).mono ?_;rintro a f ⟨rfl,rfl⟩;go_wp2_with fail;refine(zwn x y w t.out (oh m) (oh n)).mono ?_;rintro a f ⟨rfl,rfl⟩;go_wp2_with fail;refine(ybn w _ (oh hg)).mono ?_;rintro a f ⟨⟨v,rfl,hv⟩,E⟩;go_wp2_with fail;go_ret;exact⟨⟨_,rfl,hv⟩,E⟩
theorem yfv {w:i} {x y:Nat} (ha:IsN w 0 w.heap.size k x) (r:IsN w 0 w.heap.size o y) (h:¬((A9 x).length<=2/\(A9 y).length<=2)) (a:x=1\/y=1):
 p u 185 #[k,o] w fun g w'=>(∃v,g= .returned v/\IsN w' w.heap.size w'.heap.size v (Nat.gcd x y))/\l w.heap.size w w':=by
 obtain⟨s,t⟩:=C4 ha r
 have hg:e (Nat.gcd x y=1):=by
  rcases a with a|a
  ·rw[a];exact Nat.gcd_one_left y
  ·rw[a];exact Nat.gcd_one_right x
 have E:∃b,decide (x=1)=b:=⟨_,rfl⟩;have F:∃j,decide (y=1)=j:=⟨_,rfl⟩;obtain⟨b,n⟩:=E;obtain⟨j,q⟩:=F
 have G:(b=true)\/(b=false/\j=true):=by
  rcases a with a|a
  ·left;rw[<-n];simpa using a
  ·cases b
   ·right;exact⟨rfl,by rw[<-q];simpa using a⟩
   ·left;rfl
 obtain⟨z,C⟩:=C4 n q;obtain⟨A,c,rfl,_,_,_⟩:=ha;obtain⟨B,d,rfl,_,_,_⟩:=r;clear n q a;rw[e] at hg;rw[hg];clear hg;have D:(2<(A9 x).length)\/((A9 x).length<=2/\2<(A9 y).length):=og;clear h;rcases D with h|⟨h,H⟩
 all_goals
  rcases G with rfl|⟨rfl,rfl⟩
  all_goals
   go_in
   go_wp2_with fail
   refine(zra s.out).mono ?_
   rw[z.out]
   rintro g f ⟨rfl,rfl⟩
   go_wp2_with fail
   first
    |(refine(zmt w).mono ?_
      rintro g f ⟨⟨v,rfl,hv⟩,m⟩
      go_wp2_with fail
      go_ret
      exact⟨⟨_,rfl,hv⟩,m⟩)
    |(refine(zra t.out).mono ?_
      rw[C.out]
      rintro g f ⟨rfl,rfl⟩
      go_wp2_with fail
      refine(zmt w).mono ?_
      rintro g f ⟨⟨v,rfl,hv⟩,m⟩
      go_wp2_with fail
      go_ret
      exact⟨⟨_,rfl,hv⟩,m⟩)
def GcdAt (b:Nat) (a wr:i) (k o:Value):Prop:=∃X Y:Nat,IsN wr 0 wr.heap.size k X/\IsN wr 0 wr.heap.size o Y/\Y<=X/\Nat.gcd X Y=b/\(A9 X).length<=4294967296/\l a.heap.size a wr
theorem GcdAt.intro {b X Y:Nat} {a wr:i} (c:IsN wr 0 wr.heap.size k X) (d:IsN wr 0 wr.heap.size o Y) (e:Y<=X) (f:Nat.gcd X Y=b) (g:(A9 X).length<=4294967296) (h:l a.heap.size a wr):GcdAt b a wr k o:=⟨X,Y,c,d,e,f,g,h⟩
theorem yvw {w x y z:Int} (h:(1<=w/\x<=0/\y<=0/\1<=z/\w*z-x*y=1)\/(w<=0/\1<=x/\1<=y/\z<=-1/\w*z-x*y= -1)):
 ((0<=w/\x<=0)\/(w<=0/\0<=x))/\((0<=y/\z<=0)\/(y<=0/\0<=z)):=by
 rcases h with⟨a,b,c,d,_⟩|⟨a,b,c,d,_⟩
 ·exact⟨.inl ⟨by omega,by omega⟩,.inr ⟨by omega,by omega⟩⟩
 ·exact⟨.inr ⟨by omega,by omega⟩,.inl ⟨by omega,by omega⟩⟩
theorem yri {w:i} {x y:Nat} (ha:IsN w 0 w.heap.size k x) (aG:IsN w 0 w.heap.size o y) (az:Bru w) (aS:(A9 x).length<=4294967296) (aT:(A9 y).length<=4294967296) (h:¬((A9 x).length<=2/\(A9 y).length<=2)) (W:x≠1) (Z:y≠1):
 p u 185 #[k,o] w fun n w'=>(∃v,n= .returned v/\IsN w' w.heap.size w'.heap.size v (Nat.gcd x y))/\l w.heap.size w w':=by
 obtain⟨R,S,aX⟩:=G4 ha aG az;obtain⟨A,c,rfl,_,_,_⟩:=ha;obtain⟨B,d,rfl,_,_,_⟩:=aG;obtain⟨a5,a7⟩:=C4 (decide_eq_false W) (decide_eq_false Z);obtain⟨G,ad⟩:=nm (Nat.gcd x y);rw[<-ad];obtain⟨ao,a6,a8⟩:=G4 ad aS aT;clear W Z ad az aS aT;have bh:(2<(A9 x).length)\/((A9 x).length<=2/\2<(A9 y).length):=og;clear h;have bm:(x<y)\/(y<=x):=C x y;rcases bh with h|⟨h,bL⟩
 all_goals
  rcases bm with ai|aJ
  all_goals
   go_in
   go_wp2_with fail
   refine(zra R.out).mono ?_
   rw[a5.out]
   rintro n f ⟨rfl,rfl⟩
   go_wp2_with fail
   refine(zra S.out).mono ?_
   rw[a7.out]
   rintro n f ⟨rfl,rfl⟩
   go_wp2_with fail
   refine(zsf R.out S.out).mono ?_
   first
    |(rw[zqi ai]
      have hst:∀q,e (GcdAt G w (w.drewN q) (.slice B (A9 y).length d) (.slice A (A9 x).length c)):=fun q=>GcdAt.intro (S.out.drewN q) (R.out.drewN q) (Nat.le_of_lt ai) (by rw[Nat.gcd_comm];exact ao.out.symm) a8.out (below_drewN (z _ _) q)
      clear ai)
    |(have bP:0<=U4 x y:=by
       unfold U4
       rw[if_neg og]
       split<;>omega
      generalize U4 x y=sg at*
      have hst:∀q,e (GcdAt G w (w.drewN q) (.slice A (A9 x).length c) (.slice B (A9 y).length d)):=fun q=>GcdAt.intro (R.out.drewN q) (S.out.drewN q) aJ ao.out.symm a6.out (below_drewN (z _ _) q)
      clear aJ)
   rintro n f ⟨rfl,q,rfl⟩
   have aq:=j (hst q)
   clear hst
   go_wp2_with fail
   go_loopw [0,1] (fun bA ak wr=>GcdAt G w wr bA ak) (fun _ ak wr=>numOf wr ak)
   case atStart=>exact aq.out.out
   case round=>
    clear aq
    obtain⟨X,Y,aA,aD,t,aC,F,K⟩:=hrel
    obtain⟨O,H,a0⟩:=G4 aA aD (aX.out.below K)
    obtain⟨bG,bK,rfl,_,_,_⟩:=aA
    obtain⟨an,ar,rfl,_,_,_⟩:=aD
    have P:=j aC
    clear aC
    rcases C 2 (A9 Y).length with I|I
    ·have a9:3<=(A9 X).length:=s I (U1 t)
     go_wp2_with fail
     refine(ytc O.out H.out (g _) (g _) t a9 F).mono ?_
     rintro n m ⟨⟨ac,bg,rfl,aB⟩,T⟩
     have aE:e (Y/ac<=X/ac):=Nat.div_le_div_right t
     have af:=j aB
     clear aB
     go_wp2_with fail
     refine(yzy m X Y ac _ _ bg rfl rfl t (by have:=af.out;omega) (by have:=af.out;have:=aE.out;omega)).mono ?_
     rintro n M ⟨⟨bD,al,bE,bF,a,b,rfl,ae,⟨br,bt,bu,W⟩,⟨bv,Z,bw,bx⟩⟩,rfl⟩
     obtain⟨aV,bH,au,av,bd,hg,aN,_⟩:=ae.num
     obtain⟨aO,aW,aY,a2,a4,ab,Q,aH⟩:=zop (yvw ae.pat) au av hg aN (O.out.up T) (H.out.up T) (zqq K T)
     have bI:=j t
     clear ae au av hg aN T af aE
     have ah:0<Y:=by
      rcases Nat.eq_zero_or_pos Y with D|D
      ·rw[D,M6] at I;simp at I
      ·exact D
     by_cases L:al=0
     ·subst L
      go_wp2_with fail
      refine(yae ab.out Q.out (g _) (g _) F (s (U1 t) F) ah).mono ?_
      rintro n M ⟨⟨bC,aU,rfl,aj,hr⟩,r⟩
      obtain⟨V,J⟩:=C4 (hr.wide (lo':=0) (E _) (g _)) (Q.out.up r)
      clear aj hr
      go_wp2_with fail
      go_roundw
      case rel=>exact GcdAt.intro J.out V.out (Nat.le_of_lt (Nat.mod_lt _ ah)) (by rw[<-P.out,Nat.gcd_comm X Y,Nat.gcd_rec Y X,Nat.gcd_comm]) (s (U1 t) F) (zqq aH.out r)
      case measure=>
       show numOf M aU<numOf wr (.slice an (A9 Y).length ar)
       rw[ztu V.out,ztu H.out]
       exact Nat.mod_lt _ ah
     ·have bQ:(al==0)=false:=by simpa using L
      have bj:=a4.out L
      obtain⟨bO,bi⟩:=bj
      have ay:aV<=X:=s bi t
      have bJ:=j L
      clear L
      go_wp2_with fail
      refine(yhm bD al ab.out Q.out (g _) (g _) br bt bu W aO.out.1 aW.out ay t F).mono ?_
      rintro n M ⟨⟨bR,rfl,aP⟩,r⟩
      obtain⟨a1,J,bp⟩:=G4 (ab.out.up r) (Q.out.up r) aP
      clear aP
      go_wp2_with fail
      refine(yhm bE bF a1.out J.out (g _) (g _) bv Z bw bx aO.out.2 aY.out og t F).mono ?_
      rintro n N ⟨⟨bB,rfl,aQ⟩,U⟩
      obtain⟨aR,bq⟩:=C4 (aQ.wide (lo':=0) (E _) (g _)) (bp.out.up U)
      clear aQ
      go_wp2_with fail
      go_roundw
      case rel=>exact GcdAt.intro bq.out aR.out bd (by rw[a2.out];exact P.out) (s (U1 ay) F) (zqq (zqq aH.out r) U)
      case measure=>
       show numOf N bB<numOf wr (.slice an (A9 Y).length ar)
       rw[ztu aR.out,ztu H.out]
       omega
    ·rcases Nat.eq_zero_or_pos Y with D|D
     ·have be:e (X=G):=by
       have:=P.out
       rw[D,Nat.gcd_zero_right] at this
       exact this
      have aL:(A9 Y).length=0:=by rw[D,M6];rfl
      have a3:=j aL
      rw[a3.out]
      clear aL
      go_wp2_with fail
      refine(zpt O.out F).mono ?_
      rintro n M ⟨⟨v,rfl,hv⟩,r⟩
      go_wp2_with fail
      go_ret
      rw[be.out] at hv
      exact⟨⟨_,rfl,hv.wide K.size (g _)⟩,zqq K r⟩
     ·have bN:(((A9 Y).length:Int)==0)=false:=by
       have:=lim_nil_iff (n:=Y)
       rw[beq_eq_false_iff_ne]
       omega
      have aa:=j I
      go_wp2_with fail
      refine(yae O.out H.out (g _) (g _) F (s (U1 t) F) D).mono ?_
      rintro n M ⟨⟨bC,aU,rfl,aj,hr⟩,r⟩
      obtain⟨aM,V,J⟩:=G4 (Nat.mod_lt X D) (hr.wide (lo':=0) (E _) (g _)) (H.out.up r)
      have bn:e ((A9 (X%Y)).length<=2):=zz1376 aa.out (Nat.le_of_lt aM.out)
      obtain⟨ag,aZ⟩:=C4 (zvi aa.out) (a0.out.below r)
      have aK:e (Nat.gcd Y (X%Y)=G):=by rw[e,<-P.out,Nat.gcd_comm X Y,Nat.gcd_rec Y X,Nat.gcd_comm]
      have bf:e (G<=18446744073709551615):=by
       have bM:=aK.out
       have I:Nat.gcd Y (X%Y)<=Y:=Nat.le_of_dvd D (Nat.gcd_dvd_left _ _)
       have:=ag.out
       unfold e
       omega
      have aI:=zqq K r
      clear aj hr r
      go_wp2_with fail
      refine(zrw J.out aa.out).mono ?_
      rintro n N ⟨rfl,rfl⟩
      go_wp2_with fail
      refine(zrw V.out bn.out).mono ?_
      rintro n N ⟨rfl,rfl⟩
      go_wp2_with fail
      refine(zwn Y (X%Y) _ aZ.out (oh ag) (zkn ag aM)).mono ?_
      rw[aK.out]
      rintro n N ⟨rfl,rfl⟩
      go_wp2_with fail
      refine(ybn _ G bf.out).mono ?_
      rintro n N ⟨⟨v,rfl,hv⟩,U⟩
      go_wp2_with fail
      go_ret
      exact⟨⟨_,rfl,hv.wide aI.size (g _)⟩,zqq aI U⟩
theorem zva {w:i} {x y:Nat} (ha:IsN w 0 w.heap.size k x) (a:IsN w 0 w.heap.size o y) (b:Bru w) (f:(A9 x).length<=4294967296) (g:(A9 y).length<=4294967296):
 p u 185 #[k,o] w fun e w'=>(∃v,e= .returned v/\IsN w' w.heap.size w'.heap.size v (Nat.gcd x y))/\l w.heap.size w w':=by
 by_cases h:(A9 x).length<=2/\(A9 y).length<=2
 ·exact yrj ha a b h.1 h.2
 ·by_cases c:x=1
  ·exact yfv ha a h (.inl c)
  ·by_cases d:y=1
   ·exact yfv ha a h (.inr d)
   ·exact yri ha a b f g h c d
theorem zwf (w:i):p u 123 #[] w (U9 w 0):=by obtain⟨n,l,b,c,d⟩:=K0 w #[.bool false,.slice none 0 0,.slice none 0 0] 37;obtain⟨a,k⟩:=C4 (c) (b);have m:e (w.heap.size+1<=n.heap.size):=j (Nat.le_of_eq d.out.symm);clear c b;obtain⟨q,s,x⟩:=C3 a.out;obtain⟨A,C,E⟩:=F7 a.out;go_in;go_wp2_with fail;clear l;refine(zmt _).mono ?_;rintro z f ⟨⟨v,rfl,hv⟩,G⟩;have h:=j (U0 hv m.out);obtain⟨o,H,rfl,_,_,_⟩:=id hv;obtain⟨r,t,y⟩:=C3 (uR f a);obtain⟨B,D,F⟩:=F7 (uR f a);go_wp2_with fail;refine W5 Tryz.results123 rfl rfl (Row.put3 (uR f a) _ _ _) (znh (n:=0) (d:=1) (by rw[zyl,M6,zka]) (uB f k) (g _) (zxz (S:=F6 (w.heap.size+1) _)) h.out og og)
theorem yei {w:i} {q:Rat} (h:IsQ w (C2 w) v q) (x:Sz q 100000):p u 95 #[v] w (U9 w q):=by
 obtain⟨neg,A,k,B,l,rfl,H,G,F⟩:=G9 h;have g:=j x;clear h x;obtain⟨d,V,b,r,C,I⟩:=zkd w #[.bool neg,.slice A (A9 q.num.natAbs).length k,.slice B (A9 q.den).length l] #[.bool false,.slice none 0 0,.slice none 0 0] 37 37;obtain⟨J,E,c,a,M⟩:=hd5 (IsK.stb.next G.out b) (IsK.stb.next F.out b) (r) (C) (b);have D:e (w.heap.size+2<=d.heap.size):=j (Nat.le_of_eq I.out.symm);clear r C b;obtain⟨N,P,R⟩:=C3 c.out;obtain⟨Y,ab,ae⟩:=C3 a.out;obtain⟨ah,ak,ao⟩:=F7 a.out;go_in;go_wp2_with fail;clear V
 go_region_held3 (fun w'=>w'.cell? ⟨w.heap.size,0,none⟩=some (.bool neg)/\w'.cell? ⟨w.heap.size,1,none⟩=some (.slice A (A9 q.num.natAbs).length k)/\w'.cell? ⟨w.heap.size,2,none⟩=some (.slice B (A9 q.den).length l))
  (first
    |exact⟨N,P,R⟩
    |exact⟨O,Q,S⟩
    |exact⟨n,o,t⟩
    |exact⟨zmj n og,zmj o og,zmj t og⟩)
  (first
    |(go_at_call 155;have hc:=zpt (E9 (uK d.drew J)) (s g.out.1 og);(with_reducible refine hc.mono ?_);clear hc;rintro T f ⟨⟨ay,rfl,y⟩,U⟩;have K:=j (U0 y (uS d.drew D));obtain⟨W,au,rfl,_,_,_⟩:=id y;obtain⟨O,Q,S⟩:=C3 (uR f c);obtain⟨Z,ac,af⟩:=C3 (uR f a);obtain⟨ai,al,aq⟩:=F7 (uR f a))
    |(go_at_call 155;have hc:=zpt (E9 (uK f E)) (s g.out.2 og);(with_reducible refine hc.mono ?_);clear hc;rintro T m ⟨⟨az,rfl,z⟩,U⟩;have L:=j (U0 z (uS f D));obtain⟨X,av,rfl,_,_,_⟩:=id z;obtain⟨n,o,t⟩:=C3 (uR m c);obtain⟨aa,ad,ag⟩:=C3 (uR m a);obtain⟨aj,an,ar⟩:=F7 (uR m a)))
 go_wp2_with fail;refine W5 Tryz.results95 rfl rfl (Row.put3 (uR m a) _ _ _) (znh (by rw[H.out];rfl) (uB m M) og (uF m K) L.out og og)
theorem zsy {w:i} {q:Rat} (h:IsQ w (C2 w) v q):p u 91 #[v] w fun f w'=>f= .returned (.int .i64 (zpn q))/\l w.heap.size w w':=by
 obtain⟨neg,A,m,B,n,rfl,d,c,k⟩:=G9 h;clear h;have o:(A9 q.num.natAbs).length<=9223372036854775807:=(by have:=(E9 c.out).length_le;unfold maxLen at this;omega);by_cases a:q=0
 ·have j:(((A9 q.num.natAbs).length:Int)==0)=true:=(by rw[a];rw[show(0:Rat).num.natAbs=0 from rfl,M6];rfl);have b:e (zpn q=0):=(by unfold e zpn;rw[if_pos a]);clear a;go_in;go_wp2_with fail;go_ret;exact⟨I0 b.out.symm,(z _ _).alloc (g _) _⟩
 ·have j:(((A9 q.num.natAbs).length:Int)==0)=false:=beq_eq_false_iff_ne.2 (by have:=zya a;have:= @lim_nil_iff q.num.natAbs;omega);have b:e (zpn q=if neg then -1 else 1):=(by unfold e zpn;rw[if_neg a,d.out,yhw];by_cases h:q<0<;>simp[h]);clear a;cases neg
  ·go_in;go_wp2_with fail;go_ret;exact⟨I0 b.out.symm,(z _ _).alloc (g _) _⟩
  ·go_in;go_wp2_with fail;go_ret;exact⟨I0 b.out.symm,(z _ _).alloc (g _) _⟩
def Grow (a:Nat->Prop) (w w':i):Nat->Prop:=fun b=>a b\/(w.heap.size<=b/\b<w'.heap.size)
theorem yrr {w w':i} (h:G0 w' (Grow (F6 lo w) w w') v n) (hlo:lo<=w.heap.size) (c:w.heap.size<=w'.heap.size):G0 w' (F6 lo w') v n:=
 IsK.stb.to h (E0 fun b a=>by rcases a with h|h;exact⟨h.1,by have:=h.2;omega⟩;exact⟨by omega,h.2⟩)
theorem yru {w w':i} (h:G0 w' (Grow (C2 w) w w') v n) (a:w.heap.size<=w'.heap.size):G0 w' (C2 w') v n:=
 IsK.stb.to h (E0 fun b c=>by rcases c with h|h;exact Nat.lt_of_lt_of_le h a;exact h.2)
theorem yif {w:i} {x y:Nat} {o:Nat->Prop} (ha:G0 w o k x) (G:∀b,o b->b<w.heap.size) (hg:IsN w 0 w.heap.size a y) (H:(A9 x).length<=4294967296) (I:(A9 y).length<=4294967296) (J:0<y):
 p u 177 #[k,a] w fun m w'=>(∃v,m= .returned v/\G0 w' (Grow o w w') v (x/y))/\l w.heap.size w w':=by
 obtain⟨r,n,t⟩:=G4 ha hg (ha.isL (lo:=0) (hi:=w.heap.size) fun b h=>⟨E _,G b h⟩);obtain⟨A,c,rfl,_,_,_⟩:=ha;obtain⟨B,d,rfl,_,_,_⟩:=hg;by_cases e:y=1
 ·have D:=j e;have hd:decide (y=1)=true:=decide_eq_true e;clear e;go_in;go_wp2_with fail;refine(zra n.out).mono ?_;rw[hd];rintro m f ⟨rfl,rfl⟩;go_wp2_with fail;go_ret;exact⟨⟨_,rfl,by rw[D.out,Nat.div_one];exact IsK.stb.to r.out (E0 fun b h=> .inl h)⟩,z _ _⟩
 ·have hd:decide (y=1)=false:=decide_eq_false e;clear e;go_in;go_wp2_with fail;refine(zra n.out).mono ?_;rw[hd];rintro m f ⟨rfl,rfl⟩;go_wp2_with fail;refine(yae t.out n.out (g _) (g _) H I J).mono ?_;rintro m f ⟨⟨K,L,rfl,q,_⟩,h⟩;obtain⟨C,s⟩:=C4 q h;clear q h;go_wp2_with fail;go_ret;exact⟨⟨_,rfl,C.out.isK fun b e F=> .inr ⟨e,F⟩⟩,s.out⟩
theorem yvt {w:i} {x y:Nat} (ha:G0 w (F6 lo w) k x) (hlo:lo<=w.heap.size) (hg:IsN w 0 w.heap.size a y) (h:(A9 x).length<=4294967296) (m:(A9 y).length<=4294967296) (n:0<y):
 p u 177 #[k,a] w fun b w'=>(∃v,b= .returned v/\G0 w' (F6 lo w') v (x/y))/\l w.heap.size w w':=
 (yif ha yht hg h m n).mono fun b w' ⟨⟨v,f,hv⟩,c⟩=>⟨⟨v,f,yrr hv hlo c.size⟩,c⟩
theorem ztw {w:i} {x y:Nat} (ha:G0 w (C2 w) k x) (hg:IsN w 0 w.heap.size a y) (m:(A9 x).length<=4294967296) (n:(A9 y).length<=4294967296) (o:0<y):
 p u 177 #[k,a] w fun b w'=>(∃v,b= .returned v/\G0 w' (C2 w') v (x/y))/\l w.heap.size w w':=
 (yif ha (fun _ h=>h) hg m n o).mono fun b w' ⟨⟨v,f,hv⟩,c⟩=>⟨⟨v,f,yru hv c.size⟩,c⟩
theorem zz1392 (w:i) (neg:Bool) (n d:Nat) (l:Bru w) (F:n≠0) (D:d≠0) (E:n<18446744073709551616) (hd:d<18446744073709551616):
 p u 184 #[.bool neg,.int .u64 (n:Int),.int .u64 (d:Int)] w (U9 w (mkRat (sg neg n) d)):=by
 obtain⟨g,G,o,t,z⟩:=K0 w #[.bool false,.slice none 0 0,.slice none 0 0] 37;obtain⟨b,h⟩:=C4 (t) (o);have v:e (w.heap.size+1<=g.heap.size):=j (Nat.le_of_eq z.out.symm);clear t o;obtain⟨P,S,V⟩:=C3 b.out;obtain⟨Y,ab,ae⟩:=F7 b.out;have x:=j (Bru.next l (h.out));obtain⟨a,c⟩:=nm (Nat.gcd n d);have q:=j (zvq (neg:=neg) F D);rw[<-c] at q;have ai:1<=(a:Int):=(by have:=Nat.gcd_pos_of_pos_left d (by omega:0<n);omega);have y:=j c;have ak:n/a<=n:=Nat.div_le_self _ _;have al:d/a<=d:=Nat.div_le_self _ _;clear c l;go_in;go_wp2_with fail;clear G;refine(zwn n d _ x.out E hd).mono ?_;rw[<-y.out];rintro k f ⟨rfl,rfl⟩;go_wp2_with fail;have ah:¬(a:Int)=0:=og;have aj:¬a=0:=og;have H:0<=(n:Int)/(a:Int):=Int.ediv_nonneg og og;have I:0<=(d:Int)/(a:Int):=Int.ediv_nonneg og og;have J:(n:Int)/(a:Int)<=18446744073709551615:=(by rw[<-Int.natCast_ediv];omega);have K:(d:Int)/(a:Int)<=18446744073709551615:=(by rw[<-Int.natCast_ediv];omega);have L:IntKind.u64.wrap ((n:Int)/(a:Int))=(n:Int)/(a:Int):=IntWalk.u64_in _ og;have M:IntKind.u64.wrap ((d:Int)/(a:Int))=(d:Int)/(a:Int):=IntWalk.u64_in _ og
 go_region_held3 (fun w'=>True)
  (trivial)
  (first
    |(go_at_call 197;have hc:=ybm g.drew ((n:Int)/(a:Int)) H J;(with_reducible refine hc.mono ?_);clear hc;rintro k f ⟨⟨an,rfl,r⟩,C⟩;have A:=j (U0 r (uS g.drew v));obtain⟨N,L,rfl,_,_,_⟩:=id r;obtain⟨Q,T,W⟩:=C3 (uR f b);obtain⟨Z,ac,af⟩:=F7 (uR f b))
    |(go_at_call 197;have hc:=ybm f ((d:Int)/(a:Int)) I K;(with_reducible refine hc.mono ?_);clear hc;rintro k m ⟨⟨ao,rfl,s⟩,C⟩;have B:=j (U0 s (uS f v));obtain⟨O,M,rfl,_,_,_⟩:=id s;obtain⟨R,U,X⟩:=C3 (uR m b);obtain⟨aa,ad,ag⟩:=F7 (uR m b)))
 go_wp2_with fail;refine W5 Tryz.results184 rfl rfl (Row.put3 (uR m b) _ _ _) (znh (by rw[show((n:Int)/(a:Int)).toNat=n/a from by rw[<-Int.natCast_ediv];rfl,show((d:Int)/(a:Int)).toNat=d/a from by rw[<-Int.natCast_ediv];rfl];exact q.out) (uB m h) og (uF m A) B.out og og)
theorem below_trans' {w:i} (h:l w.heap.size w f) (a:l f.heap.size f m):l w.heap.size w m:=h.trans (a.mono h.size)
end Go.Proofs.YtdgilbgdkmhcmaaGreatDoor
