/-
 The contract of package long's binary:the greatest common divisor of two words.
-/
import Derived.Test.YtlhhbccgfkhflaaGreatDoorPvv04
import Derived.IntWalk
import Derived.Laws.EntriesVeiled
namespace Go.Proofs.YtlhhbccgfkhflaaGreatDoor
open Go.RowKit
set_option linter.unusedVariables false
set_option maxRecDepth 100000
set_option maxHeartbeats 8000000
open _root_.Go.Lib renaming hid → f
open _root_.Nat renaming le_refl → g, lt_or_ge → o, lt_of_le_of_lt → u, mul_le_mul_right → m, le_of_lt_succ → q
open _root_.Go.World renaming size_alloc → l
open _root_.Go.Proofs.Tryz renaming prog → i
variable {P V Y c' r : Int} {S T c hi p k lo' n t top : Nat} {j s : Value}
theorem ymo {x a:Nat} (h:x=2^k*(2*a+1)):(x:Int)/2^k=((2*a+1:Nat):Int):=by have:=zz1411 h;rw[<-this];simp
theorem yqb (a b:Nat) (w:World) (r:Bru w) (ha:1<=a) (ac:1<=b) (x:a<18446744073709551616) (y:b<18446744073709551616):
 Calls i 179 #[.int .u64 (a:Int),.int .u64 (b:Int)] w fun c w'=>c= .returned (.int .u64 (Nat.gcd a b:Nat))/\w=w':=by
 have Z:((a:Int)==0)=false:=beq_eq_false_iff_ne.2 og;have aa:((b:Int)==0)=false:=beq_eq_false_iff_ne.2 og;have g:=f r;clear r;have W:=f (bits_or_u64_nat a b x y);have G:Hid (a|||b<18446744073709551616/\a|||b≠0):=⟨Nat.or_lt_two_pow (n:=64) og og,by have:=Nat.left_le_or (n:=a) (m:=b);omega⟩;have U:Hid (Nat.gcd a b<=a):=Nat.le_of_dvd og (Nat.gcd_dvd_left a b);go_in;go_wp2_with fail;rw[W.out];obtain⟨k,an,ae,F,hc⟩:=yee (a|||b) w g.out G.out.2 G.out.1;have j:=f F;clear F;refine hc.mono ?_;clear hc;rintro c J ⟨rfl,rfl⟩;go_wp2_with fail;obtain⟨al,I,af,e,z⟩:=yee a w g.out og x;obtain⟨l,X⟩:=C5 e (ymo e);have ah:=yjv e;clear e;refine z.mono ?_;clear z;rintro c J ⟨rfl,rfl⟩;go_wp2_with fail;rw[X.out];have t:(2*I+1)%2=1:=og;obtain⟨K,hst⟩:=C5 t (ypz j.out l.out);clear t l j;generalize s:2*I+1=C at*;have Y:=f s;have ab:1<=C:=og;clear s;go_loop [0,1] (fun s0 h=>∃(A B:Nat),s0= .int .u64 (A:Int)/\h= .int .u64 (B:Int)/\1<=A/\A<18446744073709551616/\B<18446744073709551616/\Hid (A%2=1/\Nat.gcd A B=Nat.gcd C b)) (fun s0 h=>(intOf s0).toNat+(intOf h).toNat);case atStart=>exact⟨C,b,rfl,rfl,by omega,by omega,y,K.out,rfl⟩
 case round=>
  obtain⟨A,B,rfl,rfl,P,Q,R,hrel⟩:=hrel;rcases Nat.eq_zero_or_pos B with q|q
  ·subst q;have S:Hid (A=Nat.gcd C b):=(by have:=hrel.out.2;rw[Nat.gcd_zero_right] at this;exact this);have hfin:Hid (IntKind.u64.wrap ((A:Int)*2^k)=((Nat.gcd a b:Nat):Int)):=(by unfold Hid;have p:=hst.out;rw[<-S.out,Nat.mul_comm] at p;have O:((A:Int)*2^k)=((A*2^k:Nat):Int):=(by simp);rw[O,<-p,IntKind.wrap_u64];have:=U.out;omega);go_wp2;go_ret;exact⟨J0 hfin.out,rfl⟩
  ·have ag:((B:Int) !=0)=true:=(by rw[bne_iff_ne];omega);go_wp2_with fail;obtain⟨ak,n,ad,d,E⟩:=yee B w g.out og R;have H:=ymo d;have ai:=yjv d;obtain⟨m,N⟩:=C5 (yqa hrel.out.1 d hrel.out.2) H;clear H d;refine E.mono ?_;clear E;rintro c J ⟨rfl,rfl⟩;have aj:=N.out;generalize hD:2*n+1=D at*;have L:=f hD;clear hD;have u:1<=D/\D%2=1:=oh L;obtain⟨u,v⟩:=u;have M:=f v;clear v;rcases o D A with V|T
   ·go_wp2;go_round;(case rel=>exact⟨D,A-D,rfl,by go_num,by omega,by omega,by omega,M.out,m.out.1 V⟩);case measure=>simp[intOf];omega
   ·go_wp2;go_round;(case rel=>exact⟨A,D-A,rfl,by go_num,P,Q,by omega,hrel.out.1,m.out.2 T⟩);case measure=>simp[intOf];omega
theorem zxi (a b:Nat) (w:World) (g:Bru w) (j:a<18446744073709551616) (k:b<18446744073709551616):
 Calls i 179 #[.int .u64 (a:Int),.int .u64 (b:Int)] w fun h w'=>h= .returned (.int .u64 (Nat.gcd a b:Nat))/\w=w':=by
 rcases Nat.eq_zero_or_pos a with d|d
 ·subst d;have c:=f (Nat.gcd_zero_left b);clear g;go_in;go_wp2;go_ret;exact⟨J0 (by rw[c.out]),rfl⟩
 ·rcases Nat.eq_zero_or_pos b with e|e
  ·subst e;have c:=f (Nat.gcd_zero_right a);have l:((a:Int)==0)=false:=beq_eq_false_iff_ne.2 og;clear g;go_in;go_wp2;go_ret;exact⟨J0 (by rw[c.out]),rfl⟩
  ·exact yqb a b w g d e j k
theorem zsk {w:World} {x lo:Nat} (ha:IsN w lo hi j x) (D:(A9 x).length<=2):
 Calls i 180 #[j] w fun r w'=>r= .returned (.int .u64 (x:Int))/\w=w':=by
 obtain⟨A,c,rfl,_,_,t⟩:=ha;generalize q:A9 x=a at*;have f:Hid (Lo a/\val a=x):=(by rw[Hid,<-q];exact⟨M4 x,R7 x⟩);clear q;have u:Hid (∀k,1<=k->val (a.drop k)<=999999999):=(by intro k e;have h:=zmf (zvv f.out.1 k);have s:pw (a.drop k).length<=pw 1:=zwi (by rw[List.length_drop];omega);rw[zur] at s;omega);go_in;go_wp2;go_loop [3,4] (fun n m=>∃(k d:Nat),k<=a.length/\n= .int .u64 (d:Int)/\m= .int .i64 ((k:Int)-1)/\Hid (d=val (a.drop k))) (fun _ m=>((intOf m)+1).toNat);case atStart=>exact⟨a.length,0,g _,rfl,rfl,by rw[Hid,List.drop_length];rfl⟩
 case round=>
  obtain⟨k,d,e,rfl,rfl,l⟩:=hrel;rcases k with _|k
  ·have hfin:Hid (d=x):=(by have:=l.out;rw[List.drop_zero,f.out.2] at this;exact this);go_wp2;go_ret;exact⟨J0 (by rw[hfin.out]),rfl⟩
  ·have p:((k+1:Nat):Int)-1=(k:Int):=og;rw[p];clear p;obtain⟨b,off,rfl,_,_,o⟩:=t (M5 (j:=k) e);obtain⟨y,v,E,F,B⟩:=W4 (j:=k) f.out.1 o e;clear o;have C:d<=999999999:=(by have:=l.out;have:=u.out (k+1) og;omega);go_wp2;go_round;(case rel=>refine⟨k,d*1000000000+y.toNat,by omega,by go_num,by go_num,?_⟩;have z:=zsj (l:=a) (k:=k) e;have:=l.out;have:=v.out;unfold Hid;omega);case measure=>simp[intOf]
theorem zlf {a b k:Int} (c:0<=k) (h:a<=b):k*a<=k*b:=Int.mul_le_mul_of_nonneg_left h c
structure LI (e B0:Nat) (d b0 a b w x y z:Int):Prop where
 ea:a=w*d+x*b0
 eb:b=y*d+z*b0
 pat:(1<=w/\x<=0/\y<=0/\1<=z/\w*z-x*y=1)\/(w<=0/\1<=x/\1<=y/\z<=-1/\w*z-x*y= -1)
 aw:0<=a+w
 ax:0<=a+x
 by_:0<=b+y
 bz:0<=b+z
 num:∃A B:Nat,(A:Int)=w*e+x*B0/\(B:Int)=y*e+z*B0/\B<=A/\Nat.gcd A B=Nat.gcd e B0/\(x≠0->B<A/\A<=B0)/\(x=0->A=e/\B=B0)
theorem LI.start {e B0:Nat} {d b0:Int} (ha:0<=d) (a:0<=b0) (h:B0<=e):LI e B0 d b0 d b0 1 0 0 1:=
 ⟨by omega,by omega,.inl ⟨by omega,by omega,by omega,by omega,by omega⟩,by omega,by omega,by omega,by omega,⟨e,B0,by omega,by omega,h,rfl,fun h=>absurd rfl h,fun _=>⟨rfl,rfl⟩⟩⟩
section
variable {e B0 : Nat} {d b0 a b w x y z : Int}
theorem LI.inv (h:LI e B0 d b0 a b w x y z):0<=a/\0<=b/\
 ((1<=w/\x<=0/\y<=0/\1<=z/\d=z*a-x*b/\b0=w*b-y*a)\/(w<=0/\1<=x/\1<=y/\z<=0/\d=x*b-z*a/\b0=y*a-w*b)):=by
 have m:=h.aw;have n:=h.ax;have o:=h.by_;have p:=h.bz;have f:=h.ea;have g:=h.eb;rcases h.pat with⟨i,j,k,l,c⟩|⟨i,j,k,l,c⟩
 ·refine⟨by omega,by omega,.inl ⟨i,j,k,l,?_,?_⟩⟩
  ·have:z*a-x*b=(w*z-x*y)*d:=(by rw[f,g];grind);rw[this,c];omega
  ·have:w*b-y*a=(w*z-x*y)*b0:=(by rw[f,g];grind);rw[this,c];omega
 ·refine⟨by omega,by omega,.inr ⟨i,j,k,by omega,?_,?_⟩⟩
  ·have:x*b-z*a= -(w*z-x*y)*d:=(by rw[f,g];grind);rw[this,c];omega
  ·have:y*a-w*b= -(w*z-x*y)*b0:=(by rw[f,g];grind);rw[this,c];omega
theorem LI.bounds (h:LI e B0 d b0 a b w x y z) (r:d<=999999999999999999) (s:b0<=999999999999999999):0<=a/\a<=999999999999999999/\0<=b/\b<=999999999999999999:=by
 obtain⟨ha,c,q⟩:=h.inv;rcases q with⟨i,j,k,l,m,n⟩|⟨i,j,k,l,m,n⟩
 ·have o:=Int.mul_le_mul_of_nonneg_right l ha;have p:=Int.mul_le_mul_of_nonneg_right i c;have f:=Int.mul_nonneg (show 0<=-x by omega) c;have g:=Int.mul_nonneg (show 0<=-y by omega) ha;rw[Int.neg_mul] at f g;omega
 ·have o:=Int.mul_le_mul_of_nonneg_right j c;have p:=Int.mul_le_mul_of_nonneg_right k ha;have f:=Int.mul_nonneg (show 0<=-z by omega) ha;have g:=Int.mul_nonneg (show 0<=-w by omega) c;rw[Int.neg_mul] at f g;omega
theorem LI.fits (h:LI e B0 d b0 a b w x y z) (o:d<=999999999999999999) (p:b0<=999999999999999999) (L: -999999999<=w/\w<=999999999) (M: -999999999<=x/\x<=999999999) (N: -999999999<=y/\y<=999999999) (O: -999999999<=z/\z<=999999999)
 {q:Int} (i:0<=q) (r:q<=a+w) (s:q<=a+x) (D:q*(b+y)<=a+w):
 -2000000000000000000<=q*y/\q*y<=2000000000000000000/\-2000000000000000000<=q*z/\q*z<=2000000000000000000/\0<=q*b/\q*b<=4000000000000000000:=by
 obtain⟨I,_⟩:=h.bounds o p;have J:=h.bounds o p;obtain⟨ha,g,C⟩:=h.inv;have K:=Int.mul_nonneg i g;rw[Int.mul_add] at D;have A9:∀{u v:Int},0<=u->u<=999999999->0<=v->v<=999999999->u*v<=999999998000000001:=(by intro u v f j c k;have:=Int.mul_le_mul j k c (by omega:(0:Int)<=999999999);omega);rcases C with⟨E,F,G,H,t,A⟩|⟨E,F,G,H,t,A⟩
 ·have f:=Int.mul_le_mul_of_nonneg_right r (show 0<=-y by omega);have j:=Int.mul_nonneg i (show 0<=-y by omega);have c:=Int.mul_le_mul_of_nonneg_right s (show 0<=z by omega);have k:=Int.mul_nonneg i (show 0<=z by omega);have l:=A9 (u:=w) (v:= -y) og og og og;have B:=Int.mul_nonneg (show 0<=w by omega) g;have m:=Int.mul_nonneg (show 0<=-x by omega) g;have n:=Int.mul_nonneg (show 0<=-x by omega) (show 0<=z by omega);simp only[Int.add_mul,Int.mul_neg,Int.neg_mul] at f j c l m n;rw[Int.mul_comm a y] at f;rw[Int.mul_comm a z] at c;omega
 ·have f:=Int.mul_le_mul_of_nonneg_right r (show 0<=y by omega);have j:=Int.mul_nonneg i (show 0<=y by omega);have c:=Int.mul_le_mul_of_nonneg_right s (show 0<=-z by omega);have k:=Int.mul_nonneg i (show 0<=-z by omega);have l:=A9 (u:=x) (v:= -z) og og og og;have B:=Int.mul_nonneg (show 0<=x by omega) g;have m:=Int.mul_nonneg (show 0<=-w by omega) g;have n:=Int.mul_nonneg (show 0<=-w by omega) (show 0<=y by omega);simp only[Int.add_mul,Int.mul_neg,Int.neg_mul] at f c k l m n;rw[Int.mul_comm a y] at f;rw[Int.mul_comm a z] at c;omega
theorem LI.exact (h:LI e B0 d b0 a b w x y z) (n:0<S) (l:d=(e/S:Nat)) (m:b0=(B0/S:Nat)) {q:Int} (K:0<b+y) (L:0<b+z) (j:q=(a+w)/(b+y)) (o:q=(a+x)/(b+z))
 {A B:Nat} (p:(A:Int)=w*e+x*B0) (r:(B:Int)=y*e+z*B0):0<B/\0<=q/\q*B<=A/\(A:Int)<(q+1)*B:=by
 have g:0<=q:=(by rw[j];exact Int.ediv_nonneg h.aw og);have s:q*(b+y)<=a+w:=(by rw[j];exact Int.ediv_mul_le _ og);have t:q*(b+z)<=a+x:=(by rw[o];exact Int.ediv_mul_le _ og);have u:a+w<(q+1)*(b+y):=(by rw[j];exact Int.lt_ediv_add_one_mul_self _ og);have v:a+x<(q+1)*(b+z):=(by rw[o];exact Int.lt_ediv_add_one_mul_self _ og);have c:(0:Int)<S:=og;have lA:d*S<=e:=(by rw[l];have:=Nat.div_mul_le_self e S;exact_mod_cast this);have lB:b0*S<=B0:=(by rw[m];have:=Nat.div_mul_le_self B0 S;exact_mod_cast this);have i:(e:Int)<(d+1)*S:=(by rw[l];have:=Nat.lt_div_mul_add (a:=e) n;rw[Int.add_mul,Int.one_mul];exact_mod_cast this);have uB:(B0:Int)<(b0+1)*S:=by rw[m];have:=Nat.lt_div_mul_add (a:=B0) n;rw[Int.add_mul,Int.one_mul];exact_mod_cast this
 have key:((a+x)*S<=A/\(A:Int)<(a+w)*S/\(b+y)*S<=B/\(B:Int)<(b+z)*S)\/((a+w)*S<=A/\(A:Int)<(a+x)*S/\(b+z)*S<=B/\(B:Int)<(b+y)*S):=by
  rw[p,r,h.ea,h.eb];rcases h.pat with⟨T,U,V,W,_⟩|⟨T,U,V,W,_⟩
  ·left;have C:=zlf (show 0<=w by omega) lA;have D:=zlf (show 0<=-x by omega) (Int.le_of_lt uB);have E:=zlf (show 0<=w-1 by omega) (Int.le_of_lt i);have F:=zlf (show 0<=-x by omega) lB;have G:=zlf (show 0<=-y by omega) (Int.le_of_lt i);have g6:=zlf (show 0<=z by omega) lB;have H:=zlf (show 0<=z-1 by omega) (Int.le_of_lt uB);have I:=zlf (show 0<=-y by omega) lA;refine⟨by grind,by grind,by grind,by grind⟩
  ·right;have C:=zlf (show 0<=-w by omega) (Int.le_of_lt i);have D:=zlf (show 0<=x by omega) lB;have E:=zlf (show 0<=-w by omega) lA;have F:=zlf (show 0<=x-1 by omega) (Int.le_of_lt uB);have G:=zlf (show 0<=y by omega) lA;have g6:=zlf (show 0<=-z by omega) (Int.le_of_lt uB);have H:=zlf (show 0<=y-1 by omega) (Int.le_of_lt i);have I:=zlf (show 0<=-z by omega) lB;refine⟨by grind,by grind,by grind,by grind⟩
 rcases key with⟨M,N,f,k⟩|⟨M,N,f,k⟩
 ·have J:(0:Int)<B:=Int.lt_of_lt_of_le (Int.mul_pos K c) f;have O:=zlf g (Int.le_of_lt k);have P:=Int.mul_le_mul_of_nonneg_right t (Int.le_of_lt c);have Q:=zlf (show 0<=q+1 by omega) f;have R:=Int.mul_le_mul_of_nonneg_right (Int.le_of_lt u) (Int.le_of_lt c);refine⟨by omega,g,by grind,by grind⟩
 ·have J:(0:Int)<B:=Int.lt_of_lt_of_le (Int.mul_pos L c) f;have O:=zlf g (Int.le_of_lt k);have P:=Int.mul_le_mul_of_nonneg_right s (Int.le_of_lt c);have Q:=zlf (show 0<=q+1 by omega) f;have R:=Int.mul_le_mul_of_nonneg_right (Int.le_of_lt v) (Int.le_of_lt c);refine⟨by omega,g,by grind,by grind⟩
theorem LI.step (h:LI e B0 d b0 a b w x y z) (I:0<S) (G:d=(e/S:Nat)) (H:b0=(B0/S:Nat)) {q:Int} (M:0<b+y) (N:0<b+z) (t:q=(a+w)/(b+y)) (u:q=(a+x)/(b+z)):
 LI e B0 d b0 b (a-q*b) y z (w-q*y) (x-q*z):=by
 obtain⟨A,B,p,j,R,hg,v,L⟩:=h.num;obtain⟨r,l,O,P⟩:=h.exact I G H M N t u p j
 have s:1<=q:=by
  rcases Int.lt_or_le q 1 with k|k
  ·have:q=0:=og;subst this;omega
  ·exact k
 obtain⟨f,rfl⟩:=Int.eq_ofNat_of_zero_le l;have C:f*B<=A:=(by exact_mod_cast O);have Q:A<(f+1)*B:=(by exact_mod_cast P);have D:(f:Int)*(b+y)<=a+w:=(by rw[t];exact Int.ediv_mul_le _ og);have E:(f:Int)*(b+z)<=a+x:=by rw[u];exact Int.ediv_mul_le _ og
 have K:A/B=f:=by
  apply Nat.div_eq_of_lt_le
  ·exact C
  ·exact Q
 have J:A%B=A-f*B:=(by rw[Nat.mod_eq_sub_mul_div,K,Nat.mul_comm]);refine⟨h.eb,?_,?_,by omega,by omega,?_,?_,⟨B,A%B,j,?_,Nat.le_of_lt (Nat.mod_lt _ r),?_,fun _=>⟨Nat.mod_lt _ r,?_⟩,fun k=> ?_⟩⟩
 ·rw[h.ea,h.eb];grind
 ·rcases h.pat with⟨m,n,g,i,o⟩|⟨m,n,g,i,o⟩
  ·have c:=Int.mul_nonneg l (show 0<=-y by omega);have F:=Int.mul_le_mul_of_nonneg_right s (show 0<=z by omega);rw[Int.mul_neg] at c;exact .inr ⟨g,i,by omega,by omega,by grind⟩
  ·have c:=Int.mul_nonneg l (show 0<=-z by omega);have F:=Int.mul_le_mul_of_nonneg_right s (show 0<=y by omega);rw[Int.mul_neg] at c;exact .inl ⟨g,by omega,by omega,by omega,by grind⟩
 ·rw[Int.mul_add] at D;omega
 ·rw[Int.mul_add] at E;omega
 ·rw[J,Int.ofNat_sub C,Int.natCast_mul,p,j];grind
 ·rw[<-hg,Nat.gcd_comm A B,Nat.gcd_rec B A,Nat.gcd_comm]
 ·rcases Int.lt_trichotomy x 0 with c|c|c
  ·have:=v og;omega
  ·have:=L c;omega
  ·have:=v og;omega
 ·rcases h.pat with⟨m,n,g,i,o⟩|⟨m,n,g,i,o⟩<;>omega
end
theorem yjf (P:Program) (w:World) (k:IntKind) (f:Array TypeId) (t:TypeId) (x y z b:Int):∃a,(Builtin.max_ f t #[.int k x,.int k y,.int k z,.int k b]).run P w= .ok (.int k a) w/\x<=a/\y<=a/\z<=a/\b<=a/\(a=x\/a=y\/a=z\/a=b):=by refine⟨_,by simp[Builtin.max_,Builtin.max2];rfl,?_⟩;by_cases c:x<y<;>by_cases d:(if x<y then y else x)<z<;>by_cases e:(if(if x<y then y else x)<z then z else(if x<y then y else x))<b<;>simp[c] at d e⊢<;>simp_all<;>omega
def yes (e B0:Nat) (d b0:Int) (c:Ending):Prop:=∃w x y z a b:Int,c= .returned (.tuple #[.int .i64 w,.int .i64 x,.int .i64 y,.int .i64 z])/\LI e B0 d b0 a b w x y z/\
 (-999999999<=w/\w<=999999999/\-999999999<=x/\x<=999999999)/\(-999999999<=y/\y<=999999999/\-999999999<=z/\z<=999999999)
theorem zz1422 (g:World) (e B0 S:Nat) (d b0:Int) (X:0<S) (m:d=(e/S:Nat)) (n:b0=(B0/S:Nat)) (ac:B0<=e) (E:d<=999999999999999999) (G:b0<=999999999999999999):
 Calls i 191 #[.int .i64 d,.int .i64 b0] g fun U w'=>yes e B0 d b0 U/\g=w':=by
 have Y:0<=d:=(by rw[m];exact Int.natCast_nonneg _);have Z:0<=b0:=(by rw[n];exact Int.natCast_nonneg _);obtain⟨R,T⟩:=C5 m n;clear m n;go_in;go_wp2
 go_loop [0,1,4,5,6,7] (fun sa sb ah ai D aj=>∃a b w x y z:Int,sa= .int .i64 a/\sb= .int .i64 b/\ah= .int .i64 w/\ai= .int .i64 x/\D= .int .i64 y/\aj= .int .i64 z/\
  (-999999999<=w/\w<=999999999/\-999999999<=x/\x<=999999999)/\(-999999999<=y/\y<=999999999/\-999999999<=z/\z<=999999999)/\Hid (LI e B0 d b0 a b w x y z)) (fun _ sb _ _ D _=>(intOf sb+intOf D).toNat)
 case atStart=>exact⟨d,b0,1,0,0,1,rfl,rfl,rfl,rfl,rfl,rfl,by omega,by omega,LI.start Y Z ac⟩
 case round=>
  obtain⟨a,b,w,x,y,z,rfl,rfl,rfl,rfl,rfl,rfl,⟨M,N,O,P⟩,⟨r,s,t,u⟩,hrel⟩:=hrel;obtain⟨av,ay,az,aA⟩:=hrel.out.bounds E G;have j:=hrel.out.aw;have o:=hrel.out.ax;have aB:=hrel.out.by_;have aC:=hrel.out.bz;have hfin:Hid (yes e B0 d b0 (.returned (.tuple #[.int .i64 w,.int .i64 x,.int .i64 y,.int .i64 z]))):=⟨w,x,y,z,a,b,rfl,hrel.out,⟨M,N,O,P⟩,⟨r,s,t,u⟩⟩;rcases Int.lt_or_le 0 (b+y) with p|p
  ·rcases Int.lt_or_le 0 (b+z) with H|H
   ·have F:(b+y !=0)=true:=(by rw[bne_iff_ne];omega);have aa:(b+z !=0)=true:=(by rw[bne_iff_ne];omega);by_cases c:(a+w)/(b+y)=(a+x)/(b+z)
    ·have I:0<=(a+w)/(b+y):=Int.ediv_nonneg j og;have J:(a+w)/(b+y)<=a+w:=Int.ediv_le_self _ j;have q:(a+x)/(b+z)<=a+x:=Int.ediv_le_self _ o;have K:(a+w)/(b+y)*(b+y)<=a+w:=Int.ediv_mul_le _ og;have hst:=f (hrel.out.step X R.out T.out p H rfl c);have ab:((a+w)/(b+y) !=(a+x)/(b+z))=false:=(by simp[c]);rw[<-c] at q;have ak:=f c;clear c;obtain⟨al,an,ao,aq,ar,au⟩:=hrel.out.fits E G ⟨M,N⟩ ⟨O,P⟩ ⟨r,s⟩ ⟨t,u⟩ I J q K;clear K;by_cases L: -999999999<=w-(a+w)/(b+y)*y/\w-(a+w)/(b+y)*y<=999999999/\-999999999<=x-(a+w)/(b+y)*z/\x-(a+w)/(b+y)*z<=999999999
     ·obtain⟨ad,ae,af,ag⟩:=L;obtain⟨l,V,v,A,B,C,k⟩:=yjf i g .i64 #[2,2,2,2] 2 (w-(a+w)/(b+y)*y) (-(w-(a+w)/(b+y)*y)) (x-(a+w)/(b+y)*z) (-(x-(a+w)/(b+y)*z));(have W:l<=999999999:=by rcases k with h|h|h|h<;>omega);clear v A B C k;go_wp2;go_round;(case rel=>exact⟨_,_,_,_,_,_,rfl,rfl,rfl,rfl,rfl,rfl,⟨r,s,t,u⟩,⟨ad,ae,af,ag⟩,hst.out⟩);case measure=>have aE:(a+w)%(b+y)<b+y:=Int.emod_lt_of_pos _ p;have aG:(a+w)%(b+y)=a-(a+w)/(b+y)*b+(w-(a+w)/(b+y)*y):=(by have:=Int.emod_def (a+w) (b+y);rw[this];grind);have aD:0<=(a+w)%(b+y):=Int.emod_nonneg _ og;simp[intOf];omega
     ·obtain⟨l,V,v,A,B,C,k⟩:=yjf i g .i64 #[2,2,2,2] 2 (w-(a+w)/(b+y)*y) (-(w-(a+w)/(b+y)*y)) (x-(a+w)/(b+y)*z) (-(x-(a+w)/(b+y)*z));have W:1000000000<=l:=og;clear v A B C k L;go_wp2;exact bodyPost_ret (v:= .tuple #[.int .i64 w,.int .i64 x,.int .i64 y,.int .i64 z]) (by simp[results,Tryz.results191,go_sem]) rfl ⟨hfin.out,rfl⟩
    ·have ab:((a+w)/(b+y) !=(a+x)/(b+z))=true:=(by simpa using c);have I:0<=(a+w)/(b+y):=Int.ediv_nonneg j og;have J:(a+w)/(b+y)<=a+w:=Int.ediv_le_self _ j;have aH:0<=(a+x)/(b+z):=Int.ediv_nonneg o og;have q:(a+x)/(b+z)<=a+x:=Int.ediv_le_self _ o;clear c;go_wp2;exact bodyPost_ret (v:= .tuple #[.int .i64 w,.int .i64 x,.int .i64 y,.int .i64 z]) (by simp[results,Tryz.results191,go_sem]) rfl ⟨hfin.out,rfl⟩
   ·have Q:b+z=0:=og;have F:(b+y !=0)=true:=(by rw[bne_iff_ne];omega);have aa:(b+z !=0)=false:=(by rw[bne_eq_false_iff_eq];exact Q);clear Q;go_wp2;exact bodyPost_ret (v:= .tuple #[.int .i64 w,.int .i64 x,.int .i64 y,.int .i64 z]) (by simp[results,Tryz.results191,go_sem]) rfl ⟨hfin.out,rfl⟩
  ·have F:(b+y !=0)=false:=(by rw[bne_eq_false_iff_eq];omega);go_wp2;exact bodyPost_ret (v:= .tuple #[.int .i64 w,.int .i64 x,.int .i64 y,.int .i64 z]) (by simp[results,Tryz.results191,go_sem]) rfl ⟨hfin.out,rfl⟩
theorem zz1448 {y:Nat} (g:3<=n) (d:y<pw n):y/pw (n-3)=((A9 y).getD (n-1) 0*1000000000+(A9 y).getD (n-2) 0)*1000000000+(A9 y).getD (n-3) 0:=by obtain⟨a,rfl⟩:∃a,n=a+3:=⟨n-3,by omega⟩;rw[zrv,zrv,zrv];simp only[Nat.add_sub_cancel,show a+3-1=a+2 from by omega,show a+3-2=a+1 from by omega];have b:y/pw (a+1)=y/pw a/1000000000:=(by rw[zkg,Nat.mul_comm,Nat.div_div_eq_div_mul]);have c:y/pw (a+2)=y/pw a/1000000000/1000000000:=(by rw[show a+2=(a+1)+1 from rfl,zkg,Nat.mul_comm,<-Nat.div_div_eq_div_mul,b]);have f:y/pw a<1000000000000000000000000000:=(by rw[Nat.div_lt_iff_lt_mul (znw a)];rw[show a+3=3+a from by omega,zwh] at d;simp only[pw] at d⊢;omega);rw[b,c];clear b c;generalize y/pw a=e at*;omega
def TensAt (top t c:Nat):Prop:=t*c=1000000000/\top*t<1000000000
theorem TensAt.start (h:top<1000000000):TensAt top 1 1000000000:=⟨rfl,by omega⟩
def zqe (y n t:Nat):Nat:=((A9 y).getD (n-1) 0*1000000000+(A9 y).getD (n-2) 0)*t+(A9 y).getD (n-3) 0*t/1000000000
theorem ygk {y:Nat} (j:3<=n) (l:y<pw n) (h:t*c=1000000000):zqe y n t=y/(pw (n-3)*c):=by
 have hc:0<c:=by
  rcases Nat.eq_zero_or_pos c with a|a
  ·subst a;omega
  ·exact a
 have k:0<t:=by
  rcases Nat.eq_zero_or_pos t with a|a
  ·subst a;omega
  ·exact a
 unfold zqe;have e:y/(pw (n-3)*c)=y/pw (n-3)/c:=(Nat.div_div_eq_div_mul _ _ _).symm;rw[e,zz1448 j l,<-h];have f:(A9 y).getD (n-3) 0*t/(t*c)=(A9 y).getD (n-3) 0/c:=(by rw[Nat.mul_comm t c,Nat.mul_div_mul_right _ _ k]);have g:((A9 y).getD (n-1) 0*(t*c)+(A9 y).getD (n-2) 0)*(t*c)+(A9 y).getD (n-3) 0=((A9 y).getD (n-1) 0*(t*c)+(A9 y).getD (n-2) 0)*t*c+(A9 y).getD (n-3) 0:=(by rw[Nat.mul_assoc _ t c]);have i:∀d b:Nat,(d*c+b)/c=d+b/c:=fun d b=>(by rw[Nat.add_comm,Nat.add_mul_div_right _ _ hc,Nat.add_comm]);rw[f,g,i]
theorem ygl {y:Nat} (h:t*c=1000000000) (f:(A9 y).getD (n-1) 0*t<1000000000):(A9 y).getD (n-1) 0*t+t<=1000000000/\t<=1000000000:=by
 have hc:0<c:=by
  rcases Nat.eq_zero_or_pos c with b|b
  ·subst b;omega
  ·exact b
 generalize (A9 y).getD (n-1) 0=d at*
 have a:d<c:=by
  rcases o d c with a|a
  ·exact a
  ·have:=m t a;rw[Nat.mul_comm c t] at this;omega
 have e:=m t a;rw[Nat.mul_comm c t,Nat.succ_eq_add_one,Nat.add_mul,Nat.one_mul] at e;exact⟨by omega,by rw[<-h];exact Nat.le_mul_of_pos_right _ hc⟩
theorem yqf {a b:Nat} (h:a*b<=c):(a:Int)*(b:Int)<=(c:Int):=by rw[<-Int.natCast_mul];omega
theorem zz1455 {a b:Nat} (h:(a:Int)*(b:Int)*10<1000000000):a*b*10<1000000000:=by rw[<-Int.natCast_mul] at h;omega
theorem yfd {a:List Nat} (h:a.getD (n-1) 0*T+T<=1000000000):((a.getD ((n:Int)-1).toNat 0:Nat):Int)*(T:Int)+(T:Int)<=1000000000:=by rw[show((n:Int)-1).toNat=n-1 from by omega,<-Int.natCast_mul];omega
theorem zz1438 (d:1<=top) (i:top*T*10<1000000000) (h:∃t,t<=9/\T=10^t):T*10<1000000000/\(∃t,t<=9/\T*10=10^t)/\top*(T*10)<=999999999:=by
 have g:=m T d;have e:T*10<1000000000:=og;refine⟨e,?_,by rw[<-Nat.mul_assoc];omega⟩;obtain⟨t,f,a⟩:=h;refine⟨t+1,?_,by rw[a,Nat.pow_succ]⟩;rcases o t 9 with b|b
 ·omega
 ·have c:=Nat.pow_le_pow_right (show 0<10 by omega) b;rw[<-a] at c;omega
theorem yvw {x y:Nat} (a:3<=n) (c:x<pw n) (e:y<=x) (w:(A9 x).getD (n-1) 0*T<=999999999) (h:∃t,t<=9/\T=10^t):
 ∃S:Nat,0<S/\zqe x n T=x/S/\zqe y n T=y/S/\x/S<=999999999999999999/\(A9 x).getD (n-1) 0*T+T<=1000000000/\(A9 y).getD (n-1) 0*T+T<=1000000000:=by obtain⟨t,v,o⟩:=h;have b:T*10^(9-t)=1000000000:=(by rw[o,<-Nat.pow_add,show t+(9-t)=9 from by omega]);have s:y<pw n:=u e c;have d:=ygk a c b;have g:=ygk a s b;have k:(A9 y).getD (n-1) 0<=(A9 x).getD (n-1) 0:=(by rw[zrv,zrv];have l:x/pw (n-1)<1000000000:=(by rw[Nat.div_lt_iff_lt_mul (znw _)];rw[show n=(n-1)+1 from by omega,zkg] at c;exact c);have a:y/pw (n-1)<=x/pw (n-1):=Nat.div_le_div_right e;rw[Nat.mod_eq_of_lt l,Nat.mod_eq_of_lt og];exact a);have z:=m T k;have p:=ygl (y:=x) (n:=n) b og;have r:=ygl (y:=y) (n:=n) b og;refine⟨pw (n-3)*10^(9-t),Nat.mul_pos (znw _) (Nat.pow_pos og),d,g,?_,p.1,r.1⟩;rw[<-d];have i:=zpc (M4 x) (n-2);have j:=zpc (M4 x) (n-3);unfold zqe;generalize (A9 x).getD (n-1) 0=u1 at*;generalize (A9 x).getD (n-2) 0=u2 at*;generalize (A9 x).getD (n-3) 0=u3 at*;have f:(u1*1000000000+u2)*T=u1*T*1000000000+u2*T:=(by grind);have A:=m T (q i);have B:=m T (q j);rw[f];omega
theorem ywn {w:World} {y lo d:Nat} (a:Int) (q:0<=a) (u:a<=4294967296) (ha:IsN w lo hi j y) (hc:w.cell? ⟨d,0,none⟩=some j):
 Calls i 199 #[.int .i64 a,.pointer (some ⟨d,0,none⟩)] w fun p w'=>p= .returned (.int .u64 ((A9 y).getD a.toNat 0:Nat))/\w'=w:=by
 have s:=ha.length_le;unfold maxLen at s;obtain⟨A,c,rfl,_,_,r⟩:=ha;obtain⟨k,rfl⟩:=Int.eq_ofNat_of_zero_le q;rw[Int.toNat_natCast];generalize g:A9 y=t at*;have n:=f g;clear g;rcases o k t.length with h|h
 ·obtain⟨b,off,rfl,_,_,e⟩:=r (M5 (j:=k) h);obtain⟨x,l,z,v⟩:=znn (j:=k) e h;have B:x<=999999999:=(by have:=l.out;have:=zpc (M4 y) k;rw[n.out] at this;omega);clear e;go_in;go_wp2;go_ret;exact⟨J0 l.out,rfl⟩
 ·have m:=f (zmj h);go_in;go_wp2;go_ret;exact⟨J0 (by rw[m.out];rfl),rfl⟩
theorem IsN.drewB {w:World} {lo:Nat} {a:Value} {x:Nat} (h:IsN w lo hi a x) (n:Nat):IsN (w.drewN n) lo hi a x:=h
theorem yip {w:World} {y lo o p:Nat} (n t:Int) (ha:IsN w lo hi j y) (Z:hi<=w.heap.size) (ag:3<=n) (ah:n<=4294967296) (aj:1<=t) (aa:t<=1000000000) (H:((A9 y).getD (n-1).toNat 0:Int)*t+t<=1000000000)
 (F:w.cell? ⟨o,0,none⟩=some (.int .i64 n)) (G:w.cell? ⟨p,0,none⟩=some (.int .u64 t)) (U:o<w.heap.size) (V:p<w.heap.size):
 Calls i 198 #[j,.pointer (some ⟨o,0,none⟩),.pointer (some ⟨p,0,none⟩)] w fun m w'=>m= .returned (.int .i64 (zqe y n.toNat t.toNat:Nat))/\Below w.heap.size w w':=by
 have D:=f ha;obtain⟨A,c,rfl,_,_,ae⟩:=ha;have af:=(World.cell?_alloc_lt w (.cells #[.slice A (A9 y).length c] 28) ⟨o,0,none⟩ U).trans F;have ai:=(World.cell?_alloc_lt w (.cells #[.slice A (A9 y).length c] 28) ⟨p,0,none⟩ V).trans G;have E:(w.alloc (.cells #[.slice A (A9 y).length c] 28)).cell? ⟨w.heap.size,0,none⟩=some (.slice A (A9 y).length c):=(by have:=cell_one_new w (.slice A (A9 y).length c) 28 0 _ rfl;rwa[Addr.add_lit] at this);have r:=f (And.intro (D.out.below ((Below.refl _ w).alloc (g _) (.cells #[.slice A (A9 y).length c] 28)) Z) E);clear E F G
 have q:∀(e:Int),0<=e->e<=4294967296->∀k,Calls i 199 #[.int .i64 e,.pointer (some ⟨w.heap.size,0,none⟩)] ((w.alloc (.cells #[.slice A (A9 y).length c] 28)).drewN k) fun m w'=>m= .returned (.int .u64 ((A9 y).getD e.toNat 0:Nat))/\w'=(w.alloc (.cells #[.slice A (A9 y).length c] 28)).drewN k:=
  fun e S T k=>ywn e S T (r.out.1.drewB k) r.out.2
 obtain⟨a,z,u⟩:∃a:Int,a=((A9 y).getD (n-1).toNat 0:Nat)/\_:=⟨_,rfl,q (n-1) og og⟩;obtain⟨b,B,v⟩:∃b:Int,b=((A9 y).getD (n-2).toNat 0:Nat)/\_:=⟨_,rfl,q (n-2) og og⟩;obtain⟨d,C,x⟩:∃d:Int,d=((A9 y).getD (n-3).toNat 0:Nat)/\_:=⟨_,rfl,q (n-3) og og⟩;rw[<-z] at u H;rw[<-B] at v;rw[<-C] at x;have W:=zpc (M4 y) (n-1).toNat;have X:=zpc (M4 y) (n-2).toNat;have Y:=zpc (M4 y) (n-3).toNat;have ab:0<=a:=og;have ac:a<=999999999:=og;have ad:0<=b:=og;have P:b<=999999999:=og;have Q:0<=d:=og;have R:d<=999999999:=og;have ak:0<=(a*1000000000+b)*t:=Int.mul_nonneg og og;have al:(a*1000000000+b)*t<=1000000000000000000:=(by have m:(a*1000000000+b)*t=a*t*1000000000+b*t:=(by grind);have h:=Int.mul_le_mul_of_nonneg_right P (show 0<=t by omega);rw[m];omega);have an:0<=d*t:=Int.mul_nonneg Q og;have ao:d*t<=999999999000000000:=(by have h:=Int.mul_le_mul R aa og (by omega:(0:Int)<=999999999);omega);have hfin:Hid ((a*1000000000+b)*t+d*t/1000000000=((zqe y n.toNat t.toNat:Nat):Int)):=(by obtain⟨l,rfl⟩:=Int.eq_ofNat_of_zero_le (show 0<=n by omega);obtain⟨s,rfl⟩:=Int.eq_ofNat_of_zero_le (show 0<=t by omega);have M:((l:Int)-1).toNat=l-1:=og;have N:((l:Int)-2).toNat=l-2:=og;have O:((l:Int)-3).toNat=l-3:=og;unfold Hid zqe;rw[z,B,C,M,N,O,Int.toNat_natCast,Int.toNat_natCast];simp);obtain⟨I,J,K⟩:=G0 u v x;have L:Hid (∀k,Below w.heap.size w ((w.alloc (.cells #[.slice A (A9 y).length c] 28)).drewN k)):=fun k=>below_drewN ((Below.refl _ w).alloc (g _) _) k;clear q u v x z B C W X Y H r D;go_in;go_wp2;go_quiet ((go_at_call 199;first|(with_reducible exact Calls.quiet_of_same (I.out _))|(with_reducible exact Calls.quiet_of_same (J.out _))|(with_reducible exact Calls.quiet_of_same (K.out _))));go_wp2;go_ret;exact⟨J0 hfin.out,L.out _⟩
def ybz (a:Nat) (w:World):Nat:=match w.cell? ⟨a,0,none⟩ with
 |some (.int _ t)=>1000000000-t.toNat
 |_=>0
theorem yiv {a:Nat} {w:World} {k:IntKind} {t:Int} (h:w.cell? ⟨a,0,none⟩=some (.int k t)):ybz a w=1000000000-t.toNat:=by unfold ybz;rw[h]
def yen (x y:Nat) (a:Ending):Prop:=∃S:Nat,0<S/\a= .returned (.tuple #[.int .i64 (x/S:Nat),.int .i64 (y/S:Nat)])/\x/S<=999999999999999999
theorem yvy {w:World} {x y lo:Nat} (ha:IsN w lo hi j x) (R:IsN w lo' p s y) (Y:hi<=w.heap.size) (aG:p<=w.heap.size) (aH:y<=x) (r:3<=(A9 x).length) (aO:(A9 x).length<=4294967296):
 Calls i 192 #[j,s] w fun G w'=>yen x y G/\Below w.heap.size w w':=by
 obtain⟨M,ai⟩:=C5 ha R;obtain⟨A,c,rfl,_,_,H⟩:=ha;obtain⟨B,d,rfl,_,_,aR⟩:=R;obtain⟨n,D⟩:=nm ((A9 x).length);have ag:Hid (x<pw n):=(by rw[Hid,D];exact zqt x);have ae:1<=(A9 x).getD (n-1) 0:=(by rw[zrv];have av:pw (n-1)<=x:=lim_len_lt.1 og;have ay:x<pw (n-1)*1000000000:=(by have:=ag.out;rw[show n=(n-1)+1 from by omega,zkg,Nat.mul_comm] at this;exact this);have r:x/pw (n-1)<1000000000:=(by rw[Nat.div_lt_iff_lt_mul (znw _),Nat.mul_comm];exact ay);rw[Nat.mod_eq_of_lt r];exact Nat.div_pos av (znw _));have aN:=zpc (M4 x) (n-1);obtain⟨top,F⟩:=nm ((A9 x).getD (n-1) 0);obtain⟨b,off,rfl,aV,e,_⟩:=H (M5 (j:=n-1) og);have X:∀wr,Below w.heap.size w wr->wr.cell? ⟨b,off+(n-1),none⟩=some (.int .u32 (top:Int)):=(by intro wr a;rw[F];exact(H.below a Y).at_ _ _ (zpl og));obtain⟨ak,aP,au⟩:=G0 X D F;rw[<-D] at r aO M⊢;rw[<-F] at ae aN;clear X D F H;have I:=cell_one_new w (.int .i64 (n:Int)) 3 0 _ rfl;have z:=cell_one_new (w.alloc (.cells #[.int .i64 (n:Int)] 3)) (.int .u64 1) 170 0 _ rfl;rw[Addr.add_lit,Nat.add_zero] at I z;rw[l] at z;have W:=(World.cell?_alloc_lt (w.alloc (.cells #[.int .i64 (n:Int)] 3)) (.cells #[.int .u64 1] 170) ⟨w.heap.size,0,none⟩ (by rw[l];show w.heap.size<_;omega)).trans I;have U:=(((Below.refl w.heap.size w).alloc (g _) (.cells #[.int .i64 (n:Int)] 3)).alloc (by rw[l];omega) (.cells #[.int .u64 1] 170));obtain⟨aj,ah⟩:=C5 U (And.intro W z);have ac:(((w.alloc (.cells #[.int .i64 (n:Int)] 3)).alloc (.cells #[.int .u64 1] 170)).heap.size)=w.heap.size+2:=(by rw[l,l]);have ar:=f ac;have aD:∀wr:World,(∃t,Row wr (w.heap.size+1) 170 t)->wr.frozen? ⟨w.heap.size+1,0,none⟩=false:=fun wr ⟨t,h⟩=>h.frozen 0;have ab:Row ((w.alloc (.cells #[.int .i64 (n:Int)] 3)).alloc (.cells #[.int .u64 1] 170)) (w.heap.size+1) 170 [.int .u64 1]:=(by have:=heap_alloc_new (w.alloc (.cells #[.int .i64 (n:Int)] 3)) (.cells #[.int .u64 1] 170);rw[l] at this;exact this);have aq:=f ab;clear I W z U ac ab aD;go_in;go_wp2;go_loopw [] (fun wr=>∃T:Nat,Row wr (w.heap.size+1) 170 [.int .u64 (T:Int)]/\wr.cell? ⟨w.heap.size,0,none⟩=some (.int .i64 (n:Int))/\Below w.heap.size w wr/\Hid (wr.heap.size=w.heap.size+2)/\1<=T/\T<=1000000000/\top*T<=999999999/\Hid (∃t,t<=9/\T=10^t)) (fun wr=>ybz (w.heap.size+1) wr);case atStart=>exact⟨1,aq.out,ah.out.1,aj.out,ar.out,by omega,by omega,by omega,0,by omega,rfl⟩
 case round=>
  obtain⟨T,hr,C,a,K,aS,aU,ad,hrel⟩:=hrel;have k:=hr.cell 0;have aC:=hr.frozen 0;have aB:=ak.out wr a;simp only[List.getElem?_cons_zero] at k;have aX:0<=(top:Int)*(T:Int):=Int.mul_nonneg og og;have aY:(top:Int)*(T:Int)<=999999999:=yqf ad;rcases Int.lt_or_le ((top:Int)*T*10) 1000000000 with aI|aE
  ·have E:=zz1438 ae (zz1455 aI) hrel.out;have aT:=E.1;have aK:=f E.2.1;have aM:=f E.2.2;clear E;go_wp2;go_quiet (fail);go_wp2;go_roundw
   case rel=>
    refine⟨T*10,?_,?_,below_drewN a _|>.setCell (by show w.heap.size<=w.heap.size+1;omega) _,?_,by omega,by omega,aM.out,aK.out⟩
    ·have:=(hr.drewN nq).set_ 0 (.int .u64 ((T:Int)*10));rw[Int.natCast_mul];exact this
    ·rw[World.cell?_setCell_other _ _ _ _ (by simp)];exact C
    ·have:=K.out;simpa[Hid,World.setCell] using this
   case measure=>rw[yiv k,yiv (k:= .u64) (t:=(T:Int)*10) (World.cell?_setCell_same' _ _ _ (by show(wr.cell? _).isSome=true;rw[k];rfl))];omega
  ·obtain⟨S,Q,N,O,af,Z,aa⟩:=yvw r ag.out aH (by rw[<-au.out];exact ad) hrel.out;have al:Hid (yen x y (.returned (.tuple #[.int .i64 (zqe x n T:Nat),.int .i64 (zqe y n T:Nat)]))):=⟨S,Q,by rw[N,O],af⟩;obtain⟨an,ao⟩:=C5 (yfd Z) (yfd aa);clear N O af Z aa Q hrel;have aQ:=f (And.intro C (And.intro k a));have aW:decide ((top:Int)*(T:Int)*10<1000000000)=false:=decide_eq_false og;go_wp2_with fail;go_quiet (fail);clear aE;go_wp2_with fail;have v:Below w.heap.size w (wr.drewN nq):=below_drewN a nq;have a0:(wr.drewN nq).heap.size=w.heap.size+2:=K.out;have J:(wr.drewN nq).cell? ⟨w.heap.size,0,none⟩=some (.int .i64 (n:Int)):=C;have L:(wr.drewN nq).cell? ⟨w.heap.size+1,0,none⟩=some (.int .u64 (T:Int)):=k;clear C k aB aC hr a K;generalize wr.drewN nq=a3 at*;obtain⟨P,az⟩:=C5 (M.out.below v Y) (ai.out.below v aG);refine(yip (n:Int) (T:Int) P.out og og og og og an.out J L og og).mono ?_;rw[Int.toNat_natCast,Int.toNat_natCast];rintro G a1 ⟨rfl,e⟩;have V:=v.trans (e.mono v.size);have aJ:=(e.cell (p:=⟨w.heap.size,0,none⟩) (by show w.heap.size<_;omega)).trans J;have aL:=(e.cell (p:=⟨w.heap.size+1,0,none⟩) (by show w.heap.size+1<_;omega)).trans L;have aZ:=e.size;clear J L P;go_wp2_with fail;refine(yip (n:Int) (T:Int) (az.out.below e og) og og og og og ao.out aJ aL og og).mono ?_;rw[Int.toNat_natCast,Int.toNat_natCast];rintro G a2 ⟨rfl,aA⟩;go_wp2_with fail;go_ret2;exact⟨al.out,V.trans (aA.mono V.size)⟩
theorem yxa {A B X x y c:Int} (h:V+c*P=X*A+Y*B) (hr:r=X*x+c+Y*y-c'*1000000000):V+P*r+c'*(1000000000*P)=X*(A+P*x)+Y*(B+P*y):=by subst hr;grind
theorem zuj {a b d:List Nat} {X x y c:Int} (g:k<d.length) (j:x=(a.getD k 0:Nat)) (l:y=(b.getD k 0:Nat)) (hr:r=X*x+c+Y*y-c'*1000000000) (i:0<=r)
 (h:(val (d.take k):Int)+c*pw k=X*val (a.take k)+Y*val (b.take k)):(val ((d.set k r.toNat).take (k+1)):Int)+c'*pw (k+1)=X*val (a.take (k+1))+Y*val (b.take (k+1)):=by have e:=yxa h hr;rw[zuy g,val_take_succ' a,val_take_succ' b,zkg];have f:((r.toNat:Nat):Int)=r:=Int.toNat_of_nonneg i;simp only[Int.natCast_add,Int.natCast_mul,f,<-j,<-l];exact e
theorem ywz {c:Int} {R:Nat} (e:0<=V) (d:V<P) (b:(R:Int)<P) (h:V+c*P=R):V=R:=by
 have a:0<P:=og;rcases Int.lt_trichotomy c 0 with hc|hc|hc
 ·have:=Int.mul_le_mul_of_nonneg_right (show c<=-1 by omega) (Int.le_of_lt a);rw[Int.neg_mul,Int.one_mul] at this;omega
 ·subst hc;omega
 ·have:=Int.mul_le_mul_of_nonneg_right (show 1<=c by omega) (Int.le_of_lt a);rw[Int.one_mul] at this;omega
theorem yjj {X x:Int} (f: -999999999<=X) (d:X<=999999999) (b:0<=x) (c:x<=999999999): -999999998000000001<=X*x/\X*x<=999999998000000001/\(0<=X->0<=X*x)/\(X<=0->X*x<=0):=by
 rcases Int.lt_or_le X 0 with h|h
 ·have a:=zpq (x:= -X) (y:=x) og og b c;rw[Int.neg_mul] at a;exact⟨by omega,by omega,by omega,by omega⟩
 ·have a:=zpq (x:=X) (y:=x) h d b c;refine⟨by omega,by omega,by omega,fun e=> ?_⟩;have:X=0:=og;subst this;omega
theorem yni {t:Int} (h:t<0):∃q,t.tdiv 1000000000=q/\((q=t/1000000000/\t%1000000000=0)\/(q=t/1000000000+1/\0<t%1000000000)):=by
 refine⟨_,rfl,?_⟩;rw[Int.tdiv_eq_ediv];split
 ·rename_i hd;rcases hd with hd|hd
  ·omega
  ·exact .inl ⟨by omega,Int.emod_eq_zero_of_dvd hd⟩
 ·rename_i hd;refine .inr ⟨by simp,?_⟩;rcases Int.lt_or_le 0 (t%1000000000) with a|a
  ·exact a
  ·exact absurd (.inr (Int.dvd_of_emod_eq_zero og)) hd
theorem yjh {w:World} {A B R lo:Nat} (x y:Int) (ha:IsN w lo hi j A) (an:IsN w lo' p s B) (ar:hi<=w.heap.size) (au:p<=w.heap.size) (aG: -999999999<=x) (aH:x<=999999999) (aI: -999999999<=y) (aJ:y<=999999999)
 (af:(0<=x/\y<=0)\/(x<=0/\0<=y)) (aa:(R:Int)=x*A+y*B) (ab:R<=A) (Y:B<=A) (aN:(A9 A).length<=4294967296):
 Calls i 193 #[j,s,.int .i64 x,.int .i64 y] w fun X w'=>(∃m,X= .returned m/\IsN w' w.heap.size w'.heap.size m R)/\Below w.heap.size w w':=by
 have aq:=W9 Y;have ak:Hid (R<pw (A9 A).length):=u ab (zqt A);obtain⟨aL,c,rfl,_,_,ai⟩:=ha;obtain⟨aM,d,rfl,_,_,aj⟩:=an;generalize ae:A9 A=a at*;generalize G:A9 B=b at*;have V:Hid (Lo a/\val a=A):=(by rw[Hid,<-ae];exact⟨M4 A,R7 A⟩);have W:Hid (Lo b/\val b=B):=(by rw[Hid,<-G];exact⟨M4 B,R7 B⟩);have ag:=f aa;clear ae G aa ab Y;go_in;go_wp2_with (at_make;refine ztq U9 rfl _ _ rfl a.length rfl rfl rfl rfl og ?_;intro C a2 Z aA ao aK)
 go_loopw [10,18] (fun ah U wr=>∃(k:Nat) (n:List Nat) (e:Int),k<=a.length/\U= .int .i64 (k:Int)/\ah= .int .i64 e/\-1000000000<=e/\e<=1000000000/\Row wr C 140 (C8 .u32 n)/\Below C w wr/\Hid (wr.heap.size=C+1)/\
  Hid (n.length=a.length/\Lo n/\(val (n.take k):Int)+e*pw k=x*val (a.take k)+y*val (b.take k))) (fun _ U _=>a.length-(intOf U).toNat)
 case atStart=>exact⟨0,_,0,Nat.zero_le _,rfl,rfl,by omega,by omega,aA,ao,aK,by simp,zrw _,by simp[val]⟩
 case round=>
  obtain⟨k,n,e,aR,rfl,rfl,aO,aP,hr,r,t,hrel⟩:=hrel;have N:Below w.heap.size w wr:=(by have:=Z.out;subst this;exact r);rcases o k a.length with J|aQ
  ·obtain⟨ba,oa,rfl,_,_,ac⟩:=(ai.below N ar) (M5 (j:=k) J);obtain⟨l,E,aB,aC,aS⟩:=W4 (j:=k) V.out.1 ac J;clear ac;obtain⟨z,aU,aV,aW⟩:=hr.num (i:=k) (by rw[hrel.out.1];exact J);have aX:=hr.frozen k;have D:Hid (k<n.length):=(by rw[hrel.out.1];exact J);obtain⟨aY,aZ,K,L⟩:=yjj aG aH aB aC;rcases o k b.length with G|O
   ·obtain⟨bb,ob,rfl,_,_,ad⟩:=(aj.below N au) (M5 (j:=k) G);obtain⟨m,hv,aD,aE,aT⟩:=W4 (j:=k) W.out.1 ad G;clear ad;obtain⟨a0,M,v,q3⟩:=yjj aI aJ aD aE;(have s0: -999999998000000001<=x*l+y*m:=by rcases af with⟨F,I⟩|⟨F,I⟩<;>(have:=K;have:=L;have:=v;have:=q3;omega));(have a1:x*l+y*m<=999999998000000001:=by rcases af with⟨F,I⟩|⟨F,I⟩<;>(have:=K;have:=L;have:=v;have:=q3;omega));clear K L v q3;rcases Int.lt_or_le (x*l+e+y*m) 0 with P|av
    ·obtain⟨q,ay,⟨M,v⟩|⟨M,v⟩⟩:=yni P
     ·have Q: -1000000001<=q:=og;have S:q<=0:=og;have T:x*l+e+y*m-q*1000000000=0:=og;go_wp2;go_roundw;(case rel=>refine⟨k+1,n.set k ((x*l+e+y*m)%1000000000).toNat,(x*l+e+y*m)/1000000000,by omega,by go_num,zrp og,by omega,by omega,?_,r.setCell (g _) _,by have:=t.out;simpa[Hid,World.setCell] using this,by rw[List.length_set];exact hrel.out.1,W5 hrel.out.2.1 og,zuj (x:=l) (y:=m) (c:=e) (c':=(x*l+e+y*m)/1000000000) (r:=(x*l+e+y*m)%1000000000) D.out E.out hv.out og og hrel.out.2.2⟩;exact hr.setNum k _ _ og);case measure=>simp[intOf];omega
     ·have Q: -1000000001<=q:=og;have S:q<=0:=og;have T:x*l+e+y*m-q*1000000000<0:=og;have az: -1000000000<x*l+e+y*m-q*1000000000:=og;go_wp2;go_roundw;(case rel=>refine⟨k+1,n.set k ((x*l+e+y*m)%1000000000).toNat,(x*l+e+y*m)/1000000000,by omega,by go_num,zrp og,by omega,by omega,?_,r.setCell (g _) _,by have:=t.out;simpa[Hid,World.setCell] using this,by rw[List.length_set];exact hrel.out.1,W5 hrel.out.2.1 og,zuj (x:=l) (y:=m) (c:=e) (c':=(x*l+e+y*m)/1000000000) (r:=(x*l+e+y*m)%1000000000) D.out E.out hv.out og og hrel.out.2.2⟩;exact hr.setNum k _ _ og);case measure=>simp[intOf];omega
    ·go_wp2;go_roundw;(case rel=>refine⟨k+1,n.set k ((x*l+e+y*m)%1000000000).toNat,(x*l+e+y*m)/1000000000,by omega,by go_num,zrp og,by omega,by omega,?_,r.setCell (g _) _,by have:=t.out;simpa[Hid,World.setCell] using this,by rw[List.length_set];exact hrel.out.1,W5 hrel.out.2.1 og,zuj (x:=l) (y:=m) (c:=e) (c':=(x*l+e+y*m)/1000000000) (r:=(x*l+e+y*m)%1000000000) D.out E.out hv.out og og hrel.out.2.2⟩;exact hr.setNum k _ _ og);case measure=>simp[intOf];omega
   ·clear K L;rcases Int.lt_or_le (x*l+e) 0 with P|av
    ·obtain⟨q,ay,⟨M,v⟩|⟨M,v⟩⟩:=yni P
     ·have Q: -1000000001<=q:=og;have S:q<=0:=og;have T:x*l+e-q*1000000000=0:=og;go_wp2;go_roundw;(case rel=>refine⟨k+1,n.set k ((x*l+e)%1000000000).toNat,(x*l+e)/1000000000,by omega,by go_num,zrp og,by omega,by omega,?_,r.setCell (g _) _,by have:=t.out;simpa[Hid,World.setCell] using this,by rw[List.length_set];exact hrel.out.1,W5 hrel.out.2.1 og,zuj (x:=l) (y:=0) (c:=e) (c':=(x*l+e)/1000000000) (r:=(x*l+e)%1000000000) D.out E.out (by rw[zmj O];rfl) og og hrel.out.2.2⟩;exact hr.setNum k _ _ og);case measure=>simp[intOf];omega
     ·have Q: -1000000001<=q:=og;have S:q<=0:=og;have T:x*l+e-q*1000000000<0:=og;have az: -1000000000<x*l+e-q*1000000000:=og;go_wp2;go_roundw;(case rel=>refine⟨k+1,n.set k ((x*l+e)%1000000000).toNat,(x*l+e)/1000000000,by omega,by go_num,zrp og,by omega,by omega,?_,r.setCell (g _) _,by have:=t.out;simpa[Hid,World.setCell] using this,by rw[List.length_set];exact hrel.out.1,W5 hrel.out.2.1 og,zuj (x:=l) (y:=0) (c:=e) (c':=(x*l+e)/1000000000) (r:=(x*l+e)%1000000000) D.out E.out (by rw[zmj O];rfl) og og hrel.out.2.2⟩;exact hr.setNum k _ _ og);case measure=>simp[intOf];omega
    ·go_wp2;go_roundw;(case rel=>refine⟨k+1,n.set k ((x*l+e)%1000000000).toNat,(x*l+e)/1000000000,by omega,by go_num,zrp og,by omega,by omega,?_,r.setCell (g _) _,by have:=t.out;simpa[Hid,World.setCell] using this,by rw[List.length_set];exact hrel.out.1,W5 hrel.out.2.1 og,zuj (x:=l) (y:=0) (c:=e) (c':=(x*l+e)/1000000000) (r:=(x*l+e)%1000000000) D.out E.out (by rw[zmj O];rfl) og og hrel.out.2.2⟩;exact hr.setNum k _ _ og);case measure=>simp[intOf];omega
  ·obtain rfl:k=a.length:=og;have al:Hid (val n=R):=(by have h:=hrel.out.2.2;rw[zki (Nat.le_of_eq hrel.out.1),zki (g _),zki aq,V.out.2,W.out.2,<-ag.out] at h;have F:=zmf hrel.out.2.1;rw[hrel.out.1] at F;have I:=ak.out;exact Int.ofNat_inj.1 (ywz og og og h));have H:Hid (Row wr C 140 (C8 .u32 n)/\n.length=a.length/\Lo n):=⟨hr,hrel.out.1,hrel.out.2.1⟩;clear hr hrel;go_wp2_with fail;rw[<-H.out.2.1];refine(zwy _ _ n wr C (C+1) H.out.2.2 (g _) (by have:=H.out.2.1;unfold maxLen;omega) H.out.1.sv).mono ?_;rintro X a3 ⟨⟨m,rfl,hv⟩,rfl⟩;go_wp2_with fail;go_ret;refine⟨⟨_,rfl,?_⟩,N⟩;rw[<-al.out];exact hv.wide (oh Z) (oh t)
end Go.Proofs.YtlhhbccgfkhflaaGreatDoor
