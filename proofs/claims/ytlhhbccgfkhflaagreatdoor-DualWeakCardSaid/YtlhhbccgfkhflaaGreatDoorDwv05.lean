/-
 The contract of package long's binary:the greatest common divisor of two words.
-/
import Derived.Test.YtlhhbccgfkhflaaGreatDoorDwv04
import Derived.IntWalk
import Derived.Laws.EntriesVeiled
namespace Go.Proofs.YtlhhbccgfkhflaaGreatDoor
open Go.RowKit
set_option linter.unusedVariables false
set_option maxRecDepth 100000
set_option maxHeartbeats 8000000
open _root_.Go.Lib renaming hid → f
open _root_.Nat renaming le_refl → g, lt_or_ge → m, lt_of_le_of_lt → s, mul_le_mul_right → l, le_of_lt_succ → q
open _root_.Go.World renaming size_alloc → j
open _root_.Go.Proofs.Tryz renaming prog → i
variable {P V Y c' r : Int} {S T c hi o k lo lo' n t top : Nat} {va p : Value}
theorem ymf {x a:Nat} (h:x=2^k*(2*a+1)):(x:Int)/2^k=((2*a+1:Nat):Int):=by have:=zz1403 h;rw[<-this];simp
theorem ypn (a b:Nat) (w:World) (r:Bru w) (ha:1<=a) (ac:1<=b) (x:a<18446744073709551616) (y:b<18446744073709551616):
 Calls i 179 #[.int .u64 (a:Int),.int .u64 (b:Int)] w fun c w'=>c= .returned (.int .u64 (Nat.gcd a b:Nat))/\w=w':=by
 have Z:((a:Int)==0)=false:=beq_eq_false_iff_ne.2 og;have aa:((b:Int)==0)=false:=beq_eq_false_iff_ne.2 og;have g:=f r;clear r;have W:=f (bits_or_u64_nat a b x y);have G:Hid (a|||b<18446744073709551616/\a|||b≠0):=⟨Nat.or_lt_two_pow (n:=64) og og,by have:=Nat.left_le_or (n:=a) (m:=b);omega⟩;have U:Hid (Nat.gcd a b<=a):=Nat.le_of_dvd og (Nat.gcd_dvd_left a b);go_in;go_wp2_with fail;rw[W.out];obtain⟨k,an,ae,F,hc⟩:=yef (a|||b) w g.out G.out.2 G.out.1;have j:=f F;clear F;refine hc.mono ?_;clear hc;rintro c J ⟨rfl,rfl⟩;go_wp2_with fail;obtain⟨al,I,af,e,z⟩:=yef a w g.out og x;obtain⟨l,X⟩:=C7 e (ymf e);have ah:=yjz e;clear e;refine z.mono ?_;clear z;rintro c J ⟨rfl,rfl⟩;go_wp2_with fail;rw[X.out];have t:(2*I+1)%2=1:=og;obtain⟨K,hst⟩:=C7 t (ypl j.out l.out);clear t l j;generalize s:2*I+1=C at*;have Y:=f s;have ab:1<=C:=og;clear s;go_loop [0,1] (fun s0 h=>∃(A B:Nat),s0= .int .u64 (A:Int)/\h= .int .u64 (B:Int)/\1<=A/\A<18446744073709551616/\B<18446744073709551616/\Hid (A%2=1/\Nat.gcd A B=Nat.gcd C b)) (fun s0 h=>(intOf s0).toNat+(intOf h).toNat);case atStart=>exact⟨C,b,rfl,rfl,by omega,by omega,y,K.out,rfl⟩
 case round=>
  obtain⟨A,B,rfl,rfl,P,Q,R,hrel⟩:=hrel;rcases Nat.eq_zero_or_pos B with q|q
  ·subst q;have S:Hid (A=Nat.gcd C b):=(by have:=hrel.out.2;rw[Nat.gcd_zero_right] at this;exact this);have hfin:Hid (IntKind.u64.wrap ((A:Int)*2^k)=((Nat.gcd a b:Nat):Int)):=(by unfold Hid;have p:=hst.out;rw[<-S.out,Nat.mul_comm] at p;have O:((A:Int)*2^k)=((A*2^k:Nat):Int):=(by simp);rw[O,<-p,IntKind.wrap_u64];have:=U.out;omega);go_wp2;go_ret;exact⟨K2 hfin.out,rfl⟩
  ·have ag:((B:Int) !=0)=true:=(by rw[bne_iff_ne];omega);go_wp2_with fail;obtain⟨ak,n,ad,d,E⟩:=yef B w g.out og R;have H:=ymf d;have ai:=yjz d;obtain⟨o,N⟩:=C7 (ypm hrel.out.1 d hrel.out.2) H;clear H d;refine E.mono ?_;clear E;rintro c J ⟨rfl,rfl⟩;have aj:=N.out;generalize hD:2*n+1=D at*;have L:=f hD;clear hD;have u:1<=D/\D%2=1:=oh L;obtain⟨u,v⟩:=u;have M:=f v;clear v;rcases m D A with V|T
   ·go_wp2;go_round;(case rel=>exact⟨D,A-D,rfl,by go_num,by omega,by omega,by omega,M.out,o.out.1 V⟩);case measure=>simp[intOf];omega
   ·go_wp2;go_round;(case rel=>exact⟨A,D-A,rfl,by go_num,P,Q,by omega,hrel.out.1,o.out.2 T⟩);case measure=>simp[intOf];omega
theorem zxj (a b:Nat) (w:World) (g:Bru w) (j:a<18446744073709551616) (k:b<18446744073709551616):
 Calls i 179 #[.int .u64 (a:Int),.int .u64 (b:Int)] w fun h w'=>h= .returned (.int .u64 (Nat.gcd a b:Nat))/\w=w':=by
 rcases Nat.eq_zero_or_pos a with d|d
 ·subst d;have c:=f (Nat.gcd_zero_left b);clear g;go_in;go_wp2;go_ret;exact⟨K2 (by rw[c.out]),rfl⟩
 ·rcases Nat.eq_zero_or_pos b with e|e
  ·subst e;have c:=f (Nat.gcd_zero_right a);have l:((a:Int)==0)=false:=beq_eq_false_iff_ne.2 og;clear g;go_in;go_wp2;go_ret;exact⟨K2 (by rw[c.out]),rfl⟩
  ·exact ypn a b w g d e j k
theorem zsy {w:World} {x:Nat} (ha:IsN w lo hi va x) (C:(A8 x).length<=2):
 Calls i 180 #[va] w fun q w'=>q= .returned (.int .u64 (x:Int))/\w=w':=by
 obtain⟨A,c,rfl,_,_,s⟩:=ha;generalize p:A8 x=a at*;have f:Hid (Lo a/\val a=x):=(by rw[Hid,<-p];exact⟨Y8 x,Z6 x⟩);clear p;have t:Hid (∀k,1<=k->val (a.drop k)<=999999999):=(by intro k e;have h:=zna (ycu f.out.1 k);have r:pw (a.drop k).length<=pw 1:=ydn (by rw[List.length_drop];omega);rw[ylb] at r;omega);go_in;go_wp2;go_loop [3,4] (fun n l=>∃(k d:Nat),k<=a.length/\n= .int .u64 (d:Int)/\l= .int .i64 ((k:Int)-1)/\Hid (d=val (a.drop k))) (fun _ l=>((intOf l)+1).toNat);case atStart=>exact⟨a.length,0,g _,rfl,rfl,by rw[Hid,List.drop_length];rfl⟩
 case round=>
  obtain⟨k,d,e,rfl,rfl,j⟩:=hrel;rcases k with _|k
  ·have hfin:Hid (d=x):=(by have:=j.out;rw[List.drop_zero,f.out.2] at this;exact this);go_wp2;go_ret;exact⟨K2 (by rw[hfin.out]),rfl⟩
  ·have o:((k+1:Nat):Int)-1=(k:Int):=og;rw[o];clear o;obtain⟨b,off,rfl,_,_,m⟩:=s (Y5 (j:=k) e);obtain⟨y,u,D,E,z⟩:=zkw (j:=k) f.out.1 m e;clear m;have B:d<=999999999:=(by have:=j.out;have:=t.out (k+1) og;omega);go_wp2;go_round;(case rel=>refine⟨k,d*1000000000+y.toNat,by omega,by go_num,by go_num,?_⟩;have v:=zvj (l:=a) (k:=k) e;have:=j.out;have:=u.out;unfold Hid;omega);case measure=>simp[intOf]
theorem zlf {a b k:Int} (c:0<=k) (h:a<=b):k*a<=k*b:=Int.mul_le_mul_of_nonneg_left h c
structure LI (e B0:Nat) (d b0 a b w x y z:Int):Prop where
 ea:a=w*d+x*b0
 eb:b=y*d+z*b0
 pat:(1<=w/\x<=0/\y<=0/\1<=z/\w*z-x*y=1)\/(w<=0/\1<=x/\1<=y/\z<=-1/\w*z-x*y= -1)
 aw:0<=a+w
 ax:0<=a+x
 by_:0<=b+y
 bz:0<=b+z
 num:∃A B:Nat,(A:Int)=w*e+x*B0/\(B:Int)=y*e+z*B0/\B<=A/\Nat.gcd A B=Nat.gcd e B0/\(x≠0->B<A/\A<=B0)/\(x=0->A=e/\B=B0)
theorem LI.start {e B0:Nat} {d b0:Int} (ha:0<=d) (a:0<=b0) (h:B0<=e):LI e B0 d b0 d b0 1 0 0 1:=
 ⟨by omega,by omega,.inl ⟨by omega,by omega,by omega,by omega,by omega⟩,by omega,by omega,by omega,by omega,⟨e,B0,by omega,by omega,h,rfl,fun h=>absurd rfl h,fun _=>⟨rfl,rfl⟩⟩⟩
section
variable {e B0 : Nat} {d b0 a b w x y z : Int}
theorem LI.inv (h:LI e B0 d b0 a b w x y z):0<=a/\0<=b/\
 ((1<=w/\x<=0/\y<=0/\1<=z/\d=z*a-x*b/\b0=w*b-y*a)\/(w<=0/\1<=x/\1<=y/\z<=0/\d=x*b-z*a/\b0=y*a-w*b)):=by
 have m:=h.aw;have n:=h.ax;have o:=h.by_;have p:=h.bz;have f:=h.ea;have g:=h.eb;rcases h.pat with⟨i,j,k,l,c⟩|⟨i,j,k,l,c⟩
 ·refine⟨by omega,by omega,.inl ⟨i,j,k,l,?_,?_⟩⟩
  ·have:z*a-x*b=(w*z-x*y)*d:=(by rw[f,g];grind);rw[this,c];omega
  ·have:w*b-y*a=(w*z-x*y)*b0:=(by rw[f,g];grind);rw[this,c];omega
 ·refine⟨by omega,by omega,.inr ⟨i,j,k,by omega,?_,?_⟩⟩
  ·have:x*b-z*a= -(w*z-x*y)*d:=(by rw[f,g];grind);rw[this,c];omega
  ·have:y*a-w*b= -(w*z-x*y)*b0:=(by rw[f,g];grind);rw[this,c];omega
theorem LI.bounds (h:LI e B0 d b0 a b w x y z) (r:d<=999999999999999999) (s:b0<=999999999999999999):0<=a/\a<=999999999999999999/\0<=b/\b<=999999999999999999:=by
 obtain⟨ha,c,q⟩:=h.inv;rcases q with⟨i,j,k,l,m,n⟩|⟨i,j,k,l,m,n⟩
 ·have o:=Int.mul_le_mul_of_nonneg_right l ha;have p:=Int.mul_le_mul_of_nonneg_right i c;have f:=Int.mul_nonneg (show 0<=-x by omega) c;have g:=Int.mul_nonneg (show 0<=-y by omega) ha;rw[Int.neg_mul] at f g;omega
 ·have o:=Int.mul_le_mul_of_nonneg_right j c;have p:=Int.mul_le_mul_of_nonneg_right k ha;have f:=Int.mul_nonneg (show 0<=-z by omega) ha;have g:=Int.mul_nonneg (show 0<=-w by omega) c;rw[Int.neg_mul] at f g;omega
theorem LI.fits (h:LI e B0 d b0 a b w x y z) (o:d<=999999999999999999) (p:b0<=999999999999999999) (L: -999999999<=w/\w<=999999999) (M: -999999999<=x/\x<=999999999) (N: -999999999<=y/\y<=999999999) (O: -999999999<=z/\z<=999999999)
 {q:Int} (i:0<=q) (r:q<=a+w) (s:q<=a+x) (D:q*(b+y)<=a+w):
 -2000000000000000000<=q*y/\q*y<=2000000000000000000/\-2000000000000000000<=q*z/\q*z<=2000000000000000000/\0<=q*b/\q*b<=4000000000000000000:=by
 obtain⟨I,_⟩:=h.bounds o p;have J:=h.bounds o p;obtain⟨ha,g,C⟩:=h.inv;have K:=Int.mul_nonneg i g;rw[Int.mul_add] at D;have A8:∀{u v:Int},0<=u->u<=999999999->0<=v->v<=999999999->u*v<=999999998000000001:=(by intro u v f j c k;have:=Int.mul_le_mul j k c (by omega:(0:Int)<=999999999);omega);rcases C with⟨E,F,G,H,t,A⟩|⟨E,F,G,H,t,A⟩
 ·have f:=Int.mul_le_mul_of_nonneg_right r (show 0<=-y by omega);have j:=Int.mul_nonneg i (show 0<=-y by omega);have c:=Int.mul_le_mul_of_nonneg_right s (show 0<=z by omega);have k:=Int.mul_nonneg i (show 0<=z by omega);have l:=A8 (u:=w) (v:= -y) og og og og;have B:=Int.mul_nonneg (show 0<=w by omega) g;have m:=Int.mul_nonneg (show 0<=-x by omega) g;have n:=Int.mul_nonneg (show 0<=-x by omega) (show 0<=z by omega);simp only[Int.add_mul,Int.mul_neg,Int.neg_mul] at f j c l m n;rw[Int.mul_comm a y] at f;rw[Int.mul_comm a z] at c;omega
 ·have f:=Int.mul_le_mul_of_nonneg_right r (show 0<=y by omega);have j:=Int.mul_nonneg i (show 0<=y by omega);have c:=Int.mul_le_mul_of_nonneg_right s (show 0<=-z by omega);have k:=Int.mul_nonneg i (show 0<=-z by omega);have l:=A8 (u:=x) (v:= -z) og og og og;have B:=Int.mul_nonneg (show 0<=x by omega) g;have m:=Int.mul_nonneg (show 0<=-w by omega) g;have n:=Int.mul_nonneg (show 0<=-w by omega) (show 0<=y by omega);simp only[Int.add_mul,Int.mul_neg,Int.neg_mul] at f c k l m n;rw[Int.mul_comm a y] at f;rw[Int.mul_comm a z] at c;omega
theorem LI.exact (h:LI e B0 d b0 a b w x y z) (n:0<S) (l:d=(e/S:Nat)) (m:b0=(B0/S:Nat)) {q:Int} (L:0<b+y) (M:0<b+z) (j:q=(a+w)/(b+y)) (o:q=(a+x)/(b+z))
 {A B:Nat} (p:(A:Int)=w*e+x*B0) (r:(B:Int)=y*e+z*B0):0<B/\0<=q/\q*B<=A/\(A:Int)<(q+1)*B:=by
 have g:0<=q:=(by rw[j];exact Int.ediv_nonneg h.aw og);have s:q*(b+y)<=a+w:=(by rw[j];exact Int.ediv_mul_le _ og);have t:q*(b+z)<=a+x:=(by rw[o];exact Int.ediv_mul_le _ og);have u:a+w<(q+1)*(b+y):=(by rw[j];exact Int.lt_ediv_add_one_mul_self _ og);have v:a+x<(q+1)*(b+z):=(by rw[o];exact Int.lt_ediv_add_one_mul_self _ og);have c:(0:Int)<S:=og;have lA:d*S<=e:=(by rw[l];have:=Nat.div_mul_le_self e S;exact_mod_cast this);have lB:b0*S<=B0:=(by rw[m];have:=Nat.div_mul_le_self B0 S;exact_mod_cast this);have i:(e:Int)<(d+1)*S:=(by rw[l];have:=Nat.lt_div_mul_add (a:=e) n;rw[Int.add_mul,Int.one_mul];exact_mod_cast this);have uB:(B0:Int)<(b0+1)*S:=by rw[m];have:=Nat.lt_div_mul_add (a:=B0) n;rw[Int.add_mul,Int.one_mul];exact_mod_cast this
 have key:((a+x)*S<=A/\(A:Int)<(a+w)*S/\(b+y)*S<=B/\(B:Int)<(b+z)*S)\/((a+w)*S<=A/\(A:Int)<(a+x)*S/\(b+z)*S<=B/\(B:Int)<(b+y)*S):=by
  rw[p,r,h.ea,h.eb];rcases h.pat with⟨U,V,W,X,_⟩|⟨U,V,W,X,_⟩
  ·left;have C:=zlf (show 0<=w by omega) lA;have D:=zlf (show 0<=-x by omega) (Int.le_of_lt uB);have E:=zlf (show 0<=w-1 by omega) (Int.le_of_lt i);have F:=zlf (show 0<=-x by omega) lB;have G:=zlf (show 0<=-y by omega) (Int.le_of_lt i);have H:=zlf (show 0<=z by omega) lB;have I:=zlf (show 0<=z-1 by omega) (Int.le_of_lt uB);have J:=zlf (show 0<=-y by omega) lA;refine⟨by grind,by grind,by grind,by grind⟩
  ·right;have C:=zlf (show 0<=-w by omega) (Int.le_of_lt i);have D:=zlf (show 0<=x by omega) lB;have E:=zlf (show 0<=-w by omega) lA;have F:=zlf (show 0<=x-1 by omega) (Int.le_of_lt uB);have G:=zlf (show 0<=y by omega) lA;have H:=zlf (show 0<=-z by omega) (Int.le_of_lt uB);have I:=zlf (show 0<=y-1 by omega) (Int.le_of_lt i);have J:=zlf (show 0<=-z by omega) lB;refine⟨by grind,by grind,by grind,by grind⟩
 rcases key with⟨N,O,f,k⟩|⟨N,O,f,k⟩
 ·have K:(0:Int)<B:=Int.lt_of_lt_of_le (Int.mul_pos L c) f;have P:=zlf g (Int.le_of_lt k);have Q:=Int.mul_le_mul_of_nonneg_right t (Int.le_of_lt c);have R:=zlf (show 0<=q+1 by omega) f;have T:=Int.mul_le_mul_of_nonneg_right (Int.le_of_lt u) (Int.le_of_lt c);refine⟨by omega,g,by grind,by grind⟩
 ·have K:(0:Int)<B:=Int.lt_of_lt_of_le (Int.mul_pos M c) f;have P:=zlf g (Int.le_of_lt k);have Q:=Int.mul_le_mul_of_nonneg_right s (Int.le_of_lt c);have R:=zlf (show 0<=q+1 by omega) f;have T:=Int.mul_le_mul_of_nonneg_right (Int.le_of_lt v) (Int.le_of_lt c);refine⟨by omega,g,by grind,by grind⟩
theorem LI.step (h:LI e B0 d b0 a b w x y z) (I:0<S) (G:d=(e/S:Nat)) (H:b0=(B0/S:Nat)) {q:Int} (N:0<b+y) (O:0<b+z) (t:q=(a+w)/(b+y)) (u:q=(a+x)/(b+z)):
 LI e B0 d b0 b (a-q*b) y z (w-q*y) (x-q*z):=by
 obtain⟨A,B,p,j,T,J,v,M⟩:=h.num;obtain⟨r,l,P,Q⟩:=h.exact I G H N O t u p j
 have s:1<=q:=by
  rcases Int.lt_or_le q 1 with k|k
  ·have:q=0:=og;subst this;omega
  ·exact k
 obtain⟨f,rfl⟩:=Int.eq_ofNat_of_zero_le l;have C:f*B<=A:=(by exact_mod_cast P);have R:A<(f+1)*B:=(by exact_mod_cast Q);have D:(f:Int)*(b+y)<=a+w:=(by rw[t];exact Int.ediv_mul_le _ og);have E:(f:Int)*(b+z)<=a+x:=by rw[u];exact Int.ediv_mul_le _ og
 have L:A/B=f:=by
  apply Nat.div_eq_of_lt_le
  ·exact C
  ·exact R
 have K:A%B=A-f*B:=(by rw[Nat.mod_eq_sub_mul_div,L,Nat.mul_comm]);refine⟨h.eb,?_,?_,by omega,by omega,?_,?_,⟨B,A%B,j,?_,Nat.le_of_lt (Nat.mod_lt _ r),?_,fun _=>⟨Nat.mod_lt _ r,?_⟩,fun k=> ?_⟩⟩
 ·rw[h.ea,h.eb];grind
 ·rcases h.pat with⟨m,n,g,i,o⟩|⟨m,n,g,i,o⟩
  ·have c:=Int.mul_nonneg l (show 0<=-y by omega);have F:=Int.mul_le_mul_of_nonneg_right s (show 0<=z by omega);rw[Int.mul_neg] at c;exact .inr ⟨g,i,by omega,by omega,by grind⟩
  ·have c:=Int.mul_nonneg l (show 0<=-z by omega);have F:=Int.mul_le_mul_of_nonneg_right s (show 0<=y by omega);rw[Int.mul_neg] at c;exact .inl ⟨g,by omega,by omega,by omega,by grind⟩
 ·rw[Int.mul_add] at D;omega
 ·rw[Int.mul_add] at E;omega
 ·rw[K,Int.ofNat_sub C,Int.natCast_mul,p,j];grind
 ·rw[<-J,Nat.gcd_comm A B,Nat.gcd_rec B A,Nat.gcd_comm]
 ·rcases Int.lt_trichotomy x 0 with c|c|c
  ·have:=v og;omega
  ·have:=M c;omega
  ·have:=v og;omega
 ·rcases h.pat with⟨m,n,g,i,o⟩|⟨m,n,g,i,o⟩<;>omega
end
theorem yji (P:Program) (w:World) (k:IntKind) (f:Array TypeId) (t:TypeId) (x y z b:Int):∃a,(Builtin.max_ f t #[.int k x,.int k y,.int k z,.int k b]).run P w= .ok (.int k a) w/\x<=a/\y<=a/\z<=a/\b<=a/\(a=x\/a=y\/a=z\/a=b):=by refine⟨_,by simp[Builtin.max_,Builtin.max2];rfl,?_⟩;by_cases c:x<y<;>by_cases d:(if x<y then y else x)<z<;>by_cases e:(if(if x<y then y else x)<z then z else(if x<y then y else x))<b<;>simp[c] at d e⊢<;>simp_all<;>omega
def yez (e B0:Nat) (d b0:Int) (c:Ending):Prop:=∃w x y z a b:Int,c= .returned (.tuple #[.int .i64 w,.int .i64 x,.int .i64 y,.int .i64 z])/\LI e B0 d b0 a b w x y z/\
 (-999999999<=w/\w<=999999999/\-999999999<=x/\x<=999999999)/\(-999999999<=y/\y<=999999999/\-999999999<=z/\z<=999999999)
theorem zz1422 (g:World) (e B0 S:Nat) (d b0:Int) (W:0<S) (m:d=(e/S:Nat)) (n:b0=(B0/S:Nat)) (ab:B0<=e) (D:d<=999999999999999999) (F:b0<=999999999999999999):
 Calls i 191 #[.int .i64 d,.int .i64 b0] g fun T w'=>yez e B0 d b0 T/\g=w':=by
 have X:0<=d:=(by rw[m];exact Int.natCast_nonneg _);have Y:0<=b0:=(by rw[n];exact Int.natCast_nonneg _);obtain⟨Q,R⟩:=C7 m n;clear m n;go_in;go_wp2
 go_loop [0,1,4,5,6,7] (fun sa sb ag sx sy sz=>∃a b w x y z:Int,sa= .int .i64 a/\sb= .int .i64 b/\ag= .int .i64 w/\sx= .int .i64 x/\sy= .int .i64 y/\sz= .int .i64 z/\
  (-999999999<=w/\w<=999999999/\-999999999<=x/\x<=999999999)/\(-999999999<=y/\y<=999999999/\-999999999<=z/\z<=999999999)/\Hid (LI e B0 d b0 a b w x y z)) (fun _ sb _ _ sy _=>(intOf sb+intOf sy).toNat)
 case atStart=>exact⟨d,b0,1,0,0,1,rfl,rfl,rfl,rfl,rfl,rfl,by omega,by omega,LI.start X Y ab⟩
 case round=>
  obtain⟨a,b,w,x,y,z,rfl,rfl,rfl,rfl,rfl,rfl,⟨L,M,N,O⟩,⟨r,s,t,u⟩,hrel⟩:=hrel;obtain⟨aq,ar,au,av⟩:=hrel.out.bounds D F;have j:=hrel.out.aw;have o:=hrel.out.ax;have ay:=hrel.out.by_;have az:=hrel.out.bz;have hfin:Hid (yez e B0 d b0 (.returned (.tuple #[.int .i64 w,.int .i64 x,.int .i64 y,.int .i64 z]))):=⟨w,x,y,z,a,b,rfl,hrel.out,⟨L,M,N,O⟩,⟨r,s,t,u⟩⟩;rcases Int.lt_or_le 0 (b+y) with p|p
  ·rcases Int.lt_or_le 0 (b+z) with G|G
   ·have E:(b+y !=0)=true:=(by rw[bne_iff_ne];omega);have Z:(b+z !=0)=true:=(by rw[bne_iff_ne];omega);by_cases c:(a+w)/(b+y)=(a+x)/(b+z)
    ·have H:0<=(a+w)/(b+y):=Int.ediv_nonneg j og;have I:(a+w)/(b+y)<=a+w:=Int.ediv_le_self _ j;have q:(a+x)/(b+z)<=a+x:=Int.ediv_le_self _ o;have J:(a+w)/(b+y)*(b+y)<=a+w:=Int.ediv_mul_le _ og;have hst:=f (hrel.out.step W Q.out R.out p G rfl c);have aa:((a+w)/(b+y) !=(a+x)/(b+z))=false:=(by simp[c]);rw[<-c] at q;have ah:=f c;clear c;obtain⟨ai,aj,ak,al,an,ao⟩:=hrel.out.fits D F ⟨L,M⟩ ⟨N,O⟩ ⟨r,s⟩ ⟨t,u⟩ H I q J;clear J;by_cases K: -999999999<=w-(a+w)/(b+y)*y/\w-(a+w)/(b+y)*y<=999999999/\-999999999<=x-(a+w)/(b+y)*z/\x-(a+w)/(b+y)*z<=999999999
     ·obtain⟨ac,ad,ae,af⟩:=K;obtain⟨l,U,v,A,B,C,k⟩:=yji i g .i64 #[2,2,2,2] 2 (w-(a+w)/(b+y)*y) (-(w-(a+w)/(b+y)*y)) (x-(a+w)/(b+y)*z) (-(x-(a+w)/(b+y)*z));(have V:l<=999999999:=by rcases k with h|h|h|h<;>omega);clear v A B C k;go_wp2;go_round;(case rel=>exact⟨_,_,_,_,_,_,rfl,rfl,rfl,rfl,rfl,rfl,⟨r,s,t,u⟩,⟨ac,ad,ae,af⟩,hst.out⟩);case measure=>have aB:(a+w)%(b+y)<b+y:=Int.emod_lt_of_pos _ p;have aC:(a+w)%(b+y)=a-(a+w)/(b+y)*b+(w-(a+w)/(b+y)*y):=(by have:=Int.emod_def (a+w) (b+y);rw[this];grind);have aA:0<=(a+w)%(b+y):=Int.emod_nonneg _ og;simp[intOf];omega
     ·obtain⟨l,U,v,A,B,C,k⟩:=yji i g .i64 #[2,2,2,2] 2 (w-(a+w)/(b+y)*y) (-(w-(a+w)/(b+y)*y)) (x-(a+w)/(b+y)*z) (-(x-(a+w)/(b+y)*z));have V:1000000000<=l:=og;clear v A B C k K;go_wp2;exact bodyPost_ret (v:= .tuple #[.int .i64 w,.int .i64 x,.int .i64 y,.int .i64 z]) (by simp[results,Tryz.results191,go_sem]) rfl ⟨hfin.out,rfl⟩
    ·have aa:((a+w)/(b+y) !=(a+x)/(b+z))=true:=(by simpa using c);have H:0<=(a+w)/(b+y):=Int.ediv_nonneg j og;have I:(a+w)/(b+y)<=a+w:=Int.ediv_le_self _ j;have aD:0<=(a+x)/(b+z):=Int.ediv_nonneg o og;have q:(a+x)/(b+z)<=a+x:=Int.ediv_le_self _ o;clear c;go_wp2;exact bodyPost_ret (v:= .tuple #[.int .i64 w,.int .i64 x,.int .i64 y,.int .i64 z]) (by simp[results,Tryz.results191,go_sem]) rfl ⟨hfin.out,rfl⟩
   ·have P:b+z=0:=og;have E:(b+y !=0)=true:=(by rw[bne_iff_ne];omega);have Z:(b+z !=0)=false:=(by rw[bne_eq_false_iff_eq];exact P);clear P;go_wp2;exact bodyPost_ret (v:= .tuple #[.int .i64 w,.int .i64 x,.int .i64 y,.int .i64 z]) (by simp[results,Tryz.results191,go_sem]) rfl ⟨hfin.out,rfl⟩
  ·have E:(b+y !=0)=false:=(by rw[bne_eq_false_iff_eq];omega);go_wp2;exact bodyPost_ret (v:= .tuple #[.int .i64 w,.int .i64 x,.int .i64 y,.int .i64 z]) (by simp[results,Tryz.results191,go_sem]) rfl ⟨hfin.out,rfl⟩
theorem zz1450 {y:Nat} (g:3<=n) (d:y<pw n):y/pw (n-3)=((A8 y).getD (n-1) 0*1000000000+(A8 y).getD (n-2) 0)*1000000000+(A8 y).getD (n-3) 0:=by obtain⟨a,rfl⟩:∃a,n=a+3:=⟨n-3,by omega⟩;rw[zts,zts,zts];simp only[Nat.add_sub_cancel,show a+3-1=a+2 from by omega,show a+3-2=a+1 from by omega];have b:y/pw (a+1)=y/pw a/1000000000:=(by rw[zlj,Nat.mul_comm,Nat.div_div_eq_div_mul]);have c:y/pw (a+2)=y/pw a/1000000000/1000000000:=(by rw[show a+2=(a+1)+1 from rfl,zlj,Nat.mul_comm,<-Nat.div_div_eq_div_mul,b]);have f:y/pw a<1000000000000000000000000000:=(by rw[Nat.div_lt_iff_lt_mul (zst a)];rw[show a+3=3+a from by omega,zzk] at d;simp only[pw] at d⊢;omega);rw[b,c];clear b c;generalize y/pw a=e at*;omega
def TensAt (top t c:Nat):Prop:=t*c=1000000000/\top*t<1000000000
theorem TensAt.start (h:top<1000000000):TensAt top 1 1000000000:=⟨rfl,by omega⟩
def zqp (y n t:Nat):Nat:=((A8 y).getD (n-1) 0*1000000000+(A8 y).getD (n-2) 0)*t+(A8 y).getD (n-3) 0*t/1000000000
theorem ygn {y:Nat} (j:3<=n) (l:y<pw n) (h:t*c=1000000000):zqp y n t=y/(pw (n-3)*c):=by
 have hc:0<c:=by
  rcases Nat.eq_zero_or_pos c with a|a
  ·subst a;omega
  ·exact a
 have k:0<t:=by
  rcases Nat.eq_zero_or_pos t with a|a
  ·subst a;omega
  ·exact a
 unfold zqp;have e:y/(pw (n-3)*c)=y/pw (n-3)/c:=(Nat.div_div_eq_div_mul _ _ _).symm;rw[e,zz1450 j l,<-h];have f:(A8 y).getD (n-3) 0*t/(t*c)=(A8 y).getD (n-3) 0/c:=(by rw[Nat.mul_comm t c,Nat.mul_div_mul_right _ _ k]);have g:((A8 y).getD (n-1) 0*(t*c)+(A8 y).getD (n-2) 0)*(t*c)+(A8 y).getD (n-3) 0=((A8 y).getD (n-1) 0*(t*c)+(A8 y).getD (n-2) 0)*t*c+(A8 y).getD (n-3) 0:=(by rw[Nat.mul_assoc _ t c]);have i:∀d b:Nat,(d*c+b)/c=d+b/c:=fun d b=>(by rw[Nat.add_comm,Nat.add_mul_div_right _ _ hc,Nat.add_comm]);rw[f,g,i]
theorem ygo {y:Nat} (h:t*c=1000000000) (f:(A8 y).getD (n-1) 0*t<1000000000):(A8 y).getD (n-1) 0*t+t<=1000000000/\t<=1000000000:=by
 have hc:0<c:=by
  rcases Nat.eq_zero_or_pos c with b|b
  ·subst b;omega
  ·exact b
 generalize (A8 y).getD (n-1) 0=d at*
 have a:d<c:=by
  rcases m d c with a|a
  ·exact a
  ·have:=l t a;rw[Nat.mul_comm c t] at this;omega
 have e:=l t a;rw[Nat.mul_comm c t,Nat.succ_eq_add_one,Nat.add_mul,Nat.one_mul] at e;exact⟨by omega,by rw[<-h];exact Nat.le_mul_of_pos_right _ hc⟩
theorem yps {a b:Nat} (h:a*b<=c):(a:Int)*(b:Int)<=(c:Int):=by rw[<-Int.natCast_mul];omega
theorem zz1459 {a b:Nat} (h:(a:Int)*(b:Int)*10<1000000000):a*b*10<1000000000:=by rw[<-Int.natCast_mul] at h;omega
theorem yfj {a:List Nat} (h:a.getD (n-1) 0*T+T<=1000000000):((a.getD ((n:Int)-1).toNat 0:Nat):Int)*(T:Int)+(T:Int)<=1000000000:=by rw[show((n:Int)-1).toNat=n-1 from by omega,<-Int.natCast_mul];omega
theorem zz1438 (d:1<=top) (i:top*T*10<1000000000) (h:∃t,t<=9/\T=10^t):T*10<1000000000/\(∃t,t<=9/\T*10=10^t)/\top*(T*10)<=999999999:=by
 have g:=l T d;have e:T*10<1000000000:=og;refine⟨e,?_,by rw[<-Nat.mul_assoc];omega⟩;obtain⟨t,f,a⟩:=h;refine⟨t+1,?_,by rw[a,Nat.pow_succ]⟩;rcases m t 9 with b|b
 ·omega
 ·have c:=Nat.pow_le_pow_right (show 0<10 by omega) b;rw[<-a] at c;omega
theorem yvq {x y:Nat} (a:3<=n) (c:x<pw n) (e:y<=x) (w:(A8 x).getD (n-1) 0*T<=999999999) (h:∃t,t<=9/\T=10^t):
 ∃S:Nat,0<S/\zqp x n T=x/S/\zqp y n T=y/S/\x/S<=999999999999999999/\(A8 x).getD (n-1) 0*T+T<=1000000000/\(A8 y).getD (n-1) 0*T+T<=1000000000:=by obtain⟨t,v,o⟩:=h;have b:T*10^(9-t)=1000000000:=(by rw[o,<-Nat.pow_add,show t+(9-t)=9 from by omega]);have u:y<pw n:=s e c;have d:=ygn a c b;have g:=ygn a u b;have k:(A8 y).getD (n-1) 0<=(A8 x).getD (n-1) 0:=(by rw[zts,zts];have m:x/pw (n-1)<1000000000:=(by rw[Nat.div_lt_iff_lt_mul (zst _)];rw[show n=(n-1)+1 from by omega,zlj] at c;exact c);have a:y/pw (n-1)<=x/pw (n-1):=Nat.div_le_div_right e;rw[Nat.mod_eq_of_lt m,Nat.mod_eq_of_lt og];exact a);have z:=l T k;have p:=ygo (y:=x) (n:=n) b og;have r:=ygo (y:=y) (n:=n) b og;refine⟨pw (n-3)*10^(9-t),Nat.mul_pos (zst _) (Nat.pow_pos og),d,g,?_,p.1,r.1⟩;rw[<-d];have i:=zpz (Y8 x) (n-2);have j:=zpz (Y8 x) (n-3);unfold zqp;generalize (A8 x).getD (n-1) 0=u1 at*;generalize (A8 x).getD (n-2) 0=u2 at*;generalize (A8 x).getD (n-3) 0=u3 at*;have f:(u1*1000000000+u2)*T=u1*T*1000000000+u2*T:=(by grind);have A:=l T (q i);have B:=l T (q j);rw[f];omega
theorem ywe {w:World} {y d:Nat} (a:Int) (p:0<=a) (t:a<=4294967296) (ha:IsN w lo hi va y) (hc:w.cell? ⟨d,0,none⟩=some va):
 Calls i 199 #[.int .i64 a,.pointer (some ⟨d,0,none⟩)] w fun o w'=>o= .returned (.int .u64 ((A8 y).getD a.toNat 0:Nat))/\w'=w:=by
 have r:=ha.length_le;unfold maxLen at r;obtain⟨A,c,rfl,_,_,q⟩:=ha;obtain⟨k,rfl⟩:=Int.eq_ofNat_of_zero_le p;rw[Int.toNat_natCast];generalize g:A8 y=s at*;have n:=f g;clear g;rcases m k s.length with h|h
 ·obtain⟨b,off,rfl,_,_,e⟩:=q (Y5 (j:=k) h);obtain⟨x,j,v,u⟩:=zre (j:=k) e h;have z:x<=999999999:=(by have:=j.out;have:=zpz (Y8 y) k;rw[n.out] at this;omega);clear e;go_in;go_wp2;go_ret;exact⟨K2 j.out,rfl⟩
 ·have l:=f (zpr h);go_in;go_wp2;go_ret;exact⟨K2 (by rw[l.out];rfl),rfl⟩
theorem IsN.drewB {w:World} {a:Value} {x:Nat} (h:IsN w lo hi a x) (n:Nat):IsN (w.drewN n) lo hi a x:=h
theorem yiu {w:World} {y m o:Nat} (n t:Int) (ha:IsN w lo hi va y) (Y:hi<=w.heap.size) (af:3<=n) (ag:n<=4294967296) (ai:1<=t) (Z:t<=1000000000) (G:((A8 y).getD (n-1).toNat 0:Int)*t+t<=1000000000)
 (E:w.cell? ⟨m,0,none⟩=some (.int .i64 n)) (F:w.cell? ⟨o,0,none⟩=some (.int .u64 t)) (T:m<w.heap.size) (U:o<w.heap.size):
 Calls i 198 #[va,.pointer (some ⟨m,0,none⟩),.pointer (some ⟨o,0,none⟩)] w fun l w'=>l= .returned (.int .i64 (zqp y n.toNat t.toNat:Nat))/\Below w.heap.size w w':=by
 have C:=f ha;obtain⟨A,c,rfl,_,_,ad⟩:=ha;have ae:=(World.cell?_alloc_lt w (.cells #[.slice A (A8 y).length c] 28) ⟨m,0,none⟩ T).trans E;have ah:=(World.cell?_alloc_lt w (.cells #[.slice A (A8 y).length c] 28) ⟨o,0,none⟩ U).trans F;have D:(w.alloc (.cells #[.slice A (A8 y).length c] 28)).cell? ⟨w.heap.size,0,none⟩=some (.slice A (A8 y).length c):=(by have:=cell_one_new w (.slice A (A8 y).length c) 28 0 _ rfl;rwa[Addr.add_lit] at this);have q:=f (And.intro (C.out.below ((Below.refl _ w).alloc (g _) (.cells #[.slice A (A8 y).length c] 28)) Y) D);clear D E F
 have p:∀(e:Int),0<=e->e<=4294967296->∀k,Calls i 199 #[.int .i64 e,.pointer (some ⟨w.heap.size,0,none⟩)] ((w.alloc (.cells #[.slice A (A8 y).length c] 28)).drewN k) fun l w'=>l= .returned (.int .u64 ((A8 y).getD e.toNat 0:Nat))/\w'=(w.alloc (.cells #[.slice A (A8 y).length c] 28)).drewN k:=
  fun e R S k=>ywe e R S (q.out.1.drewB k) q.out.2
 obtain⟨a,x,r⟩:∃a:Int,a=((A8 y).getD (n-1).toNat 0:Nat)/\_:=⟨_,rfl,p (n-1) og og⟩;obtain⟨b,z,u⟩:∃b:Int,b=((A8 y).getD (n-2).toNat 0:Nat)/\_:=⟨_,rfl,p (n-2) og og⟩;obtain⟨d,B,v⟩:∃d:Int,d=((A8 y).getD (n-3).toNat 0:Nat)/\_:=⟨_,rfl,p (n-3) og og⟩;rw[<-x] at r G;rw[<-z] at u;rw[<-B] at v;have V:=zpz (Y8 y) (n-1).toNat;have W:=zpz (Y8 y) (n-2).toNat;have X:=zpz (Y8 y) (n-3).toNat;have aa:0<=a:=og;have ab:a<=999999999:=og;have ac:0<=b:=og;have O:b<=999999999:=og;have P:0<=d:=og;have Q:d<=999999999:=og;have aj:0<=(a*1000000000+b)*t:=Int.mul_nonneg og og;have ak:(a*1000000000+b)*t<=1000000000000000000:=(by have l:(a*1000000000+b)*t=a*t*1000000000+b*t:=(by grind);have h:=Int.mul_le_mul_of_nonneg_right O (show 0<=t by omega);rw[l];omega);have al:0<=d*t:=Int.mul_nonneg P og;have an:d*t<=999999999000000000:=(by have h:=Int.mul_le_mul Q Z og (by omega:(0:Int)<=999999999);omega);have hfin:Hid ((a*1000000000+b)*t+d*t/1000000000=((zqp y n.toNat t.toNat:Nat):Int)):=(by obtain⟨j,rfl⟩:=Int.eq_ofNat_of_zero_le (show 0<=n by omega);obtain⟨s,rfl⟩:=Int.eq_ofNat_of_zero_le (show 0<=t by omega);have L:((j:Int)-1).toNat=j-1:=og;have M:((j:Int)-2).toNat=j-2:=og;have N:((j:Int)-3).toNat=j-3:=og;unfold Hid zqp;rw[x,z,B,L,M,N,Int.toNat_natCast,Int.toNat_natCast];simp);obtain⟨H,I,J⟩:=F0 r u v;have K:Hid (∀k,Below w.heap.size w ((w.alloc (.cells #[.slice A (A8 y).length c] 28)).drewN k)):=fun k=>below_drewN ((Below.refl _ w).alloc (g _) _) k;clear p r u v x z B V W X G q C;go_in;go_wp2;go_quiet ((go_at_call 199;first|(with_reducible exact Calls.quiet_of_same (H.out _))|(with_reducible exact Calls.quiet_of_same (I.out _))|(with_reducible exact Calls.quiet_of_same (J.out _))));go_wp2;go_ret;exact⟨K2 hfin.out,K.out _⟩
def ycm (a:Nat) (w:World):Nat:=match w.cell? ⟨a,0,none⟩ with
 |some (.int _ t)=>1000000000-t.toNat
 |_=>0
theorem yja {a:Nat} {w:World} {k:IntKind} {t:Int} (h:w.cell? ⟨a,0,none⟩=some (.int k t)):ycm a w=1000000000-t.toNat:=by unfold ycm;rw[h]
def yev (x y:Nat) (a:Ending):Prop:=∃S:Nat,0<S/\a= .returned (.tuple #[.int .i64 (x/S:Nat),.int .i64 (y/S:Nat)])/\x/S<=999999999999999999
theorem yvr {w:World} {x y:Nat} (ha:IsN w lo hi va x) (Q:IsN w lo' o p y) (X:hi<=w.heap.size) (aE:o<=w.heap.size) (aG:y<=x) (r:3<=(A8 x).length) (aN:(A8 x).length<=4294967296):
 Calls i 192 #[va,p] w fun F w'=>yev x y F/\Below w.heap.size w w':=by
 obtain⟨L,ah⟩:=C7 ha Q;obtain⟨A,c,rfl,_,_,G⟩:=ha;obtain⟨B,d,rfl,_,_,aQ⟩:=Q;obtain⟨n,C⟩:=nm ((A8 x).length);have af:Hid (x<pw n):=(by rw[Hid,C];exact zro x);have ad:1<=(A8 x).getD (n-1) 0:=(by rw[zts];have au:pw (n-1)<=x:=lim_len_lt.1 og;have av:x<pw (n-1)*1000000000:=(by have:=af.out;rw[show n=(n-1)+1 from by omega,zlj,Nat.mul_comm] at this;exact this);have r:x/pw (n-1)<1000000000:=(by rw[Nat.div_lt_iff_lt_mul (zst _),Nat.mul_comm];exact av);rw[Nat.mod_eq_of_lt r];exact Nat.div_pos au (zst _));have aM:=zpz (Y8 x) (n-1);obtain⟨top,E⟩:=nm ((A8 x).getD (n-1) 0);obtain⟨b,off,rfl,aU,e,_⟩:=G (Y5 (j:=n-1) og);have W:∀wr,Below w.heap.size w wr->wr.cell? ⟨b,off+(n-1),none⟩=some (.int .u32 (top:Int)):=(by intro wr a;rw[E];exact(G.below a X).at_ _ _ (zqo og));obtain⟨aj,aO,ar⟩:=F0 W C E;rw[<-C] at r aN L⊢;rw[<-E] at ad aM;clear W C E G;have H:=cell_one_new w (.int .i64 (n:Int)) 3 0 _ rfl;have v:=cell_one_new (w.alloc (.cells #[.int .i64 (n:Int)] 3)) (.int .u64 1) 170 0 _ rfl;rw[Addr.add_lit,Nat.add_zero] at H v;rw[j] at v;have V:=(World.cell?_alloc_lt (w.alloc (.cells #[.int .i64 (n:Int)] 3)) (.cells #[.int .u64 1] 170) ⟨w.heap.size,0,none⟩ (by rw[j];show w.heap.size<_;omega)).trans H;have R:=(((Below.refl w.heap.size w).alloc (g _) (.cells #[.int .i64 (n:Int)] 3)).alloc (by rw[j];omega) (.cells #[.int .u64 1] 170));obtain⟨ai,ag⟩:=C7 R (And.intro V v);have ab:(((w.alloc (.cells #[.int .i64 (n:Int)] 3)).alloc (.cells #[.int .u64 1] 170)).heap.size)=w.heap.size+2:=(by rw[j,j]);have aq:=f ab;have aC:∀wr:World,(∃t,Row wr (w.heap.size+1) 170 t)->wr.frozen? ⟨w.heap.size+1,0,none⟩=false:=fun wr ⟨t,h⟩=>h.frozen 0;have aa:Row ((w.alloc (.cells #[.int .i64 (n:Int)] 3)).alloc (.cells #[.int .u64 1] 170)) (w.heap.size+1) 170 [.int .u64 1]:=(by have:=heap_alloc_new (w.alloc (.cells #[.int .i64 (n:Int)] 3)) (.cells #[.int .u64 1] 170);rw[j] at this;exact this);have ao:=f aa;clear H V v R ab aa aC;go_in;go_wp2;go_loopw [] (fun wr=>∃T:Nat,Row wr (w.heap.size+1) 170 [.int .u64 (T:Int)]/\wr.cell? ⟨w.heap.size,0,none⟩=some (.int .i64 (n:Int))/\Below w.heap.size w wr/\Hid (wr.heap.size=w.heap.size+2)/\1<=T/\T<=1000000000/\top*T<=999999999/\Hid (∃t,t<=9/\T=10^t)) (fun wr=>ycm (w.heap.size+1) wr);case atStart=>exact⟨1,ao.out,ag.out.1,ai.out,aq.out,by omega,by omega,by omega,0,by omega,rfl⟩
 case round=>
  obtain⟨T,hr,z,a,J,aR,aT,ac,hrel⟩:=hrel;have k:=hr.cell 0;have aB:=hr.frozen 0;have aA:=aj.out wr a;simp only[List.getElem?_cons_zero] at k;have aW:0<=(top:Int)*(T:Int):=Int.mul_nonneg og og;have aX:(top:Int)*(T:Int)<=999999999:=yps ac;rcases Int.lt_or_le ((top:Int)*T*10) 1000000000 with aH|aD
  ·have D:=zz1438 ad (zz1459 aH) hrel.out;have aS:=D.1;have aJ:=f D.2.1;have aL:=f D.2.2;clear D;go_wp2;go_quiet (fail);go_wp2;go_roundw
   case rel=>
    refine⟨T*10,?_,?_,below_drewN a _|>.setCell (by show w.heap.size<=w.heap.size+1;omega) _,?_,by omega,by omega,aL.out,aJ.out⟩
    ·have:=(hr.drewN nq).set_ 0 (.int .u64 ((T:Int)*10));rw[Int.natCast_mul];exact this
    ·rw[World.cell?_setCell_other _ _ _ _ (by simp)];exact z
    ·have:=J.out;simpa[Hid,World.setCell] using this
   case measure=>rw[yja k,yja (k:= .u64) (t:=(T:Int)*10) (World.cell?_setCell_same' _ _ _ (by show(wr.cell? _).isSome=true;rw[k];rfl))];omega
  ·obtain⟨S,P,M,N,ae,Y,Z⟩:=yvq r af.out aG (by rw[<-ar.out];exact ac) hrel.out;have ak:Hid (yev x y (.returned (.tuple #[.int .i64 (zqp x n T:Nat),.int .i64 (zqp y n T:Nat)]))):=⟨S,P,by rw[M,N],ae⟩;obtain⟨al,an⟩:=C7 (yfj Y) (yfj Z);clear M N ae Y Z P hrel;have aP:=f (And.intro z (And.intro k a));have aV:decide ((top:Int)*(T:Int)*10<1000000000)=false:=decide_eq_false og;go_wp2_with fail;go_quiet (fail);clear aD;go_wp2_with fail;have u:Below w.heap.size w (wr.drewN nq):=below_drewN a nq;have aZ:(wr.drewN nq).heap.size=w.heap.size+2:=J.out;have I:(wr.drewN nq).cell? ⟨w.heap.size,0,none⟩=some (.int .i64 (n:Int)):=z;have K:(wr.drewN nq).cell? ⟨w.heap.size+1,0,none⟩=some (.int .u64 (T:Int)):=k;clear z k aA aB hr a J;generalize wr.drewN nq=a2 at*;obtain⟨O,ay⟩:=C7 (L.out.below u X) (ah.out.below u aE);refine(yiu (n:Int) (T:Int) O.out og og og og og al.out I K og og).mono ?_;rw[Int.toNat_natCast,Int.toNat_natCast];rintro F a0 ⟨rfl,e⟩;have U:=u.trans (e.mono u.size);have aI:=(e.cell (p:=⟨w.heap.size,0,none⟩) (by show w.heap.size<_;omega)).trans I;have aK:=(e.cell (p:=⟨w.heap.size+1,0,none⟩) (by show w.heap.size+1<_;omega)).trans K;have aY:=e.size;clear I K O;go_wp2_with fail;refine(yiu (n:Int) (T:Int) (ay.out.below e og) og og og og og an.out aI aK og og).mono ?_;rw[Int.toNat_natCast,Int.toNat_natCast];rintro F a1 ⟨rfl,az⟩;go_wp2_with fail;go_ret2;exact⟨ak.out,U.trans (az.mono U.size)⟩
theorem yws {A B X x y c:Int} (h:V+c*P=X*A+Y*B) (hr:r=X*x+c+Y*y-c'*1000000000):V+P*r+c'*(1000000000*P)=X*(A+P*x)+Y*(B+P*y):=by subst hr;grind
theorem zuv {a b d:List Nat} {X x y c:Int} (g:k<d.length) (j:x=(a.getD k 0:Nat)) (l:y=(b.getD k 0:Nat)) (hr:r=X*x+c+Y*y-c'*1000000000) (i:0<=r)
 (h:(val (d.take k):Int)+c*pw k=X*val (a.take k)+Y*val (b.take k)):(val ((d.set k r.toNat).take (k+1)):Int)+c'*pw (k+1)=X*val (a.take (k+1))+Y*val (b.take (k+1)):=by have e:=yws h hr;rw[zvl g,val_take_succ' a,val_take_succ' b,zlj];have f:((r.toNat:Nat):Int)=r:=Int.toNat_of_nonneg i;simp only[Int.natCast_add,Int.natCast_mul,f,<-j,<-l];exact e
theorem ywr {c:Int} {R:Nat} (e:0<=V) (d:V<P) (b:(R:Int)<P) (h:V+c*P=R):V=R:=by
 have a:0<P:=og;rcases Int.lt_trichotomy c 0 with hc|hc|hc
 ·have:=Int.mul_le_mul_of_nonneg_right (show c<=-1 by omega) (Int.le_of_lt a);rw[Int.neg_mul,Int.one_mul] at this;omega
 ·subst hc;omega
 ·have:=Int.mul_le_mul_of_nonneg_right (show 1<=c by omega) (Int.le_of_lt a);rw[Int.one_mul] at this;omega
theorem yjm {X x:Int} (f: -999999999<=X) (d:X<=999999999) (b:0<=x) (c:x<=999999999): -999999998000000001<=X*x/\X*x<=999999998000000001/\(0<=X->0<=X*x)/\(X<=0->X*x<=0):=by
 rcases Int.lt_or_le X 0 with h|h
 ·have a:=zqu (x:= -X) (y:=x) og og b c;rw[Int.neg_mul] at a;exact⟨by omega,by omega,by omega,by omega⟩
 ·have a:=zqu (x:=X) (y:=x) h d b c;refine⟨by omega,by omega,by omega,fun e=> ?_⟩;have:X=0:=og;subst this;omega
theorem yna {t:Int} (h:t<0):∃q,t.tdiv 1000000000=q/\((q=t/1000000000/\t%1000000000=0)\/(q=t/1000000000+1/\0<t%1000000000)):=by
 refine⟨_,rfl,?_⟩;rw[Int.tdiv_eq_ediv];split
 ·rename_i hd;rcases hd with hd|hd
  ·omega
  ·exact .inl ⟨by omega,Int.emod_eq_zero_of_dvd hd⟩
 ·rename_i hd;refine .inr ⟨by simp,?_⟩;rcases Int.lt_or_le 0 (t%1000000000) with a|a
  ·exact a
  ·exact absurd (.inr (Int.dvd_of_emod_eq_zero og)) hd
theorem yjj {w:World} {A B R:Nat} (x y:Int) (ha:IsN w lo hi va A) (al:IsN w lo' o p B) (aq:hi<=w.heap.size) (ar:o<=w.heap.size) (aE: -999999999<=x) (aG:x<=999999999) (aH: -999999999<=y) (aI:y<=999999999)
 (ae:(0<=x/\y<=0)\/(x<=0/\0<=y)) (Z:(R:Int)=x*A+y*B) (aa:R<=A) (X:B<=A) (aM:(A8 A).length<=4294967296):
 Calls i 193 #[va,p,.int .i64 x,.int .i64 y] w fun W w'=>(∃l,W= .returned l/\IsN w' w.heap.size w'.heap.size l R)/\Below w.heap.size w w':=by
 have ao:=zkn X;have aj:Hid (R<pw (A8 A).length):=s aa (zro A);obtain⟨aK,c,rfl,_,_,ah⟩:=ha;obtain⟨aL,d,rfl,_,_,ai⟩:=al;generalize ad:A8 A=a at*;generalize F:A8 B=b at*;have U:Hid (Lo a/\val a=A):=(by rw[Hid,<-ad];exact⟨Y8 A,Z6 A⟩);have V:Hid (Lo b/\val b=B):=(by rw[Hid,<-F];exact⟨Y8 B,Z6 B⟩);have af:=f Z;clear ad F Z aa X;go_in;go_wp2_with (at_make;refine zvo zky rfl _ _ rfl a.length rfl rfl rfl rfl og ?_;intro v a1 Y az an aJ)
 go_loopw [10,18] (fun ag T wr=>∃(k:Nat) (n:List Nat) (e:Int),k<=a.length/\T= .int .i64 (k:Int)/\ag= .int .i64 e/\-1000000000<=e/\e<=1000000000/\Row wr v 140 (F6 .u32 n)/\Below v w wr/\Hid (wr.heap.size=v+1)/\
  Hid (n.length=a.length/\Lo n/\(val (n.take k):Int)+e*pw k=x*val (a.take k)+y*val (b.take k))) (fun _ T _=>a.length-(intOf T).toNat)
 case atStart=>exact⟨0,_,0,Nat.zero_le _,rfl,rfl,by omega,by omega,az,an,aJ,by simp,zut _,by simp[val]⟩
 case round=>
  obtain⟨k,n,e,aQ,rfl,rfl,aN,aO,hr,r,t,hrel⟩:=hrel;have M:Below w.heap.size w wr:=(by have:=Y.out;subst this;exact r);rcases m k a.length with I|aP
  ·obtain⟨ba,oa,rfl,_,_,ab⟩:=(ah.below M aq) (Y5 (j:=k) I);obtain⟨j,D,aA,aB,aR⟩:=zkw (j:=k) U.out.1 ab I;clear ab;obtain⟨z,aT,aU,aV⟩:=hr.num (i:=k) (by rw[hrel.out.1];exact I);have aW:=hr.frozen k;have C:Hid (k<n.length):=(by rw[hrel.out.1];exact I);obtain⟨aX,aY,J,K⟩:=yjm aE aG aA aB;rcases m k b.length with F|N
   ·obtain⟨bb,ob,rfl,_,_,ac⟩:=(ai.below M ar) (Y5 (j:=k) F);obtain⟨l,hv,aC,aD,aS⟩:=zkw (j:=k) V.out.1 ac F;clear ac;obtain⟨aZ,L,u,q3⟩:=yjm aH aI aC aD;(have s0: -999999998000000001<=x*j+y*l:=by rcases ae with⟨E,H⟩|⟨E,H⟩<;>(have:=J;have:=K;have:=u;have:=q3;omega));(have a0:x*j+y*l<=999999998000000001:=by rcases ae with⟨E,H⟩|⟨E,H⟩<;>(have:=J;have:=K;have:=u;have:=q3;omega));clear J K u q3;rcases Int.lt_or_le (x*j+e+y*l) 0 with O|au
    ·obtain⟨q,av,⟨L,u⟩|⟨L,u⟩⟩:=yna O
     ·have P: -1000000001<=q:=og;have Q:q<=0:=og;have S:x*j+e+y*l-q*1000000000=0:=og;go_wp2;go_roundw;(case rel=>refine⟨k+1,n.set k ((x*j+e+y*l)%1000000000).toNat,(x*j+e+y*l)/1000000000,by omega,by go_num,ztn og,by omega,by omega,?_,r.setCell (g _) _,by have:=t.out;simpa[Hid,World.setCell] using this,by rw[List.length_set];exact hrel.out.1,Y3 hrel.out.2.1 og,zuv (x:=j) (y:=l) (c:=e) (c':=(x*j+e+y*l)/1000000000) (r:=(x*j+e+y*l)%1000000000) C.out D.out hv.out og og hrel.out.2.2⟩;exact hr.setNum k _ _ og);case measure=>simp[intOf];omega
     ·have P: -1000000001<=q:=og;have Q:q<=0:=og;have S:x*j+e+y*l-q*1000000000<0:=og;have ay: -1000000000<x*j+e+y*l-q*1000000000:=og;go_wp2;go_roundw;(case rel=>refine⟨k+1,n.set k ((x*j+e+y*l)%1000000000).toNat,(x*j+e+y*l)/1000000000,by omega,by go_num,ztn og,by omega,by omega,?_,r.setCell (g _) _,by have:=t.out;simpa[Hid,World.setCell] using this,by rw[List.length_set];exact hrel.out.1,Y3 hrel.out.2.1 og,zuv (x:=j) (y:=l) (c:=e) (c':=(x*j+e+y*l)/1000000000) (r:=(x*j+e+y*l)%1000000000) C.out D.out hv.out og og hrel.out.2.2⟩;exact hr.setNum k _ _ og);case measure=>simp[intOf];omega
    ·go_wp2;go_roundw;(case rel=>refine⟨k+1,n.set k ((x*j+e+y*l)%1000000000).toNat,(x*j+e+y*l)/1000000000,by omega,by go_num,ztn og,by omega,by omega,?_,r.setCell (g _) _,by have:=t.out;simpa[Hid,World.setCell] using this,by rw[List.length_set];exact hrel.out.1,Y3 hrel.out.2.1 og,zuv (x:=j) (y:=l) (c:=e) (c':=(x*j+e+y*l)/1000000000) (r:=(x*j+e+y*l)%1000000000) C.out D.out hv.out og og hrel.out.2.2⟩;exact hr.setNum k _ _ og);case measure=>simp[intOf];omega
   ·clear J K;rcases Int.lt_or_le (x*j+e) 0 with O|au
    ·obtain⟨q,av,⟨L,u⟩|⟨L,u⟩⟩:=yna O
     ·have P: -1000000001<=q:=og;have Q:q<=0:=og;have S:x*j+e-q*1000000000=0:=og;go_wp2;go_roundw;(case rel=>refine⟨k+1,n.set k ((x*j+e)%1000000000).toNat,(x*j+e)/1000000000,by omega,by go_num,ztn og,by omega,by omega,?_,r.setCell (g _) _,by have:=t.out;simpa[Hid,World.setCell] using this,by rw[List.length_set];exact hrel.out.1,Y3 hrel.out.2.1 og,zuv (x:=j) (y:=0) (c:=e) (c':=(x*j+e)/1000000000) (r:=(x*j+e)%1000000000) C.out D.out (by rw[zpr N];rfl) og og hrel.out.2.2⟩;exact hr.setNum k _ _ og);case measure=>simp[intOf];omega
     ·have P: -1000000001<=q:=og;have Q:q<=0:=og;have S:x*j+e-q*1000000000<0:=og;have ay: -1000000000<x*j+e-q*1000000000:=og;go_wp2;go_roundw;(case rel=>refine⟨k+1,n.set k ((x*j+e)%1000000000).toNat,(x*j+e)/1000000000,by omega,by go_num,ztn og,by omega,by omega,?_,r.setCell (g _) _,by have:=t.out;simpa[Hid,World.setCell] using this,by rw[List.length_set];exact hrel.out.1,Y3 hrel.out.2.1 og,zuv (x:=j) (y:=0) (c:=e) (c':=(x*j+e)/1000000000) (r:=(x*j+e)%1000000000) C.out D.out (by rw[zpr N];rfl) og og hrel.out.2.2⟩;exact hr.setNum k _ _ og);case measure=>simp[intOf];omega
    ·go_wp2;go_roundw;(case rel=>refine⟨k+1,n.set k ((x*j+e)%1000000000).toNat,(x*j+e)/1000000000,by omega,by go_num,ztn og,by omega,by omega,?_,r.setCell (g _) _,by have:=t.out;simpa[Hid,World.setCell] using this,by rw[List.length_set];exact hrel.out.1,Y3 hrel.out.2.1 og,zuv (x:=j) (y:=0) (c:=e) (c':=(x*j+e)/1000000000) (r:=(x*j+e)%1000000000) C.out D.out (by rw[zpr N];rfl) og og hrel.out.2.2⟩;exact hr.setNum k _ _ og);case measure=>simp[intOf];omega
  ·obtain rfl:k=a.length:=og;have ak:Hid (val n=R):=(by have h:=hrel.out.2.2;rw[zln (Nat.le_of_eq hrel.out.1),zln (g _),zln ao,U.out.2,V.out.2,<-af.out] at h;have E:=zna hrel.out.2.1;rw[hrel.out.1] at E;have H:=aj.out;exact Int.ofNat_inj.1 (ywr og og og h));have G:Hid (Row wr v 140 (F6 .u32 n)/\n.length=a.length/\Lo n):=⟨hr,hrel.out.1,hrel.out.2.1⟩;clear hr hrel;go_wp2_with fail;rw[<-G.out.2.1];refine(zxd _ _ n wr v (v+1) G.out.2.2 (g _) (by have:=G.out.2.1;unfold maxLen;omega) G.out.1.sv).mono ?_;rintro W a2 ⟨⟨l,rfl,hv⟩,rfl⟩;go_wp2_with fail;go_ret;refine⟨⟨_,rfl,?_⟩,M⟩;rw[<-ak.out];exact hv.wide (oh Y) (oh t)
end Go.Proofs.YtlhhbccgfkhflaaGreatDoor
