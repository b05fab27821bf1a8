/-
 The contract of the reference's Check.
-/
import Derived.Test.YtpbilanpeioonaaGreatDoorProofDualProves24
namespace Go.Proofs.YtpbilanpeioonaaGreatDoor
open Go.RowKit
set_option linter.unusedVariables false
set_option maxRecDepth 100000
set_option maxHeartbeats 8000000
open _root_.Go.Lib renaming hid → H
open _root_.Go renaming Value → J, Calls → M, Addr → P
open _root_.Go.RowKit renaming Below → L, Hid → e
open _root_.Go.Proofs.Tryz renaming prog → N
variable {j k : Nat} {out Q h : J} {r : Option Nat}
theorem zut {w:World} {l:List Nat} {B u:Nat} (ha:IsL .u32 w B u Q l):
 M N 149 #[Q] w fun f w'=>f= .returned (.int .i64 (N2 l))/\w=w':=by
 obtain⟨A,C,rfl,hc,E,o⟩:=ha;by_cases i:1024<l.length
 ·have a:=H (yhx i);go_in;go_wp2;go_ret;exact⟨I9 a.out.symm,rfl⟩
 ·go_in;go_wp2;go_loop [3] (fun n=>∃k:Nat,k<=l.length/\n= .int .i64 k/\e (∀j,j<k->l.getD j 0<1000000000)) (fun n=>l.length-(intOf n).toNat);case atStart=>exact⟨0,Nat.zero_le _,rfl,fun j v=>by omega⟩
  case round=>
   obtain⟨k,F,rfl,g⟩:=hrel;by_cases d:k<l.length
   ·obtain⟨r,off,rfl,_,_,b⟩:=o (N0 (j:=k) d);obtain⟨x,c,y,t⟩:=zoe (j:=k) b d;clear b;rcases Int.lt_or_le x 1000000000 with z|z
    ·go_wp2;go_round
     case rel=>
      refine⟨k+1,d,by go_num,?_⟩;intro j v;rcases Nat.lt_or_ge j k with h|h
      ·exact g.out j h
      ·obtain rfl:j=k:=og;have:=c.out;omega
     case measure=>simp[intOf];omega
    ·have a:=H (yhv i (yjo d) (oh c));go_wp2;go_ret;exact⟨I9 a.out.symm,rfl⟩
   ·obtain rfl:k=l.length:=og;have p:=H (ycn i (ylf g.out));clear g;by_cases s:0<l.length
    ·obtain⟨r,off,rfl,_,_,b⟩:=o (N0 (j:=l.length-1) og);obtain⟨x,c,y,t⟩:=zoe (j:=l.length-1) b og;clear b;have q:=H (ykp s);by_cases m:x=0
     ·subst m;have a:e (N2 l=3):=(by unfold e;rw[p.out,if_pos];rw[q.out];have:=c.out;omega);go_wp2;go_ret;exact⟨I9 a.out.symm,rfl⟩
     ·have D:(x==0)=false:=beq_eq_false_iff_ne.2 m;have a:e (N2 l=0):=(by unfold e;rw[p.out,if_neg];rw[q.out];have:=c.out;omega);clear m;go_wp2;go_ret;exact⟨I9 a.out.symm,rfl⟩
    ·have f:l=[]:=List.eq_nil_of_length_eq_zero og;subst f;(have a:e (N2 []=0):=by show N2 []=0;decide);go_wp2;go_ret;exact⟨I9 a.out.symm,rfl⟩
theorem zwa {w:World} {a b:List Nat} (ha:IsL .u32 w 0 w.heap.size Q a) (r:IsL .u32 w 0 w.heap.size h b):M N 80 #[Q,h] w fun f w'=>f= .returned (.int .i64 (Z9 a b))/\w=w':=by
 obtain⟨n,p⟩:=C7 ha r;obtain⟨A,C,rfl,_,_,_⟩:=ha;obtain⟨B,d,rfl,_,_,_⟩:=r;obtain⟨x,s⟩:=nm (N2 a);obtain⟨y,t⟩:=nm (N2 b);obtain⟨c,i⟩:=C7 s t;clear s t;by_cases l:x=0;(case neg=>have u:(x !=0)=true:=bne_iff_ne.2 l;have g:e (Z9 a b=x):=(by unfold e Z9;rw[<-c.out,if_pos l]);go_in;go_wp2_with fail;refine(zut n.out).mono ?_;rw[<-c.out];rintro f k ⟨rfl,rfl⟩;go_wp2_with fail;go_ret;exact⟨I9 g.out.symm,rfl⟩);have u:(x !=0)=false:=(by rw[l];rfl);have o:=H l;clear l;by_cases m:y=0;(case neg=>have v:(y !=0)=true:=bne_iff_ne.2 m;have g:e (Z9 a b=y):=(by unfold e Z9;rw[<-c.out,if_neg (by simp[o.out]),<-i.out,if_pos m]);go_in;go_wp2_with fail;refine(zut n.out).mono ?_;rw[<-c.out];rintro f k ⟨rfl,rfl⟩;go_wp2_with fail;refine(zut p.out).mono ?_;rw[<-i.out];rintro f k ⟨rfl,rfl⟩;go_wp2_with fail;go_ret;exact⟨I9 g.out.symm,rfl⟩);have v:(y !=0)=false:=(by rw[m];rfl);have q:=H m;clear m;by_cases j:b=[]
 ·have z:((b.length:Int)==0)=true:=(by rw[j];rfl);have g:e (Z9 a b=6):=(by unfold e Z9;rw[<-c.out,if_neg (by simp[o.out]),<-i.out,if_neg (by simp[q.out]),if_pos j]);clear j;go_in;go_wp2_with fail;refine(zut n.out).mono ?_;rw[<-c.out];rintro f k ⟨rfl,rfl⟩;go_wp2_with fail;refine(zut p.out).mono ?_;rw[<-i.out];rintro f k ⟨rfl,rfl⟩;go_wp2_with fail;go_ret;exact⟨I9 g.out.symm,rfl⟩
 ·have z:((b.length:Int)==0)=false:=beq_eq_false_iff_ne.2 (by have:=List.length_pos_iff.2 j;omega);have g:e (Z9 a b=0):=(by unfold e Z9;rw[<-c.out,if_neg (by simp[o.out]),<-i.out,if_neg (by simp[q.out]),if_neg j]);clear j;go_in;go_wp2_with fail;refine(zut n.out).mono ?_;rw[<-c.out];rintro f k ⟨rfl,rfl⟩;go_wp2_with fail;refine(zut p.out).mono ?_;rw[<-i.out];rintro f k ⟨rfl,rfl⟩;go_wp2_with fail;go_ret;exact⟨I9 g.out.symm,rfl⟩
theorem zsg {w:World} {x y:Nat} (ha:IsN w 0 w.heap.size Q x) (d:IsN w 0 w.heap.size h y) (b:(A9 x).length<=1024) (c:(A9 y).length<=1024):
 M N 81 #[Q,h] w fun a w'=>(∃v,a= .returned v/\IsN w' 0 w'.heap.size v (Nat.gcd x y))/\L w.heap.size w w':=
 ynb ha d (Nat.le_trans b og) (Nat.le_trans c og)
theorem yfa {w:World} {v:J} {r:Raw} (h:IsR w (C6 w) v r):M N 28 #[v] w fun b w'=>b= .returned (.int .i64 (O0 r))/\L w.heap.size w w':=by
 obtain⟨A,m,B,n,rfl,E,F⟩:=ykh h;obtain⟨f,aE,aa,ak,aH⟩:=J7 w #[.bool r.neg,.slice A r.num.length m,.slice B r.den.length n] 37;obtain⟨z,K⟩:=C7 (IsK.isL (IsK.stb.next E aa) (lo:=0) (hi:=f.heap.size) fun av a=>⟨Nat.zero_le _,a⟩) (IsK.isL (IsK.stb.next F aa) (lo:=0) (hi:=f.heap.size) fun av a=>⟨Nat.zero_le _,a⟩);obtain⟨R,U,V⟩:=C4 ak;obtain⟨O,Q⟩:=C7 ak aa;have aI:r.num.length<=9223372036854775807:=(by have:=z.out.length_le;unfold maxLen at this;omega);clear h E F ak aa;obtain⟨x,au⟩:=nm (Z9 r.num r.den);have l:=H au;clear au;by_cases T:x=0;(case neg=>have ay:(x !=0)=true:=bne_iff_ne.2 T;have i:e (O0 r=x):=(by rw[e,l.out];exact yht (by rw[<-l.out];exact T));go_in;go_wp2_with fail;refine(zwa z.out K.out).mono ?_;rw[<-l.out];rintro b c ⟨rfl,rfl⟩;go_wp2_with fail;go_ret;exact⟨I9 i.out.symm,Q.out⟩);have ay:(x !=0)=false:=(by rw[T];rfl);have G:=yhs (num:=r.num) (den:=r.den) (by rw[<-l.out];exact T);obtain⟨aq,aG,k,j⟩:=U2 (yhu (r:=r) (by rw[<-l.out];exact T)) G (z.out.isN G.1) (K.out.isN G.2.1);have aD:=(zrt G.1).2.2;have aC:=(zrt G.2.1).2.2;obtain⟨t,q⟩:=C7 (zyq G.1) (zyq G.2.1);clear G T;clear aD aC;obtain⟨d,Z⟩:=nm (Nat.gcd (val r.num) (val r.den));have W:e ((r.num=[]/\r.neg=true)\/d≠1->O0 r=3):=fun h=>(by rw[aq.out,if_pos (by rw[<-Z];exact h)]);have ad:e (¬((r.num=[]/\r.neg=true)\/d≠1)->O0 r=0):=fun h=>(by rw[aq.out,if_neg (by rw[<-Z];exact h)]);have o:=H Z;clear Z;obtain⟨s,ar⟩:=nm (r.neg);rw[<-ar] at R aE W ad O⊢;clear ar;by_cases E:(A9 d).length=1;(case neg=>have az:(((A9 d).length:Int) !=1)=true:=bne_iff_ne.2 og;have i:e (O0 r=3):=W.out (.inr fun h=>E (by rw[h,zkv];rfl));clear E;go_in;go_wp2_with fail;refine(zwa z.out K.out).mono ?_;rw[<-l.out];rintro b c ⟨rfl,rfl⟩;go_wp2_with fail;refine(show M N 81 #[.slice A r.num.length m,.slice B r.den.length n] f (fun b w'=>(∃v,b= .returned v/\IsN w' 0 w'.heap.size v d)/\L f.heap.size f w') from by rw[o.out];exact zsg k.out j.out t.out q.out).mono ?_;rintro b c ⟨⟨ac,rfl,hv⟩,a⟩;have p:=nB Q a;obtain⟨C,D,b2⟩:=C4 (O.out.next a);obtain⟨y,u⟩:=C7 (IsN.next k.out a) (IsN.next j.out a);obtain⟨Y,ab,rfl,_,_,_⟩:=hv;clear a R U V;go_wp2_with fail;go_ret;exact⟨I9 i.out.symm,p.out⟩);have az:(((A9 d).length:Int) !=1)=false:=(by rw[E];rfl);have X:=H E;have aJ:0<(A9 d).length:=og;clear E;by_cases F:d=1;(case neg=>have aA:((d:Int) !=1)=true:=bne_iff_ne.2 og;have i:e (O0 r=3):=W.out (.inr F);clear F;go_in;go_wp2_with fail;refine(zwa z.out K.out).mono ?_;rw[<-l.out];rintro b c ⟨rfl,rfl⟩;go_wp2_with fail;refine(show M N 81 #[.slice A r.num.length m,.slice B r.den.length n] f (fun b w'=>(∃v,b= .returned v/\IsN w' 0 w'.heap.size v d)/\L f.heap.size f w') from by rw[o.out];exact zsg k.out j.out t.out q.out).mono ?_;rintro b c ⟨⟨ac,rfl,hv⟩,a⟩;have p:=nB Q a;have g:=H (O.out.next a);obtain⟨C,D,b2⟩:=C4 g.out;obtain⟨y,u⟩:=C7 (IsN.next k.out a) (IsN.next j.out a);obtain⟨Y,ab,rfl,_,_,_⟩:=hv;clear a R U V;go_wp2_with fail;refine(show M N 81 #[.slice A r.num.length m,.slice B r.den.length n] c (fun b w'=>(∃v,b= .returned v/\IsN w' 0 w'.heap.size v d)/\L c.heap.size c w') from by rw[o.out];exact zsg y.out u.out t.out q.out).mono ?_;rintro b an ⟨⟨al,rfl,hv⟩,a⟩;have I:=nB p a;obtain⟨d0,ag,ah⟩:=C4 (g.out.next a);obtain⟨ae,aj,rfl,_,_,_⟩:=id hv;obtain⟨af,og,rfl,ai,_,_⟩:=zpu (zot hv) X.out;clear a C D b2;go_wp2_with fail;go_ret;exact⟨I9 i.out.symm,I.out⟩);have aA:((d:Int) !=1)=false:=(by rw[F];rfl);have ao:=H F;clear F;cases s with
 |false=>have i:e (O0 r=0):=ad.out (by simp[ao.out]);go_in;go_wp2_with fail;refine(zwa z.out K.out).mono ?_;rw[<-l.out];rintro b c ⟨rfl,rfl⟩;go_wp2_with fail;refine(show M N 81 #[.slice A r.num.length m,.slice B r.den.length n] f (fun b w'=>(∃v,b= .returned v/\IsN w' 0 w'.heap.size v d)/\L f.heap.size f w') from by rw[o.out];exact zsg k.out j.out t.out q.out).mono ?_;rintro b c ⟨⟨ac,rfl,hv⟩,a⟩;have p:=nB Q a;have g:=H (O.out.next a);obtain⟨C,D,b2⟩:=C4 g.out;obtain⟨y,u⟩:=C7 (IsN.next k.out a) (IsN.next j.out a);obtain⟨Y,ab,rfl,_,_,_⟩:=hv;clear a R U V;go_wp2_with fail;refine(show M N 81 #[.slice A r.num.length m,.slice B r.den.length n] c (fun b w'=>(∃v,b= .returned v/\IsN w' 0 w'.heap.size v d)/\L c.heap.size c w') from by rw[o.out];exact zsg y.out u.out t.out q.out).mono ?_;rintro b an ⟨⟨al,rfl,hv⟩,a⟩;have I:=nB p a;obtain⟨d0,ag,ah⟩:=C4 (g.out.next a);obtain⟨ae,aj,rfl,_,_,_⟩:=id hv;obtain⟨af,og,rfl,ai,_,_⟩:=zpu (zot hv) X.out;clear a C D b2;go_wp2_with fail;go_ret;exact⟨I9 i.out.symm,I.out⟩
 |true=>
  by_cases S:r.num=[]
  ·have aB:((r.num.length:Int)==0)=true:=(by rw[S];rfl);have i:e (O0 r=3):=W.out (.inl ⟨S,rfl⟩);clear S;go_in;go_wp2_with fail;refine(zwa z.out K.out).mono ?_;rw[<-l.out];rintro b c ⟨rfl,rfl⟩;go_wp2_with fail;refine(show M N 81 #[.slice A r.num.length m,.slice B r.den.length n] f (fun b w'=>(∃v,b= .returned v/\IsN w' 0 w'.heap.size v d)/\L f.heap.size f w') from by rw[o.out];exact zsg k.out j.out t.out q.out).mono ?_;rintro b c ⟨⟨ac,rfl,hv⟩,a⟩;have p:=nB Q a;have g:=H (O.out.next a);obtain⟨C,D,b2⟩:=C4 g.out;obtain⟨y,u⟩:=C7 (IsN.next k.out a) (IsN.next j.out a);obtain⟨Y,ab,rfl,_,_,_⟩:=hv;clear a R U V;go_wp2_with fail;refine(show M N 81 #[.slice A r.num.length m,.slice B r.den.length n] c (fun b w'=>(∃v,b= .returned v/\IsN w' 0 w'.heap.size v d)/\L c.heap.size c w') from by rw[o.out];exact zsg y.out u.out t.out q.out).mono ?_;rintro b an ⟨⟨al,rfl,hv⟩,a⟩;have I:=nB p a;obtain⟨d0,ag,ah⟩:=C4 (g.out.next a);obtain⟨ae,aj,rfl,_,_,_⟩:=id hv;obtain⟨af,og,rfl,ai,_,_⟩:=zpu (zot hv) X.out;clear a C D b2;go_wp2_with fail;go_ret;exact⟨I9 i.out.symm,I.out⟩
  ·have aB:((r.num.length:Int)==0)=false:=beq_eq_false_iff_ne.2 (by have:=List.length_pos_iff.2 S;omega);have i:e (O0 r=0):=ad.out (by simp[ao.out,S]);clear S;go_in;go_wp2_with fail;refine(zwa z.out K.out).mono ?_;rw[<-l.out];rintro b c ⟨rfl,rfl⟩;go_wp2_with fail;refine(show M N 81 #[.slice A r.num.length m,.slice B r.den.length n] f (fun b w'=>(∃v,b= .returned v/\IsN w' 0 w'.heap.size v d)/\L f.heap.size f w') from by rw[o.out];exact zsg k.out j.out t.out q.out).mono ?_;rintro b c ⟨⟨ac,rfl,hv⟩,a⟩;have p:=nB Q a;have g:=H (O.out.next a);obtain⟨C,D,b2⟩:=C4 g.out;obtain⟨y,u⟩:=C7 (IsN.next k.out a) (IsN.next j.out a);obtain⟨Y,ab,rfl,_,_,_⟩:=hv;clear a R U V;go_wp2_with fail;refine(show M N 81 #[.slice A r.num.length m,.slice B r.den.length n] c (fun b w'=>(∃v,b= .returned v/\IsN w' 0 w'.heap.size v d)/\L c.heap.size c w') from by rw[o.out];exact zsg y.out u.out t.out q.out).mono ?_;rintro b an ⟨⟨al,rfl,hv⟩,a⟩;have I:=nB p a;obtain⟨d0,ag,ah⟩:=C4 (g.out.next a);obtain⟨ae,aj,rfl,_,_,_⟩:=id hv;obtain⟨af,og,rfl,ai,_,_⟩:=zpu (zot hv) X.out;clear a C D b2;go_wp2_with fail;go_ret;exact⟨I9 i.out.symm,I.out⟩
theorem zz1426 {l:List Raw} {r:Raw} (h:l[j]? =some r):(l.map O0).getD j 0=O0 r:=by rw[List.getD_eq_getElem?_getD,List.getElem?_map,h];rfl
theorem zz1438 {a:Type} {l:List a} (h:j<l.length):∃x,l[j]? =some x:=⟨_,List.getElem?_eq_getElem h⟩
theorem ynh {w:World} {v:J} {l:List Raw} (h:IsV w (C6 w) v l):
 M N 46 #[v] w fun q w'=>q= .returned (.int .i64 (zrr l))/\L w.heap.size w w':=by
 have B:=H h;obtain⟨A,P,rfl,U⟩:=K3 h;clear h;go_in;go_wp2_with fail;go_loopw [3] (fun s wr=>∃k:Nat,k<=l.length/\s= .int .i64 (k:Int)/\L w.heap.size w wr/\e (∀j,j<k->(l.map O0).getD j 0=0)) (fun s _=>l.length-(intOf s).toNat);case atStart=>exact⟨0,Nat.zero_le _,rfl,Below.refl _ _,fun j E=>by omega⟩
 case round=>
  obtain⟨k,T,rfl,i,hrel⟩:=hrel;have n:=H i;have p:=H hrel.out;clear hrel;rcases Nat.lt_or_ge k l.length with F|S
  ·obtain⟨r,hr⟩:=zz1438 F;obtain⟨O,off,I,V,K,W,rfl,R,y,a,b,c⟩:=znt (IsV.stb.next B.out i) hr;obtain⟨t,u⟩:=C7 y hr;have Q:=U0;obtain⟨x,z⟩:=nm (O0 r);have g:=H z;clear y hr i z;by_cases d:x=0
   ·have D:(x !=0)=false:=(by rw[d];rfl);have C:=H d;clear d;go_wp2_with fail;refine(yfa t.out).mono ?_;rw[<-g.out];rintro q G ⟨rfl,f⟩;have m:=nB n f;clear f;go_wp2_with fail;go_roundw
    case rel=>
     refine⟨k+1,by omega,by go_num,m.out,fun j E=> ?_⟩;rcases Nat.lt_or_ge j k with h|h
     ·exact p.out j h
     ·obtain rfl:j=k:=og;rw[zz1426 u.out,<-g.out,C.out]
    case measure=>simp[intOf];omega
   ·have D:(x !=0)=true:=bne_iff_ne.2 d;have o:e (zrr l=x):=(by rw[e];exact zue p.out (by rw[List.getElem?_map,u.out,g.out];rfl) d);clear d;go_wp2_with fail;refine(yfa t.out).mono ?_;rw[<-g.out];rintro q G ⟨rfl,f⟩;have m:=nB n f;clear f;go_wp2_with fail;go_ret;exact⟨I9 o.out.symm,m.out⟩
  ·obtain rfl:k=l.length:=og;have o:e (zrr l=0):=(by rw[e];exact zvi (by rw[List.length_map];exact p.out));clear i;go_wp2_with fail;go_ret;exact⟨I9 o.out.symm,n.out⟩
structure DSt (w W:World) (g B sb:Nat) (l:List Int) (u p x t:Nat) (y z A a b c i m n o:J) (q:ProgQ) (s:Sol):Prop where
 bel:L w.heap.size w W
 d:IsD W g l
 rp:Row W B 32 [y,z,A]
 vp:IsP W (K4 u p) (.agg #[y,z,A]) (J6 q)
 rs:Row W sb 39 [a,b,c,i,m,n,o]
 vs:IsSol W (K4 x t) (.agg #[a,b,c,i,m,n,o]) s
 ord:w.heap.size<=g/\g<u/\u<=p/\p<=B/\B<x/\x<=t/\t<=sb/\sb<W.heap.size
section
variable {w W C : World} {g B sb : Nat} {l : List Int} {u p x t : Nat} {y z A a b c i m n o : J} {q : ProgQ} {s : Sol}
theorem DSt.grown (h:DSt w W g B sb l u p x t y z A a b c i m n o q s) (f:W.grownBy C r) (hr:∀d,r=some d->sb<d):DSt w C g B sb l u p x t y z A a b c i m n o q s:=by have F:=h.ord;have D:∀k j,j<=sb->L8 (K4 k j) (K4 k j) W C:=fun k j E=>zks f fun d v=>⟨by have:=v.2;omega,fun e=>by have:=hr d e.symm;have:=v.2;omega⟩;exact⟨h.bel.grown f h.bel.size fun d e=>by have:=hr d e;omega,h.d.grownN f fun d e=>by have:=hr d e;omega,h.rp.grownN f fun d e=>by have:=hr d e;omega,IsP.stb.to h.vp (D _ _ og),h.rs.grownN f fun d e=>by have:=hr d e;omega,IsSol.stb.to h.vs (D _ _ og),by have:=f.size;omega⟩
theorem DSt.next (h:DSt w W g B sb l u p x t y z A a b c i m n o q s) (e:L W.heap.size W C):DSt w C g B sb l u p x t y z A a b c i m n o q s:=h.grown (r:=none) (K7 e) fun f d=>by cases d
theorem DSt.draw (h:DSt w W g B sb l u p x t y z A a b c i m n o q s) (e:W.grownBy C (some g)) (hd:IsD C g l):DSt w C g B sb l u p x t y z A a b c i m n o q s:=by have F:=h.ord;have v:∀j f,g<j->f<=sb->L8 (K4 j f) (K4 j f) W C:=fun j f D E=>zks e fun k r=>⟨by have:=r.2;omega,fun d=>by injection d with d;have:=r.1;omega⟩;exact⟨h.bel.grown e h.bel.size fun k d=>by cases d;omega,hd,h.rp.grownN e fun k d=>by cases d;omega,IsP.stb.to h.vp (v _ _ og og),h.rs.grownN e fun k d=>by cases d;omega,IsSol.stb.to h.vs (v _ _ og og),by have:=e.size;omega⟩
theorem DSt.prg (h:DSt w W g B sb l u p x t y z A a b c i m n o q s):IsP W (C6 W) (.agg #[y,z,A]) (J6 q):=IsP.stb.to h.vp (G6 fun d e=>by have:=e.2;have:=h.ord;show d<W.heap.size;omega)
theorem DSt.sol (h:DSt w W g B sb l u p x t y z A a b c i m n o q s):IsSol W (C6 W) (.agg #[a,b,c,i,m,n,o]) s:=IsSol.stb.to h.vs (G6 fun d e=>by have:=e.2;have:=h.ord;show d<W.heap.size;omega)
end
theorem yqy {j:ProgQ} {s:Sol} (h:zph j k s) (d:1<=k):∃v X D R,s=zlk s.st v X D R/\(s.st=1\/s.st=2\/s.st=3)/\Sz v k/\(∀q∈X,Sz q k)/\(∀q∈D,Sz q k)/\(∀q∈R,Sz q k)/\(s.st≠1->v=0):=by
 have nil:∀q∈([]:List Rat),Sz q k:=fun q i=>(by cases i);rcases h with⟨X,b,v,rfl,_,a,c,g⟩|⟨b,rfl,_,a⟩|⟨X,e,rfl,_,a,c⟩
 ·exact⟨v,X,b,[],rfl,.inl rfl,a,c,g,nil,fun f=>absurd rfl f⟩
 ·exact⟨0,[],b,[],rfl,.inr (.inl rfl),zsr d,nil,a,nil,fun _=>rfl⟩
 ·exact⟨0,X,[],e,rfl,.inr (.inr rfl),zsr d,a,nil,c,fun _=>rfl⟩
theorem yiz {b:Nat} (c:b<=4):(A9 (M4 (8*2) (b+1)*2)).length<=3/\(A9 (M4 (8*2) (b+1))).length<=100000:=by
 have d:pw 3=1000000000000000000000000000:=rfl
 have key:M4 (8*2) (b+1)<=125829120:=by
  match b,c with
  |0,_=>decide
  |1,_=>decide
  |2,_=>decide
  |3,_=>decide
  |4,_=>decide
 have a:(A9 (M4 (8*2) (b+1))).length<=3:=lim_len_le.2 og;exact⟨lim_len_le.2 og,by omega⟩
section
variable {q : ProgQ} {s : Sol} {v f : Rat} {X D R : List Rat}
theorem raw_nil' {l:List Rat} (h:C5 l=[]):l=[]:=rawV_inj' (m:=[]) h
theorem yha (n:Good q 1024) (b:k<=1024) (ha:zph q k s) (u:s=zlk s.st v X D R):V9 q s.st v X D R=true:=by
 have le:=fun {l:List Rat} (h:∀x∈l,Sz x k) x a=>(h x a).le b;rcases ha with⟨o,p,y,c,d,i,m,t⟩|⟨p,c,d,i⟩|⟨o,w,c,d,i,m⟩
 all_goals
  have r:=congrArg Sol.st c
  rw[u] at c
  simp only[Sol.mk.injEq] at c
  obtain⟨_,j,g,e,f⟩:=c
  have j:=zti j
  first|replace g:=rawV_inj' g|replace g:=raw_nil' g
  first|replace e:=rawV_inj' e|replace e:=raw_nil' e
  first|replace f:=rawV_inj' f|replace f:=raw_nil' f
  rw[r,j,g,e,f]
 ·exact yqe n d (fun x a=>(m x a).le b) (fun x a=>(t x a).le b) (i.le b)
 ·exact ygq n d (fun x a=>(i x a).le b)
 ·exact ygr n d (fun x a=>(i x a).le b) (fun x a=>(m x a).le b)
theorem yqu (j:Good q 1024) (C:k+4<=1024) (ha:zph q k s) (z:s=zlk s.st v X D R) (t:s.st≠1) (hf:0<f) (w:Sz f 3):V9 q s.st v X (D.map (·*f)) (R.map (·*f))=true:=by
 have n:∀{l:List Rat},(∀x∈l,Sz x k)->∀x∈l.map (·*f),Sz x 1024:=fun h x m=>(by obtain⟨y,A,rfl⟩:=List.mem_map.1 m;exact((h y A).mul w).le og);rcases ha with⟨o,p,E,a,e,_⟩|⟨p,a,e,i⟩|⟨o,B,a,e,i,u⟩
 ·exact absurd (congrArg Sol.st a) t
 all_goals
  have r:=congrArg Sol.st a
  rw[z] at a
  simp only[Sol.mk.injEq] at a
  obtain⟨_,g,d,b,c⟩:=a
  have g:=zti g
  first|replace d:=rawV_inj' d|replace d:=raw_nil' d
  first|replace b:=rawV_inj' b|replace b:=raw_nil' b
  first|replace c:=rawV_inj' c|replace c:=raw_nil' c
  rw[r,g,d,b,c]
 ·exact ygq j (e.mul hf) (n i)
 ·exact ygr j (e.mul j.cols hf) (fun x m=>(i x m).le og) (n u)
theorem ygz (p:Good q 1024) (ha:zph q k s) (m:s=zlk s.st v X D R) (hf:0<f):V9 q s.st (v+f) X D R=false:=by
 rcases ha with⟨h,i,r,a,e,_⟩|⟨i,a,e,l⟩|⟨h,n,a,e,l,o⟩
 all_goals
  have j:=congrArg Sol.st a
  rw[m] at a
  simp only[Sol.mk.injEq] at a
  obtain⟨_,g,d,b,c⟩:=a
  have g:=zti g
  first|replace d:=rawV_inj' d|replace d:=raw_nil' d
  first|replace b:=rawV_inj' b|replace b:=raw_nil' b
  first|replace c:=rawV_inj' c|replace c:=raw_nil' c
  rw[j,g,d,b,c]
 ·exact yqf e hf
 ·exact(ylq (X:=[]) _ _ hf).1
 ·exact(ylq (X:=h) _ _ hf).2
end
structure DXt (w W:World) (g B sb:Nat) (l:List Int) (u p x t:Nat) (y z A a b c i m n o:J) (q:ProgQ) (s:Sol) (I d K:Nat) (E F G:J) (f:Rat) (O:List J):Prop where
 s:DSt w W g B sb l u p x t y z A a b c i m n o q s
 rx:Row W I 37 [E,F,G]
 vx:IsQ W (K4 K I) (.agg #[E,F,G]) f
 rt:Row W d 39 O
 ord:sb<K/\K<=I/\I<d
section
variable {w W C : World} {g B sb : Nat} {l : List Int} {u p x t : Nat} {y z A a b c i m n o : J} {q : ProgQ} {s : Sol} {I d K : Nat} {E F G : J} {f : Rat} {O S : List J}
theorem DXt.set (h:DXt w W g B sb l u p x t y z A a b c i m n o q s I d K E F G f O) (j:W.grownBy C (some d)) (hr:Row C d 39 S):DXt w C g B sb l u p x t y z A a b c i m n o q s I d K E F G f S:=by have v:=h.ord;have lx:=h.rx.lt;exact⟨h.s.grown j fun k e=>by cases e;omega,h.rx.grownN j fun k e=>by cases e;omega,IsQ.stb.to h.vx (zks j fun k r=>⟨by have:=r.2;omega,fun e=>by injection e with e;have:=r.2;omega⟩),hr,v⟩
theorem DXt.grown (h:DXt w W g B sb l u p x t y z A a b c i m n o q s I d K E F G f O) (k:W.grownBy C r) (hr:∀e,r=some e->d<e):DXt w C g B sb l u p x t y z A a b c i m n o q s I d K E F G f O:=by have D:=h.ord;have lx:=h.rx.lt;exact⟨h.s.grown k fun e j=>by have:=hr e j;omega,h.rx.grownN k fun e j=>by have:=hr e j;omega,IsQ.stb.to h.vx (zks k fun e v=>⟨by have:=v.2;omega,fun j=>by have:=hr e j.symm;have:=v.2;omega⟩),h.rt.grownN k fun e j=>by have:=hr e j;omega,D⟩
theorem DXt.next (h:DXt w W g B sb l u p x t y z A a b c i m n o q s I d K E F G f O) (j:L W.heap.size W C):DXt w C g B sb l u p x t y z A a b c i m n o q s I d K E F G f O:=h.grown (r:=none) (K7 j) fun k e=>by cases e
theorem DXt.draw (h:DXt w W g B sb l u p x t y z A a b c i m n o q s I d K E F G f O) (j:W.grownBy C (some g)) (hd:IsD C g l):DXt w C g B sb l u p x t y z A a b c i m n o q s I d K E F G f O:=by have v:=h.ord;have os:=h.s.ord;have lx:=h.rx.lt;exact⟨h.s.draw j hd,h.rx.grownN j fun k e=>by cases e;omega,IsQ.stb.to h.vx (zks j fun k r=>⟨by have:=r.2;omega,fun e=>by injection e with e;have:=r.1;omega⟩),h.rt.grownN j fun k e=>by cases e;omega,v⟩
theorem DXt.fac (h:DXt w W g B sb l u p x t y z A a b c i m n o q s I d K E F G f O):IsQ W (C6 W) (.agg #[E,F,G]) f:=IsQ.stb.to h.vx (G6 fun e j=>by have:=j.2;have:=h.rx.lt;show e<W.heap.size;omega)
theorem zvg {j:Option Nat} {D:World} (h:DXt w W g B sb l u p x t y z A a b c i m n o q s I d K E F G f O/\Kept j none none D W) (v:W.grownBy C r) (hr:r=none\/r=j) (H:∀e,j=some e->d<e):DXt w C g B sb l u p x t y z A a b c i m n o q s I d K E F G f O/\Kept j none none D C:=
 ⟨h.1.grown v fun e k=>H e (by rcases hr with h|h;rw[h] at k;cases k;rw[<-h];exact k),h.2.step v (by rcases hr with h|h;exact .inl h;exact .inr (.inl h))⟩
theorem DXt.tlt (h:DXt w W g B sb l u p x t y z A a b c i m n o q s I d K E F G f O):d<W.heap.size:=h.rt.lt
end
theorem ygx {q:ProgQ} {s:Sol} {v:Rat} {X D R:List Rat} (e:Good q 1024) (ha:zph q k s) (h:s=zlk s.st v X D R):D.length<=40/\R.length<=40:=by
 rcases ha with⟨f,g,j,b,a,_⟩|⟨g,b,a,_⟩|⟨f,i,b,a,_⟩
 all_goals
  rw[h] at b
  simp only[Sol.mk.injEq] at b
  obtain⟨_,_,_,c,d⟩:=b
  first|replace c:=rawV_inj' c|replace c:=raw_nil' c
  first|replace d:=rawV_inj' d|replace d:=raw_nil' d
  rw[c,d]
 ·exact⟨by rw[a.y.len];exact e.nB,by simp⟩
 ·exact⟨by rw[a.y.len];exact e.nB,by simp⟩
 ·exact⟨by simp,by rw[a.z.len];exact e.nC⟩
def zyi (d sb off:Nat) (out src:J) (j q y:Nat) (E:Bool) (m:Option P) (F n:Nat) (o:Option P) (G p:Nat) (g:Bool) (h:Option P) (t r:Nat) (i:Option P) (u s:Nat) (z:Rat) (k:Nat->Prop) (l:List Raw) (n0 base:Nat) (x:Nat) (v:J) (w:World) (X:Nat->Option J):Prop:=
 match x with
 |0=>v= .pointer (some ⟨d,off,none⟩)
 |1=>v=out
 |2=>v= .pointer (some ⟨sb,off,none⟩)
 |3=>v=src
 |4=>v= .int .i64 (j:Int)
 |5=>v= .pointer (some ⟨q,(y+j*3),none⟩)
 |6=>v= .agg #[.bool E,.slice m F n,.slice o G p]
 |7=>v= .agg #[.bool g,.slice h t r,.slice i u s]
 |8=>(∃b a,QinP w n0 b a z v)
 |9=>(∃b a f,QinP w n0 b a z f/\NewRow w n0 37 f.cells.toList v)
 |10=>(∃b a,(n0<=b/\b<=a/\a<=w.heap.size)/\OwnS 3 37 IsR w base (fun c=>k c\/K4 b a c) v (l++[E9 z]))
 |11=>v= .pointer (some ⟨d,off,none⟩)
 |_=>True
def zsu (out:J):Nat->Option Nat:=fun k=>match k with|10=>out.ownBlock|_=>none
theorem yhd {a:Nat} (h:zsu out k=some a):k=10:=by
 unfold zsu at h;split at h
 ·rfl
 ·cases h
theorem ymk {d sb off:Nat} {src:J} {C R:Nat} {E:Bool} {u:Option P} {F y:Nat} {A:Option P} {G B:Nat} {q:Bool} {r:Option P} {K D:Nat} {s:Option P} {O I:Nat} {z:Rat} {t:Nat->Prop} {l:List Raw} {n0 base:Nat} (T:∀a,out.ownBlock=some a->a<n0):∀i k v w w' X S,i≠k->X k=none->zyi d sb off out src j C R E u F y A G B q r K D s O I z t l n0 base i v w X->w.grownBy w' (zsu out k)->zyi d sb off out src j C R E u F y A G B q r K D s O I z t l n0 base i v w' (Z4 X k S):=fun i k v w w' X S o U h f=>by
 have Q:∀a,zsu out k=some a->k=10/\out.ownBlock=some a:=fun a b=>by
  unfold zsu at b
  split at b
  ·exact⟨rfl,b⟩
  ·cases b
 have p:∀a,zsu out k=some a->a<n0:=fun a b=>T a (Q a b).2
 match i,o,h with
 |0,_,h=>exact h
 |1,_,h=>exact h
 |2,_,h=>exact h
 |3,_,h=>exact h
 |4,_,h=>exact h
 |5,_,h=>exact h
 |6,_,h=>exact h
 |7,_,h=>exact h
 |8,_,h=>
  obtain⟨m,g,c⟩:=h
  exact⟨m,g,c.grown f p⟩
 |9,_,h=>
  obtain⟨m,g,x,c,n⟩:=h
  exact⟨m,g,x,c.grown f p,n.grown f p⟩
 |10,o,h=>
  obtain⟨m,g,c,n⟩:=h
  exact⟨m,g,⟨c.1,c.2.1,Nat.le_trans c.2.2 f.size⟩,n.grown IsR.stb f fun a b=>absurd (Q a b).1 (Ne.symm o)⟩
 |11,_,h=>exact h
 |_+12,_,_=>exact trivial
def ygi (base:Nat) (a:Nat->Prop) (out:J) (l:List Raw) (b:Nat) (w:World):Prop:=b=10->OwnS 3 37 IsR w base a out l
end Go.Proofs.YtpbilanpeioonaaGreatDoor
