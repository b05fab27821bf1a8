/-
 Contracts of the verifier's kit:whether two lists,b,c a equal.
-/
import Derived.Test.YtlhhbccgfkhflaaGreatDoorDwv11
import Derived.Deep.RegionLaw
namespace Go.Proofs.YtlhhbccgfkhflaaGreatDoor
open Go.RowKit
set_option linter.unusedVariables false
set_option maxRecDepth 100000
set_option maxHeartbeats 8000000
open _root_.Go.Lib renaming hid → f
open _root_.Nat renaming lt_or_ge → m, zero_le → o
open _root_.Go.RowKit.Below renaming refl → c
open _root_.Go renaming World → i, Value → l, Calls → k
open _root_.Go.RowKit renaming Below → b, Hid → e
open _root_.Go.Proofs.Tryz renaming prog → j
variable {g n : Nat} {t : TypeId} {va d : l}
theorem yjh {e:Type} {a c:List e} (f:a.length=c.length) (h:∀b,b<a.length->a[b]? =c[b]?):a=c:=by
 apply List.ext_getElem?;intro b;rcases m b a.length with d|d
 ·exact h b d
 ·rw[List.getElem?_eq_none d,List.getElem?_eq_none og]
theorem zua {w:i} {a s:List (Raw)} (ha:IsV w (C5 w) va a) (I:IsV w (C5 w) d s):
 k j 37 #[va,d] w fun n w'=>n= .returned (.bool (decide (a=s)))/\b w.heap.size w w':=by
 obtain⟨S,T⟩:=C7 ha I;obtain⟨A,aE,rfl,aA⟩:=J6 ha;obtain⟨B,aG,rfl,aB⟩:=J6 I;clear ha I;obtain⟨r,M⟩:=nm (a.length);obtain⟨av,N⟩:=nm (s.length);rw[<-M] at S aA⊢;rw[<-N] at T aB⊢;obtain⟨D,H⟩:=C7 M N;clear M N;by_cases L:r=av;(case neg=>have ay:((r:Int) !=(av:Int))=true:=bne_iff_ne.2 og;have v:e (decide (a=s)=false):=decide_eq_false (fun n=>L (by rw[D.out,H.out,n]));clear L;go_in;go_wp2_with fail;go_ret;exact⟨by show Ending.returned (.bool _)=_;rw[v.out],c _ _⟩);subst L;have ay:((r:Int) !=(r:Int))=false:=(by simp);go_in;go_wp2_with fail;go_loopw [5] (fun Q wr=>∃g:Nat,g<=r/\Q= .int .i64 (g:Int)/\b w.heap.size w wr/\e (∀p,p<g->a[p]? =s[p]?)) (fun Q _=>r-(intOf Q).toNat);case atStart=>exact⟨0,o _,rfl,c _ _,fun p K=>by omega⟩
 case round=>
  obtain⟨g,aL,rfl,C,hrel⟩:=hrel;have G:=f C;have U:=f hrel.out;clear hrel;rcases m g r with al|aK
  ·obtain⟨x,O⟩:=znt (l:=a) (j:=g) (by rw[<-D.out];exact al);obtain⟨y,P⟩:=znt (l:=s) (j:=g) (by rw[<-H.out];exact al);obtain⟨aC,aO,X,ao,Z,ar,rfl,aI,aj,ad,ae,af⟩:=zmt (IsV.stb.to S.out (C9 C)) O;obtain⟨aD,aP,Y,aq,aa,au,rfl,aJ,ak,d0,ag,ah⟩:=zmt (IsV.stb.to T.out (C9 C)) P;obtain⟨V,W,ab,ac⟩:=V7 O P aj ak;have aH:=N9;have aM:(0:Int)<=(g:Int):=og;have aN:(g:Int)<(r:Int):=og;obtain⟨q,an⟩:=nm (decide (x=y));have E:=f an;clear O P aj ak C an;cases q with
   |false=>
    go_wp2_with fail;have t:=znz ad ae af d0 ag ah;have u:e (∀l:i,b wr.heap.size wr l->k j 47 #[.agg #[.bool x.neg,.slice X x.num.length ao,.slice Z x.den.length ar],.agg #[.bool y.neg,.slice Y y.num.length aq,.slice aa y.den.length au]] l (fun n w'=>n= .returned (.bool false)/\b l.heap.size l w')):=fun l z=>by rw[E.out];exact ydv (IsR.stb.next ab.out z) (IsR.stb.next ac.out z)
    go_region_held3 (SH.mk _ t).s
     (exact t.out _ bel)
     (first
       |(go_at_call 47;(with_reducible refine Calls.mono (u.out _ bel) ?_);rintro n R ⟨rfl,J⟩))
    have F:=nB G (show b wr.heap.size wr R from bel);clear J t u;go_wp2_with fail;have v:e (decide (a=s)=false):=decide_eq_false (fun n=>by have ai:=V.out;rw[n,W.out] at ai;cases ai;have az:=E.out;simp at az);go_ret;exact⟨by show Ending.returned (.bool _)=_;rw[v.out],F.out⟩
   |true=>
    go_wp2_with fail;have t:=znz ad ae af d0 ag ah;have u:e (∀l:i,b wr.heap.size wr l->k j 47 #[.agg #[.bool x.neg,.slice X x.num.length ao,.slice Z x.den.length ar],.agg #[.bool y.neg,.slice Y y.num.length aq,.slice aa y.den.length au]] l (fun n w'=>n= .returned (.bool true)/\b l.heap.size l w')):=fun l z=>by rw[E.out];exact ydv (IsR.stb.next ab.out z) (IsR.stb.next ac.out z)
    go_region_held3 (SH.mk _ t).s
     (exact t.out _ bel)
     (first
       |(go_at_call 47;(with_reducible refine Calls.mono (u.out _ bel) ?_);rintro n R ⟨rfl,J⟩))
    have F:=nB G (show b wr.heap.size wr R from bel);clear J t u;go_wp2_with fail;go_roundw
    case rel=>
     refine⟨g+1,by omega,by go_num,F.out,fun p K=> ?_⟩;rcases m p g with h|h
     ·exact U.out p h
     ·obtain rfl:p=g:=og;rw[V.out,W.out,of_decide_eq_true E.out.symm]
    case measure=>simp[intOf];omega
  ·obtain rfl:g=r:=og;have v:e (decide (a=s)=true):=decide_eq_true (yjh (by rw[<-D.out,<-H.out]) (fun p K=>U.out p (by rw[D.out];exact K)));clear C;go_wp2_with fail;go_ret;exact⟨by show Ending.returned (.bool _)=_;rw[v.out],G.out⟩
theorem zzp {w:i} {a s:List (List Raw)} (ha:IsM w (C5 w) va a) (I:IsM w (C5 w) d s):
 k j 62 #[va,d] w fun n w'=>n= .returned (.bool (decide (a=s)))/\b w.heap.size w w':=by
 obtain⟨S,T⟩:=C7 ha I;obtain⟨A,au,rfl,an⟩:=zpw ha;obtain⟨B,av,rfl,ao⟩:=zpw I;clear ha I;obtain⟨r,M⟩:=nm (a.length);obtain⟨aj,N⟩:=nm (s.length);rw[<-M] at S an⊢;rw[<-N] at T ao⊢;obtain⟨D,H⟩:=C7 M N;clear M N;by_cases L:r=aj;(case neg=>have ak:((r:Int) !=(aj:Int))=true:=bne_iff_ne.2 og;have v:e (decide (a=s)=false):=decide_eq_false (fun n=>L (by rw[D.out,H.out,n]));clear L;go_in;go_wp2_with fail;go_ret;exact⟨by show Ending.returned (.bool _)=_;rw[v.out],c _ _⟩);subst L;have ak:((r:Int) !=(r:Int))=false:=(by simp);go_in;go_wp2_with fail;go_loopw [5] (fun Q wr=>∃g:Nat,g<=r/\Q= .int .i64 (g:Int)/\b w.heap.size w wr/\e (∀p,p<g->a[p]? =s[p]?)) (fun Q _=>r-(intOf Q).toNat);case atStart=>exact⟨0,o _,rfl,c _ _,fun p K=>by omega⟩
 case round=>
  obtain⟨g,aC,rfl,C,hrel⟩:=hrel;have G:=f C;have U:=f hrel.out;clear hrel;rcases m g r with af|aB
  ·obtain⟨x,O⟩:=znt (l:=a) (j:=g) (by rw[<-D.out];exact af);obtain⟨y,P⟩:=znt (l:=s) (j:=g) (by rw[<-H.out];exact af);obtain⟨aq,aG,X,ah,rfl,az,ad,ab⟩:=zoa (IsM.stb.to S.out (C9 C)) O;obtain⟨ar,aH,Y,ai,rfl,aA,ae,d0⟩:=zoa (IsM.stb.to T.out (C9 C)) P;obtain⟨V,W,Z,aa⟩:=V7 O P ad ae;have ay:=N9;have aD:(0:Int)<=(g:Int):=og;have aE:(g:Int)<(r:Int):=og;obtain⟨q,ag⟩:=nm (decide (x=y));have E:=f ag;clear O P ad ae C ag;cases q with
   |false=>
    go_wp2_with fail;have t:=zpv ab d0;have u:e (∀l:i,b wr.heap.size wr l->k j 37 #[.slice X x.length ah,.slice Y y.length ai] l (fun n w'=>n= .returned (.bool false)/\b l.heap.size l w')):=fun l z=>by rw[E.out];exact zua (IsV.stb.next Z.out z) (IsV.stb.next aa.out z)
    go_region_held3 (SH.mk _ t).s
     (exact t.out _ bel)
     (first
       |(go_at_call 37;(with_reducible refine Calls.mono (u.out _ bel) ?_);rintro n R ⟨rfl,J⟩))
    have F:=nB G (show b wr.heap.size wr R from bel);clear J t u;go_wp2_with fail;have v:e (decide (a=s)=false):=decide_eq_false (fun n=>by have ac:=V.out;rw[n,W.out] at ac;cases ac;have al:=E.out;simp at al);go_ret;exact⟨by show Ending.returned (.bool _)=_;rw[v.out],F.out⟩
   |true=>
    go_wp2_with fail;have t:=zpv ab d0;have u:e (∀l:i,b wr.heap.size wr l->k j 37 #[.slice X x.length ah,.slice Y y.length ai] l (fun n w'=>n= .returned (.bool true)/\b l.heap.size l w')):=fun l z=>by rw[E.out];exact zua (IsV.stb.next Z.out z) (IsV.stb.next aa.out z)
    go_region_held3 (SH.mk _ t).s
     (exact t.out _ bel)
     (first
       |(go_at_call 37;(with_reducible refine Calls.mono (u.out _ bel) ?_);rintro n R ⟨rfl,J⟩))
    have F:=nB G (show b wr.heap.size wr R from bel);clear J t u;go_wp2_with fail;go_roundw
    case rel=>
     refine⟨g+1,by omega,by go_num,F.out,fun p K=> ?_⟩;rcases m p g with h|h
     ·exact U.out p h
     ·obtain rfl:p=g:=og;rw[V.out,W.out,of_decide_eq_true E.out.symm]
    case measure=>simp[intOf];omega
  ·obtain rfl:g=r:=og;have v:e (decide (a=s)=true):=decide_eq_true (yjh (by rw[<-D.out,<-H.out]) (fun p K=>U.out p (by rw[D.out];exact K)));clear C;go_wp2_with fail;go_ret;exact⟨by show Ending.returned (.bool _)=_;rw[v.out],G.out⟩
instance:DecidableEq Prog:=fun a b=>if h:a.A=b.A/\a.B=b.B/\a.C=b.C then isTrue (by cases a;cases b;simp only at h;obtain⟨rfl,rfl,rfl⟩:=h;rfl) else isFalse (fun c=>h (by rw[c];exact⟨rfl,rfl,rfl⟩))
theorem zz1389 (a b:Prog):(decide (a.A=b.A)&&decide (a.B=b.B)&&decide (a.C=b.C))=decide (a=b):=by rw[Bool.eq_iff_iff,Bool.and_eq_true,Bool.and_eq_true,decide_eq_true_eq,decide_eq_true_eq,decide_eq_true_eq,decide_eq_true_eq];cases a;cases b;simp[and_assoc]
theorem zz1393 {w:i} {a y:Prog} (ha:IsP w (C5 w) va a) (g:IsP w (C5 w) d y):
 k j 108 #[va,d] w fun v w'=>v= .returned (.bool (decide (a=y)))/\b w.heap.size w w':=by
 rw[<-zz1389];obtain⟨Y,ae,Z,af,aa,ag,rfl,O,P,Q⟩:=ha;obtain⟨ab,ah,ac,b2,ad,ai,rfl,R,S,T⟩:=g;obtain⟨z,D,L,A,E,M⟩:=zpu O P Q R S T;obtain⟨aj,H⟩:=nm (decide (a.A=y.A));obtain⟨ak,I⟩:=nm (decide (a.B=y.B));obtain⟨q3,J⟩:=nm (decide (a.C=y.C));rw[<-H,<-I,<-J];obtain⟨B,G,N⟩:=F0 H I J;clear H I J O P Q R S T;obtain⟨ao,C,U,V,W,an⟩:=zkd w #[.slice Y a.A.length ae,.slice Z a.B.length af,.slice aa a.C.length ag] #[.slice ab y.A.length ah,.slice ac y.B.length b2,.slice ad y.C.length ai] 54 54;have u:=f U;obtain⟨h,n,p⟩:=C0 V;obtain⟨q,r,s⟩:=C0 W;clear U V W;cases aj with
 |false=>go_in;go_wp2_with fail;clear C;refine(zzp (IsM.stb.to z.out (C9 u.out)) (IsM.stb.to A.out (C9 u.out))).mono ?_;rw[<-B.out];rintro v K ⟨rfl,g⟩;have t:=nB u g;replace h:=A9 g h;replace n:=A9 g n;replace p:=A9 g p;replace q:=A9 g q;replace r:=A9 g r;replace s:=A9 g s;clear g;go_wp2_with fail;go_ret;exact⟨rfl,t.out⟩
 |true=>
  cases ak with
  |false=>go_in;go_wp2_with fail;clear C;refine(zzp (IsM.stb.to z.out (C9 u.out)) (IsM.stb.to A.out (C9 u.out))).mono ?_;rw[<-B.out];rintro v K ⟨rfl,g⟩;have t:=nB u g;replace h:=A9 g h;replace n:=A9 g n;replace p:=A9 g p;replace q:=A9 g q;replace r:=A9 g r;replace s:=A9 g s;clear g;go_wp2_with fail;refine(zua (IsV.stb.to D.out (C9 t.out)) (IsV.stb.to E.out (C9 t.out))).mono ?_;rw[<-G.out];rintro v X ⟨rfl,g⟩;have x:=nB t g;replace h:=A9 g h;replace n:=A9 g n;replace p:=A9 g p;replace q:=A9 g q;replace r:=A9 g r;replace s:=A9 g s;clear g;go_wp2_with fail;go_ret;exact⟨rfl,x.out⟩
  |true=>
   cases q3 with
   |false=>go_in;go_wp2_with fail;clear C;refine(zzp (IsM.stb.to z.out (C9 u.out)) (IsM.stb.to A.out (C9 u.out))).mono ?_;rw[<-B.out];rintro v K ⟨rfl,g⟩;have t:=nB u g;replace h:=A9 g h;replace n:=A9 g n;replace p:=A9 g p;replace q:=A9 g q;replace r:=A9 g r;replace s:=A9 g s;clear g;go_wp2_with fail;refine(zua (IsV.stb.to D.out (C9 t.out)) (IsV.stb.to E.out (C9 t.out))).mono ?_;rw[<-G.out];rintro v X ⟨rfl,g⟩;have x:=nB t g;replace h:=A9 g h;replace n:=A9 g n;replace p:=A9 g p;replace q:=A9 g q;replace r:=A9 g r;replace s:=A9 g s;clear g;go_wp2_with fail;refine(zua (IsV.stb.to L.out (C9 x.out)) (IsV.stb.to M.out (C9 x.out))).mono ?_;rw[<-N.out];rintro v al ⟨rfl,g⟩;have F:=nB x g;replace h:=A9 g h;replace n:=A9 g n;replace p:=A9 g p;replace q:=A9 g q;replace r:=A9 g r;replace s:=A9 g s;clear g;go_wp2_with fail;go_ret;exact⟨rfl,F.out⟩
   |true=>go_in;go_wp2_with fail;clear C;refine(zzp (IsM.stb.to z.out (C9 u.out)) (IsM.stb.to A.out (C9 u.out))).mono ?_;rw[<-B.out];rintro v K ⟨rfl,g⟩;have t:=nB u g;replace h:=A9 g h;replace n:=A9 g n;replace p:=A9 g p;replace q:=A9 g q;replace r:=A9 g r;replace s:=A9 g s;clear g;go_wp2_with fail;refine(zua (IsV.stb.to D.out (C9 t.out)) (IsV.stb.to E.out (C9 t.out))).mono ?_;rw[<-G.out];rintro v X ⟨rfl,g⟩;have x:=nB t g;replace h:=A9 g h;replace n:=A9 g n;replace p:=A9 g p;replace q:=A9 g q;replace r:=A9 g r;replace s:=A9 g s;clear g;go_wp2_with fail;refine(zua (IsV.stb.to L.out (C9 x.out)) (IsV.stb.to M.out (C9 x.out))).mono ?_;rw[<-N.out];rintro v al ⟨rfl,g⟩;have F:=nB x g;replace h:=A9 g h;replace n:=A9 g n;replace p:=A9 g p;replace q:=A9 g q;replace r:=A9 g r;replace s:=A9 g s;clear g;go_wp2_with fail;go_ret;exact⟨rfl,F.out⟩
theorem ysf {q:ProgQ} {a:Nat} (h:a<q.C.length):(N6 q).A[a]? =some (zks (U1 q.A a)):=by unfold N6;simp only;rw[List.getElem?_map,List.getElem?_range h];rfl
theorem yle (a:List (List Rat)) (x:List Rat):I0 (a++[x])=I0 a++[C4 x]:=by simp[I0]
theorem yka {w:i} {vp:l} {q:ProgQ} (bd:IsP w (C5 w) vp (I8 q)) (a2:Bru w) (H:Good q 1024):
 k j 42 #[vp] w fun p w'=>(∃bj,p= .returned (.tuple #[bj,.int .i64 0])/\IsP w' (C5 w') bj (I8 (N6 q)))/\b w.heap.size w w':=by
 obtain⟨R,av,bq,bB⟩:=V7 H bd a2 (zuf H);obtain⟨A,aV,B,aW,C,aX,rfl,ag,ah,ai⟩:=bd;simp only[I8,zku,zmi] at ag ah ai⊢;simp only[I8,zku,zmi] at av;obtain⟨N,O⟩:=nm (q.B.length);obtain⟨n,P⟩:=nm (q.C.length);have bJ:N<=40:=(by rw[O];exact H.nB);have bM:n<=40:=(by rw[P];exact H.nC);obtain⟨au,az⟩:=C7 O P;rw[H.rows,<-O,<-P] at av;rw[H.rows,<-O] at ag⊢;rw[<-O] at ah;rw[<-P] at ai⊢;obtain⟨bm,bn,br⟩:=F0 ag ah ai;have bA:e (∀row∈q.A,row.length=n):=fun row h=>(H.cols row h).trans P.symm;clear H ag ah ai O P a2;obtain⟨s,bO,a6,aM,bi,bC⟩:=zkd w #[.slice A N aV,.slice B N aW,.slice C n aX] #[.slice none 0 0,.slice none 0 0,.slice none 0 0] 54 54;obtain⟨M,G,aT⟩:=F0 a6 (C0 aM) bi;obtain⟨U,V,W⟩:=C0 aM;clear aM bi a6;go_in;go_wp2_with fail;clear bO;refine(zze av.out bq.out M.out).mono ?_;rw[show zok ⟨I0 q.A,C4 q.B,C4 q.C⟩=0 from bB.out];rintro p aN ⟨rfl,t⟩;have bh:=t.size;have U:=A9 t G.out.1;have V:=A9 t G.out.2.1;have W:=A9 t G.out.2.2;obtain⟨Q,bP,X,aL,bX⟩:=J9 aN #[.slice none 0 0,.slice none 0 0,.slice none 0 0] 54;have U:=A9 X U;have V:=A9 X V;have W:=A9 X W;obtain⟨aS,aP⟩:=C7 aL (C8 t X);have aD:aN.heap.size<Q.heap.size:=aL.lt;go_wp2_with fail;obtain⟨g,aH⟩:=nm (aN.heap.size);have bT:s.heap.size<=g:=(by rw[aH];exact bh);rw[<-aH] at aS aD⊢;clear aL X bP U V W aH bh t;go_loopw [16,6] (fun aK ca wr=>∃(u:Nat) (I:Nat->Prop) (va:l),u<=n/\aK= .int .i64 (u:Int)/\b s.heap.size s wr/\Q.grownBy wr (some g)/\Row wr g 54 [va,.slice none 0 0,.slice none 0 0]/\OwnS 1 26 IsV wr Q.heap.size I va (I0 ((N6 q).A.take u))/\e (∀a,I a->s.heap.size<=a/\a≠g)) (fun aK _ _=>n-(intOf aK).toNat);case atStart=>exact⟨0,fun _=>False,_,o _,rfl,aP.out,K9 (c _ _),aS.out,by simpa[I0] using(OwnS.nil (fun a h=>False.elim h):OwnS 1 26 IsV Q Q.heap.size (fun _=>False) _ _),fun a h=>False.elim h⟩
 case round=>
  obtain⟨u,I,va,b5,rfl,K,aI,aj,aJ,a3⟩:=hrel;obtain⟨aQ,bx,F⟩:=F0 K aI aj;have ay:=f a3.out;have ae:=f aJ;have be:=aI.size;have bf:=K.size;have U:=A9 K G.out.1;have V:=A9 K G.out.2.1;have W:=A9 K G.out.2.2;obtain⟨bV,bZ,bN⟩:=aJ.slice;subst bN;obtain⟨v,D,E⟩:=C0 aj;have b4:g<wr.heap.size:=aj.lt;clear a3 aI aj aJ;rcases m u n with a8|b3
  ·have aa:b w.heap.size w wr:=C8 M.out K;have aR:=f aa;have b7:n<=40/\N<=40:=⟨bM,bJ⟩;clear aa;go_wp2_with fail;have ao:e (∀d:i,b wr.heap.size wr d->k j 98 #[.slice A N aV,.int .i64 (u:Int)] d (fun p w'=>(∃z,p= .returned z/\IsV w' (C5 w') z (C4 (U1 q.A u)))/\b d.heap.size d w')):=fun d J=>zwb (n:=n) (IsM.stb.to bm.out (C9 (C8 aR.out J))) (by rw[R.out.rows,<-au.out];omega) bA.out a8 og
   go_region_law (first
    |((rw[if_pos (by rfl)]);go_simp;go_at_call 98;(with_reducible refine Calls.mono (ao.out _ bel) ?_);rintro p L ⟨⟨bQ,rfl,Y⟩,a7⟩;have aC:=f Y;obtain⟨S,ac,rfl,_⟩:=J6 Y;have aq:e (∀d:i,b L.heap.size L d->k j 99 #[.slice S (C4 (U1 q.A u)).length ac] d (fun p w'=>(∃z,p= .returned z/\IsV w' (I7 d.heap.size w') z (C4 ((U1 q.A u).map fun x=> -x)))/\b d.heap.size d w')):=fun d J=>yda (IsV.stb.next aC.out J) (fun x ab=>(zsi R.out.szA og x ab).le og) (by rw[zth,R.out.rows,<-au.out];omega);clear v D E;obtain⟨v,D,E⟩:=C0 (Row.next F.out bel:Row L _ _ _);(try dsimp only))
    |((rw[if_pos (by rfl)]);go_simp;go_at_call 99;(with_reducible refine Calls.mono (aq.out _ bel) ?_);rintro p r ⟨⟨bR,rfl,Z⟩,aE⟩;obtain⟨T,ad,rfl,_⟩:=J6 Z;clear v D E;obtain⟨v,D,E⟩:=C0 (Row.next F.out bel:Row r _ _ _);have y:b wr.heap.size wr r:=bel;have bu:=f (OwnS.step IsV.stb (T:=fun a=>I a\/(wr.heap.size<=a/\a<r.heap.size)) ae.out y (fun a h=> .inl h) (fun a h=>h));have bt:=f (IsV.stb.to Z (G4 (T:=fun a=>I a\/(wr.heap.size<=a/\a<r.heap.size)) fun a h=> .inr ⟨Nat.le_trans (Below.size (w:=wr) bel) h.1,h.2⟩));have bK:Q.heap.size<=r.heap.size:=Nat.le_trans be y.size;have af:=nR F y;have b0:=A9 (L7 r (.cells #[.slice T (C4 ((U1 q.A u).map fun x=> -x)).length ad] 26)) v;(try dsimp only))
    |(refine zz1418 elV rfl _ _ rfl IsV.stb rfl rfl rfl bu.out bt.out rfl (by intro cb bg;simp[Value.cells] at bg;subst bg;rfl) (by have aY:=List.length_take_le u (N6 q).A;rw[zmi];omega) bK ?_;intro cc cd a9 aG b9;obtain⟨bU,bY,a1⟩:=a9.slice;rw[List.length_append,List.length_singleton] at a1;subst a1;have aA:=Row.below af.out aG aD;obtain⟨b1,aY,aZ⟩:=C0 aA;obtain⟨ak,al,an⟩:=E9 aA))
   all_goals
    go_wp2_with fail
    go_roundw
    case rel=>
     have a4:∀a,(I a\/(wr.heap.size<=a/\a<r.heap.size))->s.heap.size<=a/\a≠g:=fun a t=>by rcases t with t|t;exact ay.out a t;exact⟨by omega,by omega⟩
     refine⟨u+1,fun a=>I a\/(wr.heap.size<=a/\a<r.heap.size),_,by omega,by go_num,((aQ.out.trans (y.mono bf)).trans (aG.mono og)).setCell (p:=⟨g,0,none⟩) bT _,(yhv bx.out ((y.mono be).trans aG)).trans (K0 _ g 0 _),aA.set_ 0 _,?_,a4⟩
     refine OwnS.stepG IsV.stb ?_ (K0 _ g 0 _) aD (fun a h=>(a4 a h).2)
     rw[zql (ysf (by rw[<-az.out];exact a8)),yle]
     exact a9
    case measure=>simp[intOf];omega
  ·obtain rfl:u=n:=og;have p:(N6 q).A.take u=(N6 q).A:=List.take_of_length_le (by unfold N6;simp only;rw[List.length_map,List.length_range,<-az.out];exact Nat.le_refl _);rw[p] at ae;have a5:IsM wr (SP w s g wr) _ (I0 (N6 q).A):=OwnS.isS IsV.stb ae.out (fun a t=>by obtain⟨_,_,_,_,bI⟩:=ae.out;exact⟨.inr (ay.out a t).1,(bI a t).1,(ay.out a t).2⟩) (fun a aY aZ=>⟨.inr (by have:=aP.out.size;omega),aZ,by omega⟩);have bv:=f a5;rw[p] at F v;clear a5 p;have aa:b w.heap.size w wr:=C8 M.out K;have aR:=f aa;clear aa;go_wp2_with fail;have aO:=zpv G.out.2.1 G.out.2.2;have ao:e (∀d:i,b s.heap.size s d->k j 99 #[.slice C u aX] d (fun p w'=>(∃z,p= .returned z/\IsV w' (I7 d.heap.size w') z (C4 (zks q.C)))/\b d.heap.size d w')):=fun d J=>yda (IsV.stb.to br.out (C9 (C8 M.out J))) (fun x ab=>(R.out.szC x ab).le og) (by rw[<-az.out];omega);have aq:e (∀d:i,b s.heap.size s d->k j 99 #[.slice B N aW] d (fun p w'=>(∃z,p= .returned z/\IsV w' (I7 d.heap.size w') z (C4 (zks q.B)))/\b d.heap.size d w')):=fun d J=>yda (IsV.stb.to bn.out (C9 (C8 M.out J))) (fun x ab=>(R.out.szB x ab).le og) (by rw[<-au.out];omega)
   go_region_held3 (SH.mk _ aO).s
    (exact aO.out _ bel)
    (first
      |(go_at_call 99;(with_reducible refine Calls.mono (ao.out _ bel) ?_);rintro p L ⟨⟨bQ,rfl,Y⟩,a7⟩;have aC:=f Y;obtain⟨S,ac,rfl,_⟩:=J6 Y;clear v D E;obtain⟨v,D,E⟩:=C0 (Row.next F.out bel:Row L _ _ _);obtain⟨ak,al,an⟩:=E9 (Row.next F.out bel:Row L _ _ _))
      |(go_at_call 99;(with_reducible refine Calls.mono (aq.out _ bel) ?_);rintro p r ⟨⟨bR,rfl,Z⟩,aE⟩;have bE:=f Z;obtain⟨T,ad,rfl,_⟩:=J6 Z;clear v D E;obtain⟨v,D,E⟩:=C0 (Row.next F.out bel:Row r _ _ _);obtain⟨ak,al,an⟩:=E9 (Row.next F.out bel:Row r _ _ _)))
   have b8:=bC.out;have bH:=a7.size;have a0:=aE.size;have bL:(World.drew wr).heap.size=wr.heap.size:=rfl;have y:b wr.heap.size wr r:=bel;have ar:b s.heap.size s r:=Below.trans aQ.out (y.mono bf);obtain⟨bw,bF,bG⟩:=F0 (IsM.stb.to (IsM.stb.to bv.out (zqg (S:=SP w s g wr) y fun a h=>h.2.1)) (G4 (T:=SP w s g r) fun a h=>⟨h.1,Nat.lt_of_lt_of_le h.2.1 y.size,h.2.2⟩)) (IsV.stb.to (IsV.stb.to aC.out (zqg (S:=I7 wr.heap.size L) aE fun a h=>h.2)) (G4 (T:=SP w s g r) fun a h=>⟨.inr (by have:=h.1;omega),Nat.lt_of_lt_of_le h.2 a0,by have:=h.1;omega⟩)) (IsV.stb.to bE.out (G4 (T:=SP w s g r) fun a h=>⟨.inr (by have:=h.1;omega),h.2,by have:=h.1;omega⟩));have af:Row r g _ _:=Row.next F.out y;have bD:=f ((af.set_ 1 (.slice S (C4 (zks q.C)).length ac)).set_ 2 (.slice T (C4 (zks q.B)).length ad));have aU:Row r (w.heap.size+1) _ _:=Row.below aT.out ar aT.out.lt;obtain⟨aB,bp⟩:=C7 ((aU.far (p:=⟨g,1,none⟩) (by show _≠g;omega) (.slice S (C4 (zks q.C)).length ac)).far (p:=⟨g,2,none⟩) (by show _≠g;omega) (.slice T (C4 (zks q.B)).length ad)) (((C8 M.out ar).setCell (p:=⟨g,1,none⟩) (by show _<=g;omega) (.slice S (C4 (zks q.C)).length ac)).setCell (p:=⟨g,2,none⟩) (by show _<=g;omega) (.slice T (C4 (zks q.B)).length ad));clear v D E ak al an;obtain⟨v,D,E⟩:=C0 bD.out;obtain⟨cf,cg,ch⟩:=C0 aB.out;obtain⟨ak,al,an⟩:=E9 aB.out;clear af aU ar y bH a0 bL;go_wp2_with fail;refine bodyPost_ret (zz1376 rfl rfl (Row.put3 aB.out _ _ _)) rfl ?_;exact⟨⟨_,rfl,zwi (p:=I8 (N6 q)) (IsM.stb.to bw.out (ydu og)) (IsV.stb.to bF.out (ydu og)) (IsV.stb.to bG.out (ydu og))⟩,zoy bp.out og _ _ _⟩
theorem yxq {w:i} (h:Row w g t [.int .i64 (n:Int)]):yao w (.slice (some ⟨g,0,none⟩) 1 1) [n]:=by
 refine⟨g,1,rfl,h.lt,fun d p a=> ?_⟩;match d,a with
 |0,a=>simp at a;subst a;exact h.cell 0
theorem yxr {w:i} {d:Nat} (h:Row w g t [.int .i64 (n:Int),.int .i64 (d:Int)]):yao w (.slice (some ⟨g,0,none⟩) 2 2) [n,d]:=by
 refine⟨g,2,rfl,h.lt,fun p q a=> ?_⟩;match p,a with
 |0,a=>simp at a;subst a;exact h.cell 0
 |1,a=>simp at a;subst a;exact h.cell 1
theorem ytf {w:i} {vp vx:l} {q:ProgQ} {x:List Rat} (s:IsP w (C5 w) vp (I8 q)) (t:IsV w (C5 w) vx (C4 x)) (G:Bru w) (I:Good q 1024) (p:zly (I8 q) [(I8 q).C.length] [C4 x]=0) (J:x.length=q.C.length) (K:∀c∈x,Sz c 1024):
 k j 43 #[vp,vx] w fun c w'=>c= .returned (.tuple #[.bool (W6 q.A q.B x),.int .i64 0])/\b w.heap.size w w':=by obtain⟨a,o⟩:=nm (I8 q);rw[<-o] at p;have m:=s;rw[<-o] at m;obtain⟨S,y,ae,Q,U,V⟩:=zpu s t o I J K;clear I J K o;obtain⟨R,v⟩:=C7 m G;obtain⟨A,Y,B,Z,C,aa,rfl,_,_,H⟩:=id m;obtain⟨D,d,rfl,ai⟩:=J6 t;have ag:=(J6 H).choose_spec.choose_spec.2;obtain⟨n,ah⟩:=nm (a.C.length);obtain⟨N,r⟩:=nm (zly a [a.C.length] [C4 x]);rw[<-r] at p;have P:=f r;clear s t G H r m;obtain⟨ak,ad,g,u,M,L,af⟩:=znc w #[.slice A a.A.length Y,.slice B a.B.length Z,.slice C a.C.length aa] #[.int .i64 (a.C.length:Int)] #[.slice D (C4 x).length d] 54 3 26;obtain⟨T,O,W⟩:=F0 (yht (IsP.stb.to R.out (C9 g)) (yxq M) (yur L (IsV.stb.to y.out (C9 g))) (Bru.next v.out g) rfl (by intro aj ac;simp at ac;omega) (by simp)) g u;obtain⟨z,E,F⟩:=C0 u;clear u M L g;have ab:N=0:=p;subst ab;go_in;go_wp2_with fail;clear ad;refine T.out.mono ?_;rw[<-P.out];rintro c al ⟨rfl,e⟩;have h:=nB O e;have X:=f (W.out.next e);clear e z E F;obtain⟨z,E,F⟩:=C0 X.out;go_wp2_with fail;refine(zuk (IsP.stb.to S.out (C9 h.out)) (IsV.stb.to y.out (C9 h.out)) (Bru.next v.out h.out) Q.out U.out V.out).mono ?_;rintro c an ⟨rfl,e⟩;go_wp2_with fail;go_ret2;exact⟨rfl,C8 h.out e⟩
theorem ykm {w:i} {vp vx vy:l} {q:ProgQ} {x y:List Rat} {u:Int} (R:IsP w (C5 w) vp (I8 q)) (S:IsV w (C5 w) vx (C4 x)) (T:IsV w (C5 w) vy (C4 y)) (aj:Bru w) (ao:Good q 1024) (N:zly (I8 q) [(I8 q).C.length,(I8 q).B.length] [C4 x,C4 y]=0)
 (aq:x.length=q.C.length) (au:∀n∈x,Sz n 1024) (ar:y.length=q.B.length) (av:∀n∈y,Sz n 1024) (hr:u=if W6 q.A q.B x=true/\Y4 q.A q.C y=true then 0 else 13):
 k j 95 #[vp,vx,vy] w fun n w'=>n= .returned (.int .i64 u)/\b w.heap.size w w':=by
 obtain⟨g,J⟩:=nm (I8 q);rw[<-J] at N;have I:=R;rw[<-J] at I;obtain⟨z,K,L,aT,v,Y,aa,Z⟩:=zny R S T J ao aq au ar;obtain⟨ab,E⟩:=C7 av hr;clear ao aq au J ar av hr;obtain⟨aG,s⟩:=C7 I aj;obtain⟨A,ad,B,ae,C,af,rfl,_,ak,al⟩:=id I;obtain⟨D,d,rfl,aY⟩:=J6 S;obtain⟨aB,aM,rfl,aZ⟩:=J6 T;have aX:=(J6 al).choose_spec.choose_spec.2;have aW:=(J6 ak).choose_spec.choose_spec.2;obtain⟨aC,O⟩:=nm (zly g [g.C.length,g.B.length] [C4 x,C4 y]);rw[<-O] at N;have aE:=f O;clear R S T aj al ak O I;obtain⟨a1,aP,r,U,aA,az,aU⟩:=znc w #[.slice A g.A.length ad,.slice B g.B.length ae,.slice C g.C.length af] #[.int .i64 (g.C.length:Int),.int .i64 (g.B.length:Int)] #[.slice D (C4 x).length d,.slice aB (C4 y).length aM] 54 3 26;obtain⟨aI,aD,aJ⟩:=F0 (yht (IsP.stb.to aG.out (C9 r)) (yxr aA) (yih az (IsV.stb.to K.out (C9 r)) (IsV.stb.to L.out (C9 r))) (Bru.next s.out r) rfl (by intro a0 aO;simp at aO;omega) (by simp)) r U;obtain⟨ag,ah,ai⟩:=C0 U;clear U aA az r;have aN:aC=0:=N;subst aN;go_in;go_wp2_with fail;clear aP;refine aI.out.mono ?_;rw[<-aE.out];rintro n aQ ⟨rfl,a⟩;have aH:=nB aD a;have aK:=f (aJ.out.next a);clear a ag ah ai;obtain⟨ag,ah,ai⟩:=C0 aK.out;obtain⟨a2,ay,an,V,aV⟩:=J9 aQ #[.slice A g.A.length ad,.slice B g.B.length ae,.slice C g.C.length af] 136;have p:=nB aH an;have ac:=f V;obtain⟨F,G,H⟩:=C0 V;obtain⟨aL,P⟩:=nm (W6 q.A q.B x);obtain⟨b2,Q⟩:=nm (Y4 q.A q.C y);rw[<-P,<-Q] at E;obtain⟨W,X⟩:=C7 P Q;clear V an P Q;cases aL with
 |false=>go_wp2_with fail;clear ay;refine(zuk (IsP.stb.to z.out (C9 p.out)) (IsV.stb.to K.out (C9 p.out)) (Bru.next s.out p.out) v.out Y.out aa.out).mono ?_;rw[<-W.out];rintro n aR ⟨rfl,a⟩;have h:=nB p a;have M:=f (ac.out.next a);clear a F G H;obtain⟨F,G,H⟩:=C0 M.out;have t:e (u=13):=(by rw[e,E.out];simp);go_wp2_with fail;go_ret;exact⟨K2 t.out.symm,h.out⟩
 |true=>
  go_wp2_with fail;clear ay;refine(zuk (IsP.stb.to z.out (C9 p.out)) (IsV.stb.to K.out (C9 p.out)) (Bru.next s.out p.out) v.out Y.out aa.out).mono ?_;rw[<-W.out];rintro n aR ⟨rfl,a⟩;have h:=nB p a;have M:=f (ac.out.next a);clear a F G H;obtain⟨F,G,H⟩:=C0 M.out;cases b2 with
  |false=>have t:e (u=13):=(by rw[e,E.out];simp);go_wp2_with fail;refine(yab (IsP.stb.to z.out (C9 h.out)) (IsV.stb.to L.out (C9 h.out)) (Bru.next s.out h.out) v.out Z.out ab.out).mono ?_;rw[<-X.out];rintro n aS ⟨rfl,a⟩;go_wp2_with fail;go_ret;exact⟨K2 t.out.symm,C8 h.out a⟩
  |true=>have t:e (u=0):=(by rw[e,E.out];simp);go_wp2_with fail;refine(yab (IsP.stb.to z.out (C9 h.out)) (IsV.stb.to L.out (C9 h.out)) (Bru.next s.out h.out) v.out Z.out ab.out).mono ?_;rw[<-X.out];rintro n aS ⟨rfl,a⟩;go_wp2_with fail;go_ret;exact⟨K2 t.out.symm,C8 h.out a⟩
def nilRaw:Raw:=⟨false,[],[]⟩
theorem yik {w:i} {a:Nat->Prop}:IsR w a (.agg #[.bool false,.slice none 0 0,.slice none 0 0]) nilRaw:=by refine⟨none,0,none,0,rfl,?_,?_⟩<;>exact⟨none,0,rfl,Nat.le_refl _,by unfold maxLen;omega,SVS.nil⟩
def zrl (d:Rat):Raw:=if zkz d then E0 d else nilRaw
def zrk (d:Rat):Int:=if zkz d then 0 else 5
theorem ydt {fn:Func} {slot t:Tmp} {tmps:Array l} {w:i} {x y z:l} (hr:fn.results= #[.cell slot 30,.tmp t]) (ha:tmps.getD slot undef= .pointer (some ⟨g,0,none⟩))
 (h:Row w g 30 [x,y,z]):(results fn tmps).run j w= .ok (.tuple #[.agg #[x,y,z],tmps.getD t undef]) w:=by obtain⟨a,b,c⟩:=C0 h;have d:tmps[slot]?.getD undef= .pointer (some ⟨g,0,none⟩):=(by simpa using ha);simp[results,hr,d,asAddr,go_sem,a,b,c]
theorem yhn {q:Rat} (h:Sz q 1024):zrl q=E0 q/\zrk q=0:=by unfold zrl zrk;rw[if_pos (fitsQ_true.2 h),if_pos (fitsQ_true.2 h)];exact⟨rfl,rfl⟩
theorem ytm {w:i} {vp vx vy:l} {e:Prog} {c:Int} (y:IsP w (C5 w) vp e) (hc:∀a,b w.heap.size w a->k j 95 #[vp,vx,vy] a fun d w'=>d= .returned (.int .i64 c)/\b a.heap.size a w') (o:c≠0):
 k j 44 #[vp,vx,vy] w fun d w'=>d= .returned (.tuple #[.agg #[.bool false,.slice none 0 0,.slice none 0 0],.int .i64 c])/\b w.heap.size w w':=by have s:=f hc;obtain⟨A,u,B,v,C,x,rfl,_,_,_⟩:=y;have J:(c !=0)=true:=bne_iff_ne.2 o;clear hc o;obtain⟨a,z,n,p,q,D⟩:=zkd w #[.slice A e.A.length u,.slice B e.B.length v,.slice C e.C.length x] #[.bool false,.slice none 0 0,.slice none 0 0] 54 30;obtain⟨m,t⟩:=C7 n q;obtain⟨E,F,G⟩:=C0 p;clear p q n;go_in;go_wp2_with fail;clear z;refine(s.out _ m.out).mono ?_;rintro d N ⟨rfl,h⟩;have r:=nB m h;have g:=f (t.out.next h);obtain⟨d0,H,I⟩:=C0 g.out;obtain⟨K,L,M⟩:=E9 g.out;clear h;go_wp2_with fail;refine bodyPost_ret (ydt rfl rfl (Row.put3 g.out _ _ _)) rfl ?_;exact⟨rfl,zoy r.out og _ _ _⟩
theorem yho {w:i} {vp vx vy:l} {q:ProgQ} {x y:List Rat} {d:Rat} (bB:IsP w (C5 w) vp (I8 q)) (af:IsV w (C5 w) vx (C4 x)) (ag:IsV w (C5 w) vy (C4 y)) (aJ:Bru w) (u:Good q 1024)
 (hc:∀J,b w.heap.size w J->k j 95 #[vp,vx,vy] J fun N w'=>N= .returned (.int .i64 0)/\b J.heap.size J w')
 (aM:x.length=q.C.length) (ac:∀n∈x,Sz n 1024) (aN:y.length=q.B.length) (ad:∀n∈y,Sz n 1024) (hd:d=H7 q.B y-H7 q.C x):
 k j 44 #[vp,vx,vy] w fun N w'=>(∃aR,N= .returned (.tuple #[aR,.int .i64 (zrk d)])/\IsR w' (C5 w') aR (zrl d))/\b w.heap.size w w':=by
 obtain⟨aq,ar,K,aY,a4,aZ,a5,aU⟩:=zny af ag u aM ac aN ad aJ;have av:=f hc;obtain⟨A,br,B,aA,C,aB,rfl,_,aa,ab⟩:=bB;obtain⟨aS,bv,rfl,_⟩:=J6 af;obtain⟨aT,Z,rfl,_⟩:=J6 ag;simp only[I8,zku,zmi] at aa ab aq ar av⊢;obtain⟨aV,aW⟩:=C7 aa ab;obtain⟨Q,O⟩:=nm (H7 q.B y);obtain⟨R,P⟩:=nm (H7 q.C x);rw[<-O,<-P] at hd;obtain⟨a0,a1,aX⟩:=F0 O P hd;have a2:e (Sz Q 100000):=(by rw[e,O];exact zsj u.szB ad u.nB);have a3:e (Sz R 100000):=(by rw[e,P];exact zsj u.szC ac u.nC);clear af ag aJ u hc aM ac aN ad aa ab O P hd;obtain⟨J,bC,aK,ah,aQ,bK⟩:=zkd w #[.slice A q.A.length br,.slice B q.B.length aA,.slice C q.C.length aB] #[.bool false,.slice none 0 0,.slice none 0 0] 54 30;obtain⟨ao,bj,bn⟩:=F0 aK ah aQ;obtain⟨W,X,Y⟩:=C0 ah;clear ah aQ aK;go_in;go_wp2_with fail;clear bC;refine(av.out _ ao.out).mono ?_;rintro N m ⟨rfl,r⟩;have s:=nB ao r;obtain⟨bm,ay,bd,be,bg,bh,S⟩:=hd7 (bj.out.next r) (bn.out.next r) (IsV.stb.to aV.out (C9 s.out)) (IsV.stb.to aW.out (C9 s.out)) (IsV.stb.to aq.out (C9 s.out)) (IsV.stb.to ar.out (C9 s.out)) (Bru.next aU.out s.out);clear r W X Y;obtain⟨W,X,Y⟩:=C0 bm.out;obtain⟨bA,aL⟩:=nm (zkz d);have L:=f aL;clear aL;go_wp2_with fail;have T:=zlz W X Y;have ak:e (∀a:i,b m.heap.size m a->k j 97 #[.slice B q.B.length aA,.slice aT y.length Z] a (K8 a Q)):=fun a H=>by rw[a0.out];exact zng (M:=q.B.length) (IsV.stb.next bd.out H) (IsV.stb.next bh.out H) (Bru.next S.out H) rfl aZ.out K.out.nB K.out.szB a5.out
 go_region_held3 (SH.mk _ T).s
  (exact T.out _ (by(repeat(first|exact c _ _|refine T4 ?_ _|refine W4 ?_|refine U7 ?_ ?_ _ _ _|refine C8 ?_ V9));(first|done|fail)))
  (first
    |(go_at_call 97;(with_reducible refine Calls.mono (ak.out _ (by(repeat(first|exact c _ _|refine T4 ?_ _|refine W4 ?_|refine U7 ?_ ?_ _ _ _|refine C8 ?_ V9));(first|done|fail))) ?_);rintro n D ⟨⟨b4,rfl,aO⟩,bV⟩;have bp:=f (IsQ.stb.old aO);obtain⟨bH,a8,bD,a6,bF,rfl,_,_,_⟩:=F9 aO;have al:e (∀a:i,b D.heap.size D a->k j 97 #[.slice C q.C.length aB,.slice aS x.length bv] a (K8 a R)):=fun a H=>by rw[a1.out];exact zng (M:=q.C.length) (IsV.stb.next be.out (by(repeat(first|exact c _ _|refine T4 ?_ _|refine W4 ?_|refine U7 ?_ ?_ _ _ _|refine C8 ?_ V9));(first|done|fail))) (IsV.stb.next bg.out (by(repeat(first|exact c _ _|refine T4 ?_ _|refine W4 ?_|refine U7 ?_ ?_ _ _ _|refine C8 ?_ V9));(first|done|fail))) (Bru.next S.out (by(repeat(first|exact c _ _|refine T4 ?_ _|refine W4 ?_|refine U7 ?_ ?_ _ _ _|refine C8 ?_ V9));(first|done|fail))) rfl aY.out K.out.nC K.out.szC a4.out)
    |(go_at_call 97;(with_reducible refine Calls.mono (al.out _ (by(repeat(first|exact c _ _|refine T4 ?_ _|refine W4 ?_|refine U7 ?_ ?_ _ _ _|refine C8 ?_ V9));(first|done|fail))) ?_);rintro n E ⟨⟨b5,rfl,aP⟩,bX⟩;have bq:=f (IsQ.stb.old aP);obtain⟨bI,a9,bE,a7,bG,rfl,_,_,_⟩:=F9 aP;have an:e (∀a:i,b E.heap.size E a->k j 102 #[.agg #[.bool bH,.slice a8 (A8 Q.num.natAbs).length bD,.slice a6 (A8 Q.den).length bF],.agg #[.bool bI,.slice a9 (A8 R.num.natAbs).length bE,.slice a7 (A8 R.den).length bG]] a (K8 a d)):=fun a H=>ywq (IsQ.stb.next bp.out (by(repeat(first|exact c _ _|refine T4 ?_ _|refine W4 ?_|refine U7 ?_ ?_ _ _ _|refine C8 ?_ V9));(first|done|fail))) (IsQ.stb.next bq.out (by(repeat(first|exact c _ _|refine T4 ?_ _|refine W4 ?_|refine U7 ?_ ?_ _ _ _|refine C8 ?_ V9));(first|done|fail))) (Bru.next S.out (by(repeat(first|exact c _ _|refine T4 ?_ _|refine W4 ?_|refine U7 ?_ ?_ _ _ _|refine C8 ?_ V9));(first|done|fail))) a2.out a3.out aX.out)
    |(go_at_call 102;(with_reducible refine Calls.mono (an.out _ (by(repeat(first|exact c _ _|refine T4 ?_ _|refine W4 ?_|refine U7 ?_ ?_ _ _ _|refine C8 ?_ V9));(first|done|fail))) ?_);rintro n F ⟨⟨b7,rfl,v⟩,bY⟩;have bN:=f (IsQ.stb.old v);obtain⟨b3,bM,b0,bL,b1,rfl,_,_,_⟩:=F9 v;(first|(have o:Row F E.heap.size 30 [.bool false,.slice none 0 0,.slice none 0 0]:=(Row.next (heap_alloc_new E zow) (by(repeat(first|exact c _ _|refine T4 ?_ _|refine W4 ?_|refine U7 ?_ ?_ _ _ _|refine C8 ?_ V9));(first|done|fail)):Row F _ _ _);obtain⟨aC,aD,aE⟩:=C0 o;obtain⟨aG,aH,aI⟩:=E9 o)|(have o:Row F D.heap.size 30 [.bool false,.slice none 0 0,.slice none 0 0]:=(Row.next (heap_alloc_new D zow) (by(repeat(first|exact c _ _|refine T4 ?_ _|refine W4 ?_|refine U7 ?_ ?_ _ _ _|refine C8 ?_ V9));(first|done|fail)):Row F _ _ _);obtain⟨aC,aD,aE⟩:=C0 o;obtain⟨aG,aH,aI⟩:=E9 o)|(have o:Row F m.heap.size 30 [.bool false,.slice none 0 0,.slice none 0 0]:=(Row.next (heap_alloc_new (World.drew m) zow) (by(repeat(first|exact c _ _|refine T4 ?_ _|refine W4 ?_|refine U7 ?_ ?_ _ _ _|refine C8 ?_ V9));(first|done|fail)):Row F _ _ _);obtain⟨aC,aD,aE⟩:=C0 o;obtain⟨aG,aH,aI⟩:=E9 o)|skip)))
 all_goals first
  |(have hF:=zwd (wB:=m) (X:=E) (g:=E.heap.size) v (by(repeat(first|exact c _ _|refine T4 ?_ _|refine W4 ?_|refine U7 ?_ ?_ _ _ _|refine C8 ?_ V9));(first|done|fail)) (by(repeat(first|exact c _ _|refine T4 ?_ _|refine W4 ?_|refine U7 ?_ ?_ _ _ _|refine C8 ?_ V9));(first|done|fail)) (by(repeat(first|exact c _ _|refine T4 ?_ _|refine W4 ?_|refine U7 ?_ ?_ _ _ _|refine C8 ?_ V9));(first|done|fail)) (zwl (o:=zow) (by(repeat(first|exact c _ _|refine T4 ?_ _|refine W4 ?_|refine U7 ?_ ?_ _ _ _|refine C8 ?_ V9));(first|done|fail))) (Below.size (by(repeat(first|exact c _ _|refine T4 ?_ _|refine W4 ?_|refine U7 ?_ ?_ _ _ _|refine C8 ?_ V9));(first|done|fail))) rfl;obtain⟨ai,ae,t,z,I,aj⟩:=hF)
  |(have hF:=zwd (wB:=m) (X:=D) (g:=D.heap.size) v (by(repeat(first|exact c _ _|refine T4 ?_ _|refine W4 ?_|refine U7 ?_ ?_ _ _ _|refine C8 ?_ V9));(first|done|fail)) (by(repeat(first|exact c _ _|refine T4 ?_ _|refine W4 ?_|refine U7 ?_ ?_ _ _ _|refine C8 ?_ V9));(first|done|fail)) (by(repeat(first|exact c _ _|refine T4 ?_ _|refine W4 ?_|refine U7 ?_ ?_ _ _ _|refine C8 ?_ V9));(first|done|fail)) (zwl (o:=zow) (by(repeat(first|exact c _ _|refine T4 ?_ _|refine W4 ?_|refine U7 ?_ ?_ _ _ _|refine C8 ?_ V9));(first|done|fail))) (Below.size (by(repeat(first|exact c _ _|refine T4 ?_ _|refine W4 ?_|refine U7 ?_ ?_ _ _ _|refine C8 ?_ V9));(first|done|fail))) rfl;obtain⟨ai,ae,t,z,I,aj⟩:=hF)
  |(have hF:=zwd (wB:=m) (X:=(World.drew m)) (g:=m.heap.size) v (by(repeat(first|exact c _ _|refine T4 ?_ _|refine W4 ?_|refine U7 ?_ ?_ _ _ _|refine C8 ?_ V9));(first|done|fail)) (by(repeat(first|exact c _ _|refine T4 ?_ _|refine W4 ?_|refine U7 ?_ ?_ _ _ _|refine C8 ?_ V9));(first|done|fail)) (by(repeat(first|exact c _ _|refine T4 ?_ _|refine W4 ?_|refine U7 ?_ ?_ _ _ _|refine C8 ?_ V9));(first|done|fail)) (zwl (o:=zow) (by(repeat(first|exact c _ _|refine T4 ?_ _|refine W4 ?_|refine U7 ?_ ?_ _ _ _|refine C8 ?_ V9));(first|done|fail))) (Below.size (by(repeat(first|exact c _ _|refine T4 ?_ _|refine W4 ?_|refine U7 ?_ ?_ _ _ _|refine C8 ?_ V9));(first|done|fail))) rfl;obtain⟨ai,ae,t,z,I,aj⟩:=hF)
  |(have hF:=yhb (wB:=m) v (by(repeat(first|exact c _ _|refine T4 ?_ _|refine W4 ?_|refine U7 ?_ ?_ _ _ _|refine C8 ?_ V9));(first|done|fail)) (Below.size (by(repeat(first|exact c _ _|refine T4 ?_ _|refine W4 ?_|refine U7 ?_ ?_ _ _ _|refine C8 ?_ V9));(first|done|fail)));obtain⟨ai,ae,t,z,I,aj⟩:=hF)
 all_goals clear T ak al an
 all_goals
  obtain⟨bi,V,az⟩:=F0 z I (ay.out.next t)
  have au:=nB s t
  obtain⟨bO,bP,bQ⟩:=C0 z
  clear z I t
  cases bA
  case false=>
   have G:e (zrk d=5/\zrl d=nilRaw):=by unfold e zrk zrl;rw[<-L.out];exact⟨rfl,rfl⟩
   go_wp2_with fail
   refine(ybt (IsQ.stb.to V.out (G4 fun M h=>h.1.2))).mono ?_
   rw[<-L.out]
   rintro n bJ ⟨rfl,g⟩
   have U:=nB au g
   have p:=f (az.out.next g)
   obtain⟨d0,bt,bu⟩:=C0 p.out
   obtain⟨bw,Z,bx⟩:=E9 p.out
   clear g
   go_wp2_with fail
   refine bodyPost_ret (ydt rfl rfl (Row.put3 p.out _ _ _)) rfl ?_
   exact⟨⟨_,by rw[G.out.1];rfl,by rw[G.out.2];exact yik⟩,zoy U.out og _ _ _⟩
  case true=>
   have G:e (zrk d=0/\zrl d=E0 d):=by unfold e zrk zrl;rw[<-L.out];exact⟨rfl,rfl⟩
   go_wp2_with fail
   refine(ybt (IsQ.stb.to V.out (G4 fun M h=>h.1.2))).mono ?_
   rw[<-L.out]
   rintro n bJ ⟨rfl,g⟩
   have U:=nB au g
   obtain⟨p,bf⟩:=C7 (az.out.next g) (IsQ.stb.to V.out (zqg g fun M h=>h.1.2))
   obtain⟨bR,bT,bU⟩:=C0 (bi.out.next g)
   obtain⟨d0,bt,bu⟩:=C0 p.out
   obtain⟨bw,Z,bx⟩:=E9 p.out
   have bZ:=g.size
   clear g
   go_wp2_with fail
   refine bodyPost_ret (ydt rfl rfl (Row.put3 p.out _ _ _)) rfl ?_
   exact⟨⟨_,by rw[G.out.1];rfl,by rw[G.out.2];exact IsQ.stb.to bf.out (zqh fun M r=>⟨by have:=r.1.1;have:=ay.out.lt;omega,by show M<_;rw[zqi];have:=r.1.2;omega⟩)⟩,zoy U.out og _ _ _⟩
end Go.Proofs.YtlhhbccgfkhflaaGreatDoor
