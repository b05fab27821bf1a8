/-
 The contract of the reference's Times.
-/
import Derived.Test.YtpbilanpeioonaaGreatDoorProofDualProves22
import Derived.Lib.ConvBytes
namespace Go.Proofs.YtpbilanpeioonaaGreatDoor
open Go.RowKit
set_option linter.unusedVariables false
set_option maxRecDepth 100000
set_option maxHeartbeats 8000000
open _root_.Go.Lib renaming hid → f
open _root_.Nat renaming le_refl → q, lt_or_ge → r, zero_le → C, mul_le_mul_right → h
open _root_.List renaming length_append → u
open _root_.Go renaming World → b, Value → d, TypeId → s
variable {c g hi i k lo lo' m n : Nat} {l : List Nat} {v j p : d} {xs : List d}
theorem zsh {w:b} {x y:Nat} (ha:IsN w lo hi j x) (X:IsN w lo' i p y) (aa:hi<=w.heap.size) (ab:i<=w.heap.size) (E:(A9 x).length<=4294967296) (S:(A9 y).length<=4294967296):
 Calls Tryz.prog 72 #[j,p] w fun e w'=>(∃v,e= .returned v/\IsN w' w.heap.size w'.heap.size v (x*y))/\Below w.heap.size w w':=by
 obtain⟨A,c,rfl,_,_,M⟩:=ha;obtain⟨B,d,rfl,_,_,W⟩:=X;generalize P:A9 x=a at*;generalize Q:A9 y=g at*;have K:Hid (Lo a/\val a=x):=(by rw[Hid,<-P];exact⟨M5 x,T7 x⟩);have L:Hid (Lo g/\val g=y):=(by rw[Hid,<-Q];exact⟨M5 y,T7 y⟩);clear P Q;go_in;go_wp2_with (at_make;refine zuz W5 rfl _ _ rfl (a.length+g.length) rfl rfl rfl rfl og ?_;intro n az H ac Y U)
 go_loopw [6] (fun m wr=>∃k:Nat,∃h:List Nat,k<=a.length/\m= .int .i64 (k:Int)/\Row wr n 118 (E7 .u32 h)/\Below n w wr/\Hid (wr.heap.size=n+1)/\
  Hid (h.length=a.length+g.length/\Lo h/\(∀f,k+g.length<=f->h.getD f 0=0)/\val h=val (a.take k)*val g)) (fun m _=>a.length-(intOf m).toNat)
 case atStart=>exact⟨0,_,C _,rfl,ac,Y,U,by simp,ztd _,fun f _=>by rw[List.getD_eq_getElem?_getD,List.getElem?_replicate];split<;>rfl,by rw[ypj,Nat.zero_mul];exact ybi (fun x E=>(List.mem_replicate.1 E).2)⟩
 case round=>
  obtain⟨k,h,aq,rfl,hr,s,t,hrel⟩:=hrel;have D:Below w.heap.size w wr:=(by have:=H.out;subst this;exact s);rcases r k a.length with R|al
  ·obtain⟨ba,oa,rfl,_,_,_⟩:=M (N0 (j:=k) R);have F:=hrel;clear hrel;obtain⟨aB,rfl⟩:=nm (wr:b);go_wp2
   go_loopw [7,8] (fun V m J=>∃f:Nat,∃o:List Nat,∃l:Int,f<=g.length/\m= .int .i64 (f:Int)/\V= .int .u64 l/\0<=l/\l<=999999999/\Row J n 118 (E7 .u32 o)/\Below n w J/\Hid (J.heap.size=n+1)/\
    Hid (o.length=a.length+g.length/\Lo o/\(∀f,k+g.length<=f->o.getD f 0=0)/\(val o:Int)+l*pw (k+f)=val h+((a.getD k 0:Nat):Int)*pw k*val (g.take f))) (fun _ m _=>g.length-(intOf m).toNat)
   case atStart=>exact⟨0,h,0,C _,rfl,rfl,by omega,by omega,hr,s,t,F.out.1,F.out.2.1,F.out.2.2.1,by simp[val]⟩
   case round=>
    clear hr s D t;obtain⟨f,o,l,an,rfl,rfl,Z,ak,hr,s,t,hrel⟩:=hrel;have D:Below w.heap.size w wr:=(by have:=H.out;subst this;exact s);have G:Hid (k+g.length<o.length):=(by rw[hrel.out.1];unfold Hid;omega);rcases r f g.length with O|ao
    ·obtain⟨x,E,ad,ae,ar⟩:=X7 (j:=k) K.out.1 (M.below D aa).at_ R;obtain⟨bb,ob,rfl,_,_,N⟩:=(W.below D ab) (N0 (j:=f) O);obtain⟨y,S,af,ag,ay⟩:=X7 (j:=f) L.out.1 N O;clear N;obtain⟨z,T,ah,U,ai⟩:=hr.lo hrel.out.2.1 (i:=k+f) (oh G);have aj:=hr.frozen (k+f);have I:=zql ad ae af ag;have au:=I.1;have av:=I.2;clear I;go_wp2;go_quiet (fail);go_wp2;go_roundw
     case rel=>
      refine⟨f+1,o.set (k+f) ((l+z+x*y)%1000000000).toNat,(l+z+x*y)/1000000000,by omega,by go_num,rfl,by omega,by omega,(hr.drewN _).setNum (k+f) _ _ og,(below_drewN s _).setCell (q _) _,
       by have:=t.out;simpa[Hid,World.setCell] using this,by rw[List.length_set];exact hrel.out.1,X8 hrel.out.2.1 og,fun m hi=>by rw[zoi og];exact hrel.out.2.2.1 m hi,?_⟩
      rw[<-E.out];exact ylm (oh G) S.out T.out (t:=l+z+x*y) (c:=l) (c':=(l+z+x*y)/1000000000) (r:=(l+z+x*y)%1000000000) og og og (by rw[E.out];exact hrel.out.2.2.2)
     case measure=>simp[intOf];omega
    ·obtain rfl:f=g.length:=og;obtain⟨z,T,ah,ai⟩:=hr.num (i:=k+g.length) G.out;have aj:=hr.frozen (k+g.length);go_wp2;go_roundw
     case rel=>
      exact⟨k+1,o.set (k+g.length) l.toNat,by omega,by go_num,hr.setNum (k+g.length) _ _ og,s.setCell (q _) _,
       by have:=t.out;simpa[Hid,World.setCell] using this,by rw[List.length_set];exact hrel.out.1,X8 hrel.out.2.1 og,fun m hi=>by rw[zoi og];exact hrel.out.2.2.1 m og,
       yll rfl G.out rfl (hrel.out.2.2.1 _ (q _)) Z F.out.2.2.2 hrel.out.2.2.2⟩
     case measure=>simp[intOf];omega
  ·obtain rfl:k=a.length:=og;have u:Hid (Row wr n 118 (E7 .u32 h)/\val h=x*y/\h.length=a.length+g.length/\Lo h):=⟨hr,by have:=hrel.out.2.2.2;rw[zkt (q _),K.out.2,L.out.2] at this;exact this,hrel.out.1,hrel.out.2.1⟩;clear hr hrel;go_wp2_with fail;rw[<-u.out.2.2.1];refine(ynn _ _ h wr n (n+1) u.out.2.2.2 (q _) (by have:=u.out.2.2.1;unfold maxLen;omega) u.out.1.sv).mono ?_;rintro e aA ⟨⟨v,rfl,hv⟩,rfl⟩;go_wp2_with fail;go_ret;refine⟨⟨_,rfl,?_⟩,D⟩;rw[<-u.out.2.1];exact hv.wide (oh H) (oh t)
def WrN (w:b) (base:Nat) (v:d) (n:Nat):Prop:=(v= .slice none 0 0/\n=0)\/∃g cap a,v= .slice (some ⟨g,0,none⟩) (A9 n).length cap/\base<=g/\Row w g 118 a/\a.take (A9 n).length=E7 .u32 (A9 n)/\(A9 n).length<=cap/\cap<=maxLen
theorem zz1480 {e:Type} {a d:List e} (h:a.take n=d):∀(c:Nat) (x:e),d[c]? =some x->a[c]? =some x:=by
 intro c x b;rw[<-h,List.getElem?_take] at b;split at b
 ·exact b
 ·cases b
theorem WrN.isN {w:b} {base:Nat} (h:WrN w base v n):IsN w base w.heap.size v n:=by
 rcases h with⟨rfl,rfl⟩|⟨g,cap,k,rfl,d,hr,e,a,c⟩
 ·exact IsN.zero
 ·exact⟨_,cap,rfl,a,c,fun _=>⟨g,0,rfl,d,hr.lt,fun i j f=>by rw[Nat.zero_add,hr.cell];exact zz1480 e i j f⟩⟩
theorem WrN.setFar {w:b} {base:Nat} (h:WrN w base v n) {p:Addr} (k:p.block<base) (a:d):WrN (w.setCell p a) base v n:=by
 rcases h with h|⟨g,cap,c,rfl,i,hr,j,e,f⟩
 ·exact .inl h
 ·exact .inr ⟨g,cap,c,rfl,i,hr.far og a,j,e,f⟩
theorem WrN.mono {w:b} {base a:Nat} (h:WrN w base v n) (i:a<=base):WrN w a v n:=by
 rcases h with h|⟨g,cap,c,rfl,j,hr,f,d,e⟩
 ·exact .inl h
 ·exact .inr ⟨g,cap,c,rfl,by omega,hr,f,d,e⟩
theorem Own.wr {w:b} {base:Nat} {A:Option Addr} {len:Nat} (h:Own w base 118 (.slice A len c) (E7 .u32 l)) (a:m<=l.length) (f:A9 (val l)=l.take m):WrN w base (.slice A m c) (val l):=by
 have d:(A9 (val l)).length=m:=(by rw[f,List.length_take,Nat.min_eq_left a]);rcases h.2 with⟨hv,e⟩|⟨g,cap,j,hv,k,o,e,n,q,i⟩
 ·have p:l=[]:=cel_nil_iff.1 (List.eq_nil_of_length_eq_zero e);subst p;simp only[Value.slice.injEq] at hv;obtain⟨rfl,_,rfl⟩:=hv;simp at a;subst a;exact .inl ⟨rfl,rfl⟩
 ·simp only[Value.slice.injEq] at hv;obtain⟨rfl,_,rfl⟩:=hv;rw[zmp] at e i;refine .inr ⟨g,c,j.toList,by rw[d],k,?_,?_,by rw[d];omega,n⟩
  ·unfold Row;simpa using o
  ·rw[d,f,zyo,<-i,Nat.mul_one,List.take_take,Nat.min_eq_left a]
theorem ynj {w:b} {x y:Nat} (ha:IsN w lo hi j x) (an:IsN w lo' i p y) (ao:hi<=w.heap.size) (aq:i<=w.heap.size) (K:y<=x) (aD:(A9 x).length<=4294967296):
 Calls Tryz.prog 76 #[j,p] w fun e w'=>(∃v,e= .returned v/\WrN w' w.heap.size v (x-y))/\Below w.heap.size w w':=by
 have al:=Y5 K;obtain⟨A,c,rfl,_,_,aj⟩:=ha;obtain⟨B,d,rfl,_,_,ak⟩:=an;generalize W:A9 x=a at*;generalize X:A9 y=z at*;have G:Hid (Lo a/\val a=x):=(by rw[Hid,<-W];exact⟨M5 x,T7 x⟩);have H:Hid (Lo z/\val z=y):=(by rw[Hid,<-X];exact⟨M5 y,T7 y⟩);have af:=f K;clear W X K;generalize T:w.heap.size=bs at*;have ae:=f T;clear T;go_in;go_wp2
 go_loopw [5,6,7] (fun v ah M wr=>∃(k:Nat) (g:List Nat) (q:Int),k<=a.length/\M= .int .i64 (k:Int)/\ah= .int .i64 q/\0<=q/\q<=1/\Own wr bs 118 v (E7 .u32 g)/\Below bs w wr/\
  Hid (g.length=k/\Lo g/\(val g:Int)=val (a.take k)-val (z.take k)+q*pw k)) (fun _ _ M _=>a.length-(intOf M).toNat)
 case atStart=>exact⟨0,[],0,by omega,rfl,rfl,by omega,by omega,Own.nil _ _ _,Below.refl _ _,rfl,zxf,by simp[val]⟩
 case round=>
  obtain⟨k,g,q,az,rfl,rfl,aB,aC,s,n,hrel⟩:=hrel;have D:bs<=wr.heap.size:=(by have:=n.size;have:=ae.out;omega);have aA:k<=4294967297:=og;have E:Hid ((E7 .u32 g).length<=4294967297):=(by rw[Hid,zmp,hrel.out.1];omega);rcases r k a.length with J|J
  ·obtain⟨ba,oa,rfl,_,_,U⟩:=(aj.below n ao) (N0 (j:=k) J);obtain⟨t,F,aE,aG,aH⟩:=X7 (j:=k) G.out.1 U J;clear U;rcases r k z.length with C|C
   ·obtain⟨bb,ob,rfl,_,_,V⟩:=(ak.below n aq) (N0 (j:=k) C);obtain⟨P,Z,aI,aJ,aK⟩:=X7 (j:=k) H.out.1 V C;clear V;rcases Int.lt_or_le (t-q-P) 0 with au|av
    ·go_wp2_with (at_builtin;refine zly W5 rfl _ _ rfl rfl s rfl rfl (oh E) D ?_;intro N O l o L);go_roundw;(case rel=>rw[zln .u32 g (t-q-P+1000000000).toNat _ og] at l;exact⟨k+1,_,1,by omega,by go_num,rfl,by omega,by omega,l,n.trans o,by rw[u];simp[hrel.out.1],zml hrel.out.2.1 og,zzw hrel.out.1 F.out Z.out og og hrel.out.2.2⟩);case measure=>simp[intOf];omega
    ·go_wp2_with (at_builtin;refine zly W5 rfl _ _ rfl rfl s rfl rfl (oh E) D ?_;intro N O l o L);go_roundw;(case rel=>rw[zln .u32 g (t-q-P).toNat _ og] at l;exact⟨k+1,_,0,by omega,by go_num,rfl,by omega,by omega,l,n.trans o,by rw[u];simp[hrel.out.1],zml hrel.out.2.1 og,zzw hrel.out.1 F.out Z.out og og hrel.out.2.2⟩);case measure=>simp[intOf];omega
   ·rcases Int.lt_or_le (t-q) 0 with au|av
    ·go_wp2_with (at_builtin;refine zly W5 rfl _ _ rfl rfl s rfl rfl (oh E) D ?_;intro N O l o L);go_roundw;(case rel=>rw[zln .u32 g (t-q+1000000000).toNat _ og] at l;exact⟨k+1,_,1,by omega,by go_num,rfl,by omega,by omega,l,n.trans o,by rw[u];simp[hrel.out.1],zml hrel.out.2.1 og,zzw (y:=0) hrel.out.1 F.out (by rw[zmq C];rfl) og og hrel.out.2.2⟩);case measure=>simp[intOf];omega
    ·go_wp2_with (at_builtin;refine zly W5 rfl _ _ rfl rfl s rfl rfl (oh E) D ?_;intro N O l o L);go_roundw;(case rel=>rw[zln .u32 g (t-q).toNat _ og] at l;exact⟨k+1,_,0,by omega,by go_num,rfl,by omega,by omega,l,n.trans o,by rw[u];simp[hrel.out.1],zml hrel.out.2.1 og,zzw (y:=0) hrel.out.1 F.out (by rw[zmq C];rfl) og og hrel.out.2.2⟩);case measure=>simp[intOf];omega
  ·obtain rfl:k=a.length:=og;have hv:Hid (val g=x-y):=(by have h:=yon (L:=g) (b:=z) (bw:=q) hrel.out.1 rfl al hrel.out.2.1 og (by rw[G.out.2,H.out.2];exact af.out) (by rw[zkt (l:=g) (Nat.le_of_eq hrel.out.1)];exact hrel.out.2.2);rw[G.out.2,H.out.2] at h;exact h);have hlo:=f hrel.out.2.1;obtain⟨aa,ai,ay,I,R,S⟩:=s.sl;subst ay;rw[zmp] at I;obtain⟨Q,ab,ac,ad⟩:=U2 s I R S;clear s hrel I R S;rw[zmp] at Q⊢;go_wp2_with fail;refine(yno aa ai g wr bs wr.heap.size hlo.out ab.out ac.out ad.out).mono ?_;rintro e aL ⟨⟨m,rfl,ar,Y⟩,rfl⟩;have ag:=f Y;clear Y;go_wp2_with fail;go_ret;refine⟨⟨_,rfl,?_⟩,n⟩;rw[<-hv.out];exact Own.wr Q.out ar ag.out
theorem yni {w:b} {x y:Nat} (ha:IsN w lo hi j x) (a:IsN w lo' i p y) (g:hi<=w.heap.size) (k:i<=w.heap.size) (l:y<=x) (n:(A9 x).length<=4294967296):
 Calls Tryz.prog 76 #[j,p] w fun e w'=>(∃v,e= .returned v/\IsN w' w.heap.size w'.heap.size v (x-y))/\Below w.heap.size w w':=
 (ynj ha a g k l n).mono fun e w' ⟨⟨v,c,hv⟩,m⟩=>⟨⟨v,c,hv.isN⟩,m⟩
theorem zz1427 (A B:Option Addr) (c d:Nat) (a g:List Nat) (w:b) (lo hi lo' i:Nat) (ha:Lo a) (C:Lo g) (K:a.length<=maxLen) (L:g.length<=maxLen) (I:SV w lo hi A (E7 .u32 a)) (J:SV w lo' i B (E7 .u32 g))
 (p:Int) (m:a.length<g.length->p= -1) (o:g.length<a.length->p=1) (G:a.length=g.length->p=V8 (val a) (val g)):
 Calls Tryz.prog 75 #[.slice A a.length c,.slice B g.length d] w fun e w'=>e= .returned (.int .i64 p)/\Dr w w':=by
 unfold maxLen at K L;have u:=f ha;clear ha;have v:=f C;clear C;have z:=f G;clear G;rcases Nat.lt_trichotomy a.length g.length with h|h|h
 ·have j:=f (m h);clear m o;go_in;go_wp2;go_ret;exact⟨I9 j.out.symm,Dr.refl w⟩
 ·have j:=f (z.out h);clear m o z;have Q:(((a.length:Int)) !=(g.length:Int))=false:=(by simp[h]);have l:=f h;have H:a.length<=g.length:=og;have P:g.length<=a.length:=og;clear h;go_in;go_wp2;go_loopw [5] (fun t wr=>∃k:Nat,k<=a.length/\t= .int .i64 ((k:Int)-1)/\Dr w wr/\Hid (a.drop k=g.drop k)) (fun t _=>(intOf t+1).toNat);case atStart=>exact⟨a.length,q _,rfl,Dr.refl w,by rw[List.drop_length,l.out,List.drop_length];rfl⟩
  case round=>
   obtain⟨k,F,rfl,⟨n,rfl⟩,hd⟩:=hrel;rcases k with _|k
   ·go_wp2;go_ret;refine⟨I9 ?_,(Dr.refl w).drewN n⟩;have:=hd.out;simp only[List.drop_zero] at this;rw[j.out,zwg (by rw[this])]
   ·obtain⟨ba,oa,rfl,_,_,D⟩:=I (N0 F);obtain⟨bb,ob,rfl,_,_,E⟩:=J (N0 (Nat.le_trans F H));obtain⟨x,r,R,S⟩:=zoe (j:=k) D og;obtain⟨y,s,T,U⟩:=zoe (j:=k) E og;clear D E;rw[show(((k+1:Nat):Int)-1)=(k:Int) from by omega];go_wp2;go_quiet (fail);go_wp2
    ·go_ret;refine⟨I9 ?_,((Dr.refl w).drewN n).drewN _⟩;have M:x<y:=(by assumption);rw[j.out,zqu (ybf u.out v.out l.out og hd.out (zli r s))]
    ·go_quiet (fail);go_wp2
     ·go_ret;refine⟨I9 ?_,(((Dr.refl w).drewN n).drewN _).drewN _⟩;have M:y<x:=(by assumption);rw[j.out,zsj (ybf v.out u.out l.out.symm og hd.out.symm (zli r s))]
     ·go_roundw;(case rel=>have N:y<=x:=(by assumption);have O:x<=y:=(by assumption);exact⟨k,by omega,rfl,⟨_,rfl⟩,f (yiw l.out og hd.out (zli r s))⟩);case measure=>simp[intOf]
 ·have j:=f (o h);clear m o;go_in;go_wp2;go_ret;exact⟨I9 j.out.symm,Dr.refl w⟩
theorem zxu {w:b} {x y:Nat} (ha:IsN w lo hi j x) (a:IsN w lo' i p y):
 Calls Tryz.prog 75 #[j,p] w fun e w'=>e= .returned (.int .i64 (V8 x y))/\Dr w w':=by
 have f:=ha.length_le;have g:=a.length_le;obtain⟨A,c,rfl,_,_,k⟩:=ha;obtain⟨B,d,rfl,_,_,l⟩:=a;refine zz1427 A B c d (A9 x) (A9 y) w _ _ _ _ (M5 x) (M5 y) f g k l _ ?_ ?_ ?_
 ·intro h;exact zqu (zzu h)
 ·intro h;exact zsj (zzu h)
 ·intro _;rw[T7,T7]
section
variable {P : Program} {w : b} {ops : Array Oper} {o : Oper} {a : Act} {K : Act → b → Prop} {Q : Exit → Act → b → Prop} {t e : s} {z : d} {bytes base : Nat} {y : Prop}
theorem yyj {k:IntKind} (P:Program) {t e:s} {bytes:Nat} (f:ElT P t e (.int k 0) bytes) (c:Int) (n:Nat) (m:c=(n:Int)) (o:n*(bytes+1)<=140737488355328):
 ∃g:Array d,g=(E7 k (List.replicate n 0)).toArray/\∀w:b,(Instr.makeSlice t (.int .i64 c) (.int .i64 c)).run P w= .ok (.slice (some ⟨w.heap.size,0,none⟩) n n) (w.alloc (.cells g e)):=by obtain⟨a,i,j,l,q⟩:=f.info;rw[Nat.mul_add,Nat.mul_one] at o;have b2:a.bytes*n<=281474976710656:=(by rw[q,Nat.mul_comm];omega);have p:(a.bytes:Int)*(n:Int)<=281474976710656:=(by have h:((a.bytes*n:Nat):Int)<=281474976710656:=og;rwa[Int.natCast_mul] at h);refine⟨_,rfl,fun w=> ?_⟩;have hr:=run_make (P:=P) w t e a (.int k 0) f.und i j .i64 .i64 n n og (Int.le_refl _) p og;simp only[Int.toNat_natCast] at hr;(have r:(E7 k (List.replicate n 0)).toArray=madeCells (Value.int k 0).cells (n*a.size):=by apply Array.ext';rw[l,Nat.mul_one];show _=(madeCells #[.int k 0] n).toList;rw[toList_madeCells_one];simp[E7]);rw[m,r];exact hr
theorem zz1463 (f:ElT P t e z bytes) (r:o.guard=none) (s x:Operand) (D:o.op= .call {callee:= .builtin .append,args:= #[s,x],argTypes:= #[t,t]})
 (E:a.eval s=v) (j:Own w base e v xs) {A:Option Addr} {news:List d} (H:a.eval x= .slice A m c) (C:news.length=m) (hr:SV w lo hi A news)
 (l:∀L∈news,L.oneCell'=true) (p:(xs.length+m)*(bytes+1)<=140737488355328) (i:base<=w.heap.size)
 (h:∀b w',Own w' base e b (xs++news)->Below base w w'->w.heap.size<=w'.heap.size->K (a.put o.dst b) w'):
 if Region.wanted o (yielded ops a.tmps)=true then Oper.wp P o a w K Q else y:=by
 obtain⟨J,hi,I,F,q⟩:=f.info
 rw[Nat.mul_add,Nat.mul_one] at p
 have G:Region.wanted o (yielded ops a.tmps)=true:=by simp[Region.wanted,r]
 rw[if_pos G]
 refine ypt w s x t D base e J z 1 bytes f.und hi I F q f.zc og v xs.length xs E j lo _ A m c news H og hr l (by unfold maxLen;omega) og i fun b w' n g _=>
  h b w' (by unfold Own;rw[u,C];exact n) ((Below.refl _ _).grown g i (fun k B=>(World.ownsRow.lt j k B).1)) g.size
end
theorem yiu (h:Lo l) (c:l.length<=k+n):val (l.drop k)<pw n:=by have a:=zmo (zxe h k);have b:pw (l.drop k).length<=pw n:=yal (by rw[List.length_drop];omega);omega
theorem ypi (R k:Nat):val ((A9 R).drop k)=R/pw k:=by
 rcases r (A9 R).length k with h|h
 ·rw[List.drop_eq_nil_of_le og,zqz,Nat.div_eq_of_lt (lim_len_le.1 og)]
 ·have a:=zrn (A9 R) k h;rw[T7] at a;have b:=zmo (znh (M5 R) k);rw[List.length_take,Nat.min_eq_left h] at b;conv=>rhs;rw[a]
  rw[Nat.add_mul_div_left _ _ (zon k),Nat.div_eq_of_lt b,Nat.zero_add]
theorem top_le {B:Nat}:(A9 B).getD n 0*pw n<=B:=by rw[ztc];have a:=Nat.div_mul_le_self B (pw n);have b:=h (pw n) (Nat.mod_le (B/pw n) 1000000000);omega
theorem yfo {B:Nat} (d:(A9 B).length=n+1):1<=(A9 B).getD n 0:=by rw[ztc];have b:pw n<=B:=lim_len_lt.1 og;have a:B<pw (n+1):=lim_len_le.1 og;rw[zkm] at a;have c:B/pw n<1000000000:=(by rw[Nat.div_lt_iff_lt_mul (zon n)];exact a);rw[Nat.mod_eq_of_lt c];exact Nat.div_pos b (zon n)
theorem yvt {R B:Nat} (e:(A9 B).length=n+1) (c:R<B*1000000000) {d:Nat} (hd:d=999999999\/d=R/pw n/(A9 B).getD n 0):R<(d+1)*B:=by
 rcases hd with rfl|rfl
 ·rw[Nat.mul_comm];exact c
 ·have k:=yfo e;have f:=Nat.lt_div_mul_add (a:=R/pw n) (b:=(A9 B).getD n 0) og;have g:=Nat.lt_div_mul_add (a:=R) (b:=pw n) (zon n);generalize R/pw n/(A9 B).getD n 0=d at*;generalize j:R/pw n=l at*;have b:l+1<=(d+1)*(A9 B).getD n 0:=(by rw[Nat.add_mul,Nat.one_mul];omega);have a:=h (pw n) b;have i:=Nat.mul_le_mul_left (d+1) (top_le (B:=B) (n:=n));rw[Nat.add_mul,Nat.one_mul] at a;rw[Nat.mul_assoc] at a;omega
theorem yxj {R B:Nat} (d:(A9 B).length=n+1) (c:R<B*1000000000):(A9 R).length<=n+2/\R/pw n<1000000000000000000:=by have b:B<pw (n+1):=lim_len_le.1 og;have a:R<pw (n+2):=(by rw[show n+2=(n+1)+1 from rfl,zkm,Nat.mul_comm];exact Nat.lt_of_lt_of_le c (h _ (Nat.le_of_lt b)));refine⟨lim_len_le.2 a,?_⟩;rw[Nat.div_lt_iff_lt_mul (zon n)];rw[show n+2=(n+1)+1 from rfl,zkm,zkm] at a;omega
theorem yxh {R a q:Nat} (h:q=val ((A9 R).drop a)) (c:a=n\/(a=(A9 R).length/\a<=n)):q=R/pw n:=by
 rcases c with rfl|⟨rfl,b⟩
 ·rw[h,ypi]
 ·rw[h,List.drop_length,zqz,Nat.div_eq_of_lt (lim_len_le.1 b)]
theorem ysx {a R:Nat}:val (a::A9 R)=a+1000000000*R:=by rw[ztm,T7]
theorem ysw {a R B:Nat} (ha:a<1000000000) (b:R<B):a+1000000000*R<B*1000000000:=og
theorem ytq {R B d:Nat} (h:R<B*d):1<=d/\R<(d-1+1)*B:=by
 rcases d with _|d
 ·simp at h
 ·exact⟨by omega,by rw[Nat.add_sub_cancel,Nat.mul_comm];exact h⟩
theorem ytr {R B d:Nat} (c:d*B<=R) (a:R<(d+1)*B):R-d*B<B/\R-d*B=R%B/\d=R/B:=by
 have e:0<B:=by
  rcases Nat.eq_zero_or_pos B with h|h
  ·subst h;simp at a
  ·exact h
 have b:R/B=d:=Nat.div_eq_of_lt_le c a;rw[Nat.add_mul,Nat.one_mul] at a;exact⟨by omega,by rw[Nat.mod_eq_sub_mul_div,b,Nat.mul_comm],b.symm⟩
theorem yzz {A Q:List Nat} {B R d a:Nat} (b:k<A.length) (c:k<Q.length) (h:val (A.drop (k+1))=B*val (Q.drop (k+1))+R) (g:A.getD k 0+1000000000*R=a) (f:d*B<=a):
 val (A.drop k)=B*val ((Q.set k d).drop k)+(a-d*B):=by rw[ztn b,h,yiv c];have e:B*(d+1000000000*val (Q.drop (k+1)))=d*B+1000000000*(B*val (Q.drop (k+1))):=(by grind);rw[e,Nat.mul_add];omega
theorem yua (X k:Nat):A9 (val ((A9 X).drop k))=(A9 X).drop k:=by
 apply zvp (zxe (M5 X) k);rcases r k (A9 X).length with h|h
 ·right;rw[List.length_drop,ypi,Nat.le_div_iff_mul_le (zon k),<-zxp];exact lim_len_lt.1 og
 ·exact .inl (List.drop_eq_nil_of_le h)
def bs (l:List Nat):ByteArray:=⟨(l.map UInt8.ofNat).toArray⟩

theorem Own.row {w:b} {base:Nat} {e:s} (h:Own w base e v xs) (k:xs≠[]):
 ∃g sp cap,v= .slice (some ⟨g,0,none⟩) xs.length cap/\base<=g/\Row w g e (xs++sp)/\xs.length<=cap/\cap<=maxLen:=by
 rcases h.2 with⟨_,c⟩|⟨g,cap,a,hv,f,j,c,i,l,d⟩
 ·exact absurd (List.eq_nil_of_length_eq_zero c) k
 ·refine⟨g,a.toList.drop xs.length,cap,hv,f,?_,c,i⟩;unfold Row;rw[Nat.mul_one] at d
  have e:xs++List.drop xs.length a.toList=a.toList:=by
   conv=>lhs;lhs;rw[<-d]
   exact List.take_append_drop _ _
  rw[e];exact j
theorem Row.numS {w:b} {t:s} {k:IntKind} {sp:List d} (h:Row w g t (E7 k l++sp)) {i:Nat} (hi:i<l.length):
 ∃x:Int,Hid (x=(l.getD i 0:Nat))/\0<=x/\w.cell? ⟨g,i,none⟩=some (.int k x):=by refine⟨_,rfl,by omega,?_⟩;rw[h.cell,List.getElem?_append_left (by rw[zmp];exact hi),zqf hi]
theorem Row.setS {w:b} {t:s} {k:IntKind} {sp:List d} (h:Row w g t (E7 k l++sp)) (a n:Nat) (hi:a<l.length) (x:Int) (c:x=(n:Int)):
 Row (w.setCell ⟨g,a,none⟩ (.int k x)) g t (E7 k (l.set a n)++sp):=by subst c;rw[yhi,<-List.set_append_left _ _ (by rw[zmp];exact hi)];exact h.set_ a _
end Go.Proofs.YtpbilanpeioonaaGreatDoor
