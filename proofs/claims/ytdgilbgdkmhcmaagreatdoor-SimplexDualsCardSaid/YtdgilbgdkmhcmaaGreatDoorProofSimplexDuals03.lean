/-
 Contracts of package simplex's zeros and lift.
-/
import Derived.Test.YtdgilbgdkmhcmaaGreatDoorProofSimplexDuals02
import Derived.Deep.RegionLaw
import Derived.Lib.ConvBytes
namespace Go.Proofs.YtdgilbgdkmhcmaaGreatDoor
open Go.RowKit
set_option linter.unusedVariables false
set_option maxRecDepth 100000
set_option maxHeartbeats 8000000
open _root_.Go.Lib renaming hid → b
open _root_.Nat renaming le_refl → i, le_trans → F, lt_or_ge → u, zero_le → D, mul_le_mul_right → h
open _root_.List renaming length_append → E
open _root_.Go renaming World → f, Value → d, Calls → j, TypeId → q
open _root_.Go.Proofs.Tryz renaming prog → p
variable {c g hi s k lo lo' m n : Nat} {l : List Nat} {v r C : d} {xs : List d}
def zpd (w w':f) (v:d) (l:List Rat):Prop:=∃a:Nat->Prop,OwnS 3 37 IsR w' w.heap.size a v (C0 l)/\∀b,a b->w.heap.size<=b
theorem yxv (a:Nat):C0 (List.replicate (a+1) (0:Rat))=C0 (List.replicate a 0)++[E7 0]:=by unfold C0;rw[List.replicate_succ',List.map_append];rfl
theorem zys (w:f) (S:n<=1000):
 j p 179 #[.int .i64 (n:Int)] w fun e w'=>(∃v,e= .returned v/\zpd w w' v (List.replicate n 0))/\Below w.heap.size w w':=by
 have P:=R4;go_in;go_wp2_with (at_make;refine zyr zlc rfl _ _ rfl IsR n rfl rfl rfl og (base:=w.heap.size) (S:=fun _=>False) (i _) (fun a h=>h.elim) ?_;intro Z ac C z U);obtain⟨G,F⟩:=C4 C z;clear C z;go_loopw [7,3] (fun r out wr=>∃(c:Nat) (d:Nat->Prop),c<=n/\r= .int .i64 (c:Int)/\Below w.heap.size w wr/\OwnS 3 37 IsR wr w.heap.size d out (C0 (List.replicate c 0))/\Hid (∀a,d a->w.heap.size<=a)) (fun r _ _=>n-(intOf r).toNat);case atStart=>exact⟨0,fun _=>False,D _,rfl,F.out,G.out,fun a h=>h.elim⟩
 case round=>
  obtain⟨c,d,Q,rfl,A,B,y⟩:=hrel;obtain⟨l,x⟩:=C4 A B;clear A B;rcases u c n with o|o
  ·have t:=b o;clear o;have R:=t.out;go_wp2_with fail;refine(zvp wr).mono ?_;rintro e g ⟨⟨M,rfl,q⟩,m⟩;obtain⟨N,W,O,X,rfl⟩:=zkh (show IsQ g (G4 wr.heap.size g) M (((0:Int)):Rat) from q);have K:=OwnS.step IsR.stb (T:=fun a=>d a\/(wr.heap.size<=a/\a<g.heap.size)) x.out m (fun a h=> .inl h) (fun a h=>h);have J:=IsQ.stb.to q (F6 (T:=fun a=>d a\/(wr.heap.size<=a/\a<g.heap.size)) fun a h=> .inr h);have s:=nB l m;have I:w.heap.size<=g.heap.size:=s.out.size;have T:=l.out.size;clear m q;go_wp2_with (at_builtin;refine zpx zlc rfl _ _ rfl IsR.stb rfl rfl rfl K J rfl (by intro Y E;simp[Value.cells] at E;rcases E with rfl|rfl|rfl<;>rfl) (by rw[show(C0 (List.replicate c (0:Rat))).length=c by simp[C0]];omega) I ?_;intro aa ad L H V);go_roundw;(case rel=>exact⟨c+1,fun a=>d a\/(wr.heap.size<=a/\a<g.heap.size),t.out,by go_num,s.out.trans H,by rw[yxv];exact L,fun a k=>by rcases k with k|k;exact y.out a k;omega⟩);case measure=>simp[intOf];omega
  ·obtain rfl:c=n:=og;go_wp2_with fail;go_ret;exact⟨⟨_,rfl,d,x.out,y.out⟩,l.out⟩
def zos (l:List Rat) (b:Nat) (a:Nat):Int:=(l.getD a 0).num*((b/(l.getD a 0).den:Nat):Int)
theorem ygz {w:f} {ar:d} {l:List Rat} {k:Nat} (h:IsV w (C2 w) v (C0 l)) (I:IsN w 0 w.heap.size ar k) (J:l.length=m) (bf:m<=1000) (aj:∀q∈l,Sz q 100000) (Y:(A9 k).length<=1000000) (hd:∀q∈l,0<k/q.den):
 j p 174 #[v,ar] w fun e w'=>(∃aq,e= .returned aq/\zpd w w' aq (ints m (zos l k)))/\Below w.heap.size w w':=by
 obtain⟨G,aB,aA,ay,av,P⟩:=hd6 h aj J hd Y (zrq I);obtain⟨A,c,rfl,aW⟩:=T4 h;obtain⟨C,a5,rfl,_,_,_⟩:=id I;obtain⟨bp,af⟩:=nm ((A9 k).length);have el:(C0 l).length=m:=(by simp[C0,J]);rw[el] at G aW⊢;rw[<-af] at P⊢;obtain⟨a1,H,a7,r,aR,ae,_⟩:=id G.out;simp only[Value.slice.injEq] at r;obtain⟨-,-,rfl⟩:=r;have a8:c<=9223372036854775807:=(by unfold maxLen at ae;omega);rw[el] at aR;clear h I J aj Y hd el af ae;have a6:=R4;go_in;go_wp2_with (at_make;refine zyr zlc rfl _ _ rfl IsR m rfl rfl rfl og (base:=w.heap.size) (S:=fun _=>False) (i _) (fun a h=>h.elim) ?_;intro bt bw ah aa bh);obtain⟨aD,au⟩:=C4 ah aa;clear ah aa;go_loopw [13,5,7] (fun L out _ wr=>∃(g:Nat) (n:Nat->Prop),g<=m/\L= .int .i64 (g:Int)/\Below w.heap.size w wr/\OwnS 3 37 IsR wr w.heap.size n out (C0 (ints g (zos l k)))/\Hid (∀a,n a->w.heap.size<=a)) (fun L _ _ _=>m-(intOf L).toNat);case atStart=>exact⟨0,fun _=>False,D _,rfl,au.out,aD.out,fun a h=>h.elim⟩
 case round=>
  obtain⟨g,n,a9,rfl,ad,ag,Z⟩:=hrel;obtain⟨s,S⟩:=C4 ad ag;clear ad ag;rcases u g m with o|o
  ·obtain⟨x,r,ai⟩:=znx (l:=l) (j:=g) (by rw[aA.out];exact o);obtain⟨a4,bq,aI,aJ,aK,aL,rfl,_,t,T,H,U⟩:=zmd (IsV.stb.to G.out (F7 s.out)) ai;obtain⟨aM,V⟩:=nm ((E7 x).neg);obtain⟨aN,W⟩:=nm ((E7 x).num.length);obtain⟨aO,X⟩:=nm ((E7 x).den.length);rw[<-V] at T t;rw[<-W] at H t;rw[<-X] at U t;obtain⟨aE,R⟩:=C4 (zup t) (List.mem_of_getElem? r);have an:zos l k g=x.num*((k/x.den:Nat):Int):=(by unfold zos;rw[List.getD_eq_getElem?_getD,r];rfl);have aC:=b an;have bd:(0:Int)<=(g:Int):=og;have be:(g:Int)<(m:Int):=og;obtain⟨bA,aV,B,ao,aX⟩:=K7 wr #[.bool aM,.slice aI aN aJ,.slice aK aO aL] 37;have N:=b B;have aG:=nQ aE B;have aH:=b (I7 (IsK.stb.next (IsK.stb.next P.out s.out) B));obtain⟨aY,aZ,a0⟩:=C5 ao;have az:=b o;obtain⟨z,al⟩:=nm (x.num*((k/x.den:Nat):Int));have Q:=b al;clear r ai t V W X ao aX B o al an;go_wp2_with fail;clear aV T H U;refine(yaq aG.out aH.out (aB.out x R.out) av.out (ay.out x R.out)).mono ?_;rw[<-Q.out];rintro e E ⟨⟨bu,rfl,K⟩,ac⟩;obtain⟨a2,bj,a3,bm,rfl⟩:=zkh K;have M:=nB N ac;have aT:=OwnS.step IsR.stb (T:=fun a=>n a\/(wr.heap.size<=a/\a<E.heap.size)) S.out M.out (fun a h=> .inl h) (fun a h=>h);have aS:=IsQ.stb.to K (F6 (T:=fun a=>n a\/(wr.heap.size<=a/\a<E.heap.size)) fun a h=> .inr ⟨F N.out.size h.1,h.2⟩);have O:=b (C9 s.out M.out);have aQ:w.heap.size<=E.heap.size:=O.out.size;have bg:=s.out.size;have o:=az.out;clear ac K aY aZ a0;go_wp2_with (at_builtin;refine zpx zlc rfl _ _ rfl IsR.stb rfl rfl rfl aT aS rfl (by intro br ak;simp[Value.cells] at ak;rcases ak with rfl|rfl|rfl<;>rfl) (by rw[show(C0 (ints g (zos l k))).length=g by simp[C0,zqg]];omega) aQ ?_;intro bv bx aU aP bi);go_roundw;(case rel=>refine⟨g+1,fun a=>n a\/(wr.heap.size<=a/\a<E.heap.size),o,by go_num,O.out.trans aP,?_,fun a y=>by rcases y with y|y;exact Z.out a y;omega⟩;rw[ygg,C0,List.map_append,aC.out,<-Q.out];exact aU);case measure=>simp[intOf];omega
  ·obtain rfl:g=m:=og;go_wp2_with fail;go_ret;exact⟨⟨_,rfl,n,S.out,Z.out⟩,s.out⟩
theorem yji (A:Option Addr) (c:Nat) (l:List Nat) (w:f) (lo hi:Nat) (z:Lo l) (J:l.length<=c) (B:c<=maxLen) (G:SV w lo hi A (C8 .u32 l)):
 j p 146 #[.slice A l.length c] w fun e w'=>(∃m,e= .returned (.slice A m c)/\m<=l.length/\A9 (val l)=l.take m)/\w=w':=by
 have H:=b B;unfold maxLen at B;have o:=b z;clear z;go_in;go_wp2;go_loop [0] (fun s=>∃m:Nat,m<=l.length/\s= .slice A m c/\Hid (∀a,m<=a->a<l.length->l.getD a 0=0)) (fun s=>match s with| .slice _ m _=>m|_=>0);case atStart=>exact⟨l.length,i _,rfl,b (by intro a t v;omega)⟩
 case round=>
  obtain⟨m,k,rfl,n⟩:=hrel;rcases m with _|m
  ·go_wp2;go_ret;exact⟨⟨0,rfl,D _,ycf o.out (D _) n.out (.inl rfl)⟩,rfl⟩
  ·obtain⟨ba,oa,rfl,_,_,y⟩:=G (L8 k);obtain⟨x,C,K,L⟩:=zmn (j:=m) y og;clear y;by_cases r:x=0
   ·subst r;go_wp2;go_round
    case rel=>exact⟨m,by omega,rfl,b (by
     intro a t v;rcases Nat.eq_or_lt_of_le t with g|g
     ·subst g;have:=C.out;omega
     ·exact n.out a g v)⟩
    case measure=>simp
   ·have I:(x==0)=false:=(by simpa using r);go_wp2;go_ret;exact⟨⟨m+1,rfl,k,ycf o.out k n.out (.inr (by have:=C.out;simp only[Nat.add_sub_cancel];omega))⟩,rfl⟩
theorem yjh (A:Option Addr) (c:Nat) (l:List Nat) (w:f) (lo hi:Nat) (o:Lo l) (r:l.length<=c) (k:c<=maxLen) (g:SV w lo hi A (C8 .u32 l)):
 j p 146 #[.slice A l.length c] w fun e w'=>(∃v,e= .returned v/\IsN w lo hi v (val l))/\w=w':=
 (yji A c l w lo hi o r k g).mono fun e w' ⟨⟨m,n,s,a⟩,t⟩=>⟨⟨_,n,A,c,by rw[a,List.length_take,Nat.min_eq_left s],by rw[a,List.length_take];omega,k,by rw[a,zwa];exact g.take m⟩,t⟩
theorem zxy {w:f} (ha:IsL .u32 w lo hi r l) (d:Lo l):
 j p 146 #[r] w fun e w'=>(∃v,e= .returned v/\IsN w lo hi v (val l))/\w=w':=by obtain⟨A,c,rfl,hc,b,a⟩:=ha;exact yjh A c l w lo hi d hc b a
theorem ztl {w:f} {x y:Nat} (ha:IsN w lo hi r x) (Z:IsN w lo' s C y) (ad:hi<=w.heap.size) (ae:s<=w.heap.size) (G:(A9 x).length<=4294967296) (U:(A9 y).length<=4294967296):
 j p 69 #[r,C] w fun e w'=>(∃v,e= .returned v/\IsN w' w.heap.size w'.heap.size v (x*y))/\Below w.heap.size w w':=by
 obtain⟨A,c,rfl,_,_,O⟩:=ha;obtain⟨B,d,rfl,_,_,Y⟩:=Z;generalize R:A9 x=a at*;generalize S:A9 y=g at*;have M:Hid (Lo a/\val a=x):=(by rw[Hid,<-R];exact⟨L6 x,N8 x⟩);have N:Hid (Lo g/\val g=y):=(by rw[Hid,<-S];exact⟨L6 y,N8 y⟩);clear R S;go_in;go_wp2_with (at_make;refine zsg U0 rfl _ _ rfl (a.length+g.length) rfl rfl rfl rfl og ?_;intro n aC J af aa W)
 go_loopw [6] (fun m wr=>∃k:Nat,∃h:List Nat,k<=a.length/\m= .int .i64 (k:Int)/\Row wr n 115 (C8 .u32 h)/\Below n w wr/\Hid (wr.heap.size=n+1)/\
  Hid (h.length=a.length+g.length/\Lo h/\(∀b,k+g.length<=b->h.getD b 0=0)/\val h=val (a.take k)*val g)) (fun m _=>a.length-(intOf m).toNat)
 case atStart=>exact⟨0,_,D _,rfl,af,aa,W,by simp,zql _,fun b _=>by rw[List.getD_eq_getElem?_getD,List.getElem?_replicate];split<;>rfl,by rw[ylh,Nat.zero_mul];exact zyn (fun x G=>(List.mem_replicate.1 G).2)⟩
 case round=>
  obtain⟨k,h,av,rfl,hr,q,t,hrel⟩:=hrel;have F:Below w.heap.size w wr:=(by have:=J.out;subst this;exact q);rcases u k a.length with T|aq
  ·obtain⟨ba,oa,rfl,_,_,_⟩:=O (L8 (j:=k) T);have H:=hrel;clear hrel;obtain⟨aE,rfl⟩:=nm (wr:f);go_wp2
   go_loopw [7,8] (fun X m L=>∃b:Nat,∃o:List Nat,∃l:Int,b<=g.length/\m= .int .i64 (b:Int)/\X= .int .u64 l/\0<=l/\l<=999999999/\Row L n 115 (C8 .u32 o)/\Below n w L/\Hid (L.heap.size=n+1)/\
    Hid (o.length=a.length+g.length/\Lo o/\(∀b,k+g.length<=b->o.getD b 0=0)/\(val o:Int)+l*pw (k+b)=val h+((a.getD k 0:Nat):Int)*pw k*val (g.take b))) (fun _ m _=>g.length-(intOf m).toNat)
   case atStart=>exact⟨0,h,0,D _,rfl,rfl,by omega,by omega,hr,q,t,H.out.1,H.out.2.1,H.out.2.2.1,by simp[val]⟩
   case round=>
    clear hr q F t;obtain⟨b,o,l,ar,rfl,rfl,ac,ao,hr,q,t,hrel⟩:=hrel;have F:Below w.heap.size w wr:=(by have:=J.out;subst this;exact q);have I:Hid (k+g.length<o.length):=(by rw[hrel.out.1];unfold Hid;omega);rcases u b g.length with Q|au
    ·obtain⟨x,G,ag,ah,ay⟩:=T8 (j:=k) M.out.1 (O.below F ad).at_ T;obtain⟨bb,ob,rfl,_,_,P⟩:=(Y.below F ae) (L8 (j:=b) Q);obtain⟨y,U,ai,aj,aB⟩:=T8 (j:=b) N.out.1 P Q;clear P;obtain⟨z,V,ak,W,al⟩:=hr.lo hrel.out.2.1 (i:=k+b) (oh I);have an:=hr.frozen (k+b);have K:=zot ag ah ai aj;have az:=K.1;have aA:=K.2;clear K;go_wp2;go_quiet (fail);go_wp2;go_roundw
     case rel=>
      refine⟨b+1,o.set (k+b) ((l+z+x*y)%1000000000).toNat,(l+z+x*y)/1000000000,by omega,by go_num,rfl,by omega,by omega,(hr.drewN _).setNum (k+b) _ _ og,(below_drewN q _).setCell (i _) _,
       by have:=t.out;simpa[Hid,World.setCell] using this,by rw[List.length_set];exact hrel.out.1,R3 hrel.out.2.1 og,fun m hi=>by rw[getD_set_ne og];exact hrel.out.2.2.1 m hi,?_⟩
      rw[<-G.out];exact yhm (oh I) U.out V.out (t:=l+z+x*y) (c:=l) (c':=(l+z+x*y)/1000000000) (r:=(l+z+x*y)%1000000000) og og og (by rw[G.out];exact hrel.out.2.2.2)
     case measure=>simp[intOf];omega
    ·obtain rfl:b=g.length:=og;obtain⟨z,V,ak,al⟩:=hr.num (i:=k+g.length) I.out;have an:=hr.frozen (k+g.length);go_wp2;go_roundw
     case rel=>
      exact⟨k+1,o.set (k+g.length) l.toNat,by omega,by go_num,hr.setNum (k+g.length) _ _ og,q.setCell (i _) _,
       by have:=t.out;simpa[Hid,World.setCell] using this,by rw[List.length_set];exact hrel.out.1,R3 hrel.out.2.1 og,fun m hi=>by rw[getD_set_ne og];exact hrel.out.2.2.1 m og,
       yhl rfl I.out rfl (hrel.out.2.2.1 _ (i _)) ac H.out.2.2.2 hrel.out.2.2.2⟩
     case measure=>simp[intOf];omega
  ·obtain rfl:k=a.length:=og;have E:Hid (Row wr n 115 (C8 .u32 h)/\val h=x*y/\h.length=a.length+g.length/\Lo h):=⟨hr,by have:=hrel.out.2.2.2;rw[Z7 (i _),M.out.2,N.out.2] at this;exact this,hrel.out.1,hrel.out.2.1⟩;clear hr hrel;go_wp2_with fail;rw[<-E.out.2.2.1];refine(yjh _ _ h wr n (n+1) E.out.2.2.2 (i _) (by have:=E.out.2.2.1;unfold maxLen;omega) E.out.1.sv).mono ?_;rintro e aD ⟨⟨v,rfl,hv⟩,rfl⟩;go_wp2_with fail;go_ret;refine⟨⟨_,rfl,?_⟩,F⟩;rw[<-E.out.2.1];exact hv.wide (oh J) (oh t)
def WrN (w:f) (base:Nat) (v:d) (n:Nat):Prop:=(v= .slice none 0 0/\n=0)\/∃g cap a,v= .slice (some ⟨g,0,none⟩) (A9 n).length cap/\base<=g/\Row w g 115 a/\a.take (A9 n).length=C8 .u32 (A9 n)/\(A9 n).length<=cap/\cap<=maxLen
theorem zz1356 {e:Type} {a d:List e} (h:a.take n=d):∀(c:Nat) (x:e),d[c]? =some x->a[c]? =some x:=by
 intro c x b;rw[<-h,List.getElem?_take] at b;split at b
 ·exact b
 ·cases b
theorem WrN.isN {w:f} {base:Nat} (h:WrN w base v n):IsN w base w.heap.size v n:=by
 rcases h with⟨rfl,rfl⟩|⟨g,cap,k,rfl,c,hr,d,a,b⟩
 ·exact IsN.zero
 ·exact⟨_,cap,rfl,a,b,fun _=>⟨g,0,rfl,c,hr.lt,fun i j e=>by rw[Nat.zero_add,hr.cell];exact zz1356 d i j e⟩⟩
theorem WrN.setFar {w:f} {base:Nat} (h:WrN w base v n) {p:Addr} (k:p.block<base) (a:d):WrN (w.setCell p a) base v n:=by
 rcases h with h|⟨g,cap,b,rfl,i,hr,j,c,e⟩
 ·exact .inl h
 ·exact .inr ⟨g,cap,b,rfl,i,hr.far og a,j,c,e⟩
theorem WrN.mono {w:f} {base a:Nat} (h:WrN w base v n) (i:a<=base):WrN w a v n:=by
 rcases h with h|⟨g,cap,b,rfl,j,hr,e,c,d⟩
 ·exact .inl h
 ·exact .inr ⟨g,cap,b,rfl,by omega,hr,e,c,d⟩
theorem Own.wr {w:f} {base:Nat} {A:Option Addr} {len:Nat} (h:Own w base 115 (.slice A len c) (C8 .u32 l)) (a:m<=l.length) (e:A9 (val l)=l.take m):WrN w base (.slice A m c) (val l):=by
 have b:(A9 (val l)).length=m:=(by rw[e,List.length_take,Nat.min_eq_left a]);rcases h.2 with⟨hv,d⟩|⟨g,cap,j,hv,k,o,d,n,q,i⟩
 ·have p:l=[]:=cel_nil_iff.1 (List.eq_nil_of_length_eq_zero d);subst p;simp only[Value.slice.injEq] at hv;obtain⟨rfl,_,rfl⟩:=hv;simp at a;subst a;exact .inl ⟨rfl,rfl⟩
 ·simp only[Value.slice.injEq] at hv;obtain⟨rfl,_,rfl⟩:=hv;rw[zlr] at d i;refine .inr ⟨g,c,j.toList,by rw[b],k,?_,?_,by rw[b];omega,n⟩
  ·unfold Row;simpa using o
  ·rw[b,e,zwa,<-i,Nat.mul_one,List.take_take,Nat.min_eq_left a]
theorem yye {w:f} {x y:Nat} (ha:IsN w lo hi r x) (ar:IsN w lo' s C y) (au:hi<=w.heap.size) (av:s<=w.heap.size) (M:y<=x) (aH:(A9 x).length<=4294967296):
 j p 73 #[r,C] w fun e w'=>(∃v,e= .returned v/\WrN w' w.heap.size v (x-y))/\Below w.heap.size w w':=by
 have aq:=U1 M;obtain⟨A,c,rfl,_,_,an⟩:=ha;obtain⟨B,d,rfl,_,_,ao⟩:=ar;generalize Y:A9 x=a at*;generalize Z:A9 y=z at*;have I:Hid (Lo a/\val a=x):=(by rw[Hid,<-Y];exact⟨L6 x,N8 x⟩);have J:Hid (Lo z/\val z=y):=(by rw[Hid,<-Z];exact⟨L6 y,N8 y⟩);have ai:=b M;clear Y Z M;generalize V:w.heap.size=bs at*;have ah:=b V;clear V;go_in;go_wp2
 go_loopw [5,6,7] (fun v ak O wr=>∃(k:Nat) (g:List Nat) (q:Int),k<=a.length/\O= .int .i64 (k:Int)/\ak= .int .i64 q/\0<=q/\q<=1/\Own wr bs 115 v (C8 .u32 g)/\Below bs w wr/\
  Hid (g.length=k/\Lo g/\(val g:Int)=val (a.take k)-val (z.take k)+q*pw k)) (fun _ _ O _=>a.length-(intOf O).toNat)
 case atStart=>exact⟨0,[],0,by omega,rfl,rfl,by omega,by omega,Own.nil _ _ _,Below.refl _ _,rfl,zxg,by simp[val]⟩
 case round=>
  obtain⟨k,g,q,aC,rfl,rfl,aE,aG,o,l,hrel⟩:=hrel;have F:bs<=wr.heap.size:=(by have:=l.size;have:=ah.out;omega);have aD:k<=4294967297:=og;have G:Hid ((C8 .u32 g).length<=4294967297):=(by rw[Hid,zlr,hrel.out.1];omega);rcases u k a.length with L|L
  ·obtain⟨ba,oa,rfl,_,_,W⟩:=(an.below l au) (L8 (j:=k) L);obtain⟨t,H,aI,aJ,aK⟩:=T8 (j:=k) I.out.1 W L;clear W;rcases u k z.length with D|D
   ·obtain⟨bb,ob,rfl,_,_,X⟩:=(ao.below l av) (L8 (j:=k) D);obtain⟨R,ac,aL,aM,aN⟩:=T8 (j:=k) J.out.1 X D;clear X;rcases Int.lt_or_le (t-q-R) 0 with az|aA
    ·go_wp2_with (at_builtin;refine zmb U0 rfl _ _ rfl rfl o rfl rfl (oh G) F ?_;intro P Q i n N);go_roundw;(case rel=>rw[zls .u32 g (t-q-R+1000000000).toNat _ og] at i;exact⟨k+1,_,1,by omega,by go_num,rfl,by omega,by omega,i,l.trans n,by rw[E];simp[hrel.out.1],zmt hrel.out.2.1 og,zxh hrel.out.1 H.out ac.out og og hrel.out.2.2⟩);case measure=>simp[intOf];omega
    ·go_wp2_with (at_builtin;refine zmb U0 rfl _ _ rfl rfl o rfl rfl (oh G) F ?_;intro P Q i n N);go_roundw;(case rel=>rw[zls .u32 g (t-q-R).toNat _ og] at i;exact⟨k+1,_,0,by omega,by go_num,rfl,by omega,by omega,i,l.trans n,by rw[E];simp[hrel.out.1],zmt hrel.out.2.1 og,zxh hrel.out.1 H.out ac.out og og hrel.out.2.2⟩);case measure=>simp[intOf];omega
   ·rcases Int.lt_or_le (t-q) 0 with az|aA
    ·go_wp2_with (at_builtin;refine zmb U0 rfl _ _ rfl rfl o rfl rfl (oh G) F ?_;intro P Q i n N);go_roundw;(case rel=>rw[zls .u32 g (t-q+1000000000).toNat _ og] at i;exact⟨k+1,_,1,by omega,by go_num,rfl,by omega,by omega,i,l.trans n,by rw[E];simp[hrel.out.1],zmt hrel.out.2.1 og,zxh (y:=0) hrel.out.1 H.out (by rw[znb D];rfl) og og hrel.out.2.2⟩);case measure=>simp[intOf];omega
    ·go_wp2_with (at_builtin;refine zmb U0 rfl _ _ rfl rfl o rfl rfl (oh G) F ?_;intro P Q i n N);go_roundw;(case rel=>rw[zls .u32 g (t-q).toNat _ og] at i;exact⟨k+1,_,0,by omega,by go_num,rfl,by omega,by omega,i,l.trans n,by rw[E];simp[hrel.out.1],zmt hrel.out.2.1 og,zxh (y:=0) hrel.out.1 H.out (by rw[znb D];rfl) og og hrel.out.2.2⟩);case measure=>simp[intOf];omega
  ·obtain rfl:k=a.length:=og;have hv:Hid (val g=x-y):=(by have h:=ykm (L:=g) (b:=z) (bw:=q) hrel.out.1 rfl aq hrel.out.2.1 og (by rw[I.out.2,J.out.2];exact ai.out) (by rw[Z7 (l:=g) (Nat.le_of_eq hrel.out.1)];exact hrel.out.2.2);rw[I.out.2,J.out.2] at h;exact h);have hlo:=b hrel.out.2.1;obtain⟨ad,al,aB,K,T,U⟩:=o.sl;subst aB;rw[zlr] at K;obtain⟨S,ae,af,ag⟩:=X6 o K T U;clear o hrel K T U;rw[zlr] at S⊢;go_wp2_with fail;refine(yji ad al g wr bs wr.heap.size hlo.out ae.out af.out ag.out).mono ?_;rintro e aO ⟨⟨m,rfl,ay,aa⟩,rfl⟩;have aj:=b aa;clear aa;go_wp2_with fail;go_ret;refine⟨⟨_,rfl,?_⟩,l⟩;rw[<-hv.out];exact Own.wr S.out ay aj.out
theorem yyf (A B:Option Addr) (c d:Nat) (a g:List Nat) (w:f) (lo hi lo' s:Nat) (ha:Lo a) (E:Lo g) (N:a.length<=maxLen) (O:g.length<=maxLen) (L:SV w lo hi A (C8 .u32 a)) (M:SV w lo' s B (C8 .u32 g))
 (r:Int) (o:a.length<g.length->r= -1) (q:g.length<a.length->r=1) (J:a.length=g.length->r=T7 (val a) (val g)):
 j p 72 #[.slice A a.length c,.slice B g.length d] w fun e w'=>e= .returned (.int .i64 r)/\Dr w w':=by
 unfold maxLen at N O;have z:=b ha;clear ha;have C:=b E;clear E;have D:=b J;clear J;rcases Nat.lt_trichotomy a.length g.length with h|h|h
 ·have l:=b (o h);clear o q;go_in;go_wp2;go_ret;exact⟨H6 l.out.symm,Dr.refl w⟩
 ·have l:=b (D.out h);clear o q D;have T:(((a.length:Int)) !=(g.length:Int))=false:=(by simp[h]);have m:=b h;have K:a.length<=g.length:=og;have S:g.length<=a.length:=og;clear h;go_in;go_wp2;go_loopw [5] (fun v wr=>∃k:Nat,k<=a.length/\v= .int .i64 ((k:Int)-1)/\Dr w wr/\Hid (a.drop k=g.drop k)) (fun v _=>(intOf v+1).toNat);case atStart=>exact⟨a.length,i _,rfl,Dr.refl w,by rw[List.drop_length,m.out,List.drop_length];rfl⟩
  case round=>
   obtain⟨k,I,rfl,⟨n,rfl⟩,hd⟩:=hrel;rcases k with _|k
   ·go_wp2;go_ret;refine⟨H6 ?_,(Dr.refl w).drewN n⟩;have:=hd.out;simp only[List.drop_zero] at this;rw[l.out,ybx (by rw[this])]
   ·obtain⟨ba,oa,rfl,_,_,G⟩:=L (L8 I);obtain⟨bb,ob,rfl,_,_,H⟩:=M (L8 (F I K));obtain⟨x,t,U,V⟩:=zmn (j:=k) G og;obtain⟨y,u,W,X⟩:=zmn (j:=k) H og;clear G H;rw[show(((k+1:Nat):Int)-1)=(k:Int) from by omega];go_wp2;go_quiet (fail);go_wp2
    ·go_ret;refine⟨H6 ?_,((Dr.refl w).drewN n).drewN _⟩;have P:x<y:=(by assumption);rw[l.out,zqu (zyk z.out C.out m.out og hd.out (zkb t u))]
    ·go_quiet (fail);go_wp2
     ·go_ret;refine⟨H6 ?_,(((Dr.refl w).drewN n).drewN _).drewN _⟩;have P:y<x:=(by assumption);rw[l.out,ztq (zyk C.out z.out m.out.symm og hd.out.symm (zkb t u))]
     ·go_roundw;(case rel=>have Q:y<=x:=(by assumption);have R:x<=y:=(by assumption);exact⟨k,by omega,rfl,⟨_,rfl⟩,b (yex m.out og hd.out (zkb t u))⟩);case measure=>simp[intOf]
 ·have l:=b (q h);clear o q;go_in;go_wp2;go_ret;exact⟨H6 l.out.symm,Dr.refl w⟩
theorem ybs {w:f} {x y:Nat} (ha:IsN w lo hi r x) (a:IsN w lo' s C y):
 j p 72 #[r,C] w fun e w'=>e= .returned (.int .i64 (T7 x y))/\Dr w w':=by
 have b:=ha.length_le;have g:=a.length_le;obtain⟨A,c,rfl,_,_,i⟩:=ha;obtain⟨B,d,rfl,_,_,k⟩:=a;refine yyf A B c d (A9 x) (A9 y) w _ _ _ _ (L6 x) (L6 y) b g i k _ ?_ ?_ ?_
 ·intro h;exact zqu (zxe h)
 ·intro h;exact ztq (zxe h)
 ·intro _;rw[N8,N8]
section
variable {P : Program} {w : f} {ops : Array Oper} {o : Oper} {a : Act} {K : Act → f → Prop} {Q : Exit → Act → f → Prop} {t e : q} {z : d} {bytes base : Nat} {y : Prop}
theorem yty {k:IntKind} (P:Program) {t e:q} {bytes:Nat} (c:ElT P t e (.int k 0) bytes) (b:Int) (n:Nat) (m:b=(n:Int)) (o:n*(bytes+1)<=140737488355328):
 ∃g:Array d,g=(C8 k (List.replicate n 0)).toArray/\∀w:f,(Instr.makeSlice t (.int .i64 b) (.int .i64 b)).run P w= .ok (.slice (some ⟨w.heap.size,0,none⟩) n n) (w.alloc (.cells g e)):=by obtain⟨a,i,j,l,r⟩:=c.info;rw[Nat.mul_add,Nat.mul_one] at o;have b2:a.bytes*n<=281474976710656:=(by rw[r,Nat.mul_comm];omega);have p:(a.bytes:Int)*(n:Int)<=281474976710656:=(by have h:((a.bytes*n:Nat):Int)<=281474976710656:=og;rwa[Int.natCast_mul] at h);refine⟨_,rfl,fun w=> ?_⟩;have hr:=run_make (P:=P) w t e a (.int k 0) c.und i j .i64 .i64 n n og (Int.le_refl _) p og;simp only[Int.toNat_natCast] at hr;(have s:(C8 k (List.replicate n 0)).toArray=madeCells (Value.int k 0).cells (n*a.size):=by apply Array.ext';rw[l,Nat.mul_one];show _=(madeCells #[.int k 0] n).toList;rw[toList_madeCells_one];simp[C8]);rw[m,s];exact hr
theorem yzp (f:ElT P t e z bytes) (r:o.guard=none) (s x:Operand) (C:o.op= .call {callee:= .builtin .append,args:= #[s,x],argTypes:= #[t,t]})
 (D:a.eval s=v) (j:Own w base e v xs) {A:Option Addr} {news:List d} (H:a.eval x= .slice A m c) (B:news.length=m) (hr:SV w lo hi A news)
 (l:∀L∈news,L.oneCell'=true) (p:(xs.length+m)*(bytes+1)<=140737488355328) (i:base<=w.heap.size)
 (h:∀b w',Own w' base e b (xs++news)->Below base w w'->w.heap.size<=w'.heap.size->K (a.put o.dst b) w'):
 if Region.wanted o (yielded ops a.tmps)=true then Oper.wp P o a w K Q else y:=by
 obtain⟨J,hi,I,F,q⟩:=f.info
 rw[Nat.mul_add,Nat.mul_one] at p
 have G:Region.wanted o (yielded ops a.tmps)=true:=by simp[Region.wanted,r]
 rw[if_pos G]
 refine yln w s x t C base e J z 1 bytes f.und hi I F q f.zc og v xs.length xs D j lo _ A m c news H og hr l (by unfold maxLen;omega) og i fun b w' n g _=>
  h b w' (by unfold Own;rw[E,B];exact n) ((Below.refl _ _).grown g i (fun k u=>(World.ownsRow.lt j k u).1)) g.size
end
theorem yev (h:Lo l) (c:l.length<=k+n):val (l.drop k)<pw n:=by have a:=zkz (zus h k);have b:pw (l.drop k).length<=pw n:=zuz (by rw[List.length_drop];omega);omega
theorem ylg (R k:Nat):val ((A9 R).drop k)=R/pw k:=by
 rcases u (A9 R).length k with h|h
 ·rw[List.drop_eq_nil_of_le og,zpa,Nat.div_eq_of_lt (lim_len_le.1 og)]
 ·have a:=zpb (A9 R) k h;rw[N8] at a;have b:=zkz (zlw (L6 R) k);rw[List.length_take,Nat.min_eq_left h] at b;conv=>rhs;rw[a]
  rw[Nat.add_mul_div_left _ _ (zmv k),Nat.div_eq_of_lt b,Nat.zero_add]
theorem top_le {B:Nat}:(A9 B).getD n 0*pw n<=B:=by rw[zqj];have a:=Nat.div_mul_le_self B (pw n);have b:=h (pw n) (Nat.mod_le (B/pw n) 1000000000);omega
theorem yce {B:Nat} (d:(A9 B).length=n+1):1<=(A9 B).getD n 0:=by rw[zqj];have b:pw n<=B:=lim_len_lt.1 og;have a:B<pw (n+1):=lim_len_le.1 og;rw[X9] at a;have c:B/pw n<1000000000:=(by rw[Nat.div_lt_iff_lt_mul (zmv n)];exact a);rw[Nat.mod_eq_of_lt c];exact Nat.div_pos b (zmv n)
theorem yrs {R B:Nat} (e:(A9 B).length=n+1) (c:R<B*1000000000) {d:Nat} (hd:d=999999999\/d=R/pw n/(A9 B).getD n 0):R<(d+1)*B:=by
 rcases hd with rfl|rfl
 ·rw[Nat.mul_comm];exact c
 ·have k:=yce e;have f:=Nat.lt_div_mul_add (a:=R/pw n) (b:=(A9 B).getD n 0) og;have g:=Nat.lt_div_mul_add (a:=R) (b:=pw n) (zmv n);generalize R/pw n/(A9 B).getD n 0=d at*;generalize j:R/pw n=l at*;have b:l+1<=(d+1)*(A9 B).getD n 0:=(by rw[Nat.add_mul,Nat.one_mul];omega);have a:=h (pw n) b;have i:=Nat.mul_le_mul_left (d+1) (top_le (B:=B) (n:=n));rw[Nat.add_mul,Nat.one_mul] at a;rw[Nat.mul_assoc] at a;omega
theorem ysw {R B:Nat} (d:(A9 B).length=n+1) (c:R<B*1000000000):(A9 R).length<=n+2/\R/pw n<1000000000000000000:=by have b:B<pw (n+1):=lim_len_le.1 og;have a:R<pw (n+2):=(by rw[show n+2=(n+1)+1 from rfl,X9,Nat.mul_comm];exact Nat.lt_of_lt_of_le c (h _ (Nat.le_of_lt b)));refine⟨lim_len_le.2 a,?_⟩;rw[Nat.div_lt_iff_lt_mul (zmv n)];rw[show n+2=(n+1)+1 from rfl,X9,X9] at a;omega
theorem ysu {R a q:Nat} (h:q=val ((A9 R).drop a)) (c:a=n\/(a=(A9 R).length/\a<=n)):q=R/pw n:=by
 rcases c with rfl|⟨rfl,b⟩
 ·rw[h,ylg]
 ·rw[h,List.drop_length,zpa,Nat.div_eq_of_lt (lim_len_le.1 b)]
theorem yon {a R:Nat}:val (a::A9 R)=a+1000000000*R:=by rw[zsd,N8]
theorem yom {a R B:Nat} (ha:a<1000000000) (b:R<B):a+1000000000*R<B*1000000000:=og
theorem ypg {R B d:Nat} (h:R<B*d):1<=d/\R<(d-1+1)*B:=by
 rcases d with _|d
 ·simp at h
 ·exact⟨by omega,by rw[Nat.add_sub_cancel,Nat.mul_comm];exact h⟩
theorem yph {R B d:Nat} (c:d*B<=R) (a:R<(d+1)*B):R-d*B<B/\R-d*B=R%B/\d=R/B:=by
 have e:0<B:=by
  rcases Nat.eq_zero_or_pos B with h|h
  ·subst h;simp at a
  ·exact h
 have b:R/B=d:=Nat.div_eq_of_lt_le c a;rw[Nat.add_mul,Nat.one_mul] at a;exact⟨by omega,by rw[Nat.mod_eq_sub_mul_div,b,Nat.mul_comm],b.symm⟩
theorem yvt {A Q:List Nat} {B R d a:Nat} (b:k<A.length) (c:k<Q.length) (h:val (A.drop (k+1))=B*val (Q.drop (k+1))+R) (g:A.getD k 0+1000000000*R=a) (f:d*B<=a):
 val (A.drop k)=B*val ((Q.set k d).drop k)+(a-d*B):=by rw[zqy b,h,yew c];have e:B*(d+1000000000*val (Q.drop (k+1)))=d*B+1000000000*(B*val (Q.drop (k+1))):=(by grind);rw[e,Nat.mul_add];omega
theorem ypp (X k:Nat):A9 (val ((A9 X).drop k))=(A9 X).drop k:=by
 apply zur (zus (L6 X) k);rcases u k (A9 X).length with h|h
 ·right;rw[List.length_drop,ylg,Nat.le_div_iff_mul_le (zmv k),<-zuy];exact lim_len_lt.1 og
 ·exact .inl (List.drop_eq_nil_of_le h)
def bs (l:List Nat):ByteArray:=⟨(l.map UInt8.ofNat).toArray⟩

theorem Own.row {w:f} {base:Nat} {e:q} (h:Own w base e v xs) (k:xs≠[]):
 ∃g sp cap,v= .slice (some ⟨g,0,none⟩) xs.length cap/\base<=g/\Row w g e (xs++sp)/\xs.length<=cap/\cap<=maxLen:=by
 rcases h.2 with⟨_,b⟩|⟨g,cap,a,hv,d,j,b,i,l,c⟩
 ·exact absurd (List.eq_nil_of_length_eq_zero b) k
 ·refine⟨g,a.toList.drop xs.length,cap,hv,d,?_,b,i⟩;unfold Row;rw[Nat.mul_one] at c
  have e:xs++List.drop xs.length a.toList=a.toList:=by
   conv=>lhs;lhs;rw[<-c]
   exact List.take_append_drop _ _
  rw[e];exact j
theorem Row.numS {w:f} {t:q} {k:IntKind} {sp:List d} (h:Row w g t (C8 k l++sp)) {i:Nat} (hi:i<l.length):
 ∃x:Int,Hid (x=(l.getD i 0:Nat))/\0<=x/\w.cell? ⟨g,i,none⟩=some (.int k x):=by refine⟨_,rfl,by omega,?_⟩;rw[h.cell,List.getElem?_append_left (by rw[zlr];exact hi),zoe hi]
theorem Row.setS {w:f} {t:q} {k:IntKind} {sp:List d} (h:Row w g t (C8 k l++sp)) (a n:Nat) (hi:a<l.length) (x:Int) (b:x=(n:Int)):
 Row (w.setCell ⟨g,a,none⟩ (.int k x)) g t (C8 k (l.set a n)++sp):=by subst b;rw[ydi,<-List.set_append_left _ _ (by rw[zlr];exact hi)];exact h.set_ a _
end Go.Proofs.YtdgilbgdkmhcmaaGreatDoor
