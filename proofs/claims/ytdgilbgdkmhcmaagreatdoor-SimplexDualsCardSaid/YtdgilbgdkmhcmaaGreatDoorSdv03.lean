/-
 The contracts of package long's Sub,Mul,short,a.
-/
import Derived.Test.YtdgilbgdkmhcmaaGreatDoorSdv02
namespace Go.Proofs.YtdgilbgdkmhcmaaGreatDoor
open Go.RowKit
set_option linter.unusedVariables false
set_option maxRecDepth 100000
set_option maxHeartbeats 8000000
open _root_.Go.Lib renaming hid → k
open _root_.Nat renaming le_refl → f, lt_or_ge → s, zero_le → D, mul_le_mul_right → B
open _root_.List renaming getD_eq_getElem?_getD → F
open _root_.Go.RowKit renaming Below → o, Hid → e
open _root_.Go.Proofs.Tryz renaming prog → C
variable {L M M' P S l v : List Nat} {Q U w d b c c' g p r top u u2 v1 a : Int} {V hi q i j lo lo' m n : Nat} {t : TypeId} {z E : Value}
theorem zql (n:Nat):Lo (List.replicate n 0):=by intro x a;rw[List.mem_replicate] at a;omega
theorem yzu (A B:Option Addr) (c d:Nat) (a b:List Nat) (w:World) (lo hi lo' q:Nat) (Y:hi<=w.heap.size) (Z:q<=w.heap.size) (ha:Lo a) (H:Lo b) (ag:a.length<=4294967296) (X:b.length<=a.length) (N:val b<=val a)
 (U:SV w lo hi A (C8 .u32 a)) (V:SV w lo' q B (C8 .u32 b)):
 Calls C 195 #[.slice A a.length c,.slice B b.length d] w fun F w'=>(∃v,F= .returned v/\IsN w' w.heap.size w'.heap.size v (val a-val b))/\o w.heap.size w w':=by
 have Q:=k ha;clear ha;have R:=k H;clear H;have S:=k N;clear N;go_in;go_wp2_with (at_make;refine zsg U0 rfl _ _ rfl a.length rfl rfl rfl rfl og ?_;intro j aB G ad W ae)
 go_loopw [6,15] (fun T i wr=>∃g:Nat,∃L:List Nat,∃h:Int,g<=a.length/\i= .int .i64 (g:Int)/\T= .int .i64 h/\0<=h/\h<=1/\Row wr j 115 (C8 .u32 L)/\o j w wr/\e (wr.heap.size=j+1)/\
  e (L.length=a.length/\Lo L/\(val (L.take g):Int)=val (a.take g)-val (b.take g)+h*pw g)) (fun _ i _=>a.length-(intOf i).toNat)
 case atStart=>exact⟨0,_,0,D _,rfl,rfl,by omega,by omega,ad,W,ae,by simp,zql _,by simp[val]⟩
 case round=>
  obtain⟨g,L,h,ak,rfl,rfl,ah,ai,hr,l,m,hrel⟩:=hrel;have E:o w.heap.size w wr:=(by have:=G.out;subst this;exact l);rcases s g a.length with r|aj
  ·obtain⟨ba,oa,rfl,_,_,I⟩:=(U.below E Y) (L8 (j:=g) r);obtain⟨x,t,al,an,ao⟩:=T8 (j:=g) Q.out I r;clear I;obtain⟨z,av,ay,az⟩:=hr.num (i:=g) (by rw[hrel.out.1];exact r);have aA:=hr.frozen g;have p:e (g<L.length):=(by rw[hrel.out.1];exact r);rcases s g b.length with M|K
   ·obtain⟨bb,ob,rfl,_,_,J⟩:=(V.below E Z) (L8 (j:=g) M);obtain⟨y,O,aq,ar,au⟩:=T8 (j:=g) R.out J M;clear J;rcases Int.lt_or_le (x-h-y) 0 with aa|ac
    ·go_wp2;go_roundw
     case rel=>
      exact⟨g+1,L.set g (x-h-y+1000000000).toNat,1,by omega,by go_num,rfl,by omega,by omega,hr.setNum g _ _ og,l.setCell (f _) _,by have:=m.out;simpa[e,World.setCell] using this,
       by rw[List.length_set];exact hrel.out.1,R3 hrel.out.2.1 og,zyg p.out t.out O.out og og hrel.out.2.2⟩
     case measure=>simp[intOf];omega
    ·go_wp2;go_roundw
     case rel=>
      exact⟨g+1,L.set g (x-h-y).toNat,0,by omega,by go_num,rfl,by omega,by omega,hr.setNum g _ _ og,l.setCell (f _) _,by have:=m.out;simpa[e,World.setCell] using this,
       by rw[List.length_set];exact hrel.out.1,R3 hrel.out.2.1 og,zyg p.out t.out O.out og og hrel.out.2.2⟩
     case measure=>simp[intOf];omega
   ·rcases Int.lt_or_le (x-h) 0 with aa|ac
    ·go_wp2;go_roundw
     case rel=>
      exact⟨g+1,L.set g (x-h+1000000000).toNat,1,by omega,by go_num,rfl,by omega,by omega,hr.setNum g _ _ og,l.setCell (f _) _,by have:=m.out;simpa[e,World.setCell] using this,
       by rw[List.length_set];exact hrel.out.1,R3 hrel.out.2.1 og,zyg (y:=0) p.out t.out (by rw[znb K];rfl) og og hrel.out.2.2⟩
     case measure=>simp[intOf];omega
    ·go_wp2;go_roundw
     case rel=>
      exact⟨g+1,L.set g (x-h).toNat,0,by omega,by go_num,rfl,by omega,by omega,hr.setNum g _ _ og,l.setCell (f _) _,by have:=m.out;simpa[e,World.setCell] using this,
       by rw[List.length_set];exact hrel.out.1,R3 hrel.out.2.1 og,zyg (y:=0) p.out t.out (by rw[znb K];rfl) og og hrel.out.2.2⟩
     case measure=>simp[intOf];omega
  ·obtain rfl:g=a.length:=og;have u:=hrel.out.1;have hv:=ykm u rfl X hrel.out.2.1 og S.out hrel.out.2.2;have hlo:=hrel.out.2.1;have af:=hrel;clear hrel;have n:e (Row wr j 115 (C8 .u32 L)/\val L=val a-val b/\L.length=a.length):=⟨hr,hv,u⟩;have P:=k hlo;clear hv hlo hr u;go_wp2_with fail;rw[<-n.out.2.2];refine(zvn _ _ L wr j (j+1) P.out (f _) (by have:=n.out.2.2;unfold maxLen;omega) n.out.1.sv).mono ?_;rintro F aC ⟨⟨v,rfl,hv⟩,rfl⟩;go_wp2_with fail;go_ret;refine⟨⟨_,rfl,?_⟩,E⟩;rw[<-n.out.2.1];exact hv.wide (oh G) (oh m)
theorem ykn {w:World} {x y:Nat} (ha:IsN w lo hi z x) (g:IsN w lo' q E y) (i:hi<=w.heap.size) (j:q<=w.heap.size) (a:y<=x) (k:(A9 x).length<=4294967296):
 Calls C 195 #[z,E] w fun b w'=>(∃v,b= .returned v/\IsN w' w.heap.size w'.heap.size v (x-y))/\o w.heap.size w w':=by obtain⟨A,c,rfl,_,_,e⟩:=ha;obtain⟨B,d,rfl,_,_,f⟩:=g;have h:=yzu A B c d (A9 x) (A9 y) w _ _ _ _ i j (L6 x) (L6 y) k (U1 a) (by rw[N8,N8];exact a) e f;rw[N8,N8] at h;exact h
theorem yui (A B:Option Addr) (c d:Nat) (a b:List Nat) (w:World) (lo hi lo' q:Nat) (ad:hi<=w.heap.size) (ae:q<=w.heap.size) (ha:Lo a) (N:Lo b) (ar:a.length<=4294967296) (av:b.length<=4294967296)
 (Y:SV w lo hi A (C8 .u32 a)) (Z:SV w lo' q B (C8 .u32 b)):
 Calls C 168 #[.slice A a.length c,.slice B b.length d] w fun n w'=>(∃v,n= .returned v/\IsN w' w.heap.size w'.heap.size v (val a*val b))/\o w.heap.size w w':=by
 have V:=k ha;clear ha;have W:=k N;clear N;rcases Nat.eq_zero_or_pos a.length with K|K
 ·have n:a=[]:=List.eq_nil_of_length_eq_zero K;subst n;go_in;go_wp2;go_ret;exact⟨⟨_,rfl,by rw[val,Nat.zero_mul,IsN,N5];exact IsL.nil⟩,Below.refl _ _⟩
 have au:((a.length:Int)==0)=false:=beq_eq_false_iff_ne.2 og;rcases Nat.eq_zero_or_pos b.length with O|O
 ·have n:b=[]:=List.eq_nil_of_length_eq_zero O;subst n;go_in;go_wp2;go_ret;exact⟨⟨_,rfl,by rw[show val ([]:List Nat)=0 from rfl,Nat.mul_zero,IsN,N5];exact IsL.nil⟩,Below.refl _ _⟩
 have ay:((b.length:Int)==0)=false:=beq_eq_false_iff_ne.2 og;go_in;go_wp2_with (at_make;refine zsg U0 rfl _ _ rfl (a.length+b.length) rfl rfl rfl rfl og ?_;intro h aI G af aa U)
 go_loopw [29] (fun i wr=>∃g:Nat,∃L:List Nat,g<=a.length/\i= .int .i64 (g:Int)/\Row wr h 115 (C8 .u32 L)/\o h w wr/\e (wr.heap.size=h+1)/\
  e (L.length=a.length+b.length/\Lo L/\(∀j,g+b.length<=j->L.getD j 0=0)/\val L=val (a.take g)*val b)) (fun i _=>a.length-(intOf i).toNat)
 case atStart=>exact⟨0,_,D _,rfl,af,aa,U,by simp,zql _,fun j _=>by rw[F,List.getElem?_replicate];split<;>rfl,by rw[ylh,Nat.zero_mul];exact zyn (fun x H=>(List.mem_replicate.1 H).2)⟩
 case round=>
  obtain⟨g,L,aD,rfl,hr,m,p,hrel⟩:=hrel;have t:o w.heap.size w wr:=(by have:=G.out;subst this;exact m);rcases s g a.length with S|aA
  ·obtain⟨ba,oa,rfl,_,_,P⟩:=(Y.below t ad) (L8 (j:=g) S);obtain⟨x,H,ag,ah,ai⟩:=T8 (j:=g) V.out P S;clear P;have u:=hrel;clear hrel;obtain⟨aK,rfl⟩:=nm (wr:World);go_wp2
   go_loopw [9,39] (fun X i J=>∃j:Nat,∃M:List Nat,∃l:Int,j<=b.length/\i= .int .i64 (j:Int)/\X= .int .u64 l/\0<=l/\l<=999999999/\Row J h 115 (C8 .u32 M)/\o h w J/\e (J.heap.size=h+1)/\
    e (M.length=a.length+b.length/\Lo M/\(∀j,g+b.length<=j->M.getD j 0=0)/\(val M:Int)+l*pw (g+j)=val L+x*pw g*val (b.take j))) (fun _ i _=>b.length-(intOf i).toNat)
   case atStart=>exact⟨0,L,0,D _,rfl,rfl,by omega,by omega,hr,m,p,u.out.1,u.out.2.1,u.out.2.2.1,by simp[val]⟩
   case round=>
    clear hr m t p ai;obtain⟨j,M,l,aB,rfl,rfl,ac,az,hr,m,p,hrel⟩:=hrel;have t:o w.heap.size w wr:=(by have:=G.out;subst this;exact m);have E:e (g+b.length<M.length):=(by rw[hrel.out.1];unfold e;omega);rcases s j b.length with R|aC
    ·obtain⟨bb,ob,rfl,_,_,Q⟩:=(Z.below t ae) (L8 (j:=j) R);obtain⟨y,aj,ak,al,aH⟩:=T8 (j:=j) W.out Q R;clear Q;obtain⟨z,T,an,U,ao⟩:=hr.lo hrel.out.2.1 (i:=g+j) (oh E);have aq:=hr.frozen (g+j);have I:=zot ag ah ak al;have aE:=I.1;have aG:=I.2;clear I;go_wp2;go_roundw
     case rel=>
      exact⟨j+1,M.set (g+j) (x*y+z+l-(x*y+z+l)/1000000000*1000000000).toNat,(x*y+z+l)/1000000000,by omega,by go_num,rfl,by omega,by omega,hr.setNum (g+j) _ _ og,m.setCell (f _) _,
       by have:=p.out;simpa[e,World.setCell] using this,by rw[List.length_set];exact hrel.out.1,R3 hrel.out.2.1 og,fun i hi=>by rw[getD_set_ne og];exact hrel.out.2.2.1 i hi,
       yhm (oh E) aj.out T.out rfl rfl og hrel.out.2.2.2⟩
     case measure=>simp[intOf];omega
    ·obtain rfl:j=b.length:=og;obtain⟨z,T,an,ao⟩:=hr.num (i:=g+b.length) E.out;have aq:=hr.frozen (g+b.length);go_wp2;go_roundw
     case rel=>
      exact⟨g+1,M.set (g+b.length) l.toNat,by omega,by go_num,hr.setNum (g+b.length) _ _ og,m.setCell (f _) _,
       by have:=p.out;simpa[e,World.setCell] using this,by rw[List.length_set];exact hrel.out.1,R3 hrel.out.2.1 og,fun i hi=>by rw[getD_set_ne og];exact hrel.out.2.2.1 i og,
       yhl rfl E.out H.out (hrel.out.2.2.1 _ (f _)) ac u.out.2.2.2 hrel.out.2.2.2⟩
     case measure=>simp[intOf];omega
  ·obtain rfl:g=a.length:=og;have r:e (Row wr h 115 (C8 .u32 L)/\val L=val a*val b/\L.length=a.length+b.length/\Lo L):=⟨hr,by have:=hrel.out.2.2.2;rw[Z7 (f _)] at this;exact this,hrel.out.1,hrel.out.2.1⟩;clear hr hrel;go_wp2_with fail;rw[<-r.out.2.2.1];refine(zvn _ _ L wr h (h+1) r.out.2.2.2 (f _) (by have:=r.out.2.2.1;unfold maxLen;omega) r.out.1.sv).mono ?_;rintro n aJ ⟨⟨v,rfl,hv⟩,rfl⟩;go_wp2_with fail;go_ret;refine⟨⟨_,rfl,?_⟩,t⟩;rw[<-r.out.2.1];exact hv.wide (oh G) (oh p)
theorem zqm {w:World} {x y:Nat} (ha:IsN w lo hi z x) (f:IsN w lo' q E y) (g:hi<=w.heap.size) (i:q<=w.heap.size) (j:(A9 x).length<=4294967296) (k:(A9 y).length<=4294967296):
 Calls C 168 #[z,E] w fun a w'=>(∃v,a= .returned v/\IsN w' w.heap.size w'.heap.size v (x*y))/\o w.heap.size w w':=by obtain⟨A,c,rfl,_,_,b⟩:=ha;obtain⟨B,d,rfl,_,_,e⟩:=f;have h:=yui A B c d (A9 x) (A9 y) w _ _ _ _ g i (L6 x) (L6 y) j k b e;rw[N8,N8] at h;exact h
theorem yzk (A:Option Addr) (c:Nat) (a:List Nat) (b:Int) (w:World) (lo hi:Nat) (H:hi<=w.heap.size) (ha:Lo a) (R:a.length<=4294967296) (S:1<=b) (s:b<=999999999)
 (G:SV w lo hi A (C8 .u32 a)):
 Calls C 202 #[.slice A a.length c,.int .u32 b] w fun p w'=>(∃v,p= .returned (.tuple #[v,.int .u32 ((val a%b.toNat:Nat):Int)])/\IsN w' w.heap.size w'.heap.size v (val a/b.toNat))/\o w.heap.size w w':=by
 have F:=k ha;clear ha;go_in;go_wp2_with (at_make;refine zsg U0 rfl _ _ rfl a.length rfl rfl rfl rfl og ?_;intro g Z q M s Q)
 go_loopw [7,8] (fun rs i wr=>∃d:Nat,∃L:List Nat,∃r:Int,d<=a.length/\i= .int .i64 ((d:Int)-1)/\rs= .int .u64 r/\0<=r/\r<=b-1/\Row wr g 115 (C8 .u32 L)/\o g w wr/\e (wr.heap.size=g+1)/\
  e (L.length=a.length/\Lo L/\(val (a.drop d):Int)=val (L.drop d)*b+r)) (fun _ i _=>(intOf i+1).toNat)
 case atStart=>exact⟨a.length,_,0,f _,rfl,rfl,by omega,by omega,M,s,Q,by simp,zql _,by simp[val]⟩
 case round=>
  obtain⟨d,L,r,l,rfl,rfl,m,D,hr,t,E,hrel⟩:=hrel;have u:o w.heap.size w wr:=(by have:=q.out;subst this;exact t);rcases d with _|d
  ·have B:=yjy og m D hrel.out.2.2;have j:e (Row wr g 115 (C8 .u32 L)/\L.length=a.length/\Lo L):=⟨hr,hrel.out.1,hrel.out.2.1⟩;have n:=k B;clear hr hrel B;go_wp2_with fail;rw[<-j.out.2.1];refine(zvn _ _ L wr g (g+1) j.out.2.2 (f _) (by have:=j.out.2.1;unfold maxLen;omega) j.out.1.sv).mono ?_;rintro p aa ⟨⟨v,rfl,hv⟩,rfl⟩;go_wp2_with fail;go_ret2;refine⟨⟨v,?_,?_⟩,u⟩
   ·rw[<-n.out.2,Int.toNat_of_nonneg m];rfl
   ·rw[<-n.out.1];exact hv.wide (oh q) (oh E)
  ·obtain⟨ba,oa,rfl,_,_,y⟩:=(G.below u H) (L8 (j:=d) l);obtain⟨x,N,O,P,U⟩:=T8 (j:=d) F.out y l;clear y;obtain⟨z,V,W,X⟩:=hr.num (i:=d) (by rw[hrel.out.1];exact l);have Y:=hr.frozen d;have h:=yjx m D O P;have I:=h.1;have T:=h.2.1;have J:=h.2.2.1;have K:=h.2.2.2;clear h;rw[show(((d+1:Nat):Int)-1)=(d:Int) from by omega];go_wp2;go_roundw
   case rel=>
    exact⟨d,L.set d ((r*1000000000+x)/b).toNat,(r*1000000000+x)%b,by omega,rfl,rfl,J,K,hr.setNum d _ _ og,t.setCell (f _) _,by have:=E.out;simpa[e,World.setCell] using this,
     by rw[List.length_set];exact hrel.out.1,R3 hrel.out.2.1 og,yka l hrel.out.1 N.out I hrel.out.2.2⟩
   case measure=>simp[intOf]
theorem yjz {w:World} {x:Nat} (ha:IsN w lo hi z x) (j:hi<=w.heap.size) (k:(A9 x).length<=4294967296) (g:1<=b) (i:b<=999999999):
 Calls C 202 #[z,.int .u32 b] w fun a w'=>(∃v r,a= .returned (.tuple #[v,.int .u32 r])/\0<=r/\r<=999999999/\e (r.toNat=x%b.toNat)/\IsN w' w.heap.size w'.heap.size v (x/b.toNat))/\o w.heap.size w w':=by obtain⟨A,c,rfl,_,_,d⟩:=ha;have h:=yzk A c (A9 x) b w _ _ j (L6 x) k g i d;rw[N8] at h;refine h.mono ?_;rintro a w' ⟨⟨v,rfl,hv⟩,f⟩;exact⟨⟨v,_,rfl,by omega,by have:=Nat.mod_lt x (show 0<b.toNat by omega);omega,rfl,hv⟩,f⟩
theorem zz1360 (A:Option Addr) (c:Nat) (a:List Nat) (x:Int) (n:Nat) (w:World) (lo hi:Nat) (S:hi<=w.heap.size) (ha:Lo a) (O:a.length<=n) (ad:n<=8589934592) (H:0<=x) (U:x<=999999999) (v:val a*x.toNat<pw n)
 (N:SV w lo hi A (C8 .u32 a)):
 Calls C 203 #[.slice A a.length c,.int .u64 x,.int .i64 (n:Int)] w fun M w'=>(∃g L,M= .returned (.slice (some ⟨g,0,none⟩) n n)/\w.heap.size<=g/\Row w' g 115 (C8 .u32 L)/\L.length=n/\Lo L/\val L=val a*x.toNat)/\o w.heap.size w w':=by
 have I:=k ha;clear ha;have J:=k v;clear v;go_in;go_wp2_with (at_make;refine zsg U0 rfl _ _ rfl n rfl rfl rfl rfl og ?_;intro j an r T P aj)
 go_loopw [8,14] (fun K i wr=>∃b:Nat,∃L:List Nat,∃d:Int,b<=n/\i= .int .i64 (b:Int)/\K= .int .u64 d/\0<=d/\d<=999999999/\Row wr j 115 (C8 .u32 L)/\o j w wr/\
  e (L.length=n/\Lo L/\(val (L.take b):Int)+d*pw b=val (a.take b)*x)) (fun _ i _=>n-(intOf i).toNat)
 case atStart=>exact⟨0,_,0,D _,rfl,rfl,by omega,by omega,T,P,by simp,zql _,by simp[val]⟩
 case round=>
  obtain⟨b,L,d,ac,rfl,rfl,Q,Z,hr,p,hrel⟩:=hrel;have t:o w.heap.size w wr:=(by have:=r.out;subst this;exact p);rcases s b n with G|aa
  ·obtain⟨z,ah,ai,ak⟩:=hr.num (i:=b) (by rw[hrel.out.1];exact G);have al:=hr.frozen b;have E:e (b<L.length):=(by rw[hrel.out.1];exact G);rcases s b a.length with F|R
   ·obtain⟨ba,oa,rfl,_,_,u⟩:=(N.below t S) (L8 (j:=b) F);obtain⟨y,V,W,X,ag⟩:=T8 (j:=b) I.out u F;clear u;have q:=zot W X H U;have ae:=q.1;have af:=q.2;clear q;go_wp2;go_roundw
    case rel=>
     exact⟨b+1,L.set b ((d+y*x)%1000000000).toNat,(d+y*x)/1000000000,by omega,by go_num,rfl,by omega,by omega,hr.setNum b _ _ og,p.setCell (f _) _,
      by rw[List.length_set];exact hrel.out.1,R3 hrel.out.2.1 og,yky E.out V.out og og hrel.out.2.2⟩
    case measure=>simp[intOf];omega
   ·go_wp2;go_roundw
    case rel=>
     exact⟨b+1,L.set b (d%1000000000).toNat,d/1000000000,by omega,by go_num,rfl,by omega,by omega,hr.setNum b _ _ og,p.setCell (f _) _,
      by rw[List.length_set];exact hrel.out.1,R3 hrel.out.2.1 og,yky (y:=0) E.out (by rw[znb R];rfl) og og hrel.out.2.2⟩
    case measure=>simp[intOf];omega
  ·obtain rfl:b=n:=og;go_wp2;go_ret;refine⟨⟨j,L,rfl,by have:=r.out;omega,hr,hrel.out.1,hrel.out.2.1,?_⟩,t⟩;have h:=hrel.out.2.2;rw[Z7 (Nat.le_of_eq hrel.out.1),Z7 O] at h;obtain⟨m,rfl⟩:=Int.eq_ofNat_of_zero_le H;obtain⟨y,rfl⟩:=Int.eq_ofNat_of_zero_le Q;have hf:=J.out;simp only[Int.toNat_natCast] at hf⊢;have Y:val L+y*pw b=val a*m:=(by apply Int.ofNat_inj.1;simpa using h);rcases Nat.eq_zero_or_pos y with l|l
   ·subst l;omega
   ·have:=B (pw b) l;omega
theorem ykx {w:World} {x:Nat} {a b:Int} (ha:IsN w lo hi z x) (k:hi<=w.heap.size) (n:Nat) (m:b=(n:Int)) (p:(A9 x).length<=n) (l:n<=8589934592) (f:0<=a) (i:a<=999999999) (j:x*a.toNat<pw n):
 Calls C 203 #[z,.int .u64 a,.int .i64 b] w fun d w'=>(∃g L,d= .returned (.slice (some ⟨g,0,none⟩) n n)/\w.heap.size<=g/\Row w' g 115 (C8 .u32 L)/\L.length=n/\Lo L/\val L=x*a.toNat)/\o w.heap.size w w':=by subst m;obtain⟨A,c,rfl,_,_,e⟩:=ha;have h:=zz1360 A c (A9 x) a n w _ _ k (L6 x) p l f i (by rw[N8];exact j) e;rw[N8] at h;exact h
theorem zme {a:Int} (h:a<=b) (hc:0<=c):a*c<=b*c:=Int.mul_le_mul_of_nonneg_right h hc
theorem yqk {V:Int} (b:0<Q) (h:0<=d) (n:w<Q) (i:0<=a) (p:u2<=999999999) (o:0<=g) (hg:top<(g+1)*v1)
 (e:U=(top*1000000000+u2)*Q+w) (f:V=(v1*1000000000+a)*Q+d):U<(g+1)*V:=by have j:U<(top*1000000000+u2+1)*Q:=(by rw[e,Int.add_mul (top*1000000000+u2) 1 Q];omega);have c:top*1000000000+u2+1<=((g+1)*v1)*1000000000:=og;have k:=zme c (Int.le_of_lt b);have l:(g+1)*V=(g+1)*v1*1000000000*Q+(g+1)*(a*Q+d):=(by rw[f];grind);have m:0<=(g+1)*(a*Q+d):=Int.mul_nonneg og (Int.add_nonneg (Int.mul_nonneg i (Int.le_of_lt b)) h);omega
theorem yqi {V:Int} (a:0<=V) (h:U<V*1000000000) (hg:1000000000<=g):U<g*V:=by have:=zme hg a;have b:1000000000*V=V*1000000000:=Int.mul_comm _ _;omega
theorem yqm {V:Int} (c:0<Q) (i:0<=d) (o:w<Q) (j:0<=g) (p:g*v1+r=top) (h:r*1000000000+u2<g*a)
 (e:U=(top*1000000000+u2)*Q+w) (f:V=(v1*1000000000+a)*Q+d):U<g*V:=by have k:U<(top*1000000000+u2+1)*Q:=(by rw[e,Int.add_mul (top*1000000000+u2) 1 Q];omega);have b:top*1000000000+u2+1<=g*v1*1000000000+g*a:=og;have l:=zme b (Int.le_of_lt c);have m:g*V=(g*v1*1000000000+g*a)*Q+g*d:=(by rw[f];grind);have n:0<=g*d:=Int.mul_nonneg j i;omega
theorem yql {V:Int} (b:0<Q) (p:d<Q) (n:0<=w) (u:a<=999999999) (e:0<=u2) (t:1<=v1) (s:g*v1+r=top) (hr:1000000000<=r) (q:U<V*1000000000)
 (c:U=(top*1000000000+u2)*Q+w) (o:V=(v1*1000000000+a)*Q+d):g<=999999999:=by
 have i:V<(v1*1000000000+1000000000)*Q:=(by have h:=zme (show v1*1000000000+a+1<=v1*1000000000+1000000000 by omega) (Int.le_of_lt b);rw[Int.add_mul (v1*1000000000+a) 1 Q] at h;omega);have j:top*1000000000*Q<=U:=by rw[c,Int.add_mul];have:=Int.mul_nonneg e (Int.le_of_lt b);omega
 have k:top<v1*1000000000+1000000000:=by
  rcases Int.lt_or_le top (v1*1000000000+1000000000) with h|h
  ·exact h
  ·have l:=zme (zme h (by omega:(0:Int)<=1000000000)) (Int.le_of_lt b);have f:(v1*1000000000+1000000000)*1000000000*Q=(v1*1000000000+1000000000)*Q*1000000000:=(by grind);omega
 rcases Int.lt_or_le g 1000000000 with h|h
 ·omega
 ·have m:=zme h (by omega:0<=v1);omega
theorem yqj {V:Int} (b:0<Q) (i:d<Q) (j:0<=d) (u:0<=w) (l:0<=a) (m:a<=999999999) (x:0<=u2) (y:1<=v1) (k:0<=g) (hg:g<=999999999) (v:g*v1+r=top)
 (h:1000000000<=r\/g*a<=r*1000000000+u2) (t:U=(top*1000000000+u2)*Q+w) (c:V=(v1*1000000000+a)*Q+d):g*V<=U+V:=by
 have f:g*v1*1000000000+g*a<=top*1000000000+u2:=by
  rcases h with h|h
  ·have:=(zot k hg l m).2;omega
  ·omega
 have o:=zme f (Int.le_of_lt b);have p:g*V=(g*v1*1000000000+g*a)*Q+g*d:=(by rw[c];grind);have q:g*d<=1000000000*Q:=(by have e:=zme hg j;have n:=Int.mul_le_mul_of_nonneg_left (Int.le_of_lt i) (by omega:(0:Int)<=999999999);omega);have s:1000000000*Q<=V:=(by rw[c];have e:=zme (show 1000000000<=v1*1000000000+a by omega) (Int.le_of_lt b);omega);omega
theorem zwj {x y:Int} (b:i<M'.length) (e:x=(M.getD i 0:Nat)) (f:y=(v.getD i 0:Nat)) (hr:r=x-(g*y+c)+c'*1000000000) (d:0<=r)
 (h:(val (M'.take i):Int)=val (M.take i)-g*val (v.take i)+c*pw i):
 (val ((M'.set i r.toNat).take (i+1)):Int)=val (M.take (i+1))-g*val (v.take (i+1))+c'*pw (i+1):=by rw[ztu b,val_take_succ' M,val_take_succ' v,X9];have a:((r.toNat:Nat):Int)=r:=Int.toNat_of_nonneg d;simp only[Int.natCast_add,Int.natCast_mul,a,<-f,<-e];rw[h];subst hr;generalize (val (M.take i):Int)=V at*;generalize (val (v.take i):Int)=j at*;generalize (pw i:Int)=P at*;grind
theorem zvv {x y:Int} (b:i<M'.length) (e:x=(M.getD i 0:Nat)) (f:y=(v.getD i 0:Nat)) (hr:r=x+y+c-c'*1000000000) (d:0<=r)
 (h:(val (M'.take i):Int)+c*pw i=val (M.take i)+val (v.take i)):
 (val ((M'.set i r.toNat).take (i+1)):Int)+c'*pw (i+1)=val (M.take (i+1))+val (v.take (i+1)):=by rw[ztu b,val_take_succ' M,val_take_succ' v,X9];have a:((r.toNat:Nat):Int)=r:=Int.toNat_of_nonneg d;simp only[Int.natCast_add,Int.natCast_mul,a,<-f,<-e];subst hr;generalize (val (M.take i):Int)=V at*;generalize (val (v.take i):Int)=g at*;generalize (pw i:Int)=P at*;grind
theorem zzn {U g R:Nat} (h:U=g*V+R) (a:R<V):U/V=g/\U%V=R:=by
 have b:0<V:=og;subst h;constructor
 ·rw[Nat.mul_comm,Nat.mul_add_div b,Nat.div_eq_of_lt a,Nat.add_zero]
 ·rw[Nat.mul_comm,Nat.mul_add_mod,Nat.mod_eq_of_lt a]
theorem yep {U:Nat} {m0 P:Int} (i:(U:Int)=m0+P*u) (k:p=m0-g*V+c*P) (b:0<=p) (q:p<P) (r:c<=u) (o:(V:Int)<=P) (j:0<=g) (hg:(U:Int)<(g+1)*V):
 U/V=g.toNat/\((U%V:Nat):Int)=p:=by
 have e:(U:Int)-g*V=p+(u-c)*P:=(by rw[i,k];grind);have l:(u-c)*P<P:=by rw[Int.add_mul,Int.one_mul] at hg;omega
 have f:u=c:=by
  rcases Int.lt_or_le u (c+1) with h|h
  ·omega
  ·have m:=zme (show 1<=u-c by omega) (show 0<=P by omega);omega
 rw[f,Int.sub_self,Int.zero_mul,Int.add_zero] at e;have n:p<V:=(by rw[Int.add_mul,Int.one_mul] at hg;omega);have d:U=g.toNat*V+p.toNat:=(by apply Int.ofNat_inj.1;simp only[Int.natCast_add,Int.natCast_mul];rw[Int.toNat_of_nonneg j,Int.toNat_of_nonneg b];omega);have a:=zzn d og;refine⟨a.1,?_⟩;rw[a.2];exact Int.toNat_of_nonneg b
theorem yeq {U:Nat} {m0 P:Int} (d:(U:Int)=m0+P*u) (e:p=m0-g*V+c*P) (j:p<P) (k:u<c) (b:0<P) (i:0<=g):1<=g:=by
 have a:(U:Int)-g*V=p+(u-c)*P:=(by rw[d,e];grind);have f:(u-c)*P<=-P:=(by have:=zme (show u-c<=-1 by omega) (Int.le_of_lt b);omega);rcases Int.lt_or_le g 1 with h|h
 ·have:g=0:=og;subst this;rw[Int.zero_mul] at a;omega
 ·exact h
theorem yeo {U:Nat} {m0 b P a:Int} (o:(U:Int)=m0+P*u) (r:p=m0-g*V+c*P) (A:p<P) (B:u<c) (x:(V:Int)<=P) (y:0<=g) (hg:g*V<=U+V)
 (s:b+a*P=p+V) (j:0<=b) (z:b<P):
 1<=g/\U/V=(g-1).toNat/\((U%V:Nat):Int)=b:=by
 have l:(U:Int)-g*V=p+(u-c)*P:=(by rw[o,r];grind);have e:0<P:=og;have t:(u-c)*P<=-P:=by have:=zme (show u-c<=-1 by omega) (Int.le_of_lt e);omega
 have q:1<=g:=by
  rcases Int.lt_or_le g 1 with h|h
  ·have:g=0:=og;subst this;rw[Int.zero_mul] at l;omega
  ·exact h
 have m:(U:Int)-(g-1)*V=b+(a+u-c)*P:=(by have d:(g-1)*(V:Int)=g*V-V:=(by rw[Int.sub_mul,Int.one_mul]);have k:(a+u-c)*P=a*P+(u-c)*P:=(by rw[<-Int.add_mul];congr 1;omega);rw[d,k];omega);have v:0<=(U:Int)-(g-1)*V:=(by rw[Int.sub_mul,Int.one_mul];omega);have w:(U:Int)-(g-1)*V<V:=by rw[Int.sub_mul,Int.one_mul];omega
 have n:a+u-c=0:=by
  rcases Int.lt_or_le (a+u-c) 0 with h|h
  ·have:=zme (show a+u-c<=-1 by omega) (Int.le_of_lt e);omega
  ·rcases Int.lt_or_le (a+u-c) 1 with f|f
   ·omega
   ·have:=zme f (Int.le_of_lt e);omega
 rw[n,Int.zero_mul,Int.add_zero] at m;have d:U=(g-1).toNat*V+b.toNat:=(by apply Int.ofNat_inj.1;simp only[Int.natCast_add,Int.natCast_mul];rw[Int.toNat_of_nonneg (by omega:0<=g-1),Int.toNat_of_nonneg j];omega);have i:=zzn d og;refine⟨q,i.1,?_⟩;rw[i.2];exact Int.toNat_of_nonneg j
theorem zym (h:l.length=n+1):val l=val (l.take n)+pw n*l.getD n 0:=by rw[<-yck og,List.take_of_length_le og]
theorem zz1377 (h:l.length=n+2):val l=(l.getD (n+1) 0*1000000000+l.getD n 0)*pw n+val (l.take n):=by rw[<-Z7 (Nat.le_of_eq h),val_take_succ' l (n+1),val_take_succ' l n,X9];grind
theorem zz1376 (h:l.length=n+3):val l=((l.getD (n+2) 0*1000000000+l.getD (n+1) 0)*1000000000+l.getD n 0)*pw n+val (l.take n):=by rw[<-Z7 (Nat.le_of_eq h),val_take_succ' l (n+2),val_take_succ' l (n+1),val_take_succ' l n];simp only[X9];grind
theorem zyl (h:l.length=n+1):val (l.set n 0)=val (l.take n):=by rw[zym (n:=n) (by simpa using h),List.take_set_of_le (f n)];rw[F,List.getElem?_set_self og];simp
theorem yzc {x:Nat} (h:i<M.length):(P++M++S).set (P.length+i) x=P++M.set i x++S:=by rw[List.append_assoc,List.append_assoc,List.set_append_right _ _ og,Nat.add_sub_cancel_left,List.set_append_left _ _ h]
theorem yrk (h:i<M.length):(P++M++S).getD (P.length+i) 0=M.getD i 0:=by rw[List.append_assoc,F,List.getElem?_append_right og,Nat.add_sub_cancel_left,List.getElem?_append_left h,F]
theorem yqo {b:List Nat} {a:Int} (l:Lo b) (o:b.length=m+2) (i:a=(b.getD (m+1) 0:Nat)) (p:1<=a) (u:a<=999999999):
 1<=1000000000/(a+1)/\1000000000/(a+1)<=999999999/\val b*(1000000000/(a+1)).toNat<pw (m+2):=by have e:1<=1000000000/(a+1):=(Int.le_ediv_iff_mul_le og).2 og;have f:1000000000/(a+1)<=999999999:=(by have:=Int.ediv_lt_of_lt_mul (a:=1000000000) (b:=1000000000) (c:=a+1) og og;omega);refine⟨e,f,?_⟩;have g:(a+1)*(1000000000/(a+1))<=1000000000:=Int.mul_ediv_self_le og;generalize hF:1000000000/(a+1)=d at*;obtain⟨c,rfl⟩:=Int.eq_ofNat_of_zero_le (show 0<=d by omega);simp only[Int.toNat_natCast];subst i;generalize n:b.getD (m+1) 0=t at*;have j:(t+1)*c<=1000000000:=(by have:(((t+1)*c:Nat):Int)<=1000000000:=(by simpa using g);omega);have k:val b<(t+1)*pw (m+1):=(by rw[zym o,n];have h:=zkz (zlw l (m+1));rw[List.length_take,Nat.min_eq_left og] at h;rw[Nat.add_mul,Nat.one_mul,Nat.mul_comm (pw (m+1)) t];omega);have q:val b*c<(t+1)*pw (m+1)*c:=Nat.mul_lt_mul_of_pos_right k og;have r:(t+1)*pw (m+1)*c=(t+1)*c*pw (m+1):=(by rw[Nat.mul_right_comm]);have s:=B (pw (m+1)) j;rw[X9 (m+1)];omega
theorem yla (hv:Lo v) (c:v.length=m+2) (h:pw (m+1)<=val v):1<=v.getD (m+1) 0:=by
 rcases Nat.eq_zero_or_pos (v.getD (m+1) 0) with a|a
 ·rw[zym c,a,Nat.mul_zero,Nat.add_zero] at h;have b:=zkz (zlw hv (m+1));rw[List.length_take,Nat.min_eq_left og] at b;omega
 ·exact a
theorem yes (hlo:Lo L) (f:j+n+1<=L.length) (e:V<=pw n) (h:val (L.drop (j+1))<V):
 val ((L.drop j).take (n+1))<V*1000000000/\val (L.drop (j+n+1))=0/\val L=val (L.take j)+pw j*val ((L.drop j).take (n+1)):=by
 have d:val (L.drop (j+1))=val ((L.drop (j+1)).take n)+pw n*val (L.drop (j+n+1)):=by have:=zpb (L.drop (j+1)) n (by simp;omega);rw[List.drop_drop,show j+1+n=j+n+1 by omega] at this;exact this
 have b:val (L.drop (j+n+1))=0:=by
  rcases Nat.eq_zero_or_pos (val (L.drop (j+n+1))) with a|a
  ·exact a
  ·have:=Nat.mul_le_mul_left (pw n) a;omega
 have c:val (L.drop j)=val ((L.drop j).take (n+1)):=(by have:=zpb (L.drop j) (n+1) (by simp;omega);rw[List.drop_drop,show j+(n+1)=j+n+1 by omega,b,Nat.mul_zero,Nat.add_zero] at this;exact this);refine⟨?_,b,?_⟩
 ·rw[<-c,zqy og];have:=znu hlo j;omega
 ·rw[<-c];exact zpb L j og
theorem ypj (P a r V v q:Nat):P+a*r+V*(v+a*q)=P+a*(r+V*q)+V*v:=by grind
theorem ypl {Lq:List Nat} {X:Nat} (hlo:Lo L) (i:j+n+1<=L.length) (e:V<=pw n) (f:0<V) (h:val (L.drop (j+1))<V) (c:val M'=val ((L.drop j).take (n+1))%V) (o:M'.length=n+1)
 (l:j<Lq.length) (m:Lq.getD j 0=0) (g:val L+V*val Lq=X):
 val ((L.take j++M'++L.drop (j+n+1)).drop j)<V/\val (L.take j++M'++L.drop (j+n+1))+V*val (Lq.set j (val ((L.drop j).take (n+1))/V))=X:=by
 have a:=yes hlo i e h;have k:(L.take j).length=j:=(by rw[List.length_take,Nat.min_eq_left og]);have p:=Nat.mod_lt (val ((L.drop j).take (n+1))) f;constructor
 ·rw[List.append_assoc,List.drop_append_of_le_length og,List.drop_of_length_le og,List.nil_append,znp,a.2.1,c];omega
 ·rw[List.append_assoc,znp,znp,a.2.1,k,Nat.mul_zero,Nat.add_zero,c];have b:=ycj (x:=val ((L.drop j).take (n+1))/V) l;rw[m,Nat.mul_zero,Nat.add_zero] at b;rw[b,<-g,a.2.2];have d:=Nat.mod_add_div (val ((L.drop j).take (n+1))) V;rw[ypj,d]
theorem ypq (L:List Nat) (i:Nat) (h:i<=L.length):val (L.drop i)*pw i<=val L:=by rw[zpb L i h,Nat.mul_comm (pw i)];omega
theorem ypk {a x y b:Nat} (i:L.length=m+2+a+1) (f:val L=x*b) (g:x<pw (m+2+a)) (h:pw (m+1)<=y) (hF:0<b):val (L.drop (a+1))<y*b:=by have c:=ypq L (a+1) og;rw[f] at c;have d:x*b<pw (m+1)*b*pw (a+1):=(by have:=Nat.mul_lt_mul_of_pos_right g hF;rw[show m+2+a=(m+1)+(a+1) by omega,zuy] at this;rw[Nat.mul_right_comm];exact this);have e:=Nat.lt_of_mul_lt_mul_right (Nat.lt_of_le_of_lt c d);exact Nat.lt_of_lt_of_le e (B b h)
theorem yer {a b q u f:Nat} (hf:0<f) (d:u<b*f) (h:u+b*f*q=a*f):q=a/b/\u/f=a%b:=by have c:=zzn (U:=a*f) (V:=b*f) (g:=q) (R:=u) (by rw[<-h,Nat.mul_comm q];omega) d;rw[Nat.mul_div_mul_right _ _ hf] at c;rw[Nat.mul_mod_mul_right] at c;exact⟨c.1.symm,by rw[<-c.2,Nat.mul_div_cancel _ hf]⟩
theorem Row.mid {w:World} {g:Nat} (h:Row w g t (C8 .u32 (P++M++S))) (a:Lo M) (hi:i<M.length):
 ∃x:Int,e (x=(M.getD i 0:Nat))/\0<=x/\x<=999999999/\w.cell? ⟨g,P.length+i,none⟩=some (.int .u32 x):=by refine⟨_,rfl,by omega,by have:=znu a i;omega,?_⟩;rw[h.cell,zoe (by simp only[List.length_append];omega),yrk hi]
theorem Row.setMid {w:World} {g:Nat} (h:Row w g t (C8 .u32 (P++M++S))) (hi:i<M.length) (n:Nat) (x:Int) (a:x=(n:Int)):
 Row (w.setCell ⟨g,P.length+i,none⟩ (.int .u32 x)) g t (C8 .u32 (P++M.set i n++S)):=by rw[<-yzc hi];exact h.setNum _ n x a
theorem ypi (p:Nat) (P M S:List Nat) (B:Option Addr) (c d m:Nat) (v:List Nat) (w:World) (lo hi:Nat) (hv:Lo v) (bf:Lo M) (bC:v.length=m+2) (bg:M.length=m+3) (bI:m<=8589934592)
 (bF:P.length<=8589934592) (hc:m+3<=c) (bT:1<=v.getD (m+1) 0) (af:val M<val v*1000000000) (hr:Row w p 115 (C8 .u32 (P++M++S))) (ac:SV w lo hi B (C8 .u32 v)) (ak:p<lo\/hi<=p):
 Calls C 204 #[.slice (some ⟨p,P.length,none⟩) (m+3) c,.slice B (m+2) d] w fun be w'=>(∃M',be= .returned (.int .u32 ((val M/val v:Nat):Int))/\Row w' p 115 (C8 .u32 (P++M'++S))/\M'.length=m+3/\Lo M'/\val M'=val M%val v)/\Only p w w':=by
 obtain⟨O,W,H,Y,a9⟩:=hd5 hv bf bC bg af;obtain⟨bb,ob,rfl,_,_,aZ⟩:=ac (L8 (j:=m+1) og);obtain⟨v1,a3,bU,bV,bX⟩:=T8 (j:=m+1) O.out aZ og;obtain⟨a,bB,au,av,bY⟩:=T8 (j:=m) O.out aZ og;obtain⟨u0,ar,bL,bM,bN⟩:=hr.mid W.out (i:=m+2) og;obtain⟨u1,bw,bO,bP,bQ⟩:=hr.mid W.out (i:=m+1) og;obtain⟨u2,bA,a1,bx,bR⟩:=hr.mid W.out (i:=m) og;have a2:1<=v1:=oh a3;have an:(val M:Int)=((u0*1000000000+u1)*1000000000+u2)*pw m+val (M.take m):=(by rw[zz1376 Y.out,ar.out,bw.out,bA.out];simp only[Int.natCast_add,Int.natCast_mul];rfl);have ao:(val v:Int)=(v1*1000000000+a)*pw m+val (v.take m):=(by rw[zz1377 H.out,a3.out,bB.out];simp only[Int.natCast_add,Int.natCast_mul];rfl);have al:(0:Int)<pw m:=(by have:=zmv m;omega);have aX:(val (M.take m):Int)<pw m:=(by have h:=zkz (zlw W.out m);rw[List.length_take,Nat.min_eq_left (oh Y)] at h;omega);have aY:(val (v.take m):Int)<pw m:=(by have h:=zkz (zlw O.out m);rw[List.length_take,Nat.min_eq_left (oh H)] at h;omega);have a0:(val M:Int)<val v*1000000000:=oh a9
 have a6:e (∀g r:Int,0<=g->g*v1+r=u0*1000000000+u1->g*a>r*1000000000+u2->(val M:Int)<g*val v):=
  fun g r aB E A=>yqm al og aX aB E og an ao
 have a4:e (∀g:Int,1000000000<=g->(val M:Int)<g*val v):=fun g h=>yqi og a0 h;have bd:e (∀g r:Int,g*v1+r=u0*1000000000+u1->1000000000<=r->g<=999999999):=fun g r E A=>yql al aY og av a1 a2 E A a0 an ao
 have a7:e (∀g r:Int,0<=g->g<=999999999->g*v1+r=u0*1000000000+u1->(1000000000<=r\/g*a<=r*1000000000+u2)->g*val v<=val M+val v):=
  fun g r aB E A aa=>yqj al aY og og au av a1 a2 aB E A aa an ao
 have a8:e ((val M:Int)<((u0*1000000000+u1)/v1+1)*val v):=
  yqk al og aX au bx (Int.ediv_nonneg og og) (Int.lt_ediv_add_one_mul_self _ og) an ao
 have a5:e ((u0*1000000000+u1)/v1*v1+(u0*1000000000+u1)%v1=u0*1000000000+u1/\0<=(u0*1000000000+u1)/v1/\(u0*1000000000+u1)/v1<=999999999999999999/\0<=(u0*1000000000+u1)%v1/\(u0*1000000000+u1)%v1<v1):=
  ⟨Int.ediv_mul_add_emod _ _,Int.ediv_nonneg og og,Int.le_trans (Int.ediv_le_self _ og) og,Int.emod_nonneg _ og,Int.emod_lt_of_pos _ og⟩
 have X:e ((val M:Int)=val (M.take (m+2))+pw (m+2)*u0):=(by rw[zym (n:=m+2) (oh Y),ar.out];simp[e]);have ai:e ((val v:Int)<=pw (m+2)):=(by have h:=zkz O.out;rw[H.out] at h;unfold e;omega);have aV:e ((0:Int)<pw (m+2)):=(by have:=zmv (m+2);unfold e;omega);go_in;go_wp2;go_quiet (fail);go_wp2;go_quiet (fail);go_wp2;go_loopw [7,8] (fun aU bD wr=>∃g r:Int,aU= .int .u64 g/\bD= .int .u64 r/\0<=g/\g<=999999999999999999/\0<=r/\r<=1999999999/\Dr w wr/\e (g*v1+r=u0*1000000000+u1/\(val M:Int)<(g+1)*val v)) (fun aU _ _=>(intOf aU).toNat);case atStart=>have:=a5.out;exact⟨_,_,rfl,rfl,this.2.1,this.2.2.1,this.2.2.2.1,by omega,((Dr.refl w).drewN _).drewN _,this.1,a8.out⟩
 case round=>
  obtain⟨g,r,rfl,rfl,u,bG,bJ,bK,⟨nn,rfl⟩,hrel⟩:=hrel
  have bh:(r<1000000000/\1000000000<=g)\/(r<1000000000/\g<=999999999/\r*1000000000+u2<g*a)\/(1000000000<=r/\g<=999999999)\/(r<1000000000/\g<=999999999/\g*a<=r*1000000000+u2):=by
   rcases Int.lt_or_le r 1000000000 with E|E
   ·rcases Int.lt_or_le g 1000000000 with A|A
    ·rcases Int.lt_or_le (r*1000000000+u2) (g*a) with aa|aa
     ·exact .inr (.inl ⟨E,by omega,aa⟩)
     ·exact .inr (.inr (.inr ⟨E,by omega,aa⟩))
    ·exact .inl ⟨E,A⟩
   ·exact .inr (.inr (.inl ⟨E,bd.out g r hrel.out.1 E⟩))
  rcases bh with⟨ay,Z⟩|⟨ay,Z,az⟩|hex
  ·go_wp2;go_quiet (fail);go_wp2;go_roundw;(case rel=>exact⟨g-1,r+v1,by go_num,by go_num,by omega,by omega,by omega,by omega,⟨_,rfl⟩,by have:=hrel.out.1;rw[Int.sub_mul];omega,by have:=a4.out g Z;rw[Int.sub_add_cancel];exact this⟩);case measure=>simp[intOf];omega
  ·have ad:=zot u Z au av;have bp:=ad.1;have bq:=ad.2
   have bH:1<=g:=by
    rcases Int.lt_or_le g 1 with h|h
    ·have:g=0:=og;subst this;rw[Int.zero_mul] at az;omega
    ·exact h
   have aW:decide ((1000000000:Int)<=g)=false:=(by simp;omega);go_wp2;go_quiet (fail);go_wp2;go_roundw;(case rel=>exact⟨g-1,r+v1,by go_num,by go_num,by omega,by omega,by omega,by omega,⟨_,rfl⟩,by have:=hrel.out.1;rw[Int.sub_mul];omega,by have:=a6.out g r u hrel.out.1 az;rw[Int.sub_add_cancel];exact this⟩);case measure=>simp[intOf];omega
  ·have aq:g<=999999999:=og;have aj:e (g*val v<=val M+val v/\(val M:Int)<(g+1)*val v):=⟨a7.out g r u aq hrel.out.1 og,hrel.out.2⟩;have ad:=zot u aq au av;have bp:=ad.1;have bq:=ad.2;rcases hex with⟨ay,Z⟩|⟨ay,Z,az⟩
   ·have aW:decide (r<(1000000000:Int))=false:=(by simp;omega);go_wp2;go_quiet (fail);go_wp2;have aE:Only p w (w.drewN (nn+nq)):=(Only.refl p w).drewN _
    go_loopw [9,87] (fun aA i wr=>∃(b:Nat) (M':List Nat) (l:Int),b<=m+2/\i= .int .i64 (b:Int)/\aA= .int .u64 l/\0<=l/\l<=999999999/\Row wr p 115 (C8 .u32 (P++M'++S))/\Only p w wr/\
     e (M'.length=m+3/\Lo M'/\(∀j,b<=j->M'.getD j 0=M.getD j 0)/\(val (M'.take b):Int)=val (M.take b)-g*val (v.take b)+l*pw b)) (fun _ i _=>m+2-(intOf i).toNat)
    case atStart=>exact⟨0,M,0,D _,rfl,rfl,by omega,by omega,hr,aE,Y.out,W.out,fun _ _=>rfl,by simp[val]⟩
    case round=>
     obtain⟨i,M',l,hi,rfl,rfl,bi,bj,q,I,hrel⟩:=hrel;have aC:=ac.only I ak;rcases s i (m+2) with af|aG
     ·obtain⟨y,J,ag,ah,aO⟩:=T8 (j:=i) O.out aC.at_ (oh H);obtain⟨x,N,aJ,aK,aL⟩:=q.mid hrel.out.2.1 (i:=i) (by have:=hrel.out.1;omega);have aN:=q.frozen (P.length+i);have ae:=zot u aq ag ah;have br:=ae.1;have bt:=ae.2;rcases Int.lt_or_le (x-(g*y+l)%1000000000) 0 with aH|aI
      ·go_wp2;go_roundw
       case rel=>
        exact⟨i+1,M'.set i (x-(g*y+l)%1000000000+1000000000).toNat,(g*y+l)/1000000000+1,by omega,by go_num,rfl,by omega,by omega,q.setMid (by have:=hrel.out.1;omega) _ _ og,I.setCell _ _,
         by rw[List.length_set];exact hrel.out.1,R3 hrel.out.2.1 og,fun j U=>by rw[getD_set_ne og];exact hrel.out.2.2.1 j og,
         zwj (x:=x) (y:=y) (by have:=hrel.out.1;omega) (by rw[<-hrel.out.2.2.1 i (f _)];exact N.out) J.out og og hrel.out.2.2.2⟩
       case measure=>simp[intOf];omega
      ·go_wp2;go_roundw
       case rel=>
        exact⟨i+1,M'.set i (x-(g*y+l)%1000000000).toNat,(g*y+l)/1000000000,by omega,by go_num,rfl,by omega,by omega,q.setMid (by have:=hrel.out.1;omega) _ _ og,I.setCell _ _,
         by rw[List.length_set];exact hrel.out.1,R3 hrel.out.2.1 og,fun j U=>by rw[getD_set_ne og];exact hrel.out.2.2.1 j og,
         zwj (x:=x) (y:=y) (by have:=hrel.out.1;omega) (by rw[<-hrel.out.2.2.1 i (f _)];exact N.out) J.out og og hrel.out.2.2.2⟩
       case measure=>simp[intOf];omega
     ·obtain rfl:i=m+2:=og;obtain⟨x,N,aJ,aK,aL⟩:=q.mid hrel.out.2.1 (i:=m+2) (by have:=hrel.out.1;omega);have aN:=q.frozen (P.length+(m+2));have T:e (x=u0):=(by unfold e;rw[N.out,hrel.out.2.2.1 _ (f _),<-ar.out]);have K:=k hrel.out.2.2.2;have F:=k hrel.out.1;have Q:=k hrel.out.2.1;have R:e ((val (M'.take (m+2)):Int)<pw (m+2)):=(by have h:=zkz (zlw Q.out (m+2));rw[List.length_take,Nat.min_eq_left (oh F)] at h;unfold e;omega);rw[Z7 (l:=v) (Nat.le_of_eq H.out)] at K;rcases Int.lt_or_le x l with aM|aM
      ·have bm:1<=g:=yeq X.out K.out R.out (oh T) aV.out u;go_wp2
       go_loopw [14,132] (fun aT i wr=>∃(b:Nat) (o:List Nat) (n:Int),b<=m+2/\i= .int .i64 (b:Int)/\aT= .int .u32 n/\0<=n/\n<=1/\Row wr p 115 (C8 .u32 (P++o++S))/\Only p w wr/\
        e (o.length=m+3/\Lo o/\(∀j,b<=j->o.getD j 0=M'.getD j 0)/\(val (o.take b):Int)+n*pw b=val (M'.take b)+val (v.take b))) (fun _ i _=>m+2-(intOf i).toNat)
       case atStart=>exact⟨0,M',0,D _,rfl,rfl,by omega,by omega,q,I,F.out,Q.out,fun _ _=>rfl,by simp[val]⟩
       case round=>
        obtain⟨i,o,n,hi,rfl,rfl,bu,bv,t,L,hrel⟩:=hrel;have aD:=ac.only L ak;rcases s i (m+2) with af|aG
        ·obtain⟨y,J,ag,ah,aO⟩:=T8 (j:=i) O.out aD.at_ (oh H);obtain⟨z,V,aP,aQ,aR⟩:=t.mid hrel.out.2.1 (i:=i) (by have:=hrel.out.1;omega);have aS:=t.frozen (P.length+i);rcases Int.lt_or_le (z+y+n) 1000000000 with aH|aI
         ·go_wp2;go_roundw
          case rel=>
           exact⟨i+1,o.set i (z+y+n).toNat,0,by omega,by go_num,rfl,by omega,by omega,t.setMid (by have:=hrel.out.1;omega) _ _ og,L.setCell _ _,
            by rw[List.length_set];exact hrel.out.1,R3 hrel.out.2.1 og,fun j U=>by rw[getD_set_ne og];exact hrel.out.2.2.1 j og,
            zvv (x:=z) (y:=y) (c:=n) (by have:=hrel.out.1;omega) (by rw[<-hrel.out.2.2.1 i (f _)];exact V.out) J.out og og hrel.out.2.2.2⟩
          case measure=>simp[intOf];omega
         ·go_wp2;go_roundw
          case rel=>
           exact⟨i+1,o.set i (z+y+n-1000000000).toNat,1,by omega,by go_num,rfl,by omega,by omega,t.setMid (by have:=hrel.out.1;omega) _ _ og,L.setCell _ _,
            by rw[List.length_set];exact hrel.out.1,R3 hrel.out.2.1 og,fun j U=>by rw[getD_set_ne og];exact hrel.out.2.2.1 j og,
            zvv (x:=z) (y:=y) (c:=n) (by have:=hrel.out.1;omega) (by rw[<-hrel.out.2.2.1 i (f _)];exact V.out) J.out og og hrel.out.2.2.2⟩
          case measure=>simp[intOf];omega
        ·obtain rfl:i=m+2:=og;obtain⟨z,V,aP,aQ,aR⟩:=t.mid hrel.out.2.1 (i:=m+2) (by have:=hrel.out.1;omega);have aS:=t.frozen (P.length+(m+2));have A:=hrel.out.2.2.2;rw[Z7 (l:=v) (Nat.le_of_eq H.out)] at A
         have hd:=yeo X.out K.out R.out (oh T) ai.out u aj.out.1 A og
          (by have h:=zkz (zlw hrel.out.2.1 (m+2));rw[List.length_take,Nat.min_eq_left (by have:=hrel.out.1;omega)] at h;omega)
         have G:=k hd;go_wp2;go_ret;refine⟨⟨o.set (m+2) 0,?_,t.setMid (by have:=hrel.out.1;omega) _ _ og,by rw[List.length_set];exact hrel.out.1,R3 hrel.out.2.1 og,?_⟩,L.setCell _ _⟩
         ·rw[G.out.2.1,Int.toNat_of_nonneg og];rfl
         ·rw[zyl hrel.out.1];have:=G.out.2.2;omega
      ·have hd:=yep X.out K.out og R.out (oh T) ai.out u aj.out.2;have G:=k hd;go_wp2;go_ret;refine⟨⟨M'.set (m+2) 0,?_,q.setMid (oh F) _ _ og,by rw[List.length_set];exact F.out,R3 Q.out og,?_⟩,I.setCell _ _⟩
       ·rw[G.out.1,Int.toNat_of_nonneg u];rfl
       ·rw[zyl F.out];have:=G.out.2;omega
   ·have aW:decide ((1000000000:Int)<=g)=false:=(by simp;omega);have bE:decide (r*1000000000+u2<g*a)=false:=(by simp;omega);go_wp2;go_quiet (fail);go_wp2;have aE:Only p w (w.drewN (nn+nq)):=(Only.refl p w).drewN _
    go_loopw [9,87] (fun aA i wr=>∃(b:Nat) (M':List Nat) (l:Int),b<=m+2/\i= .int .i64 (b:Int)/\aA= .int .u64 l/\0<=l/\l<=999999999/\Row wr p 115 (C8 .u32 (P++M'++S))/\Only p w wr/\
     e (M'.length=m+3/\Lo M'/\(∀j,b<=j->M'.getD j 0=M.getD j 0)/\(val (M'.take b):Int)=val (M.take b)-g*val (v.take b)+l*pw b)) (fun _ i _=>m+2-(intOf i).toNat)
    case atStart=>exact⟨0,M,0,D _,rfl,rfl,by omega,by omega,hr,aE,Y.out,W.out,fun _ _=>rfl,by simp[val]⟩
    case round=>
     obtain⟨i,M',l,hi,rfl,rfl,bi,bj,q,I,hrel⟩:=hrel;have aC:=ac.only I ak;rcases s i (m+2) with af|aG
     ·obtain⟨y,J,ag,ah,aO⟩:=T8 (j:=i) O.out aC.at_ (oh H);obtain⟨x,N,aJ,aK,aL⟩:=q.mid hrel.out.2.1 (i:=i) (by have:=hrel.out.1;omega);have aN:=q.frozen (P.length+i);have ae:=zot u aq ag ah;have br:=ae.1;have bt:=ae.2;rcases Int.lt_or_le (x-(g*y+l)%1000000000) 0 with aH|aI
      ·go_wp2;go_roundw
       case rel=>
        exact⟨i+1,M'.set i (x-(g*y+l)%1000000000+1000000000).toNat,(g*y+l)/1000000000+1,by omega,by go_num,rfl,by omega,by omega,q.setMid (by have:=hrel.out.1;omega) _ _ og,I.setCell _ _,
         by rw[List.length_set];exact hrel.out.1,R3 hrel.out.2.1 og,fun j U=>by rw[getD_set_ne og];exact hrel.out.2.2.1 j og,
         zwj (x:=x) (y:=y) (by have:=hrel.out.1;omega) (by rw[<-hrel.out.2.2.1 i (f _)];exact N.out) J.out og og hrel.out.2.2.2⟩
       case measure=>simp[intOf];omega
      ·go_wp2;go_roundw
       case rel=>
        exact⟨i+1,M'.set i (x-(g*y+l)%1000000000).toNat,(g*y+l)/1000000000,by omega,by go_num,rfl,by omega,by omega,q.setMid (by have:=hrel.out.1;omega) _ _ og,I.setCell _ _,
         by rw[List.length_set];exact hrel.out.1,R3 hrel.out.2.1 og,fun j U=>by rw[getD_set_ne og];exact hrel.out.2.2.1 j og,
         zwj (x:=x) (y:=y) (by have:=hrel.out.1;omega) (by rw[<-hrel.out.2.2.1 i (f _)];exact N.out) J.out og og hrel.out.2.2.2⟩
       case measure=>simp[intOf];omega
     ·obtain rfl:i=m+2:=og;obtain⟨x,N,aJ,aK,aL⟩:=q.mid hrel.out.2.1 (i:=m+2) (by have:=hrel.out.1;omega);have aN:=q.frozen (P.length+(m+2));have T:e (x=u0):=(by unfold e;rw[N.out,hrel.out.2.2.1 _ (f _),<-ar.out]);have K:=k hrel.out.2.2.2;have F:=k hrel.out.1;have Q:=k hrel.out.2.1;have R:e ((val (M'.take (m+2)):Int)<pw (m+2)):=(by have h:=zkz (zlw Q.out (m+2));rw[List.length_take,Nat.min_eq_left (oh F)] at h;unfold e;omega);rw[Z7 (l:=v) (Nat.le_of_eq H.out)] at K;rcases Int.lt_or_le x l with aM|aM
      ·have bm:1<=g:=yeq X.out K.out R.out (oh T) aV.out u;go_wp2
       go_loopw [14,132] (fun aT i wr=>∃(b:Nat) (o:List Nat) (n:Int),b<=m+2/\i= .int .i64 (b:Int)/\aT= .int .u32 n/\0<=n/\n<=1/\Row wr p 115 (C8 .u32 (P++o++S))/\Only p w wr/\
        e (o.length=m+3/\Lo o/\(∀j,b<=j->o.getD j 0=M'.getD j 0)/\(val (o.take b):Int)+n*pw b=val (M'.take b)+val (v.take b))) (fun _ i _=>m+2-(intOf i).toNat)
       case atStart=>exact⟨0,M',0,D _,rfl,rfl,by omega,by omega,q,I,F.out,Q.out,fun _ _=>rfl,by simp[val]⟩
       case round=>
        obtain⟨i,o,n,hi,rfl,rfl,bu,bv,t,L,hrel⟩:=hrel;have aD:=ac.only L ak;rcases s i (m+2) with af|aG
        ·obtain⟨y,J,ag,ah,aO⟩:=T8 (j:=i) O.out aD.at_ (oh H);obtain⟨z,V,aP,aQ,aR⟩:=t.mid hrel.out.2.1 (i:=i) (by have:=hrel.out.1;omega);have aS:=t.frozen (P.length+i);rcases Int.lt_or_le (z+y+n) 1000000000 with aH|aI
         ·go_wp2;go_roundw
          case rel=>
           exact⟨i+1,o.set i (z+y+n).toNat,0,by omega,by go_num,rfl,by omega,by omega,t.setMid (by have:=hrel.out.1;omega) _ _ og,L.setCell _ _,
            by rw[List.length_set];exact hrel.out.1,R3 hrel.out.2.1 og,fun j U=>by rw[getD_set_ne og];exact hrel.out.2.2.1 j og,
            zvv (x:=z) (y:=y) (c:=n) (by have:=hrel.out.1;omega) (by rw[<-hrel.out.2.2.1 i (f _)];exact V.out) J.out og og hrel.out.2.2.2⟩
          case measure=>simp[intOf];omega
         ·go_wp2;go_roundw
          case rel=>
           exact⟨i+1,o.set i (z+y+n-1000000000).toNat,1,by omega,by go_num,rfl,by omega,by omega,t.setMid (by have:=hrel.out.1;omega) _ _ og,L.setCell _ _,
            by rw[List.length_set];exact hrel.out.1,R3 hrel.out.2.1 og,fun j U=>by rw[getD_set_ne og];exact hrel.out.2.2.1 j og,
            zvv (x:=z) (y:=y) (c:=n) (by have:=hrel.out.1;omega) (by rw[<-hrel.out.2.2.1 i (f _)];exact V.out) J.out og og hrel.out.2.2.2⟩
          case measure=>simp[intOf];omega
        ·obtain rfl:i=m+2:=og;obtain⟨z,V,aP,aQ,aR⟩:=t.mid hrel.out.2.1 (i:=m+2) (by have:=hrel.out.1;omega);have aS:=t.frozen (P.length+(m+2));have A:=hrel.out.2.2.2;rw[Z7 (l:=v) (Nat.le_of_eq H.out)] at A
         have hd:=yeo X.out K.out R.out (oh T) ai.out u aj.out.1 A og
          (by have h:=zkz (zlw hrel.out.2.1 (m+2));rw[List.length_take,Nat.min_eq_left (by have:=hrel.out.1;omega)] at h;omega)
         have G:=k hd;go_wp2;go_ret;refine⟨⟨o.set (m+2) 0,?_,t.setMid (by have:=hrel.out.1;omega) _ _ og,by rw[List.length_set];exact hrel.out.1,R3 hrel.out.2.1 og,?_⟩,L.setCell _ _⟩
         ·rw[G.out.2.1,Int.toNat_of_nonneg og];rfl
         ·rw[zyl hrel.out.1];have:=G.out.2.2;omega
      ·have hd:=yep X.out K.out og R.out (oh T) ai.out u aj.out.2;have G:=k hd;go_wp2;go_ret;refine⟨⟨M'.set (m+2) 0,?_,q.setMid (oh F) _ _ og,by rw[List.length_set];exact F.out,R3 Q.out og,?_⟩,I.setCell _ _⟩
       ·rw[G.out.1,Int.toNat_of_nonneg u];rfl
       ·rw[zyl F.out];have:=G.out.2;omega
end Go.Proofs.YtdgilbgdkmhcmaaGreatDoor
