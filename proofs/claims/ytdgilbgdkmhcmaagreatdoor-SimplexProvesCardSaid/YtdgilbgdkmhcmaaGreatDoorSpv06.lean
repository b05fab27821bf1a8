/-
 The contract of package long's Add.
-/
import Derived.Test.YtdgilbgdkmhcmaaGreatDoorSpv05
namespace Go.Proofs.YtdgilbgdkmhcmaaGreatDoor
open Go.RowKit
set_option linter.unusedVariables false
set_option maxRecDepth 100000
set_option maxHeartbeats 8000000
open _root_.Go.Lib renaming hid → i
open _root_.Nat renaming le_refl → o, le_trans → a, lt_or_ge → D
open _root_.List renaming length_append → h, length_map → d
open _root_.Go renaming World → g, Calls → t
open _root_.Go.RowKit renaming Hid → e
open _root_.Go.Proofs.Tryz renaming prog → u
variable {S : Nat → Prop} {b c hi s j k lo lo' n : Nat} {f : Nat → Rat} {l : List Raw} {m : List (List Raw)} {p : Rat} {qs : List Rat} {r : Raw} {v z C : Value}
theorem yme {w:g} {x y:Nat} (ha:IsN w lo hi z x) (ah:IsN w lo' s C y) (ai:hi<=w.heap.size) (aj:s<=w.heap.size) (ar:(A9 y).length<=(A9 x).length) (ao:(A9 x).length<=4294967296):
 t u 194 #[z,C] w fun ae w'=>(∃v,ae= .returned v/\IsN w' w.heap.size w'.heap.size v (x+y))/\Below w.heap.size w w':=by
 obtain⟨A,c,rfl,_,_,af⟩:=ha;obtain⟨B,d,rfl,_,_,ag⟩:=ah;have al:e (∀k,k<(A9 x).length->pw k<=x+y):=(by intro k ak;have:=zyi (x:=x) (k:=k) og;omega);generalize Z:A9 x=a at*;generalize aa:A9 y=b at*;have Q:e (Lo a/\val a=x):=(by rw[e,<-Z];exact⟨L3 x,N6 x⟩);have R:e (Lo b/\val b=y):=(by rw[e,<-aa];exact⟨L3 y,N6 y⟩);clear Z aa;generalize T:w.heap.size=bs at*;have L:=i T;clear T;go_in;go_wp2_with (at_make;refine yls (base:=bs) R6 rfl _ _ rfl (a.length+1) rfl rfl og og (oh L) ?_;intro aH an ab W p);have V:Below bs w an:=(by rw[<-L.out];exact W);clear W
 go_loopw [5,6,23] (fun v ad O wr=>∃(k:Nat) (f:List Nat) (q:Int),k<=a.length/\O= .int .i64 (k:Int)/\ad= .int .u32 q/\0<=q/\q<=1/\Own wr bs 115 v (C8 .u32 f)/\Below bs w wr/\
  e (f.length=k/\Lo f/\(val f:Int)+q*pw k=val (a.take k)+val (b.take k))) (fun _ _ O _=>a.length-(intOf O).toNat)
 case atStart=>exact⟨0,[],0,by omega,rfl,rfl,by omega,by omega,ab,V,rfl,zvg,by simp[val]⟩
 case round=>
  obtain⟨k,f,q,ak,rfl,rfl,au,av,n,l,hrel⟩:=hrel;have E:bs<=wr.heap.size:=(by have:=l.size;have:=L.out;omega);have aq:k<=4294967297:=og;have G:e ((C8 .u32 f).length<=4294967297):=(by rw[e,zls,hrel.out.1];omega);clear V ab p;rcases D k a.length with M|M
  ·obtain⟨ba,oa,rfl,_,_,X⟩:=(af.below l ai) (L5 (j:=k) M);obtain⟨r,I,aA,aB,aC⟩:=T3 (j:=k) Q.out.1 X M;clear X;rcases D k b.length with F|F
   ·obtain⟨bb,ob,rfl,_,_,Y⟩:=(ag.below l aj) (L5 (j:=k) F);obtain⟨P,ac,aD,aE,aG⟩:=T3 (j:=k) R.out.1 Y F;clear Y;rcases Int.lt_or_le 999999999 (r+q+P) with N|N
    ·go_wp2_with (at_builtin;refine zkz R6 rfl _ _ rfl rfl n rfl rfl (oh G) E ?_;intro J K j m p);go_roundw;(case rel=>rw[zks .u32 f (r+q+P-1000000000).toNat _ og] at j;exact⟨k+1,_,1,by omega,by go_num,rfl,by omega,by omega,j,l.trans m,by rw[h];simp[hrel.out.1],zlm hrel.out.2.1 og,zod (c':=1) hrel.out.1 I.out ac.out og og hrel.out.2.2⟩);case measure=>simp[intOf];omega
    ·go_wp2_with (at_builtin;refine zkz R6 rfl _ _ rfl rfl n rfl rfl (oh G) E ?_;intro J K j m p);go_roundw;(case rel=>rw[zks .u32 f (r+q+P).toNat _ og] at j;exact⟨k+1,_,0,by omega,by go_num,rfl,by omega,by omega,j,l.trans m,by rw[h];simp[hrel.out.1],zlm hrel.out.2.1 og,zod (c':=0) hrel.out.1 I.out ac.out og og hrel.out.2.2⟩);case measure=>simp[intOf];omega
   ·rcases Int.lt_or_le 999999999 (r+q) with N|N
    ·go_wp2_with (at_builtin;refine zkz R6 rfl _ _ rfl rfl n rfl rfl (oh G) E ?_;intro J K j m p);go_roundw;(case rel=>rw[zks .u32 f (r+q-1000000000).toNat _ og] at j;exact⟨k+1,_,1,by omega,by go_num,rfl,by omega,by omega,j,l.trans m,by rw[h];simp[hrel.out.1],zlm hrel.out.2.1 og,zod (c':=1) hrel.out.1 I.out (show(0:Int)=_ by rw[zlu F];rfl) og og hrel.out.2.2⟩);case measure=>simp[intOf];omega
    ·go_wp2_with (at_builtin;refine zkz R6 rfl _ _ rfl rfl n rfl rfl (oh G) E ?_;intro J K j m p);go_roundw;(case rel=>rw[zks .u32 f (r+q).toNat _ og] at j;exact⟨k+1,_,0,by omega,by go_num,rfl,by omega,by omega,j,l.trans m,by rw[h];simp[hrel.out.1],zlm hrel.out.2.1 og,zod (c':=0) hrel.out.1 I.out (show(0:Int)=_ by rw[zlu F];rfl) og og hrel.out.2.2⟩);case measure=>simp[intOf];omega
  ·obtain rfl:k=a.length:=og;have U:e ((val f:Int)+q*pw a.length=x+y):=(by have:=hrel.out.2.2;rw[zkb (o _),zkb og,Q.out.2,R.out.2] at this;unfold e;omega);rcases Int.lt_or_le 0 q with ay|az
   ·obtain rfl:q=1:=og;have hfin:e (A9 (x+y)=f++[1]):=(by have H:val (f++[1])=x+y:=(by rw[znj,hrel.out.1,zrt,zoy];have:=U.out;omega);rw[e,<-H];refine ztp (zlm hrel.out.2.1 og) (.inr ?_);rw[h,hrel.out.1,znj,hrel.out.1,zrt,zoy];simp);go_wp2_with (at_builtin;refine zkz R6 rfl _ _ rfl rfl n rfl rfl (oh G) E ?_;intro J K j m p);go_ret;refine⟨⟨_,rfl,?_⟩,l.trans m⟩;unfold IsN;rw[hfin.out];rw[zks .u32 f 1 _ og] at j;exact Own.isL j
   ·obtain rfl:q=0:=og
    have hfin:e (A9 (x+y)=f):=by
     have H:val f=x+y:=oh U;rw[e,<-H];refine ztp hrel.out.2.1 ?_;rcases Nat.eq_zero_or_pos a.length with S|S
     ·exact .inl (List.eq_nil_of_length_eq_zero (by rw[hrel.out.1];exact S))
     ·exact .inr (by rw[hrel.out.1,H];exact al.out _ og)
    go_wp2;go_ret;refine⟨⟨_,rfl,?_⟩,l⟩;unfold IsN;rw[hfin.out];exact Own.isL n
theorem ymf {w:g} {x y:Nat} (ha:IsN w lo hi z x) (ah:IsN w lo' s C y) (ai:hi<=w.heap.size) (aj:s<=w.heap.size) (ar:(A9 x).length<(A9 y).length) (ao:(A9 y).length<=4294967296):
 t u 194 #[z,C] w fun ae w'=>(∃v,ae= .returned v/\IsN w' w.heap.size w'.heap.size v (x+y))/\Below w.heap.size w w':=by
 obtain⟨A,c,rfl,_,_,af⟩:=ha;obtain⟨B,d,rfl,_,_,ag⟩:=ah;have al:e (∀k,k<(A9 y).length->pw k<=x+y):=(by intro k ak;have:=zyi (x:=y) (k:=k) og;omega);generalize Z:A9 x=a at*;generalize aa:A9 y=b at*;have Q:e (Lo a/\val a=x):=(by rw[e,<-Z];exact⟨L3 x,N6 x⟩);have R:e (Lo b/\val b=y):=(by rw[e,<-aa];exact⟨L3 y,N6 y⟩);clear Z aa;generalize T:w.heap.size=bs at*;have L:=i T;clear T;go_in;go_wp2_with (at_make;refine yls (base:=bs) R6 rfl _ _ rfl (b.length+1) rfl rfl og og (oh L) ?_;intro aH an ab W p);have V:Below bs w an:=(by rw[<-L.out];exact W);clear W
 go_loopw [5,6,23] (fun v ad O wr=>∃(k:Nat) (f:List Nat) (q:Int),k<=b.length/\O= .int .i64 (k:Int)/\ad= .int .u32 q/\0<=q/\q<=1/\Own wr bs 115 v (C8 .u32 f)/\Below bs w wr/\
  e (f.length=k/\Lo f/\(val f:Int)+q*pw k=val (b.take k)+val (a.take k))) (fun _ _ O _=>b.length-(intOf O).toNat)
 case atStart=>exact⟨0,[],0,by omega,rfl,rfl,by omega,by omega,ab,V,rfl,zvg,by simp[val]⟩
 case round=>
  obtain⟨k,f,q,ak,rfl,rfl,au,av,n,l,hrel⟩:=hrel;have E:bs<=wr.heap.size:=(by have:=l.size;have:=L.out;omega);have aq:k<=4294967297:=og;have G:e ((C8 .u32 f).length<=4294967297):=(by rw[e,zls,hrel.out.1];omega);clear V ab p;rcases D k b.length with M|M
  ·obtain⟨ba,oa,rfl,_,_,X⟩:=(ag.below l aj) (L5 (j:=k) M);obtain⟨r,I,aA,aB,aC⟩:=T3 (j:=k) R.out.1 X M;clear X;rcases D k a.length with F|F
   ·obtain⟨bb,ob,rfl,_,_,Y⟩:=(af.below l ai) (L5 (j:=k) F);obtain⟨P,ac,aD,aE,aG⟩:=T3 (j:=k) Q.out.1 Y F;clear Y;rcases Int.lt_or_le 999999999 (r+q+P) with N|N
    ·go_wp2_with (at_builtin;refine zkz R6 rfl _ _ rfl rfl n rfl rfl (oh G) E ?_;intro J K j m p);go_roundw;(case rel=>rw[zks .u32 f (r+q+P-1000000000).toNat _ og] at j;exact⟨k+1,_,1,by omega,by go_num,rfl,by omega,by omega,j,l.trans m,by rw[h];simp[hrel.out.1],zlm hrel.out.2.1 og,zod (c':=1) hrel.out.1 I.out ac.out og og hrel.out.2.2⟩);case measure=>simp[intOf];omega
    ·go_wp2_with (at_builtin;refine zkz R6 rfl _ _ rfl rfl n rfl rfl (oh G) E ?_;intro J K j m p);go_roundw;(case rel=>rw[zks .u32 f (r+q+P).toNat _ og] at j;exact⟨k+1,_,0,by omega,by go_num,rfl,by omega,by omega,j,l.trans m,by rw[h];simp[hrel.out.1],zlm hrel.out.2.1 og,zod (c':=0) hrel.out.1 I.out ac.out og og hrel.out.2.2⟩);case measure=>simp[intOf];omega
   ·rcases Int.lt_or_le 999999999 (r+q) with N|N
    ·go_wp2_with (at_builtin;refine zkz R6 rfl _ _ rfl rfl n rfl rfl (oh G) E ?_;intro J K j m p);go_roundw;(case rel=>rw[zks .u32 f (r+q-1000000000).toNat _ og] at j;exact⟨k+1,_,1,by omega,by go_num,rfl,by omega,by omega,j,l.trans m,by rw[h];simp[hrel.out.1],zlm hrel.out.2.1 og,zod (c':=1) hrel.out.1 I.out (show(0:Int)=_ by rw[zlu F];rfl) og og hrel.out.2.2⟩);case measure=>simp[intOf];omega
    ·go_wp2_with (at_builtin;refine zkz R6 rfl _ _ rfl rfl n rfl rfl (oh G) E ?_;intro J K j m p);go_roundw;(case rel=>rw[zks .u32 f (r+q).toNat _ og] at j;exact⟨k+1,_,0,by omega,by go_num,rfl,by omega,by omega,j,l.trans m,by rw[h];simp[hrel.out.1],zlm hrel.out.2.1 og,zod (c':=0) hrel.out.1 I.out (show(0:Int)=_ by rw[zlu F];rfl) og og hrel.out.2.2⟩);case measure=>simp[intOf];omega
  ·obtain rfl:k=b.length:=og;have U:e ((val f:Int)+q*pw b.length=x+y):=(by have:=hrel.out.2.2;rw[zkb (o _),zkb og,R.out.2,Q.out.2] at this;unfold e;omega);rcases Int.lt_or_le 0 q with ay|az
   ·obtain rfl:q=1:=og;have hfin:e (A9 (x+y)=f++[1]):=(by have H:val (f++[1])=x+y:=(by rw[znj,hrel.out.1,zrt,zoy];have:=U.out;omega);rw[e,<-H];refine ztp (zlm hrel.out.2.1 og) (.inr ?_);rw[h,hrel.out.1,znj,hrel.out.1,zrt,zoy];simp);go_wp2_with (at_builtin;refine zkz R6 rfl _ _ rfl rfl n rfl rfl (oh G) E ?_;intro J K j m p);go_ret;refine⟨⟨_,rfl,?_⟩,l.trans m⟩;unfold IsN;rw[hfin.out];rw[zks .u32 f 1 _ og] at j;exact Own.isL j
   ·obtain rfl:q=0:=og
    have hfin:e (A9 (x+y)=f):=by
     have H:val f=x+y:=oh U;rw[e,<-H];refine ztp hrel.out.2.1 ?_;rcases Nat.eq_zero_or_pos b.length with S|S
     ·exact .inl (List.eq_nil_of_length_eq_zero (by rw[hrel.out.1];exact S))
     ·exact .inr (by rw[hrel.out.1,H];exact al.out _ og)
    go_wp2;go_ret;refine⟨⟨_,rfl,?_⟩,l⟩;unfold IsN;rw[hfin.out];exact Own.isL n
theorem ymg {w:g} {x y:Nat} (ha:IsN w lo hi z x) (a:IsN w lo' s C y) (b:hi<=w.heap.size) (c:s<=w.heap.size) (e:(A9 x).length<=4294967296) (f:(A9 y).length<=4294967296):
 t u 194 #[z,C] w fun d w'=>(∃v,d= .returned v/\IsN w' w.heap.size w'.heap.size v (x+y))/\Below w.heap.size w w':=by
 rcases D (A9 x).length (A9 y).length with h|h
 ·exact ymf ha a b c h f
 ·exact yme ha a b c h e
theorem zvd {w:g} (h:IsN w 0 w.heap.size v n):(A9 n).length<=9223372036854775807:=by have:=h.length_le;unfold maxLen at this;omega
theorem zxq (h:n=0):(((A9 n).length:Int)==0)=true:=by rw[h,M6];rfl
theorem zxp (h:n≠0):(((A9 n).length:Int)==0)=false:=beq_eq_false_iff_ne.2 (by have:= @lim_nil_iff n;omega)
theorem yti (h:n≠0):0<(A9 n).length:=by have:= @lim_nil_iff n;omega
def zwh (S:Nat->Prop) (w:g) (q:Rat) (a:Ending) (w':g):Prop:=(∃v,a= .returned v/\IsQ w' S v q)/\Below w.heap.size w w'
theorem yvp {w:g} {q:Rat} (h:IsQ w S v q) (c:∀b,S b->b<w.heap.size) (M:p= -q):t u 172 #[v] w (zwh S w p):=by
 subst M;have Y:(A9 q.num.natAbs).length<=9223372036854775807:=zvd (E9 (IsK.stb.to (G9 h).choose_spec.choose_spec.choose_spec.choose_spec.choose_spec.2.2.1.out (E0 c)));obtain⟨neg,A,l,B,m,rfl,J,I,H⟩:=G9 h;have hr:=yiw q;rw[show D8 q=⟨neg,A9 q.num.natAbs,A9 q.den⟩ from by rw[J.out];rfl] at hr;clear h;obtain⟨O,Z,j,C,k,Q⟩:=zkd w #[.bool neg,.slice A (A9 q.num.natAbs).length l,.slice B (A9 q.den).length m] #[.bool false,.slice none 0 0,.slice none 0 0] 37 37;have z:=IsK.stb.to I.out (zqg (S:=S) j c);have y:=IsK.stb.to H.out (zqg (S:=S) j c);obtain⟨R,T,U⟩:=C3 C;obtain⟨aa,ab,ac⟩:=C3 k;obtain⟨V,W,X⟩:=F7 k;obtain⟨x,G,F,E⟩:=Z5 k j z y;clear C k j z y
 have hfin:∀s:Bool,D8 (-q)=⟨s,A9 q.num.natAbs,A9 q.den⟩->zwh S w (-q) (.returned (.agg #[.bool s,.slice A (A9 q.num.natAbs).length l,.slice B (A9 q.den).length m])) (put3 O (w.heap.size+1) (.bool s) (.slice A (A9 q.num.natAbs).length l) (.slice B (A9 q.den).length m)):=fun s N=>
  ⟨⟨_,rfl,yau N (IsK.stb.to F.out (zog fun b f=>⟨by have:=c b f;omega,f⟩)) (IsK.stb.to E.out (zog fun b f=>⟨by have:=c b f;omega,f⟩))⟩,zom G.out og _ _ _⟩
 obtain⟨n,r,P⟩:=G4 hfin hr c;clear hfin hr c;cases neg with
 |true=>go_in;go_wp2_with fail;refine W5 Tryz.results172 rfl rfl (Row.put3 x.out _ _ _) (n.out false (by rw[r.out];rfl))
 |false=>go_in;go_wp2_with fail;refine W5 Tryz.results172 rfl rfl (Row.put3 x.out _ _ _) (n.out _ ?_);rw[r.out];congr 1;rw[Bool.eq_iff_iff];have K:= @num_zero_iff q;have L:= @lim_nil_iff q.num.natAbs;simp;rw[<-K,<-L];omega
theorem ysk {w w':g} {q:Rat} (h:IsQ w' (C2 w) v q) (a:Below w.heap.size w w'):IsQ w' (C2 w') v q:=IsQ.stb.to h (E0 fun b h=>Nat.lt_of_lt_of_le h a.size)
theorem zrf {w:g} {q:Rat} (h:IsQ w (C2 w) v q) (l:Sz q 100000) (j:p= -q):t u 131 #[v] w (U9 w p):=by have o:=i h;obtain⟨neg,A,F,B,G,rfl,N,M,L⟩:=G9 h;have x:e (Sz p 100000):=(by rw[j];exact l.neg);have s:=i j;clear h l j;obtain⟨K,I,f,r,n,y⟩:=zkd w #[.bool neg,.slice A (A9 q.num.natAbs).length F,.slice B (A9 q.den).length G] #[.bool false,.slice none 0 0,.slice none 0 0] 37 37;have z:=nQ o f;obtain⟨d,a,E⟩:=G4 (r) (n) (f);have J:e (w.heap.size+2<=K.heap.size):=i (Nat.le_of_eq y.out.symm);clear r n f;obtain⟨S,V,Y⟩:=C3 d.out;obtain⟨ab,ae,ah⟩:=C3 a.out;obtain⟨ak,ao,au⟩:=F7 a.out;go_in;go_wp2_with fail;clear I;refine(yvp z.out (fun _ h=>h) s.out).mono ?_;rintro H c ⟨⟨aG,rfl,hv⟩,k⟩;have D:=i (ysk hv k);obtain⟨aD,Q,az,O,aB,rfl,_,_,_⟩:=G9 hv;obtain⟨T,W,Z⟩:=C3 (uR c d);obtain⟨ac,af,ai⟩:=C3 (uR c a);obtain⟨al,aq,av⟩:=F7 (uR c a);go_wp2_with fail;refine(yei D.out x.out).mono ?_;rintro H b ⟨⟨aH,rfl,m⟩,k⟩;have C:=i (IsQ.stb.le m (uS c J));obtain⟨aE,R,aA,P,aC,rfl,_,_,_⟩:=G9 m;obtain⟨U,X,aa⟩:=C3 (uR b d);obtain⟨ad,ag,aj⟩:=C3 (uR b a);obtain⟨an,ar,ay⟩:=F7 (uR b a);go_wp2_with fail;refine W5 Tryz.results131 rfl rfl (Row.put3 (uR b a) _ _ _) (zqe C.out (uB b E) og og)
def zlt (q:Rat):Bool:=decide ((A9 q.num.natAbs).length<=1024/\(A9 q.den).length<=1024)
theorem yfk {q:Rat}:zlt q=true↔Sz q 1024:=by unfold zlt Sz;exact decide_eq_true_iff
theorem yrd {w:g} {q:Rat} (h:IsQ w (C2 w) v q):t u 116 #[v] w fun c w'=>c= .returned (.bool (zlt q))/\Below w.heap.size w w':=by
 obtain⟨neg,A,f,B,i,rfl,e,b,a⟩:=G9 h;have k:=zvd (E9 b.out);have l:=zvd (E9 a.out);clear h;by_cases d:(A9 q.num.natAbs).length<=1024
 ·go_in;go_wp2_with fail;go_ret;refine⟨zrj ?_,(Below.refl _ _).alloc (o _) _⟩;rw[Bool.eq_iff_iff,yfk];unfold Sz;simp;omega
 ·have j:1024<(A9 q.num.natAbs).length:=og;clear d;go_in;go_wp2_with fail;go_ret;refine⟨zrj ?_,(Below.refl _ _).alloc (o _) _⟩;rw[Bool.eq_iff_iff,yfk];unfold Sz;simp;omega
theorem yoz {w:g} {x y:Nat} (ha:IsN w 0 w.heap.size z x) (e:IsN w 0 w.heap.size C y) (E:Bru w) (G:(A9 x).length<=4294967296) (H:(A9 y).length<=4294967296):
 t u 163 #[z,C] w fun a w'=>(∃b:Bool,a= .returned (.bool b)/\(b=true↔Nat.gcd x y=1))/\Below w.heap.size w w':=by
 obtain⟨m,n,l⟩:=G4 ha e E;obtain⟨A,c,rfl,_,_,_⟩:=ha;obtain⟨B,d,rfl,_,_,_⟩:=e;clear E;by_cases h:(A9 x).length<=2/\(A9 y).length<=2
 ·obtain⟨f,r⟩:=h;have q:=lim_len_le.1 f;have by_:=lim_len_le.1 r;rw[show pw 2=1000000000000000000 from by decide] at q by_;obtain⟨I,J⟩:=C4 q by_;clear q by_;obtain⟨M,F⟩:=nm (Nat.gcd x y);have s:=i F;clear F;go_in;go_wp2_with fail;refine(zrw m.out f).mono ?_;rintro a j ⟨rfl,rfl⟩;go_wp2_with fail;refine(zrw n.out r).mono ?_;rintro a j ⟨rfl,rfl⟩;go_wp2_with fail;refine(zwn x y w l.out (Nat.lt_trans I.out og) (Nat.lt_trans J.out og)).mono ?_;rw[<-s.out];rintro a j ⟨rfl,rfl⟩;go_wp2_with fail;go_ret;exact⟨⟨_,rfl,by rw[<-s.out];simp;omega⟩,Below.refl _ _⟩
 ·rcases D 2 (A9 x).length with f|f
  ·clear h;go_in;go_wp2_with fail;refine(zva m.out n.out l.out G H).mono ?_;rintro a j ⟨⟨v,rfl,hv⟩,e⟩;obtain⟨p,o⟩:=C4 hv e;obtain⟨K,k,rfl,_,_,_⟩:=hv;clear e;go_wp2_with fail;refine(zra p.out).mono ?_;rintro a L ⟨rfl,rfl⟩;go_wp2_with fail;go_ret;exact⟨⟨_,rfl,by simp⟩,o.out⟩
  ·have r:2<(A9 y).length:=og;clear h;go_in;go_wp2_with fail;refine(zva m.out n.out l.out G H).mono ?_;rintro a j ⟨⟨v,rfl,hv⟩,e⟩;obtain⟨p,o⟩:=C4 hv e;obtain⟨K,k,rfl,_,_,_⟩:=hv;clear e;go_wp2_with fail;refine(zra p.out).mono ?_;rintro a L ⟨rfl,rfl⟩;go_wp2_with fail;go_ret;exact⟨⟨_,rfl,by simp⟩,o.out⟩
theorem ysm {w:g} {x y:Nat} (sa sb:Bool) (ha:IsN w 0 w.heap.size z x) (b:IsN w 0 w.heap.size C y) (P:(A9 x).length<=2000000) (Q:(A9 y).length<=2000000):
 t u 176 #[.bool sa,z,.bool sb,C] w fun j w'=>(∃s v n,j= .returned (.tuple #[.bool s,v])/\e (sg s n=sg sa x+sg sb y)/\IsN w' w.heap.size w'.heap.size v n/\(A9 n).length<=2000001)/\Below w.heap.size w w':=by
 obtain⟨k,l⟩:=C4 ha b;obtain⟨A,c,rfl,_,_,_⟩:=ha;obtain⟨B,d,rfl,_,_,_⟩:=b;by_cases E:sa=sb
 ·subst E;have O:(sa==sa)=true:=(by simp);go_in;go_wp2_with fail;refine(ymg k.out l.out (o _) (o _) og og).mono ?_;rintro j M ⟨⟨v,rfl,hv⟩,b⟩;obtain⟨q,m⟩:=C4 hv b;clear hv b;go_wp2_with fail;go_ret2;exact⟨⟨_,_,_,rfl,yjt _ _ _,q.out,by have:=ycj P Q;omega⟩,m.out⟩
 ·have O:(sa==sb)=false:=(by simp[E]);have K:e (sb= !sa):=(by unfold e;cases sa<;>cases sb<;>simp at E⊢);clear E;rcases D x y with L|I
  ·have H:=i L;clear L;go_in;go_wp2_with fail;refine(zsf k.out l.out).mono ?_;rw[zqi H.out];rintro j M ⟨rfl,hd⟩;have f:=hd.below w.heap.size;obtain⟨F,G,p⟩:=G4 (IsN.next k.out f) (IsN.next l.out f) f;clear hd f;go_wp2_with fail;refine(ykp G.out F.out (o _) (o _) (Nat.le_of_lt H.out) og).mono ?_;rintro j R ⟨⟨v,rfl,hv⟩,b⟩;have q:=i (hv.wide p.out.size (o _));have m:=nB p b;clear hv b;go_wp2_with fail;go_ret2;exact⟨⟨_,_,_,rfl,by unfold e;rw[sg_sub' (Nat.le_of_lt H.out),K.out];simp,q.out,a (U1 (Nat.sub_le _ _)) og⟩,m.out⟩
  ·have J:=i I
   obtain⟨r,hr,S⟩:∃r,r=U4 x y/\0<=r:=by
    refine⟨_,rfl,?_⟩;rcases D y x with h|h
    ·rw[zsx h];omega
    ·rw[zys (Nat.le_antisymm h I)];omega
   have N:=i hr;clear I hr;go_in;go_wp2_with fail;refine(zsf k.out l.out).mono ?_;rw[<-N.out];rintro j M ⟨rfl,hd⟩;have f:=hd.below w.heap.size;obtain⟨F,G,p⟩:=G4 (IsN.next k.out f) (IsN.next l.out f) f;clear hd f;go_wp2_with fail;refine(ykp F.out G.out (o _) (o _) J.out og).mono ?_;rintro j R ⟨⟨v,rfl,hv⟩,b⟩;have q:=i (hv.wide p.out.size (o _));have m:=nB p b;clear hv b;go_wp2_with fail;go_ret2;exact⟨⟨_,_,_,rfl,by unfold e;rw[yjw J.out,K.out],q.out,a (U1 (Nat.sub_le _ _)) og⟩,m.out⟩
theorem zz1368 (m n:Nat):Int.tmod (m:Int) (n:Int)=((m%n:Nat):Int):=rfl
theorem yfu {w:g} {a:Nat} (ha:a<=4611686018427387904) (j:b<=4611686018427387904):
 t u 74 #[.int .i64 (a:Int),.int .i64 (b:Int)] w fun i w'=>i= .returned (.int .i64 ((Nat.gcd a b:Nat):Int))/\Dr w w':=by
 go_in;go_wp2_with fail;go_loopw [0,1] (fun x y wr=>∃m n:Nat,x= .int .i64 (m:Int)/\y= .int .i64 (n:Int)/\e (Nat.gcd m n=Nat.gcd a b)/\m<=4611686018427387904/\n<=4611686018427387904/\Dr w wr) (fun _ y _=>(intOf y).toNat);case atStart=>exact⟨a,b,rfl,rfl,rfl,ha,j,Dr.refl _⟩
 case round=>
  obtain⟨m,n,rfl,rfl,hg,p,l,⟨k,rfl⟩⟩:=hrel;rcases Nat.eq_zero_or_pos n with c|c
  ·have f:e (m=Nat.gcd a b):=(by rw[e,<-hg.out,c,Nat.gcd_zero_right]);have h:((n:Int) !=0)=false:=(by rw[c];rfl);have q:max (m:Int) (-(m:Int))=(m:Int):=og;subst c;go_wp2_with fail;go_ret;exact⟨by show Ending.returned (.int .i64 _)=_;rw[<-f.out],⟨k,rfl⟩⟩
  ·have h:((n:Int) !=0)=true:=bne_iff_ne.2 og;have b2:(n:Int)≠0:=og;have r:=zz1368 m n;have o:m%n<n:=Nat.mod_lt _ c;go_wp2_with fail;go_quiet (fail);go_wp2_with fail;have d:(m:Int)%(n:Int)=((m%n:Nat):Int):=rfl;go_roundw;(case rel=>exact⟨n,m%n,rfl,by rw[d],by rw[e,Nat.gcd_comm,<-Nat.gcd_rec,Nat.gcd_comm];exact hg.out,l,by omega,⟨k+nq,by simp[World.drewN,Nat.add_assoc]⟩⟩);case measure=>rw[d];simp[intOf];omega
theorem ytp (h:n≠0):A9 n=(n%1000000000)::A9 (n/1000000000):=zoa h
theorem zxw {w:g} (z:n<=4611686018427387904):
 t u 75 #[.int .i64 (n:Int)] w fun q w'=>(∃v,q= .returned v/\IsN w' w.heap.size w'.heap.size v n)/\Below w.heap.size w w':=by
 have o:e ((A9 n).length<=3):=lim_len_le.2 (by have:pw 3=1000000000000000000000000000:=rfl;omega);go_in;go_wp2_with fail;go_loopw [0,3] (fun x v wr=>∃(m:Nat) (l:List Nat),x= .int .i64 (m:Int)/\m<=4611686018427387904/\Own wr w.heap.size 115 v (C8 .u32 l)/\Below w.heap.size w wr/\e (A9 n=l++A9 m)) (fun x _ _=>(intOf x).toNat);case atStart=>exact⟨n,[],rfl,z,Own.nil _ _ _,Below.refl _ _,rfl⟩
 case round=>
  obtain⟨m,l,rfl,E,i,a,c⟩:=hrel;rcases Nat.eq_zero_or_pos m with b|b
  ·have k:e (A9 n=l):=(by rw[e,c.out,b,M6,List.append_nil]);have p:¬((m:Int)>0):=og;subst b;have C:=a;go_wp2_with fail;go_ret;refine⟨⟨_,rfl,?_⟩,a⟩;have f:=i.isL;rw[<-k.out] at f;exact f
  ·have p:(m:Int)>0:=og;have B:Int.tmod (m:Int) 1000000000=((m%1000000000:Nat):Int):=rfl;have A:Int.tdiv (m:Int) 1000000000=((m/1000000000:Nat):Int):=rfl;have D:m%1000000000<1000000000:=Nat.mod_lt _ og;have y:e ((C8 .u32 l).length<=100):=(by rw[e,zls];have:=congrArg List.length c.out;rw[h] at this;have:=o.out;omega);have r:w.heap.size<=wr.heap.size:=a.size;go_wp2_with (at_builtin;refine zkz R6 rfl _ _ rfl rfl i rfl rfl (oh y) r ?_;intro G H j s F);have d:(m:Int)/1000000000=((m/1000000000:Nat):Int):=rfl;rw[zks .u32 l (m%1000000000) _ og] at j;go_roundw;(case rel=>exact⟨m/1000000000,l++[m%1000000000],by rw[d],by omega,j,a.trans s,by rw[e,c.out,ytp og];simp⟩);case measure=>rw[d];simp[intOf];omega
def X5 (a:Int) (b:Nat):Rat:=mkRat a b
theorem ybw {a:Int} (ha:a.natAbs<=4611686018427387904) (e:b<=4611686018427387904) (c:b≠0):Sz (X5 a b) 3:=by have d:pw 3=1000000000000000000000000000:=rfl;exact zyy c (lim_len_le.2 og) (lim_len_le.2 og)
theorem yir {neg:Bool} {d a:Nat} (hd:d≠0) (hg:a=Nat.gcd n d) (b:n=0->neg=false):D8 (X5 (sg neg n) d)=⟨neg,A9 (n/a),A9 (d/a)⟩:=by
 unfold X5;subst hg;rcases Nat.eq_zero_or_pos n with h|h
 ·subst h;rw[zwa,Rat.zero_mkRat,zyl,Nat.zero_div,Nat.gcd_zero_left,Nat.div_self og,M6,zka,b rfl]
 ·exact zvq og hd
theorem zvp {w:g} {a:Int} (ha:a.natAbs<=4611686018427387904) (O:b<=4611686018427387904) (x:b≠0):
 t u 21 #[.int .i64 a,.int .i64 (b:Int)] w (U9 w (X5 a b)):=by
 obtain⟨n,S⟩:=nm (a.natAbs);obtain⟨c,hg⟩:=nm (Nat.gcd n b);have ad:0<c:=(by rw[hg];exact Nat.gcd_pos_of_pos_right _ og);have aA:n/c<=n:=Nat.div_le_self _ _;have R:b/c<=b:=Nat.div_le_self _ _;obtain⟨L,au⟩:=C4 hg x;obtain⟨V,T,P,U,M⟩:=K0 w #[.bool false,.slice none 0 0,.slice none 0 0] 37;obtain⟨N,K⟩:=C4 U P;clear U P;rcases(by omega:a<0\/0<=a) with ai|aB
 ·have ea:a= -(n:Int):=og;have ah:0<n:=og;have Q:c∣n:=(by rw[hg];exact Nat.gcd_dvd_left _ _);have aj:0<n/c:=Nat.div_pos (Nat.le_of_dvd ah Q) ad;have z:e (D8 (X5 a b)=⟨true,A9 (n/c),A9 (b/c)⟩):=(by rw[e,ea];exact yir (neg:=true) x hg (fun h=>by omega));rw[ea] at z⊢;have ag:max (-(n:Int)) (n:Int)=(n:Int):=og;have ay:Int.tdiv (-(n:Int)) (c:Int)= -((n/c:Nat):Int):=(by rw[Int.neg_tdiv];rfl);have az: -((n/c:Nat):Int)<0:=(by have:(0:Int)<((n/c:Nat):Int):=Int.natCast_pos.2 aj;exact Int.neg_neg_of_pos this);have b2:(c:Int)≠0:=og;have H:wrap64 ((b:Int)/(c:Int))=((b/c:Nat):Int):=(by rw[show(b:Int)/(c:Int)=((b/c:Nat):Int) from rfl];(generalize b/c=q at R⊢;unfold wrap64;omega));have J:n<=4611686018427387904:=og;clear hg x S ha ea ai Q;go_in;go_wp2_with fail;clear T;refine(yfu (a:=n) (b:=b) J O).mono ?_;rw[<-L.out];rintro v j ⟨rfl,hd⟩;have d:=hd.below V.heap.size;have r:=nB K d;have C:=i d.size;have D:=i (N.out.next d);clear hd d;go_wp2_with fail;go_quiet (fail);go_wp2_with fail;rw[show(n:Int)/(c:Int)=((n/c:Nat):Int) from rfl];refine(zxw (n:=n/c) og).mono ?_;rintro v aq ⟨⟨an,rfl,m⟩,y⟩;have l:=C9 (Dr.below (⟨nq,rfl⟩:Dr j (j.drewN nq)) j.heap.size) y;have A:=nB r l;obtain⟨s,E⟩:=C4 (D.out.next l) (IsK.stb.le (zoq m) (m:=w.heap.size+1) (by have I:=M.out;have ae:=r.out.size;have af:=C.out;show _<=j.heap.size;omega));obtain⟨W,ak,rfl,_,_,_⟩:=id m;clear m y l;go_wp2_with fail;(try rw[H])
  refine(zxw (n:=b/c) og).mono ?_;rintro v ar ⟨⟨ao,rfl,p⟩,f⟩;have B:=nB A f;obtain⟨k,G,F⟩:=G4 (s.out.next f) (IsK.stb.le (zoq p) (m:=w.heap.size+1) (by have I:=s.out.lt;omega)) (IsK.stb.fresh E.out f);obtain⟨X,al,rfl,_,_,_⟩:=id p;obtain⟨d0,Y,Z⟩:=C3 k.out;obtain⟨aa,ab,ac⟩:=F7 k.out;clear p f;go_wp2_with fail;exact W5 Tryz.results21 rfl rfl (Row.put3 k.out _ _ _) (znh z.out B.out (o _) F.out G.out og og)
 ·have ea:a=(n:Int):=og;have z:e (D8 (X5 a b)=⟨false,A9 (n/c),A9 (b/c)⟩):=(by rw[e,ea];exact yir (neg:=false) x hg (fun _=>rfl));subst ea;have ag:max (n:Int) (-(n:Int))=(n:Int):=og;have av:¬((n/c:Nat):Int)<0:=Int.not_lt.2 (Int.natCast_nonneg _);have b2:(c:Int)≠0:=og;have H:wrap64 ((b:Int)/(c:Int))=((b/c:Nat):Int):=(by rw[show(b:Int)/(c:Int)=((b/c:Nat):Int) from rfl];(generalize b/c=q at R⊢;unfold wrap64;omega));have J:n<=4611686018427387904:=og;clear hg x S ha;go_in;go_wp2_with fail;clear T;refine(yfu (a:=n) (b:=b) J O).mono ?_;rw[<-L.out];rintro v j ⟨rfl,hd⟩;have d:=hd.below V.heap.size;have r:=nB K d;have C:=i d.size;have D:=i (N.out.next d);clear hd d;go_wp2_with fail;go_quiet (fail);go_wp2_with fail;rw[show(n:Int)/(c:Int)=((n/c:Nat):Int) from rfl];refine(zxw (n:=n/c) og).mono ?_;rintro v aq ⟨⟨an,rfl,m⟩,y⟩;have l:=C9 (Dr.below (⟨nq,rfl⟩:Dr j (j.drewN nq)) j.heap.size) y;have A:=nB r l;obtain⟨s,E⟩:=C4 (D.out.next l) (IsK.stb.le (zoq m) (m:=w.heap.size+1) (by have I:=M.out;have ae:=r.out.size;have af:=C.out;show _<=j.heap.size;omega));obtain⟨W,ak,rfl,_,_,_⟩:=id m;clear m y l;go_wp2_with fail;(try rw[H])
  refine(zxw (n:=b/c) og).mono ?_;rintro v ar ⟨⟨ao,rfl,p⟩,f⟩;have B:=nB A f;obtain⟨k,G,F⟩:=G4 (s.out.next f) (IsK.stb.le (zoq p) (m:=w.heap.size+1) (by have I:=s.out.lt;omega)) (IsK.stb.fresh E.out f);obtain⟨X,al,rfl,_,_,_⟩:=id p;obtain⟨d0,Y,Z⟩:=C3 k.out;obtain⟨aa,ab,ac⟩:=F7 k.out;clear p f;go_wp2_with fail;exact W5 Tryz.results21 rfl rfl (Row.put3 k.out _ _ _) (znh z.out B.out (o _) F.out G.out og og)
abbrev RV:=Nat->Rat
def V6 (b:List RV->Rat) (c:Nat):List RV->List RV->Rat
 |_,[]=>0
 |pre,v::post=>v c*b (pre++post)-V6 b c (pre++[v]) post
def T7:List Nat->List RV->Rat
 |[],[]=>1
 |[],_::_=>0
 |c::cs,rows=>V6 (T7 cs) c [] rows
def zzl (c:List RV->Rat):Prop:=∀(d e:List RV) (f v:RV) (a b:Rat),c (d++(fun x=>a*f x+b*v x)::e)=a*c (d++f::e)+b*c (d++v::e)
def zzj (b:List RV->Rat):Prop:=∀(c d:List RV) (a:RV),b (c++a::a::d)=0
theorem ymu {k:List RV->Rat} (h:zzl k) (c:Nat) (l v:RV) (a b:Rat) (j:List RV):∀X f:List RV,V6 k c (X++(fun x=>a*l x+b*v x)::f) j=a*V6 k c (X++l::f) j+b*V6 k c (X++v::f) j:=by
 induction j with
 |nil=>intro X f;simp only[V6];grind
 |cons q j ih=>intro X f;have m:=h X (f++j) l v a b;have n:=ih X (f++[q]);simp only[V6,List.append_assoc,List.cons_append] at m n⊢;rw[m,n];grind
theorem ymt {l:List RV->Rat} (h:zzl l) (c:Nat) (f j:List RV) (m v:RV) (a b:Rat):∀pre:List RV,V6 l c pre (f++(fun x=>a*m x+b*v x)::j)=a*V6 l c pre (f++m::j)+b*V6 l c pre (f++v::j):=by
 induction f with
 |nil=>intro pre;have k:=ymu h c m v a b j pre [];simp only[V6,List.nil_append] at k⊢;rw[k];grind
 |cons p f ih=>intro pre;have k:=h (pre++f) j m v a b;have n:=ih (pre++[p]);simp only[V6,List.append_assoc,List.cons_append] at k n⊢;rw[k,n];grind
theorem zth (k:List Nat):zzl (T7 k):=by
 induction k with
 |nil=>intro f j m v a b;have l:∀w:RV,T7 [] (f++w::j)=0:=fun w=>(by cases f<;>rfl);rw[l,l,l];grind
 |cons c k ih=>intro f j m v a b;exact ymt ih c f j m v a b []
theorem ymp {k:List RV->Rat} (h:zzj k) (c:Nat) (j:RV) (f:List RV):∀X b:List RV,V6 k c (X++j::j::b) f=0:=by
 induction f with
 |nil=>intro X b;rfl
 |cons q f ih=>intro X b;have l:=h X (b++f) j;have m:=ih X (b++[q]);simp only[V6,List.append_assoc,List.cons_append] at l m⊢;rw[l,m];grind
theorem ymo {l:List RV->Rat} (h:zzj l) (c:Nat) (f k:List RV) (j:RV):∀pre:List RV,V6 l c pre (f++j::j::k)=0:=by
 induction f with
 |nil=>intro pre;have b:=ymp h c j k pre [];simp only[V6,List.nil_append,List.append_assoc,List.cons_append] at b⊢;rw[b];grind
 |cons p f ih=>intro pre;have b:=h (pre++f) k j;have m:=ih (pre++[p]);simp only[V6,List.append_assoc,List.cons_append] at b m⊢;rw[b,m];grind
theorem zws (f:List Nat):zzj (T7 f):=by
 induction f with
 |nil=>intro b j k;cases b<;>rfl
 |cons c f ih=>intro b j k;exact ymo ih c b j k []
theorem ypi (d:List Nat) (b c:List RV) (a v:RV):T7 d (b++a::v::c)= -T7 d (b++v::a::c):=by have g:=zws d b c (fun x=>1*a x+1*v x);have h:=zth d b ((fun x=>1*a x+1*v x)::c) a v 1 1;have e:=zth d (b++[a]) c a v 1 1;have f:=zth d (b++[v]) c a v 1 1;have i:=zws d b c a;have j:=zws d b c v;simp only[List.append_assoc,List.cons_append,List.nil_append] at e f;rw[g,e,f,i,j] at h;grind
theorem ypf (j:List Nat) (c:RV) (f R:List RV):∀b:List RV,T7 j (b++c::(R++c::f))=0:=by
 induction R with
 |nil=>intro b;exact zws j b f c
 |cons r R ih=>intro b;have k:=ypi j b (R++c::f) c r;have l:=ih (b++[r]);simp only[List.append_assoc,List.cons_append,List.nil_append] at k l⊢;rw[k,l];grind
theorem ymq {f j:List RV->Rat} {k:Rat} {w:RV} (hF:∀r:List RV,r.length=n->f (r++[w])=j r*k) (q:w c=0) (b:List RV):∀pre:List RV,pre.length+b.length=n+1->V6 f c pre (b++[w])=V6 j c pre b*k:=by
 induction b with
 |nil=>intro pre _;simp only[V6,List.nil_append,q];grind
 |cons m b ih=>intro pre h;have l:=hF (pre++b) (by simp at h⊢;omega);have p:=ih (pre++[m]) (by simp at h⊢;omega);simp only[V6,List.append_assoc,List.cons_append] at l p⊢;rw[l,p];grind
theorem ype {w:RV} (x:Nat) (f:List Nat) (j:∀c∈f,w c=0):∀b:List RV,b.length=f.length->T7 (f++[x]) (b++[w])=T7 f b*w x:=by
 induction f with
 |nil=>
  intro b h;cases b with
  |nil=>simp only[List.nil_append,T7,V6];grind
  |cons m b=>simp at h
 |cons c f ih=>intro b h;exact ymq (n:=f.length) (fun r hr=>ih (fun a ha=>j a (by simp[ha])) r hr) (j c (by simp)) b [] (by simpa using h)
inductive Spn (Ms:List RV):RV->Prop
 |row (v:RV):v∈Ms->Spn Ms v
 |lin (a b:Rat) (u v:RV):Spn Ms u->Spn Ms v->Spn Ms (fun x=>a*u x+b*v x)
theorem Spn.mono {c f:List RV} (h:∀v∈c,v∈f) {v:RV} (hv:Spn c v):Spn f v:=by
 induction hv with
 |row v hv=>exact .row v (h v hv)
 |lin a b l v _ _ j k=>exact .lin a b l v j k
def C5 (n:Nat) (f:Nat->Rat):Rat:=match n with
 |0=>0
 |n+1=>C5 n f+f n
theorem P7 {g:Nat->Rat} (h:∀b,b<n->f b=g b):C5 n f=C5 n g:=by
 induction n with
 |zero=>rfl
 |succ n ih=>rw[C5,C5,ih fun b hi=>h b og,h n og]
theorem zld (h:∀b,b<n->f b=0):C5 n f=0:=by
 induction n with
 |zero=>rfl
 |succ n ih=>rw[C5,ih fun b hi=>h b og,h n og];grind
theorem zmn {b:Nat} (hi:b<n) (h:∀j,j<n->j≠b->f j=0):C5 n f=f b:=by
 induction n with
 |zero=>omega
 |succ n ih=>
  rw[C5];rcases D b n with c|c
  ·rw[ih c fun j k l=>h j og l,h n og og];grind
  ·obtain rfl:b=n:=og;rw[zld fun j k=>h j og og];grind
theorem zoh (n:Nat) (a:Rat) (f:Nat->Rat):C5 n (fun b=>a*f b)=a*C5 n f:=by
 induction n with
 |zero=>simp only[C5];grind
 |succ n ih=>rw[C5,C5,ih];grind
theorem zro (n:Nat) (f b:Nat->Rat):C5 n (fun c=>f c+b c)=C5 n f+C5 n b:=by
 induction n with
 |zero=>simp only[C5];grind
 |succ n ih=>rw[C5,C5,C5,ih];grind
def zpa (v:RV):Prop:=∀x,∃z:Int,v x=(z:Rat)
theorem ymr {l:List RV->Rat} (hF:∀r:List RV,(∀v∈r,zpa v)->∃z:Int,l r=(z:Rat)) (c:Nat) (post:List RV):∀pre:List RV,(∀v∈pre,zpa v)->(∀v∈post,zpa v)->∃z:Int,V6 l c pre post=(z:Rat):=by
 induction post with
 |nil=>intro pre _ _;exact⟨0,rfl⟩
 |cons v post ih=>intro pre m k;obtain⟨a,ha⟩:=k v (by simp) c;obtain⟨b,p⟩:=hF (pre++post) (fun f j=>by rcases List.mem_append.1 j with h|h;exact m f h;exact k f (by simp[h]));obtain⟨n,q⟩:=ih (pre++[v]) (fun f j=>by rcases List.mem_append.1 j with h|h;exact m f h;exact k f (by simp at h;simp[h])) (fun f j=>k f (by simp[j]));refine⟨a*b-n,?_⟩;rw[V6,ha,p,q,Rat.intCast_sub,Rat.intCast_mul]
theorem ypg (b:List Nat):∀rows:List RV,(∀v∈rows,zpa v)->∃z:Int,T7 b rows=(z:Rat):=by
 induction b with
 |nil=>
  intro rows _;cases rows with
  |nil=>exact⟨1,rfl⟩
  |cons a l=>exact⟨0,rfl⟩
 |cons c b ih=>intro rows h;exact ymr ih c rows [] (fun v hv=>by cases hv) h
def zme (l:List (Rat×Rat)):Rat:=l.foldl (fun s p=>s+p.1*p.2) 0
def L2 (a b:List Rat):Rat:=zme (a.zip b)
theorem zz1357 (l:List (Rat×Rat)) (x:Rat×Rat):zme (l++[x])=zme l+x.1*x.2:=by simp[zme]
theorem yks:∀(l:List (Rat×Rat)) (s:Rat) (m:Nat),Sz s m->(∀p∈l,Sz p.1 n/\Sz p.2 n)->Sz (l.foldl (fun s p=>s+p.1*p.2) s) (m+l.length*(2*n+1))
 |[],_,_,h,_=>by simpa using h
 |p::l,s,m,h,b=>by
  have:=yks l (s+p.1*p.2) (m+(n+n)+1) (h.add ((b p (List.mem_cons_self ..)).1.mul (b p (List.mem_cons_self ..)).2)|>.le og) fun q c=>b q (List.mem_cons_of_mem _ c)
  exact this.le (by rw[List.length_cons,Nat.add_mul];omega)
theorem zz1358 {l:List (Rat×Rat)} (h:∀p∈l,Sz p.1 n/\Sz p.2 n):Sz (zme l) (1+l.length*(2*n+1)):=yks l 0 1 Sz.zero h
theorem zz1356 (l:List (Rat×Rat)):∀s:Rat,l.foldl (fun s p=>s+p.1*p.2) s=s+zme l:=by
 induction l with
 |nil=>intro s;simp only[List.foldl_nil,zme];grind
 |cons p l ih=>intro s;have b:=ih (s+p.1*p.2);have c:=ih (0+p.1*p.2);simp only[zme,List.foldl_cons] at b c⊢;rw[b,c];grind
theorem ypx (x y:Rat) (a b:List Rat):L2 (x::a) (y::b)=x*y+L2 a b:=by have h:=zz1356 (a.zip b) (0+x*y);unfold L2;rw[List.zip_cons_cons];simp only[zme,List.foldl_cons] at h⊢;rw[h];grind
theorem zz1353 (n:Nat) (f:Nat->Rat):C5 (n+1) f=f 0+C5 n fun b=>f (b+1):=by
 induction n with
 |zero=>simp only[C5];grind
 |succ n ih=>rw[C5,ih,C5];grind
theorem zwv (a:List Rat):∀b:List Rat,a.length=b.length->L2 a b=C5 a.length fun j=>a.getD j 0*b.getD j 0:=by
 induction a with
 |nil=>intro b _;rfl
 |cons x a ih=>
  intro b h;cases b with
  |nil=>simp at h
  |cons y b=>rw[ypx,ih b (by simpa using h),List.length_cons,zz1353];rfl
theorem zz1355 (n p:Nat) (f:Nat->Nat->Rat):C5 n (fun j=>C5 p fun l=>f j l)=C5 p fun l=>C5 n fun j=>f j l:=by
 induction n with
 |zero=>exact(zld fun c _=>rfl).symm
 |succ n ih=>rw[C5,ih];have b:(C5 p fun l=>C5 (n+1) fun j=>f j l)=C5 p fun l=>(C5 n fun j=>f j l)+f n l:=P7 fun l _=>rfl;rw[b,zro]
theorem ynr {d:Nat} (hd:0<d):((d:Int):Rat)≠0:=by intro a;have:(d:Int)=0:=Rat.intCast_inj.1 (by rw[a];rfl);omega
theorem ygn {w:g} (h:IsR w S v r):∃A c B d,v= .agg #[.bool r.neg,.slice A r.num.length c,.slice B r.den.length d]/\IsK .u32 w S (.slice A r.num.length c) r.num/\IsK .u32 w S (.slice B r.den.length d) r.den:=h
theorem zlc {w:g} {A:Option Addr} {m:Nat} (h:IsV w S (.slice A m c) l) (p:l[j]? =some r):
 ∃b off a k e d,A=some ⟨b,off,none⟩/\S b/\IsR w S (.agg #[.bool r.neg,.slice a r.num.length k,.slice e r.den.length d]) r/\
  w.cell? ⟨b,off+j*3,none⟩=some (.bool r.neg)/\w.cell? ⟨b,off+j*3+1,none⟩=some (.slice a r.num.length k)/\w.cell? ⟨b,off+j*3+2,none⟩=some (.slice e r.den.length d):=by
 obtain⟨b,off,q,n,o,hr,_,hc⟩:=IsS.get h og p;obtain⟨a,k,e,d,rfl,f,i⟩:=hr;refine⟨b,off,a,k,e,d,n,o,⟨a,k,e,d,rfl,f,i⟩,?_,?_,?_⟩
 ·exact hc 0 _ rfl
 ·exact hc 1 _ rfl
 ·exact hc 2 _ rfl
theorem M5 {w:g} (h:IsV w S v l):∃A c,v= .slice A l.length c/\l.length<=9223372036854775807:=by obtain⟨A,c,b,rfl,d,a,_⟩:=h;exact⟨A,c,rfl,by unfold maxLen at a;omega⟩
theorem zsm {w:g} {A:Option Addr} (h:IsM w S (.slice A n c) m) (o:m[j]? =some l):
 ∃b off a k,A=some ⟨b,off,none⟩/\S b/\IsV w S (.slice a l.length k) l/\w.cell? ⟨b,off+j,none⟩=some (.slice a l.length k):=by obtain⟨b,off,p,f,i,hr,_,hc⟩:=IsS.get h og o;obtain⟨a,k,d,rfl,e⟩:=hr;refine⟨b,off,a,k,f,i,⟨a,k,d,rfl,e⟩,?_⟩;have:=hc 0 _ rfl;rw[Nat.mul_one,Nat.add_zero] at this;exact this
theorem zqz {w:g} (h:IsM w S v m):∃A c,v= .slice A m.length c/\m.length<=9223372036854775807:=by obtain⟨A,c,b,rfl,d,a,_⟩:=h;exact⟨A,c,rfl,by unfold maxLen at a;omega⟩
theorem L7:Tryz.prog.cellsOf 37=3:=by kernel_rfl
def R3 (r:Raw):Int:=zut L8 r
def W8 (num den:List Nat):Int:=if L8 num≠0 then L8 num else if L8 den≠0 then L8 den else if den=[] then 6 else 0
theorem yec (h:W8 r.num r.den≠0):R3 r=W8 r.num r.den:=by
 unfold W8 at*;unfold R3 zut;split
 ·rfl
 ·rename_i a;rw[if_neg a] at h;split
  ·rfl
  ·rename_i b;rw[if_neg b] at h;split
   ·rfl
   ·rename_i c;rw[if_neg c] at h;exact absurd rfl h
theorem yed (h:W8 r.num r.den=0):R3 r=if(r.num=[]/\r.neg=true)\/Nat.gcd (val r.num) (val r.den)≠1 then 3 else 0:=by
 unfold W8 at h;unfold R3 zut;split at h
 ·rename_i a;exact absurd h a
 rename_i a;split at h
 ·rename_i b;exact absurd h b
 rename_i b;split at h
 ·cases h
 rename_i c;rw[if_neg a,if_neg b,if_neg c]
theorem yea {num den:List Nat} (h:W8 num den=0):L8 num=0/\L8 den=0/\den≠[]/\val den≠0:=by
 unfold W8 at h;split at h
 ·rename_i b;exact absurd h b
 rename_i b;split at h
 ·rename_i a;exact absurd h a
 rename_i a;split at h
 ·cases h
 rename_i c;have b:=Decidable.not_not.1 b;have a:=Decidable.not_not.1 a;refine⟨b,a,c,fun d=>c ?_⟩;rw[(zqu a).2.2,d,M6]
theorem zus {q:Rat} (h:Sz q 1024):R3 (D8 q)=0:=yol (yef h.1) (yef h.2)
def Y9:List Int->Int
 |[]=>0
 |e::l=>if e≠0 then e else Y9 l
theorem yfs {l:List Int} (h:∀j,j<k->l.getD j 0=0):Y9 l=Y9 (l.drop k):=by
 induction l generalizing k with
 |nil=>simp
 |cons c l ih=>
  cases k with
  |zero=>rfl
  |succ k=>have b:=h 0 og;simp at b;rw[List.drop_succ_cons,<-ih (k:=k) (fun j f=>by have:=h (j+1) og;simpa using this)];simp[Y9,b]
theorem ztj {l:List Int} {a:Int} (h:∀j,j<k->l.getD j 0=0) (b:l[k]? =some a) (c:a≠0):Y9 l=a:=by rw[yfs h];have d:k<l.length:=(List.getElem?_eq_some_iff.1 b).1;rw[List.drop_eq_getElem_cons d];have:l[k]=a:=(List.getElem?_eq_some_iff.1 b).2;rw[this];simp[Y9,c]
theorem zsk {l:List Int} (h:∀j,j<l.length->l.getD j 0=0):Y9 l=0:=by rw[yfs h,List.drop_length];rfl
def zqt (l:List Raw):Int:=Y9 (l.map R3)
def Y5 (l:List Raw):Int:=if 40<l.length then 4 else zqt l
def zlh (m:List (List Raw)):Int:=if 40<m.length then 4 else Y9 (m.map fun row=>if row.length≠(m.headD []).length then 3 else Y5 row)
theorem ydz (h:∀q∈qs,Sz q 1024):zqt (qs.map D8)=0:=by
 unfold zqt;induction qs with
 |nil=>rfl
 |cons q qs ih=>rw[List.map_cons,List.map_cons,Y9,if_neg (by simp[zus (h q (by simp))])];exact ih fun p b=>h p (by simp[b])
theorem ztg (a:qs.length<=40) (h:∀q∈qs,Sz q 1024):Y5 (qs.map D8)=0:=by unfold Y5;rw[if_neg (by simp;omega)];exact ydz h
structure Prog where
 A:List (List Raw)
 B:List Raw
 C:List Raw
def IsP (w:g) (S:Nat->Prop) (v:Value) (p:Prog):Prop:=
 ∃A a B b C c,v= .agg #[.slice A p.A.length a,.slice B p.B.length b,.slice C p.C.length c]/\IsM w S (.slice A p.A.length a) p.A/\IsV w S (.slice B p.B.length b) p.B/\IsV w S (.slice C p.C.length c) p.C
theorem IsP.stb:Stb IsP:=by rintro w w' S T v p ⟨A,a,B,b,C,c,hv,e,f,g⟩ d;exact⟨A,a,B,b,C,c,hv,IsM.stb.to e d,IsV.stb.to f d,IsV.stb.to g d⟩
theorem zxi {w:g} {a b c:Value} {p:Prog} (d:IsM w S a p.A) (e:IsV w S b p.B) (f:IsV w S c p.C):IsP w S (.agg #[a,b,c]) p:=by obtain⟨A,h,rfl,_⟩:=zqz d;obtain⟨B,i,rfl,_⟩:=M5 e;obtain⟨C,j,rfl,_⟩:=M5 f;exact⟨A,h,B,i,C,j,rfl,d,e,f⟩
def zpd (m:List (List Raw)) (b c:Nat):Int:=if m.length≠b\/(0<b/\(m.headD []).length≠c) then 10 else 0
def zzy (p:Prog):Int:=zpd p.A p.B.length p.C.length
def ztf (p:Prog):Int:=if Y9 [zlh p.A,Y5 p.B,Y5 p.C]≠0 then Y9 [zlh p.A,Y5 p.B,Y5 p.C] else zzy p
structure ProgQ where
 A:List (List Rat)
 B:List Rat
 C:List Rat
def C0 (l:List Rat):List Raw:=l.map D8
def F9 (m:List (List Rat)):List (List Raw):=m.map C0
def N2 (p:ProgQ):Prog:=⟨F9 p.A,C0 p.B,C0 p.C⟩
structure Good (p:ProgQ) (k:Nat):Prop where
 rows:p.A.length=p.B.length
 cols:∀row∈p.A,row.length=p.C.length
 szA:∀row∈p.A,∀q∈row,Sz q k
 szB:∀q∈p.B,Sz q k
 szC:∀q∈p.C,Sz q k
 nB:p.B.length<=40
 nC:p.C.length<=40
theorem yeb {q:ProgQ} (h:Good q 1024):ztf (N2 q)=0:=by
 have l:Y5 (C0 q.B)=0:=ztg h.nB h.szB;have m:Y5 (C0 q.C)=0:=ztg h.nC h.szC
 have o:∀row∈F9 q.A,row.length=((F9 q.A).headD []).length:=by
  intro row hr;obtain⟨r,b,rfl⟩:=List.mem_map.1 hr;cases e:q.A with
  |nil=>rw[e] at b;cases b
  |cons a p=>simp only[F9,List.map_cons,List.headD_cons,C0,d];rw[h.cols r b,h.cols a (by rw[e];simp)]
 have n:zlh (F9 q.A)=0:=(by unfold zlh;rw[if_neg (by simp[F9];have:=h.rows;have:=h.nB;omega)];refine zsk fun j g=> ?_;rw[d] at g;rw[List.getD_eq_getElem?_getD,List.getElem?_map,List.getElem?_eq_getElem g];have i:=List.getElem_mem g;simp only[Option.map_some,Option.getD_some];rw[if_neg (by rw[o _ i];simp)];obtain⟨r,b,f⟩:=List.mem_map.1 i;rw[<-f];exact ztg (by rw[h.cols r b];exact h.nC) (h.szA r b));unfold ztf;(have f:Y9 [zlh (N2 q).A,Y5 (N2 q).B,Y5 (N2 q).C]=0:=by show Y9 [zlh (F9 q.A),Y5 (C0 q.B),Y5 (C0 q.C)]=0;rw[n,l,m];rfl);rw[if_neg (by rw[f];simp)];unfold zzy zpd;rw[if_neg];rintro(c|⟨c,k⟩)
 ·exact c (by show(F9 q.A).length=(C0 q.B).length;simp[F9,C0,h.rows])
 ·apply k;show((F9 q.A).headD []).length=(C0 q.C).length;cases e:q.A with
  |nil=>have:=h.rows;rw[e] at this;simp at this;have c:0<(C0 q.B).length:=c;simp[C0] at c;omega
  |cons a p=>simp only[F9,List.map_cons,List.headD_cons,C0,d];exact h.cols a (by rw[e];simp)
end Go.Proofs.YtdgilbgdkmhcmaaGreatDoor
