/-
 The contract of package long's Add.
-/
import Derived.Test.YtdgilbgdkmhcmaaGreatDoorSdv05
namespace Go.Proofs.YtdgilbgdkmhcmaaGreatDoor
open Go.RowKit
set_option linter.unusedVariables false
set_option maxRecDepth 100000
set_option maxHeartbeats 8000000
open _root_.Go.Lib renaming hid → t
open _root_.Nat renaming le_refl → C, le_trans → H, lt_or_ge → G
open _root_.List renaming length_append → D, length_map → d
open _root_.Go renaming World → o, Calls → E
open _root_.Go.RowKit renaming Hid → i
open _root_.Go.Proofs.Tryz renaming prog → F
variable {S : Nat → Prop} {b c hi s j k lo lo' n : Nat} {f : Nat → Rat} {l : List Raw} {m : List (List Raw)} {p : Rat} {qs : List Rat} {r : Raw} {v e g : Value}
theorem yma {w:o} {x y:Nat} (ha:IsN w lo hi e x) (ai:IsN w lo' s g y) (aj:hi<=w.heap.size) (ak:s<=w.heap.size) (au:(A9 y).length<=(A9 x).length) (aq:(A9 x).length<=4294967296):
 E F 194 #[e,g] w fun af w'=>(∃v,af= .returned v/\IsN w' w.heap.size w'.heap.size v (x+y))/\Below w.heap.size w w':=by
 obtain⟨A,c,rfl,_,_,ag⟩:=ha;obtain⟨B,d,rfl,_,_,ah⟩:=ai;have an:i (∀k,k<(A9 x).length->pw k<=x+y):=(by intro k al;have:=yip (x:=x) (k:=k) og;omega);generalize Z:A9 x=a at*;generalize aa:A9 y=b at*;have Q:i (Lo a/\val a=x):=(by rw[i,<-Z];exact⟨L6 x,N8 x⟩);have R:i (Lo b/\val b=y):=(by rw[i,<-aa];exact⟨L6 y,N8 y⟩);clear Z aa;generalize T:w.heap.size=bs at*;have L:=t T;clear T;go_in;go_wp2_with (at_make;refine ylp (base:=bs) U0 rfl _ _ rfl (a.length+1) rfl rfl og og (oh L) ?_;intro aI ao ac W n);have V:Below bs w ao:=(by rw[<-L.out];exact W);clear W
 go_loopw [5,6,23] (fun v ae O wr=>∃(k:Nat) (f:List Nat) (q:Int),k<=a.length/\O= .int .i64 (k:Int)/\ae= .int .u32 q/\0<=q/\q<=1/\Own wr bs 115 v (C8 .u32 f)/\Below bs w wr/\
  i (f.length=k/\Lo f/\(val f:Int)+q*pw k=val (a.take k)+val (b.take k))) (fun _ _ O _=>a.length-(intOf O).toNat)
 case atStart=>exact⟨0,[],0,by omega,rfl,rfl,by omega,by omega,ac,V,rfl,zxg,by simp[val]⟩
 case round=>
  obtain⟨k,f,q,al,rfl,rfl,av,ay,m,j,hrel⟩:=hrel;have r:bs<=wr.heap.size:=(by have:=j.size;have:=L.out;omega);have ar:k<=4294967297:=og;have z:i ((C8 .u32 f).length<=4294967297):=(by rw[i,zlr,hrel.out.1];omega);clear V ac n;rcases G k a.length with M|M
  ·obtain⟨ba,oa,rfl,_,_,X⟩:=(ag.below j aj) (L8 (j:=k) M);obtain⟨p,I,aB,aC,aD⟩:=T8 (j:=k) Q.out.1 X M;clear X;rcases G k b.length with u|u
   ·obtain⟨bb,ob,rfl,_,_,Y⟩:=(ah.below j ak) (L8 (j:=k) u);obtain⟨P,ad,aE,aG,aH⟩:=T8 (j:=k) R.out.1 Y u;clear Y;rcases Int.lt_or_le 999999999 (p+q+P) with N|N
    ·go_wp2_with (at_builtin;refine zmb U0 rfl _ _ rfl rfl m rfl rfl (oh z) r ?_;intro J K h l n);go_roundw;(case rel=>rw[zls .u32 f (p+q+P-1000000000).toNat _ og] at h;exact⟨k+1,_,1,by omega,by go_num,rfl,by omega,by omega,h,j.trans l,by rw[D];simp[hrel.out.1],zmt hrel.out.2.1 og,zqs (c':=1) hrel.out.1 I.out ad.out og og hrel.out.2.2⟩);case measure=>simp[intOf];omega
    ·go_wp2_with (at_builtin;refine zmb U0 rfl _ _ rfl rfl m rfl rfl (oh z) r ?_;intro J K h l n);go_roundw;(case rel=>rw[zls .u32 f (p+q+P).toNat _ og] at h;exact⟨k+1,_,0,by omega,by go_num,rfl,by omega,by omega,h,j.trans l,by rw[D];simp[hrel.out.1],zmt hrel.out.2.1 og,zqs (c':=0) hrel.out.1 I.out ad.out og og hrel.out.2.2⟩);case measure=>simp[intOf];omega
   ·rcases Int.lt_or_le 999999999 (p+q) with N|N
    ·go_wp2_with (at_builtin;refine zmb U0 rfl _ _ rfl rfl m rfl rfl (oh z) r ?_;intro J K h l n);go_roundw;(case rel=>rw[zls .u32 f (p+q-1000000000).toNat _ og] at h;exact⟨k+1,_,1,by omega,by go_num,rfl,by omega,by omega,h,j.trans l,by rw[D];simp[hrel.out.1],zmt hrel.out.2.1 og,zqs (c':=1) hrel.out.1 I.out (show(0:Int)=_ by rw[znb u];rfl) og og hrel.out.2.2⟩);case measure=>simp[intOf];omega
    ·go_wp2_with (at_builtin;refine zmb U0 rfl _ _ rfl rfl m rfl rfl (oh z) r ?_;intro J K h l n);go_roundw;(case rel=>rw[zls .u32 f (p+q).toNat _ og] at h;exact⟨k+1,_,0,by omega,by go_num,rfl,by omega,by omega,h,j.trans l,by rw[D];simp[hrel.out.1],zmt hrel.out.2.1 og,zqs (c':=0) hrel.out.1 I.out (show(0:Int)=_ by rw[znb u];rfl) og og hrel.out.2.2⟩);case measure=>simp[intOf];omega
  ·obtain rfl:k=a.length:=og;have U:i ((val f:Int)+q*pw a.length=x+y):=(by have:=hrel.out.2.2;rw[Z7 (C _),Z7 og,Q.out.2,R.out.2] at this;unfold i;omega);rcases Int.lt_or_le 0 q with az|aA
   ·obtain rfl:q=1:=og;have hfin:i (A9 (x+y)=f++[1]):=(by have H:val (f++[1])=x+y:=(by rw[znp,hrel.out.1,zsd,zpa];have:=U.out;omega);rw[i,<-H];refine zur (zmt hrel.out.2.1 og) (.inr ?_);rw[D,hrel.out.1,znp,hrel.out.1,zsd,zpa];simp);go_wp2_with (at_builtin;refine zmb U0 rfl _ _ rfl rfl m rfl rfl (oh z) r ?_;intro J K h l n);go_ret;refine⟨⟨_,rfl,?_⟩,j.trans l⟩;unfold IsN;rw[hfin.out];rw[zls .u32 f 1 _ og] at h;exact Own.isL h
   ·obtain rfl:q=0:=og
    have hfin:i (A9 (x+y)=f):=by
     have H:val f=x+y:=oh U;rw[i,<-H];refine zur hrel.out.2.1 ?_;rcases Nat.eq_zero_or_pos a.length with S|S
     ·exact .inl (List.eq_nil_of_length_eq_zero (by rw[hrel.out.1];exact S))
     ·exact .inr (by rw[hrel.out.1,H];exact an.out _ og)
    go_wp2;go_ret;refine⟨⟨_,rfl,?_⟩,j⟩;unfold IsN;rw[hfin.out];exact Own.isL m
theorem ymb {w:o} {x y:Nat} (ha:IsN w lo hi e x) (ai:IsN w lo' s g y) (aj:hi<=w.heap.size) (ak:s<=w.heap.size) (au:(A9 x).length<(A9 y).length) (aq:(A9 y).length<=4294967296):
 E F 194 #[e,g] w fun af w'=>(∃v,af= .returned v/\IsN w' w.heap.size w'.heap.size v (x+y))/\Below w.heap.size w w':=by
 obtain⟨A,c,rfl,_,_,ag⟩:=ha;obtain⟨B,d,rfl,_,_,ah⟩:=ai;have an:i (∀k,k<(A9 y).length->pw k<=x+y):=(by intro k al;have:=yip (x:=y) (k:=k) og;omega);generalize Z:A9 x=a at*;generalize aa:A9 y=b at*;have Q:i (Lo a/\val a=x):=(by rw[i,<-Z];exact⟨L6 x,N8 x⟩);have R:i (Lo b/\val b=y):=(by rw[i,<-aa];exact⟨L6 y,N8 y⟩);clear Z aa;generalize T:w.heap.size=bs at*;have L:=t T;clear T;go_in;go_wp2_with (at_make;refine ylp (base:=bs) U0 rfl _ _ rfl (b.length+1) rfl rfl og og (oh L) ?_;intro aI ao ac W n);have V:Below bs w ao:=(by rw[<-L.out];exact W);clear W
 go_loopw [5,6,23] (fun v ae O wr=>∃(k:Nat) (f:List Nat) (q:Int),k<=b.length/\O= .int .i64 (k:Int)/\ae= .int .u32 q/\0<=q/\q<=1/\Own wr bs 115 v (C8 .u32 f)/\Below bs w wr/\
  i (f.length=k/\Lo f/\(val f:Int)+q*pw k=val (b.take k)+val (a.take k))) (fun _ _ O _=>b.length-(intOf O).toNat)
 case atStart=>exact⟨0,[],0,by omega,rfl,rfl,by omega,by omega,ac,V,rfl,zxg,by simp[val]⟩
 case round=>
  obtain⟨k,f,q,al,rfl,rfl,av,ay,m,j,hrel⟩:=hrel;have r:bs<=wr.heap.size:=(by have:=j.size;have:=L.out;omega);have ar:k<=4294967297:=og;have z:i ((C8 .u32 f).length<=4294967297):=(by rw[i,zlr,hrel.out.1];omega);clear V ac n;rcases G k b.length with M|M
  ·obtain⟨ba,oa,rfl,_,_,X⟩:=(ah.below j ak) (L8 (j:=k) M);obtain⟨p,I,aB,aC,aD⟩:=T8 (j:=k) R.out.1 X M;clear X;rcases G k a.length with u|u
   ·obtain⟨bb,ob,rfl,_,_,Y⟩:=(ag.below j aj) (L8 (j:=k) u);obtain⟨P,ad,aE,aG,aH⟩:=T8 (j:=k) Q.out.1 Y u;clear Y;rcases Int.lt_or_le 999999999 (p+q+P) with N|N
    ·go_wp2_with (at_builtin;refine zmb U0 rfl _ _ rfl rfl m rfl rfl (oh z) r ?_;intro J K h l n);go_roundw;(case rel=>rw[zls .u32 f (p+q+P-1000000000).toNat _ og] at h;exact⟨k+1,_,1,by omega,by go_num,rfl,by omega,by omega,h,j.trans l,by rw[D];simp[hrel.out.1],zmt hrel.out.2.1 og,zqs (c':=1) hrel.out.1 I.out ad.out og og hrel.out.2.2⟩);case measure=>simp[intOf];omega
    ·go_wp2_with (at_builtin;refine zmb U0 rfl _ _ rfl rfl m rfl rfl (oh z) r ?_;intro J K h l n);go_roundw;(case rel=>rw[zls .u32 f (p+q+P).toNat _ og] at h;exact⟨k+1,_,0,by omega,by go_num,rfl,by omega,by omega,h,j.trans l,by rw[D];simp[hrel.out.1],zmt hrel.out.2.1 og,zqs (c':=0) hrel.out.1 I.out ad.out og og hrel.out.2.2⟩);case measure=>simp[intOf];omega
   ·rcases Int.lt_or_le 999999999 (p+q) with N|N
    ·go_wp2_with (at_builtin;refine zmb U0 rfl _ _ rfl rfl m rfl rfl (oh z) r ?_;intro J K h l n);go_roundw;(case rel=>rw[zls .u32 f (p+q-1000000000).toNat _ og] at h;exact⟨k+1,_,1,by omega,by go_num,rfl,by omega,by omega,h,j.trans l,by rw[D];simp[hrel.out.1],zmt hrel.out.2.1 og,zqs (c':=1) hrel.out.1 I.out (show(0:Int)=_ by rw[znb u];rfl) og og hrel.out.2.2⟩);case measure=>simp[intOf];omega
    ·go_wp2_with (at_builtin;refine zmb U0 rfl _ _ rfl rfl m rfl rfl (oh z) r ?_;intro J K h l n);go_roundw;(case rel=>rw[zls .u32 f (p+q).toNat _ og] at h;exact⟨k+1,_,0,by omega,by go_num,rfl,by omega,by omega,h,j.trans l,by rw[D];simp[hrel.out.1],zmt hrel.out.2.1 og,zqs (c':=0) hrel.out.1 I.out (show(0:Int)=_ by rw[znb u];rfl) og og hrel.out.2.2⟩);case measure=>simp[intOf];omega
  ·obtain rfl:k=b.length:=og;have U:i ((val f:Int)+q*pw b.length=x+y):=(by have:=hrel.out.2.2;rw[Z7 (C _),Z7 og,R.out.2,Q.out.2] at this;unfold i;omega);rcases Int.lt_or_le 0 q with az|aA
   ·obtain rfl:q=1:=og;have hfin:i (A9 (x+y)=f++[1]):=(by have H:val (f++[1])=x+y:=(by rw[znp,hrel.out.1,zsd,zpa];have:=U.out;omega);rw[i,<-H];refine zur (zmt hrel.out.2.1 og) (.inr ?_);rw[D,hrel.out.1,znp,hrel.out.1,zsd,zpa];simp);go_wp2_with (at_builtin;refine zmb U0 rfl _ _ rfl rfl m rfl rfl (oh z) r ?_;intro J K h l n);go_ret;refine⟨⟨_,rfl,?_⟩,j.trans l⟩;unfold IsN;rw[hfin.out];rw[zls .u32 f 1 _ og] at h;exact Own.isL h
   ·obtain rfl:q=0:=og
    have hfin:i (A9 (x+y)=f):=by
     have H:val f=x+y:=oh U;rw[i,<-H];refine zur hrel.out.2.1 ?_;rcases Nat.eq_zero_or_pos b.length with S|S
     ·exact .inl (List.eq_nil_of_length_eq_zero (by rw[hrel.out.1];exact S))
     ·exact .inr (by rw[hrel.out.1,H];exact an.out _ og)
    go_wp2;go_ret;refine⟨⟨_,rfl,?_⟩,j⟩;unfold IsN;rw[hfin.out];exact Own.isL m
theorem ymc {w:o} {x y:Nat} (ha:IsN w lo hi e x) (a:IsN w lo' s g y) (b:hi<=w.heap.size) (c:s<=w.heap.size) (f:(A9 x).length<=4294967296) (i:(A9 y).length<=4294967296):
 E F 194 #[e,g] w fun d w'=>(∃v,d= .returned v/\IsN w' w.heap.size w'.heap.size v (x+y))/\Below w.heap.size w w':=by
 rcases G (A9 x).length (A9 y).length with h|h
 ·exact ymb ha a b c h i
 ·exact yma ha a b c h f
theorem zxb {w:o} (h:IsN w 0 w.heap.size v n):(A9 n).length<=9223372036854775807:=by have:=h.length_le;unfold maxLen at this;omega
theorem ygx (h:n=0):(((A9 n).length:Int)==0)=true:=by rw[h,N5];rfl
theorem ygw (h:n≠0):(((A9 n).length:Int)==0)=false:=beq_eq_false_iff_ne.2 (by have:= @lim_nil_iff n;omega)
theorem ytd (h:n≠0):0<(A9 n).length:=by have:= @lim_nil_iff n;omega
def zvr (S:Nat->Prop) (w:o) (q:Rat) (a:Ending) (w':o):Prop:=(∃v,a= .returned v/\IsQ w' S v q)/\Below w.heap.size w w'
theorem yvn {w:o} {q:Rat} (h:IsQ w S v q) (a:∀b,S b->b<w.heap.size) (N:p= -q):E F 172 #[v] w (zvr S w p):=by
 subst N;have Z:(A9 q.num.natAbs).length<=9223372036854775807:=zxb (I7 (IsK.stb.to (K6 h).choose_spec.choose_spec.choose_spec.choose_spec.choose_spec.2.2.1.out (F6 a)));obtain⟨neg,A,g,B,j,rfl,K,J,I⟩:=K6 h;have hr:=yiw q;rw[show E7 q=⟨neg,A9 q.num.natAbs,A9 q.den⟩ from by rw[K.out];rfl] at hr;clear h;obtain⟨P,aa,e,u,f,R⟩:=zko w #[.bool neg,.slice A (A9 q.num.natAbs).length g,.slice B (A9 q.den).length j] #[.bool false,.slice none 0 0,.slice none 0 0] 37 37;have r:=IsK.stb.to J.out (zpo (S:=S) e a);have n:=IsK.stb.to I.out (zpo (S:=S) e a);obtain⟨T,U,V⟩:=C5 u;obtain⟨ac,ad,ae⟩:=C5 f;obtain⟨W,X,Y⟩:=H5 f;obtain⟨m,z,y,x⟩:=X6 f e r n;clear u f e r n
 have hfin:∀s:Bool,E7 (-q)=⟨s,A9 q.num.natAbs,A9 q.den⟩->zvr S w (-q) (.returned (.agg #[.bool s,.slice A (A9 q.num.natAbs).length g,.slice B (A9 q.den).length j])) (put3 P (w.heap.size+1) (.bool s) (.slice A (A9 q.num.natAbs).length g) (.slice B (A9 q.den).length j)):=fun s O=>
  ⟨⟨_,rfl,yag O (IsK.stb.to y.out (zox fun b c=>⟨by have:=a b c;omega,c⟩)) (IsK.stb.to x.out (zox fun b c=>⟨by have:=a b c;omega,c⟩))⟩,zrb z.out og _ _ _⟩
 obtain⟨k,l,Q⟩:=G6 hfin hr a;clear hfin hr a;cases neg with
 |true=>go_in;go_wp2_with fail;refine Y6 Tryz.results172 rfl rfl (Row.put3 m.out _ _ _) (k.out false (by rw[l.out];rfl))
 |false=>go_in;go_wp2_with fail;refine Y6 Tryz.results172 rfl rfl (Row.put3 m.out _ _ _) (k.out _ ?_);rw[l.out];congr 1;rw[Bool.eq_iff_iff];have L:= @yba q;have M:= @lim_nil_iff q.num.natAbs;simp;rw[<-L,<-M];omega
theorem ysf {w w':o} {q:Rat} (h:IsQ w' (C2 w) v q) (a:Below w.heap.size w w'):IsQ w' (C2 w') v q:=IsQ.stb.to h (F6 fun b h=>Nat.lt_of_lt_of_le h a.size)
theorem zqn {w:o} {q:Rat} (h:IsQ w (C2 w) v q) (j:Sz q 100000) (f:p= -q):E F 131 #[v] w (Y0 w p):=by have m:=t h;obtain⟨neg,A,D,B,G,rfl,N,M,L⟩:=K6 h;have s:i (Sz p 100000):=(by rw[f];exact j.neg);have n:=t f;clear h j f;obtain⟨K,I,e,r,l,u⟩:=zko w #[.bool neg,.slice A (A9 q.num.natAbs).length D,.slice B (A9 q.den).length G] #[.bool false,.slice none 0 0,.slice none 0 0] 37 37;have x:=nQ m e;obtain⟨d,a,C⟩:=G6 (r) (l) (e);have J:i (w.heap.size+2<=K.heap.size):=t (Nat.le_of_eq u.out.symm);clear r l e;obtain⟨S,V,Y⟩:=C5 d.out;obtain⟨ac,af,ai⟩:=C5 a.out;obtain⟨al,aq,av⟩:=H5 a.out;go_in;go_wp2_with fail;clear I;refine(yvn x.out (fun _ h=>h) n.out).mono ?_;rintro H c ⟨⟨aH,rfl,hv⟩,g⟩;have z:=t (ysf hv g);obtain⟨aE,Q,aA,O,aC,rfl,_,_,_⟩:=K6 hv;obtain⟨T,W,Z⟩:=C5 (uR c d);obtain⟨ad,ag,aj⟩:=C5 (uR c a);obtain⟨an,ar,ay⟩:=H5 (uR c a);go_wp2_with fail;refine(yea z.out s.out).mono ?_;rintro H b ⟨⟨aI,rfl,k⟩,g⟩;have y:=t (IsQ.stb.le k (uS c J));obtain⟨aG,R,aB,P,aD,rfl,_,_,_⟩:=K6 k;obtain⟨U,X,aa⟩:=C5 (uR b d);obtain⟨ae,ah,ak⟩:=C5 (uR b a);obtain⟨ao,au,az⟩:=H5 (uR b a);go_wp2_with fail;refine Y6 Tryz.results131 rfl rfl (Row.put3 (uR b a) _ _ _) (zvd y.out (uB b C) og og)
def zld (q:Rat):Bool:=decide ((A9 q.num.natAbs).length<=1024/\(A9 q.den).length<=1024)
theorem yfj {q:Rat}:zld q=true↔Sz q 1024:=by unfold zld Sz;exact decide_eq_true_iff
theorem yrb {w:o} {q:Rat} (h:IsQ w (C2 w) v q):E F 116 #[v] w fun c w'=>c= .returned (.bool (zld q))/\Below w.heap.size w w':=by
 obtain⟨neg,A,f,B,g,rfl,e,b,a⟩:=K6 h;have j:=zxb (I7 b.out);have k:=zxb (I7 a.out);clear h;by_cases d:(A9 q.num.natAbs).length<=1024
 ·go_in;go_wp2_with fail;go_ret;refine⟨zqt ?_,(Below.refl _ _).alloc (C _) _⟩;rw[Bool.eq_iff_iff,yfj];unfold Sz;simp;omega
 ·have i:1024<(A9 q.num.natAbs).length:=og;clear d;go_in;go_wp2_with fail;go_ret;refine⟨zqt ?_,(Below.refl _ _).alloc (C _) _⟩;rw[Bool.eq_iff_iff,yfj];unfold Sz;simp;omega
theorem yoo {w:o} {x y:Nat} (ha:IsN w 0 w.heap.size e x) (f:IsN w 0 w.heap.size g y) (z:Bru w) (D:(A9 x).length<=4294967296) (H:(A9 y).length<=4294967296):
 E F 163 #[e,g] w fun a w'=>(∃b:Bool,a= .returned (.bool b)/\(b=true↔Nat.gcd x y=1))/\Below w.heap.size w w':=by
 obtain⟨m,n,l⟩:=G6 ha f z;obtain⟨A,c,rfl,_,_,_⟩:=ha;obtain⟨B,d,rfl,_,_,_⟩:=f;clear z;by_cases h:(A9 x).length<=2/\(A9 y).length<=2
 ·obtain⟨i,s⟩:=h;have r:=lim_len_le.1 i;have by_:=lim_len_le.1 s;rw[show pw 2=1000000000000000000 from by decide] at r by_;obtain⟨I,J⟩:=C4 r by_;clear r by_;obtain⟨M,C⟩:=nm (Nat.gcd x y);have u:=t C;clear C;go_in;go_wp2_with fail;refine(zqz m.out i).mono ?_;rintro a j ⟨rfl,rfl⟩;go_wp2_with fail;refine(zqz n.out s).mono ?_;rintro a j ⟨rfl,rfl⟩;go_wp2_with fail;refine(zvx x y w l.out (Nat.lt_trans I.out og) (Nat.lt_trans J.out og)).mono ?_;rw[<-u.out];rintro a j ⟨rfl,rfl⟩;go_wp2_with fail;go_ret;exact⟨⟨_,rfl,by rw[<-u.out];simp;omega⟩,Below.refl _ _⟩
 ·rcases G 2 (A9 x).length with i|i
  ·clear h;go_in;go_wp2_with fail;refine(zul m.out n.out l.out D H).mono ?_;rintro a j ⟨⟨v,rfl,hv⟩,f⟩;obtain⟨q,p⟩:=C4 hv f;obtain⟨K,k,rfl,_,_,_⟩:=hv;clear f;go_wp2_with fail;refine(zqh q.out).mono ?_;rintro a L ⟨rfl,rfl⟩;go_wp2_with fail;go_ret;exact⟨⟨_,rfl,by simp⟩,p.out⟩
  ·have s:2<(A9 y).length:=og;clear h;go_in;go_wp2_with fail;refine(zul m.out n.out l.out D H).mono ?_;rintro a j ⟨⟨v,rfl,hv⟩,f⟩;obtain⟨q,p⟩:=C4 hv f;obtain⟨K,k,rfl,_,_,_⟩:=hv;clear f;go_wp2_with fail;refine(zqh q.out).mono ?_;rintro a L ⟨rfl,rfl⟩;go_wp2_with fail;go_ret;exact⟨⟨_,rfl,by simp⟩,p.out⟩
theorem ysh {w:o} {x y:Nat} (sa sb:Bool) (ha:IsN w 0 w.heap.size e x) (a:IsN w 0 w.heap.size g y) (P:(A9 x).length<=2000000) (Q:(A9 y).length<=2000000):
 E F 176 #[.bool sa,e,.bool sb,g] w fun f w'=>(∃s v n,f= .returned (.tuple #[.bool s,v])/\i (sg s n=sg sa x+sg sb y)/\IsN w' w.heap.size w'.heap.size v n/\(A9 n).length<=2000001)/\Below w.heap.size w w':=by
 obtain⟨j,k⟩:=C4 ha a;obtain⟨A,c,rfl,_,_,_⟩:=ha;obtain⟨B,d,rfl,_,_,_⟩:=a;by_cases q:sa=sb
 ·subst q;have O:(sa==sa)=true:=(by simp);go_in;go_wp2_with fail;refine(ymc j.out k.out (C _) (C _) og og).mono ?_;rintro f M ⟨⟨v,rfl,hv⟩,a⟩;obtain⟨p,l⟩:=C4 hv a;clear hv a;go_wp2_with fail;go_ret2;exact⟨⟨_,_,_,rfl,yzd _ _ _,p.out,by have:=ykr P Q;omega⟩,l.out⟩
 ·have O:(sa==sb)=false:=(by simp[q]);have K:i (sb= !sa):=(by unfold i;cases sa<;>cases sb<;>simp at q⊢);clear q;rcases G x y with L|I
  ·have D:=t L;clear L;go_in;go_wp2_with fail;refine(zrj j.out k.out).mono ?_;rw[zqu D.out];rintro f M ⟨rfl,hd⟩;have b:=hd.below w.heap.size;obtain⟨u,z,m⟩:=G6 (IsN.next j.out b) (IsN.next k.out b) b;clear hd b;go_wp2_with fail;refine(ykn z.out u.out (C _) (C _) (Nat.le_of_lt D.out) og).mono ?_;rintro f R ⟨⟨v,rfl,hv⟩,a⟩;have p:=t (hv.wide m.out.size (C _));have l:=nB m a;clear hv a;go_wp2_with fail;go_ret2;exact⟨⟨_,_,_,rfl,by unfold i;rw[sg_sub' (Nat.le_of_lt D.out),K.out];simp,p.out,H (U1 (Nat.sub_le _ _)) og⟩,l.out⟩
  ·have J:=t I
   obtain⟨r,hr,S⟩:∃r,r=T7 x y/\0<=r:=by
    refine⟨_,rfl,?_⟩;rcases G y x with h|h
    ·rw[ztq h];omega
    ·rw[ybx (Nat.le_antisymm h I)];omega
   have N:=t hr;clear I hr;go_in;go_wp2_with fail;refine(zrj j.out k.out).mono ?_;rw[<-N.out];rintro f M ⟨rfl,hd⟩;have b:=hd.below w.heap.size;obtain⟨u,z,m⟩:=G6 (IsN.next j.out b) (IsN.next k.out b) b;clear hd b;go_wp2_with fail;refine(ykn u.out z.out (C _) (C _) J.out og).mono ?_;rintro f R ⟨⟨v,rfl,hv⟩,a⟩;have p:=t (hv.wide m.out.size (C _));have l:=nB m a;clear hv a;go_wp2_with fail;go_ret2;exact⟨⟨_,_,_,rfl,by unfold i;rw[yzg J.out,K.out],p.out,H (U1 (Nat.sub_le _ _)) og⟩,l.out⟩
theorem zz1362 (m n:Nat):Int.tmod (m:Int) (n:Int)=((m%n:Nat):Int):=rfl
theorem yft {w:o} {a:Nat} (ha:a<=4611686018427387904) (h:b<=4611686018427387904):
 E F 74 #[.int .i64 (a:Int),.int .i64 (b:Int)] w fun g w'=>g= .returned (.int .i64 ((Nat.gcd a b:Nat):Int))/\Dr w w':=by
 go_in;go_wp2_with fail;go_loopw [0,1] (fun x y wr=>∃m n:Nat,x= .int .i64 (m:Int)/\y= .int .i64 (n:Int)/\i (Nat.gcd m n=Nat.gcd a b)/\m<=4611686018427387904/\n<=4611686018427387904/\Dr w wr) (fun _ y _=>(intOf y).toNat);case atStart=>exact⟨a,b,rfl,rfl,rfl,ha,h,Dr.refl _⟩
 case round=>
  obtain⟨m,n,rfl,rfl,hg,p,j,⟨k,rfl⟩⟩:=hrel;rcases Nat.eq_zero_or_pos n with c|c
  ·have e:i (m=Nat.gcd a b):=(by rw[i,<-hg.out,c,Nat.gcd_zero_right]);have f:((n:Int) !=0)=false:=(by rw[c];rfl);have q:max (m:Int) (-(m:Int))=(m:Int):=og;subst c;go_wp2_with fail;go_ret;exact⟨by show Ending.returned (.int .i64 _)=_;rw[<-e.out],⟨k,rfl⟩⟩
  ·have f:((n:Int) !=0)=true:=bne_iff_ne.2 og;have b2:(n:Int)≠0:=og;have r:=zz1362 m n;have l:m%n<n:=Nat.mod_lt _ c;go_wp2_with fail;go_quiet (fail);go_wp2_with fail;have d:(m:Int)%(n:Int)=((m%n:Nat):Int):=rfl;go_roundw;(case rel=>exact⟨n,m%n,rfl,by rw[d],by rw[i,Nat.gcd_comm,<-Nat.gcd_rec,Nat.gcd_comm];exact hg.out,j,by omega,⟨k+nq,by simp[World.drewN,Nat.add_assoc]⟩⟩);case measure=>rw[d];simp[intOf];omega
theorem ytj (h:n≠0):A9 n=(n%1000000000)::A9 (n/1000000000):=znt h
theorem zxi {w:o} (t:n<=4611686018427387904):
 E F 75 #[.int .i64 (n:Int)] w fun p w'=>(∃v,p= .returned v/\IsN w' w.heap.size w'.heap.size v n)/\Below w.heap.size w w':=by
 have j:i ((A9 n).length<=3):=lim_len_le.2 (by have:pw 3=1000000000000000000000000000:=rfl;omega);go_in;go_wp2_with fail;go_loopw [0,3] (fun x v wr=>∃(m:Nat) (l:List Nat),x= .int .i64 (m:Int)/\m<=4611686018427387904/\Own wr w.heap.size 115 v (C8 .u32 l)/\Below w.heap.size w wr/\i (A9 n=l++A9 m)) (fun x _ _=>(intOf x).toNat);case atStart=>exact⟨n,[],rfl,t,Own.nil _ _ _,Below.refl _ _,rfl⟩
 case round=>
  obtain⟨m,l,rfl,B,f,a,c⟩:=hrel;rcases Nat.eq_zero_or_pos m with b|b
  ·have h:i (A9 n=l):=(by rw[i,c.out,b,N5,List.append_nil]);have k:¬((m:Int)>0):=og;subst b;have z:=a;go_wp2_with fail;go_ret;refine⟨⟨_,rfl,?_⟩,a⟩;have e:=f.isL;rw[<-h.out] at e;exact e
  ·have k:(m:Int)>0:=og;have y:Int.tmod (m:Int) 1000000000=((m%1000000000:Nat):Int):=rfl;have u:Int.tdiv (m:Int) 1000000000=((m/1000000000:Nat):Int):=rfl;have A:m%1000000000<1000000000:=Nat.mod_lt _ og;have s:i ((C8 .u32 l).length<=100):=(by rw[i,zlr];have:=congrArg List.length c.out;rw[D] at this;have:=j.out;omega);have q:w.heap.size<=wr.heap.size:=a.size;go_wp2_with (at_builtin;refine zmb U0 rfl _ _ rfl rfl f rfl rfl (oh s) q ?_;intro G H g r C);have d:(m:Int)/1000000000=((m/1000000000:Nat):Int):=rfl;rw[zls .u32 l (m%1000000000) _ og] at g;go_roundw;(case rel=>exact⟨m/1000000000,l++[m%1000000000],by rw[d],by omega,g,a.trans r,by rw[i,c.out,ytj og];simp⟩);case measure=>rw[d];simp[intOf];omega
def zkq (a:Int) (b:Nat):Rat:=mkRat a b
theorem yir {a:Int} (ha:a.natAbs<=4611686018427387904) (e:b<=4611686018427387904) (c:b≠0):Sz (zkq a b) 3:=by have d:pw 3=1000000000000000000000000000:=rfl;exact yks c (lim_len_le.2 og) (lim_len_le.2 og)
theorem yiq {neg:Bool} {d a:Nat} (hd:d≠0) (hg:a=Nat.gcd n d) (b:n=0->neg=false):E7 (zkq (sg neg n) d)=⟨neg,A9 (n/a),A9 (d/a)⟩:=by
 unfold zkq;subst hg;rcases Nat.eq_zero_or_pos n with h|h
 ·subst h;rw[zya,Rat.zero_mkRat,zxv,Nat.zero_div,Nat.gcd_zero_left,Nat.div_self og,N5,Y5,b rfl]
 ·exact zva og hd
theorem zxs {w:o} {a:Int} (ha:a.natAbs<=4611686018427387904) (O:b<=4611686018427387904) (s:b≠0):
 E F 21 #[.int .i64 a,.int .i64 (b:Int)] w (Y0 w (zkq a b)):=by
 obtain⟨n,S⟩:=nm (a.natAbs);obtain⟨c,hg⟩:=nm (Nat.gcd n b);have ae:0<c:=(by rw[hg];exact Nat.gcd_pos_of_pos_right _ og);have aB:n/c<=n:=Nat.div_le_self _ _;have R:b/c<=b:=Nat.div_le_self _ _;obtain⟨L,av⟩:=C4 hg s;obtain⟨V,T,P,U,M⟩:=K7 w #[.bool false,.slice none 0 0,.slice none 0 0] 37;obtain⟨N,K⟩:=C4 U P;clear U P;rcases(by omega:a<0\/0<=a) with aj|aC
 ·have ea:a= -(n:Int):=og;have ai:0<n:=og;have Q:c∣n:=(by rw[hg];exact Nat.gcd_dvd_left _ _);have ak:0<n/c:=Nat.div_pos (Nat.le_of_dvd ai Q) ae;have v:i (E7 (zkq a b)=⟨true,A9 (n/c),A9 (b/c)⟩):=(by rw[i,ea];exact yiq (neg:=true) s hg (fun h=>by omega));rw[ea] at v⊢;have ah:max (-(n:Int)) (n:Int)=(n:Int):=og;have az:Int.tdiv (-(n:Int)) (c:Int)= -((n/c:Nat):Int):=(by rw[Int.neg_tdiv];rfl);have aA: -((n/c:Nat):Int)<0:=(by have:(0:Int)<((n/c:Nat):Int):=Int.natCast_pos.2 ak;exact Int.neg_neg_of_pos this);have b2:(c:Int)≠0:=og;have H:wrap64 ((b:Int)/(c:Int))=((b/c:Nat):Int):=(by rw[show(b:Int)/(c:Int)=((b/c:Nat):Int) from rfl];(generalize b/c=q at R⊢;unfold wrap64;omega));have J:n<=4611686018427387904:=og;clear hg s S ha ea aj Q;go_in;go_wp2_with fail;clear T;refine(yft (a:=n) (b:=b) J O).mono ?_;rw[<-L.out];rintro r f ⟨rfl,hd⟩;have d:=hd.below V.heap.size;have m:=nB K d;have z:=t d.size;have A:=t (N.out.next d);clear hd d;go_wp2_with fail;go_quiet (fail);go_wp2_with fail;rw[show(n:Int)/(c:Int)=((n/c:Nat):Int) from rfl];refine(zxi (n:=n/c) og).mono ?_;rintro r ar ⟨⟨ao,rfl,k⟩,u⟩;have j:=C9 (Dr.below (⟨nq,rfl⟩:Dr f (f.drewN nq)) f.heap.size) u;have x:=nB m j;obtain⟨p,B⟩:=C4 (A.out.next j) (IsK.stb.le (zof k) (m:=w.heap.size+1) (by have I:=M.out;have af:=m.out.size;have ag:=z.out;show _<=f.heap.size;omega));obtain⟨W,al,rfl,_,_,_⟩:=id k;clear k u j;go_wp2_with fail;(try rw[H])
  refine(zxi (n:=b/c) og).mono ?_;rintro r au ⟨⟨aq,rfl,l⟩,e⟩;have y:=nB x e;obtain⟨g,G,D⟩:=G6 (p.out.next e) (IsK.stb.le (zof l) (m:=w.heap.size+1) (by have I:=p.out.lt;omega)) (IsK.stb.fresh B.out e);obtain⟨X,an,rfl,_,_,_⟩:=id l;obtain⟨d0,Y,Z⟩:=C5 g.out;obtain⟨aa,ac,ad⟩:=H5 g.out;clear l e;go_wp2_with fail;exact Y6 Tryz.results21 rfl rfl (Row.put3 g.out _ _ _) (zmw v.out y.out (C _) D.out G.out og og)
 ·have ea:a=(n:Int):=og;have v:i (E7 (zkq a b)=⟨false,A9 (n/c),A9 (b/c)⟩):=(by rw[i,ea];exact yiq (neg:=false) s hg (fun _=>rfl));subst ea;have ah:max (n:Int) (-(n:Int))=(n:Int):=og;have ay:¬((n/c:Nat):Int)<0:=Int.not_lt.2 (Int.natCast_nonneg _);have b2:(c:Int)≠0:=og;have H:wrap64 ((b:Int)/(c:Int))=((b/c:Nat):Int):=(by rw[show(b:Int)/(c:Int)=((b/c:Nat):Int) from rfl];(generalize b/c=q at R⊢;unfold wrap64;omega));have J:n<=4611686018427387904:=og;clear hg s S ha;go_in;go_wp2_with fail;clear T;refine(yft (a:=n) (b:=b) J O).mono ?_;rw[<-L.out];rintro r f ⟨rfl,hd⟩;have d:=hd.below V.heap.size;have m:=nB K d;have z:=t d.size;have A:=t (N.out.next d);clear hd d;go_wp2_with fail;go_quiet (fail);go_wp2_with fail;rw[show(n:Int)/(c:Int)=((n/c:Nat):Int) from rfl];refine(zxi (n:=n/c) og).mono ?_;rintro r ar ⟨⟨ao,rfl,k⟩,u⟩;have j:=C9 (Dr.below (⟨nq,rfl⟩:Dr f (f.drewN nq)) f.heap.size) u;have x:=nB m j;obtain⟨p,B⟩:=C4 (A.out.next j) (IsK.stb.le (zof k) (m:=w.heap.size+1) (by have I:=M.out;have af:=m.out.size;have ag:=z.out;show _<=f.heap.size;omega));obtain⟨W,al,rfl,_,_,_⟩:=id k;clear k u j;go_wp2_with fail;(try rw[H])
  refine(zxi (n:=b/c) og).mono ?_;rintro r au ⟨⟨aq,rfl,l⟩,e⟩;have y:=nB x e;obtain⟨g,G,D⟩:=G6 (p.out.next e) (IsK.stb.le (zof l) (m:=w.heap.size+1) (by have I:=p.out.lt;omega)) (IsK.stb.fresh B.out e);obtain⟨X,an,rfl,_,_,_⟩:=id l;obtain⟨d0,Y,Z⟩:=C5 g.out;obtain⟨aa,ac,ad⟩:=H5 g.out;clear l e;go_wp2_with fail;exact Y6 Tryz.results21 rfl rfl (Row.put3 g.out _ _ _) (zmw v.out y.out (C _) D.out G.out og og)
abbrev RV:=Nat->Rat
def U3 (a:List RV->Rat) (c:Nat):List RV->List RV->Rat
 |_,[]=>0
 |pre,v::post=>v c*a (pre++post)-U3 a c (pre++[v]) post
def R7:List Nat->List RV->Rat
 |[],[]=>1
 |[],_::_=>0
 |c::cs,rows=>U3 (R7 cs) c [] rows
def zyv (c:List RV->Rat):Prop:=∀(d e:List RV) (f v:RV) (a b:Rat),c (d++(fun x=>a*f x+b*v x)::e)=a*c (d++f::e)+b*c (d++v::e)
def zyt (b:List RV->Rat):Prop:=∀(c d:List RV) (a:RV),b (c++a::a::d)=0
theorem ymn {g:List RV->Rat} (h:zyv g) (c:Nat) (j v:RV) (a b:Rat) (f:List RV):∀X e:List RV,U3 g c (X++(fun x=>a*j x+b*v x)::e) f=a*U3 g c (X++j::e) f+b*U3 g c (X++v::e) f:=by
 induction f with
 |nil=>intro X e;simp only[U3];grind
 |cons q f ih=>intro X e;have k:=h X (e++f) j v a b;have l:=ih X (e++[q]);simp only[U3,List.append_assoc,List.cons_append] at k l⊢;rw[k,l];grind
theorem ymm {j:List RV->Rat} (h:zyv j) (c:Nat) (e f:List RV) (k v:RV) (a b:Rat):∀pre:List RV,U3 j c pre (e++(fun x=>a*k x+b*v x)::f)=a*U3 j c pre (e++k::f)+b*U3 j c pre (e++v::f):=by
 induction e with
 |nil=>intro pre;have g:=ymn h c k v a b f pre [];simp only[U3,List.nil_append] at g⊢;rw[g];grind
 |cons p e ih=>intro pre;have g:=h (pre++e) f k v a b;have l:=ih (pre++[p]);simp only[U3,List.append_assoc,List.cons_append] at g l⊢;rw[g,l];grind
theorem zsn (g:List Nat):zyv (R7 g):=by
 induction g with
 |nil=>intro e f j v a b;have h:∀w:RV,R7 [] (e++w::f)=0:=fun w=>(by cases e<;>rfl);rw[h,h,h];grind
 |cons c g ih=>intro e f j v a b;exact ymm ih c e f j v a b []
theorem ymi {f:List RV->Rat} (h:zyt f) (c:Nat) (e:RV) (b:List RV):∀X a:List RV,U3 f c (X++e::e::a) b=0:=by
 induction b with
 |nil=>intro X a;rfl
 |cons q b ih=>intro X a;have g:=h X (a++b) e;have j:=ih X (a++[q]);simp only[U3,List.append_assoc,List.cons_append] at g j⊢;rw[g,j];grind
theorem ymh {g:List RV->Rat} (h:zyt g) (c:Nat) (b f:List RV) (e:RV):∀pre:List RV,U3 g c pre (b++e::e::f)=0:=by
 induction b with
 |nil=>intro pre;have a:=ymi h c e f pre [];simp only[U3,List.nil_append,List.append_assoc,List.cons_append] at a⊢;rw[a];grind
 |cons p b ih=>intro pre;have a:=h (pre++b) f e;have j:=ih (pre++[p]);simp only[U3,List.append_assoc,List.cons_append] at a j⊢;rw[a,j];grind
theorem zwh (b:List Nat):zyt (R7 b):=by
 induction b with
 |nil=>intro a e f;cases a<;>rfl
 |cons c b ih=>intro a e f;exact ymh ih c a e f []
theorem yox (d:List Nat) (b c:List RV) (a v:RV):R7 d (b++a::v::c)= -R7 d (b++v::a::c):=by have g:=zwh d b c (fun x=>1*a x+1*v x);have h:=zsn d b ((fun x=>1*a x+1*v x)::c) a v 1 1;have e:=zsn d (b++[a]) c a v 1 1;have f:=zsn d (b++[v]) c a v 1 1;have i:=zwh d b c a;have j:=zwh d b c v;simp only[List.append_assoc,List.cons_append,List.nil_append] at e f;rw[g,e,f,i,j] at h;grind
theorem you (e:List Nat) (b:RV) (c R:List RV):∀a:List RV,R7 e (a++b::(R++b::c))=0:=by
 induction R with
 |nil=>intro a;exact zwh e a c b
 |cons r R ih=>intro a;have f:=yox e a (R++b::c) b r;have g:=ih (a++[r]);simp only[List.append_assoc,List.cons_append,List.nil_append] at f g⊢;rw[f,g];grind
theorem ymj {b e:List RV->Rat} {k:Rat} {w:RV} (hF:∀r:List RV,r.length=n->b (r++[w])=e r*k) (j:w c=0) (a:List RV):∀pre:List RV,pre.length+a.length=n+1->U3 b c pre (a++[w])=U3 e c pre a*k:=by
 induction a with
 |nil=>intro pre _;simp only[U3,List.nil_append,j];grind
 |cons m a ih=>intro pre h;have f:=hF (pre++a) (by simp at h⊢;omega);have g:=ih (pre++[m]) (by simp at h⊢;omega);simp only[U3,List.append_assoc,List.cons_append] at f g⊢;rw[f,g];grind
theorem yot {w:RV} (x:Nat) (e:List Nat) (f:∀c∈e,w c=0):∀b:List RV,b.length=e.length->R7 (e++[x]) (b++[w])=R7 e b*w x:=by
 induction e with
 |nil=>
  intro b h;cases b with
  |nil=>simp only[List.nil_append,R7,U3];grind
  |cons m b=>simp at h
 |cons c e ih=>intro b h;exact ymj (n:=e.length) (fun r hr=>ih (fun a ha=>f a (by simp[ha])) r hr) (f c (by simp)) b [] (by simpa using h)
inductive Spn (Ms:List RV):RV->Prop
 |row (v:RV):v∈Ms->Spn Ms v
 |lin (a b:Rat) (u v:RV):Spn Ms u->Spn Ms v->Spn Ms (fun x=>a*u x+b*v x)
theorem Spn.mono {c e:List RV} (h:∀v∈c,v∈e) {v:RV} (hv:Spn c v):Spn e v:=by
 induction hv with
 |row v hv=>exact .row v (h v hv)
 |lin a b j v _ _ f g=>exact .lin a b j v f g
def C3 (n:Nat) (f:Nat->Rat):Rat:=match n with
 |0=>0
 |n+1=>C3 n f+f n
theorem N0 {g:Nat->Rat} (h:∀a,a<n->f a=g a):C3 n f=C3 n g:=by
 induction n with
 |zero=>rfl
 |succ n ih=>rw[C3,C3,ih fun a hi=>h a og,h n og]
theorem zkl (h:∀a,a<n->f a=0):C3 n f=0:=by
 induction n with
 |zero=>rfl
 |succ n ih=>rw[C3,ih fun a hi=>h a og,h n og];grind
theorem zlz {a:Nat} (hi:a<n) (h:∀j,j<n->j≠a->f j=0):C3 n f=f a:=by
 induction n with
 |zero=>omega
 |succ n ih=>
  rw[C3];rcases G a n with b|b
  ·rw[ih b fun j c e=>h j og e,h n og og];grind
  ·obtain rfl:a=n:=og;rw[zkl fun j c=>h j og og];grind
theorem znk (n:Nat) (a:Rat) (f:Nat->Rat):C3 n (fun b=>a*f b)=a*C3 n f:=by
 induction n with
 |zero=>simp only[C3];grind
 |succ n ih=>rw[C3,C3,ih];grind
theorem zqv (n:Nat) (f a:Nat->Rat):C3 n (fun b=>f b+a b)=C3 n f+C3 n a:=by
 induction n with
 |zero=>simp only[C3];grind
 |succ n ih=>rw[C3,C3,C3,ih];grind
def zoo (v:RV):Prop:=∀x,∃z:Int,v x=(z:Rat)
theorem ymk {j:List RV->Rat} (hF:∀r:List RV,(∀v∈r,zoo v)->∃z:Int,j r=(z:Rat)) (c:Nat) (post:List RV):∀pre:List RV,(∀v∈pre,zoo v)->(∀v∈post,zoo v)->∃z:Int,U3 j c pre post=(z:Rat):=by
 induction post with
 |nil=>intro pre _ _;exact⟨0,rfl⟩
 |cons v post ih=>intro pre k g;obtain⟨a,ha⟩:=g v (by simp) c;obtain⟨b,m⟩:=hF (pre++post) (fun e f=>by rcases List.mem_append.1 f with h|h;exact k e h;exact g e (by simp[h]));obtain⟨l,n⟩:=ih (pre++[v]) (fun e f=>by rcases List.mem_append.1 f with h|h;exact k e h;exact g e (by simp at h;simp[h])) (fun e f=>g e (by simp[f]));refine⟨a*b-l,?_⟩;rw[U3,ha,m,n,Rat.intCast_sub,Rat.intCast_mul]
theorem yov (b:List Nat):∀rows:List RV,(∀v∈rows,zoo v)->∃z:Int,R7 b rows=(z:Rat):=by
 induction b with
 |nil=>
  intro rows _;cases rows with
  |nil=>exact⟨1,rfl⟩
  |cons a l=>exact⟨0,rfl⟩
 |cons c b ih=>intro rows h;exact ymk ih c rows [] (fun v hv=>by cases hv) h
def zpu (l:List (Rat×Rat)):Rat:=l.foldl (fun s p=>s+p.1*p.2) 0
def L3 (a b:List Rat):Rat:=zpu (a.zip b)
theorem yzy (l:List (Rat×Rat)):∀s:Rat,l.foldl (fun s p=>s+p.1*p.2) s=s+zpu l:=by
 induction l with
 |nil=>intro s;simp only[List.foldl_nil,zpu];grind
 |cons p l ih=>intro s;have a:=ih (s+p.1*p.2);have b:=ih (0+p.1*p.2);simp only[zpu,List.foldl_cons] at a b⊢;rw[a,b];grind
theorem ypm (x y:Rat) (a b:List Rat):L3 (x::a) (y::b)=x*y+L3 a b:=by have h:=yzy (a.zip b) (0+x*y);unfold L3;rw[List.zip_cons_cons];simp only[zpu,List.foldl_cons] at h⊢;rw[h];grind
theorem yko (n:Nat) (f:Nat->Rat):C3 (n+1) f=f 0+C3 n fun a=>f (a+1):=by
 induction n with
 |zero=>simp only[C3];grind
 |succ n ih=>rw[C3,ih,C3];grind
theorem zso (a:List Rat):∀b:List Rat,a.length=b.length->L3 a b=C3 a.length fun j=>a.getD j 0*b.getD j 0:=by
 induction a with
 |nil=>intro b _;rfl
 |cons x a ih=>
  intro b h;cases b with
  |nil=>simp at h
  |cons y b=>rw[ypm,ih b (by simpa using h),List.length_cons,yko];rfl
theorem yzx (n p:Nat) (f:Nat->Nat->Rat):C3 n (fun j=>C3 p fun l=>f j l)=C3 p fun l=>C3 n fun j=>f j l:=by
 induction n with
 |zero=>exact(zkl fun b _=>rfl).symm
 |succ n ih=>rw[C3,ih];have a:(C3 p fun l=>C3 (n+1) fun j=>f j l)=C3 p fun l=>(C3 n fun j=>f j l)+f n l:=N0 fun l _=>rfl;rw[a,zqv]
theorem ynk {d:Nat} (hd:0<d):((d:Int):Rat)≠0:=by intro a;have:(d:Int)=0:=Rat.intCast_inj.1 (by rw[a];rfl);omega
theorem ygh {w:o} (h:IsR w S v r):∃A c B d,v= .agg #[.bool r.neg,.slice A r.num.length c,.slice B r.den.length d]/\IsK .u32 w S (.slice A r.num.length c) r.num/\IsK .u32 w S (.slice B r.den.length d) r.den:=h
theorem zmd {w:o} {A:Option Addr} {m:Nat} (h:IsV w S (.slice A m c) l) (p:l[j]? =some r):
 ∃b off a k e d,A=some ⟨b,off,none⟩/\S b/\IsR w S (.agg #[.bool r.neg,.slice a r.num.length k,.slice e r.den.length d]) r/\
  w.cell? ⟨b,off+j*3,none⟩=some (.bool r.neg)/\w.cell? ⟨b,off+j*3+1,none⟩=some (.slice a r.num.length k)/\w.cell? ⟨b,off+j*3+2,none⟩=some (.slice e r.den.length d):=by
 obtain⟨b,off,q,i,n,hr,_,hc⟩:=IsS.get h og p;obtain⟨a,k,e,d,rfl,f,g⟩:=hr;refine⟨b,off,a,k,e,d,i,n,⟨a,k,e,d,rfl,f,g⟩,?_,?_,?_⟩
 ·exact hc 0 _ rfl
 ·exact hc 1 _ rfl
 ·exact hc 2 _ rfl
theorem T4 {w:o} (h:IsV w S v l):∃A c,v= .slice A l.length c/\l.length<=9223372036854775807:=by obtain⟨A,c,b,rfl,d,a,_⟩:=h;exact⟨A,c,rfl,by unfold maxLen at a;omega⟩
theorem zrp {w:o} {A:Option Addr} (h:IsM w S (.slice A n c) m) (i:m[j]? =some l):
 ∃b off a k,A=some ⟨b,off,none⟩/\S b/\IsV w S (.slice a l.length k) l/\w.cell? ⟨b,off+j,none⟩=some (.slice a l.length k):=by obtain⟨b,off,p,f,g,hr,_,hc⟩:=IsS.get h og i;obtain⟨a,k,d,rfl,e⟩:=hr;refine⟨b,off,a,k,f,g,⟨a,k,d,rfl,e⟩,?_⟩;have:=hc 0 _ rfl;rw[Nat.mul_one,Nat.add_zero] at this;exact this
theorem zsw {w:o} (h:IsM w S v m):∃A c,v= .slice A m.length c/\m.length<=9223372036854775807:=by obtain⟨A,c,b,rfl,d,a,_⟩:=h;exact⟨A,c,rfl,by unfold maxLen at a;omega⟩
theorem R4:Tryz.prog.cellsOf 37=3:=by kernel_rfl
def T3 (r:Raw):Int:=zug L9 r
def U7 (num den:List Nat):Int:=if L9 num≠0 then L9 num else if L9 den≠0 then L9 den else if den=[] then 6 else 0
theorem ydu (h:U7 r.num r.den≠0):T3 r=U7 r.num r.den:=by
 unfold U7 at*;unfold T3 zug;split
 ·rfl
 ·rename_i a;rw[if_neg a] at h;split
  ·rfl
  ·rename_i b;rw[if_neg b] at h;split
   ·rfl
   ·rename_i c;rw[if_neg c] at h;exact absurd rfl h
theorem ydv (h:U7 r.num r.den=0):T3 r=if(r.num=[]/\r.neg=true)\/Nat.gcd (val r.num) (val r.den)≠1 then 3 else 0:=by
 unfold U7 at h;unfold T3 zug;split at h
 ·rename_i a;exact absurd h a
 rename_i a;split at h
 ·rename_i b;exact absurd h b
 rename_i b;split at h
 ·cases h
 rename_i c;rw[if_neg a,if_neg b,if_neg c]
theorem yds {num den:List Nat} (h:U7 num den=0):L9 num=0/\L9 den=0/\den≠[]/\val den≠0:=by
 unfold U7 at h;split at h
 ·rename_i b;exact absurd h b
 rename_i b;split at h
 ·rename_i a;exact absurd h a
 rename_i a;split at h
 ·cases h
 rename_i c;have b:=Decidable.not_not.1 b;have a:=Decidable.not_not.1 a;refine⟨b,a,c,fun d=>c ?_⟩;rw[(zqb a).2.2,d,N5]
theorem zzi {q:Rat} (h:Sz q 1024):T3 (E7 q)=0:=yob (ydx h.1) (ydx h.2)
def X5:List Int->Int
 |[]=>0
 |e::l=>if e≠0 then e else X5 l
theorem yfr {l:List Int} (h:∀j,j<k->l.getD j 0=0):X5 l=X5 (l.drop k):=by
 induction l generalizing k with
 |nil=>simp
 |cons b l ih=>
  cases k with
  |zero=>rfl
  |succ k=>have a:=h 0 og;simp at a;rw[List.drop_succ_cons,<-ih (k:=k) (fun j c=>by have:=h (j+1) og;simpa using this)];simp[X5,a]
theorem zuk {l:List Int} {a:Int} (h:∀j,j<k->l.getD j 0=0) (b:l[k]? =some a) (c:a≠0):X5 l=a:=by rw[yfr h];have d:k<l.length:=(List.getElem?_eq_some_iff.1 b).1;rw[List.drop_eq_getElem_cons d];have:l[k]=a:=(List.getElem?_eq_some_iff.1 b).2;rw[this];simp[X5,c]
theorem zsr {l:List Int} (h:∀j,j<l.length->l.getD j 0=0):X5 l=0:=by rw[yfr h,List.drop_length];rfl
def zwc (l:List Raw):Int:=X5 (l.map T3)
def W6 (l:List Raw):Int:=if 40<l.length then 4 else zwc l
def zku (m:List (List Raw)):Int:=if 40<m.length then 4 else X5 (m.map fun row=>if row.length≠(m.headD []).length then 3 else W6 row)
theorem yny (h:∀q∈qs,Sz q 1024):zwc (qs.map E7)=0:=by
 unfold zwc;induction qs with
 |nil=>rfl
 |cons q qs ih=>rw[List.map_cons,List.map_cons,X5,if_neg (by simp[zzi (h q (by simp))])];exact ih fun p a=>h p (by simp[a])
theorem zsm (a:qs.length<=40) (h:∀q∈qs,Sz q 1024):W6 (qs.map E7)=0:=by unfold W6;rw[if_neg (by simp;omega)];exact yny h
structure Prog where
 A:List (List Raw)
 B:List Raw
 C:List Raw
def IsP (w:o) (S:Nat->Prop) (v:Value) (p:Prog):Prop:=
 ∃A a B b C c,v= .agg #[.slice A p.A.length a,.slice B p.B.length b,.slice C p.C.length c]/\IsM w S (.slice A p.A.length a) p.A/\IsV w S (.slice B p.B.length b) p.B/\IsV w S (.slice C p.C.length c) p.C
theorem IsP.stb:Stb IsP:=by rintro w w' S T v p ⟨A,a,B,b,C,c,hv,e,f,g⟩ d;exact⟨A,a,B,b,C,c,hv,IsM.stb.to e d,IsV.stb.to f d,IsV.stb.to g d⟩
theorem zsx {w:o} {a b c:Value} {p:Prog} (d:IsM w S a p.A) (e:IsV w S b p.B) (f:IsV w S c p.C):IsP w S (.agg #[a,b,c]) p:=by obtain⟨A,g,rfl,_⟩:=zsw d;obtain⟨B,h,rfl,_⟩:=T4 e;obtain⟨C,i,rfl,_⟩:=T4 f;exact⟨A,g,B,h,C,i,rfl,d,e,f⟩
def zor (m:List (List Raw)) (b c:Nat):Int:=if m.length≠b\/(0<b/\(m.headD []).length≠c) then 10 else 0
def zzh (p:Prog):Int:=zor p.A p.B.length p.C.length
def zsl (p:Prog):Int:=if X5 [zku p.A,W6 p.B,W6 p.C]≠0 then X5 [zku p.A,W6 p.B,W6 p.C] else zzh p
structure ProgQ where
 A:List (List Rat)
 B:List Rat
 C:List Rat
def C0 (l:List Rat):List Raw:=l.map E7
def E9 (m:List (List Rat)):List (List Raw):=m.map C0
def O7 (p:ProgQ):Prog:=⟨E9 p.A,C0 p.B,C0 p.C⟩
structure Good (p:ProgQ) (k:Nat):Prop where
 rows:p.A.length=p.B.length
 cols:∀row∈p.A,row.length=p.C.length
 szA:∀row∈p.A,∀q∈row,Sz q k
 szB:∀q∈p.B,Sz q k
 szC:∀q∈p.C,Sz q k
 nB:p.B.length<=40
 nC:p.C.length<=40
theorem ydt {q:ProgQ} (h:Good q 1024):zsl (O7 q)=0:=by
 have l:W6 (C0 q.B)=0:=zsm h.nB h.szB;have m:W6 (C0 q.C)=0:=zsm h.nC h.szC
 have o:∀row∈E9 q.A,row.length=((E9 q.A).headD []).length:=by
  intro row hr;obtain⟨r,b,rfl⟩:=List.mem_map.1 hr;cases e:q.A with
  |nil=>rw[e] at b;cases b
  |cons a p=>simp only[E9,List.map_cons,List.headD_cons,C0,d];rw[h.cols r b,h.cols a (by rw[e];simp)]
 have n:zku (E9 q.A)=0:=(by unfold zku;rw[if_neg (by simp[E9];have:=h.rows;have:=h.nB;omega)];refine zsr fun j g=> ?_;rw[d] at g;rw[List.getD_eq_getElem?_getD,List.getElem?_map,List.getElem?_eq_getElem g];have i:=List.getElem_mem g;simp only[Option.map_some,Option.getD_some];rw[if_neg (by rw[o _ i];simp)];obtain⟨r,b,f⟩:=List.mem_map.1 i;rw[<-f];exact zsm (by rw[h.cols r b];exact h.nC) (h.szA r b));unfold zsl;(have f:X5 [zku (O7 q).A,W6 (O7 q).B,W6 (O7 q).C]=0:=by show X5 [zku (E9 q.A),W6 (C0 q.B),W6 (C0 q.C)]=0;rw[n,l,m];rfl);rw[if_neg (by rw[f];simp)];unfold zzh zor;rw[if_neg];rintro(c|⟨c,k⟩)
 ·exact c (by show(E9 q.A).length=(C0 q.B).length;simp[E9,C0,h.rows])
 ·apply k;show((E9 q.A).headD []).length=(C0 q.C).length;cases e:q.A with
  |nil=>have:=h.rows;rw[e] at this;simp at this;have c:0<(C0 q.B).length:=c;simp[C0] at c;omega
  |cons a p=>simp only[E9,List.map_cons,List.headD_cons,C0,d];exact h.cols a (by rw[e];simp)
end Go.Proofs.YtdgilbgdkmhcmaaGreatDoor
